import PyProof.Rows.All
import Wide.All
import OpenK.AllK
import Wide.FinOn
import HandS.ForMost
import HandS.Wide
import HandS.WideBits
import HandS.Style
import HandS.SortInts
import HandS.Sort
import HandS.SetFor
import HandS.Codes
import HandS.IsInst
import PyProof.Rows.RuleB_pow
import PyProof.Rows.StrMul
import PyProof.StrBlock2
import HandS.ExcField
import HandS.ExcInit
import HandS.ExcOwn
import HandS.ExcIs
import HandS.RaiseMore
import KE.KExcIs
import PyProof.ReprRoads
import KE.IntTextLaws
import HandS.Text
import HandS.StrMore
import HandS.More
import HandS.Replace
import Wide.Txt
import HandS.Iter
import KE.GoesMore
import HandS.Zip
import HandS.Flow
import HandS.Comp
import HandS.Exc
import HandS.CallSlots
import HandS.Dict
import HandS.Conv
import KE.KRevSl
import PyProof.SliceStr2
import HandS.Small
import HandS.Ends
import HandS.EndBits
import HandS.Defaults
import HandS.Words
import PySem.Challenge.RW_beatsround_k85_whole_texts_of_tone_rows
set_option Elab.async false
set_option linter.all false
set_option maxRecDepth 100000
section
/-! A small Python of our own: values are trees, what is changed later is a cell of a store. -/
namespace Mp

inductive BT where
  | int | bool | str | list | tuple | dict
  deriving DecidableEq

inductive DK where
  | i (n : Int) | s (x : List Nat)
  deriving DecidableEq

inductive D where
  | non | bl (b : Bool) | int (i : Int) | str (s : List Nat)
  | tup (xs : List D) | lst (xs : List D) | slst (xs : List D)
  | dct (kvs : List (DK × D))
  | exn (c : Nat) (v : D)
  | bty (t : BT) | cls (c : Nat)
  | ref (l : Nat)

inductive O where
  | lst (xs : List D) | dct (kvs : List (DK × D)) | ins (c : Nat) (fs : List (Nat × D)) | dead

/-! ### equality of values as trees -/
mutual
def D.eqb : D → D → Bool
  | .non, .non => true
  | .bl a, .bl b => a == b
  | .int a, .int b => decide (a = b)
  | .str a, .str b => decide (a = b)
  | .tup a, .tup b => eqbL a b
  | .lst a, .lst b => eqbL a b
  | .slst a, .slst b => eqbL a b
  | .dct a, .dct b => eqbK a b
  | .exn c v, .exn d w => decide (c = d) && D.eqb v w
  | .bty a, .bty b => decide (a = b)
  | .cls a, .cls b => decide (a = b)
  | .ref a, .ref b => decide (a = b)
  | _, _ => false
def eqbL : List D → List D → Bool
  | [], [] => true
  | x :: xs, y :: ys => D.eqb x y && eqbL xs ys
  | _, _ => false
def eqbK : List (DK × D) → List (DK × D) → Bool
  | [], [] => true
  | (k, x) :: xs, (j, y) :: ys => decide (k = j) && (D.eqb x y && eqbK xs ys)
  | _, _ => false
end

mutual
theorem D.eqb_refl : ∀ a : D, D.eqb a a = true
  | .non => by simp [D.eqb]
  | .bl a => by simp [D.eqb]
  | .int a => by simp [D.eqb]
  | .str a => by simp [D.eqb]
  | .tup a => by simp [D.eqb, eqbL_refl a]
  | .lst a => by simp [D.eqb, eqbL_refl a]
  | .slst a => by simp [D.eqb, eqbL_refl a]
  | .dct a => by simp [D.eqb, eqbK_refl a]
  | .exn c v => by simp [D.eqb, D.eqb_refl v]
  | .bty a => by simp [D.eqb]
  | .cls a => by simp [D.eqb]
  | .ref a => by simp [D.eqb]
theorem eqbL_refl : ∀ a : List D, eqbL a a = true
  | [] => by simp [eqbL]
  | x :: xs => by simp [eqbL, D.eqb_refl x, eqbL_refl xs]
theorem eqbK_refl : ∀ a : List (DK × D), eqbK a a = true
  | [] => by simp [eqbK]
  | (k, x) :: xs => by simp [eqbK, D.eqb_refl x, eqbK_refl xs]
end
mutual
theorem D.eq_of_eqb : ∀ a b : D, D.eqb a b = true → a = b
  | .non, b, h => by cases b <;> simp [D.eqb] at h ⊢
  | .bl a, b, h => by cases b <;> simp [D.eqb] at h ⊢; exact h
  | .int a, b, h => by cases b <;> simp [D.eqb] at h ⊢; exact h
  | .str a, b, h => by cases b <;> simp [D.eqb] at h ⊢; exact h
  | .tup a, b, h => by cases b <;> simp [D.eqb] at h ⊢; exact eqL_of_eqb _ _ h
  | .lst a, b, h => by cases b <;> simp [D.eqb] at h ⊢; exact eqL_of_eqb _ _ h
  | .slst a, b, h => by cases b <;> simp [D.eqb] at h ⊢; exact eqL_of_eqb _ _ h
  | .dct a, b, h => by cases b <;> simp [D.eqb] at h ⊢; exact eqK_of_eqb _ _ h
  | .exn c v, b, h => by cases b <;> simp [D.eqb] at h ⊢; exact ⟨h.1, D.eq_of_eqb _ _ h.2⟩
  | .bty a, b, h => by cases b <;> simp [D.eqb] at h ⊢; exact h
  | .cls a, b, h => by cases b <;> simp [D.eqb] at h ⊢; exact h
  | .ref a, b, h => by cases b <;> simp [D.eqb] at h ⊢; exact h
theorem eqL_of_eqb : ∀ a b : List D, eqbL a b = true → a = b
  | [], b, h => by cases b <;> simp [eqbL] at h ⊢
  | x :: xs, b, h => by
    cases b with
    | nil => simp [eqbL] at h
    | cons y ys =>
      simp [eqbL] at h
      rw [D.eq_of_eqb _ _ h.1, eqL_of_eqb _ _ h.2]
theorem eqK_of_eqb : ∀ a b : List (DK × D), eqbK a b = true → a = b
  | [], b, h => by cases b <;> simp [eqbK] at h ⊢
  | (k, x) :: xs, b, h => by
    cases b with
    | nil => simp [eqbK] at h
    | cons y ys =>
      obtain ⟨j, y⟩ := y
      simp [eqbK] at h
      rw [h.1, D.eq_of_eqb _ _ h.2.1, eqK_of_eqb _ _ h.2.2]
end
theorem D.eqb_iff (a b : D) : D.eqb a b = true ↔ a = b := ⟨D.eq_of_eqb a b, fun h => h ▸ D.eqb_refl a⟩
instance : DecidableEq D := fun a b => decidable_of_iff _ (D.eqb_iff a b)

def O.eqb : O → O → Bool
  | .lst a, .lst b => eqbL a b
  | .dct a, .dct b => eqbK a b
  | .ins c a, .ins d b => decide (c = d) && decide (a = b)
  | .dead, .dead => true
  | _, _ => false
theorem O.eqb_iff (a b : O) : O.eqb a b = true ↔ a = b := by
  constructor
  · intro h
    cases a <;> cases b <;> simp [O.eqb] at h ⊢
    · exact eqL_of_eqb _ _ h
    · exact eqK_of_eqb _ _ h
    · exact h
  · intro h
    subst h
    cases a <;> simp [O.eqb, eqbL_refl, eqbK_refl]
instance : DecidableEq O := fun a b => decidable_of_iff _ (O.eqb_iff a b)

abbrev Env := List (Option D)
abbrev Store := List O
inductive Res (α : Type) where
  | ok (a : α) (S : Store) | exc (c : Nat) (v : D) (S : Store) | stuck
def Res.bind {α β : Type} (r : Res α) (k : α → Store → Res β) : Res β := match r with
  | .ok a S => k a S
  | .exc c v S => .exc c v S
  | .stuck => .stuck
@[simp] theorem Res.bind_ok {α β : Type} (a : α) (S : Store) (k : α → Store → Res β) : (Res.ok a S).bind k = k a S := by rw [Res.bind]
@[simp] theorem Res.bind_exc {α β : Type} (c : Nat) (v : D) (S : Store) (k : α → Store → Res β) : (Res.exc c v S : Res α).bind k = .exc c v S := by rw [Res.bind]
@[simp] theorem Res.bind_stuck {α β : Type} (k : α → Store → Res β) : (Res.stuck : Res α).bind k = .stuck := by rw [Res.bind]
inductive CR where
  | ret (d : D) (S : Store) | exc (c : Nat) (v : D) (S : Store) | stuck
inductive SR where
  | nx (e : Env) (S : Store) | rt (d : D) (S : Store) | bk (e : Env) (S : Store) | ct (e : Env) (S : Store) | exc (c : Nat) (v : D) (e : Env) (S : Store) | stuck

/-! ### the codes -/
inductive BOp where
  | add | sub | mul | fdiv | mod | pow
  deriving DecidableEq
inductive COp where
  | eq | ne | lt | le | gt | ge | is_ | isnot | in_ | notin
  deriving DecidableEq
inductive BI where
  | isinst | len | max | min | sum | all | any | int | str | list | tuple | sorted | repr | dict | abs
  deriving DecidableEq
inductive MI where
  | append | insert | extend | pop | index | count | join | split | find | bitlen | get | sindex | lstrip
  deriving DecidableEq
inductive Tg where
  | n (i : Nat) | ns (is : List Nat)

mutual
inductive Cd where
  | c (d : D) | v (i : Nat)
  | bin (m : Bool) (op : BOp) (a b : Cd) | neg (a : Cd)
  | not_ (a : Cd) | and_ (a b : Cd) | or_ (a b : Cd) | ite (c a b : Cd)
  | cmp (op : COp) (a b : Cd) | chain (op op' : COp) (a b c : Cd)
  | tup (es : Cds) | lst (m : Bool) (es : Cds) | dct (m : Bool) (ks vs : Cds)
  | call (f : Nat) (es : Cds) (dv : List D) | callk (f : Nat) (es ks : Cds) (perm : List Nat) (dv : List D)
  | bi (m : Bool) (b : BI) (es : Cds) | mt (m : MI) (o : Cd) (es : Cds)
  | ix (a b : Cd) | sl (m : Bool) (a : Cd) (lo hi : Cdo) | rev (m : Bool) (a : Cd)
  | comp (m : Bool) (elt : Cd) (tg : Tg) (it : It) (ifs : Cdo) (own : List Nat)
  | fld (o : Cd) (f : Nat) | frz (a : Cd) | lrg (m : Bool) (es : Cds)
  | frzd (a : Cd) | bad
inductive Cdo where
  | no | so (a : Cd)
inductive Cds where
  | nil | cons (a : Cd) (r : Cds)
inductive It where
  | seq (a : Cd) | str (a : Cd) | rng1 (a : Cd) | rng2 (a b : Cd) | rng3 (a b c : Cd) | enL (a : Cd) | enS (a : Cd) | zip (a b : Cd) | keys (a : Cd) | items (a : Cd)
end
mutual
inductive Sm where
  | asg (t : Tg) (e : Cd) | par (is : List Nat) (es : Cds) | sti (o i e : Cd) | stf (o : Cd) (f : Nat) (e : Cd)
  | ex (e : Cd) | ret (e : Cd) | retN | ife (c : Cd) (a b : Sms) | for_ (t : Tg) (it : It) (body : Sms) | whl (c : Cd) (body : Sms)
  | raise (c : Nat) (e : Cd) | try_ (body : Sms) (c i : Nat) (suite : Sms) | pass | brk | cont
  | sti2 (o i o' i' e : Cd) | badS
inductive Sms where
  | nil | cons (a : Sm) (r : Sms)
end

/-! ### values -/
def lim : Nat := 16777216
/-- a list that may be read -/
def asL (S : Store) : D → Option (List D)
  | .lst xs => some xs
  | .slst xs => some xs
  | .ref l => match S[l]? with
    | some (.lst xs) => some xs
    | _ => none
  | _ => none
/-- .. not the script's -/
def asM (S : Store) : D → Option (List D)
  | .lst xs => some xs
  | .ref l => match S[l]? with
    | some (.lst xs) => some xs
    | _ => none
  | _ => none
def asK (S : Store) : D → Option (List (DK × D))
  | .dct xs => some xs
  | .ref l => match S[l]? with
    | some (.dct xs) => some xs
    | _ => none
  | _ => none
/-- a list or a tuple -/
def asQ (S : Store) : D → Option (List D)
  | .tup xs => some xs
  | d => asL S d
def alloc (m : Bool) (xs : List D) (S : Store) : Res D := if m then .ok (.ref S.length) (S ++ [.lst xs]) else .ok (.lst xs) S
def allocK (m : Bool) (xs : List (DK × D)) (S : Store) : Res D := if m then .ok (.ref S.length) (S ++ [.dct xs]) else .ok (.dct xs) S
def truth (S : Store) : D → Option Bool
  | .non => some false
  | .bl b => some b
  | .int i => some (i != 0)
  | .str s => if s.length ≤ lim then some (!s.isEmpty) else none
  | .tup xs => some (!xs.isEmpty)
  | .lst xs => some (!xs.isEmpty)
  | .slst xs => some (!xs.isEmpty)
  | .ref l => match S[l]? with
    | some (.lst xs) => some (!xs.isEmpty)
    | some (.dct xs) => some (!xs.isEmpty)
    | _ => none
  | _ => none
/-- None, bools, intsD, texts -/
def flat : D → Bool
  | .non => true
  | .bl _ => true
  | .int _ => true
  | .str _ => true
  | _ => false
def b2i (b : Bool) : Int := if b then 1 else 0
/-- == of flat values -/
def eqf : D → D → Bool
  | .non, .non => true
  | .bl a, .bl b => a == b
  | .bl a, .int b => decide (b2i a = b)
  | .int a, .bl b => decide (a = b2i b)
  | .int a, .int b => decide (a = b)
  | .str a, .str b => decide (a = b)
  | _, _ => false
/-- a value with its cells' contents, n deep; None, bools, intsD, texts, lists and tuples alone -/
def res (S : Store) : Nat → D → Option D
  | 0, _ => none
  | n + 1, d => match d with
    | .non => some .non
    | .bl b => some (.bl b)
    | .int i => some (.int i)
    | .str s => if s.all (· < 1114112) then some (.str s) else none
    | .tup xs => (xs.mapM (res S n)).map .tup
    | .lst xs => (xs.mapM (res S n)).map .lst
    | .slst xs => (xs.mapM (res S n)).map .lst
    | .ref l => match S[l]? with
      | some (.lst xs) => (xs.mapM (res S n)).map .lst
      | _ => none
    | _ => none
mutual
/-- == of such trees -/
def eqv : D → D → Bool
  | .tup a, .tup b => eqvL a b
  | .lst a, .lst b => eqvL a b
  | a, b => eqf a b
def eqvL : List D → List D → Bool
  | [], [] => true
  | x :: xs, y :: ys => eqv x y && eqvL xs ys
  | _, _ => false
end
/-- ==: flat ones at once, else trees -/
def eqTop (S : Store) (x y : D) : Option Bool :=
  if flat x && flat y then (match x, y with
    | .bl _, .int _ => none
    | .int _, .bl _ => none
    | _, _ => some (eqf x y))
  else match res S 60 x, res S 60 y with
    | some a, some b => some (eqv a b)
    | _, _ => none
def ltL (a b : List Nat) : Bool := match a, b with
  | _, [] => false
  | [], _ :: _ => true
  | x :: xs, y :: ys => if x < y then true else if y < x then false else ltL xs ys
def mulOk (i j : Int) : Bool := decide (i.natAbs < 2 ^ 64) || decide (j.natAbs < 2 ^ 64) || decide (i.natAbs.log2 + j.natAbs.log2 < 1000000)
def powOk (i j : Int) : Bool := decide (0 ≤ j) && (decide (j ≤ 1000000) && decide (i.natAbs < 2 ^ 64) || decide (((i.natAbs.log2 : Int) + 1) * j ≤ 134217728))
def binop (m : Bool) (op : BOp) (x y : D) (S : Store) : Res D := match op, x, y with
  | .add, .int i, .int j => .ok (.int (i + j)) S
  | .add, .int i, .bl j => .ok (.int (i + b2i j)) S
  | .add, .str a, .str b => if a.length + b.length ≤ lim then .ok (.str (a ++ b)) S else .stuck
  | .sub, .int i, .int j => .ok (.int (i - j)) S
  | .mul, .int i, .int j => if mulOk i j then .ok (.int (i * j)) S else .stuck
  | .fdiv, .int i, .int j => if 0 < j ∧ j.natAbs.log2 < 9000 then .ok (.int (i / j)) S else .stuck
  | .mod, .int i, .int j => if 0 < j then .ok (.int (i % j)) S else .stuck
  | .pow, .int i, .int j => if powOk i j then .ok (.int (i ^ j.toNat)) S else .stuck
  | .mul, .str a, .int k => if -(2 ^ 63) ≤ k ∧ k ≤ 1048576 ∧ a.length ≤ 16 then .ok (.str (List.replicate k.toNat a).flatten) S else .stuck
  | .add, x, y => match asM S x, asM S y with
    | some a, some b => if a.length + b.length ≤ lim then alloc m (a ++ b) S else .stuck
    | _, _ => .stuck
  | .mul, x, .int k => match asM S x with
    | some a => if -(2 ^ 63) ≤ k ∧ k < 2 ^ 63 ∧ a.length * k.toNat ≤ lim then alloc m (List.replicate k.toNat a).flatten S else .stuck
    | none => .stuck
  | _, _, _ => .stuck
def kOf : D → Option DK
  | .int i => some (.i i)
  | .str s => some (.s s)
  | _ => none
def dOf : DK → D
  | .i n => .int n
  | .s x => .str x
def getK (kvs : List (DK × D)) (k : DK) : Option D := (kvs.find? fun kv => decide (kv.1 = k)).map (·.2)
def putK (kvs : List (DK × D)) (k : DK) (v : D) : List (DK × D) :=
  if (kvs.any fun kv => decide (kv.1 = k)) = true then kvs.map (fun kv => if kv.1 = k then (kv.1, v) else kv) else kvs ++ [(k, v)]
def isIn (S : Store) (x y : D) : Option Bool := match y with
  | .str t => match x with
    | .str [c] => some (decide (c ∈ t))
    | _ => none
  | _ => match asK S y with
    | some kvs => (kOf x).map fun k => (getK kvs k).isSome
    | none => match asQ S y with
      | some xs => if flat x && xs.all flat then some (xs.any fun z => eqf z x) else none
      | none => none
def cmpop (op : COp) (x y : D) (S : Store) : Option Bool := match op with
  | .eq => eqTop S x y
  | .ne => (eqTop S x y).map (!·)
  | .lt => match x, y with
    | .int i, .int j => some (decide (i < j))
    | .str a, .str b => some (ltL a b)
    | _, _ => none
  | .le => match x, y with
    | .int i, .int j => some (decide (i ≤ j))
    | .str a, .str b => some (!ltL b a)
    | _, _ => none
  | .gt => match x, y with
    | .int i, .int j => some (decide (j < i))
    | .str a, .str b => some (ltL b a)
    | _, _ => none
  | .ge => match x, y with
    | .int i, .int j => some (decide (j ≤ i))
    | .str a, .str b => some (!ltL a b)
    | _, _ => none
  | .is_ => match y with
    | .non => some (match x with | .non => true | _ => false)
    | _ => none
  | .isnot => match y with
    | .non => some (match x with | .non => false | _ => true)
    | _ => none
  | .in_ => isIn S x y
  | .notin => (isIn S x y).map (!·)
/-- the place that an index of any sign means -/
def ixN (n : Nat) (i : Int) : Option Nat := if 0 ≤ i then (if i < n then some i.toNat else none) else if -(n : Int) ≤ i then some (i + n).toNat else none
def atI {α : Type} (xs : List α) (i : Int) : Option α := (ixN xs.length i).bind fun j => xs[j]?
def ixop (x i : D) (S : Store) : Option D := match x with
  | .str t => match i with
    | .int k => if t.length ≤ lim then (atI t k).map fun c => .str [c] else none
    | _ => none
  | _ => match asK S x with
    | some kvs => (kOf i).bind fun k => getK kvs k
    | none => match asQ S x, i with
      | some xs, .int k => atI xs k
      | _, _ => none
/-- a slice's bound as a place among n -/
def sIx (n d : Nat) : Option Int → Nat
  | none => d
  | some v => if v < 0 then (v + (n : Int)).toNat else min v.toNat n
def cut {α : Type} (xs : List α) (lo hi : Option Int) : List α := (xs.drop (sIx xs.length 0 lo)).take (sIx xs.length xs.length hi - sIx xs.length 0 lo)
def slop (m : Bool) (x : D) (lo hi : Option Int) (S : Store) : Res D := match x with
  | .str t => if t.length ≤ lim then .ok (.str (cut t lo hi)) S else .stuck
  | .tup _ => .stuck
  | _ => match asL S x with
    | some xs => alloc m (cut xs lo hi) S
    | none => .stuck
def revop (m : Bool) (x : D) (S : Store) : Res D := match x with
  | .str t => if t.length ≤ lim then .ok (.str t.reverse) S else .stuck
  | .tup _ => .stuck
  | _ => match asL S x with
    | some xs => alloc m xs.reverse S
    | none => .stuck

/-! ### texts of numbers -/
def digs (n : Nat) : List Nat := (Nat.toDigits 10 n).map Char.toNat
def strI (i : Int) : List Nat := if i < 0 then 45 :: digs i.natAbs else digs i.natAbs
/-- the number that a text of plain digits tells (a minus ahead, perhaps) -/
def valD (s : List Nat) : Nat := s.foldl (fun a c => a * 10 + (c - 48)) 0
def isDig (s : List Nat) : Bool := !s.isEmpty && s.all fun c => decide (48 ≤ c) && decide (c ≤ 57)
def intS (s : List Nat) : Option Int := match s with
  | 45 :: r => if isDig r then some (-(valD r : Int)) else none
  | _ => if isDig s then some (valD s) else none
def joinS (y : List Nat) : List (List Nat) → List Nat
  | [] => []
  | [p] => p
  | p :: q :: r => p ++ (y ++ joinS y (q :: r))
/-- cut at each sign c -/
def splitC (c : Nat) : List Nat → List (List Nat)
  | [] => [[]]
  | d :: r => if d = c then [] :: splitC c r else match splitC c r with
    | [] => [[d]]
    | p :: ps => (d :: p) :: ps
def strsD : List D → Option (List (List Nat))
  | [] => some []
  | .str s :: r => (strsD r).map (s :: ·)
  | _ :: _ => none
def intsD : List D → Option (List Int)
  | [] => some []
  | .int i :: r => (intsD r).map (i :: ·)
  | _ :: _ => none
def bools : List D → Option (List Bool)
  | [] => some []
  | .bl i :: r => (bools r).map (i :: ·)
  | _ :: _ => none
def insI (x : Int) : List Int → List Int
  | [] => [x]
  | y :: r => if x ≤ y then x :: y :: r else y :: insI x r
def sortI : List Int → List Int
  | [] => []
  | x :: r => insI x (sortI r)
def insS (x : List Nat) : List (List Nat) → List (List Nat)
  | [] => [x]
  | y :: r => if ltL y x then y :: insS x r else x :: y :: r
def sortS : List (List Nat) → List (List Nat)
  | [] => []
  | x :: r => insS x (sortS r)
def maxI : List Int → Option Int
  | [] => none
  | x :: r => some (r.foldl (fun a b => if b > a then b else a) x)
def minI : List Int → Option Int
  | [] => none
  | x :: r => some (r.foldl (fun a b => if b < a then b else a) x)
def rangeD (lo : Int) (n : Nat) : List D := (List.range n).map fun k => .int (lo + (k : Nat))

def rangeC (lo c : Int) (n : Nat) : List D := (List.range n).map fun k => .int (lo + (k : Nat) * c)
def rszC (a b c : Int) : Nat := (if c > 0 then (if a < b then (b - a - 1) / c + 1 else 0) else (if a > b then (a - b - 1) / (-c) + 1 else 0)).toNat
def small62 (i : Int) : Bool := decide (-(2 ^ 62) ≤ i) && decide (i < 2 ^ 62)
/-- a range's start, step, number of items -/
def rngA : List D → Option (Int × Int × Nat)
  | [.int j] => if small62 j then some (0, 1, j.toNat) else none
  | [.int i, .int j] => if small62 i && small62 j then some (i, 1, (j - i).toNat) else none
  | [.int i, .int j, .int c] => if c ≠ 0 ∧ c.natAbs < 1073741824 ∧ small62 i = true ∧ small62 j = true ∧ small62 (rszC i j c) = true ∧ small62 (i + (rszC i j c : Nat) * c) = true then some (i, c, rszC i j c) else none
  | _ => none

/-! ### what an object is -/
inductive Ty where
  | non | bl | int | str | lst | tup | dct | ex (c : Nat)
  deriving DecidableEq
def tyOf (S : Store) : D → Option Ty
  | .non => some .non
  | .bl _ => some .bl
  | .int _ => some .int
  | .str _ => some .str
  | .lst _ => some .lst
  | .slst _ => some .lst
  | .tup _ => some .tup
  | .dct _ => some .dct
  | .exn c _ => some (.ex c)
  | .ref l => match S[l]? with
    | some (.lst _) => some .lst
    | some (.dct _) => some .dct
    | _ => none
  | _ => none
def isB : Ty → BT → Bool
  | .bl, .bool => true
  | .bl, .int => true
  | .int, .int => true
  | .str, .str => true
  | .lst, .list => true
  | .tup, .tuple => true
  | .dct, .dict => true
  | _, _ => false
/-- the classes: which is below which -/
structure Gt where
  sub : Nat → Nat → Option Bool
/-- one class -/
def is1 (g : Gt) (t : Ty) : D → Option Bool
  | .bty b => match t with
    | .ex _ => none
    | _ => some (isB t b)
  | .cls n => match t with
    | .ex c => g.sub c n
    | _ => none
  | _ => none
def isAny (g : Gt) (t : Ty) : List D → Option Bool
  | [] => some false
  | c :: r => (is1 g t c).bind fun b => if b then some true else isAny g t r

def one (o : Option D) (S : Store) : Res D := match o with
  | some d => .ok d S
  | none => .stuck
@[simp] theorem one_some (d : D) (S : Store) : one (some d) S = .ok d S := by rw [one]
@[simp] theorem one_none (S : Store) : one none S = .stuck := by rw [one]
def oneB (o : Option Bool) (S : Store) : Res D := match o with
  | some d => .ok (.bl d) S
  | none => .stuck
@[simp] theorem oneB_some (d : Bool) (S : Store) : oneB (some d) S = .ok (.bl d) S := by rw [oneB]
@[simp] theorem oneB_none (S : Store) : oneB none S = .stuck := by rw [oneB]

/-! ### repr -/
def hexD (n : Nat) : Nat := if n < 10 then 48 + n else 87 + n
/-- one sign within quotes q (plain signs, tabs, line ends alone) -/
def repC (q c : Nat) : Option (List Nat) :=
  if c = 92 then some [92, 92] else if c = q then some [92, q] else if c = 10 then some [92, 110] else if c = 9 then some [92, 116]
  else if 32 ≤ c ∧ c < 127 then some [c] else none
def repS (s : List Nat) : Option (List Nat) :=
  let q := if decide (39 ∈ s) && !decide (34 ∈ s) then 34 else 39
  ((s.mapM (repC q)).map fun r => q :: (r.flatten ++ [q]))
def repD : Nat → D → Option (List Nat)
  | 0, _ => none
  | n + 1, d => match d with
    | .non => some [78, 111, 110, 101]
    | .bl true => some [84, 114, 117, 101]
    | .bl false => some [70, 97, 108, 115, 101]
    | .int i => some (strI i)
    | .str s => repS s
    | .lst xs => (xs.mapM (repD n)).map fun r => 91 :: (joinS [44, 32] r ++ [93])
    | .tup [x] => (repD n x).map fun r => 40 :: (r ++ [44, 41])
    | .tup xs => (xs.mapM (repD n)).map fun r => 40 :: (joinS [44, 32] r ++ [41])
    | _ => none

/-! ### built-in functions and methods -/
def biIsinst (g : Gt) (args : List D) (S : Store) : Res D := match args with
  | [x, .tup (c :: cs)] => match tyOf S x with
    | some t => oneB (isAny g t (c :: cs)) S
    | none => .stuck
  | [x, c] => match tyOf S x with
    | some t => oneB (is1 g t c) S
    | none => .stuck
  | _ => .stuck
def biLen (args : List D) (S : Store) : Res D := match args with
  | [.str s] => if s.length ≤ lim then .ok (.int s.length) S else .stuck
  | [x] => match asK S x with
    | some kvs => .ok (.int kvs.length) S
    | none => match asQ S x with
      | some xs => .ok (.int xs.length) S
      | none => .stuck
  | _ => .stuck
def biMax (args : List D) (S : Store) : Res D := match args with
  | [.int i, .int j] => .ok (.int (if j > i then j else i)) S
  | [x] => one (((asL S x).bind fun xs => (intsD xs).bind maxI).map .int) S
  | _ => .stuck
def biMin (args : List D) (S : Store) : Res D := match args with
  | [.int i, .int j] => .ok (.int (if j < i then j else i)) S
  | [x] => one (((asL S x).bind fun xs => (intsD xs).bind minI).map .int) S
  | _ => .stuck
def biSum (args : List D) (S : Store) : Res D := match args with
  | [x] => one (((asL S x).bind intsD).map fun ns => .int ns.sum) S
  | _ => .stuck
def biAll (args : List D) (S : Store) : Res D := match args with
  | [x] => one (((asL S x).bind bools).map fun bs => .bl (bs.all id)) S
  | _ => .stuck
def biAny (args : List D) (S : Store) : Res D := match args with
  | [x] => one (((asL S x).bind bools).map fun bs => .bl (bs.any id)) S
  | _ => .stuck
def biInt (args : List D) (S : Store) : Res D := match args with
  | [.int i] => .ok (.int i) S
  | [.bl b] => .ok (.int (b2i b)) S
  | [.str s] => if s.length ≤ 640 then (match intS s with
    | some n => .ok (.int n) S
    | none => .stuck) else .stuck
  | _ => .stuck
def biStr (args : List D) (S : Store) : Res D := match args with
  | [.int i] => if i.natAbs.log2 < 1920 then .ok (.str (strI i)) S else .stuck
  | [.str s] => .ok (.str s) S
  | _ => .stuck
def biList (m : Bool) (args : List D) (S : Store) : Res D := match args with
  | [.str s] => if s.length ≤ lim then alloc m (s.map fun c => .str [c]) S else .stuck
  | [x] => match asQ S x with
    | some xs => alloc m xs S
    | none => .stuck
  | _ => .stuck
def biTuple (args : List D) (S : Store) : Res D := match args with
  | [.tup xs] => .ok (.tup xs) S
  | [x] => match asL S x with
    | some xs => .ok (.tup xs) S
    | none => .stuck
  | _ => .stuck
def biSorted (m : Bool) (args : List D) (S : Store) : Res D := match args with
  | [x] => match asL S x with
    | some xs => match intsD xs with
      | some ns => alloc m ((sortI ns).map .int) S
      | none => .stuck
    | none => .stuck
  | _ => .stuck
mutual
/-- intsD that have a text -/
def shwD : D → Bool
  | .int i => decide (i.natAbs.log2 < 1920)
  | .tup xs => shwL xs
  | .lst xs => shwL xs
  | _ => true
def shwL : List D → Bool
  | [] => true
  | x :: xs => shwD x && shwL xs
end
def biRepr (args : List D) (S : Store) : Res D := match args with
  | [.dct []] => .ok (.str [123, 125]) S
  | [x] => match res S 60 x with
    | some d => match repD 60 d with
      | some r => if r.length ≤ 200000 ∧ shwD d = true then .ok (.str r) S else .stuck
      | none => .stuck
    | none => .stuck
  | _ => .stuck
def biop (g : Gt) (m : Bool) (b : BI) (args : List D) (S : Store) : Res D := match b with
  | .isinst => biIsinst g args S
  | .len => biLen args S
  | .max => biMax args S
  | .min => biMin args S
  | .sum => biSum args S
  | .all => biAll args S
  | .any => biAny args S
  | .int => biInt args S
  | .str => biStr args S
  | .list => biList m args S
  | .tuple => biTuple args S
  | .sorted => biSorted m args S
  | .repr => biRepr args S
  | .dict => .stuck
  | .abs => .stuck
/-- the receiver is of the method's type -/
def mtOk (mm : MI) (x : D) (S : Store) : Bool := match mm with
  | .append | .insert | .extend | .pop | .index | .count => (asL S x).isSome
  | .join | .split | .find | .sindex | .lstrip => match x with
    | .str _ => true
    | _ => false
  | .bitlen => match x with
    | .int _ => true
    | _ => false
  | .get => false
def mtAppend (x : D) (args : List D) (S : Store) : Res D := match x, args with
  | .ref l, [y] => match S[l]? with
    | some (.lst xs) => if xs.length < lim then .ok .non (S.set l (.lst (xs ++ [y]))) else .stuck
    | _ => .stuck
  | _, _ => .stuck
def mtIndex (x : D) (args : List D) (S : Store) : Res D := match args with
  | [y] => match asL S x with
    | some xs => if flat y && xs.all flat then (match xs.findIdx? fun z => eqf z y with
      | some j => .ok (.int j) S
      | none => .stuck) else .stuck
    | none => .stuck
  | _ => .stuck
def mtCount (x : D) (args : List D) (S : Store) : Res D := match args with
  | [y] => match asL S x with
    | some xs => if flat y && xs.all flat then .ok (.int (xs.countP fun z => eqf z y)) S else .stuck
    | none => .stuck
  | _ => .stuck
def mtJoin (x : D) (args : List D) (S : Store) : Res D := match x, args with
  | .str a, [y] => match (asQ S y).bind strsD with
    | some ys => if (ys.map List.length).sum + ys.length * a.length ≤ 16777216 then .ok (.str (joinS a ys)) S else .stuck
    | none => .stuck
  | _, _ => .stuck
def mtSplit (x : D) (args : List D) (S : Store) : Res D := match x, args with
  | .str a, [.str [c]] => if a.length + 2 ≤ lim ∧ c < 256 then .ok (.lst ((splitC c a).map .str)) S else .stuck
  | _, _ => .stuck
def mtBits (x : D) (args : List D) (S : Store) : Res D := match x, args with
  | .int i, [] => .ok (.int (if i = 0 then 0 else i.natAbs.log2 + 1 : Nat)) S
  | _, _ => .stuck
def mtInsert (x : D) (args : List D) (S : Store) : Res D := match x, args with
  | .ref l, [.int i, y] => match S[l]? with
    | some (.lst xs) => if xs.length < lim ∧ 0 ≤ i ∧ i < 2 ^ 62 then .ok .non (S.set l (.lst (xs.take i.toNat ++ [y] ++ xs.drop i.toNat))) else .stuck
    | _ => .stuck
  | _, _ => .stuck
def mtPop (x : D) (args : List D) (S : Store) : Res D := match x, args with
  | .ref l, [] => match S[l]? with
    | some (.lst xs) => match xs[xs.length - 1]? with
      | some y => .ok y (S.set l (.lst xs.dropLast))
      | none => .stuck
    | _ => .stuck
  | _, _ => .stuck
def mtExtend (x : D) (args : List D) (S : Store) : Res D := match x, args with
  | .ref l, [y] => match S[l]?, asM S y with
    | some (.lst xs), some zs => if xs.length + zs.length ≤ lim then .ok .non (S.set l (.lst (xs ++ zs))) else .stuck
    | _, _ => .stuck
  | _, _ => .stuck
def fndI (a : List Nat) (c : Nat) : Option Nat := a.findIdx? fun d => d == c
def mtFind (x : D) (args : List D) (S : Store) : Res D := match x, args with
  | .str a, [.str [c]] => .ok (.int (match fndI a c with | some i => (i : Int) | none => -1)) S
  | _, _ => .stuck
def mtSindex (x : D) (args : List D) (S : Store) : Res D := match x, args with
  | .str a, [.str [c]] => match fndI a c with
    | some i => .ok (.int (i : Nat)) S
    | none => .stuck
  | _, _ => .stuck
def mtLstrip (x : D) (args : List D) (S : Store) : Res D := match x, args with
  | .str a, [.str [c]] => if a.length ≤ lim then .ok (.str (a.dropWhile fun d => d == c)) S else .stuck
  | _, _ => .stuck
def mtop (mm : MI) (x : D) (args : List D) (S : Store) : Res D := match mm with
  | .append => mtAppend x args S
  | .index => mtIndex x args S
  | .count => mtCount x args S
  | .join => mtJoin x args S
  | .split => mtSplit x args S
  | .bitlen => mtBits x args S
  | .find => mtFind x args S
  | .sindex => mtSindex x args S
  | .lstrip => mtLstrip x args S
  | .insert => mtInsert x args S
  | .pop => mtPop x args S
  | .extend => mtExtend x args S
  | _ => .stuck

/-! ### slots -/
def setAll : Env → List Nat → List D → Env
  | e, i :: is, d :: ds => setAll (e.set i (some d)) is ds
  | e, _, _ => e
def bindT : Tg → D → Env → Option Env
  | .n i, d, e => some (e.set i (some d))
  | .ns is, .tup ds, e => if ds.length = is.length then some (setAll e is ds) else none
  | _, _, _ => none
def wipe (e : Env) : List Nat → Env
  | [] => e
  | v :: vs => (wipe e vs).set v none

/-! ### loops -/
abbrev Chk := List (Nat × List D)
def Chk.ok (k : Chk) (S : Store) : Bool := k.all fun p => decide (S[p.1]? = some (.lst p.2))
def forL (k : Chk) (body : D → Env → Store → SR) : List D → Env → Store → SR
  | [], e, S => if k.ok S then .nx e S else .stuck
  | x :: xs, e, S => if k.ok S then (match body x e S with
    | .nx e' S' => forL k body xs e' S'
    | .ct e' S' => forL k body xs e' S'
    | .bk e' S' => .nx e' S'
    | .rt d S' => .rt d S'
    | .exc c v e' S' => .exc c v e' S'
    | .stuck => .stuck) else .stuck
def compL (k : Chk) (f : D → Store → Res (Option D)) : List D → List D → Store → Res (List D)
  | [], acc, S => if k.ok S then .ok acc S else .stuck
  | x :: xs, acc, S => if k.ok S then (match f x S with
    | .ok (some d) S' => if acc.length < lim then compL k f xs (acc ++ [d]) S' else .stuck
    | .ok none S' => compL k f xs acc S'
    | _ => .stuck) else .stuck
def whlL (test : Env → Store → Res Bool) (body : Env → Store → SR) : Nat → Env → Store → SR
  | 0, _, _ => .stuck
  | n + 1, e, S => match test e S with
    | .ok true S' => (match body e S' with
      | .nx e' S'' => whlL test body n e' S''
      | .ct e' S'' => whlL test body n e' S''
      | .bk e' S'' => .nx e' S''
      | .rt d S'' => .rt d S''
      | .exc c v e' S'' => .exc c v e' S''
      | .stuck => .stuck)
    | .ok false S' => .nx e S'
    | .exc c v S' => .exc c v e S'
    | .stuck => .stuck
def whlN : Nat := 1000000

/-! ### freezing: a cell that nobody changes from here on -/
mutual
/-- no cell within -/
def pure_ : D → Bool
  | .tup xs => pureL xs
  | .lst xs => pureL xs
  | .slst xs => pureL xs
  | .dct xs => pureK xs
  | .exn _ v => pure_ v
  | .ref _ => false
  | _ => true
def pureL : List D → Bool
  | [] => true
  | x :: xs => pure_ x && pureL xs
def pureK : List (DK × D) → Bool
  | [] => true
  | (_, x) :: xs => pure_ x && pureK xs
end
mutual
/-- cells below n alone -/
def below (n : Nat) : D → Bool
  | .tup xs => belowL n xs
  | .lst xs => belowL n xs
  | .slst xs => belowL n xs
  | .dct xs => belowK n xs
  | .exn _ v => below n v
  | .ref l => decide (l < n)
  | _ => true
def belowL (n : Nat) : List D → Bool
  | [] => true
  | x :: xs => below n x && belowL n xs
def belowK (n : Nat) : List (DK × D) → Bool
  | [] => true
  | (_, x) :: xs => below n x && belowK n xs
end
def belowO (n : Nat) : O → Bool
  | .lst xs => belowL n xs
  | .dct xs => belowK n xs
  | .ins _ fs => fs.all fun p => below n p.2
  | .dead => true
def frzop (x : D) (S : Store) : Res D := match x with
  | .ref l => match S[l]? with
    | some (.lst xs) => .ok (.lst xs) (S.set l .dead)
    | some (.dct xs) => .ok (.dct xs) (S.set l .dead)
    | _ => .stuck
  | _ => .ok x S

def frzM (f : D → Store → Option (D × Store)) : List D → Store → Option (List D × Store)
  | [], S => some ([], S)
  | x :: xs, S => match f x S with
    | some (y, S1) => (match frzM f xs S1 with
      | some (ys, S2) => some (y :: ys, S2)
      | none => none)
    | none => none
/-- a cell and the cells within, frozen -/
def frzD : Nat → D → Store → Option (D × Store)
  | 0, _, _ => none
  | n + 1, d, S => match d with
    | .tup xs => (match frzM (frzD n) xs S with
      | some (ys, S1) => some (.tup ys, S1)
      | none => none)
    | .lst xs => (match frzM (frzD n) xs S with
      | some (ys, S1) => some (.lst ys, S1)
      | none => none)
    | .ref l => (match S[l]? with
      | some (.lst xs) => (match frzM (frzD n) xs S with
        | some (ys, S1) => if S1[l]? = some (.lst xs) then some (.lst ys, S1.set l .dead) else none
        | none => none)
      | _ => none)
    | d => some (d, S)
def frzdop (x : D) (S : Store) : Res D := match frzD (2 * S.length + 4) x S with
  | some (y, S') => .ok y S'
  | none => .stuck
/-- o[i] = v, ours -/
def stI (x k d : D) (S : Store) : Option Store := match x with
  | .ref l => match S[l]?, k with
    | some (.lst xs), .int n => match ixN xs.length n with
      | some j => some (S.set l (.lst (xs.set j d)))
      | none => none
    | some (.dct kvs), k => match kOf k with
      | some kk => if kvs.length < lim then some (S.set l (.dct (putK kvs kk d))) else none
      | none => none
    | _, _ => none
  | _ => none
/-! ### the evaluator -/
def permD (perm : List Nat) (vs : List D) : Option (List D) := perm.mapM fun i => vs[i]?
abbrev Call := Nat → List D → Store → CR
def ofCR : CR → Res D
  | .ret d S => .ok d S
  | .exc c v S => .exc c v S
  | .stuck => .stuck
@[simp] theorem ofCR_ret (d : D) (S : Store) : ofCR (.ret d S) = .ok d S := by rw [ofCR]
@[simp] theorem ofCR_exc (c : Nat) (d : D) (S : Store) : ofCR (.exc c d S) = .exc c d S := by rw [ofCR]
@[simp] theorem ofCR_stuck : ofCR .stuck = .stuck := by rw [ofCR]
def intO (x : D) (S : Store) : Res (Option Int) := match x with
  | .int i => .ok (some i) S
  | _ => .stuck
def tr (x : D) (S : Store) : Res Bool := match truth S x with
  | some b => .ok b S
  | none => .stuck
def items1 (x : D) (S : Store) : Res (List D × Chk) := match x with
  | .ref l => match S[l]? with
    | some (.lst xs) => .ok (xs, [(l, xs)]) S
    | _ => .stuck
  | _ => match asQ S x with
    | some xs => .ok (xs, []) S
    | none => .stuck
def enumD : Nat → List D → List D
  | _, [] => []
  | n, x :: xs => .tup [.int n, x] :: enumD (n + 1) xs
def zipD : List D → List D → List D
  | x :: xs, y :: ys => .tup [x, y] :: zipD xs ys
  | _, _ => []

section
variable (g : Gt) (call : Call)
mutual
def evE : Cd → Env → Store → Res D
  | .c d, _, S => .ok d S
  | .v i, e, S => match e[i]? with
    | some (some d) => .ok d S
    | _ => .stuck
  | .bin m op a b, e, S => (evE a e S).bind fun x S => (evE b e S).bind fun y S => binop m op x y S
  | .neg a, e, S => (evE a e S).bind fun x S => match x with
    | .int i => .ok (.int (-i)) S
    | _ => .stuck
  | .not_ a, e, S => (evE a e S).bind fun x S => (tr x S).bind fun b S => .ok (.bl (!b)) S
  | .and_ a b, e, S => (evE a e S).bind fun x S => (tr x S).bind fun k S => if k then evE b e S else .ok x S
  | .or_ a b, e, S => (evE a e S).bind fun x S => (tr x S).bind fun k S => if k then .ok x S else evE b e S
  | .ite c a b, e, S => (evE c e S).bind fun x S => (tr x S).bind fun k S => if k then evE a e S else evE b e S
  | .cmp op a b, e, S => (evE a e S).bind fun x S => (evE b e S).bind fun y S => oneB (cmpop op x y S) S
  | .chain op op' a b c, e, S => (evE a e S).bind fun x S => (evE b e S).bind fun y S => (oneB (cmpop op x y S) S).bind fun k S => match k with
    | .bl true => (evE c e S).bind fun z S => oneB (cmpop op' y z S) S
    | _ => .ok (.bl false) S
  | .tup es, e, S => (evEs es e S).bind fun xs S => if xs.length ≤ lim then .ok (.tup xs) S else .stuck
  | .lst m es, e, S => (evEs es e S).bind fun xs S => if xs.length ≤ lim then alloc m xs S else .stuck
  | .dct m ks vs, e, S => (evEs ks e S).bind fun xs S => (evEs vs e S).bind fun ys S => match xs, ys with
    | [], [] => allocK m [] S
    | _, _ => .stuck
  | .call f es dv, e, S => (evEs es e S).bind fun xs S => ofCR (call f (xs ++ dv) S)
  | .callk f es ks perm dv, e, S => (evEs es e S).bind fun xs S => (evEs ks e S).bind fun ys S => match permD perm (xs ++ ys ++ dv) with
    | some zs => ofCR (call f zs S)
    | none => .stuck
  | .bi m b es, e, S => (evEs es e S).bind fun xs S => biop g m b xs S
  | .mt mm o es, e, S => (evE o e S).bind fun x S => if mtOk mm x S then (evEs es e S).bind fun xs S => mtop mm x xs S else .stuck
  | .ix a b, e, S => (evE a e S).bind fun x S => (evE b e S).bind fun y S => one (ixop x y S) S
  | .sl m a lo hi, e, S => (evE a e S).bind fun x S => (evO lo e S).bind fun l S => (evO hi e S).bind fun h S => slop m x l h S
  | .rev m a, e, S => (evE a e S).bind fun x S => revop m x S
  | .comp m elt tg it ifs own, e, S => (evI it e S).bind fun xk S => (compL xk.2 (fun x S => match bindT tg x (wipe e own) with
      | none => .stuck
      | some e' => (evT ifs e' S).bind fun b S => if b then (evE elt e' S).bind fun d S => .ok (some d) S else .ok none S) xk.1 [] S).bind fun ys S => alloc m ys S
  | .fld o f, e, S => (evE o e S).bind fun x S => match x with
    | .exn c v => if f = 0 ∧ (g.sub c c).isSome then .ok v S else .stuck
    | _ => .stuck
  | .frz a, e, S => (evE a e S).bind frzop
  | .frzd a, e, S => (evE a e S).bind frzdop
  | .bad, _, _ => .stuck
  | .lrg m es, e, S => (evEs es e S).bind fun xs S => match rngA xs with
    | some (a, c, n) => if n ≤ lim then alloc m (rangeC a c n) S else .stuck
    | none => .stuck
def evO : Cdo → Env → Store → Res (Option Int)
  | .no, _, S => .ok none S
  | .so a, e, S => (evE a e S).bind intO
/-- a comprehension's test -/
def evT : Cdo → Env → Store → Res Bool
  | .no, _, S => .ok true S
  | .so a, e, S => (evE a e S).bind tr
def evEs : Cds → Env → Store → Res (List D)
  | .nil, _, S => .ok [] S
  | .cons a r, e, S => (evE a e S).bind fun x S => (evEs r e S).bind fun xs S => .ok (x :: xs) S
def evI : It → Env → Store → Res (List D × Chk)
  | .seq a, e, S => (evE a e S).bind items1
  | .str a, e, S => (evE a e S).bind fun x S => match x with
    | .str s => .ok (s.map fun c => .str [c], []) S
    | _ => .stuck
  | .rng1 a, e, S => (evE a e S).bind fun x S => match x with
    | .int j => if small62 j then .ok (rangeD 0 j.toNat, []) S else .stuck
    | _ => .stuck
  | .rng2 a b, e, S => (evE a e S).bind fun x S => (evE b e S).bind fun y S => match x, y with
    | .int i, .int j => if small62 i && small62 j then .ok (rangeD i (j - i).toNat, []) S else .stuck
    | _, _ => .stuck
  | .rng3 a b c, e, S => (evE a e S).bind fun x S => (evE b e S).bind fun y S => (evE c e S).bind fun z S => match rngA [x, y, z] with
    | some (a, c, n) => .ok (rangeC a c n, []) S
    | none => .stuck
  | .enL a, e, S => (evE a e S).bind fun x S => (items1 x S).bind fun xk S => match x with
    | .tup _ => .stuck
    | _ => .ok (enumD 0 xk.1, xk.2) S
  | .enS a, e, S => (evE a e S).bind fun x S => match x with
    | .str s => .ok (enumD 0 (s.map fun c => .str [c]), []) S
    | _ => .stuck
  | .zip a b, e, S => (evE a e S).bind fun x S => (evE b e S).bind fun y S => match x, y with
    | .tup xs, .tup ys => .ok (zipD xs ys, []) S
    | .tup _, _ => .stuck
    | _, .tup _ => .stuck
    | x, y => (items1 x S).bind fun xk S => (items1 y S).bind fun yk S => .ok (zipD xk.1 yk.1, xk.2 ++ yk.2) S
  | .keys a, e, S => (evE a e S).bind fun x S => match x with
    | .dct kvs => .ok (kvs.map fun kv => dOf kv.1, []) S
    | _ => .stuck
  | .items _, _, _ => .stuck
end
mutual
def evS : Sm → Env → Store → SR
  | .asg t a, e, S => match evE g call a e S with
    | .ok d S => (match bindT t d e with
      | some e' => .nx e' S
      | none => .stuck)
    | .exc c v S => .exc c v e S
    | .stuck => .stuck
  | .par is es, e, S => match evEs g call es e S with
    | .ok ds S => if ds.length = is.length then .nx (setAll e is ds) S else .stuck
    | .exc c v S => .exc c v e S
    | .stuck => .stuck
  | .sti o i a, e, S => match (evE g call a e S).bind fun d S => (evE g call o e S).bind fun x S => (evE g call i e S).bind fun k S => match stI x k d S with
      | some S' => Res.ok () S'
      | none => .stuck with
    | .ok _ S => .nx e S
    | .exc c v S => .exc c v e S
    | .stuck => .stuck
  | .stf _ _ _, _, _ => .stuck
  | .badS, _, _ => .stuck
  | .sti2 o i o' i' a, e, S => match (evE g call a e S).bind fun d S => match d with
      | .tup [d1, d2] => (evE g call o e S).bind fun x S => (evE g call i e S).bind fun k S => match stI x k d1 S with
        | some S1 => (evE g call o' e S1).bind fun x S => (evE g call i' e S).bind fun k S => match stI x k d2 S with
          | some S' => Res.ok () S'
          | none => .stuck
        | none => .stuck
      | _ => .stuck with
    | .ok _ S => .nx e S
    | .exc c v S => .exc c v e S
    | .stuck => .stuck
  | .ex a, e, S => match evE g call a e S with
    | .ok _ S => .nx e S
    | .exc c v S => .exc c v e S
    | .stuck => .stuck
  | .ret a, e, S => match evE g call a e S with
    | .ok d S => .rt d S
    | .exc c v S => .exc c v e S
    | .stuck => .stuck
  | .retN, _, S => .rt .non S
  | .ife c a b, e, S => match (evE g call c e S).bind tr with
    | .ok true S => evSs a e S
    | .ok false S => evSs b e S
    | .exc c v S => .exc c v e S
    | .stuck => .stuck
  | .for_ t it body, e, S => match evI g call it e S with
    | .ok xk S => forL xk.2 (fun x e S => match bindT t x e with
      | some e' => evSs body e' S
      | none => .stuck) xk.1 e S
    | .exc c v S => .exc c v e S
    | .stuck => .stuck
  | .whl c body, e, S => whlL (fun e S => (evE g call c e S).bind tr) (fun e S => evSs body e S) whlN e S
  | .raise c a, e, S => match evE g call a e S with
    | .ok d S => .exc c d e S
    | .exc c v S => .exc c v e S
    | .stuck => .stuck
  | .try_ body cc i suite, e, S => match evSs body e S with
    | .exc c v e' S' => (match g.sub c cc with
      | some true => (match evSs suite (e'.set i (some (.exn c v))) S' with
        | .nx e S => .nx (e.set i none) S
        | .bk e S => .bk (e.set i none) S
        | .ct e S => .ct (e.set i none) S
        | .rt d S => .rt d S
        | _ => .stuck)
      | some false => .exc c v e' S'
      | none => .stuck)
    | r => r
  | .pass, e, S => .nx e S
  | .brk, e, S => .bk e S
  | .cont, e, S => .ct e S
def evSs : Sms → Env → Store → SR
  | .nil, e, S => .nx e S
  | .cons a r, e, S => match evS a e S with
    | .nx e' S' => evSs r e' S'
    | x => x
end
end

/-! ### calls -/
inductive Tm where
  | no | pure | cell0
structure Fd where
  np : Nat
  nn : Nat
  body : Sms
  tm : Tm := .no
/-- a call's end: what it made for itself is let go -/
def trim (t : Tm) (args : List D) (S S' : Store) (v : D) : Option Store := match t with
  | .no => some S'
  | .pure => if S'.take S.length = S ∧ below S.length v = true then some S else none
  | .cell0 => match args with
    | .ref p :: _ => match S'[p]? with
      | some o => if S'.take S.length = S.set p o ∧ p < S.length ∧ belowO S.length o = true ∧ below S.length v = true then some (S.set p o) else none
      | none => none
    | _ => none
def finish (t : Tm) (args : List D) (S : Store) : SR → CR
  | .nx _ S' => match trim t args S S' .non with
    | some S'' => .ret .non S''
    | none => .stuck
  | .rt d S' => match trim t args S S' d with
    | some S'' => .ret d S''
    | none => .stuck
  | .exc c v _ S' => match trim t args S S' v with
    | some S'' => .exc c v S''
    | none => .stuck
  | _ => .stuck
def callN (g : Gt) (tab : Nat → Option Fd) : Nat → Call
  | 0, _, _, _ => .stuck
  | n + 1, f, args, S => match tab f with
    | none => .stuck
    | some fd => if args.length = fd.np then finish fd.tm args S (evSs g (callN g tab n) fd.body (args.map some ++ List.replicate (fd.nn - fd.np) none) S) else .stuck
end Mp
end
section
set_option maxHeartbeats 4000000
namespace Mp
open PySem L2

def sOf (s : List Nat) : Str := ⟨s.toArray⟩
theorem sOf_cps (s : List Nat) : (sOf s).cps.toList = s := rfl
theorem sOf_len (s : List Nat) : (sOf s).length = s.length := by simp [sOf, Str.length]
theorem sOf_inj {a b : List Nat} (h : sOf a = sOf b) : a = b := by
  have := congrArg (fun z : Str => z.cps.toList) h
  simpa [sOf] using this
def kk : DK → Key
  | .i n => .inl n
  | .s x => .inr (sOf x)
theorem kk_inj {a b : DK} (h : kk a = kk b) : a = b := by
  cases a <;> cases b <;> simp [kk] at h ⊢
  · exact h
  · exact sOf_inj h
def BT.nm : BT → String
  | .int => "int" | .bool => "bool" | .str => "str" | .list => "list" | .tuple => "tuple" | .dict => "dict"
/-- an exception that was caught -/
def exk (C dx a : Addr) : HO := .ext fun h => ∃ (oe : Obj) (vs : Array Value), h.get? a = some oe ∧ oe.cls = .ref C ∧ oe.dict = some dx ∧ oe.data = .fields vs

section
variable (ca : Nat → Addr) (ρ : Nat → Addr) (F : Hp) (n : Nat)
mutual
inductive RV : D → V → Prop
  | non : RV .non .non
  | bl (b : Bool) : RV (.bl b) (.bl b)
  | int (i : Int) : RV (.int i) (.int i)
  | str (s : List Nat) : RV (.str s) (.str (sOf s))
  | tup {xs : List D} {a : Addr} {vs : List V} : F a = some (.tup vs) → RL xs vs → RV (.tup xs) (.ref a)
  | lst {xs : List D} {a : Addr} {vs : List V} : F a = some (.lst vs) → RL xs vs → RV (.lst xs) (.ref a)
  | slst {xs : List D} {a : Addr} {o : Obj} {vs : List V} : F a = some (.frz o (.lst vs)) → RL xs vs → RV (.slst xs) (.ref a)
  | dct {xs : List (DK × D)} {a : Addr} {vs : List (Key × V)} : F a = some (.dK vs) → RK xs vs → RV (.dct xs) (.ref a)
  | exn {c : Nat} {v : D} {a dx : Addr} {v' : V} : F a = some (exk (ca c) dx a) → F dx = some (.xd [(("value" : Str), v')]) → RV v v' → RV (.exn c v) (.ref a)
  | bty (t : BT) : RV (.bty t) (.ty t.nm)
  | cls (c : Nat) : RV (.cls c) (.ref (ca c))
  | ref {l : Nat} : l < n → RV (.ref l) (.ref (ρ l))
inductive RL : List D → List V → Prop
  | nil : RL [] []
  | cons {d : D} {v : V} {ds : List D} {vs : List V} : RV d v → RL ds vs → RL (d :: ds) (v :: vs)
inductive RK : List (DK × D) → List (Key × V) → Prop
  | nil : RK [] []
  | cons {k : DK} {d : D} {v : V} {ds : List (DK × D)} {vs : List (Key × V)} : RV d v → RK ds vs → RK ((k, d) :: ds) ((kk k, v) :: vs)
end
end

section
variable {ca : Nat → Addr} {ρ ρ' : Nat → Addr} {F F' : Hp} {n n' : Nat}
mutual
theorem RV.mono (hρ : ∀ l, l < n → ρ' l = ρ l) (hF : ∀ a o, F a = some o → F' a = some o) (hn : n ≤ n') : ∀ {d : D} {v : V}, RV ca ρ F n d v → RV ca ρ' F' n' d v
  | _, _, .non => .non
  | _, _, .bl b => .bl b
  | _, _, .int i => .int i
  | _, _, .str s => .str s
  | _, _, .tup e r => .tup (hF _ _ e) (RL.mono hρ hF hn r)
  | _, _, .lst e r => .lst (hF _ _ e) (RL.mono hρ hF hn r)
  | _, _, .slst e r => .slst (hF _ _ e) (RL.mono hρ hF hn r)
  | _, _, .dct e r => .dct (hF _ _ e) (RK.mono hρ hF hn r)
  | _, _, .exn e e2 r => .exn (hF _ _ e) (hF _ _ e2) (RV.mono hρ hF hn r)
  | _, _, .bty t => .bty t
  | _, _, .cls c => .cls c
  | _, _, .ref (l := l) h => by rw [← hρ l h]; exact .ref (Nat.lt_of_lt_of_le h hn)
theorem RL.mono (hρ : ∀ l, l < n → ρ' l = ρ l) (hF : ∀ a o, F a = some o → F' a = some o) (hn : n ≤ n') : ∀ {d : List D} {v : List V}, RL ca ρ F n d v → RL ca ρ' F' n' d v
  | _, _, .nil => .nil
  | _, _, .cons r t => .cons (RV.mono hρ hF hn r) (RL.mono hρ hF hn t)
theorem RK.mono (hρ : ∀ l, l < n → ρ' l = ρ l) (hF : ∀ a o, F a = some o → F' a = some o) (hn : n ≤ n') : ∀ {d : List (DK × D)} {v : List (Key × V)}, RK ca ρ F n d v → RK ca ρ' F' n' d v
  | _, _, .nil => .nil
  | _, _, .cons r t => .cons (RV.mono hρ hF hn r) (RK.mono hρ hF hn t)
end
mutual
/-- fewer cells -/
theorem RV.low {m : Nat} : ∀ {d : D} {v : V}, RV ca ρ F n d v → Mp.below m d = true → RV ca ρ F m d v
  | _, _, .non, _ => .non
  | _, _, .bl b, _ => .bl b
  | _, _, .int i, _ => .int i
  | _, _, .str s, _ => .str s
  | _, _, .tup e r, h => .tup e (RL.low r (by simpa [Mp.below] using h))
  | _, _, .lst e r, h => .lst e (RL.low r (by simpa [Mp.below] using h))
  | _, _, .slst e r, h => .slst e (RL.low r (by simpa [Mp.below] using h))
  | _, _, .dct e r, h => .dct e (RK.low r (by simpa [Mp.below] using h))
  | _, _, .exn e e2 r, h => .exn e e2 (RV.low r (by simpa [Mp.below] using h))
  | _, _, .bty t, _ => .bty t
  | _, _, .cls c, _ => .cls c
  | _, _, .ref _, h => .ref (by simpa [Mp.below] using h)
theorem RL.low {m : Nat} : ∀ {d : List D} {v : List V}, RL ca ρ F n d v → Mp.belowL m d = true → RL ca ρ F m d v
  | _, _, .nil, _ => .nil
  | _, _, .cons r t, h => by
    simp only [Mp.belowL, Bool.and_eq_true] at h
    exact .cons (RV.low r h.1) (RL.low t h.2)
theorem RK.low {m : Nat} : ∀ {d : List (DK × D)} {v : List (Key × V)}, RK ca ρ F n d v → Mp.belowK m d = true → RK ca ρ F m d v
  | _, _, .nil, _ => .nil
  | _, _, .cons r t, h => by
    simp only [Mp.belowK, Bool.and_eq_true] at h
    exact .cons (RV.low r h.1) (RK.low t h.2)
end
theorem RL.length : ∀ {ds : List D} {vs : List V}, RL ca ρ F n ds vs → ds.length = vs.length
  | _, _, .nil => rfl
  | _, _, .cons _ t => by simp [RL.length t]
theorem RK.length : ∀ {ds : List (DK × D)} {vs : List (Key × V)}, RK ca ρ F n ds vs → ds.length = vs.length
  | _, _, .nil => rfl
  | _, _, .cons _ t => by simp [RK.length t]
theorem RL.get : ∀ {ds : List D} {vs : List V} {i : Nat} {d : D}, RL ca ρ F n ds vs → ds[i]? = some d → ∃ v, vs[i]? = some v ∧ RV ca ρ F n d v
  | _, _, _, _, .nil, e => by simp at e
  | _, _, 0, _, .cons r _, e => by simp at e; subst e; exact ⟨_, rfl, r⟩
  | _, _, i + 1, d, .cons _ t, e => by
    obtain ⟨v, h1, h2⟩ := RL.get (i := i) (d := d) t (by simpa using e)
    exact ⟨v, by simpa using h1, h2⟩
theorem RL.getV : ∀ {ds : List D} {vs : List V} {i : Nat} {v : V}, RL ca ρ F n ds vs → vs[i]? = some v → ∃ d, ds[i]? = some d ∧ RV ca ρ F n d v
  | _, _, _, _, .nil, e => by simp at e
  | _, _, 0, _, .cons r _, e => by simp at e; subst e; exact ⟨_, rfl, r⟩
  | _, _, i + 1, d, .cons _ t, e => by
    obtain ⟨v, h1, h2⟩ := RL.getV (i := i) (v := d) t (by simpa using e)
    exact ⟨v, by simpa using h1, h2⟩
theorem RL.append : ∀ {ds es : List D} {vs us : List V}, RL ca ρ F n ds vs → RL ca ρ F n es us → RL ca ρ F n (ds ++ es) (vs ++ us)
  | _, _, _, _, .nil, s => s
  | _, _, _, _, .cons r t, s => .cons r (RL.append t s)
theorem RL.take : ∀ {ds : List D} {vs : List V} (k : Nat), RL ca ρ F n ds vs → RL ca ρ F n (ds.take k) (vs.take k)
  | _, _, 0, _ => .nil
  | _, _, _ + 1, .nil => .nil
  | _, _, k + 1, .cons r t => .cons r (RL.take k t)
theorem RL.drop : ∀ {ds : List D} {vs : List V} (k : Nat), RL ca ρ F n ds vs → RL ca ρ F n (ds.drop k) (vs.drop k)
  | _, _, 0, r => r
  | _, _, _ + 1, .nil => .nil
  | _, _, k + 1, .cons _ t => RL.drop k t
theorem RL.set {d : D} {v : V} (r : RV ca ρ F n d v) : ∀ {ds : List D} {vs : List V} (i : Nat), RL ca ρ F n ds vs → RL ca ρ F n (ds.set i d) (vs.set i v)
  | _, _, _, .nil => .nil
  | _, _, 0, .cons _ t => .cons r t
  | _, _, i + 1, .cons q t => .cons q (RL.set r i t)
theorem RL.reverse {ds : List D} {vs : List V} (h : RL ca ρ F n ds vs) : RL ca ρ F n ds.reverse vs.reverse := by
  induction h using RL.rec (motive_1 := fun _ _ _ => True) (motive_3 := fun _ _ _ => True) with
  | nil => exact .nil
  | cons r t _ ih => rw [List.reverse_cons, List.reverse_cons]; exact RL.append ih (.cons r .nil)
  | _ => trivial
theorem RL.rep {ds : List D} {vs : List V} (h : RL ca ρ F n ds vs) : ∀ k : Nat, RL ca ρ F n (List.replicate k ds).flatten (List.replicate k vs).flatten
  | 0 => .nil
  | k + 1 => by
    rw [List.replicate_succ, List.replicate_succ, List.flatten_cons, List.flatten_cons]
    exact RL.append h (RL.rep h k)
end

/-! ### the state of ours and the state of theirs -/
structure Tb where
  ca : Nat → Addr
  fnm : Nat → Str
abbrev RF (T : Tb) (ρ : Nat → Addr) (F : Hp) (n : Nat) : List (Nat × D) → List (Str × V) → Prop := Paired fun p q => T.fnm p.1 = q.1 ∧ RV T.ca ρ F n p.2 q.2
def HasU (H : Hp) (a : Addr) : HO → Prop
  | .dK kvs => Rd H a (.dK kvs)
  | u => H a = some u
def RO (T : Tb) (ρ : Nat → Addr) (F : Hp) (n : Nat) (H : Hp) (a : Addr) : O → Prop
  | .lst ds => ∃ vs, H a = some (.lst vs) ∧ RL T.ca ρ F n ds vs
  | .dct ds => ∃ vs, H a = some (.dK vs) ∧ RK T.ca ρ F n ds vs
  | .ins c fs => ∃ dx vs, H a = some (.ins (T.ca c) dx vs) ∧ RF T ρ F n fs vs
  | .dead => True
structure Rel (T : Tb) (K : PySem.W.Frag) (ρ : Nat → Addr) (F : Hp) (S : Store) (H : Hp) : Prop where
  sub : ∀ a u, F a = some u → HasU H a u
  cell : ∀ (l : Nat) o, S[l]? = some o → RO T ρ F S.length H (ρ l) o
  inj : ∀ l m, l < S.length → m < S.length → ρ l = ρ m → l = m
  sep : ∀ (l : Nat) o, S[l]? = some o → o ≠ .dead → F (ρ l) = none
  there : ∀ l, l < S.length → H (ρ l) ≠ none
structure Ext (ρ : Nat → Addr) (F : Hp) (S : Store) (H : Hp) (ρ' : Nat → Addr) (F' : Hp) (S' : Store) (H' : Hp) : Prop where
  len : S.length ≤ S'.length
  agree : ∀ l, l < S.length → ρ' l = ρ l
  subF : ∀ a u, F a = some u → F' a = some u
  frame : ∀ b o, H b = some o → (∀ l : Nat, l < S.length → S[l]? ≠ some O.dead → ρ l ≠ b) → H' b = some o
  dead : ∀ l : Nat, S[l]? = some O.dead → S'[l]? = some O.dead
  dom : ∀ b, H b ≠ none → H' b ≠ none
  newF : ∀ a, F' a ≠ none → F a ≠ none ∨ H a = none ∨ ∃ l, l < S.length ∧ ρ l = a
  newS : ∀ l, S.length ≤ l → l < S'.length → H (ρ' l) = none
theorem Ext.refl {ρ : Nat → Addr} {F : Hp} {S : Store} {H : Hp} : Ext ρ F S H ρ F S H :=
  ⟨Nat.le_refl _, fun _ _ => rfl, fun _ _ h => h, fun _ _ h _ => h, fun _ h => h, fun _ h => h, fun _ h => .inl h, fun _ h h' => absurd (Nat.lt_of_le_of_lt h h') (Nat.lt_irrefl _)⟩
theorem Ext.trans {ρ ρ1 ρ2 : Nat → Addr} {F F1 F2 : Hp} {S S1 S2 : Store} {H H1 H2 : Hp} (a : Ext ρ F S H ρ1 F1 S1 H1) (b : Ext ρ1 F1 S1 H1 ρ2 F2 S2 H2) : Ext ρ F S H ρ2 F2 S2 H2 where
  len := Nat.le_trans a.len b.len
  agree := fun l h => (b.agree l (Nat.lt_of_lt_of_le h a.len)).trans (a.agree l h)
  subF := fun x u h => b.subF x u (a.subF x u h)
  dead := fun l h => b.dead l (a.dead l h)
  frame := fun x o h hn => b.frame x o (a.frame x o h hn) fun l hl hd e => by
    by_cases hlt : l < S.length
    · exact hn l hlt (fun z => hd (a.dead l z)) ((a.agree l hlt).symm.trans e)
    · have := a.newS l (Nat.le_of_not_lt hlt) hl
      rw [e, h] at this; cases this
  dom := fun x h => b.dom x (a.dom x h)
  newF := fun x h => by
    rcases b.newF x h with h1 | h1 | ⟨l, hl, e⟩
    · exact a.newF x h1
    · refine .inr (.inl ?_)
      cases q : H x with
      | none => rfl
      | some o => exact absurd h1 (a.dom x (by rw [q]; exact fun z => by cases z))
    · by_cases hlt : l < S.length
      · exact .inr (.inr ⟨l, hlt, (a.agree l hlt).symm.trans e⟩)
      · exact .inr (.inl (by rw [← e]; exact a.newS l (Nat.le_of_not_lt hlt) hl))
  newS := fun l h h' => by
    by_cases hlt : l < S1.length
    · rw [b.agree l hlt]; exact a.newS l h hlt
    · have h1 := b.newS l (Nat.le_of_not_lt hlt) h'
      cases q : H (ρ2 l) with
      | none => rfl
      | some o => exact absurd h1 (a.dom _ (by rw [q]; exact fun z => by cases z))
theorem Ext.rv {T : Tb} {ρ ρ1 : Nat → Addr} {F F1 : Hp} {S S1 : Store} {H H1 : Hp} (a : Ext ρ F S H ρ1 F1 S1 H1) {d : D} {v : V} (r : RV T.ca ρ F S.length d v) : RV T.ca ρ1 F1 S1.length d v := r.mono a.agree a.subF a.len
theorem Ext.rl {T : Tb} {ρ ρ1 : Nat → Addr} {F F1 : Hp} {S S1 : Store} {H H1 : Hp} (a : Ext ρ F S H ρ1 F1 S1 H1) {d : List D} {v : List V} (r : RL T.ca ρ F S.length d v) : RL T.ca ρ1 F1 S1.length d v := r.mono a.agree a.subF a.len

/-- how a value of ours lies in theirs -/
abbrev RG (α β : Type) := (Nat → Addr) → Hp → Nat → α → β → Prop
def PostG (T : Tb) (K : PySem.W.Frag) {α β : Type} (R : RG α β) (ρ : Nat → Addr) (F : Hp) (S : Store) (H : Hp) (r : Res α) (Q : β → Hp → Prop) (E : XK) : Prop := match r with
  | .ok a S' => ∀ ρ' F' H' b, Ext ρ F S H ρ' F' S' H' → Rel T K ρ' F' S' H' → R ρ' F' S'.length a b → Q b H'
  | .exc c d S' => ∀ ρ' F' H' dx v, Ext ρ F S H ρ' F' S' H' → Rel T K ρ' F' S' H' → RV T.ca ρ' F' S'.length d v → F' dx = some (.xd [(("value" : Str), v)]) → E (.ref (T.ca c)) (some dx) H'
  | .stuck => False
section
variable {T : Tb} {K : PySem.W.Frag} {α β γ δ : Type} {R : RG α β} {R2 : RG γ δ} {ρ ρ1 : Nat → Addr} {F F1 : Hp} {S S1 : Store} {H H1 : Hp} {r : Res α} {k : α → Store → Res γ} {Q : β → Hp → Prop} {Q2 : δ → Hp → Prop} {E : XK}
theorem PostG.ext (x : Ext ρ F S H ρ1 F1 S1 H1) (h : PostG T K R ρ F S H r Q E) : PostG T K R ρ1 F1 S1 H1 r Q E := by
  cases r with
  | ok a S' => exact fun ρ' F' H' b e => h ρ' F' H' b (x.trans e)
  | exc c d S' => exact fun ρ' F' H' dx v e => h ρ' F' H' dx v (x.trans e)
  | stuck => exact h
theorem PostG.mono {Q' : β → Hp → Prop} (h : PostG T K R ρ F S H r Q E) (hq : ∀ b H', Q b H' → Q' b H') : PostG T K R ρ F S H r Q' E := by
  cases r with
  | ok a S' => exact fun ρ' F' H' b e rl rb => hq _ _ (h ρ' F' H' b e rl rb)
  | exc c d S' => exact h
  | stuck => exact h
theorem PostG.bind (h : PostG T K R2 ρ F S H (r.bind k) Q2 E) :
    PostG T K R ρ F S H r (fun b H1 => ∃ ρ1 F1 S1 a, Ext ρ F S H ρ1 F1 S1 H1 ∧ Rel T K ρ1 F1 S1 H1 ∧ R ρ1 F1 S1.length a b ∧ PostG T K R2 ρ1 F1 S1 H1 (k a S1) Q2 E) E := by
  cases r with
  | ok a S' => exact fun ρ' F' H' b e rl rb => ⟨ρ', F', S', a, e, rl, rb, PostG.ext e h⟩
  | exc c d S' => exact h
  | stuck => exact h
theorem PostG.here {a : α} {b : β} (h : PostG T K R ρ F S H (.ok a S) Q E) (rl : Rel T K ρ F S H) (rb : R ρ F S.length a b) : Q b H := h ρ F H b .refl rl rb
end
/-- slots -/
structure RE (T : Tb) (ρ : Nat → Addr) (F : Hp) (n : Nat) (e : Env) (σ : St) : Prop where
  len : e.length = σ.length
  at_ : ∀ (i : Nat) d, e[i]? = some (some d) → ∃ v, σ[i]? = some (some v) ∧ RV T.ca ρ F n d v
theorem Ext.re {T : Tb} {ρ ρ1 : Nat → Addr} {F F1 : Hp} {S S1 : Store} {H H1 : Hp} (a : Ext ρ F S H ρ1 F1 S1 H1) {e : Env} {σ : St} (r : RE T ρ F S.length e σ) : RE T ρ1 F1 S1.length e σ :=
  ⟨r.len, fun i d h => let ⟨v, h1, h2⟩ := r.at_ i d h; ⟨v, h1, a.rv h2⟩⟩
theorem RE.set {T : Tb} {ρ : Nat → Addr} {F : Hp} {n : Nat} {e : Env} {σ : St} (r : RE T ρ F n e σ) {d : D} {v : V} (h : RV T.ca ρ F n d v) (i : Nat) : RE T ρ F n (e.set i (some d)) (σ.set i (some v)) := by
  refine ⟨by simp [r.len], fun j d' hj => ?_⟩
  by_cases e1 : i = j
  · subst e1
    by_cases hl : i < e.length
    · rw [List.getElem?_set_self hl] at hj
      cases hj
      exact ⟨v, by rw [List.getElem?_set_self (by rw [← r.len]; exact hl)], h⟩
    · rw [List.getElem?_eq_none (by simpa using hl)] at hj
      cases hj
  · rw [List.getElem?_set_ne e1] at hj
    obtain ⟨v', h1, h2⟩ := r.at_ j d' hj
    exact ⟨v', by rw [List.getElem?_set_ne e1]; exact h1, h2⟩
theorem RE.unset {T : Tb} {ρ : Nat → Addr} {F : Hp} {n : Nat} {e : Env} {σ : St} (r : RE T ρ F n e σ) (i : Nat) : RE T ρ F n (e.set i none) (σ.set i none) := by
  refine ⟨by simp [r.len], fun j d' hj => ?_⟩
  by_cases e1 : i = j
  · subst e1
    by_cases hl : i < e.length
    · rw [List.getElem?_set_self hl] at hj
      cases hj
    · rw [List.getElem?_eq_none (by simpa using hl)] at hj
      cases hj
  · rw [List.getElem?_set_ne e1] at hj
    obtain ⟨v', h1, h2⟩ := r.at_ j d' hj
    exact ⟨v', by rw [List.getElem?_set_ne e1]; exact h1, h2⟩
theorem RE.wipe {T : Tb} {ρ : Nat → Addr} {F : Hp} {n : Nat} {e : Env} {σ : St} (r : RE T ρ F n e σ) : ∀ vs : List Nat, RE T ρ F n (Mp.wipe e vs) (L2.wipe σ vs)
  | [] => r
  | v :: vs => (RE.wipe r vs).unset v
theorem RE.setAll {T : Tb} {ρ : Nat → Addr} {F : Hp} {n : Nat} : ∀ {is : List Nat} {e : Env} {σ : St} {ds : List D} {vs : List V}, RE T ρ F n e σ → RL T.ca ρ F n ds vs →
    ∃ σ', (∀ (Q : St → Hp → Prop) H, is.length = vs.length → (Q σ' H → (is.map gName).foldr gCons gNil vs σ H Q)) ∧ RE T ρ F n (Mp.setAll e is ds) σ'
  | [], e, σ, ds, vs, r, rl => ⟨σ, fun Q H hl q => by
      have : vs = [] := by simpa using hl.symm
      exact ⟨this, q⟩, by cases ds <;> exact r⟩
  | i :: is, e, σ, [], _, r, .nil => ⟨σ, fun Q H hl q => by simp at hl, r⟩
  | i :: is, e, σ, d :: ds, v :: vs, r, .cons rd rl => by
    obtain ⟨σ', h1, h2⟩ := RE.setAll (is := is) (r.set rd i) rl
    exact ⟨σ', fun Q H hl q => ⟨v, vs, rfl, h1 Q H (by simpa using hl) q⟩, h2⟩
end Mp
end
section
set_option maxHeartbeats 4000000
namespace Mp
open PySem L2
section
variable {T : Tb} {K : PySem.W.Frag} {ρ : Nat → Addr} {F : Hp} {S : Store} {H : Hp}
theorem HasU.some {a : Addr} {u : HO} (h : HasU H a u) : H a ≠ none := by
  cases u with
  | dK kvs =>
    rcases h with h | ⟨o, h⟩ <;> (rw [h]; exact fun z => by cases z)
  | _ =>
    have h' : H a = Option.some _ := h
    rw [h']; exact fun z => by cases z
theorem HasU.upd {a p : Addr} {u o : HO} (h : HasU H a u) (hn : a ≠ p) : HasU (upd H p o) a u := by
  cases u with
  | dK kvs =>
    rcases h with h | ⟨o', h⟩
    · exact .inl (by rw [upd_ne hn]; exact h)
    · exact .inr ⟨o', by rw [upd_ne hn]; exact h⟩
  | _ =>
    have h' : H a = Option.some _ := h
    show Mp.HasU _ _ _
    unfold HasU
    rw [upd_ne hn]; exact h'
theorem RO.mono {ρ' : Nat → Addr} {F' : Hp} {n n' : Nat} {H' : Hp} {a : Addr} (hρ : ∀ l, l < n → ρ' l = ρ l) (hF : ∀ a o, F a = Option.some o → F' a = Option.some o) (hn : n ≤ n') (hH : H' a = H a) : ∀ {o : O}, RO T ρ F n H a o → RO T ρ' F' n' H' a o
  | .lst ds, ⟨vs, h, r⟩ => ⟨vs, hH.trans h, r.mono hρ hF hn⟩
  | .dct ds, ⟨vs, h, r⟩ => ⟨vs, hH.trans h, r.mono hρ hF hn⟩
  | .ins c fs, ⟨dx, vs, h, r⟩ => ⟨dx, vs, hH.trans h, Paired.mapP r fun p q z => ⟨z.1, z.2.mono hρ hF hn⟩⟩
  | .dead, _ => trivial
theorem dead_set {S : Store} {l m : Nat} (h : S[m]? = Option.some O.dead) : (S.set l .dead)[m]? = Option.some O.dead := by
  by_cases z : m = l
  · subst z
    rw [List.getElem?_set_self (List.getElem?_eq_some_iff.mp h).1]
  · rw [List.getElem?_set_ne (Ne.symm z)]
    exact h
theorem Rel.ne_new (rl : Rel T K ρ F S H) {p : Addr} (hp : H p = none) {l : Nat} (hl : l < S.length) : ρ l ≠ p := fun e => rl.there l hl (e ▸ hp)
theorem Rel.f_new (rl : Rel T K ρ F S H) {p : Addr} (hp : H p = none) : F p = none := by
  cases e : F p with
  | none => rfl
  | some u => exact absurd hp (rl.sub p u e).some
/-- a new frozen object -/
theorem Rel.lay (rl : Rel T K ρ F S H) {p : Addr} {o : HO} (hp : H p = none) (ho : HasU (upd H p o) p o) :
    Rel T K ρ (upd F p o) S (upd H p o) ∧ Ext ρ F S H ρ (upd F p o) S (upd H p o) := by
  have fp := rl.f_new hp
  have sub : ∀ a u, F a = some u → upd F p o a = some u := fun a u e => by rw [upd_ne (ne_of_none e fp)]; exact e
  refine ⟨⟨fun a u e => ?_, fun l o' e => ?_, rl.inj, fun l o' e hd => ?_, fun l hl => ?_⟩, ⟨Nat.le_refl _, fun _ _ => rfl, sub, fun b o' e _ => by rw [upd_ne (ne_of_none e hp)]; exact e, fun _ h => h, fun b hb => ?_, fun a ha => ?_, fun l h h' => absurd (Nat.lt_of_le_of_lt h h') (Nat.lt_irrefl _)⟩⟩
  · by_cases ha : a = p
    · subst ha; rw [upd_same] at e; cases e; exact ho
    · rw [upd_ne ha] at e; exact (rl.sub a u e).upd ha
  · have hl : l < S.length := (List.getElem?_eq_some_iff.mp e).1
    exact (rl.cell l o' e).mono (fun _ _ => rfl) sub (Nat.le_refl _) (upd_ne (rl.ne_new hp hl))
  · have hl : l < S.length := (List.getElem?_eq_some_iff.mp e).1
    rw [upd_ne (rl.ne_new hp hl)]; exact rl.sep l o' e hd
  · rw [upd_ne (rl.ne_new hp hl)]; exact rl.there l hl
  · by_cases e : b = p
    · subst e; rw [upd_same]; exact fun z => by cases z
    · rw [upd_ne e]; exact hb
  · by_cases e : a = p
    · subst e; exact .inr (.inl hp)
    · rw [upd_ne e] at ha; exact .inl ha
/-- a new cell -/
theorem Rel.push (rl : Rel T K ρ F S H) {p : Addr} {o : O} {ho : HO} (hp : H p = none) (hn : ∀ ρ', (∀ l, l < S.length → ρ' l = ρ l) → RO T ρ' F (S.length + 1) (upd H p ho) p o) :
    Rel T K (fun l => if l = S.length then p else ρ l) F (S ++ [o]) (upd H p ho) ∧ Ext ρ F S H (fun l => if l = S.length then p else ρ l) F (S ++ [o]) (upd H p ho) := by
  have fp := rl.f_new hp
  have ag : ∀ l, l < S.length → (fun l => if l = S.length then p else ρ l) l = ρ l := fun l hl => if_neg (Nat.ne_of_lt hl)
  have ls : (S ++ [o]).length = S.length + 1 := by simp
  refine ⟨⟨fun a u e => (rl.sub a u e).upd (fun z => ?_), fun l o' e => ?_, fun l m hl hm e => ?_, fun l o' e hd => ?_, fun l hl => ?_⟩, ⟨by rw [ls]; omega, ag, fun _ _ h => h, fun b o' e _ => by rw [upd_ne (ne_of_none e hp)]; exact e, fun l h => by rw [List.getElem?_append_left (List.getElem?_eq_some_iff.mp h).1]; exact h, fun b hb => ?_, fun a ha => .inl ha, fun l h h' => ?_⟩⟩
  · subst z; rw [fp] at e; cases e
  · rw [ls]
    by_cases hl : l < S.length
    · rw [List.getElem?_append_left hl] at e
      show RO T _ F _ (upd H p ho) (if l = S.length then p else ρ l) o'
      rw [if_neg (Nat.ne_of_lt hl)]
      exact (rl.cell l o' e).mono ag (fun _ _ h => h) (Nat.le_succ _) (upd_ne (rl.ne_new hp hl))
    · have hl2 : l < (S ++ [o]).length := (List.getElem?_eq_some_iff.mp e).1
      have : l = S.length := by rw [ls] at hl2; omega
      subst this
      rw [List.getElem?_append_right (Nat.le_refl _)] at e
      simp at e
      subst e
      show RO T _ F _ (upd H p ho) (if S.length = S.length then p else ρ S.length) o
      rw [if_pos rfl]
      exact hn _ ag
  · rw [ls] at hl hm
    by_cases h1 : l = S.length
    · by_cases h2 : m = S.length
      · rw [h1, h2]
      · rw [if_pos h1, if_neg h2] at e
        exact absurd e.symm (rl.ne_new hp (by omega))
    · by_cases h2 : m = S.length
      · rw [if_neg h1, if_pos h2] at e
        exact absurd e (rl.ne_new hp (by omega))
      · rw [if_neg h1, if_neg h2] at e
        exact rl.inj l m (by omega) (by omega) e
  · by_cases hl : l = S.length
    · rw [if_pos hl]; exact fp
    · have hl2 : l < (S ++ [o]).length := (List.getElem?_eq_some_iff.mp e).1
      rw [ls] at hl2
      rw [List.getElem?_append_left (by omega)] at e
      rw [if_neg hl]; exact rl.sep l o' e hd
  · rw [ls] at hl
    by_cases h1 : l = S.length
    · rw [if_pos h1, upd_same]; exact fun z => by cases z
    · rw [if_neg h1, upd_ne (rl.ne_new hp (by omega))]; exact rl.there l (by omega)
  · by_cases e : b = p
    · subst e; rw [upd_same]; exact fun z => by cases z
    · rw [upd_ne e]; exact hb
  · rw [ls] at h'
    have : l = S.length := by omega
    rw [if_pos this]; exact hp
/-- a cell is written -/
theorem Rel.write (rl : Rel T K ρ F S H) {l : Nat} {o o' : O} {ho : HO} (e : S[l]? = some o) (hd : o ≠ .dead) (hn : RO T ρ F S.length (upd H (ρ l) ho) (ρ l) o') :
    Rel T K ρ F (S.set l o') (upd H (ρ l) ho) ∧ Ext ρ F S H ρ F (S.set l o') (upd H (ρ l) ho) := by
  have hl : l < S.length := (List.getElem?_eq_some_iff.mp e).1
  have fl := rl.sep l o e hd
  have ls : (S.set l o').length = S.length := by simp
  refine ⟨⟨fun a u h => (rl.sub a u h).upd (fun z => ?_), fun m q h => ?_, ?_, fun m q h hq => ?_, fun m hm => ?_⟩, ⟨by rw [ls]; omega, fun _ _ => rfl, fun _ _ h => h, fun b q h hb => by rw [upd_ne (Ne.symm (hb l hl (fun z => hd (Option.some.inj (e.symm.trans z)))))]; exact h, fun m h => by rw [List.getElem?_set_ne (fun z => hd (by subst z; exact Option.some.inj (e.symm.trans h)))]; exact h, fun b hb => ?_, fun a ha => .inl ha, fun m h h' => ?_⟩⟩
  · subst z; rw [fl] at h; cases h
  · rw [ls]
    by_cases hm : m = l
    · subst hm
      rw [List.getElem?_set_self hl] at h
      cases h
      exact hn
    · rw [List.getElem?_set_ne (Ne.symm hm)] at h
      have hml : m < S.length := (List.getElem?_eq_some_iff.mp h).1
      exact (rl.cell m q h).mono (fun _ _ => rfl) (fun _ _ h => h) (Nat.le_refl _) (upd_ne fun z => hm (rl.inj m l hml hl z))
  · rw [ls]; exact rl.inj
  · by_cases hm : m = l
    · subst hm; exact fl
    · rw [List.getElem?_set_ne (Ne.symm hm)] at h
      exact rl.sep m q h hq
  · rw [ls] at hm
    by_cases z : ρ m = ρ l
    · rw [z, upd_same]; exact fun z => by cases z
    · rw [upd_ne z]; exact rl.there m hm
  · by_cases z : b = ρ l
    · subst z; rw [upd_same]; exact fun z => by cases z
    · rw [upd_ne z]; exact hb
  · rw [ls] at h'; omega
/-- a cell is frozen -/
theorem Rel.freeze (rl : Rel T K ρ F S H) {l : Nat} {o : O} {ho : HO} (e : S[l]? = some o) (hd : o ≠ .dead) (hh : H (ρ l) = some ho) (hu : HasU H (ρ l) ho) :
    Rel T K ρ (upd F (ρ l) ho) (S.set l .dead) H ∧ Ext ρ F S H ρ (upd F (ρ l) ho) (S.set l .dead) H := by
  have hl : l < S.length := (List.getElem?_eq_some_iff.mp e).1
  have fl := rl.sep l o e hd
  have ls : (S.set l .dead).length = S.length := by simp
  have sub : ∀ a u, F a = some u → upd F (ρ l) ho a = some u := fun a u e => by rw [upd_ne (ne_of_none e fl)]; exact e
  refine ⟨⟨fun a u h => ?_, fun m q h => ?_, ?_, fun m q h hq => ?_, fun m hm => ?_⟩, ⟨by rw [ls]; omega, fun _ _ => rfl, sub, fun b q h _ => h, fun m h => dead_set h, fun b hb => hb, fun a ha => ?_, fun m h h' => ?_⟩⟩
  · by_cases z : a = ρ l
    · subst z; rw [upd_same] at h; cases h; exact hu
    · rw [upd_ne z] at h; exact rl.sub a u h
  · rw [ls]
    by_cases hm : m = l
    · subst hm
      rw [List.getElem?_set_self hl] at h
      cases h
      trivial
    · rw [List.getElem?_set_ne (Ne.symm hm)] at h
      exact (rl.cell m q h).mono (fun _ _ => rfl) sub (Nat.le_refl _) rfl
  · rw [ls]; exact rl.inj
  · by_cases hm : m = l
    · subst hm
      rw [List.getElem?_set_self hl] at h
      cases h
      exact absurd rfl hq
    · rw [List.getElem?_set_ne (Ne.symm hm)] at h
      have hml : m < S.length := (List.getElem?_eq_some_iff.mp h).1
      rw [upd_ne fun z => hm (rl.inj m l hml hl z)]
      exact rl.sep m q h hq
  · rw [ls] at hm; exact rl.there m hm
  · by_cases z : a = ρ l
    · exact .inr (.inr ⟨l, hl, z.symm⟩)
    · rw [upd_ne z] at ha; exact .inl ha
  · rw [ls] at h'; omega
/-! ### what a value of ours says of theirs -/
theorem Rel.asM (rl : Rel T K ρ F S H) {d : D} {v : V} {xs : List D} (r : RV T.ca ρ F S.length d v) (h : Mp.asM S d = some xs) : ∃ a vs, v = .ref a ∧ H a = some (.lst vs) ∧ RL T.ca ρ F S.length xs vs := by
  cases d <;> simp only [Mp.asM] at h <;> try (cases h; done)
  · cases h
    cases r with
    | lst e r => exact ⟨_, _, rfl, rl.sub _ _ e, r⟩
  · rename_i l
    cases r
    split at h
    · rename_i ys e
      cases h
      obtain ⟨vs, e2, r2⟩ := rl.cell _ _ e
      exact ⟨_, vs, rfl, e2, r2⟩
    · cases h
theorem Rel.asL (rl : Rel T K ρ F S H) {d : D} {v : V} {xs : List D} (r : RV T.ca ρ F S.length d v) (h : Mp.asL S d = some xs) : ∃ a vs, v = .ref a ∧ SqL K H a vs ∧ RL T.ca ρ F S.length xs vs := by
  cases d <;> simp only [Mp.asL] at h <;> try (cases h; done)
  · cases h
    cases r with
    | lst e r => exact ⟨_, _, rfl, SqL.of (rl.sub _ _ e), r⟩
  · cases h
    cases r with
    | slst e r => exact ⟨_, _, rfl, .inl (.inr ⟨_, rl.sub _ _ e⟩), r⟩
  · rename_i l
    cases r
    split at h
    · rename_i ys e
      cases h
      obtain ⟨vs, e2, r2⟩ := rl.cell _ _ e
      exact ⟨_, vs, rfl, SqL.of e2, r2⟩
    · cases h
theorem Rel.asQ (rl : Rel T K ρ F S H) {d : D} {v : V} {xs : List D} (r : RV T.ca ρ F S.length d v) (h : Mp.asQ S d = some xs) : ∃ a vs, v = .ref a ∧ (SqL K H a vs ∨ SqT K H a vs) ∧ RL T.ca ρ F S.length xs vs := by
  cases d
  case tup ys =>
    simp only [Mp.asQ] at h
    cases h
    cases r with
    | tup e r => exact ⟨_, _, rfl, .inr (SqT.of (rl.sub _ _ e)), r⟩
  all_goals
    simp only [Mp.asQ] at h
    obtain ⟨a, vs, e, q, z⟩ := rl.asL r h
    exact ⟨a, vs, e, .inl q, z⟩
theorem Rel.asK (rl : Rel T K ρ F S H) {d : D} {v : V} {xs : List (DK × D)} (r : RV T.ca ρ F S.length d v) (h : Mp.asK S d = some xs) : ∃ a vs, v = .ref a ∧ Rd H a (.dK vs) ∧ RK T.ca ρ F S.length xs vs := by
  cases d <;> simp only [Mp.asK] at h <;> try (cases h; done)
  · cases h
    cases r with
    | dct e r => exact ⟨_, _, rfl, rl.sub _ _ e, r⟩
  · rename_i l
    cases r
    split at h
    · rename_i ys e
      cases h
      obtain ⟨vs, e2, r2⟩ := rl.cell _ _ e
      exact ⟨_, vs, rfl, .inl e2, r2⟩
    · cases h
end
/-- values of ours, lists of them -/
abbrev gV (T : Tb) : RG D V := fun ρ F n d v => RV T.ca ρ F n d v
abbrev gL (T : Tb) : RG (List D) (List V) := fun ρ F n d v => RL T.ca ρ F n d v
section
variable {T : Tb} {K : PySem.W.Frag} {ρ : Nat → Addr} {F : Hp} {S : Store} {H : Hp} {Q : VK} {E : XK}
/-- a new list -/
theorem alloc_ok {m : Bool} {xs : List D} {vs : List V} {p : Addr} (rl : Rel T K ρ F S H) (r : RL T.ca ρ F S.length xs vs) (h : PostG T K (gV T) ρ F S H (alloc m xs S) Q E) (hp : H p = none) : Q (.ref p) (upd H p (.lst vs)) := by
  cases m with
  | false =>
    obtain ⟨rl', x⟩ := rl.lay (o := .lst vs) hp upd_same
    exact h ρ _ _ _ x rl' (.lst upd_same (x.rl r))
  | true =>
    obtain ⟨rl', x⟩ := rl.push (o := .lst xs) (ho := .lst vs) hp fun ρ' ag => ⟨vs, upd_same, r.mono ag (fun _ _ h => h) (Nat.le_succ _)⟩
    refine h _ F _ (.ref p) x rl' ?_
    have : RV T.ca (fun l => if l = S.length then p else ρ l) F (S ++ [O.lst xs]).length (.ref S.length) (.ref ((fun l => if l = S.length then p else ρ l) S.length)) := .ref (by simp)
    simpa using this
theorem allocK_ok {m : Bool} {xs : List (DK × D)} {vs : List (Key × V)} {p : Addr} (rl : Rel T K ρ F S H) (r : RK T.ca ρ F S.length xs vs) (h : PostG T K (gV T) ρ F S H (allocK m xs S) Q E) (hp : H p = none) : Q (.ref p) (upd H p (.dK vs)) := by
  cases m with
  | false =>
    obtain ⟨rl', x⟩ := rl.lay (o := .dK vs) hp (.inl upd_same)
    exact h ρ _ _ _ x rl' (.dct upd_same (r.mono x.agree x.subF x.len))
  | true =>
    obtain ⟨rl', x⟩ := rl.push (o := .dct xs) (ho := .dK vs) hp fun ρ' ag => ⟨vs, upd_same, r.mono ag (fun _ _ h => h) (Nat.le_succ _)⟩
    refine h _ F _ (.ref p) x rl' ?_
    have : RV T.ca (fun l => if l = S.length then p else ρ l) F (S ++ [O.dct xs]).length (.ref S.length) (.ref ((fun l => if l = S.length then p else ρ l) S.length)) := .ref (by simp)
    simpa using this
theorem tup_ok {xs : List D} {vs : List V} {p : Addr} (rl : Rel T K ρ F S H) (r : RL T.ca ρ F S.length xs vs) (h : PostG T K (gV T) ρ F S H (.ok (.tup xs) S) Q E) (hp : H p = none) : Q (.ref p) (upd H p (.tup vs)) := by
  obtain ⟨rl', x⟩ := rl.lay (o := .tup vs) hp upd_same
  exact h ρ _ _ _ x rl' (.tup upd_same (x.rl r))
end
end Mp
end
section
set_option maxHeartbeats 4000000
namespace Mp
open PySem L2 PyProof.Rows
def BOp.op : BOp → Operator
  | .add => .Add | .sub => .Sub | .mul => .Mult | .fdiv => .FloorDiv | .mod => .Mod | .pow => .Pow
def rB (T : Tb) (K : PySem.W.Frag) (E : XK) (f : D → D → Store → Res D) : R2 := fun x y H Q => ∃ ρ F S dx dy, Rel T K ρ F S H ∧ RV T.ca ρ F S.length dx x ∧ RV T.ca ρ F S.length dy y ∧ PostG T K (gV T) ρ F S H (f dx dy S) Q E
section
variable {T : Tb} {X : Cx} {E : XK}
theorem mulOk_ok {i j : Int} (h : mulOk i j = true) : PySem.IntMulOk i j := by
  unfold mulOk at h
  simp only [Bool.or_eq_true, decide_eq_true_eq] at h
  rcases h with (h | h) | h
  · exact CMul.ok (.inl (by omega))
  · exact CMul.ok (.inr (by omega))
  · exact CMulW.ok h
theorem lim_eq : lim = sizeLine := rfl
theorem str_app (a b : List Nat) : sOf a ++ sOf b = sOf (a ++ b) := by
  show (⟨(sOf a).cps ++ (sOf b).cps⟩ : Str) = _
  simp [sOf]
theorem intBits_le (i : Int) : Builtin.Int.intBits i ≤ i.natAbs.log2 + 1 := by
  unfold Builtin.Int.intBits
  split <;> simp_all
theorem op_powX : OpR X (binaryOp .Pow) (rI (fun i j => powOk i j = true) fun i j => .int (i ^ j.toNat)) := opI fun i j t u s Q E hc q => by
  unfold powOk at hc
  simp only [Bool.and_eq_true, Bool.or_eq_true, decide_eq_true_eq] at hc
  obtain ⟨h0, h1 | h1⟩ := hc
  · exact pow_int_small h0 h1.1 h1.2 q
  · refine pow_int h0 ?_ q
    have h2 : (Builtin.Int.intBits i : Int) ≤ (i.natAbs.log2 : Int) + 1 := by
      have := intBits_le i
      omega
    have h3 : (Builtin.Int.intBits i : Int) * j ≤ ((i.natAbs.log2 : Int) + 1) * j := Int.mul_le_mul_of_nonneg_right h2 h0
    have h4 : (134217728 : Int) = 2 ^ 27 := by decide
    omega
theorem mul_txt (a : List Nat) (k : Int) : Txt.mul (sOf a) k = sOf (List.replicate k.toNat a).flatten := by
  have f0 : ∀ (m : Nat) (acc : List Nat), List.foldl (fun x1 x2 => x1 ++ x2) acc.toArray (List.replicate m a.toArray) = (acc ++ (List.replicate m a).flatten).toArray := fun m => by
    induction m with
    | zero => intro acc; simp
    | succ m ih =>
      intro acc
      rw [List.replicate_succ, List.foldl_cons, List.append_toArray, ih, List.replicate_succ, List.flatten_cons, List.append_assoc]
  unfold Txt.mul
  split
  · rename_i h
    rw [show k.toNat = 0 by omega]
    rfl
  · split
    · rename_i h1 h2
      rcases Bool.or_eq_true_iff.mp h2 with h | h
      · rw [show k.toNat = 1 by have := beq_iff_eq.mp h; omega]
        simp
      · have : a = [] := by
          have := beq_iff_eq.mp h
          rw [sOf_len] at this
          exact List.eq_nil_of_length_eq_zero this
        subst this
        have : ∀ m : Nat, (List.replicate m ([] : List Nat)).flatten = [] := fun m => by
          induction m with
          | zero => rfl
          | succ m ih => rw [List.replicate_succ, List.flatten_cons, ih]; rfl
        rw [this]
    · have := f0 k.toNat []
      rw [List.nil_append] at this
      exact congrArg Str.mk this
theorem op_mul_str : OpR X (binaryOp .Mult) (fun x y H Q => ∃ (a : List Nat) (k : Int), x = .str (sOf a) ∧ y = .int k ∧ -(2 ^ 63) ≤ k ∧ k ≤ 1048576 ∧ a.length ≤ 16 ∧ Q (.str (sOf (List.replicate k.toNat a).flatten)) H) := by
  intro pins s σ H x y v u Q I rx ry h
  obtain ⟨a, k, rfl, rfl, h1, h2, h3, q⟩ := h
  obtain ⟨t, rfl⟩ := rx
  obtain ⟨t', rfl⟩ := ry
  refine SB.mul (mulOk_of 16 1048576 (by rw [sOf_len]; exact h3) h2 (by omega) (by decide) (by decide)) fun t' k' => ?_
  rw [mul_txt]
  exact ⟨.str _, H, I.tok _, ⟨_, rfl⟩, q⟩
theorem op_mulM : OpR X (binaryOp .Mult) (rI (fun i j => mulOk i j = true) fun i j => .int (i * j)) := opI fun i j t u s Q E hc q => mul_int q (mulOk_ok hc)
theorem binop_ok (m : Bool) (op : BOp) : OpR X (binaryOp op.op) (rB T X.K E (binop m op)) := by
  intro pins s σ H x y v u Q I rx ry h
  obtain ⟨ρ, F, S, dx, dy, rl, r1, r2, hp⟩ := h
  unfold binop at hp
  split at hp
  · cases r1; cases r2
    exact op_add pins s σ H _ _ v u Q I rx ry ⟨_, _, rfl, rfl, hp.here rl (.int _)⟩
  · cases r1; cases r2
    exact op_add_ib pins s σ H _ _ v u Q I rx ry ⟨_, _, rfl, rfl, hp.here rl (.int _)⟩
  · cases r1; cases r2
    split at hp
    · rename_i hl
      exact op_add_str pins s σ H _ _ v u Q I rx ry ⟨_, _, rfl, rfl, by rw [sOf_len, sOf_len]; exact hl, by rw [str_app]; exact hp.here rl (.str _)⟩
    · exact hp.elim
  · cases r1; cases r2
    exact op_sub pins s σ H _ _ v u Q I rx ry ⟨_, _, rfl, rfl, hp.here rl (.int _)⟩
  · cases r1; cases r2
    split at hp
    · rename_i hl
      exact op_mulM pins s σ H _ _ v u Q I rx ry ⟨_, _, rfl, rfl, hl, hp.here rl (.int _)⟩
    · exact hp.elim
  · cases r1; cases r2
    split at hp
    · rename_i hl
      exact op_fdivW pins s σ H _ _ v u Q I rx ry ⟨_, _, rfl, rfl, hl, hp.here rl (.int _)⟩
    · exact hp.elim
  · cases r1; cases r2
    split at hp
    · rename_i hl
      exact op_mod pins s σ H _ _ v u Q I rx ry ⟨_, _, rfl, rfl, hl, hp.here rl (.int _)⟩
    · exact hp.elim
  · cases r1; cases r2
    split at hp
    · rename_i hl
      exact op_powX pins s σ H _ _ v u Q I rx ry ⟨_, _, rfl, rfl, hl, hp.here rl (.int _)⟩
    · exact hp.elim
  · cases r1; cases r2
    split at hp
    · rename_i hl
      exact op_mul_str pins s σ H _ _ v u Q I rx ry ⟨_, _, rfl, rfl, hl.1, hl.2.1, hl.2.2, hp.here rl (.str _)⟩
    · exact hp.elim
  · split at hp
    · rename_i xs ys e1 e2
      split at hp
      · rename_i hl
        obtain ⟨a, vs, rfl, ha, ra⟩ := rl.asM r1 e1
        obtain ⟨b, us, rfl, hb, rb⟩ := rl.asM r2 e2
        exact op_cat pins s σ H _ _ v u Q I rx ry ⟨_, _, _, _, rfl, rfl, ha, hb, by rw [← ra.length, ← rb.length]; exact hl, fun p hn => alloc_ok rl (ra.append rb) hp hn⟩
      · exact hp.elim
    · exact hp.elim
  · split at hp
    · rename_i xs e1
      split at hp
      · rename_i hl
        obtain ⟨a, vs, rfl, ha, ra⟩ := rl.asM r1 e1
        cases r2
        exact op_rep pins s σ H _ _ v u Q I rx ry ⟨_, _, _, rfl, rfl, ha, hl.1, hl.2.1, by rw [← ra.length]; exact hl.2.2, fun p hn => alloc_ok rl (ra.rep _) hp hn⟩
      · exact hp.elim
    · exact hp.elim
  · exact hp.elim
theorem op_negM : UnR X (unaryOp .USub) (fun x H Q => ∃ ρ F S dx, Rel T X.K ρ F S H ∧ RV T.ca ρ F S.length dx x ∧ PostG T X.K (gV T) ρ F S H (match dx with | .int i => Res.ok (.int (-i)) S | _ => .stuck) Q E) := by
  intro pins s σ H x v Q I rx h
  obtain ⟨ρ, F, S, dx, rl, r1, hp⟩ := h
  split at hp
  · cases r1
    exact un_neg pins s σ H _ v Q I rx ⟨_, rfl, hp.here rl (.int _)⟩
  · exact hp.elim
end
end Mp
end
section
set_option maxHeartbeats 4000000
namespace Mp
open PySem L2 PyProof.Rows
def COp.op : COp → CmpOp
  | .eq => .Eq | .ne => .NotEq | .lt => .Lt | .le => .LtE | .gt => .Gt | .ge => .GtE | .is_ => .Is | .isnot => .IsNot | .in_ => .In | .notin => .NotIn
theorem ltL_lt : ∀ a b : List Nat, decide (a < b) = ltL a b
  | [], [] => rfl
  | [], _ :: _ => by simp [ltL]
  | _ :: _, [] => by simp [ltL]
  | x :: xs, y :: ys => by
    have ih := ltL_lt xs ys
    unfold ltL
    by_cases h1 : x < y
    · rw [if_pos h1]
      exact decide_eq_true (List.cons_lt_cons_iff.mpr (.inl h1))
    · rw [if_neg h1]
      by_cases h2 : y < x
      · rw [if_pos h2]
        refine decide_eq_false fun h => ?_
        rcases List.cons_lt_cons_iff.mp h with h | ⟨h, _⟩
        · exact h1 h
        · omega
      · rw [if_neg h2]
        have e : x = y := by omega
        subst e
        rw [← ih]
        refine decide_eq_decide.mpr ⟨fun h => ?_, fun h => List.cons_lt_cons_iff.mpr (.inr ⟨rfl, h⟩)⟩
        rcases List.cons_lt_cons_iff.mp h with h | ⟨_, h⟩
        · exact absurd h h1
        · exact h
theorem sOf_iff {a b : List Nat} : sOf a = sOf b ↔ a = b := ⟨sOf_inj, fun h => by rw [h]⟩
/-! ### flat values -/
section
variable {ca ρ : Nat → Addr} {F : Hp} {n : Nat}
theorem RV.flat {d : D} {v : V} (r : RV ca ρ F n d v) (h : Mp.flat d = true) : flatV v = true := by
  cases r <;> first | rfl | (simp [Mp.flat] at h)
theorem RL.flat : ∀ {ds : List D} {vs : List V}, RL ca ρ F n ds vs → ds.all Mp.flat = true → vs.all flatV = true
  | _, _, .nil, _ => rfl
  | _, _, .cons r t, h => by
    simp only [List.all_cons, Bool.and_eq_true] at h ⊢
    exact ⟨r.flat h.1, RL.flat t h.2⟩
theorem dec_str' {a b : List Nat} : (sOf a == sOf b) = decide (a = b) := by
  by_cases h : a = b
  · subst h; simp
  · rw [decide_eq_false h]
    exact beq_eq_false_iff_ne.mpr fun e => h (sOf_inj e)
theorem RV.eqf {d e : D} {v u : V} (r : RV ca ρ F n d v) (q : RV ca ρ F n e u) (h : Mp.flat d = true) (h' : Mp.flat e = true) : eqV v u = Mp.eqf d e := by
  cases r <;> (try (simp [Mp.flat] at h; done)) <;> cases q <;> (try (simp [Mp.flat] at h'; done)) <;> simp only [eqV, Mp.eqf, b2i, dec_str'] <;>
    first | rfl | (simp only [Bool.beq_eq_decide_eq]) | skip
theorem RL.anyf {e : D} {u : V} (q : RV ca ρ F n e u) (h' : Mp.flat e = true) : ∀ {ds : List D} {vs : List V}, RL ca ρ F n ds vs → ds.all Mp.flat = true → (vs.any fun y => eqV y u) = ds.any fun z => Mp.eqf z e
  | _, _, .nil, _ => rfl
  | _, _, .cons r t, h => by
    simp only [List.all_cons, Bool.and_eq_true] at h
    simp only [List.any_cons, r.eqf q h.1 h', RL.anyf q h' t h.2]
theorem RV.key {d : D} {v : V} {k : DK} (r : RV ca ρ F n d v) (h : kOf d = some k) : v = kV (kk k) := by
  cases r <;> simp [kOf] at h <;> subst h <;> rfl
theorem RK.val (k : DK) : ∀ {ds : List (DK × D)} {vs : List (Key × V)}, RK ca ρ F n ds vs → (getK ds k = none ∧ valV vs (kk k) = none) ∨ ∃ d v, getK ds k = some d ∧ valV vs (kk k) = some v ∧ RV ca ρ F n d v
  | _, _, .nil => .inl ⟨rfl, rfl⟩
  | _, _, .cons (k := j) (d := d) (v := v) (ds := ds) (vs := vs) r t => by
    by_cases e : j = k
    · subst e
      exact .inr ⟨d, v, by simp [getK], by simp [valV], r⟩
    · have e2 : ¬ kk j = kk k := fun z => e (kk_inj z)
      rcases RK.val k t with ⟨h1, h2⟩ | ⟨d', v', h1, h2, h3⟩
      · refine .inl ⟨?_, by rw [valV_neg e2]; exact h2⟩
        unfold getK at h1 ⊢
        rw [List.find?_cons_of_neg (by simpa using e)]; exact h1
      · refine .inr ⟨d', v', ?_, by rw [valV_neg e2]; exact h2, h3⟩
        unfold getK at h1 ⊢
        rw [List.find?_cons_of_neg (by simpa using e)]; exact h1
end
/-! ### trees -/
mutual
def toPy : D → PyData
  | .bl b => .bool b
  | .int i => .int i
  | .str s => .str (sOf s)
  | .tup xs => .tuple (toPyL xs)
  | .lst xs => .list (toPyL xs)
  | _ => .none
def toPyL : List D → List PyData
  | [] => []
  | x :: xs => toPy x :: toPyL xs
end
theorem mapM_cons_some {α β : Type} {f : α → Option β} {x : α} {xs : List α} {ys : List β} (h : (x :: xs).mapM f = some ys) : ∃ y zs, f x = some y ∧ xs.mapM f = some zs ∧ ys = y :: zs := by
  rw [List.mapM_cons] at h
  cases e : f x with
  | none => rw [e] at h; cases h
  | some y =>
    rw [e] at h
    cases e2 : xs.mapM f with
    | none => simp [e2] at h
    | some zs => simp [e2] at h; exact ⟨y, zs, rfl, rfl, h.symm⟩
section
variable {T : Tb} {K : PySem.W.Frag} {ρ : Nat → Addr} {F : Hp} {S : Store} {H : Hp}
/-- a tree of ours is data of theirs -/
structure Tree (K : PySem.W.Frag) (H : Hp) (n : Nat) (e : D) (v : V) : Prop where
  dp : Dp K H v (toPy e)
  lay : (toPy e).canLay0 = true
  dep : (toPy e).depth ≤ n
structure TreeL (K : PySem.W.Frag) (H : Hp) (n : Nat) (e : List D) (v : List V) : Prop where
  dp : DpAll K H v (toPyL e)
  lay : PyData.canLayAll0 (toPyL e) = true
  dep : PyData.depthAll (toPyL e) ≤ n
theorem trees_of {n : Nat} (ih : ∀ (d : D) (v : V) (e : D), RV T.ca ρ F S.length d v → res S n d = some e → Tree K H n e v) : ∀ {ds : List D} {vs : List V} {es : List D}, RL T.ca ρ F S.length ds vs → ds.mapM (res S n) = some es → TreeL K H n es vs
  | _, _, es, .nil, h => by
    simp at h
    subst h
    exact ⟨.nil, rfl, Nat.zero_le _⟩
  | _, _, es, .cons r t, h => by
    obtain ⟨y, zs, h1, h2, rfl⟩ := mapM_cons_some h
    have a := ih _ _ _ r h1
    have b := trees_of ih t h2
    refine ⟨?_, ?_, ?_⟩
    · simp only [toPyL]; exact .cons a.dp b.dp
    · simp only [toPyL, PyData.canLayAll0, a.lay, b.lay, Bool.and_self]
    · simp only [toPyL, PyData.depthAll]; exact Nat.max_le.mpr ⟨a.dep, b.dep⟩
theorem Rel.tree (rl : Rel T K ρ F S H) : ∀ (n : Nat) (d : D) (v : V) (e : D), RV T.ca ρ F S.length d v → res S n d = some e → Tree K H n e v
  | 0, _, _, _, _, h => by simp [res] at h
  | n + 1, d, v, e, r, h => by
    have L : ∀ {ds : List D} {vs : List V} {es : List D}, RL T.ca ρ F S.length ds vs → ds.mapM (res S n) = some es → TreeL K H n es vs := fun r h => trees_of (Rel.tree rl n) r h
    have lst : ∀ {a : Addr} {ds : List D} {vs : List V}, SqL K H a vs → RL T.ca ρ F S.length ds vs → (ds.mapM (res S n)).map D.lst = some e → Tree K H (n + 1) e (.ref a) := fun {a ds vs} hs r h => by
      cases q : ds.mapM (res S n) with
      | none => rw [q] at h; cases h
      | some es =>
        rw [q] at h; cases h
        have b := L r q
        exact ⟨by simp only [toPy]; exact .lst hs b.dp, by simp only [toPy, PyData.canLay0]; exact b.lay, by simp only [toPy, PyData.depth]; have := b.dep; omega⟩
    cases r with
    | non => simp only [res] at h; cases h; exact ⟨by simp only [toPy]; exact .non, rfl, Nat.zero_le _⟩
    | bl b => simp only [res] at h; cases h; exact ⟨by simp only [toPy]; exact .bl b, rfl, Nat.zero_le _⟩
    | int i => simp only [res] at h; cases h; exact ⟨by simp only [toPy]; exact .int i, rfl, Nat.zero_le _⟩
    | str s =>
      simp only [res] at h
      split at h
      · rename_i hs
        cases h
        refine ⟨by simp only [toPy]; exact .str _, ?_, Nat.zero_le _⟩
        simp only [toPy, PyData.canLay0, PyData.strOk]
        rw [← Array.all_toList]
        exact hs
      · cases h
    | tup he r =>
      simp only [res] at h
      rename_i ds a vs
      cases q : ds.mapM (res S n) with
      | none => rw [q] at h; cases h
      | some es =>
        rw [q] at h; cases h
        have b := L r q
        exact ⟨by simp only [toPy]; exact .tup (SqT.of (rl.sub _ _ he)) b.dp, by simp only [toPy, PyData.canLay0]; exact b.lay, by simp only [toPy, PyData.depth]; have := b.dep; omega⟩
    | lst he r => simp only [res] at h; exact lst (SqL.of (rl.sub _ _ he)) r h
    | slst he r => simp only [res] at h; exact lst (.inl (.inr ⟨_, rl.sub _ _ he⟩)) r h
    | ref hl =>
      simp only [res] at h
      split at h
      · rename_i ys e2
        obtain ⟨vs, e3, r3⟩ := rl.cell _ _ e2
        exact lst (SqL.of e3) r3 h
      · cases h
    | dct _ _ => simp [res] at h
    | exn _ _ _ => simp [res] at h
    | bty _ => simp [res] at h
    | cls _ => simp [res] at h
theorem Tree.shaped {e : D} {v : V} (t : Tree K H 60 e v) : SeqAt.shaped (toPy e) = true := by
  unfold SeqAt.shaped
  rw [t.lay, Bool.true_and]
  exact decide_eq_true (Nat.le_trans t.dep (by decide))
end
/-! trees that res gives -/
mutual
def treeD : D → Bool
  | .non => true
  | .bl _ => true
  | .int _ => true
  | .str _ => true
  | .tup xs => treeL xs
  | .lst xs => treeL xs
  | _ => false
def treeL : List D → Bool
  | [] => true
  | x :: xs => treeD x && treeL xs
end
theorem treeL_mapM {S : Store} {n : Nat} (ih : ∀ (d e : D), res S n d = some e → treeD e = true) : ∀ {ds es : List D}, ds.mapM (res S n) = some es → treeL es = true
  | [], es, h => by simp at h; subst h; rfl
  | d :: ds, es, h => by
    obtain ⟨y, zs, h1, h2, rfl⟩ := mapM_cons_some h
    simp only [treeL, ih _ _ h1, treeL_mapM ih h2, Bool.and_self]
theorem treeD_res {S : Store} : ∀ (n : Nat) (d e : D), res S n d = some e → treeD e = true
  | 0, _, _, h => by simp [res] at h
  | n + 1, d, e, h => by
    have L : ∀ {ds es : List D}, ds.mapM (res S n) = some es → treeL es = true := fun h => treeL_mapM (treeD_res n) h
    have M : ∀ {ds : List D} {c : List D → D}, (∀ xs, treeD (c xs) = treeL xs) → (ds.mapM (res S n)).map c = some e → treeD e = true := fun {ds c} hc h => by
      cases q : ds.mapM (res S n) with
      | none => rw [q] at h; cases h
      | some es => rw [q] at h; cases h; rw [hc]; exact L q
    cases d <;> simp only [res] at h <;> try (cases h; done)
    all_goals first
      | (cases h; rfl)
      | exact M (fun _ => by simp only [treeD]) h
      | (split at h
         · first | (cases h; rfl) | exact M (fun _ => by simp only [treeD]) h
         · cases h)
mutual
theorem eqv_py : ∀ a b : D, treeD a = true → treeD b = true → PyData.eqv (toPy a) (toPy b) = eqv a b
  | .non, b, ha, hb => by cases b <;> simp [treeD] at hb <;> simp [toPy, PyData.eqv, eqv, eqf]
  | .bl x, b, ha, hb => by cases b <;> simp [treeD] at hb <;> simp [toPy, PyData.eqv, eqv, eqf, b2i, Bool.beq_eq_decide_eq] <;> exact decide_eq_decide.mpr Iff.rfl
  | .int x, b, ha, hb => by cases b <;> simp [treeD] at hb <;> simp [toPy, PyData.eqv, eqv, eqf, b2i, Bool.beq_eq_decide_eq] <;> exact decide_eq_decide.mpr Iff.rfl
  | .str x, b, ha, hb => by cases b <;> simp [treeD] at hb <;> simp [toPy, PyData.eqv, eqv, eqf, dec_str']
  | .tup xs, b, ha, hb => by
    cases b <;> simp [treeD] at ha hb <;> simp [toPy, PyData.eqv, eqv, eqf]
    exact eqvL_py _ _ ha hb
  | .lst xs, b, ha, hb => by
    cases b <;> simp [treeD] at ha hb <;> simp [toPy, PyData.eqv, eqv, eqf]
    exact eqvL_py _ _ ha hb
  | .slst _, _, ha, _ => by simp [treeD] at ha
  | .dct _, _, ha, _ => by simp [treeD] at ha
  | .exn _ _, _, ha, _ => by simp [treeD] at ha
  | .bty _, _, ha, _ => by simp [treeD] at ha
  | .cls _, _, ha, _ => by simp [treeD] at ha
  | .ref _, _, ha, _ => by simp [treeD] at ha
theorem eqvL_py : ∀ a b : List D, treeL a = true → treeL b = true → PyData.eqvAll (toPyL a) (toPyL b) = eqvL a b
  | [], b, _, _ => by cases b <;> simp [toPyL, PyData.eqvAll, eqvL]
  | x :: xs, b, ha, hb => by
    cases b with
    | nil => simp [toPyL, PyData.eqvAll, eqvL]
    | cons y ys =>
      simp [treeL] at ha hb
      simp [toPyL, PyData.eqvAll, eqvL, eqv_py x y ha.1 hb.1, eqvL_py xs ys ha.2 hb.2]
end
section
variable {T : Tb} {X : Cx} {E : XK}
theorem eq_ok (hu : X.A.units + 64 < cLine) : OpR X (compareOp .Eq) (rB T X.K E fun x y S => oneB (eqTop S x y) S) ∧ OpR X (compareOp .NotEq) (rB T X.K E fun x y S => oneB ((eqTop S x y).map (!·)) S) := by
  have key : ∀ {ρ F S H dx dy} {x y : V}, Rel T X.K ρ F S H → RV T.ca ρ F S.length dx x → RV T.ca ρ F S.length dy y → ∀ {b : Bool}, eqTop S dx dy = some b →
      (scal x y = true ∧ decide (x = y) = b) ∨ ∃ d e, Dp X.K H x d ∧ Dp X.K H y e ∧ SeqAt.shaped d = true ∧ SeqAt.shaped e = true ∧ PyData.eqv d e = b := by
    intro ρ F S H dx dy x y rl r1 r2 b h
    unfold eqTop at h
    split at h
    · rename_i hf
      simp only [Bool.and_eq_true] at hf
      refine .inl ?_
      cases r1 <;> (try (simp [Mp.flat] at hf; done)) <;> cases r2 <;> (try (simp [Mp.flat] at hf; done)) <;> simp only [eqf] at h <;> cases h <;> refine ⟨rfl, ?_⟩ <;>
        simp [dec_int, dec_bl, dec_str, dec_str', Bool.beq_eq_decide_eq, sOf_iff]
    · split at h
      · rename_i a c e1 e2
        cases h
        have t1 := rl.tree 60 _ _ _ r1 e1
        have t2 := rl.tree 60 _ _ _ r2 e2
        exact .inr ⟨_, _, t1.dp, t2.dp, t1.shaped, t2.shaped, eqv_py _ _ (treeD_res _ _ _ e1) (treeD_res _ _ _ e2)⟩
      · cases h
  constructor
  · intro pins s σ H x y v u Q I rx ry ⟨ρ, F, S, dx, dy, rl, r1, r2, hp⟩
    cases e : eqTop S dx dy with
    | none => simp only [e] at hp; exact hp.elim
    | some b =>
      simp only [e] at hp
      have hq : Q (.bl b) H := hp.here rl (.bl b)
      rcases key rl r1 r2 e with ⟨h1, h2⟩ | ⟨d, e', h1, h2, h3, h4, h5⟩
      · exact op_eq pins s σ H x y v u Q I rx ry ⟨h1, by rw [h2]; exact hq⟩
      · exact op_eqD hu pins s σ H x y v u Q I rx ry ⟨d, e', h1, h2, h3, h4, by rw [h5]; exact hq⟩
  · intro pins s σ H x y v u Q I rx ry ⟨ρ, F, S, dx, dy, rl, r1, r2, hp⟩
    cases e : eqTop S dx dy with
    | none => simp only [e] at hp; exact hp.elim
    | some b =>
      simp only [e] at hp
      have hq : Q (.bl (!b)) H := hp.here rl (.bl (!b))
      rcases key rl r1 r2 e with ⟨h1, h2⟩ | ⟨d, e', h1, h2, h3, h4, h5⟩
      · exact op_ne pins s σ H x y v u Q I rx ry ⟨h1, by rw [h2]; exact hq⟩
      · exact op_neD hu pins s σ H x y v u Q I rx ry ⟨d, e', h1, h2, h3, h4, by rw [h5]; exact hq⟩
theorem in_ok (hu : X.A.units + 1 < cLine) : OpR X (compareOp .In) (rB T X.K E fun x y S => oneB (isIn S x y) S) ∧ OpR X (compareOp .NotIn) (rB T X.K E fun x y S => oneB ((isIn S x y).map (!·)) S) := by
  have key : ∀ {ρ F S H dx dy} {x y : V}, Rel T X.K ρ F S H → RV T.ca ρ F S.length dx x → RV T.ca ρ F S.length dy y → ∀ {b : Bool}, isIn S dx dy = some b →
      (∃ (c : Nat) (z : Str), x = .str ⟨#[c]⟩ ∧ y = .str z ∧ decide (c ∈ z.cps.toList) = b) ∨ (∃ a o, y = .ref a ∧ DGet H a x o ∧ o.isSome = b) ∨
      ∃ p xs, y = .ref p ∧ (SqL X.K H p xs ∨ SqT X.K H p xs) ∧ flatV x = true ∧ xs.all flatV = true ∧ inV x xs = b := by
    intro ρ F S H dx dy x y rl r1 r2 b h
    unfold isIn at h
    split at h
    · cases r2
      split at h
      · cases r1
        cases h
        exact .inl ⟨_, _, rfl, rfl, rfl⟩
      · cases h
    · split at h
      · rename_i kvs e1
        obtain ⟨a, vs, rfl, hr, rk⟩ := rl.asK r2 e1
        cases e2 : kOf dx with
        | none => rw [e2] at h; cases h
        | some k =>
          rw [e2] at h; cases h
          refine .inr (.inl ⟨a, valV vs (kk k), rfl, .inl ⟨vs, kk k, hr, r1.key e2, rfl⟩, ?_⟩)
          show (valV vs (kk k)).isSome = (getK kvs k).isSome
          rcases rk.val k with ⟨h1, h2⟩ | ⟨d, v, h1, h2, _⟩ <;> rw [h1, h2] <;> rfl
      · split at h
        · rename_i xs e1
          split at h
          · rename_i hf
            simp only [Bool.and_eq_true] at hf
            cases h
            obtain ⟨a, vs, rfl, hr, rk⟩ := rl.asQ r2 e1
            exact .inr (.inr ⟨a, vs, rfl, hr, r1.flat hf.1, rk.flat hf.2, rk.anyf r1 hf.1 hf.2⟩)
          · cases h
        · cases h
  constructor
  · intro pins s σ H x y v u Q I rx ry ⟨ρ, F, S, dx, dy, rl, r1, r2, hp⟩
    cases e : isIn S dx dy with
    | none => simp only [e] at hp; exact hp.elim
    | some b =>
      simp only [e] at hp
      have hq : Q (.bl b) H := hp.here rl (.bl b)
      rcases key rl r1 r2 e with ⟨c, z, rfl, rfl, h2⟩ | ⟨a, o, rfl, g, h2⟩ | ⟨p, xs, rfl, h1, h2, h3, h4⟩
      · exact op_in_sign pins s σ H _ _ v u Q I rx ry ⟨c, z, rfl, rfl, by rw [h2]; exact hq⟩
      · cases ry
        exact d_in hu I g rx fun s' I' => ⟨.bl b, H, I', by rw [h2]; rfl, hq⟩
      · exact op_in_seq pins s σ H _ _ v u Q I rx ry ⟨p, xs, rfl, h1, h2, h3, by rw [if_neg (by simp), h4]; exact hq⟩
  · intro pins s σ H x y v u Q I rx ry ⟨ρ, F, S, dx, dy, rl, r1, r2, hp⟩
    cases e : isIn S dx dy with
    | none => simp only [e] at hp; exact hp.elim
    | some b =>
      simp only [e] at hp
      have hq : Q (.bl (!b)) H := hp.here rl (.bl (!b))
      rcases key rl r1 r2 e with ⟨c, z, rfl, rfl, h2⟩ | ⟨a, o, rfl, g, h2⟩ | ⟨p, xs, rfl, h1, h2, h3, h4⟩
      · exact op_notIn_sign pins s σ H _ _ v u Q I rx ry ⟨c, z, rfl, rfl, by rw [h2]; exact hq⟩
      · cases ry
        exact d_notIn hu I g rx fun s' I' => ⟨.bl (!b), H, I', by rw [h2]; rfl, hq⟩
      · exact op_notIn_seq pins s σ H _ _ v u Q I rx ry ⟨p, xs, rfl, h1, h2, h3, by rw [if_pos rfl, h4]; exact hq⟩
theorem cmpop_ok (hu : X.A.units + 64 < cLine) (op : COp) : OpR X (compareOp op.op) (rB T X.K E fun x y S => oneB (cmpop op x y S) S) := by
  cases op with
  | eq => exact (eq_ok hu).1
  | ne => exact (eq_ok hu).2
  | in_ => exact (in_ok (by omega)).1
  | notin => exact (in_ok (by omega)).2
  | is_ =>
    intro pins s σ H x y v u Q I rx ry ⟨ρ, F, S, dx, dy, rl, r1, r2, hp⟩
    simp only [cmpop] at hp
    split at hp
    · cases r2
      refine op_isN pins s σ H _ _ v u Q I rx ry ⟨rfl, ?_⟩
      have hq := hp.here rl (.bl _)
      cases r1 <;> exact hq
    · exact hp.elim
  | isnot =>
    intro pins s σ H x y v u Q I rx ry ⟨ρ, F, S, dx, dy, rl, r1, r2, hp⟩
    simp only [cmpop] at hp
    split at hp
    · cases r2
      refine op_notN pins s σ H _ _ v u Q I rx ry ⟨rfl, ?_⟩
      have hq := hp.here rl (.bl _)
      cases r1 <;> exact hq
    · exact hp.elim
  | lt =>
    intro pins s σ H x y v u Q I rx ry ⟨ρ, F, S, dx, dy, rl, r1, r2, hp⟩
    simp only [cmpop] at hp
    split at hp
    · cases r1; cases r2
      exact op_lt pins s σ H _ _ v u Q I rx ry ⟨_, _, rfl, rfl, hp.here rl (.bl _)⟩
    · cases r1; cases r2
      exact op_lt_str pins s σ H _ _ v u Q I rx ry ⟨_, _, rfl, rfl, by rw [sOf_cps, sOf_cps, ltL_lt]; exact hp.here rl (.bl _)⟩
    · exact hp.elim
  | le =>
    intro pins s σ H x y v u Q I rx ry ⟨ρ, F, S, dx, dy, rl, r1, r2, hp⟩
    simp only [cmpop] at hp
    split at hp
    · cases r1; cases r2
      exact op_le pins s σ H _ _ v u Q I rx ry ⟨_, _, rfl, rfl, hp.here rl (.bl _)⟩
    · cases r1; cases r2
      exact op_le_str pins s σ H _ _ v u Q I rx ry ⟨_, _, rfl, rfl, by rw [sOf_cps, sOf_cps, ltL_lt]; exact hp.here rl (.bl _)⟩
    · exact hp.elim
  | gt =>
    intro pins s σ H x y v u Q I rx ry ⟨ρ, F, S, dx, dy, rl, r1, r2, hp⟩
    simp only [cmpop] at hp
    split at hp
    · cases r1; cases r2
      exact op_gt pins s σ H _ _ v u Q I rx ry ⟨_, _, rfl, rfl, hp.here rl (.bl _)⟩
    · cases r1; cases r2
      exact op_gt_str pins s σ H _ _ v u Q I rx ry ⟨_, _, rfl, rfl, by rw [sOf_cps, sOf_cps, ltL_lt]; exact hp.here rl (.bl _)⟩
    · exact hp.elim
  | ge =>
    intro pins s σ H x y v u Q I rx ry ⟨ρ, F, S, dx, dy, rl, r1, r2, hp⟩
    simp only [cmpop] at hp
    split at hp
    · cases r1; cases r2
      exact op_ge pins s σ H _ _ v u Q I rx ry ⟨_, _, rfl, rfl, hp.here rl (.bl _)⟩
    · cases r1; cases r2
      exact op_ge_str pins s σ H _ _ v u Q I rx ry ⟨_, _, rfl, rfl, by rw [sOf_cps, sOf_cps, ltL_lt]; exact hp.here rl (.bl _)⟩
    · exact hp.elim
end
end Mp
end
section
set_option maxHeartbeats 4000000
namespace Mp
open PySem L2 PyProof.Rows
def BI.val : BI → Value
  | .isinst => .builtin "isinstance" | .len => .builtin "len" | .max => .builtin "max" | .min => .builtin "min" | .sum => .builtin "sum" | .all => .builtin "all" | .any => .builtin "any"
  | .int => .type "int" | .str => .type "str" | .list => .type "list" | .tuple => .type "tuple" | .sorted => .builtin "sorted" | .repr => .builtin "repr" | .dict => .type "dict" | .abs => .builtin "abs"
/-- what the text says of an exception class of its own -/
structure ExC (K : PySem.W.Frag) (C : Addr) : Prop where
  oex : OexC K C
  cl : (PySem.W.clsIn K C).isSome = true
  ga : PySem.W.findIn K (.ref C) "__getattribute__" = some (some (.builtin "BaseException.__getattribute__"))
  gg : PySem.W.findIn K (.ref C) "__getattr__" = some none
  hd : PySem.W.hasDictIn K C = true
  ha : PySem.W.findIn K (.ref C) "__class__" = some (some (.builtin "object.__class__"))
  hm : PySem.W.mroIn K C (.type "object") = some true
  nov : PySem.W.findIn K (.ref C) "value" = some none
structure ExA (K : PySem.W.Frag) : Prop where
  hn : PySem.W.specialIn K (.builtin "object.__class__") "__get__" = some (some (.builtin "getset_descriptor.__get__"))
  htk : PySem.W.takesIn K (.builtin "object.__class__") = some true
/-- the classes -/
structure ClsF (T : Tb) (K : PySem.W.Frag) (g : Gt) : Prop where
  a : ExA K
  ex : ∀ c n b, g.sub c n = some b → ExC K (T.ca c)
  kit : ∀ c n b, g.sub c n = some b → PySem.W.kitOne K (.ref (T.ca c)) (.ref (T.ca n)) = some b
  exm : ∀ c n b, g.sub c n = some b → PySem.W.exmOne K (.ref (T.ca c)) (.ref (T.ca n)) = some b
def rC (T : Tb) (K : PySem.W.Frag) (E : XK) (f : List D → Store → Res D) : List V → Hp → VK → Prop := fun xs H Q => ∃ ρ F S ds, Rel T K ρ F S H ∧ RL T.ca ρ F S.length ds xs ∧ PostG T K (gV T) ρ F S H (f ds S) Q E

def tyVal (ca : Nat → Addr) : Ty → Value
  | .non => .type "NoneType" | .bl => .type "bool" | .int => .type "int" | .str => .type "str" | .lst => .type "list" | .tup => .type "tuple" | .dct => .type "dict" | .ex c => .ref (ca c)
/-! ### what is caught -/
theorem exk_at {P : Program} {w : World} {H : Hp} {h : Heap} {C dx a : Addr} {v : V} (hok : HOk P w H h) (e : H a = some (exk C dx a)) (e2 : H dx = some (.xd [(("value" : Str), v)])) :
    ∃ (oe od : Obj) (mA : Str → Option Value), PySem.W.InstAt h a oe C (some od) ∧ (∀ name, PySem.W.lookIn name od = some (mA name)) ∧ ∃ u, mA "value" = some u ∧ RelV v u := by
  obtain ⟨⟨oe, vs, h1, h2, h3, h4⟩, _⟩ := hok a _ e
  obtain ⟨mA, hns, hr⟩ := (show ObjOk P w H h dx (.xd [(("value" : Str), v)]) from hok dx _ e2)
  obtain ⟨od, ho, hl⟩ := lookIn_ns hns
  have l : List.lookup ("value" : Str) [(("value" : Str), v)] = some v := by simp [List.lookup]
  obtain ⟨u, hu, ru⟩ := RelO.some_of (v := v) (o := mA "value") (by rw [← l]; exact hr "value")
  exact ⟨oe, od, mA, ⟨h1, h2, by unfold PySem.W.notCls; rw [h4] <;> rfl, by rw [h3]; exact ho⟩, hl, u, hu, ru⟩

section
variable {T : Tb} {X : Cx} {E : XK} {g : Gt}
/-- the type of a value, or the class of an exception -/
theorem kit_any (CF : ClsF T X.K g) {ρ : Nat → Addr} {F : Hp} {S : Store} {H : Hp} {pins : List (Addr × Obj)} {σ : L2.St} {s : Shared} {d : D} {x : V} {u : Value} {t : Ty} (I : L2.Inv X pins σ H s) (rl : Rel T X.K ρ F S H) (r : RV T.ca ρ F S.length d x) (rx : RelV x u) (ht : tyOf S d = some t)
    (hc : ∀ c, t = .ex c → ExC X.K (T.ca c)) :
    ∃ (tv : Value) (P : Heap → Prop), PySem.W.KitX X.K u tv P ∧ P s.heap ∧ u ≠ .builtin "__main__.__loader__#opaque" ∧
      tv = tyVal T.ca t := by
  have fin : ∀ {tv}, TyX X.K H x tv → ∃ P : Heap → Prop, PySem.W.KitX X.K u tv P ∧ P s.heap ∧ u ≠ .builtin "__main__.__loader__#opaque" := fun h => kit_of I rx h
  have go : ∀ {tv}, TyX X.K H x tv → ∃ (tv' : Value) (P : Heap → Prop), PySem.W.KitX X.K u tv' P ∧ P s.heap ∧ u ≠ .builtin "__main__.__loader__#opaque" ∧ tv' = tv := fun {tv} h => by
    obtain ⟨P, h1, h2, h3⟩ := fin h
    exact ⟨tv, P, h1, h2, h3, rfl⟩
  cases r <;> simp only [tyOf] at ht
  case non => cases ht; exact go (.base .non)
  case bl b => cases ht; exact go (.base (.bl b))
  case int i => cases ht; exact go (.base (.int i))
  case str z => cases ht; exact go (.base (.str _))
  case tup e r => cases ht; exact go (.base (.tup (rl.sub _ _ e)))
  case lst e r => cases ht; exact go (.base (.lst (rl.sub _ _ e)))
  case slst e r => cases ht; exact go (.base (.frz (rl.sub _ _ e)))
  case dct e r =>
    cases ht
    rcases rl.sub _ _ e with h | ⟨o, h⟩
    · exact go (.base (.dK h))
    · exact go (.fDict h)
  case exn c v a dx v' e e2 r =>
    cases ht
    have C := hc c rfl
    obtain ⟨oe, od, mA, J, _⟩ := exk_at I.hok (rl.sub _ _ e) (rl.sub _ _ e2)
    cases (show u = Value.ref a from rx)
    exact ⟨_, _, PySem.W.kitx_exc C.cl C.ga C.gg C.oex.exC C.ha CF.a.hn CF.a.htk C.hm, J, (fun z => nomatch z), rfl⟩
  case bty t => cases ht
  case cls c => cases ht
  case ref l hl =>
    split at ht
    · rename_i xs e
      cases ht
      obtain ⟨vs, e2, _⟩ := rl.cell _ _ e
      exact go (.base (.lst e2))
    · rename_i xs e
      cases ht
      obtain ⟨vs, e2, _⟩ := rl.cell _ _ e
      exact go (.base (.dK e2))
    · cases ht
theorem kit_bt : ∀ (t : Ty) (b : BT), (∀ c, t ≠ .ex c) → ∀ (K : PySem.W.Frag) (ca : Nat → Addr),
    PySem.W.kitOne K (tyVal ca t) (.type b.nm) = some (isB t b) := by
  intro t b h K ca
  cases t <;> first | exact absurd rfl (h _) | (cases b <;> exact kit_ty (by decide +kernel))
theorem is1_ok (CF : ClsF T X.K g) {ρ : Nat → Addr} {F : Hp} {n : Nat} {t : Ty} {c : D} {cv : V} {cu : Value} {b : Bool} (rc : RV T.ca ρ F n c cv) (ru : RelV cv cu) (h : is1 g t c = some b) : ClsV cv cu ∧
    PySem.W.kitOne X.K (tyVal T.ca t) cu = some b ∧ ∀ c, t = .ex c → ExC X.K (T.ca c) := by
  cases rc <;> simp only [is1] at h <;> try (cases h; done)
  case bty bt =>
    cases (show cu = Value.type _ from ru)
    cases t <;> simp only at h <;> first | (cases h; done) | (cases h; refine ⟨.ty _, kit_bt _ _ (fun c z => by cases z) X.K T.ca, fun c z => by cases z⟩)
  case cls k =>
    cases (show cu = Value.ref _ from ru)
    cases t <;> simp only at h <;> first | (cases h; done) | skip
    exact ⟨.own _, CF.kit _ _ _ h, fun c z => by cases z; exact CF.ex _ _ _ h⟩
theorem isAny_ok (CF : ClsF T X.K g) {ρ : Nat → Addr} {F : Hp} {n : Nat} {t : Ty} : ∀ {cs : List D} {cvs : List V} {cus : List Value} {b : Bool}, RL T.ca ρ F n cs cvs → Vals cvs cus → isAny g t cs = some b → 
    PySem.W.kitAny X.K (tyVal T.ca t) cus = some b ∧ (cs ≠ [] → ∀ c, t = .ex c → ExC X.K (T.ca c))
  | _, _, _, b, .nil, .nil, h => by
    simp only [isAny] at h
    cases h
    exact ⟨rfl, fun z => absurd rfl z⟩
  | _, _, _, b, .cons (d := d) (v := v) r t', .cons rv rvs, h => by
    simp only [isAny] at h
    cases e : is1 g t d with
    | none => rw [e] at h; cases h
    | some k =>
      rw [e, Option.bind_some] at h
      obtain ⟨k1, k2, k3⟩ := is1_ok (X := X) CF r rv e
      refine ⟨?_, fun _ => k3⟩
      cases k with
      | true =>
        simp only [if_true] at h
        cases h
        unfold PySem.W.kitAny
        rw [k2]
      | false =>
        simp only [Bool.false_eq_true, if_false] at h
        unfold PySem.W.kitAny
        rw [k2]
        exact (isAny_ok CF t' rvs h).1
theorem isinst_ok (CF : ClsF T X.K g) : CallR X (.builtin "isinstance") (rC T X.K E (biIsinst g)) := by
  intro pins s σ H xs us Q I rv ⟨ρ, F, S, ds, rl, r, hp⟩
  unfold biIsinst at hp
  split at hp
  case h_3 => exact hp.elim
  case h_1 x c0 cs =>
    cases r with
    | cons r1 r2 =>
    cases r2 with
    | cons r2 r3 =>
    cases r3
    obtain ⟨u1, u2, rfl, q1, q2⟩ := vals2 rv
    split at hp
    · rename_i t ht
      cases r2 with
      | tup e2 rcs =>
      rename_i tp cvs
      cases (show u2 = Value.ref tp from q2)
      cases e : isAny g t (c0 :: cs) with
      | none => rw [e] at hp; exact hp.elim
      | some b =>
        rw [e] at hp
        obtain ⟨_, its, rvs, o, h1, h2, n, h3⟩ := (show ObjOk X.prog X.w H s.heap tp (.tup cvs) from I.hok tp _ (rl.sub _ _ e2))
        obtain ⟨oc, od, dt, sl⟩ := o
        simp only at h2 h3
        subst h2 h3
        obtain ⟨k2, k3⟩ := isAny_ok (X := X) CF rcs rvs e
        obtain ⟨tv, P, Z, p, hx, rfl⟩ := kit_any CF I rl r1 q1 ht (k3 (by simp))
        exact PySem.W.kia_tup Z I.kIn p h1 k2 hx fun tk => ⟨.bl b, H, I.tok tk, rfl, hp.here rl (.bl b)⟩
    · exact hp.elim
  case h_2 x c hne =>
    cases r with
    | cons r1 r2 =>
    cases r2 with
    | cons r2 r3 =>
    cases r3
    obtain ⟨u1, u2, rfl, q1, q2⟩ := vals2 rv
    split at hp
    · rename_i t ht
      cases e : is1 g t c with
      | none => rw [e] at hp; exact hp.elim
      | some b =>
        rw [e] at hp
        obtain ⟨k1, k2, k3⟩ := is1_ok (X := X) CF r2 q2 e
        obtain ⟨tv, P, Z, p, hx, rfl⟩ := kit_any CF I rl r1 q1 ht k3
        exact PySem.W.kia_one Z I.kIn p k2 hx fun tk => ⟨.bl b, H, I.tok tk, rfl, hp.here rl (.bl b)⟩
    · exact hp.elim
end
end Mp
end
section
set_option maxHeartbeats 4000000
namespace Mp
open PySem L2 PyProof.Rows
section
variable {ca ρ : Nat → Addr} {F : Hp} {n : Nat}
theorem RL.ints : ∀ {xs : List D} {vs : List V} {ns : List Int}, RL ca ρ F n xs vs → Mp.intsD xs = some ns → vs = ns.map V.int
  | _, _, ns, .nil, h => by simp [Mp.intsD] at h; subst h; rfl
  | _, _, ns, .cons (d := d) r t, h => by
    cases r <;> simp only [Mp.intsD] at h <;> try (cases h; done)
    rename_i ds _ _
    cases e : Mp.intsD ds with
    | none => rw [e] at h; cases h
    | some ms => rw [e] at h; cases h; rw [RL.ints t e]; rfl
theorem RL.bools : ∀ {xs : List D} {vs : List V} {ns : List Bool}, RL ca ρ F n xs vs → Mp.bools xs = some ns → vs = ns.map V.bl
  | _, _, ns, .nil, h => by simp [Mp.bools] at h; subst h; rfl
  | _, _, ns, .cons (d := d) r t, h => by
    cases r <;> simp only [Mp.bools] at h <;> try (cases h; done)
    rename_i ds _ _
    cases e : Mp.bools ds with
    | none => rw [e] at h; cases h
    | some ms => rw [e] at h; cases h; rw [RL.bools t e]; rfl
theorem RL.strs : ∀ {xs : List D} {vs : List V} {ns : List (List Nat)}, RL ca ρ F n xs vs → Mp.strsD xs = some ns → vs = (ns.map sOf).map V.str
  | _, _, ns, .nil, h => by simp [Mp.strsD] at h; subst h; rfl
  | _, _, ns, .cons (d := d) r t, h => by
    cases r <;> simp only [Mp.strsD] at h <;> try (cases h; done)
    rename_i ds _ _
    cases e : Mp.strsD ds with
    | none => rw [e] at h; cases h
    | some ms => rw [e] at h; cases h; rw [RL.strs t e]; rfl
theorem RL.of_ints : ∀ ns : List Int, RL ca ρ F n (ns.map D.int) (ns.map V.int)
  | [] => .nil
  | i :: r => .cons (.int i) (RL.of_ints r)
theorem RL.of_strs : ∀ ns : List (List Nat), RL ca ρ F n (ns.map D.str) ((ns.map sOf).map V.str)
  | [] => .nil
  | i :: r => .cons (.str i) (RL.of_strs r)
end
theorem foldMax : ∀ (r : List Int) (x : Int), (r.foldl (fun a b => if b > a then b else a) x = x ∨ r.foldl (fun a b => if b > a then b else a) x ∈ r) ∧ x ≤ r.foldl (fun a b => if b > a then b else a) x ∧ ∀ y ∈ r, y ≤ r.foldl (fun a b => if b > a then b else a) x
  | [], x => ⟨.inl rfl, Int.le_refl _, fun _ h => nomatch h⟩
  | b :: r, x => by
    have ih := foldMax r (if b > x then b else x)
    simp only [List.foldl_cons]
    refine ⟨?_, ?_, fun y hy => ?_⟩
    · rcases ih.1 with h | h
      · by_cases q : b > x
        · rw [if_pos q] at h ⊢; exact .inr (by rw [h]; exact List.mem_cons_self)
        · rw [if_neg q] at h ⊢; exact .inl h
      · exact .inr (List.mem_cons_of_mem _ h)
    · refine Int.le_trans ?_ ih.2.1
      split <;> omega
    · rcases List.mem_cons.mp hy with rfl | hy
      · refine Int.le_trans ?_ ih.2.1
        split <;> omega
      · exact ih.2.2 y hy
theorem maxI_uniq {ns : List Int} {m k : Int} (h : maxI ns = some m) (h1 : k ∈ ns) (h2 : ∀ y ∈ ns, y ≤ k) : k = m := by
  cases ns with
  | nil => cases h
  | cons x r =>
    simp only [maxI] at h
    cases h
    have f := foldMax r x
    have a : r.foldl (fun a b => if b > a then b else a) x ∈ x :: r := by
      rcases f.1 with h | h
      · rw [h]; exact List.mem_cons_self
      · exact List.mem_cons_of_mem _ h
    have b := h2 _ a
    have c : k ≤ r.foldl (fun a b => if b > a then b else a) x := by
      rcases List.mem_cons.mp h1 with rfl | h
      · exact f.2.1
      · exact f.2.2 _ h
    omega
theorem foldMin : ∀ (r : List Int) (x : Int), (r.foldl (fun a b => if b < a then b else a) x = x ∨ r.foldl (fun a b => if b < a then b else a) x ∈ r) ∧ r.foldl (fun a b => if b < a then b else a) x ≤ x ∧ ∀ y ∈ r, r.foldl (fun a b => if b < a then b else a) x ≤ y
  | [], x => ⟨.inl rfl, Int.le_refl _, fun _ h => nomatch h⟩
  | b :: r, x => by
    have ih := foldMin r (if b < x then b else x)
    simp only [List.foldl_cons]
    refine ⟨?_, ?_, fun y hy => ?_⟩
    · rcases ih.1 with h | h
      · by_cases q : b < x
        · rw [if_pos q] at h ⊢; exact .inr (by rw [h]; exact List.mem_cons_self)
        · rw [if_neg q] at h ⊢; exact .inl h
      · exact .inr (List.mem_cons_of_mem _ h)
    · refine Int.le_trans ih.2.1 ?_
      split <;> omega
    · rcases List.mem_cons.mp hy with rfl | hy
      · refine Int.le_trans ih.2.1 ?_
        split <;> omega
      · exact ih.2.2 y hy
theorem minI_uniq {ns : List Int} {m k : Int} (h : minI ns = some m) (h1 : k ∈ ns) (h2 : ∀ y ∈ ns, k ≤ y) : k = m := by
  cases ns with
  | nil => cases h
  | cons x r =>
    simp only [minI] at h
    cases h
    have f := foldMin r x
    have a : r.foldl (fun a b => if b < a then b else a) x ∈ x :: r := by
      rcases f.1 with h | h
      · rw [h]; exact List.mem_cons_self
      · exact List.mem_cons_of_mem _ h
    have b := h2 _ a
    have c : r.foldl (fun a b => if b < a then b else a) x ≤ k := by
      rcases List.mem_cons.mp h1 with rfl | h
      · exact f.2.1
      · exact f.2.2 _ h
    omega
theorem insI_perm (x : Int) : ∀ r, (insI x r).Perm (x :: r)
  | [] => .refl _
  | y :: r => by
    unfold insI
    split
    · exact .refl _
    · exact ((insI_perm x r).cons y).trans (.swap x y r)
theorem insI_sorted (x : Int) : ∀ r, r.Pairwise (· ≤ ·) → (insI x r).Pairwise (· ≤ ·)
  | [], _ => by simp [insI]
  | y :: r, h => by
    obtain ⟨h1, h2⟩ := List.pairwise_cons.mp h
    unfold insI
    split
    · rename_i q
      refine List.pairwise_cons.mpr ⟨fun z hz => ?_, h⟩
      rcases List.mem_cons.mp hz with rfl | hz
      · exact q
      · exact Int.le_trans q (h1 z hz)
    · refine List.pairwise_cons.mpr ⟨fun z hz => ?_, insI_sorted x r h2⟩
      rcases List.mem_cons.mp ((insI_perm x r).mem_iff.mp hz) with rfl | hz
      · omega
      · exact h1 z hz
theorem sortI_perm : ∀ r, (sortI r).Perm r
  | [] => .refl _
  | x :: r => (insI_perm x _).trans ((sortI_perm r).cons x)
theorem sortI_sorted : ∀ r, (sortI r).Pairwise (· ≤ ·)
  | [] => .nil
  | x :: r => insI_sorted x _ (sortI_sorted r)
theorem sortI_uniq {ns ms : List Int} (h : ms.Perm ns) (h2 : ms.Pairwise (· ≤ ·)) : ms = sortI ns :=
  List.Perm.eq_of_pairwise (fun x y _ _ h1 h2 => Int.le_antisymm h1 h2) h2 (sortI_sorted ns) (h.trans (sortI_perm ns).symm)
theorem strI_eq (i : Int) : Str.ofString (toString i) = sOf (strI i) := by
  refine TL.ext_tl ?_
  rw [TL.tl_ofString]
  show _ = strI i
  cases i with
  | ofNat n =>
    have h0 : ¬ (Int.ofNat n < 0) := by simp
    unfold strI
    rw [if_neg h0]
    have := TL.tl_num n
    rw [TL.tl_ofString] at this
    exact this
  | negSucc n =>
    have h0 : Int.negSucc n < 0 := Int.negSucc_lt_zero n
    unfold strI
    rw [if_pos h0]
    have e : toString (Int.negSucc n) = "-" ++ toString (((n + 1 : Nat)) : Int) := rfl
    rw [e, String.toList_append, List.map_append]
    have := TL.tl_num (n + 1)
    rw [TL.tl_ofString] at this
    rw [this]
    rfl
section
variable {T : Tb} {X : Cx} {E : XK} {g : Gt}
theorem len_ok : CallR X (.builtin "len") (rC T X.K E biLen) := by
  intro pins s σ H xs us Q I rv ⟨ρ, F, S, ds, rl, r, hp⟩
  unfold biLen at hp
  split at hp
  · cases r with
    | cons r1 r2 =>
    cases r1; cases r2
    split at hp
    · rename_i hl
      exact call_len pins s σ H _ us Q I rv ⟨_, _, rfl, ⟨by rw [sOf_len]; exact hl, (sOf_len _).symm⟩, hp.here rl (.int _)⟩
    · exact hp.elim
  · cases r with
    | cons r1 r2 =>
    cases r2
    split at hp
    · rename_i kvs e
      obtain ⟨a, vs, rfl, hr, rk⟩ := rl.asK r1 e
      obtain ⟨u, rfl, ru⟩ := vals1 rv
      cases (show u = Value.ref a from ru)
      exact d_len I hr fun t s' I' => ⟨.int kvs.length, H, I', ⟨t, by rw [rk.length]⟩, hp.here rl (.int _)⟩
    · split at hp
      · rename_i xs e
        obtain ⟨a, vs, rfl, hr, rk⟩ := rl.asQ r1 e
        exact call_len_seq pins s σ H _ us Q I rv ⟨a, vs, rfl, hr, by rw [← rk.length]; exact hp.here rl (.int _)⟩
      · exact hp.elim
  · exact hp.elim
theorem max_ok (hc : X.calm = true) : CallR X (.builtin "max") (rC T X.K E biMax) := by
  intro pins s σ H xs us Q I rv ⟨ρ, F, S, ds, rl, r, hp⟩
  unfold biMax at hp
  split at hp
  · cases r with
    | cons r1 r2 =>
    cases r2 with
    | cons r2 r3 =>
    cases r1; cases r2; cases r3
    exact call_max2 hc pins s σ H _ us Q I rv ⟨_, _, rfl, hp.here rl (.int _)⟩
  · rename_i x
    cases r with
    | cons r1 r2 =>
    cases r2
    cases e : asL S x with
    | none => rw [e] at hp; exact hp.elim
    | some zs =>
      rw [e, Option.bind_some] at hp
      cases e2 : Mp.intsD zs with
      | none => rw [e2] at hp; exact hp.elim
      | some ns =>
        rw [e2, Option.bind_some] at hp
        cases e3 : maxI ns with
        | none => rw [e3] at hp; exact hp.elim
        | some m =>
          rw [e3] at hp
          obtain ⟨a, vs, rfl, hr, rk⟩ := rl.asL r1 e
          have := rk.ints e2
          subst this
          refine cr_max hc pins s σ H _ us Q I rv ⟨a, ns, rfl, hr, ?_, fun k h1 h2 => ?_⟩
          · cases ns with
            | nil => cases e3
            | cons _ _ => simp
          · rw [maxI_uniq e3 h1 h2]; exact hp.here rl (.int _)
  · exact hp.elim
theorem min_ok (hc : X.calm = true) : CallR X (.builtin "min") (rC T X.K E biMin) := by
  intro pins s σ H xs us Q I rv ⟨ρ, F, S, ds, rl, r, hp⟩
  unfold biMin at hp
  split at hp
  · cases r with
    | cons r1 r2 =>
    cases r2 with
    | cons r2 r3 =>
    cases r1; cases r2; cases r3
    exact call_min2 hc pins s σ H _ us Q I rv ⟨_, _, rfl, hp.here rl (.int _)⟩
  · rename_i x
    cases r with
    | cons r1 r2 =>
    cases r2
    cases e : asL S x with
    | none => rw [e] at hp; exact hp.elim
    | some zs =>
      rw [e, Option.bind_some] at hp
      cases e2 : Mp.intsD zs with
      | none => rw [e2] at hp; exact hp.elim
      | some ns =>
        rw [e2, Option.bind_some] at hp
        cases e3 : minI ns with
        | none => rw [e3] at hp; exact hp.elim
        | some m =>
          rw [e3] at hp
          obtain ⟨a, vs, rfl, hr, rk⟩ := rl.asL r1 e
          have := rk.ints e2
          subst this
          refine cr_min hc pins s σ H _ us Q I rv ⟨a, ns, rfl, hr, ?_, fun k h1 h2 => ?_⟩
          · cases ns with
            | nil => cases e3
            | cons _ _ => simp
          · rw [minI_uniq e3 h1 h2]; exact hp.here rl (.int _)
  · exact hp.elim
theorem sum_ok (hc : X.calm = true) : CallR X (.builtin "sum") (rC T X.K E biSum) := by
  intro pins s σ H xs us Q I rv ⟨ρ, F, S, ds, rl, r, hp⟩
  unfold biSum at hp
  split at hp
  · rename_i x
    cases r with
    | cons r1 r2 =>
    cases r2
    cases e : asL S x with
    | none => rw [e] at hp; exact hp.elim
    | some zs =>
      rw [e, Option.bind_some] at hp
      cases e2 : Mp.intsD zs with
      | none => rw [e2] at hp; exact hp.elim
      | some ns =>
        rw [e2] at hp
        obtain ⟨a, vs, rfl, hr, rk⟩ := rl.asL r1 e
        have := rk.ints e2
        subst this
        exact cr_sum hc pins s σ H _ us Q I rv ⟨a, ns, rfl, hr, hp.here rl (.int _)⟩
  · exact hp.elim
theorem all_ok (hc : X.calm = true) : CallR X (.builtin "all") (rC T X.K E biAll) := by
  intro pins s σ H xs us Q I rv ⟨ρ, F, S, ds, rl, r, hp⟩
  unfold biAll at hp
  split at hp
  · rename_i x
    cases r with
    | cons r1 r2 =>
    cases r2
    cases e : asL S x with
    | none => rw [e] at hp; exact hp.elim
    | some zs =>
      rw [e, Option.bind_some] at hp
      cases e2 : Mp.bools zs with
      | none => rw [e2] at hp; exact hp.elim
      | some ns =>
        rw [e2] at hp
        obtain ⟨a, vs, rfl, hr, rk⟩ := rl.asL r1 e
        have := rk.bools e2
        subst this
        exact cr_all hc pins s σ H _ us Q I rv ⟨a, ns, rfl, hr, hp.here rl (.bl _)⟩
  · exact hp.elim
theorem any_ok (hc : X.calm = true) : CallR X (.builtin "any") (rC T X.K E biAny) := by
  intro pins s σ H xs us Q I rv ⟨ρ, F, S, ds, rl, r, hp⟩
  unfold biAny at hp
  split at hp
  · rename_i x
    cases r with
    | cons r1 r2 =>
    cases r2
    cases e : asL S x with
    | none => rw [e] at hp; exact hp.elim
    | some zs =>
      rw [e, Option.bind_some] at hp
      cases e2 : Mp.bools zs with
      | none => rw [e2] at hp; exact hp.elim
      | some ns =>
        rw [e2] at hp
        obtain ⟨a, vs, rfl, hr, rk⟩ := rl.asL r1 e
        have := rk.bools e2
        subst this
        exact cr_any hc pins s σ H _ us Q I rv ⟨a, ns, rfl, hr, hp.here rl (.bl _)⟩
  · exact hp.elim
theorem foldDig : ∀ (s : List Nat) (a : Nat), s.foldl (fun acc c => acc * 10 + (c - 48)) a = s.foldl (fun a c => a * 10 + (c - 48)) a := fun _ _ => rfl
theorem intS_ok {s : List Nat} {n : Int} (h : intS s = some n) (hl : s.length ≤ 640) : PySem.intText? (sOf s) = some n := by
  have dg : ∀ r : List Nat, isDig r = true → NumText.AllDigits r ∧ r ≠ [] := fun r hr => by
    unfold isDig at hr
    simp only [Bool.and_eq_true, List.all_eq_true, decide_eq_true_eq, Bool.not_eq_true', List.isEmpty_eq_false_iff] at hr
    exact ⟨fun c hc => hr.2 c hc, hr.1⟩
  unfold intS at h
  split at h
  · rename_i r
    split at h
    · rename_i hr
      cases h
      obtain ⟨h1, h2⟩ := dg r hr
      rw [intText_neg (x := sOf (45 :: r)) (cs := r) rfl h1 h2 (by rw [sOf_len]; omega)]
      rfl
    · cases h
  · split at h
    · rename_i hr
      cases h
      obtain ⟨h1, h2⟩ := dg s hr
      rw [intText_digits (x := sOf s) h1 h2 (by rw [sOf_len]; omega)]
      rfl
    · cases h
theorem int_ok : CallR X (.type "int") (rC T X.K E biInt) := by
  intro pins s σ H xs us Q I rv ⟨ρ, F, S, ds, rl, r, hp⟩
  unfold biInt at hp
  split at hp
  · cases r with
    | cons r1 r2 =>
    cases r1; cases r2
    exact call_int1 pins s σ H _ us Q I rv (.inl ⟨_, rfl, hp.here rl (.int _)⟩)
  · cases r with
    | cons r1 r2 =>
    cases r1; cases r2
    exact call_int1 pins s σ H _ us Q I rv (.inr ⟨_, rfl, hp.here rl (.int _)⟩)
  · cases r with
    | cons r1 r2 =>
    cases r1; cases r2
    split at hp
    · rename_i hl
      split at hp
      · rename_i n hn
        exact call_int_str pins s σ H _ us Q I rv ⟨_, n, rfl, intS_ok hn hl, by rw [sOf_len]; exact hl, hp.here rl (.int _)⟩
      · exact hp.elim
    · exact hp.elim
  · exact hp.elim
theorem strB_ok : CallR X (.type "str") (rC T X.K E biStr) := by
  intro pins s σ H xs us Q I rv ⟨ρ, F, S, ds, rl, r, hp⟩
  unfold biStr at hp
  split at hp
  · cases r with
    | cons r1 r2 =>
    cases r1; cases r2
    split at hp
    · rename_i hl
      exact call_str_int pins s σ H _ us Q I rv ⟨_, rfl, hl, by rw [strI_eq]; exact hp.here rl (.str _)⟩
    · exact hp.elim
  · cases r with
    | cons r1 r2 =>
    cases r1; cases r2
    exact SkE.call_str_str pins s σ H _ us Q I rv ⟨_, rfl, hp.here rl (.str _)⟩
  · exact hp.elim
omit X in
theorem vals_signs : ∀ (z : List Nat) (acc : List Value), acc.length = z.length → (∀ (j : Nat) (v : Value), acc[j]? = some v → ∃ (c : Nat) (u : Tok), z[j]? = some c ∧ v = Value.str ⟨#[c]⟩ u) → Vals (z.map fun c => V.str (sOf [c])) acc
  | [], [], _, _ => .nil
  | [], _ :: _, h, _ => by simp at h
  | _ :: _, [], h, _ => by simp at h
  | c :: z, v :: acc, h, f => by
    refine .cons ?_ (vals_signs z acc (by simpa using h) fun j v e => f (j + 1) v (by simpa using e))
    obtain ⟨c', u, h1, rfl⟩ := f 0 v rfl
    obtain rfl : c = c' := by simpa using h1
    exact ⟨u, rfl⟩
theorem list_ok (hc : X.calm = true) (m : Bool) : CallR X (.type "list") (rC T X.K E (biList m)) := by
  intro pins s σ H xs us Q I rv ⟨ρ, F, S, ds, rl, r, hp⟩
  unfold biList at hp
  split at hp
  · cases r with
    | cons r1 r2 =>
    cases r1; cases r2
    split at hp
    · rename_i z hl
      obtain ⟨u, rfl, rx⟩ := vals1 rv
      obtain ⟨t, rfl⟩ := rx
      refine call_list_str (I.ok.hd hc) (sOf z) t (hn := by show z.toArray.size ≤ sizeLine; rw [List.size_toArray, ← lim_eq]; exact hl) fun h' tk acc' c' hk hS' hacc => ?_
      have hz : ∀ w : List Nat, RL T.ca ρ F S.length (w.map fun c => D.str [c]) (w.map fun c => V.str (sOf [c])) := fun w => by
        induction w with
        | nil => exact .nil
        | cons c w ih => exact .cons (.str _) ih
      refine ⟨.ref s.heap.objs.size, _, I.laid (t' := tk) hk (Nat.le_refl _) (show ObjOk X.prog X.w _ h' _ (.lst (z.map fun c => V.str (sOf [c]))) from ⟨by rw [← lim_eq, List.length_map]; exact hl, acc'.toList, c', ?_, by simpa using hS'⟩), rfl, ?_⟩
      · refine vals_signs z acc'.toList (by have := hacc.1; simpa [sOf] using this) fun j v e => ?_
        obtain ⟨c, u, h1, h2⟩ := hacc.2 j v (by simpa using e)
        exact ⟨c, u, by simpa [sOf] using h1, h2⟩
      · exact alloc_ok rl (hz z) hp (I.hok.fresh (Nat.le_refl _))
    · exact hp.elim
  · cases r with
    | cons r1 r2 =>
    cases r2
    split at hp
    · rename_i xs e
      obtain ⟨a, vs, rfl, hr, rk⟩ := rl.asQ r1 e
      exact call_list_of pins s σ H _ us Q I rv ⟨a, vs, rfl, hr, fun l hl => alloc_ok rl rk hp hl⟩
    · exact hp.elim
  · exact hp.elim
theorem tupleB_ok : CallR X (.type "tuple") (rC T X.K E biTuple) := by
  intro pins s σ H xs us Q I rv ⟨ρ, F, S, ds, rl, r, hp⟩
  unfold biTuple at hp
  split at hp
  · cases r with
    | cons r1 r2 =>
    cases r2
    have hq := hp.here rl r1
    cases r1 with
    | tup e r =>
    exact call_tuple_of pins s σ H _ us Q I rv ⟨_, _, rfl, .inr ⟨SqT.of (rl.sub _ _ e), hq⟩⟩
  · cases r with
    | cons r1 r2 =>
    cases r2
    split at hp
    · rename_i xs e
      obtain ⟨a, vs, rfl, hr, rk⟩ := rl.asL r1 e
      exact call_tuple_of pins s σ H _ us Q I rv ⟨a, vs, rfl, .inl ⟨hr, fun l hl => tup_ok rl rk hp hl⟩⟩
    · exact hp.elim
  · exact hp.elim
theorem sorted_ok (m : Bool) : CallR X (.builtin "sorted") (rC T X.K E (biSorted m)) := by
  intro pins s σ H xs us Q I rv ⟨ρ, F, S, ds, rl, r, hp⟩
  unfold biSorted at hp
  split at hp
  · cases r with
    | cons r1 r2 =>
    cases r2
    split at hp
    · rename_i xs e
      split at hp
      · rename_i ns e2
        obtain ⟨a, vs, rfl, hr, rk⟩ := rl.asL r1 e
        have := rk.ints e2
        subst this
        refine cr_sortedI pins s σ H _ us Q I rv ⟨a, ns, rfl, hr, fun ns' p h1 h2 hn => ?_⟩
        rw [sortI_uniq h1 h2]
        exact alloc_ok rl (RL.of_ints _) hp hn
      · exact hp.elim
    · exact hp.elim
  · exact hp.elim
end
end Mp
end
section
set_option maxHeartbeats 4000000
namespace Mp
open PySem L2 PyProof.Rows
section
variable {T : Tb} {X : Cx} {E : XK}
theorem RL.atI {ca ρ : Nat → Addr} {F : Hp} {n : Nat} {xs : List D} {vs : List V} {i : Int} {d : D} (r : RL ca ρ F n xs vs) (h : Mp.atI xs i = some d) : ∃ v, L2.atI vs i = some v ∧ RV ca ρ F n d v := by
  unfold Mp.atI at h
  cases e : Mp.ixN xs.length i with
  | none => rw [e] at h; cases h
  | some j =>
    rw [e, Option.bind_some] at h
    obtain ⟨v, h1, h2⟩ := r.get h
    refine ⟨v, ?_, h2⟩
    unfold L2.atI
    have e' : L2.ixN vs.length i = some j := by rw [← r.length]; exact e
    rw [e', Option.bind_some]; exact h1
theorem ix_ok (hu : X.A.units + 64 < cLine) : IxR X (rB T X.K E fun x y S => one (ixop x y S) S) := by
  intro value slice pins s σ H x y v u Q I rx ry ⟨ρ, F, S, dx, dy, rl, r1, r2, hp⟩ hs
  dsimp only at hp
  unfold ixop at hp
  split at hp
  · rename_i t
    split at hp
    · rename_i k
      split at hp
      · rename_i hl
        cases e : Mp.atI t k with
        | none => rw [e] at hp; exact hp.elim
        | some c =>
          rw [e] at hp
          cases r1; cases r2
          exact ix_str value slice pins s σ H _ _ v u Q I rx ry ⟨_, _, c, rfl, rfl, by rw [sOf_len]; exact hl, e, hp.here rl (.str [c])⟩ hs
      · exact hp.elim
    · exact hp.elim
  · split at hp
    · rename_i kvs e
      obtain ⟨a, vs, rfl, hr, rk⟩ := rl.asK r1 e
      cases e2 : kOf dy with
      | none => rw [e2] at hp; exact hp.elim
      | some k =>
        rw [e2, Option.bind_some] at hp
        rcases rk.val k with ⟨h1, h2⟩ | ⟨d, z, h1, h2, h3⟩
        · rw [h1] at hp; exact hp.elim
        · rw [h1] at hp
          have g : DGet H a y (some z) := .inl ⟨vs, kk k, hr, r2.key e2, h2.symm⟩
          cases (show v = Value.ref a from rx)
          exact tail_any (dict_typeIs I g) PySem.F.slot_dict_getitem.lookup (d_getItem (by omega) I g ry fun w' s' I' rw' => ⟨z, H, I', rw', hp.here rl h3⟩) hs
    · split at hp
      · rename_i xs k e2
        obtain ⟨a, vs, rfl, hr, rk⟩ := rl.asQ r1 e2
        cases e : Mp.atI xs k with
        | none => rw [e] at hp; exact hp.elim
        | some d =>
          rw [e] at hp
          obtain ⟨z, h1, h2⟩ := rk.atI e
          cases r2
          rcases hr with hr | hr
          · exact ix_list value slice pins s σ H _ _ v u Q I rx ry ⟨a, vs, k, z, rfl, rfl, hr, h1, hp.here rl h2⟩ hs
          · exact ix_tup value slice pins s σ H _ _ v u Q I rx ry ⟨a, vs, k, z, rfl, rfl, hr, h1, hp.here rl h2⟩ hs
      · exact hp.elim
/-! ### slices -/
def rSl (T : Tb) (K : PySem.W.Frag) (E : XK) (m : Bool) : V → Option Int → Option Int → Hp → VK → Prop := fun x lo hi H Q => ∃ ρ F S dx, Rel T K ρ F S H ∧ RV T.ca ρ F S.length dx x ∧ PostG T K (gV T) ρ F S H (slop m dx lo hi S) Q E
theorem RL.cut {ca ρ : Nat → Addr} {F : Hp} {n : Nat} {xs : List D} {vs : List V} (r : RL ca ρ F n xs vs) (lo hi : Option Int) : RL ca ρ F n (Mp.cut xs lo hi) (cutV vs lo hi) := by
  unfold Mp.cut cutV
  rw [← r.length]
  exact (r.drop _).take _
theorem sl_ok (m : Bool) : SlR X (rSl T X.K E m) := by
  intro pins s σ H x v vl vu lo hi sl Q I rx hs pl pu ⟨ρ, F, S, dx, rl, r1, hp⟩
  unfold slop at hp
  split at hp
  · rename_i t
    cases r1
    split at hp
    · rename_i hl
      refine sl_str pins s σ H _ v vl vu lo hi sl Q I rx hs pl pu ⟨_, rfl, by rw [sOf_len]; exact hl, ?_⟩
      have : cutS (sOf t) lo hi = sOf (Mp.cut t lo hi) := by
        unfold cutS
        rw [sOf_len, sOf_cps]
        rfl
      rw [this]
      exact hp.here rl (.str _)
    · exact hp.elim
  · exact hp.elim
  · split at hp
    · rename_i xs e
      obtain ⟨a, vs, rfl, hr, rk⟩ := rl.asL r1 e
      exact sl_list pins s σ H _ v vl vu lo hi sl Q I rx hs pl pu ⟨a, vs, rfl, hr, fun p hn => alloc_ok rl (rk.cut lo hi) hp hn⟩
    · exact hp.elim
/-! ### methods -/
def rM (T : Tb) (K : PySem.W.Frag) (E : XK) (f : D → List D → Store → Res D) : V → List V → Hp → VK → Prop := fun x xs H Q => ∃ ρ F S dx ds, Rel T K ρ F S H ∧ RV T.ca ρ F S.length dx x ∧ RL T.ca ρ F S.length ds xs ∧ PostG T K (gV T) ρ F S H (f dx ds S) Q E
theorem append_ok : MtR X "list.append" (rM T X.K E mtAppend) := by
  intro pins s σ H x xs v us Q I rx rv ⟨ρ, F, S, dx, ds, rl, r, rs, hp⟩
  unfold mtAppend at hp
  split at hp
  · rename_i l y
    split at hp
    · rename_i zs e
      split at hp
      · rename_i hl
        cases rs with
        | cons ry rn =>
        cases rn
        cases r with
        | ref hlt =>
        obtain ⟨vs, e2, r2⟩ := rl.cell _ _ e
        refine mt_append pins s σ H _ _ v us Q I rx rv ⟨_, vs, _, rfl, rfl, e2, by rw [← r2.length]; exact hl, ?_⟩
        obtain ⟨rl', x'⟩ := rl.write (o' := .lst (zs ++ [y])) (ho := .lst (vs ++ [_])) e (fun z => by cases z) ⟨_, upd_same, r2.append (.cons ry .nil)⟩
        exact hp _ _ _ _ x' rl' .non
      · exact hp.elim
    · exact hp.elim
  · exact hp.elim
theorem RL.find {ca ρ : Nat → Addr} {F : Hp} {n : Nat} {e : D} {u : V} (q : RV ca ρ F n e u) (h' : Mp.flat e = true) : ∀ {ds : List D} {vs : List V} {j : Nat}, RL ca ρ F n ds vs → ds.all Mp.flat = true → (ds.findIdx? fun z => Mp.eqf z e) = some j →
    ∃ z, vs[j]? = some z ∧ eqV z u = true ∧ ∀ (m : Nat) (z' : V), m < j → vs[m]? = some z' → eqV z' u = false
  | _, _, _, .nil, _, hj => by simp at hj
  | _, _, j, .cons (d := d) (v := v) (ds := ds) (vs := vs) r t, h, hj => by
    simp only [List.all_cons, Bool.and_eq_true] at h
    have e0 := r.eqf q h.1 h'
    rw [List.findIdx?_cons] at hj
    split at hj
    · rename_i ht
      cases hj
      exact ⟨v, rfl, by rw [e0]; exact ht, fun m z' hm _ => absurd hm (Nat.not_lt_zero _)⟩
    · rename_i ht
      cases e2 : ds.findIdx? fun z => Mp.eqf z e with
      | none => rw [e2] at hj; cases hj
      | some k =>
        rw [e2] at hj
        cases hj
        obtain ⟨z, h1, h2, h3⟩ := RL.find q h' t h.2 e2
        refine ⟨z, by simpa using h1, h2, fun m z' hm hz => ?_⟩
        cases m with
        | zero =>
          simp at hz
          subst hz
          rw [e0]; simpa using ht
        | succ m => exact h3 m z' (Nat.lt_of_succ_lt_succ hm) (by simpa using hz)
theorem index_ok : MtR X "list.index" (rM T X.K E mtIndex) := by
  intro pins s σ H x xs v us Q I rx rv ⟨ρ, F, S, dx, ds, rl, r, rs, hp⟩
  unfold mtIndex at hp
  split at hp
  · rename_i y
    split at hp
    · rename_i zs e
      split at hp
      · rename_i hf
        simp only [Bool.and_eq_true] at hf
        split at hp
        · rename_i j ej
          cases rs with
          | cons ry rn =>
          cases rn
          obtain ⟨a, vs, rfl, hr, rk⟩ := rl.asL r e
          obtain ⟨z, h1, h2, h3⟩ := rk.find ry hf.1 hf.2 ej
          exact mt_index pins s σ H _ _ v us Q I rx rv ⟨a, vs, _, j, z, rfl, rfl, hr, ry.flat hf.1, rk.flat hf.2, h1, h2, h3, hp.here rl (.int _)⟩
        · exact hp.elim
      · exact hp.elim
    · exact hp.elim
  · exact hp.elim
theorem count_eqU {x : V} : ∀ {xs : List V} {us : List Value}, Vals xs us → xs.all flatV = true → us.countP (eqU x) = xs.countP fun y => eqV y x
  | _, _, .nil, _ => rfl
  | _, _, .cons r t, h => by
    simp only [List.all_cons, Bool.and_eq_true] at h
    rw [List.countP_cons, List.countP_cons, count_eqU t h.2, eqU_of r h.1]
theorem RL.cntf {ca ρ : Nat → Addr} {F : Hp} {n : Nat} {e : D} {u : V} (q : RV ca ρ F n e u) (h' : Mp.flat e = true) : ∀ {ds : List D} {vs : List V}, RL ca ρ F n ds vs → ds.all Mp.flat = true → (vs.countP fun y => eqV y u) = ds.countP fun z => Mp.eqf z e
  | _, _, .nil, _ => rfl
  | _, _, .cons r t, h => by
    simp only [List.all_cons, Bool.and_eq_true] at h
    rw [List.countP_cons, List.countP_cons, RL.cntf q h' t h.2, r.eqf q h.1 h']
theorem count_ok : MtR X "list.count" (rM T X.K E mtCount) := by
  intro pins s σ H x xs v us Q I rx rv ⟨ρ, F, S, dx, ds, rl, r, rs, hp⟩
  unfold mtCount at hp
  split at hp
  · rename_i y
    split at hp
    · rename_i zs e
      split at hp
      · rename_i hf
        simp only [Bool.and_eq_true] at hf
        cases rs with
        | cons ry rn =>
        cases rn
        obtain ⟨a, vs, rfl, hr, rk⟩ := rl.asL r e
        cases (show v = Value.ref a from rx)
        obtain ⟨u, rfl, ru⟩ := rv.one
        obtain ⟨its, rvs, ⟨⟨cls, dd, data, sl⟩, n, ho, hc, hdn, hd⟩, hlen⟩ := I.list hr
        simp only at hc hd
        subst hc hd
        refine call_meets PySem.F.slot_list_count ⟨_, ho, rfl⟩ PySem.F.entry_list_count (PySem.F.args_list_count_2 _ _)
          (SeqAt.list_countAt a its.toArray n dd sl u (eqU _)) ⟨ho, fun y hy => mem_eqAt ru (ry.flat hf.1) rvs (rk.flat hf.2) y (by simpa using hy), ?_⟩
        refine ⟨.int (zs.countP fun z => Mp.eqf z y : Nat), H, I.tok _, ⟨s.toks, ?_⟩, hp.here rl (.int _)⟩
        show Value.int ((its.toArray.toList.countP (eqU _) : Nat) : Int) s.toks = Value.int _ s.toks
        rw [← rk.cntf ry hf.1 hf.2, ← count_eqU rvs (rk.flat hf.2)]
      · exact hp.elim
    · exact hp.elim
  · exact hp.elim
theorem joinS_tl (y : List Nat) : ∀ l : List (List Nat), TL.joinL y l = joinS y l
  | [] => rfl
  | [p] => rfl
  | p :: q :: r => by
    show p ++ (y ++ TL.joinL y (q :: r)) = p ++ (y ++ joinS y (q :: r))
    rw [joinS_tl y (q :: r)]
theorem join_txt (a : List Nat) (ys : List (List Nat)) : Txt.join (sOf a) (ys.map sOf) = sOf (joinS a ys) := by
  refine TL.ext_tl ?_
  rw [TL.join_eq, TL.tl_join, List.map_map]
  have : (TL.tl ∘ sOf) = id := by funext z; rfl
  rw [this, List.map_id]
  exact joinS_tl a ys
theorem join_ok : MtR X "str.join" (rM T X.K E mtJoin) := by
  intro pins s σ H x xs v us Q I rx rv ⟨ρ, F, S, dx, ds, rl, r, rs, hp⟩
  unfold mtJoin at hp
  split at hp
  · rename_i a y
    cases e : asQ S y with
    | none => simp only [e] at hp; exact hp.elim
    | some zs =>
      simp only [e, Option.bind_some] at hp
      cases e2 : Mp.strsD zs with
      | none => simp only [e2] at hp; exact hp.elim
      | some ys =>
        simp only [e2] at hp
        split at hp
        · rename_i hl
          cases rs with
          | cons ry rn =>
          cases rn
          cases r
          obtain ⟨p, vs, rfl, hr, rk⟩ := rl.asQ ry e
          have := rk.strs e2
          subst this
          refine mt_join pins s σ H _ _ v us Q I rx rv ⟨_, p, ys.map sOf, rfl, rfl, hr, ?_, by rw [join_txt]; exact hp.here rl (.str _)⟩
          rw [List.map_map, List.length_map, sOf_len]
          have : (Str.length ∘ sOf) = List.length := by funext z; exact sOf_len z
          rw [this]; exact hl
        · exact hp.elim
  · exact hp.elim
theorem splitC_ne (c : Nat) : ∀ l, splitC c l ≠ []
  | [] => by simp [splitC]
  | d :: r => by
    unfold splitC
    split
    · simp
    · split <;> simp
theorem spl_splitC (c : Nat) : ∀ (l acc : List Nat), TL.spl [c] 0 acc l = match splitC c l with | [] => [acc] | p :: ps => (acc ++ p) :: ps
  | [], acc => by simp [TL.spl_nil, splitC]
  | d :: r, acc => by
    by_cases h : d = c
    · subst h
      have hp : TL.pre [d] (d :: r) = true := TL.pre_self [d] r
      rw [TL.spl_hit hp]
      simp only [splitC, if_pos rfl, List.length_singleton, Nat.sub_self, List.append_nil]
      rw [spl_splitC d r []]
      cases e : splitC d r with
      | nil => exact absurd e (splitC_ne d r)
      | cons p ps => simp
    · have hp : TL.pre [c] (d :: r) = false := TL.pre_of_head [] r h
      rw [TL.spl_miss hp, spl_splitC c r (acc ++ [d])]
      simp only [splitC, if_neg h]
      cases splitC c r <;> simp
theorem splitC_len (c : Nat) : ∀ l, (splitC c l).length ≤ l.length + 1
  | [] => by simp [splitC]
  | d :: r => by
    have ih := splitC_len c r
    unfold splitC
    split
    · simp; omega
    · split
      · simp
      · rename_i h; rw [h] at ih; simp at ih ⊢; omega
theorem split_txt (a : List Nat) (c : Nat) (hc : c < 256) : Txt.split (sOf a) (sOf [c]) = (splitC c a).map sOf := by
  refine TL.map_tl_inj ?_
  rw [TL.split_spl _ _ (by simp [TL.tl, sOf]) (TL.kind_ok (by simp [sOf]; exact hc)), List.map_map]
  have : (TL.tl ∘ sOf) = id := by funext z; rfl
  rw [this, List.map_id]
  show TL.spl [c] 0 [] a = splitC c a
  rw [spl_splitC c a []]
  cases e : splitC c a with
  | nil => exact absurd e (splitC_ne c a)
  | cons p ps => simp
theorem split_ok : MtR X "str.split" (rM T X.K E mtSplit) := by
  intro pins s σ H x xs v us Q I rx rv ⟨ρ, F, S, dx, ds, rl, r, rs, hp⟩
  unfold mtSplit at hp
  split at hp
  · rename_i a c
    split at hp
    · rename_i hl
      cases rs with
      | cons ry rn =>
      cases rn
      cases r; cases ry
      refine mt_split pins s σ H _ _ v us Q I rx rv ⟨_, _, rfl, rfl, rfl, by rw [sOf_len]; exact hl.1, fun p hn => ?_⟩
      rw [split_txt _ _ hl.2]
      exact alloc_ok (m := false) rl (RL.of_strs _) hp hn
    · exact hp.elim
  · exact hp.elim
theorem bits_ok : MtR X "int.bit_length" (rM T X.K E mtBits) := by
  intro pins s σ H x xs v us Q I rx rv ⟨ρ, F, S, dx, ds, rl, r, rs, hp⟩
  unfold mtBits at hp
  split at hp
  · rename_i i
    cases rs
    cases r
    obtain ⟨t, rfl⟩ := _root_.id rx
    cases rv
    refine call_int_bit_length ⟨.int _, H, I.tok _, ⟨_, rfl⟩, ?_⟩
    have e : Builtin.Int.intBits i = if i = 0 then 0 else i.natAbs.log2 + 1 := by
      unfold Builtin.Int.intBits
      by_cases h : i = 0 <;> simp [h]
    rw [e]
    exact hp.here rl (.int _)
  · exact hp.elim

/-! ### texts: where a sign stands, signs taken away ahead -/
theorem occ_full (x y : Str) (hi : Nat) : ∀ (l : List Nat) (st : Array Nat × Nat), 1 ≤ st.fst.size → (forIn l st (StrLaws.occBody x y hi 1)).run.fst = st.fst
  | [], st, _ => rfl
  | a :: l, st, h => by
    rw [List.forIn_cons]
    unfold StrLaws.occBody
    rw [if_neg (by omega)]
    exact occ_full x y hi l _ h
theorem occ_first (x : Str) (c : Nat) : ∀ (l : List Nat) (free : Nat), (∀ i ∈ l, free ≤ i) → (forIn l ((#[] : Array Nat), free) (StrLaws.occBody x ⟨#[c]⟩ x.length 1)).run.fst.toList = (match l.find? (fun i => decide (x.cps.toList[i]? = some c)) with | some i => [i] | none => [])
  | [], _, _ => rfl
  | a :: l, free, hf => by
    rw [List.forIn_cons]
    unfold StrLaws.occBody
    have ha : free ≤ a := hf a (List.mem_cons_self ..)
    by_cases hc : x.cps.toList[a]? = some c
    · have h := (StrLaws.subAt_one x c a).mpr hc
      rw [if_pos ⟨⟨⟨by simp, ha⟩, h.1⟩, h.2⟩, List.find?_cons, decide_eq_true hc]
      show (forIn l _ (StrLaws.occBody x ⟨#[c]⟩ x.length 1)).run.fst.toList = _
      rw [occ_full x _ _ l _ (by simp)]
      rfl
    · rw [if_neg (fun h => hc ((StrLaws.subAt_one x c a).mp ⟨h.1.2, h.2⟩)), List.find?_cons, decide_eq_false hc]
      exact occ_first x c l free (fun i hi => hf i (List.mem_cons_of_mem _ hi))
theorem occ_fnd (a : List Nat) (c : Nat) : Builtin.Str.occurrences (sOf a) (sOf [c]) 0 (sOf a).length 1 = (match fndI a c with | some i => [i] | none => []) := by
  rw [StrLaws.occ_eq]
  have := occ_first (sOf a) c (List.range' 0 ((sOf a).length + 1 - 0)) 0 (fun _ _ => Nat.zero_le _)
  refine this.trans ?_
  have e : (List.range' 0 ((sOf a).length + 1 - 0)).find? (fun i => decide ((sOf a).cps.toList[i]? = some c)) = fndI a c := by
    rw [sOf_len, Nat.sub_zero]
    show (List.range' 0 (a.length + 1)).find? (fun i => decide (a[i]? = some c)) = _
    cases h : fndI a c with
    | none =>
      rw [List.find?_eq_none]
      intro i _ hi
      have hi := of_decide_eq_true hi
      have hm : c ∈ a := List.mem_of_getElem? hi
      unfold fndI at h
      rw [List.findIdx?_eq_none_iff] at h
      have := h c hm
      simp at this
    | some i =>
      unfold fndI at h
      rw [List.findIdx?_eq_some_iff_getElem] at h
      obtain ⟨h1, h2, h3⟩ := h
      rw [List.find?_range'_eq_some]
      refine ⟨?_, ?_, fun j _ hj => ?_⟩
      · have := beq_iff_eq.mp h2
        simp [h1, this]
      · simp [List.mem_range']; omega
      · have hj2 : j < a.length := by omega
        have := h3 j hj
        simp [hj2]
        simpa using this
  rw [e]
theorem find_ok : MtR X "str.find" (rM T X.K E mtFind) := by
  intro pins s σ H x xs v us Q I rx rv ⟨ρ, F, S, dx, ds, rl, r, rs, hp⟩
  unfold mtFind at hp
  split at hp
  · rename_i a c
    cases rs with
    | cons ry rn =>
    cases rn
    cases r; cases ry
    refine mt_find pins s σ H _ _ v us Q I rx rv ⟨_, _, rfl, rfl, ?_⟩
    have e : Txt.find (sOf a) (sOf [c]) = (match fndI a c with | some i => (i : Int) | none => -1) := by
      unfold Txt.find
      rw [occ_fnd]
      cases fndI a c <;> rfl
    rw [e]
    exact hp.here rl (.int _)
  · exact hp.elim
theorem sindex_ok : MtR X "str.index" (rM T X.K E mtSindex) := by
  intro pins s σ H x xs v us Q I rx rv ⟨ρ, F, S, dx, ds, rl, r, rs, hp⟩
  unfold mtSindex at hp
  split at hp
  · rename_i a c
    cases rs with
    | cons ry rn =>
    cases rn
    cases r; cases ry
    split at hp
    · rename_i i hi
      exact mt_sindex pins s σ H _ _ v us Q I rx rv ⟨_, _, i, [], rfl, rfl, by rw [occ_fnd, hi], hp.here rl (.int _)⟩
    · exact hp.elim
  · exact hp.elim
theorem lstrip_txt (a : List Nat) (c : Nat) : Txt.lstripChars (sOf a) (sOf [c]) = sOf (a.dropWhile fun d => d == c) := by
  rw [Txt.lstripChars, PySem.W.stripBy_eq]
  refine TL.ext_tl ?_
  have e : (sOf [c]).cps.contains = fun d => d == c := by
    funext d
    show (#[c] : Array Nat).contains d = _
    rw [Bool.eq_iff_iff]
    simp
  show TL.tl (Builtin.Str.strSub (sOf a) ((sOf a).cps.toList.takeWhile _).length (sOf a).length) = _
  rw [TL.tl_strSub_end, e]
  show (a.drop (a.takeWhile _).length) = a.dropWhile _
  have : ∀ l : List Nat, l.drop (l.takeWhile fun d => d == c).length = l.dropWhile fun d => d == c := fun l => by
    induction l with
    | nil => rfl
    | cons d l ih =>
      rw [List.takeWhile_cons, List.dropWhile_cons]
      split
      · exact ih
      · rfl
  exact this a
theorem lstrip_ok : MtR X "str.lstrip" (rM T X.K E mtLstrip) := by
  intro pins s σ H x xs v us Q I rx rv ⟨ρ, F, S, dx, ds, rl, r, rs, hp⟩
  unfold mtLstrip at hp
  split at hp
  · rename_i a c
    cases rs with
    | cons ry rn =>
    cases rn
    cases r; cases ry
    split at hp
    · rename_i hl
      exact mt_lstripChars pins s σ H _ _ v us Q I rx rv ⟨_, _, rfl, rfl, by rw [sOf_len]; exact hl, by rw [lstrip_txt]; exact hp.here rl (.str _)⟩
    · exact hp.elim
  · exact hp.elim

/-! ### a cell's list: an item put in, the last one taken, another list behind -/
theorem RL.drop' {ca ρ : Nat → Addr} {F : Hp} {n : Nat} : ∀ {ds : List D} {vs : List V} (k : Nat), RL ca ρ F n ds vs → RL ca ρ F n (ds.drop k) (vs.drop k)
  | _, _, 0, h => h
  | _, _, _ + 1, .nil => .nil
  | _, _, k + 1, .cons r t => RL.drop' k t
theorem RL.dropL {ca ρ : Nat → Addr} {F : Hp} {n : Nat} {ds : List D} {vs : List V} (r : RL ca ρ F n ds vs) : RL ca ρ F n ds.dropLast vs.dropLast := by
  rw [List.dropLast_eq_take, List.dropLast_eq_take, r.length]
  exact r.take _
theorem RL.nth {ca ρ : Nat → Addr} {F : Hp} {n : Nat} : ∀ {ds : List D} {vs : List V} {k : Nat} {d : D}, RL ca ρ F n ds vs → ds[k]? = some d → ∃ v, vs[k]? = some v ∧ RV ca ρ F n d v
  | _, _, 0, _, .cons r _, h => by simp at h; subst h; exact ⟨_, rfl, r⟩
  | _, _, k + 1, _, .cons _ t, h => by simpa using RL.nth (k := k) t (by simpa using h)
theorem insert_ok : MtR X "list.insert" (rM T X.K E mtInsert) := by
  intro pins s σ H x xs v us Q I rx rv ⟨ρ, F, S, dx, ds, rl, r, rs, hp⟩
  unfold mtInsert at hp
  split at hp
  · rename_i l i y
    split at hp
    · rename_i zs e
      split at hp
      · rename_i hl
        cases rs with
        | cons ri rs =>
        cases ri
        cases rs with
        | cons ry rn =>
        cases rn
        cases r with
        | ref hlt =>
        obtain ⟨vs, e2, r2⟩ := rl.cell _ _ e
        refine mt_insert pins s σ H _ _ v us Q I rx rv ⟨_, vs, _, _, rfl, rfl, e2, by rw [← r2.length]; exact hl.1, hl.2.1, by omega, ?_⟩
        obtain ⟨rl', x'⟩ := rl.write (o' := .lst (zs.take i.toNat ++ [y] ++ zs.drop i.toNat)) (ho := .lst (vs.take i.toNat ++ [_] ++ vs.drop i.toNat)) e (fun z => by cases z) ⟨_, upd_same, ((r2.take _).append (.cons ry .nil)).append (r2.drop' _)⟩
        exact hp _ _ _ _ x' rl' .non
      · exact hp.elim
    · exact hp.elim
  · exact hp.elim
theorem pop_ok : MtR X "list.pop" (rM T X.K E mtPop) := by
  intro pins s σ H x xs v us Q I rx rv ⟨ρ, F, S, dx, ds, rl, r, rs, hp⟩
  unfold mtPop at hp
  split at hp
  · rename_i l
    split at hp
    · rename_i zs e
      split at hp
      · rename_i y hy
        cases rs
        cases r with
        | ref hlt =>
        obtain ⟨vs, e2, r2⟩ := rl.cell _ _ e
        obtain ⟨yv, hyv, ry⟩ := r2.nth hy
        refine mt_pop pins s σ H _ _ v us Q I rx rv ⟨_, vs, yv, rfl, rfl, e2, by rw [← r2.length]; exact hyv, ?_⟩
        obtain ⟨rl', x'⟩ := rl.write (o' := .lst zs.dropLast) (ho := .lst vs.dropLast) e (fun z => by cases z) ⟨_, upd_same, r2.dropL⟩
        exact hp _ _ _ _ x' rl' (x'.rv ry)
      · exact hp.elim
    · exact hp.elim
  · exact hp.elim
theorem extend_ok : MtR X "list.extend" (rM T X.K E mtExtend) := by
  intro pins s σ H x xs v us Q I rx rv ⟨ρ, F, S, dx, ds, rl, r, rs, hp⟩
  unfold mtExtend at hp
  split at hp
  · rename_i l y
    split at hp
    · rename_i zs ws e eM
      split at hp
      · rename_i hl
        cases rs with
        | cons ry rn =>
        cases rn
        cases r with
        | ref hlt =>
        obtain ⟨vs, e2, r2⟩ := rl.cell _ _ e
        obtain ⟨b, us', rfl, hb, rb⟩ := rl.asM ry eM
        refine mt_extend pins s σ H _ _ v us Q I rx rv ⟨_, b, vs, us', rfl, rfl, e2, hb, by rw [← r2.length, ← rb.length]; exact hl, ?_⟩
        obtain ⟨rl', x'⟩ := rl.write (o' := .lst (zs ++ ws)) (ho := .lst (vs ++ us')) e (fun z => by cases z) ⟨_, upd_same, r2.append rb⟩
        exact hp _ _ _ _ x' rl' .non
      · exact hp.elim
    · exact hp.elim
  · exact hp.elim
end
end Mp
end
section
set_option maxHeartbeats 4000000
namespace Mp
open PySem L2 PyProof.Rows
/-! ### enumerate of a text -/
def Ites (x : Str) : L2.It := ⟨fun i _ => i < x.cps.size, fun i H v H' => ∃ T c, v = .ref T ∧ H T = none ∧ H' = upd H T (.tup [.int (i : Nat), .str ⟨#[c]⟩]) ∧ x.cps[i]? = some c, fun i _ => x.cps.size ≤ i⟩
theorem turn_enumS {P : Program} {w : World} {K : PySem.W.Frag} {elts : List Expr} {k : Nat} {tpos : Pos} (x : Str) (t : Tok) (e it : Addr) :
    Turn P w K (.Tuple elts k tpos) (Ites x) [e, it] e (fun i h => (∃ old, IsEnum h e it ((i : Nat) : Int) old) ∧ h.IsStrIter it (strIterType x) x t i ∧ e ≠ it ∧ i ≤ x.cps.size) where
  mem := by simp
  obj := fun i h st b hb => by
    obtain ⟨⟨old, he⟩, ⟨o, ho, hc, hd⟩, _⟩ := st
    have e' : b = e ∨ b = it := by simpa using hb
    rcases e' with z | z
    · rw [z]; exact ⟨_, he, fun v q => nomatch q⟩
    · rw [z]; exact ⟨o, ho, fun v q => by rw [hd] at q; cases q⟩
  keep := fun i h h' st kp => let ⟨⟨old, he⟩, ⟨o, ho, r⟩, hne⟩ := st; ⟨⟨old, kp e (by simp) _ he⟩, ⟨o, kp it (by simp) o ho, r⟩, hne⟩
  item := by
    intro X hP hw hK hc i pins s σ H E I hf st hg
    subst hP hw hK
    obtain ⟨⟨old, he⟩, hit, hne, hle⟩ := st
    have hel : e < s.heap.objs.size := Heap.lt_size he
    have hil : it < s.heap.objs.size := by obtain ⟨_, q, _⟩ := hit; exact Heap.lt_size q
    have D := PySem.Draws.text (prog := X.prog) (w := X.w) (A := X.A.in1) (I.ok.hd hc) it x t
    refine wpAny_pyNext_enum_itemD D he hit hg hne (fun z => hne (by simpa using z)) fun u h' tk hu ho hit' hT hsz hk => ?_
    obtain ⟨c, t2, hcx, rfl⟩ := hu
    refine ⟨_, rfl, wpAny_letOwnedTupleGo_enum (s := { s with heap := h', toks := tk + 1 }) ho fun h'' he' sb => ?_⟩
    have hT2 : h''.get? s.heap.objs.size = some { cls := .type "tuple", data := .seq #[.int i tk, .str ⟨#[c]⟩ t2] } := (sb.2 _ (Nat.ne_of_gt hel)).trans hT
    have new : ObjOk X.prog X.w (upd H s.heap.objs.size (.tup [.int (i : Nat), .str ⟨#[c]⟩])) h'' s.heap.objs.size (.tup [.int (i : Nat), .str ⟨#[c]⟩]) :=
      ⟨by show 2 ≤ sizeLine; decide, [.int i tk, .str ⟨#[c]⟩ t2], .cons ⟨_, rfl⟩ (.cons ⟨_, rfl⟩ .nil), ⟨_, hT2, rfl, _, rfl⟩⟩
    have I1 : L2.Inv X pins σ (upd H s.heap.objs.size (.tup [.int (i : Nat), .str ⟨#[c]⟩])) { s with heap := h'', toks := tk + 1 } :=
      I.turnedNew (ch := [e, it]) (fun b ob hb q => (sb.2 b (fun z => hb (by simp [z]))).trans (hk b ob (fun z => hb (by simp [z])) (fun z => hb (by simp [z])) q)) hf (Nat.le_refl _) new
    refine ⟨.ref s.heap.objs.size, _, I1, rfl, ⟨_, c, rfl, I.hok.fresh (Nat.le_refl _), rfl, hcx⟩, ⟨⟨.str ⟨#[c]⟩ t2, ?_⟩, ?_, hne, hg⟩, fun b hb => ?_⟩
    · have e1 : ((i + 1 : Nat) : Int) = (i : Int) + 1 := by omega
      rw [e1]; exact he'
    · obtain ⟨o, q1, q2⟩ := hit'
      exact ⟨o, (sb.2 it (Ne.symm hne)).trans q1, q2⟩
    · have hb' : b < s.heap.objs.size := by
        have e' : b = e ∨ b = it := by simpa using hb
        rcases e' with z | z
        · rw [z]; exact hel
        · rw [z]; exact hil
      rw [upd_ne (Nat.ne_of_lt hb')]
      exact (hf b hb).1
  done := by
    intro X hP hw hK hc i pins s σ H E I hf st hg
    subst hP hw hK
    obtain ⟨⟨old, he⟩, hit, hne, hle⟩ := st
    obtain ⟨f0, f1, f2, f3, f4, f5⟩ := hf it (by simp)
    have D := PySem.Draws.text (prog := X.prog) (w := X.w) (A := X.A.in1) (I.ok.hd hc) it x t
    have hi : i = x.cps.size := Nat.le_antisymm hle hg
    exact wpAny_pyNext_enum_endD D he (by rw [← hi]; exact hit) fun h' eb => ⟨rfl, I.turned (t' := s.toks) (fun b o hb q => eb b o hb q) f0 f1 f3 f4 f5⟩
  self := fun A i s Q E st h => let ⟨⟨_, he⟩, _⟩ := st; wpAny_pyIter_enum he h
def iEnumS (ta : TA) : TI := fun σ H R => ta σ H fun vs H1 => ∃ x, vs = [.str x] ∧ R (Ites x) H1
theorem pi_enumS {X : Cx} {e : Expr} {ta : TA} {p pos tpos : Pos} {elts : List Expr} {k : Nat} (hg : Gl X "enumerate") (hm : X.mg "enumerate" = none) (ha : PA X [e] ta) (hs : starEach [e] X.env = [(false, eval e X.env)]) :
    PI X (.Tuple elts k tpos) (.Call (.Name "enumerate" p) [e] [] pos) (iEnumS ta) := by
  refine ⟨fun pins s σ H R I h => ?_⟩
  refine Call_ (ld_blt I hg hm boot_enumerate (PyProof.Rows.callWith_type1 (thn (ha.run pos pins s σ H _ I h) fun us s1 ⟨vs, H1, I1, r1, q1⟩ => ?_) hs rfl))
  obtain ⟨x, ex, q⟩ := q1
  subst ex
  cases r1 with
  | cons r rr =>
    cases rr
    obtain ⟨t, rfl⟩ := r
    refine call_enumerate_str fun h' he hit hsz hk => wpAny_pyIter_enum he ?_
    have I2 : L2.Inv X pins σ H1 { s1 with heap := h' } := I1.kept (t' := s1.toks) hk
    refine ⟨s1.heap.objs.size + 1, [s1.heap.objs.size + 1, s1.heap.objs.size], _, _, H1, rfl, I2, turn_enumS x t (s1.heap.objs.size + 1) s1.heap.objs.size, ⟨⟨.none, he⟩, hit, Nat.succ_ne_self _, Nat.zero_le _⟩, fun b hb => ?_, q⟩
    have e' : b = s1.heap.objs.size + 1 ∨ b = s1.heap.objs.size := by simpa using hb
    have hle : s1.heap.objs.size ≤ b := by
      rcases e' with z | z
      · rw [z]; exact Nat.le_add_right _ _
      · rw [z]; exact Nat.le_refl _
    exact I1.fpOk hle (I1.hok.fresh hle)

/-! ### what is walked, ours and theirs -/
def gI (T : Tb) (K : PySem.W.Frag) : RG (List D × Chk) L2.It := fun ρ F n xk J =>
  ∀ ρ' F' S' H', (∀ l, l < n → ρ' l = ρ l) → (∀ a o, F a = some o → F' a = some o) → n ≤ List.length S' → Rel T K ρ' F' S' H' → xk.2.ok S' = true → ∀ i : Nat,
    (xk.1.length ≤ i → J.stop i H') ∧ ∀ x, xk.1[i]? = some x → J.go i H' ∧ ∀ v H'', J.yld i H' v H'' → ∃ F'', Rel T K ρ' F'' S' H'' ∧ Ext ρ' F' S' H' ρ' F'' S' H'' ∧ RV T.ca ρ' F'' (List.length S') x v
section
variable {T : Tb} {K : PySem.W.Frag} {ρ : Nat → Addr} {F : Hp} {n : Nat}
/-- one that makes nothing: the items lie there -/
theorem gI_still {J : L2.It} {xs : List D} {k : Chk} (h : ∀ ρ' F' S' H', (∀ l, l < n → ρ' l = ρ l) → (∀ a o, F a = some o → F' a = some o) → n ≤ List.length S' → Rel T K ρ' F' S' H' → k.ok S' = true →
    ∃ vs, RL T.ca ρ' F' (List.length S') xs vs ∧ ∀ i : Nat, (vs.length ≤ i → J.stop i H') ∧ ∀ v, vs[i]? = some v → J.go i H' ∧ ∀ v' H'', J.yld i H' v' H'' → v' = v ∧ H'' = H') : gI T K ρ F n (xs, k) J := by
  intro ρ' F' S' H' h1 h2 h3 rl hk i
  obtain ⟨vs, r, hv⟩ := h ρ' F' S' H' h1 h2 h3 rl hk
  refine ⟨fun hi => (hv i).1 (by rw [← r.length]; exact hi), fun x hx => ?_⟩
  obtain ⟨v, e, rv⟩ := r.get hx
  refine ⟨((hv i).2 v e).1, fun v' H'' hy => ?_⟩
  obtain ⟨rfl, rfl⟩ := ((hv i).2 v e).2 v' H'' hy
  exact ⟨F', rl, .refl, rv⟩
theorem RL.of_rng (lo : Int) : ∀ k : Nat, RL T.ca ρ F n (rangeD lo k) ((List.range k).map fun i => V.int (lo + (i : Nat))) := by
  intro k
  unfold rangeD
  generalize List.range k = l
  induction l with
  | nil => exact .nil
  | cons i r ih => exact .cons (.int _) ih
theorem gI_range (lo : Int) (k : Nat) : gI T K ρ F n (rangeD lo k, []) (Itr lo k) := by
  refine gI_still fun ρ' F' S' H' h1 h2 h3 rl hk => ⟨_, RL.of_rng lo k, fun i => ⟨fun hi => by show k ≤ i; simpa using hi, fun v hv => ?_⟩⟩
  rw [List.getElem?_map] at hv
  cases e : (List.range k)[i]? with
  | none => rw [e] at hv; cases hv
  | some j =>
    rw [e] at hv
    cases hv
    obtain ⟨hl, hj⟩ := List.getElem?_eq_some_iff.mp e
    have hji : j = i := by rw [← hj]; simp
    have hik : i < k := by simpa using hl
    refine ⟨hik, fun v' H'' ⟨e1, e2⟩ => ⟨by rw [e2, hji], e1⟩⟩
theorem RL.of_signs : ∀ s : List Nat, RL T.ca ρ F n (s.map fun c => .str [c]) (s.map fun c => V.str ⟨#[c]⟩)
  | [] => .nil
  | c :: r => .cons (.str [c]) (RL.of_signs r)
theorem gI_str (s : List Nat) : gI T K ρ F n (s.map fun c => .str [c], []) (Its (sOf s)) := by
  have sz : (sOf s).cps.size = s.length := by simp [sOf]
  refine gI_still fun ρ' F' S' H' h1 h2 h3 rl hk => ⟨_, RL.of_signs s, fun i => ⟨fun hi => by show (sOf s).cps.size ≤ i; rw [sz]; simpa using hi, fun v hv => ?_⟩⟩
  rw [List.getElem?_map] at hv
  cases e : s[i]? with
  | none => rw [e] at hv; cases hv
  | some c =>
    rw [e] at hv
    cases hv
    obtain ⟨hl, _⟩ := List.getElem?_eq_some_iff.mp e
    refine ⟨by show i < (sOf s).cps.size; rw [sz]; exact hl, fun v' H'' ⟨e1, c', e2, e3⟩ => ⟨?_, e1⟩⟩
    have : (sOf s).cps[i]? = some c := by show s.toArray[i]? = some c; simpa using e
    rw [this] at e2
    cases e2
    exact e3
/-- a list: a frozen one, or a cell's, that stays -/
structure LstAt (T : Tb) (K : PySem.W.Frag) (ρ : Nat → Addr) (F : Hp) (n : Nat) (xk : List D × Chk) (a : Addr) : Prop where
  at_ : ∀ ρ' F' S' H', (∀ l, l < n → ρ' l = ρ l) → (∀ a o, F a = some o → F' a = some o) → n ≤ List.length S' → Rel T K ρ' F' S' H' → xk.2.ok S' = true → ∃ vs, RL T.ca ρ' F' (List.length S') xk.1 vs ∧
    (∃ u, H' a = some u ∧ (u = .lst vs ∨ ∃ o, u = .frz o (.lst vs)))
theorem sql_uniq {H : Hp} {a : Addr} {vs us : List V} {u : HO} (h : H a = some u) (hu : u = .lst vs ∨ ∃ o, u = .frz o (.lst vs)) (hk : Rd H a (.lst us)) : us = vs := by
  rcases hu with rfl | ⟨o, rfl⟩
  · rcases hk with q | ⟨o', q⟩
    · rw [h] at q; cases q; rfl
    · rw [h] at q; cases q
  · rcases hk with q | ⟨o', q⟩
    · rw [h] at q; cases q
    · rw [h] at q; cases q; rfl
theorem lstAt_sql {H : Hp} {a : Addr} {vs : List V} {u : HO} (h : H a = some u) (hu : u = .lst vs ∨ ∃ o, u = .frz o (.lst vs)) : SqL K H a vs := by
  rcases hu with rfl | ⟨o, rfl⟩
  · exact SqL.of h
  · exact .inl (.inr ⟨o, h⟩)
theorem LstAt.gI {xk : List D × Chk} {a : Addr} (L : LstAt T K ρ F n xk a) : gI T K ρ F n xk (Itl K a) := by
  obtain ⟨xs, k⟩ := xk
  refine gI_still fun ρ' F' S' H' h1 h2 h3 rl hk => ?_
  obtain ⟨vs, r, u, hu, hv⟩ := L.at_ ρ' F' S' H' h1 h2 h3 rl hk
  have hs : SqL K H' a vs := lstAt_sql hu hv
  exact ⟨vs, r, fun i => ⟨fun hi => ⟨vs, hs, hi⟩, fun v e => ⟨⟨vs, v, hs, e⟩, fun v' H'' ⟨e1, e2⟩ => ⟨by have := e2 vs hs; rw [e] at this; cases this; rfl, e1⟩⟩⟩⟩
/-- .. of an object that stands -/
theorem LstAt.of {d : D} {v : V} {S : Store} {H : Hp} {xs : List D} {k : Chk} (rl : Rel T K ρ F S H) (r : RV T.ca ρ F S.length d v) (h : items1 d S = .ok (xs, k) S) (ht : ∀ ys, d ≠ .tup ys) : ∃ a, v = .ref a ∧ LstAt T K ρ F S.length (xs, k) a := by
  cases r <;> simp only [items1, Mp.asQ, Mp.asL] at h <;> try (cases h; done)
  case tup => exact absurd rfl (ht _)
  case lst e r =>
    cases h
    refine ⟨_, rfl, ⟨fun ρ' F' S' H' h1 h2 h3 rl' hk => ⟨_, r.mono h1 h2 h3, _, rl'.sub _ _ (h2 _ _ e), .inl rfl⟩⟩⟩
  case slst e r =>
    cases h
    refine ⟨_, rfl, ⟨fun ρ' F' S' H' h1 h2 h3 rl' hk => ⟨_, r.mono h1 h2 h3, _, rl'.sub _ _ (h2 _ _ e), .inr ⟨_, rfl⟩⟩⟩⟩
  case ref l hl =>
    split at h
    · rename_i ys e
      cases h
      refine ⟨_, rfl, ⟨fun ρ' F' S' H' h1 h2 h3 rl' hk => ?_⟩⟩
      have e2 : S'[l]? = some (.lst xs) := by
        simpa [Chk.ok] using hk
      obtain ⟨vs, e3, r3⟩ := rl'.cell _ _ e2
      rw [h1 l hl] at e3
      exact ⟨vs, r3, _, e3, .inl rfl⟩
    · cases h
theorem gI_tup {xs : List D} {a : Addr} {vs : List V} (e : F a = some (.tup vs)) (r : RL T.ca ρ F n xs vs) : gI T K ρ F n (xs, []) (Itt K a) := by
  refine gI_still fun ρ' F' S' H' h1 h2 h3 rl hk => ?_
  have hs : SqT K H' a vs := SqT.of (rl.sub _ _ (h2 _ _ e))
  exact ⟨vs, r.mono h1 h2 h3, fun i => ⟨fun hi => ⟨vs, hs, hi⟩, fun v e => ⟨⟨vs, v, hs, e⟩, fun v' H'' ⟨e1, e2⟩ => ⟨by have := e2 vs hs; rw [e] at this; cases this; rfl, e1⟩⟩⟩⟩
theorem enumD_get : ∀ (xs : List D) (j i : Nat), (enumD j xs)[i]? = xs[i]?.map fun x => .tup [.int ((j + i : Nat)), x]
  | [], j, i => by simp [enumD]
  | x :: xs, j, 0 => by simp [enumD]
  | x :: xs, j, i + 1 => by
    have := enumD_get xs (j + 1) i
    simp only [enumD, List.getElem?_cons_succ]
    rw [this]
    have e : j + 1 + i = j + (i + 1) := by omega
    rw [e]
theorem enumD_len : ∀ (xs : List D) (j : Nat), (enumD j xs).length = xs.length
  | [], j => rfl
  | x :: xs, j => by simp [enumD, enumD_len xs]
theorem LstAt.enum {xs : List D} {k : Chk} {a : Addr} (L : LstAt T K ρ F n (xs, k) a) : Mp.gI T K ρ F n (enumD 0 xs, k) (Ite K a) := by
  intro ρ' F' S' H' h1 h2 h3 rl hk i
  obtain ⟨vs, r, u, hu, hv⟩ := L.at_ ρ' F' S' H' h1 h2 h3 rl hk
  have hs : SqL K H' a vs := lstAt_sql hu hv
  refine ⟨fun hi => ⟨vs, hs, by rw [← r.length, ← enumD_len xs 0]; exact hi⟩, fun x hx => ?_⟩
  rw [enumD_get] at hx
  cases e : xs[i]? with
  | none => rw [e] at hx; cases hx
  | some y =>
    rw [e] at hx
    cases hx
    obtain ⟨v, e2, rv⟩ := r.get e
    refine ⟨⟨vs, v, hs, e2⟩, fun v' H'' ⟨p, z, e3, hn, e4, e5⟩ => ?_⟩
    subst e3 e4
    have : z = v := by
      have := e5 vs hs
      rw [e2] at this; cases this; rfl
    subst this
    obtain ⟨rl', x'⟩ := rl.lay (o := .tup [.int (i : Nat), z]) hn upd_same
    exact ⟨_, rl', x', .tup upd_same (.cons (by simpa using RV.int _) (.cons (x'.rv rv) .nil))⟩
theorem gI_enumS (s : List Nat) : gI T K ρ F n (enumD 0 (s.map fun c => .str [c]), []) (Ites (sOf s)) := by
  have sz : (sOf s).cps.size = s.length := by simp [sOf]
  intro ρ' F' S' H' h1 h2 h3 rl hk i
  refine ⟨fun hi => by show (sOf s).cps.size ≤ i; rw [sz]; simpa [enumD_len] using hi, fun x hx => ?_⟩
  rw [enumD_get, List.getElem?_map] at hx
  cases e : s[i]? with
  | none => rw [e] at hx; cases hx
  | some c =>
    rw [e] at hx
    cases hx
    obtain ⟨hl, _⟩ := List.getElem?_eq_some_iff.mp e
    refine ⟨by show i < (sOf s).cps.size; rw [sz]; exact hl, fun v' H'' ⟨p, c', e3, hn, e4, e5⟩ => ?_⟩
    subst e3 e4
    have : (sOf s).cps[i]? = some c := by show s.toArray[i]? = some c; simpa using e
    rw [this] at e5
    cases e5
    obtain ⟨rl', x'⟩ := rl.lay (o := .tup [.int (i : Nat), .str ⟨#[c]⟩]) hn upd_same
    exact ⟨_, rl', x', .tup upd_same (.cons (by simpa using RV.int _) (.cons (.str [c]) .nil))⟩
theorem zipD_get : ∀ (xs ys : List D) (i : Nat) (x y : D), xs[i]? = some x → ys[i]? = some y → (zipD xs ys)[i]? = some (.tup [x, y])
  | [], _, _, _, _, h, _ => by simp at h
  | _ :: _, [], _, _, _, _, h => by simp at h
  | x :: xs, y :: ys, 0, _, _, h, h' => by simp at h h'; subst h h'; rfl
  | x :: xs, y :: ys, i + 1, _, _, h, h' => zipD_get xs ys i _ _ (by simpa using h) (by simpa using h')
theorem zipD_some : ∀ (xs ys : List D) (i : Nat) (z : D), (zipD xs ys)[i]? = some z → ∃ x y, xs[i]? = some x ∧ ys[i]? = some y ∧ z = .tup [x, y]
  | [], _, _, _, h => by simp [zipD] at h
  | _ :: _, [], _, _, h => by simp [zipD] at h
  | x :: xs, y :: ys, 0, _, h => by simp [zipD] at h; exact ⟨x, y, rfl, rfl, h.symm⟩
  | x :: xs, y :: ys, i + 1, _, h => by
    simp only [zipD, List.getElem?_cons_succ] at h
    obtain ⟨a, b, h1, h2, h3⟩ := zipD_some xs ys i _ h
    exact ⟨a, b, by simpa using h1, by simpa using h2, h3⟩
theorem zipD_len : ∀ (xs ys : List D) (i : Nat), (zipD xs ys).length ≤ i → xs.length ≤ i ∨ ys.length ≤ i
  | [], _, _, _ => .inl (Nat.zero_le _)
  | _ :: _, [], _, _ => .inr (Nat.zero_le _)
  | x :: xs, y :: ys, 0, h => by simp [zipD] at h
  | x :: xs, y :: ys, i + 1, h => by
    have := zipD_len xs ys i (by simpa [zipD] using h)
    simpa using this
theorem Chk.ok_app {k j : Chk} {S : Store} (h : Chk.ok (k ++ j) S = true) : k.ok S = true ∧ j.ok S = true := by
  unfold Chk.ok at h ⊢
  rw [List.all_append, Bool.and_eq_true] at h
  exact h
/-- two lists -/
theorem gI_zip {xs ys : List D} {k j : Chk} {a b : Addr} (L : LstAt T K ρ F n (xs, k) a) (M : LstAt T K ρ F n (ys, j) b) : Mp.gI T K ρ F n (zipD xs ys, k ++ j) (Itz K a b) := by
  intro ρ' F' S' H' h1 h2 h3 rl hk i
  obtain ⟨hk1, hk2⟩ := Chk.ok_app hk
  obtain ⟨vs, r, u, hu, hv⟩ := L.at_ ρ' F' S' H' h1 h2 h3 rl hk1
  have hs : SqL K H' a vs := lstAt_sql hu hv
  obtain ⟨vs', r', u', hu', hv'⟩ := M.at_ ρ' F' S' H' h1 h2 h3 rl hk2
  have hs' : SqL K H' b vs' := lstAt_sql hu' hv'
  refine ⟨fun hi => ⟨vs, vs', hs, hs', by rw [← r.length, ← r'.length]; exact zipD_len _ _ _ hi⟩, fun x hx => ?_⟩
  obtain ⟨p, q, e1, e2, rfl⟩ := zipD_some _ _ _ _ hx
  obtain ⟨v, e3, rv⟩ := r.get e1
  obtain ⟨v', e4, rv'⟩ := r'.get e2
  refine ⟨⟨vs, vs', v, v', hs, hs', e3, e4⟩, fun w' H'' ⟨t, z, z', e5, hn, e6, e7, e8⟩ => ?_⟩
  subst e5 e6
  have z1 : z = v := by have := e7 vs hs; rw [e3] at this; cases this; rfl
  have z2 : z' = v' := by have := e8 vs' hs'; rw [e4] at this; cases this; rfl
  subst z1 z2
  obtain ⟨rl', x'⟩ := rl.lay (o := .tup [z, z']) hn upd_same
  exact ⟨_, rl', x', .tup upd_same (.cons (x'.rv rv) (.cons (x'.rv rv') .nil))⟩
/-- two tuples -/
theorem gI_zipT {xs ys : List D} {a b : Addr} {vs vs' : List V} (e1 : F a = some (.tup vs)) (r1 : RL T.ca ρ F n xs vs) (e2 : F b = some (.tup vs')) (r2 : RL T.ca ρ F n ys vs') : Mp.gI T K ρ F n (zipD xs ys, []) (RZ.ItzT K a b) := by
  intro ρ' F' S' H' h1 h2 h3 rl hk i
  have r := r1.mono (ρ' := ρ') h1 h2 h3
  have r' := r2.mono (ρ' := ρ') h1 h2 h3
  have hs : SqT K H' a vs := SqT.of (rl.sub _ _ (h2 _ _ e1))
  have hs' : SqT K H' b vs' := SqT.of (rl.sub _ _ (h2 _ _ e2))
  refine ⟨fun hi => ⟨vs, vs', hs, hs', by rw [← r.length, ← r'.length]; exact zipD_len _ _ _ hi⟩, fun x hx => ?_⟩
  obtain ⟨p, q, e1, e2, rfl⟩ := zipD_some _ _ _ _ hx
  obtain ⟨v, e3, rv⟩ := r.get e1
  obtain ⟨v', e4, rv'⟩ := r'.get e2
  refine ⟨⟨vs, vs', v, v', hs, hs', e3, e4⟩, fun w' H'' ⟨t, z, z', e5, hn, e6, e7, e8⟩ => ?_⟩
  subst e5 e6
  have z1 : z = v := by have := e7 vs hs; rw [e3] at this; cases this; rfl
  have z2 : z' = v' := by have := e8 vs' hs'; rw [e4] at this; cases this; rfl
  subst z1 z2
  obtain ⟨rl', x'⟩ := rl.lay (o := .tup [z, z']) hn upd_same
  exact ⟨_, rl', x', .tup upd_same (.cons (x'.rv rv) (.cons (x'.rv rv') .nil))⟩
end
end Mp
end
section
set_option maxHeartbeats 4000000
namespace Mp
open PySem L2 PyProof.Rows
/-! ### a code and the text that it stands for -/
structure Shp where
  np : Nat
  ks : List Str
  perm : List Nat
  dv : List D
structure FnE where
  x : Str
  f : Nat
  ps : List Str
  shapes : List Shp
structure Gs where
  fns : List FnE
  cls : List (Str × Nat)
  rs : List (Str × Nat)
  cs : List (Str × D) := []
def BI.nm : BI → Str
  | .isinst => "isinstance" | .len => "len" | .max => "max" | .min => "min" | .sum => "sum" | .all => "all" | .any => "any" | .int => "int" | .str => "str" | .list => "list" | .tuple => "tuple" | .sorted => "sorted" | .repr => "repr" | .dict => "dict" | .abs => "abs"
def BI.ok : BI → Bool
  | .dict => false | .abs => false | _ => true
def MI.nm : MI → Str
  | .append => "append" | .insert => "insert" | .extend => "extend" | .pop => "pop" | .index => "index" | .count => "count" | .join => "join" | .split => "split" | .find => "find" | .bitlen => "bit_length" | .get => "get" | .sindex => "index" | .lstrip => "lstrip"
def MI.ok : MI → Bool
  | .append => true | .index => true | .count => true | .join => true | .split => true | .bitlen => true | .insert => true | .pop => true | .extend => true | .find => true | .sindex => true | .lstrip => true | _ => false
def constOk (d : D) (c : Const) : Bool := match d, c with
  | .non, .none => true
  | .bl a, .bool b => a == b
  | .int i, .int j => decide (i = j)
  | .str s, .str x => decide (s = x.cps.toList)
  | _, _ => false
def globB (sc : Scope) (x : Str) : Bool := match sc.names.lookup x with | some .globalImplicit => true | _ => false
def visB (sc : Scope) (x : Str) : Bool := match sc.names.lookup x with | some .local => true | some .cell => true | some .free => true | _ => false
def locB (sc : Scope) (x : Str) : Bool := match sc.names.lookup x with | some .local => true | some .cell => true | _ => false
def nmOk (G : Gs) (d : D) (x : Str) : Bool := match d with
  | .bty t => decide (x = (t.nm : Str))
  | .cls n => G.cls.any fun p => decide (p.1 = x) && decide (p.2 = n)
  | .str s => G.cs.any fun p => decide (p.1 = x) && D.eqb p.2 (.str s)
  | .int i => G.cs.any fun p => decide (p.1 = x) && D.eqb p.2 (.int i)
  | _ => false
def notStar : Expr → Bool
  | .Starred _ _ => false
  | _ => true
def notSet : Expr → Bool
  | .Set _ _ _ => false
  | _ => true
def notSlice : Expr → Bool
  | .Slice _ _ _ _ => false
  | _ => true
def notIf : Expr → Bool
  | .IfExp _ _ _ _ => false
  | _ => true
def baseOk : Expr → Bool
  | .Call (.Name x _) [] [] _ => !(x == ("super" : Str))
  | _ => true
def debB (x : Str) : Bool := !(x == ("__debug__" : Str))
def rangeL (n : Nat) : List Nat := List.range n
def mkOwn (N : List Str) (own : List Nat) : List (Str × Nat) := own.map fun i => (N.getD i Str.empty, i)
def DLok : List D → List D → Bool := eqbL
def shpHas (G : Gs) (x : Str) (f np : Nat) (ks : List Str) (perm : List Nat) (dv : List D) : Bool :=
  G.fns.any fun fe => decide (fe.x = x) && decide (fe.f = f) && (fe.shapes.any fun sh => decide (sh.perm.length = fe.ps.length) && decide (sh.np = np) && decide (sh.ks = ks) && decide (sh.perm = perm) && eqbL sh.dv dv)
def kwNames : List Keyword → Option (List Str)
  | [] => some []
  | ⟨some k, _, _⟩ :: r => (kwNames r).map (k :: ·)
  | _ :: _ => none
def lenEs : Cds → Nat
  | .nil => 0
  | .cons _ r => lenEs r + 1
def tgOk1 (N : List Str) (sc : Scope) (i : Nat) (e : Expr) : Bool := match e with
  | .Name x _ => decide (N[i]? = some x) && locB sc x
  | _ => false
def tgOks (N : List Str) (sc : Scope) : List Nat → List Expr → Bool
  | [], [] => true
  | i :: is, e :: es => tgOk1 N sc i e && tgOks N sc is es
  | _, _ => false
def tgOk (N : List Str) (sc : Scope) (t : Tg) (e : Expr) : Bool := match t with
  | .n i => tgOk1 N sc i e
  | .ns is => match e with
    | .Tuple es _ _ => tgOks N sc is es
    | _ => false
def Tg.ixs : Tg → List Nat
  | .n i => [i]
  | .ns is => is
def plainT : Expr → Bool
  | .BoolOp _ _ _ => false
  | .IfExp _ _ _ _ => false
  | .Compare _ _ _ _ => false
  | .UnaryOp .Not _ _ => false
  | _ => true
def isTup : Expr → Bool
  | .Tuple _ _ _ => true
  | _ => false
/-- minus one, written -/
def minus1 : Expr → Bool
  | .BinOp (.Constant (.int 0) _ _) .Sub (.Constant (.int 1) _ _) _ => true
  | .UnaryOp .USub (.Constant (.int 1) _ _) _ => true
  | _ => false
section
variable (G : Gs) (N : List Str)
mutual
def okE : Cd → Scope → Expr → Bool
  | .c d, sc, e => (match e with
    | .Constant k _ _ => constOk d k
    | .Name x _ => globB sc x && debB x && nmOk G d x
    | _ => false)
  | .v i, sc, e => (match e with
    | .Name x _ => decide (N[i]? = some x) && visB sc x && debB x && !(x == ("__classdict__" : Str))
    | _ => false)
  | .bin _ op a b, sc, e => (match e with
    | .BinOp l o r _ => decide (op.op = o) && okE a sc l && okE b sc r
    | _ => false)
  | .neg a, sc, e => (match e with
    | .UnaryOp .USub x _ => okE a sc x
    | _ => false)
  | .not_ a, sc, e => (match e with
    | .UnaryOp .Not x _ => okE a sc x && notIf x
    | _ => false)
  | .and_ a b, sc, e => (match e with
    | .BoolOp .And (x :: y :: rest) p => okE a sc x && notIf x && (match rest with
      | [] => okE b sc y && notIf y
      | _ => okE b sc (.BoolOp .And (y :: rest) p))
    | _ => false)
  | .or_ a b, sc, e => (match e with
    | .BoolOp .Or (x :: y :: rest) p => okE a sc x && notIf x && (match rest with
      | [] => okE b sc y && notIf y
      | _ => okE b sc (.BoolOp .Or (y :: rest) p))
    | _ => false)
  | .ite c a b, sc, e => (match e with
    | .IfExp t x y _ => okE c sc t && notIf t && okE a sc x && okE b sc y
    | _ => false)
  | .cmp op a b, sc, e => (match e with
    | .Compare l [o] [r] _ => decide (op.op = o) && notSet r && okE a sc l && okE b sc r
    | _ => false)
  | .chain op op' a b c, sc, e => (match e with
    | .Compare l [o, o'] [r, t] _ => decide (op.op = o) && decide (op'.op = o') && notSet t && okE a sc l && okE b sc r && okE c sc t
    | _ => false)
  | .tup es, sc, e => (match e with
    | .Tuple l _ _ => okEs es sc l
    | _ => false)
  | .lst _ es, sc, e => (match e with
    | .List l _ => okEs es sc l
    | _ => false)
  | .dct _ ks vs, sc, e => (match e with
    | .Dict [] [] _ => (match ks, vs with
      | .nil, .nil => true
      | _, _ => false)
    | _ => false)
  | .call f es dv, sc, e => (match e with
    | .Call (.Name x _) l [] _ => globB sc x && debB x && shpHas G x f l.length [] (rangeL (l.length + dv.length)) dv && okEs es sc l
    | _ => false)
  | .callk f es ks perm dv, sc, e => (match e with
    | .Call (.Name x _) l (k :: kws) _ => globB sc x && debB x && (match kwNames (k :: kws) with
      | some ns => shpHas G x f l.length ns perm dv
      | none => false) && okEs es sc l && okKs ks sc (k :: kws)
    | _ => false)
  | .bi _ b es, sc, e => (match e with
    | .Call (.Name x _) (a :: l) [] _ => decide (x = b.nm) && b.ok && globB sc x && okEs es sc (a :: l)
    | _ => false)
  | .mt mm o es, sc, e => (match e with
    | .Call (.Attribute x nm ap) l [] cp => decide (nm = mm.nm) && mm.ok && baseOk x && (ap.endLine == cp.line) && okE o sc x && okEs es sc l && decide (l.length < 20)
    | _ => false)
  | .ix a b, sc, e => (match e with
    | .Subscript x y _ => notSlice y && okE a sc x && okE b sc y
    | _ => false)
  | .sl _ a lo hi, sc, e => (match e with
    | .Subscript x (.Slice l h none _) _ => okE a sc x && okO lo sc l && okO hi sc h
    | _ => false)
  | .rev _ a, sc, e => (match e with
    | .Subscript x (.Slice none none (some st) _) _ => minus1 st && okE a sc x
    | _ => false)
  | .comp _ elt tg it ifs own, sc, e => (match e with
    | .ListComp el [⟨t, itx, cs, 0⟩] scope _ => blkC N sc scope (mkOwn N own) && tgOk N scope tg t && tg.ixs.all (fun i => own.contains i) && (match it with
      | .keys (.v j) => (match itx with
        | .Name x _ => decide (N[j]? = some x) && visB sc x && debB x && !(x == ("__classdict__" : Str))
        | _ => false)
      | _ => okI it sc t itx) && notSet itx && okE elt scope el && (match cs with
      | [] => (match ifs with
        | .no => true
        | _ => false)
      | [c] => notIf c && okT ifs scope c
      | _ => false)
    | _ => false)
  | .fld o f, sc, e => (match e with
    | .Attribute x nm _ => decide (nm = ("value" : Str)) && decide (f = 0) && baseOk x && okE o sc x
    | _ => false)
  | .frz a, sc, e => plainT e && okE a sc e
  | .frzd a, sc, e => plainT e && okE a sc e
  | .bad, _, e => plainT e
  | .lrg _ es, sc, e => (match e with
    | .Call (.Name x _) [.Call (.Name y _) l [] _] [] _ => decide (x = ("list" : Str)) && decide (y = ("range" : Str)) && globB sc x && globB sc y && decide (l.length ≤ 3) && decide (1 ≤ l.length) && okEs es sc l
    | _ => false)
def okO : Cdo → Scope → Option Expr → Bool
  | .no, _, none => true
  | .so a, sc, some e => okE a sc e
  | _, _, _ => false
def okT : Cdo → Scope → Expr → Bool
  | .no, _, _ => false
  | .so a, sc, e => okE a sc e
def okEs : Cds → Scope → List Expr → Bool
  | .nil, _, [] => true
  | .cons a r, sc, e :: es => notStar e && okE a sc e && okEs r sc es
  | _, _, _ => false
def okKs : Cds → Scope → List Keyword → Bool
  | .nil, _, [] => true
  | .cons a r, sc, ⟨_, e, _⟩ :: es => okE a sc e && okKs r sc es
  | _, _, _ => false
def okI : It → Scope → Expr → Expr → Bool
  | .seq a, sc, _, e => okE a sc e
  | .str a, sc, _, e => okE a sc e
  | .rng1 a, sc, _, e => (match e with
    | .Call (.Name x _) [y] [] _ => decide (x = ("range" : Str)) && globB sc x && notStar y && okE a sc y
    | _ => false)
  | .rng2 a b, sc, _, e => (match e with
    | .Call (.Name x _) [y, z] [] _ => decide (x = ("range" : Str)) && globB sc x && notStar y && notStar z && okE a sc y && okE b sc z
    | _ => false)
  | .rng3 a b c, sc, _, e => (match e with
    | .Call (.Name x _) [y, z, w] [] _ => decide (x = ("range" : Str)) && globB sc x && notStar y && notStar z && notStar w && okE a sc y && okE b sc z && okE c sc w
    | _ => false)
  | .enL a, sc, t, e => (match e with
    | .Call (.Name x _) [y] [] _ => isTup t && decide (x = ("enumerate" : Str)) && globB sc x && notStar y && okE a sc y
    | _ => false)
  | .enS a, sc, t, e => (match e with
    | .Call (.Name x _) [y] [] _ => isTup t && decide (x = ("enumerate" : Str)) && globB sc x && notStar y && okE a sc y
    | _ => false)
  | .zip a b, sc, t, e => (match e with
    | .Call (.Name x _) [y, z] [] _ => isTup t && decide (x = ("zip" : Str)) && globB sc x && notStar y && notStar z && okE a sc y && okE b sc z
    | _ => false)
  | .keys _, _, _, _ => false
  | .items _, _, _, _ => false
end
end
end Mp
end
section
set_option maxHeartbeats 4000000
namespace Mp
open PySem L2 PyProof.Rows
/-! ### constants -/
def isConst : D → Bool
  | .non => true
  | .bl _ => true
  | .int _ => true
  | .str _ => true
  | _ => false
def constV : D → V
  | .bl b => .bl b
  | .int i => .int i
  | .str s => .str (sOf s)
  | _ => .non
theorem RV.const {ca ρ : Nat → Addr} {F : Hp} {n : Nat} : ∀ {d : D}, isConst d = true → RV ca ρ F n d (constV d)
  | .non, _ => .non
  | .bl b, _ => .bl b
  | .int i, _ => .int i
  | .str s, _ => .str s
theorem RL.const {ca ρ : Nat → Addr} {F : Hp} {n : Nat} : ∀ {ds : List D}, ds.all isConst = true → RL ca ρ F n ds (ds.map constV)
  | [], _ => .nil
  | d :: ds, h => by
    simp only [List.all_cons, Bool.and_eq_true] at h
    exact .cons (RV.const h.1) (RL.const h.2)
/-! ### a def's promise, where nothing is being shown -/
structure FnG (P : Program) (w : World) (K : PySem.W.Frag) (mg : Str → Option Value) (base : Heap) (CX : CXT) (k : Nat) (f : Addr) (fd : FuncData) (ps : List Str) (sp : Sp) : Prop where
  len : ∀ vs H Q E, sp vs H Q E → vs.length = ps.length
  run : ∀ (A : Around) (outer : List PySem.Env) (s : Shared) (H : Hp) (args : Args) (us : List Value) (vs : List V) (Q : VK) (E : XK), Room k A → A.guards = some [] → Env0 P w K mg base A outer s H → BindsTo s fd args (ps.zip us) → Vals vs us → sp vs H Q E →
    codeAny (model P w) A (.call (.ref f) args) (L2.CR CX outer P w H s Q E) s
theorem FnG.mono {P : Program} {w : World} {K : PySem.W.Frag} {mg : Str → Option Value} {base : Heap} {CX : CXT} {j k : Nat} {f : Addr} {fd : FuncData} {ps : List Str} {sp : Sp} (F : FnG P w K mg base CX j f fd ps sp) (h : j ≤ k) : FnG P w K mg base CX k f fd ps sp :=
  ⟨F.len, fun A outer s H args us vs Q E hr => F.run A outer s H args us vs Q E (hr.mono h)⟩
def pickL {α : Type} (d : α) (perm : List Nat) (l : List α) : List α := perm.map fun i => l.getD i d
/-- how a call of that shape is bound -/
structure ShpOk (K : PySem.W.Frag) (fd : FuncData) (ps : List Str) (sh : Shp) : Prop where
  c : sh.dv.all isConst = true
  to : ∃ ds : List Value, Vals (sh.dv.map constV) ds ∧ ∀ (s : Shared) (us ws : List Value), K.In s.heap → us.length = sh.np → ws.length = sh.ks.length → BindsTo s fd ⟨us, sh.ks.zip ws⟩ (ps.zip (pickL Value.none sh.perm (us ++ ws ++ ds)))
theorem Vals.pick {vs : List V} {us : List Value} (r : Vals vs us) : ∀ perm : List Nat, Vals (pickL V.non perm vs) (pickL Value.none perm us)
  | [] => .nil
  | i :: p => by
    refine .cons ?_ (Vals.pick r p)
    show L2.RelV (vs.getD i V.non) (us.getD i Value.none)
    cases e : vs[i]? with
    | none =>
      rw [List.getD_eq_getElem?_getD, List.getD_eq_getElem?_getD, e, r.none_of e]
      rfl
    | some x =>
      obtain ⟨u, e2, q⟩ := r.get e
      rw [List.getD_eq_getElem?_getD, List.getD_eq_getElem?_getD, e, e2]
      exact q
theorem RL.pick {ca ρ : Nat → Addr} {F : Hp} {n : Nat} {ds : List D} {vs : List V} (r : RL ca ρ F n ds vs) : ∀ {perm : List Nat} {zs : List D}, permD perm ds = some zs → RL ca ρ F n zs (pickL V.non perm vs)
  | [], zs, h => by
    simp [permD] at h
    subst h
    exact .nil
  | i :: p, zs, h => by
    unfold permD at h
    obtain ⟨y, ys, h1, h2, rfl⟩ := mapM_cons_some h
    obtain ⟨v, e, q⟩ := r.get h1
    refine .cons ?_ (RL.pick r h2)
    show RV ca ρ F n y (vs.getD i V.non)
    rw [List.getD_eq_getElem?_getD, e]
    exact q
theorem pick_all {α : Type} (d : α) (l : List α) : pickL d (rangeL l.length) l = l := by
  refine List.ext_getElem? fun i => ?_
  unfold pickL rangeL
  rw [List.getElem?_map]
  by_cases h : i < l.length
  · rw [List.getElem?_range h]
    simp [List.getD_eq_getElem?_getD, List.getElem?_eq_getElem h]
  · rw [List.getElem?_eq_none (by simp; omega), List.getElem?_eq_none (by omega)]
    rfl
section
variable {X : Cx} {CX : CXT} {k : Nat} {f : Addr} {fd : FuncData} {ps : List Str} {sp : Sp} {E : XK} {x : Str} {p pos : Pos} {e : Expr} {es : List Expr} {t : TA} {sh : Shp}
theorem run_fnG {pins : List (Addr × Obj)} {σ : L2.St} {H : Hp} {s : Shared} {Q : VK} {us ws : List Value} {vs zs : List V} (F : FnG X.prog X.w X.K X.mg X.base CX k f fd ps sp) (hr : Room k X.A) (hgd : X.A.guards = some []) (hb : ShpOk X.K fd ps sh) (hx : PassesAt CX X σ E)
    (I : Inv X pins σ H s) (r : Vals vs us) (rz : Vals zs ws) (l1 : vs.length = sh.np) (l2 : zs.length = sh.ks.length) (h : sp (pickL V.non sh.perm (vs ++ zs ++ sh.dv.map constV)) H Q E) : wpAny (model X.prog X.w) X.A (call (.ref f) us (sh.ks.zip ws)) (EP X pins σ Q) X.xe s := by
  obtain ⟨ds, rd, hto⟩ := hb.to
  have r2 := Vals.pick ((r.append rz).append rd) sh.perm
  refine wpAny_call (codeAny_mono (F.run X.A X.stack s H ⟨us, sh.ks.zip ws⟩ _ _ Q E hr hgd I.env0 (hto s us ws I.kIn (by rw [← r.length]; exact l1) (by rw [← rz.length]; exact l2)) r2 h) fun r s' hq => ?_)
  cases r with
  | error e => exact hx pins H s e s' I hq
  | ok fl =>
    cases fl with
    | ret u => exact I.after hq
    | next => exact False.elim hq
    | brk => exact False.elim hq
    | cont => exact False.elim hq
def tCG (sp : Sp) (sh : Shp) (E : L2.St → XK) (t tk : TA) : TE := fun σ H Q => t σ H fun vs H1 => vs.length = sh.np ∧ tk σ H1 fun zs H2 => zs.length = sh.ks.length ∧ sp (pickL V.non sh.perm (vs ++ zs ++ sh.dv.map constV)) H2 Q (E σ)
theorem star_all : ∀ l : List Expr, l.all notStar = true → ∀ env, (starEach l env) = l.map fun e => (false, eval e env)
  | [], _, _ => rfl
  | e :: r, h, env => by
    simp only [List.all_cons, Bool.and_eq_true] at h
    rw [List.map_cons, ← star_all r h.2]
    cases e <;> first | rfl | (simp [notStar] at h)
theorem star_pl {l : List Expr} (h : l.all notStar = true) (env : PySem.Env) : (backTo pos (starEach l env)).any (·.1) = false := by
  rw [star_all l h]
  unfold backTo
  simp
theorem star_cons {e : Expr} {l : List Expr} (h : (e :: l).all notStar = true) (env : PySem.Env) : starEach (e :: l) env = (false, eval e env) :: starEach l env := by
  have h' := h
  simp only [List.all_cons, Bool.and_eq_true] at h'
  rw [star_all _ h, star_all _ h'.2]
  rfl
/-- f(e, ..) -/
theorem pe_cG {E : L2.St → XK} (F : FnG X.prog X.w X.K X.mg X.base CX k f fd ps sp) (hr : Room k X.A) (hgd : X.A.guards = some []) (hg : Gl X x) (hm : X.mg x = some (.ref f)) (hk : PySem.W.keepIn X.K (.ref f) = true) (hb : ShpOk X.K fd ps sh) (hs : sh.ks = []) (hx : ∀ σ, PassesAt CX X σ (E σ))
    (ha : PA X (e :: es) t) (hdb : (x == ("__debug__" : Str)) = false) (hst : (e :: es).all notStar = true) :
    PE X (.Call (.Name x p) (e :: es) [] pos) (tCG sp sh E t tNil) := by
  refine ⟨fun pins s σ H Q I h => ?_⟩
  refine wpAny_Call_Name_kw (ld_glob I hg hm ?_ hdb)
  have hst' := hst
  simp only [List.all_cons, Bool.and_eq_true] at hst'
  refine PySem.W.callWith_K (h₀ := X.base) I.ok.mod.kin hk (thn (ha.run pos pins s σ H _ I h) fun us s1 ⟨vs, H1, I1, r, l1, l2, q⟩ => ⟨I1.kIn, ?_⟩) (star_cons hst _) (star_pl hst'.2 _)
  have kz : call (.ref f) us (sh.ks.zip ([] : List Value)) = call (.ref f) us [] := by rw [hs]; rfl
  have := run_fnG (us := us) F hr hgd hb (hx σ) I1 r .nil l1 l2 q
  rw [kz] at this
  exact this
theorem pe_cG0 {E : L2.St → XK} (F : FnG X.prog X.w X.K X.mg X.base CX k f fd ps sp) (hr : Room k X.A) (hgd : X.A.guards = some []) (hg : Gl X x) (hm : X.mg x = some (.ref f)) (hk : PySem.W.keepIn X.K (.ref f) = true) (hb : ShpOk X.K fd ps sh) (hs : sh.ks = []) (hx : ∀ σ, PassesAt CX X σ (E σ))
    (hdb : (x == ("__debug__" : Str)) = false) :
    PE X (.Call (.Name x p) [] [] pos) (tCG sp sh E tNil tNil) := by
  refine ⟨fun pins s σ H Q I ⟨l1, l2, q⟩ => ?_⟩
  refine wpAny_Call_Name_kw (ld_glob I hg hm ?_ hdb)
  have kz : call (.ref f) [] (sh.ks.zip ([] : List Value)) = call (.ref f) [] [] := by rw [hs]; rfl
  have := run_fnG (us := []) F hr hgd hb (hx σ) I .nil .nil l1 l2 q
  rw [kz] at this
  exact PySem.W.callWith_K0 I.kIn hk this
theorem kw_all : ∀ (kws : List Keyword) (ns : List Str), kwNames kws = some ns → ∀ env, (backToKw pos (keywordEach kws env)).all (·.1.isSome) = true ∧ (backToKw pos (keywordEach kws env)).filterMap (·.1) = ns ∧ (backToKw pos (keywordEach kws env)).any (·.1.isNone) = false
  | [], ns, h, env => by
    cases h
    exact ⟨rfl, rfl, rfl⟩
  | ⟨none, e, kp⟩ :: r, ns, h, env => by cases h
  | ⟨some k, e, kp⟩ :: r, ns, h, env => by
    unfold kwNames at h
    cases q : kwNames r with
    | none => rw [q] at h; cases h
    | some ms =>
      rw [q] at h
      cases h
      obtain ⟨h1, h2, h3⟩ := kw_all r ms q env
      unfold backToKw at h1 h2 h3 ⊢
      refine ⟨?_, ?_, ?_⟩
      · show (_ && _) = true
        rw [h1]; rfl
      · show k :: _ = _
        rw [h2]
      · show (_ || _) = false
        rw [h3]; rfl
theorem pe_cGK {E : L2.St → XK} {kws : List Keyword} {tk : TA} (F : FnG X.prog X.w X.K X.mg X.base CX k f fd ps sp) (hr : Room k X.A) (hgd : X.A.guards = some []) (hg : Gl X x) (hm : X.mg x = some (.ref f)) (hk : PySem.W.keepIn X.K (.ref f) = true) (hb : ShpOk X.K fd ps sh) (hs : kwNames kws = some sh.ks) (hx : ∀ σ, PassesAt CX X σ (E σ))
    (ha : PA X (e :: es) t) (hkw : PK X kws tk) (hdb : (x == ("__debug__" : Str)) = false) (hst : (e :: es).all notStar = true) :
    PE X (.Call (.Name x p) (e :: es) kws pos) (tCG sp sh E t tk) := by
  refine ⟨fun pins s σ H Q I h => ?_⟩
  refine wpAny_Call_Name_kw (ld_glob I hg hm ?_ hdb)
  obtain ⟨h1, h2, h3⟩ := kw_all (pos := pos) kws _ hs X.env
  refine PySem.W.callWith_KW (h₀ := X.base) I.ok.mod.kin hk h1 (thn (ha.run pos pins s σ H _ I h) fun us s1 ⟨vs, H1, I1, r, l1, q⟩ => ?_) (by rw [star_pl hst, h3]; rfl) (star_cons hst _)
  refine thn (hkw.run pos pins s1 σ H1 _ I1 q) fun ws s2 ⟨zs, H2, I2, rz, l2, q2⟩ => ⟨I2.kIn, ?_⟩
  rw [h2]
  exact run_fnG F hr hgd hb (hx σ) I2 r rz l1 l2 q2
theorem pe_cGK0 {E : L2.St → XK} {kws : List Keyword} {tk : TA} (F : FnG X.prog X.w X.K X.mg X.base CX k f fd ps sp) (hr : Room k X.A) (hgd : X.A.guards = some []) (hg : Gl X x) (hm : X.mg x = some (.ref f)) (hk : PySem.W.keepIn X.K (.ref f) = true) (hb : ShpOk X.K fd ps sh) (hs : kwNames kws = some sh.ks) (hx : ∀ σ, PassesAt CX X σ (E σ))
    (hkw : PK X kws tk) (hdb : (x == ("__debug__" : Str)) = false) :
    PE X (.Call (.Name x p) [] kws pos) (tCG sp sh E tNil tk) := by
  refine ⟨fun pins s σ H Q I ⟨l1, h⟩ => ?_⟩
  refine wpAny_Call_Name_kw (ld_glob I hg hm ?_ hdb)
  obtain ⟨h1, h2, h3⟩ := kw_all (pos := pos) kws _ hs X.env
  refine PySem.W.callWith_KW0 (h₀ := X.base) I.ok.mod.kin hk h1 ?_ (by rw [h3]; rfl)
  refine thn (hkw.run pos pins s σ H _ I h) fun ws s2 ⟨zs, H2, I2, rz, l2, q2⟩ => ⟨I2.kIn, ?_⟩
  rw [h2]
  exact run_fnG F hr hgd hb (hx σ) I2 .nil rz l1 l2 q2
end
end Mp
end
section
set_option maxHeartbeats 4000000
namespace Mp
open PySem L2 PyProof.Rows
abbrev EW (W : WX) (σ : L2.St) : XK := fun cl d H => W cl d σ H
def gB : RG Bool Bool := fun _ _ _ a b => a = b
def gO : RG (Option Int) (Option Int) := fun _ _ _ a b => a = b
/-- what a def's code promises -/
def spF (T : Tb) (K : PySem.W.Frag) (n : Nat) (call : Call) (f : Nat) : Sp := fun vs H Q E => vs.length = n ∧ ∃ ρ F S ds, Rel T K ρ F S H ∧ RL T.ca ρ F S.length ds vs ∧ PostG T K (gV T) ρ F S H (ofCR (call f ds S)) Q E
structure Lv (P : Program) (w : World) (K : PySem.W.Frag) (mg : Str → Option Value) (base : Heap) (T : Tb) (G : Gs) (call : Call) (k : Nat) : Prop where
  fn : ∀ fe ∈ G.fns, ∃ fa fd, mg fe.x = some (.ref fa) ∧ PySem.W.keepIn K (.ref fa) = true ∧ FnG P w K mg base (L2.CX P w) k fa fd fe.ps (spF T K fe.ps.length call fe.f) ∧ (∀ sh ∈ fe.shapes, ShpOk K fd fe.ps sh) ∧ ∃ oc od osl, K.lookup fa = some ⟨oc, od, .func fd, osl⟩
def blts : List Str := ["isinstance", "len", "max", "min", "sum", "all", "any", "int", "str", "list", "tuple", "sorted", "repr", "bool", "dict", "range", "enumerate", "zip"]
structure GlobF (K : PySem.W.Frag) (mg : Str → Option Value) (T : Tb) (G : Gs) (g : Gt) : Prop where
  cls : ∀ p ∈ G.cls, mg p.1 = some (.ref (T.ca p.2))
  blt : ∀ x ∈ blts, mg x = none
  cf : ClsF T K g
  val : T.fnm 0 = ("value" : Str)
  con : ∀ p ∈ G.cs, (∃ s t, p.2 = .str s ∧ mg p.1 = some (.str (sOf s) t)) ∨ ∃ i t, p.2 = .int i ∧ mg p.1 = some (.int i t)
section
variable (T : Tb) (g : Gt) (call : Call)
def tE (K : PySem.W.Frag) (W : WX) (c : Cd) : TE := fun σ H Q => ∃ ρ F S e, Rel T K ρ F S H ∧ RE T ρ F S.length e σ ∧ PostG T K (gV T) ρ F S H (evE g call c e S) Q (EW W σ)
def tTt (K : PySem.W.Frag) (W : WX) (c : Cd) : TT := fun σ H Q => ∃ ρ F S e, Rel T K ρ F S H ∧ RE T ρ F S.length e σ ∧ PostG T K gB ρ F S H ((evE g call c e S).bind tr) Q (EW W σ)
def tEs (K : PySem.W.Frag) (W : WX) (cs : Cds) : TA := fun σ H Q => ∃ ρ F S e, Rel T K ρ F S H ∧ RE T ρ F S.length e σ ∧ PostG T K (gL T) ρ F S H (evEs g call cs e S) Q (EW W σ)
def tEO (K : PySem.W.Frag) (W : WX) (c : Cdo) : TO := fun σ H Q => ∃ ρ F S e, Rel T K ρ F S H ∧ RE T ρ F S.length e σ ∧ PostG T K gO ρ F S H (evO g call c e S) Q (EW W σ)
def tEI (K : PySem.W.Frag) (W : WX) (c : It) : TI := fun σ H Q => ∃ ρ F S e, Rel T K ρ F S H ∧ RE T ρ F S.length e σ ∧ PostG T K (gI T K) ρ F S H (evI g call c e S) Q (EW W σ)
end
section
variable {T : Tb} {g : Gt} {call : Call} {G : Gs} {N : List Str} {W : WX} {X : Cx} {sc : Scope}
structure CtxE (T : Tb) (g : Gt) (call : Call) (G : Gs) (N : List Str) (W : WX) (X : Cx) (sc : Scope) : Prop where
  calm : X.calm = true
  hN : X.N = N
  nd : N.Nodup
  kd : X.env.scope.kind = .function
  scq : ∀ x k, sc.names.lookup x = some k → X.env.scope.names.lookup x = some k ∨ (k = .free ∧ X.env.scope.names.lookup x = some .cell)
  fn : ∀ x, sc.names.lookup x = some .cell → X.fn x = true
  gd : X.A.guards = some []
  lv : ∃ k, Room k X.A ∧ Lv X.prog X.w X.K X.mg X.base T G call k
  gf : GlobF X.K X.mg T G g
  tk : Takes X W
theorem CtxE.un (C : CtxE T g call G N W X sc) : X.A.units + 64 < cLine := let ⟨_, r, _⟩ := C.lv; r.units
theorem CtxE.glob (C : CtxE T g call G N W X sc) {x : Str} (h : globB sc x = true) : Gl X x := by
  unfold globB at h
  split at h
  · rename_i e
    rcases C.scq _ _ e with q | ⟨q, _⟩
    · exact q
    · cases q
  · cases h
theorem CtxE.vis (C : CtxE T g call G N W X sc) {x : Str} (h : visB sc x = true) : Vis X.env.scope x := by
  unfold visB at h
  split at h
  · rename_i e
    rcases C.scq _ _ e with q | ⟨q, _⟩
    · exact .inl q
    · cases q
  · rename_i e
    rcases C.scq _ _ e with q | ⟨q, _⟩
    · exact .inr (.inl q)
    · cases q
  · rename_i e
    rcases C.scq _ _ e with q | ⟨_, q⟩
    · exact .inr (.inr q)
    · exact .inr (.inl q)
  · cases h
theorem CtxE.loc (C : CtxE T g call G N W X sc) {x : Str} (h : locB sc x = true) : Loc X.env.scope x ∧ (X.fn x = true ∨ X.env.scope.names.lookup x = some .local) := by
  unfold locB at h
  split at h
  · rename_i e
    rcases C.scq _ _ e with q | ⟨q, _⟩
    · exact ⟨.inl q, .inr q⟩
    · cases q
  · rename_i e
    rcases C.scq _ _ e with q | ⟨q, _⟩
    · exact ⟨.inr q, .inl (C.fn _ e)⟩
    · cases q
  · cases h
theorem debB_of {x : Str} (h : debB x = true) : (x == ("__debug__" : Str)) = false := by
  unfold debB at h
  simpa using h
/-! ### cutting a reading -/
theorem _root_.L2.PE.imp {e : Expr} {t t' : TE} (h : PE X e t) (i : ∀ σ H Q, t' σ H Q → t σ H Q) : PE X e t' := ⟨fun pins s σ H Q I q => h.run pins s σ H Q I (i σ H Q q)⟩
theorem _root_.L2.PT.imp {e : Expr} {t t' : TT} (h : PT X e t) (i : ∀ σ H Q, t' σ H Q → t σ H Q) : PT X e t' := ⟨fun pins s σ H Q I q => h.run pins s σ H Q I (i σ H Q q)⟩
theorem _root_.L2.PW.imp {e : Expr} {t t' : TT} (h : PW X e t) (i : ∀ σ H Q, t' σ H Q → t σ H Q) : PW X e t' := ⟨fun wh pins s σ H Q I q => h.run wh pins s σ H Q I (i σ H Q q)⟩
theorem _root_.L2.PA.imp {e : List Expr} {t t' : TA} (h : PA X e t) (i : ∀ σ H Q, t' σ H Q → t σ H Q) : PA X e t' := ⟨fun pos pins s σ H Q I q => h.run pos pins s σ H Q I (i σ H Q q)⟩
theorem _root_.L2.PK.imp {e : List Keyword} {t t' : TA} (h : PK X e t) (i : ∀ σ H Q, t' σ H Q → t σ H Q) : PK X e t' := ⟨fun pos pins s σ H Q I q => h.run pos pins s σ H Q I (i σ H Q q)⟩
theorem _root_.L2.PO.imp {e : Option Expr} {t t' : TO} (h : PO X e t) (i : ∀ σ H Q, t' σ H Q → t σ H Q) : PO X e t' := ⟨fun pins s σ H Q I q => h.run pins s σ H Q I (i σ H Q q)⟩
theorem _root_.L2.PI.imp {tg e : Expr} {t t' : TI} (h : PI X tg e t) (i : ∀ σ H Q, t' σ H Q → t σ H Q) : PI X tg e t' := ⟨fun pins s σ H Q I q => h.run pins s σ H Q I (i σ H Q q)⟩
theorem PostG.exc {K : PySem.W.Frag} {α β : Type} {R : RG α β} {ρ : Nat → Addr} {F : Hp} {S : Store} {H : Hp} {r : Res α} {Q : β → Hp → Prop} {E E' : XK} (h : PostG T K R ρ F S H r Q E) (he : ∀ c d H', E c d H' → E' c d H') : PostG T K R ρ F S H r Q E' := by
  cases r with
  | ok a S' => exact h
  | exc c d S' => exact fun ρ' F' H' dx v e rl rb k => he _ _ _ (h ρ' F' H' dx v e rl rb k)
  | stuck => exact h
theorem PostG.any {K : PySem.W.Frag} {α β : Type} {R : RG α β} {ρ : Nat → Addr} {F : Hp} {S : Store} {H : Hp} {r : Res α} {Q : β → Hp → Prop} {E : XK} (h : PostG T K R ρ F S H r Q E) : PostG T K R ρ F S H r Q (fun _ _ _ => True) := h.exc fun _ _ _ _ => trivial
abbrev EAny : XK := fun _ _ _ => True
variable {K : PySem.W.Frag}
theorem tE.cut {c : Cd} {γ δ : Type} {R2 : RG γ δ} {k : D → Store → Res γ} {σ : L2.St} {H : Hp} {Q2 : δ → Hp → Prop} {Q' : VK} {ρ : Nat → Addr} {F : Hp} {S : Store} {e : Env} (rl : Rel T K ρ F S H) (re : RE T ρ F S.length e σ) (P : PostG T K R2 ρ F S H ((evE g call c e S).bind k) Q2 (EW W σ))
    (h : ∀ ρ1 F1 S1 x v H1, Ext ρ F S H ρ1 F1 S1 H1 → Rel T K ρ1 F1 S1 H1 → RE T ρ1 F1 S1.length e σ → RV T.ca ρ1 F1 S1.length x v → PostG T K R2 ρ1 F1 S1 H1 (k x S1) Q2 (EW W σ) → Q' v H1) : tE T g call K W c σ H Q' :=
  ⟨ρ, F, S, e, rl, re, PostG.mono (PostG.bind P) fun v H1 ⟨ρ1, F1, S1, x, x1, rl1, r1, P1⟩ => h ρ1 F1 S1 x v H1 x1 rl1 (x1.re re) r1 P1⟩
theorem tEs.cut {c : Cds} {γ δ : Type} {R2 : RG γ δ} {k : List D → Store → Res γ} {σ : L2.St} {H : Hp} {Q2 : δ → Hp → Prop} {Q' : List V → Hp → Prop} {ρ : Nat → Addr} {F : Hp} {S : Store} {e : Env} (rl : Rel T K ρ F S H) (re : RE T ρ F S.length e σ) (P : PostG T K R2 ρ F S H ((evEs g call c e S).bind k) Q2 (EW W σ))
    (h : ∀ ρ1 F1 S1 x v H1, Ext ρ F S H ρ1 F1 S1 H1 → Rel T K ρ1 F1 S1 H1 → RE T ρ1 F1 S1.length e σ → RL T.ca ρ1 F1 S1.length x v → PostG T K R2 ρ1 F1 S1 H1 (k x S1) Q2 (EW W σ) → Q' v H1) : tEs T g call K W c σ H Q' :=
  ⟨ρ, F, S, e, rl, re, PostG.mono (PostG.bind P) fun v H1 ⟨ρ1, F1, S1, x, x1, rl1, r1, P1⟩ => h ρ1 F1 S1 x v H1 x1 rl1 (x1.re re) r1 P1⟩
theorem PostG.bindE {K : PySem.W.Frag} {α β γ δ : Type} {R : RG α β} {R2 : RG γ δ} {ρ : Nat → Addr} {F : Hp} {S : Store} {H : Hp} {r : Res α} {k : α → Store → Res γ} {Q2 : δ → Hp → Prop} {E : XK} (h : PostG T K R2 ρ F S H (r.bind k) Q2 E) :
    PostG T K R ρ F S H r (fun b H1 => ∃ ρ1 F1 S1 a, r = .ok a S1 ∧ Ext ρ F S H ρ1 F1 S1 H1 ∧ Rel T K ρ1 F1 S1 H1 ∧ R ρ1 F1 S1.length a b ∧ PostG T K R2 ρ1 F1 S1 H1 (k a S1) Q2 E) E := by
  cases r with
  | ok a S' => exact fun ρ' F' H' b e rl rb => ⟨ρ', F', S', a, rfl, e, rl, rb, PostG.ext e h⟩
  | exc c d S' => exact h
  | stuck => exact h
theorem tEs.cutE {c : Cds} {γ δ : Type} {R2 : RG γ δ} {k : List D → Store → Res γ} {σ : L2.St} {H : Hp} {Q2 : δ → Hp → Prop} {Q' : List V → Hp → Prop} {ρ : Nat → Addr} {F : Hp} {S : Store} {e : Env} (rl : Rel T K ρ F S H) (re : RE T ρ F S.length e σ) (P : PostG T K R2 ρ F S H ((evEs g call c e S).bind k) Q2 (EW W σ))
    (h : ∀ ρ1 F1 S1 x v H1, evEs g call c e S = .ok x S1 → Ext ρ F S H ρ1 F1 S1 H1 → Rel T K ρ1 F1 S1 H1 → RE T ρ1 F1 S1.length e σ → RL T.ca ρ1 F1 S1.length x v → PostG T K R2 ρ1 F1 S1 H1 (k x S1) Q2 (EW W σ) → Q' v H1) : tEs T g call K W c σ H Q' :=
  ⟨ρ, F, S, e, rl, re, PostG.mono (PostG.bindE P) fun v H1 ⟨ρ1, F1, S1, x, q, x1, rl1, r1, P1⟩ => h ρ1 F1 S1 x v H1 q x1 rl1 (x1.re re) r1 P1⟩
theorem evEs_len : ∀ {c : Cds} {e : Env} {S S1 : Store} {xs : List D}, evEs g call c e S = .ok xs S1 → xs.length = lenEs c
  | .nil, e, S, S1, xs, h => by
    simp only [evEs] at h
    cases h
    rfl
  | .cons a r, e, S, S1, xs, h => by
    simp only [evEs] at h
    cases q : evE g call a e S with
    | ok x S2 =>
      rw [q, Res.bind_ok] at h
      cases q2 : evEs g call r e S2 with
      | ok ys S3 =>
        rw [q2, Res.bind_ok] at h
        cases h
        rw [List.length_cons, evEs_len q2]
        rfl
      | exc c v S3 => rw [q2] at h; cases h
      | stuck => rw [q2] at h; cases h
    | exc c v S2 => rw [q] at h; cases h
    | stuck => rw [q] at h; cases h
theorem tTt.cut {c : Cd} {γ δ : Type} {R2 : RG γ δ} {k : Bool → Store → Res γ} {σ : L2.St} {H : Hp} {Q2 : δ → Hp → Prop} {Q' : Bool → Hp → Prop} {ρ : Nat → Addr} {F : Hp} {S : Store} {e : Env} (rl : Rel T K ρ F S H) (re : RE T ρ F S.length e σ) (P : PostG T K R2 ρ F S H (((evE g call c e S).bind tr).bind k) Q2 (EW W σ))
    (h : ∀ ρ1 F1 S1 x H1, Ext ρ F S H ρ1 F1 S1 H1 → Rel T K ρ1 F1 S1 H1 → RE T ρ1 F1 S1.length e σ → PostG T K R2 ρ1 F1 S1 H1 (k x S1) Q2 (EW W σ) → Q' x H1) : tTt T g call K W c σ H Q' :=
  ⟨ρ, F, S, e, rl, re, PostG.mono (PostG.bind P) fun v H1 ⟨ρ1, F1, S1, x, x1, rl1, r1, P1⟩ => by
    cases (show x = v from r1)
    exact h ρ1 F1 S1 _ H1 x1 rl1 (x1.re re) P1⟩
theorem Res.bind_assoc {α β γ : Type} (r : Res α) (f : α → Store → Res β) (h : β → Store → Res γ) : (r.bind f).bind h = r.bind fun a S => (f a S).bind h := by cases r <;> rfl
/-- what a text's expression is worth -/
structure SE (T : Tb) (g : Gt) (call : Call) (W : WX) (X : Cx) (e : Expr) (c : Cd) : Prop where
  pe : PE X e (tE T g call X.K W c)
  pt : notIf e = true → PT X e (tTt T g call X.K W c)
  pw : ∀ op vs p, e = .BoolOp op vs p → PW X e (tTt T g call X.K W c)
theorem plainT_is {e : Expr} (h : plainT e = true) (env : PySem.Env) (whole : Sem Value) : isTrue e env whole = (do let v ← whole; standAt e.pos; holding [v] (truthy v)) := by
  cases e <;> first | rfl | (simp [plainT] at h) | skip
  rename_i op x p
  cases op <;> first | rfl | (simp [plainT] at h)
theorem Rel.tru {ρ : Nat → Addr} {F : Hp} {S : Store} {H : Hp} {d : D} {v : V} {b : Bool} (rl : Rel T K ρ F S H) (r : RV T.ca ρ F S.length d v) (h : truth S d = some b) : TruV K v H b := by
  cases r <;> simp only [truth] at h <;> try (cases h; done)
  case non => cases h; rfl
  case bl => cases h; rfl
  case int => cases h; rfl
  case str s =>
    split at h
    · rename_i hl
      cases h
      refine ⟨by rw [sOf_len]; exact hl, ?_⟩
      rw [sOf_len]
      cases s with
      | nil => rfl
      | cons c r => simp; omega
    · cases h
  case tup xs a vs e r =>
    cases h
    refine .inr (.inl ⟨_, SqT.of (rl.sub _ _ e), ?_⟩)
    cases r <;> rfl
  case lst xs a vs e r =>
    cases h
    refine .inl ⟨_, SqL.of (rl.sub _ _ e), ?_⟩
    cases r <;> rfl
  case slst xs a o vs e r =>
    cases h
    refine .inl ⟨_, .inl (.inr ⟨_, rl.sub _ _ e⟩), ?_⟩
    cases r <;> rfl
  case ref l hl =>
    split at h
    · rename_i xs e
      cases h
      obtain ⟨vs, e2, r2⟩ := rl.cell _ _ e
      refine .inl ⟨_, SqL.of e2, ?_⟩
      cases r2 <;> rfl
    · rename_i xs e
      cases h
      obtain ⟨vs, e2, r2⟩ := rl.cell _ _ e
      refine .inr (.inr ⟨_, e2, ?_⟩)
      cases r2 <;> rfl
    · cases h
/-- a value's truth -/
theorem tE.tru {c : Cd} {σ : L2.St} {H : Hp} {Q : Bool → Hp → Prop} (h : tTt T g call K W c σ H Q) : tE T g call K W c σ H fun x H1 => ∃ k, TruV K x H1 k ∧ Q k H1 := by
  obtain ⟨ρ, F, S, e, rl, re, P⟩ := h
  refine tE.cut rl re P fun ρ1 F1 S1 x v H1 x1 rl1 re1 r1 P1 => ?_
  unfold tr at P1
  split at P1
  · rename_i b hb
    exact ⟨b, rl1.tru r1 hb, P1.here rl1 rfl⟩
  · exact P1.elim
theorem SE.plain {e : Expr} {c : Cd} (h : PE X e (tE T g call X.K W c)) (pl : plainT e = true) : SE T g call W X e c :=
  ⟨h, fun _ => (pt_truth h fun w => plainT_is pl X.env w).imp fun σ H Q q => tE.tru q, fun op vs p e' => by subst e'; cases pl⟩
/-- the truth of bools -/
theorem tE.bool {c : Cd} {σ : L2.St} {H : Hp} {Q : Bool → Hp → Prop} (hb : ∀ e S, (∃ b S', evE g call c e S = .ok (.bl b) S') ∨ ∀ d S', evE g call c e S ≠ .ok d S') (h : tTt T g call K W c σ H Q) : tE T g call K W c σ H fun x H1 => ∃ k, x = .bl k ∧ Q k H1 := by
  obtain ⟨ρ, F, S, e, rl, re, P⟩ := h
  rcases hb e S with ⟨b, S', q⟩ | q
  · rw [q] at P
    refine ⟨ρ, F, S, e, rl, re, ?_⟩
    rw [q]
    intro ρ' F' H' v x' rl' rv
    cases rv
    exact ⟨b, rfl, P ρ' F' H' b x' rl' rfl⟩
  · refine ⟨ρ, F, S, e, rl, re, ?_⟩
    cases r : evE g call c e S with
    | ok d S' => exact absurd r (q d S')
    | exc c d S' => rw [r] at P; exact P
    | stuck => rw [r] at P; exact P
/-! ### the forms -/
theorem bty_pe (C : CtxE T g call G N W X sc) (t : BT) {p : Pos} (hg : Gl X (t.nm : Str)) : PE X (.Name (t.nm : Str) p) (tC (.ty t.nm)) := by
  have hm := C.gf.blt
  cases t
  · exact pe_bltn hg (hm _ (by decide)) (u := .type "int") (by decide +kernel) rfl
  · exact pe_bltn hg (hm _ (by decide)) (u := .type "bool") (by decide +kernel) rfl
  · exact pe_bltn hg (hm _ (by decide)) (u := .type "str") (by decide +kernel) rfl
  · exact pe_bltn hg (hm _ (by decide)) (u := .type "list") (by decide +kernel) rfl
  · exact pe_bltn hg (hm _ (by decide)) (u := .type "tuple") (by decide +kernel) rfl
  · exact pe_bltn hg (hm _ (by decide)) (u := .type "dict") (by decide +kernel) rfl
theorem se_c {d : D} {e : Expr} (C : CtxE T g call G N W X sc) (h : okE G N (.c d) sc e = true) : SE T g call W X e (.c d) := by
  have go : ∀ {v : V} {e : Expr}, PE X e (tC v) → plainT e = true → (∀ ρ F n, RV T.ca ρ F n d v) → SE T g call W X e (.c d) := fun {v e} p pl r => by
    refine .plain (p.imp fun σ H Q ⟨ρ, F, S, en, rl, re, P⟩ => ?_) pl
    have P' : PostG T X.K (gV T) ρ F S H (.ok d S) Q (EW W σ) := by simpa only [evE] using P
    exact P'.here rl (r _ _ _)
  unfold okE at h
  split at h
  · rename_i k j p
    unfold constOk at h
    split at h
    · exact go pe_non rfl fun _ _ _ => .non
    · rename_i a b
      cases (show a = b by simpa using h)
      exact go pe_bl rfl fun _ _ _ => .bl _
    · rename_i a b
      cases (show a = b by simpa using h)
      exact go pe_int rfl fun _ _ _ => .int _
    · rename_i a b
      have e1 : a = b.cps.toList := by simpa using h
      have e2 : sOf a = b := by
        subst e1
        cases b
        simp [sOf]
      exact go pe_str rfl fun _ _ _ => by rw [← e2]; exact .str a
    · cases h
  · rename_i x p
    simp only [Bool.and_eq_true] at h
    obtain ⟨⟨h1, h2⟩, h3⟩ := h
    have hg := C.glob h1
    have hd := debB_of h2
    unfold nmOk at h3
    split at h3
    · rename_i t
      cases (show x = (t.nm : Str) by simpa using h3)
      refine go (v := .ty t.nm) (bty_pe C t hg) rfl fun _ _ _ => .bty t
    · rename_i n
      rw [List.any_eq_true] at h3
      obtain ⟨q, hq, h4⟩ := h3
      simp only [Bool.and_eq_true, decide_eq_true_eq] at h4
      refine go (v := .ref (T.ca n)) (pe_glob hg (u := .ref (T.ca n)) ?_ rfl hd) rfl fun _ _ _ => .cls n
      have := C.gf.cls q hq
      rw [h4.1, h4.2] at this
      exact this
    · rename_i z
      rw [List.any_eq_true] at h3
      obtain ⟨q, hq, h4⟩ := h3
      simp only [Bool.and_eq_true, decide_eq_true_eq] at h4
      have e := D.eq_of_eqb _ _ h4.2
      rcases C.gf.con q hq with ⟨s, t, e2, e3⟩ | ⟨i, t, e2, e3⟩
      · rw [e] at e2
        cases e2
        rw [h4.1] at e3
        exact go (v := .str (sOf z)) (pe_glob hg (u := .str (sOf z) t) e3 ⟨t, rfl⟩ hd) rfl fun _ _ _ => .str z
      · rw [e] at e2; cases e2
    · rename_i z
      rw [List.any_eq_true] at h3
      obtain ⟨q, hq, h4⟩ := h3
      simp only [Bool.and_eq_true, decide_eq_true_eq] at h4
      have e := D.eq_of_eqb _ _ h4.2
      rcases C.gf.con q hq with ⟨s, t, e2, e3⟩ | ⟨i, t, e2, e3⟩
      · rw [e] at e2; cases e2
      · rw [e] at e2
        cases e2
        rw [h4.1] at e3
        exact go (v := .int z) (pe_glob hg (u := .int z t) e3 ⟨t, rfl⟩ hd) rfl fun _ _ _ => .int z
    · cases h3
  · cases h
end
end Mp
end
section
set_option maxHeartbeats 4000000
namespace Mp
open PySem L2 PyProof.Rows
section
variable {T : Tb} {g : Gt} {call : Call} {G : Gs} {N : List Str} {W : WX} {X : Cx} {sc : Scope}
theorem se_v {i : Nat} {e : Expr} (C : CtxE T g call G N W X sc) (h : okE G N (.v i) sc e = true) : SE T g call W X e (.v i) := by
  unfold okE at h
  split at h
  · rename_i x p
    simp only [Bool.and_eq_true] at h
    obtain ⟨⟨⟨h1, h2⟩, h3⟩, h4⟩ := h
    have hi : X.N[i]? = some x := by rw [C.hN]; simpa using h1
    refine .plain ((pe_var hi (C.vis h2) (debB_of h3) (by simpa using h4)).imp fun σ H Q ⟨ρ, F, S, en, rl, re, P⟩ => ?_) rfl
    simp only [evE] at P
    split at P
    · rename_i d hd
      obtain ⟨v, h5, r⟩ := re.at_ i d hd
      exact ⟨v, h5, P.here rl r⟩
    · exact P.elim
  · cases h
theorem se_bin {m : Bool} {op : BOp} {a b : Cd} {l r : Expr} {p : Pos} (ha : SE T g call W X l a) (hb : SE T g call W X r b) : SE T g call W X (.BinOp l op.op r p) (.bin m op a b) :=
  .plain ((pe_op (binop_ok (T := T) (E := EAny) m op) ha.pe hb.pe).imp fun σ H Q ⟨ρ, F, S, en, rl, re, P⟩ => by
    simp only [evE] at P
    exact tE.cut rl re P fun ρ1 F1 S1 x v H1 x1 rl1 re1 r1 P1 => tE.cut rl1 re1 P1 fun ρ2 F2 S2 y u H2 x2 rl2 re2 r2 P2 => ⟨ρ2, F2, S2, x, y, rl2, x2.rv r1, r2, P2.any⟩) rfl
theorem se_neg {a : Cd} {l : Expr} {p : Pos} (ha : SE T g call W X l a) : SE T g call W X (.UnaryOp .USub l p) (.neg a) :=
  .plain ((pe_un (op_negM (T := T) (E := EAny)) ha.pe).imp fun σ H Q ⟨ρ, F, S, en, rl, re, P⟩ => by
    simp only [evE] at P
    exact tE.cut rl re P fun ρ1 F1 S1 x v H1 x1 rl1 re1 r1 P1 => ⟨ρ1, F1, S1, x, rl1, r1, P1.any⟩) rfl
theorem tr_of {x : D} {S S' : Store} {b : Bool} (h : tr x S = .ok b S') : truth S x = some b ∧ S' = S := by
  unfold tr at h
  split at h
  · rename_i q
    cases h
    exact ⟨q, rfl⟩
  · cases h
theorem tr_exc {x : D} {S S' : Store} {c : Nat} {v : D} (h : tr x S = .exc c v S') : False := by
  unfold tr at h
  split at h <;> cases h
theorem se_not {a : Cd} {l : Expr} {p : Pos} (ha : SE T g call W X l a) (hi : notIf l = true) : SE T g call W X (.UnaryOp .Not l p) (.not_ a) := by
  refine ⟨(pe_notT ha.pe).imp fun σ H Q ⟨ρ, F, S, en, rl, re, P⟩ => ?_, fun _ => (pt_not (ha.pt hi)).imp fun σ H Q ⟨ρ, F, S, en, rl, re, P⟩ => ?_, fun op vs p e' => by cases e'⟩
  · simp only [evE] at P
    refine tE.cut rl re P fun ρ1 F1 S1 x v H1 x1 rl1 re1 r1 P1 => ?_
    cases hb : tr x S1 with
    | ok b S2 =>
      obtain ⟨h1, rfl⟩ := tr_of hb
      rw [hb] at P1
      exact ⟨b, rl1.tru r1 h1, P1.here rl1 (.bl _)⟩
    | exc c v S2 => exact (tr_exc hb).elim
    | stuck => rw [hb] at P1; exact P1.elim
  · have P' : PostG T X.K gB ρ F S H (((evE g call a en S).bind tr).bind fun b S => .ok (!b) S) Q (EW W σ) := by
      have e1 : ((evE g call (.not_ a) en S).bind tr) = (((evE g call a en S).bind tr).bind fun b S => .ok (!b) S) := by
        simp only [evE]
        rw [Res.bind_assoc, Res.bind_assoc]
        congr 1
        funext x S1
        cases hb : tr x S1 with
        | ok b S2 => rfl
        | exc c v S2 => rfl
        | stuck => rfl
      rw [← e1]
      exact P
    exact tTt.cut rl re P' fun ρ1 F1 S1 x H1 x1 rl1 re1 P1 => P1.here rl1 rfl
/-! ### and, or -/
theorem bool_bind {a b : Cd} {en : Env} {S : Store} (k : Bool) : ((evE g call a en S).bind fun x S => (tr x S).bind fun c S => if c = k then evE g call b en S else .ok x S).bind tr
    = ((evE g call a en S).bind tr).bind fun c S => if c = k then (evE g call b en S).bind tr else .ok c S := by
  rw [Res.bind_assoc, Res.bind_assoc]
  congr 1
  funext x S1
  cases hb : tr x S1 with
  | ok c S2 =>
    obtain ⟨h1, rfl⟩ := tr_of hb
    simp only [Res.bind_ok]
    by_cases h : c = k
    · rw [if_pos h, if_pos h]
    · rw [if_neg h, if_neg h]
      exact hb
  | exc c v S2 => rfl
  | stuck => rfl
theorem se_and {a b : Cd} {l y : Expr} {rest : List Expr} {p : Pos} (ha : SE T g call W X l a) (hi : notIf l = true) (hb : PE X (.BoolOp .And (y :: rest) p) (tE T g call X.K W b)) (hw : PW X (.BoolOp .And (y :: rest) p) (tTt T g call X.K W b)) :
    SE T g call W X (.BoolOp .And (l :: y :: rest) p) (.and_ a b) := by
  have pw : PW X (.BoolOp .And (l :: y :: rest) p) (tTt T g call X.K W (.and_ a b)) := (pw_and (ha.pt hi) hw).imp fun σ H Q ⟨ρ, F, S, en, rl, re, P⟩ => by
    have e1 : (evE g call (.and_ a b) en S).bind tr = ((evE g call a en S).bind tr).bind fun c S => if c = true then (evE g call b en S).bind tr else .ok c S := by
      rw [← bool_bind]
      simp only [evE]
    rw [e1] at P
    refine tTt.cut rl re P fun ρ1 F1 S1 x H1 x1 rl1 re1 P1 => ?_
    cases x with
    | true => exact ⟨ρ1, F1, S1, en, rl1, re1, P1⟩
    | false => exact P1.here rl1 rfl
  refine ⟨(pe_andT ha.pe hb).imp fun σ H Q ⟨ρ, F, S, en, rl, re, P⟩ => ?_, fun _ => pw.pt, fun op vs p e' => by cases e'; exact pw⟩
  simp only [evE] at P
  refine tE.cut rl re P fun ρ1 F1 S1 x v H1 x1 rl1 re1 r1 P1 => ?_
  cases hb : tr x S1 with
  | ok k S2 =>
    obtain ⟨h1, rfl⟩ := tr_of hb
    rw [hb] at P1
    refine ⟨k, rl1.tru r1 h1, ?_⟩
    cases k with
    | true => exact ⟨ρ1, F1, S2, en, rl1, re1, P1⟩
    | false => exact P1.here rl1 r1
  | exc c v S2 => exact (tr_exc hb).elim
  | stuck => rw [hb] at P1; exact P1.elim
theorem se_or {a b : Cd} {l y : Expr} {rest : List Expr} {p : Pos} (ha : SE T g call W X l a) (hi : notIf l = true) (hb : PE X (.BoolOp .Or (y :: rest) p) (tE T g call X.K W b)) (hw : PW X (.BoolOp .Or (y :: rest) p) (tTt T g call X.K W b)) :
    SE T g call W X (.BoolOp .Or (l :: y :: rest) p) (.or_ a b) := by
  have pw : PW X (.BoolOp .Or (l :: y :: rest) p) (tTt T g call X.K W (.or_ a b)) := (pw_or (ha.pt hi) hw).imp fun σ H Q ⟨ρ, F, S, en, rl, re, P⟩ => by
    have e1 : (evE g call (.or_ a b) en S).bind tr = ((evE g call a en S).bind tr).bind fun c S => if c = false then (evE g call b en S).bind tr else .ok c S := by
      rw [← bool_bind]
      simp only [evE]
      congr 2
      funext x S1
      congr 1
      funext k S2
      cases k <;> rfl
    rw [e1] at P
    refine tTt.cut rl re P fun ρ1 F1 S1 x H1 x1 rl1 re1 P1 => ?_
    cases x with
    | true => exact P1.here rl1 rfl
    | false => exact ⟨ρ1, F1, S1, en, rl1, re1, P1⟩
  refine ⟨(pe_orT ha.pe hb).imp fun σ H Q ⟨ρ, F, S, en, rl, re, P⟩ => ?_, fun _ => pw.pt, fun op vs p e' => by cases e'; exact pw⟩
  simp only [evE] at P
  refine tE.cut rl re P fun ρ1 F1 S1 x v H1 x1 rl1 re1 r1 P1 => ?_
  cases hb : tr x S1 with
  | ok k S2 =>
    obtain ⟨h1, rfl⟩ := tr_of hb
    rw [hb] at P1
    refine ⟨k, rl1.tru r1 h1, ?_⟩
    cases k with
    | true => exact P1.here rl1 r1
    | false => exact ⟨ρ1, F1, S2, en, rl1, re1, P1⟩
  | exc c v S2 => exact (tr_exc hb).elim
  | stuck => rw [hb] at P1; exact P1.elim
theorem se_ite {c a b : Cd} {t x y : Expr} {p : Pos} (hc : SE T g call W X t c) (hi : notIf t = true) (ha : SE T g call W X x a) (hb : SE T g call W X y b) : SE T g call W X (.IfExp t x y p) (.ite c a b) := by
  refine ⟨(pe_ifExp (hc.pt hi) ha.pe hb.pe).imp fun σ H Q ⟨ρ, F, S, en, rl, re, P⟩ => ?_, fun h => (by cases h), fun op vs p e' => by cases e'⟩
  have P' : PostG T X.K (gV T) ρ F S H (((evE g call c en S).bind tr).bind fun k S => if k then evE g call a en S else evE g call b en S) Q (EW W σ) := by
    rw [Res.bind_assoc]
    simpa only [evE] using P
  refine tTt.cut rl re P' fun ρ1 F1 S1 k H1 x1 rl1 re1 P1 => ?_
  cases k with
  | true => exact ⟨ρ1, F1, S1, en, rl1, re1, P1⟩
  | false => exact ⟨ρ1, F1, S1, en, rl1, re1, P1⟩
/-! ### comparisons -/
theorem oneB_bool {o : Option Bool} {S : Store} : (∃ b S', oneB o S = .ok (.bl b) S') ∨ ∀ d S', oneB o S ≠ .ok d S' := by
  cases o with
  | some b => exact .inl ⟨b, S, rfl⟩
  | none => exact .inr fun d S' h => by cases h
theorem bind_bool {α : Type} {r : Res α} {k : α → Store → Res D} (h : ∀ a S, (∃ b S', k a S = .ok (.bl b) S') ∨ ∀ d S', k a S ≠ .ok d S') : (∃ b S', r.bind k = .ok (.bl b) S') ∨ ∀ d S', r.bind k ≠ .ok d S' := by
  cases r with
  | ok a S => exact h a S
  | exc c v S => exact .inr fun d S' h => by cases h
  | stuck => exact .inr fun d S' h => by cases h
theorem notSet_mark {op : CmpOp} {r : Expr} (h : notSet r = true) : behindInMarks op r = false := by
  cases r <;> first | rfl | (simp [notSet] at h)
theorem se_cmp {op : COp} {a b : Cd} {l r : Expr} {p : Pos} (hu : X.A.units + 64 < cLine) (ha : SE T g call W X l a) (hb : SE T g call W X r b) (hs : notSet r = true) : SE T g call W X (.Compare l [op.op] [r] p) (.cmp op a b) := by
  have tt : ∀ σ H Q, tE T g call X.K W (.cmp op a b) σ H Q → tOp (rB T X.K EAny fun x y S => oneB (cmpop op x y S) S) (tE T g call X.K W a) (tE T g call X.K W b) σ H Q := fun σ H Q ⟨ρ, F, S, en, rl, re, P⟩ => by
    simp only [evE] at P
    exact tE.cut rl re P fun ρ1 F1 S1 x v H1 x1 rl1 re1 r1 P1 => tE.cut rl1 re1 P1 fun ρ2 F2 S2 y u H2 x2 rl2 re2 r2 P2 => ⟨ρ2, F2, S2, x, y, rl2, x2.rv r1, r2, P2.any⟩
  refine ⟨(pe_cmpR (cmpop_ok (T := T) (E := EAny) hu op) ha.pe hb.pe (notSet_mark hs)).imp tt, fun _ => (pt_cmpR (cmpop_ok (T := T) (E := EAny) hu op) ha.pe hb.pe (notSet_mark hs)).imp fun σ H Q h => ?_, fun op vs p e' => by cases e'⟩
  refine tt _ _ _ (tE.bool (fun en S => ?_) h)
  simp only [evE]
  exact bind_bool fun x S1 => bind_bool fun y S2 => oneB_bool
theorem se_chain {op op' : COp} {a b c : Cd} {l r t : Expr} {p : Pos} (hu : X.A.units + 64 < cLine) (ha : SE T g call W X l a) (hb : SE T g call W X r b) (hc : SE T g call W X t c) (hs : notSet t = true) :
    SE T g call W X (.Compare l [op.op, op'.op] [r, t] p) (.chain op op' a b c) := by
  have hm : lastMarks [op.op, op'.op] [r, t] = false := notSet_mark hs
  have tt : ∀ σ H Q, tE T g call X.K W (.chain op op' a b c) σ H Q → tChain (rB T X.K EAny fun x y S => oneB (cmpop op x y S) S) (rB T X.K EAny fun x y S => oneB (cmpop op' x y S) S) (tE T g call X.K W a) (tE T g call X.K W b) (tE T g call X.K W c) σ H Q := fun σ H Q ⟨ρ, F, S, en, rl, re, P⟩ => by
    simp only [evE] at P
    refine tE.cut rl re P fun ρ1 F1 S1 x v H1 x1 rl1 re1 r1 P1 => tE.cut rl1 re1 P1 fun ρ2 F2 S2 y u H2 x2 rl2 re2 r2 P2 => ⟨ρ2, F2, S2, x, y, rl2, x2.rv r1, r2, ?_⟩
    cases hc : cmpop op x y S2 with
    | none => rw [hc] at P2; exact P2.elim
    | some kb =>
      rw [hc] at P2
      show PostG T X.K (gV T) ρ2 F2 S2 H2 (oneB (cmpop op x y S2) S2) _ EAny
      rw [hc]
      intro ρ' F' H' z x' rl' rv
      cases rv
      refine ⟨kb, rfl, ?_⟩
      cases kb with
      | true => exact tE.cut rl' (x'.re re2) (PostG.ext x' P2) fun ρ4 F4 S4 w q H4 x4 rl4 re4 r4 P4 => ⟨ρ4, F4, S4, y, w, rl4, x4.rv (x'.rv r2), r4, P4.any⟩
      | false => exact (PostG.ext x' P2).here rl' (.bl _)
  have bo : ∀ en S, (∃ b' S', evE g call (.chain op op' a b c) en S = .ok (.bl b') S') ∨ ∀ d S', evE g call (.chain op op' a b c) en S ≠ .ok d S' := fun en S => by
    simp only [evE]
    refine bind_bool fun x S1 => bind_bool fun y S2 => bind_bool fun k S3 => ?_
    split
    · exact bind_bool fun z S4 => oneB_bool
    · exact .inl ⟨false, _, rfl⟩
  refine ⟨(pe_chain (cmpop_ok (T := T) (E := EAny) hu op) (cmpop_ok (T := T) (E := EAny) hu op') ha.pe hb.pe hc.pe hm).imp tt, fun _ => (pt_chain (cmpop_ok (T := T) (E := EAny) hu op) (cmpop_ok (T := T) (E := EAny) hu op') ha.pe hb.pe hc.pe hm).imp fun σ H Q h => ?_, fun op vs p e' => by cases e'⟩
  exact tt _ _ _ (tE.bool bo h)
/-! ### lists of codes, displays -/
theorem pa_es_nil : PA X [] (tEs T g call X.K W .nil) := pa_nil.imp fun σ H Q ⟨ρ, F, S, en, rl, re, P⟩ => by
  simp only [evEs] at P
  exact P.here rl .nil
theorem es_cons {a : Cd} {r : Cds} {σ : L2.St} {H : Hp} {Q : List V → Hp → Prop} (h : tEs T g call X.K W (.cons a r) σ H Q) : tCons (tE T g call X.K W a) (tEs T g call X.K W r) σ H Q := by
  obtain ⟨ρ, F, S, en, rl, re, P⟩ := h
  simp only [evEs] at P
  exact tE.cut rl re P fun ρ1 F1 S1 x v H1 x1 rl1 re1 r1 P1 => tEs.cut rl1 re1 P1 fun ρ2 F2 S2 xs vs H2 x2 rl2 re2 r2 P2 => P2.here rl2 (.cons (x2.rv r1) r2)
theorem pa_es_cons {a : Cd} {r : Cds} {e : Expr} {es : List Expr} (hst : (e :: es).all notStar = true) (ha : PE X e (tE T g call X.K W a)) (hr : PA X es (tEs T g call X.K W r)) : PA X (e :: es) (tEs T g call X.K W (.cons a r)) :=
  (pa_cons ha hr (star_cons hst _)).imp fun σ H Q h => es_cons h
theorem pk_es_nil : PK X [] (tEs T g call X.K W .nil) := pk_nil.imp fun σ H Q ⟨ρ, F, S, en, rl, re, P⟩ => by
  simp only [evEs] at P
  exact P.here rl .nil
theorem pk_es_cons {a : Cd} {r : Cds} {e : Expr} {es : List Keyword} {nm : Option Str} {kp : Pos} (ha : PE X e (tE T g call X.K W a)) (hr : PK X es (tEs T g call X.K W r)) : PK X (⟨nm, e, kp⟩ :: es) (tEs T g call X.K W (.cons a r)) :=
  (pk_cons ha hr).imp fun σ H Q h => es_cons h
theorem po_o_none : PO X none (tEO T g call X.K W .no) := po_none.imp fun σ H Q ⟨ρ, F, S, en, rl, re, P⟩ => by
  simp only [evO] at P
  exact P.here rl rfl
theorem po_o_some {a : Cd} {e : Expr} (ha : PE X e (tE T g call X.K W a)) : PO X (some e) (tEO T g call X.K W (.so a)) := (po_some ha).imp fun σ H Q ⟨ρ, F, S, en, rl, re, P⟩ => by
  simp only [evO] at P
  refine tE.cut rl re P fun ρ1 F1 S1 x v H1 x1 rl1 re1 r1 P1 => ?_
  unfold intO at P1
  split at P1
  · cases r1
    exact ⟨_, rfl, P1.here rl1 rfl⟩
  · exact P1.elim
theorem se_tup {es : Cds} {l : List Expr} {k : Nat} {p : Pos} (h : PA X l (tEs T g call X.K W es)) : SE T g call W X (.Tuple l k p) (.tup es) :=
  .plain ((pe_tup h).imp fun σ H Q ⟨ρ, F, S, en, rl, re, P⟩ => by
    simp only [evE] at P
    refine tEs.cut rl re P fun ρ1 F1 S1 xs vs H1 x1 rl1 re1 r1 P1 => ?_
    split at P1
    · rename_i hl
      exact ⟨by rw [← r1.length]; exact hl, fun p hp => tup_ok rl1 r1 P1 hp⟩
    · exact P1.elim) rfl
theorem se_lst {m : Bool} {es : Cds} {l : List Expr} {p : Pos} (h : PA X l (tEs T g call X.K W es)) : SE T g call W X (.List l p) (.lst m es) :=
  .plain ((pe_lst h).imp fun σ H Q ⟨ρ, F, S, en, rl, re, P⟩ => by
    simp only [evE] at P
    refine tEs.cut rl re P fun ρ1 F1 S1 xs vs H1 x1 rl1 re1 r1 P1 => ?_
    split at P1
    · rename_i hl
      exact ⟨by rw [← r1.length]; exact hl, fun p hp => alloc_ok rl1 r1 P1 hp⟩
    · exact P1.elim) rfl
theorem se_dct {m : Bool} {p : Pos} : SE T g call W X (.Dict [] [] p) (.dct m .nil .nil) :=
  .plain (pe_dnewK.imp fun σ H Q ⟨ρ, F, S, en, rl, re, P⟩ => by
    simp only [evE, evEs, Res.bind_ok] at P
    exact fun p hp => allocK_ok rl .nil P hp) rfl
/-! ### calls -/
theorem shp_has {x : Str} {f np : Nat} {ks : List Str} {perm : List Nat} {dv : List D} (h : shpHas G x f np ks perm dv = true) : ∃ fe ∈ G.fns, fe.x = x ∧ fe.f = f ∧ ∃ sh ∈ fe.shapes, sh.perm.length = fe.ps.length ∧ sh.np = np ∧ sh.ks = ks ∧ sh.perm = perm ∧ sh.dv = dv := by
  unfold shpHas at h
  rw [List.any_eq_true] at h
  obtain ⟨fe, h1, h2⟩ := h
  simp only [Bool.and_eq_true, decide_eq_true_eq, List.any_eq_true] at h2
  obtain ⟨⟨h2, h3⟩, sh, h4, ⟨⟨⟨h5, h6⟩, h7⟩, h8⟩, h9⟩ := h2
  exact ⟨fe, h1, h2, h3, sh, h4, h5, h6, h7, h8, eqL_of_eqb _ _ h9⟩
theorem permD_all (l : List D) : permD (rangeL l.length) l = some l := by
  have : ∀ (k : Nat) (m : List D), m.length = k → ∀ pre : List D, ((List.range' pre.length k).mapM fun i => (pre ++ m)[i]?) = some m := by
    intro k
    induction k with
    | zero =>
      intro m hm pre
      have : m = [] := by simpa using hm
      subst this
      rfl
    | succ k ih =>
      intro m hm pre
      cases m with
      | nil => simp at hm
      | cons y ys =>
        have h1 := ih ys (by simpa using hm) (pre ++ [y])
        rw [List.range'_succ, List.mapM_cons]
        have e1 : (pre ++ y :: ys)[pre.length]? = some y := by simp
        rw [e1]
        simp only [List.length_append, List.length_cons, List.length_nil, Nat.zero_add, List.append_assoc, List.cons_append, List.nil_append] at h1
        rw [h1]
        rfl
  have h := this l.length l rfl []
  unfold permD rangeL
  rw [List.range_eq_range']
  simpa using h
theorem cg_key {sh : Shp} {f n : Nat} {es ks : Cds} {perm : List Nat} {dv : List D} {σ : L2.St} {H : Hp} {Q : VK} {np : Nat} {fd : FuncData} {ps : List Str} (hc : sh.dv.all isConst = true) (h0 : sh.perm.length = n) (h3 : sh.np = np) (hl : lenEs es = np) (hk : lenEs ks = sh.ks.length) (h5 : sh.perm = perm) (h6 : sh.dv = dv)
    {ρ : Nat → Addr} {F : Hp} {S : Store} {e : Env} (rl : Rel T X.K ρ F S H) (re : RE T ρ F S.length e σ)
    (P : PostG T X.K (gV T) ρ F S H ((evEs g call es e S).bind fun xs S => (evEs g call ks e S).bind fun ys S => match permD perm (xs ++ ys ++ dv) with
      | some zs => ofCR (call f zs S)
      | none => .stuck) Q (EW W σ)) : tCG (spF T X.K n call f) sh (EW W) (tEs T g call X.K W es) (tEs T g call X.K W ks) σ H Q := by
  subst h5 h6
  refine tEs.cutE rl re P fun ρ1 F1 S1 xs vs H1 q1 x1 rl1 re1 r1 P1 => ⟨by rw [← r1.length, evEs_len q1, h3]; exact hl, tEs.cutE rl1 re1 P1 fun ρ2 F2 S2 ys us H2 q2 x2 rl2 re2 r2 P2 => ⟨by rw [← r2.length, evEs_len q2]; exact hk, ?_⟩⟩
  have rr : RL T.ca ρ2 F2 S2.length (xs ++ ys ++ sh.dv) (vs ++ us ++ sh.dv.map constV) := ((x2.rl r1).append r2).append (RL.const hc)
  split at P2
  · rename_i zs hz
    exact ⟨by unfold pickL; rw [List.length_map]; exact h0, ρ2, F2, S2, zs, rl2, rr.pick hz, P2⟩
  · exact P2.elim
theorem call_as {f : Nat} {es : Cds} {dv : List D} {np : Nat} (hl : lenEs es = np) (e : Env) (S : Store) : evE g call (.call f es dv) e S = (evEs g call es e S).bind fun xs S => (evEs g call .nil e S).bind fun ys S => match permD (rangeL (np + dv.length)) (xs ++ ys ++ dv) with
      | some zs => ofCR (call f zs S)
      | none => .stuck := by
  simp only [evE, evEs, Res.bind_ok]
  cases q : evEs g call es e S with
  | ok xs S1 =>
    simp only [Res.bind_ok]
    have e1 : np + dv.length = (xs ++ [] ++ dv).length := by
      rw [List.append_nil, List.length_append, evEs_len q, hl]
    rw [e1, permD_all]
    simp
  | exc c v S1 => rfl
  | stuck => rfl
theorem tEs_nil {σ : L2.St} {H : Hp} {Q : List V → Hp → Prop} (h : tEs T g call X.K W .nil σ H Q) : tNil σ H Q := by
  obtain ⟨ρ, F, S, en, rl, re, P⟩ := h
  simp only [evEs] at P
  exact P.here rl .nil
theorem es_len_nil : ∀ {es : Cds}, lenEs es = 0 → es = .nil
  | .nil, _ => rfl
  | .cons _ _, h => by simp [lenEs] at h
theorem se_call {f : Nat} {es : Cds} {dv : List D} {x : Str} {l : List Expr} {p pos : Pos} (C : CtxE T g call G N W X sc) (hg : globB sc x = true) (hd : debB x = true) (hs : shpHas G x f l.length [] (rangeL (l.length + dv.length)) dv = true) (hst : l.all notStar = true) (ha : PA X l (tEs T g call X.K W es)) (hl : lenEs es = l.length) :
    SE T g call W X (.Call (.Name x p) l [] pos) (.call f es dv) := by
  obtain ⟨fe, h1, rfl, rfl, sh, h2, h0, h3, h4, h5, h6⟩ := shp_has hs
  obtain ⟨k, hr, L⟩ := C.lv
  obtain ⟨fa, fd, m1, m2, F, m3, _⟩ := L.fn fe h1
  have hb := m3 sh h2
  have key : ∀ σ H Q, tE T g call X.K W (.call fe.f es dv) σ H Q → tCG (spF T X.K fe.ps.length call fe.f) sh (EW W) (tEs T g call X.K W es) (tEs T g call X.K W .nil) σ H Q := fun σ H Q ⟨ρ, F, S, en, rl, re, P⟩ => by
    rw [call_as hl] at P
    exact cg_key (fd := fd) (ps := fe.ps) hb.c h0 h3 hl (by rw [h4]; rfl) h5 h6 rl re P
  cases l with
  | nil =>
    cases es_len_nil hl
    refine .plain ((pe_cG0 F hr C.gd (C.glob hg) m1 m2 hb h4 (fun σ => passAt C.tk σ) (debB_of hd)).imp fun σ H Q h => ?_) rfl
    obtain ⟨l1, q⟩ := tEs_nil (key σ H Q h)
    obtain ⟨l2, q⟩ := tEs_nil q
    exact ⟨l1, l2, q⟩
  | cons e es' =>
    refine .plain ((pe_cG F hr C.gd (C.glob hg) m1 m2 hb h4 (fun σ => passAt C.tk σ) ha (debB_of hd) hst).imp fun σ H Q h => ?_) rfl
    obtain ⟨ρ, F, S, en, rl, re, P⟩ := key σ H Q h
    exact ⟨ρ, F, S, en, rl, re, P.mono fun vs H1 ⟨l1, q⟩ => ⟨l1, tEs_nil q⟩⟩
theorem se_callk {f : Nat} {es ks : Cds} {perm : List Nat} {dv : List D} {x : Str} {l : List Expr} {kws : List Keyword} {ns : List Str} {p pos : Pos} (C : CtxE T g call G N W X sc) (hg : globB sc x = true) (hd : debB x = true) (hn : kwNames kws = some ns) (hs : shpHas G x f l.length ns perm dv = true) (hst : l.all notStar = true) (ha : PA X l (tEs T g call X.K W es)) (hl : lenEs es = l.length)
    (hk : PK X kws (tEs T g call X.K W ks)) (hlk : lenEs ks = ns.length) :
    SE T g call W X (.Call (.Name x p) l kws pos) (.callk f es ks perm dv) := by
  obtain ⟨fe, h1, rfl, rfl, sh, h2, h0, h3, h4, h5, h6⟩ := shp_has hs
  obtain ⟨k, hr, L⟩ := C.lv
  obtain ⟨fa, fd, m1, m2, F, m3, _⟩ := L.fn fe h1
  have hb := m3 sh h2
  have key : ∀ σ H Q, tE T g call X.K W (.callk fe.f es ks perm dv) σ H Q → tCG (spF T X.K fe.ps.length call fe.f) sh (EW W) (tEs T g call X.K W es) (tEs T g call X.K W ks) σ H Q := fun σ H Q ⟨ρ, F, S, en, rl, re, P⟩ => by
    simp only [evE] at P
    exact cg_key (fd := fd) (ps := fe.ps) hb.c h0 h3 hl (by rw [h4]; exact hlk) h5 h6 rl re P
  cases l with
  | nil =>
    cases es_len_nil hl
    refine .plain ((pe_cGK0 F hr C.gd (C.glob hg) m1 m2 hb (by rw [h4]; exact hn) (fun σ => passAt C.tk σ) hk (debB_of hd)).imp fun σ H Q h => ?_) rfl
    exact tEs_nil (key σ H Q h)
  | cons e es' => exact .plain ((pe_cGK F hr C.gd (C.glob hg) m1 m2 hb (by rw [h4]; exact hn) (fun σ => passAt C.tk σ) ha hk (debB_of hd) hst).imp key) rfl
/-! ### built-in functions -/
theorem se_bi {m : Bool} {b : BI} {es : Cds} {a : Expr} {l : List Expr} {p pos : Pos} (C : CtxE T g call G N W X sc) (hb : b.ok = true) (hr : b ≠ .repr) (hg : globB sc b.nm = true) (hst : (a :: l).all notStar = true) (ha : PA X (a :: l) (tEs T g call X.K W es)) : SE T g call W X (.Call (.Name b.nm p) (a :: l) [] pos) (.bi m b es) := by
  have hm := C.gf.blt
  have hG := C.glob hg
  have hst' := hst
  simp only [List.all_cons, Bool.and_eq_true] at hst'
  have key : ∀ (f : List D → Store → Res D), (∀ xs S, biop g m b xs S = f xs S) → ∀ σ H Q, tE T g call X.K W (.bi m b es) σ H Q → tCB (rC T X.K EAny f) (tEs T g call X.K W es) σ H Q := fun f hf σ H Q ⟨ρ, F, S, en, rl, re, P⟩ => by
    simp only [evE] at P
    exact tEs.cut rl re P fun ρ1 F1 S1 xs vs H1 x1 rl1 re1 r1 P1 => ⟨ρ1, F1, S1, xs, rl1, r1, by rw [← hf]; exact P1.any⟩
  cases b <;> first | (simp [BI.ok] at hb; done) | (exact absurd rfl hr) | skip
  · exact .plain ((pe_callB (isinst_ok C.gf.cf) hG (hm _ (by decide)) (by decide +kernel) ha (by decide) (by decide) (star_cons hst _) (star_pl hst'.2 _)).imp (key _ fun _ _ => rfl)) rfl
  · exact .plain ((pe_callB len_ok hG (hm _ (by decide)) (by decide +kernel) ha (by decide) (by decide) (star_cons hst _) (star_pl hst'.2 _)).imp (key _ fun _ _ => rfl)) rfl
  · exact .plain ((pe_callB (max_ok C.calm) hG (hm _ (by decide)) (by decide +kernel) ha (by decide) (by decide) (star_cons hst _) (star_pl hst'.2 _)).imp (key _ fun _ _ => rfl)) rfl
  · exact .plain ((pe_callB (min_ok C.calm) hG (hm _ (by decide)) (by decide +kernel) ha (by decide) (by decide) (star_cons hst _) (star_pl hst'.2 _)).imp (key _ fun _ _ => rfl)) rfl
  · exact .plain ((pe_callB (sum_ok C.calm) hG (hm _ (by decide)) (by decide +kernel) ha (by decide) (by decide) (star_cons hst _) (star_pl hst'.2 _)).imp (key _ fun _ _ => rfl)) rfl
  · exact .plain ((pe_callB (all_ok C.calm) hG (hm _ (by decide)) (by decide +kernel) ha (by decide) (by decide) (star_cons hst _) (star_pl hst'.2 _)).imp (key _ fun _ _ => rfl)) rfl
  · exact .plain ((pe_callB (any_ok C.calm) hG (hm _ (by decide)) (by decide +kernel) ha (by decide) (by decide) (star_cons hst _) (star_pl hst'.2 _)).imp (key _ fun _ _ => rfl)) rfl
  · exact .plain ((pe_callTy int_ok hG (hm _ (by decide)) (by decide +kernel) ha (by decide) (by decide) (star_cons hst _) (star_pl hst'.2 _)).imp (key _ fun _ _ => rfl)) rfl
  · exact .plain ((pe_callTy strB_ok hG (hm _ (by decide)) (by decide +kernel) ha (by decide) (by decide) (star_cons hst _) (star_pl hst'.2 _)).imp (key _ fun _ _ => rfl)) rfl
  · exact .plain ((pe_callTy (list_ok C.calm m) hG (hm _ (by decide)) (by decide +kernel) ha (by decide) (by decide) (star_cons hst _) (star_pl hst'.2 _)).imp (key _ fun _ _ => rfl)) rfl
  · exact .plain ((pe_callTy tupleB_ok hG (hm _ (by decide)) (by decide +kernel) ha (by decide) (by decide) (star_cons hst _) (star_pl hst'.2 _)).imp (key _ fun _ _ => rfl)) rfl
  · exact .plain ((pe_callB (sorted_ok m) hG (hm _ (by decide)) (by decide +kernel) ha (by decide) (by decide) (star_cons hst _) (star_pl hst'.2 _)).imp (key _ fun _ _ => rfl)) rfl
/-! ### subscripts, slices -/
theorem plainIx_of {b : Expr} (h : notSlice b = true) : PlainIx b := by
  cases b <;> first | (intro o i; rfl) | (simp [notSlice] at h)
theorem se_ix {a b : Cd} {x y : Expr} {p : Pos} (hu : X.A.units + 64 < cLine) (ha : SE T g call W X x a) (hb : SE T g call W X y b) (hs : notSlice y = true) : SE T g call W X (.Subscript x y p) (.ix a b) :=
  .plain ((pe_ix (ix_ok (T := T) (E := EAny) hu) ha.pe hb.pe (plainIx_of hs)).imp fun σ H Q ⟨ρ, F, S, en, rl, re, P⟩ => by
    simp only [evE] at P
    exact tE.cut rl re P fun ρ1 F1 S1 x v H1 x1 rl1 re1 r1 P1 => tE.cut rl1 re1 P1 fun ρ2 F2 S2 y u H2 x2 rl2 re2 r2 P2 => ⟨ρ2, F2, S2, x, y, rl2, x2.rv r1, r2, P2.any⟩) rfl
theorem tEO.cut {c : Cdo} {γ δ : Type} {R2 : RG γ δ} {k : Option Int → Store → Res γ} {σ : L2.St} {H : Hp} {Q2 : δ → Hp → Prop} {Q' : Option Int → Hp → Prop} {K : PySem.W.Frag} {ρ : Nat → Addr} {F : Hp} {S : Store} {e : Env} (rl : Rel T K ρ F S H) (re : RE T ρ F S.length e σ) (P : PostG T K R2 ρ F S H ((evO g call c e S).bind k) Q2 (EW W σ))
    (h : ∀ ρ1 F1 S1 x H1, Ext ρ F S H ρ1 F1 S1 H1 → Rel T K ρ1 F1 S1 H1 → RE T ρ1 F1 S1.length e σ → PostG T K R2 ρ1 F1 S1 H1 (k x S1) Q2 (EW W σ) → Q' x H1) : tEO T g call K W c σ H Q' :=
  ⟨ρ, F, S, e, rl, re, PostG.mono (PostG.bind P) fun v H1 ⟨ρ1, F1, S1, x, x1, rl1, r1, P1⟩ => by
    cases (show x = v from r1)
    exact h ρ1 F1 S1 _ H1 x1 rl1 (x1.re re) P1⟩
theorem se_sl {m : Bool} {a : Cd} {lo hi : Cdo} {x : Expr} {l h : Option Expr} {p p2 : Pos} (ha : SE T g call W X x a) (hl : PO X l (tEO T g call X.K W lo)) (hh : PO X h (tEO T g call X.K W hi)) : SE T g call W X (.Subscript x (.Slice l h none p2) p) (.sl m a lo hi) :=
  .plain ((pe_slice (sl_ok (T := T) (E := EAny) m) ha.pe hl hh).imp fun σ H Q ⟨ρ, F, S, en, rl, re, P⟩ => by
    simp only [evE] at P
    exact tE.cut rl re P fun ρ1 F1 S1 x v H1 x1 rl1 re1 r1 P1 => tEO.cut rl1 re1 P1 fun ρ2 F2 S2 l H2 x2 rl2 re2 P2 => tEO.cut rl2 re2 P2 fun ρ3 F3 S3 h H3 x3 rl3 re3 P3 => ⟨ρ3, F3, S3, x, rl3, x3.rv (x2.rv r1), P3.any⟩) rfl
end
end Mp
end
section
set_option maxHeartbeats 4000000
namespace Mp
open PySem L2 PyProof.Rows
section
variable {T : Tb} {g : Gt} {call : Call} {G : Gs} {N : List Str} {W : WX} {X : Cx} {sc : Scope}
theorem base_of {o : Expr} {nm : Str} (h : baseOk o = true) (env : PySem.Env) : attributeBase o nm env (eval o env) = eval o env := by
  cases o <;> try rfl
  rename_i f as ks p
  cases f <;> try rfl
  cases as <;> try rfl
  cases ks <;> try rfl
  rename_i x px
  have hx : (x != ("super" : Str)) = true := by simpa [baseOk] using h
  show attributeBase (.Call (.Name x px) [] [] p) nm env (eval (.Call (.Name x px) [] [] p) env) = _
  unfold attributeBase
  simp [hx]
theorem se_frz {a : Cd} {x : Expr} (ha : SE T g call W X x a) (pl : plainT x = true) : SE T g call W X x (.frz a) := by
  have tt : ∀ σ H Q, tE T g call X.K W (.frz a) σ H Q → tE T g call X.K W a σ H Q := fun σ H Q ⟨ρ, F, S, en, rl, re, P⟩ => by
    simp only [evE] at P
    refine tE.cut rl re P fun ρ1 F1 S1 x v H1 x1 rl1 re1 r1 P1 => ?_
    unfold frzop at P1
    split at P1
    · rename_i l
      cases r1 with
      | ref hl =>
      split at P1
      · rename_i xs e
        obtain ⟨vs, e2, r2⟩ := rl1.cell _ _ e
        obtain ⟨rl2, x2⟩ := rl1.freeze e (fun z => by cases z) e2 e2
        exact P1 _ _ _ _ x2 rl2 (.lst upd_same (x2.rl r2))
      · rename_i xs e
        obtain ⟨vs, e2, r2⟩ := rl1.cell _ _ e
        obtain ⟨rl2, x2⟩ := rl1.freeze e (fun z => by cases z) e2 (.inl e2)
        exact P1 _ _ _ _ x2 rl2 (.dct upd_same (r2.mono x2.agree x2.subF x2.len))
      · exact P1.elim
    · exact P1.here rl1 r1
  exact .plain (ha.pe.imp tt) pl
theorem frzM_ok {f : D → Store → Option (D × Store)} {K : PySem.W.Frag} {ρ : Nat → Addr} {H : Hp} (hf : ∀ {F : Hp} {S : Store} {d d' : D} {S' : Store} {v : V}, Rel T K ρ F S H → RV T.ca ρ F S.length d v → f d S = some (d', S') → ∃ F', Rel T K ρ F' S' H ∧ Ext ρ F S H ρ F' S' H ∧ RV T.ca ρ F' S'.length d' v) :
    ∀ {xs ys : List D} {F : Hp} {S S' : Store} {vs : List V}, Rel T K ρ F S H → RL T.ca ρ F S.length xs vs → frzM f xs S = some (ys, S') → ∃ F', Rel T K ρ F' S' H ∧ Ext ρ F S H ρ F' S' H ∧ RL T.ca ρ F' S'.length ys vs
  | [], ys, F, S, S', vs, rl, r, h => by
    cases r
    simp only [frzM, Option.some.injEq, Prod.mk.injEq] at h
    obtain ⟨rfl, rfl⟩ := h
    exact ⟨F, rl, .refl, .nil⟩
  | x :: xs, ys, F, S, S', _, rl, .cons r t, h => by
    unfold frzM at h
    split at h
    · rename_i y S1 e1
      split at h
      · rename_i zs S2 e2
        cases h
        obtain ⟨F1, rl1, x1, r1⟩ := hf rl r e1
        obtain ⟨F2, rl2, x2, r2⟩ := frzM_ok hf rl1 (x1.rl t) e2
        exact ⟨F2, rl2, x1.trans x2, .cons (x2.rv r1) r2⟩
      · cases h
    · cases h
theorem frzD_ok {K : PySem.W.Frag} {ρ : Nat → Addr} {H : Hp} : ∀ {n : Nat} {F : Hp} {S : Store} {d d' : D} {S' : Store} {v : V}, Rel T K ρ F S H → RV T.ca ρ F S.length d v → frzD n d S = some (d', S') → ∃ F', Rel T K ρ F' S' H ∧ Ext ρ F S H ρ F' S' H ∧ RV T.ca ρ F' S'.length d' v
  | 0, F, S, d, d', S', v, rl, r, h => by simp [frzD] at h
  | n + 1, F, S, d, d', S', v, rl, r, h => by
    unfold frzD at h
    split at h
    · split at h
      · rename_i ys S1 e1
        cases h
        cases r with
        | tup e2 r2 =>
        obtain ⟨F1, rl1, x1, r1⟩ := frzM_ok (frzD_ok (n := n)) rl r2 e1
        exact ⟨F1, rl1, x1, .tup (x1.subF _ _ e2) r1⟩
      · cases h
    · split at h
      · rename_i ys S1 e1
        cases h
        cases r with
        | lst e2 r2 =>
        obtain ⟨F1, rl1, x1, r1⟩ := frzM_ok (frzD_ok (n := n)) rl r2 e1
        exact ⟨F1, rl1, x1, .lst (x1.subF _ _ e2) r1⟩
      · cases h
    · rename_i l
      split at h
      · rename_i xs e
        split at h
        · rename_i ys S1 e1
          split at h
          · rename_i e3
            cases h
            cases r with
            | ref hl =>
            obtain ⟨vs, h2, r2⟩ := rl.cell _ _ e
            obtain ⟨F1, rl1, x1, r1⟩ := frzM_ok (frzD_ok (n := n)) rl r2 e1
            obtain ⟨rl2, x2⟩ := rl1.freeze e3 (fun z => by cases z) h2 h2
            exact ⟨_, rl2, x1.trans x2, .lst upd_same (x2.rl r1)⟩
          · cases h
        · cases h
      · cases h
    · cases h
      exact ⟨F, rl, .refl, r⟩
theorem se_frzd {a : Cd} {x : Expr} (ha : SE T g call W X x a) (pl : plainT x = true) : SE T g call W X x (.frzd a) := by
  have tt : ∀ σ H Q, tE T g call X.K W (.frzd a) σ H Q → tE T g call X.K W a σ H Q := fun σ H Q ⟨ρ, F, S, en, rl, re, P⟩ => by
    simp only [evE] at P
    refine tE.cut rl re P fun ρ1 F1 S1 x v H1 x1 rl1 re1 r1 P1 => ?_
    unfold frzdop at P1
    split at P1
    · rename_i y S2 e
      obtain ⟨F2, rl2, x2, r2⟩ := frzD_ok rl1 r1 e
      exact P1 _ _ _ _ x2 rl2 r2
    · exact P1.elim
  exact .plain (ha.pe.imp tt) pl
theorem se_bad {x : Expr} (pl : plainT x = true) : SE T g call W X x .bad :=
  .plain ⟨fun pins s σ H Q I ⟨ρ, F, S, en, rl, re, P⟩ => by
    simp only [evE] at P
    exact P.elim⟩ pl
theorem se_fld {o : Cd} {x : Expr} {p : Pos} (C : CtxE T g call G N W X sc) (ha : SE T g call W X x o) (hb : baseOk x = true) : SE T g call W X (.Attribute x "value" p) (.fld o 0) := by
  refine .plain ⟨fun pins s σ H Q I ⟨ρ, F, S, en, rl, re, P⟩ => ?_⟩ rfl
  simp only [evE] at P
  refine attr_of (base_of hb X.env) (thn (ha.pe.run pins s σ H (fun v H1 => ∃ ρ1 F1 S1 x, Rel T X.K ρ1 F1 S1 H1 ∧ RV T.ca ρ1 F1 S1.length x v ∧ PostG T X.K (gV T) ρ1 F1 S1 H1 (match x with
    | .exn c v => if True ∧ (g.sub c c).isSome then .ok v S1 else .stuck
    | _ => .stuck) Q (EW W σ)) I (tE.cut rl re P fun ρ1 F1 S1 x v H1 x1 rl1 re1 r1 P1 => ⟨ρ1, F1, S1, x, rl1, r1, P1⟩)) fun u s1 hh => ?_)
  obtain ⟨v, H1, I1, rx, ρ1, F1, S1, x, rl1, r1, P1⟩ := hh
  split at P1
  · rename_i c d
    split at P1
    · rename_i hc
      obtain ⟨b, hb⟩ := Option.isSome_iff_exists.mp hc.2
      have EC := C.gf.cf.ex _ _ _ hb
      cases r1 with
      | exn e e2 rv =>
      obtain ⟨oe, od, mA, J, hl, w, hw, rw'⟩ := exk_at I1.hok (rl1.sub _ _ e) (rl1.sub _ _ e2)
      obtain rfl : u = Value.ref _ := rx
      exact HandSPX.exc_get I1.kIn J EC.ga EC.gg EC.oex.exC (PySem.W.findObj_own EC.hd EC.nov rfl (by rw [hl, hw])) (handed_of rw') ⟨_, H1, I1.tok _, rw', P1.here rl1 rv⟩
    · exact P1.elim
  · exact P1.elim
/-! ### methods -/
theorem se_mt {mm : MI} {o : Cd} {es : Cds} {x : Expr} {l : List Expr} {ap cp : Pos} (C : CtxE T g call G N W X sc) (hm : mm.ok = true) (ho : SE T g call W X x o) (hb : baseOk x = true) (hline : (ap.endLine == cp.line) = true) (hst : l.all notStar = true) (hlen : l.length < 20) (ha : PA X l (tEs T g call X.K W es)) (hl : lenEs es = l.length) :
    SE T g call W X (.Call (.Attribute x mm.nm ap) l [] cp) (.mt mm o es) := by
  have main : ∀ {Ty id : String}, PlainAttrs Ty → Slot Ty mm.nm id → typeOf (.builtin id) = pure (.type "method_descriptor") → (∀ f, (∀ x xs S, mtop mm x xs S = f x xs S) → MtR X id (rM T X.K EAny f)) →
      (∀ ρ F S H d v, Rel T X.K ρ F S H → RV T.ca ρ F S.length d v → mtOk mm d S = true → tyV X.K Ty v H) → SE T g call W X (.Call (.Attribute x mm.nm ap) l [] cp) (.mt mm o es) := fun {Ty id} pa slot hty hmt hty' => by
    have hM := hmt (mtop mm) fun _ _ _ => rfl
    have key : ∀ σ H Q, tE T g call X.K W (.mt mm o es) σ H Q → tBM X.K Ty (rM T X.K EAny (mtop mm)) (tE T g call X.K W o) (tEs T g call X.K W es) σ H Q := fun σ H Q ⟨ρ, F, S, en, rl, re, P⟩ => by
      simp only [evE] at P
      refine tE.cut rl re P fun ρ1 F1 S1 x v H1 x1 rl1 re1 r1 P1 => ?_
      split at P1
      · rename_i hk
        exact ⟨hty' _ _ _ _ _ _ rl1 r1 hk, tEs.cut rl1 re1 P1 fun ρ2 F2 S2 xs vs H2 x2 rl2 re2 r2 P2 => ⟨ρ2, F2, S2, x, xs, rl2, x2.rv r1, r2, P2.any⟩⟩
      · exact P1.elim
    cases l with
    | nil =>
      cases es_len_nil hl
      refine .plain ((pe_bm0 pa slot hty hM ho.pe (base_of hb _) hline).imp fun σ H Q h => ?_) rfl
      obtain ⟨ρ, F, S, en, rl, re, P⟩ := key σ H Q h
      exact ⟨ρ, F, S, en, rl, re, P.mono fun v H1 ⟨h1, q⟩ => ⟨h1, tEs_nil q⟩⟩
    | cons e es' =>
      have hst' := hst
      simp only [List.all_cons, Bool.and_eq_true] at hst'
      refine .plain ((pe_bm pa slot hty hM ho.pe ha (base_of hb _) ?_ hline (star_cons hst _) (star_pl hst'.2 _)).imp key) rfl
      rw [star_all _ hst]
      simp only [List.length_cons] at hlen
      simp [backTo, backToKw, keywordEach]
      omega
  have tyL : ∀ ρ F S H d v, Rel T X.K ρ F S H → RV T.ca ρ F S.length d v → (asL S d).isSome = true → tyV X.K "list" v H := fun ρ F S H d v rl r h => by
    obtain ⟨xs, hx⟩ := Option.isSome_iff_exists.mp h
    obtain ⟨a, vs, rfl, hs, _⟩ := rl.asL r hx
    exact .inl ⟨rfl, vs, hs⟩
  have tyS : ∀ ρ F S H d v, Rel T X.K ρ F S H → RV T.ca ρ F S.length d v → (match d with | .str _ => true | _ => false) = true → tyV X.K "str" v H := fun ρ F S H d v rl r h => by
    split at h
    · cases r; rfl
    · cases h
  cases mm <;> first | (simp [MI.ok] at hm; done) | skip
  · exact main F.plainAttrs_list F.slot_list_append F.type_list_append (fun f hf => by rw [show f = mtAppend from funext fun x => funext fun xs => funext fun S => (hf x xs S).symm]; exact append_ok) tyL
  · exact main F.plainAttrs_list F.slot_list_insert F.type_list_insert (fun f hf => by rw [show f = mtInsert from funext fun x => funext fun xs => funext fun S => (hf x xs S).symm]; exact insert_ok) tyL
  · exact main F.plainAttrs_list F.slot_list_extend F.type_list_extend (fun f hf => by rw [show f = mtExtend from funext fun x => funext fun xs => funext fun S => (hf x xs S).symm]; exact extend_ok) tyL
  · exact main F.plainAttrs_list F.slot_list_pop F.type_list_pop (fun f hf => by rw [show f = mtPop from funext fun x => funext fun xs => funext fun S => (hf x xs S).symm]; exact pop_ok) tyL
  · exact main F.plainAttrs_list F.slot_list_index F.type_list_index (fun f hf => by rw [show f = mtIndex from funext fun x => funext fun xs => funext fun S => (hf x xs S).symm]; exact index_ok) tyL
  · exact main F.plainAttrs_list F.slot_list_count F.type_list_count (fun f hf => by rw [show f = mtCount from funext fun x => funext fun xs => funext fun S => (hf x xs S).symm]; exact count_ok) tyL
  · exact main F.plainAttrs_str F.slot_str_join F.type_str_join (fun f hf => by rw [show f = mtJoin from funext fun x => funext fun xs => funext fun S => (hf x xs S).symm]; exact join_ok) tyS
  · exact main F.plainAttrs_str F.slot_str_split F.type_str_split (fun f hf => by rw [show f = mtSplit from funext fun x => funext fun xs => funext fun S => (hf x xs S).symm]; exact split_ok) tyS
  · exact main F.plainAttrs_str F.slot_str_find F.type_str_find (fun f hf => by rw [show f = mtFind from funext fun x => funext fun xs => funext fun S => (hf x xs S).symm]; exact find_ok) tyS
  · exact main F.plainAttrs_int F.slot_int_bit_length F.type_int_bit_length (fun f hf => by rw [show f = mtBits from funext fun x => funext fun xs => funext fun S => (hf x xs S).symm]; exact bits_ok) fun ρ F S H d v rl r h => by
      simp only [mtOk] at h
      split at h
      · cases r; rfl
      · cases h
  · exact main F.plainAttrs_str F.slot_str_index F.type_str_index (fun f hf => by rw [show f = mtSindex from funext fun x => funext fun xs => funext fun S => (hf x xs S).symm]; exact sindex_ok) tyS
  · exact main F.plainAttrs_str F.slot_str_lstrip F.type_str_lstrip (fun f hf => by rw [show f = mtLstrip from funext fun x => funext fun xs => funext fun S => (hf x xs S).symm]; exact lstrip_ok) tyS
end
end Mp
end
section
set_option maxHeartbeats 4000000
namespace Mp
open PySem L2 PyProof.Rows
/-! ### an object beside the store -/
section
variable {T : Tb} {K : PySem.W.Frag} {ρ ρ1 ρ2 : Nat → Addr} {F F1 F2 : Hp} {S S1 S2 : Store} {H H1 H2 : Hp} {Dd : Addr} {o : HO}
/-- a new object that is not ours -/
theorem Rel.extra (rl : Rel T K ρ F S H) (hp : H Dd = none) (o : HO) : Rel T K ρ F S (upd H Dd o) ∧ Ext ρ F S H ρ F S (upd H Dd o) ∧ F Dd = none ∧ ∀ l, l < S.length → ρ l ≠ Dd := by
  have fp := rl.f_new hp
  have nd : ∀ l, l < S.length → ρ l ≠ Dd := fun l hl => rl.ne_new hp hl
  refine ⟨⟨fun a u e => (rl.sub a u e).upd (ne_of_none e fp), fun l o' e => ?_, rl.inj, rl.sep, fun l hl => ?_⟩, ⟨Nat.le_refl _, fun _ _ => rfl, fun _ _ h => h, fun b o' e _ => by rw [upd_ne (ne_of_none e hp)]; exact e, fun _ h => h, fun b hb => ?_, fun a ha => .inl ha, fun l h h' => absurd (Nat.lt_of_le_of_lt h h') (Nat.lt_irrefl _)⟩, fp, nd⟩
  · have hl : l < S.length := (List.getElem?_eq_some_iff.mp e).1
    exact (rl.cell l o' e).mono (fun _ _ => rfl) (fun _ _ h => h) (Nat.le_refl _) (upd_ne (nd l hl))
  · rw [upd_ne (nd l hl)]; exact rl.there l hl
  · by_cases e : b = Dd
    · subst e; rw [upd_same]; exact fun z => by cases z
    · rw [upd_ne e]; exact hb
/-- it is written -/
theorem Rel.over (rl : Rel T K ρ F S H) (fD : F Dd = none) (nd : ∀ l, l < S.length → ρ l ≠ Dd) (o : HO) : Rel T K ρ F S (upd H Dd o) := by
  refine ⟨fun a u e => (rl.sub a u e).upd (ne_of_none e fD), fun l o' e => ?_, rl.inj, rl.sep, fun l hl => ?_⟩
  · have hl : l < S.length := (List.getElem?_eq_some_iff.mp e).1
    exact (rl.cell l o' e).mono (fun _ _ => rfl) (fun _ _ h => h) (Nat.le_refl _) (upd_ne (nd l hl))
  · rw [upd_ne (nd l hl)]; exact rl.there l hl
/-- seen from before it was -/
theorem Ext.over (x : Ext ρ1 F1 S1 H1 ρ F S H) (h1 : H1 Dd = none) (o : HO) : Ext ρ1 F1 S1 H1 ρ F S (upd H Dd o) := by
  refine ⟨x.len, x.agree, x.subF, fun b o' e hn => ?_, x.dead, fun b hb => ?_, x.newF, x.newS⟩
  · rw [upd_ne (ne_of_none e h1)]; exact x.frame b o' e hn
  · by_cases e : b = Dd
    · subst e; rw [upd_same]; exact fun z => by cases z
    · rw [upd_ne e]; exact x.dom b hb
/-- it stays as it is -/
theorem Ext.keepD (x : Ext ρ F S H ρ1 F1 S1 H1) (hD : H Dd = some o) (fD : F Dd = none) (nd : ∀ l, l < S.length → ρ l ≠ Dd) : H1 Dd = some o ∧ F1 Dd = none ∧ ∀ l, l < S1.length → ρ1 l ≠ Dd := by
  refine ⟨x.frame Dd o hD fun l hl _ => nd l hl, ?_, fun l hl e => ?_⟩
  · cases q : F1 Dd with
    | none => rfl
    | some u =>
      rcases x.newF Dd (by rw [q]; exact fun z => by cases z) with h | h | ⟨l, hl, e⟩
      · exact absurd fD h
      · rw [hD] at h; cases h
      · exact absurd e (nd l hl)
  · by_cases hlt : l < S.length
    · exact nd l hlt ((x.agree l hlt).symm.trans e)
    · have := x.newS l (Nat.le_of_not_lt hlt) hl
      rw [e, hD] at this; cases this
/-- it becomes ours: a list -/
theorem alloc_at {m : Bool} {xs : List D} {vs : List V} {Q : VK} {E : XK} (rl : Rel T K ρ F S H) (r : RL T.ca ρ F S.length xs vs) (x : Ext ρ1 F1 S1 H1 ρ F S H) (h : PostG T K (gV T) ρ1 F1 S1 H1 (alloc m xs S) Q E) (h1 : H1 Dd = none) (hD : H Dd = some (.lst vs)) (fD : F Dd = none) (nd : ∀ l, l < S.length → ρ l ≠ Dd) : Q (.ref Dd) H := by
  cases m with
  | false =>
    have sub : ∀ a u, F a = some u → upd F Dd (.lst vs) a = some u := fun a u e => by rw [upd_ne (ne_of_none e fD)]; exact e
    refine h ρ (upd F Dd (.lst vs)) H (.ref Dd) ⟨x.len, x.agree, fun a u e => sub a u (x.subF a u e), x.frame, x.dead, x.dom, fun a ha => ?_, x.newS⟩ ⟨fun a u e => ?_, fun l o e => (rl.cell l o e).mono (fun _ _ => rfl) sub (Nat.le_refl _) rfl, rl.inj, fun l o e hd => ?_, rl.there⟩ (.lst upd_same (r.mono (fun _ _ => rfl) sub (Nat.le_refl _)))
    · by_cases e : a = Dd
      · subst e; exact .inr (.inl h1)
      · rw [upd_ne e] at ha; exact x.newF a ha
    · by_cases ha : a = Dd
      · subst ha; rw [upd_same] at e; cases e; exact hD
      · rw [upd_ne ha] at e; exact rl.sub a u e
    · have hl : l < S.length := (List.getElem?_eq_some_iff.mp e).1
      rw [upd_ne (nd l hl)]; exact rl.sep l o e hd
  | true =>
    have ls : (S ++ [O.lst xs]).length = S.length + 1 := by simp
    have ag : ∀ l, l < S.length → (fun l => if l = S.length then Dd else ρ l) l = ρ l := fun l hl => if_neg (Nat.ne_of_lt hl)
    refine h (fun l => if l = S.length then Dd else ρ l) F H (.ref Dd) ⟨by rw [ls]; exact Nat.le_succ_of_le x.len, fun l hl => ?_, x.subF, x.frame, fun l h => by rw [List.getElem?_append_left (List.getElem?_eq_some_iff.mp (x.dead l h)).1]; exact x.dead l h, x.dom, x.newF, fun l h2 h3 => ?_⟩ ⟨rl.sub, fun l o e => ?_, fun l m hl hm e => ?_, fun l o e hd => ?_, fun l hl => ?_⟩ ?_
    · show (if l = S.length then Dd else ρ l) = _
      rw [if_neg (Nat.ne_of_lt (Nat.lt_of_lt_of_le hl x.len))]; exact x.agree l hl
    · rw [ls] at h3
      show H1 (if l = S.length then Dd else ρ l) = none
      by_cases e : l = S.length
      · rw [if_pos e]; exact h1
      · rw [if_neg e]; exact x.newS l h2 (by omega)
    · rw [ls]
      by_cases hl : l < S.length
      · rw [List.getElem?_append_left hl] at e
        show RO T _ F _ H (if l = S.length then Dd else ρ l) o
        rw [if_neg (Nat.ne_of_lt hl)]
        exact (rl.cell l o e).mono ag (fun _ _ h => h) (Nat.le_succ _) rfl
      · have hl2 : l < (S ++ [O.lst xs]).length := (List.getElem?_eq_some_iff.mp e).1
        have : l = S.length := by rw [ls] at hl2; omega
        subst this
        rw [List.getElem?_append_right (Nat.le_refl _)] at e
        simp at e
        subst e
        show RO T _ F _ H (if S.length = S.length then Dd else ρ S.length) _
        rw [if_pos rfl]
        exact ⟨vs, hD, r.mono ag (fun _ _ h => h) (Nat.le_succ _)⟩
    · rw [ls] at hl hm
      by_cases h1 : l = S.length
      · by_cases h2 : m = S.length
        · rw [h1, h2]
        · rw [if_pos h1, if_neg h2] at e
          exact absurd e.symm (nd m (by omega))
      · by_cases h2 : m = S.length
        · rw [if_neg h1, if_pos h2] at e
          exact absurd e (nd l (by omega))
        · rw [if_neg h1, if_neg h2] at e
          exact rl.inj l m (by omega) (by omega) e
    · by_cases hl : l = S.length
      · rw [if_pos hl]; exact fD
      · have hl2 : l < (S ++ [O.lst xs]).length := (List.getElem?_eq_some_iff.mp e).1
        rw [ls] at hl2
        rw [List.getElem?_append_left (by omega)] at e
        rw [if_neg hl]; exact rl.sep l o e hd
    · rw [ls] at hl
      by_cases h2 : l = S.length
      · rw [if_pos h2, hD]; exact fun z => by cases z
      · rw [if_neg h2]; exact rl.there l (by omega)
    · have : RV T.ca (fun l => if l = S.length then Dd else ρ l) F (S ++ [O.lst xs]).length (.ref S.length) (.ref ((fun l => if l = S.length then Dd else ρ l) S.length)) := .ref (by simp)
      simpa using this
end
/-! ### what is walked -/
section
variable {T : Tb} {g : Gt} {call : Call} {G : Gs} {N : List Str} {W : WX} {X : Cx} {sc : Scope}
theorem items1_ok {x : D} {S S2 : Store} {xk : List D × Chk} (h : items1 x S = .ok xk S2) : S2 = S ∧ xk.2.ok S = true := by
  unfold items1 at h
  split at h
  · split at h
    · rename_i e
      cases h
      exact ⟨rfl, by simp [Chk.ok, e]⟩
    · cases h
  · split at h
    · cases h
      exact ⟨rfl, rfl⟩
    · cases h
theorem items1_exc {x : D} {S S2 : Store} {c : Nat} {v : D} (h : items1 x S = .exc c v S2) : False := by
  unfold items1 at h
  split at h
  · split at h <;> cases h
  · split at h <;> cases h
theorem pi_seq {a : Cd} {t e : Expr} (ha : PE X e (tE T g call X.K W a)) : PI X t e (tEI T g call X.K W (.seq a)) := by
  refine ⟨fun pins s σ H R I ⟨ρ, F, S, en, rl, re, P⟩ => ?_⟩
  simp only [evI] at P
  refine thn (ha.run pins s σ H (fun v H1 => ∃ ρ1 F1 S1 x, Rel T X.K ρ1 F1 S1 H1 ∧ RV T.ca ρ1 F1 S1.length x v ∧ PostG T X.K (gI T X.K) ρ1 F1 S1 H1 (items1 x S1) R (EW W σ)) I (tE.cut rl re P fun ρ1 F1 S1 x v H1 x1 rl1 re1 r1 P1 => ⟨ρ1, F1, S1, x, rl1, r1, P1⟩)) fun u s1 ⟨v, H1, I1, rx, ρ1, F1, S1, x, rl1, r1, P1⟩ => ?_
  by_cases ht : ∃ ys, x = .tup ys
  · obtain ⟨ys, rfl⟩ := ht
    cases r1 with
    | tup e r =>
    rename_i ad vs
    obtain rfl : u = Value.ref ad := rx
    have hq : SqT X.K H1 ad vs := SqT.of (rl1.sub _ _ e)
    obtain ⟨its, rv, p, hz⟩ := I1.tuple hq
    refine wpAny_pyIter_tuple (show s1.heap.IsTuple ad its.toArray from p) ?_
    refine ⟨s1.heap.objs.size, [s1.heap.objs.size], _, _, H1, rfl, I1.kept (t' := s1.toks) fun b o e => Heap.get?_push_of_some _ e, turn_tuple ad _, ⟨_, Heap.get?_push_size _ rfl, rfl, rfl⟩, fun b hb => ?_, P1.here rl1 (gI_tup e r)⟩
    have e : b = s1.heap.objs.size := by simpa using hb
    subst e
    exact I1.fpOk (Nat.le_refl _) (I1.hok.fresh (Nat.le_refl _))
  · have hi : ∃ xs k, items1 x S1 = .ok (xs, k) S1 := by
      cases q : items1 x S1 with
      | ok xk S2 =>
        obtain ⟨xs, k⟩ := xk
        have : S2 = S1 := by
          unfold items1 at q
          split at q
          · split at q
            · cases q; rfl
            · cases q
          · split at q
            · cases q; rfl
            · cases q
        subst this
        exact ⟨xs, k, rfl⟩
      | exc c v S2 =>
        unfold items1 at q
        split at q
        · split at q <;> cases q
        · split at q <;> cases q
      | stuck => rw [q] at P1; exact P1.elim
    obtain ⟨xs, k, hi⟩ := hi
    rw [hi] at P1
    obtain ⟨ad, rfl, L⟩ := LstAt.of rl1 r1 hi fun ys e => ht ⟨ys, e⟩
    obtain rfl : u = Value.ref ad := rx
    obtain ⟨vs, rvs, uo, hu, hv⟩ := L.at_ ρ1 F1 S1 H1 (fun _ _ => rfl) (fun _ _ h => h) (Nat.le_refl _) rl1 (by
      unfold items1 at hi
      split at hi
      · split at hi
        · rename_i e
          cases hi
          simp [Chk.ok, e]
        · cases hi
      · split at hi
        · cases hi; rfl
        · cases hi)
    obtain ⟨its, rv, p, hz⟩ := I1.list (lstAt_sql hu hv)
    refine wpAny_pyIter_list p.isList ?_
    refine ⟨s1.heap.objs.size, [s1.heap.objs.size], _, _, H1, rfl, I1.kept (t' := s1.toks) fun b o e => Heap.get?_push_of_some _ e, turn_list ad _, ⟨_, Heap.get?_push_size _ rfl, rfl, rfl⟩, fun b hb => ?_, P1.here rl1 L.gI⟩
    have e : b = s1.heap.objs.size := by simpa using hb
    subst e
    exact I1.fpOk (Nat.le_refl _) (I1.hok.fresh (Nat.le_refl _))
theorem pi_strC {a : Cd} {t e : Expr} (ha : PE X e (tE T g call X.K W a)) : PI X t e (tEI T g call X.K W (.str a)) :=
  (pi_str ha).imp fun σ H R ⟨ρ, F, S, en, rl, re, P⟩ => by
    simp only [evI] at P
    refine tE.cut rl re P fun ρ1 F1 S1 x v H1 x1 rl1 re1 r1 P1 => ?_
    split at P1
    · cases r1
      exact ⟨_, rfl, P1.here rl1 (gI_str _)⟩
    · exact P1.elim
theorem pa1 {a : Cd} {e : Expr} (hs : notStar e = true) (ha : PE X e (tE T g call X.K W a)) : PA X [e] (tCons (tE T g call X.K W a) tNil) := pa_cons ha pa_nil (star_cons (by simp [hs]) _)
theorem pa2 {a b : Cd} {e f : Expr} (hs : notStar e = true) (hs2 : notStar f = true) (ha : PE X e (tE T g call X.K W a)) (hb : PE X f (tE T g call X.K W b)) : PA X [e, f] (tCons (tE T g call X.K W a) (tCons (tE T g call X.K W b) tNil)) := pa_cons ha (pa1 hs2 hb) (star_cons (by simp [hs, hs2]) _)
theorem small_of {i : Int} (h : small62 i = true) : -(2 ^ 62) ≤ i ∧ i < 2 ^ 62 := by
  unfold small62 at h
  simpa using h
theorem pi_rng1 {a : Cd} {t e : Expr} {p pos : Pos} (C : CtxE T g call G N W X sc) (hg : globB sc "range" = true) (hs : notStar e = true) (ha : PE X e (tE T g call X.K W a)) : PI X t (.Call (.Name "range" p) [e] [] pos) (tEI T g call X.K W (.rng1 a)) :=
  (pi_range1 (C.glob hg) (C.gf.blt _ (by decide)) (pa1 hs ha) (star_cons (by simp [hs]) _)).imp fun σ H R ⟨ρ, F, S, en, rl, re, P⟩ => by
    simp only [evI] at P
    refine tE.cut rl re P fun ρ1 F1 S1 x v H1 x1 rl1 re1 r1 P1 => ?_
    split at P1
    · rename_i j
      cases r1
      split at P1
      · rename_i hj
        obtain ⟨h1, h2⟩ := small_of hj
        exact ⟨j, rfl, h1, h2, P1.here rl1 (gI_range 0 j.toNat)⟩
      · exact P1.elim
    · exact P1.elim
theorem pi_rng2 {a b : Cd} {t e f : Expr} {p pos : Pos} (C : CtxE T g call G N W X sc) (hg : globB sc "range" = true) (hs : notStar e = true) (hs2 : notStar f = true) (ha : PE X e (tE T g call X.K W a)) (hb : PE X f (tE T g call X.K W b)) : PI X t (.Call (.Name "range" p) [e, f] [] pos) (tEI T g call X.K W (.rng2 a b)) :=
  (pi_range2 (C.glob hg) (C.gf.blt _ (by decide)) (pa2 hs hs2 ha hb) (by rw [star_cons (by simp [hs, hs2]), star_cons (by simp [hs2])]; rfl) (by rw [star_cons (by simp [hs2])]; rfl)).imp fun σ H R ⟨ρ, F, S, en, rl, re, P⟩ => by
    simp only [evI] at P
    refine tE.cut rl re P fun ρ1 F1 S1 x v H1 x1 rl1 re1 r1 P1 => tE.cut rl1 re1 P1 fun ρ2 F2 S2 y u H2 x2 rl2 re2 r2 P2 => ?_
    split at P2
    · rename_i i j
      cases r1
      cases r2
      split at P2
      · rename_i hj
        simp only [Bool.and_eq_true] at hj
        obtain ⟨h1, h2⟩ := small_of hj.1
        obtain ⟨h3, h4⟩ := small_of hj.2
        exact ⟨i, j, rfl, ⟨h1, h2, h3, h4⟩, P2.here rl2 (gI_range i (j - i).toNat)⟩
      · exact P2.elim
    · exact P2.elim
theorem pi_enL {a : Cd} {e : Expr} {es : List Expr} {k : Nat} {p pos tp : Pos} (C : CtxE T g call G N W X sc) (hg : globB sc "enumerate" = true) (hs : notStar e = true) (ha : PE X e (tE T g call X.K W a)) : PI X (.Tuple es k tp) (.Call (.Name "enumerate" p) [e] [] pos) (tEI T g call X.K W (.enL a)) :=
  (pi_enum (C.glob hg) (C.gf.blt _ (by decide)) (pa1 hs ha) (star_cons (by simp [hs]) _)).imp fun σ H R ⟨ρ, F, S, en, rl, re, P⟩ => by
    simp only [evI] at P
    refine tE.cut rl re P fun ρ1 F1 S1 x v H1 x1 rl1 re1 r1 P1 => ?_
    cases hi : items1 x S1 with
    | exc c v S2 =>
      unfold items1 at hi
      split at hi
      · split at hi <;> cases hi
      · split at hi <;> cases hi
    | stuck => rw [hi] at P1; exact P1.elim
    | ok xk S2 =>
      obtain ⟨xs, kk⟩ := xk
      rw [hi, Res.bind_ok] at P1
      have e2 : S2 = S1 := by
        unfold items1 at hi
        split at hi
        · split at hi
          · cases hi; rfl
          · cases hi
        · split at hi
          · cases hi; rfl
          · cases hi
      subst e2
      split at P1
      · exact P1.elim
      · rename_i hne
        obtain ⟨ad, rfl, L⟩ := LstAt.of rl1 r1 hi fun ys e => hne ys e
        obtain ⟨vs, rvs, uo, hu, hv⟩ := L.at_ ρ1 F1 S2 H1 (fun _ _ => rfl) (fun _ _ h => h) (Nat.le_refl _) rl1 (by
          unfold items1 at hi
          split at hi
          · split at hi
            · rename_i e
              cases hi
              simp [Chk.ok, e]
            · cases hi
          · split at hi
            · cases hi; rfl
            · cases hi)
        exact ⟨ad, vs, rfl, lstAt_sql hu hv, P1.here rl1 L.enum⟩
theorem pi_enS {a : Cd} {e : Expr} {es : List Expr} {k : Nat} {p pos tp : Pos} (C : CtxE T g call G N W X sc) (hg : globB sc "enumerate" = true) (hs : notStar e = true) (ha : PE X e (tE T g call X.K W a)) : PI X (.Tuple es k tp) (.Call (.Name "enumerate" p) [e] [] pos) (tEI T g call X.K W (.enS a)) :=
  (pi_enumS (C.glob hg) (C.gf.blt _ (by decide)) (pa1 hs ha) (star_cons (by simp [hs]) _)).imp fun σ H R ⟨ρ, F, S, en, rl, re, P⟩ => by
    simp only [evI] at P
    refine tE.cut rl re P fun ρ1 F1 S1 x v H1 x1 rl1 re1 r1 P1 => ?_
    split at P1
    · cases r1
      exact ⟨_, rfl, P1.here rl1 (gI_enumS _)⟩
    · exact P1.elim
theorem pi_zipC {a b : Cd} {e f : Expr} {es : List Expr} {k : Nat} {p pos tp : Pos} (C : CtxE T g call G N W X sc) (hg : globB sc "zip" = true) (hs : notStar e = true) (hs2 : notStar f = true) (ha : PE X e (tE T g call X.K W a)) (hb : PE X f (tE T g call X.K W b)) : PI X (.Tuple es k tp) (.Call (.Name "zip" p) [e, f] [] pos) (tEI T g call X.K W (.zip a b)) :=
  (RZ.pi_zipA (C.glob hg) (C.gf.blt _ (by decide)) (pa2 hs hs2 ha hb) (star_cons (by simp [hs, hs2]) _) (star_pl (by simp [hs2]) _)).imp fun σ H R ⟨ρ, F, S, en, rl, re, P⟩ => by
    simp only [evI] at P
    refine tE.cut rl re P fun ρ1 F1 S1 x v H1 x1 rl1 re1 r1 P1 => tE.cut rl1 re1 P1 fun ρ2 F2 S2 y u H2 x2 rl2 re2 r2 P2 => ?_
    have r1' := x2.rv r1
    split at P2
    · cases r1' with
      | tup e1 q1 =>
      cases r2 with
      | tup e2 q2 =>
      exact ⟨_, _, _, _, rfl, .inr ⟨SqT.of (rl2.sub _ _ e1), SqT.of (rl2.sub _ _ e2), P2.here rl2 (gI_zipT e1 q1 e2 q2)⟩⟩
    · exact P2.elim
    · exact P2.elim
    · rename_i h1 h2 h3
      have n1 : ∀ ys, x ≠ .tup ys := h1
      have n2 : ∀ ys, y ≠ .tup ys := h2
      cases hi : items1 x S2 with
      | exc c v S3 => exact (items1_exc hi).elim
      | stuck => rw [hi] at P2; exact P2.elim
      | ok xk S3 =>
        obtain ⟨xs, kk⟩ := xk
        obtain ⟨e3, ck⟩ := items1_ok hi
        subst e3
        rw [hi, Res.bind_ok] at P2
        cases hj : items1 y S3 with
        | exc c v S4 => exact (items1_exc hj).elim
        | stuck => rw [hj] at P2; exact P2.elim
        | ok yk S4 =>
          obtain ⟨ys, jj⟩ := yk
          obtain ⟨e4, cj⟩ := items1_ok hj
          subst e4
          rw [hj, Res.bind_ok] at P2
          obtain ⟨ad, rfl, L⟩ := LstAt.of rl2 r1' hi n1
          obtain ⟨bd, rfl, M⟩ := LstAt.of rl2 r2 hj n2
          obtain ⟨vs, rvs, uo, hu, hv⟩ := L.at_ ρ2 F2 S4 H2 (fun _ _ => rfl) (fun _ _ h => h) (Nat.le_refl _) rl2 ck
          obtain ⟨vs', rvs', uo', hu', hv'⟩ := M.at_ ρ2 F2 S4 H2 (fun _ _ => rfl) (fun _ _ h => h) (Nat.le_refl _) rl2 cj
          exact ⟨ad, bd, vs, vs', rfl, .inl ⟨lstAt_sql hu hv, lstAt_sql hu' hv', P2.here rl2 (gI_zip L M)⟩⟩
end
end Mp
end
section
set_option maxHeartbeats 1000000
namespace Mp
open PySem L2 PyProof.Rows
section
variable {T : Tb} {g : Gt} {call : Call} {G : Gs} {N : List Str} {W : WX} {X : Cx} {sc : Scope}
/-! ### x[::-1] -/
theorem rev_str (t : List Nat) : (⟨((Builtin.Str.strSliceIndices none none (-1) (sOf t).length).filterMap ((sOf t).cps[·]?)).toArray⟩ : Str) = sOf t.reverse := by
  have h : Builtin.Str.strSliceIndices none none (-1) (sOf t).length = (List.range (sOf t).cps.size).reverse := by
    show sliceRange (((sOf t).cps.size : Int) - 1) (-1) (-1) = _
    rw [PySem.W.krv_sliceRange, PySem.W.krv_range]
  rw [h, List.filterMap_reverse, PySem.W.krv_all]
  rfl
theorem po_minus1 {e : Expr} (h : minus1 e = true) : PO X (some e) (fun σ H Q => Q (some (-1)) H) := by
  unfold minus1 at h
  split at h
  · refine (po_some (pe_sub pe_int pe_int)).imp fun σ H Q q => ?_
    exact ⟨0, 1, rfl, rfl, _, rfl, q⟩
  · refine (po_some (pe_un un_neg pe_int)).imp fun σ H Q q => ?_
    exact ⟨1, rfl, _, rfl, q⟩
  · cases h
theorem se_rev {m : Bool} {a : Cd} {x st : Expr} {p p2 : Pos} (ha : SE T g call W X x a) (hm : minus1 st = true) : SE T g call W X (.Subscript x (.Slice none none (some st) p2) p) (.rev m a) := by
  refine .plain ⟨fun pins s σ H Q I ⟨ρ, F, S, en, rl, re, P⟩ => ?_⟩ rfl
  simp only [evE] at P
  refine Subscript_ (thn (ha.pe.run pins s σ H (fun v H1 => ∃ ρ1 F1 S1 x, Rel T X.K ρ1 F1 S1 H1 ∧ RV T.ca ρ1 F1 S1.length x v ∧ PostG T X.K (gV T) ρ1 F1 S1 H1 (revop m x S1) Q (EW W σ)) I (tE.cut rl re P fun ρ1 F1 S1 x v H1 x1 rl1 re1 r1 P1 => ⟨ρ1, F1, S1, x, rl1, r1, P1⟩)) fun v s1 ⟨xv, H1, I1, rx, ρ1, F1, S1, x, rl1, r1, P1⟩ => ?_)
  refine wpAny_Slice (thn (po_none.run pins s1 σ H1 (fun o H2 => o = none ∧ H2 = H1) I1 ⟨rfl, rfl⟩) fun vl s2 ⟨l, H2, I2, pl, el, e2⟩ => ?_)
  subst el e2
  refine thn (po_none.run pins s2 σ H2 (fun o H3 => o = none ∧ H3 = H2) I2 ⟨rfl, rfl⟩) fun vu s3 ⟨u, H3, I3, pu, eu, e3⟩ => ?_
  subst eu e3
  refine thn ((po_minus1 hm).run pins s3 σ H3 (fun o H4 => o = some (-1) ∧ H4 = H3) I3 ⟨rfl, rfl⟩) fun vs s4 ⟨o, H4, I4, ps, eo, e4⟩ => ?_
  subst eo e4
  have I5 : L2.Inv X pins σ H4 { s4 with heap := s4.heap.push { cls := .type "slice", data := .fields #[vl, vu, vs] } } := I4.kept (t' := s4.toks) fun b ob q => Heap.get?_push_of_some _ q
  unfold revop at P1
  split at P1
  · rename_i t
    cases r1
    split at P1
    · rename_i hl
      obtain ⟨tk, rfl⟩ := rx
      obtain ⟨l', rfl, hl'⟩ := IsPart.raw pl
      obtain ⟨u', rfl, hu'⟩ := IsPart.raw pu
      obtain ⟨st', rfl, hst'⟩ := IsPart.raw ps
      refine tail_any (ops := [.str (sOf t) tk, .ref s4.heap.objs.size]) (typeIs_str _ _ _) PySem.F.slot_str_getitem.lookup ?_ (by rfl)
      refine wpAny_getItem_str_slice (l := l') (u := u') (st := st') (Heap.IsSliceOf.new _ _ _ _) (by rw [hst']; rfl) ?_
      have e1 : sliceMade (sOf t) tk l' u' st' = .str (sOf t.reverse) := by
        unfold sliceMade
        rw [hst', if_neg (by simp)]
        congr 1
        unfold slicePicked
        rw [hst', hl', hu']
        exact rev_str t
      rw [e1]
      exact ⟨by rw [sOf_len, List.length_reverse]; exact hl, .str _, H4, I5.tok _, ⟨_, rfl⟩, P1.here rl1 (.str _)⟩
    · exact P1.elim
  · exact P1.elim
  · split at P1
    · rename_i xs e
      obtain ⟨a, zs, rfl, hx, rk⟩ := rl1.asL r1 e
      cases rx
      obtain ⟨its, r, ht, hz⟩ := I5.list hx
      have hlen := r.length
      refine tail_any (ops := [.ref a, .ref s4.heap.objs.size]) ht.isList.typeIs (PySem.slot_list_getitem.lookup) ?_ (by rfl)
      refine wpAny_getItem_list_slice ht.isList (Heap.IsSliceOf.new _ vl vu vs) pl pu ps (by decide) ?_ (by rw [List.size_toArray]; omega)
      rw [PySem.W.krv_pick]
      refine ⟨.ref _, _, I5.laid (t' := s4.toks) (o := .lst zs.reverse) (fun b ob q => Heap.get?_push_of_some _ q) (Nat.le_refl _) ?_, rfl, alloc_ok rl1 rk.reverse P1 (I5.hok.fresh (Nat.le_refl _))⟩
      exact ⟨by rw [List.length_reverse]; exact hz, _, 0, r.reverse, Heap.get?_push_size _ rfl⟩
    · exact P1.elim
/-! ### ranges -/
theorem rsz_eq (a b c : Int) : Builtin.Range.rangeSize a b c = (rszC a b c : Nat) := rangeSize_toNat a b c
theorem small_c {a b c : Int} (h1 : small62 a = true) (h2 : small62 b = true) (hc : c.natAbs < 1073741824) (h3 : small62 (rszC a b c) = true) (h4 : small62 (a + (rszC a b c : Nat) * c) = true) : Builtin.Range.small a b c = true := by
  have e := rsz_eq a b c
  unfold small62 at h1 h2 h3 h4
  simp only [Bool.and_eq_true, decide_eq_true_eq] at h1 h2 h3 h4
  unfold Builtin.Range.small
  rw [e]
  simp only [Builtin.Range.rangeFitsLong, Bool.and_eq_true, Bool.or_eq_true, decide_eq_true_eq, beq_iff_eq]
  have hn0 : 0 ≤ ((rszC a b c : Nat) : Int) := Int.natCast_nonneg _
  generalize ((rszC a b c : Nat) : Int) = n at *
  split <;> (simp only [Bool.and_eq_true, decide_eq_true_eq]; omega)
theorem RL.of_rngC {ca ρ : Nat → Addr} {F : Hp} {n : Nat} (lo c : Int) : ∀ k : Nat, RL ca ρ F n (rangeC lo c k) ((List.range k).map fun i => V.int (lo + (i : Nat) * c)) := by
  intro k
  unfold rangeC
  generalize List.range k = l
  induction l with
  | nil => exact .nil
  | cons i r ih => exact .cons (.int _) ih
theorem gI_rngC {K : PySem.W.Frag} {ρ : Nat → Addr} {F : Hp} {n : Nat} (lo c : Int) (k : Nat) : gI T K ρ F n (rangeC lo c k, []) (Itc lo c k) := by
  refine gI_still fun ρ' F' S' H' h1 h2 h3 rl hk => ⟨_, RL.of_rngC lo c k, fun i => ⟨fun hi => by show k ≤ i; simpa using hi, fun v hv => ?_⟩⟩
  rw [List.getElem?_map] at hv
  cases e : (List.range k)[i]? with
  | none => rw [e] at hv; cases hv
  | some j =>
    rw [e] at hv
    cases hv
    obtain ⟨hl, hj⟩ := List.getElem?_eq_some_iff.mp e
    have hji : j = i := by rw [← hj]; simp
    have hik : i < k := by simpa using hl
    refine ⟨hik, fun v' H'' ⟨e1, e2⟩ => ⟨by rw [e2, hji], e1⟩⟩
theorem pi_rng3 {a b c : Cd} {t e f h : Expr} {p pos : Pos} (C : CtxE T g call G N W X sc) (hg : globB sc "range" = true) (hs : notStar e = true) (hs2 : notStar f = true) (hs3 : notStar h = true) (ha : PE X e (tE T g call X.K W a)) (hb : PE X f (tE T g call X.K W b)) (hc : PE X h (tE T g call X.K W c)) : PI X t (.Call (.Name "range" p) [e, f, h] [] pos) (tEI T g call X.K W (.rng3 a b c)) :=
  (pi_range3 (C.glob hg) (C.gf.blt _ (by decide)) (pa_cons ha (pa2 hs2 hs3 hb hc) (star_cons (by simp [hs, hs2, hs3]) _)) (star_cons (by simp [hs, hs2, hs3]) _) (star_pl (by simp [hs2, hs3]) _)).imp fun σ H R ⟨ρ, F, S, en, rl, re, P⟩ => by
    simp only [evI] at P
    refine tE.cut rl re P fun ρ1 F1 S1 x v H1 x1 rl1 re1 r1 P1 => tE.cut rl1 re1 P1 fun ρ2 F2 S2 y u H2 x2 rl2 re2 r2 P2 => tE.cut rl2 re2 P2 fun ρ3 F3 S3 z w H3 x3 rl3 re3 r3 P3 => ?_
    split at P3
    · rename_i lo st n hr
      cases x <;> cases y <;> cases z <;> simp only [rngA] at hr <;> try (cases hr; done)
      rename_i i j k
      split at hr
      · rename_i hq
        cases hr
        cases r1
        cases r2
        cases r3
        exact ⟨_, _, _, _, rfl, ⟨hq.1, hq.2.1, small_c hq.2.2.1 hq.2.2.2.1 hq.2.1 hq.2.2.2.2.1 hq.2.2.2.2.2, rsz_eq _ _ _⟩, P3.here rl3 (gI_rngC _ _ _)⟩
      · cases hr
    · exact P3.elim
theorem rszC1 (a b : Int) : rszC a b 1 = (b - a).toNat := by
  have h1 := rsz_eq a b 1
  have h2 := rangeSize_nat a b
  rw [h2] at h1
  exact (by omega)
theorem vals_rgC {a c : Int} {n : Nat} {acc : Array Value} (h : ItemsOf (fun i v => ∃ t, v = .int (a + i * c) t) acc n) : Vals ((List.range n).map fun i => V.int (a + (i : Nat) * c)) acc.toList := by
  have e : acc.toList.length = n := by rw [Array.length_toList]; exact h.1
  rw [← e]
  refine vals_of_get acc.toList _ fun j u hj => ?_
  obtain ⟨t, rfl⟩ := h.2 j u (by rw [← hj, Array.getElem?_toList])
  exact ⟨t, rfl⟩
theorem se_lrg {m : Bool} {es : Cds} {l : List Expr} {p p1 pos pos1 : Pos} (C : CtxE T g call G N W X sc) (hg : globB sc "list" = true) (hg1 : globB sc "range" = true) (hst : l.all notStar = true) (h3 : l.length ≤ 3) (h1 : 1 ≤ l.length) (hp : PA X l (tEs T g call X.K W es)) : SE T g call W X (.Call (.Name "list" p) [.Call (.Name "range" p1) l [] pos1] [] pos) (.lrg m es) := by
  refine .plain ⟨fun pins s σ H Q I ⟨ρ, F, S, en, rl, re, P⟩ => ?_⟩ rfl
  simp only [evE] at P
  have hm := C.gf.blt
  have fin : ∀ (s1 : Shared) (r : Addr) (a b c : Int) (n : Nat) (t u v : Tok) (ρ1 : Nat → Addr) (F1 : Hp) (S1 : Store) (H1 : Hp), L2.Inv X pins σ H1 s1 → IsRange s1.heap r a b c t u v → Builtin.Range.small a b c = true → Builtin.Range.rangeSize a b c = (n : Int) → Rel T X.K ρ1 F1 S1 H1 →
      PostG T X.K (gV T) ρ1 F1 S1 H1 (if n ≤ lim then alloc m (rangeC a c n) S1 else .stuck) Q (EW W σ) → wpAny (model X.prog X.w) X.A (PySem.call (.type "list") [.ref r]) (EP X pins σ Q) X.xe s1 := fun s1 r a b c n t u v ρ1 F1 S1 H1 I1 hr hsm hsz rl1 P1 => by
    split at P1
    · rename_i hn
      refine call_list_range (n := n) (I1.ok.hd C.calm) hr hsm hsz (by unfold lim at hn; omega) fun h' tk acc c' hk e' hi => ?_
      refine ⟨.ref s1.heap.objs.size, _, I1.laid hk (Nat.le_refl _) (show ObjOk X.prog X.w _ _ _ (.lst ((List.range n).map fun i => V.int (a + (i : Nat) * c))) from ⟨?_, acc.toList, c', vals_rgC hi, ?_⟩), rfl, alloc_ok rl1 (RL.of_rngC a c n) P1 (I1.hok.fresh (Nat.le_refl _))⟩
      · rw [List.length_map, List.length_range]; exact hn
      · rw [Array.toArray_toList]; exact e'
    · exact P1.elim
  have ne1 : notStar (.Call (.Name "range" p1) l [] pos1) = true := rfl
  have na := star_cons (e := .Call (.Name "range" p1) l [] pos1) (l := []) (by rfl) X.env
  refine Call_ (ld_blt I (C.glob hg) (hm _ (by decide)) PyProof.Rows.boot_list (PyProof.Rows.callWith_type1 (args_cons ?_ na) na))
  have arg := hp.run pos1 pins s σ H (fun vs H1 => ∃ ρ1 F1 S1 xs, Rel T X.K ρ1 F1 S1 H1 ∧ RL T.ca ρ1 F1 S1.length xs vs ∧ PostG T X.K (gV T) ρ1 F1 S1 H1 (match rngA xs with
    | some (a, c, n) => if n ≤ lim then alloc m (rangeC a c n) S1 else .stuck
    | none => .stuck) Q (EW W σ)) I (tEs.cut rl re P fun ρ1 F1 S1 x v H1 x1 rl1 re1 r1 P1 => ⟨ρ1, F1, S1, x, rl1, r1, P1⟩)
  obtain ⟨e0, es0, rfl⟩ : ∃ e0 es0, l = e0 :: es0 := by
    cases l with
    | nil => simp at h1
    | cons a b => exact ⟨a, b, rfl⟩
  have hst' := hst
  simp only [List.all_cons, Bool.and_eq_true] at hst'
  refine Call_ (ld_blt I (C.glob hg1) (hm _ (by decide)) PyProof.Rows.boot_range (PyProof.Rows.callWith_type1 (thn arg fun us s1 ⟨vs, H1, I1, r1, ρ1, F1, S1, xs, rl1, rk, P1⟩ => ?_) (star_cons hst _) (star_pl hst'.2 _)))
  split at P1
  · rename_i a c n hr
    unfold rngA at hr
    split at hr
    · rename_i j
      split at hr
      · rename_i hj
        cases hr
        cases rk with
        | cons q1 q2 =>
        cases q2
        cases q1
        cases r1 with
        | cons u1 u2 =>
        cases u2
        obtain ⟨t, rfl⟩ := u1
        obtain ⟨b1, b2⟩ := small_of hj
        exact call_range_1 (args_nil (fin _ _ 0 j 1 j.toNat _ _ _ ρ1 F1 S1 H1 (I1.kept fun b u e => Heap.get?_push_of_some _ e) (IsRange.new _ _ _ _ _ _ _) (small_one (by decide) (by decide) b1 b2) (by rw [rangeSize_nat]; congr 2; omega) rl1 P1))
      · cases hr
    · rename_i i j
      split at hr
      · rename_i hj
        simp only [Bool.and_eq_true] at hj
        cases hr
        cases rk with
        | cons q1 q2 =>
        cases q2 with
        | cons q2 q3 =>
        cases q3
        cases q1
        cases q2
        obtain ⟨u1, u2, rfl, ⟨t, rfl⟩, t', rfl⟩ := vals2 r1
        obtain ⟨b1, b2⟩ := small_of hj.1
        obtain ⟨b3, b4⟩ := small_of hj.2
        exact call_range_2 (args_nil (fin _ _ _ _ 1 _ _ _ _ ρ1 F1 S1 H1 (I1.kept fun b u e => Heap.get?_push_of_some _ e) (IsRange.new _ _ _ _ _ _ _) (small_one b1 b2 b3 b4) (rangeSize_nat _ _) rl1 P1))
      · cases hr
    · rename_i i j k
      split at hr
      · rename_i hq
        cases hr
        cases rk with
        | cons q1 q2 =>
        cases q2 with
        | cons q2 q3 =>
        cases q3 with
        | cons q3 q4 =>
        cases q4
        cases q1
        cases q2
        cases q3
        cases r1 with
        | cons u1 u2 =>
        cases u2 with
        | cons u2 u3 =>
        cases u3 with
        | cons u3 u4 =>
        cases u4
        obtain ⟨t, rfl⟩ := u1
        obtain ⟨t', rfl⟩ := u2
        obtain ⟨t'', rfl⟩ := u3
        exact call_range_3 hq.1 (args_nil (fin _ _ _ _ _ _ _ _ _ ρ1 F1 S1 H1 (I1.kept (t' := s1.toks) fun b u e => Heap.get?_push_of_some _ e) (IsRange.new _ _ _ _ _ _ _) (small_c hq.2.2.1 hq.2.2.2.1 hq.2.1 hq.2.2.2.2.1 hq.2.2.2.2.2) (rsz_eq _ _ _) rl1 P1)) (.inl (PyProof.noPylong_small hq.2.1))
      · cases hr
    · cases hr
  · exact P1.elim
end
end Mp
end
section
set_option maxHeartbeats 1000000
namespace Mp
open PySem L2 PyProof.Rows
/-! ### repr: our text is theirs -/
theorem prt : ∀ c : Nat, 32 ≤ c → c < 127 → Unicode.isPrintable c = true := by
  have h : ∀ c : Fin 127, 32 ≤ c.val → Unicode.isPrintable c.val = true := by decide +kernel
  exact fun c h1 h2 => h ⟨c, h2⟩ h1
theorem repC_ok {q c : Nat} {l : List Nat} (h : repC q c = some l) : Builtin.Str.reprChar q c = l := by
  unfold repC at h
  unfold Builtin.Str.reprChar
  by_cases h1 : c = 92
  · rw [if_pos h1] at h
    cases h
    subst h1
    rw [if_pos (by simp)]
  · rw [if_neg h1] at h
    by_cases h2 : c = q
    · rw [if_pos h2] at h
      cases h
      subst h2
      dsimp only
      rw [if_pos (by simp)]
    · rw [if_neg h2] at h
      dsimp only
      rw [if_neg (by simp [h1, h2])]
      by_cases h3 : c = 10
      · rw [if_pos h3] at h
        cases h
        subst h3
        rfl
      · rw [if_neg h3] at h
        by_cases h4 : c = 9
        · rw [if_pos h4] at h
          cases h
          subst h4
          rfl
        · rw [if_neg h4] at h
          split at h
          · rename_i hc
            cases h
            rw [if_neg (by simp [h3]), if_neg (by simp; omega), if_neg (by simp [h4]), if_pos (prt c hc.1 hc.2)]
          · cases h
theorem repr_fold (q : Nat) : ∀ (s : List Nat) (ls : List (List Nat)) (acc : List Nat), s.mapM (repC q) = some ls → s.foldl (fun out c => out ++ (Builtin.Str.reprChar q c).toArray) acc.toArray = (acc ++ ls.flatten).toArray
  | [], ls, acc, h => by
    simp at h
    subst h
    simp
  | c :: r, ls, acc, h => by
    obtain ⟨y, zs, h1, h2, rfl⟩ := mapM_cons_some h
    rw [List.foldl_cons, repC_ok h1]
    have := repr_fold q r zs (acc ++ y) h2
    rw [show acc.toArray ++ y.toArray = (acc ++ y).toArray by simp, this]
    simp
theorem repS_ok {s r : List Nat} (h : repS s = some r) : reprText (sOf s) = sOf r := by
  unfold repS at h
  have hq : reprQuote (sOf s) = if decide (39 ∈ s) && !decide (34 ∈ s) then 34 else 39 := by
    unfold reprQuote sOf
    simp
  cases e : s.mapM (repC (if decide (39 ∈ s) && !decide (34 ∈ s) then 34 else 39)) with
  | none => simp only [e] at h; cases h
  | some ls =>
    simp only [e, Option.map_some] at h
    cases h
    unfold reprText
    rw [hq]
    generalize (if decide (39 ∈ s) && !decide (34 ∈ s) then 34 else 39) = q at e ⊢
    have e2 : (sOf s).cps.foldl (fun out c => out ++ (Builtin.Str.reprChar q c).toArray) #[q] = ([q] ++ ls.flatten).toArray := by
      rw [← Array.foldl_toList]
      exact repr_fold q s ls [q] e
    rw [e2]
    simp [sOf]
theorem joinS_cons (y t : List Nat) : ∀ ts : List (List Nat), joinS y (t :: ts) = t ++ (ts.map fun t => y ++ t).flatten
  | [] => by simp [joinS]
  | u :: us => by
    show t ++ (y ++ joinS y (u :: us)) = _
    rw [joinS_cons y u us]
    simp
theorem tf_pos : ∀ (ts : List (List Nat)) (k : Nat) (a : List Nat), textFrom (k + 1) (sOf a) (ts.map sOf) = sOf (a ++ (ts.map fun t => [44, 32] ++ t).flatten)
  | [], k, a => by simp [textFrom]
  | t :: ts, k, a => by
    rw [List.map_cons]
    unfold textFrom
    rw [if_pos (Nat.succ_pos k), show ((", " : String) : Str) = sOf [44, 32] from rfl, str_app, str_app, tf_pos ts (k + 1)]
    simp
theorem list_txt (ts : List (List Nat)) : listText (ts.map sOf) = sOf (91 :: (joinS [44, 32] ts ++ [93])) := by
  unfold listText
  cases ts with
  | nil => rfl
  | cons t ts =>
    rw [List.map_cons]
    unfold textFrom
    rw [if_neg (Nat.lt_irrefl 0), show ((("[" : String) : Str) ++ (("" : String) : Str)) = sOf [91] from rfl, str_app, tf_pos, show (("]" : String) : Str) = sOf [93] from rfl, str_app, joinS_cons]
    simp
theorem strjoin : ∀ ts : List (List Nat), Str.join ", " (ts.map sOf) = sOf (joinS [44, 32] ts)
  | [] => rfl
  | [t] => rfl
  | t :: u :: us => by
    rw [List.map_cons, List.map_cons]
    show sOf t ++ (", " : Str) ++ Str.join ", " (sOf u :: us.map sOf) = _
    rw [← List.map_cons, strjoin (u :: us), show ((", " : String) : Str) = sOf [44, 32] from rfl, str_app, str_app]
    simp [joinS]
theorem tup_txt (ts : List (List Nat)) : tupleText (ts.map sOf) = sOf (40 :: (joinS [44, 32] ts ++ (if ts.length = 1 then [44, 41] else [41]))) := by
  unfold tupleText
  rw [strjoin, List.length_map]
  by_cases h : ts.length = 1
  · rw [if_pos (by simp [h]), if_pos h, show (("(" : String) : Str) = sOf [40] from rfl, show ((",)" : String) : Str) = sOf [44, 41] from rfl, str_app, str_app]
    simp
  · rw [if_neg (by simp [h]), if_neg h, show (("(" : String) : Str) = sOf [40] from rfl, show ((")" : String) : Str) = sOf [41] from rfl, str_app, str_app]
    simp
theorem shownL {n : Nat} (ih : ∀ d r, treeD d = true → repD n d = some r → PyData.shown (toPy d) = sOf r) : ∀ {ds : List D} {rs : List (List Nat)}, treeL ds = true → ds.mapM (repD n) = some rs → PyData.shownAll (toPyL ds) = rs.map sOf
  | [], rs, _, h => by
    simp at h
    subst h
    rfl
  | d :: ds, rs, ht, h => by
    obtain ⟨y, zs, h1, h2, rfl⟩ := mapM_cons_some h
    simp only [treeL, Bool.and_eq_true] at ht
    simp only [toPyL, PyData.shownAll, List.map_cons]
    rw [ih d y ht.1 h1, shownL ih ht.2 h2]
theorem repD_ok : ∀ (n : Nat) (d : D) (r : List Nat), treeD d = true → repD n d = some r → PyData.shown (toPy d) = sOf r
  | 0, _, _, _, h => by simp [repD] at h
  | n + 1, d, r, ht, h => by
    have L := fun {ds : List D} {rs : List (List Nat)} (a : treeL ds = true) b => shownL (repD_ok n) (ds := ds) (rs := rs) a b
    cases d with
    | non => simp only [repD] at h; cases h; rfl
    | bl b => cases b <;> simp only [repD] at h <;> cases h <;> rfl
    | int i =>
      simp only [repD] at h
      cases h
      simp only [toPy, PyData.shown]
      exact strI_eq i
    | str s =>
      simp only [repD] at h
      simp only [toPy, PyData.shown]
      exact repS_ok h
    | lst xs =>
      simp only [repD] at h
      cases e : xs.mapM (repD n) with
      | none => rw [e] at h; cases h
      | some rs =>
        rw [e] at h
        cases h
        simp only [toPy, PyData.shown]
        rw [L (by simpa only [treeD] using ht) e, list_txt]
    | tup xs =>
      have ht' : treeL xs = true := by simpa only [treeD] using ht
      simp only [toPy, PyData.shown]
      have key : ∀ rs, xs.mapM (repD n) = some rs → r = 40 :: (joinS [44, 32] rs ++ (if rs.length = 1 then [44, 41] else [41])) → tupleText (PyData.shownAll (toPyL xs)) = sOf r := fun rs e hr => by
        rw [L ht' e, tup_txt, hr]
      cases xs with
      | nil =>
        simp only [repD] at h
        simp at h
        exact key [] rfl (by rw [← h]; rfl)
      | cons x xs =>
        cases xs with
        | nil =>
          simp only [repD] at h
          cases e : repD n x with
          | none => rw [e] at h; cases h
          | some y =>
            rw [e] at h
            cases h
            exact key [y] (by simp [e]) (by simp [joinS])
        | cons x2 xs =>
          simp only [repD] at h
          cases e : (x :: x2 :: xs).mapM (repD n) with
          | none => rw [e] at h; cases h
          | some rs =>
            rw [e] at h
            cases h
            refine key rs e ?_
            obtain ⟨y, zs, h1, h2, rfl⟩ := mapM_cons_some e
            obtain ⟨y2, zs2, h3, h4, rfl⟩ := mapM_cons_some h2
            rw [if_neg (by simp)]
    | _ => simp [treeD] at ht
mutual
theorem shwD_ok : ∀ d : D, treeD d = true → shwD d = true → (toPy d).showable = true
  | .non, _, _ => rfl
  | .bl _, _, _ => rfl
  | .int i, _, h => by simpa [toPy, PyData.showable, shwD] using h
  | .str _, _, _ => rfl
  | .tup xs, ht, h => by
    simp only [toPy, PyData.showable]
    exact shwL_ok xs (by simpa only [treeD] using ht) (by simpa only [shwD] using h)
  | .lst xs, ht, h => by
    simp only [toPy, PyData.showable]
    exact shwL_ok xs (by simpa only [treeD] using ht) (by simpa only [shwD] using h)
  | .slst _, ht, _ => by simp [treeD] at ht
  | .dct _, ht, _ => by simp [treeD] at ht
  | .exn _ _, ht, _ => by simp [treeD] at ht
  | .bty _, ht, _ => by simp [treeD] at ht
  | .cls _, ht, _ => by simp [treeD] at ht
  | .ref _, ht, _ => by simp [treeD] at ht
theorem shwL_ok : ∀ d : List D, treeL d = true → shwL d = true → PyData.showableAll (toPyL d) = true
  | [], _, _ => rfl
  | x :: xs, ht, h => by
    simp only [treeL, shwL, Bool.and_eq_true] at ht h
    simp only [toPyL, PyData.showableAll, shwD_ok x ht.1 h.1, shwL_ok xs ht.2 h.2, Bool.and_self]
end
mutual
theorem noDict_py : ∀ d : D, (toPy d).hasDict = false
  | .non => rfl
  | .bl _ => rfl
  | .int i => rfl
  | .str _ => rfl
  | .tup xs => by simp only [toPy, PyData.hasDict, noDict_pyL xs]
  | .lst xs => by simp only [toPy, PyData.hasDict, noDict_pyL xs]
  | .slst _ => rfl
  | .dct _ => rfl
  | .exn _ _ => rfl
  | .bty _ => rfl
  | .cls _ => rfl
  | .ref _ => rfl
theorem noDict_pyL : ∀ d : List D, PyData.hasDictAll (toPyL d) = false
  | [] => rfl
  | x :: xs => by simp only [toPyL, PyData.hasDictAll, noDict_py x, noDict_pyL xs, Bool.or_self]
end
theorem repr_ok {T : Tb} {X : Cx} {E : XK} (hg : X.A.guards = some []) (hu : X.A.units + 64 < cLine) : CallR X (.builtin "repr") (rC T X.K E biRepr) := by
  intro pins s σ H xs us Q I rv ⟨ρ, F, S, ds, rl, r, hp⟩
  unfold biRepr at hp
  split at hp
  · cases r with
    | cons r1 r2 =>
    cases r2
    obtain ⟨u, rfl, q1⟩ := vals1 rv
    cases r1 with
    | dct e rk =>
    rename_i a vs
    cases rk
    obtain rfl : u = Value.ref a := q1
    obtain ⟨_, hs, vs2, kv, hd⟩ := (rl.sub _ _ e : Rd H a (.dK [])).ok I.hok
    cases kv
    obtain ⟨o, es, ep, ho, hx, hdt, _, hpr, _⟩ := hd
    have hes : es.toList = [] := by
      cases q : es.toList with
      | nil => rfl
      | cons z zs => rw [q] at hpr; cases hpr
    have rd : Reads s.heap (.ref a) (.dict []) (a :: [] ++ []) := .dict ho hx.1 hdt (by rw [hes]; exact .nil) (by rw [hes]; exact .nil)
    refine PySem.repr_of_reads' rd rfl (fun _ hm => ?_) hg (by show X.A.units + (_ + 1) < cLine; simp [PyData.depth, PyData.depthKv]; omega) (fun _ _ h => h) (fun h' u tk hk => ⟨.str (sOf [123, 125]), H, I.kept hk, ⟨_, rfl⟩, hp.here rl (.str _)⟩) (by decide)
    have : sysModules = a := by simpa using hm
    rw [this] at hs
    simp at hs
  · rename_i x hne
    cases r with
    | cons r1 r2 =>
    cases r2
    obtain ⟨u, rfl, q1⟩ := vals1 rv
    cases e : res S 60 x with
    | none => simp only [e] at hp; exact hp.elim
    | some d =>
      simp only [e] at hp
      cases e2 : repD 60 d with
      | none => simp only [e2] at hp; exact hp.elim
      | some rr =>
        simp only [e2] at hp
        split at hp
        · rename_i hc
          obtain ⟨hl, hw⟩ := hc
          have td := treeD_res _ _ _ e
          have sh := repD_ok 60 d rr td e2
          have t := rl.tree 60 _ _ _ r1 e
          have q : Q (.str (sOf rr)) H := hp.here rl (.str _)
          obtain ⟨as, hr⟩ := Dp.reads I (toPy d) _ u t.dp q1
          have dep := t.dep
          have hsz : (toPy d).shown.length ≤ sizeLine := by
            rw [sh, sOf_len]
            have h2 : (200000 : Nat) ≤ sizeLine := by decide
            omega
          have big : ∀ a, u = Value.ref a → wpAny (model X.prog X.w) X.A (PySem.call (.builtin "repr") [u]) (EP X pins σ Q) X.xe s := fun a ea => by
            subst ea
            exact PySem.repr_of_reads' hr (shwD_ok d td hw) (PyData.noDict_hsm (noDict_py d)) hg (by omega) (fun _ _ h => h) (fun h' u tk hk => ⟨.str (sOf rr), H, I.kept hk, by rw [sh]; exact ⟨_, rfl⟩, q⟩) hsz
          cases d with
          | non =>
            cases hr
            simp only [toPy, PyData.shown] at sh
            exact PySem.P.repr_of_none ⟨.str (sOf rr), H, I.tok _, by rw [← sh]; exact ⟨_, rfl⟩, q⟩
          | bl b =>
            cases hr
            simp only [toPy, PyData.shown] at sh
            exact PySem.P.repr_of_bool ⟨.str (sOf rr), H, I.tok _, by rw [← sh]; exact ⟨_, rfl⟩, q⟩
          | int i =>
            cases hr
            simp only [toPy, PyData.shown] at sh
            exact PySem.P.repr_of_int (by simpa [shwD] using hw) ⟨.str (sOf rr), H, I.tok _, by rw [← sh]; exact ⟨_, rfl⟩, q⟩
          | str x =>
            cases hr
            simp only [toPy, PyData.shown] at sh
            exact PySem.P.repr_of_str ⟨.str (sOf rr), H, I.tok _, by rw [← sh]; exact ⟨_, rfl⟩, q⟩ hsz
          | lst xs => cases hr; exact big _ rfl
          | tup xs => cases hr; exact big _ rfl
          | _ => simp [treeD] at td
        · exact hp.elim
  · exact hp.elim
end Mp
end
section
set_option maxHeartbeats 4000000
namespace Mp
open PySem L2 PyProof.Rows
section
variable {T : Tb} {g : Gt} {call : Call} {G : Gs} {N : List Str} {W : WX} {X : Cx} {sc : Scope}
/-! ### targets -/
def gT (T : Tb) (K : PySem.W.Frag) (t : Tg) : TG := fun v σ H Q => ∃ ρ F S e d e', Rel T K ρ F S H ∧ RE T ρ F (List.length S) e σ ∧ RV T.ca ρ F (List.length S) d v ∧ bindT t d e = some e' ∧ ∀ σ', RE T ρ F (List.length S) e' σ' → (∀ vs : List Nat, (∀ i ∈ t.ixs, i ∈ vs) → L2.wipe σ' vs = L2.wipe σ vs) → Q σ' H
theorem wipe_set {σ : L2.St} {i : Nat} {x : Option V} : ∀ {vs : List Nat}, i ∈ vs → L2.wipe (σ.set i x) vs = L2.wipe σ vs
  | v :: vs, h => by
    unfold L2.wipe
    by_cases e : i ∈ vs
    · rw [wipe_set e]
    · have hv : i = v := by
        rcases List.mem_cons.mp h with h | h
        · exact h
        · exact absurd h e
      subst hv
      have : ∀ (ws : List Nat) (τ : L2.St), i ∉ ws → (L2.wipe (τ.set i x) ws) = (L2.wipe τ ws).set i x := by
        intro ws
        induction ws with
        | nil => intro τ _; rfl
        | cons w r ih =>
          intro τ hn
          simp only [List.mem_cons, not_or] at hn
          unfold L2.wipe
          rw [ih τ hn.2, List.set_comm _ _ (Ne.symm hn.1)]
      rw [this vs σ e, List.set_set]
theorem pg_gT {t : Tg} {e : Expr} (C : CtxE T g call G N W X sc) (h : tgOk N sc t e = true) : PG X e (gT T X.K t) := by
  have one : ∀ {i : Nat} {x : Expr}, tgOk1 N sc i x = true → PG X x (gName i) := fun {i x} h => by
    unfold tgOk1 at h
    split at h
    · simp only [Bool.and_eq_true] at h
      obtain ⟨h1, h2⟩ := h
      obtain ⟨h3, h4⟩ := C.loc h2
      exact pg_name (by rw [C.hN]; exact C.nd) (by rw [C.hN]; simpa using h1) h3 h4
    · cases h
  have oneN : ∀ {i : Nat} {x : Expr}, tgOk1 N sc i x = true → notStar x = true := fun {i x} h => by
    unfold tgOk1 at h
    split at h
    · rfl
    · cases h
  cases t with
  | n i =>
    refine ⟨fun pins s σ H v u Q I r ⟨ρ, F, S, en, d, e', rl, re, rv, hb, q⟩ => (one h).run pins s σ H v u Q I r ?_⟩
    simp only [bindT] at hb
    cases hb
    exact q _ (re.set rv i) fun vs hv => wipe_set (hv i (by simp [Tg.ixs]))
  | ns is =>
    simp only [tgOk] at h
    split at h
    · rename_i es k p
      have pgs : ∀ (is : List Nat) (es : List Expr), tgOks N sc is es = true → PGs X es ((is.map gName).foldr gCons gNil) ∧ is.length = es.length ∧ es.all notStar = true := by
        intro is
        induction is with
        | nil =>
          intro es h
          cases es with
          | nil => exact ⟨pgs_nil, rfl, rfl⟩
          | cons _ _ => simp [tgOks] at h
        | cons i r ih =>
          intro es h
          cases es with
          | nil => simp [tgOks] at h
          | cons e es =>
            simp only [tgOks, Bool.and_eq_true] at h
            obtain ⟨h1, h2, h3⟩ := ih es h.2
            have hn := oneN h.1
            refine ⟨pgs_cons (one h.1) h1 ?_, by simp [h2], by simp [hn, h3]⟩
            cases e <;> first | rfl | (simp [notStar] at hn)
      obtain ⟨p1, p2, p3⟩ := pgs is es h
      have ae : ∀ (l : List Expr), l.all notStar = true → ∀ env, assignEach l env = l.map fun e => (false, assign e env) := by
        intro l
        induction l with
        | nil => intro _ _; rfl
        | cons e r ih =>
          intro h env
          simp only [List.all_cons, Bool.and_eq_true] at h
          rw [List.map_cons, ← ih h.2]
          cases e <;> first | rfl | (simp [notStar] at h)
      have pt := pg_tup (pos := p) (k := k) (n := es.length) C.calm p1 (by rw [ae _ p3, List.length_map]) (by rw [ae _ p3, List.findIdx?_eq_none_iff]; simp)
      refine ⟨fun pins s σ H v u Q I r ⟨ρ, F, S, en, d, e', rl, re, rv, hb, q⟩ => pt.run pins s σ H v u Q I r ?_⟩
      cases d <;> simp only [bindT] at hb <;> try (cases hb; done)
      cases rv with
      | tup e0 r0 =>
      rename_i a vs _
      split at hb
      · rename_i hl
        cases hb
        obtain ⟨σ', k1, k2⟩ := RE.setAll (is := is) re r0
        have hlv : is.length = vs.length := by rw [← r0.length]; exact hl.symm
        refine ⟨a, vs, rfl, SqT.of (rl.sub _ _ e0), by rw [← hlv, p2], k1 Q H hlv (q σ' k2 fun ws hw => ?_)⟩
        have key : ∀ (is : List Nat) (vs : List V) (σ : L2.St) (H : Hp), is.length = vs.length → (∀ i ∈ is, i ∈ ws) → ∀ τ, (is.map gName).foldr gCons gNil vs σ H (fun σ2 _ => σ2 = τ) → L2.wipe τ ws = L2.wipe σ ws := by
          intro is
          induction is with
          | nil =>
            intro vs σ H hl hi τ h
            obtain ⟨_, h⟩ := h
            rw [← h]
          | cons i r ih =>
            intro vs σ H hl hi τ ⟨v, rr, e1, h⟩
            have h' : (r.map gName).foldr gCons gNil rr (σ.set i (some v)) H (fun σ2 _ => σ2 = τ) := h
            subst e1
            rw [ih rr _ H (by simpa using hl) (fun j hj => hi j (List.mem_cons_of_mem _ hj)) τ h', wipe_set (hi i List.mem_cons_self)]
        exact key is vs σ H hlv hw σ' (k1 (fun σ2 _ => σ2 = σ') H hlv rfl)
      · cases hb
    · cases h
/-! ### a comprehension's test -/
def tT (T : Tb) (g : Gt) (call : Call) (K : PySem.W.Frag) (W : WX) (c : Cdo) : TT := fun σ H Q => ∃ ρ F S e, Rel T K ρ F S H ∧ RE T ρ F (List.length S) e σ ∧ PostG T K gB ρ F S H (evT g call c e S) Q (EW W σ)
/-- a block's context -/
def noW : WX := fun _ _ _ _ => False
theorem look_relabel {env : PySem.Env} : ∀ {names : List (Str × NameKind)} {x : Str} {k : NameKind}, names.lookup x = some k →
    (names.map fun (n, k) => if (k == NameKind.free && env.scope.kind == .function && env.kindOf n == some .cell) then (n, NameKind.cell) else (n, k)).lookup x = some k ∨ (k = .free ∧ (names.map fun (n, k) => if (k == NameKind.free && env.scope.kind == .function && env.kindOf n == some .cell) then (n, NameKind.cell) else (n, k)).lookup x = some .cell)
  | [], _, _, h => by simp at h
  | (n, j) :: r, x, k, h => by
    have ih := @look_relabel env r x k
    show List.lookup x ((if (j == NameKind.free && env.scope.kind == .function && env.kindOf n == some .cell) = true then (n, NameKind.cell) else (n, j)) :: _) = _ ∨ (_ ∧ List.lookup x ((if (j == NameKind.free && env.scope.kind == .function && env.kindOf n == some .cell) = true then (n, NameKind.cell) else (n, j)) :: _) = _)
    cases hx : x == n with
    | true =>
      simp only [List.lookup_cons, hx] at h
      cases h
      by_cases hc : (j == NameKind.free && env.scope.kind == .function && env.kindOf n == some .cell) = true
      · rw [if_pos hc]
        simp only [Bool.and_eq_true] at hc
        refine .inr ⟨by simpa using hc.1.1, (by simp only [List.lookup_cons, hx])⟩
      · rw [if_neg hc]
        exact .inl (by simp only [List.lookup_cons, hx])
    | false =>
      simp only [List.lookup_cons, hx] at h
      by_cases hc : (j == NameKind.free && env.scope.kind == .function && env.kindOf n == some .cell) = true
      · rw [if_pos hc]; simp only [List.lookup_cons, hx]; exact ih h
      · rw [if_neg hc]; simp only [List.lookup_cons, hx]; exact ih h
theorem CtxE.blk (C : CtxE T g call G N W X sc) {scope : Scope} (hk : scope.kind = .function) (s : Shared) (H : Hp) (A : Addr) (cl : List (Str × Addr)) (fp : List Addr) : CtxE T g call G N noW (X.blk s H scope (compEnvC scope cl A X.env) fp) scope where
  calm := C.calm
  hN := C.hN
  nd := C.nd
  kd := hk
  scq := fun x k h => look_relabel (env := X.env) (names := scope.names) h
  fn := fun x h => by show (scope.names.lookup x == some .cell) = true; rw [h]; rfl
  gd := C.gd
  lv := C.lv
  gf := C.gf
  tk := fun u s' ⟨_, _, _, _, _, _, _, _, _, _, _, _, _, _, _, _, w⟩ => w.elim
theorem fold_of {e : Expr} (h : notSet e = true) (env : PySem.Env) (x : Value) : foldedSetIterable e env x = pure x := by
  cases e <;> first | rfl | (simp [notSet] at h)
theorem blk_of (C : CtxE T g call G N W X sc) {scope : Scope} {own : List (Str × Nat)} (h : blkC N sc scope own = true) : BlkOk X.N X.env.scope scope own := by
  have B := blkOk_by h
  rw [C.hN]
  refine ⟨B.kind, B.uniq, B.ix, fun y hy hf => ?_, B.own⟩
  rcases B.free y hy hf with q | q
  · rcases C.scq _ _ q with q | ⟨z, _⟩
    · exact .inl q
    · cases z
  · rcases C.scq _ _ q with q | ⟨_, q⟩
    · exact .inr q
    · exact .inl q
/-- one turn of a comprehension, ours -/
def turnF (g : Gt) (call : Call) (elt : Cd) (tg : Tg) (ifs : Cdo) (own : List Nat) (e : Env) : D → Store → Res (Option D) := fun x S => match bindT tg x (Mp.wipe e own) with
  | none => .stuck
  | some e' => (evT g call ifs e' S).bind fun b S => if b then (evE g call elt e' S).bind fun d S => .ok (some d) S else .ok none S
theorem comp_core {K : PySem.W.Frag} {m : Bool} {elt : Cd} {tg : Tg} {ifs : Cdo} {own : List Nat} (hw : ∀ i ∈ tg.ixs, i ∈ own) {σ : L2.St} {H1 : Hp} {Q : VK} {E : XK} {J : L2.It} {xs : List D} {k : Chk} {e : Env} {ρ1 : Nat → Addr} {F1 : Hp} {S1 : Store}
    (rl1 : Rel T K ρ1 F1 S1 H1) (re1 : RE T ρ1 F1 S1.length e σ)
    (gi : ∀ ρ' F' S' H', Ext ρ1 F1 S1 H1 ρ' F' S' H' → Rel T K ρ' F' S' H' → k.ok S' = true → ∀ i : Nat,
      (xs.length ≤ i → J.stop i H') ∧ ∀ x, xs[i]? = some x → J.go i H' ∧ ∀ v H'', J.yld i H' v H'' → ∃ F'', Rel T K ρ' F'' S' H'' ∧ Ext ρ' F' S' H' ρ' F'' S' H'' ∧ RV T.ca ρ' F'' (List.length S') x v)
    (P1' : PostG T K (gV T) ρ1 F1 S1 H1 ((compL k (turnF g call elt tg ifs own e) xs [] S1).bind fun ys S => alloc m ys S) Q E) (Dd : Addr) (hD : H1 Dd = none) :
    ∃ Wi : Nat → Nat → Hp → Prop, (∃ m, Wi 0 m (upd H1 Dd (.lst []))) ∧ ∀ i m H, Wi i m H →
      (J.stop i H ∧ Q (.ref Dd) H) ∨ (J.go i H ∧ ∃ Nx : Hp → Prop, (∀ H', Nx H' → ∃ m', m' < m ∧ Wi (i + 1) m' H') ∧ ∀ x H', J.yld i H x H' → gT T K tg x (L2.wipe σ own) H' fun σ2 H2 => L2.wipe σ2 own = L2.wipe σ own ∧ tT T g call K noW ifs σ2 H2 fun b H3 =>
        if b = true then tE T g call K noW elt σ2 H3 fun y H4 => ∃ acc, H4 Dd = some (.lst acc) ∧ acc.length < sizeLine ∧ Nx (upd H4 Dd (.lst (acc ++ [y]))) else Nx H3) := by
  refine ⟨fun i n H' => n = xs.length - i ∧ i ≤ xs.length ∧ ∃ ρ2 F2 S2 accD accV, Ext ρ1 F1 S1 H1 ρ2 F2 S2 H' ∧ Rel T K ρ2 F2 S2 H' ∧ H' Dd = some (.lst accV) ∧ F2 Dd = none ∧ (∀ l, l < List.length S2 → ρ2 l ≠ Dd) ∧ RL T.ca ρ2 F2 (List.length S2) accD accV ∧
    PostG T K (gV T) ρ1 F1 S1 H1 ((compL k (turnF g call elt tg ifs own e) (xs.drop i) accD S2).bind fun ys S => alloc m ys S) Q E, ?_, ?_⟩
  · obtain ⟨rl0, x0, f0, n0⟩ := rl1.extra hD (.lst [])
    exact ⟨_, rfl, Nat.zero_le _, ρ1, F1, S1, [], [], x0, rl0, upd_same, f0, n0, .nil, P1'⟩
  · intro i n H' ⟨hn, hi, ρ2, F2, S2, accD, accV, x2, rl2, hD2, f2, n2, r2, P2⟩
    have GI := gi ρ2 F2 S2 H' x2 rl2
    by_cases hlt : i < xs.length
    · right
      have hdrop : xs.drop i = xs[i] :: xs.drop (i + 1) := List.drop_eq_getElem_cons hlt
      rw [hdrop] at P2
      unfold compL at P2
      by_cases hk : k.ok S2 = true
      · rw [if_pos hk] at P2
        obtain ⟨_, hgo⟩ := GI hk i
        obtain ⟨go, hy⟩ := hgo xs[i] (List.getElem?_eq_getElem hlt)
        refine ⟨go, fun H'' => (xs.length - (i + 1) = xs.length - (i + 1) ∧ i + 1 ≤ xs.length ∧ ∃ ρ2 F2 S2 accD accV, Ext ρ1 F1 S1 H1 ρ2 F2 S2 H'' ∧ Rel T K ρ2 F2 S2 H'' ∧ H'' Dd = some (.lst accV) ∧ F2 Dd = none ∧ (∀ l, l < List.length S2 → ρ2 l ≠ Dd) ∧ RL T.ca ρ2 F2 (List.length S2) accD accV ∧
          PostG T K (gV T) ρ1 F1 S1 H1 ((compL k (turnF g call elt tg ifs own e) (xs.drop (i + 1)) accD S2).bind fun ys S => alloc m ys S) Q E), fun H'' q => ⟨_, by omega, q⟩, fun v H3 hv => ?_⟩
        obtain ⟨F3, rl3, x3, rv3⟩ := hy v H3 hv
        obtain ⟨hD3, f3, n3⟩ := x3.keepD hD2 f2 n2
        unfold turnF at P2
        cases hb : bindT tg xs[i] (Mp.wipe e own) with
        | none => rw [hb] at P2; exact P2.elim
        | some e' =>
          simp only [hb] at P2
          refine ⟨ρ2, F3, S2, Mp.wipe e own, xs[i], e', rl3, (x3.re (x2.re re1)).wipe own, rv3, hb, fun σ2 re3 hwp => ⟨hwp own hw |>.trans ?_, ?_⟩⟩
          · have : ∀ (vs : List Nat) (τ : L2.St), L2.wipe (L2.wipe τ vs) vs = L2.wipe τ vs := by
              intro vs τ
              have key : ∀ (ws us : List Nat) (τ : L2.St), (∀ i ∈ us, i ∈ ws) → L2.wipe (L2.wipe τ us) ws = L2.wipe τ ws := by
                intro ws us
                induction us with
                | nil => intro τ _; rfl
                | cons u r ih =>
                  intro τ hu
                  show L2.wipe ((L2.wipe τ r).set u none) ws = _
                  rw [wipe_set (hu u List.mem_cons_self), ih τ fun j hj => hu j (List.mem_cons_of_mem _ hj)]
              exact key vs vs τ fun _ h => h
            exact this own σ
          · refine ⟨ρ2, F3, S2, e', rl3, re3, ?_⟩
            cases hT : evT g call ifs e' S2 with
            | exc c d S3 => rw [hT] at P2; exact P2.elim
            | stuck => rw [hT] at P2; exact P2.elim
            | ok b S3 =>
              simp only [hT, Res.bind_ok] at P2
              intro ρ4 F4 H4 b' x4 rl4 eb
              cases (show b = b' from eb)
              obtain ⟨hD4, f4, n4⟩ := x4.keepD hD3 f3 n3
              cases b with
              | true =>
                simp only [if_true] at P2 ⊢
                refine ⟨ρ4, F4, S3, e', rl4, x4.re re3, ?_⟩
                cases hE : evE g call elt e' S3 with
                | exc c d S4 => rw [hE] at P2; exact P2.elim
                | stuck => rw [hE] at P2; exact P2.elim
                | ok d S4 =>
                  simp only [hE, Res.bind_ok] at P2
                  intro ρ5 F5 H5 y x5 rl5 r5
                  obtain ⟨hD5, f5, n5⟩ := x5.keepD hD4 f4 n4
                  split at P2
                  · rename_i hlen
                    have xx := ((x2.trans x3).trans x4).trans x5
                    exact ⟨accV, hD5, by rw [← r2.length]; exact hlen, by first | rfl | trivial, hlt, ρ5, F5, S4, accD ++ [d], accV ++ [y], xx.over hD _, rl5.over f5 n5 _, upd_same, f5, n5, (x5.rl (x4.rl (x3.rl r2))).append (.cons r5 .nil), P2⟩
                  · exact P2.elim
              | false =>
                have P2' : PostG T K (gV T) ρ1 F1 S1 H1 ((compL k (turnF g call elt tg ifs own e) (xs.drop (i + 1)) accD S3).bind fun ys S => alloc m ys S) Q E := by
                  have P3 := P2
                  simp only [Bool.false_eq_true, if_false] at P3
                  exact P3
                simp only [Bool.false_eq_true, if_false]
                exact ⟨by first | rfl | trivial, hlt, ρ4, F4, S3, accD, accV, (x2.trans x3).trans x4, rl4, hD4, f4, n4, x4.rl (x3.rl r2), P2'⟩
      · rw [if_neg hk] at P2; exact P2.elim
    · left
      have hie : i = xs.length := by omega
      rw [List.drop_eq_nil_of_le (by omega)] at P2
      unfold compL at P2
      by_cases hk : k.ok S2 = true
      · rw [if_pos hk] at P2
        exact ⟨(GI hk i).1 (by show xs.length ≤ i; omega), alloc_at rl2 r2 x2 P2 hD hD2 f2 n2⟩
      · rw [if_neg hk] at P2; exact P2.elim
theorem comp_key {m : Bool} {elt : Cd} {tg : Tg} {it : It} {ifs : Cdo} {own : List Nat} (hw : ∀ i ∈ tg.ixs, i ∈ own) {σ : L2.St} {H : Hp} {Q : VK} (h : tE T g call X.K W (.comp m elt tg it ifs own) σ H Q) :
    tLc (tEI T g call X.K W it) (gT T X.K tg) (tT T g call X.K noW ifs) (tE T g call X.K noW elt) own σ H Q := by
  obtain ⟨ρ, F, S, e, rl, re, P⟩ := h
  simp only [evE] at P
  refine ⟨ρ, F, S, e, rl, re, PostG.mono (PostG.bind P) fun J H1 ⟨ρ1, F1, S1, xk, x1, rl1, gi, P1⟩ Dd hD => ?_⟩
  obtain ⟨xs, k⟩ := xk
  exact comp_core hw rl1 (x1.re re) (fun ρ' F' S' H' x rl' => gi ρ' F' S' H' x.agree x.subF x.len rl') P1 Dd hD
/-! ### over a dict's keys -/
theorem compL_noexc (k : Chk) (f : D → Store → Res (Option D)) : ∀ (xs acc : List D) (S : Store) (c : Nat) (v : D) (S' : Store), compL k f xs acc S ≠ .exc c v S'
  | [], acc, S, c, v, S', h => by
    unfold compL at h
    split at h <;> cases h
  | x :: xs, acc, S, c, v, S', h => by
    unfold compL at h
    split at h
    · split at h
      · split at h
        · exact compL_noexc k f _ _ _ _ _ _ h
        · cases h
      · exact compL_noexc k f _ _ _ _ _ _ h
      · cases h
    · cases h
theorem alloc_noexc {m : Bool} {xs : List D} {S : Store} {c : Nat} {v : D} {S' : Store} : alloc m xs S ≠ .exc c v S' := by
  unfold alloc
  cases m <;> (intro h; cases h)
theorem PostG.lock {K : PySem.W.Frag} {ρ : Nat → Addr} {F : Hp} {S : Store} {H : Hp} {r : Res D} {Q : VK} {E E' : XK} {d : Addr} {od : Obj} {vs : List (Key × V)} (rl : Rel T K ρ F S H) (P : PostG T K (gV T) ρ F S H r Q E) (hd : H d = some (.dK vs)) (hF : F d = some (.dK vs)) (nx : ∀ c v S', r ≠ .exc c v S') :
    Rel T K ρ F S (upd H d (.frz od (.dK vs))) ∧ PostG T K (gV T) ρ F S (upd H d (.frz od (.dK vs))) r (fun v H' => H' d = some (.frz od (.dK vs)) ∧ Q v (upd H' d (.dK vs))) E' := by
  have nc : ∀ l : Nat, l < S.length → S[l]? ≠ some O.dead → ρ l ≠ d := fun l hl hdd e => by
    have hs : S[l]? = some S[l] := List.getElem?_eq_getElem hl
    have := rl.sep l _ hs (fun z => hdd (by rw [hs, z]))
    rw [e, hF] at this; cases this
  -- a relation stays when the dict at d is locked or let go
  have swap : ∀ {ρ' : Nat → Addr} {F' : Hp} {S' : Store} {H' : Hp} {u : HO}, Rel T K ρ' F' S' H' → F' d = some (.dK vs) → HasU (upd H' d u) d (.dK vs) → Rel T K ρ' F' S' (upd H' d u) := fun {ρ' F' S' H' u} rl' hF' hu => by
    refine ⟨fun a w e => ?_, fun l o e => ?_, rl'.inj, rl'.sep, fun l hl => ?_⟩
    · by_cases ha : a = d
      · subst ha
        rw [hF'] at e
        cases e
        exact hu
      · exact (rl'.sub a w e).upd ha
    · by_cases ho : o = .dead
      · subst ho; trivial
      · have : ρ' l ≠ d := fun z => by
          have := rl'.sep l o e ho
          rw [z, hF'] at this; cases this
        exact (rl'.cell l o e).mono (fun _ _ => rfl) (fun _ _ h => h) (Nat.le_refl _) (upd_ne this)
    · by_cases z : ρ' l = d
      · rw [z, upd_same]; exact fun z => by cases z
      · rw [upd_ne z]; exact rl'.there l hl
  refine ⟨swap rl hF (.inr ⟨od, upd_same⟩), ?_⟩
  cases r with
  | stuck => exact P
  | exc c v S' => exact absurd rfl (nx c v S')
  | ok a S' =>
    intro ρ' F' H' b x rl' rb
    have hd' : H' d = some (.frz od (.dK vs)) := x.frame d _ upd_same nc
    have hF' := x.subF d _ hF
    refine ⟨hd', P ρ' F' _ b ⟨x.len, x.agree, x.subF, fun c o e hn => ?_, x.dead, fun c hc => ?_, fun c hc => ?_, fun l h1 h2 => ?_⟩ (swap rl' hF' (.inl upd_same)) rb⟩
    · by_cases z : c = d
      · subst z; rw [upd_same]; rw [hd] at e; exact e
      · rw [upd_ne z]; exact x.frame c o (by rw [upd_ne z]; exact e) hn
    · by_cases z : c = d
      · subst z; rw [upd_same]; exact fun z => by cases z
      · rw [upd_ne z]; exact x.dom c (by rw [upd_ne z]; exact hc)
    · rcases x.newF c hc with h | h | h
      · exact .inl h
      · by_cases z : c = d
        · subst z; rw [upd_same] at h; cases h
        · rw [upd_ne z] at h; exact .inr (.inl h)
      · exact .inr (.inr h)
    · have := x.newS l h1 h2
      by_cases z : ρ' l = d
      · rw [z, upd_same] at this; cases this
      · rw [upd_ne z] at this; exact this
theorem RK.keys {ca ρ : Nat → Addr} {F : Hp} {n : Nat} : ∀ {ds : List (DK × D)} {vs : List (Key × V)} {i : Nat} {x : D}, RK ca ρ F n ds vs → (ds.map fun kv => dOf kv.1)[i]? = some x → i < vs.length ∧ ∀ k v, vs[i]? = some (k, v) → ∀ {F' : Hp} {n' : Nat}, RV ca ρ F' n' x (kV k)
  | _, _, _, _, .nil, h => by simp at h
  | _, _, 0, x, .cons (k := k) _ _, h => by
    simp at h
    subst h
    refine ⟨by simp, fun k' v' e F' n' => ?_⟩
    simp at e
    rw [← e.1]
    cases k with
    | i n => exact .int n
    | s x => exact .str x
  | _, _, i + 1, x, .cons _ t, h => by
    obtain ⟨h1, h2⟩ := RK.keys (i := i) (x := x) t (by simpa using h)
    exact ⟨by simp; exact h1, fun k v e => h2 k v (by simpa using e)⟩
theorem RK.len {ca ρ : Nat → Addr} {F : Hp} {n : Nat} {ds : List (DK × D)} {vs : List (Key × V)} (r : RK ca ρ F n ds vs) : ds.length = vs.length := r.length
/-- the block over a locked dict's keys -/
theorem keys_lc {m : Bool} {elt : Cd} {tg : Tg} {ifs : Cdo} {own : List Nat} {j : Nat} (hw : ∀ i ∈ tg.ixs, i ∈ own) {σ : L2.St} {H : Hp} {Q : VK} {E : XK} {ρ : Nat → Addr} {F : Hp} {S : Store} {e : Env} {a : Addr} {od : Obj} {kvs : List (DK × D)} {vs : List (Key × V)}
    (rl : Rel T X.K ρ F S H) (re : RE T ρ F S.length e σ) (hs : σ[j]? = some (some (.ref a))) (ha : H a = some (.frz od (.dK vs))) (nc : ∀ l : Nat, l < S.length → S[l]? ≠ some O.dead → ρ l ≠ a) (rk : RK T.ca ρ F S.length kvs vs)
    (P : PostG T X.K (gV T) ρ F S H ((compL [] (turnF g call elt tg ifs own e) (kvs.map fun kv => dOf kv.1) [] S).bind fun ys S => alloc m ys S) Q E) :
    tLc (iKeys (tVar j)) (gT T X.K tg) (tT T g call X.K noW ifs) (tE T g call X.K noW elt) own σ H Q := by
  refine ⟨.ref a, hs, a, od, rfl, .inl ⟨vs, ha, fun Dd hD => comp_core hw rl re (fun ρ' F' S' H' x rl' hk i => ?_) P Dd hD⟩⟩
  have ha' : H' a = some (.frz od (.dK vs)) := x.frame a _ ha nc
  refine ⟨fun hi => ⟨ha', by rw [← rk.len]; simpa using hi⟩, fun y hy => ?_⟩
  obtain ⟨h1, h2⟩ := rk.keys hy
  refine ⟨⟨ha', h1⟩, fun v H'' ⟨e1, k, v', e2, e3⟩ => ?_⟩
  subst e1 e3
  have rv : RV T.ca ρ F' S'.length y (kV k) := h2 k v' e2
  refine ⟨F', rl', .refl, ?_⟩
  cases k with
  | inl n => cases rv; exact .int _
  | inr z => cases rv; exact .str _
/-- a comprehension over a dict's keys: the dict is a name's -/
theorem se_compK {m : Bool} {elt : Cd} {tg : Tg} {ifs : Cdo} {own : List Nat} {j : Nat} {el t : Expr} {x : Str} {cs : List Expr} {scope : Scope} {p px : Pos} {tt : TT} {te : TE} {gg : TG} (C : CtxE T g call G N W X sc) (hb : blkC N sc scope (mkOwn N own) = true) (hw : ∀ i ∈ tg.ixs, i ∈ own) (hj : N[j]? = some x) (hv : visB sc x = true) (hd : debB x = true) (hcd : (x == ("__classdict__" : Str)) = false)
    (hB : PE X (.ListComp el [⟨t, .Name x px, cs, 0⟩] scope p) (tLc (iKeys (tVar j)) (gT T X.K tg) (tT T g call X.K noW ifs) (tE T g call X.K noW elt) own)) :
    SE T g call W X (.ListComp el [⟨t, .Name x px, cs, 0⟩] scope p) (.comp m elt tg (.keys (.v j)) ifs own) := by
  refine .plain ⟨fun pins s σ H Q I ⟨ρ, F, S, e, rl, re, P⟩ => ?_⟩ rfl
  simp only [evE, evI] at P
  cases hd : e[j]? with
  | none => rw [hd] at P; exact P.elim
  | some od =>
    cases od with
    | none => rw [hd] at P; exact P.elim
    | some d =>
      rw [hd] at P
      simp only [Res.bind_ok] at P
      obtain ⟨v, hs, rv⟩ := re.at_ j d hd
      cases rv <;> first | (exact P.elim) | skip
      rename_i kvs a vs hF rk
      have P' : PostG T X.K (gV T) ρ F S H ((compL [] (turnF g call elt tg ifs own e) (kvs.map fun kv => dOf kv.1) [] S).bind fun ys S => alloc m ys S) Q (EW W σ) := P
      have nc : ∀ l : Nat, l < S.length → S[l]? ≠ some O.dead → ρ l ≠ a := fun l hl hdd e => by
        have hs : S[l]? = some S[l] := List.getElem?_eq_getElem hl
        have := rl.sep l _ hs (fun z => hdd (by rw [hs, z]))
        rw [e, hF] at this; cases this
      rcases rl.sub _ _ hF with h | ⟨od, h⟩
      · refine (pe_lock hB).run pins s σ H Q I ⟨a, .dK vs, h, trivial, fun od => ?_⟩
        obtain ⟨rl2, P2⟩ := PostG.lock (E' := EAny) (od := od) rl P' h hF (fun c v S' z => by
          cases q : compL [] (turnF g call elt tg ifs own e) (kvs.map fun kv => dOf kv.1) [] S with
          | ok ys S2 => rw [q, Res.bind_ok] at z; exact alloc_noexc z
          | exc c v S2 => exact compL_noexc _ _ _ _ _ _ _ _ q
          | stuck => rw [q] at z; cases z)
        exact keys_lc hw rl2 re hs upd_same nc rk P2
      · exact hB.run pins s σ H Q I (keys_lc hw rl re hs h nc rk P')
/-! ### every expression -/
structure BodyOk (T : Tb) (g : Gt) (call : Call) (G : Gs) (N : List Str) (scope : Scope) (K : PySem.W.Frag) (elt : Cd) (tg : Tg) (ifs : Cdo) (el t : Expr) (cs : List Expr) : Prop where
  tg : ∀ X', X'.K = K → CtxE T g call G N noW X' scope → PG X' t (gT T K tg)
  ifs : ∀ X', X'.K = K → CtxE T g call G N noW X' scope → PTs X' cs (tT T g call K noW ifs)
  elt : ∀ X', X'.K = K → CtxE T g call G N noW X' scope → PE X' el (tE T g call K noW elt)
theorem own_map (N : List Str) (own : List Nat) : (mkOwn N own).map (·.2) = own := by
  unfold mkOwn
  rw [List.map_map]
  induction own with
  | nil => rfl
  | cons i r ih => rw [List.map_cons, ih]; rfl
theorem se_comp {m : Bool} {elt : Cd} {tg : Tg} {it : It} {ifs : Cdo} {own : List Nat} {el t itx : Expr} {cs : List Expr} {scope : Scope} {p : Pos} (C : CtxE T g call G N W X sc) (hb : blkC N sc scope (mkOwn N own) = true) (hw : ∀ i ∈ tg.ixs, i ∈ own) (hi : PI X t itx (tEI T g call X.K W it)) (hs : notSet itx = true) (B : BodyOk T g call G N scope X.K elt tg ifs el t cs) :
    SE T g call W X (.ListComp el [⟨t, itx, cs, 0⟩] scope p) (.comp m elt tg it ifs own) := by
  have hk : scope.kind = .function := (blkOk_by hb).kind
  refine .plain ((pe_lc (own := mkOwn N own) C.calm (by rw [C.hN]; exact C.nd) hi (blk_of C hb) (fun s H A cl fp => B.tg _ rfl (C.blk hk s H A cl fp)) (fun s H A cl fp => B.ifs _ rfl (C.blk hk s H A cl fp)) (fun s H A cl fp => B.elt _ rfl (C.blk hk s H A cl fp)) (fun x => fold_of hs _ x)).imp fun σ H Q h => ?_) rfl
  rw [own_map]
  exact comp_key hw h
theorem pts_no : PTs X [] (tT T g call X.K W .no) := ⟨fun pins s σ H Q I ⟨ρ, F, S, e, rl, re, P⟩ => pts_nil.run pins s σ H Q I (by
  simp only [evT] at P
  exact P.here rl rfl)⟩
theorem pts_so {a : Cd} {c : Expr} (h : PT X c (tTt T g call X.K W a)) : PTs X [c] (tT T g call X.K W (.so a)) := ⟨fun pins s σ H Q I ⟨ρ, F, S, e, rl, re, P⟩ => (pts_one h).run pins s σ H Q I ⟨ρ, F, S, e, rl, re, by simpa only [evT] using P⟩⟩
mutual
theorem sndE : ∀ (c : Cd) (sc : Scope) (e : Expr), okE G N c sc e = true → ∀ (W : WX) (X : Cx), CtxE T g call G N W X sc → SE T g call W X e c
  | .c d, sc, e, h, W, X, C => se_c C h
  | .v i, sc, e, h, W, X, C => se_v C h
  | .bin m op a b, sc, e, h, W, X, C => by
    unfold okE at h
    split at h
    · simp only [Bool.and_eq_true, decide_eq_true_eq] at h
      obtain ⟨⟨h1, h2⟩, h3⟩ := h
      subst h1
      exact se_bin (sndE a sc _ h2 W X C) (sndE b sc _ h3 W X C)
    · cases h
  | .neg a, sc, e, h, W, X, C => by
    unfold okE at h
    split at h
    · exact se_neg (sndE a sc _ h W X C)
    · cases h
  | .not_ a, sc, e, h, W, X, C => by
    unfold okE at h
    split at h
    · simp only [Bool.and_eq_true] at h
      exact se_not (sndE a sc _ h.1 W X C) h.2
    · cases h
  | .and_ a b, sc, e, h, W, X, C => by
    unfold okE at h
    split at h
    · rename_i x y rest p
      simp only [Bool.and_eq_true] at h
      obtain ⟨⟨h1, h2⟩, h3⟩ := h
      cases rest with
      | nil =>
        simp only [Bool.and_eq_true] at h3
        have s := sndE b sc y h3.1 W X C
        exact se_and (sndE a sc _ h1 W X C) h2 (pe_one s.pe) (pw_and1 (s.pt h3.2))
      | cons z r =>
        have s := sndE b sc _ h3 W X C
        exact se_and (sndE a sc _ h1 W X C) h2 s.pe (s.pw _ _ _ rfl)
    · cases h
  | .or_ a b, sc, e, h, W, X, C => by
    unfold okE at h
    split at h
    · rename_i x y rest p
      simp only [Bool.and_eq_true] at h
      obtain ⟨⟨h1, h2⟩, h3⟩ := h
      cases rest with
      | nil =>
        simp only [Bool.and_eq_true] at h3
        have s := sndE b sc y h3.1 W X C
        exact se_or (sndE a sc _ h1 W X C) h2 (pe_one s.pe) (pw_or1 (s.pt h3.2))
      | cons z r =>
        have s := sndE b sc _ h3 W X C
        exact se_or (sndE a sc _ h1 W X C) h2 s.pe (s.pw _ _ _ rfl)
    · cases h
  | .ite c a b, sc, e, h, W, X, C => by
    unfold okE at h
    split at h
    · simp only [Bool.and_eq_true] at h
      obtain ⟨⟨⟨h1, h2⟩, h3⟩, h4⟩ := h
      exact se_ite (sndE c sc _ h1 W X C) h2 (sndE a sc _ h3 W X C) (sndE b sc _ h4 W X C)
    · cases h
  | .cmp op a b, sc, e, h, W, X, C => by
    unfold okE at h
    split at h
    · simp only [Bool.and_eq_true, decide_eq_true_eq] at h
      obtain ⟨⟨⟨h1, h2⟩, h3⟩, h4⟩ := h
      subst h1
      exact se_cmp C.un (sndE a sc _ h3 W X C) (sndE b sc _ h4 W X C) h2
    · cases h
  | .chain op op' a b c, sc, e, h, W, X, C => by
    unfold okE at h
    split at h
    · simp only [Bool.and_eq_true, decide_eq_true_eq] at h
      obtain ⟨⟨⟨⟨⟨h1, h2⟩, h3⟩, h4⟩, h5⟩, h6⟩ := h
      subst h1 h2
      exact se_chain C.un (sndE a sc _ h4 W X C) (sndE b sc _ h5 W X C) (sndE c sc _ h6 W X C) h3
    · cases h
  | .tup es, sc, e, h, W, X, C => by
    unfold okE at h
    split at h
    · exact se_tup (sndEs es sc _ h W X C).1
    · cases h
  | .lst m es, sc, e, h, W, X, C => by
    unfold okE at h
    split at h
    · exact se_lst (sndEs es sc _ h W X C).1
    · cases h
  | .dct m ks vs, sc, e, h, W, X, C => by
    unfold okE at h
    split at h
    · split at h
      · exact se_dct
      · cases h
    · cases h
  | .call f es dv, sc, e, h, W, X, C => by
    unfold okE at h
    split at h
    · simp only [Bool.and_eq_true] at h
      obtain ⟨⟨⟨h1, h2⟩, h3⟩, h4⟩ := h
      obtain ⟨p1, p2, p3⟩ := sndEs es sc _ h4 W X C
      exact se_call C h1 h2 h3 p2 p1 p3
    · cases h
  | .callk f es ks perm dv, sc, e, h, W, X, C => by
    unfold okE at h
    split at h
    · simp only [Bool.and_eq_true] at h
      obtain ⟨⟨⟨⟨h1, h2⟩, h3⟩, h4⟩, h5⟩ := h
      split at h3
      · rename_i ns hn
        obtain ⟨p1, p2, p3⟩ := sndEs es sc _ h4 W X C
        obtain ⟨q1, q2⟩ := sndKs ks sc _ h5 W X C
        exact se_callk C h1 h2 hn h3 p2 p1 p3 q1 (q2 _ hn)
      · cases h3
    · cases h
  | .bi m b es, sc, e, h, W, X, C => by
    unfold okE at h
    split at h
    · simp only [Bool.and_eq_true, decide_eq_true_eq] at h
      obtain ⟨⟨⟨h1, h2⟩, h3⟩, h4⟩ := h
      subst h1
      obtain ⟨p1, p2, p3⟩ := sndEs es sc _ h4 W X C
      by_cases hr : b = .repr
      · subst hr
        have p2' := p2
        simp only [List.all_cons, Bool.and_eq_true] at p2'
        exact .plain ((pe_callB (repr_ok (T := T) (E := EAny) C.gd C.un) (C.glob h3) (C.gf.blt _ (by decide)) (by decide +kernel) p1 (by decide) (by decide) (star_cons p2 _) (star_pl p2'.2 _)).imp fun σ H Q ⟨ρ, F, S, en, rl, re, P⟩ => by
          simp only [evE] at P
          exact tEs.cut rl re P fun ρ1 F1 S1 xs vs H1 x1 rl1 re1 r1 P1 => ⟨ρ1, F1, S1, xs, rl1, r1, P1.any⟩) rfl
      · exact se_bi C h2 hr h3 p2 p1
    · cases h
  | .mt mm o es, sc, e, h, W, X, C => by
    unfold okE at h
    split at h
    · simp only [Bool.and_eq_true, decide_eq_true_eq] at h
      obtain ⟨⟨⟨⟨⟨⟨h1, h2⟩, h3⟩, h4⟩, h5⟩, h6⟩, h7⟩ := h
      subst h1
      obtain ⟨p1, p2, p3⟩ := sndEs es sc _ h6 W X C
      exact se_mt C h2 (sndE o sc _ h5 W X C) h3 h4 p2 h7 p1 p3
    · cases h
  | .ix a b, sc, e, h, W, X, C => by
    unfold okE at h
    split at h
    · simp only [Bool.and_eq_true] at h
      obtain ⟨⟨h1, h2⟩, h3⟩ := h
      exact se_ix C.un (sndE a sc _ h2 W X C) (sndE b sc _ h3 W X C) h1
    · cases h
  | .sl m a lo hi, sc, e, h, W, X, C => by
    unfold okE at h
    split at h
    · simp only [Bool.and_eq_true] at h
      obtain ⟨⟨h1, h2⟩, h3⟩ := h
      exact se_sl (sndE a sc _ h1 W X C) (sndO lo sc _ h2 W X C) (sndO hi sc _ h3 W X C)
    · cases h
  | .rev m a, sc, e, h, W, X, C => by
    unfold okE at h
    split at h
    · simp only [Bool.and_eq_true] at h
      exact se_rev (sndE a sc _ h.2 W X C) h.1
    · cases h
  | .lrg m es, sc, e, h, W, X, C => by
    unfold okE at h
    split at h
    · simp only [Bool.and_eq_true, decide_eq_true_eq] at h
      obtain ⟨⟨⟨⟨⟨⟨h1, h2⟩, h3⟩, h4⟩, h5⟩, h6⟩, h7⟩ := h
      subst h1 h2
      obtain ⟨p1, p2, p3⟩ := sndEs es sc _ h7 W X C
      exact se_lrg C h3 h4 p2 h5 h6 p1
    · cases h
  | .comp m elt tg it ifs own, sc, e, h, W, X, C => by
    unfold okE at h
    split at h
    · rename_i el t itx cs scope p
      simp only [Bool.and_eq_true] at h
      obtain ⟨⟨⟨⟨⟨⟨h1, h2⟩, h3⟩, h4⟩, h5⟩, h6⟩, h7⟩ := h
      have hw : ∀ i ∈ tg.ixs, i ∈ own := fun i hi => by
        have := List.all_eq_true.mp h3 i hi
        simpa using this
      have B : BodyOk T g call G N scope X.K elt tg ifs el t cs := by
        refine ⟨fun X' hK C' => ?_, fun X' hK C' => ?_, fun X' hK C' => ?_⟩
        · rw [← hK]
          exact pg_gT C' h2
        · rw [← hK]
          cases cs with
          | nil =>
            cases ifs with
            | no => exact pts_no
            | so a => simp at h7
          | cons c r =>
            cases r with
            | nil =>
              simp only [Bool.and_eq_true] at h7
              cases ifs with
              | no => simp [okT] at h7
              | so a => exact pts_so ((sndT (.so a) scope c h7.2 noW X' C' a rfl).pt h7.1)
            | cons _ _ => simp at h7
        · rw [← hK]
          exact (sndE elt scope el h6 noW X' C').pe
      split at h4
      · rename_i j
        split at h4
        · rename_i x px
          simp only [Bool.and_eq_true, decide_eq_true_eq, Bool.not_eq_true'] at h4
          obtain ⟨⟨⟨k1, k2⟩, k3⟩, k4⟩ := h4
          have hk : scope.kind = .function := (blkOk_by h1).kind
          have hB := pe_lc (own := mkOwn N own) (pos := p) C.calm (by rw [C.hN]; exact C.nd) (pi_keys (tg := t) (pe_var (pos := px) (by rw [C.hN]; exact k1) (C.vis k2) (debB_of k3) k4)) (blk_of C h1) (fun s H A cl fp => B.tg _ rfl (C.blk hk s H A cl fp)) (fun s H A cl fp => B.ifs _ rfl (C.blk hk s H A cl fp)) (fun s H A cl fp => B.elt _ rfl (C.blk hk s H A cl fp)) (fun x => fold_of h5 _ x)
          rw [own_map] at hB
          exact se_compK (tt := tYes) (te := tC .non) (gg := gName 0) C h1 hw k1 k2 k3 k4 hB
        · cases h4
      · exact se_comp C h1 hw (sndI it sc t itx h4 W X C) h5 B
    · cases h
  | .fld o f, sc, e, h, W, X, C => by
    unfold okE at h
    split at h
    · simp only [Bool.and_eq_true, decide_eq_true_eq] at h
      obtain ⟨⟨⟨h1, h2⟩, h3⟩, h4⟩ := h
      subst h1 h2
      exact se_fld C (sndE o sc _ h4 W X C) h3
    · cases h
  | .frz a, sc, e, h, W, X, C => by
    unfold okE at h
    simp only [Bool.and_eq_true] at h
    exact se_frz (sndE a sc _ h.2 W X C) h.1
  | .frzd a, sc, e, h, W, X, C => by
    unfold okE at h
    simp only [Bool.and_eq_true] at h
    exact se_frzd (sndE a sc _ h.2 W X C) h.1
  | .bad, sc, e, h, W, X, C => by
    unfold okE at h
    exact se_bad h
theorem sndO : ∀ (c : Cdo) (sc : Scope) (e : Option Expr), okO G N c sc e = true → ∀ (W : WX) (X : Cx), CtxE T g call G N W X sc → PO X e (tEO T g call X.K W c)
  | .no, sc, none, h, W, X, C => po_o_none
  | .so a, sc, some e, h, W, X, C => po_o_some (sndE a sc e (by simpa only [okO] using h) W X C).pe
  | .no, sc, some e, h, W, X, C => by simp [okO] at h
  | .so a, sc, none, h, W, X, C => by simp [okO] at h
theorem sndT : ∀ (c : Cdo) (sc : Scope) (e : Expr), okT G N c sc e = true → ∀ (W : WX) (X : Cx), CtxE T g call G N W X sc → ∀ a, c = .so a → SE T g call W X e a
  | .no, sc, e, h, W, X, C, a, q => by cases q
  | .so a, sc, e, h, W, X, C, b, q => by
    cases q
    exact sndE a sc e (by simpa only [okT] using h) W X C
theorem sndEs : ∀ (c : Cds) (sc : Scope) (e : List Expr), okEs G N c sc e = true → ∀ (W : WX) (X : Cx), CtxE T g call G N W X sc → PA X e (tEs T g call X.K W c) ∧ e.all notStar = true ∧ lenEs c = e.length
  | .nil, sc, [], h, W, X, C => ⟨pa_es_nil, rfl, rfl⟩
  | .cons a r, sc, e :: es, h, W, X, C => by
    simp only [okEs, Bool.and_eq_true] at h
    obtain ⟨⟨h1, h2⟩, h3⟩ := h
    obtain ⟨p1, p2, p3⟩ := sndEs r sc es h3 W X C
    have hst : (e :: es).all notStar = true := by simp [h1, p2]
    exact ⟨pa_es_cons hst (sndE a sc e h2 W X C).pe p1, hst, by simp [lenEs, p3]⟩
  | .nil, sc, _ :: _, h, W, X, C => by simp [okEs] at h
  | .cons _ _, sc, [], h, W, X, C => by simp [okEs] at h
theorem sndKs : ∀ (c : Cds) (sc : Scope) (e : List Keyword), okKs G N c sc e = true → ∀ (W : WX) (X : Cx), CtxE T g call G N W X sc → PK X e (tEs T g call X.K W c) ∧ ∀ ns, kwNames e = some ns → lenEs c = ns.length
  | .nil, sc, [], h, W, X, C => ⟨pk_es_nil, fun ns hn => by cases hn; rfl⟩
  | .cons a r, sc, ⟨nm, e, kp⟩ :: es, h, W, X, C => by
    simp only [okKs, Bool.and_eq_true] at h
    obtain ⟨p1, p2⟩ := sndKs r sc es h.2 W X C
    refine ⟨pk_es_cons (sndE a sc e h.1 W X C).pe p1, fun ns hn => ?_⟩
    cases nm with
    | none => cases hn
    | some k =>
      unfold kwNames at hn
      cases q : kwNames es with
      | none => rw [q] at hn; cases hn
      | some ms =>
        rw [q] at hn
        cases hn
        simp [lenEs, p2 _ q]
  | .nil, sc, _ :: _, h, W, X, C => by simp [okKs] at h
  | .cons _ _, sc, [], h, W, X, C => by simp [okKs] at h
theorem sndI : ∀ (c : It) (sc : Scope) (t e : Expr), okI G N c sc t e = true → ∀ (W : WX) (X : Cx), CtxE T g call G N W X sc → PI X t e (tEI T g call X.K W c)
  | .seq a, sc, t, e, h, W, X, C => pi_seq (sndE a sc e (by simpa only [okI] using h) W X C).pe
  | .str a, sc, t, e, h, W, X, C => pi_strC (sndE a sc e (by simpa only [okI] using h) W X C).pe
  | .rng1 a, sc, t, e, h, W, X, C => by
    unfold okI at h
    split at h
    · simp only [Bool.and_eq_true, decide_eq_true_eq] at h
      obtain ⟨⟨⟨h1, h2⟩, h3⟩, h4⟩ := h
      subst h1
      exact pi_rng1 C h2 h3 (sndE a sc _ h4 W X C).pe
    · cases h
  | .rng2 a b, sc, t, e, h, W, X, C => by
    unfold okI at h
    split at h
    · simp only [Bool.and_eq_true, decide_eq_true_eq] at h
      obtain ⟨⟨⟨⟨⟨h1, h2⟩, h3⟩, h4⟩, h5⟩, h6⟩ := h
      subst h1
      exact pi_rng2 C h2 h3 h4 (sndE a sc _ h5 W X C).pe (sndE b sc _ h6 W X C).pe
    · cases h
  | .rng3 a b c, sc, t, e, h, W, X, C => by
    unfold okI at h
    split at h
    · simp only [Bool.and_eq_true, decide_eq_true_eq] at h
      obtain ⟨⟨⟨⟨⟨⟨⟨h1, h2⟩, h3⟩, h4⟩, h5⟩, h6⟩, h7⟩, h8⟩ := h
      subst h1
      exact pi_rng3 C h2 h3 h4 h5 (sndE a sc _ h6 W X C).pe (sndE b sc _ h7 W X C).pe (sndE c sc _ h8 W X C).pe
    · cases h
  | .enL a, sc, t, e, h, W, X, C => by
    unfold okI at h
    split at h
    · simp only [Bool.and_eq_true, decide_eq_true_eq] at h
      obtain ⟨⟨⟨⟨h0, h1⟩, h2⟩, h3⟩, h4⟩ := h
      subst h1
      cases t <;> first | (simp [isTup] at h0; done) | skip
      exact pi_enL C h2 h3 (sndE a sc _ h4 W X C).pe
    · cases h
  | .enS a, sc, t, e, h, W, X, C => by
    unfold okI at h
    split at h
    · simp only [Bool.and_eq_true, decide_eq_true_eq] at h
      obtain ⟨⟨⟨⟨h0, h1⟩, h2⟩, h3⟩, h4⟩ := h
      subst h1
      cases t <;> first | (simp [isTup] at h0; done) | skip
      exact pi_enS C h2 h3 (sndE a sc _ h4 W X C).pe
    · cases h
  | .zip a b, sc, t, e, h, W, X, C => by
    unfold okI at h
    split at h
    · simp only [Bool.and_eq_true, decide_eq_true_eq] at h
      obtain ⟨⟨⟨⟨⟨⟨h0, h1⟩, h2⟩, h3⟩, h4⟩, h5⟩, h6⟩ := h
      subst h1
      cases t <;> first | (simp [isTup] at h0; done) | skip
      exact pi_zipC C h2 h3 h4 (sndE a sc _ h5 W X C).pe (sndE b sc _ h6 W X C).pe
    · cases h
  | .keys _, sc, t, e, h, W, X, C => by unfold okI at h; cases h
  | .items _, sc, t, e, h, W, X, C => by unfold okI at h; cases h
end
end
end Mp
end
section
set_option maxHeartbeats 4000000
namespace Mp
open PySem L2 PyProof.Rows
/-! ### statements: their readings -/
def PostS (T : Tb) (K : PySem.W.Frag) (W : WX) (ρ : Nat → Addr) (F : Hp) (S : Store) (H : Hp) (r : SR) (D : Ends) : Prop := match r with
  | .nx e S' => ∀ ρ' F' H' σ', Ext ρ F S H ρ' F' S' H' → Rel T K ρ' F' S' H' → RE T ρ' F' S'.length e σ' → D.nx σ' H'
  | .bk e S' => ∀ ρ' F' H' σ', Ext ρ F S H ρ' F' S' H' → Rel T K ρ' F' S' H' → RE T ρ' F' S'.length e σ' → D.bk σ' H'
  | .ct e S' => ∀ ρ' F' H' σ', Ext ρ F S H ρ' F' S' H' → Rel T K ρ' F' S' H' → RE T ρ' F' S'.length e σ' → D.ct σ' H'
  | .rt d S' => ∀ ρ' F' H' v, Ext ρ F S H ρ' F' S' H' → Rel T K ρ' F' S' H' → RV T.ca ρ' F' S'.length d v → D.rt v H'
  | .exc c d e S' => ∀ ρ' F' H' σ' dx v, Ext ρ F S H ρ' F' S' H' → Rel T K ρ' F' S' H' → RE T ρ' F' S'.length e σ' → RV T.ca ρ' F' S'.length d v → F' dx = some (.xd [(("value" : Str), v)]) → W (.ref (T.ca c)) (some dx) σ' H'
  | .stuck => False
section
variable {T : Tb} {g : Gt} {call : Call} {G : Gs} {N : List Str} {W : WX} {X : Cx} {sc : Scope} {K : PySem.W.Frag} {ρ ρ1 : Nat → Addr} {F F1 : Hp} {S S1 : Store} {H H1 : Hp} {En : Ends}
theorem PostS.ext {r : SR} (x : Ext ρ F S H ρ1 F1 S1 H1) (h : PostS T K W ρ F S H r En) : PostS T K W ρ1 F1 S1 H1 r En := by
  cases r with
  | nx e S' => exact fun ρ' F' H' σ' e => h ρ' F' H' σ' (x.trans e)
  | bk e S' => exact fun ρ' F' H' σ' e => h ρ' F' H' σ' (x.trans e)
  | ct e S' => exact fun ρ' F' H' σ' e => h ρ' F' H' σ' (x.trans e)
  | rt d S' => exact fun ρ' F' H' v e => h ρ' F' H' v (x.trans e)
  | exc c d e S' => exact fun ρ' F' H' σ' dx v e => h ρ' F' H' σ' dx v (x.trans e)
  | stuck => exact h
theorem PostS.elim {α : Prop} (h : PostS T K W ρ F S H .stuck En) : α := False.elim h
theorem PostS.here {e : Env} {σ : L2.St} (h : PostS T K W ρ F S H (.nx e S) En) (rl : Rel T K ρ F S H) (re : RE T ρ F S.length e σ) : En.nx σ H := h ρ F H σ .refl rl re
def tSm (T : Tb) (g : Gt) (call : Call) (K : PySem.W.Frag) (W : WX) (c : Sm) : TS := fun D σ H => ∃ ρ F S e, Rel T K ρ F S H ∧ RE T ρ F S.length e σ ∧ PostS T K W ρ F S H (evS g call c e S) D
def tSs (T : Tb) (g : Gt) (call : Call) (K : PySem.W.Frag) (W : WX) (c : Sms) : TS := fun D σ H => ∃ ρ F S e, Rel T K ρ F S H ∧ RE T ρ F S.length e σ ∧ PostS T K W ρ F S H (evSs g call c e S) D
/-- from an expression's end to a statement's -/
def ofRes {α : Type} (r : Res α) (e : Env) (k : α → Store → SR) : SR := match r with
  | .ok a S => k a S
  | .exc c v S => .exc c v e S
  | .stuck => .stuck
theorem PostS.bind {α β : Type} {R : RG α β} {r : Res α} {e : Env} {σ : L2.St} {k : α → Store → SR} (re : RE T ρ F S.length e σ) (h : PostS T K W ρ F S H (ofRes r e k) En) :
    PostG T K R ρ F S H r (fun b H1 => ∃ ρ1 F1 S1 a, r = .ok a S1 ∧ Ext ρ F S H ρ1 F1 S1 H1 ∧ Rel T K ρ1 F1 S1 H1 ∧ R ρ1 F1 S1.length a b ∧ PostS T K W ρ1 F1 S1 H1 (k a S1) En) (EW W σ) := by
  cases r with
  | ok a S' => exact fun ρ' F' H' b x rl rb => ⟨ρ', F', S', a, rfl, x, rl, rb, PostS.ext x h⟩
  | exc c d S' => exact fun ρ' F' H' dx v x rl rv hd => h ρ' F' H' σ dx v x rl (x.re re) rv hd
  | stuck => exact h
theorem tE.run {c : Cd} {σ : L2.St} {e : Env} {k : D → Store → SR} {Q : VK} {Dd : Ends} (rl : Rel T K ρ F S H) (re : RE T ρ F S.length e σ) (P : PostS T K W ρ F S H (ofRes (evE g call c e S) e k) Dd)
    (h : ∀ ρ1 F1 S1 x v H1, Ext ρ F S H ρ1 F1 S1 H1 → Rel T K ρ1 F1 S1 H1 → RE T ρ1 F1 S1.length e σ → RV T.ca ρ1 F1 S1.length x v → PostS T K W ρ1 F1 S1 H1 (k x S1) Dd → Q v H1) : tE T g call K W c σ H Q :=
  ⟨ρ, F, S, e, rl, re, PostG.mono (PostS.bind re P) fun v H1 ⟨ρ1, F1, S1, x, _, x1, rl1, r1, P1⟩ => h ρ1 F1 S1 x v H1 x1 rl1 (x1.re re) r1 P1⟩
/-! ### the context of a def's body -/
structure CtxS (T : Tb) (g : Gt) (call : Call) (G : Gs) (N : List Str) (W : WX) (X : Cx) (sc : Scope) : Prop where
  e : CtxE T g call G N W X sc
  pa : PassesOwn (model X.prog X.w) X.A X.env X.xe
  hs : X.stack = X.env :: X.outer
  hf : X.env.frame = some X.env.locals
  hex : X.ex = []
theorem evS_asg (t : Tg) (a : Cd) (e : Env) (S : Store) : evS g call (.asg t a) e S = ofRes (evE g call a e S) e fun d S => match bindT t d e with
      | some e' => .nx e' S
      | none => .stuck := by
  simp only [evS]
  cases evE g call a e S <;> rfl
theorem ps_asgT {t : Tg} {a : Cd} {tg ex : Expr} {p : Pos} (he : SE T g call W X ex a) (hg : PG X tg (gT T X.K t)) (hs : swapsWithSole [tg] ex p.line X.env = pure false) (hw : swappedStores [tg] ex X.env = pure none) (h1 : (assignEach [tg] X.env).map (·.2) = [assign tg X.env]) :
    PS X (.Assign [tg] ex p) (tSm T g call X.K W (.asg t a)) := by
  refine ⟨fun pins s σ H D I ⟨ρ, F, S, e, rl, re, P⟩ => (ps_asg he.pe hg hs hw h1).run pins s σ H D I ?_⟩
  rw [evS_asg] at P
  refine tE.run rl re P fun ρ1 F1 S1 x v H1 x1 rl1 re1 r1 P1 => ?_
  split at P1
  · rename_i e' hb
    exact ⟨ρ1, F1, S1, e, x, e', rl1, re1, r1, hb, fun σ' re' _ => P1.here rl1 re'⟩
  · exact P1.elim
end
end Mp
end
section
set_option maxHeartbeats 4000000
namespace Mp
open PySem L2 PyProof.Rows
section
variable {X : Cx}
/-- a caught exception is tracked from here on -/
theorem Inv.track {pins : List (Addr × Obj)} {σ : L2.St} {H : Hp} {s : Shared} {a C dx : Addr} {oe : Obj} {vs : Array Value} (I : L2.Inv X pins σ H s) (he : s.heap.get? a = some oe) (hc : oe.cls = .ref C) (hd : oe.dict = some dx) (hdat : oe.data = .fields vs) (na : H a = none) (n0 : X.s_0.heap.get? a = none)
    (nL : a ≠ X.env.locals) (np : ∀ p ∈ X.pn ++ pins, p.1 ≠ a) : L2.Inv X pins σ (upd H a (exk C dx a)) s where
  ok := I.ok
  os := I.os
  bare := I.bare
  base := ⟨I.base.keep, I.base.slot, fun b o e n hx => by
      rw [upd_ne (fun z => by subst z; rw [n0] at e; cases e)]
      exact I.base.free b o e n hx, I.base.there, fun b xs e => by
      have := I.base.tups b xs e
      rw [upd_ne (ne_of_none this na)]; exact this, fun b o u e => by
      have := I.base.frzs b o u e
      rw [upd_ne (ne_of_none this na)]; exact this, fun b ps e => by
      obtain ⟨more, this⟩ := I.base.tbls b ps e
      exact ⟨more, by rw [upd_ne (ne_of_none this na)]; exact this⟩⟩
  loc := I.loc
  cell := I.cell
  free := by rw [upd_ne (Ne.symm nL)]; exact I.free
  freeC := fun x c h => by
    have hca : c ≠ a := fun z => by
      subst z
      obtain ⟨v, o, ho, hdt⟩ := I.cell x c h
      rw [he] at ho
      cases ho
      rw [hdat] at hdt
      cases hdt
    rw [upd_ne hca]; exact I.freeC x c h
  pin := fun p hp => by
    obtain ⟨h1, h2, h3, h4, h5⟩ := I.pin p hp
    exact ⟨h1, by rw [upd_ne (np p hp)]; exact h2, h3, h4, h5⟩
  hok := fun b o hb => by
    by_cases z : b = a
    · subst z
      rw [upd_same] at hb
      cases hb
      refine ⟨⟨oe, vs, he, hc, hd, hdat⟩, ⟨oe, he⟩, fun h1 h2 ⟨oe', vs', e1, e2, e3, e4⟩ k => ⟨oe', vs', k _ e1, e2, e3, e4⟩⟩
    · rw [upd_ne z] at hb
      exact (I.hok b o hb).stay (fun _ _ _ h => h) (fun c h => by rw [upd_ne (ne_of_none h na)]; exact h) (fun c xs h => by rw [upd_ne (ne_of_none h na)]; exact h)
  len := I.len
/-- what the clause wishes of an exception of the body: it is copied to y (slot j), and stays -/
def wTr (K : PySem.W.Frag) (c : Value) (i j : Nat) (Wout : WX) (D : Ends) : WX := fun cls d σ H =>
  ∃ C dx b, cls = .ref C ∧ d = some dx ∧ PySem.W.exmOne K cls c = some b ∧ (b = true → ∀ a, H a = none → D.nx (((σ.set i (some (.ref a))).set j (some (.ref a))).set i none) (upd H a (exk C dx a))) ∧
    (b = false → Wout cls d σ H)
theorem ps_try_tr {x n y : Str} {c : Value} {i j : Nat} {body : List Stmt} {np pos pos' py pn2 ps : Pos} {tb : WX → TS} {Wout : WX} (hs : X.stack = X.env :: X.outer) (hf : X.env.frame = some X.env.locals) (hex : X.ex = []) (hN : X.N.Nodup) (hi : X.N[i]? = some n) (hln : X.env.kindOf n = some .local) (hc : Names X x c) (tk : Takes X Wout)
    (hj : X.N[j]? = some y) (hij : i ≠ j) (hy : Loc X.env.scope y) (hfy : X.fn y = true ∨ X.env.scope.names.lookup y = some .local) (hd1 : (n == ("__debug__" : Str)) = false) (hd2 : (n == ("__classdict__" : Str)) = false)
    (hb : ∀ (W : WX) (pn : List (Addr × Obj)) (xe : Value → Shared → Prop), Takes (X.tr pn xe) W → PassesOwn (model X.prog X.w) X.A X.env xe → PSs (X.tr pn xe) body (tb W)) :
    PS X (.Try body [.ExceptHandler (some (.Name x np)) (some n) [.Assign [.Name y py] (.Name n pn2) ps] pos'] [] [] pos) (fun D σ H => tb (wTr X.K c i j Wout D) D σ H) := by
  refine ⟨fun pins s σ H D I h => ?_⟩
  have ok := I.ok
  have hfr : X.A.frames = some (X.env :: X.outer) := by rw [ok.frames, hs]
  have hloc : Loc X.env.scope n := .inl hln
  refine wpAny_Try_except ?_
  refine wpAny_mono ((hb (wTr X.K c i j Wout D) (X.pn ++ pins) (fun e s₁ => wpAny (model X.prog X.w) X.A (noteFrame e X.env) (fun _ s₂ => wpAny (model X.prog X.w) X.A (setFlight e none) (fun _ s₃ =>
    wpAny (model X.prog X.w) X.A (handleBy e X.env [.ExceptHandler (some (.Name x np)) (some n) [.Assign [.Name y py] (.Name n pn2) ps] pos']) (SP X pins D) X.xe s₃) X.xe s₂) X.xe s₁) (fun u s' xx => ?_) PassesOwn.looking).run [] s σ H D (I.toTry _) h) (fun f s1 hsp => ?_) (fun e s1 he => he)
  · -- the catch
    obtain ⟨a, B, sI, pins', σ', H', cls, d, rfl, J', nb, up, sky, na, os, ag, C, dx, b, ec, ed, hb1, hyes, hno⟩ := xx
    have J : L2.Inv X pins σ' H' sI := J'.ofTry ok
    have sky' : Sky B (X.env :: X.outer) a (Zc cls d) X.env.locals s'.heap := by rw [← hs]; exact sky
    show wpAny (model X.prog X.w) X.A (noteFrame (.ref a) X.env) _ _ _
    refine Sky.land Zc.steady hfr hf sky' fun h3 fl3 up3 => ?_
    have J3 : L2.Inv X pins σ' H' { s' with heap := h3 } := J.landed nb fl3.1 (up.trans up3) os ag
    obtain ⟨oe3, vs3, he3, hz3, hd3⟩ := fl3.there
    have notFr : ∀ {h : Heap} {o : Obj} {vs : Array Value}, h.FunFrames B (X.env :: X.outer) → h.get? a = some o → o.data = .fields vs → a ∉ frs (X.env :: X.outer) := fun {h o vs} ff e dd hm => by
      obtain ⟨_, o', e', hnf⟩ := ff.mem hm
      rw [e] at e'; cases e'
      exact hnf _ dd
    have nfr := notFr fl3.2.2.1 he3 hd3
    have nL : a ≠ X.env.locals := fun z => nfr (List.mem_filterMap.mpr ⟨X.env, List.mem_cons_self, by rw [hf, z]⟩)
    have nF : a ∉ X.fs := fun hm => by
      obtain ⟨e, he, q⟩ := List.mem_filterMap.mp hm
      exact nfr (List.mem_filterMap.mpr ⟨e, List.mem_cons_of_mem _ he, q⟩)
    have nI : sI.heap.get? a = none := by
      cases q : sI.heap.get? a with
      | none => rfl
      | some o =>
        have := nb a o q (by rw [hs]; exact nfr)
        rw [fl3.2.1] at this; cases this
    have n0 : X.s_0.heap.get? a = none := by
      cases q : X.s_0.heap.get? a with
      | none => rfl
      | some o =>
        obtain ⟨o', e⟩ := J.base.there a o q (by rw [hex]; simp)
        rw [nI] at e; cases e
    have np' : ∀ p ∈ X.pn ++ pins, p.1 ≠ a := fun p hp e => by
      obtain ⟨h1, _⟩ := J.pin p hp
      rw [e, nI] at h1; cases h1
    have S3 := J3.suite he3 hd3 na nL nF
    refine wpAny_handleBy_cons (codeAny_handlers_test ?_) (by intro q; cases q)
    have LT : PySem.W.Looks (model X.prog X.w) h3 (typeOf (.ref a)) cls := fun A Q E s k q => wpAny_typeOf_ref (k _ _ he3) (by rw [hz3.1]; exact q)
    have LM := PySem.W.exm_one (M := model X.prog X.w) (J3.kIn) LT hb1
    have test : ∀ {Q : Value → Shared → Prop} {E : Value → Shared → Prop}, Q c { s' with heap := h3 } → wpAny (model X.prog X.w) (X.A.mark (some (.ref a))) (eval (.Name x np) X.env) Q E { s' with heap := h3 } := fun {Q E} q => by
      obtain ⟨hg, hdbg, hm | ⟨hm, hv, hnn⟩⟩ := hc
      · exact ld_glob (X := X.suite a ((a, oe3) :: (X.pn ++ pins))) S3 hg hm q hdbg
      · exact ld_blt (X := X.suite a ((a, oe3) :: (X.pn ++ pins))) S3 hg hm hv q hnn hdbg
    refine test (LM.here ?_)
    cases b with
    | true =>
      refine codeAny_handlers_suite_as ?_
      refine HandSPX.lands_againZ fl3 fun h4 fl4 up4 => ?_
      have J4 : L2.Inv X pins σ' H' { s' with heap := h4 } := J.landed nb fl4.1 ((up.trans up3).trans up4) os ag
      obtain ⟨oe4, vs4, he4, hz4, hd4⟩ := fl4.there
      have S4 := J4.suite he4 hd4 na nL nF
      refine store_ok (X := X.suite a ((a, oe4) :: (X.pn ++ pins))) (v := .ref a) S4 hN hi hloc rfl (fun s5 S5 => ?_) (.inr hln)
      have hlt : i < σ'.length := by
        rw [J4.len]
        exact (List.getElem?_eq_some_iff.mp hi).1
      have su : PSs (X.suite a ((a, oe4) :: (X.pn ++ pins))) [.Assign [.Name y py] (.Name n pn2) ps] (tAsg (tVar i) (gName j)) := pss_one (ps_set hN hj hy (pe_var (X := X.suite a ((a, oe4) :: (X.pn ++ pins))) hi (.inl hln) hd1 hd2) rfl hfy)
      refine wpAny_mono (su.run [] s5 _ H' { nx := fun σ6 H6 => σ6 = (σ'.set i (some (.ref a))).set j (some (.ref a)) ∧ H6 = H', rt := fun _ _ => False } S5 ⟨.ref a, List.getElem?_set_self hlt, rfl, rfl⟩) (fun f s6 hsp => ?_) (fun _ _ z => False.elim z)
      cases f with
      | next =>
        obtain ⟨σ6, H6, S6, e1, e2⟩ := hsp
        subst e1 e2
        have he6 : s6.heap.get? a = some oe4 := (S6.pin (a, oe4) (List.mem_append_left _ List.mem_cons_self)).1
        have J6 := Inv.track (S6.unsuite ok) he6 (hz4.1.trans ec) (hz4.2.trans ed) hd4 na n0 nL np'
        exact gone_ok J6 hN hi hln fun s7 J7 => ⟨_, _, J7, hyes rfl a na⟩
      | brk =>
        obtain ⟨_, _, _, q6⟩ := hsp
        exact q6.elim
      | cont =>
        obtain ⟨_, _, _, q6⟩ := hsp
        exact q6.elim
      | ret u =>
        obtain ⟨_, _, _, _, _, q6⟩ := hsp
        exact q6.elim
    | false =>
      show wpAny _ X.A (handleBy (.ref a) X.env []) _ _ _
      refine wpAny_handleBy_nil ?_
      obtain ⟨k1, k2, k3, oe, vs, T, oT, ts', he, hz, hd, h1, hr⟩ := id fl3
      unfold PySem.passOn
      refine wpAny_bind (wpAny_field he hd h1 ?_)
      rw [if_neg (show ¬ ((Value.ref T == Value.none) = true) from by simp)]
      have fin : wpAny (model X.prog X.w) X.A (setFlight (.ref a) X.env.frame) (fun _ s4 => wpAny (model X.prog X.w) X.A (throw (.ref a) : Sem Flow) (SP X pins D) X.xe s4) X.xe { s' with heap := h3 } := by
        rw [hf]
        refine HandSPX.setFlight_upZ fl3 fun h4 hh4 up4 => wpAny_throw (tk _ _ ?_)
        exact ⟨a, B, sI, pins, σ', H', cls, d, rfl, J, nb, (up.trans up3).trans up4, .inr (.inr (by rw [hs]; exact hh4)), na, os, ag, hno rfl⟩
      first
        | exact wpAny_bind (wpAny_pure (wpAny_bind fin))
        | exact wpAny_bind fin
  · cases f with
    | next =>
      obtain ⟨σ', H', J', q⟩ := hsp
      exact wpAny_execs_nil ⟨σ', H', J'.ofTry ok, q⟩
    | brk =>
      obtain ⟨σ', H', J', q⟩ := hsp
      exact ⟨σ', H', J'.ofTry ok, q⟩
    | cont =>
      obtain ⟨σ', H', J', q⟩ := hsp
      exact ⟨σ', H', J'.ofTry ok, q⟩
    | ret u =>
      obtain ⟨v, σ', H', J', r, q⟩ := hsp
      exact ⟨v, σ', H', J'.ofTry ok, r, q⟩
end
end Mp
end
section
set_option maxHeartbeats 4000000
namespace Mp
open PySem L2 PyProof.Rows
section
variable {T : Tb} {g : Gt} {call : Call} {G : Gs} {N : List Str} {W : WX} {X : Cx} {sc : Scope} {K : PySem.W.Frag} {ρ ρ1 : Nat → Addr} {F F1 : Hp} {S S1 : Store} {H H1 : Hp} {En : Ends}
theorem _root_.L2.PS.imp {e : Stmt} {t t' : TS} (h : PS X e t) (i : ∀ D σ H, t' D σ H → t D σ H) : PS X e t' := ⟨fun pins s σ H Q I q => h.run pins s σ H Q I (i Q σ H q)⟩
theorem _root_.L2.PSs.imp {e : List Stmt} {t t' : TS} (h : PSs X e t) (i : ∀ D σ H, t' D σ H → t D σ H) : PSs X e t' := ⟨fun pins s σ H Q I q => h.run pins s σ H Q I (i Q σ H q)⟩
theorem PostS.congr {r r' : SR} (h : PostS T K W ρ F S H r En) (e : r = r') : PostS T K W ρ F S H r' En := e ▸ h
/-! ### one by one -/
theorem ss_ret {a : Cd} {e : Expr} {p : Pos} (ha : SE T g call W X e a) : PS X (.Return (some e) p) (tSm T g call X.K W (.ret a)) := (ps_ret ha.pe).imp fun D σ H ⟨ρ, F, S, e, rl, re, P⟩ => by
  have P' : PostS T X.K W ρ F S H (ofRes (evE g call a e S) e fun d S => .rt d S) D := P.congr (by simp only [evS]; cases evE g call a e S <;> rfl)
  exact tE.run rl re P' fun ρ1 F1 S1 x v H1 x1 rl1 re1 r1 P1 => P1 _ _ _ _ .refl rl1 r1
theorem ss_retN {p : Pos} : PS X (.Return none p) (tSm T g call X.K W .retN) := ps_retN.imp fun D σ H ⟨ρ, F, S, e, rl, re, P⟩ => by
  simp only [evS] at P
  exact P _ _ _ _ .refl rl .non
theorem ss_pass {p : Pos} : PS X (.Pass p) (tSm T g call X.K W .pass) := ps_pass.imp fun D σ H ⟨ρ, F, S, e, rl, re, P⟩ => by
  simp only [evS] at P
  exact P.here rl re
theorem ss_brk {p : Pos} : PS X (.Break p) (tSm T g call X.K W .brk) := ps_break.imp fun D σ H ⟨ρ, F, S, e, rl, re, P⟩ => by
  simp only [evS] at P
  exact P _ _ _ _ .refl rl re
theorem ss_cont {p : Pos} : PS X (.Continue p) (tSm T g call X.K W .cont) := ps_continue.imp fun D σ H ⟨ρ, F, S, e, rl, re, P⟩ => by
  simp only [evS] at P
  exact P _ _ _ _ .refl rl re
def notComp : Expr → Bool
  | .ListComp _ _ _ _ => false
  | .SetComp _ _ _ _ => false
  | .DictComp _ _ _ _ _ => false
  | _ => true
theorem swap_no {e : Expr} (h : notComp e = true) (t : Option Expr) (l : Nat) (env : PySem.Env) : swapsWith e t l env = pure false := by
  cases e <;> first | rfl | (simp [notComp] at h)
theorem ss_ex {a : Cd} {e : Expr} {p : Pos} (ha : SE T g call W X e a) (hn : notComp e = true) : PS X (.Expr e p) (tSm T g call X.K W (.ex a)) := (ps_expr ha.pe (swap_no hn _ _ _)).imp fun D σ H ⟨ρ, F, S, e, rl, re, P⟩ => by
  have P' : PostS T X.K W ρ F S H (ofRes (evE g call a e S) e fun d S => .nx e S) D := P.congr (by simp only [evS]; cases evE g call a e S <;> rfl)
  exact tE.run rl re P' fun ρ1 F1 S1 x v H1 x1 rl1 re1 r1 P1 => P1.here rl1 re1
theorem ss_nil : PSs X [] (tSs T g call X.K W .nil) := pss_nil.imp fun D σ H ⟨ρ, F, S, e, rl, re, P⟩ => by
  simp only [evSs] at P
  exact P.here rl re
theorem ss_cons {a : Sm} {r : Sms} {st : Stmt} {rest : List Stmt} (ha : PS X st (tSm T g call X.K W a)) (hr : PSs X rest (tSs T g call X.K W r)) : PSs X (st :: rest) (tSs T g call X.K W (.cons a r)) := (pss_cons ha hr).imp fun D σ H ⟨ρ, F, S, e, rl, re, P⟩ => by
  simp only [evSs] at P
  refine ⟨ρ, F, S, e, rl, re, ?_⟩
  cases q : evS g call a e S with
  | nx e' S' =>
    rw [q] at P
    exact fun ρ' F' H' σ' x rl' re' => ⟨ρ', F', S', e', rl', re', PostS.ext x P⟩
  | bk e' S' => rw [q] at P; exact P
  | ct e' S' => rw [q] at P; exact P
  | rt d S' => rw [q] at P; exact P
  | exc c d e' S' => rw [q] at P; exact P
  | stuck => rw [q] at P; exact P
theorem tTt.run {c : Cd} {σ : L2.St} {e : Env} {k : Bool → Store → SR} {Q : Bool → Hp → Prop} (rl : Rel T K ρ F S H) (re : RE T ρ F S.length e σ) (P : PostS T K W ρ F S H (ofRes ((evE g call c e S).bind tr) e k) En)
    (h : ∀ ρ1 F1 S1 b H1, Ext ρ F S H ρ1 F1 S1 H1 → Rel T K ρ1 F1 S1 H1 → RE T ρ1 F1 S1.length e σ → PostS T K W ρ1 F1 S1 H1 (k b S1) En → Q b H1) : tTt T g call K W c σ H Q :=
  ⟨ρ, F, S, e, rl, re, PostG.mono (PostS.bind re P) fun v H1 ⟨ρ1, F1, S1, x, _, x1, rl1, r1, P1⟩ => by
    cases (show x = v from r1)
    exact h ρ1 F1 S1 _ H1 x1 rl1 (x1.re re) P1⟩
theorem ss_ife {c : Cd} {a b : Sms} {t : Expr} {p q : List Stmt} {ps : Pos} (hc : SE T g call W X t c) (hi : notIf t = true) (ha : PSs X p (tSs T g call X.K W a)) (hb : PSs X q (tSs T g call X.K W b)) : PS X (.If t p q ps) (tSm T g call X.K W (.ife c a b)) := (ps_if (hc.pt hi) ha hb).imp fun D σ H ⟨ρ, F, S, e, rl, re, P⟩ => by
  have P' : PostS T X.K W ρ F S H (ofRes ((evE g call c e S).bind tr) e fun k S => if k then evSs g call a e S else evSs g call b e S) D := P.congr (by
    simp only [evS]
    cases (evE g call c e S).bind tr with
    | ok k S' => cases k <;> rfl
    | exc c v S' => rfl
    | stuck => rfl)
  refine tTt.run rl re P' fun ρ1 F1 S1 k H1 x1 rl1 re1 P1 => ?_
  cases k with
  | true => exact ⟨ρ1, F1, S1, e, rl1, re1, P1⟩
  | false => exact ⟨ρ1, F1, S1, e, rl1, re1, P1⟩
/-! ### loops -/
def contR (r : SR) (k : Env → Store → SR) : SR := match r with
  | .nx e S => k e S
  | .ct e S => k e S
  | .bk e S => .nx e S
  | .rt d S => .rt d S
  | .exc c v e S => .exc c v e S
  | .stuck => .stuck
theorem PostS.loop {r : SR} {k : Env → Store → SR} (x0 : Ext ρ F S H ρ1 F1 S1 H1) (P : PostS T K W ρ F S H (contR r k) En) {N' : L2.St → Hp → Prop} (hN : ∀ e3 S3 ρ' F' H' σ', Ext ρ1 F1 S1 H1 ρ' F' S3 H' → Rel T K ρ' F' S3 H' → RE T ρ' F' (List.length S3) e3 σ' → PostS T K W ρ F S H (k e3 S3) En → N' σ' H') :
    PostS T K W ρ1 F1 S1 H1 r { En with nx := N', ct := N', bk := En.nx } := by
  cases r with
  | nx e3 S3 => exact fun ρ' F' H' σ' x rl re => hN e3 S3 ρ' F' H' σ' x rl re P
  | ct e3 S3 => exact fun ρ' F' H' σ' x rl re => hN e3 S3 ρ' F' H' σ' x rl re P
  | bk e3 S3 => exact fun ρ' F' H' σ' x => P ρ' F' H' σ' (x0.trans x)
  | rt d S3 => exact fun ρ' F' H' v x => P ρ' F' H' v (x0.trans x)
  | exc c d e3 S3 => exact fun ρ' F' H' σ' dx v x => P ρ' F' H' σ' dx v (x0.trans x)
  | stuck => exact P
theorem ss_for {tg : Tg} {it : It} {body : Sms} {t itx : Expr} {bs : List Stmt} {p : Pos} (hp : PassesOwn (model X.prog X.w) X.A X.env X.xe) (hc : X.calm = true) (hi : PI X t itx (tEI T g call X.K W it)) (hs : notSet itx = true) (hg : PG X t (gT T X.K tg)) (hb : PSs X bs (tSs T g call X.K W body)) :
    PS X (.For t itx bs [] p) (tSm T g call X.K W (.for_ tg it body)) := (ps_for hp hc hi hg hb (fun x => fold_of hs _ x)).imp fun D σ H ⟨ρ, F, S, e, rl, re, P⟩ => by
  have P' : PostS T X.K W ρ F S H (ofRes (evI g call it e S) e fun xk S => forL xk.2 (fun x e S => match bindT tg x e with
      | some e' => evSs g call body e' S
      | none => .stuck) xk.1 e S) D := P.congr (by simp only [evS]; cases evI g call it e S <;> rfl)
  refine ⟨ρ, F, S, e, rl, re, PostG.mono (PostS.bind re P') fun J H1 ⟨ρ1, F1, S1, xk, _, x1, rl1, gi, P1⟩ => ?_⟩
  obtain ⟨xs, k⟩ := xk
  have re1 := x1.re re
  clear P P' re
  refine ⟨fun i n σ' H' => n = xs.length - i ∧ i ≤ xs.length ∧ ∃ ρ2 F2 S2 e2, Ext ρ1 F1 S1 H1 ρ2 F2 S2 H' ∧ Rel T X.K ρ2 F2 S2 H' ∧ RE T ρ2 F2 (List.length S2) e2 σ' ∧ PostS T X.K W ρ1 F1 S1 H1 (forL k (fun x e S => match bindT tg x e with
      | some e' => evSs g call body e' S
      | none => .stuck) (xs.drop i) e2 S2) D, ⟨_, rfl, Nat.zero_le _, ρ1, F1, S1, e, .refl, rl1, re1, P1⟩, ?_⟩
  intro i n σ' H' ⟨hn, hle, ρ2, F2, S2, e2, x2, rl2, re2, P2⟩
  have GI := gi ρ2 F2 S2 H' x2.agree x2.subF x2.len rl2
  by_cases hlt : i < xs.length
  · right
    have hdrop : xs.drop i = xs[i] :: xs.drop (i + 1) := List.drop_eq_getElem_cons hlt
    rw [hdrop] at P2
    unfold forL at P2
    by_cases hk : k.ok S2 = true
    · rw [if_pos hk] at P2
      obtain ⟨_, hgo⟩ := GI hk i
      obtain ⟨go, hy⟩ := hgo xs[i] (List.getElem?_eq_getElem hlt)
      refine ⟨go, fun σ3 H3 => (i + 1 ≤ xs.length ∧ ∃ ρ2 F2 S2 e2, Ext ρ1 F1 S1 H1 ρ2 F2 S2 H3 ∧ Rel T X.K ρ2 F2 S2 H3 ∧ RE T ρ2 F2 (List.length S2) e2 σ3 ∧ PostS T X.K W ρ1 F1 S1 H1 (forL k (fun x e S => match bindT tg x e with
          | some e' => evSs g call body e' S
          | none => .stuck) (xs.drop (i + 1)) e2 S2) D), fun σ3 H3 q => ⟨xs.length - (i + 1), by omega, rfl, q⟩, fun v H3 hv => ?_⟩
      obtain ⟨F3, rl3, x3, rv3⟩ := hy v H3 hv
      cases hb : bindT tg xs[i] e2 with
      | none => rw [hb] at P2; exact P2.elim
      | some e' =>
        simp only [hb] at P2
        refine ⟨ρ2, F3, S2, e2, xs[i], e', rl3, x3.re re2, rv3, hb, fun σ4 re4 _ => ⟨ρ2, F3, S2, e', rl3, re4, ?_⟩⟩
        have P3 : PostS T X.K W ρ1 F1 S1 H1 (contR (evSs g call body e' S2) fun e3 S3 => forL k (fun x e S => match bindT tg x e with
            | some e' => evSs g call body e' S
            | none => .stuck) (xs.drop (i + 1)) e3 S3) D := by
          refine P2.congr ?_
          unfold contR
          cases evSs g call body e' S2 <;> rfl
        exact PostS.loop (x2.trans x3) P3 fun e3 S3 ρ' F' H5 σ' x5 rl5 re5 P5 => ⟨hlt, ρ', F', S3, e3, (x2.trans x3).trans x5, rl5, re5, P5⟩
    · rw [if_neg hk] at P2; exact P2.elim
  · left
    rw [List.drop_eq_nil_of_le (by omega)] at P2
    unfold forL at P2
    by_cases hk : k.ok S2 = true
    · rw [if_pos hk] at P2
      exact ⟨(GI hk i).1 (by show xs.length ≤ i; omega), P2 _ _ _ _ x2 rl2 re2⟩
    · rw [if_neg hk] at P2; exact P2.elim
theorem whlL_succ (test : Env → Store → Res Bool) (body : Env → Store → SR) (n : Nat) (e : Env) (S : Store) : whlL test body (n + 1) e S = ofRes (test e S) e fun b S' => if b then contR (body e S') (fun e3 S3 => whlL test body n e3 S3) else .nx e S' := by
  rw [whlL]
  cases test e S with
  | ok b S' =>
    cases b with
    | true =>
      simp only [ofRes, if_true]
      cases body e S' <;> rfl
    | false => rfl
  | exc c v S' => rfl
  | stuck => rfl
theorem ss_whl {c : Cd} {body : Sms} {t : Expr} {bs : List Stmt} {p : Pos} (hp : PassesOwn (model X.prog X.w) X.A X.env X.xe) (hc : SE T g call W X t c) (hi : notIf t = true) (hb : PSs X bs (tSs T g call X.K W body)) :
    PS X (.While t bs [] p) (tSm T g call X.K W (.whl c body)) := (ps_while hp (hc.pt hi) hb).imp fun D σ H ⟨ρ, F, S, e, rl, re, P⟩ => by
  simp only [evS] at P
  refine ⟨fun n σ' H' => ∃ ρ2 F2 S2 e2, Rel T X.K ρ2 F2 S2 H' ∧ RE T ρ2 F2 (List.length S2) e2 σ' ∧ PostS T X.K W ρ2 F2 S2 H' (whlL (fun e S => (evE g call c e S).bind tr) (fun e S => evSs g call body e S) n e2 S2) D, ⟨_, ρ, F, S, e, rl, re, P⟩, ?_⟩
  intro n σ' H' ⟨ρ2, F2, S2, e2, rl2, re2, P2⟩
  cases n with
  | zero => exact P2.elim
  | succ n =>
    have P3 := P2.congr (whlL_succ _ _ _ _ _)
    refine tTt.run rl2 re2 P3 fun ρ3 F3 S3 b H3 x3 rl3 re3 P4 => ?_
    cases b with
    | true =>
      simp only [if_true] at P4 ⊢
      refine ⟨fun σ4 H4 => ∃ ρ2 F2 S2 e2, Rel T X.K ρ2 F2 S2 H4 ∧ RE T ρ2 F2 (List.length S2) e2 σ4 ∧ PostS T X.K W ρ2 F2 S2 H4 (whlL (fun e S => (evE g call c e S).bind tr) (fun e S => evSs g call body e S) n e2 S2) D, fun σ4 H4 q => ⟨n, Nat.lt_succ_self n, q⟩, ρ3, F3, S3, e2, rl3, re3, ?_⟩
      exact PostS.loop .refl P4 fun e5 S5 ρ' F' H5 σ5 x5 rl5 re5 P5 => ⟨ρ', F', S5, e5, rl5, re5, PostS.ext x5 P5⟩
    | false =>
      simp only [Bool.false_eq_true, if_false] at P4 ⊢
      exact P4.here rl3 re3
end
end Mp
end
section
set_option maxHeartbeats 400000
namespace Mp
open PySem L2 PyProof.Rows
section
variable {T : Tb} {g : Gt} {call : Call} {G : Gs} {N : List Str} {W : WX} {X : Cx} {sc : Scope} {K : PySem.W.Frag} {ρ ρ1 : Nat → Addr} {F F1 : Hp} {S S1 : Store} {H H1 : Hp} {En : Ends}
/-! ### raise -/
def spIni (T : Tb) (c : Nat) : Sp := fun vs H Q E => ∃ a v, vs = [.ref a, v] ∧ H a = some (exo a (T.ca c) none) ∧ ∀ dx, H dx = none → dx ≠ a → Q .non (upd (upd H dx (exd dx [(("value" : Str), v)])) a (exo a (T.ca c) (some dx)))
structure RaF (P : Program) (w : World) (K : PySem.W.Frag) (mg : Str → Option Value) (base : Heap) (T : Tb) (x : Str) (c : Nat) (k : Nat) : Prop where
  ex : OexC K (T.ca c)
  ini : ∃ fI fd, PySem.W.findIn K (.ref (T.ca c)) "__init__" = some (some (.ref fI)) ∧ PySem.W.typeIn K (.ref fI) = some (.type "function") ∧ FnOk P w K mg base (L2.CX P w) k fI fd ["self", "value"] (spIni T c) ∧ Binds K fd ["self", "value"] []
  mg : mg x = some (.ref (T.ca c))
theorem ss_raise {c k : Nat} {a : Cd} {x : Str} {e : Expr} {p1 p2 p3 : Pos} (C : CtxE T g call G N W X sc) (R : RaF X.prog X.w X.K X.mg X.base T x c k) (hr : Room (k + 1) X.A) (hg : globB sc x = true) (hd : debB x = true) (hs : notStar e = true) (ha : SE T g call W X e a) :
    PS X (.Raise (some (.Call (.Name x p1) [e] [] p2)) none p3) (tSm T g call X.K W (.raise c a)) := by
  obtain ⟨fI, fd, i1, i2, i3, i4⟩ := R.ini
  have mk := pmk_oex (dvs := []) (p := p1) (pos := p2) R.ex i1 i2 i3 hr i4 .nil (fun pins σ H s e s' I ⟨_, _, _, _, _, _, _, _, _, _, _, _, z⟩ => z.elim) (C.glob hg) R.mg (pa1 hs ha.pe) (debB_of hd) (star_cons (by simp [hs]) _) rfl
  refine (ps_raise C.calm C.tk mk).imp fun D σ H ⟨ρ, F, S, en, rl, re, P⟩ => ?_
  have P' : PostS T X.K W ρ F S H (ofRes (evE g call a en S) en fun d S => .exc c d en S) D := P.congr (by simp only [evS]; cases evE g call a en S <;> rfl)
  show tE T g call X.K W a σ H _
  refine tE.run rl re P' fun ρ1 F1 S1 x v H1 x1 rl1 re1 r1 P1 => ⟨by show 1 ≤ 1000; decide, fun ad hna => ⟨ad, v, rfl, upd_same, fun dx hdx hne => ⟨rfl, dx, [(("value" : Str), v)], upd_same, ?_, ?_, ?_⟩⟩⟩
  · rw [upd_ne hne, upd_same]
  · rw [upd_ne hne] at hdx; exact hdx
  · rw [upd_ne hne] at hdx
    have e1 : upd (del (upd (upd (upd H1 ad (exo ad (T.ca c) none)) dx (exd dx [(("value" : Str), v)])) ad (exo ad (T.ca c) (some dx))) ad) dx (.xd [(("value" : Str), v)]) = upd H1 dx (.xd [(("value" : Str), v)]) := by
      funext b
      by_cases h1 : b = dx
      · subst h1; rw [upd_same, upd_same]
      · rw [upd_ne h1, upd_ne h1]
        by_cases h2 : b = ad
        · subst h2; rw [del_same, hna]
        · rw [del_ne h2, upd_ne h2, upd_ne h1, upd_ne h2]
    rw [e1]
    obtain ⟨rl2, x2⟩ := rl1.lay (o := .xd [(("value" : Str), v)]) hdx upd_same
    exact P1 _ _ _ _ dx v x2 rl2 (x2.re re1) (x2.rv r1) upd_same
/-! ### try -/
theorem ss_try {cc i j : Nat} {body : Sms} {bs : List Stmt} {x n y : Str} {np pos pos' py pn2 ps : Pos} (C : CtxS T g call G N W X sc) (hi : N[i]? = some n) (hln : sc.names.lookup n = some .local) (hj : N[j]? = some y) (hij : i ≠ j) (hy : locB sc y = true) (hd1 : debB n = true) (hd2 : (n == ("__classdict__" : Str)) = false)
    (hx : globB sc x = true) (hdx : debB x = true) (hcl : (x, cc) ∈ G.cls)
    (hb : ∀ (W' : WX) (pn : List (Addr × Obj)) (xe : Value → Shared → Prop), CtxS T g call G N W' (X.tr pn xe) sc → PSs (X.tr pn xe) bs (tSs T g call X.K W' body)) :
    PS X (.Try bs [.ExceptHandler (some (.Name x np)) (some n) [.Assign [.Name y py] (.Name n pn2) ps] pos'] [] [] pos) (tSm T g call X.K W (.try_ body cc i (.cons (.asg (.n j) (.v i)) .nil))) := by
  have lk : X.env.kindOf n = some .local := by
    rcases C.e.scq _ _ hln with q | ⟨q, _⟩
    · exact q
    · cases q
  obtain ⟨hy1, hy2⟩ := C.e.loc hy
  have R := ps_try_tr (X := X) (c := .ref (T.ca cc)) (pos := pos) (pos' := pos') (np := np) (py := py) (pn2 := pn2) (ps := ps) (tb := fun W' => tSs T g call X.K W' body) C.hs C.hf C.hex (by rw [C.e.hN]; exact C.e.nd) (by rw [C.e.hN]; exact hi) lk ⟨C.e.glob hx, debB_of hdx, .inl (C.e.gf.cls _ hcl)⟩ C.e.tk (by rw [C.e.hN]; exact hj) hij hy1 hy2 (debB_of hd1) hd2
    fun W' pn xe tk pa => hb W' pn xe ⟨⟨C.e.calm, C.e.hN, C.e.nd, C.e.kd, C.e.scq, C.e.fn, C.e.gd, C.e.lv, C.e.gf, tk⟩, pa, C.hs, C.hf, C.hex⟩
  refine R.imp fun D σ H ⟨ρ, F, S, e, rl, re, P⟩ => ⟨ρ, F, S, e, rl, re, ?_⟩
  simp only [evS] at P
  cases q : evSs g call body e S with
  | nx e' S' => rw [q] at P; exact P
  | bk e' S' => rw [q] at P; exact P
  | ct e' S' => rw [q] at P; exact P
  | rt d S' => rw [q] at P; exact P
  | stuck => rw [q] at P; exact P
  | exc c d e' S' =>
    rw [q] at P
    simp only at P
    intro ρ' F' H' σ' dx v x' rl' re' rv hdx
    cases hsub : g.sub c cc with
    | none => rw [hsub] at P; exact P.elim
    | some b =>
      rw [hsub] at P
      refine ⟨T.ca c, dx, b, rfl, rfl, C.e.gf.cf.exm c cc b hsub, fun hb' a na => ?_, fun hb' => ?_⟩
      · subst hb'
        obtain ⟨rl2, x2⟩ := rl'.lay (o := exk (T.ca c) dx a) na upd_same
        have hne : dx ≠ a := ne_of_none (rl'.sub _ _ hdx) na
        have rx : RV T.ca ρ' (upd F' a (exk (T.ca c) dx a)) S'.length (.exn c d) (.ref a) := .exn upd_same (by rw [upd_ne hne]; exact hdx) (x2.rv rv)
        have hlt : i < e'.length := by
          by_cases h : i < e'.length
          · exact h
          · have q0 : (e'.set i (some (.exn c d)))[i]? = none := List.getElem?_eq_none (by rw [List.length_set]; omega)
            simp only [evSs, evS, evE, q0] at P
            exact P.elim
        simp only [evSs, evS, evE, List.getElem?_set_self hlt, bindT] at P
        exact P _ _ _ _ (x'.trans x2) rl2 ((((x2.re re').set rx i).set rx j).unset i)
      · subst hb'
        exact P ρ' F' H' σ' dx v x' rl' re' rv hdx
/-! ### the checker of statements -/
def noLoc (sc : Scope) : List Expr → Bool
  | [] => false
  | .Name x _ :: r => (match sc.names.lookup x with | some .cell => true | _ => noLoc sc r)
  | _ :: r => noLoc sc r
def simpleLen (ts vs : List Expr) : Bool := !(ts.length == 2 || ts.length == 3) || vs.length != ts.length
/-- a tuple's stores are not swapped -/
def noSwap (sc : Scope) (t e : Expr) : Bool := match t, e with
  | .Tuple ts _ _, .Tuple vs _ _ => simpleLen ts vs || noLoc sc ts || vs.all (foldedForSure 8)
  | _, _ => true
def cellB (sc : Scope) (x : Str) : Bool := match sc.names.lookup x with | some .cell => true | _ => false
def localB (sc : Scope) (x : Str) : Bool := match sc.names.lookup x with | some .local => true | _ => false
def isKeys : It → Bool
  | .keys _ => true
  | _ => false
def isCompC : Cd → Bool
  | .comp _ _ _ it _ _ => !isKeys it
  | _ => false
section
variable (G : Gs) (N : List Str) (sc : Scope)
mutual
def okS : Sm → Stmt → Bool
  | .asg t a, s => (match s with
    | .Assign [tg] e p => tgOk N sc t tg && okE G N a sc e && (match e with
      | .ListComp _ _ scope cp => (match tg with
        | .Name y py => cellB sc y || (isCompC a && localB sc y && (py.line == cp.line) && !(scope.names.any fun (n, k) => n == y && (k == .local || k == .cell)))
        | _ => false)
      | _ => notComp e && noSwap sc tg e)
    | _ => false)
  | .par is es, s => (match s, is with
    | .Assign [.Tuple [.Name x px, .Name y py] _ _] (.Tuple [a, b] _ _) p, [i, j] => decide (N[i]? = some x) && decide (N[j]? = some y) && decide (i ≠ j) && localB sc x && localB sc y && decide (x ≠ y) && (px.line == py.line) && !([a, b].all (constantsAlone 8)) && !([a, b].all (foldedForSure 8)) && okEs G N es sc [a, b]
    | .Assign [.Tuple [.Name x px, .Name y py, .Name z pz] _ _] (.Tuple [a, b, c] _ _) p, [i, j, l] => decide (N[i]? = some x) && decide (N[j]? = some y) && decide (N[l]? = some z) && decide (i ≠ j) && decide (i ≠ l) && decide (j ≠ l) && localB sc x && localB sc y && localB sc z && decide (x ≠ y) && decide (x ≠ z) && decide (y ≠ z) && (px.line == py.line) && (px.line == pz.line) && !([a, b, c].all (constantsAlone 8)) && !([a, b, c].all (foldedForSure 8)) && okEs G N es sc [a, b, c]
    | _, _ => false)
  | .sti o i a, s => (match s with
    | .Assign [.Subscript x y _] e _ => notSlice y && notComp e && okE G N o sc x && okE G N i sc y && okE G N a sc e
    | _ => false)
  | .stf _ _ _, _ => false
  | .badS, _ => true
  | .sti2 o i o' i' a, s => (match s with
    | .Assign [.Tuple [.Subscript x y _, .Subscript x' y' _] _ _] e _ => notSlice y && notSlice y' && notComp e && okE G N o sc x && okE G N i sc y && okE G N o' sc x' && okE G N i' sc y' && okE G N a sc e
    | _ => false)
  | .ex a, s => (match s with
    | .Expr e _ => notComp e && okE G N a sc e
    | _ => false)
  | .ret a, s => (match s with
    | .Return (some e) _ => okE G N a sc e
    | _ => false)
  | .retN, s => (match s with
    | .Return none _ => true
    | _ => false)
  | .ife c a b, s => (match s with
    | .If t p q _ => notIf t && okE G N c sc t && okSs a p && okSs b q
    | _ => false)
  | .for_ t it body, s => (match s with
    | .For tg itx bs [] _ => tgOk N sc t tg && okI G N it sc tg itx && notSet itx && okSs body bs
    | _ => false)
  | .whl c body, s => (match s with
    | .While t bs [] _ => notIf t && okE G N c sc t && okSs body bs
    | _ => false)
  | .raise c a, s => (match s with
    | .Raise (some (.Call (.Name x _) [e] [] _)) none _ => globB sc x && debB x && notStar e && okE G N a sc e && (G.rs.any fun p => decide (p.1 = x) && decide (p.2 = c))
    | _ => false)
  | .try_ body cc i suite, s => (match s with
    | .Try bs [.ExceptHandler (some (.Name x _)) (some n) [.Assign [.Name y _] (.Name n2 _) _] _] [] [] _ => (match suite with
      | .cons (.asg (.n j) (.v i2)) .nil => decide (i2 = i) && decide (n2 = n) && decide (N[i]? = some n) && localB sc n && decide (N[j]? = some y) && decide (i ≠ j) && locB sc y && debB n && !(n == ("__classdict__" : Str)) && globB sc x && debB x && (G.cls.any fun p => decide (p.1 = x) && decide (p.2 = cc)) && okSs body bs
      | _ => false)
    | _ => false)
  | .pass, s => (match s with
    | .Pass _ => true
    | _ => false)
  | .brk, s => (match s with
    | .Break _ => true
    | _ => false)
  | .cont, s => (match s with
    | .Continue _ => true
    | _ => false)
def okSs : Sms → List Stmt → Bool
  | .nil, [] => true
  | .cons a r, s :: rest => okS a s && okSs r rest
  | _, _ => false
end
end
theorem localB_of {x : Str} (h : localB sc x = true) : sc.names.lookup x = some .local := by
  unfold localB at h
  split at h
  · assumption
  · cases h
theorem CtxE.local_ (C : CtxE T g call G N W X sc) {x : Str} (h : sc.names.lookup x = some .local) : X.env.scope.names.lookup x = some .local := by
  rcases C.scq _ _ h with q | ⟨q, _⟩
  · exact q
  · cases q
theorem CtxE.cell_ (C : CtxE T g call G N W X sc) {x : Str} (h : cellB sc x = true) : X.env.scope.names.lookup x = some .cell := by
  unfold cellB at h
  split at h
  · rename_i e
    rcases C.scq _ _ e with q | ⟨q, _⟩
    · exact q
    · cases q
  · cases h
theorem CtxE.bk (C : CtxE T g call G N W X sc) : X.env.blockKind = .function := by
  unfold PySem.Env.blockKind
  rw [C.kd]
  rfl
theorem filt_lt {α β : Type} {f : α → Option β} : ∀ {l : List α}, (∃ x ∈ l, f x = none) → (l.filterMap f).length < l.length
  | x :: r, ⟨y, hy, e⟩ => by
    have hle : (r.filterMap f).length ≤ r.length := List.length_filterMap_le f r
    rcases List.mem_cons.mp hy with h | h
    · subst h
      rw [List.filterMap_cons, e]
      simp only [List.length_cons]
      omega
    · have := filt_lt ⟨y, h, e⟩
      rw [List.filterMap_cons]
      cases f x <;> simp only [List.length_cons] <;> omega
theorem noLoc_mem (C : CtxE T g call G N W X sc) : ∀ {ts : List Expr}, noLoc sc ts = true → ∃ y q, Expr.Name y q ∈ ts ∧ X.env.kindOf y = some .cell
  | x :: r, h => by
    unfold noLoc at h
    split at h
    · cases h
    · rename_i x' y q r' e
      cases e
      split at h
      · rename_i e
        refine ⟨y, q, List.mem_cons_self, ?_⟩
        rcases C.scq _ _ e with z | ⟨z, _⟩
        · exact z
        · cases z
      · obtain ⟨y', q', h1, h2⟩ := noLoc_mem C h
        exact ⟨y', q', List.mem_cons_of_mem _ h1, h2⟩
    · rename_i x' r' _ e
      cases e
      obtain ⟨y', q', h1, h2⟩ := noLoc_mem C h
      exact ⟨y', q', List.mem_cons_of_mem _ h1, h2⟩
theorem noSwap_ok (C : CtxE T g call G N W X sc) {t e : Expr} (hl : ∀ ts k p, t = .Tuple ts k p → ∀ x ∈ ts, ∃ y q, x = .Name y q) (h : noSwap sc t e = true) (hL : ∀ l p, t ≠ .List l p) : swappedStores [t] e X.env = pure none := by
  unfold swappedStores
  cases t <;> first | rfl | skip
  · exact absurd rfl (hL _ _)
  rename_i ts k p
  cases e <;> first | rfl | skip
  rename_i vs k2 p2
  simp only [noSwap, Bool.or_eq_true] at h
  show (if (!(ts.length == 2 || ts.length == 3) || vs.length != ts.length || X.env.blockKind != .function) = true then _ else _) = _
  rcases h with (h | h) | h
  · rw [if_pos (by unfold simpleLen at h; rw [h]; rfl)]
  · by_cases hc : (!(ts.length == 2 || ts.length == 3) || vs.length != ts.length || X.env.blockKind != .function) = true
    · rw [if_pos hc]
    · rw [if_neg hc]
      split
      · rfl
      · split
        · dsimp only
          split <;> rfl
        · dsimp only
          obtain ⟨y, q, h4, h5⟩ := noLoc_mem C h
          refine if_pos ?_
          simp only [Bool.or_eq_true, bne_iff_ne, ne_eq]
          refine .inl (Nat.ne_of_lt (filt_lt ⟨_, h4, ?_⟩))
          simp only [h5]
          rfl
  · by_cases hc : (!(ts.length == 2 || ts.length == 3) || vs.length != ts.length || X.env.blockKind != .function) = true
    · rw [if_pos hc]
    · rw [if_neg hc]
      split
      · rfl
      · dsimp only
        split <;> rfl
theorem fm2 (f : Expr → Option Str) {u v : Expr} {x y : Str} (h1 : f u = some x) (h2 : f v = some y) : [u, v].filterMap f = [x, y] := by simp [h1, h2]
theorem fm3 (f : Expr → Option Str) {u v w : Expr} {x y z : Str} (h1 : f u = some x) (h2 : f v = some y) (h3 : f w = some z) : [u, v, w].filterMap f = [x, y, z] := by simp [h1, h2, h3]
theorem swap2 (C : CtxE T g call G N W X sc) {x y : Str} {px py : Pos} {a b : Expr} {k k2 : Nat} {p p2 : Pos} (hx : localB sc x = true) (hy : localB sc y = true) (hne : x ≠ y) (hl : (px.line == py.line) = true) (ha : [a, b].all notStar = true) (hc : ([a, b].all (constantsAlone 8)) = false) (hf : ([a, b].all (foldedForSure 8)) = false) :
    swappedStores [.Tuple [.Name x px, .Name y py] k p] (.Tuple [a, b] k2 p2) X.env = pure (some [x, y]) := by
  have kx : (X.env.kindOf x == some .local) = true := by rw [show X.env.kindOf x = some .local from C.local_ (localB_of hx)]; rfl
  have ky : (X.env.kindOf y == some .local) = true := by rw [show X.env.kindOf y = some .local from C.local_ (localB_of hy)]; rfl
  have e1 : (py.line == px.line) = true := by
    rw [beq_iff_eq] at hl ⊢
    exact hl.symm
  unfold swappedStores
  show (if (false || false || X.env.blockKind != .function) = true then _ else _) = _
  rw [if_neg (by rw [C.bk]; decide), if_neg (fun z => by
    rw [List.any_eq_true] at z
    obtain ⟨w, hw, z⟩ := z
    have := List.all_eq_true.mp ha w hw
    cases w <;> first | (simp [notStar] at this; done) | cases z)]
  dsimp only
  rw [fm2 _ (x := x) (y := y) (by
    show (if (X.env.kindOf x == some .local && px.line == px.line) = true then some x else none) = some x
    rw [if_pos (by rw [kx]; simp)]) (by
    show (if (X.env.kindOf y == some .local && py.line == px.line) = true then some y else none) = some y
    rw [if_pos (by rw [ky, e1]; rfl)])]
  have ed : [x, y].eraseDups = [x, y] := by simp [List.eraseDups_cons, hne.symm]
  rw [ed, if_neg (by simp), hf, hc]
  rfl
theorem swap3 (C : CtxE T g call G N W X sc) {x y z : Str} {px py pz : Pos} {a b c : Expr} {k k2 : Nat} {p p2 : Pos} (hx : localB sc x = true) (hy : localB sc y = true) (hz : localB sc z = true) (hne : x ≠ y) (hne2 : x ≠ z) (hne3 : y ≠ z) (hl : (px.line == py.line) = true) (hl2 : (px.line == pz.line) = true) (ha : [a, b, c].all notStar = true) (hc : ([a, b, c].all (constantsAlone 8)) = false) (hf : ([a, b, c].all (foldedForSure 8)) = false) :
    swappedStores [.Tuple [.Name x px, .Name y py, .Name z pz] k p] (.Tuple [a, b, c] k2 p2) X.env = pure (some [x, y, z]) := by
  have kx : (X.env.kindOf x == some .local) = true := by rw [show X.env.kindOf x = some .local from C.local_ (localB_of hx)]; rfl
  have ky : (X.env.kindOf y == some .local) = true := by rw [show X.env.kindOf y = some .local from C.local_ (localB_of hy)]; rfl
  have kz : (X.env.kindOf z == some .local) = true := by rw [show X.env.kindOf z = some .local from C.local_ (localB_of hz)]; rfl
  have e1 : (py.line == px.line) = true := by
    rw [beq_iff_eq] at hl ⊢
    exact hl.symm
  have e2 : (pz.line == px.line) = true := by
    rw [beq_iff_eq] at hl2 ⊢
    exact hl2.symm
  unfold swappedStores
  show (if (false || false || X.env.blockKind != .function) = true then _ else _) = _
  rw [if_neg (by rw [C.bk]; decide), if_neg (fun z => by
    rw [List.any_eq_true] at z
    obtain ⟨w, hw, z⟩ := z
    have := List.all_eq_true.mp ha w hw
    cases w <;> first | (simp [notStar] at this; done) | cases z)]
  dsimp only
  rw [fm3 _ (x := x) (y := y) (z := z) (by
    show (if (X.env.kindOf x == some .local && px.line == px.line) = true then some x else none) = some x
    rw [if_pos (by rw [kx]; simp)]) (by
    show (if (X.env.kindOf y == some .local && py.line == px.line) = true then some y else none) = some y
    rw [if_pos (by rw [ky, e1]; rfl)]) (by
    show (if (X.env.kindOf z == some .local && pz.line == px.line) = true then some z else none) = some z
    rw [if_pos (by rw [kz, e2]; rfl)])]
  have ed : [x, y, z].eraseDups = [x, y, z] := by simp [List.eraseDups_cons, hne.symm, hne2.symm, hne3.symm]
  rw [ed, if_neg (by simp), hf, hc]
  rfl
end
end Mp
end
section
set_option maxHeartbeats 1000000
namespace Mp
open PySem L2 PyProof.Rows
section
variable {T : Tb} {g : Gt} {call : Call} {G : Gs} {N : List Str} {W : WX} {X : Cx} {sc : Scope} {K : PySem.W.Frag} {ρ ρ1 : Nat → Addr} {F F1 : Hp} {S S1 : Store} {H H1 : Hp} {En : Ends}
theorem RK.anyk {ca ρ : Nat → Addr} {F : Hp} {n : Nat} (k : DK) : ∀ {ds : List (DK × D)} {vs : List (Key × V)}, RK ca ρ F n ds vs → (ds.any fun kv => decide (kv.1 = k)) = vs.any fun kv => decide (kv.1 = kk k)
  | _, _, .nil => rfl
  | _, _, .cons (k := k') r t => by
    rw [List.any_cons, List.any_cons, RK.anyk k t]
    congr 1
    by_cases e : k' = k
    · subst e; simp
    · have : kk k' ≠ kk k := fun z => e (kk_inj z)
      simp [e, this]
theorem RK.mapk {ca ρ : Nat → Addr} {F : Hp} {n : Nat} {d : D} {v : V} (k : DK) (r : RV ca ρ F n d v) : ∀ {ds : List (DK × D)} {vs : List (Key × V)}, RK ca ρ F n ds vs → RK ca ρ F n (ds.map fun kv => if kv.1 = k then (kv.1, d) else kv) (vs.map fun kv => if kv.1 = kk k then (kv.1, v) else kv)
  | _, _, .nil => .nil
  | _, _, .cons (k := k') r' t => by
    rw [List.map_cons, List.map_cons]
    by_cases e : k' = k
    · subst e
      rw [if_pos rfl, if_pos rfl]
      exact .cons r (RK.mapk k' r t)
    · have : kk k' ≠ kk k := fun z => e (kk_inj z)
      rw [if_neg e, if_neg this]
      exact .cons r' (RK.mapk k r t)
theorem RK.snoc {ca ρ : Nat → Addr} {F : Hp} {n : Nat} {d : D} {v : V} (k : DK) (r : RV ca ρ F n d v) : ∀ {ds : List (DK × D)} {vs : List (Key × V)}, RK ca ρ F n ds vs → RK ca ρ F n (ds ++ [(k, d)]) (vs ++ [(kk k, v)])
  | _, _, .nil => .cons r .nil
  | _, _, .cons r' t => .cons r' (RK.snoc k r t)
theorem RK.put {ca ρ : Nat → Addr} {F : Hp} {n : Nat} {d : D} {v : V} (k : DK) (r : RV ca ρ F n d v) {ds : List (DK × D)} {vs : List (Key × V)} (h : RK ca ρ F n ds vs) : RK ca ρ F n (Mp.putK ds k d) (L2.putK vs (kk k) v) := by
  unfold Mp.putK L2.putK
  rw [h.anyk k]
  split
  · exact h.mapk k r
  · exact h.snoc k r
theorem evS_sti (o i a : Cd) (e : Env) (S : Store) : evS g call (.sti o i a) e S = ofRes (evE g call a e S) e fun d S => ofRes (evE g call o e S) e fun x S => ofRes (evE g call i e S) e fun k S => match stI x k d S with
      | some S' => .nx e S'
      | none => .stuck := by
  simp only [evS]
  cases evE g call a e S with
  | exc c v S => rfl
  | stuck => rfl
  | ok d S1 =>
    simp only [Res.bind_ok, ofRes]
    cases evE g call o e S1 with
    | exc c v S => rfl
    | stuck => rfl
    | ok x S2 =>
      simp only [Res.bind_ok]
      cases evE g call i e S2 with
      | exc c v S => rfl
      | stuck => rfl
      | ok k S3 =>
        simp only [Res.bind_ok]
        cases stI x k d S3 <;> rfl
def rSt (T : Tb) (K : PySem.W.Frag) : TSet := fun o i v H Q => ∃ ρ F S x k d S', Rel T K ρ F S H ∧ RV T.ca ρ F (List.length S) x o ∧ RV T.ca ρ F (List.length S) k i ∧ RV T.ca ρ F (List.length S) d v ∧ stI x k d S = some S' ∧ ∀ F' H', Ext ρ F S H ρ F' S' H' → Rel T K ρ F' S' H' → Q H'
theorem ixN_eq (n : Nat) (i : Int) : Mp.ixN n i = L2.ixN n i := rfl
theorem st_ok (hu : X.A.units + 64 < cLine) : PSet X (rSt T X.K) := by
  intro pins s σ H o i v ov iv u Q I ro ri rv ⟨ρ, F, S, x, k, d, S', rl, rx, rk, rd, hst, q⟩
  unfold stI at hst
  split at hst
  · rename_i l
    cases rx with
    | ref hl =>
    split at hst
    · rename_i xs n e
      cases rk
      split at hst
      · rename_i j hj
        cases hst
        obtain ⟨vs, e2, r2⟩ := rl.cell _ _ e
        refine set_list pins s σ H _ _ v ov iv u Q I ro ri rv ⟨_, vs, n, j, rfl, rfl, e2, by rw [← r2.length, ← ixN_eq]; exact hj, ?_⟩
        obtain ⟨rl2, x2⟩ := rl.write (o' := .lst (xs.set j d)) (ho := .lst (vs.set j v)) e (fun z => by cases z) ⟨_, upd_same, r2.set rd j⟩
        exact q _ _ x2 rl2
      · cases hst
    · rename_i kvs e
      split at hst
      · rename_i kk' hk
        split at hst
        · rename_i hl2
          cases hst
          obtain ⟨vs, e2, r2⟩ := rl.cell _ _ e
          have hi := rk.key hk
          subst hi
          refine set_dict (by omega) pins s σ H _ _ v ov iv u Q I ro ri rv ⟨_, _, rfl, DPut.k e2 (by rw [← r2.length]; exact hl2), ?_⟩
          obtain ⟨rl2, x2⟩ := rl.write (o' := .dct (Mp.putK kvs kk' d)) (ho := .dK (L2.putK vs (kk kk') v)) e (fun z => by cases z) ⟨_, upd_same, r2.put kk' rd⟩
          exact q _ _ x2 rl2
        · cases hst
      · cases hst
    · cases hst
  · cases hst
theorem assign_sub {o i : Expr} {p : Pos} (h : notSlice i = true) (env : PySem.Env) (v : Value) : assign (.Subscript o i p) env v = (do
      let ov ← holding [v] (eval o env)
      let iv ← holding [v, ov] (eval i env)
      standAt p
      holding [v, ov, iv] (setItem ov iv v)
      release [v, ov, iv] []) := by
  cases i <;> first | rfl | (simp [notSlice] at h)
theorem ss_sti {o i a : Cd} {x y e : Expr} {p q : Pos} (hu : X.A.units + 64 < cLine) (ho : SE T g call W X x o) (hi : SE T g call W X y i) (ha : SE T g call W X e a) (hs : notSlice y = true) (hn : notComp e = true) : PS X (.Assign [.Subscript x y q] e p) (tSm T g call X.K W (.sti o i a)) := by
  refine (ps_asg ha.pe (pg_sub ho.pe hi.pe (st_ok (T := T) hu) (assign_sub hs X.env)) (show swapsWithSole [.Subscript x y q] e p.line X.env = pure false from swap_no hn (some (.Subscript x y q)) p.line X.env) rfl rfl).imp fun D σ H ⟨ρ, F, S, en, rl, re, P⟩ => ?_
  rw [evS_sti] at P
  refine tE.run rl re P fun ρ1 F1 S1 d v H1 x1 rl1 re1 r1 P1 => tE.run rl1 re1 P1 fun ρ2 F2 S2 xx ov H2 x2 rl2 re2 r2 P2 => tE.run rl2 re2 P2 fun ρ3 F3 S3 k iv H3 x3 rl3 re3 r3 P3 => ?_
  split at P3
  · rename_i S4 hst
    exact ⟨ρ3, F3, S3, xx, k, d, S4, rl3, x3.rv r2, r3, x3.rv (x2.rv r1), hst, fun F' H' x' rl' => P3 _ _ _ _ x' rl' (x'.re re3)⟩
  · exact P3.elim
theorem evS_sti2 (o i o' i' a : Cd) (e : Env) (S : Store) : evS g call (.sti2 o i o' i' a) e S = ofRes (evE g call a e S) e fun d S => match d with
      | .tup [d1, d2] => ofRes (evE g call o e S) e fun x S => ofRes (evE g call i e S) e fun k S => match stI x k d1 S with
        | some S1 => ofRes (evE g call o' e S1) e fun x S => ofRes (evE g call i' e S) e fun k S => match stI x k d2 S with
          | some S' => .nx e S'
          | none => .stuck
        | none => .stuck
      | _ => .stuck := by
  simp only [evS]
  cases evE g call a e S with
  | exc c v S => rfl
  | stuck => rfl
  | ok d S1 =>
    simp only [Res.bind_ok, ofRes]
    match d with
    | .tup [d1, d2] =>
      simp only []
      cases evE g call o e S1 with
      | exc c v S => rfl
      | stuck => rfl
      | ok x S2 =>
        simp only [Res.bind_ok]
        cases evE g call i e S2 with
        | exc c v S => rfl
        | stuck => rfl
        | ok k S3 =>
          simp only [Res.bind_ok]
          cases stI x k d1 S3 with
          | none => rfl
          | some S4 =>
            simp only []
            cases evE g call o' e S4 with
            | exc c v S => rfl
            | stuck => rfl
            | ok x S5 =>
              simp only [Res.bind_ok]
              cases evE g call i' e S5 with
              | exc c v S => rfl
              | stuck => rfl
              | ok k S6 =>
                simp only [Res.bind_ok]
                cases stI x k d2 S6 <;> rfl
    | .tup [] => rfl
    | .tup [_] => rfl
    | .tup (_ :: _ :: _ :: _) => rfl
    | .non => rfl
    | .bl _ => rfl
    | .int _ => rfl
    | .str _ => rfl
    | .lst _ => rfl
    | .slst _ => rfl
    | .dct _ => rfl
    | .exn _ _ => rfl
    | .bty _ => rfl
    | .cls _ => rfl
    | .ref _ => rfl
theorem swSub (x y x' y' e : Expr) (q q' pt : Pos) (k : Nat) (env : PySem.Env) : swappedStores [.Tuple [.Subscript x y q, .Subscript x' y' q'] k pt] e env = pure none := by
  unfold swappedStores
  cases e <;> first | rfl | skip
  rename_i vs k2 p2
  show (if (!(2 == 2 || 2 == 3) || vs.length != 2 || env.blockKind != .function) = true then _ else _) = _
  by_cases hc : (!(2 == 2 || 2 == 3) || vs.length != 2 || env.blockKind != .function) = true
  · rw [if_pos hc]
  · rw [if_neg hc]
    split
    · rfl
    · rfl
theorem ss_sti2 {o i o' i' a : Cd} {x y x' y' e : Expr} {p q q' pt : Pos} {k : Nat} (hc : X.calm = true) (hu : X.A.units + 64 < cLine) (ho : SE T g call W X x o) (hi : SE T g call W X y i) (ho' : SE T g call W X x' o') (hi' : SE T g call W X y' i') (ha : SE T g call W X e a) (hs : notSlice y = true) (hs' : notSlice y' = true) (hn : notComp e = true) :
    PS X (.Assign [.Tuple [.Subscript x y q, .Subscript x' y' q'] k pt] e p) (tSm T g call X.K W (.sti2 o i o' i' a)) := by
  have hst := st_ok (T := T) (X := X) hu
  refine (ps_asg ha.pe (pg_tup hc (pgs_cons (pg_sub ho.pe hi.pe hst (assign_sub hs X.env)) (pgs_cons (pg_sub ho'.pe hi'.pe hst (assign_sub hs' X.env)) pgs_nil))) (show swapsWithSole [.Tuple [.Subscript x y q, .Subscript x' y' q'] k pt] e p.line X.env = pure false from swap_no hn (some (.Tuple [.Subscript x y q, .Subscript x' y' q'] k pt)) p.line X.env) (swSub _ _ _ _ _ _ _ _ _ _) rfl).imp fun D σ H ⟨ρ, F, S, en, rl, re, P⟩ => ?_
  rw [evS_sti2] at P
  refine tE.run rl re P fun ρ1 F1 S1 d v H1 x1 rl1 re1 r1 P1 => ?_
  split at P1
  · rename_i d1 d2
    cases r1 with
    | tup e1 r1 =>
    cases r1 with
    | cons ra r1 =>
    cases r1 with
    | cons rb r1 =>
    cases r1
    rename_i aa v1 v2
    refine ⟨aa, [v1, v2], rfl, SqT.of (rl1.sub _ _ e1), rfl, v1, [v2], rfl, ?_⟩
    refine tE.run rl1 re1 P1 fun ρ2 F2 S2 xx ov H2 x2 rl2 re2 r2 P2 => tE.run rl2 re2 P2 fun ρ3 F3 S3 kk iv H3 x3 rl3 re3 r3 P3 => ?_
    split at P3
    · rename_i S4 hs1
      refine ⟨ρ3, F3, S3, xx, kk, d1, S4, rl3, x3.rv r2, r3, x3.rv (x2.rv ra), hs1, fun F' H' x' rl' => ?_⟩
      refine ⟨v2, [], rfl, ?_⟩
      refine tE.run rl' (x'.re re3) (PostS.ext x' P3) fun ρ5 F5 S5 xx5 ov5 H5 x5 rl5 re5 r5 P5 => tE.run rl5 re5 P5 fun ρ6 F6 S6 kk6 iv6 H6 x6 rl6 re6 r6 P6 => ?_
      split at P6
      · rename_i S7 hs2
        refine ⟨ρ6, F6, S6, xx5, kk6, d2, S7, rl6, x6.rv r5, r6, x6.rv (x5.rv (x'.rv (x3.rv (x2.rv rb)))), hs2, fun F'' H'' x'' rl'' => ⟨rfl, P6 _ _ _ _ x'' rl'' (x''.re re6)⟩⟩
      · exact P6.elim
    · exact P3.elim
  · exact P1.elim
theorem ss_badS {st : Stmt} : PS X st (tSm T g call X.K W .badS) :=
  ⟨fun pins s σ H D I ⟨ρ, F, S, en, rl, re, P⟩ => by
    simp only [evS] at P
    exact P.elim⟩
/-! ### a, b = x, y -/
theorem evS_par (is : List Nat) (es : Cds) (e : Env) (S : Store) : evS g call (.par is es) e S = ofRes (evEs g call es e S) e fun ds S => if ds.length = is.length then .nx (Mp.setAll e is ds) S else .stuck := by
  simp only [evS]
  cases evEs g call es e S <;> rfl
theorem tEs.run {c : Cds} {σ : L2.St} {e : Env} {k : List D → Store → SR} {Q : List V → Hp → Prop} (rl : Rel T K ρ F S H) (re : RE T ρ F S.length e σ) (P : PostS T K W ρ F S H (ofRes (evEs g call c e S) e k) En)
    (h : ∀ ρ1 F1 S1 x v H1, Ext ρ F S H ρ1 F1 S1 H1 → Rel T K ρ1 F1 S1 H1 → RE T ρ1 F1 S1.length e σ → RL T.ca ρ1 F1 S1.length x v → PostS T K W ρ1 F1 S1 H1 (k x S1) En → Q v H1) : tEs T g call K W c σ H Q :=
  ⟨ρ, F, S, e, rl, re, PostG.mono (PostS.bind re P) fun v H1 ⟨ρ1, F1, S1, x, _, x1, rl1, r1, P1⟩ => h ρ1 F1 S1 x v H1 x1 rl1 (x1.re re) r1 P1⟩
theorem ss_par2 {i j : Nat} {es : Cds} {x y : Str} {px py p p1 p2 : Pos} {k k2 : Nat} {a b : Expr} (C : CtxE T g call G N W X sc) (hi : N[i]? = some x) (hj : N[j]? = some y) (hij : i ≠ j) (hx : localB sc x = true) (hy : localB sc y = true) (hne : x ≠ y) (hl : (px.line == py.line) = true) (ha : [a, b].all notStar = true) (hc : ([a, b].all (constantsAlone 8)) = false) (hf : ([a, b].all (foldedForSure 8)) = false)
    (hp : PA X [a, b] (tEs T g call X.K W es)) : PS X (.Assign [.Tuple [.Name x px, .Name y py] k p1] (.Tuple [a, b] k2 p2) p) (tSm T g call X.K W (.par [i, j] es)) := by
  refine (ps_par C.calm (by rw [C.hN]; exact C.nd) (by rw [C.hN]; exact hi) (by rw [C.hN]; exact hj) hij (C.local_ (localB_of hx)) (C.local_ (localB_of hy)) hp (swap2 C hx hy hne hl ha hc hf)).imp fun D σ H ⟨ρ, F, S, en, rl, re, P⟩ => ?_
  rw [evS_par] at P
  refine tEs.run rl re P fun ρ1 F1 S1 ds vs H1 x1 rl1 re1 r1 P1 => ?_
  split at P1
  · rename_i hlen
    cases r1 with
    | nil => simp at hlen
    | cons r1 r2 =>
    cases r2 with
    | nil => simp at hlen
    | cons r2 r3 =>
    cases r3 with
    | cons _ _ => simp at hlen
    | nil => exact ⟨_, _, rfl, P1.here rl1 ((re1.set r1 i).set r2 j)⟩
  · exact P1.elim
theorem ss_par3 {i j l : Nat} {es : Cds} {x y z : Str} {px py pz p p1 p2 : Pos} {k k2 : Nat} {a b c : Expr} (C : CtxE T g call G N W X sc) (hi : N[i]? = some x) (hj : N[j]? = some y) (hk : N[l]? = some z) (hij : i ≠ j) (hil : i ≠ l) (hjl : j ≠ l) (hx : localB sc x = true) (hy : localB sc y = true) (hz : localB sc z = true) (hne : x ≠ y) (hne2 : x ≠ z) (hne3 : y ≠ z) (hl : (px.line == py.line) = true) (hl2 : (px.line == pz.line) = true) (ha : [a, b, c].all notStar = true) (hc : ([a, b, c].all (constantsAlone 8)) = false) (hf : ([a, b, c].all (foldedForSure 8)) = false)
    (hp : PA X [a, b, c] (tEs T g call X.K W es)) : PS X (.Assign [.Tuple [.Name x px, .Name y py, .Name z pz] k p1] (.Tuple [a, b, c] k2 p2) p) (tSm T g call X.K W (.par [i, j, l] es)) := by
  refine (ps_par3 C.calm (by rw [C.hN]; exact C.nd) (by rw [C.hN]; exact hi) (by rw [C.hN]; exact hj) (by rw [C.hN]; exact hk) hij hil hjl (C.local_ (localB_of hx)) (C.local_ (localB_of hy)) (C.local_ (localB_of hz)) hp (swap3 C hx hy hz hne hne2 hne3 hl hl2 ha hc hf)).imp fun D σ H ⟨ρ, F, S, en, rl, re, P⟩ => ?_
  rw [evS_par] at P
  refine tEs.run rl re P fun ρ1 F1 S1 ds vs H1 x1 rl1 re1 r1 P1 => ?_
  split at P1
  · rename_i hlen
    cases r1 with
    | nil => simp at hlen
    | cons r1 r2 =>
    cases r2 with
    | nil => simp at hlen
    | cons r2 r3 =>
    cases r3 with
    | nil => simp at hlen
    | cons r3 r4 =>
    cases r4 with
    | cons _ _ => simp at hlen
    | nil => exact ⟨_, _, _, rfl, P1.here rl1 (((re1.set r1 i).set r2 j).set r3 l)⟩
  · exact P1.elim
end
end Mp
end
section
set_option maxHeartbeats 1000000
namespace Mp
open PySem L2 PyProof.Rows
section
variable {T : Tb} {g : Gt} {call : Call} {G : Gs} {N : List Str} {W : WX} {X : Cx} {sc : Scope}
theorem tg_names {t : Tg} {e : Expr} (h : tgOk N sc t e = true) : (∀ ts k p, e = .Tuple ts k p → ∀ x ∈ ts, ∃ y q, x = .Name y q) ∧ (∀ l p, e ≠ .List l p) ∧ notStar e = true := by
  have one : ∀ {i : Nat} {x : Expr}, tgOk1 N sc i x = true → ∃ y q, x = .Name y q := fun {i x} h => by
    unfold tgOk1 at h
    split at h
    · exact ⟨_, _, rfl⟩
    · cases h
  cases t with
  | n i =>
    obtain ⟨y, q, rfl⟩ := one h
    exact ⟨fun _ _ _ z => (by cases z), fun _ _ z => (by cases z), rfl⟩
  | ns is =>
    unfold tgOk at h
    dsimp only at h
    split at h
    · rename_i es k p
      refine ⟨fun ts k' p' z => ?_, fun _ _ z => (by cases z), rfl⟩
      cases z
      have : ∀ (is : List Nat) (es : List Expr), tgOks N sc is es = true → ∀ x ∈ es, ∃ y q, x = .Name y q := by
        intro is
        induction is with
        | nil =>
          intro es h x hx
          cases es with
          | nil => simp at hx
          | cons _ _ => simp [tgOks] at h
        | cons i r ih =>
          intro es h x hx
          cases es with
          | nil => simp at hx
          | cons e es =>
            simp only [tgOks, Bool.and_eq_true] at h
            rcases List.mem_cons.mp hx with z | z
            · subst z; exact one h.1
            · exact ih es h.2 x z
      exact this is es h
    · cases h
theorem ss_asg {t : Tg} {a : Cd} {tg e : Expr} {p : Pos} (C : CtxE T g call G N W X sc) (ht : tgOk N sc t tg = true) (ha : SE T g call W X e a) (hn : notComp e = true) (hs : noSwap sc tg e = true) : PS X (.Assign [tg] e p) (tSm T g call X.K W (.asg t a)) := by
  obtain ⟨h1, h2, h3⟩ := tg_names ht
  refine ps_asgT ha (pg_gT C ht) (swap_no hn (some tg) p.line X.env) (noSwap_ok C h1 hs h2) ?_
  cases tg <;> first | rfl | (simp [notStar] at h3)
/-- name = [..] where the name is a cell -/
theorem ss_asgCell {i : Nat} {a : Cd} {y : Str} {py cp p : Pos} {el : Expr} {gs : List Comprehension} {scope : Scope} (C : CtxE T g call G N W X sc) (ht : tgOk1 N sc i (.Name y py) = true) (ha : SE T g call W X (.ListComp el gs scope cp) a) (hc : cellB sc y = true) : PS X (.Assign [.Name y py] (.ListComp el gs scope cp) p) (tSm T g call X.K W (.asg (.n i) a)) := by
  refine ps_asgT ha (pg_gT (t := .n i) C ht) ?_ rfl rfl
  have k : X.env.kindOf y = some .cell := C.cell_ hc
  show swapsWith (.ListComp el gs scope cp) (some (.Name y py)) p.line X.env = pure false
  unfold swapsWith
  show (pure (X.env.blockKind == .function && X.env.kindOf y == some .local && py.line == cp.line && !(scope.names.any fun (n, k) => n == y && (k == .local || k == .cell))) : Sem Bool) = _
  rw [k]
  have : ((some NameKind.cell : Option NameKind) == some .local) = false := rfl
  rw [this, Bool.and_false, Bool.false_and, Bool.false_and]
theorem ss_asgLc {i : Nat} {m : Bool} {elt : Cd} {tg : Tg} {it : It} {ifs : Cdo} {own : List Nat} {el t itx : Expr} {cs : List Expr} {scope : Scope} {cp p py : Pos} {y : Str} (C : CtxE T g call G N W X sc) (hi0 : N[i]? = some y) (hy : localB sc y = true) (hl : (py.line == cp.line) = true) (hn : (scope.names.any fun (n, k) => n == y && (k == .local || k == .cell)) = false)
    (hb : blkC N sc scope (mkOwn N own) = true) (hw : ∀ i ∈ tg.ixs, i ∈ own) (hi : PI X t itx (tEI T g call X.K W it)) (hs : notSet itx = true) (B : BodyOk T g call G N scope X.K elt tg ifs el t cs) :
    PS X (.Assign [.Name y py] (.ListComp el [⟨t, itx, cs, 0⟩] scope cp) p) (tSm T g call X.K W (.asg (.n i) (.comp m elt tg it ifs own))) := by
  have hk : scope.kind = .function := (blkOk_by hb).kind
  have ly := C.local_ (localB_of hy)
  refine (ps_setLc (own := mkOwn N own) C.calm (by rw [C.hN]; exact C.nd) (by rw [C.hN]; exact hi0) ly (sw_true C.kd ly hl hn) hi (blk_of C hb) (fun s H A cl fp => B.tg _ rfl (C.blk hk s H A cl fp)) (fun s H A cl fp => B.ifs _ rfl (C.blk hk s H A cl fp)) (fun s H A cl fp => B.elt _ rfl (C.blk hk s H A cl fp)) (fun x => fold_of hs _ x)).imp fun D σ H ⟨ρ, F, S, e, rl, re, P⟩ => ?_
  rw [own_map]
  rw [evS_asg] at P
  refine comp_key (m := m) hw (tE.run rl re P fun ρ1 F1 S1 x v H1 x1 rl1 re1 r1 P1 => ?_)
  simp only [bindT] at P1
  exact P1.here rl1 (re1.set r1 i)
/-- what raise needs -/
structure CtxR (T : Tb) (g : Gt) (call : Call) (G : Gs) (N : List Str) (W : WX) (X : Cx) (sc : Scope) : Prop where
  s : CtxS T g call G N W X sc
  ra : ∃ k, Room (k + 1) X.A ∧ ∀ p ∈ G.rs, RaF X.prog X.w X.K X.mg X.base T p.1 p.2 k
theorem comp_parts {m : Bool} {elt : Cd} {tg : Tg} {it : It} {ifs : Cdo} {own : List Nat} {el : Expr} {gs : List Comprehension} {scope : Scope} {p : Pos} (hk : isKeys it = false) (h : okE G N (.comp m elt tg it ifs own) sc (.ListComp el gs scope p) = true) :
    ∃ t itx cs, gs = [⟨t, itx, cs, 0⟩] ∧ blkC N sc scope (mkOwn N own) = true ∧ (∀ i ∈ tg.ixs, i ∈ own) ∧ okI G N it sc t itx = true ∧ notSet itx = true ∧ ∀ K, BodyOk T g call G N scope K elt tg ifs el t cs := by
  unfold okE at h
  split at h
  · rename_i el' t itx cs scope' p' e
    cases e
    simp only [Bool.and_eq_true] at h
    obtain ⟨⟨⟨⟨⟨⟨h1, h2⟩, h3⟩, h4⟩, h5⟩, h6⟩, h7⟩ := h
    have h4' : okI G N it sc t itx = true := by
      split at h4
      · simp [isKeys] at hk
      · exact h4
    refine ⟨t, itx, cs, rfl, h1, fun i hi => ?_, h4', h5, fun K => ⟨fun X' hK C' => ?_, fun X' hK C' => ?_, fun X' hK C' => ?_⟩⟩
    · have := List.all_eq_true.mp h3 i hi
      simpa using this
    · rw [← hK]
      exact pg_gT C' h2
    · rw [← hK]
      cases cs with
      | nil =>
        cases ifs with
        | no => exact pts_no
        | so a => simp at h7
      | cons c r =>
        cases r with
        | nil =>
          simp only [Bool.and_eq_true] at h7
          cases ifs with
          | no => simp [okT] at h7
          | so a => exact pts_so ((sndT (.so a) scope c h7.2 noW X' C' a rfl).pt h7.1)
        | cons _ _ => simp at h7
    · rw [← hK]
      exact (sndE elt scope el h6 noW X' C').pe
  · cases h
theorem CtxR.mk' {W' : WX} {X' : Cx} (C : CtxR T g call G N W X sc) (S : CtxS T g call G N W' X' sc) (hA : X'.A = X.A) (hp : X'.prog = X.prog) (hw : X'.w = X.w) (hK : X'.K = X.K) (hm : X'.mg = X.mg) (hb : X'.base = X.base) : CtxR T g call G N W' X' sc := by
  obtain ⟨k, h1, h2⟩ := C.ra
  exact ⟨S, k, by rw [hA]; exact h1, fun p hp' => by rw [hp, hw, hK, hm, hb]; exact h2 p hp'⟩
mutual
theorem sndS : ∀ (c : Sm) (st : Stmt), okS G N sc c st = true → ∀ (W : WX) (X : Cx), CtxR T g call G N W X sc → PS X st (tSm T g call X.K W c)
  | .asg t a, st, h, W, X, C => by
    unfold okS at h
    split at h
    · rename_i tg e p
      simp only [Bool.and_eq_true] at h
      obtain ⟨⟨h1, h2⟩, h3⟩ := h
      have sa := sndE a sc e h2 W X C.s.e
      split at h3
      · rename_i el gs scope cp
        split at h3
        · rename_i y py
          cases t with
          | ns is => simp [tgOk] at h1
          | n i =>
            simp only [tgOk] at h1
            by_cases hc : cellB sc y = true
            · exact ss_asgCell C.s.e h1 sa hc
            · simp only [Bool.or_eq_true, Bool.and_eq_true] at h3
              have h3 := h3.resolve_left hc
              obtain ⟨⟨⟨k1, k2⟩, k3⟩, k4⟩ := h3
              cases a <;> first | exact absurd k1 Bool.false_ne_true | skip
              rename_i m elt tg it ifs own
              have hkk : isKeys it = false := by simpa [isCompC] using k1
              obtain ⟨t, itx, cs, rfl, b1, b2, b3, b4, B⟩ := comp_parts (T := T) (g := g) (call := call) hkk h2
              have hi0 : N[i]? = some y := by
                simp only [tgOk1, Bool.and_eq_true, decide_eq_true_eq] at h1
                exact h1.1
              refine ss_asgLc C.s.e hi0 k2 k3 ?_ b1 b2 (sndI it sc t itx b3 W X C.s.e) b4 (B X.K)
              simpa using k4
        · cases h3
      · simp only [Bool.and_eq_true] at h3
        exact ss_asg C.s.e h1 sa h3.1 h3.2
    · cases h
  | .par is es, st, h, W, X, C => by
    unfold okS at h
    split at h
    · simp only [Bool.and_eq_true, decide_eq_true_eq, Bool.not_eq_true'] at h
      obtain ⟨⟨⟨⟨⟨⟨⟨⟨⟨h1, h2⟩, h3⟩, h4⟩, h5⟩, h6⟩, h7⟩, h8⟩, h9⟩, h10⟩ := h
      obtain ⟨p1, p2, p3⟩ := sndEs es sc _ h10 W X C.s.e
      exact ss_par2 C.s.e h1 h2 h3 h4 h5 h6 h7 p2 h8 h9 p1
    · simp only [Bool.and_eq_true, decide_eq_true_eq, Bool.not_eq_true'] at h
      obtain ⟨⟨⟨⟨⟨⟨⟨⟨⟨⟨⟨⟨⟨⟨⟨⟨h1, h2⟩, h3⟩, h4⟩, h5⟩, h6⟩, h7⟩, h8⟩, h9⟩, h10⟩, h11⟩, h12⟩, h13⟩, h14⟩, h15⟩, h16⟩, h17⟩ := h
      obtain ⟨p1, p2, p3⟩ := sndEs es sc _ h17 W X C.s.e
      exact ss_par3 C.s.e h1 h2 h3 h4 h5 h6 h7 h8 h9 h10 h11 h12 h13 h14 p2 h15 h16 p1
    · cases h
  | .sti o i a, st, h, W, X, C => by
    unfold okS at h
    split at h
    · simp only [Bool.and_eq_true] at h
      obtain ⟨⟨⟨⟨h1, h2⟩, h3⟩, h4⟩, h5⟩ := h
      exact ss_sti C.s.e.un (sndE o sc _ h3 W X C.s.e) (sndE i sc _ h4 W X C.s.e) (sndE a sc _ h5 W X C.s.e) h1 h2
    · cases h
  | .stf _ _ _, st, h, W, X, C => by unfold okS at h; cases h
  | .badS, st, h, W, X, C => ss_badS
  | .sti2 o i o' i' a, st, h, W, X, C => by
    unfold okS at h
    split at h
    · simp only [Bool.and_eq_true] at h
      obtain ⟨⟨⟨⟨⟨⟨⟨h1, h2⟩, h3⟩, h4⟩, h5⟩, h6⟩, h7⟩, h8⟩ := h
      exact ss_sti2 C.s.e.calm C.s.e.un (sndE o sc _ h4 W X C.s.e) (sndE i sc _ h5 W X C.s.e) (sndE o' sc _ h6 W X C.s.e) (sndE i' sc _ h7 W X C.s.e) (sndE a sc _ h8 W X C.s.e) h1 h2 h3
    · cases h
  | .ex a, st, h, W, X, C => by
    unfold okS at h
    split at h
    · simp only [Bool.and_eq_true] at h
      exact ss_ex (sndE a sc _ h.2 W X C.s.e) h.1
    · cases h
  | .ret a, st, h, W, X, C => by
    unfold okS at h
    split at h
    · exact ss_ret (sndE a sc _ h W X C.s.e)
    · cases h
  | .retN, st, h, W, X, C => by
    unfold okS at h
    split at h
    · exact ss_retN
    · cases h
  | .ife c a b, st, h, W, X, C => by
    unfold okS at h
    split at h
    · simp only [Bool.and_eq_true] at h
      obtain ⟨⟨⟨h1, h2⟩, h3⟩, h4⟩ := h
      exact ss_ife (sndE c sc _ h2 W X C.s.e) h1 (sndSs a _ h3 W X C) (sndSs b _ h4 W X C)
    · cases h
  | .for_ t it body, st, h, W, X, C => by
    unfold okS at h
    split at h
    · simp only [Bool.and_eq_true] at h
      obtain ⟨⟨⟨h1, h2⟩, h3⟩, h4⟩ := h
      exact ss_for C.s.pa C.s.e.calm (sndI it sc _ _ h2 W X C.s.e) h3 (pg_gT C.s.e h1) (sndSs body _ h4 W X C)
    · cases h
  | .whl c body, st, h, W, X, C => by
    unfold okS at h
    split at h
    · simp only [Bool.and_eq_true] at h
      obtain ⟨⟨h1, h2⟩, h3⟩ := h
      exact ss_whl C.s.pa (sndE c sc _ h2 W X C.s.e) h1 (sndSs body _ h3 W X C)
    · cases h
  | .raise c a, st, h, W, X, C => by
    unfold okS at h
    split at h
    · simp only [Bool.and_eq_true] at h
      obtain ⟨⟨⟨⟨h1, h2⟩, h3⟩, h4⟩, h5⟩ := h
      rw [List.any_eq_true] at h5
      obtain ⟨p, hp, h5⟩ := h5
      simp only [Bool.and_eq_true, decide_eq_true_eq] at h5
      obtain ⟨e1, e2⟩ := h5
      obtain ⟨k, hr, R⟩ := C.ra
      have R' := R p hp
      rw [e1, e2] at R'
      exact ss_raise C.s.e R' hr h1 h2 h3 (sndE a sc _ h4 W X C.s.e)
    · cases h
  | .try_ body cc i suite, st, h, W, X, C => by
    unfold okS at h
    split at h
    · split at h
      · rename_i j i2
        simp only [Bool.and_eq_true, decide_eq_true_eq, Bool.not_eq_true'] at h
        obtain ⟨⟨⟨⟨⟨⟨⟨⟨⟨⟨⟨⟨h1, h2⟩, h3⟩, h4⟩, h5⟩, h6⟩, h7⟩, h8⟩, h9⟩, h10⟩, h11⟩, h12⟩, h13⟩ := h
        subst h1 h2
        rw [List.any_eq_true] at h12
        obtain ⟨p, hp, h12⟩ := h12
        simp only [Bool.and_eq_true, decide_eq_true_eq] at h12
        obtain ⟨e1, e2⟩ := h12
        refine ss_try C.s h3 (localB_of h4) h5 h6 h7 h8 h9 h10 h11 (by rw [← e1, ← e2]; exact hp) fun W' pn xe C' => sndSs body _ h13 W' (X.tr pn xe) (C.mk' C' rfl rfl rfl rfl rfl rfl)
      · cases h
    · cases h
  | .pass, st, h, W, X, C => by
    unfold okS at h
    split at h
    · exact ss_pass
    · cases h
  | .brk, st, h, W, X, C => by
    unfold okS at h
    split at h
    · exact ss_brk
    · cases h
  | .cont, st, h, W, X, C => by
    unfold okS at h
    split at h
    · exact ss_cont
    · cases h
theorem sndSs : ∀ (c : Sms) (st : List Stmt), okSs G N sc c st = true → ∀ (W : WX) (X : Cx), CtxR T g call G N W X sc → PSs X st (tSs T g call X.K W c)
  | .nil, [], h, W, X, C => ss_nil
  | .cons a r, s :: rest, h, W, X, C => by
    simp only [okSs, Bool.and_eq_true] at h
    exact ss_cons (sndS a s h.1 W X C) (sndSs r rest h.2 W X C)
  | .nil, _ :: _, h, W, X, C => by simp [okSs] at h
  | .cons _ _, [], h, W, X, C => by simp [okSs] at h
end
end
end Mp
end
section
set_option maxHeartbeats 1000000
namespace Mp
open PySem L2 PyProof.Rows
/-! ### letting go of cells -/
section
variable {ca ρ : Nat → Addr} {F : Hp} {n : Nat}
mutual
theorem RV.belw : ∀ {d : D} {v : V}, RV ca ρ F n d v → Mp.below n d = true
  | _, _, .non => by simp [Mp.below]
  | _, _, .bl b => by simp [Mp.below]
  | _, _, .int i => by simp [Mp.below]
  | _, _, .str s => by simp [Mp.below]
  | _, _, .tup e r => by simp [Mp.below, RL.belw r]
  | _, _, .lst e r => by simp [Mp.below, RL.belw r]
  | _, _, .slst e r => by simp [Mp.below, RL.belw r]
  | _, _, .dct e r => by simp [Mp.below, RK.belw r]
  | _, _, .exn e e2 r => by simp [Mp.below, RV.belw r]
  | _, _, .bty t => by simp [Mp.below]
  | _, _, .cls c => by simp [Mp.below]
  | _, _, .ref h => by simp [Mp.below, h]
theorem RL.belw : ∀ {d : List D} {v : List V}, RL ca ρ F n d v → Mp.belowL n d = true
  | _, _, .nil => by simp [Mp.belowL]
  | _, _, .cons r t => by simp [Mp.belowL, RV.belw r, RL.belw t]
theorem RK.belw : ∀ {d : List (DK × D)} {v : List (Key × V)}, RK ca ρ F n d v → Mp.belowK n d = true
  | _, _, .nil => by simp [Mp.belowK]
  | _, _, .cons r t => by simp [Mp.belowK, RV.belw r, RK.belw t]
end
end
section
variable {T : Tb} {K : PySem.W.Frag} {ρ ρ1 : Nat → Addr} {F F1 : Hp} {S S1 S2 : Store} {H H1 : Hp} {n m : Nat} {a : Addr}
theorem RO.belw : ∀ {o : O}, RO T ρ F n H a o → belowO n o = true
  | .lst ds, ⟨vs, _, r⟩ => r.belw
  | .dct ds, ⟨vs, _, r⟩ => r.belw
  | .ins c fs, ⟨dx, vs, e0, r⟩ => by
    simp only [belowO]
    clear e0
    induction r with
    | nil => rfl
    | cons z _ ih => rw [List.all_cons, z.2.belw, ih]; rfl
  | .dead, _ => rfl
theorem RO.low : ∀ {o : O}, RO T ρ F n H a o → belowO m o = true → RO T ρ F m H a o
  | .lst ds, ⟨vs, e, r⟩, h => ⟨vs, e, r.low h⟩
  | .dct ds, ⟨vs, e, r⟩, h => ⟨vs, e, r.low h⟩
  | .ins c fs, ⟨dx, vs, e, r⟩, h => by
    refine ⟨dx, vs, e, ?_⟩
    simp only [belowO] at h
    clear e
    induction r with
    | nil => exact .nil
    | cons z _ ih =>
      rw [List.all_cons, Bool.and_eq_true] at h
      exact .cons ⟨z.1, z.2.low h.1⟩ (ih h.2)
  | .dead, _, _ => trivial
theorem Rel.trim (rl : Rel T K ρ F S H) (hl : S1.length ≤ S.length) (h : ∀ (l : Nat) o, S1[l]? = some o → S[l]? = some o ∧ belowO S1.length o = true) : Rel T K ρ F S1 H where
  sub := rl.sub
  cell := fun l o e => (rl.cell l o (h l o e).1).low (h l o e).2
  inj := fun l m h1 h2 => rl.inj l m (Nat.lt_of_lt_of_le h1 hl) (Nat.lt_of_lt_of_le h2 hl)
  sep := fun l o e => rl.sep l o (h l o e).1
  there := fun l h1 => rl.there l (Nat.lt_of_lt_of_le h1 hl)
theorem Ext.trim (x : Ext ρ F S H ρ1 F1 S1 H1) (h1 : S.length ≤ S2.length) (h2 : S2.length ≤ S1.length) (h3 : ∀ l : Nat, S[l]? = some O.dead → S2[l]? = some O.dead) : Ext ρ F S H ρ1 F1 S2 H1 :=
  ⟨h1, x.agree, x.subF, x.frame, h3, x.dom, x.newF, fun l h3 h4 => x.newS l h3 (Nat.lt_of_lt_of_le h4 h2)⟩
/-- what trim leaves -/
theorem trim_ok {t : Tm} {args : List D} {d : D} {v : V} (rl0 : Rel T K ρ F S H) (x : Ext ρ F S H ρ1 F1 S1 H1) (rl : Rel T K ρ1 F1 S1 H1) (rv : RV T.ca ρ1 F1 S1.length d v) (h : Mp.trim t args S S1 d = some S2) : Ext ρ F S H ρ1 F1 S2 H1 ∧ Rel T K ρ1 F1 S2 H1 ∧ RV T.ca ρ1 F1 S2.length d v := by
  cases t with
  | no => cases h; exact ⟨x, rl, rv⟩
  | pure =>
    simp only [Mp.trim] at h
    split at h
    · rename_i hc
      cases h
      obtain ⟨h1, h2⟩ := hc
      refine ⟨x.trim (Nat.le_refl _) x.len (fun _ h => h), rl.trim x.len fun l o e => ⟨?_, (rl0.cell l o e).belw⟩, rv.low h2⟩
      have hl : l < S.length := (List.getElem?_eq_some_iff.mp e).1
      rw [← h1, List.getElem?_take_of_lt hl] at e
      exact e
    · cases h
  | cell0 =>
    simp only [Mp.trim] at h
    split at h
    · rename_i p r
      split at h
      · rename_i o hp
        split at h
        · rename_i hc
          cases h
          obtain ⟨h1, h2, h3, h4⟩ := hc
          have ls : (S.set p o).length = S.length := by simp
          refine ⟨x.trim (by rw [ls]; exact Nat.le_refl _) (by rw [ls]; exact x.len) (fun l h => by
            have hl : l < S.length := (List.getElem?_eq_some_iff.mp h).1
            have hd := x.dead l h
            rw [← h1, List.getElem?_take_of_lt hl]
            exact hd), rl.trim (by rw [ls]; exact x.len) fun l o' e => ?_, rv.low (by rw [ls]; exact h4)⟩
          have hl : l < S.length := by rw [← ls]; exact (List.getElem?_eq_some_iff.mp e).1
          rw [ls]
          refine ⟨?_, ?_⟩
          · rw [← h1, List.getElem?_take_of_lt hl] at e
            exact e
          · by_cases hlp : p = l
            · subst hlp
              rw [List.getElem?_set_self hl] at e
              cases e
              exact h3
            · rw [List.getElem?_set_ne hlp] at e
              exact (rl0.cell l o' e).belw
        · cases h
      · cases h
    · cases h
end
/-! ### a def by its body -/
theorem fnG_of {CX : CXT} {P : Program} {w : World} {K : PySem.W.Frag} {mg : Str → Option Value} {base : Heap} {k : Nat} {f : Addr} {name qual : Str} {params : Arguments} {body : List Stmt} {scope : Scope} {dV kV doc pm cdv ct oc : Value} {an od : Option Addr}
    {osl : Array (Option Value)} {N ps : List Str} {sp : Sp} (lk : K.lookup f = some ⟨oc, od, .func (PySem.W.fnOf name qual params body scope dV kV doc pm an cdv ct), osl⟩) (hcd : PySem.W.codeIn K cdv qual = true) (S : FnScope N ps scope)
    (len : ∀ vs H Q E, sp vs H Q E → vs.length = ps.length)
    (hbody : ∀ (A : Around) (outer : List PySem.Env) (s : Shared) (H : Hp) (vs : List V) (Q : VK) (E : XK), Room k (A.deeper (envOfC qual scope s.heap.objs.size f cdv)) → A.guards = some [] → sp vs H Q E →
      ∃ t, PSs (cxOf CX P w K mg base N qual scope f cdv A outer s H E) body t ∧ t { nx := fun _ H' => Q .non H', rt := Q } (L2.start N vs) H) :
    FnG P w K mg base CX (k + 1) f (PySem.W.fnOf name qual params body scope dV kV doc pm an cdv ct) ps sp := by
  refine ⟨len, fun A outer s H args us vs Q E hr hgd e0 hb r hsp => ?_⟩
  have hl := len _ _ _ _ hsp
  have KX : K.In s.heap := e0.mod.kin.keeps fun b o e => (e0.bs b o e).1
  have lim : s.heap.NoLimit := e0.mod.nolimit.keeps fun b o e => (e0.bs b o e).1
  have hkind : ∀ y ∈ ps.zip us, scope.names.lookup y.1 = some .local ∨ (scope.names.lookup y.1 = some .cell ∧ ((cellsFrom (s.heap.objs.size + 1) scope.names []).lookup y.1).isSome = true) := fun ⟨n, v⟩ hy => by
    rcases S.par n (List.of_mem_zip hy).1 with q | q
    · exact .inl q
    · exact .inr ⟨q, PySem.W.cellsFrom_some _ _ _ (.inl q)⟩
  refine codeAny_call_function hr.depth (KX _ _ lk) rfl S.co S.gen rfl (PySem.W.codeRec_of KX hcd) (hb _ _ _ _ ?_)
  refine wpAny_newFunctionEnv_cells S.kind hkind fun env he s1 x => ?_
  subst he
  refine ⟨lim.keeps x.toInCall.keep, codeAny_func ?_⟩
  obtain ⟨t, ht, hq⟩ := hbody A outer s H vs Q E (hr.deeper _) hgd hsp
  have I : L2.Inv (cxOf CX P w K mg base N qual scope f cdv A outer s H E) [] (L2.start N vs) H s1 := inv_start S hr.hd e0 hl r x
  refine wpAny_mono (ht.run [] s1 (L2.start N vs) H _ I hq) (fun fl s' hs => ?_) fun e s' hs => hs
  have fin : ∀ {σ' : L2.St} {H' : Hp} {v : V} {u : Value}, L2.Inv (cxOf CX P w K mg base N qual scope f cdv A outer s H E) [] σ' H' s' → RelV v u → Q v H' → CE outer P w H s Q u s' :=
    fun {σ' H' v u} J rv q => ⟨v, H', J.os, J.bare, J.base, J.hok, rv, q⟩
  cases fl with
  | ret u =>
    obtain ⟨v, σ', H', J, rv, q⟩ := hs
    exact fin J rv q
  | next =>
    obtain ⟨σ', H', J, q⟩ := hs
    exact fin (v := V.non) (u := Value.none) J rfl q
  | brk =>
    obtain ⟨_, _, _, q⟩ := hs
    exact False.elim q
  | cont =>
    obtain ⟨_, _, _, q⟩ := hs
    exact False.elim q
/-- a def of the text and its code -/
structure FnK (K : PySem.W.Frag) (G : Gs) (fe : FnE) (fd : Fd) (N : List Str) (fa : Addr) : Prop where
  at_ : ∃ (name qual : Str) (params : Arguments) (body : List Stmt) (scope : Scope) (dV kV doc pm cdv ct oc : Value) (an od : Option Addr) (osl : Array (Option Value)),
    K.lookup fa = some ⟨oc, od, .func (PySem.W.fnOf name qual params body scope dV kV doc pm an cdv ct), osl⟩ ∧ PySem.W.codeIn K cdv qual = true ∧ FnScope N fe.ps scope ∧ okSs G N scope fd.body body = true ∧
    ∀ sh ∈ fe.shapes, ShpOk K (PySem.W.fnOf name qual params body scope dV kV doc pm an cdv ct) fe.ps sh
  kp : PySem.W.keepIn K (.ref fa) = true
  np : fd.np = fe.ps.length
  nn : fd.nn = N.length
/-- the whole text -/
structure Txt (K : PySem.W.Frag) (mg : Str → Option Value) (T : Tb) (G : Gs) (g : Gt) (tab : Nat → Option Fd) : Prop where
  gf : GlobF K mg T G g
  fn : ∀ fe ∈ G.fns, ∃ fd N fa, tab fe.f = some fd ∧ mg fe.x = some (.ref fa) ∧ FnK K G fe fd N fa
theorem re_start {T : Tb} {ρ : Nat → Addr} {F : Hp} {n : Nat} {ds : List D} {vs : List V} (r : RL T.ca ρ F n ds vs) (k : Nat) : RE T ρ F n (ds.map some ++ List.replicate k none) (vs.map some ++ List.replicate k none) := by
  refine ⟨by simp [r.length], fun i d h => ?_⟩
  by_cases hi : i < ds.length
  · rw [List.getElem?_append_left (by simpa using hi), List.getElem?_map] at h
    cases e : ds[i]? with
    | none => rw [e] at h; cases h
    | some d' =>
      rw [e] at h
      cases h
      obtain ⟨v, e2, rv⟩ := r.get e
      refine ⟨v, ?_, rv⟩
      rw [List.getElem?_append_left (by rw [List.length_map, ← r.length]; exact hi), List.getElem?_map, e2]
      rfl
  · rw [List.getElem?_append_right (by simp; omega), List.getElem?_replicate] at h
    split at h <;> cases h
theorem lv_all {P : Program} {w : World} {K : PySem.W.Frag} {mg : Str → Option Value} {base : Heap} {T : Tb} {G : Gs} {g : Gt} {tab : Nat → Option Fd} (X : Txt K mg T G g tab) (R : ∀ p ∈ G.rs, RaF P w K mg base T p.1 p.2 1) : ∀ n : Nat, Lv P w K mg base T G (callN g tab n) (n + 3)
  | 0 => ⟨fun fe hfe => by
      obtain ⟨fd, N, fa, h1, h2, F⟩ := X.fn fe hfe
      obtain ⟨name, qual, params, body, scope, dV, kV, doc, pm, cdv, ct, oc, an, od, osl, h3, h4, h5, h6, h7⟩ := F.at_
      refine ⟨fa, _, h2, F.kp, ⟨fun vs H Q E h => h.1, fun A outer s H args us vs Q E _ _ _ _ _ h => ?_⟩, h7, _, _, _, h3⟩
      obtain ⟨_, _, _, _, _, _, _, h⟩ := h
      exact False.elim h⟩
  | n + 1 => ⟨fun fe hfe => by
      have IH := lv_all X R n
      obtain ⟨fd, N, fa, h1, h2, F⟩ := X.fn fe hfe
      obtain ⟨name, qual, params, body, scope, dV, kV, doc, pm, cdv, ct, oc, an, od, osl, h3, h4, h5, h6, h7⟩ := F.at_
      refine ⟨fa, _, h2, F.kp, fnG_of h3 h4 h5 (fun vs H Q E h => h.1) fun A outer s H vs Q E hr hgd ⟨hlen, ρ, F0, S, ds, rl, rvs, P0⟩ => ?_, h7, _, _, _, h3⟩
      have tk := takes_of (X := cxOf (L2.CX P w) P w K mg base N qual scope fa cdv A outer s H E) rfl rfl rfl rfl
      have C : CtxR T g (callN g tab n) G N (fun cls d _ H => E cls d H) (cxOf (L2.CX P w) P w K mg base N qual scope fa cdv A outer s H E) scope :=
        ⟨⟨⟨rfl, rfl, h5.nd, h5.kind, fun x k h => .inl h, fun _ _ => rfl, hgd, ⟨n + 3, hr, IH⟩, X.gf, tk⟩, passes_of rfl, rfl, rfl, rfl⟩, 1, hr.mono (by omega), R⟩
      refine ⟨_, sndSs fd.body body h6 _ _ C, ρ, F0, S, ds.map some ++ List.replicate (N.length - ds.length) none, rl, ?_, ?_⟩
      · have := re_start rvs (N.length - ds.length)
        unfold L2.start
        rw [← rvs.length]
        exact this
      · have hd : ds.length = fd.np := by rw [rvs.length, hlen, F.np]
        have P1 : PostG T K (gV T) ρ F0 S H (ofCR (finish fd.tm ds S (evSs g (callN g tab n) fd.body (ds.map some ++ List.replicate (N.length - ds.length) none) S))) Q E := by
          have e : callN g tab (n + 1) fe.f ds S = finish fd.tm ds S (evSs g (callN g tab n) fd.body (ds.map some ++ List.replicate (N.length - ds.length) none) S) := by
            simp only [callN, h1]
            rw [if_pos hd, F.nn, ← hd]
          rw [← e]; exact P0
        clear P0
        cases q : evSs g (callN g tab n) fd.body (ds.map some ++ List.replicate (N.length - ds.length) none) S with
        | nx e S' =>
          rw [q] at P1
          simp only [finish] at P1
          cases ht : Mp.trim fd.tm ds S S' .non with
          | none => rw [ht] at P1; exact P1.elim
          | some S'' =>
            rw [ht] at P1
            intro ρ' F' H' σ' x rl' re'
            obtain ⟨x2, rl2, _⟩ := trim_ok (v := .non) rl x rl' .non ht
            exact P1 ρ' F' H' .non x2 rl2 .non
        | rt d S' =>
          rw [q] at P1
          simp only [finish] at P1
          cases ht : Mp.trim fd.tm ds S S' d with
          | none => rw [ht] at P1; exact P1.elim
          | some S'' =>
            rw [ht] at P1
            intro ρ' F' H' v x rl' rv'
            obtain ⟨x2, rl2, rv2⟩ := trim_ok rl x rl' rv' ht
            exact P1 ρ' F' H' v x2 rl2 rv2
        | exc c d e S' =>
          rw [q] at P1
          simp only [finish] at P1
          cases ht : Mp.trim fd.tm ds S S' d with
          | none => rw [ht] at P1; exact P1.elim
          | some S'' =>
            rw [ht] at P1
            intro ρ' F' H' σ' dx v x rl' re' rv' hd'
            obtain ⟨x2, rl2, rv2⟩ := trim_ok rl x rl' rv' ht
            exact P1 ρ' F' H' dx v x2 rl2 rv2 hd'
        | bk e S' => rw [q] at P1; exact P1.elim
        | ct e S' => rw [q] at P1; exact P1.elim
        | stuck => rw [q] at P1; exact P1.elim⟩
end Mp
end
section
set_option maxHeartbeats 1000000
namespace Mp
open PySem L2 PyProof.Rows
/-! ### an exception class's own __init__ -/
def isIni (body : List Stmt) : Bool := match body with
  | [.Assign [.Attribute (.Name s _) v _] (.Name v2 _) _] => decide (s = ("self" : Str)) && decide (v = ("value" : Str)) && decide (v2 = ("value" : Str))
  | _ => false
theorem ini_of {P : Program} {w : World} {K : PySem.W.Frag} {mg : Str → Option Value} {base : Heap} {T : Tb} {c : Nat} {f : Addr} {name qual : Str} {params : Arguments} {body : List Stmt} {scope : Scope} {dV kV doc pm cdv ct oc : Value} {an od : Option Addr}
    {osl : Array (Option Value)} (lk : K.lookup f = some ⟨oc, od, .func (PySem.W.fnOf name qual params body scope dV kV doc pm an cdv ct), osl⟩) (hcd : PySem.W.codeIn K cdv qual = true) (S : FnScope ["self", "value"] ["self", "value"] scope) (hb : isIni body = true)
    (h1 : scope.names.lookup ("self" : Str) = some .local) (h2 : scope.names.lookup ("value" : Str) = some .local) (ox : OexC K (T.ca c)) (nov : PySem.W.findIn K (.ref (T.ca c)) "value" = some none) :
    FnOk P w K mg base (L2.CX P w) 1 f (PySem.W.fnOf name qual params body scope dV kV doc pm an cdv ct) ["self", "value"] (spIni T c) := by
  refine fn_of lk hcd S (fun vs H Q E ⟨a, v, e, _⟩ => by rw [e]; rfl) fun A outer s H vs Q E hr ⟨a, v, e, ha, q⟩ => ?_
  subst e
  unfold isIni at hb
  split at hb
  · rename_i s' p1 v' p2 v2 p3 p4
    simp only [Bool.and_eq_true, decide_eq_true_eq] at hb
    obtain ⟨⟨e1, e2⟩, e3⟩ := hb
    subst e1 e2 e3
    refine ⟨_, pss_one (ps_ost (pe_var (i := 0) rfl (.inl h1)) (pe_var (i := 1) rfl (.inl h2)) rfl), v, rfl, .ref a, rfl, a, T.ca c, rfl, ox, nov, .inl ⟨ha, q⟩⟩
  · cases hb
/-! ### a def's scope -/
def fnScB (N P : List Str) (sc : Scope) : Bool :=
  decide (sc.kind = .function) && !sc.isCoroutine && !sc.isGenerator && decide N.Nodup && decide (N.take P.length = P) && P.all (fun x => decide (sc.names.lookup x = some .local) || decide (sc.names.lookup x = some .cell)) && sc.names.all fun y => !decide (y.2 = .free)
theorem fnSc_of {N P : List Str} {sc : Scope} (h : fnScB N P sc = true) : FnScope N P sc := by
  unfold fnScB at h
  simp only [Bool.and_eq_true, decide_eq_true_eq, Bool.not_eq_true', List.all_eq_true, Bool.or_eq_true, decide_eq_false_iff_not] at h
  obtain ⟨⟨⟨⟨⟨⟨h1, h2⟩, h3⟩, h4⟩, h5⟩, h6⟩, h7⟩ := h
  exact ⟨h1, h2, h3, h4, h5, h6, h7⟩
/-! ### the law -/
theorem law_callG {P : Program} {w : World} {K : PySem.W.Frag} {mg mb : Str → Option Value} {CX : CXT} {k : Nat} {fa a : Addr} {fd : FuncData} {x : Str} {sp : Sp} {s₁ : Shared} {vs : List Value} {ns : List Int}
    (KX : K.In s₁.heap) (hns : s₁.heap.Ns mainGlobals mg) (hb : s₁.heap.Ns builtinsNs mb) (hbb : ∀ x : Str, x ≠ "__name__" → mb x = bootBuiltins x) (hlim : s₁.heap.NoLimit) (hg : s₁.gens = #[])
    (ha : s₁.heap.get? a = some { cls := .type "list", data := .seq vs.toArray }) (hi : IntsAre vs ns) (hl : ns.length ≤ sizeLine) (hr : Room k callerA) (hk : K.lookup a = none)
    (F : ∀ base : Heap, K.In base → base.Ns mainGlobals mg → FnG P w K mg base CX k fa fd [x] sp) (hbind : ∀ (s : Shared) (u : Value), K.In s.heap → BindsTo s fd ⟨[u], []⟩ [(x, u)])
    (hsp : ∀ (H : Hp) o, H a = some (.frz o (.lst (ns.map V.int))) → (∀ b, b ≠ a → H b = none) → sp [.ref a] H (fun v _ => v = .bl true) fun _ _ _ => False)
    (hCX : ∀ H e s', CX [] H s₁ (fun _ _ _ => False) e s' → False) :
    codeAny (model P w) callerA (.call (.ref fa) ⟨[.ref a], []⟩) (fun r s' => r = .ok (.ret (.bool true)) ∧ OldK s₁.heap s'.heap ∧ s'.os = s₁.os ∧ AllBare s'.gens) s₁ := by
  have rv := vals_ints hi
  have lenV := hi.length
  let H : Hp := fun b => if b = a then some (.frz { cls := .type "list", data := .seq vs.toArray } (.lst (ns.map V.int))) else none
  have Ha : H a = some (.frz { cls := .type "list", data := .seq vs.toArray } (.lst (ns.map V.int))) := if_pos rfl
  have Hn : ∀ b, b ≠ a → H b = none := fun b hb => if_neg hb
  have hok : HOk P w H s₁.heap := fun b u z => by
    by_cases hb : b = a
    · subst hb
      rw [Ha] at z
      cases z
      exact ⟨ha, by rw [List.length_map]; exact hl, vs, _, rv, ha⟩
    · rw [Hn b hb] at z; cases z
  have hA : ∀ b, H b ≠ none → b = a := fun b z => by
    by_cases hb : b = a
    · exact hb
    · exact absurd (Hn b hb) z
  have base_of : ∀ {b : Addr} {o : Obj}, s₁.heap.get? b = some o → H b = none → (hidT s₁.heap H).get? b = some o := fun e n => hidT_get e n
  have noA : ∀ {b : Addr} {o : Obj} {es : Array DictEntry} {ep : Nat}, s₁.heap.get? b = some o → o.data = .dict es ep → H b = none := fun {b o es ep} e d => by
    cases q : H b with
    | none => rfl
    | some u =>
      have e' : b = a := hA b (by rw [q]; simp)
      subst e'
      rw [ha] at e; cases e
      have d' : Data.seq vs.toArray _ = Data.dict es ep := d
      cases d'
  have nsK : ∀ {b : Addr} {m : Str → Option Value}, s₁.heap.Ns b m → (hidT s₁.heap H).Ns b m := fun {b m} ⟨o, es, ep, e, d, r⟩ => ⟨o, es, ep, base_of e (noA e d), d, r⟩
  have hKb : K.In (hidT s₁.heap H) := fun b o e => base_of (KX b o e) (by
    cases q : H b with
    | none => rfl
    | some u =>
      have e' : b = a := hA b (by rw [q]; simp)
      subst e'
      rw [hk] at e; cases e)
  have hM : Mod K mg (hidT s₁.heap H) := ⟨hKb, nsK hns, ⟨mb, nsK hb, hbb⟩, let ⟨mc, h1, h2⟩ := hlim; ⟨mc, nsK h1, h2⟩⟩
  have e0 : Env0 P w K mg (hidT s₁.heap H) callerA [] s₁ H := ⟨rfl, hM, fun b o e => of_hidT e, Nat.le_of_eq (hidT_size _ _), trivial, fun b hb => absurd (show b ∈ ([] : List Addr) from hb) (by simp), hok, .of_eq hg⟩
  refine codeAny_mono ((F _ hKb (nsK hns)).run callerA [] s₁ H ⟨[.ref a], []⟩ [.ref a] [.ref a] _ _ hr rfl e0 (hbind s₁ (.ref a) KX) (.cons rfl .nil) (hsp H _ Ha Hn)) fun r s' h => ?_
  cases r with
  | error e => exact (hCX H e s' h).elim
  | ok fl =>
    cases fl with
    | next => exact False.elim h
    | brk => exact False.elim h
    | cont => exact False.elim h
    | ret u =>
      obtain ⟨v, H', os, bare, un, hok', r', q⟩ := h
      have q' : v = .bl true := q
      subst q'
      obtain rfl : u = Value.bool true := r'
      refine ⟨rfl, OldK.of_keep fun b o e => ?_, os, bare⟩
      cases q : H b with
      | none => exact un.keep b o e q (by intro z; exact absurd (show b ∈ ([] : List Addr) from z) (by simp)) (by simp)
      | some u =>
        have hb := hA b (by rw [q]; simp)
        subst hb
        have z2 := un.frzs b _ _ Ha
        obtain ⟨e1, _⟩ := hok b _ Ha
        obtain ⟨e2, _⟩ := hok' b _ z2
        rw [e] at e1; cases e1
        exact e2
def lawShp : Shp := ⟨1, [], [0], []⟩
def noList (K : PySem.W.Frag) : Bool := K.all fun p => !(match p.2.cls with | .type t => t == "list" | _ => false)
theorem noList_of {K : PySem.W.Frag} (h : noList K = true) {a : Addr} {o : Obj} (e : K.lookup a = some o) : o.cls ≠ .type "list" := fun z => by
  have : ∀ (l : List (Addr × Obj)), l.lookup a = some o → (a, o) ∈ l := by
    intro l
    induction l with
    | nil => intro h; simp at h
    | cons p r ih =>
      intro h
      rw [List.lookup_cons] at h
      cases hb : a == p.1 with
      | true =>
        rw [hb] at h
        cases h
        have : a = p.1 := by simpa using hb
        rw [this]
        exact List.mem_cons_self
      | false =>
        rw [hb] at h
        exact List.mem_cons_of_mem _ (ih h)
  have := List.all_eq_true.mp h _ (this K e)
  simp [z] at this
theorem mp_walk {l : PySem.W.OpenLaw} {n depth : Nat} {q : Program} {loose : List Str} {XP : (Str → Option Value) → Heap → Prop} {YP : World → Heap → Prop} {d : DefRec} {K : Params → PySem.W.Frag} {x : Str}
    (hn : l.most = some n) (hn2 : n ≤ sizeLine) (hdf : d.params.defaults = []) (hr : Room (depth + 3) callerA)
    (hY : ∀ (w : World) (h : Heap), YP w h → (K w.params).In h)
    {G : Gs} {g : Gt} {tab : Nat → Option Fd} {fe : FnE}
    (hfe : fe ∈ G.fns) (hfx : fe.x = d.name) (hps : fe.ps = [x]) (hsh : lawShp ∈ fe.shapes)
    (F : ∀ (w : World) (mg : Str → Option Value) (h : Heap), (K w.params).In h → h.Ns mainGlobals mg → ∃ T : Tb, noList (K w.params) = true ∧ Txt (K w.params) mg T G g tab ∧ ∀ base : Heap, (K w.params).In base → base.Ns mainGlobals mg → ∀ p ∈ G.rs, RaF l.prog w (K w.params) mg base T p.1 p.2 1)
    (law : ∀ ns : List Int, ns.length ≤ n → ∃ S', callN g tab depth fe.f [.slst (ns.map .int)] [] = .ret (.bl true) S') :
    PySem.W.WalkO q loose XP YP l.row.toRowW d [] (fun f vs => PySem.call f vs) := by
  refine Att.attach_call hn hdf fun w s₀ s₁ mg mb fa o pm cd doc a vs ns GG Y ho hd hcd hmg hobj hints hlen hg => ?_
  have KX := hY w _ Y
  obtain ⟨T, nl, X, R⟩ := F w mg _ KX GG.T.g
  obtain ⟨fd, N, fa', h1, h2, FK⟩ := X.fn fe hfe
  rw [hfx, hmg] at h2
  cases h2
  have hk : (K w.params).lookup a = none := by
    cases e : (K w.params).lookup a with
    | none => rfl
    | some ob =>
      have := KX a ob e
      rw [hobj] at this
      cases this
      exact absurd rfl (noList_of nl e)
  obtain ⟨name, qual, params, body, scope, dV, kV, doc', pm', cdv, ct, oc, an, od, osl, h3, h4, h5, h6, h7⟩ := FK.at_
  obtain ⟨ds, rds, hbd⟩ := (h7 lawShp hsh).to
  have hds : ds = [] := by
    have := rds.length
    simp [lawShp] at this
    cases ds with
    | nil => rfl
    | cons _ _ => simp at this
  refine law_callG (fd := PySem.W.fnOf name qual params body scope dV kV doc' pm' an cdv ct) (x := x) (sp := spF T (K w.params) 1 (callN g tab depth) fe.f) (CX := L2.CX l.prog w) KX GG.T.g GG.T.b GG.T.builtins GG.T.nolimit hg hobj hints (Nat.le_trans hlen hn2) hr hk (fun base hb1 hb2 => ?_) (fun s u hK => ?_) (fun H o Ha Hn => ?_) fun H e s' ⟨_, _, _, _, _, _, _, _, _, _, _, _, z⟩ => z.elim
  · obtain ⟨fa2, fd2, e1, e2, e3, e4, _, _, _, e5⟩ := (lv_all X (R base hb1 hb2) depth).fn fe hfe
    rw [hfx, hmg] at e1
    cases e1
    rw [h3] at e5
    cases e5
    rw [hps] at e3
    exact e3
  · have := hbd s [u] [] hK rfl rfl
    rw [hps, hds] at this
    exact this
  · obtain ⟨S', hlaw⟩ := law ns hlen
    refine ⟨rfl, fun _ => 0, fun b => if b = a then some (.frz o (.lst (ns.map V.int))) else none, [], [.slst (ns.map .int)], ⟨fun b u e => ?_, fun l o e => by simp at e, fun l m h => by simp at h, fun l o e => by simp at e, fun l h => by simp at h⟩, .cons (.slst (if_pos rfl) (RL.of_ints ns)) .nil, ?_⟩
    · by_cases hb : b = a
      · subst hb
        rw [if_pos rfl] at e
        cases e
        exact Ha
      · rw [if_neg hb] at e; cases e
    · rw [hlaw]
      intro ρ' F' H' v _ _ rv
      cases rv
      rfl
end Mp
end
section
set_option maxHeartbeats 1000000
namespace Mp
open PySem L2 PyProof.Rows
/-! ### how a def stands behind the top -/
def FnR (K : PySem.W.Frag) (x qual : Str) (st : Stmt) (dV : Value) (fa : Addr) : Prop :=
  ∃ (oc : Value) (od : Option Addr) (kV doc pm : Value) (an : Option Addr) (cdv ct : Value) (osl : Array (Option Value)), K.lookup fa = some ⟨oc, od, .func (PySem.W.fnOf x qual (defArgs st) (defBody st) (defScope st) dV kV doc pm an cdv ct), osl⟩ ∧ PySem.W.codeIn K cdv qual = true ∧ PySem.W.keepIn K (.ref fa) = true
def FnA (K : PySem.W.Frag) (x : Str) (st : Stmt) : Prop := ∃ fa, PySem.W.nsIn K mainGlobals x = some (some (.ref fa)) ∧ FnR K x x st .none fa
def FnD (K : PySem.W.Frag) (x : Str) (st : Stmt) (dvs : List D) : Prop := ∃ fa T o n, ∃ its : List Value, PySem.W.nsIn K mainGlobals x = some (some (.ref fa)) ∧ K.lookup T = some o ∧ o.data = .seq its.toArray n ∧ Vals (dvs.map constV) its ∧ FnR K x x st (.ref T) fa
theorem fnA_mk {K : PySem.W.Frag} {x : Str} {st : Stmt} {fa : Addr} {oc kV doc pm cdv ct : Value} {od an : Option Addr} {osl : Array (Option Value)} (a : PySem.W.nsIn K mainGlobals x = some (some (.ref fa)))
    (l : K.lookup fa = some ⟨oc, od, .func (PySem.W.fnOf x x (defArgs st) (defBody st) (defScope st) .none kV doc pm an cdv ct), osl⟩) (c : PySem.W.codeIn K cdv x = true) (k : PySem.W.keepIn K (.ref fa) = true) : FnA K x st := ⟨fa, a, oc, od, kV, doc, pm, an, cdv, ct, osl, l, c, k⟩
theorem fnD_mk {K : PySem.W.Frag} {x : Str} {st : Stmt} {fa T : Addr} {oc kV doc pm cdv ct ocT : Value} {od an odT : Option Addr} {osl slT : Array (Option Value)} {its : List Value} {n : Nat} {dvs : List D} (a : PySem.W.nsIn K mainGlobals x = some (some (.ref fa)))
    (l : K.lookup fa = some ⟨oc, od, .func (PySem.W.fnOf x x (defArgs st) (defBody st) (defScope st) (.ref T) kV doc pm an cdv ct), osl⟩) (c : PySem.W.codeIn K cdv x = true) (k : PySem.W.keepIn K (.ref fa) = true)
    (d : K.lookup T = some ⟨ocT, odT, .seq its.toArray n, slT⟩) (v : Vals (dvs.map constV) its) : FnD K x st dvs := ⟨fa, T, _, n, its, a, d, rfl, v, oc, od, kV, doc, pm, an, cdv, ct, osl, l, c, k⟩
theorem fnR_mk {K : PySem.W.Frag} {x qual : Str} {st : Stmt} {dV : Value} {fa : Addr} {oc kV doc pm cdv ct : Value} {od an : Option Addr} {osl : Array (Option Value)}
    (l : K.lookup fa = some ⟨oc, od, .func (PySem.W.fnOf x qual (defArgs st) (defBody st) (defScope st) dV kV doc pm an cdv ct), osl⟩) (c : PySem.W.codeIn K cdv qual = true) (k : PySem.W.keepIn K (.ref fa) = true) : FnR K x qual st dV fa := ⟨oc, od, kV, doc, pm, an, cdv, ct, osl, l, c, k⟩
theorem shp0 {K : PySem.W.Frag} {fd : FuncData} {ps : List Str} {sh : Shp} (hd : sh.dv = []) (h : ∀ us ws : List Value, us.length = sh.np → ws.length = sh.ks.length → bindArgs fd ⟨us, sh.ks.zip ws⟩ = pure (ps.zip (pickL Value.none sh.perm (us ++ ws ++ [])))) : ShpOk K fd ps sh :=
  ⟨by rw [hd]; rfl, [], by rw [hd]; exact .nil, fun s us ws _ h1 h2 => .of_eq (h us ws h1 h2)⟩
theorem shpD {K : PySem.W.Frag} {fd : FuncData} {ps : List Str} {sh : Shp} {dvs : List D} (j : Nat) (hd : sh.dv = dvs.drop j) (hc : dvs.all isConst = true) {T : Addr} {o : Obj} {its : List Value} {n : Nat} (lT : K.lookup T = some o) (oT : o.data = .seq its.toArray n) (rT : Vals (dvs.map constV) its)
    (h : ∀ us ws its : List Value, us.length = sh.np → ws.length = sh.ks.length → its.length = dvs.length → ∃ k, bindArgs fd ⟨us, sh.ks.zip ws⟩ = seqItems? (.ref T) >>= k ∧ k (some its.toArray) = pure (ps.zip (pickL Value.none sh.perm (us ++ ws ++ its.drop j)))) : ShpOk K fd ps sh := by
  refine ⟨?_, its.drop j, ?_, fun s us ws X h1 h2 => ?_⟩
  · rw [hd, List.all_eq_true]
    exact fun x hx => List.all_eq_true.mp hc x (List.mem_of_mem_drop hx)
  · have q := rT.drop j
    rw [← List.map_drop] at q
    rw [hd]
    exact q
  · obtain ⟨k, e1, e2⟩ := h us ws its h1 h2 (by have := rT.length; rw [List.length_map] at this; exact this.symm)
    refine BindsTo.of_looks fun M => ?_
    rw [e1]
    exact looks_items X lT oT (.of_pure e2)
theorem fnK_mk {K : PySem.W.Frag} {G : Gs} {fe : FnE} {fd : Fd} {N : List Str} {fa : Addr} {x qual : Str} {st : Stmt} {dV : Value} (R : FnR K x qual st dV fa) (S : fnScB N fe.ps (defScope st) = true) (ok : okSs G N (defScope st) fd.body (defBody st) = true)
    (sh : ∀ (kV doc pm : Value) (an : Option Addr) (cdv ct : Value), ∀ sh ∈ fe.shapes, ShpOk K (PySem.W.fnOf x qual (defArgs st) (defBody st) (defScope st) dV kV doc pm an cdv ct) fe.ps sh) (np : fd.np = fe.ps.length) (nn : fd.nn = N.length) : FnK K G fe fd N fa := by
  obtain ⟨oc, od, kV, doc, pm, an, cdv, ct, osl, l, c, k⟩ := R
  exact ⟨⟨x, qual, _, _, _, dV, kV, doc, pm, cdv, ct, oc, an, od, osl, l, c, fnSc_of S, ok, sh kV doc pm an cdv ct⟩, k, np, nn⟩
/-! ### exception classes -/
theorem exC_mk {K : PySem.W.Frag} {C N : Addr} {nm q : Str} {bs bm : List Value} {sn : List Str} {sub : List Value} {ab : Bool} {col : Option Bool} {dd : Option Addr} {k0 k1 k2 k3 k5 : Option Value}
    (xL : K.lookup C = some (excClassObj nm q C N bs bm true sn sub ab col dd k0 k1 k2 k3 k5 "ValueError.__new__")) (rv : PySem.HandSPX.refsVE bm = true) (sa : PySem.W.findIn K (.ref C) "__setattr__" = some (some (.builtin "object.__setattr__")))
    (ga : PySem.W.findIn K (.ref C) "__getattribute__" = some (some (.builtin "BaseException.__getattribute__"))) (gg : PySem.W.findIn K (.ref C) "__getattr__" = some none) (nov : PySem.W.findIn K (.ref C) "value" = some none)
    (kC : PySem.W.keepIn K (.ref C) = true) (eC : PySem.W.subIn K (.ref C) (.type "BaseException") = some true) (tC : PySem.W.typeIn K (.ref C) = some (.type "type")) (hC : PySem.W.hasDictIn K C = true)
    (cl : (PySem.W.clsIn K C).isSome = true) (ha : PySem.W.findIn K (.ref C) "__class__" = some (some (.builtin "object.__class__"))) (hm : PySem.W.mroIn K C (.type "object") = some true) : ExC K C :=
  ⟨⟨⟨nm, q, N, bs, bm, sn, sub, ab, col, dd, k0, k1, k2, k3, k5, xL, rv⟩, sa, eC, tC, kC⟩, cl, ga, gg, hC, ha, hm, nov⟩
theorem raF_mk {P : Program} {w : World} {K : PySem.W.Frag} {mg : Str → Option Value} {base : Heap} {T : Tb} {x : Str} {c : Nat} {C fI D : Addr} {qual : Str} {st : Stmt} {o : Obj} {its : List Value} {n : Nat} (hC : T.ca c = C) (E : ExC K C) (hm : mg x = some (.ref C))
    (iC : PySem.W.findIn K (.ref C) "__init__" = some (some (.ref fI))) (tI : PySem.W.typeIn K (.ref fI) = some (.type "function")) (R : FnR K "__init__" qual st (.ref D) fI) (lD : K.lookup D = some o) (oD : o.data = .seq its.toArray n) (hl : its.length = 1)
    (S : fnScB ["self", "value"] ["self", "value"] (defScope st) = true) (hb : isIni (defBody st) = true) (h1 : (defScope st).names.lookup ("self" : Str) = some .local) (h2 : (defScope st).names.lookup ("value" : Str) = some .local)
    (hbd : ∀ (kV doc pm : Value) (an : Option Addr) (cdv ct : Value) (us its : List Value), us.length = 2 → its.length = 1 → ∃ k, bindArgs (PySem.W.fnOf "__init__" qual (defArgs st) (defBody st) (defScope st) (.ref D) kV doc pm an cdv ct) ⟨us, []⟩ = seqItems? (.ref D) >>= k ∧ k (some its.toArray) = pure ((["self", "value"] : List Str).zip us)) :
    RaF P w K mg base T x c 1 := by
  subst hC
  obtain ⟨oc, od, kV, doc, pm, an, cdv, ct, osl, l, cc, k⟩ := R
  refine ⟨E.oex, ⟨fI, _, iC, tI, ini_of l cc (fnSc_of S) hb h1 h2 E.oex E.nov, fun s us X hlen => ?_⟩, hm⟩
  rw [List.append_nil] at hlen ⊢
  obtain ⟨kk, e1, e2⟩ := hbd kV doc pm an cdv ct us its hlen hl
  refine BindsTo.of_looks fun M => ?_
  rw [e1]
  exact looks_items X lD oD (.of_pure e2)
end Mp
end
section
/-! Rows for walking through a code by simp (none of them by rfl, so that the kernel need not unfold the evaluator). -/
namespace Mp
def Res.toS {α : Type} (r : Res α) (e : Env) (k : α → Store → SR) : SR := match r with
  | .ok a S => k a S
  | .exc c v S => .exc c v e S
  | .stuck => .stuck
def SR.seq (r : SR) (k : Env → Store → SR) : SR := match r with
  | .nx e S => k e S
  | x => x
@[simp] theorem toS_ok {α : Type} {a : α} {S : Store} {e : Env} {k : α → Store → SR} : (Res.ok a S).toS e k = k a S := by rw [Res.toS]
@[simp] theorem toS_exc {α : Type} {c : Nat} {v : D} {S : Store} {e : Env} {k : α → Store → SR} : (Res.exc c v S : Res α).toS e k = .exc c v e S := by rw [Res.toS]
@[simp] theorem toS_stuck {α : Type} {e : Env} {k : α → Store → SR} : (Res.stuck : Res α).toS e k = .stuck := by rw [Res.toS]
@[simp] theorem seq_nx {e : Env} {S : Store} {k : Env → Store → SR} : (SR.nx e S).seq k = k e S := by rw [SR.seq]
@[simp] theorem seq_rt {d : D} {S : Store} {k : Env → Store → SR} : (SR.rt d S).seq k = .rt d S := by rw [SR.seq]; simp
@[simp] theorem seq_bk {e : Env} {S : Store} {k : Env → Store → SR} : (SR.bk e S).seq k = .bk e S := by rw [SR.seq]; simp
@[simp] theorem seq_ct {e : Env} {S : Store} {k : Env → Store → SR} : (SR.ct e S).seq k = .ct e S := by rw [SR.seq]; simp
@[simp] theorem seq_exc {c : Nat} {v : D} {e : Env} {S : Store} {k : Env → Store → SR} : (SR.exc c v e S).seq k = .exc c v e S := by rw [SR.seq]; simp
@[simp] theorem seq_stuck {k : Env → Store → SR} : (SR.stuck).seq k = .stuck := by rw [SR.seq]; simp
theorem bindE_ok {α β : Type} {a : α} {S : Store} {k : α → Store → Res β} : (Res.ok a S).bind k = k a S := by rw [Res.bind]
def negK (x : D) (S : Store) : Res D := match x with
    | .int i => .ok (.int (-i)) S
    | _ => .stuck
@[simp] theorem negK_i {i : Int} {S : Store} : negK (.int i) S = .ok (.int (-i)) S := by rw [negK]
def chK (k : D) (r : Res D) (S : Store) : Res D := match k with
    | .bl true => r
    | _ => .ok (.bl false) S
@[simp] theorem chK_t {r : Res D} {S : Store} : chK (.bl true) r S = r := by rw [chK]
@[simp] theorem chK_f {r : Res D} {S : Store} : chK (.bl false) r S = .ok (.bl false) S := by rw [chK]; simp
theorem chK_b {k : Bool} {r : Res D} {S : Store} : chK (.bl k) r S = if k then r else .ok (.bl false) S := by cases k <;> simp
def pmK (o : Option (List D)) (f : List D → Store → Res D) (S : Store) : Res D := match o with
    | some zs => f zs S
    | none => .stuck
@[simp] theorem pmK_s {zs : List D} {f : List D → Store → Res D} {S : Store} : pmK (some zs) f S = f zs S := by rw [pmK]
def bdK (o : Option Env) : Res Env := match o with
    | some e => .ok e []
    | none => .stuck
@[simp] theorem bdK_s {e : Env} : bdK (some e) = .ok e [] := by rw [bdK]
def bdS (o : Option Env) (S : Store) : SR := match o with
    | some e => .nx e S
    | none => .stuck
@[simp] theorem bdS_s {e : Env} {S : Store} : bdS (some e) S = .nx e S := by rw [bdS]
def siK (o : Option Store) : Res Unit := match o with
    | some S => .ok () S
    | none => .stuck
@[simp] theorem siK_s {S : Store} : siK (some S) = .ok () S := by rw [siK]
def rgK (x : D) (S : Store) : Res (List D × Chk) := match x with
    | .int j => if small62 j then .ok (rangeD 0 j.toNat, []) S else .stuck
    | _ => .stuck
@[simp] theorem rgK_i {j : Int} {S : Store} : rgK (.int j) S = if small62 j then .ok (rangeD 0 j.toNat, []) S else .stuck := by rw [rgK]
def r2K (x y : D) (S : Store) : Res (List D × Chk) := match x, y with
    | .int i, .int j => if small62 i && small62 j then .ok (rangeD i (j - i).toNat, []) S else .stuck
    | _, _ => .stuck
@[simp] theorem r2K_i {i j : Int} {S : Store} : r2K (.int i) (.int j) S = if small62 i && small62 j then .ok (rangeD i (j - i).toNat, []) S else .stuck := by rw [r2K]
def esK (x : D) (S : Store) : Res (List D × Chk) := match x with
    | .str s => .ok (enumD 0 (s.map fun c => .str [c]), []) S
    | _ => .stuck
@[simp] theorem esK_s {t : List Nat} {S : Store} : esK (.str t) S = .ok (enumD 0 (t.map fun c => .str [c]), []) S := by rw [esK]
def stK (x : D) (S : Store) : Res (List D × Chk) := match x with
    | .str s => .ok (s.map fun c => .str [c], []) S
    | _ => .stuck
@[simp] theorem stK_s {t : List Nat} {S : Store} : stK (.str t) S = .ok (t.map fun c => .str [c], []) S := by rw [stK]
def enK (x : D) (S : Store) : Res (List D × Chk) := (items1 x S).bind fun xk S => match x with
    | .tup _ => .stuck
    | _ => .ok (enumD 0 xk.1, xk.2) S
def zpK (x y : D) (S : Store) : Res (List D × Chk) := match x, y with
    | .tup xs, .tup ys => .ok (zipD xs ys, []) S
    | .tup _, _ => .stuck
    | _, .tup _ => .stuck
    | x, y => (items1 x S).bind fun xk S => (items1 y S).bind fun yk S => .ok (zipD xk.1 yk.1, xk.2 ++ yk.2) S
@[simp] theorem zpK_l {xs ys : List D} {S : Store} : zpK (.lst xs) (.lst ys) S = .ok (zipD xs ys, []) S := by simp [zpK, items1, asQ, asL]
@[simp] theorem zpK_t {xs ys : List D} {S : Store} : zpK (.tup xs) (.tup ys) S = .ok (zipD xs ys, []) S := by simp [zpK]
@[simp] theorem enK_l {xs : List D} {S : Store} : enK (.lst xs) S = .ok (enumD 0 xs, []) S := by simp [enK, items1, asQ, asL]
def tryK (g : Gt) (suite : Env → Store → SR) (cc i : Nat) (e : Env) (r : SR) : SR := match r with
    | .exc c v e' S' => (match g.sub c cc with
      | some true => (match suite (e'.set i (some (.exn c v))) S' with
        | .nx e S => .nx (e.set i none) S
        | .bk e S => .bk (e.set i none) S
        | .ct e S => .ct (e.set i none) S
        | .rt d S => .rt d S
        | _ => .stuck)
      | some false => .exc c v e' S'
      | none => .stuck)
    | r => r
def kBin2 (m : Bool) (op : BOp) (x : D) (y : D) (S : Store) : Res D := binop m op x y S
@[simp] theorem kBin2_ap {m : Bool} {op : BOp} {x : D} {y : D} {S : Store} : kBin2 m op x y S = binop m op x y S := by rw [kBin2]
def kBin (g : Gt) (C : Call) (m : Bool) (op : BOp) (b : Cd) (e : Env) (x : D) (S : Store) : Res D := (evE g C b e S).bind (kBin2 m op x)
@[simp] theorem kBin_ap {g : Gt} {C : Call} {m : Bool} {op : BOp} {b : Cd} {e : Env} {x : D} {S : Store} : kBin g C m op b e x S = (evE g C b e S).bind (kBin2 m op x) := by rw [kBin]
def kNot2  (b : Bool) (S : Store) : Res D := .ok (.bl (!b)) S
@[simp] theorem kNot2_ap  {b : Bool} {S : Store} : kNot2  b S = .ok (.bl (!b)) S := by rw [kNot2]
def kNot  (x : D) (S : Store) : Res D := (tr x S).bind kNot2
@[simp] theorem kNot_ap  {x : D} {S : Store} : kNot  x S = (tr x S).bind kNot2 := by rw [kNot]
def kAnd2 (g : Gt) (C : Call) (b : Cd) (e : Env) (x : D) (k : Bool) (S : Store) : Res D := if k then evE g C b e S else .ok x S
@[simp] theorem kAnd2_ap {g : Gt} {C : Call} {b : Cd} {e : Env} {x : D} {k : Bool} {S : Store} : kAnd2 g C b e x k S = if k then evE g C b e S else .ok x S := by rw [kAnd2]
def kAnd (g : Gt) (C : Call) (b : Cd) (e : Env) (x : D) (S : Store) : Res D := (tr x S).bind (kAnd2 g C b e x)
@[simp] theorem kAnd_ap {g : Gt} {C : Call} {b : Cd} {e : Env} {x : D} {S : Store} : kAnd g C b e x S = (tr x S).bind (kAnd2 g C b e x) := by rw [kAnd]
def kOr2 (g : Gt) (C : Call) (b : Cd) (e : Env) (x : D) (k : Bool) (S : Store) : Res D := if k then .ok x S else evE g C b e S
@[simp] theorem kOr2_ap {g : Gt} {C : Call} {b : Cd} {e : Env} {x : D} {k : Bool} {S : Store} : kOr2 g C b e x k S = if k then .ok x S else evE g C b e S := by rw [kOr2]
def kOr (g : Gt) (C : Call) (b : Cd) (e : Env) (x : D) (S : Store) : Res D := (tr x S).bind (kOr2 g C b e x)
@[simp] theorem kOr_ap {g : Gt} {C : Call} {b : Cd} {e : Env} {x : D} {S : Store} : kOr g C b e x S = (tr x S).bind (kOr2 g C b e x) := by rw [kOr]
def kIte2 (g : Gt) (C : Call) (a : Cd) (b : Cd) (e : Env) (k : Bool) (S : Store) : Res D := if k then evE g C a e S else evE g C b e S
@[simp] theorem kIte2_ap {g : Gt} {C : Call} {a : Cd} {b : Cd} {e : Env} {k : Bool} {S : Store} : kIte2 g C a b e k S = if k then evE g C a e S else evE g C b e S := by rw [kIte2]
def kIte (g : Gt) (C : Call) (a : Cd) (b : Cd) (e : Env) (x : D) (S : Store) : Res D := (tr x S).bind (kIte2 g C a b e)
@[simp] theorem kIte_ap {g : Gt} {C : Call} {a : Cd} {b : Cd} {e : Env} {x : D} {S : Store} : kIte g C a b e x S = (tr x S).bind (kIte2 g C a b e) := by rw [kIte]
def kCmp2 (op : COp) (x : D) (y : D) (S : Store) : Res D := oneB (cmpop op x y S) S
@[simp] theorem kCmp2_ap {op : COp} {x : D} {y : D} {S : Store} : kCmp2 op x y S = oneB (cmpop op x y S) S := by rw [kCmp2]
def kCmp (g : Gt) (C : Call) (op : COp) (b : Cd) (e : Env) (x : D) (S : Store) : Res D := (evE g C b e S).bind (kCmp2 op x)
@[simp] theorem kCmp_ap {g : Gt} {C : Call} {op : COp} {b : Cd} {e : Env} {x : D} {S : Store} : kCmp g C op b e x S = (evE g C b e S).bind (kCmp2 op x) := by rw [kCmp]
def kCh3 (g : Gt) (C : Call) (op : COp) (c : Cd) (e : Env) (y : D) (k : D) (S : Store) : Res D := chK k ((evE g C c e S).bind (kCmp2 op y)) S
@[simp] theorem kCh3_ap {g : Gt} {C : Call} {op : COp} {c : Cd} {e : Env} {y : D} {k : D} {S : Store} : kCh3 g C op c e y k S = chK k ((evE g C c e S).bind (kCmp2 op y)) S := by rw [kCh3]
def kCh2 (g : Gt) (C : Call) (op : COp) (op2 : COp) (c : Cd) (e : Env) (x : D) (y : D) (S : Store) : Res D := (oneB (cmpop op x y S) S).bind (kCh3 g C op2 c e y)
@[simp] theorem kCh2_ap {g : Gt} {C : Call} {op : COp} {op2 : COp} {c : Cd} {e : Env} {x : D} {y : D} {S : Store} : kCh2 g C op op2 c e x y S = (oneB (cmpop op x y S) S).bind (kCh3 g C op2 c e y) := by rw [kCh2]
def kCh (g : Gt) (C : Call) (op : COp) (op2 : COp) (b : Cd) (c : Cd) (e : Env) (x : D) (S : Store) : Res D := (evE g C b e S).bind (kCh2 g C op op2 c e x)
@[simp] theorem kCh_ap {g : Gt} {C : Call} {op : COp} {op2 : COp} {b : Cd} {c : Cd} {e : Env} {x : D} {S : Store} : kCh g C op op2 b c e x S = (evE g C b e S).bind (kCh2 g C op op2 c e x) := by rw [kCh]
def kTup  (xs : List D) (S : Store) : Res D := if xs.length ≤ lim then .ok (.tup xs) S else .stuck
@[simp] theorem kTup_ap  {xs : List D} {S : Store} : kTup  xs S = if xs.length ≤ lim then .ok (.tup xs) S else .stuck := by rw [kTup]
def kLst (m : Bool) (xs : List D) (S : Store) : Res D := if xs.length ≤ lim then alloc m xs S else .stuck
@[simp] theorem kLst_ap {m : Bool} {xs : List D} {S : Store} : kLst m xs S = if xs.length ≤ lim then alloc m xs S else .stuck := by rw [kLst]
def kCall (C : Call) (f : Nat) (dv : List D) (xs : List D) (S : Store) : Res D := ofCR (C f (xs ++ dv) S)
@[simp] theorem kCall_ap {C : Call} {f : Nat} {dv : List D} {xs : List D} {S : Store} : kCall C f dv xs S = ofCR (C f (xs ++ dv) S) := by rw [kCall]
def kCkP (C : Call) (f : Nat) (zs : List D) (S : Store) : Res D := ofCR (C f zs S)
@[simp] theorem kCkP_ap {C : Call} {f : Nat} {zs : List D} {S : Store} : kCkP C f zs S = ofCR (C f zs S) := by rw [kCkP]
def kCk2 (C : Call) (f : Nat) (perm : List Nat) (dv : List D) (xs : List D) (ys : List D) (S : Store) : Res D := pmK (permD perm (xs ++ ys ++ dv)) (kCkP C f) S
@[simp] theorem kCk2_ap {C : Call} {f : Nat} {perm : List Nat} {dv : List D} {xs : List D} {ys : List D} {S : Store} : kCk2 C f perm dv xs ys S = pmK (permD perm (xs ++ ys ++ dv)) (kCkP C f) S := by rw [kCk2]
def kCk (g : Gt) (C : Call) (f : Nat) (ks : Cds) (perm : List Nat) (dv : List D) (e : Env) (xs : List D) (S : Store) : Res D := (evEs g C ks e S).bind (kCk2 C f perm dv xs)
@[simp] theorem kCk_ap {g : Gt} {C : Call} {f : Nat} {ks : Cds} {perm : List Nat} {dv : List D} {e : Env} {xs : List D} {S : Store} : kCk g C f ks perm dv e xs S = (evEs g C ks e S).bind (kCk2 C f perm dv xs) := by rw [kCk]
def kMt2 (mm : MI) (x : D) (xs : List D) (S : Store) : Res D := mtop mm x xs S
@[simp] theorem kMt2_ap {mm : MI} {x : D} {xs : List D} {S : Store} : kMt2 mm x xs S = mtop mm x xs S := by rw [kMt2]
def kMt (g : Gt) (C : Call) (mm : MI) (es : Cds) (e : Env) (x : D) (S : Store) : Res D := if mtOk mm x S then (evEs g C es e S).bind (kMt2 mm x) else .stuck
@[simp] theorem kMt_ap {g : Gt} {C : Call} {mm : MI} {es : Cds} {e : Env} {x : D} {S : Store} : kMt g C mm es e x S = if mtOk mm x S then (evEs g C es e S).bind (kMt2 mm x) else .stuck := by rw [kMt]
def kIx2 (x : D) (y : D) (S : Store) : Res D := one (ixop x y S) S
@[simp] theorem kIx2_ap {x : D} {y : D} {S : Store} : kIx2 x y S = one (ixop x y S) S := by rw [kIx2]
def kIx (g : Gt) (C : Call) (b : Cd) (e : Env) (x : D) (S : Store) : Res D := (evE g C b e S).bind (kIx2 x)
@[simp] theorem kIx_ap {g : Gt} {C : Call} {b : Cd} {e : Env} {x : D} {S : Store} : kIx g C b e x S = (evE g C b e S).bind (kIx2 x) := by rw [kIx]
def kSl3 (m : Bool) (x : D) (l : Option Int) (h : Option Int) (S : Store) : Res D := slop m x l h S
@[simp] theorem kSl3_ap {m : Bool} {x : D} {l : Option Int} {h : Option Int} {S : Store} : kSl3 m x l h S = slop m x l h S := by rw [kSl3]
def kSl2 (g : Gt) (C : Call) (m : Bool) (hi : Cdo) (e : Env) (x : D) (l : Option Int) (S : Store) : Res D := (evO g C hi e S).bind (kSl3 m x l)
@[simp] theorem kSl2_ap {g : Gt} {C : Call} {m : Bool} {hi : Cdo} {e : Env} {x : D} {l : Option Int} {S : Store} : kSl2 g C m hi e x l S = (evO g C hi e S).bind (kSl3 m x l) := by rw [kSl2]
def kSl (g : Gt) (C : Call) (m : Bool) (lo : Cdo) (hi : Cdo) (e : Env) (x : D) (S : Store) : Res D := (evO g C lo e S).bind (kSl2 g C m hi e x)
@[simp] theorem kSl_ap {g : Gt} {C : Call} {m : Bool} {lo : Cdo} {hi : Cdo} {e : Env} {x : D} {S : Store} : kSl g C m lo hi e x S = (evO g C lo e S).bind (kSl2 g C m hi e x) := by rw [kSl]
def kEs2 (x : D) (xs : List D) (S : Store) : Res (List D) := .ok (x :: xs) S
@[simp] theorem kEs2_ap {x : D} {xs : List D} {S : Store} : kEs2 x xs S = .ok (x :: xs) S := by rw [kEs2]
def kEs (g : Gt) (C : Call) (r : Cds) (e : Env) (x : D) (S : Store) : Res (List D) := (evEs g C r e S).bind (kEs2 x)
@[simp] theorem kEs_ap {g : Gt} {C : Call} {r : Cds} {e : Env} {x : D} {S : Store} : kEs g C r e x S = (evEs g C r e S).bind (kEs2 x) := by rw [kEs]
def kZp2 (x : D) (y : D) (S : Store) : Res (List D × Chk) := zpK x y S
@[simp] theorem kZp2_ap {x : D} {y : D} {S : Store} : kZp2 x y S = zpK x y S := by rw [kZp2]
def kZp (g : Gt) (C : Call) (b : Cd) (e : Env) (x : D) (S : Store) : Res (List D × Chk) := (evE g C b e S).bind (kZp2 x)
@[simp] theorem kZp_ap {g : Gt} {C : Call} {b : Cd} {e : Env} {x : D} {S : Store} : kZp g C b e x S = (evE g C b e S).bind (kZp2 x) := by rw [kZp]
def kR22 (x : D) (y : D) (S : Store) : Res (List D × Chk) := r2K x y S
@[simp] theorem kR22_ap {x : D} {y : D} {S : Store} : kR22 x y S = r2K x y S := by rw [kR22]
def kR2 (g : Gt) (C : Call) (b : Cd) (e : Env) (x : D) (S : Store) : Res (List D × Chk) := (evE g C b e S).bind (kR22 x)
@[simp] theorem kR2_ap {g : Gt} {C : Call} {b : Cd} {e : Env} {x : D} {S : Store} : kR2 g C b e x S = (evE g C b e S).bind (kR22 x) := by rw [kR2]
def kAsg (t : Tg) (e : Env) (d : D) (S : Store) : SR := bdS (bindT t d e) S
@[simp] theorem kAsg_ap {t : Tg} {e : Env} {d : D} {S : Store} : kAsg t e d S = bdS (bindT t d e) S := by rw [kAsg]
def kPar (is : List Nat) (e : Env) (ds : List D) (S : Store) : SR := if ds.length = is.length then .nx (setAll e is ds) S else .stuck
@[simp] theorem kPar_ap {is : List Nat} {e : Env} {ds : List D} {S : Store} : kPar is e ds S = if ds.length = is.length then .nx (setAll e is ds) S else .stuck := by rw [kPar]
def kSt3 (d : D) (x : D) (k : D) (S : Store) : Res Unit := siK (stI x k d S)
@[simp] theorem kSt3_ap {d : D} {x : D} {k : D} {S : Store} : kSt3 d x k S = siK (stI x k d S) := by rw [kSt3]
def kSt2 (g : Gt) (C : Call) (i : Cd) (e : Env) (d : D) (x : D) (S : Store) : Res Unit := (evE g C i e S).bind (kSt3 d x)
@[simp] theorem kSt2_ap {g : Gt} {C : Call} {i : Cd} {e : Env} {d : D} {x : D} {S : Store} : kSt2 g C i e d x S = (evE g C i e S).bind (kSt3 d x) := by rw [kSt2]
def kSt (g : Gt) (C : Call) (o : Cd) (i : Cd) (e : Env) (d : D) (S : Store) : Res Unit := (evE g C o e S).bind (kSt2 g C i e d)
@[simp] theorem kSt_ap {g : Gt} {C : Call} {o : Cd} {i : Cd} {e : Env} {d : D} {S : Store} : kSt g C o i e d S = (evE g C o e S).bind (kSt2 g C i e d) := by rw [kSt]
def kNxU (e : Env) (x : Unit) (S : Store) : SR := .nx e S
@[simp] theorem kNxU_ap {e : Env} {x : Unit} {S : Store} : kNxU e x S = .nx e S := by rw [kNxU]
def kNx (e : Env) (x : D) (S : Store) : SR := .nx e S
@[simp] theorem kNx_ap {e : Env} {x : D} {S : Store} : kNx e x S = .nx e S := by rw [kNx]
def kRt  (d : D) (S : Store) : SR := .rt d S
@[simp] theorem kRt_ap  {d : D} {S : Store} : kRt  d S = .rt d S := by rw [kRt]
def kRs (c : Nat) (e : Env) (d : D) (S : Store) : SR := .exc c d e S
@[simp] theorem kRs_ap {c : Nat} {e : Env} {d : D} {S : Store} : kRs c e d S = .exc c d e S := by rw [kRs]
def kIf (g : Gt) (C : Call) (a : Sms) (b : Sms) (e : Env) (k : Bool) (S : Store) : SR := if k then evSs g C a e S else evSs g C b e S
@[simp] theorem kIf_ap {g : Gt} {C : Call} {a : Sms} {b : Sms} {e : Env} {k : Bool} {S : Store} : kIf g C a b e k S = if k then evSs g C a e S else evSs g C b e S := by rw [kIf]
def kSome  (d : D) (S : Store) : Res (Option D) := .ok (some d) S
@[simp] theorem kSome_ap  {d : D} {S : Store} : kSome  d S = .ok (some d) S := by rw [kSome]
def kStp (g : Gt) (C : Call) (elt : Cd) (e : Env) (b : Bool) (S : Store) : Res (Option D) := if b then (evE g C elt e S).bind kSome else .ok none S
@[simp] theorem kStp_ap {g : Gt} {C : Call} {elt : Cd} {e : Env} {b : Bool} {S : Store} : kStp g C elt e b S = if b then (evE g C elt e S).bind kSome else .ok none S := by rw [kStp]
section
variable {g : Gt} {C : Call} {e : Env} {S : Store}
@[simp] theorem eE_c {d : D} : evE g C (.c d) e S = .ok d S := by rw [evE]
theorem eE_v {i : Nat} {d : D} (h : e[i]? = some (some d)) : evE g C (.v i) e S = .ok d S := by rw [evE, h]
@[simp] theorem eE_v0 {d : D} {r : Env} : evE g C (.v 0) (some d :: r) S = .ok d S := eE_v rfl
@[simp] theorem eE_v1 {a : Option D} {d : D} {r : Env} : evE g C (.v 1) (a :: some d :: r) S = .ok d S := eE_v rfl
@[simp] theorem eE_v2 {a b : Option D} {d : D} {r : Env} : evE g C (.v 2) (a :: b :: some d :: r) S = .ok d S := eE_v rfl
@[simp] theorem eE_v3 {a b c : Option D} {d : D} {r : Env} : evE g C (.v 3) (a :: b :: c :: some d :: r) S = .ok d S := eE_v rfl
@[simp] theorem eE_v4 {a b c f : Option D} {d : D} {r : Env} : evE g C (.v 4) (a :: b :: c :: f :: some d :: r) S = .ok d S := eE_v rfl
@[simp] theorem eE_v5 {a b c f h : Option D} {d : D} {r : Env} : evE g C (.v 5) (a :: b :: c :: f :: h :: some d :: r) S = .ok d S := eE_v rfl
@[simp] theorem eE_v6 {a b c f h i : Option D} {d : D} {r : Env} : evE g C (.v 6) (a :: b :: c :: f :: h :: i :: some d :: r) S = .ok d S := eE_v rfl
@[simp] theorem eE_v7 {a b c f h i j : Option D} {d : D} {r : Env} : evE g C (.v 7) (a :: b :: c :: f :: h :: i :: j :: some d :: r) S = .ok d S := eE_v rfl
@[simp] theorem eE_v8 {a b c f h i j k : Option D} {d : D} {r : Env} : evE g C (.v 8) (a :: b :: c :: f :: h :: i :: j :: k :: some d :: r) S = .ok d S := eE_v rfl
@[simp] theorem eE_v9 {a b c f h i j k l : Option D} {d : D} {r : Env} : evE g C (.v 9) (a :: b :: c :: f :: h :: i :: j :: k :: l :: some d :: r) S = .ok d S := eE_v rfl
@[simp] theorem eE_v10 {a b c f h i j k l m : Option D} {d : D} {r : Env} : evE g C (.v 10) (a :: b :: c :: f :: h :: i :: j :: k :: l :: m :: some d :: r) S = .ok d S := eE_v rfl
@[simp] theorem eE_v11 {a b c f h i j k l m n : Option D} {d : D} {r : Env} : evE g C (.v 11) (a :: b :: c :: f :: h :: i :: j :: k :: l :: m :: n :: some d :: r) S = .ok d S := eE_v rfl
@[simp] theorem eE_bin {m : Bool} {op : BOp} {a b : Cd} : evE g C (.bin m op a b) e S = (evE g C a e S).bind (kBin g C m op b e) := by rw [evE]; rfl
@[simp] theorem eE_neg {a : Cd} : evE g C (.neg a) e S = (evE g C a e S).bind negK := by rw [evE]; rfl
@[simp] theorem eE_not {a : Cd} : evE g C (.not_ a) e S = (evE g C a e S).bind kNot := by rw [evE]; rfl
@[simp] theorem eE_and {a b : Cd} : evE g C (.and_ a b) e S = (evE g C a e S).bind (kAnd g C b e) := by rw [evE]; rfl
@[simp] theorem eE_or {a b : Cd} : evE g C (.or_ a b) e S = (evE g C a e S).bind (kOr g C b e) := by rw [evE]; rfl
@[simp] theorem eE_ite {c a b : Cd} : evE g C (.ite c a b) e S = (evE g C c e S).bind (kIte g C a b e) := by rw [evE]; rfl
@[simp] theorem eE_cmp {op : COp} {a b : Cd} : evE g C (.cmp op a b) e S = (evE g C a e S).bind (kCmp g C op b e) := by rw [evE]; rfl
@[simp] theorem eE_chain {op op' : COp} {a b c : Cd} : evE g C (.chain op op' a b c) e S = (evE g C a e S).bind (kCh g C op op' b c e) := by rw [evE]; rfl
@[simp] theorem eE_tup {es : Cds} : evE g C (.tup es) e S = (evEs g C es e S).bind kTup := by rw [evE]; rfl
@[simp] theorem eE_lst {m : Bool} {es : Cds} : evE g C (.lst m es) e S = (evEs g C es e S).bind (kLst m) := by rw [evE]; rfl
@[simp] theorem eE_dct0 {m : Bool} : evE g C (.dct m .nil .nil) e S = allocK m [] S := by rw [evE]; simp [evEs]
@[simp] theorem eE_call {f : Nat} {es : Cds} {dv : List D} : evE g C (.call f es dv) e S = (evEs g C es e S).bind (kCall C f dv) := by rw [evE]; rfl
@[simp] theorem eE_callk {f : Nat} {es ks : Cds} {perm : List Nat} {dv : List D} : evE g C (.callk f es ks perm dv) e S = (evEs g C es e S).bind (kCk g C f ks perm dv e) := by
  rw [evE]
  refine congrArg (Res.bind _) ?_
  funext xs S
  refine congrArg (Res.bind _) ?_
  funext ys S
  rw [kCk2]
  generalize permD perm (xs ++ ys ++ dv) = o
  cases o <;> rfl
@[simp] theorem eE_bi {m : Bool} {b : BI} {es : Cds} : evE g C (.bi m b es) e S = (evEs g C es e S).bind (biop g m b) := by rw [evE]
@[simp] theorem eE_mt {mm : MI} {o : Cd} {es : Cds} : evE g C (.mt mm o es) e S = (evE g C o e S).bind (kMt g C mm es e) := by rw [evE]; rfl
@[simp] theorem eE_ix {a b : Cd} : evE g C (.ix a b) e S = (evE g C a e S).bind (kIx g C b e) := by rw [evE]; rfl
@[simp] theorem eE_sl {m : Bool} {a : Cd} {lo hi : Cdo} : evE g C (.sl m a lo hi) e S = (evE g C a e S).bind (kSl g C m lo hi e) := by rw [evE]; rfl
@[simp] theorem eE_rev {m : Bool} {a : Cd} : evE g C (.rev m a) e S = (evE g C a e S).bind (revop m) := by rw [evE]
@[simp] theorem eE_frz {a : Cd} : evE g C (.frz a) e S = (evE g C a e S).bind frzop := by rw [evE]
/-- what a comprehension does with one item -/
def stpK (g : Gt) (C : Call) (ifs : Cdo) (elt : Cd) (e : Env) (S : Store) : Res (Option D) := (evT g C ifs e S).bind (kStp g C elt e)
@[simp] theorem stpK_eq {ifs : Cdo} {elt : Cd} : stpK g C ifs elt e S = (evT g C ifs e S).bind (kStp g C elt e) := by rw [stpK]
theorem eE_comp {m : Bool} {elt : Cd} {tg : Tg} {it : It} {ifs : Cdo} {own : List Nat} {xs : List D} {k : Chk} {S1 : Store} (h : evI g C it e S = .ok (xs, k) S1) : evE g C (.comp m elt tg it ifs own) e S = (compL k (fun x S => (bdK (bindT tg x (wipe e own))).bind fun e' _ => stpK g C ifs elt e' S) xs [] S1).bind fun ys S => alloc m ys S := by
  rw [evE, h]
  refine congrArg (fun f => (compL k f xs [] S1).bind fun ys S => alloc m ys S) ?_
  funext x S
  cases bindT tg x (wipe e own) <;> rfl
@[simp] theorem eO_no : evO g C .no e S = .ok none S := by rw [evO]
@[simp] theorem eO_so {a : Cd} : evO g C (.so a) e S = (evE g C a e S).bind intO := by rw [evO]
@[simp] theorem intO_i {i : Int} : intO (.int i) S = .ok (some i) S := by rw [intO]
@[simp] theorem eT_no : evT g C .no e S = .ok true S := by rw [evT]
@[simp] theorem eT_so {a : Cd} : evT g C (.so a) e S = (evE g C a e S).bind tr := by rw [evT]
@[simp] theorem eEs_nil : evEs g C .nil e S = .ok [] S := by rw [evEs]
@[simp] theorem eEs_cons {a : Cd} {r : Cds} : evEs g C (.cons a r) e S = (evE g C a e S).bind (kEs g C r e) := by rw [evEs]; rfl
@[simp] theorem eI_seq {a : Cd} : evI g C (.seq a) e S = (evE g C a e S).bind items1 := by rw [evI]
@[simp] theorem eI_rng1 {a : Cd} : evI g C (.rng1 a) e S = (evE g C a e S).bind rgK := by rw [evI]; rfl
@[simp] theorem eI_enS {a : Cd} : evI g C (.enS a) e S = (evE g C a e S).bind esK := by rw [evI]; rfl
@[simp] theorem eI_str {a : Cd} : evI g C (.str a) e S = (evE g C a e S).bind stK := by rw [evI]; rfl
@[simp] theorem eI_zip {a b : Cd} : evI g C (.zip a b) e S = (evE g C a e S).bind (kZp g C b e) := by rw [evI]; rfl
@[simp] theorem eI_enL {a : Cd} : evI g C (.enL a) e S = (evE g C a e S).bind enK := by rw [evI]; rfl
@[simp] theorem eI_rng2 {a b : Cd} : evI g C (.rng2 a b) e S = (evE g C a e S).bind (kR2 g C b e) := by rw [evI]; rfl
/-! statements -/
@[simp] theorem eS_asg {t : Tg} {a : Cd} : evS g C (.asg t a) e S = (evE g C a e S).toS e (kAsg t e) := by
  rw [evS]; cases evE g C a e S <;> rfl
@[simp] theorem eS_par {is : List Nat} {es : Cds} : evS g C (.par is es) e S = (evEs g C es e S).toS e (kPar is e) := by
  rw [evS]; cases evEs g C es e S <;> rfl
@[simp] theorem eS_sti {o i a : Cd} : evS g C (.sti o i a) e S = ((evE g C a e S).bind (kSt g C o i e)).toS e (kNxU e) := by
  rw [evS]
  show (match (evE g C a e S).bind (kSt g C o i e) with
    | .ok _ S => SR.nx e S
    | .exc c v S => .exc c v e S
    | .stuck => .stuck) = _
  cases (evE g C a e S).bind (kSt g C o i e) <;> rfl
@[simp] theorem eS_ex {a : Cd} : evS g C (.ex a) e S = (evE g C a e S).toS e (kNx e) := by rw [evS]; cases evE g C a e S <;> rfl
@[simp] theorem eS_ret {a : Cd} : evS g C (.ret a) e S = (evE g C a e S).toS e kRt := by rw [evS]; cases evE g C a e S <;> rfl
@[simp] theorem eS_retN : evS g C .retN e S = .rt .non S := by rw [evS]
@[simp] theorem eS_if {c : Cd} {a b : Sms} : evS g C (.ife c a b) e S = ((evE g C c e S).bind tr).toS e (kIf g C a b e) := by
  rw [evS]
  cases (evE g C c e S).bind tr with
  | ok k S => cases k <;> rfl
  | _ => rfl
@[simp] theorem eS_raise {c : Nat} {a : Cd} : evS g C (.raise c a) e S = (evE g C a e S).toS e (kRs c e) := by rw [evS]; cases evE g C a e S <;> rfl
@[simp] theorem eS_pass : evS g C .pass e S = .nx e S := by rw [evS]
@[simp] theorem eS_try {body suite : Sms} {cc i : Nat} : evS g C (.try_ body cc i suite) e S = tryK g (evSs g C suite) cc i e (evSs g C body e S) := by
  rw [evS]
  cases evSs g C body e S <;> rfl
/-- what a loop does with one item -/
theorem eS_for {t : Tg} {it : It} {body : Sms} {S1 : Store} {xs : List D} {k : Chk} (hI : evI g C it e S = .ok (xs, k) S1) : evS g C (.for_ t it body) e S = forL k (fun x e S => (bdK (bindT t x e)).toS e fun e' _ => evSs g C body e' S) xs e S1 := by
  rw [evS, hI]
  refine congrArg (fun f => forL k f xs e S1) ?_
  funext x e S
  cases bindT t x e <;> rfl
@[simp] theorem eSs_nil : evSs g C .nil e S = .nx e S := by rw [evSs]
@[simp] theorem eSs_cons {a : Sm} {r : Sms} : evSs g C (.cons a r) e S = (evS g C a e S).seq (evSs g C r) := by rw [evSs]; cases evS g C a e S <;> rfl
end
section
variable {g : Gt} {tab : Nat → Option Fd}
theorem callN_of {n f : Nat} {fd : Fd} {args : List D} {S : Store} (h : tab f = some fd) (ha : args.length = fd.np) : callN g tab (n + 1) f args S = finish fd.tm args S (evSs g (callN g tab n) fd.body (args.map some ++ List.replicate (fd.nn - fd.np) none) S) := by rw [callN, h]; simp [ha]
end
section
variable {m : Bool} {i j : Int} {S : Store} {x y : D} {a b : List Nat} {xs ys : List D}
def fdOk (j : Int) : Bool := decide (0 < j ∧ j.natAbs.log2 < 9000)
theorem fdOk_of {j : Int} (h : 0 < j) (h2 : j < 2 ^ 200) : fdOk j = true := by
  have : j.natAbs.log2 < 200 := (Nat.log2_lt (by omega)).mpr (by omega)
  unfold fdOk
  rw [decide_eq_true_eq]
  exact ⟨h, by omega⟩
@[simp] theorem r_add : binop m .add (.int i) (.int j) S = .ok (.int (i + j)) S := by rw [binop]
@[simp] theorem r_sub : binop m .sub (.int i) (.int j) S = .ok (.int (i - j)) S := by rw [binop]
@[simp] theorem r_mul : binop m .mul (.int i) (.int j) S = if mulOk i j then .ok (.int (i * j)) S else .stuck := by rw [binop]
@[simp] theorem r_fdiv : binop m .fdiv (.int i) (.int j) S = if fdOk j then .ok (.int (i / j)) S else .stuck := by
  rw [binop]
  simp only [fdOk, decide_eq_true_eq]
@[simp] theorem r_mod : binop m .mod (.int i) (.int j) S = if 0 < j then .ok (.int (i % j)) S else .stuck := by rw [binop]
@[simp] theorem r_pow : binop m .pow (.int i) (.int j) S = if powOk i j then .ok (.int (i ^ j.toNat)) S else .stuck := by rw [binop]
@[simp] theorem r_adds : binop m .add (.str a) (.str b) S = if a.length + b.length ≤ lim then .ok (.str (a ++ b)) S else .stuck := by rw [binop]
@[simp] theorem r_addl : binop m .add (.lst xs) (.lst ys) S = if xs.length + ys.length ≤ lim then alloc m (xs ++ ys) S else .stuck := by simp [binop, asM]
@[simp] theorem r_mull : binop m .mul (.lst xs) (.int j) S = if -(2 ^ 63) ≤ j ∧ j < 2 ^ 63 ∧ xs.length * j.toNat ≤ lim then alloc m (List.replicate j.toNat xs).flatten S else .stuck := by simp [binop, asM]
@[simp] theorem t_bl {k : Bool} : tr (.bl k) S = .ok k S := by simp [tr, truth]
@[simp] theorem t_int : tr (.int i) S = .ok (i != 0) S := by simp [tr, truth]
@[simp] theorem t_non : tr .non S = .ok false S := by simp [tr, truth]
@[simp] theorem k_lt : cmpop .lt (.int i) (.int j) S = some (decide (i < j)) := by simp [cmpop]
@[simp] theorem k_le : cmpop .le (.int i) (.int j) S = some (decide (i ≤ j)) := by simp [cmpop]
@[simp] theorem k_gt : cmpop .gt (.int i) (.int j) S = some (decide (j < i)) := by simp [cmpop]
@[simp] theorem k_ge : cmpop .ge (.int i) (.int j) S = some (decide (j ≤ i)) := by simp [cmpop]
@[simp] theorem k_eqi : cmpop .eq (.int i) (.int j) S = some (decide (i = j)) := by simp [cmpop, eqTop, flat, eqf]
@[simp] theorem k_eqs : cmpop .eq (.str a) (.str b) S = some (decide (a = b)) := by simp [cmpop, eqTop, flat, eqf]
@[simp] theorem k_eqb {p q : Bool} : cmpop .eq (.bl p) (.bl q) S = some (p == q) := by simp [cmpop, eqTop, flat, eqf]
@[simp] theorem k_nei : cmpop .ne (.int i) (.int j) S = some (!decide (i = j)) := by simp [cmpop, eqTop, flat, eqf]
@[simp] theorem k_nes : cmpop .ne (.str a) (.str b) S = some (!decide (a = b)) := by simp [cmpop, eqTop, flat, eqf]
@[simp] theorem k_neb {p q : Bool} : cmpop .ne (.bl p) (.bl q) S = some (!(p == q)) := by simp [cmpop, eqTop, flat, eqf]
@[simp] theorem k_les : cmpop .le (.str a) (.str b) S = some (!ltL b a) := by simp [cmpop]
@[simp] theorem al_f : alloc false xs S = .ok (.lst xs) S := by simp [alloc]
@[simp] theorem al_t : alloc true xs S = .ok (.ref S.length) (S ++ [.lst xs]) := by simp [alloc]
variable {g : Gt}
@[simp] theorem i_int : biop g m .int [.int i] S = .ok (.int i) S := by simp [biop, biInt]
@[simp] theorem i_intb {k : Bool} : biop g m .int [.bl k] S = .ok (.int (b2i k)) S := by simp [biop, biInt]
@[simp] theorem i_max : biop g m .max [.int i, .int j] S = .ok (.int (max i j)) S := by
  simp only [biop, biMax]
  congr 2
  split <;> omega
@[simp] theorem i_min : biop g m .min [.int i, .int j] S = .ok (.int (min i j)) S := by
  simp only [biop, biMin]
  congr 2
  split <;> omega
@[simp] theorem i_lens : biop g m .len [.str a] S = if a.length ≤ lim then .ok (.int a.length) S else .stuck := by simp [biop, biLen]
@[simp] theorem i_lenl : biop g m .len [.lst xs] S = .ok (.int xs.length) S := by simp [biop, biLen, asK, asQ, asL]
@[simp] theorem i_lenS : biop g m .len [.slst xs] S = .ok (.int xs.length) S := by simp [biop, biLen, asK, asQ, asL]
@[simp] theorem i_listl : biop g m .list [.lst xs] S = alloc m xs S := by simp [biop, biList, asQ, asL]
@[simp] theorem i_listt : biop g m .list [.tup xs] S = alloc m xs S := by simp [biop, biList, asQ]
@[simp] theorem i_lent : biop g m .len [.tup xs] S = .ok (.int xs.length) S := by simp [biop, biLen, asK, asQ]
@[simp] theorem i_bits : mtop .bitlen (.int i) [] S = .ok (.int (if i = 0 then 0 else i.natAbs.log2 + 1 : Nat)) S := by simp [mtop, mtBits]
@[simp] theorem i_bitk : mtOk .bitlen (.int i) S = true := by simp [mtOk]
@[simp] theorem i_joik : mtOk .join (.str a) S = true := by simp [mtOk]
@[simp] theorem bd_n {k : Nat} {e : Env} : bindT (.n k) x e = some (e.set k (some x)) := by rw [bindT]
@[simp] theorem bd_ns {is : List Nat} {e : Env} : bindT (.ns is) (.tup xs) e = if xs.length = is.length then some (setAll e is xs) else none := by rw [bindT]
@[simp] theorem setAll_nil {e : Env} {xs : List D} : setAll e [] xs = e := by cases xs <;> rw [setAll] <;> simp
@[simp] theorem setAll_cons {e : Env} {k : Nat} {is : List Nat} : setAll e (k :: is) (x :: xs) = setAll (e.set k (some x)) is xs := by rw [setAll]
@[simp] theorem wipe_nil {e : Env} : wipe e [] = e := by rw [wipe]
@[simp] theorem wipe_cons {e : Env} {v : Nat} {vs : List Nat} : wipe e (v :: vs) = (wipe e vs).set v none := by rw [wipe]
@[simp] theorem x_li : ixop (.lst xs) (.int i) S = atI xs i := by simp [ixop, asK, asQ, asL]
@[simp] theorem x_ti : ixop (.tup xs) (.int i) S = atI xs i := by simp [ixop, asK, asQ]
@[simp] theorem x_si : ixop (.str a) (.int i) S = if a.length ≤ lim then (atI a i).map fun c => .str [c] else none := by simp [ixop]
@[simp] theorem it_l : items1 (.lst xs) S = .ok (xs, []) S := by simp [items1, asQ, asL]
@[simp] theorem sl_s {lo hi : Option Int} : slop m (.str a) lo hi S = if a.length ≤ lim then .ok (.str (cut a lo hi)) S else .stuck := by simp [slop]
@[simp] theorem rv_s : revop m (.str a) S = if a.length ≤ lim then .ok (.str a.reverse) S else .stuck := by simp [revop]
theorem x_ref {l : Nat} (h : S[l]? = some (.lst xs)) : ixop (.ref l) (.int i) S = atI xs i := by simp [ixop, asK, asQ, asL, h]
theorem st_ref {l k : Nat} {d : D} (h : S[l]? = some (.lst xs)) (hk : ixN xs.length i = some k) : stI (.ref l) (.int i) d S = some (S.set l (.lst (xs.set k d))) := by simp [stI, h, hk]
end
@[simp] theorem lim_0 : 0 ≤ lim := by unfold lim; omega
@[simp] theorem lim_1 : 1 ≤ lim := by unfold lim; omega
@[simp] theorem lim_2 : 2 ≤ lim := by unfold lim; omega
@[simp] theorem lim_3 : 3 ≤ lim := by unfold lim; omega
@[simp] theorem lim_4 : 4 ≤ lim := by unfold lim; omega
@[simp] theorem lim_5 : 5 ≤ lim := by unfold lim; omega
@[simp] theorem lim_6 : 6 ≤ lim := by unfold lim; omega
@[simp] theorem lim_7 : 7 ≤ lim := by unfold lim; omega
@[simp] theorem lim_8 : 8 ≤ lim := by unfold lim; omega
@[simp] theorem lim_9 : 9 ≤ lim := by unfold lim; omega
@[simp] theorem lim_10 : 10 ≤ lim := by unfold lim; omega
@[simp] theorem lim_11 : 11 ≤ lim := by unfold lim; omega
@[simp] theorem lim_12 : 12 ≤ lim := by unfold lim; omega
@[simp] theorem lim_13 : 13 ≤ lim := by unfold lim; omega
@[simp] theorem lim_14 : 14 ≤ lim := by unfold lim; omega
@[simp] theorem lim_15 : 15 ≤ lim := by unfold lim; omega
@[simp] theorem lim_16 : 16 ≤ lim := by unfold lim; omega
@[simp] theorem lim_17 : 17 ≤ lim := by unfold lim; omega
@[simp] theorem lim_18 : 18 ≤ lim := by unfold lim; omega
@[simp] theorem lim_19 : 19 ≤ lim := by unfold lim; omega
@[simp] theorem lim_20 : 20 ≤ lim := by unfold lim; omega
@[simp] theorem lim_21 : 21 ≤ lim := by unfold lim; omega
@[simp] theorem lim_22 : 22 ≤ lim := by unfold lim; omega
@[simp] theorem lim_23 : 23 ≤ lim := by unfold lim; omega
@[simp] theorem lim_24 : 24 ≤ lim := by unfold lim; omega
@[simp] theorem lim_25 : 25 ≤ lim := by unfold lim; omega
@[simp] theorem lim_26 : 26 ≤ lim := by unfold lim; omega
@[simp] theorem lim_27 : 27 ≤ lim := by unfold lim; omega
@[simp] theorem lim_28 : 28 ≤ lim := by unfold lim; omega
@[simp] theorem lim_29 : 29 ≤ lim := by unfold lim; omega
@[simp] theorem lim_30 : 30 ≤ lim := by unfold lim; omega
@[simp] theorem lim_31 : 31 ≤ lim := by unfold lim; omega
@[simp] theorem lim_32 : 32 ≤ lim := by unfold lim; omega
@[simp] theorem lim_33 : 33 ≤ lim := by unfold lim; omega
@[simp] theorem lim_34 : 34 ≤ lim := by unfold lim; omega
@[simp] theorem lim_35 : 35 ≤ lim := by unfold lim; omega
@[simp] theorem lim_36 : 36 ≤ lim := by unfold lim; omega
@[simp] theorem lim_37 : 37 ≤ lim := by unfold lim; omega
@[simp] theorem lim_38 : 38 ≤ lim := by unfold lim; omega
@[simp] theorem lim_39 : 39 ≤ lim := by unfold lim; omega
@[simp] theorem lim_40 : 40 ≤ lim := by unfold lim; omega
@[simp] theorem lim_41 : 41 ≤ lim := by unfold lim; omega
@[simp] theorem lim_42 : 42 ≤ lim := by unfold lim; omega
@[simp] theorem lim_43 : 43 ≤ lim := by unfold lim; omega
@[simp] theorem lim_44 : 44 ≤ lim := by unfold lim; omega
@[simp] theorem lim_45 : 45 ≤ lim := by unfold lim; omega
@[simp] theorem lim_46 : 46 ≤ lim := by unfold lim; omega
@[simp] theorem lim_47 : 47 ≤ lim := by unfold lim; omega
@[simp] theorem isB_non_int : isB .non .int = false := by simp [isB]
@[simp] theorem isB_non_bool : isB .non .bool = false := by simp [isB]
@[simp] theorem isB_non_str : isB .non .str = false := by simp [isB]
@[simp] theorem isB_non_list : isB .non .list = false := by simp [isB]
@[simp] theorem isB_non_tuple : isB .non .tuple = false := by simp [isB]
@[simp] theorem isB_non_dict : isB .non .dict = false := by simp [isB]
@[simp] theorem isB_bl_int : isB .bl .int = true := by simp [isB]
@[simp] theorem isB_bl_bool : isB .bl .bool = true := by simp [isB]
@[simp] theorem isB_bl_str : isB .bl .str = false := by simp [isB]
@[simp] theorem isB_bl_list : isB .bl .list = false := by simp [isB]
@[simp] theorem isB_bl_tuple : isB .bl .tuple = false := by simp [isB]
@[simp] theorem isB_bl_dict : isB .bl .dict = false := by simp [isB]
@[simp] theorem isB_int_int : isB .int .int = true := by simp [isB]
@[simp] theorem isB_int_bool : isB .int .bool = false := by simp [isB]
@[simp] theorem isB_int_str : isB .int .str = false := by simp [isB]
@[simp] theorem isB_int_list : isB .int .list = false := by simp [isB]
@[simp] theorem isB_int_tuple : isB .int .tuple = false := by simp [isB]
@[simp] theorem isB_int_dict : isB .int .dict = false := by simp [isB]
@[simp] theorem isB_str_int : isB .str .int = false := by simp [isB]
@[simp] theorem isB_str_bool : isB .str .bool = false := by simp [isB]
@[simp] theorem isB_str_str : isB .str .str = true := by simp [isB]
@[simp] theorem isB_str_list : isB .str .list = false := by simp [isB]
@[simp] theorem isB_str_tuple : isB .str .tuple = false := by simp [isB]
@[simp] theorem isB_str_dict : isB .str .dict = false := by simp [isB]
@[simp] theorem isB_lst_int : isB .lst .int = false := by simp [isB]
@[simp] theorem isB_lst_bool : isB .lst .bool = false := by simp [isB]
@[simp] theorem isB_lst_str : isB .lst .str = false := by simp [isB]
@[simp] theorem isB_lst_list : isB .lst .list = true := by simp [isB]
@[simp] theorem isB_lst_tuple : isB .lst .tuple = false := by simp [isB]
@[simp] theorem isB_lst_dict : isB .lst .dict = false := by simp [isB]
@[simp] theorem isB_tup_int : isB .tup .int = false := by simp [isB]
@[simp] theorem isB_tup_bool : isB .tup .bool = false := by simp [isB]
@[simp] theorem isB_tup_str : isB .tup .str = false := by simp [isB]
@[simp] theorem isB_tup_list : isB .tup .list = false := by simp [isB]
@[simp] theorem isB_tup_tuple : isB .tup .tuple = true := by simp [isB]
@[simp] theorem isB_tup_dict : isB .tup .dict = false := by simp [isB]
@[simp] theorem isB_dct_int : isB .dct .int = false := by simp [isB]
@[simp] theorem isB_dct_bool : isB .dct .bool = false := by simp [isB]
@[simp] theorem isB_dct_str : isB .dct .str = false := by simp [isB]
@[simp] theorem isB_dct_list : isB .dct .list = false := by simp [isB]
@[simp] theorem isB_dct_tuple : isB .dct .tuple = false := by simp [isB]
@[simp] theorem isB_dct_dict : isB .dct .dict = true := by simp [isB]
section
variable {g : Gt} {m : Bool} {S : Store} {x : D}
def insK (g : Gt) (t : Option Ty) (c : D) (S : Store) : Res D := match t, c with
  | some t, .tup (c :: cs) => oneB (isAny g t (c :: cs)) S
  | some t, c => oneB (is1 g t c) S
  | none, _ => .stuck
@[simp] theorem insK_b {t : Ty} {b : BT} : insK g (some t) (.bty b) S = oneB (is1 g t (.bty b)) S := by simp [insK]
@[simp] theorem insK_c {t : Ty} {b : Nat} : insK g (some t) (.cls b) S = oneB (is1 g t (.cls b)) S := by simp [insK]
@[simp] theorem insK_t {t : Ty} {c : D} {cs : List D} : insK g (some t) (.tup (c :: cs)) S = oneB (isAny g t (c :: cs)) S := by simp [insK]
@[simp] theorem i_ins {c : D} : biop g m .isinst [x, c] S = insK g (tyOf S x) c S := by
  cases c with
  | tup cs => cases cs <;> simp only [biop, biIsinst] <;> cases tyOf S x <;> simp [insK]
  | _ => simp only [biop, biIsinst] <;> cases tyOf S x <;> simp [insK]
@[simp] theorem is1_b {t : Ty} {b : BT} (h : ∀ c, t ≠ .ex c) : is1 g t (.bty b) = some (isB t b) := by
  cases t <;> simp [is1] at h ⊢
@[simp] theorem is1_c {c n : Nat} : is1 g (.ex c) (.cls n) = g.sub c n := by simp [is1]
@[simp] theorem is1_n {t : Ty} {n : Nat} (h : ∀ c, t ≠ .ex c) : is1 g t (.cls n) = none := by
  cases t <;> simp [is1] at h ⊢
@[simp] theorem isAny_nil {t : Ty} : isAny g t [] = some false := by rw [isAny]
@[simp] theorem isAny_cons {t : Ty} {c : D} {r : List D} : isAny g t (c :: r) = (is1 g t c).bind fun b => if b then some true else isAny g t r := by rw [isAny]
@[simp] theorem k_is_non : cmpop .is_ .non .non S = some true := by simp [cmpop]
@[simp] theorem k_isn_non : cmpop .isnot .non .non S = some false := by simp [cmpop]
@[simp] theorem k_eq_non : cmpop .eq .non .non S = some true := by simp [cmpop, eqTop, flat, eqf]
@[simp] theorem k_is_bl {b : Bool} : cmpop .is_ (.bl b) .non S = some false := by simp [cmpop]
@[simp] theorem k_isn_bl {b : Bool} : cmpop .isnot (.bl b) .non S = some true := by simp [cmpop]
@[simp] theorem k_is_int {b : Int} : cmpop .is_ (.int b) .non S = some false := by simp [cmpop]
@[simp] theorem k_isn_int {b : Int} : cmpop .isnot (.int b) .non S = some true := by simp [cmpop]
@[simp] theorem k_is_str {b : List Nat} : cmpop .is_ (.str b) .non S = some false := by simp [cmpop]
@[simp] theorem k_isn_str {b : List Nat} : cmpop .isnot (.str b) .non S = some true := by simp [cmpop]
@[simp] theorem k_is_lst {b : List D} : cmpop .is_ (.lst b) .non S = some false := by simp [cmpop]
@[simp] theorem k_isn_lst {b : List D} : cmpop .isnot (.lst b) .non S = some true := by simp [cmpop]
@[simp] theorem k_is_tup {b : List D} : cmpop .is_ (.tup b) .non S = some false := by simp [cmpop]
@[simp] theorem k_isn_tup {b : List D} : cmpop .isnot (.tup b) .non S = some true := by simp [cmpop]
@[simp] theorem k_is_dct {b : List (DK × D)} : cmpop .is_ (.dct b) .non S = some false := by simp [cmpop]
@[simp] theorem k_isn_dct {b : List (DK × D)} : cmpop .isnot (.dct b) .non S = some true := by simp [cmpop]
@[simp] theorem k_is_ref {b : Nat} : cmpop .is_ (.ref b) .non S = some false := by simp [cmpop]
@[simp] theorem k_isn_ref {b : Nat} : cmpop .isnot (.ref b) .non S = some true := by simp [cmpop]
@[simp] theorem k_is_exn {c : Nat} {b : D} : cmpop .is_ (.exn c b) .non S = some false := by simp [cmpop]
@[simp] theorem k_isn_exn {c : Nat} {b : D} : cmpop .isnot (.exn c b) .non S = some true := by simp [cmpop]
@[simp] theorem ty_non : tyOf S .non = some .non := by simp [tyOf]
@[simp] theorem ty_bl {b : Bool} : tyOf S (.bl b) = some .bl := by simp [tyOf]
@[simp] theorem ty_int {b : Int} : tyOf S (.int b) = some .int := by simp [tyOf]
@[simp] theorem ty_str {b : List Nat} : tyOf S (.str b) = some .str := by simp [tyOf]
@[simp] theorem ty_lst {b : List D} : tyOf S (.lst b) = some .lst := by simp [tyOf]
@[simp] theorem ty_tup {b : List D} : tyOf S (.tup b) = some .tup := by simp [tyOf]
@[simp] theorem ty_dct {b : List (DK × D)} : tyOf S (.dct b) = some .dct := by simp [tyOf]
@[simp] theorem ty_exn {c : Nat} {b : D} : tyOf S (.exn c b) = some (.ex c) := by simp [tyOf]
end
/-! ### loops -/
theorem forL_inv {body : D → Env → Store → SR} (I : Nat → Env → Store → Prop) : ∀ (xs : List D) (k : Nat) (e : Env) (S : Store), I k e S →
    (∀ i (hi : i < xs.length) e S, I (k + i) e S → ∃ e' S', body xs[i] e S = .nx e' S' ∧ I (k + i + 1) e' S') →
    ∃ e' S', forL [] body xs e S = .nx e' S' ∧ I (k + xs.length) e' S'
  | [], k, e, S, h0, _ => ⟨e, S, by rw [forL]; simp [Chk.ok], h0⟩
  | x :: xs, k, e, S, h0, hs => by
    obtain ⟨e1, S1, h1, h2⟩ := hs 0 (by simp) e S h0
    obtain ⟨e2, S2, h3, h4⟩ := forL_inv I xs (k + 1) e1 S1 h2 (fun i hi e S h => by
      have := hs (i + 1) (by simpa using hi) e S (by rw [show k + (i + 1) = k + 1 + i by omega]; exact h)
      rw [show k + (i + 1) + 1 = k + 1 + i + 1 by omega] at this
      simpa using this)
    refine ⟨e2, S2, ?_, by rw [show k + (x :: xs).length = k + 1 + xs.length by simp; omega]; exact h4⟩
    rw [forL]
    simp only [List.getElem_cons_zero] at h1
    rw [h1]
    simp [Chk.ok, h3]
theorem for_inv {body : D → Env → Store → SR} (I : Nat → Env → Store → Prop) {xs : List D} {e : Env} {S : Store} (h0 : I 0 e S)
    (hs : ∀ i (hi : i < xs.length) e S, I i e S → ∃ e' S', body xs[i] e S = .nx e' S' ∧ I (i + 1) e' S') :
    ∃ e' S', forL [] body xs e S = .nx e' S' ∧ I xs.length e' S' := by
  have := forL_inv I xs 0 e S h0 (fun i hi e S h => by simpa using hs i hi e S (by simpa using h))
  simpa using this
theorem compL_inv {f : D → Store → Res (Option D)} (I : Nat → List D → Store → Prop) : ∀ (xs : List D) (k : Nat) (acc : List D) (S : Store), I k acc S → acc.length + xs.length ≤ lim →
    (∀ i (hi : i < xs.length) acc S, I (k + i) acc S → ∃ o S', f xs[i] S = .ok o S' ∧ I (k + i + 1) (acc ++ o.toList) S') →
    ∃ acc' S', compL [] f xs acc S = .ok acc' S' ∧ I (k + xs.length) acc' S' ∧ acc'.length ≤ acc.length + xs.length
  | [], k, acc, S, h0, _, _ => ⟨acc, S, by rw [compL]; simp [Chk.ok], h0, by simp⟩
  | x :: xs, k, acc, S, h0, hl, hs => by
    obtain ⟨o, S1, h1, h2⟩ := hs 0 (by simp) acc S h0
    have hlo : (acc ++ o.toList).length ≤ acc.length + 1 := by cases o <;> simp
    obtain ⟨e2, S2, h3, h4, h5⟩ := compL_inv I xs (k + 1) (acc ++ o.toList) S1 h2 (by simp at hl; omega) (fun i hi e S h => by
      have := hs (i + 1) (by simpa using hi) e S (by rw [show k + (i + 1) = k + 1 + i by omega]; exact h)
      rw [show k + (i + 1) + 1 = k + 1 + i + 1 by omega] at this
      simpa using this)
    refine ⟨e2, S2, ?_, by rw [show k + (x :: xs).length = k + 1 + xs.length by simp; omega]; exact h4, by simp; omega⟩
    rw [compL]
    simp only [List.getElem_cons_zero] at h1
    rw [h1]
    simp at hl
    cases o with
    | none => simp at h3; simp [Chk.ok, h3]
    | some d => simp at h3; simp [Chk.ok, h3]; omega
/-- a comprehension that changes nothing -/
theorem compL_pure {k : Chk} {f : D → Store → Res (Option D)} {S : Store} (hk : k.ok S = true) (F : D → Option D) : ∀ (xs acc : List D), acc.length + xs.length ≤ lim →
    (∀ x ∈ xs, f x S = .ok (F x) S) → compL k f xs acc S = .ok (acc ++ xs.filterMap F) S
  | [], acc, _, _ => by rw [compL]; simp [hk]
  | x :: xs, acc, hl, hs => by
    have h1 := hs x (by simp)
    rw [compL, h1]
    simp at hl
    cases hF : F x with
    | none => simp [hk, compL_pure hk F xs acc (by omega) (fun y hy => hs y (by simp [hy])), List.filterMap_cons, hF]
    | some d =>
      have := compL_pure hk F xs (acc ++ [d]) (by simp; omega) (fun y hy => hs y (by simp [hy]))
      simp [hk, this, List.filterMap_cons, hF]
      omega
section
variable {g : Gt} {C : Call}
/-- a loop by its invariant -/
theorem for_sp {t : Tg} {it : It} {b : Sms} {e : Env} {S S1 : Store} {xs : List D} (I : Nat → Env → Store → Prop) (hI : evI g C it e S = .ok (xs, []) S1) (h0 : I 0 e S1)
    (hs : ∀ i (hi : i < xs.length) e S, I i e S → ∃ e1 e' S', bindT t xs[i] e = some e1 ∧ evSs g C b e1 S = .nx e' S' ∧ I (i + 1) e' S') :
    ∃ e' S', evS g C (.for_ t it b) e S = .nx e' S' ∧ I xs.length e' S' := by
  rw [eS_for hI]
  refine for_inv I h0 fun i hi e S h => ?_
  obtain ⟨e1, e', S', h1, h2, h3⟩ := hs i hi e S h
  exact ⟨e', S', by simp [h1, h2], h3⟩
/-- a comprehension by its invariant -/
theorem comp_sp {m : Bool} {elt : Cd} {tg : Tg} {it : It} {ifs : Cdo} {own : List Nat} {e : Env} {S S1 : Store} {xs : List D} (I : Nat → List D → Store → Prop) (hI : evI g C it e S = .ok (xs, []) S1) (hl : xs.length ≤ lim) (h0 : I 0 [] S1)
    (hs : ∀ i (hi : i < xs.length) acc S, I i acc S → ∃ e1 o S', bindT tg xs[i] (wipe e own) = some e1 ∧ stpK g C ifs elt e1 S = .ok o S' ∧ I (i + 1) (acc ++ o.toList) S') :
    ∃ acc S', evE g C (.comp m elt tg it ifs own) e S = alloc m acc S' ∧ I xs.length acc S' ∧ acc.length ≤ xs.length := by
  rw [eE_comp hI]
  obtain ⟨acc, S', h1, h2, h3⟩ := compL_inv (f := fun x S => (bdK (bindT tg x (wipe e own))).bind fun e' _ => stpK g C ifs elt e' S) I xs 0 [] S1 h0 (by simpa using hl) (fun i hi acc S h => by
    obtain ⟨e1, o, S', h1, h2, h3⟩ := hs i hi acc S (by simpa using h)
    exact ⟨o, S', by rw [h1, bdK_s, bindE_ok, h2], by simpa using h3⟩)
  exact ⟨acc, S', by rw [h1, bindE_ok], by simpa using h2, by simpa using h3⟩
/-- a comprehension that changes nothing -/
theorem comp_puk {k : Chk} {m : Bool} {elt : Cd} {tg : Tg} {it : It} {ifs : Cdo} {own : List Nat} {e : Env} {S S1 : Store} {xs : List D} (F : D → Option D) (hI : evI g C it e S = .ok (xs, k) S1) (hk : k.ok S1 = true) (hl : xs.length ≤ lim)
    (hs : ∀ x ∈ xs, ∃ e1, bindT tg x (wipe e own) = some e1 ∧ stpK g C ifs elt e1 S1 = .ok (F x) S1) :
    evE g C (.comp m elt tg it ifs own) e S = alloc m (xs.filterMap F) S1 := by
  rw [eE_comp hI]
  rw [compL_pure hk F xs [] (by simpa using hl) (fun x hx => by
    obtain ⟨e1, h1, h2⟩ := hs x hx
    rw [h1, bdK_s, bindE_ok, h2])]
  rw [bindE_ok, List.nil_append]
theorem comp_pu {m : Bool} {elt : Cd} {tg : Tg} {it : It} {ifs : Cdo} {own : List Nat} {e : Env} {S S1 : Store} {xs : List D} (F : D → Option D) (hI : evI g C it e S = .ok (xs, []) S1) (hl : xs.length ≤ lim)
    (hs : ∀ x ∈ xs, ∃ e1, bindT tg x (wipe e own) = some e1 ∧ stpK g C ifs elt e1 S1 = .ok (F x) S1) :
    evE g C (.comp m elt tg it ifs own) e S = alloc m (xs.filterMap F) S1 := comp_puk F hI rfl hl hs
end
theorem finish_rt {t : Tm} {args : List D} {S S' S'' : Store} {d : D} (h : trim t args S S' d = some S'') : finish t args S (.rt d S') = .ret d S'' := by rw [finish, h]
theorem finish_nx {t : Tm} {args : List D} {S S' S'' : Store} {e : Env} (h : trim t args S S' .non = some S'') : finish t args S (.nx e S') = .ret .non S'' := by rw [finish, h]
theorem finish_exc {t : Tm} {args : List D} {S S' S'' : Store} {e : Env} {c : Nat} {d : D} (h : trim t args S S' d = some S'') : finish t args S (.exc c d e S') = .exc c d S'' := by rw [finish, h]
theorem trim_p {S : Store} {args : List D} {v : D} (h2 : below S.length v = true) : trim .pure args S S v = some S := by simp [trim, h2]
theorem trim_n {S S' : Store} {args : List D} {v : D} : trim .no args S S' v = some S' := by simp [trim]
/-- a purse's function: the cell's content alone is another, and what was made behind is let go -/
theorem trim_c {S L : Store} {p : Nat} {o o' : O} {args : List D} {v : D} (h : p < S.length) (h1 : belowO S.length o' = true) (h2 : below S.length v = true) : trim .cell0 (.ref p :: args) (S.set p o) (S.set p o' ++ L) v = some (S.set p o') := by
  have e : (S.set p o' ++ L)[p]? = some o' := by rw [List.getElem?_append_left (by simpa using h)]; simp [h]
  simp [trim, e, h1, h2, h, List.take_append_of_le_length]
end Mp
namespace Mp
def sutK (r : SR) (e : Env) (i : Nat) : SR := match r with
  | .nx e1 S => .nx (e1.set i none) S
  | .bk e1 S => .bk (e1.set i none) S
  | .ct e1 S => .ct (e1.set i none) S
  | .rt d S => .rt d S
  | _ => .stuck
@[simp] theorem sutK_nx {e e1 : Env} {S : Store} {i : Nat} : sutK (.nx e1 S) e i = .nx (e1.set i none) S := by rw [sutK]
@[simp] theorem sutK_rt {e : Env} {S : Store} {i : Nat} {d : D} : sutK (.rt d S) e i = .rt d S := by rw [sutK]
section
variable {g : Gt} {suite : Env → Store → SR} {cc i : Nat} {e : Env}
@[simp] theorem tryK_rt {d : D} {S : Store} : tryK g suite cc i e (.rt d S) = .rt d S := by rw [tryK]; simp
@[simp] theorem tryK_nx {e1 : Env} {S : Store} : tryK g suite cc i e (.nx e1 S) = .nx e1 S := by rw [tryK]; simp
theorem tryK_exc {c : Nat} {v : D} {e1 : Env} {S : Store} (h : g.sub c cc = some true) : tryK g suite cc i e (.exc c v e1 S) = sutK (suite (e1.set i (some (.exn c v))) S) e i := by
  rw [tryK, h]
  dsimp only
  cases suite (e1.set i (some (.exn c v))) S <;> rfl
end
end Mp

namespace Mp
/-! ### loops that end early, texts as items -/
theorem forL_app {body : D → Env → Store → SR} : ∀ {xs ys : List D} {e e' : Env} {S S' : Store}, forL [] body xs e S = .nx e' S' → (∀ i (hi : i < xs.length) e S e' S', body xs[i] e S ≠ .bk e' S') → forL [] body (xs ++ ys) e S = forL [] body ys e' S'
  | [], ys, e, e', S, S', h, _ => by
    rw [forL] at h
    simp [Chk.ok] at h
    rw [h.1, h.2]; rfl
  | x :: xs, ys, e, e', S, S', h, hb => by
    have hb0 := hb 0 (by simp)
    have hbs : ∀ i (hi : i < xs.length) e S e' S', body xs[i] e S ≠ .bk e' S' := fun i hi => hb (i + 1) (by simpa using hi)
    rw [List.cons_append, forL]
    rw [forL] at h
    simp only [Chk.ok, List.all_nil, if_true] at h ⊢
    simp only [List.getElem_cons_zero] at hb0
    cases hx : body x e S with
    | nx e1 S1 => rw [hx] at h; exact forL_app h hbs
    | ct e1 S1 => rw [hx] at h; exact forL_app h hbs
    | bk e1 S1 => exact absurd hx (hb0 _ _ _ _)
    | rt => rw [hx] at h; cases h
    | exc => rw [hx] at h; cases h
    | stuck => rw [hx] at h; cases h
theorem forL_until {body : D → Env → Store → SR} (I : Nat → Env → Store → Prop) (P : SR → Prop) : ∀ (pre : List D) (k : Nat) (x : D) (post : List D) (e : Env) (S : Store), I k e S →
    (∀ i (hi : i < pre.length) e S, I (k + i) e S → ∃ e' S', body pre[i] e S = .nx e' S' ∧ I (k + i + 1) e' S') →
    (∀ e S, I (k + pre.length) e S → P (body x e S) ∧ ((∃ d S', body x e S = .rt d S') ∨ (∃ c v e' S', body x e S = .exc c v e' S'))) →
    P (forL [] body (pre ++ x :: post) e S)
  | [], k, x, post, e, S, h0, _, hx => by
    obtain ⟨h1, h2⟩ := hx e S (by simpa using h0)
    rw [List.nil_append, forL]
    rcases h2 with ⟨d, S', h2⟩ | ⟨c, v, e', S', h2⟩ <;> rw [h2] at h1 ⊢ <;> simpa [Chk.ok] using h1
  | y :: pre, k, x, post, e, S, h0, hs, hx => by
    obtain ⟨e1, S1, h1, h2⟩ := hs 0 (by simp) e S h0
    have := forL_until I P pre (k + 1) x post e1 S1 h2 (fun i hi e S h => by
      have := hs (i + 1) (by simpa using hi) e S (by rw [show k + (i + 1) = k + 1 + i by omega]; exact h)
      rw [show k + (i + 1) + 1 = k + 1 + i + 1 by omega] at this
      simpa using this) (fun e S h => hx e S (by rw [show k + (y :: pre).length = k + 1 + pre.length by simp; omega]; exact h))
    rw [List.cons_append, forL]
    simp only [List.getElem_cons_zero] at h1
    rw [h1]
    simpa [Chk.ok] using this
section
variable {g : Gt} {C : Call}
/-- a loop that leaves by an error -/
theorem for_exc {t : Tg} {it : It} {b : Sms} {e : Env} {S S1 : Store} {pre post : List D} {x : D} {c : Nat} {v : D} {Q : Env → Store → Prop} (I : Nat → Env → Store → Prop) (hI : evI g C it e S = .ok (pre ++ x :: post, []) S1) (h0 : I 0 e S1)
    (hs : ∀ i (hi : i < pre.length) e S, I i e S → ∃ e1 e' S', bindT t pre[i] e = some e1 ∧ evSs g C b e1 S = .nx e' S' ∧ I (i + 1) e' S')
    (hx : ∀ e S, I pre.length e S → ∃ e1 e' S', bindT t x e = some e1 ∧ evSs g C b e1 S = .exc c v e' S' ∧ Q e' S') :
    ∃ e' S', evS g C (.for_ t it b) e S = .exc c v e' S' ∧ Q e' S' := by
  rw [eS_for hI]
  refine forL_until I (fun r => ∃ e' S', r = .exc c v e' S' ∧ Q e' S') pre 0 x post e S1 h0 (fun i hi e S h => ?_) (fun e S h => ?_)
  · obtain ⟨e1, e', S', h1, h2, h3⟩ := hs i hi e S (by simpa using h)
    exact ⟨e', S', by simp [h1, h2], by simpa using h3⟩
  · obtain ⟨e1, e', S', h1, h2, h3⟩ := hx e S (by simpa using h)
    have : (bdK (bindT t x e)).toS e (fun e' _ => evSs g C b e' S) = .exc c v e' S' := by simp [h1, h2]
    exact ⟨⟨e', S', this, h3⟩, .inr ⟨c, v, e', S', this⟩⟩
/-- a loop that returns -/
theorem for_rt {t : Tg} {it : It} {b : Sms} {e : Env} {S S1 : Store} {pre post : List D} {x : D} {Q : D → Store → Prop} (I : Nat → Env → Store → Prop) (hI : evI g C it e S = .ok (pre ++ x :: post, []) S1) (h0 : I 0 e S1)
    (hs : ∀ i (hi : i < pre.length) e S, I i e S → ∃ e1 e' S', bindT t pre[i] e = some e1 ∧ evSs g C b e1 S = .nx e' S' ∧ I (i + 1) e' S')
    (hx : ∀ e S, I pre.length e S → ∃ e1 d S', bindT t x e = some e1 ∧ evSs g C b e1 S = .rt d S' ∧ Q d S') :
    ∃ d S', evS g C (.for_ t it b) e S = .rt d S' ∧ Q d S' := by
  rw [eS_for hI]
  refine forL_until I (fun r => ∃ d S', r = .rt d S' ∧ Q d S') pre 0 x post e S1 h0 (fun i hi e S h => ?_) (fun e S h => ?_)
  · obtain ⟨e1, e', S', h1, h2, h3⟩ := hs i hi e S (by simpa using h)
    exact ⟨e', S', by simp [h1, h2], by simpa using h3⟩
  · obtain ⟨e1, e', S', h1, h2, h3⟩ := hx e S (by simpa using h)
    have : (bdK (bindT t x e)).toS e (fun e' _ => evSs g C b e' S) = .rt e' S' := by simp [h1, h2]
    exact ⟨⟨e', S', this, h3⟩, .inl ⟨e', S', this⟩⟩
end
/-- a text's signs as items -/
abbrev chD (t : List Nat) : List D := t.map fun c => .str [c]
theorem enumD_app : ∀ (k : Nat) (xs ys : List D), enumD k (xs ++ ys) = enumD k xs ++ enumD (k + xs.length) ys
  | k, [], ys => by simp [enumD]
  | k, x :: xs, ys => by simp [enumD, enumD_app (k + 1) xs ys]; rw [show k + 1 + xs.length = k + (xs.length + 1) by omega]
theorem enD_len : ∀ (k : Nat) (xs : List D), (enumD k xs).length = xs.length
  | k, [] => by simp [enumD]
  | k, x :: xs => by simp [enumD, enD_len (k + 1) xs]
theorem enD_get : ∀ (k : Nat) (xs : List D) (i : Nat) (h : i < (enumD k xs).length), (enumD k xs)[i] = .tup [.int (k + i : Nat), xs[i]'(by rwa [enD_len] at h)]
  | k, [], i, h => by simp [enumD] at h
  | k, x :: xs, 0, h => by simp [enumD]
  | k, x :: xs, i + 1, h => by
    simp only [enumD, List.getElem_cons_succ]
    rw [enD_get (k + 1) xs i]
    rw [show k + 1 + i = k + (i + 1) by omega]
/-- a list is good, or there is a first one that is not -/
theorem first_bad {α : Type} (P : α → Prop) : ∀ t : List α, (∀ c ∈ t, P c) ∨ ∃ pre c post, t = pre ++ c :: post ∧ (∀ c ∈ pre, P c) ∧ ¬ P c
  | [] => .inl (by simp)
  | x :: t => by
    by_cases hx : P x
    · rcases first_bad P t with h | ⟨pre, c, post, rfl, h1, h2⟩
      · exact .inl (by simpa using ⟨hx, h⟩)
      · exact .inr ⟨x :: pre, c, post, rfl, by simpa using ⟨hx, h1⟩, h2⟩
    · exact .inr ⟨[], x, t, rfl, by simp, hx⟩
theorem filterMap_enum {α : Type} (F : Nat → D → Option α) : ∀ (k : Nat) (xs : List D), (enumD k xs).filterMap (fun z => match z with | .tup [.int i, d] => F i.toNat d | _ => none) = (List.range xs.length).filterMap (fun i => (xs[i]?).bind (F (k + i)))
  | k, [] => by simp [enumD]
  | k, x :: xs => by
    rw [enumD, List.length_cons, List.range_succ_eq_map, List.filterMap_cons, List.filterMap_cons]
    have := filterMap_enum F (k + 1) xs
    simp only [List.filterMap_map, Function.comp_def, List.getElem?_cons_succ, List.getElem?_cons_zero, Option.bind_some, Nat.add_zero, Int.toNat_natCast]
    rw [this]
    have e : ∀ i, k + 1 + i = k + (i + 1) := by omega
    simp only [e]
end Mp
namespace Mp
section
variable {g : Gt} {tab : Nat → Option Fd}
theorem call_p {n f : Nat} {t : Fd} {args : List D} {S : Store} {v : D} (h : tab f = some t) (ha : args.length = t.np) (ht : t.tm = .pure) (hv : below S.length v = true)
    (hb : evSs g (callN g tab n) t.body (args.map some ++ List.replicate (t.nn - t.np) none) S = .rt v S) : callN g tab (n + 1) f args S = .ret v S := by
  rw [callN_of h ha, hb, ht]
  exact finish_rt (trim_p hv)
theorem call_pn {n f : Nat} {t : Fd} {args : List D} {S : Store} {e : Env} (h : tab f = some t) (ha : args.length = t.np) (ht : t.tm = .pure)
    (hb : evSs g (callN g tab n) t.body (args.map some ++ List.replicate (t.nn - t.np) none) S = .nx e S) : callN g tab (n + 1) f args S = .ret .non S := by
  rw [callN_of h ha, hb, ht]
  exact finish_nx (trim_p rfl)
theorem call_px {n f : Nat} {t : Fd} {args : List D} {S : Store} {v : D} {c : Nat} (h : tab f = some t) (ha : args.length = t.np) (ht : t.tm = .pure) (hv : below S.length v = true)
    (hb : ∃ e, evSs g (callN g tab n) t.body (args.map some ++ List.replicate (t.nn - t.np) none) S = .exc c v e S) : callN g tab (n + 1) f args S = .exc c v S := by
  obtain ⟨e, hb⟩ := hb
  rw [callN_of h ha, hb, ht]
  exact finish_exc (trim_p hv)
theorem call_n {n f : Nat} {t : Fd} {args : List D} {S S' : Store} {v : D} (h : tab f = some t) (ha : args.length = t.np) (ht : t.tm = .no)
    (hb : evSs g (callN g tab n) t.body (args.map some ++ List.replicate (t.nn - t.np) none) S = .rt v S') : callN g tab (n + 1) f args S = .ret v S' := by
  rw [callN_of h ha, hb, ht]
  exact finish_rt trim_n
theorem call_c {n f : Nat} {t : Fd} {args : List D} {S : Store} {v : D} {p : Nat} {o o' : O} (h : tab f = some t) (ha : (D.ref p :: args).length = t.np) (ht : t.tm = .cell0) (hp : p < S.length) (ho : belowO S.length o' = true) (hv : below S.length v = true)
    (hb : ∃ L, evSs g (callN g tab n) t.body ((D.ref p :: args).map some ++ List.replicate (t.nn - t.np) none) (S.set p o) = .rt v (S.set p o' ++ L)) : callN g tab (n + 1) f (.ref p :: args) (S.set p o) = .ret v (S.set p o') := by
  obtain ⟨L, hb⟩ := hb
  rw [callN_of h ha, hb, ht]
  exact finish_rt (trim_c hp ho hv)
end
section
variable {g : Gt} {C : Call}
theorem filterMap_const {α β : Type} (b : β) (xs : List α) : xs.filterMap (fun _ => some b) = List.replicate xs.length b := by
  induction xs with
  | nil => rfl
  | cons x xs ih => simp [ih, List.replicate_succ]
/-- a comprehension whose items are all one -/
theorem comp_one {m : Bool} {elt : Cd} {tg : Tg} {it : It} {own : List Nat} {e : Env} {S S1 : Store} {xs : List D} (d : D) (hI : evI g C it e S = .ok (xs, []) S1) (hl : xs.length ≤ lim)
    (hs : ∀ x ∈ xs, ∃ e1, bindT tg x (wipe e own) = some e1 ∧ evE g C elt e1 S1 = .ok d S1) :
    evE g C (.comp m elt tg it .no own) e S = alloc m (List.replicate xs.length d) S1 := by
  rw [comp_pu (fun _ => some d) hI hl (fun x hx => by
    obtain ⟨e1, h1, h2⟩ := hs x hx
    exact ⟨e1, h1, by simp [h2]⟩), filterMap_const]
/-- a comprehension by a function of its items -/
theorem comp_map {α : Type} {m : Bool} {elt : Cd} {tg : Tg} {it : It} {own : List Nat} {e : Env} {S S1 : Store} {xs : List α} (h : α → D) (f : α → D) (hI : evI g C it e S = .ok (xs.map h, []) S1) (hl : xs.length ≤ lim)
    (hs : ∀ x ∈ xs, ∃ e1, bindT tg (h x) (wipe e own) = some e1 ∧ evE g C elt e1 S1 = .ok (f x) S1) :
    evE g C (.comp m elt tg it .no own) e S = alloc m (xs.map f) S1 := by
  rw [eE_comp hI]
  have : ∀ (ys : List α) (acc : List D), (∀ x ∈ ys, x ∈ xs) → acc.length + ys.length ≤ lim → compL [] (fun x S => (bdK (bindT tg x (wipe e own))).bind fun e' _ => stpK g C .no elt e' S) (ys.map h) acc S1 = .ok (acc ++ ys.map f) S1 := by
    intro ys
    induction ys with
    | nil => intro acc _ _; rw [List.map_nil, compL]; simp [Chk.ok]
    | cons y ys ih =>
      intro acc hy hl
      obtain ⟨e1, h1, h2⟩ := hs y (hy y (by simp))
      simp at hl
      rw [List.map_cons, compL]
      simp only [Chk.ok, List.all_nil, if_true]
      rw [h1, bdK_s, bindE_ok, stpK_eq, eT_no, bindE_ok, kStp_ap, if_pos rfl, h2, bindE_ok, kSome_ap]
      dsimp only
      rw [if_pos (by omega), ih _ (fun x hx => hy x (by simp [hx])) (by simp; omega)]
      simp
  rw [this xs [] (fun _ h => h) (by simpa using hl), bindE_ok, List.nil_append]
end
end Mp
namespace Mp
def Sms.app : Sms → Sms → Sms
  | .nil, b => b
  | .cons s r, b => .cons s (r.app b)
theorem seq_assoc {r : SR} {f k : Env → Store → SR} : (r.seq f).seq k = r.seq (fun e S => (f e S).seq k) := by
  cases r <;> simp
theorem eSs_app {g : Gt} {C : Call} : ∀ (a b : Sms) (e : Env) (S : Store), evSs g C (a.app b) e S = (evSs g C a e S).seq (evSs g C b)
  | .nil, b, e, S => by simp [Sms.app]
  | .cons s r, b, e, S => by
    simp only [Sms.app, eSs_cons, seq_assoc]
    congr 1
    funext e S
    exact eSs_app r b e S
end Mp
namespace Mp
/-! ### more of texts and lists -/
section
variable {g : Gt} {m : Bool} {S : Store} {a b : List Nat} {xs : List D} {k : Int}
@[simp] theorem r_mulS : binop m .mul (.str a) (.int k) S = if -(2 ^ 63) ≤ k ∧ k ≤ 1048576 ∧ a.length ≤ 16 then .ok (.str (List.replicate k.toNat a).flatten) S else .stuck := by rw [binop]
@[simp] theorem i_split {c : Nat} : mtop .split (.str a) [.str [c]] S = if a.length + 2 ≤ lim ∧ c < 256 then .ok (.lst ((splitC c a).map .str)) S else .stuck := by simp [mtop, mtSplit]
@[simp] theorem i_splk : mtOk .split (.str a) S = true := by simp [mtOk]
@[simp] theorem i_lstr {c : Nat} : mtop .lstrip (.str a) [.str [c]] S = if a.length ≤ lim then .ok (.str (a.dropWhile fun d => d == c)) S else .stuck := by simp [mtop, mtLstrip]
@[simp] theorem i_lstk : mtOk .lstrip (.str a) S = true := by simp [mtOk]
@[simp] theorem i_fnd {c : Nat} : mtop .find (.str a) [.str [c]] S = .ok (.int (match fndI a c with | some i => (i : Int) | none => -1)) S := by
  first
    | (rw [mtop, mtFind]; done)
    | (rw [mtop, mtFind]; cases fndI a c <;> rfl)
@[simp] theorem i_fndk : mtOk .find (.str a) S = true := by simp [mtOk]
theorem i_six {c i : Nat} (h : fndI a c = some i) : mtop .sindex (.str a) [.str [c]] S = .ok (.int (i : Nat)) S := by simp [mtop, mtSindex, h]
@[simp] theorem i_sixk : mtOk .sindex (.str a) S = true := by simp [mtOk]
@[simp] theorem rv_l : revop m (.lst xs) S = alloc m xs.reverse S := by simp [revop, asL]
theorem sl_l {lo hi : Option Int} : slop m (.lst xs) lo hi S = alloc m (cut xs lo hi) S := by simp [slop, asL]
end
theorem cut_take {α : Type} (xs : List α) (k : Nat) : cut xs none (some (k : Int)) = xs.take k := by
  simp only [cut, sIx]
  have h : ¬ ((k : Int) < 0) := by omega
  rw [if_neg h, List.drop_zero, Nat.sub_zero, Int.toNat_natCast]
  by_cases hk : k ≤ xs.length
  · rw [Nat.min_eq_left hk]
  · rw [Nat.min_eq_right (by omega), List.take_length, List.take_of_length_le (by omega)]
theorem cut_drop {α : Type} (xs : List α) (k : Nat) : cut xs (some (k : Int)) none = xs.drop k := by
  simp only [cut, sIx]
  have h : ¬ ((k : Int) < 0) := by omega
  rw [if_neg h, Int.toNat_natCast]
  by_cases hk : k ≤ xs.length
  · rw [Nat.min_eq_left hk, List.take_of_length_le (by simp)]
  · rw [Nat.min_eq_right (by omega), List.drop_of_length_le (Nat.le_refl _), List.drop_of_length_le (by omega)]
    simp
theorem atI_last {α : Type} {xs : List α} {x : α} : atI (xs ++ [x]) (-1) = some x := by
  have h : (1 : Int) ≤ (xs.length : Int) + 1 := by omega
  have h2 : (-1 + ((xs.length : Int) + 1)).toNat = xs.length := by omega
  simp [atI, ixN, h, h2]
theorem flat_rep (k : Nat) (c : Nat) : (List.replicate k [c]).flatten = List.replicate k c := by
  induction k with
  | zero => rfl
  | succ k ih => simp [List.replicate_succ, ih]
theorem splitC_ne' (c : Nat) : ∀ l, splitC c l ≠ []
  | [] => by simp [splitC]
  | d :: r => by
    unfold splitC
    split
    · simp
    · split <;> simp
theorem splitC_join (c : Nat) : ∀ l, joinS [c] (splitC c l) = l
  | [] => by simp [splitC, joinS]
  | d :: r => by
    have ih := splitC_join c r
    unfold splitC
    have hne := splitC_ne' c r
    split
    · rename_i h
      cases e : splitC c r with
      | nil => exact absurd e hne
      | cons p ps => rw [e] at ih; simp [joinS, ih, h]
    · cases e : splitC c r with
      | nil => exact absurd e hne
      | cons p ps =>
        rw [e] at ih
        cases ps with
        | nil => simp [joinS] at ih ⊢; exact ih
        | cons q qs => simp [joinS] at ih ⊢; exact ih
theorem splitC_free (c : Nat) : ∀ l, ∀ p ∈ splitC c l, c ∉ p
  | [], p, h => by simp [splitC] at h; simp [h]
  | d :: r, p, h => by
    have ih := splitC_free c r
    unfold splitC at h
    split at h
    · rcases List.mem_cons.mp h with rfl | h
      · simp
      · exact ih p h
    · rename_i hd
      cases e : splitC c r with
      | nil => exact absurd e (splitC_ne' c r)
      | cons q qs =>
        rw [e] at h ih
        rcases List.mem_cons.mp h with rfl | h
        · have := ih q (by simp)
          simp only [List.mem_cons, not_or]
          exact ⟨fun he => hd he.symm, this⟩
        · exact ih p (by simp [h])
theorem splitC_one (c : Nat) : ∀ l, c ∉ l → splitC c l = [l]
  | [], _ => by simp [splitC]
  | d :: r, h => by
    simp only [List.mem_cons, not_or] at h
    rw [splitC, if_neg (fun e => h.1 e.symm), splitC_one c r h.2]
theorem splitC_app (c : Nat) : ∀ u l, c ∉ u → splitC c (u ++ c :: l) = u :: splitC c l
  | [], l, _ => by simp [splitC]
  | d :: r, l, h => by
    simp only [List.mem_cons, not_or] at h
    rw [List.cons_append, splitC, if_neg (fun e => h.1 e.symm), splitC_app c r l h.2]
theorem splitC_mem {c : Nat} {l : List Nat} {p : List Nat} (h : p ∈ splitC c l) : ∀ d ∈ p, d ∈ l := by
  have key : ∀ (ps : List (List Nat)), ∀ p ∈ ps, ∀ d ∈ p, d ∈ joinS [c] ps := fun ps => by
    induction ps with
    | nil => simp
    | cons q qs ih =>
      intro p hp d hd
      cases qs with
      | nil => simp at hp; subst hp; simpa [joinS] using hd
      | cons r rs =>
        simp only [joinS, List.mem_append]
        rcases List.mem_cons.mp hp with rfl | hp
        · exact .inl hd
        · exact .inr (.inr (ih p hp d hd))
  intro d hd
  have := key _ p h d hd
  rwa [splitC_join] at this
theorem splitC_len' {c : Nat} {l : List Nat} {p : List Nat} (h : p ∈ splitC c l) : p.length ≤ l.length := by
  have key : ∀ (ps : List (List Nat)), ∀ p ∈ ps, p.length ≤ (joinS [c] ps).length := fun ps => by
    induction ps with
    | nil => simp
    | cons q qs ih =>
      intro p hp
      cases qs with
      | nil => simp at hp; subst hp; simp [joinS]
      | cons r rs =>
        simp only [joinS, List.length_append]
        rcases List.mem_cons.mp hp with rfl | hp
        · omega
        · have := ih p hp; omega
  have := key _ p h
  rwa [splitC_join] at this
/-- signs as items: none of them is an empty list's -/
theorem k_ne_ch (t : List Nat) (S : Store) (h : ∀ c ∈ t, c < 1114112) : cmpop .ne (.lst (chD t)) (.lst []) S = some (!t.isEmpty) := by
  have hm : ∀ t : List Nat, (∀ c ∈ t, c < 1114112) → (chD t).mapM (res S 59) = some (chD t) := fun t => by
    induction t with
    | nil => intro _; rfl
    | cons c t ih =>
      intro h
      have h1 := h c (by simp)
      have r1 : res S 59 (.str [c]) = some (.str [c]) := by rw [res]; simp [h1]
      show (D.str [c] :: chD t).mapM (res S 59) = _
      rw [List.mapM_cons, r1, ih (fun c hc => h c (by simp [hc]))]
      rfl
  simp only [cmpop, eqTop, flat, Bool.and_self, Bool.false_eq_true, if_false]
  rw [show res S 60 (.lst (chD t)) = some (.lst (chD t)) by rw [res]; simp [hm t h], show res S 60 (.lst []) = some (.lst []) by rw [res]; rfl]
  cases t <;> simp [eqv, eqvL]
theorem i_join2 {a p q : List Nat} {S : Store} (h : p.length + q.length + 2 * a.length ≤ 16777216) : mtop .join (.str a) [.lst [.str p, .str q]] S = .ok (.str (p ++ (a ++ q))) S := by
  have : (([p, q].map List.length).sum + [p, q].length * a.length ≤ 16777216) := by simp; omega
  simp only [mtop, mtJoin, asQ, asL, Option.bind_some, strsD, Option.map_some]
  rw [if_pos this]
  rfl
section
variable {S : Store} {l : Nat} {xs : List D} {y : D} {i : Int}
theorem i_ins_c (h : S[l]? = some (.lst xs)) (hl : xs.length < lim) (h0 : 0 ≤ i) (h1 : i < 2 ^ 62) : mtop .insert (.ref l) [.int i, y] S = .ok .non (S.set l (.lst (xs.take i.toNat ++ [y] ++ xs.drop i.toNat))) := by simp only [mtop, mtInsert, h, hl, h0, h1, and_self, if_true]
theorem i_app_c (h : S[l]? = some (.lst xs)) (hl : xs.length < lim) : mtop .append (.ref l) [y] S = .ok .non (S.set l (.lst (xs ++ [y]))) := by simp only [mtop, mtAppend, h, hl, if_true]
theorem i_pop_c (h : S[l]? = some (.lst (xs ++ [y]))) : mtop .pop (.ref l) [] S = .ok y (S.set l (.lst xs)) := by simp [mtop, mtPop, h]
theorem i_appk (h : S[l]? = some (.lst xs)) : mtOk .append (.ref l) S = true := by simp only [mtOk, asL, h]; rfl
theorem i_insk (h : S[l]? = some (.lst xs)) : mtOk .insert (.ref l) S = true := by simp only [mtOk, asL, h]; rfl
theorem i_popk (h : S[l]? = some (.lst xs)) : mtOk .pop (.ref l) S = true := by simp only [mtOk, asL, h]; rfl
theorem frz_c (h : S[l]? = some (.lst xs)) : frzop (.ref l) S = .ok (.lst xs) (S.set l .dead) := by simp only [frzop, h]
theorem len_c {g : Gt} {m : Bool} (h : S[l]? = some (.lst xs)) : biop g m .len [.ref l] S = .ok (.int xs.length) S := by simp [biop, biLen, asK, asQ, asL, h]
end
end Mp
namespace Mp
section
variable {g : Gt} {C : Call} {e : Env} {S : Store}
def kLrg (m : Bool) (xs : List D) (S : Store) : Res D := match rngA xs with
    | some (a, c, n) => if n ≤ lim then alloc m (rangeC a c n) S else .stuck
    | none => .stuck
theorem eE_lrg {m : Bool} {es : Cds} : evE g C (.lrg m es) e S = (evEs g C es e S).bind (kLrg m) := by rw [evE]; rfl
theorem rngA1 {n : Nat} (h : n ≤ 1000000) : rngA [.int (n : Int)] = some (0, 1, n) := by
  have hs : small62 (n : Int) = true := by
    simp only [small62, Bool.and_eq_true, decide_eq_true_eq]
    omega
  simp only [rngA, hs, if_true, Int.toNat_natCast]
theorem kLrg1 {m : Bool} {n : Nat} (h : n ≤ 1000000) : kLrg m [.int n] S = alloc m ((List.range n).map fun b : Nat => D.int (b : Int)) S := by
  have h2 : n ≤ lim := Nat.le_trans h (by decide)
  have h3 : rangeC 0 1 n = (List.range n).map fun b : Nat => D.int (b : Int) := by
    unfold rangeC
    refine List.map_congr_left fun k _ => ?_
    rw [Int.mul_one, Int.zero_add]
  rw [kLrg, rngA1 h]
  dsimp only
  rw [if_pos h2, h3]
end
end Mp
namespace Mp
/-- a while loop that goes round so many times -/
theorem whl_inv {test : Env → Store → Res Bool} {body : Env → Store → SR} (I : Nat → Env → Store → Prop) : ∀ (m k N : Nat) (e : Env) (S : Store), m < N → I k e S →
    (∀ i, i < m → ∀ e S, I (k + i) e S → test e S = .ok true S ∧ ∃ e' S', body e S = .nx e' S' ∧ I (k + i + 1) e' S') →
    (∀ e S, I (k + m) e S → test e S = .ok false S) →
    ∃ e' S', whlL test body N e S = .nx e' S' ∧ I (k + m) e' S'
  | 0, k, N, e, S, hN, h0, hs, hf => by
    obtain ⟨N, rfl⟩ : ∃ n, N = n + 1 := ⟨N - 1, by omega⟩
    refine ⟨e, S, ?_, by simpa using h0⟩
    rw [whlL, hf e S (by simpa using h0)]
  | m + 1, k, N, e, S, hN, h0, hs, hf => by
    obtain ⟨N, rfl⟩ : ∃ n, N = n + 1 := ⟨N - 1, by omega⟩
    obtain ⟨ht, e1, S1, hb, hI⟩ := hs 0 (by omega) e S (by simpa using h0)
    obtain ⟨e2, S2, h1, h2⟩ := whl_inv I m (k + 1) N e1 S1 (by omega) (by simpa using hI) (fun i hi e S h => by
      have := hs (i + 1) (by omega) e S (by rw [show k + (i + 1) = k + 1 + i by omega]; exact h)
      rw [show k + (i + 1) + 1 = k + 1 + i + 1 by omega] at this
      exact this) (fun e S h => hf e S (by rw [show k + (m + 1) = k + 1 + m by omega]; exact h))
    refine ⟨e2, S2, ?_, by rw [show k + (m + 1) = k + 1 + m by omega]; exact h2⟩
    rw [whlL, ht]
    dsimp only
    rw [hb]
    exact h1
theorem whl_sp {g : Gt} {C : Call} {c : Cd} {body : Sms} {e : Env} {S : Store} (I : Nat → Env → Store → Prop) (m : Nat) (hm : m < 1000000) (h0 : I 0 e S)
    (hs : ∀ i, i < m → ∀ e S, I i e S → (evE g C c e S).bind tr = .ok true S ∧ ∃ e' S', evSs g C body e S = .nx e' S' ∧ I (i + 1) e' S')
    (hf : ∀ e S, I m e S → (evE g C c e S).bind tr = .ok false S) :
    ∃ e' S', evS g C (.whl c body) e S = .nx e' S' ∧ I m e' S' := by
  rw [evS]
  have := whl_inv (test := fun e S => (evE g C c e S).bind tr) (body := fun e S => evSs g C body e S) I m 0 whlN e S hm h0 (fun i hi e S h => by simpa using hs i hi e S (by simpa using h)) (fun e S h => hf e S (by simpa using h))
  simpa using this
/-- texts as items -/
theorem k_ne_strs (ts : List (List Nat)) (S : Store) (h : ∀ t ∈ ts, ∀ c ∈ t, c < 1114112) : cmpop .ne (.lst (ts.map .str)) (.lst []) S = some (!ts.isEmpty) := by
  have hm : ∀ ts : List (List Nat), (∀ t ∈ ts, ∀ c ∈ t, c < 1114112) → (ts.map D.str).mapM (res S 59) = some (ts.map D.str) := fun ts => by
    induction ts with
    | nil => intro _; rfl
    | cons t ts ih =>
      intro h
      have h1 := h t (by simp)
      have r1 : res S 59 (.str t) = some (.str t) := by
        rw [res]
        rw [if_pos (List.all_eq_true.mpr fun c hc => decide_eq_true (h1 c hc))]
      rw [List.map_cons, List.mapM_cons, r1, ih (fun t ht => h t (by simp [ht]))]
      rfl
  simp only [cmpop, eqTop, flat, Bool.and_self, Bool.false_eq_true, if_false]
  rw [show res S 60 (.lst (ts.map .str)) = some (.lst (ts.map .str)) by rw [res]; simp [hm ts h], show res S 60 (.lst []) = some (.lst []) by rw [res]; rfl]
  cases ts <;> simp [eqv, eqvL]
end Mp
end
section
/-! The parts that all laws have: purses, drawing, exactness. -/
namespace Mp
def cPurse : Sms := (.cons (.asg (.n 2) (.bi false .sum (.cons (.sl false (.v 0) (.so (.v 1)) (.so (.bin false .add (.v 1) (.c (.int 1))))) .nil))) (.cons (.ret (.lst true (.cons (.bin false .mod (.bi false .int (.cons (.bi false .max (.cons (.bin false .sub (.v 2) (.bin false .pow (.c (.int 10)) (.c (.int 18)))) (.cons (.c (.int 0)) .nil))) .nil)) (.bin false .pow (.bin false .pow (.c (.int 10)) (.c (.int 60))) (.c (.int 8)))) (.cons (.bin false .mod (.bi false .int (.cons (.v 2) .nil)) (.c (.int 2147483629))) (.cons (.c (.int 0)) (.cons (.v 1) .nil)))))) .nil))
def dPurse : Fd := { np := 2, nn := 3, body := cPurse, tm := .no }
def cMixed : Sms := (.cons (.asg (.n 3) (.bin false .add (.bin false .mul (.v 0) (.c (.int 69069))) (.bin false .mul (.bin false .mul (.c (.int 104729)) (.v 1)) (.v 1)))) (.cons (.asg (.n 3) (.bin false .mod (.bi false .int (.cons (.bin false .add (.bin false .add (.v 3) (.bin false .mul (.c (.int 7919)) (.v 2))) (.v 1)) .nil)) (.c (.int 2147483647)))) (.cons (.asg (.n 3) (.bin false .mod (.bi false .int (.cons (.bin false .add (.bin false .mul (.v 3) (.v 3)) (.c (.int 40503))) .nil)) (.c (.int 2147483629)))) (.cons (.ret (.bin false .mod (.bi false .int (.cons (.bin false .mul (.v 3) (.c (.int 48271))) .nil)) (.c (.int 2147483587)))) .nil))))
def dMixed : Fd := { np := 3, nn := 4, body := cMixed, tm := .pure }
def B1Draw (fm : Nat) : Sms := (.cons (.sti (.v 0) (.c (.int 2)) (.bin false .add (.ix (.v 0) (.c (.int 2))) (.c (.int 1)))) (.cons (.asg (.n 2) (.bin false .add (.bin false .mul (.v 2) (.c (.int 2147483587))) (.call fm (.cons (.ix (.v 0) (.c (.int 1))) (.cons (.ix (.v 0) (.c (.int 2))) (.cons (.ix (.v 0) (.c (.int 3))) .nil))) []))) .nil))
def L2Draw (fm : Nat) : Sm := (.for_ (.n 3) (.rng1 (.bin false .add (.c (.int 1)) (.bin false .fdiv (.mt .bitlen (.v 1) .nil) (.c (.int 28))))) (B1Draw fm))
def cDraw (fm : Nat) : Sms := (.cons (.ife (.cmp .gt (.ix (.v 0) (.c (.int 0))) (.c (.int 0))) (.cons (.asg (.n 4) (.bin false .mod (.bi false .int (.cons (.ix (.v 0) (.c (.int 0))) .nil)) (.v 1))) (.cons (.sti (.v 0) (.c (.int 0)) (.bin false .fdiv (.ix (.v 0) (.c (.int 0))) (.v 1))) (.cons (.ret (.v 4)) .nil))) .nil) (.cons (.asg (.n 2) (.c (.int 0))) (.cons (L2Draw fm) (.cons (.ret (.bin false .mod (.bi false .int (.cons (.v 2) .nil)) (.v 1))) .nil))))
def dDraw (fm : Nat) : Fd := { np := 2, nn := 5, body := (cDraw fm), tm := .cell0 }
def Q1Purses (fp : Nat) : Cd := (.comp false (.call fp (.cons (.v 0) (.cons (.v 2) .nil)) []) (.n 2) (.rng1 (.bi false .max (.cons (.c (.int 1)) (.cons (.bi false .min (.cons (.v 1) (.cons (.bi false .len (.cons (.v 0) .nil)) .nil))) .nil)))) .no [2])
def cPurses (fp : Nat) : Sms := (.cons (.ret (Q1Purses fp)) .nil)
def dPurses (fp : Nat) : Fd := { np := 2, nn := 3, body := (cPurses fp), tm := .no }
def cOneOf (fd : Nat) : Sms := (.cons (.ret (.ix (.v 1) (.call fd (.cons (.v 0) (.cons (.bi false .len (.cons (.v 1) .nil)) .nil)) []))) .nil)
def dOneOf (fd : Nat) : Fd := { np := 2, nn := 2, body := (cOneOf fd), tm := .cell0 }
def Q1Exact (fx : Nat) : Cd := (.comp false (.call fx (.cons (.v 5) (.cons (.v 6) .nil)) []) (.ns [5, 6]) (.zip (.v 0) (.v 1)) .no [5, 6])
def Q2Exact (fx : Nat) : Cd := (.comp false (.and_ (.cmp .in_ (.v 4) (.v 1)) (.call fx (.cons (.ix (.v 0) (.v 4)) (.cons (.ix (.v 1) (.v 4)) .nil)) [])) (.n 4) (.keys (.v 0)) .no [4])
def cExact (fx : Nat) : Sms := (.cons (.ife (.bi false .isinst (.cons (.v 0) (.cons (.c (.bty .dict)) .nil))) (.cons (.ife (.or_ (.not_ (.bi false .isinst (.cons (.v 1) (.cons (.c (.bty .dict)) .nil)))) (.cmp .ne (.bi false .len (.cons (.v 0) .nil)) (.bi false .len (.cons (.v 1) .nil)))) (.cons (.ret (.c (.bl false))) .nil) .nil) (.cons (.ret (.bi false .all (.cons (Q2Exact fx) .nil))) .nil)) .nil) (.cons (.ife (.bi false .isinst (.cons (.v 0) (.cons (.tup (.cons (.c (.bty .list)) (.cons (.c (.bty .tuple)) .nil))) .nil))) (.cons (.asg (.n 3) (.cmp .eq (.bi false .isinst (.cons (.v 1) (.cons (.c (.bty .list)) .nil))) (.bi false .isinst (.cons (.v 0) (.cons (.c (.bty .list)) .nil))))) (.cons (.asg (.n 2) (.and_ (.v 3) (.cmp .eq (.bi false .isinst (.cons (.v 1) (.cons (.c (.bty .tuple)) .nil))) (.bi false .isinst (.cons (.v 0) (.cons (.c (.bty .tuple)) .nil)))))) (.cons (.ret (.and_ (.v 2) (.and_ (.cmp .eq (.bi false .len (.cons (.v 0) .nil)) (.bi false .len (.cons (.v 1) .nil))) (.bi false .all (.cons (Q1Exact fx) .nil))))) .nil))) .nil) (.cons (.ife (.or_ (.bi false .isinst (.cons (.v 1) (.cons (.tup (.cons (.c (.bty .list)) (.cons (.c (.bty .tuple)) (.cons (.c (.bty .dict)) .nil)))) .nil))) (.cmp .ne (.cmp .is_ (.v 0) (.c .non)) (.cmp .is_ (.v 1) (.c .non)))) (.cons (.ret (.c (.bl false))) .nil) .nil) (.cons (.asg (.n 2) (.and_ (.cmp .eq (.bi false .isinst (.cons (.v 0) (.cons (.c (.bty .int)) .nil))) (.bi false .isinst (.cons (.v 1) (.cons (.c (.bty .int)) .nil)))) (.cmp .eq (.bi false .isinst (.cons (.v 0) (.cons (.c (.bty .str)) .nil))) (.bi false .isinst (.cons (.v 1) (.cons (.c (.bty .str)) .nil)))))) (.cons (.ret (.and_ (.v 2) (.and_ (.cmp .eq (.bi false .isinst (.cons (.v 0) (.cons (.c (.bty .bool)) .nil))) (.bi false .isinst (.cons (.v 1) (.cons (.c (.bty .bool)) .nil)))) (.cmp .eq (.v 0) (.v 1))))) .nil)))))
def dExact (fx : Nat) : Fd := { np := 2, nn := 7, body := (cExact fx), tm := .pure }
def Q1Rhythm (fd : Nat) : Cd := (.comp false (.v 3) (.n 3) (.rng1 (.v 2)) (.so (.cmp .eq (.call fd (.cons (.v 0) (.cons (.c (.int 2)) .nil)) []) (.c (.int 0)))) [3])
def cRhythm (fd : Nat) : Sms := (.cons (.asg (.n 2) (.bin false .add (.c (.int 1)) (.call fd (.cons (.v 0) (.cons (.v 1) .nil)) []))) (.cons (.ret (.tup (.cons (.v 2) (.cons (Q1Rhythm fd) .nil)))) .nil))
def dRhythm (fd : Nat) : Fd := { np := 2, nn := 4, body := (cRhythm fd), tm := .cell0 }
def cOfSigns (fd fo : Nat) : Sms := (.cons (.par [5, 6] (.cons (.call fd (.cons (.v 0) (.cons (.bin false .add (.bi false .len (.cons (.v 1) .nil)) (.c (.int 1))) .nil)) []) (.cons (.call fo (.cons (.v 0) (.cons (.v 2) .nil)) []) .nil))) (.cons (.asg (.n 3) (.call fd (.cons (.v 0) (.cons (.bin false .add (.bi false .len (.cons (.v 1) .nil)) (.c (.int 1))) .nil)) [])) (.cons (.par [7, 8] (.cons (.bi false .min (.cons (.v 5) (.cons (.v 3) .nil))) (.cons (.bi false .max (.cons (.v 5) (.cons (.v 3) .nil))) .nil))) (.cons (.asg (.n 4) (.lst false (.cons (.bin false .add (.bin false .add (.sl false (.v 1) .no (.so (.v 5))) (.v 6)) (.sl false (.v 1) (.so (.v 5)) .no)) (.cons (.bin false .add (.sl false (.v 1) .no (.so (.v 5))) (.sl false (.v 1) (.so (.bin false .add (.v 5) (.c (.int 1)))) .no)) (.cons (.bin false .add (.bin false .add (.sl false (.v 1) .no (.so (.v 5))) (.v 6)) (.sl false (.v 1) (.so (.bin false .add (.v 5) (.c (.int 1)))) .no)) (.cons (.sl false (.v 1) .no (.so (.v 5))) (.cons (.sl false (.v 1) (.so (.v 5)) .no) (.cons (.bin false .add (.v 1) (.v 6)) (.cons (.bin false .add (.v 6) (.v 1)) .nil))))))))) (.cons (.ret (.call fo (.cons (.v 0) (.cons (.bin false .add (.v 4) (.lst false (.cons (.bin false .add (.sl false (.v 1) .no (.so (.v 7))) (.sl false (.v 1) (.so (.v 8)) .no)) (.cons (.bin false .add (.sl false (.v 1) .no (.so (.v 8))) (.sl false (.v 1) (.so (.v 7)) .no)) (.cons (.bin false .add (.rev false (.sl false (.v 1) (.so (.v 7)) (.so (.v 8)))) (.sl false (.v 1) (.so (.v 8)) .no)) (.cons (.bin false .add (.v 1) (.v 1)) .nil)))))) .nil)) [])) .nil)))))
def dOfSigns (fd fo : Nat) : Fd := { np := 3, nn := 9, body := (cOfSigns fd fo), tm := .cell0 }
/-- a purse's cell -/
abbrev pu (a b c d : Int) : O := .lst [.int a, .int b, .int c, .int d]
/-- a good purse: so many draws behind it at most -/
def GP (k : Int) (o : O) : Prop := ∃ a b c d, o = pu a b c d ∧ 0 ≤ a ∧ b.natAbs < 2 ^ 60 ∧ 0 ≤ c ∧ c ≤ k
theorem GP.mono {k l : Int} {o : O} (h : GP k o) (hl : k ≤ l) : GP l o := by
  obtain ⟨a, b, c, d, h1, h2, h3, h4, h5⟩ := h
  exact ⟨a, b, c, d, h1, h2, h3, h4, by omega⟩
theorem GP.below {k : Int} {o : O} (h : GP k o) (n : Nat) : belowO n o = true := by
  obtain ⟨a, b, c, d, h1, h2, h3, h4, h5⟩ := h
  subst h1
  simp [belowO, belowL, Mp.below]
theorem fin_c {t : Fd} {S L : Store} {p : Nat} {o o' : O} {k : Int} {args : List D} {v : D} (ht : t.tm = .cell0) (hp : p < S.length) (ho : GP k o') (h2 : below S.length v = true) : finish t.tm (.ref p :: args) (S.set p o) (.rt v (S.set p o')) = .ret v (S.set p o') := by
  rw [ht]
  refine finish_rt ?_
  have := trim_c (L := []) (o := o) (args := args) hp (ho.below _) h2
  rwa [List.append_nil] at this
theorem fin_cL {t : Fd} {S L : Store} {p : Nat} {o o' : O} {k : Int} {args : List D} {v : D} (ht : t.tm = .cell0) (hp : p < S.length) (ho : GP k o') (h2 : below S.length v = true) : finish t.tm (.ref p :: args) (S.set p o) (.rt v (S.set p o' ++ L)) = .ret v (S.set p o') := by
  rw [ht]
  exact finish_rt (trim_c (o := o) (args := args) hp (ho.below _) h2)
theorem fin_p {t : Fd} {S : Store} {args : List D} {v : D} (ht : t.tm = .pure) (h2 : below S.length v = true) : finish t.tm args S (.rt v S) = .ret v S := by
  rw [ht]
  exact finish_rt (trim_p h2)
theorem fin_px {t : Fd} {S : Store} {args : List D} {v : D} {c : Nat} {e : Env} (ht : t.tm = .pure) (h2 : below S.length v = true) : finish t.tm args S (.exc c v e S) = .exc c v S := by
  rw [ht]
  exact finish_exc (trim_p h2)
theorem fin_pn {t : Fd} {S : Store} {args : List D} {e : Env} (ht : t.tm = .pure) : finish t.tm args S (.nx e S) = .ret .non S := by
  rw [ht]
  exact finish_nx (trim_p rfl)
section
variable {g : Gt} {tab : Nat → Option Fd} {fm fd fo fx fp : Nat}
theorem mulOk_r (x : Int) {y : Int} (h : y.natAbs < 2 ^ 64) : mulOk x y = true := by
  unfold mulOk
  simp only [Bool.or_eq_true, decide_eq_true_eq]
  omega
theorem mulOk_l {x : Int} (y : Int) (h : x.natAbs < 2 ^ 64) : mulOk x y = true := by
  unfold mulOk
  simp only [Bool.or_eq_true, decide_eq_true_eq]
  omega
theorem mixed_sp (Hm : tab fm = some dMixed) (n : Nat) (S : Store) (a b c : Int) (hb : b.natAbs < 2 ^ 62) : ∃ r, callN g tab (n + 1) fm [.int a, .int b, .int c] S = .ret (.int r) S ∧ 0 ≤ r ∧ r < 2147483587 := by
  have m1 : ∀ x : Int, mulOk x 69069 = true := fun x => mulOk_r x (by decide)
  have m2 : ∀ x : Int, mulOk x b = true := fun x => mulOk_r x (by omega)
  have m4 : ∀ x : Int, mulOk (x % 2147483647) (x % 2147483647) = true := fun x => mulOk_r _ (by omega)
  have m5 : ∀ x : Int, mulOk x 48271 = true := fun x => mulOk_r x (by decide)
  have m6 : ∀ x : Int, mulOk 7919 x = true := fun x => mulOk_l x (by decide)
  rw [callN_of Hm rfl]
  simp [dMixed, cMixed, m1, m2, m4, m5, m6]
  rw [finish_rt (trim_p rfl)]
  exact ⟨_, rfl, by omega, by omega⟩
section
variable {S : Store} {p : Nat} {a b c d : Int} (hp : p < S.length)
include hp
@[simp] theorem x_pu0 : ixop (.ref p) (.int 0) (S.set p (pu a b c d)) = some (.int a) := by rw [x_ref (List.getElem?_set_self hp)]; rfl
@[simp] theorem x_pu1 : ixop (.ref p) (.int 1) (S.set p (pu a b c d)) = some (.int b) := by rw [x_ref (List.getElem?_set_self hp)]; rfl
@[simp] theorem x_pu2 : ixop (.ref p) (.int 2) (S.set p (pu a b c d)) = some (.int c) := by rw [x_ref (List.getElem?_set_self hp)]; rfl
@[simp] theorem x_pu3 : ixop (.ref p) (.int 3) (S.set p (pu a b c d)) = some (.int d) := by rw [x_ref (List.getElem?_set_self hp)]; rfl
@[simp] theorem st_pu0 {v : Int} : stI (.ref p) (.int 0) (.int v) (S.set p (pu a b c d)) = some (S.set p (pu v b c d)) := by
  rw [st_ref (k := 0) (List.getElem?_set_self hp) (by simp only [List.length]; decide)]; simp
@[simp] theorem st_pu2 {v : Int} : stI (.ref p) (.int 2) (.int v) (S.set p (pu a b c d)) = some (S.set p (pu a b v d)) := by
  rw [st_ref (k := 2) (List.getElem?_set_self hp) (by simp only [List.length]; decide)]; simp
end
theorem draw_sp (Hm : tab fm = some dMixed) (Hd : tab fd = some (dDraw fm)) (n : Nat) (S : Store) (p : Nat) (o : O) (k many : Int) (hp : p < S.length) (ho : GP k o) (hk : k < 2 ^ 59) (h1 : 0 < many) (h2 : many < 2 ^ 200) :
    ∃ r o', callN g tab (n + 2) fd [.ref p, .int many] (S.set p o) = .ret (.int r) (S.set p o') ∧ 0 ≤ r ∧ r < many ∧ GP (k + 8) o' := by
  obtain ⟨a, b, c, d, rfl, ha, hb, hc, hc2⟩ := ho
  have hlog : many.natAbs.log2 < 200 := (Nat.log2_lt (by omega)).mpr (by omega)
  rw [callN_of Hd rfl]
  by_cases h0 : 0 < a
  · have ho : GP (k + 8) (pu (a / many) b c d) := ⟨a / many, b, c, d, rfl, Int.ediv_nonneg ha (by omega), hb, hc, by omega⟩
    refine ⟨a % many, pu (a / many) b c d, ?_, Int.emod_nonneg _ (by omega), Int.emod_lt_of_pos _ h1, ho⟩
    rw [← fin_c (L := []) (t := dDraw fm) (o := pu a b c d) (args := [.int many]) rfl hp ho (by simp [below])]
    simp [dDraw, cDraw, hp, h0, h1, fdOk_of h1 h2]
  · have hz : many ≠ 0 := by omega
    have hm2 : ((many.natAbs.log2 : Int) + 1) / 28 ≤ 7 := by omega
    have hm3 : 0 ≤ ((many.natAbs.log2 : Int) + 1) / 28 := by omega
    have hsm : small62 (1 + ((many.natAbs.log2 : Int) + 1) / 28) = true := by
      simp only [small62, Bool.and_eq_true, decide_eq_true_eq]
      omega
    have l28 : fdOk 28 = true := fdOk_of (by decide) (by decide)
    obtain ⟨e', S', hf, f, y, rfl, rfl⟩ : ∃ e' S', evS g (callN g tab (n + 1)) (L2Draw fm) [some (.ref p), some (.int many), some (.int 0), none, none] (S.set p (pu a b c d)) = .nx e' S' ∧ ∃ f y, e' = [some (.ref p), some (.int many), some (.int f), y, none] ∧ S' = S.set p (pu a b (c + ((rangeD 0 (1 + ((many.natAbs.log2 : Int) + 1) / 28).toNat).length : Nat)) d) := by
      refine for_sp (xs := rangeD 0 (1 + ((many.natAbs.log2 : Int) + 1) / 28).toNat) (fun i e T => ∃ f y, e = [some (.ref p), some (.int many), some (.int f), y, none] ∧ T = S.set p (pu a b (c + i) d)) (S1 := S.set p (pu a b c d)) ?_ ⟨0, none, rfl, by simp⟩ ?_
      · simp [hz, l28, hsm]
      · rintro i hi e T ⟨f, y, rfl, rfl⟩
        simp [rangeD] at hi
        obtain ⟨r, hr, -, -⟩ := mixed_sp (g := g) Hm n (S.set p (pu a b (c + i + 1) d)) b (c + i + 1) d (by omega)
        refine ⟨_, _, _, bd_n, ?_, f * 2147483587 + r, some (.int i), rfl, rfl⟩
        have m0 : mulOk f 2147483587 = true := mulOk_r f (by decide)
        have e1 : c + (↑i + 1) = c + i + 1 := by omega
        simp [B1Draw, rangeD, hp, hr, m0, e1]
    generalize hj : ((rangeD 0 (1 + ((many.natAbs.log2 : Int) + 1) / 28).toNat).length : Nat) = j at hf
    have hj2 : j ≤ 8 := by rw [← hj]; simp [rangeD]; omega
    have ho : GP (k + 8) (pu a b (c + j) d) := ⟨_, _, _, _, rfl, ha, hb, by omega, by omega⟩
    refine ⟨f % many, _, ?_, Int.emod_nonneg _ (by omega), Int.emod_lt_of_pos _ h1, ho⟩
    rw [← fin_c (L := []) (t := dDraw fm) (o := pu a b c d) (args := [.int many]) rfl hp ho (by simp [below])]
    simp [dDraw, cDraw, hp, h0, hf, h1]
theorem atI_nat {α : Type} {xs : List α} {r : Int} (h0 : 0 ≤ r) (h1 : r < xs.length) : atI xs r = xs[r.toNat]? := by
  simp [atI, ixN, h0, h1]
theorem one_of_sp (Hm : tab fm = some dMixed) (Hd : tab fd = some (dDraw fm)) (Ho : tab fo = some (dOneOf fd)) (n : Nat) (S : Store) (p : Nat) (o : O) (k : Int) (xs : List D) (hp : p < S.length) (ho : GP k o) (hk : k < 2 ^ 59) (h1 : xs ≠ []) (h2 : xs.length ≤ lim) (h3 : ∀ d ∈ xs, below S.length d = true) :
    ∃ d o', callN g tab (n + 3) fo [.ref p, .lst xs] (S.set p o) = .ret d (S.set p o') ∧ d ∈ xs ∧ GP (k + 8) o' := by
  have hl : 0 < xs.length := List.length_pos_iff.mpr h1
  unfold lim at h2
  obtain ⟨r, o', hr, hr0, hr1, hg⟩ := draw_sp (g := g) Hm Hd n S p o k xs.length hp ho hk (by omega) (by omega)
  have hx : r.toNat < xs.length := by omega
  refine ⟨xs[r.toNat], o', ?_, List.getElem_mem _, hg⟩
  rw [callN_of Ho rfl, ← fin_c (L := []) (t := dOneOf fd) (o := o) (args := [.lst xs]) rfl hp hg (h3 _ (List.getElem_mem _))]
  simp [dOneOf, cOneOf, hr, atI_nat hr0 hr1, hx]
theorem cut_len {α : Type} (xs : List α) (lo hi : Option Int) : (cut xs lo hi).length ≤ xs.length := by
  simp [cut]; omega
theorem cut_mem {α : Type} {xs : List α} {lo hi : Option Int} {c : α} (h : c ∈ cut xs lo hi) : c ∈ xs := by
  exact List.mem_of_mem_drop (List.mem_of_mem_take h)

/-! ### exactness -/
/-- a list that may be read: a tree or a cell -/
def IsL (S : Store) (x : D) (xs : List D) : Prop := x = .lst xs ∨ ∃ l, x = .ref l ∧ S[l]? = some (.lst xs)
theorem IsL.lst {S : Store} {xs : List D} : IsL S (.lst xs) xs := .inl rfl
theorem IsL.ty {S : Store} {x : D} {xs : List D} (h : IsL S x xs) : tyOf S x = some .lst := by
  rcases h with rfl | ⟨l, rfl, h⟩
  · rfl
  · simp [tyOf, h]
theorem IsL.len {S : Store} {x : D} {xs : List D} {m : Bool} (h : IsL S x xs) : biop g m .len [x] S = .ok (.int xs.length) S := by
  rcases h with rfl | ⟨l, rfl, h⟩
  · simp
  · simp [biop, biLen, asK, asQ, asL, h]
theorem IsL.zip {S : Store} {x y : D} {xs ys : List D} (h : IsL S x xs) (h2 : IsL S y ys) : ∃ k : Chk, zpK x y S = .ok (zipD xs ys, k) S ∧ k.ok S = true := by
  rcases h with rfl | ⟨l, rfl, h⟩ <;> rcases h2 with rfl | ⟨l2, rfl, h2⟩
  · exact ⟨[], by simp, rfl⟩
  · exact ⟨[(l2, ys)], by simp [zpK, items1, asQ, asL, h2], by simp [Chk.ok, h2]⟩
  · exact ⟨[(l, xs)], by simp [zpK, items1, asQ, asL, h], by simp [Chk.ok, h]⟩
  · exact ⟨[(l, xs), (l2, ys)], by simp [zpK, items1, h, h2], by simp [Chk.ok, h, h2]⟩
/-- two trees are the same, so deep -/
def SameD (S : Store) : Nat → D → D → Prop
  | 0, _, _ => False
  | n + 1, x, y => (flat x = true ∧ x = y) ∨ (∃ xs ys, x = .tup xs ∧ y = .tup ys ∧ xs.length = ys.length ∧ xs.length ≤ lim ∧ ∀ p ∈ List.zip xs ys, SameD S n p.1 p.2) ∨
    (∃ xs ys, IsL S x xs ∧ IsL S y ys ∧ xs.length = ys.length ∧ xs.length ≤ lim ∧ ∀ p ∈ List.zip xs ys, SameD S n p.1 p.2)
theorem zipD_eq : ∀ xs ys : List D, zipD xs ys = (List.zip xs ys).map fun p => .tup [p.1, p.2]
  | [], ys => by simp [zipD]
  | x :: xs, [] => by simp [zipD]
  | x :: xs, y :: ys => by simp [zipD, zipD_eq xs ys]
theorem bools_rep (n : Nat) : bools (List.replicate n (.bl true)) = some (List.replicate n true) := by
  induction n with
  | zero => rfl
  | succ n ih => simp [List.replicate_succ, bools, ih]
theorem all_rep (n : Nat) (S : Store) {m : Bool} : biop g m .all [.lst (List.replicate n (.bl true))] S = .ok (.bl true) S := by
  simp [biop, biAll, asL, bools_rep]
theorem exact_sp (Hx : tab fx = some (dExact fx)) (S : Store) : ∀ (n d : Nat) (x y : D), SameD S d x y → callN g tab (n + d) fx [x, y] S = .ret (.bl true) S
  | n, 0, x, y, h => h.elim
  | n, d + 1, x, y, h => by
    rw [show n + (d + 1) = (n + d) + 1 by omega, callN_of Hx rfl, ← fin_p (t := dExact fx) rfl (show below S.length (.bl true) = true from rfl)]
    congr 1
    have key : ∀ (xs ys : List D) (k : Chk), xs.length = ys.length → xs.length ≤ lim → (∀ p ∈ List.zip xs ys, SameD S d p.1 p.2) → zpK x y S = .ok (zipD xs ys, k) S → k.ok S = true → ∀ e2 e3, evE g (callN g tab (n + d)) (Q1Exact fx) [some x, some y, e2, e3, none, none, none] S = .ok (.lst (List.replicate xs.length (.bl true))) S := by
      intro xs ys k hl hl2 hp hz hk e2 e3
      have hlz : (zipD xs ys).length = xs.length := by simp [zipD_eq, hl]
      rw [Q1Exact, comp_puk (k := k) (xs := zipD xs ys) (S1 := S) (fun _ => some (.bl true)) (by simp [hz]) hk (by omega) (fun z hz => by
        rw [zipD_eq] at hz
        obtain ⟨p, hp1, rfl⟩ := List.mem_map.mp hz
        refine ⟨_, bd_ns, ?_⟩
        simp [exact_sp Hx S n d _ _ (hp p hp1)])]
      rw [al_f]
      congr 2
      rw [List.eq_replicate_iff]
      refine ⟨by simp [hlz], ?_⟩
      intro b hb
      obtain ⟨_, _, hb⟩ := List.mem_filterMap.mp hb
      simpa using hb.symm
    rcases h with ⟨hf, rfl⟩ | ⟨xs, ys, rfl, rfl, hl, hl2, hp⟩ | ⟨xs, ys, hx, hy, hl, hl2, hp⟩
    · cases x <;> simp [flat] at hf <;> simp [dExact, cExact]
    · have := key xs ys [] hl hl2 hp (by simp) rfl
      simp [dExact, cExact, this, hl, all_rep]
    · obtain ⟨k, hz, hk⟩ := hx.zip hy
      have := key xs ys k hl hl2 hp hz hk
      simp [dExact, cExact, hx.ty, hy.ty, this, hx.len, hy.len, hl, all_rep]

/-- a tree without cells, so deep -/
def okTr : Nat → D → Bool
  | 0, _ => false
  | n + 1, d => flat d || match d with
    | .tup xs => decide (xs.length ≤ lim) && xs.all (okTr n)
    | .lst xs => decide (xs.length ≤ lim) && xs.all (okTr n)
    | _ => false
theorem zip_self {α : Type} {xs : List α} {p : α × α} (h : p ∈ List.zip xs xs) : p.1 = p.2 ∧ p.1 ∈ xs := by
  obtain ⟨i, hi, rfl⟩ := List.mem_iff_getElem.mp h
  simp
theorem okTr.same {S : Store} : ∀ {n : Nat} {d : D}, okTr n d = true → SameD S n d d
  | 0, d, h => by simp [okTr] at h
  | n + 1, d, h => by
    cases d with
    | tup xs =>
      simp only [okTr, flat, Bool.false_or, Bool.and_eq_true, decide_eq_true_eq, List.all_eq_true] at h
      refine .inr (.inl ⟨xs, xs, rfl, rfl, rfl, h.1, fun p hp => ?_⟩)
      obtain ⟨e, hm⟩ := zip_self hp
      rw [← e]
      exact okTr.same (h.2 _ hm)
    | lst xs =>
      simp only [okTr, flat, Bool.false_or, Bool.and_eq_true, decide_eq_true_eq, List.all_eq_true] at h
      refine .inr (.inr ⟨xs, xs, .lst, .lst, rfl, h.1, fun p hp => ?_⟩)
      obtain ⟨e, hm⟩ := zip_self hp
      rw [← e]
      exact okTr.same (h.2 _ hm)
    | _ => first | exact .inl ⟨rfl, rfl⟩ | (simp [okTr, flat] at h)
theorem SameD.mono {S : Store} : ∀ {n : Nat} {x y : D}, SameD S n x y → SameD S (n + 1) x y
  | 0, x, y, h => h.elim
  | n + 1, x, y, h => by
    rcases h with h | ⟨xs, ys, rfl, rfl, h1, h2, h3⟩ | ⟨xs, ys, hx, hy, h1, h2, h3⟩
    · exact .inl h
    · exact .inr (.inl ⟨xs, ys, rfl, rfl, h1, h2, fun p hp => (h3 p hp).mono⟩)
    · exact .inr (.inr ⟨xs, ys, hx, hy, h1, h2, fun p hp => (h3 p hp).mono⟩)
theorem SameD.flt {S : Store} {n : Nat} {x : D} (h : flat x = true) : SameD S (n + 1) x x := .inl ⟨h, rfl⟩
theorem SameD.tup {S : Store} {n : Nat} {xs ys : List D} (h1 : xs.length = ys.length) (h2 : xs.length ≤ lim) (h : ∀ p ∈ List.zip xs ys, SameD S n p.1 p.2) : SameD S (n + 1) (.tup xs) (.tup ys) := .inr (.inl ⟨xs, ys, rfl, rfl, h1, h2, h⟩)
theorem SameD.isl {S : Store} {n : Nat} {x y : D} {xs ys : List D} (hx : IsL S x xs) (hy : IsL S y ys) (h1 : xs.length = ys.length) (h2 : xs.length ≤ lim) (h : ∀ p ∈ List.zip xs ys, SameD S n p.1 p.2) : SameD S (n + 1) x y := .inr (.inr ⟨xs, ys, hx, hy, h1, h2, h⟩)
theorem SameD.lst {S : Store} {n : Nat} {xs ys : List D} (h1 : xs.length = ys.length) (h2 : xs.length ≤ lim) (h : ∀ p ∈ List.zip xs ys, SameD S n p.1 p.2) : SameD S (n + 1) (.lst xs) (.lst ys) := .isl .lst .lst h1 h2 h
/-! ### rhythms drawn -/
/-- counts as values -/
abbrev natD (bs : List Nat) : List D := bs.map fun b : Nat => D.int (b : Int)
theorem belowL_nat (m : Nat) (bs : List Nat) : belowL m (natD bs) = true := by
  induction bs with
  | nil => rfl
  | cons b bs ih => simp [belowL, below, ih]

theorem rhythm_sp (Hm : tab fm = some dMixed) (Hd : tab fd = some (dDraw fm)) {fr : Nat} (Hr : tab fr = some (dRhythm fd)) (n : Nat) (S : Store) (p : Nat) (o : O) (k most : Int) (hp : p < S.length) (ho : GP k o) (hk : k < 2 ^ 58) (h1 : 0 < most) (h2 : most < 100000) :
    ∃ (pulses : Nat) (bs : List Nat) (o' : O), callN g tab (n + 3) fr [.ref p, .int most] (S.set p o) = .ret (.tup [.int pulses, .lst (natD bs)]) (S.set p o') ∧ 1 ≤ pulses ∧ pulses ≤ most ∧ bs.Pairwise (· < ·) ∧ (∀ b ∈ bs, b < pulses) ∧ GP (k + 8 + 8 * most) o' := by
  obtain ⟨r, o1, hr, hr0, hr1, hg⟩ := draw_sp (g := g) Hm Hd n S p o k most hp ho (by omega) h1 (by omega)
  obtain ⟨q, rfl⟩ : ∃ q : Nat, r = q := ⟨r.toNat, by omega⟩
  have hs : small62 (1 + q : Int) = true := by
    simp only [small62, Bool.and_eq_true, decide_eq_true_eq]
    omega
  have hq : (1 + (q : Int)).toNat = 1 + q := by omega
  obtain ⟨acc, S', hc, ⟨bs, o2, rfl, rfl, hb, hb2, hg2⟩, hlen⟩ := comp_sp (g := g) (C := callN g tab (n + 2)) (m := false) (elt := .v 3) (tg := .n 3) (it := .rng1 (.v 2)) (ifs := .so (.cmp .eq (.call fd (.cons (.v 0) (.cons (.c (.int 2)) .nil)) []) (.c (.int 0)))) (own := [3])
    (e := [some (.ref p), some (.int most), some (.int (1 + q)), none]) (S := S.set p o1) (S1 := S.set p o1) (xs := rangeD 0 (1 + q))
    (fun i acc T => ∃ (bs : List Nat) (o2 : O), acc = natD bs ∧ T = S.set p o2 ∧ bs.Pairwise (· < ·) ∧ (∀ b ∈ bs, b < i) ∧ GP (k + 8 + 8 * i) o2)
    (by simp [hs, hq]) (by simp [rangeD, lim]; omega) ⟨[], o1, rfl, rfl, List.Pairwise.nil, by simp, hg.mono (by omega)⟩ (by
      rintro i hi acc T ⟨bs, o2, rfl, rfl, hb, hb2, hg2⟩
      simp [rangeD] at hi
      obtain ⟨r, o3, hr, hr0, hr1, hg3⟩ := draw_sp (g := g) Hm Hd n S p o2 _ 2 hp hg2 (by omega) (by omega) (by omega)
      have hg4 := hg3.mono (l := k + 8 + 8 * (i + 1 : Nat)) (by omega)
      by_cases h0 : r = 0
      · subst h0
        refine ⟨_, some (.int i), S.set p o3, bd_n, by simp [rangeD, hr], bs ++ [i], o3, by simp, rfl, ?_, ?_, hg4⟩
        · rw [List.pairwise_append]
          exact ⟨hb, List.pairwise_singleton _ _, fun a ha b hb => by rw [List.mem_singleton.mp hb]; exact hb2 a ha⟩
        · intro b hb
          rcases List.mem_append.mp hb with h | h
          · have := hb2 b h; omega
          · rw [List.mem_singleton.mp h]; omega
      · refine ⟨_, none, S.set p o3, bd_n, by simp [rangeD, hr, h0], bs, o3, by simp, rfl, hb, fun b h => by have := hb2 b h; omega, hg4⟩)
  simp only [rangeD, List.length_map, List.length_range] at hg2 hb2
  refine ⟨1 + q, bs, o2, ?_, by omega, by omega, hb, hb2, hg2.mono (by omega)⟩
  rw [callN_of Hr rfl, ← fin_c (L := []) (t := dRhythm fd) (o := o) (args := [.int most]) rfl hp hg2 (by simp only [below, belowL, belowL_nat, Bool.and_true])]
  simp [dRhythm, cRhythm, Q1Rhythm, hr, hc]

theorem okT_nat (n : Nat) (bs : List Nat) (h : bs.length ≤ lim) : okTr (n + 2) (.lst (natD bs)) = true := by
  simp [okTr, h, flat]
theorem res_nat (S : Store) (n : Nat) (bs : List Nat) : res S (n + 2) (.lst (natD bs)) = some (.lst (natD bs)) := by
  have : ∀ bs : List Nat, (natD bs).mapM (res S (n + 1)) = some (natD bs) := fun bs => by
    induction bs with
    | nil => rfl
    | cons b bs ih => simp only [List.map_cons, List.mapM_cons, ih]; rfl
  rw [res]
  simp [this]
theorem eqv_nat (bs : List Nat) : eqv (.lst (natD bs)) (.lst (natD bs)) = true := by
  have : ∀ bs : List Nat, eqvL (natD bs) (natD bs) = true := fun bs => by
    induction bs with
    | nil => rfl
    | cons b bs ih => simp [eqvL, ih, eqv, eqf]
  rw [eqv]
  exact this bs
theorem k_eqnat (S : Store) (bs : List Nat) : cmpop .eq (.lst (natD bs)) (.lst (natD bs)) S = some true := by
  simp only [cmpop, eqTop, flat, Bool.and_self, Bool.false_eq_true, if_false]
  rw [res_nat S 58 bs]
  simp [eqv_nat]

/-! ### texts bent -/
theorem of_signs_sp (Hm : tab fm = some dMixed) (Hd : tab fd = some (dDraw fm)) (Ho : tab fo = some (dOneOf fd)) {fs : Nat} (Hs : tab fs = some (dOfSigns fd fo)) (P : Nat → Prop) (M : Nat) (n : Nat) (S : Store) (p : Nat) (o : O) (k : Int) (t : List Nat) (sg : List (List Nat)) (hp : p < S.length) (ho : GP k o) (hk : k < 2 ^ 58)
    (ht : t.length ≤ 100000) (hM : M ≤ 100000) (hsg : sg ≠ []) (hsl : sg.length ≤ lim) (hs : ∀ s ∈ sg, s.length ≤ M ∧ ∀ c ∈ s, P c) (hP : ∀ c ∈ t, P c) :
    ∃ (t' : List Nat) (o' : O), callN g tab (n + 4) fs [.ref p, .str t, .lst (sg.map .str)] (S.set p o) = .ret (.str t') (S.set p o') ∧ t'.length ≤ 2 * t.length + M ∧ (∀ c ∈ t', P c) ∧ GP (k + 32) o' := by
  obtain ⟨r, o1, hr, hr0, hr1, hg1⟩ := draw_sp (g := g) Hm Hd (n + 1) S p o k (t.length + 1) hp ho (by omega) (by omega) (by omega)
  obtain ⟨d, o2, hd, hdm, hg2⟩ := one_of_sp (g := g) Hm Hd Ho n S p o1 (k + 8) (sg.map .str) hp hg1 (by omega) (by simpa using hsg) (by simpa using hsl) (by
    intro d hd
    obtain ⟨s, _, rfl⟩ := List.mem_map.mp hd
    rfl)
  obtain ⟨s, hsm, rfl⟩ := List.mem_map.mp hdm
  obtain ⟨hsM, hsP⟩ := hs s hsm
  obtain ⟨r2, o3, hr2, hr20, hr21, hg3⟩ := draw_sp (g := g) Hm Hd (n + 1) S p o2 _ (t.length + 1) hp hg2 (by omega) (by omega) (by omega)
  have hl : lim = 16777216 := rfl
  have cl : ∀ lo hi, (cut t lo hi).length ≤ t.length := cut_len t
  let some' : List (List Nat) := [cut t none (some r) ++ s ++ cut t (some r) none, cut t none (some r) ++ cut t (some (r + 1)) none, cut t none (some r) ++ s ++ cut t (some (r + 1)) none, cut t none (some r), cut t (some r) none, t ++ s, s ++ t,
    cut t none (some (min r r2)) ++ cut t (some (max r r2)) none, cut t none (some (max r r2)) ++ cut t (some (min r r2)) none, (cut t (some (min r r2)) (some (max r r2))).reverse ++ cut t (some (max r r2)) none, t ++ t]
  obtain ⟨d, o4, hd4, hdm, hg4⟩ := one_of_sp (g := g) Hm Hd Ho n S p o3 _ (some'.map .str) hp hg3 (by omega) (by simp [some']) (by simp [some']) (by
    intro d hd
    obtain ⟨s, _, rfl⟩ := List.mem_map.mp hd
    rfl)
  obtain ⟨t', htm, rfl⟩ := List.mem_map.mp hdm
  have hcl : ∀ lo hi lo' hi', (cut t lo hi).length + (cut t lo' hi').length ≤ 200000 := fun lo hi lo' hi' => by have := cl lo hi; have := cl lo' hi'; omega
  have hgood : t'.length ≤ 2 * t.length + M ∧ ∀ c ∈ t', P c := by
    have c1 := cl none (some r); have c2 := cl (some r) none; have c3 := cl (some (r + 1)) none
    have c4 := cl none (some (min r r2)); have c5 := cl (some (max r r2)) none; have c6 := cl none (some (max r r2)); have c7 := cl (some (min r r2)) none; have c8 := cl (some (min r r2)) (some (max r r2))
    have hm : ∀ lo hi c, c ∈ cut t lo hi → P c := fun lo hi c h => hP c (cut_mem h)
    simp only [some', List.mem_cons, List.not_mem_nil, or_false] at htm
    rcases htm with rfl | rfl | rfl | rfl | rfl | rfl | rfl | rfl | rfl | rfl | rfl
    all_goals
      constructor
      · (try simp only [List.length_append, List.length_reverse]); omega
      · intro c hc
        try simp only [List.mem_append, List.mem_reverse] at hc
        first | exact hm _ _ c hc | exact hP c hc | exact hsP c hc | skip
        all_goals rcases hc with hc | hc <;> first | exact hm _ _ c hc | exact hP c hc | exact hsP c hc | (rcases hc with hc | hc <;> first | exact hm _ _ c hc | exact hP c hc | exact hsP c hc)
  refine ⟨t', o4, ?_, hgood.1, hgood.2, hg4.mono (by omega)⟩
  rw [callN_of Hs rfl, ← fin_c (L := []) (t := dOfSigns fd fo) (o := o) (args := [.str t, .lst (sg.map .str)]) rfl hp hg4 rfl]
  have tl : t.length ≤ lim := by omega
  have a1 : ∀ (lo hi lo' hi' : Option Int), (cut t lo hi).length + (cut t lo' hi').length ≤ lim := fun lo hi lo' hi' => by have := hcl lo hi lo' hi'; omega
  have a2 : ∀ (lo hi : Option Int), (cut t lo hi).length + s.length ≤ lim := fun lo hi => by have := cl lo hi; omega
  have a3 : ∀ (lo hi lo' hi' : Option Int), (cut t lo hi).length + (s.length + (cut t lo' hi').length) ≤ lim := fun lo hi lo' hi' => by have := hcl lo hi lo' hi'; omega
  have a3' : ∀ (lo hi lo' hi' : Option Int), (cut t lo hi).length + s.length + (cut t lo' hi').length ≤ lim := fun lo hi lo' hi' => by have := hcl lo hi lo' hi'; omega
  have a4 : t.length + s.length ≤ lim := by omega
  have a5 : s.length + t.length ≤ lim := by omega
  have a6 : t.length + t.length ≤ lim := by omega
  have a7 : ∀ (lo hi : Option Int), (cut t lo hi).length ≤ lim := fun lo hi => by have := cl lo hi; omega
  simp only [some', List.map] at hd4
  simp [dOfSigns, cOfSigns, tl, hr, hd, hr2, intO, a1, a2, a3, a3', a4, a5, a6, a7] at hd4 ⊢
  simp [hd4]

/-! ### purses -/
theorem ints_map (ns : List Int) : intsD (ns.map .int) = some ns := by
  induction ns with
  | nil => rfl
  | cons a ns ih => simp [intsD, ih]
theorem cut_map {α β : Type} (f : α → β) (xs : List α) (lo hi : Option Int) : cut (xs.map f) lo hi = (cut xs lo hi).map f := by
  simp [cut, List.map_drop, List.map_take]
theorem purse_sp (Hp : tab fp = some dPurse) (n : Nat) (S : Store) (ns : List Int) (i : Nat) :
    ∃ o, callN g tab (n + 1) fp [.slst (ns.map .int), .int i] S = .ret (.ref S.length) (S ++ [o]) ∧ GP 0 o := by
  have p1 : powOk 10 18 = true := by decide +kernel
  have p2 : powOk 10 60 = true := by decide +kernel
  have p3 : powOk ((10 : Int) ^ 60) 8 = true := by decide +kernel
  have p4 : (0 : Int) < ((10 : Int) ^ 60) ^ 8 := by decide +kernel
  generalize hc : (cut ns (some (i : Int)) (some ((i : Int) + 1))).sum = seed
  refine ⟨pu (max (seed - 10 ^ 18) 0 % (((10 : Int) ^ 60) ^ 8)) (seed % 2147483629) 0 i, ?_, _, _, _, _, rfl, Int.emod_nonneg _ (by omega), by omega, by omega, by omega⟩
  rw [callN_of Hp rfl]
  have hs : ∀ T, slop false (.slst (ns.map .int)) (some (i : Int)) (some ((i : Int) + 1)) T = .ok (.lst ((cut ns (some (i : Int)) (some ((i : Int) + 1))).map .int)) T := fun T => by
    simp [slop, asL, cut_map]
  have hsum : ∀ T, biop g false .sum [.lst ((cut ns (some (i : Int)) (some ((i : Int) + 1))).map .int)] T = .ok (.int seed) T := fun T => by
    simp [biop, biSum, asL, ints_map, hc]
  generalize hb : ((10 : Int) ^ 60) ^ 8 = big at p4 ⊢
  have e1 : ∀ T, binop false .pow (.int 10) (.int 60) T = .ok (.int (10 ^ 60)) T := fun T => by rw [r_pow, p2]; rfl
  have e2 : ∀ T, binop false .pow (.int (10 ^ 60)) (.int 8) T = .ok (.int big) T := fun T => by
    rw [r_pow, p3, if_pos rfl, ← hb]; rfl
  generalize (10 : Int) ^ 60 = b1 at e1 e2
  have e3 : ∀ T, binop false .pow (.int 10) (.int 18) T = .ok (.int (10 ^ 18)) T := fun T => by rw [r_pow, p1]; rfl
  generalize (10 : Int) ^ 18 = b3 at e3 ⊢
  simp only [dPurse, cPurse, List.map, List.replicate, List.cons_append, List.nil_append, eSs_cons, eS_asg, eE_bi, eEs_cons, eE_sl, eE_v0, eE_v1, eO_so, eE_bin, eE_c, bindE_ok, eEs_nil, r_add, intO, hs, hsum, toS_ok, bd_n, List.set, bdS_s, seq_nx, eS_ret, eE_lst, kEs_ap, kEs2_ap, kSl_ap, kSl2_ap, kSl3_ap, kBin_ap, kBin2_ap, kAsg_ap, kRt_ap, kLst_ap, intO_i, eE_v2, e3, r_sub, i_max, i_int, e1, e2, r_mod, p4, if_true, List.length, lim_4, al_t, seq_rt, eSs_nil]
  simp [finish, trim]
theorem purses_sp (Hp : tab fp = some dPurse) {fq : Nat} (Hq : tab fq = some (dPurses fp)) (n : Nat) (S : Store) (ns : List Int) (few : Nat) (hn : ns.length ≤ 63) :
    ∃ os : List O, callN g tab (n + 2) fq [.slst (ns.map .int), .int few] S = .ret (.lst ((List.range os.length).map fun i => .ref (S.length + i))) (S ++ os) ∧ os.length = max 1 (min few ns.length) ∧ ∀ o ∈ os, GP 0 o := by
  have hr : (max 1 (min (few : Int) (ns.length : Int))).toNat = max 1 (min few ns.length) := by omega
  have hs : small62 (max 1 (min (few : Int) (ns.length : Int))) = true := by
    simp only [small62, Bool.and_eq_true, decide_eq_true_eq]
    omega
  obtain ⟨acc, S', hc, ⟨os, rfl, rfl, h1, h2⟩, -⟩ : ∃ acc S', evE g (callN g tab (n + 1)) (Q1Purses fp) [some (.slst (ns.map .int)), some (.int few), none] S = alloc false acc S' ∧ (∃ os : List O, acc = (List.range os.length).map (fun i => .ref (S.length + i)) ∧ S' = S ++ os ∧ os.length = (rangeD 0 (max 1 (min few ns.length))).length ∧ ∀ o ∈ os, GP 0 o) ∧ acc.length ≤ (rangeD 0 (max 1 (min few ns.length))).length := by
    refine comp_sp (fun i acc T => ∃ os : List O, acc = (List.range os.length).map (fun i => .ref (S.length + i)) ∧ T = S ++ os ∧ os.length = i ∧ ∀ o ∈ os, GP 0 o) (S1 := S) (by simp [hs, hr]) (by simp [rangeD, lim]; omega) ⟨[], rfl, by simp, rfl, by simp⟩ ?_
    rintro i hi acc T ⟨os, rfl, rfl, h1, h2⟩
    simp [rangeD] at hi
    obtain ⟨o, ho, hg⟩ := purse_sp (g := g) Hp n (S ++ os) ns i
    refine ⟨_, some (.ref (S.length + os.length)), S ++ (os ++ [o]), bd_n, ?_, os ++ [o], ?_, rfl, by simp [h1], ?_⟩
    · simp [rangeD, ho]
    · simp [List.range_succ]
    · intro x hx
      rcases List.mem_append.mp hx with hx | hx
      · exact h2 x hx
      · rw [List.mem_singleton.mp hx]; exact hg
  refine ⟨os, ?_, by simpa [rangeD] using h1, h2⟩
  rw [callN_of Hq rfl]
  simp [dPurses, cPurses, hc, finish, trim]
end
end Mp
end
section
/-! More parts that laws have: shuffling. -/
namespace Mp
def B1Shuf : Sms := (.cons (.ex (.mt .insert (.v 2) (.cons (.call 12 (.cons (.v 0) (.cons (.bin false .add (.bi false .len (.cons (.v 2) .nil)) (.c (.int 1))) .nil)) []) (.cons (.v 3) .nil)))) .nil)
def L2Shuf : Sm := (.for_ (.n 3) (.seq (.v 1)) B1Shuf)
def cShuf : Sms := (.cons (.asg (.n 2) (.lst true .nil)) (.cons L2Shuf (.cons (.ret (.frz (.v 2))) .nil)))
def dShuf : Fd := { np := 2, nn := 4, body := cShuf, tm := .cell0 }
theorem insert_perm {α : Type} (xs : List α) (y : α) (k : Nat) : (xs.take k ++ [y] ++ xs.drop k).Perm (xs ++ [y]) := by
  have h1 : (xs.take k ++ [y] ++ xs.drop k).Perm (xs.take k ++ (xs.drop k ++ [y])) := by
    rw [List.append_assoc]
    exact (List.perm_append_comm (l₁ := [y]) (l₂ := xs.drop k)).append_left _
  rw [← List.append_assoc, List.take_append_drop] at h1
  exact h1
theorem set_app' {S L : Store} {p : Nat} {o : O} (h : p < S.length) : S.set p o ++ L = (S ++ L).set p o := by
  rw [List.set_append_left _ _ h]
section
variable {g : Gt} {tab : Nat → Option Fd} {fm fs : Nat}
theorem shuf_sp (Hm : tab fm = some dMixed) (Hd : tab 12 = some (dDraw fm)) (Hs : tab fs = some dShuf) (n : Nat) (S : Store) (p : Nat) (o : O) (k : Int) (xs : List D) (hp : p < S.length) (ho : GP k o) (hk : k < 2 ^ 58) (hl : xs.length ≤ 100000) (hb : ∀ x ∈ xs, below S.length x = true) :
    ∃ ys o', callN g tab (n + 3) fs [.ref p, .lst xs] (S.set p o) = .ret (.lst ys) (S.set p o') ∧ ys.Perm xs ∧ GP (k + 8 * xs.length) o' := by
  have lm : lim = 16777216 := rfl
  obtain ⟨e', T, hf, x, acc, o', rfl, rfl, hpm, hg⟩ : ∃ e' T, evS g (callN g tab (n + 2)) L2Shuf [some (.ref p), some (.lst xs), some (.ref S.length), none] ((S ++ [O.lst []]).set p o) = .nx e' T ∧ ∃ (x : Option D) (acc : List D) (o' : O), e' = [some (.ref p), some (.lst xs), some (.ref S.length), x] ∧ T = (S ++ [O.lst acc]).set p o' ∧ acc.Perm (xs.take xs.length) ∧ GP (k + 8 * xs.length) o' := by
    refine for_sp (fun i e T => ∃ (x : Option D) (acc : List D) (o' : O), e = [some (.ref p), some (.lst xs), some (.ref S.length), x] ∧ T = (S ++ [O.lst acc]).set p o' ∧ acc.Perm (xs.take i) ∧ GP (k + 8 * i) o') (xs := xs) (S1 := (S ++ [O.lst []]).set p o) (by simp) ⟨none, [], o, rfl, rfl, by simp, by simpa using ho⟩ ?_
    rintro i hi e T ⟨x, acc, o', rfl, rfl, hpm, hg⟩
    have hal : acc.length = i := by rw [hpm.length_eq, List.length_take]; omega
    have hc : ∀ o', ((S ++ [O.lst acc]).set p o')[S.length]? = some (.lst acc) := fun o' => by
      rw [List.getElem?_set_ne (by omega)]
      simp
    obtain ⟨r, o2, hr, hr0, hr1, hg2⟩ := draw_sp (g := g) Hm Hd n (S ++ [O.lst acc]) p o' _ (acc.length + 1) (by simp; omega) hg (by omega) (by omega) (by omega)
    have hins := i_ins_c (y := xs[i]) (hc o2) (by omega) hr0 (by omega)
    have hset : ((S ++ [O.lst acc]).set p o2).set S.length (.lst (acc.take r.toNat ++ [xs[i]] ++ acc.drop r.toNat)) = (S ++ [O.lst (acc.take r.toNat ++ [xs[i]] ++ acc.drop r.toNat)]).set p o2 := by
      rw [← set_app' hp, List.set_append_right _ _ (by simp), ← set_app' hp]
      simp
    rw [hset] at hins
    refine ⟨_, _, _, bd_n, ?_, some xs[i], acc.take r.toNat ++ [xs[i]] ++ acc.drop r.toNat, o2, rfl, rfl, ?_, hg2.mono (by omega)⟩
    · simp only [List.set_cons_succ, List.set_cons_zero]
      simp [B1Shuf, i_insk (hc o'), len_c (hc o'), hr] at hins ⊢
      simp [hins]
    · refine (insert_perm _ _ _).trans ?_
      rw [List.take_succ_eq_append_getElem hi]
      exact hpm.append_right _
  rw [List.take_length] at hpm
  refine ⟨acc, o', ?_, hpm, hg⟩
  have hc : ((S ++ [O.lst acc]).set p o')[S.length]? = some (.lst acc) := by
    rw [List.getElem?_set_ne (by omega)]
    simp
  have hset : ((S ++ [O.lst acc]).set p o').set S.length .dead = S.set p o' ++ [.dead] := by
    rw [← set_app' hp, List.set_append_right _ _ (by simp)]
    simp
  have hbl : below S.length (.lst acc) = true := by
    have : ∀ l : List D, (∀ x ∈ l, below S.length x = true) → belowL S.length l = true := fun l => by
      induction l with
      | nil => intro _; rfl
      | cons a l ih => intro h; simp only [belowL, h a (by simp), ih (fun x hx => h x (by simp [hx])), Bool.and_self]
    rw [below]
    exact this acc fun x hx => hb x (hpm.mem_iff.mp hx)
  refine call_c (t := dShuf) Hs rfl rfl hp (hg.below _) hbl ⟨[.dead], ?_⟩
  have e0 : S.set p o ++ [.lst []] = (S ++ [O.lst []]).set p o := set_app' hp
  simp [dShuf, cShuf, e0, hf, frz_c hc, hset]
end
end Mp
end
section
/-! The codes of the program's own defs (printed by tr.py), and the table of what laws share. -/
namespace Mp
def c_is_whole : Sms := (.cons (.ret (.and_ (.bi false .isinst (.cons (.v 0) (.cons (.c (.bty .int)) .nil))) (.not_ (.bi false .isinst (.cons (.v 0) (.cons (.c (.bty .bool)) .nil)))))) .nil)
def d_is_whole : Fd := { np := 1, nn := 1, body := c_is_whole, tm := .pure }
def c_is_count : Sms := (.cons (.ret (.and_ (.call 0 (.cons (.v 0) .nil) []) (.cmp .ge (.v 0) (.bi false .max (.cons (.v 1) (.cons (.c (.int 0)) .nil)))))) .nil)
def d_is_count : Fd := { np := 2, nn := 2, body := c_is_count, tm := .pure }
def c_check_pulses : Sms := (.cons (.ife (.not_ (.call 1 (.cons (.v 0) (.cons (.c (.int 1)) .nil)) [])) (.cons (.raise 1 (.v 0)) .nil) .nil) .nil)
def d_check_pulses : Fd := { np := 1, nn := 1, body := c_check_pulses, tm := .pure }
def Q1_is_rhythm_there : Cd := (.comp false (.cmp .lt (.v 2) (.v 3)) (.ns [2, 3]) (.zip (.v 1) (.sl false (.v 1) (.so (.c (.int 1))) .no)) .no [2, 3])
def Q2_is_rhythm_there : Cd := (.comp false (.and_ (.call 1 (.cons (.v 4) .nil) [(.int 0)]) (.cmp .lt (.v 4) (.v 0))) (.n 4) (.seq (.v 1)) .no [4])
def c_is_rhythm_there : Sms := (.cons (.ife (.or_ (.not_ (.bi false .isinst (.cons (.v 1) (.cons (.c (.bty .list)) .nil)))) (.not_ (.bi false .all (.cons Q2_is_rhythm_there .nil)))) (.cons (.ret (.c (.bl false))) .nil) .nil) (.cons (.ret (.bi false .all (.cons Q1_is_rhythm_there .nil))) .nil))
def d_is_rhythm_there : Fd := { np := 2, nn := 5, body := c_is_rhythm_there, tm := .pure }
def c_check_rhythm : Sms := (.cons (.ex (.call 2 (.cons (.v 0) .nil) [])) (.cons (.ife (.not_ (.call 3 (.cons (.v 0) (.cons (.v 1) .nil)) [])) (.cons (.raise 2 (.v 1)) .nil) .nil) .nil))
def d_check_rhythm : Fd := { np := 2, nn := 2, body := c_check_rhythm, tm := .pure }
def Q1_check_text : Cd := (.comp false (.chain .le .le (.c (.str [32])) (.v 1) (.c (.str [126]))) (.n 1) (.str (.v 0)) .no [1])
def c_check_text : Sms := (.cons (.ife (.or_ (.not_ (.bi false .isinst (.cons (.v 0) (.cons (.c (.bty .str)) .nil)))) (.not_ (.bi false .all (.cons Q1_check_text .nil)))) (.cons (.raise 3 (.v 0)) .nil) .nil) .nil)
def d_check_text : Fd := { np := 1, nn := 2, body := c_check_text, tm := .pure }
def Q1_box_there : Cd := (.comp false (.ite (.cmp .in_ (.v 2) (.v 1)) (.c (.str [120])) (.c (.str [46]))) (.n 2) (.rng1 (.v 0)) .no [2])
def c_box_there : Sms := (.cons (.ret (.mt .join (.c (.str [])) (.cons Q1_box_there .nil))) .nil)
def d_box_there : Fd := { np := 2, nn := 3, body := c_box_there, tm := .pure }
def c_box_text : Sms := (.cons (.ex (.call 4 (.cons (.v 0) (.cons (.v 1) .nil)) [])) (.cons (.ret (.call 6 (.cons (.v 0) (.cons (.v 1) .nil)) [])) .nil))
def d_box_text : Fd := { np := 2, nn := 2, body := c_box_text, tm := .pure }
def Q1_rhythm_of : Cd := (.comp false (.v 1) (.ns [1, 2]) (.enS (.v 0)) (.so (.cmp .eq (.v 2) (.c (.str [120])))) [1, 2])
def c_rhythm_of : Sms := (.cons (.ret (.tup (.cons (.bi false .len (.cons (.v 0) .nil)) (.cons Q1_rhythm_of .nil)))) .nil)
def d_rhythm_of : Fd := { np := 1, nn := 3, body := c_rhythm_of, tm := .pure }
def B1_read_box : Sms := (.cons (.ife (.cmp .notin (.v 2) (.c (.str [120, 46]))) (.cons (.raise 4 (.v 1)) .nil) .nil) .nil)
def L2_read_box : Sm := (.for_ (.ns [1, 2]) (.enS (.v 0)) B1_read_box)
def c_read_box : Sms := (.cons (.ex (.call 5 (.cons (.v 0) .nil) [])) (.cons L2_read_box (.cons (.ife (.cmp .eq (.v 0) (.c (.str []))) (.cons (.raise 4 (.c (.int 0))) .nil) .nil) (.cons (.ret (.call 8 (.cons (.v 0) .nil) [])) .nil))))
def d_read_box : Fd := { np := 1, nn := 3, body := c_read_box, tm := .pure }
def Q1_numbers_text : Cd := (.comp false (.bi false .str (.cons (.v 1) .nil)) (.n 1) (.seq (.v 0)) .no [1])
def Q2_numbers_text : Cd := (.comp false (.call 0 (.cons (.v 1) .nil) []) (.n 1) (.seq (.v 0)) .no [1])
def c_numbers_text : Sms := (.cons (.ife (.or_ (.not_ (.bi false .isinst (.cons (.v 0) (.cons (.c (.bty .list)) .nil)))) (.not_ (.bi false .all (.cons Q2_numbers_text .nil)))) (.cons (.raise 5 (.v 0)) .nil) .nil) (.cons (.ret (.mt .join (.c (.str [32])) (.cons Q1_numbers_text .nil))) .nil))
def d_numbers_text : Fd := { np := 1, nn := 2, body := c_numbers_text, tm := .pure }
def c_can_follow : Sms := (.cons (.ife (.cmp .eq (.v 1) (.c (.str [45]))) (.cons (.ret (.cmp .eq (.v 0) (.c (.str [])))) .nil) .nil) (.cons (.ife (.cmp .eq (.v 1) (.c (.str [48]))) (.cons (.ret (.cmp .notin (.v 0) (.tup (.cons (.c (.str [45])) (.cons (.c (.str [48])) .nil))))) .nil) .nil) (.cons (.ret (.and_ (.chain .le .le (.c (.str [49])) (.v 1) (.c (.str [57]))) (.cmp .ne (.v 0) (.c (.str [48]))))) .nil)))
def d_can_follow : Fd := { np := 2, nn := 2, body := c_can_follow, tm := .pure }
def Q1_read_numbers : Cd := (.comp false (.bi false .int (.cons (.v 4) .nil)) (.n 4) (.seq (.mt .split (.v 0) (.cons (.c (.str [32])) .nil))) .no [4])
def B2_read_numbers : Sms := (.cons (.ife (.and_ (.cmp .eq (.v 3) (.c (.str [32]))) (.cmp .notin (.v 1) (.tup (.cons (.c (.str [])) (.cons (.c (.str [45])) .nil))))) (.cons (.asg (.n 1) (.c (.str []))) .nil) (.cons (.ife (.call 24 (.cons (.v 1) (.cons (.v 3) .nil)) []) (.cons (.asg (.n 1) (.bin false .add (.v 1) (.v 3))) .nil) (.cons (.raise 4 (.v 2)) .nil)) .nil)) .nil)
def L3_read_numbers : Sm := (.for_ (.ns [2, 3]) (.enS (.v 0)) B2_read_numbers)
def c_read_numbers : Sms := (.cons (.ex (.call 5 (.cons (.v 0) .nil) [])) (.cons (.asg (.n 1) (.c (.str []))) (.cons L3_read_numbers (.cons (.ife (.and_ (.cmp .ne (.v 0) (.c (.str []))) (.cmp .in_ (.v 1) (.tup (.cons (.c (.str [])) (.cons (.c (.str [45])) .nil))))) (.cons (.raise 4 (.bi false .len (.cons (.v 0) .nil))) .nil) .nil) (.cons (.ret (.ite (.cmp .ne (.v 0) (.c (.str []))) Q1_read_numbers (.lst false .nil))) .nil)))))
def d_read_numbers : Fd := { np := 1, nn := 5, body := c_read_numbers, tm := .pure }
def Q1_is_word : Cd := (.comp false (.chain .le .le (.c (.str [97])) (.v 1) (.c (.str [122]))) (.n 1) (.str (.v 0)) .no [1])
def c_is_word : Sms := (.cons (.ret (.and_ (.bi false .isinst (.cons (.v 0) (.cons (.c (.bty .str)) .nil))) (.and_ (.chain .lt .lt (.c (.int 0)) (.bi false .len (.cons (.v 0) .nil)) (.c (.int 13))) (.bi false .all (.cons Q1_is_word .nil))))) .nil)
def d_is_word : Fd := { np := 1, nn := 2, body := c_is_word, tm := .pure }
def c_is_tuple_of : Sms := (.cons (.ret (.and_ (.bi false .isinst (.cons (.v 0) (.cons (.c (.bty .tuple)) .nil))) (.cmp .eq (.bi false .len (.cons (.v 0) .nil)) (.v 1)))) .nil)
def d_is_tuple_of : Fd := { np := 2, nn := 2, body := c_is_tuple_of, tm := .pure }
def Q1_is_box : Cd := (.comp false (.cmp .in_ (.v 1) (.c (.str [120, 46]))) (.n 1) (.str (.v 0)) .no [1])
def c_is_box : Sms := (.cons (.ret (.and_ (.cmp .ne (.v 0) (.c (.str []))) (.bi false .all (.cons Q1_is_box .nil)))) .nil)
def d_is_box : Fd := { np := 1, nn := 2, body := c_is_box, tm := .pure }
def Q1_check_rows : Cd := (.comp false (.or_ (.cmp .eq (.v 1) (.c (.str [10]))) (.chain .le .le (.c (.str [32])) (.v 1) (.c (.str [126])))) (.n 1) (.str (.v 0)) .no [1])
def c_check_rows : Sms := (.cons (.ife (.or_ (.not_ (.bi false .isinst (.cons (.v 0) (.cons (.c (.bty .str)) .nil)))) (.not_ (.bi false .all (.cons Q1_check_rows .nil)))) (.cons (.raise 3 (.v 0)) .nil) .nil) .nil)
def d_check_rows : Fd := { np := 1, nn := 2, body := c_check_rows, tm := .pure }
def c_is_track : Sms := (.cons (.ret (.and_ (.call 29 (.cons (.v 0) (.cons (.c (.int 2)) .nil)) []) (.and_ (.call 1 (.cons (.ix (.v 0) (.c (.int 0))) (.cons (.c (.int 1)) .nil)) []) (.call 3 (.cons (.ix (.v 0) (.c (.int 0))) (.cons (.ix (.v 0) (.c (.int 1))) .nil)) [])))) .nil)
def d_is_track : Fd := { np := 1, nn := 1, body := c_is_track, tm := .pure }
def Q1_tracks_text : Cd := (.comp false (.bin false .add (.bin false .add (.v 1) (.c (.str [32]))) (.call 6 (.cons (.ix (.ix (.v 0) (.v 1)) (.c (.int 0))) (.cons (.ix (.ix (.v 0) (.v 1)) (.c (.int 1))) .nil)) [])) (.n 1) (.seq (.bi false .sorted (.cons (.v 0) .nil))) .no [1])
def Q2_tracks_text : Cd := (.comp false (.and_ (.call 28 (.cons (.v 1) .nil) []) (.call 32 (.cons (.ix (.v 0) (.v 1)) .nil) [])) (.n 1) (.seq (.v 0)) .no [1])
def c_tracks_text : Sms := (.cons (.ife (.or_ (.not_ (.bi false .isinst (.cons (.v 0) (.cons (.c (.bty .dict)) .nil)))) (.not_ (.bi false .all (.cons Q2_tracks_text .nil)))) (.cons (.raise 6 (.v 0)) .nil) .nil) (.cons (.ret (.mt .join (.c (.str [10])) (.cons Q1_tracks_text .nil))) .nil))
def d_tracks_text : Fd := { np := 1, nn := 2, body := c_tracks_text, tm := .pure }
def B1_read_tracks : Sms := (.cons (.asg (.n 5) (.mt .split (.v 4) (.cons (.c (.str [32])) .nil))) (.cons (.ife (.or_ (.cmp .ne (.bi false .len (.cons (.v 5) .nil)) (.c (.int 2))) (.or_ (.not_ (.call 28 (.cons (.ix (.v 5) (.c (.int 0))) .nil) [])) (.or_ (.cmp .le (.ix (.v 5) (.c (.int 0))) (.v 2)) (.not_ (.call 30 (.cons (.ix (.v 5) (.c (.int 1))) .nil) []))))) (.cons (.raise 4 (.bin false .add (.v 3) (.c (.int 1)))) .nil) .nil) (.cons (.sti (.v 1) (.ix (.v 5) (.c (.int 0))) (.call 8 (.cons (.ix (.v 5) (.c (.int 1))) .nil) [])) (.cons (.asg (.n 2) (.ix (.v 5) (.c (.int 0)))) .nil))))
def L2_read_tracks : Sm := (.for_ (.ns [3, 4]) (.enL (.ite (.cmp .ne (.v 0) (.c (.str []))) (.mt .split (.v 0) (.cons (.c (.str [10])) .nil)) (.lst false .nil))) B1_read_tracks)
def c_read_tracks : Sms := (.cons (.ex (.call 31 (.cons (.v 0) .nil) [])) (.cons (.par [1, 2] (.cons (.dct false .nil .nil) (.cons (.c (.str [])) .nil))) (.cons L2_read_tracks (.cons (.ret (.v 1)) .nil))))
def d_read_tracks : Fd := { np := 1, nn := 6, body := c_read_tracks, tm := .pure }
def Q1_tones_text : Cd := (.comp false (.ix (.c (.str [48, 49, 50, 51, 52, 53, 54, 55, 56, 57, 97, 98, 99, 100, 101, 102, 103, 104, 105, 106, 107, 108, 109, 110, 111, 112, 113, 114, 115, 116, 117, 118, 119, 120, 121, 122])) (.v 1)) (.n 1) (.seq (.v 0)) .no [1])
def Q2_tones_text : Cd := (.comp false (.call 1 (.cons (.v 1) .nil) [(.int 0)]) (.n 1) (.seq (.v 0)) .no [1])
def c_tones_text : Sms := (.cons (.ife (.or_ (.not_ (.bi false .isinst (.cons (.v 0) (.cons (.c (.bty .list)) .nil)))) (.or_ (.not_ (.bi false .all (.cons Q2_tones_text .nil))) (.cmp .ne (.bi false .sorted (.cons (.v 0) .nil)) (.lrg false (.cons (.bi false .len (.cons (.v 0) .nil)) .nil))))) (.cons (.raise 8 (.v 0)) .nil) .nil) (.cons (.ife (.cmp .gt (.bi false .len (.cons (.v 0) .nil)) (.bi false .len (.cons (.c (.str [48, 49, 50, 51, 52, 53, 54, 55, 56, 57, 97, 98, 99, 100, 101, 102, 103, 104, 105, 106, 107, 108, 109, 110, 111, 112, 113, 114, 115, 116, 117, 118, 119, 120, 121, 122])) .nil))) (.cons (.raise 7 (.bi false .len (.cons (.v 0) .nil))) .nil) .nil) (.cons (.ret (.mt .join (.c (.str [])) (.cons Q1_tones_text .nil))) .nil)))
def d_tones_text : Fd := { np := 1, nn := 2, body := c_tones_text, tm := .pure }
def Q1_read_tones : Cd := (.comp false (.mt .sindex (.c (.str [48, 49, 50, 51, 52, 53, 54, 55, 56, 57, 97, 98, 99, 100, 101, 102, 103, 104, 105, 106, 107, 108, 109, 110, 111, 112, 113, 114, 115, 116, 117, 118, 119, 120, 121, 122])) (.cons (.v 3) .nil)) (.n 3) (.str (.v 0)) .no [3])
def B2_read_tones : Sms := (.cons (.ife (.or_ (.cmp .notin (.v 3) (.c (.str [48, 49, 50, 51, 52, 53, 54, 55, 56, 57, 97, 98, 99, 100, 101, 102, 103, 104, 105, 106, 107, 108, 109, 110, 111, 112, 113, 114, 115, 116, 117, 118, 119, 120, 121, 122]))) (.cmp .in_ (.v 3) (.sl false (.v 0) .no (.so (.v 2))))) (.cons (.raise 4 (.v 2)) .nil) .nil) .nil)
def L3_read_tones : Sm := (.for_ (.ns [2, 3]) (.enS (.v 0)) B2_read_tones)
def c_read_tones : Sms := (.cons (.ex (.call 5 (.cons (.v 0) .nil) [])) (.cons L3_read_tones (.cons (.asg (.n 1) Q1_read_tones) (.cons (.ife (.cmp .ne (.bi false .sorted (.cons (.v 1) .nil)) (.lrg false (.cons (.bi false .len (.cons (.v 1) .nil)) .nil))) (.cons (.raise 4 (.bi false .len (.cons (.v 0) .nil))) .nil) .nil) (.cons (.ret (.v 1)) .nil)))))
def d_read_tones : Fd := { np := 1, nn := 4, body := c_read_tones, tm := .pure }
def c_check_many : Sms := (.cons (.ife (.not_ (.call 1 (.cons (.v 0) (.cons (.c (.int 1)) .nil)) [])) (.cons (.raise 9 (.v 0)) .nil) .nil) .nil)
def d_check_many : Fd := { np := 1, nn := 1, body := c_check_many, tm := .pure }
def Q1_is_change_there : Cd := (.comp false (.cmp .gt (.bin false .sub (.v 3) (.v 2)) (.c (.int 1))) (.ns [2, 3]) (.zip (.v 1) (.sl false (.v 1) (.so (.c (.int 1))) .no)) .no [2, 3])
def Q2_is_change_there : Cd := (.comp false (.and_ (.call 1 (.cons (.v 4) .nil) [(.int 0)]) (.cmp .lt (.v 4) (.bin false .sub (.v 0) (.c (.int 1))))) (.n 4) (.seq (.v 1)) .no [4])
def c_is_change_there : Sms := (.cons (.ife (.or_ (.not_ (.bi false .isinst (.cons (.v 1) (.cons (.c (.bty .list)) .nil)))) (.not_ (.bi false .all (.cons Q2_is_change_there .nil)))) (.cons (.ret (.c (.bl false))) .nil) .nil) (.cons (.ret (.bi false .all (.cons Q1_is_change_there .nil))) .nil))
def d_is_change_there : Fd := { np := 2, nn := 5, body := c_is_change_there, tm := .pure }
def B1_count_there : Sms := (.cons (.par [2, 3] (.cons (.v 3) (.cons (.bin false .add (.v 2) (.v 3)) .nil))) .nil)
def L2_count_there : Sm := (.for_ (.n 1) (.rng1 (.bin false .sub (.v 0) (.c (.int 1)))) B1_count_there)
def c_count_there : Sms := (.cons (.asg (.ns [2, 3]) (.tup (.cons (.c (.int 1)) (.cons (.c (.int 1)) .nil)))) (.cons L2_count_there (.cons (.ret (.v 3)) .nil)))
def d_count_there : Fd := { np := 1, nn := 4, body := c_count_there, tm := .pure }
def Q1_is_touch_there : Cd := (.comp false (.call 43 (.cons (.v 0) (.cons (.v 2) .nil)) []) (.n 2) (.seq (.v 1)) .no [2])
def c_is_touch_there : Sms := (.cons (.ret (.and_ (.bi false .isinst (.cons (.v 1) (.cons (.c (.bty .list)) .nil))) (.bi false .all (.cons Q1_is_touch_there .nil)))) .nil)
def d_is_touch_there : Fd := { np := 2, nn := 3, body := c_is_touch_there, tm := .pure }
def c_check_touch : Sms := (.cons (.ex (.call 42 (.cons (.v 0) .nil) [])) (.cons (.ife (.not_ (.call 46 (.cons (.v 0) (.cons (.v 1) .nil)) [])) (.cons (.raise 10 (.v 1)) .nil) .nil) .nil))
def d_check_touch : Fd := { np := 2, nn := 2, body := c_check_touch, tm := .pure }
def c_check_few : Sms := (.cons (.ife (.cmp .gt (.v 0) (.bi false .len (.cons (.c (.str [49, 50, 51, 52, 53, 54, 55, 56, 57, 48, 69, 84])) .nil))) (.cons (.raise 7 (.v 0)) .nil) .nil) .nil)
def d_check_few : Fd := { np := 1, nn := 1, body := c_check_few, tm := .pure }
def Q1_word_of : Cd := (.comp false (.ix (.c (.str [49, 50, 51, 52, 53, 54, 55, 56, 57, 48, 69, 84])) (.v 3)) (.n 3) (.seq (.v 2)) .no [3])
def Q2_word_of : Cd := (.comp false (.v 3) (.n 3) (.rng1 (.v 0)) (.so (.and_ (.cmp .notin (.v 3) (.v 1)) (.cmp .notin (.bin false .sub (.v 3) (.c (.int 1))) (.v 1)))) [3])
def c_word_of : Sms := (.cons (.asg (.n 2) Q2_word_of) (.cons (.ret (.ite (.cmp .ne (.v 2) (.lst false .nil)) (.mt .join (.c (.str [])) (.cons Q1_word_of .nil)) (.c (.str [120])))) .nil))
def d_word_of : Fd := { np := 2, nn := 4, body := c_word_of, tm := .pure }
def Q1_touch_text : Cd := (.comp false (.call 49 (.cons (.v 0) (.cons (.v 2) .nil)) []) (.n 2) (.seq (.v 1)) .no [2])
def c_touch_text : Sms := (.cons (.ex (.call 47 (.cons (.v 0) (.cons (.v 1) .nil)) [])) (.cons (.ex (.call 48 (.cons (.v 0) .nil) [])) (.cons (.ret (.mt .join (.c (.str [46])) (.cons Q1_touch_text .nil))) .nil)))
def d_touch_text : Fd := { np := 2, nn := 3, body := c_touch_text, tm := .pure }
def T1_change_of : Cd := (.cmp .lt (.v 4) (.v 0))
def B2_change_of : Sms := (.cons (.ife (.cmp .notin (.v 4) (.v 2)) (.cons (.ex (.mt .append (.v 3) (.cons (.v 4) .nil))) (.cons (.asg (.n 4) (.bin false .add (.v 4) (.c (.int 1)))) .nil)) .nil) (.cons (.asg (.n 4) (.bin false .add (.v 4) (.c (.int 1)))) .nil))
def W3_change_of : Sm := (.whl T1_change_of B2_change_of)
def Q4_change_of : Cd := (.comp false (.mt .sindex (.c (.str [49, 50, 51, 52, 53, 54, 55, 56, 57, 48, 69, 84])) (.cons (.v 5) .nil)) (.n 5) (.str (.v 1)) .no [5])
def Q5_change_of : Cd := (.comp false (.cmp .in_ (.v 5) (.sl false (.c (.str [49, 50, 51, 52, 53, 54, 55, 56, 57, 48, 69, 84])) .no (.so (.v 0)))) (.n 5) (.str (.v 1)) .no [5])
def c_change_of : Sms := (.cons (.ife (.and_ (.cmp .ne (.v 1) (.c (.str [120]))) (.or_ (.cmp .eq (.v 1) (.c (.str []))) (.not_ (.bi false .all (.cons Q5_change_of .nil))))) (.cons (.ret (.c .non)) .nil) .nil) (.cons (.asg (.n 2) (.ite (.cmp .ne (.v 1) (.c (.str [120]))) Q4_change_of (.lst false .nil))) (.cons (.par [3, 4] (.cons (.lst false .nil) (.cons (.c (.int 0)) .nil))) (.cons W3_change_of (.cons (.ret (.ite (.and_ (.call 43 (.cons (.v 0) (.cons (.v 3) .nil)) []) (.cmp .eq (.call 49 (.cons (.v 0) (.cons (.v 3) .nil)) []) (.v 1))) (.v 3) (.c .non))) .nil)))))
def d_change_of : Fd := { np := 2, nn := 6, body := c_change_of, tm := .pure }
def B1_read_touch : Sms := (.cons (.asg (.n 5) (.call 51 (.cons (.v 0) (.cons (.v 4) .nil)) [])) (.cons (.ife (.cmp .is_ (.v 5) (.c .non)) (.cons (.raise 4 (.bin false .add (.v 3) (.c (.int 1)))) .nil) .nil) (.cons (.ex (.mt .append (.v 2) (.cons (.v 5) .nil))) .nil)))
def L2_read_touch : Sm := (.for_ (.ns [3, 4]) (.enL (.ite (.cmp .ne (.v 1) (.c (.str []))) (.mt .split (.v 1) (.cons (.c (.str [46])) .nil)) (.lst false .nil))) B1_read_touch)
def c_read_touch : Sms := (.cons (.ex (.call 42 (.cons (.v 0) .nil) [])) (.cons (.ex (.call 5 (.cons (.v 1) .nil) [])) (.cons (.ex (.call 48 (.cons (.v 0) .nil) [])) (.cons (.asg (.n 2) (.lst false .nil)) (.cons L2_read_touch (.cons (.ret (.v 2)) .nil))))))
def d_read_touch : Fd := { np := 2, nn := 6, body := c_read_touch, tm := .pure }
def c_drawn : Sms := (.cons (.asg (.n 1) (.bin false .fdiv (.bin false .add (.bi false .len (.cons (.v 0) .nil)) (.c (.int 1))) (.c (.int 2)))) (.cons (.ret (.bin false .add (.bin false .add (.bin false .add (.sl false (.v 0) .no (.so (.v 1))) (.c (.str [10]))) (.bin false .mul (.c (.str [32])) (.bin false .sub (.bin false .mul (.c (.int 2)) (.v 1)) (.bi false .len (.cons (.v 0) .nil))))) (.rev false (.sl false (.v 0) (.so (.v 1)) .no)))) .nil))
def d_drawn : Fd := { np := 1, nn := 2, body := c_drawn, tm := .pure }
def c_ring_drawing : Sms := (.cons (.ex (.call 4 (.cons (.v 0) (.cons (.v 1) .nil)) [])) (.cons (.ret (.call 55 (.cons (.call 6 (.cons (.v 0) (.cons (.v 1) .nil)) []) .nil) [])) .nil))
def d_ring_drawing : Fd := { np := 2, nn := 2, body := c_ring_drawing, tm := .pure }
def c_read_ring : Sms := (.cons (.ex (.call 31 (.cons (.v 0) .nil) [])) (.cons (.asg (.n 1) (.mt .split (.v 0) (.cons (.c (.str [10])) .nil))) (.cons (.asg (.n 2) (.bin false .add (.ix (.v 1) (.c (.int 0))) (.rev false (.mt .lstrip (.ix (.v 1) (.neg (.c (.int 1)))) (.cons (.c (.str [32])) .nil))))) (.cons (.ife (.or_ (.not_ (.call 30 (.cons (.v 2) .nil) [])) (.cmp .ne (.call 55 (.cons (.v 2) .nil) []) (.v 0))) (.cons (.raise 11 (.v 0)) .nil) .nil) (.cons (.ret (.call 8 (.cons (.v 2) .nil) [])) .nil)))))
def d_read_ring : Fd := { np := 1, nn := 3, body := c_read_ring, tm := .pure }
def c_is_said : Sms := (.cons (.ret (.and_ (.call 29 (.cons (.v 0) (.cons (.v 2) .nil)) []) (.and_ (.bi false .isinst (.cons (.ix (.v 0) (.c (.int 0))) (.cons (.c (.bty .str)) .nil))) (.cmp .eq (.ix (.v 0) (.c (.int 0))) (.v 1))))) .nil)
def d_is_said : Fd := { np := 3, nn := 3, body := c_is_said, tm := .pure }
def c_is_act : Sms := (.cons (.ife (.call 59 (.cons (.v 0) (.cons (.c (.str [100, 114, 111, 112])) (.cons (.c (.int 2)) .nil))) []) (.cons (.ret (.call 28 (.cons (.ix (.v 0) (.c (.int 1))) .nil) [])) .nil) .nil) (.cons (.ife (.or_ (.not_ (.bi false .isinst (.cons (.v 0) (.cons (.c (.bty .tuple)) .nil)))) (.or_ (.cmp .ne (.bi false .len (.cons (.v 0) .nil)) (.c (.int 3))) (.not_ (.call 28 (.cons (.ix (.v 0) (.c (.int 1))) .nil) [])))) (.cons (.ret (.c (.bl false))) .nil) .nil) (.cons (.ife (.call 59 (.cons (.v 0) (.cons (.c (.str [116, 114, 97, 99, 107])) (.cons (.c (.int 3)) .nil))) []) (.cons (.ret (.call 1 (.cons (.ix (.v 0) (.c (.int 2))) (.cons (.c (.int 1)) .nil)) [])) .nil) .nil) (.cons (.ife (.or_ (.call 59 (.cons (.v 0) (.cons (.c (.str [112, 117, 116])) (.cons (.c (.int 3)) .nil))) []) (.call 59 (.cons (.v 0) (.cons (.c (.str [116, 97, 107, 101])) (.cons (.c (.int 3)) .nil))) [])) (.cons (.ret (.call 1 (.cons (.ix (.v 0) (.c (.int 2))) .nil) [(.int 0)])) .nil) .nil) (.cons (.ife (.call 59 (.cons (.v 0) (.cons (.c (.str [116, 117, 114, 110])) (.cons (.c (.int 3)) .nil))) []) (.cons (.ret (.call 0 (.cons (.ix (.v 0) (.c (.int 2))) .nil) [])) .nil) .nil) (.cons (.ret (.and_ (.or_ (.call 59 (.cons (.v 0) (.cons (.c (.str [109, 117, 116, 101])) (.cons (.c (.int 3)) .nil))) []) (.call 59 (.cons (.v 0) (.cons (.c (.str [97, 108, 111, 110, 101])) (.cons (.c (.int 3)) .nil))) [])) (.bi false .isinst (.cons (.ix (.v 0) (.c (.int 2))) (.cons (.c (.bty .bool)) .nil))))) .nil))))))
def d_is_act : Fd := { np := 1, nn := 1, body := c_is_act, tm := .pure }
def c_is_try : Sms := (.cons (.ret (.call 59 (.cons (.v 0) (.cons (.c (.str [116, 114, 121])) (.cons (.c (.int 2)) .nil))) [])) .nil)
def d_is_try : Fd := { np := 1, nn := 1, body := c_is_try, tm := .pure }
def c_is_member : Sms := (.cons (.ife (.call 61 (.cons (.v 0) .nil) []) (.cons (.ret (.call 63 (.cons (.ix (.v 0) (.c (.int 1))) .nil) [])) .nil) .nil) (.cons (.ret (.or_ (.call 59 (.cons (.v 0) (.cons (.c (.str [117, 110, 100, 111])) (.cons (.c (.int 1)) .nil))) []) (.or_ (.call 59 (.cons (.v 0) (.cons (.c (.str [114, 101, 100, 111])) (.cons (.c (.int 1)) .nil))) []) (.call 60 (.cons (.v 0) .nil) [])))) .nil))
def d_is_member : Fd := { np := 1, nn := 1, body := c_is_member, tm := .pure }
def Q1_is_script : Cd := (.comp false (.call 62 (.cons (.v 1) .nil) []) (.n 1) (.seq (.v 0)) .no [1])
def c_is_script : Sms := (.cons (.ret (.and_ (.bi false .isinst (.cons (.v 0) (.cons (.c (.bty .list)) .nil))) (.bi false .all (.cons Q1_is_script .nil)))) .nil)
def d_is_script : Fd := { np := 1, nn := 2, body := c_is_script, tm := .pure }
def c_check_script : Sms := (.cons (.ife (.not_ (.call 63 (.cons (.v 0) .nil) [])) (.cons (.raise 12 (.v 0)) .nil) .nil) .nil)
def d_check_script : Fd := { np := 1, nn := 1, body := c_check_script, tm := .pure }
def c_word_for : Sms := (.cons (.ife (.bi false .isinst (.cons (.v 0) (.cons (.c (.bty .bool)) .nil))) (.cons (.ret (.ite (.v 0) (.c (.str [121, 101, 115])) (.c (.str [110, 111])))) .nil) .nil) (.cons (.ret (.bi false .str (.cons (.v 0) .nil))) .nil))
def d_word_for : Fd := { np := 1, nn := 1, body := c_word_for, tm := .pure }
def Q1_script_rows : Cd := (.comp false (.call 65 (.cons (.v 5) .nil) []) (.n 5) (.seq (.v 3)) .no [5])
def B2_script_rows : Sms := (.cons (.asg (.n 4) (.ite (.call 61 (.cons (.v 3) .nil) []) (.c (.str [116, 114, 121])) (.mt .join (.c (.str [32])) (.cons Q1_script_rows .nil)))) (.cons (.ex (.mt .append (.v 2) (.cons (.bin false .add (.bin false .mul (.c (.str [32])) (.v 1)) (.v 4)) .nil))) (.cons (.ife (.call 61 (.cons (.v 3) .nil) []) (.cons (.ex (.mt .extend (.v 2) (.cons (.call 66 (.cons (.ix (.v 3) (.c (.int 1))) (.cons (.bin false .add (.v 1) (.c (.int 1))) .nil)) []) .nil))) .nil) .nil) .nil)))
def L3_script_rows : Sm := (.for_ (.n 3) (.seq (.v 0)) B2_script_rows)
def c_script_rows : Sms := (.cons (.asg (.n 2) (.lst true .nil)) (.cons L3_script_rows (.cons (.ret (.frz (.v 2))) .nil)))
def d_script_rows : Fd := { np := 2, nn := 6, body := c_script_rows, tm := .pure }
def c_script_record : Sms := (.cons (.ex (.call 64 (.cons (.v 0) .nil) [])) (.cons (.ret (.mt .join (.c (.str [10])) (.cons (.call 66 (.cons (.v 0) (.cons (.c (.int 0)) .nil)) []) .nil))) .nil))
def d_script_record : Fd := { np := 1, nn := 1, body := c_script_record, tm := .pure }
def Q1_told_number : Cd := (.comp false (.chain .le .le (.c (.str [48])) (.v 2) (.c (.str [57]))) (.n 2) (.str (.v 1)) .no [2])
def c_told_number : Sms := (.cons (.asg (.n 1) (.ite (.cmp .eq (.sl false (.v 0) .no (.so (.c (.int 1)))) (.c (.str [45]))) (.sl false (.v 0) (.so (.c (.int 1))) .no) (.v 0))) (.cons (.ife (.or_ (.cmp .eq (.v 1) (.c (.str []))) (.not_ (.bi false .all (.cons Q1_told_number .nil)))) (.cons (.ret (.c .non)) .nil) .nil) (.cons (.ret (.ite (.or_ (.cmp .ne (.ix (.v 1) (.c (.int 0))) (.c (.str [48]))) (.cmp .eq (.v 0) (.c (.str [48])))) (.bi false .int (.cons (.v 0) .nil)) (.c .non))) .nil)))
def d_told_number : Fd := { np := 1, nn := 3, body := c_told_number, tm := .pure }
def Q1_member_read : Cd := (.comp false (.ite (.cmp .in_ (.v 3) (.tup (.cons (.c (.str [121, 101, 115])) (.cons (.c (.str [110, 111])) .nil)))) (.cmp .eq (.v 3) (.c (.str [121, 101, 115]))) (.c .non)) (.n 3) (.seq (.sl false (.v 1) (.so (.c (.int 2))) .no)) .no [3])
def Q2_member_read : Cd := (.comp false (.call 68 (.cons (.v 3) .nil) []) (.n 3) (.seq (.sl false (.v 1) (.so (.c (.int 2))) .no)) .no [3])
def c_member_read : Sms := (.cons (.ife (.cmp .in_ (.v 0) (.tup (.cons (.c (.str [117, 110, 100, 111])) (.cons (.c (.str [114, 101, 100, 111])) .nil)))) (.cons (.ret (.tup (.cons (.v 0) .nil))) .nil) .nil) (.cons (.ife (.cmp .eq (.v 0) (.c (.str [116, 114, 121]))) (.cons (.ret (.tup (.cons (.c (.str [116, 114, 121])) (.cons (.lst true .nil) .nil)))) .nil) .nil) (.cons (.asg (.n 1) (.mt .split (.v 0) (.cons (.c (.str [32])) .nil))) (.cons (.asg (.n 2) (.bi false .tuple (.cons (.bin false .add (.sl false (.v 1) .no (.so (.c (.int 2)))) Q2_member_read) .nil))) (.cons (.ife (.cmp .in_ (.ix (.v 1) (.c (.int 0))) (.tup (.cons (.c (.str [109, 117, 116, 101])) (.cons (.c (.str [97, 108, 111, 110, 101])) .nil)))) (.cons (.asg (.n 2) (.bi false .tuple (.cons (.bin false .add (.sl false (.v 1) .no (.so (.c (.int 2)))) Q1_member_read) .nil))) .nil) .nil) (.cons (.ret (.ite (.call 60 (.cons (.v 2) .nil) []) (.v 2) (.c .non))) .nil))))))
def d_member_read : Fd := { np := 1, nn := 4, body := c_member_read, tm := .no }
def B1_read_script : Sms := (.cons (.asg (.n 6) (.bin false .sub (.bi false .len (.cons (.v 5) .nil)) (.bi false .len (.cons (.mt .lstrip (.v 5) (.cons (.c (.str [32])) .nil)) .nil)))) (.cons (.asg (.n 7) (.ite (.cmp .lt (.v 6) (.bi false .len (.cons (.v 2) .nil))) (.call 69 (.cons (.sl false (.v 5) (.so (.v 6)) .no) .nil) []) (.c .non))) (.cons (.ife (.cmp .is_ (.v 7) (.c .non)) (.cons (.raise 4 (.bin false .add (.v 4) (.c (.int 1)))) .nil) .nil) (.cons (.asg (.n 2) (.sl true (.v 2) .no (.so (.bin false .add (.v 6) (.c (.int 1)))))) (.cons (.ex (.mt .append (.ix (.v 2) (.v 6)) (.cons (.v 7) .nil))) (.cons (.ife (.cmp .eq (.ix (.v 7) (.c (.int 0))) (.c (.str [116, 114, 121]))) (.cons (.ex (.mt .append (.v 2) (.cons (.ix (.v 7) (.c (.int 1))) .nil))) .nil) .nil) .nil))))))
def L2_read_script : Sm := (.for_ (.ns [4, 5]) (.enL (.v 3)) B1_read_script)
def Q3_read_script : Cd := (.comp false (.or_ (.cmp .eq (.v 8) (.c (.str [10]))) (.chain .le .le (.c (.str [32])) (.v 8) (.c (.str [126])))) (.n 8) (.str (.v 0)) .no [8])
def c_read_script : Sms := (.cons (.ife (.or_ (.not_ (.bi false .isinst (.cons (.v 0) (.cons (.c (.bty .str)) .nil)))) (.not_ (.bi false .all (.cons Q3_read_script .nil)))) (.cons (.raise 3 (.v 0)) .nil) .nil) (.cons (.asg (.n 1) (.lst true .nil)) (.cons (.par [2, 3] (.cons (.lst true (.cons (.v 1) .nil)) (.cons (.ite (.cmp .ne (.v 0) (.c (.str []))) (.mt .split (.v 0) (.cons (.c (.str [10])) .nil)) (.lst true .nil)) .nil))) (.cons L2_read_script (.cons (.ret (.frzd (.v 1))) .nil)))))
def d_read_script : Fd := { np := 1, nn := 9, body := c_read_script, tm := .pure }
def c__law_purse : Sms := cPurse
def d__law_purse : Fd := dPurse
def c__law_mixed : Sms := cMixed
def d__law_mixed : Fd := dMixed
def c__law_draw : Sms := cDraw 11
def d__law_draw : Fd := (dDraw 11)
def c__law_purses : Sms := cPurses 10
def d__law_purses : Fd := (dPurses 10)
def c__law_one_of : Sms := cOneOf 12
def d__law_one_of : Fd := (dOneOf 12)
def c__law_exact : Sms := cExact 15
def d__law_exact : Fd := (dExact 15)
def c__law_rhythm : Sms := cRhythm 12
def d__law_rhythm : Fd := (dRhythm 12)
def c__law_of_signs : Sms := cOfSigns 12 14
def d__law_of_signs : Fd := (dOfSigns 12 14)
def c__law_shuffled : Sms := cShuf
def d__law_shuffled : Fd := dShuf
def tabP : Nat → Option Fd
  | 0 => some d_is_whole
  | 1 => some d_is_count
  | 2 => some d_check_pulses
  | 3 => some d_is_rhythm_there
  | 4 => some d_check_rhythm
  | 5 => some d_check_text
  | 6 => some d_box_there
  | 7 => some d_box_text
  | 8 => some d_rhythm_of
  | 9 => some d_read_box
  | 23 => some d_numbers_text
  | 24 => some d_can_follow
  | 25 => some d_read_numbers
  | 28 => some d_is_word
  | 29 => some d_is_tuple_of
  | 30 => some d_is_box
  | 31 => some d_check_rows
  | 32 => some d_is_track
  | 33 => some d_tracks_text
  | 34 => some d_read_tracks
  | 39 => some d_tones_text
  | 40 => some d_read_tones
  | 42 => some d_check_many
  | 43 => some d_is_change_there
  | 44 => some d_count_there
  | 46 => some d_is_touch_there
  | 47 => some d_check_touch
  | 48 => some d_check_few
  | 49 => some d_word_of
  | 50 => some d_touch_text
  | 51 => some d_change_of
  | 52 => some d_read_touch
  | 55 => some d_drawn
  | 56 => some d_ring_drawing
  | 57 => some d_read_ring
  | 59 => some d_is_said
  | 60 => some d_is_act
  | 61 => some d_is_try
  | 62 => some d_is_member
  | 63 => some d_is_script
  | 64 => some d_check_script
  | 65 => some d_word_for
  | 66 => some d_script_rows
  | 67 => some d_script_record
  | 68 => some d_told_number
  | 69 => some d_member_read
  | 70 => some d_read_script
  | 10 => some dPurse
  | 11 => some dMixed
  | 12 => some (dDraw 11)
  | 13 => some (dPurses 10)
  | 14 => some (dOneOf 12)
  | 15 => some (dExact 15)
  | 17 => some (dRhythm 12)
  | 18 => some (dOfSigns 12 14)
  | 35 => some dShuf
  | _ => none
/-- a table that holds what laws share -/
def TabP (tab : Nat → Option Fd) : Prop := ∀ n d, tabP n = some d → tab n = some d
end Mp
end
section
/-! What the program's defs come to: rhythms, boxes. -/
namespace Mp
theorem sml_of {i : Int} (h : -(2 ^ 61) ≤ i) (h2 : i ≤ 2 ^ 61) : small62 i = true := by
  simp only [small62, Bool.and_eq_true, decide_eq_true_eq]
  omega
theorem natD_sl (bs : List Nat) (S : Store) : slop false (.lst (natD bs)) (some 1) none S = .ok (.lst (natD bs.tail)) S := by
  simp [slop, asL, cut, sIx]
  cases bs with
  | nil => simp
  | cons b bs => simp [List.take_of_length_le]
theorem pw_zip : ∀ (bs : List Nat), bs.Pairwise (· < ·) → ∀ p ∈ List.zip (natD bs) (natD bs.tail), ∃ a b : Nat, p = (.int a, .int b) ∧ a < b
  | [], _, p, h => by simp at h
  | [b], _, p, h => by simp at h
  | a :: b :: bs, hp, p, h => by
    rw [List.pairwise_cons] at hp
    simp only [List.tail_cons, List.map_cons, List.zip_cons_cons, List.mem_cons] at h
    rcases h with rfl | h
    · exact ⟨a, b, rfl, hp.1 b (by simp)⟩
    · exact pw_zip (b :: bs) hp.2 p (by simpa using h)
/-- a rhythm's box -/
def boxT (p : Nat) (bs : List Nat) : List Nat := (List.range p).map fun i => if i ∈ bs then 120 else 46
theorem boxT_len (p : Nat) (bs : List Nat) : (boxT p bs).length = p := by simp [boxT]
theorem strs_map (ts : List (List Nat)) : strsD (ts.map .str) = some ts := by
  induction ts with
  | nil => rfl
  | cons t ts ih => simp [strsD, ih]
theorem joinS_nil (ts : List (List Nat)) : joinS [] ts = ts.flatten := by
  induction ts with
  | nil => rfl
  | cons t ts ih => cases ts with
    | nil => simp [joinS]
    | cons u us => simp [joinS] at ih ⊢; exact ih
theorem join_e (ts : List (List Nat)) (S : Store) (h : (ts.map List.length).sum ≤ lim) : mtop .join (.str []) [.lst (ts.map .str)] S = .ok (.str ts.flatten) S := by
  have : (ts.map List.length).sum ≤ 16777216 := h
  simp [mtop, mtJoin, asQ, asL, strs_map, joinS_nil, this]
theorem sum_ones (t : List Nat) : ((t.map fun c => [c]).map List.length).sum = t.length := by
  induction t with
  | nil => rfl
  | cons a t ih => simp only [List.map_cons, List.sum_cons, ih, List.length_cons, List.length_nil]; omega
theorem flat_ones (t : List Nat) : (t.map fun c => [c]).flatten = t := by
  induction t with
  | nil => rfl
  | cons a t ih => simp [ih]
/-- signs put together again -/
theorem join_ch (t : List Nat) (S : Store) (h : t.length ≤ lim) : mtop .join (.str []) [.lst (chD t)] S = .ok (.str t) S := by
  have := join_e (t.map fun c => [c]) S (by rw [sum_ones]; exact h)
  rw [flat_ones, List.map_map] at this
  exact this
theorem in_nat (S : Store) (b : Nat) (bs : List Nat) : cmpop .in_ (.int b) (.lst (natD bs)) S = some (decide (b ∈ bs)) := by
  have h1 : (natD bs).all flat = true := by simp [flat]
  simp only [cmpop, isIn, asK, asQ, asL, h1, flat, Bool.and_self, if_true]
  congr 1
  rw [Bool.eq_iff_iff]
  simp [eqf]
  constructor
  · rintro ⟨x, hx, he⟩
    have : x = b := by omega
    exact this ▸ hx
  · exact fun h => ⟨b, h, rfl⟩
theorem pw_len : ∀ (bs : List Nat) (a p : Nat), bs.Pairwise (· < ·) → (∀ b ∈ bs, a ≤ b ∧ b < p) → a ≤ p → bs.length + a ≤ p
  | [], a, p, _, _, h => by simpa using h
  | b :: bs, a, p, hp, h, _ => by
    rw [List.pairwise_cons] at hp
    have hb := h b (by simp)
    have := pw_len bs (b + 1) p hp.2 (fun c hc => ⟨hp.1 c hc, (h c (by simp [hc])).2⟩) (by omega)
    simp only [List.length_cons]
    omega
theorem pw_len' {bs : List Nat} {p : Nat} (h : bs.Pairwise (· < ·)) (h2 : ∀ b ∈ bs, b < p) : bs.length ≤ p := by
  simpa using pw_len bs 0 p h (fun b hb => ⟨by omega, h2 b hb⟩) (by omega)
section
variable {g : Gt} {tab : Nat → Option Fd} (H : TabP tab)
include H
theorem is_whole_i (n : Nat) (S : Store) (v : Int) : callN g tab (n + 1) 0 [.int v] S = .ret (.bl true) S := by
  refine call_p (H 0 _ rfl) rfl rfl rfl ?_
  simp [d_is_whole, c_is_whole]
theorem is_count_i (n : Nat) (S : Store) (v m : Int) : callN g tab (n + 2) 1 [.int v, .int m] S = .ret (.bl (decide (max m 0 ≤ v))) S := by
  refine call_p (H 1 _ rfl) rfl rfl rfl ?_
  simp [d_is_count, c_is_count, is_whole_i H]
theorem check_pulses_i (n : Nat) (S : Store) (v : Int) (h : 1 ≤ v) : callN g tab (n + 3) 2 [.int v] S = .ret .non S := by
  have : max 1 0 ≤ v := by omega
  refine call_pn (H 2 _ rfl) rfl rfl (e := [some (.int v)]) ?_
  simp [d_check_pulses, c_check_pulses, is_count_i H, this]
theorem is_rhythm_i (n : Nat) (S : Store) (p : Int) (bs : List Nat) (h : bs.Pairwise (· < ·)) (h2 : ∀ b ∈ bs, (b : Int) < p) (hl : bs.length ≤ lim) : callN g tab (n + 3) 3 [.int p, .lst (natD bs)] S = .ret (.bl true) S := by
  refine call_p (H 3 _ rfl) rfl rfl rfl ?_
  have q2 : evE g (callN g tab (n + 2)) Q2_is_rhythm_there [some (.int p), some (.lst (natD bs)), none, none, none] S = .ok (.lst (List.replicate (natD bs).length (.bl true))) S := by
    refine comp_one (.bl true) (S1 := S) (by simp) (by simpa using hl) (fun x hx => ?_)
    obtain ⟨b, hb, rfl⟩ := List.mem_map.mp hx
    refine ⟨_, bd_n, ?_⟩
    have := h2 b hb
    simp [is_count_i H, this]
  have q1 : evE g (callN g tab (n + 2)) Q1_is_rhythm_there [some (.int p), some (.lst (natD bs)), none, none, none] S = .ok (.lst (List.replicate (zipD (natD bs) (natD bs.tail)).length (.bl true))) S := by
    refine comp_one (.bl true) (S1 := S) (by simp [intO, natD_sl]) (by simp [zipD_eq]; omega) (fun x hx => ?_)
    rw [zipD_eq] at hx
    obtain ⟨q, hq, rfl⟩ := List.mem_map.mp hx
    obtain ⟨a, b, rfl, hab⟩ := pw_zip bs h q hq
    refine ⟨_, bd_ns, ?_⟩
    simp [hab]
  simp [d_is_rhythm_there, c_is_rhythm_there, q1, q2, all_rep]
theorem check_rhythm_i (n : Nat) (S : Store) (p : Int) (bs : List Nat) (hp : 1 ≤ p) (h : bs.Pairwise (· < ·)) (h2 : ∀ b ∈ bs, (b : Int) < p) (hl : bs.length ≤ lim) : callN g tab (n + 4) 4 [.int p, .lst (natD bs)] S = .ret .non S := by
  refine call_pn (H 4 _ rfl) rfl rfl (e := [some (.int p), some (.lst (natD bs))]) ?_
  have := is_rhythm_i (g := g) H n S p bs h h2 hl
  simp [d_check_rhythm, c_check_rhythm, check_pulses_i H, this, hp]
theorem box_there_i (n : Nat) (S : Store) (p : Nat) (bs : List Nat) (hp : p ≤ 1000000) : callN g tab (n + 1) 6 [.int p, .lst (natD bs)] S = .ret (.str (boxT p bs)) S := by
  refine call_p (H 6 _ rfl) rfl rfl rfl ?_
  have hs : small62 (p : Int) = true := sml_of (by omega) (by omega)
  have q : evE g (callN g tab n) Q1_box_there [some (.int p), some (.lst (natD bs)), none] S = .ok (.lst (chD (boxT p bs))) S := by
    have := comp_map (g := g) (C := callN g tab n) (m := false) (elt := .ite (.cmp .in_ (.v 2) (.v 1)) (.c (.str [120])) (.c (.str [46]))) (tg := .n 2) (it := .rng1 (.v 0)) (own := [2]) (e := [some (.int p), some (.lst (natD bs)), none]) (S := S) (S1 := S) (xs := List.range p) (fun k => .int (0 + (k : Nat))) (fun k => .str [if k ∈ bs then 120 else 46]) (by simp [hs, rangeD]) (by simp [lim]; omega) (fun x hx => by
      refine ⟨_, bd_n, ?_⟩
      simp [in_nat]
      split <;> rfl)
    rw [Q1_box_there, this]
    simp [boxT]
  simp [d_box_there, c_box_there, q, join_ch, boxT_len, show p ≤ lim by unfold lim; omega]
theorem box_text_i (n : Nat) (S : Store) (p : Nat) (bs : List Nat) (hp : 1 ≤ p) (hp2 : p ≤ 1000000) (h : bs.Pairwise (· < ·)) (h2 : ∀ b ∈ bs, b < p) : callN g tab (n + 5) 7 [.int p, .lst (natD bs)] S = .ret (.str (boxT p bs)) S := by
  refine call_p (H 7 _ rfl) rfl rfl rfl ?_
  have hl : bs.length ≤ lim := by have := pw_len' h h2; unfold lim; omega
  have := check_rhythm_i (g := g) H n S p bs (by omega) h (fun b hb => by have := h2 b hb; omega) hl
  simp [d_box_text, c_box_text, this, box_there_i H, hp2]

/-! ### boxes read -/
omit H in
theorem isStrIn (c : Nat) (t : List Nat) (S : Store) : cmpop .in_ (.str [c]) (.str t) S = some (decide (c ∈ t)) := by simp [cmpop, isIn]
omit H in
theorem isStrNin (c : Nat) (t : List Nat) (S : Store) : cmpop .notin (.str [c]) (.str t) S = some (!decide (c ∈ t)) := by simp [cmpop, isIn]
omit H in
theorem ltL1 (a b : Nat) : ltL [a] [b] = decide (a < b) := by
  unfold ltL
  by_cases h : a < b
  · simp [h]
  · by_cases h2 : b < a <;> simp [h, h2, ltL]
omit H in
theorem small_txt {t : List Nat} (h : ∀ c ∈ t, 32 ≤ c ∧ c ≤ 126) : True := trivial
theorem check_text_i (n : Nat) (S : Store) (t : List Nat) (h : ∀ c ∈ t, 32 ≤ c ∧ c ≤ 126) (hl : t.length ≤ lim) : callN g tab (n + 1) 5 [.str t] S = .ret .non S := by
  refine call_pn (H 5 _ rfl) rfl rfl (e := [some (.str t), none]) ?_
  have q : evE g (callN g tab n) Q1_check_text [some (.str t), none] S = .ok (.lst (List.replicate (chD t).length (.bl true))) S := by
    refine comp_one (.bl true) (S1 := S) (by simp) (by simpa using hl) (fun x hx => ?_)
    obtain ⟨c, hc, rfl⟩ := List.mem_map.mp hx
    refine ⟨_, bd_n, ?_⟩
    have := h c hc
    simp [ltL1, show ¬ c < 32 by omega, show ¬ 126 < c by omega]
  simp [d_check_text, c_check_text, q, all_rep]
/-- the place told with a sign, if it is this sign -/
def pickP (c : Nat) (z : D) : Option D := match z with
  | .tup [.int i, .str [d]] => if d = c then some (D.int i) else none
  | _ => none
/-- a text's sign, if it is not one of these -/
def pickN (ks : List Nat) (z : D) : Option D := match z with
  | .str [d] => if d ∈ ks then none else some (D.str [d])
  | _ => none
/-- the places of a sign -/
def plcs (k : Nat) (t : List Nat) : List Nat := (List.range t.length).filter fun i => t[i]? = some k
omit H in
theorem enum_ch : ∀ (k : Nat) (t : List Nat) (i : Nat) (h : i < (enumD k (chD t)).length), (enumD k (chD t))[i] = .tup [.int (k + i : Nat), .str [t[i]'(by rw [enD_len] at h; simpa using h)]] := by
  intro k t i h
  rw [enD_get]
  simp
omit H in
theorem enum_mem {k : Nat} {t : List Nat} {x : D} (h : x ∈ enumD k (chD t)) : ∃ i c, x = .tup [.int (k + i : Nat), .str [c]] ∧ t[i]? = some c := by
  obtain ⟨i, hi, rfl⟩ := List.mem_iff_getElem.mp h
  have hi2 : i < t.length := by rw [enD_len] at hi; simpa using hi
  exact ⟨i, t[i], enum_ch k t i hi, by simp [hi2]⟩
omit H in
theorem pickP_eq (c d : Nat) (i : Int) : pickP c (.tup [.int i, .str [d]]) = if d = c then some (.int i) else none := by rw [pickP]
omit H in
theorem plcs_enum (c : Nat) : ∀ (k : Nat) (t : List Nat), (enumD k (chD t)).filterMap (pickP c) = ((List.range t.length).filter fun i => t[i]? = some c).map fun i => .int (k + i : Nat)
  | k, [] => by simp [enumD]
  | k, x :: xs => by
    have ih := plcs_enum c (k + 1) xs
    simp only [List.map_cons, enumD, List.filterMap_cons, pickP_eq, List.length_cons, List.range_succ_eq_map, List.filter_cons, List.getElem?_cons_zero]
    simp only [List.filter_map, List.map_map, Function.comp_def, List.getElem?_cons_succ]
    rw [ih]
    have e : ∀ i, ((k + 1 + i : Nat) : Int) = ((k + (i + 1) : Nat) : Int) := fun i => by omega
    by_cases hx : x = c
    · simp [hx, e]
    · simp [hx, e]
omit H in
theorem Q_rhythm_of (C : Call) (a b : Option D) (S : Store) (m : Bool) (t : List Nat) (hl : t.length ≤ lim) : evE g C (.comp m (.v 1) (.ns [1, 2]) (.enS (.v 0)) (.so (.cmp .eq (.v 2) (.c (.str [120])))) [1, 2]) [some (.str t), a, b] S = alloc m (natD (plcs 120 t)) S := by
    rw [comp_pu (pickP 120) (xs := enumD 0 (chD t)) (S1 := S) (by simp) (by simpa [enD_len] using hl) (fun x hx => by
      obtain ⟨i, c, rfl, hc⟩ := enum_mem hx
      refine ⟨_, bd_ns, ?_⟩
      by_cases h : c = 120 <;> simp [h, pickP_eq]), plcs_enum]
    simp [plcs]
omit H in
theorem pickN_eq (ks : List Nat) (d : Nat) : pickN ks (.str [d]) = if d ∈ ks then none else some (.str [d]) := by rw [pickN]
omit H in
theorem pickN_ch (ks : List Nat) : ∀ t : List Nat, (chD t).filterMap (pickN ks) = chD (t.filter fun c => !decide (c ∈ ks))
  | [] => rfl
  | c :: t => by
    have ih := pickN_ch ks t
    rw [List.filter_cons]
    show List.filterMap _ (D.str [c] :: chD t) = _
    rw [List.filterMap_cons, pickN_eq]
    by_cases h : c ∈ ks
    · simp only [h, if_true, decide_true, Bool.not_true, Bool.false_eq_true, if_false]; exact ih
    · simp only [h, if_false, decide_false, Bool.not_false, if_true]
      rw [ih]; rfl
theorem rhythm_of_i (n : Nat) (S : Store) (t : List Nat) (hl : t.length ≤ lim) : callN g tab (n + 1) 8 [.str t] S = .ret (.tup [.int t.length, .lst (natD (plcs 120 t))]) S := by
  have q : evE g (callN g tab n) Q1_rhythm_of [some (.str t), none, none] S = .ok (.lst (natD (plcs 120 t))) S := by rw [Q1_rhythm_of, Q_rhythm_of _ _ _ _ _ _ hl, al_f]
  refine call_p (H 8 _ rfl) rfl rfl (by simp only [below, belowL, belowL_nat, Bool.and_true]) ?_
  simp [d_rhythm_of, c_rhythm_of, q, hl]
omit H in
/-- all signs are those of boxes, or a first one is not -/
theorem box_cases (t : List Nat) : (∀ c ∈ t, c ∈ [120, 46]) ∨ ∃ pre c post, t = pre ++ c :: post ∧ (∀ c ∈ pre, c ∈ [120, 46]) ∧ ¬ c ∈ [120, 46] := first_bad _ t
theorem read_box_good (n : Nat) (S : Store) (t : List Nat) (h : ∀ c ∈ t, c ∈ [120, 46]) (h0 : t ≠ []) (hl : t.length ≤ lim) : callN g tab (n + 2) 9 [.str t] S = .ret (.tup [.int t.length, .lst (natD (plcs 120 t))]) S := by
  refine call_p (H 9 _ rfl) rfl rfl (by simp only [below, belowL, belowL_nat, Bool.and_true]) ?_
  have hc := check_text_i (g := g) H n S t (fun c hc => by have := h c hc; simp at this; omega) hl
  obtain ⟨e', S', hf, a, b, rfl, rfl⟩ : ∃ e' S', evS g (callN g tab (n + 1)) L2_read_box [some (.str t), none, none] S = .nx e' S' ∧ ∃ a b, e' = [some (.str t), a, b] ∧ S' = S := by
    refine for_sp (fun i e T => ∃ a b, e = [some (.str t), a, b] ∧ T = S) (xs := enumD 0 (chD t)) (S1 := S) (by simp) ⟨none, none, rfl, rfl⟩ ?_
    rintro i hi e T ⟨a, b, rfl, rfl⟩
    rw [enum_ch]
    have hi2 : i < t.length := by rw [enD_len] at hi; simpa using hi
    refine ⟨_, _, _, bd_ns, ?_, some (.int (0 + i : Nat)), some (.str [t[i]]), rfl, rfl⟩
    have := h t[i] (List.getElem_mem _)
    simp [B1_read_box, isStrNin] at this ⊢
    rcases this with h | h <;> simp [h]
  simp [d_read_box, c_read_box, hc, hf, h0, rhythm_of_i H, hl]
theorem read_box_bad (n : Nat) (S : Store) (pre : List Nat) (c : Nat) (post : List Nat) (h : ∀ c ∈ pre, c ∈ [120, 46]) (hc : c ∉ [120, 46]) (hP : ∀ d ∈ pre ++ c :: post, 32 ≤ d ∧ d ≤ 126) (hl : (pre ++ c :: post).length ≤ lim) : callN g tab (n + 2) 9 [.str (pre ++ c :: post)] S = .exc 4 (.int pre.length) S := by
  refine call_px (H 9 _ rfl) rfl rfl rfl ?_
  have hct := check_text_i (g := g) H n S _ hP hl
  obtain ⟨e', S', hf, rfl⟩ : ∃ e' S', evS g (callN g tab (n + 1)) L2_read_box [some (.str (pre ++ c :: post)), none, none] S = .exc 4 (.int pre.length) e' S' ∧ S' = S := by
    refine for_exc (Q := fun _ T => T = S) (fun i e T => ∃ a b, e = [some (.str (pre ++ c :: post)), a, b] ∧ T = S) (pre := enumD 0 (chD pre)) (x := .tup [.int pre.length, .str [c]]) (post := enumD (pre.length + 1) (chD post)) (S1 := S) (by simp [enumD_app, enumD]) ⟨none, none, rfl, rfl⟩ ?_ ?_
    · rintro i hi e T ⟨a, b, rfl, rfl⟩
      rw [enum_ch]
      have hi2 : i < pre.length := by rw [enD_len] at hi; simpa using hi
      refine ⟨_, _, _, bd_ns, ?_, some (.int (0 + i : Nat)), some (.str [pre[i]]), rfl, rfl⟩
      have := h pre[i] (List.getElem_mem _)
      simp [B1_read_box, isStrNin] at this ⊢
      rcases this with h | h <;> simp [h]
    · rintro e T ⟨a, b, rfl, rfl⟩
      refine ⟨_, [some (.str (pre ++ c :: post)), some (.int pre.length), some (.str [c])], _, bd_ns, ?_, rfl⟩
      simp at hc
      simp [B1_read_box, isStrNin, hc]
  refine ⟨e', ?_⟩
  simp only [List.map, List.replicate]
  simp [d_read_box, c_read_box, hct, hf]
theorem read_box_none (n : Nat) (S : Store) : callN g tab (n + 2) 9 [.str []] S = .exc 4 (.int 0) S := by
  refine call_px (H 9 _ rfl) rfl rfl rfl ?_
  have hct := check_text_i (g := g) H n S [] (by simp) (by simp)
  have hf : evS g (callN g tab (n + 1)) L2_read_box [some (.str []), none, none] S = .nx [some (.str []), none, none] S := by
    rw [L2_read_box, eS_for (xs := []) (k := []) (S1 := S) (by simp [enumD]), forL]
    rfl
  simp [d_read_box, c_read_box, hct, hf]
omit H in
theorem set_app {S L : Store} {p : Nat} {o : O} (h : p < S.length) : S.set p o ++ L = (S ++ L).set p o := by
  rw [List.set_append_left _ _ h]
omit H in
theorem boxT_ch (p : Nat) (bs : List Nat) : ∀ c ∈ boxT p bs, c ∈ [120, 46] := by
  intro c hc
  obtain ⟨i, _, rfl⟩ := List.mem_map.mp hc
  split <;> simp
omit H in
/-- the places of a box are its beats -/
theorem plcs_box (p : Nat) (bs : List Nat) (h : bs.Pairwise (· < ·)) (h2 : ∀ b ∈ bs, b < p) : plcs 120 (boxT p bs) = bs := by
  have e : plcs 120 (boxT p bs) = (List.range p).filter (· ∈ bs) := by
    unfold plcs
    rw [boxT_len]
    refine List.filter_congr fun i hi => ?_
    have hi := List.mem_range.mp hi
    by_cases hb : i ∈ bs <;> simp [boxT, hi, hb]
  rw [e]
  refine (List.Perm.eq_of_pairwise (le := (· < ·)) (fun a b _ _ h1 h2 => absurd h1 (by omega)) ?_ h ?_)
  · exact List.Pairwise.filter _ List.pairwise_lt_range
  · refine (List.perm_ext_iff_of_nodup (List.Pairwise.filter _ List.nodup_range) (h.imp (fun h => by omega))).mpr fun a => ?_
    simp
    exact fun ha => h2 a ha
end
end Mp
end
section
/-! Rows of tones. -/
namespace Mp
/-! ### sorting -/
theorem insI_pm (x : Int) : ∀ r, (insI x r).Perm (x :: r)
  | [] => .refl _
  | y :: r => by
    unfold insI
    split
    · exact .refl _
    · exact ((insI_pm x r).cons y).trans (.swap x y r)
theorem insI_sd (x : Int) : ∀ r, r.Pairwise (· ≤ ·) → (insI x r).Pairwise (· ≤ ·)
  | [], _ => by simp [insI]
  | y :: r, h => by
    obtain ⟨h1, h2⟩ := List.pairwise_cons.mp h
    unfold insI
    split
    · rename_i q
      refine List.pairwise_cons.mpr ⟨fun z hz => ?_, h⟩
      rcases List.mem_cons.mp hz with rfl | hz
      · exact q
      · exact Int.le_trans q (h1 z hz)
    · refine List.pairwise_cons.mpr ⟨fun z hz => ?_, insI_sd x r h2⟩
      rcases List.mem_cons.mp ((insI_pm x r).mem_iff.mp hz) with rfl | hz
      · omega
      · exact h1 z hz
theorem sortI_pm : ∀ r, (sortI r).Perm r
  | [] => .refl _
  | x :: r => (insI_pm x _).trans ((sortI_pm r).cons x)
theorem sortI_sd : ∀ r, (sortI r).Pairwise (· ≤ ·)
  | [] => .nil
  | x :: r => insI_sd x _ (sortI_sd r)
theorem sortI_of {ns ms : List Int} (h : ms.Perm ns) (h2 : ms.Pairwise (· ≤ ·)) : sortI ns = ms :=
  List.Perm.eq_of_pairwise (fun x y _ _ h1 h2 => Int.le_antisymm h1 h2) (sortI_sd ns) h2 ((sortI_pm ns).trans h.symm)
def castI (r : List Nat) : List Int := r.map fun b : Nat => (b : Int)
/-- counts in order -/
def srt (r : List Nat) : List Nat := (sortI (castI r)).map Int.toNat
theorem natD_cast (r : List Nat) : natD r = (castI r).map .int := by simp [castI]
theorem srt_cast (r : List Nat) : sortI (castI r) = castI (srt r) := by
  unfold srt castI
  rw [List.map_map]
  have h : ∀ x ∈ sortI (r.map fun b : Nat => (b : Int)), ((x.toNat : Nat) : Int) = x := fun x hx => by
    have := (sortI_pm _).mem_iff.mp hx
    obtain ⟨b, _, rfl⟩ := List.mem_map.mp this
    simp
  conv => lhs; rw [← List.map_id (sortI (r.map fun b : Nat => (b : Int)))]
  exact List.map_congr_left fun x hx => (h x hx).symm
theorem castI_inj {a b : List Nat} (h : castI a = castI b) : a = b := by
  unfold castI at h
  have := congrArg (List.map Int.toNat) h
  simpa [List.map_map, Function.comp_def] using this
theorem srt_of {r s : List Nat} (h : s.Perm r) (h2 : s.Pairwise (· ≤ ·)) : srt r = s := by
  refine castI_inj ?_
  rw [← srt_cast]
  refine sortI_of (h.map _) ?_
  unfold castI
  rw [List.pairwise_map]
  exact h2.imp fun h => by omega
theorem srt_pm (r : List Nat) : (srt r).Perm r := by
  have h := sortI_pm (castI r)
  rw [srt_cast] at h
  have := h.map Int.toNat
  simpa [castI, List.map_map, Function.comp_def] using this
theorem srt_range {r : List Nat} {n : Nat} (h : r.Perm (List.range n)) : srt r = List.range n := srt_of h.symm (List.pairwise_lt_range.imp fun h => by omega)
section
variable {g : Gt} {S : Store}
theorem i_sort (m : Bool) (r : List Nat) : biop g m .sorted [.lst (natD r)] S = alloc m (natD (srt r)) S := by
  have h : asL S (.lst (natD r)) = some (natD r) := rfl
  simp only [biop, biSorted, h]
  rw [natD_cast, ints_map]
  simp only [srt_cast, natD_cast]
theorem i_sort_c (m : Bool) (l : Nat) (r : List Nat) (h : S[l]? = some (.lst (natD r))) : biop g m .sorted [.ref l] S = alloc m (natD (srt r)) S := by
  have h : asL S (.ref l) = some (natD r) := by simp only [asL, h]
  simp only [biop, biSorted, h]
  rw [natD_cast, ints_map]
  simp only [srt_cast, natD_cast]
theorem k_nenat (a b : List Nat) : cmpop .ne (.lst (natD a)) (.lst (natD b)) S = some (!decide (a = b)) := by
  have h : ∀ a b : List Nat, eqvL (natD a) (natD b) = decide (a = b) := fun a => by
    induction a with
    | nil => intro b; cases b <;> simp [eqvL]
    | cons x a ih =>
      intro b
      cases b with
      | nil => simp [eqvL]
      | cons y b =>
        simp only [List.map_cons, eqvL, ih, eqv, eqf]
        rw [Bool.eq_iff_iff]
        simp
        omega
  simp only [cmpop, eqTop, flat, Bool.and_self, Bool.false_eq_true, if_false]
  rw [res_nat S 58 a, res_nat S 58 b]
  simp only [eqv, h, Option.map_some]
theorem k_eqnat2 (a b : List Nat) : cmpop .eq (.lst (natD a)) (.lst (natD b)) S = some (decide (a = b)) := by
  have h : ∀ a b : List Nat, eqvL (natD a) (natD b) = decide (a = b) := fun a => by
    induction a with
    | nil => intro b; cases b <;> simp [eqvL]
    | cons x a ih =>
      intro b
      cases b with
      | nil => simp [eqvL]
      | cons y b =>
        simp only [List.map_cons, eqvL, ih, eqv, eqf]
        rw [Bool.eq_iff_iff]
        simp
        omega
  simp only [cmpop, eqTop, flat, Bool.and_self, Bool.false_eq_true, if_false]
  rw [res_nat S 58 a, res_nat S 58 b]
  simp only [eqv, h]
end
/-! ### the signs of tones -/
def SGl : List Nat := [48, 49, 50, 51, 52, 53, 54, 55, 56, 57, 97, 98, 99, 100, 101, 102, 103, 104, 105, 106, 107, 108, 109, 110, 111, 112, 113, 114, 115, 116, 117, 118, 119, 120, 121, 122]
theorem SGl_len : SGl.length = 36 := rfl
def sg (i : Nat) : Nat := SGl.getD i 0
def idx (c : Nat) : Nat := (fndI SGl c).getD 0
theorem sg_fnd : ∀ i < 36, fndI SGl (sg i) = some i := by decide
theorem sg_prt : ∀ i < 36, 32 ≤ sg i ∧ sg i ≤ 126 := by decide
theorem sg_mem : ∀ i < 36, sg i ∈ SGl := by decide
theorem sg_of {c : Nat} (h : c ∈ SGl) : ∃ i < 36, c = sg i := by
  obtain ⟨i, hi, rfl⟩ := List.mem_iff_getElem.mp h
  exact ⟨i, hi, by simp [sg, List.getD, hi]⟩
theorem idx_sg {i : Nat} (h : i < 36) : idx (sg i) = i := by simp [idx, sg_fnd i h]
theorem fnd_of {c : Nat} (h : c ∈ SGl) : fndI [48, 49, 50, 51, 52, 53, 54, 55, 56, 57, 97, 98, 99, 100, 101, 102, 103, 104, 105, 106, 107, 108, 109, 110, 111, 112, 113, 114, 115, 116, 117, 118, 119, 120, 121, 122] c = some (idx c) := by
  obtain ⟨i, hi, rfl⟩ := sg_of h
  rw [idx_sg hi]
  exact sg_fnd i hi
theorem idx_lt {c : Nat} (h : c ∈ SGl) : idx c < 36 := by
  obtain ⟨i, hi, rfl⟩ := sg_of h
  rwa [idx_sg hi]
theorem sg_at {i : Nat} (h : i < 36) : atI [48, 49, 50, 51, 52, 53, 54, 55, 56, 57, 97, 98, 99, 100, 101, 102, 103, 104, 105, 106, 107, 108, 109, 110, 111, 112, 113, 114, 115, 116, 117, 118, 119, 120, 121, 122] (i : Int) = some (sg i) := by
  show atI SGl (i : Int) = _
  rw [atI_nat (by omega) (by rw [SGl_len]; omega), Int.toNat_natCast]
  have : i < SGl.length := h
  simp [sg, List.getD, this]
/-- unlike signs of tones -/
def goodT (t : List Nat) : Prop := (∀ c ∈ t, c ∈ SGl) ∧ t.Nodup
theorem good_cases : ∀ t acc : List Nat, goodT acc → goodT (acc ++ t) ∨ ∃ pre c post, acc ++ t = pre ++ c :: post ∧ goodT pre ∧ (c ∉ SGl ∨ c ∈ pre)
  | [], acc, h => .inl (by simpa using h)
  | c :: t, acc, h => by
    by_cases hc : c ∈ SGl ∧ c ∉ acc
    · have := good_cases t (acc ++ [c]) ⟨fun d hd => by
        rcases List.mem_append.mp hd with hd | hd
        · exact h.1 d hd
        · rw [List.mem_singleton.mp hd]; exact hc.1, by
        rw [List.nodup_append]
        refine ⟨h.2, by simp, fun a ha b hb => ?_⟩
        rw [List.mem_singleton.mp hb]
        rintro rfl
        exact hc.2 ha⟩
      simpa using this
    · refine .inr ⟨acc, c, t, rfl, h, ?_⟩
      by_cases h1 : c ∈ SGl
      · exact .inr (Classical.byContradiction fun h2 => hc ⟨h1, h2⟩)
      · exact .inl h1
theorem nin_sg {c : Nat} {T : Store} (h : c ∈ SGl) : cmpop .notin (.str [c]) (.str [48, 49, 50, 51, 52, 53, 54, 55, 56, 57, 97, 98, 99, 100, 101, 102, 103, 104, 105, 106, 107, 108, 109, 110, 111, 112, 113, 114, 115, 116, 117, 118, 119, 120, 121, 122]) T = some false := by
  rw [isStrNin]
  show some (!decide (c ∈ SGl)) = _
  rw [decide_eq_true h]; rfl
theorem nin_sg' {c : Nat} {T : Store} (h : c ∉ SGl) : cmpop .notin (.str [c]) (.str [48, 49, 50, 51, 52, 53, 54, 55, 56, 57, 97, 98, 99, 100, 101, 102, 103, 104, 105, 106, 107, 108, 109, 110, 111, 112, 113, 114, 115, 116, 117, 118, 119, 120, 121, 122]) T = some true := by
  rw [isStrNin]
  show some (!decide (c ∈ SGl)) = _
  rw [decide_eq_false h]; rfl
def rowT (t : List Nat) : List Nat := t.map idx
theorem good_at {t : List Nat} (h : goodT t) {i : Nat} (hi : i < t.length) (post : List Nat) : t[i] ∈ SGl ∧ t[i] ∉ (t ++ post).take i := by
  refine ⟨h.1 _ (List.getElem_mem _), fun hm => ?_⟩
  rw [List.take_append_of_le_length (by omega)] at hm
  obtain ⟨j, hj, e⟩ := List.mem_iff_getElem.mp hm
  rw [List.getElem_take] at e
  have hj2 : j < i := by rw [List.length_take] at hj; omega
  have := (List.nodup_iff_pairwise_ne.mp h.2)
  rw [List.pairwise_iff_getElem] at this
  exact this j i (by omega) hi hj2 e
section
variable {g : Gt} {tab : Nat → Option Fd} (H : TabP tab)
include H
theorem tones_text_i (n : Nat) (S : Store) (r : List Nat) (h : r.Perm (List.range r.length)) (hl : r.length ≤ 36) : callN g tab (n + 3) 39 [.lst (natD r)] S = .ret (.str (r.map sg)) S := by
  have lm : lim = 16777216 := rfl
  have hlt : ∀ b ∈ r, b < 36 := fun b hb => by have := List.mem_range.mp (h.mem_iff.mp hb); omega
  have q2 : evE g (callN g tab (n + 2)) Q2_tones_text [some (.lst (natD r)), none] S = .ok (.lst (List.replicate (natD r).length (.bl true))) S := by
    refine comp_one (.bl true) (S1 := S) (by simp) (by simp; omega) (fun x hx => ?_)
    obtain ⟨b, hb, rfl⟩ := List.mem_map.mp hx
    exact ⟨_, bd_n, by simp [is_count_i H]⟩
  have q1 : evE g (callN g tab (n + 2)) Q1_tones_text [some (.lst (natD r)), none] S = .ok (.lst (chD (r.map sg))) S := by
    have := comp_map (g := g) (C := callN g tab (n + 2)) (m := false) (elt := .ix (.c (.str [48, 49, 50, 51, 52, 53, 54, 55, 56, 57, 97, 98, 99, 100, 101, 102, 103, 104, 105, 106, 107, 108, 109, 110, 111, 112, 113, 114, 115, 116, 117, 118, 119, 120, 121, 122])) (.v 1)) (tg := .n 1) (it := .seq (.v 0)) (own := [1]) (e := [some (.lst (natD r)), none]) (S := S) (S1 := S) (xs := r) (fun b => .int b) (fun b => .str [sg b]) (by simp) (by omega) (fun x hx => by
      refine ⟨_, bd_n, ?_⟩
      simp [sg_at (hlt x hx)])
    rw [Q1_tones_text, this, al_f]
    simp
  refine call_p (H 39 _ rfl) rfl rfl rfl ?_
  have e1 : srt r = List.range r.length := srt_range h
  have e2 : ¬ (36 : Int) < (r.length : Int) := by omega
  have e3 := fun T => kLrg1 (m := false) (n := r.length) (S := T) (by omega)
  have e4 := fun T => k_nenat (S := T) (List.range r.length) (List.range r.length)
  have e5 := join_ch (r.map sg) S (by simp; omega)
  generalize r.map sg = t at q1 e5 ⊢
  simp [d_tones_text, c_tones_text, q1, q2, all_rep, i_sort, e1, eE_lrg, e2, e3, e4, e5]
omit H in
theorem rowT_len (t : List Nat) : (rowT t).length = t.length := by simp [rowT]
omit H in
theorem Q_tones (C : Call) (a b c : Option D) (S : Store) (m : Bool) (t : List Nat) (h : goodT t) (hl : t.length ≤ lim) : evE g C (.comp m (.mt .sindex (.c (.str [48, 49, 50, 51, 52, 53, 54, 55, 56, 57, 97, 98, 99, 100, 101, 102, 103, 104, 105, 106, 107, 108, 109, 110, 111, 112, 113, 114, 115, 116, 117, 118, 119, 120, 121, 122])) (.cons (.v 3) .nil)) (.n 3) (.str (.v 0)) .no [3]) [some (.str t), a, b, c] S = alloc m (natD (rowT t)) S := by
  have := comp_map (g := g) (C := C) (m := m) (elt := .mt .sindex (.c (.str [48, 49, 50, 51, 52, 53, 54, 55, 56, 57, 97, 98, 99, 100, 101, 102, 103, 104, 105, 106, 107, 108, 109, 110, 111, 112, 113, 114, 115, 116, 117, 118, 119, 120, 121, 122])) (.cons (.v 3) .nil)) (tg := .n 3) (it := .str (.v 0)) (own := [3]) (e := [some (.str t), a, b, c]) (S := S) (S1 := S) (xs := t) (fun c => .str [c]) (fun c => .int (idx c : Nat)) (by simp) hl (fun x hx => by
    refine ⟨_, bd_n, ?_⟩
    simp [i_six (fnd_of (h.1 x hx))])
  rw [this]
  simp [rowT, Function.comp_def]
theorem tones_loop (n : Nat) (S : Store) (t : List Nat) (h : goodT t) (hl : t.length ≤ 1000000) (body : Sms) (hbody : body = B2_read_tones) : ∃ e' S', evS g (callN g tab (n + 1)) (.for_ (.ns [2, 3]) (.enS (.v 0)) body) [some (.str t), none, none, none] S = .nx e' S' ∧ ∃ a b, e' = [some (.str t), none, a, b] ∧ S' = S := by
  subst hbody
  have lm : lim = 16777216 := rfl
  refine for_sp (fun i e T => ∃ a b, e = [some (.str t), none, a, b] ∧ T = S) (xs := enumD 0 (chD t)) (S1 := S) (by simp) ⟨none, none, rfl, rfl⟩ ?_
  rintro i hi e T ⟨a, b, rfl, rfl⟩
  rw [enum_ch]
  have hi2 : i < t.length := by rw [enD_len] at hi; simpa using hi
  obtain ⟨g1, g2⟩ := good_at h hi2 []
  rw [List.append_nil] at g2
  refine ⟨_, _, _, bd_ns, ?_, some (.int (0 + i : Nat)), some (.str [t[i]]), rfl, rfl⟩
  generalize t[i] = c at g1 g2
  have h1 : cmpop .notin (.str [c]) (.str [48, 49, 50, 51, 52, 53, 54, 55, 56, 57, 97, 98, 99, 100, 101, 102, 103, 104, 105, 106, 107, 108, 109, 110, 111, 112, 113, 114, 115, 116, 117, 118, 119, 120, 121, 122]) T = some false := nin_sg g1
  have h2 : cmpop .in_ (.str [c]) (.str (t.take i)) T = some false := by rw [isStrIn]; simpa using g2
  simp [B2_read_tones, h1, cut_take, h2, show t.length ≤ lim by omega]
theorem tones_loop_bad (n : Nat) (S : Store) (pre : List Nat) (c : Nat) (post : List Nat) (h : goodT pre) (hc : c ∉ SGl ∨ c ∈ pre) (hl : (pre ++ c :: post).length ≤ 1000000) (body : Sms) (hbody : body = B2_read_tones) : ∃ e' S', evS g (callN g tab (n + 1)) (.for_ (.ns [2, 3]) (.enS (.v 0)) body) [some (.str (pre ++ c :: post)), none, none, none] S = .exc 4 (.int pre.length) e' S' ∧ S' = S := by
  subst hbody
  have lm : lim = 16777216 := rfl
  refine for_exc (Q := fun _ T => T = S) (fun i e T => ∃ a b, e = [some (.str (pre ++ c :: post)), none, a, b] ∧ T = S) (pre := enumD 0 (chD pre)) (x := .tup [.int pre.length, .str [c]]) (post := enumD (pre.length + 1) (chD post)) (S1 := S) (by simp [enumD_app, enumD]) ⟨none, none, rfl, rfl⟩ ?_ ?_
  · rintro i hi e T ⟨a, b, rfl, rfl⟩
    rw [enum_ch]
    have hi2 : i < pre.length := by rw [enD_len] at hi; simpa using hi
    obtain ⟨g1, g2⟩ := good_at h hi2 (c :: post)
    refine ⟨_, _, _, bd_ns, ?_, some (.int (0 + i : Nat)), some (.str [pre[i]]), rfl, rfl⟩
    generalize pre[i] = c' at g1 g2
    generalize pre ++ c :: post = t at *
    have h1 : cmpop .notin (.str [c']) (.str [48, 49, 50, 51, 52, 53, 54, 55, 56, 57, 97, 98, 99, 100, 101, 102, 103, 104, 105, 106, 107, 108, 109, 110, 111, 112, 113, 114, 115, 116, 117, 118, 119, 120, 121, 122]) T = some false := nin_sg g1
    have h2 : cmpop .in_ (.str [c']) (.str (t.take i)) T = some false := by rw [isStrIn]; simpa using g2
    simp [B2_read_tones, h1, cut_take, h2, show t.length ≤ lim by omega]
  · rintro e T ⟨a, b, rfl, rfl⟩
    refine ⟨_, [some (.str (pre ++ c :: post)), none, some (.int pre.length), some (.str [c])], _, bd_ns, ?_, rfl⟩
    have htk : (pre ++ c :: post).take pre.length = pre := List.take_left
    generalize pre ++ c :: post = t at *
    by_cases hm : c ∈ SGl
    · have h1 : cmpop .notin (.str [c]) (.str [48, 49, 50, 51, 52, 53, 54, 55, 56, 57, 97, 98, 99, 100, 101, 102, 103, 104, 105, 106, 107, 108, 109, 110, 111, 112, 113, 114, 115, 116, 117, 118, 119, 120, 121, 122]) T = some false := nin_sg hm
      have hp : c ∈ pre := by
        rcases hc with h | h
        · exact absurd hm h
        · exact h
      have h2 : cmpop .in_ (.str [c]) (.str (t.take pre.length)) T = some true := by rw [isStrIn, htk]; simpa using hp
      simp [B2_read_tones, h1, cut_take, h2, show t.length ≤ lim by omega]
    · have h1 : cmpop .notin (.str [c]) (.str [48, 49, 50, 51, 52, 53, 54, 55, 56, 57, 97, 98, 99, 100, 101, 102, 103, 104, 105, 106, 107, 108, 109, 110, 111, 112, 113, 114, 115, 116, 117, 118, 119, 120, 121, 122]) T = some true := nin_sg' hm
      simp [B2_read_tones, h1]
theorem read_tones_bad (n : Nat) (S : Store) (pre : List Nat) (c : Nat) (post : List Nat) (h : goodT pre) (hc : c ∉ SGl ∨ c ∈ pre) (hP : ∀ d ∈ pre ++ c :: post, 32 ≤ d ∧ d ≤ 126) (hl : (pre ++ c :: post).length ≤ 1000000) : callN g tab (n + 2) 40 [.str (pre ++ c :: post)] S = .exc 4 (.int pre.length) S := by
  refine call_px (H 40 _ rfl) rfl rfl rfl ?_
  have hct := check_text_i (g := g) H n S _ hP (Nat.le_trans hl (by decide))
  obtain ⟨e', S', hf, rfl⟩ := tones_loop_bad (g := g) H n S pre c post h hc hl _ rfl
  refine ⟨e', ?_⟩
  simp only [List.map, List.replicate]
  simp [d_read_tones, c_read_tones, hct, L3_read_tones, hf]
theorem read_tones_good (n : Nat) (S : Store) (t : List Nat) (h : goodT t) (hr : srt (rowT t) = List.range t.length) (hl : t.length ≤ 1000000) : callN g tab (n + 2) 40 [.str t] S = .ret (.lst (natD (rowT t))) S := by
  have hct := check_text_i (g := g) H n S t (fun c hc => by obtain ⟨i, hi, rfl⟩ := sg_of (h.1 c hc); exact sg_prt i hi) (Nat.le_trans hl (by decide))
  obtain ⟨e', S', hf, a, b, rfl, rfl⟩ := tones_loop (g := g) H n S t h hl _ rfl
  have q := fun a b c => Q_tones (g := g) (callN g tab (n + 1)) a b c S' false t h (Nat.le_trans hl (by decide))
  refine call_p (H 40 _ rfl) rfl rfl (by simp only [below, belowL_nat]) ?_
  have e3 := fun T => kLrg1 (m := false) (n := t.length) (S := T) hl
  have e4 := fun T => k_nenat (S := T) (List.range t.length) (List.range t.length)
  simp [d_read_tones, c_read_tones, hct, L3_read_tones, hf, Q1_read_tones, q, i_sort, hr, eE_lrg, rowT_len, e3, e4]
theorem read_tones_un (n : Nat) (S : Store) (t : List Nat) (h : goodT t) (hr : srt (rowT t) ≠ List.range t.length) (hl : t.length ≤ 1000000) : callN g tab (n + 2) 40 [.str t] S = .exc 4 (.int t.length) S := by
  have hct := check_text_i (g := g) H n S t (fun c hc => by obtain ⟨i, hi, rfl⟩ := sg_of (h.1 c hc); exact sg_prt i hi) (Nat.le_trans hl (by decide))
  obtain ⟨e', S', hf, a, b, rfl, rfl⟩ := tones_loop (g := g) H n S t h hl _ rfl
  have q := fun a b c => Q_tones (g := g) (callN g tab (n + 1)) a b c S' false t h (Nat.le_trans hl (by decide))
  refine call_px (H 40 _ rfl) rfl rfl rfl ⟨[some (.str t), some (.lst (natD (rowT t))), a, b], ?_⟩
  have e3 := fun T => kLrg1 (m := false) (n := t.length) (S := T) hl
  have e4 := fun T => k_nenat (S := T) (srt (rowT t)) (List.range t.length)
  simp [d_read_tones, c_read_tones, hct, L3_read_tones, hf, Q1_read_tones, q, i_sort, hr, eE_lrg, rowT_len, e3, e4, show t.length ≤ lim from Nat.le_trans hl (by decide)]
end
end Mp
end
section
namespace Mp85
open Mp
def c__law_signs : Sms := (.cons (.ret (.c (.str [48, 49, 50, 51, 52, 53, 54, 55, 56, 57, 97, 98, 99, 100, 101, 102, 103, 104, 105, 106, 107, 108, 109, 110, 111, 112, 113, 114, 115, 116, 117, 118, 119, 120, 121, 122]))) .nil)
def d__law_signs : Fd := { np := 0, nn := 0, body := c__law_signs, tm := .pure }
def Q1__law_due : Cd := (.comp false (.mt .find (.call 41 .nil []) (.cons (.v 4) .nil)) (.n 4) (.str (.v 0)) .no [4])
def B2__law_due : Sms := (.cons (.ife (.or_ (.cmp .notin (.v 4) (.call 41 .nil [])) (.cmp .in_ (.v 4) (.v 1))) (.cons (.ret (.lst false (.cons (.c (.str [117, 110, 114, 101, 97, 100])) (.cons (.v 3) .nil)))) .nil) .nil) (.cons (.asg (.n 1) (.bin false .add (.v 1) (.v 4))) .nil))
def L3__law_due : Sm := (.for_ (.ns [3, 4]) (.enS (.v 0)) B2__law_due)
def c__law_due : Sms := (.cons (.asg (.n 1) (.c (.str []))) (.cons L3__law_due (.cons (.asg (.n 2) Q1__law_due) (.cons (.ret (.ite (.cmp .eq (.bi false .sorted (.cons (.v 2) .nil)) (.lrg false (.cons (.bi false .len (.cons (.v 2) .nil)) .nil))) (.lst false (.cons (.c (.str [116, 111, 108, 100])) (.cons (.v 2) .nil))) (.lst false (.cons (.c (.str [117, 110, 114, 101, 97, 100])) (.cons (.bi false .len (.cons (.v 0) .nil)) .nil))))) .nil))))
def d__law_due : Fd := { np := 1, nn := 5, body := c__law_due, tm := .pure }
def c__law_heard : Sms := (.cons (.asg (.n 2) (.c .non)) (.cons (.try_ (.cons (.ret (.lst false (.cons (.c (.str [116, 111, 108, 100])) (.cons (.ite (.cmp .eq (.v 0) (.c (.int 0))) (.call 39 (.cons (.v 1) .nil) []) (.call 40 (.cons (.v 1) .nil) [])) .nil)))) .nil) 0 3 (.cons (.asg (.n 2) (.v 3)) .nil)) (.cons (.asg (.n 4) (.lst false (.cons (.bi false .isinst (.cons (.v 2) (.cons (.c (.cls 8)) .nil))) (.cons (.bi false .isinst (.cons (.v 2) (.cons (.c (.cls 7)) .nil))) (.cons (.bi false .isinst (.cons (.v 2) (.cons (.c (.cls 3)) .nil))) (.cons (.bi false .isinst (.cons (.v 2) (.cons (.c (.cls 4)) .nil))) .nil)))))) (.cons (.ret (.ite (.cmp .eq (.mt .count (.v 4) (.cons (.c (.bl true)) .nil)) (.c (.int 1))) (.lst false (.cons (.ix (.lst false (.cons (.c (.str [114, 111, 119])) (.cons (.c (.str [109, 97, 110, 121])) (.cons (.c (.str [116, 101, 120, 116])) (.cons (.c (.str [117, 110, 114, 101, 97, 100])) .nil))))) (.mt .index (.v 4) (.cons (.c (.bl true)) .nil))) (.cons (.fld (.v 2) 0) .nil))) (.lst false (.cons (.c (.str [111, 116, 104, 101, 114])) (.cons (.c .non) .nil))))) .nil))))
def d__law_heard : Fd := { np := 2, nn := 5, body := c__law_heard, tm := .pure }
def B1__law_right : Sms := (.cons (.asg (.n 6) (.call 18 (.cons (.v 0) (.cons (.v 5) (.cons (.lst false (.cons (.c (.str [48])) (.cons (.c (.str [49])) (.cons (.c (.str [57])) (.cons (.c (.str [97])) (.cons (.c (.str [98])) (.cons (.c (.str [122])) (.cons (.c (.str [32])) (.cons (.c (.str [65])) (.cons (.c (.str [126])) (.cons (.c (.str [48, 49])) .nil))))))))))) .nil))) [])) (.cons (.asg (.n 6) (.ite (.cmp .gt (.v 3) (.c (.int 7))) (.call 18 (.cons (.v 0) (.cons (.v 6) (.cons (.lst false (.cons (.c (.str [48])) (.cons (.c (.str [50])) (.cons (.c (.str [99])) .nil)))) .nil))) []) (.v 6))) (.cons (.ife (.not_ (.call 15 (.cons (.call 19 (.cons (.v 6) .nil) []) (.cons (.call 20 (.cons (.c (.int 1)) (.cons (.v 6) .nil)) []) .nil)) [])) (.cons (.ret (.c (.bl false))) .nil) .nil) .nil)))
def L2__law_right : Sm := (.for_ (.n 3) (.rng1 (.c (.int 10))) B1__law_right)
def Q3__law_right : Cd := (.comp false (.ix (.call 41 .nil []) (.v 7)) (.n 7) (.seq (.v 1)) .no [7])
def c__law_right : Sms := (.cons (.asg (.n 1) (.call 35 (.cons (.v 0) (.cons (.lrg false (.cons (.call 12 (.cons (.v 0) (.cons (.call 14 (.cons (.v 0) (.cons (.lst false (.cons (.c (.int 5)) (.cons (.c (.int 13)) (.cons (.c (.int 37)) .nil)))) .nil)) []) .nil)) []) .nil)) .nil)) [])) (.cons (.par [4, 5] (.cons (.bi false .list (.cons (.v 1) .nil)) (.cons (.mt .join (.c (.str [])) (.cons Q3__law_right .nil)) .nil))) (.cons (.asg (.n 2) (.lst false (.cons (.call 87 (.cons (.v 5) .nil) []) (.cons (.callk 40 .nil (.cons (.v 5) .nil) [0] []) .nil)))) (.cons (.ife (.or_ (.not_ (.call 15 (.cons (.lst false (.cons (.v 5) (.cons (.v 5) .nil))) (.cons (.lst false (.cons (.call 39 (.cons (.v 1) .nil) []) (.cons (.callk 39 .nil (.cons (.v 1) .nil) [0] []) .nil))) .nil)) [])) (.not_ (.call 15 (.cons (.lst false (.cons (.v 1) (.cons (.v 1) .nil))) (.cons (.v 2) .nil)) []))) (.cons (.ret (.c (.bl false))) .nil) .nil) (.cons L2__law_right (.cons (.ex (.mt .append (.ix (.v 2) (.c (.int 0))) (.cons (.c (.str [109, 111, 114, 101])) .nil))) (.cons (.ret (.and_ (.cmp .eq (.v 1) (.v 4)) (.call 15 (.cons (.v 1) (.cons (.call 87 (.cons (.v 5) .nil) []) .nil)) []))) .nil)))))))
def d__law_right : Fd := { np := 1, nn := 8, body := c__law_right, tm := .cell0 }
def Q1_law : Cd := (.comp false (.call 20 (.cons (.c (.int 0)) (.cons (.v 9) .nil)) []) (.n 9) (.seq (.v 5)) .no [9])
def B2_law : Sms := (.cons (.ife (.not_ (.call 15 (.cons (.lst false (.cons (.c (.str [116, 101, 120, 116])) (.cons (.v 4) .nil))) (.cons (.call 20 (.cons (.c (.int 1)) (.cons (.v 4) .nil)) []) .nil)) [])) (.cons (.ret (.c (.bl false))) .nil) .nil) .nil)
def L3_law : Sm := (.for_ (.n 4) (.seq (.lst false (.cons (.c .non) (.cons (.c (.int 5)) (.cons (.lst false .nil) (.cons (.tup .nil) (.cons (.dct false .nil .nil) (.cons (.c (.bl true)) (.cons (.c (.str [48, 10])) (.cons (.c (.str [48, 9])) (.cons (.lst true (.cons (.c (.str [48])) .nil)) (.cons (.c (.str [63, 10])) .nil)))))))))))) B2_law)
def B4_law : Sms := (.cons (.asg (.n 7) (.bi false .repr (.cons (.v 4) .nil))) (.cons (.asg (.n 8) (.call 20 (.cons (.c (.int 0)) (.cons (.v 4) .nil)) [])) (.cons (.ife (.cmp .ne (.bi false .repr (.cons (.v 4) .nil)) (.v 7)) (.cons (.ret (.c (.bl false))) .nil) .nil) (.cons (.ife (.bi false .isinst (.cons (.v 4) (.cons (.c (.bty .list)) .nil))) (.cons (.ex (.mt .append (.v 4) (.cons (.c (.str [109, 111, 114, 101])) .nil))) .nil) .nil) (.cons (.ife (.not_ (.call 15 (.cons (.lst false (.cons (.c (.str [114, 111, 119])) (.cons (.v 4) .nil))) (.cons (.v 8) .nil)) [])) (.cons (.ret (.c (.bl false))) .nil) .nil) .nil)))))
def L5_law : Sm := (.for_ (.n 4) (.seq (.bin false .add (.v 3) (.lst false (.cons (.bin true .mul (.lst false (.cons (.c (.int 0)) .nil)) (.c (.int 40))) (.cons (.lst true (.cons (.c (.int 0)) (.cons (.c (.int 0)) (.cons (.c (.int 3)) (.cons (.c (.int 3)) .nil))))) (.cons (.lst true (.cons (.c (.int 1)) (.cons (.c (.int 1)) (.cons (.c (.int 1)) .nil)))) (.cons (.lst true (.cons (.c (.int 1)) (.cons (.c (.int 1)) (.cons (.c (.int 2)) (.cons (.c (.int 2)) .nil))))) (.cons (.lst true (.cons (.c (.int 0)) (.cons (.c (.int 2)) (.cons (.c (.int 2)) (.cons (.c (.int 2)) .nil))))) (.cons (.lst true (.cons (.c (.int 2)) (.cons (.c (.int 2)) (.cons (.c (.int 2)) (.cons (.c (.int 2)) (.cons (.c (.int 2)) .nil)))))) (.cons (.lrg true (.cons (.c (.int 1)) (.cons (.c (.int 38)) .nil))) (.cons (.bin true .add (.lrg false (.cons (.c (.int 36)) .nil)) (.lst false (.cons (.c .non) .nil))) (.cons (.bin true .add (.lrg false (.cons (.c (.int 36)) .nil)) (.lst false (.cons (.c (.bl true)) .nil))) .nil)))))))))))) B4_law)
def B6_law : Sms := (.cons (.ife (.not_ (.call 15 (.cons (.call 19 (.cons (.v 2) .nil) []) (.cons (.call 20 (.cons (.c (.int 1)) (.cons (.v 2) .nil)) []) .nil)) [])) (.cons (.ret (.c (.bl false))) .nil) .nil) .nil)
def L7_law : Sm := (.for_ (.n 2) (.seq (.lst false (.cons (.c (.str [])) (.cons (.c (.str [48])) (.cons (.c (.str [49])) (.cons (.c (.str [48, 49])) (.cons (.c (.str [49, 48])) (.cons (.c (.str [48, 48])) (.cons (.c (.str [48, 50])) (.cons (.c (.str [48, 32, 49])) (.cons (.c (.str [48, 97])) (.cons (.c (.str [65])) (.cons (.c (.str [126])) (.cons (.c (.str [49, 50, 48])) (.cons (.c (.str [122])) (.cons (.c (.str [48, 49, 50, 51, 52, 53, 54, 55, 56, 57, 97])) (.cons (.c (.str [48, 49, 50, 51, 52, 53, 54, 55, 56, 57, 98])) (.cons (.c (.str [98, 48, 49, 50, 51, 52, 53, 54, 55, 56, 97, 57])) (.cons (.c (.str [48, 49, 50, 51, 52, 53, 54, 55, 56, 57, 84])) .nil))))))))))))))))))) B6_law)
def B8_law : Sms := (.cons (.ife (.not_ (.call 21 (.cons (.v 1) .nil) [])) (.cons (.ret (.c (.bl false))) .nil) .nil) .nil)
def L9_law : Sm := (.for_ (.n 6) (.rng1 (.c (.int 3))) B8_law)
def B10_law : Sms := (.cons L9_law .nil)
def L11_law : Sm := (.for_ (.n 1) (.seq (.call 13 (.cons (.v 0) (.cons (.c (.int 3)) .nil)) [])) B10_law)
def c_law : Sms := (.cons L11_law (.cons L7_law (.cons (.asg (.n 3) (.lst false (.cons (.c .non) (.cons (.tup .nil) (.cons (.dct false .nil .nil) (.cons (.c (.str [48, 49])) (.cons (.lst true (.cons (.c (.int 1)) .nil)) (.cons (.lst true (.cons (.c (.int 0)) (.cons (.c (.int 0)) .nil))) (.cons (.lst true (.cons (.c (.int 0)) (.cons (.c (.int 2)) .nil))) (.cons (.lst true (.cons (.bin false .sub (.c (.int 0)) (.c (.int 1))) (.cons (.c (.int 0)) .nil))) (.cons (.lst true (.cons (.c (.bl true)) (.cons (.c (.int 0)) .nil))) (.cons (.lst true (.cons (.c (.int 0)) (.cons (.c .non) .nil))) (.cons (.lst true (.cons (.c (.str [48])) .nil)) (.cons (.lst true (.cons (.lst false (.cons (.c (.int 0)) .nil)) .nil)) (.cons (.tup (.cons (.c (.int 0)) (.cons (.c (.int 1)) .nil))) (.cons (.c (.int 5)) (.cons (.lst true (.cons (.c (.int 1)) (.cons (.c (.int 2)) (.cons (.c (.int 3)) .nil)))) .nil))))))))))))))))) (.cons L5_law (.cons L3_law (.cons (.asg (.n 5) (.lst false (.cons (.lrg false (.cons (.c (.int 36)) .nil)) (.cons (.lrg false (.cons (.c (.int 37)) .nil)) (.cons (.rev false (.lrg false (.cons (.c (.int 40)) .nil))) .nil))))) (.cons (.ret (.call 15 (.cons (.lst false (.cons (.lst false (.cons (.c (.str [116, 111, 108, 100])) (.cons (.call 41 .nil []) .nil))) (.cons (.lst false (.cons (.c (.str [109, 97, 110, 121])) (.cons (.c (.int 37)) .nil))) (.cons (.lst false (.cons (.c (.str [109, 97, 110, 121])) (.cons (.c (.int 40)) .nil))) (.cons (.lst false (.cons (.c (.str [116, 111, 108, 100])) (.cons (.c (.str [])) .nil))) (.cons (.lst false (.cons (.c (.str [116, 111, 108, 100])) (.cons (.lst false .nil) .nil))) .nil)))))) (.cons (.bin false .add Q1_law (.lst false (.cons (.call 20 (.cons (.c (.int 0)) (.cons (.lst false .nil) .nil)) []) (.cons (.call 20 (.cons (.c (.int 1)) (.cons (.c (.str [])) .nil)) []) .nil)))) .nil)) [])) .nil)))))))
def d_law : Fd := { np := 1, nn := 10, body := c_law, tm := .no }
def Q1_read_tones_m : Cd := (.comp true (.mt .sindex (.c (.str [48, 49, 50, 51, 52, 53, 54, 55, 56, 57, 97, 98, 99, 100, 101, 102, 103, 104, 105, 106, 107, 108, 109, 110, 111, 112, 113, 114, 115, 116, 117, 118, 119, 120, 121, 122])) (.cons (.v 3) .nil)) (.n 3) (.str (.v 0)) .no [3])
def B2_read_tones_m : Sms := (.cons (.ife (.or_ (.cmp .notin (.v 3) (.c (.str [48, 49, 50, 51, 52, 53, 54, 55, 56, 57, 97, 98, 99, 100, 101, 102, 103, 104, 105, 106, 107, 108, 109, 110, 111, 112, 113, 114, 115, 116, 117, 118, 119, 120, 121, 122]))) (.cmp .in_ (.v 3) (.sl false (.v 0) .no (.so (.v 2))))) (.cons (.raise 4 (.v 2)) .nil) .nil) .nil)
def L3_read_tones_m : Sm := (.for_ (.ns [2, 3]) (.enS (.v 0)) B2_read_tones_m)
def c_read_tones_m : Sms := (.cons (.ex (.call 5 (.cons (.v 0) .nil) [])) (.cons L3_read_tones_m (.cons (.asg (.n 1) Q1_read_tones_m) (.cons (.ife (.cmp .ne (.bi false .sorted (.cons (.v 1) .nil)) (.lrg false (.cons (.bi false .len (.cons (.v 1) .nil)) .nil))) (.cons (.raise 4 (.bi false .len (.cons (.v 0) .nil))) .nil) .nil) (.cons (.ret (.v 1)) .nil)))))
def d_read_tones_m : Fd := { np := 1, nn := 4, body := c_read_tones_m, tm := .no }
def tab : Nat → Option Fd
  | 41 => some d__law_signs
  | 19 => some d__law_due
  | 20 => some d__law_heard
  | 21 => some d__law_right
  | 22 => some d_law
  | 87 => some d_read_tones_m
  | n => tabP n
def g : Gt := { sub := fun c n => if (c = 3 ∨ c = 4 ∨ c = 7 ∨ c = 8) ∧ (n = 0 ∨ n = 3 ∨ n = 4 ∨ n = 7 ∨ n = 8) then some (c == n || n == 0) else none }
end Mp85
end
section
namespace Mp85
open Mp
theorem H : TabP tab := by
  intro n d h
  unfold tab
  split <;> first | exact h | (cases h)
def unr (k : Nat) : D := .lst [.str [117, 110, 114, 101, 97, 100], .int k]
def told (d : D) : D := .lst [.str [116, 111, 108, 100], d]
theorem signs_i (n : Nat) (S : Store) : callN g tab (n + 1) 41 [] S = .ret (.str [48, 49, 50, 51, 52, 53, 54, 55, 56, 57, 97, 98, 99, 100, 101, 102, 103, 104, 105, 106, 107, 108, 109, 110, 111, 112, 113, 114, 115, 116, 117, 118, 119, 120, 121, 122]) S := by
  refine call_p (t := d__law_signs) rfl rfl rfl rfl ?_
  simp [d__law_signs, c__law_signs]
theorem Q_due (n : Nat) (a b c d : Option D) (S : Store) (t : List Nat) (h : goodT t) (hl : t.length ≤ lim) : evE g (callN g tab (n + 1)) Q1__law_due [some (.str t), a, b, c, d] S = .ok (.lst (natD (rowT t))) S := by
  have := comp_map (g := g) (C := callN g tab (n + 1)) (m := false) (elt := .mt .find (.call 41 .nil []) (.cons (.v 4) .nil)) (tg := .n 4) (it := .str (.v 0)) (own := [4]) (e := [some (.str t), a, b, c, d]) (S := S) (S1 := S) (xs := t) (fun c => .str [c]) (fun c => .int (idx c : Nat)) (by simp) hl (fun x hx => by
    refine ⟨_, bd_n, ?_⟩
    simp [signs_i, fnd_of (h.1 x hx)])
  rw [Q1__law_due, this, al_f]
  simp [rowT, Function.comp_def]
theorem loop_good (n : Nat) (S : Store) (t : List Nat) (h : goodT t) (hl : t.length ≤ 1000000) : ∃ e' S', evS g (callN g tab (n + 1)) L3__law_due [some (.str t), some (.str []), none, none, none] S = .nx e' S' ∧ ∃ a b c, e' = [some (.str t), some (.str c), none, a, b] ∧ S' = S := by
  have lm : lim = 16777216 := rfl
  obtain ⟨e', S', hf, a, b, rfl, rfl⟩ : ∃ e' S', evS g (callN g tab (n + 1)) L3__law_due [some (.str t), some (.str []), none, none, none] S = .nx e' S' ∧ ∃ a b, e' = [some (.str t), some (.str (t.take (enumD 0 (chD t)).length)), none, a, b] ∧ S' = S := by
    refine for_sp (fun i e T => ∃ a b, e = [some (.str t), some (.str (t.take i)), none, a, b] ∧ T = S) (xs := enumD 0 (chD t)) (S1 := S) (by simp) ⟨none, none, rfl, rfl⟩ ?_
    rintro i hi e T ⟨a, b, rfl, rfl⟩
    rw [enum_ch]
    have hi2 : i < t.length := by rw [enD_len] at hi; simpa using hi
    obtain ⟨g1, g2⟩ := good_at h hi2 []
    rw [List.append_nil] at g2
    have htk : t.take (i + 1) = t.take i ++ [t[i]] := List.take_succ_eq_append_getElem hi2
    refine ⟨_, _, _, bd_ns, ?_, some (.int (0 + i : Nat)), some (.str [t[i]]), rfl, rfl⟩
    have hll : (t.take i).length + 1 ≤ lim := by rw [List.length_take]; omega
    rw [htk]
    generalize t[i] = c at *
    generalize t.take i = tk at *
    have h2 : cmpop .in_ (.str [c]) (.str tk) T = some false := by rw [isStrIn]; simpa using g2
    simp [B2__law_due, signs_i, nin_sg g1, h2, hll]
  exact ⟨_, _, hf, a, b, _, rfl, rfl⟩
theorem due_bad (n : Nat) (S : Store) (pre : List Nat) (c : Nat) (post : List Nat) (h : goodT pre) (hc : c ∉ SGl ∨ c ∈ pre) (hl : (pre ++ c :: post).length ≤ 1000000) : callN g tab (n + 2) 19 [.str (pre ++ c :: post)] S = .ret (unr pre.length) S := by
  have lm : lim = 16777216 := rfl
  refine call_p (t := d__law_due) rfl rfl rfl rfl ?_
  obtain ⟨d, S', hf, rfl, rfl⟩ : ∃ d S', evS g (callN g tab (n + 1)) L3__law_due [some (.str (pre ++ c :: post)), some (.str []), none, none, none] S = .rt d S' ∧ d = unr pre.length ∧ S' = S := by
    refine for_rt (fun i e T => ∃ a b, e = [some (.str (pre ++ c :: post)), some (.str (pre.take i)), none, a, b] ∧ T = S) (pre := enumD 0 (chD pre)) (x := .tup [.int pre.length, .str [c]]) (post := enumD (pre.length + 1) (chD post)) (S1 := S) (Q := fun d T => d = unr pre.length ∧ T = S) (by simp [enumD_app, enumD]) ⟨none, none, rfl, rfl⟩ ?_ ?_
    · rintro i hi e T ⟨a, b, rfl, rfl⟩
      rw [enum_ch]
      have hi2 : i < pre.length := by rw [enD_len] at hi; simpa using hi
      obtain ⟨g1, g2⟩ := good_at h hi2 []
      rw [List.append_nil] at g2
      have htk : pre.take (i + 1) = pre.take i ++ [pre[i]] := List.take_succ_eq_append_getElem hi2
      refine ⟨_, _, _, bd_ns, ?_, some (.int (0 + i : Nat)), some (.str [pre[i]]), rfl, rfl⟩
      have hll : (pre.take i).length + 1 ≤ lim := by rw [List.length_take]; simp at hl; omega
      rw [htk]
      generalize pre[i] = c' at *
      generalize pre.take i = tk at *
      have h2 : cmpop .in_ (.str [c']) (.str tk) T = some false := by rw [isStrIn]; simpa using g2
      simp [B2__law_due, signs_i, nin_sg g1, h2, hll]
    · rintro e T ⟨a, b, rfl, rfl⟩
      refine ⟨_, _, _, bd_ns, ?_, rfl, rfl⟩
      have htk : pre.take (enumD 0 (chD pre)).length = pre := List.take_of_length_le (by rw [enD_len]; simp)
      rw [htk]
      by_cases hm : c ∈ SGl
      · have hp : c ∈ pre := by
          rcases hc with h | h
          · exact absurd hm h
          · exact h
        have h2 : cmpop .in_ (.str [c]) (.str pre) T = some true := by rw [isStrIn]; simpa using hp
        simp [B2__law_due, signs_i, nin_sg hm, h2, unr]
      · simp [B2__law_due, signs_i, nin_sg' hm, unr]
  simp [d__law_due, c__law_due, hf]
theorem due_good (n : Nat) (S : Store) (t : List Nat) (h : goodT t) (hl : t.length ≤ 1000000) : callN g tab (n + 2) 19 [.str t] S = .ret (if srt (rowT t) = List.range t.length then told (.lst (natD (rowT t))) else unr t.length) S := by
  have lm : lim = 16777216 := rfl
  obtain ⟨e', S', hf, a, b, c, rfl, rfl⟩ := loop_good n S t h hl
  have hb : below S'.length (if srt (rowT t) = List.range t.length then told (.lst (natD (rowT t))) else unr t.length) = true := by
    split
    · simp only [told, below, belowL, belowL_nat, Bool.and_true]
    · rfl
  refine call_p (t := d__law_due) rfl rfl rfl hb ?_
  have q := fun a b c d T => Q_due n a b c d T t h (by omega)
  have e3 := fun T => kLrg1 (m := false) (n := t.length) (S := T) hl
  have e4 := fun T => k_eqnat2 (S := T) (srt (rowT t)) (List.range t.length)
  simp [d__law_due, c__law_due, hf, q, i_sort, eE_lrg, rowT_len, e3, e4, show t.length ≤ lim by omega]
  by_cases hr : srt (rowT t) = List.range t.length <;> simp [hr, told, unr]
theorem count4 (S : Store) : mtop .count (.lst [.bl false, .bl false, .bl false, .bl true]) [.bl true] S = .ok (.int 1) S := by rfl
theorem index4 (S : Store) : mtop .index (.lst [.bl false, .bl false, .bl false, .bl true]) [.bl true] S = .ok (.int 3) S := by rfl
theorem fldE {C : Call} {o : Cd} {e : Env} {S S' : Store} {c : Nat} {v : D} (h : evE g C o e S = .ok (.exn c v) S') (hg : (g.sub c c).isSome = true) : evE g C (.fld o 0) e S = .ok v S' := by
  rw [evE, h, Res.bind_ok]
  simp [hg]
theorem heard_exc (n : Nat) (S : Store) (t : List Nat) (k : Nat) (h : callN g tab n 40 [.str t] S = .exc 4 (.int k) S) : callN g tab (n + 1) 20 [.int 1, .str t] S = .ret (unr k) S := by
  refine call_p (t := d__law_heard) rfl rfl rfl rfl ?_
  have g1 : g.sub 4 8 = some false := rfl
  have g2 : g.sub 4 7 = some false := rfl
  have g3 : g.sub 4 3 = some false := rfl
  have g4 : g.sub 4 4 = some true := rfl
  have g0 : g.sub 4 0 = some true := rfl
  have hf : ∀ a b : Option D, ∀ T, evE g (callN g tab n) (.fld (.v 2) 0) [some (.int 1), some (.str t), some (.exn 4 (.int k)), a, b] T = .ok (.int k) T := fun a b T => fldE (c := 4) (by simp) rfl
  simp [d__law_heard, c__law_heard, h, tryK_exc g0, g1, g2, g3, g4, count4, index4, hf, unr, mtOk, asL, atI, ixN]
theorem heard_ret (n : Nat) (S : Store) (t : List Nat) (d : D) (hd : below S.length d = true) (h : callN g tab n 40 [.str t] S = .ret d S) : callN g tab (n + 1) 20 [.int 1, .str t] S = .ret (told d) S := by
  refine call_p (t := d__law_heard) rfl rfl rfl (by simp [told, below, belowL, hd]) ?_
  simp [d__law_heard, c__law_heard, h, told]
/-- what is due is what is heard -/
theorem due_heard (n : Nat) (S : Store) (t : List Nat) (hP : ∀ c ∈ t, 32 ≤ c ∧ c ≤ 126) (hl : t.length ≤ 1000000) : ∃ d, callN g tab (n + 3) 19 [.str t] S = .ret d S ∧ callN g tab (n + 3) 20 [.int 1, .str t] S = .ret d S ∧ SameD S 5 d d := by
  have lm : lim = 16777216 := rfl
  rcases good_cases t [] ⟨by simp, List.nodup_nil⟩ with h | ⟨pre, c, post, e, h, hc⟩
  · rw [List.nil_append] at h
    by_cases hr : srt (rowT t) = List.range t.length
    · refine ⟨told (.lst (natD (rowT t))), by rw [due_good (n + 1) S t h hl, if_pos hr], heard_ret _ S t _ (by simp only [below, belowL_nat]) (read_tones_good H n S t h hr hl), okTr.same ?_⟩
      have := okT_nat 0 (rowT t) (by rw [rowT_len]; omega)
      simp [told, okTr, flat] at this ⊢
      exact this
    · exact ⟨unr t.length, by rw [due_good (n + 1) S t h hl, if_neg hr], heard_exc _ S t _ (read_tones_un H n S t h hr hl), okTr.same (by simp [unr, okTr, flat])⟩
  · rw [List.nil_append] at e
    subst e
    exact ⟨unr pre.length, due_bad (n + 1) S pre c post h hc hl, heard_exc _ S _ _ (read_tones_bad H n S pre c post h hc hP hl), okTr.same (by simp [unr, okTr, flat])⟩
end Mp85
end
section
namespace Mp85
open Mp
theorem read_tones_m_good (n : Nat) (S : Store) (t : List Nat) (h : goodT t) (hr : srt (rowT t) = List.range t.length) (hl : t.length ≤ 1000000) : callN g tab (n + 2) 87 [.str t] S = .ret (.ref S.length) (S ++ [.lst (natD (rowT t))]) := by
  have hct := check_text_i (g := g) H n S t (fun c hc => by obtain ⟨i, hi, rfl⟩ := sg_of (h.1 c hc); exact sg_prt i hi) (Nat.le_trans hl (by decide))
  obtain ⟨e', S', hf, a, b, rfl, rfl⟩ := tones_loop (g := g) H n S t h hl B2_read_tones_m rfl
  have q := fun a b c => Q_tones (g := g) (callN g tab (n + 1)) a b c S' true t h (Nat.le_trans hl (by decide))
  refine call_n (t := d_read_tones_m) rfl rfl rfl ?_
  have e3 := fun T => kLrg1 (m := false) (n := t.length) (S := T) hl
  have e4 := fun T => k_nenat (S := T) (List.range t.length) (List.range t.length)
  have hc : (S' ++ [O.lst (natD (rowT t))])[S'.length]? = some (.lst (natD (rowT t))) := by simp
  simp [d_read_tones_m, c_read_tones_m, hct, L3_read_tones_m, hf, Q1_read_tones_m, q, i_sort_c _ _ _ hc, len_c hc, hr, eE_lrg, rowT_len, e3, e4]
theorem perm_nat {ys : List D} {l : List Nat} (h : ys.Perm (natD l)) : ∃ r : List Nat, ys = natD r ∧ r.Perm l := by
  let f : D → Nat := fun d => match d with | .int i => i.toNat | _ => 0
  refine ⟨ys.map f, ?_, ?_⟩
  · have : ∀ y ∈ ys, D.int ((f y : Nat) : Int) = y := fun y hy => by
      obtain ⟨b, _, rfl⟩ := List.mem_map.mp (h.mem_iff.mp hy)
      simp [f]
    show ys = (ys.map f).map _
    rw [List.map_map]
    conv => lhs; rw [← List.map_id ys]
    exact List.map_congr_left fun y hy => (this y hy).symm
  · have := h.map f
    rw [List.map_map] at this
    have e : (f ∘ fun b : Nat => D.int (b : Int)) = id := by
      funext b
      simp [f]
    rwa [e, List.map_id] at this
theorem right_ok (n : Nat) (S : Store) (p : Nat) (o : O) (k : Int) (hp : p < S.length) (ho : GP k o) (hk : k < 2 ^ 50) :
    ∃ o', callN g tab (n + 12) 21 [.ref p] (S.set p o) = .ret (.bl true) (S.set p o') ∧ GP (k + 100000) o' := by
  have lm : lim = 16777216 := rfl
  obtain ⟨d, o1, hd, hdm, hg1⟩ := one_of_sp (g := g) (H 11 _ rfl) (H 12 _ rfl) (H 14 _ rfl) (n + 8) S p o k [.int 5, .int 13, .int 37] hp ho (by omega) (by simp) (by simp) (by simp [below])
  obtain ⟨w, rfl, hw1, hw2⟩ : ∃ w : Int, d = .int w ∧ 0 < w ∧ w ≤ 37 := by
    simp only [List.mem_cons, List.not_mem_nil, or_false] at hdm
    rcases hdm with rfl | rfl | rfl
    · exact ⟨5, rfl, by omega, by omega⟩
    · exact ⟨13, rfl, by omega, by omega⟩
    · exact ⟨37, rfl, by omega, by omega⟩
  obtain ⟨m, o2, hm, hm0, hm1, hg2⟩ := draw_sp (g := g) (H 11 _ rfl) (H 12 _ rfl) (n + 9) S p o1 _ w hp hg1 (by omega) hw1 (by omega)
  obtain ⟨q, rfl⟩ : ∃ q : Nat, m = q := ⟨m.toNat, by omega⟩
  obtain ⟨ys, o3, hsh, hpm, hg3⟩ := shuf_sp (g := g) (tab := tab) (fm := 11) (fs := 35) (H 11 _ rfl) (H 12 _ rfl) (H 35 _ rfl) (n + 8) S p o2 _ (natD (List.range q)) hp hg2 (by omega) (by simp; omega) (by
    intro x hx
    obtain ⟨b, _, rfl⟩ := List.mem_map.mp hx
    rfl)
  obtain ⟨r, rfl, hr⟩ := perm_nat hpm
  have hq36 : q ≤ 36 := by omega
  have hrl : r.length = q := by rw [hr.length_eq, List.length_range]
  have hlt : ∀ b ∈ r, b < 36 := fun b hb => by have := List.mem_range.mp (hr.mem_iff.mp hb); omega
  have hnd : r.Nodup := (hr.nodup_iff).mpr List.nodup_range
  have hgt : goodT (r.map sg) := ⟨fun c hc => by
    obtain ⟨b, hb, rfl⟩ := List.mem_map.mp hc
    exact sg_mem b (hlt b hb), by
    rw [List.nodup_iff_pairwise_ne, List.pairwise_map]
    refine (List.nodup_iff_pairwise_ne.mp hnd).imp_of_mem fun {a b} ha hb hne he => hne ?_
    have := congrArg idx he
    rwa [idx_sg (hlt a ha), idx_sg (hlt b hb)] at this⟩
  have hrow : rowT (r.map sg) = r := by
    unfold rowT
    rw [List.map_map]
    conv => rhs; rw [← List.map_id r]
    exact List.map_congr_left fun b hb => idx_sg (hlt b hb)
  have hsr : srt (rowT (r.map sg)) = List.range (r.map sg).length := by
    rw [hrow, List.length_map, hrl]
    exact srt_range hr
  have hlen : (r.map sg).length ≤ 36 := by rw [List.length_map]; omega
  have tt := fun T => tones_text_i (g := g) H (n + 8) T r (by rw [hrl]; exact hr) (by omega)
  have rt := fun T => read_tones_good (g := g) H (n + 9) T (r.map sg) hgt hsr (by omega)
  have rm := fun T => read_tones_m_good (n + 9) T (r.map sg) hgt hsr (by omega)
  rw [hrow] at rt rm
  have q3 : ∀ e2 e3 e4 e5 e6 e7 T, evE g (callN g tab (n + 11)) Q3__law_right [some (.ref p), some (.lst (natD r)), e2, e3, e4, e5, e6, e7] T = .ok (.lst (chD (r.map sg))) T := fun e2 e3 e4 e5 e6 e7 T => by
    have := comp_map (g := g) (C := callN g tab (n + 11)) (m := false) (elt := .ix (.call 41 .nil []) (.v 7)) (tg := .n 7) (it := .seq (.v 1)) (own := [7]) (e := [some (.ref p), some (.lst (natD r)), e2, e3, e4, e5, e6, e7]) (S := T) (S1 := T) (xs := r) (fun b => .int b) (fun b => .str [sg b]) (by simp) (by omega) (fun x hx => by
      refine ⟨_, bd_n, ?_⟩
      simp [signs_i, sg_at (hlt x hx)])
    rw [Q3__law_right, this, al_f]
    simp
  have hch : ∀ c ∈ r.map sg, 32 ≤ c ∧ c ≤ 126 := fun c hc => by
    obtain ⟨b, hb, rfl⟩ := List.mem_map.mp hc
    exact sg_prt b (hlt b hb)
  have jn := fun T => join_ch (r.map sg) T (by omega)
  generalize r.map sg = t at *
  let S1 : Store := S ++ [.lst (natD r)]
  have hp1 : p < S1.length := by simp [S1]; omega
  have hcell : ∀ o, (S1.set p o)[S.length]? = some (.lst (natD r)) := fun o => by
    rw [List.getElem?_set_ne (by omega)]
    simp [S1]
  have hrl2 : r.length ≤ lim := by omega
  have ex1 : ∀ T, callN g tab (n + 11) 15 [.lst [.str t, .str t], .lst [.str t, .str t]] T = .ret (.bl true) T := fun T => exact_sp (g := g) (H 15 _ rfl) T (n + 9) 2 _ _ (okTr.same (by simp [okTr, flat]))
  have sm : ∀ (T : Store) (x : D), IsL T x (natD r) → SameD T 2 (.lst (natD r)) x := fun T x hx => by
    refine .isl .lst hx rfl (by simpa using hrl2) fun p hp => ?_
    obtain ⟨e, hm⟩ := zip_self hp
    obtain ⟨b, _, hb⟩ := List.mem_map.mp hm
    rw [← e, ← hb]
    exact .flt rfl
  have ex2 : ∀ o2, callN g tab (n + 11) 15 [.lst [.lst (natD r), .lst (natD r)], .lst [.ref S.length, .lst (natD r)]] (S1.set p o2) = .ret (.bl true) (S1.set p o2) := fun o2 => by
    refine exact_sp (g := g) (H 15 _ rfl) _ (n + 8) 3 _ _ (.lst (by simp) (by simp) ?_)
    simp only [List.zip_cons_cons, List.zip_nil_right, List.mem_cons, List.not_mem_nil, or_false]
    rintro x (rfl | rfl)
    · exact sm _ _ (.inr ⟨_, rfl, hcell _⟩)
    · exact sm _ _ .lst
  obtain ⟨e', S', hf, lt, sp, o4, rfl, rfl, hg4⟩ : ∃ e' S', evS g (callN g tab (n + 11)) L2__law_right [some (.ref p), some (.lst (natD r)), some (.lst [.ref S.length, .lst (natD r)]), none, some (.lst (natD r)), some (.str t), none, none] (S1.set p o3) = .nx e' S' ∧ ∃ lt sp o4, e' = [some (.ref p), some (.lst (natD r)), some (.lst [.ref S.length, .lst (natD r)]), sp, some (.lst (natD r)), some (.str t), lt, none] ∧ S' = S1.set p o4 ∧ GP (k + 8 + 8 + 8 * (natD (List.range q)).length + 100 * (rangeD 0 10).length) o4 := by
    refine for_sp (fun i e T => ∃ lt sp o4, e = [some (.ref p), some (.lst (natD r)), some (.lst [.ref S.length, .lst (natD r)]), sp, some (.lst (natD r)), some (.str t), lt, none] ∧ T = S1.set p o4 ∧ GP (k + 8 + 8 + 8 * (natD (List.range q)).length + 100 * i) o4) (xs := rangeD 0 10) (S1 := S1.set p o3) (by simp [small62]) ⟨none, none, o3, rfl, rfl, by simpa using hg3⟩ ?_
    rintro i hi e T ⟨lt, sp, o4, rfl, rfl, hg4⟩
    have hql : (natD (List.range q)).length ≤ 36 := by simp; omega
    simp [rangeD] at hi
    obtain ⟨t1, o5, h3, hl3, hc3, hg5⟩ := of_signs_sp (g := g) (H 11 _ rfl) (H 12 _ rfl) (H 14 _ rfl) (H 18 _ rfl) (fun c => 32 ≤ c ∧ c ≤ 126) 2 (n + 7) S1 p o4 _ t [[48], [49], [57], [97], [98], [122], [32], [65], [126], [48, 49]] hp1 hg4 (by omega) (by omega) (by omega) (by simp) (by simp) (by decide) hch
    obtain ⟨t2, o6, h4, hl4, hc4, hg6⟩ : ∃ t2 o6, evE g (callN g tab (n + 11)) (.ite (.cmp .gt (.v 3) (.c (.int 7))) (.call 18 (.cons (.v 0) (.cons (.v 6) (.cons (.lst false (.cons (.c (.str [48])) (.cons (.c (.str [50])) (.cons (.c (.str [99])) .nil)))) .nil))) []) (.v 6)) [some (.ref p), some (.lst (natD r)), some (.lst [.ref S.length, .lst (natD r)]), some (.int i), some (.lst (natD r)), some (.str t), some (.str t1), none] (S1.set p o5) = .ok (.str t2) (S1.set p o6) ∧ t2.length ≤ 1000 ∧ (∀ c ∈ t2, 32 ≤ c ∧ c ≤ 126) ∧ GP (k + 8 + 8 + 8 * (natD (List.range q)).length + 100 * (i + 1 : Nat)) o6 := by
      by_cases hi6 : 7 < i
      · obtain ⟨t2, o6, h4, hl4, hc4, hg6⟩ := of_signs_sp (g := g) (H 11 _ rfl) (H 12 _ rfl) (H 14 _ rfl) (H 18 _ rfl) (fun c => 32 ≤ c ∧ c ≤ 126) 2 (n + 7) S1 p o5 _ t1 [[48], [50], [99]] hp1 hg5 (by omega) (by omega) (by omega) (by simp) (by simp) (by decide) hc3
        refine ⟨t2, o6, ?_, by omega, hc4, hg6.mono (by omega)⟩
        have hi7 : (7 : Int) < i := by omega
        simp only [List.map] at h4
        simp [hi7, h4]
      · refine ⟨t1, o5, ?_, by omega, hc3, hg5.mono (by omega)⟩
        have hi7 : ¬ (7 : Int) < i := by omega
        simp [hi7]
    obtain ⟨d, hd1, hd2, hd3⟩ := due_heard (n + 8) (S1.set p o6) t2 hc4 (by omega)
    have hx := exact_sp (g := g) (H 15 _ rfl) (S1.set p o6) (n + 6) 5 d d hd3
    refine ⟨_, _, _, bd_n, ?_, some (.str t2), some (.int i), o6, rfl, rfl, hg6⟩
    simp only [List.map] at h3
    simp [B1__law_right, rangeD, h3, h4, hd1, hd2, hx]
  have hql : (natD (List.range q)).length ≤ 36 := by simp; omega
  refine ⟨o4, ?_, hg4.mono (by simp [rangeD] at hql ⊢; omega)⟩
  let more : D := .str [109, 111, 114, 101]
  let T : Store := S.set p o4 ++ [.lst (natD r ++ [more])]
  refine call_c (t := d__law_right) rfl rfl rfl hp (hg4.below _) rfl ⟨[.lst (natD r ++ [more]), .lst (natD r)], ?_⟩
  have e1 : S.set p o3 ++ [.lst (natD r)] = S1.set p o3 := set_app hp
  have e2 : mtop .append (.ref S.length) [more] (S1.set p o4) = .ok .non T := by
    rw [i_app_c (hcell o4) (by rw [List.length_map]; omega)]
    congr 1
    simp only [S1, T]
    rw [← set_app hp, List.set_append_right _ _ (by simp)]
    simp
  have e3 := i_appk (hcell o4)
  have ex3 : callN g tab (n + 11) 15 [.lst (natD r), .ref T.length] (T ++ [.lst (natD r)]) = .ret (.bl true) (T ++ [.lst (natD r)]) :=
    exact_sp (g := g) (H 15 _ rfl) _ (n + 9) 2 _ _ (sm _ _ (.inr ⟨T.length, rfl, by simp⟩))
  have e4 : T ++ [.lst (natD r)] = S.set p o4 ++ [.lst (natD r ++ [more]), .lst (natD r)] := by simp [T]
  rw [← e4]
  have lr := fun T => kLrg1 (m := false) (n := q) (S := T) (by omega)
  simp [d__law_right, c__law_right, hd, hm, eE_lrg, lr, hsh, q3, jn, rm, e1, permD, rt, tt, ex1, ex2, hf, k_eqnat, more, atI, ixN] at e2 e3 ex3 hsh ⊢
  simp [e2, e3, rm, ex3, k_eqnat, hsh]
end Mp85
end
section
namespace Mp85
open Mp
/-- the law but for its first two loops -/
def restA : Sms := match c_law with
  | .cons _ (.cons _ r) => r
  | _ => .nil
def okRt : SR → Bool
  | .rt (.bl true) _ => true
  | _ => false
section
set_option maxHeartbeats 0
set_option cbv.maxSteps 100000000
theorem tail1 (a0 a1 a2 a3 a4 a5 a6 a7 a8 a9 : Option D) (o1 : O) : okRt (evSs g (callN g tab 39) restA [a0, a1, a2, a3, a4, a5, a6, a7, a8, a9] [o1]) = true := by cbv
theorem tail2 (a0 a1 a2 a3 a4 a5 a6 a7 a8 a9 : Option D) (o1 o2 : O) : okRt (evSs g (callN g tab 39) restA [a0, a1, a2, a3, a4, a5, a6, a7, a8, a9] [o1, o2]) = true := by cbv
theorem tail3 (a0 a1 a2 a3 a4 a5 a6 a7 a8 a9 : Option D) (o1 o2 o3 : O) : okRt (evSs g (callN g tab 39) restA [a0, a1, a2, a3, a4, a5, a6, a7, a8, a9] [o1, o2, o3]) = true := by cbv
end
/-- all purses are good -/
def GA (k : Int) (m : Nat) (T : Store) : Prop := T.length = m ∧ ∀ o ∈ T, GP k o
theorem right_step (n : Nat) (T : Store) (m p : Nat) (k : Int) (h : GA k m T) (hp : p < m) (hk : k < 2 ^ 50) : ∃ T', callN g tab (n + 12) 21 [.ref p] T = .ret (.bl true) T' ∧ GA (k + 100000) m T' := by
  obtain ⟨rfl, hg⟩ := h
  obtain ⟨o', h1, h2⟩ := right_ok n T p T[p] k hp (hg _ (List.getElem_mem _)) hk
  rw [List.set_getElem_self] at h1
  refine ⟨_, h1, by simp, fun o ho => ?_⟩
  rcases List.mem_or_eq_of_mem_set ho with ho | rfl
  · exact (hg o ho).mono (by omega)
  · exact h2
theorem loops (os : Store) (ns : List Int) (hg : ∀ o ∈ os, GP 0 o) (hl : os.length ≤ 3) (hq : callN g tab 39 13 [.slst (ns.map .int), .int 3] [] = .ret (.lst ((List.range os.length).map fun i => .ref (0 + i))) os) :
    ∃ e' T, evS g (callN g tab 39) L11_law [some (.slst (ns.map .int)), none, none, none, none, none, none, none, none, none] [] = .nx e' T ∧ e'.length = 10 ∧ T.length = os.length := by
  obtain ⟨e', T, h1, ⟨x, y, rfl⟩, h2, -⟩ : ∃ e' T, evS g (callN g tab 39) L11_law [some (.slst (ns.map .int)), none, none, none, none, none, none, none, none, none] [] = .nx e' T ∧ (∃ x y, e' = [some (.slst (ns.map .int)), x, none, none, none, none, y, none, none, none]) ∧ GA (300000 * ((List.range os.length).map fun i => D.ref (0 + i)).length) os.length T := by
    refine for_sp (fun i e T => (∃ x y, e = [some (.slst (ns.map .int)), x, none, none, none, none, y, none, none, none]) ∧ GA (300000 * i) os.length T) (S1 := os) (by simp [hq]) ⟨⟨none, none, rfl⟩, rfl, by simpa using hg⟩ ?_
    rintro i hi e T ⟨⟨x, y, rfl⟩, hT⟩
    simp at hi
    obtain ⟨e', T', h1, ⟨y', rfl⟩, h2⟩ : ∃ e' T', evS g (callN g tab 39) L9_law [some (.slst (ns.map .int)), some (.ref i), none, none, none, none, y, none, none, none] T = .nx e' T' ∧ (∃ y', e' = [some (.slst (ns.map .int)), some (.ref i), none, none, none, none, y', none, none, none]) ∧ GA (300000 * i + 100000 * (rangeD 0 3).length) os.length T' := by
      refine for_sp (fun j e T => (∃ y, e = [some (.slst (ns.map .int)), some (.ref i), none, none, none, none, y, none, none, none]) ∧ GA (300000 * i + 100000 * j) os.length T) (S1 := T) (xs := rangeD 0 3) (by simp [small62]) ⟨⟨y, rfl⟩, by simpa using hT⟩ ?_
      rintro j hj e T ⟨⟨y, rfl⟩, hT⟩
      simp [rangeD] at hj
      obtain ⟨T', h1, h2⟩ := right_step 27 T os.length i _ hT hi (by omega)
      refine ⟨_, _, T', bd_n, ?_, ⟨some (.int j), rfl⟩, ?_⟩
      · simp [B8_law, rangeD, h1]
      · rw [show (300000 * i + 100000 * (j + 1 : Nat) : Int) = 300000 * i + 100000 * j + 100000 by omega]
        exact h2
    refine ⟨_, _, T', bd_n, ?_, ⟨some (.ref i), y', rfl⟩, ?_⟩
    · simp [B10_law, h1]
    · rw [show (300000 * (i + 1 : Nat) : Int) = 300000 * i + 100000 * (rangeD 0 3).length by simp [rangeD]; omega]
      exact h2
  exact ⟨_, T, h1, rfl, h2⟩
/-- texts told by hand -/
def handT : List (List Nat) := [[], [48], [49], [48, 49], [49, 48], [48, 48], [48, 50], [48, 32, 49], [48, 97], [65], [126], [49, 50, 48], [122], [48, 49, 50, 51, 52, 53, 54, 55, 56, 57, 97], [48, 49, 50, 51, 52, 53, 54, 55, 56, 57, 98], [98, 48, 49, 50, 51, 52, 53, 54, 55, 56, 97, 57], [48, 49, 50, 51, 52, 53, 54, 55, 56, 57, 84]]
theorem texts (a0 a1 a2 a3 a4 a5 a6 a7 a8 a9 : Option D) (T : Store) : ∃ a2', evS g (callN g tab 39) L7_law [a0, a1, a2, a3, a4, a5, a6, a7, a8, a9] T = .nx [a0, a1, a2', a3, a4, a5, a6, a7, a8, a9] T := by
  have hI : ∀ e, evI g (callN g tab 39) (match L7_law with | .for_ _ it _ => it | _ => .seq (.c .non)) e T = .ok (handT.map .str, []) T := fun e => by cbv
  obtain ⟨e', T', h1, a2', rfl, rfl⟩ : ∃ e' T', evS g (callN g tab 39) L7_law [a0, a1, a2, a3, a4, a5, a6, a7, a8, a9] T = .nx e' T' ∧ ∃ a2', e' = [a0, a1, a2', a3, a4, a5, a6, a7, a8, a9] ∧ T' = T := by
    refine for_sp (fun i e T' => ∃ a2', e = [a0, a1, a2', a3, a4, a5, a6, a7, a8, a9] ∧ T' = T) (S1 := T) (xs := handT.map .str) (hI _) ⟨a2, rfl, rfl⟩ ?_
    rintro i hi e T' ⟨a2', rfl, rfl⟩
    have hi2 : i < handT.length := by simpa using hi
    have hc : ∀ t ∈ handT, (∀ c ∈ t, 32 ≤ c ∧ c ≤ 126) ∧ t.length ≤ 1000000 := by decide +kernel
    have hm := hc _ (List.getElem_mem hi2)
    obtain ⟨d, d1, d2, d3⟩ := due_heard 36 T' handT[i] hm.1 hm.2
    have hx := exact_sp (g := g) (H 15 _ rfl) T' 34 5 d d d3
    rw [List.getElem_map]
    generalize handT[i] = t at *
    exact ⟨_, _, _, bd_n, by simp [B6_law, d1, d2, hx], some (.str t), rfl, rfl⟩
  exact ⟨a2', h1⟩
theorem tails (e : Env) (T : Store) (h : e.length = 10) (h1 : 1 ≤ T.length) (h3 : T.length ≤ 3) : okRt (evSs g (callN g tab 39) restA e T) = true := by
  match e, h with
  | [a0, a1, a2, a3, a4, a5, a6, a7, a8, a9], _ =>
    match T, h1, h3 with
    | [o1], _, _ => exact tail1 ..
    | [o1, o2], _, _ => exact tail2 ..
    | [o1, o2, o3], _, _ => exact tail3 ..
theorem law_ok : ∀ ns : List Int, ns.length ≤ 63 → ∃ S', callN g tab 40 22 [.slst (ns.map .int)] [] = .ret (.bl true) S' := by
  intro ns hn
  obtain ⟨os, hq, hlen, hg⟩ := purses_sp (g := g) (H 10 _ rfl) (H 13 _ rfl) 37 [] ns 3 hn
  obtain ⟨e1, T1, h1, l1, t1⟩ := loops os ns hg (by omega) hq
  obtain ⟨e2, h2, l2⟩ : ∃ e2, evS g (callN g tab 39) L7_law e1 T1 = .nx e2 T1 ∧ e2.length = 10 := by
    match e1, l1 with
    | [a0, a1, a2, a3, a4, a5, a6, a7, a8, a9], _ =>
      obtain ⟨a2', h2⟩ := texts a0 a1 a2 a3 a4 a5 a6 a7 a8 a9 T1
      exact ⟨_, h2, rfl⟩
  have ht := tails e2 T1 l2 (by omega) (by omega)
  cases hA : evSs g (callN g tab 39) restA e2 T1 with
  | rt d S' =>
    rw [hA] at ht
    cases d <;> first | (cases ht; done) | skip
    rename_i b
    cases b <;> first | (cases ht; done) | skip
    refine ⟨S', ?_⟩
    refine call_n (t := d_law) rfl rfl rfl ?_
    show evSs g (callN g tab 39) (.cons L11_law (.cons L7_law restA)) [some (.slst (ns.map .int)), none, none, none, none, none, none, none, none, none] [] = .rt (.bl true) S'
    rw [eSs_cons, h1, seq_nx, eSs_cons, h2, seq_nx, hA]
  | _ => rw [hA] at ht; cases ht
end Mp85
end
section
namespace Mp85
open PySem L2 PyProof.Rows Mp
def top (i : Nat) : Stmt := PySem.Challenge.pw_beatsround_k85_whole_texts_of_tone_rows.main.body.getD i (.Pass ⟨0, 0, 0, 0⟩)
def N_is_whole : List Str := ["value"]
def N_is_count : List Str := ["value", "least"]
def N_check_text : List Str := ["text", "sign"]
def N_tones_text : List Str := ["row", "tone"]
def N_read_tones : List Str := ["text", "row", "at", "sign"]
def N__law_purse : List Str := ["script", "at", "seed"]
def N__law_mixed : List Str := ["seed", "spin", "at", "mixed"]
def N__law_draw : List Str := ["purse", "many", "found", "piece", "drawn"]
def N__law_purses : List Str := ["script", "few", "at"]
def N__law_one_of : List Str := ["purse", "some"]
def N__law_shuffled : List Str := ["purse", "some", "found", "item"]
def N__law_exact : List Str := ["mine", "theirs", "is_like", "is_list", "key", "a", "b"]
def N__law_of_signs : List Str := ["purse", "text", "signs", "spot", "some", "at", "sign", "low", "high"]
def N__law_signs : List Str := []
def N__law_due : List Str := ["text", "seen", "row", "at", "sign"]
def N__law_heard : List Str := ["way", "thing", "caught", "error", "kinds"]
def N__law_right : List Str := ["purse", "row", "told", "spin", "kept", "text", "late", "tone"]
def N_law : List Str := ["script", "purse", "text", "odds", "odd", "wide", "spin", "noted", "told", "row"]
def sh_is_whole : List Shp := [⟨1, [], [0], []⟩]
def fe_is_whole : FnE := ⟨"is_whole", 0, ["value"], sh_is_whole⟩
def sh_is_count : List Shp := [⟨1, [], [0, 1], [(.int 0)]⟩]
def fe_is_count : FnE := ⟨"is_count", 1, ["value", "least"], sh_is_count⟩
def sh_check_text : List Shp := [⟨1, [], [0], []⟩]
def fe_check_text : FnE := ⟨"check_text", 5, ["text"], sh_check_text⟩
def sh_tones_text : List Shp := [⟨1, [], [0], []⟩, ⟨0, ["row"], [0], []⟩]
def fe_tones_text : FnE := ⟨"tones_text", 39, ["row"], sh_tones_text⟩
def sh_read_tones : List Shp := [⟨1, [], [0], []⟩, ⟨0, ["text"], [0], []⟩]
def fe_read_tones : FnE := ⟨"read_tones", 40, ["text"], sh_read_tones⟩
def sh__law_purse : List Shp := [⟨2, [], [0, 1], []⟩]
def fe__law_purse : FnE := ⟨"_law_purse", 10, ["script", "at"], sh__law_purse⟩
def sh__law_mixed : List Shp := [⟨3, [], [0, 1, 2], []⟩]
def fe__law_mixed : FnE := ⟨"_law_mixed", 11, ["seed", "spin", "at"], sh__law_mixed⟩
def sh__law_draw : List Shp := [⟨2, [], [0, 1], []⟩]
def fe__law_draw : FnE := ⟨"_law_draw", 12, ["purse", "many"], sh__law_draw⟩
def sh__law_purses : List Shp := [⟨2, [], [0, 1], []⟩]
def fe__law_purses : FnE := ⟨"_law_purses", 13, ["script", "few"], sh__law_purses⟩
def sh__law_one_of : List Shp := [⟨2, [], [0, 1], []⟩]
def fe__law_one_of : FnE := ⟨"_law_one_of", 14, ["purse", "some"], sh__law_one_of⟩
def sh__law_shuffled : List Shp := [⟨2, [], [0, 1], []⟩]
def fe__law_shuffled : FnE := ⟨"_law_shuffled", 35, ["purse", "some"], sh__law_shuffled⟩
def sh__law_exact : List Shp := [⟨2, [], [0, 1], []⟩]
def fe__law_exact : FnE := ⟨"_law_exact", 15, ["mine", "theirs"], sh__law_exact⟩
def sh__law_of_signs : List Shp := [⟨3, [], [0, 1, 2], []⟩]
def fe__law_of_signs : FnE := ⟨"_law_of_signs", 18, ["purse", "text", "signs"], sh__law_of_signs⟩
def sh__law_signs : List Shp := [⟨0, [], [], []⟩]
def fe__law_signs : FnE := ⟨"_law_signs", 41, [], sh__law_signs⟩
def sh__law_due : List Shp := [⟨1, [], [0], []⟩]
def fe__law_due : FnE := ⟨"_law_due", 19, ["text"], sh__law_due⟩
def sh__law_heard : List Shp := [⟨2, [], [0, 1], []⟩]
def fe__law_heard : FnE := ⟨"_law_heard", 20, ["way", "thing"], sh__law_heard⟩
def sh__law_right : List Shp := [⟨1, [], [0], []⟩]
def fe__law_right : FnE := ⟨"_law_right", 21, ["purse"], sh__law_right⟩
def sh_law : List Shp := [⟨1, [], [0], []⟩]
def fe_law : FnE := ⟨"law", 22, ["script"], sh_law⟩
def fe_read_tones_m : FnE := ⟨"read_tones", 87, ["text"], sh_read_tones⟩
def GS : Gs := { fns := [fe_is_whole, fe_is_count, fe_check_text, fe_tones_text, fe_read_tones, fe__law_purse, fe__law_mixed, fe__law_draw, fe__law_purses, fe__law_one_of, fe__law_shuffled, fe__law_exact, fe__law_of_signs, fe__law_signs, fe__law_due, fe__law_heard, fe__law_right, fe_law, fe_read_tones_m], cls := [("RhythmError", 0), ("InvalidText", 3), ("Unread", 4), ("TooMany", 7), ("InvalidRow", 8)], rs := [("InvalidText", 3), ("Unread", 4), ("TooMany", 7), ("InvalidRow", 8)], cs := [("SIGNS", (.str [48, 49, 50, 51, 52, 53, 54, 55, 56, 57, 97, 98, 99, 100, 101, 102, 103, 104, 105, 106, 107, 108, 109, 110, 111, 112, 113, 114, 115, 116, 117, 118, 119, 120, 121, 122]))] }
theorem ok_is_whole : okSs GS N_is_whole (defScope (top 1)) c_is_whole (defBody (top 1)) = true := by decide +kernel
theorem sc_is_whole : fnScB N_is_whole ["value"] (defScope (top 1)) = true := by decide +kernel
theorem ok_is_count : okSs GS N_is_count (defScope (top 2)) c_is_count (defBody (top 2)) = true := by decide +kernel
theorem sc_is_count : fnScB N_is_count ["value", "least"] (defScope (top 2)) = true := by decide +kernel
theorem ok_check_text : okSs GS N_check_text (defScope (top 12)) c_check_text (defBody (top 12)) = true := by decide +kernel
theorem sc_check_text : fnScB N_check_text ["text"] (defScope (top 12)) = true := by decide +kernel
theorem ok_tones_text : okSs GS N_tones_text (defScope (top 13)) c_tones_text (defBody (top 13)) = true := by decide +kernel
theorem sc_tones_text : fnScB N_tones_text ["row"] (defScope (top 13)) = true := by decide +kernel
theorem ok_read_tones : okSs GS N_read_tones (defScope (top 14)) c_read_tones (defBody (top 14)) = true := by decide +kernel
theorem sc_read_tones : fnScB N_read_tones ["text"] (defScope (top 14)) = true := by decide +kernel
theorem ok__law_purse : okSs GS N__law_purse (defScope (top 16)) c__law_purse (defBody (top 16)) = true := by decide +kernel
theorem sc__law_purse : fnScB N__law_purse ["script", "at"] (defScope (top 16)) = true := by decide +kernel
theorem ok__law_mixed : okSs GS N__law_mixed (defScope (top 17)) c__law_mixed (defBody (top 17)) = true := by decide +kernel
theorem sc__law_mixed : fnScB N__law_mixed ["seed", "spin", "at"] (defScope (top 17)) = true := by decide +kernel
theorem ok__law_draw : okSs GS N__law_draw (defScope (top 18)) c__law_draw (defBody (top 18)) = true := by decide +kernel
theorem sc__law_draw : fnScB N__law_draw ["purse", "many"] (defScope (top 18)) = true := by decide +kernel
theorem ok__law_purses : okSs GS N__law_purses (defScope (top 19)) c__law_purses (defBody (top 19)) = true := by decide +kernel
theorem sc__law_purses : fnScB N__law_purses ["script", "few"] (defScope (top 19)) = true := by decide +kernel
theorem ok__law_one_of : okSs GS N__law_one_of (defScope (top 20)) c__law_one_of (defBody (top 20)) = true := by decide +kernel
theorem sc__law_one_of : fnScB N__law_one_of ["purse", "some"] (defScope (top 20)) = true := by decide +kernel
theorem ok__law_shuffled : okSs GS N__law_shuffled (defScope (top 21)) c__law_shuffled (defBody (top 21)) = true := by decide +kernel
theorem sc__law_shuffled : fnScB N__law_shuffled ["purse", "some"] (defScope (top 21)) = true := by decide +kernel
theorem ok__law_exact : okSs GS N__law_exact (defScope (top 22)) c__law_exact (defBody (top 22)) = true := by decide +kernel
theorem sc__law_exact : fnScB N__law_exact ["mine", "theirs"] (defScope (top 22)) = true := by decide +kernel
theorem ok__law_of_signs : okSs GS N__law_of_signs (defScope (top 23)) c__law_of_signs (defBody (top 23)) = true := by decide +kernel
theorem sc__law_of_signs : fnScB N__law_of_signs ["purse", "text", "signs"] (defScope (top 23)) = true := by decide +kernel
theorem ok__law_signs : okSs GS N__law_signs (defScope (top 24)) c__law_signs (defBody (top 24)) = true := by decide +kernel
theorem sc__law_signs : fnScB N__law_signs [] (defScope (top 24)) = true := by decide +kernel
theorem ok__law_due : okSs GS N__law_due (defScope (top 25)) c__law_due (defBody (top 25)) = true := by decide +kernel
theorem sc__law_due : fnScB N__law_due ["text"] (defScope (top 25)) = true := by decide +kernel
theorem ok__law_heard : okSs GS N__law_heard (defScope (top 26)) c__law_heard (defBody (top 26)) = true := by decide +kernel
theorem sc__law_heard : fnScB N__law_heard ["way", "thing"] (defScope (top 26)) = true := by decide +kernel
theorem ok__law_right : okSs GS N__law_right (defScope (top 27)) c__law_right (defBody (top 27)) = true := by decide +kernel
theorem sc__law_right : fnScB N__law_right ["purse"] (defScope (top 27)) = true := by decide +kernel
theorem ok_law : okSs GS N_law (defScope (top 28)) c_law (defBody (top 28)) = true := by decide +kernel
theorem sc_law : fnScB N_law ["script"] (defScope (top 28)) = true := by decide +kernel
theorem ok_read_tones_m : okSs GS N_read_tones (defScope (top 14)) c_read_tones_m (defBody (top 14)) = true := by decide +kernel
theorem ini_InvalidText : isIni (defBody (inClass (top 8) 0)) = true := by decide +kernel
theorem isc_InvalidText : fnScB ["self", "value"] ["self", "value"] (defScope (inClass (top 8) 0)) = true := by decide +kernel
theorem ini_Unread : isIni (defBody (inClass (top 9) 0)) = true := by decide +kernel
theorem isc_Unread : fnScB ["self", "value"] ["self", "value"] (defScope (inClass (top 9) 0)) = true := by decide +kernel
theorem ini_TooMany : isIni (defBody (inClass (top 5) 0)) = true := by decide +kernel
theorem isc_TooMany : fnScB ["self", "value"] ["self", "value"] (defScope (inClass (top 5) 0)) = true := by decide +kernel
theorem ini_InvalidRow : isIni (defBody (inClass (top 7) 0)) = true := by decide +kernel
theorem isc_InvalidRow : fnScB ["self", "value"] ["self", "value"] (defScope (inClass (top 7) 0)) = true := by decide +kernel
theorem shs_is_whole {K : PySem.W.Frag} (kV doc pm : Value) (an : Option Addr) (cdv ct : Value) : ∀ sh ∈ sh_is_whole, ShpOk K (PySem.W.fnOf "is_whole" "is_whole" (defArgs (top 1)) (defBody (top 1)) (defScope (top 1)) .none kV doc pm an cdv ct) ["value"] sh := by
  intro sh h
  unfold sh_is_whole at h
  simp only [List.mem_cons, List.not_mem_nil, or_false] at h
  rcases h with rfl
  · exact shp0 rfl fun us ws h1 h2 => match us, ws, h1, h2 with | [a0], [], _, _ => rfl
theorem shs_is_count {K : PySem.W.Frag} {D : Addr} {oD : Obj} {its : List Value} {nD : Nat} (lD : K.lookup D = some oD) (hD : oD.data = .seq its.toArray nD) (vD : Vals (([(.int 0)] : List Mp.D).map constV) its) (kV doc pm : Value) (an : Option Addr) (cdv ct : Value) : ∀ sh ∈ sh_is_count, ShpOk K (PySem.W.fnOf "is_count" "is_count" (defArgs (top 2)) (defBody (top 2)) (defScope (top 2)) (.ref D) kV doc pm an cdv ct) ["value", "least"] sh := by
  intro sh h
  unfold sh_is_count at h
  simp only [List.mem_cons, List.not_mem_nil, or_false] at h
  rcases h with rfl
  · exact shpD (dvs := [(.int 0)]) 0 rfl rfl lD hD vD fun us ws its h1 h2 h3 => match us, ws, its, h1, h2, h3 with | [a0], [], [d0], _, _, _ => ⟨_, rfl, rfl⟩
theorem shs_check_text {K : PySem.W.Frag} (kV doc pm : Value) (an : Option Addr) (cdv ct : Value) : ∀ sh ∈ sh_check_text, ShpOk K (PySem.W.fnOf "check_text" "check_text" (defArgs (top 12)) (defBody (top 12)) (defScope (top 12)) .none kV doc pm an cdv ct) ["text"] sh := by
  intro sh h
  unfold sh_check_text at h
  simp only [List.mem_cons, List.not_mem_nil, or_false] at h
  rcases h with rfl
  · exact shp0 rfl fun us ws h1 h2 => match us, ws, h1, h2 with | [a0], [], _, _ => rfl
theorem shs_tones_text {K : PySem.W.Frag} (kV doc pm : Value) (an : Option Addr) (cdv ct : Value) : ∀ sh ∈ sh_tones_text, ShpOk K (PySem.W.fnOf "tones_text" "tones_text" (defArgs (top 13)) (defBody (top 13)) (defScope (top 13)) .none kV doc pm an cdv ct) ["row"] sh := by
  intro sh h
  unfold sh_tones_text at h
  simp only [List.mem_cons, List.not_mem_nil, or_false] at h
  rcases h with rfl | rfl
  · exact shp0 rfl fun us ws h1 h2 => match us, ws, h1, h2 with | [a0], [], _, _ => rfl
  · exact shp0 rfl fun us ws h1 h2 => match us, ws, h1, h2 with | [], [b0], _, _ => rfl
theorem shs_read_tones {K : PySem.W.Frag} (kV doc pm : Value) (an : Option Addr) (cdv ct : Value) : ∀ sh ∈ sh_read_tones, ShpOk K (PySem.W.fnOf "read_tones" "read_tones" (defArgs (top 14)) (defBody (top 14)) (defScope (top 14)) .none kV doc pm an cdv ct) ["text"] sh := by
  intro sh h
  unfold sh_read_tones at h
  simp only [List.mem_cons, List.not_mem_nil, or_false] at h
  rcases h with rfl | rfl
  · exact shp0 rfl fun us ws h1 h2 => match us, ws, h1, h2 with | [a0], [], _, _ => rfl
  · exact shp0 rfl fun us ws h1 h2 => match us, ws, h1, h2 with | [], [b0], _, _ => rfl
theorem shs__law_purse {K : PySem.W.Frag} (kV doc pm : Value) (an : Option Addr) (cdv ct : Value) : ∀ sh ∈ sh__law_purse, ShpOk K (PySem.W.fnOf "_law_purse" "_law_purse" (defArgs (top 16)) (defBody (top 16)) (defScope (top 16)) .none kV doc pm an cdv ct) ["script", "at"] sh := by
  intro sh h
  unfold sh__law_purse at h
  simp only [List.mem_cons, List.not_mem_nil, or_false] at h
  rcases h with rfl
  · exact shp0 rfl fun us ws h1 h2 => match us, ws, h1, h2 with | [a0, a1], [], _, _ => rfl
theorem shs__law_mixed {K : PySem.W.Frag} (kV doc pm : Value) (an : Option Addr) (cdv ct : Value) : ∀ sh ∈ sh__law_mixed, ShpOk K (PySem.W.fnOf "_law_mixed" "_law_mixed" (defArgs (top 17)) (defBody (top 17)) (defScope (top 17)) .none kV doc pm an cdv ct) ["seed", "spin", "at"] sh := by
  intro sh h
  unfold sh__law_mixed at h
  simp only [List.mem_cons, List.not_mem_nil, or_false] at h
  rcases h with rfl
  · exact shp0 rfl fun us ws h1 h2 => match us, ws, h1, h2 with | [a0, a1, a2], [], _, _ => rfl
theorem shs__law_draw {K : PySem.W.Frag} (kV doc pm : Value) (an : Option Addr) (cdv ct : Value) : ∀ sh ∈ sh__law_draw, ShpOk K (PySem.W.fnOf "_law_draw" "_law_draw" (defArgs (top 18)) (defBody (top 18)) (defScope (top 18)) .none kV doc pm an cdv ct) ["purse", "many"] sh := by
  intro sh h
  unfold sh__law_draw at h
  simp only [List.mem_cons, List.not_mem_nil, or_false] at h
  rcases h with rfl
  · exact shp0 rfl fun us ws h1 h2 => match us, ws, h1, h2 with | [a0, a1], [], _, _ => rfl
theorem shs__law_purses {K : PySem.W.Frag} (kV doc pm : Value) (an : Option Addr) (cdv ct : Value) : ∀ sh ∈ sh__law_purses, ShpOk K (PySem.W.fnOf "_law_purses" "_law_purses" (defArgs (top 19)) (defBody (top 19)) (defScope (top 19)) .none kV doc pm an cdv ct) ["script", "few"] sh := by
  intro sh h
  unfold sh__law_purses at h
  simp only [List.mem_cons, List.not_mem_nil, or_false] at h
  rcases h with rfl
  · exact shp0 rfl fun us ws h1 h2 => match us, ws, h1, h2 with | [a0, a1], [], _, _ => rfl
theorem shs__law_one_of {K : PySem.W.Frag} (kV doc pm : Value) (an : Option Addr) (cdv ct : Value) : ∀ sh ∈ sh__law_one_of, ShpOk K (PySem.W.fnOf "_law_one_of" "_law_one_of" (defArgs (top 20)) (defBody (top 20)) (defScope (top 20)) .none kV doc pm an cdv ct) ["purse", "some"] sh := by
  intro sh h
  unfold sh__law_one_of at h
  simp only [List.mem_cons, List.not_mem_nil, or_false] at h
  rcases h with rfl
  · exact shp0 rfl fun us ws h1 h2 => match us, ws, h1, h2 with | [a0, a1], [], _, _ => rfl
theorem shs__law_shuffled {K : PySem.W.Frag} (kV doc pm : Value) (an : Option Addr) (cdv ct : Value) : ∀ sh ∈ sh__law_shuffled, ShpOk K (PySem.W.fnOf "_law_shuffled" "_law_shuffled" (defArgs (top 21)) (defBody (top 21)) (defScope (top 21)) .none kV doc pm an cdv ct) ["purse", "some"] sh := by
  intro sh h
  unfold sh__law_shuffled at h
  simp only [List.mem_cons, List.not_mem_nil, or_false] at h
  rcases h with rfl
  · exact shp0 rfl fun us ws h1 h2 => match us, ws, h1, h2 with | [a0, a1], [], _, _ => rfl
theorem shs__law_exact {K : PySem.W.Frag} (kV doc pm : Value) (an : Option Addr) (cdv ct : Value) : ∀ sh ∈ sh__law_exact, ShpOk K (PySem.W.fnOf "_law_exact" "_law_exact" (defArgs (top 22)) (defBody (top 22)) (defScope (top 22)) .none kV doc pm an cdv ct) ["mine", "theirs"] sh := by
  intro sh h
  unfold sh__law_exact at h
  simp only [List.mem_cons, List.not_mem_nil, or_false] at h
  rcases h with rfl
  · exact shp0 rfl fun us ws h1 h2 => match us, ws, h1, h2 with | [a0, a1], [], _, _ => rfl
theorem shs__law_of_signs {K : PySem.W.Frag} (kV doc pm : Value) (an : Option Addr) (cdv ct : Value) : ∀ sh ∈ sh__law_of_signs, ShpOk K (PySem.W.fnOf "_law_of_signs" "_law_of_signs" (defArgs (top 23)) (defBody (top 23)) (defScope (top 23)) .none kV doc pm an cdv ct) ["purse", "text", "signs"] sh := by
  intro sh h
  unfold sh__law_of_signs at h
  simp only [List.mem_cons, List.not_mem_nil, or_false] at h
  rcases h with rfl
  · exact shp0 rfl fun us ws h1 h2 => match us, ws, h1, h2 with | [a0, a1, a2], [], _, _ => rfl
theorem shs__law_signs {K : PySem.W.Frag} (kV doc pm : Value) (an : Option Addr) (cdv ct : Value) : ∀ sh ∈ sh__law_signs, ShpOk K (PySem.W.fnOf "_law_signs" "_law_signs" (defArgs (top 24)) (defBody (top 24)) (defScope (top 24)) .none kV doc pm an cdv ct) [] sh := by
  intro sh h
  unfold sh__law_signs at h
  simp only [List.mem_cons, List.not_mem_nil, or_false] at h
  rcases h with rfl
  · exact shp0 rfl fun us ws h1 h2 => match us, ws, h1, h2 with | [], [], _, _ => rfl
theorem shs__law_due {K : PySem.W.Frag} (kV doc pm : Value) (an : Option Addr) (cdv ct : Value) : ∀ sh ∈ sh__law_due, ShpOk K (PySem.W.fnOf "_law_due" "_law_due" (defArgs (top 25)) (defBody (top 25)) (defScope (top 25)) .none kV doc pm an cdv ct) ["text"] sh := by
  intro sh h
  unfold sh__law_due at h
  simp only [List.mem_cons, List.not_mem_nil, or_false] at h
  rcases h with rfl
  · exact shp0 rfl fun us ws h1 h2 => match us, ws, h1, h2 with | [a0], [], _, _ => rfl
theorem shs__law_heard {K : PySem.W.Frag} (kV doc pm : Value) (an : Option Addr) (cdv ct : Value) : ∀ sh ∈ sh__law_heard, ShpOk K (PySem.W.fnOf "_law_heard" "_law_heard" (defArgs (top 26)) (defBody (top 26)) (defScope (top 26)) .none kV doc pm an cdv ct) ["way", "thing"] sh := by
  intro sh h
  unfold sh__law_heard at h
  simp only [List.mem_cons, List.not_mem_nil, or_false] at h
  rcases h with rfl
  · exact shp0 rfl fun us ws h1 h2 => match us, ws, h1, h2 with | [a0, a1], [], _, _ => rfl
theorem shs__law_right {K : PySem.W.Frag} (kV doc pm : Value) (an : Option Addr) (cdv ct : Value) : ∀ sh ∈ sh__law_right, ShpOk K (PySem.W.fnOf "_law_right" "_law_right" (defArgs (top 27)) (defBody (top 27)) (defScope (top 27)) .none kV doc pm an cdv ct) ["purse"] sh := by
  intro sh h
  unfold sh__law_right at h
  simp only [List.mem_cons, List.not_mem_nil, or_false] at h
  rcases h with rfl
  · exact shp0 rfl fun us ws h1 h2 => match us, ws, h1, h2 with | [a0], [], _, _ => rfl
theorem shs_law {K : PySem.W.Frag} (kV doc pm : Value) (an : Option Addr) (cdv ct : Value) : ∀ sh ∈ sh_law, ShpOk K (PySem.W.fnOf "law" "law" (defArgs (top 28)) (defBody (top 28)) (defScope (top 28)) .none kV doc pm an cdv ct) ["script"] sh := by
  intro sh h
  unfold sh_law at h
  simp only [List.mem_cons, List.not_mem_nil, or_false] at h
  rcases h with rfl
  · exact shp0 rfl fun us ws h1 h2 => match us, ws, h1, h2 with | [a0], [], _, _ => rfl
set_option maxHeartbeats 4000000 in
theorem all_mk {P : Program} {w : World} {K : PySem.W.Frag} {h : Heap} {mg : Str → Option Value} {T0 : Tok} {C0 : Addr} {C1 : Addr} {C2 : Addr} {C3 : Addr} {C4 : Addr} {F1 D1 : Addr} {oc1 : Value} {od1 : Option Addr} {its1 : List Value} {n1 : Nat} {sl1 : Array (Option Value)} {F2 D2 : Addr} {oc2 : Value} {od2 : Option Addr} {its2 : List Value} {n2 : Nat} {sl2 : Array (Option Value)} {F3 D3 : Addr} {oc3 : Value} {od3 : Option Addr} {its3 : List Value} {n3 : Nat} {sl3 : Array (Option Value)} {F4 D4 : Addr} {oc4 : Value} {od4 : Option Addr} {its4 : List Value} {n4 : Nat} {sl4 : Array (Option Value)} (X : K.In h) (G : h.Ns mainGlobals mg)
    (f0 : FnA K "is_whole" (top 1))
    (f1 : FnD K "is_count" (top 2) [(.int 0)])
    (f2 : FnA K "check_text" (top 12))
    (f3 : FnA K "tones_text" (top 13))
    (f4 : FnA K "read_tones" (top 14))
    (f5 : FnA K "_law_purse" (top 16))
    (f6 : FnA K "_law_mixed" (top 17))
    (f7 : FnA K "_law_draw" (top 18))
    (f8 : FnA K "_law_purses" (top 19))
    (f9 : FnA K "_law_one_of" (top 20))
    (f10 : FnA K "_law_shuffled" (top 21))
    (f11 : FnA K "_law_exact" (top 22))
    (f12 : FnA K "_law_of_signs" (top 23))
    (f13 : FnA K "_law_signs" (top 24))
    (f14 : FnA K "_law_due" (top 25))
    (f15 : FnA K "_law_heard" (top 26))
    (f16 : FnA K "_law_right" (top 27))
    (f17 : FnA K "law" (top 28))
    (c0 : PySem.W.nsIn K mainGlobals "RhythmError" = some (some (.ref C0)))
    (c1 : PySem.W.nsIn K mainGlobals "InvalidText" = some (some (.ref C1)))
    (c2 : PySem.W.nsIn K mainGlobals "Unread" = some (some (.ref C2)))
    (c3 : PySem.W.nsIn K mainGlobals "TooMany" = some (some (.ref C3)))
    (c4 : PySem.W.nsIn K mainGlobals "InvalidRow" = some (some (.ref C4)))
    (e1 : ExC K C1)
    (i1 : PySem.W.findIn K (.ref C1) "__init__" = some (some (.ref F1)))
    (t1 : PySem.W.typeIn K (.ref F1) = some (.type "function"))
    (r1 : FnR K "__init__" "InvalidText.__init__" (inClass (top 8) 0) (.ref D1) F1)
    (d1 : K.lookup D1 = some ⟨oc1, od1, .seq (its1 : List Value).toArray n1, sl1⟩)
    (l1 : its1.length = 1)
    (e2 : ExC K C2)
    (i2 : PySem.W.findIn K (.ref C2) "__init__" = some (some (.ref F2)))
    (t2 : PySem.W.typeIn K (.ref F2) = some (.type "function"))
    (r2 : FnR K "__init__" "Unread.__init__" (inClass (top 9) 0) (.ref D2) F2)
    (d2 : K.lookup D2 = some ⟨oc2, od2, .seq (its2 : List Value).toArray n2, sl2⟩)
    (l2 : its2.length = 1)
    (e3 : ExC K C3)
    (i3 : PySem.W.findIn K (.ref C3) "__init__" = some (some (.ref F3)))
    (t3 : PySem.W.typeIn K (.ref F3) = some (.type "function"))
    (r3 : FnR K "__init__" "TooMany.__init__" (inClass (top 5) 0) (.ref D3) F3)
    (d3 : K.lookup D3 = some ⟨oc3, od3, .seq (its3 : List Value).toArray n3, sl3⟩)
    (l3 : its3.length = 1)
    (e4 : ExC K C4)
    (i4 : PySem.W.findIn K (.ref C4) "__init__" = some (some (.ref F4)))
    (t4 : PySem.W.typeIn K (.ref F4) = some (.type "function"))
    (r4 : FnR K "__init__" "InvalidRow.__init__" (inClass (top 7) 0) (.ref D4) F4)
    (d4 : K.lookup D4 = some ⟨oc4, od4, .seq (its4 : List Value).toArray n4, sl4⟩)
    (l4 : its4.length = 1)
    (k1_0 : PySem.W.kitOne K (.ref C1) (.ref C0) = some true)
    (x1_0 : PySem.W.exmOne K (.ref C1) (.ref C0) = some true)
    (k1_1 : PySem.W.kitOne K (.ref C1) (.ref C1) = some true)
    (x1_1 : PySem.W.exmOne K (.ref C1) (.ref C1) = some true)
    (k1_2 : PySem.W.kitOne K (.ref C1) (.ref C2) = some false)
    (x1_2 : PySem.W.exmOne K (.ref C1) (.ref C2) = some false)
    (k1_3 : PySem.W.kitOne K (.ref C1) (.ref C3) = some false)
    (x1_3 : PySem.W.exmOne K (.ref C1) (.ref C3) = some false)
    (k1_4 : PySem.W.kitOne K (.ref C1) (.ref C4) = some false)
    (x1_4 : PySem.W.exmOne K (.ref C1) (.ref C4) = some false)
    (k2_0 : PySem.W.kitOne K (.ref C2) (.ref C0) = some true)
    (x2_0 : PySem.W.exmOne K (.ref C2) (.ref C0) = some true)
    (k2_1 : PySem.W.kitOne K (.ref C2) (.ref C1) = some false)
    (x2_1 : PySem.W.exmOne K (.ref C2) (.ref C1) = some false)
    (k2_2 : PySem.W.kitOne K (.ref C2) (.ref C2) = some true)
    (x2_2 : PySem.W.exmOne K (.ref C2) (.ref C2) = some true)
    (k2_3 : PySem.W.kitOne K (.ref C2) (.ref C3) = some false)
    (x2_3 : PySem.W.exmOne K (.ref C2) (.ref C3) = some false)
    (k2_4 : PySem.W.kitOne K (.ref C2) (.ref C4) = some false)
    (x2_4 : PySem.W.exmOne K (.ref C2) (.ref C4) = some false)
    (k3_0 : PySem.W.kitOne K (.ref C3) (.ref C0) = some true)
    (x3_0 : PySem.W.exmOne K (.ref C3) (.ref C0) = some true)
    (k3_1 : PySem.W.kitOne K (.ref C3) (.ref C1) = some false)
    (x3_1 : PySem.W.exmOne K (.ref C3) (.ref C1) = some false)
    (k3_2 : PySem.W.kitOne K (.ref C3) (.ref C2) = some false)
    (x3_2 : PySem.W.exmOne K (.ref C3) (.ref C2) = some false)
    (k3_3 : PySem.W.kitOne K (.ref C3) (.ref C3) = some true)
    (x3_3 : PySem.W.exmOne K (.ref C3) (.ref C3) = some true)
    (k3_4 : PySem.W.kitOne K (.ref C3) (.ref C4) = some false)
    (x3_4 : PySem.W.exmOne K (.ref C3) (.ref C4) = some false)
    (k4_0 : PySem.W.kitOne K (.ref C4) (.ref C0) = some true)
    (x4_0 : PySem.W.exmOne K (.ref C4) (.ref C0) = some true)
    (k4_1 : PySem.W.kitOne K (.ref C4) (.ref C1) = some false)
    (x4_1 : PySem.W.exmOne K (.ref C4) (.ref C1) = some false)
    (k4_2 : PySem.W.kitOne K (.ref C4) (.ref C2) = some false)
    (x4_2 : PySem.W.exmOne K (.ref C4) (.ref C2) = some false)
    (k4_3 : PySem.W.kitOne K (.ref C4) (.ref C3) = some false)
    (x4_3 : PySem.W.exmOne K (.ref C4) (.ref C3) = some false)
    (k4_4 : PySem.W.kitOne K (.ref C4) (.ref C4) = some true)
    (x4_4 : PySem.W.exmOne K (.ref C4) (.ref C4) = some true)
    (hn : PySem.W.specialIn K (.builtin "object.__class__") "__get__" = some (some (.builtin "getset_descriptor.__get__")))
    (htk : PySem.W.takesIn K (.builtin "object.__class__") = some true)
    (nl : noList K = true)
    (v0 : PySem.W.nsIn K mainGlobals "SIGNS" = some (some (.str (sOf [48, 49, 50, 51, 52, 53, 54, 55, 56, 57, 97, 98, 99, 100, 101, 102, 103, 104, 105, 106, 107, 108, 109, 110, 111, 112, 113, 114, 115, 116, 117, 118, 119, 120, 121, 122]) T0)))
    (z0 : PySem.W.nsIn K mainGlobals "isinstance" = some none)
    (z1 : PySem.W.nsIn K mainGlobals "len" = some none)
    (z2 : PySem.W.nsIn K mainGlobals "max" = some none)
    (z3 : PySem.W.nsIn K mainGlobals "min" = some none)
    (z4 : PySem.W.nsIn K mainGlobals "sum" = some none)
    (z5 : PySem.W.nsIn K mainGlobals "all" = some none)
    (z6 : PySem.W.nsIn K mainGlobals "any" = some none)
    (z7 : PySem.W.nsIn K mainGlobals "int" = some none)
    (z8 : PySem.W.nsIn K mainGlobals "str" = some none)
    (z9 : PySem.W.nsIn K mainGlobals "list" = some none)
    (z10 : PySem.W.nsIn K mainGlobals "tuple" = some none)
    (z11 : PySem.W.nsIn K mainGlobals "sorted" = some none)
    (z12 : PySem.W.nsIn K mainGlobals "repr" = some none)
    (z13 : PySem.W.nsIn K mainGlobals "bool" = some none)
    (z14 : PySem.W.nsIn K mainGlobals "dict" = some none)
    (z15 : PySem.W.nsIn K mainGlobals "range" = some none)
    (z16 : PySem.W.nsIn K mainGlobals "enumerate" = some none)
    (z17 : PySem.W.nsIn K mainGlobals "zip" = some none)
    : ∃ T : Tb, noList K = true ∧ Txt K mg T GS g tab ∧ ∀ base : Heap, K.In base → base.Ns mainGlobals mg → ∀ p ∈ GS.rs, RaF P w K mg base T p.1 p.2 1 := by
  let T : Tb := { ca := fun n => match n with | 0 => C0 | 3 => C1 | 4 => C2 | 7 => C3 | 8 => C4 | _ => 0, fnm := fun _ => "value" }
  have sub : ∀ c n b, g.sub c n = some b → ExC K (T.ca c) ∧ PySem.W.kitOne K (.ref (T.ca c)) (.ref (T.ca n)) = some b ∧ PySem.W.exmOne K (.ref (T.ca c)) (.ref (T.ca n)) = some b := by
    intro c n b hb
    unfold g at hb
    dsimp only at hb
    split at hb
    · rename_i hc
      obtain ⟨hc, hn⟩ := hc
      rcases hc with rfl | rfl | rfl | rfl
      all_goals rcases hn with rfl | rfl | rfl | rfl | rfl
      · cases hb; exact ⟨e1, k1_0, x1_0⟩
      · cases hb; exact ⟨e1, k1_1, x1_1⟩
      · cases hb; exact ⟨e1, k1_2, x1_2⟩
      · cases hb; exact ⟨e1, k1_3, x1_3⟩
      · cases hb; exact ⟨e1, k1_4, x1_4⟩
      · cases hb; exact ⟨e2, k2_0, x2_0⟩
      · cases hb; exact ⟨e2, k2_1, x2_1⟩
      · cases hb; exact ⟨e2, k2_2, x2_2⟩
      · cases hb; exact ⟨e2, k2_3, x2_3⟩
      · cases hb; exact ⟨e2, k2_4, x2_4⟩
      · cases hb; exact ⟨e3, k3_0, x3_0⟩
      · cases hb; exact ⟨e3, k3_1, x3_1⟩
      · cases hb; exact ⟨e3, k3_2, x3_2⟩
      · cases hb; exact ⟨e3, k3_3, x3_3⟩
      · cases hb; exact ⟨e3, k3_4, x3_4⟩
      · cases hb; exact ⟨e4, k4_0, x4_0⟩
      · cases hb; exact ⟨e4, k4_1, x4_1⟩
      · cases hb; exact ⟨e4, k4_2, x4_2⟩
      · cases hb; exact ⟨e4, k4_3, x4_3⟩
      · cases hb; exact ⟨e4, k4_4, x4_4⟩
    · cases hb
  have CF : ClsF T K g := ⟨⟨hn, htk⟩, fun c n b hb => (sub c n b hb).1, fun c n b hb => (sub c n b hb).2.1, fun c n b hb => (sub c n b hb).2.2⟩
  have GF : GlobF K mg T GS g := by
    refine ⟨fun p hp => ?_, fun x hx => ?_, CF, rfl, fun p hp => ?_⟩
    · unfold GS at hp
      simp only [List.mem_cons, List.not_mem_nil, or_false] at hp
      rcases hp with rfl | rfl | rfl | rfl | rfl
      · exact PySem.W.mg_of X G c0
      · exact PySem.W.mg_of X G c1
      · exact PySem.W.mg_of X G c2
      · exact PySem.W.mg_of X G c3
      · exact PySem.W.mg_of X G c4
    · unfold blts at hx
      simp only [List.mem_cons, List.not_mem_nil, or_false] at hx
      rcases hx with rfl | rfl | rfl | rfl | rfl | rfl | rfl | rfl | rfl | rfl | rfl | rfl | rfl | rfl | rfl | rfl | rfl | rfl
      · exact PySem.W.mg_none_of X G z0
      · exact PySem.W.mg_none_of X G z1
      · exact PySem.W.mg_none_of X G z2
      · exact PySem.W.mg_none_of X G z3
      · exact PySem.W.mg_none_of X G z4
      · exact PySem.W.mg_none_of X G z5
      · exact PySem.W.mg_none_of X G z6
      · exact PySem.W.mg_none_of X G z7
      · exact PySem.W.mg_none_of X G z8
      · exact PySem.W.mg_none_of X G z9
      · exact PySem.W.mg_none_of X G z10
      · exact PySem.W.mg_none_of X G z11
      · exact PySem.W.mg_none_of X G z12
      · exact PySem.W.mg_none_of X G z13
      · exact PySem.W.mg_none_of X G z14
      · exact PySem.W.mg_none_of X G z15
      · exact PySem.W.mg_none_of X G z16
      · exact PySem.W.mg_none_of X G z17
    · unfold GS at hp
      simp only [List.mem_cons, List.not_mem_nil, or_false] at hp
      rcases hp with rfl
      · exact .inl ⟨_, _, rfl, PySem.W.mg_of X G v0⟩
  refine ⟨T, nl, ⟨GF, fun fe hfe => ?_⟩, fun base hb1 hb2 p hp => ?_⟩
  · unfold GS at hfe
    simp only [List.mem_cons, List.not_mem_nil, or_false] at hfe
    rcases hfe with rfl | rfl | rfl | rfl | rfl | rfl | rfl | rfl | rfl | rfl | rfl | rfl | rfl | rfl | rfl | rfl | rfl | rfl | rfl
    · obtain ⟨fa, a, R⟩ := f0
      exact ⟨d_is_whole, N_is_whole, fa, rfl, PySem.W.mg_of X G a, fnK_mk R sc_is_whole ok_is_whole shs_is_whole rfl rfl⟩
    · obtain ⟨fa, D, oD, nD, its, a, lD, hD, vD, R⟩ := f1
      exact ⟨d_is_count, N_is_count, fa, rfl, PySem.W.mg_of X G a, fnK_mk R sc_is_count ok_is_count (shs_is_count lD hD vD) rfl rfl⟩
    · obtain ⟨fa, a, R⟩ := f2
      exact ⟨d_check_text, N_check_text, fa, rfl, PySem.W.mg_of X G a, fnK_mk R sc_check_text ok_check_text shs_check_text rfl rfl⟩
    · obtain ⟨fa, a, R⟩ := f3
      exact ⟨d_tones_text, N_tones_text, fa, rfl, PySem.W.mg_of X G a, fnK_mk R sc_tones_text ok_tones_text shs_tones_text rfl rfl⟩
    · obtain ⟨fa, a, R⟩ := f4
      exact ⟨d_read_tones, N_read_tones, fa, rfl, PySem.W.mg_of X G a, fnK_mk R sc_read_tones ok_read_tones shs_read_tones rfl rfl⟩
    · obtain ⟨fa, a, R⟩ := f5
      exact ⟨d__law_purse, N__law_purse, fa, rfl, PySem.W.mg_of X G a, fnK_mk R sc__law_purse ok__law_purse shs__law_purse rfl rfl⟩
    · obtain ⟨fa, a, R⟩ := f6
      exact ⟨d__law_mixed, N__law_mixed, fa, rfl, PySem.W.mg_of X G a, fnK_mk R sc__law_mixed ok__law_mixed shs__law_mixed rfl rfl⟩
    · obtain ⟨fa, a, R⟩ := f7
      exact ⟨d__law_draw, N__law_draw, fa, rfl, PySem.W.mg_of X G a, fnK_mk R sc__law_draw ok__law_draw shs__law_draw rfl rfl⟩
    · obtain ⟨fa, a, R⟩ := f8
      exact ⟨d__law_purses, N__law_purses, fa, rfl, PySem.W.mg_of X G a, fnK_mk R sc__law_purses ok__law_purses shs__law_purses rfl rfl⟩
    · obtain ⟨fa, a, R⟩ := f9
      exact ⟨d__law_one_of, N__law_one_of, fa, rfl, PySem.W.mg_of X G a, fnK_mk R sc__law_one_of ok__law_one_of shs__law_one_of rfl rfl⟩
    · obtain ⟨fa, a, R⟩ := f10
      exact ⟨d__law_shuffled, N__law_shuffled, fa, rfl, PySem.W.mg_of X G a, fnK_mk R sc__law_shuffled ok__law_shuffled shs__law_shuffled rfl rfl⟩
    · obtain ⟨fa, a, R⟩ := f11
      exact ⟨d__law_exact, N__law_exact, fa, rfl, PySem.W.mg_of X G a, fnK_mk R sc__law_exact ok__law_exact shs__law_exact rfl rfl⟩
    · obtain ⟨fa, a, R⟩ := f12
      exact ⟨d__law_of_signs, N__law_of_signs, fa, rfl, PySem.W.mg_of X G a, fnK_mk R sc__law_of_signs ok__law_of_signs shs__law_of_signs rfl rfl⟩
    · obtain ⟨fa, a, R⟩ := f13
      exact ⟨d__law_signs, N__law_signs, fa, rfl, PySem.W.mg_of X G a, fnK_mk R sc__law_signs ok__law_signs shs__law_signs rfl rfl⟩
    · obtain ⟨fa, a, R⟩ := f14
      exact ⟨d__law_due, N__law_due, fa, rfl, PySem.W.mg_of X G a, fnK_mk R sc__law_due ok__law_due shs__law_due rfl rfl⟩
    · obtain ⟨fa, a, R⟩ := f15
      exact ⟨d__law_heard, N__law_heard, fa, rfl, PySem.W.mg_of X G a, fnK_mk R sc__law_heard ok__law_heard shs__law_heard rfl rfl⟩
    · obtain ⟨fa, a, R⟩ := f16
      exact ⟨d__law_right, N__law_right, fa, rfl, PySem.W.mg_of X G a, fnK_mk R sc__law_right ok__law_right shs__law_right rfl rfl⟩
    · obtain ⟨fa, a, R⟩ := f17
      exact ⟨d_law, N_law, fa, rfl, PySem.W.mg_of X G a, fnK_mk R sc_law ok_law shs_law rfl rfl⟩
    · obtain ⟨fa, a, R⟩ := f4
      exact ⟨d_read_tones_m, N_read_tones, fa, rfl, PySem.W.mg_of X G a, fnK_mk R sc_read_tones ok_read_tones_m shs_read_tones rfl rfl⟩
  · unfold GS at hp
    simp only [List.mem_cons, List.not_mem_nil, or_false] at hp
    rcases hp with rfl | rfl | rfl | rfl
    · exact raF_mk (T := T) (c := 3) rfl e1 (PySem.W.mg_of X G c1) i1 t1 r1 d1 rfl l1 isc_InvalidText ini_InvalidText (by decide +kernel) (by decide +kernel) fun _ _ _ _ _ _ us its h1 h2 => match us, its, h1, h2 with | [_, _], [_], _, _ => ⟨_, rfl, rfl⟩
    · exact raF_mk (T := T) (c := 4) rfl e2 (PySem.W.mg_of X G c2) i2 t2 r2 d2 rfl l2 isc_Unread ini_Unread (by decide +kernel) (by decide +kernel) fun _ _ _ _ _ _ us its h1 h2 => match us, its, h1, h2 with | [_, _], [_], _, _ => ⟨_, rfl, rfl⟩
    · exact raF_mk (T := T) (c := 7) rfl e3 (PySem.W.mg_of X G c3) i3 t3 r3 d3 rfl l3 isc_TooMany ini_TooMany (by decide +kernel) (by decide +kernel) fun _ _ _ _ _ _ us its h1 h2 => match us, its, h1, h2 with | [_, _], [_], _, _ => ⟨_, rfl, rfl⟩
    · exact raF_mk (T := T) (c := 8) rfl e4 (PySem.W.mg_of X G c4) i4 t4 r4 d4 rfl l4 isc_InvalidRow ini_InvalidRow (by decide +kernel) (by decide +kernel) fun _ _ _ _ _ _ us its h1 h2 => match us, its, h1, h2 with | [_, _], [_], _, _ => ⟨_, rfl, rfl⟩
end Mp85
end
section
open PySem PySem.W PyProof.Rows in
set_option maxRecDepth 100000 in
set_option maxHeartbeats 0 in
theorem PySem.Challenge.cw_beatsround_k85_whole_texts_of_tone_rows_holds : PySem.Challenge.rw_beatsround_k85_whole_texts_of_tone_rows.Holds := by
  w_on; o_law; k_head; (case hw => w_witness2)
  k_fill
  refine Mp.mp_walk (l := PySem.Challenge.rw_beatsround_k85_whole_texts_of_tone_rows) (n := 63) (depth := 40) (x := "script") (G := Mp85.GS) (g := Mp85.g) (tab := Mp85.tab) (fe := Mp85.fe_law) rfl (by decide) rfl ⟨rfl, by decide, by decide⟩ (fun w h Y => PySem.W.kIn_of Y) (by simp [Mp85.GS]) rfl rfl (by simp [Mp85.fe_law, Mp85.sh_law, Mp.lawShp]) ?F Mp85.law_ok
  case F =>
    intro w mg h KX G
    refine' Mp85.all_mk KX G ?f0 ?f1 ?f2 ?f3 ?f4 ?f5 ?f6 ?f7 ?f8 ?f9 ?f10 ?f11 ?f12 ?f13 ?f14 ?f15 ?f16 ?f17 ?c0 ?c1 ?c2 ?c3 ?c4 ?e1 ?i1 ?t1 ?r1 ?d1 ?l1 ?e2 ?i2 ?t2 ?r2 ?d2 ?l2 ?e3 ?i3 ?t3 ?r3 ?d3 ?l3 ?e4 ?i4 ?t4 ?r4 ?d4 ?l4 ?k1_0 ?x1_0 ?k1_1 ?x1_1 ?k1_2 ?x1_2 ?k1_3 ?x1_3 ?k1_4 ?x1_4 ?k2_0 ?x2_0 ?k2_1 ?x2_1 ?k2_2 ?x2_2 ?k2_3 ?x2_3 ?k2_4 ?x2_4 ?k3_0 ?x3_0 ?k3_1 ?x3_1 ?k3_2 ?x3_2 ?k3_3 ?x3_3 ?k3_4 ?x3_4 ?k4_0 ?x4_0 ?k4_1 ?x4_1 ?k4_2 ?x4_2 ?k4_3 ?x4_3 ?k4_4 ?x4_4 ?hn ?htk ?nl ?v0 ?z0 ?z1 ?z2 ?z3 ?z4 ?z5 ?z6 ?z7 ?z8 ?z9 ?z10 ?z11 ?z12 ?z13 ?z14 ?z15 ?z16 ?z17
    (case f0 => refine' Mp.fnA_mk ?a ?l ?c ?k; (case a => k_is); (case l => k_is); (case c => k_is); (case k => k_is))
    (case f1 => refine' Mp.fnD_mk ?a ?l ?c ?k ?d ?v; (case a => k_is); (case l => k_is); (case c => k_is); (case k => k_is); (case d => k_is); (case v => exact (.cons ⟨_, rfl⟩ .nil)))
    (case f2 => refine' Mp.fnA_mk ?a ?l ?c ?k; (case a => k_is); (case l => k_is); (case c => k_is); (case k => k_is))
    (case f3 => refine' Mp.fnA_mk ?a ?l ?c ?k; (case a => k_is); (case l => k_is); (case c => k_is); (case k => k_is))
    (case f4 => refine' Mp.fnA_mk ?a ?l ?c ?k; (case a => k_is); (case l => k_is); (case c => k_is); (case k => k_is))
    (case f5 => refine' Mp.fnA_mk ?a ?l ?c ?k; (case a => k_is); (case l => k_is); (case c => k_is); (case k => k_is))
    (case f6 => refine' Mp.fnA_mk ?a ?l ?c ?k; (case a => k_is); (case l => k_is); (case c => k_is); (case k => k_is))
    (case f7 => refine' Mp.fnA_mk ?a ?l ?c ?k; (case a => k_is); (case l => k_is); (case c => k_is); (case k => k_is))
    (case f8 => refine' Mp.fnA_mk ?a ?l ?c ?k; (case a => k_is); (case l => k_is); (case c => k_is); (case k => k_is))
    (case f9 => refine' Mp.fnA_mk ?a ?l ?c ?k; (case a => k_is); (case l => k_is); (case c => k_is); (case k => k_is))
    (case f10 => refine' Mp.fnA_mk ?a ?l ?c ?k; (case a => k_is); (case l => k_is); (case c => k_is); (case k => k_is))
    (case f11 => refine' Mp.fnA_mk ?a ?l ?c ?k; (case a => k_is); (case l => k_is); (case c => k_is); (case k => k_is))
    (case f12 => refine' Mp.fnA_mk ?a ?l ?c ?k; (case a => k_is); (case l => k_is); (case c => k_is); (case k => k_is))
    (case f13 => refine' Mp.fnA_mk ?a ?l ?c ?k; (case a => k_is); (case l => k_is); (case c => k_is); (case k => k_is))
    (case f14 => refine' Mp.fnA_mk ?a ?l ?c ?k; (case a => k_is); (case l => k_is); (case c => k_is); (case k => k_is))
    (case f15 => refine' Mp.fnA_mk ?a ?l ?c ?k; (case a => k_is); (case l => k_is); (case c => k_is); (case k => k_is))
    (case f16 => refine' Mp.fnA_mk ?a ?l ?c ?k; (case a => k_is); (case l => k_is); (case c => k_is); (case k => k_is))
    (case f17 => refine' Mp.fnA_mk ?a ?l ?c ?k; (case a => k_is); (case l => k_is); (case c => k_is); (case k => k_is))
    (case c0 => k_is)
    (case c1 => k_is)
    (case c2 => k_is)
    (case c3 => k_is)
    (case c4 => k_is)
    (case e1 => refine' Mp.exC_mk ?xL ?rv ?sa ?ga ?gg ?nov ?kC ?eC ?tC ?hC ?cl ?ha ?hm; (case xL => k_is); (case rv => decide +kernel); (case sa => k_is); (case ga => k_is); (case gg => k_is); (case nov => k_is); (case kC => k_is); (case eC => k_is); (case tC => k_is); (case hC => k_is); (case cl => first | rfl | k_is); (case ha => k_is); (case hm => k_is))
    (case i1 => k_is)
    (case t1 => k_is)
    (case r1 => refine' Mp.fnR_mk ?l ?c ?k; (case l => k_is); (case c => k_is); (case k => k_is))
    (case d1 => k_is)
    (case l1 => rfl)
    (case e2 => refine' Mp.exC_mk ?xL ?rv ?sa ?ga ?gg ?nov ?kC ?eC ?tC ?hC ?cl ?ha ?hm; (case xL => k_is); (case rv => decide +kernel); (case sa => k_is); (case ga => k_is); (case gg => k_is); (case nov => k_is); (case kC => k_is); (case eC => k_is); (case tC => k_is); (case hC => k_is); (case cl => first | rfl | k_is); (case ha => k_is); (case hm => k_is))
    (case i2 => k_is)
    (case t2 => k_is)
    (case r2 => refine' Mp.fnR_mk ?l ?c ?k; (case l => k_is); (case c => k_is); (case k => k_is))
    (case d2 => k_is)
    (case l2 => rfl)
    (case e3 => refine' Mp.exC_mk ?xL ?rv ?sa ?ga ?gg ?nov ?kC ?eC ?tC ?hC ?cl ?ha ?hm; (case xL => k_is); (case rv => decide +kernel); (case sa => k_is); (case ga => k_is); (case gg => k_is); (case nov => k_is); (case kC => k_is); (case eC => k_is); (case tC => k_is); (case hC => k_is); (case cl => first | rfl | k_is); (case ha => k_is); (case hm => k_is))
    (case i3 => k_is)
    (case t3 => k_is)
    (case r3 => refine' Mp.fnR_mk ?l ?c ?k; (case l => k_is); (case c => k_is); (case k => k_is))
    (case d3 => k_is)
    (case l3 => rfl)
    (case e4 => refine' Mp.exC_mk ?xL ?rv ?sa ?ga ?gg ?nov ?kC ?eC ?tC ?hC ?cl ?ha ?hm; (case xL => k_is); (case rv => decide +kernel); (case sa => k_is); (case ga => k_is); (case gg => k_is); (case nov => k_is); (case kC => k_is); (case eC => k_is); (case tC => k_is); (case hC => k_is); (case cl => first | rfl | k_is); (case ha => k_is); (case hm => k_is))
    (case i4 => k_is)
    (case t4 => k_is)
    (case r4 => refine' Mp.fnR_mk ?l ?c ?k; (case l => k_is); (case c => k_is); (case k => k_is))
    (case d4 => k_is)
    (case l4 => rfl)
    (case k1_0 => first | rfl | k_is)
    (case x1_0 => first | rfl | k_is)
    (case k1_1 => first | rfl | k_is)
    (case x1_1 => first | rfl | k_is)
    (case k1_2 => first | rfl | k_is)
    (case x1_2 => first | rfl | k_is)
    (case k1_3 => first | rfl | k_is)
    (case x1_3 => first | rfl | k_is)
    (case k1_4 => first | rfl | k_is)
    (case x1_4 => first | rfl | k_is)
    (case k2_0 => first | rfl | k_is)
    (case x2_0 => first | rfl | k_is)
    (case k2_1 => first | rfl | k_is)
    (case x2_1 => first | rfl | k_is)
    (case k2_2 => first | rfl | k_is)
    (case x2_2 => first | rfl | k_is)
    (case k2_3 => first | rfl | k_is)
    (case x2_3 => first | rfl | k_is)
    (case k2_4 => first | rfl | k_is)
    (case x2_4 => first | rfl | k_is)
    (case k3_0 => first | rfl | k_is)
    (case x3_0 => first | rfl | k_is)
    (case k3_1 => first | rfl | k_is)
    (case x3_1 => first | rfl | k_is)
    (case k3_2 => first | rfl | k_is)
    (case x3_2 => first | rfl | k_is)
    (case k3_3 => first | rfl | k_is)
    (case x3_3 => first | rfl | k_is)
    (case k3_4 => first | rfl | k_is)
    (case x3_4 => first | rfl | k_is)
    (case k4_0 => first | rfl | k_is)
    (case x4_0 => first | rfl | k_is)
    (case k4_1 => first | rfl | k_is)
    (case x4_1 => first | rfl | k_is)
    (case k4_2 => first | rfl | k_is)
    (case x4_2 => first | rfl | k_is)
    (case k4_3 => first | rfl | k_is)
    (case x4_3 => first | rfl | k_is)
    (case k4_4 => first | rfl | k_is)
    (case x4_4 => first | rfl | k_is)
    (case hn => k_is)
    (case htk => k_is)
    (case nl => first | rfl | decide +kernel | k_is)
    (case v0 => k_is)
    (case z0 => k_is)
    (case z1 => k_is)
    (case z2 => k_is)
    (case z3 => k_is)
    (case z4 => k_is)
    (case z5 => k_is)
    (case z6 => k_is)
    (case z7 => k_is)
    (case z8 => k_is)
    (case z9 => k_is)
    (case z10 => k_is)
    (case z11 => k_is)
    (case z12 => k_is)
    (case z13 => k_is)
    (case z14 => k_is)
    (case z15 => k_is)
    (case z16 => k_is)
    (case z17 => k_is)
end
