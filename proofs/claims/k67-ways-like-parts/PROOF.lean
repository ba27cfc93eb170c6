import PyProof.Rows.All
import Wide.All
import OpenK.AllK
import Wide.FinOn
import HandS.ForMost
import HandS.Walk
import HandS.Style
import HandS.IsInst
import HandS.SortInts
import HandS.Codes
import HandS.Defaults
import HandS.HeadHook1
import PySem.Challenge.RW_turnpowers_k67_whole_ways_have_like_part
import HandS.IterVal
import KE.SortData
import HandS.Base
import HandS.Call
import HandS.Ends
import HandS.More
import HandS.Words
import HandS.WordsExc
import HandS.Head0
import HandS.Head1
import HandS.Head2
import HandS.HeadEnd
import HandS.HeadHook2
/-! Plain meaning of Python pieces over data: env (slots) to results. Core Lean alone. -/
set_option autoImplicit false
namespace G
/-- a field object's six attributes -/
structure Fld where
  prime : Int
  turns : Int
  size : Int
  modulus : List Int
  powers : List Int
  logs : List Int
inductive D where
  | non
  | int (i : Int)
  | bl (b : Bool)
  | lst (l : List D)
  | tup (l : List D)
  | fld (F : Fld)
  | txt
abbrev Env := List (Option D)
abbrev FE := Env → Option D
abbrev FT := Env → Option Bool
abbrev FA := Env → Option (List D)
abbrev FO := Env → Option (Option Int)
inductive Res where
  | nx (ρ : Env)
  | rt (d : D)
abbrev FS := Env → Option Res
abbrev FG := D → Env → Option Env
abbrev FI := Env → Option (List D)

def isSc : D → Bool
  | .lst _ => false
  | .tup _ => false
  | .fld _ => false
  | _ => true

def fVar (i : Nat) : FE := fun ρ => ρ.getD i none
def fC (d : D) : FE := fun _ => some d
def fI2 (g : Int → Int → Option D) (a b : FE) : FE := fun ρ => match a ρ, b ρ with
  | some (.int i), some (.int j) => g i j
  | _, _ => none
def gAdd (i j : Int) : Option D := some (.int (i + j))
def gSub (i j : Int) : Option D := some (.int (i - j))
def smallI (i : Int) : Bool := decide (-18446744073709551616 < i) && decide (i < 18446744073709551616)
def gMul (i j : Int) : Option D := if smallI i then some (.int (i * j)) else none
def gDiv (i j : Int) : Option D := if decide (0 < j) && decide (j < 1073741824) then some (.int (i / j)) else none
def gMod (i j : Int) : Option D := if decide (0 < j) then some (.int (i % j)) else none
def gLt (i j : Int) : Option D := some (.bl (decide (i < j)))
def gLe (i j : Int) : Option D := some (.bl (decide (i ≤ j)))
def gGt (i j : Int) : Option D := some (.bl (decide (j < i)))
def gGe (i j : Int) : Option D := some (.bl (decide (j ≤ i)))
def gEq (i j : Int) : Option D := some (.bl (decide (i = j)))
def gNe (i j : Int) : Option D := some (.bl (!decide (i = j)))
def fNeg (a : FE) : FE := fun ρ => match a ρ with
  | some (.int i) => some (.int (-i))
  | _ => none
/-- the ints of a list, the rows of ints -/
def ints? : List D → Option (List Int)
  | [] => some []
  | .int i :: r => match ints? r with
    | some l => some (i :: l)
    | none => none
  | _ :: _ => none
def rows? : List D → Option (List (List Int))
  | [] => some []
  | .lst l :: r => match ints? l, rows? r with
    | some a, some b => some (a :: b)
    | _, _ => none
  | _ :: _ => none
/-- == of lists of ints, of lists of such -/
def eqD (d e : D) : Option Bool := match d, e with
  | .lst a, .lst b => match ints? a, ints? b with
    | some x, some y => some (decide (x = y))
    | _, _ => match rows? a, rows? b with
      | some x, some y => some (decide (x = y))
      | _, _ => none
  | _, _ => none
def fEqD (a b : FE) : FE := fun ρ => match a ρ, b ρ with
  | some d, some e => match eqD d e with
    | some k => some (.bl k)
    | none => none
  | _, _ => none
def fNeD (a b : FE) : FE := fun ρ => match a ρ, b ρ with
  | some d, some e => match eqD d e with
    | some k => some (.bl (!k))
    | none => none
  | _, _ => none
def fIsTrue (a : FE) : FE := fun ρ => match a ρ with
  | some (.bl k) => some (.bl k)
  | _ => none
def fCat (a b : FE) : FE := fun ρ => match a ρ, b ρ with
  | some (.lst x), some (.lst y) => if x.length + y.length ≤ 100000 then some (.lst (x ++ y)) else none
  | _, _ => none
def fRep (a b : FE) : FE := fun ρ => match a ρ, b ρ with
  | some (.lst x), some (.int k) => if decide (-100000 < k) && decide (k < 100000) && decide (x.length ≤ 10) then some (.lst (List.replicate k.toNat x).flatten) else none
  | _, _ => none
def pIx (l : List D) (i : Int) : Option D := if 0 ≤ i then l[i.toNat]? else if -(l.length : Int) ≤ i then l[(i + l.length).toNat]? else none
def fIxL (a b : FE) : FE := fun ρ => match a ρ, b ρ with
  | some (.lst l), some (.int i) => pIx l i
  | _, _ => none
def fIxT (a b : FE) : FE := fun ρ => match a ρ, b ρ with
  | some (.tup l), some (.int i) => pIx l i
  | _, _ => none
def cIx (n d : Nat) : Option Int → Nat
  | none => d
  | some v => if v < 0 then (v + (n : Int)).toNat else min v.toNat n
def cutD (l : List D) (lo hi : Option Int) : List D := (l.drop (cIx l.length 0 lo)).take (cIx l.length l.length hi - cIx l.length 0 lo)
def oNone : FO := fun _ => some none
def oSome (a : FE) : FO := fun ρ => match a ρ with
  | some (.int i) => some (some i)
  | _ => none
def fSl (a : FE) (lo hi : FO) : FE := fun ρ => match a ρ, lo ρ, hi ρ with
  | some (.lst l), some x, some y => some (.lst (cutD l x y))
  | _, _, _ => none
def fRev (a : FE) : FE := fun ρ => match a ρ with
  | some (.lst l) => some (.lst l.reverse)
  | _ => none
def attr (F : Fld) : Nat → D
  | 0 => .int F.prime
  | 1 => .int F.turns
  | 2 => .int F.size
  | 3 => .lst (F.modulus.map .int)
  | 4 => .lst (F.powers.map .int)
  | _ => .lst (F.logs.map .int)
def fAttr (n : Nat) (a : FE) : FE := fun ρ => match a ρ with
  | some (.fld F) => some (attr F n)
  | _ => none
def aNil : FA := fun _ => some []
def aCons (a : FE) (r : FA) : FA := fun ρ => match a ρ, r ρ with
  | some d, some l => some (d :: l)
  | _, _ => none
def fLst (a : FA) : FE := fun ρ => match a ρ with
  | some l => some (.lst l)
  | none => none
def fTup (a : FA) : FE := fun ρ => match a ρ with
  | some l => some (.tup l)
  | none => none
/-- a built-in of one argument -/
def fB1 (g : D → Option D) (a : FE) : FE := fun ρ => match a ρ with
  | some d => g d
  | none => none
def bLen : D → Option D
  | .lst l => some (.int l.length)
  | _ => none
def bList : D → Option D
  | .lst l => some (.lst l)
  | _ => none
def bSum : D → Option D
  | .lst l => match ints? l with
    | some x => some (.int x.sum)
    | none => none
  | _ => none
def bools? : List D → Option (List Bool)
  | [] => some []
  | .bl i :: r => match bools? r with
    | some l => some (i :: l)
    | none => none
  | _ :: _ => none
def bAll : D → Option D
  | .lst l => match bools? l with
    | some x => some (.bl (x.all id))
    | none => none
  | _ => none
def bInt : D → Option D
  | .int i => some (.int i)
  | _ => none
def bIsInt : D → Option D
  | .int _ => some (.bl true)
  | _ => none
def bIsBool : D → Option D
  | .int _ => some (.bl false)
  | _ => none
def bIsList : D → Option D
  | .lst _ => some (.bl true)
  | _ => none
def bIsField : D → Option D
  | .fld _ => some (.bl true)
  | _ => none
def insI (x : Int) : List Int → List Int
  | [] => [x]
  | y :: r => if x ≤ y then x :: y :: r else y :: insI x r
def sortI : List Int → List Int
  | [] => []
  | x :: r => insI x (sortI r)
def bSortI : D → Option D
  | .lst l => match ints? l with
    | some x => some (.lst ((sortI x).map .int))
    | none => none
  | _ => none
def gMax2 (i j : Int) : Option D := some (.int (if j > i then j else i))
def gDivmod (i j : Int) : Option D := if decide (0 < j) && decide (j < 1073741824) then some (.tup [.int (i / j), .int (i % j)]) else none
def fNotIn (l : List Int) (a : FE) : FE := fun ρ => match a ρ with
  | some (.int i) => some (.bl (!(l.contains i)))
  | _ => none
def fTest (a : FE) : FT := fun ρ => match a ρ with
  | some (.bl b) => some b
  | _ => none
def fIf (t : FT) (a b : FE) : FE := fun ρ => match t ρ with
  | some true => a ρ
  | some false => b ρ
  | none => none
def tAnd (t u : FT) : FT := fun ρ => match t ρ with
  | some true => u ρ
  | some false => some false
  | none => none
def tOr (t u : FT) : FT := fun ρ => match t ρ with
  | some true => some true
  | some false => u ρ
  | none => none
def tNot (t : FT) : FT := fun ρ => match t ρ with
  | some b => some (!b)
  | none => none
def fAndV (a b : FE) : FE := fun ρ => match a ρ with
  | some (.bl true) => b ρ
  | some (.bl false) => some (.bl false)
  | _ => none
def fOrV (a b : FE) : FE := fun ρ => match a ρ with
  | some (.bl true) => some (.bl true)
  | some (.bl false) => b ρ
  | _ => none
def fNotV (a : FE) : FE := fun ρ => match a ρ with
  | some (.bl b) => some (.bl (!b))
  | _ => none
/-- a op b op' c of ints -/
def fChain (g g' : Int → Int → Option D) (a b c : FE) : FE := fun ρ => match a ρ, b ρ with
  | some (.int i), some (.int j) => match g i j with
    | some (.bl true) => (match c ρ with
      | some (.int k) => g' j k
      | _ => none)
    | some (.bl false) => some (.bl false)
    | _ => none
  | _, _ => none
def fCall (g : List D → Option D) (a : FA) : FE := fun ρ => match a ρ with
  | some l => g l
  | none => none
/-- a value that is no list, tuple or object -/
def fSc (a : FE) : FE := fun ρ => match a ρ with
  | some d => if isSc d then some d else none
  | none => none
/-- a list of such -/
def fScL (a : FE) : FE := fun ρ => match a ρ with
  | some (.lst l) => if l.all isSc then some (.lst l) else none
  | _ => none
-- what is walked
def iList (a : FE) : FI := fun ρ => match a ρ with
  | some (.lst l) => if l.length ≤ 100000 then some l else none
  | _ => none
def iRange1 (a : FE) : FI := fun ρ => match a ρ with
  | some (.int n) => if n ≤ 100000 ∧ -100000 ≤ n then some ((List.range n.toNat).map fun i => .int (i : Nat)) else none
  | _ => none
def iRange2 (a b : FE) : FI := fun ρ => match a ρ, b ρ with
  | some (.int m), some (.int n) => if (n ≤ 100000 ∧ -100000 ≤ n) ∧ (m ≤ 100000 ∧ -100000 ≤ m) then some ((List.range (n - m).toNat).map fun i => .int (m + (i : Nat))) else none
  | _, _ => none
def enumD : Nat → List D → List D
  | _, [] => []
  | i, d :: r => .tup [.int (i : Nat), d] :: enumD (i + 1) r
def iEnum (a : FE) : FI := fun ρ => match a ρ with
  | some (.lst l) => if l.length ≤ 100000 then some (enumD 0 l) else none
  | _ => none
def zipD : List D → List D → List D
  | d :: r, e :: s => .tup [d, e] :: zipD r s
  | _, _ => []
def iZip (a b : FE) : FI := fun ρ => match a ρ, b ρ with
  | some (.lst l), some (.lst m) => if l.length ≤ 100000 then some (zipD l m) else none
  | _, _ => none
-- targets
def gName (i : Nat) : FG := fun d ρ => some (ρ.set i (some d))
def gTup (i j : Nat) : FG := fun d ρ => match d with
  | .tup [x, y] => some ((ρ.set i (some x)).set j (some y))
  | _ => none
-- comprehensions
def wipeE (ρ : Env) : List Nat → Env
  | [] => ρ
  | v :: vs => (wipeE ρ vs).set v none
def lcD (g : FG) (t : FT) (e : FE) (ρ : Env) : List D → Option (List D)
  | [] => some []
  | d :: r => match g d ρ with
    | some ρ1 => (match t ρ1 with
      | some true => (match e ρ1, lcD g t e ρ r with
        | some y, some l => some (y :: l)
        | _, _ => none)
      | some false => lcD g t e ρ r
      | none => none)
    | none => none
def tYes : FT := fun _ => some true
def fLc (src : FI) (g : FG) (t : FT) (e : FE) (vs : List Nat) : FE := fun ρ => match src ρ with
  | some l => (match lcD g t e (wipeE ρ vs) l with
    | some r => some (.lst r)
    | none => none)
  | none => none
-- statements
def sNext : FS := fun ρ => some (.nx ρ)
def sNever : FS := fun _ => none
def sSeq (a b : FS) : FS := fun ρ => match a ρ with
  | some (.nx ρ') => b ρ'
  | r => r
def sAsg (g : FG) (e : FE) : FS := fun ρ => match e ρ with
  | some d => (match g d ρ with
    | some ρ' => some (.nx ρ')
    | none => none)
  | none => none
/-- several plain names at once -/
def sPar2 (i j : Nat) (a b : FE) : FS := fun ρ => match a ρ, b ρ with
  | some d, some e => some (.nx ((ρ.set i (some d)).set j (some e)))
  | _, _ => none
def sPar3 (i j k : Nat) (a b c : FE) : FS := fun ρ => match a ρ, b ρ, c ρ with
  | some d, some e, some f => some (.nx (((ρ.set i (some d)).set j (some e)).set k (some f)))
  | _, _, _ => none
/-- x[e] = v -/
def sSetIx (x : Nat) (e v : FE) : FS := fun ρ => match v ρ, ρ.getD x none, e ρ with
  | some d, some (.lst l), some (.int i) => if decide (0 ≤ i) && decide (i < l.length) then some (.nx (ρ.set x (some (.lst (l.set i.toNat d))))) else none
  | _, _, _ => none
/-- x.append(e) -/
def sApp (x : Nat) (e : FE) : FS := fun ρ => match ρ.getD x none, e ρ with
  | some (.lst l), some d => if l.length < 100000 then some (.nx (ρ.set x (some (.lst (l ++ [d]))))) else none
  | _, _ => none
/-- x.pop() -/
def sPop (x : Nat) : FS := fun ρ => match ρ.getD x none with
  | some (.lst (d :: r)) => some (.nx (ρ.set x (some (.lst (d :: r).dropLast))))
  | _ => none
def sDrop (e : FE) : FS := fun ρ => match e ρ with
  | some _ => some (.nx ρ)
  | none => none
def sIf (t : FT) (a b : FS) : FS := fun ρ => match t ρ with
  | some true => a ρ
  | some false => b ρ
  | none => none
def sRet (e : FE) : FS := fun ρ => match e ρ with
  | some d => some (.rt d)
  | none => none
def loopD (g : FG) (b : FS) : List D → Env → Option Env
  | [], ρ => some ρ
  | d :: r, ρ => match g d ρ with
    | some ρ1 => (match b ρ1 with
      | some (.nx ρ2) => loopD g b r ρ2
      | _ => none)
    | none => none
def sFor (src : FI) (g : FG) (b : FS) : FS := fun ρ => match src ρ with
  | some l => (match loopD g b l ρ with
    | some ρ' => some (.nx ρ')
    | none => none)
  | none => none
def whileD (t : FT) (b : FS) : Nat → Env → Option Env
  | 0, _ => none
  | n + 1, ρ => match t ρ with
    | some true => (match b ρ with
      | some (.nx ρ2) => whileD t b n ρ2
      | _ => none)
    | some false => some ρ
    | none => none
def sWhile (n : Nat) (t : FT) (b : FS) : FS := fun ρ => match whileD t b n ρ with
  | some ρ' => some (.nx ρ')
  | none => none
/-- a slot forgotten -/
def sClr (k : Nat) (b : FS) : FS := fun ρ => if k < ρ.length then b (ρ.set k none) else none
/-- a def of so many parameters and further slots -/
def run (np ns : Nat) (b : FS) : List D → Option D := fun l => if l.length = np then (match b (l.map some ++ List.replicate ns none) with
  | some (.rt d) => some d
  | some (.nx _) => some .non
  | none => none) else none
end G

set_option autoImplicit false
set_option Elab.async false
set_option linter.all false
set_option maxRecDepth 100000
set_option maxHeartbeats 4000000
/-! The plain meaning (G) is what the readings of the hand layer do: data on the heap, hidden objects, owned lists. -/
namespace GB
open PySem L2

def Ex (H H' : Hp) : Prop := ∀ a o, H a = some o → H' a = some o
theorem Ex.refl (H : Hp) : Ex H H := fun _ _ h => h
theorem Ex.trans {H H1 H2 : Hp} (a : Ex H H1) (b : Ex H1 H2) : Ex H H2 := fun x o h => b x o (a x o h)
theorem Ex.new {H : Hp} {p : Addr} {o : HO} (h : H p = none) : Ex H (upd H p o) := fun a u e => by
  rw [upd_ne (ne_of_none e h)]
  exact e
theorem fresh_back {H H' : Hp} {p : Addr} (e : Ex H H') (h : H' p = none) : H p = none := by
  cases h1 : H p with
  | none => rfl
  | some o =>
    rw [e p o h1] at h
    cases h
/-- the heap without the hidden -/
def hid (S : Addr → Bool) (H : Hp) : Hp := fun b => if S b = true then none else H b
theorem hid_some {S : Addr → Bool} {H : Hp} {b : Addr} {o : HO} (h : hid S H b = some o) : S b = false ∧ H b = some o := by
  unfold hid at h
  by_cases s : S b = true
  · rw [if_pos s] at h
    cases h
  · rw [if_neg s] at h
    exact ⟨by simpa using s, h⟩
theorem hid_of {S : Addr → Bool} {H : Hp} {b : Addr} {o : HO} (s : S b = false) (h : H b = some o) : hid S H b = some o := by
  unfold hid
  rw [if_neg (by rw [s]; exact Bool.false_ne_true)]
  exact h
theorem ex_hid {S : Addr → Bool} {H H' : Hp} (e : Ex H H') : Ex (hid S H) (hid S H') := fun b o h => hid_of (hid_some h).1 (e b o (hid_some h).2)
theorem ex_unhid {S S' : Addr → Bool} {H : Hp} (h : ∀ b, S' b = true → S b = true) : Ex (hid S H) (hid S' H) := fun b o q => by
  refine hid_of ?_ (hid_some q).2
  cases e : S' b with
  | false => rfl
  | true =>
    have z := h b e
    rw [(hid_some q).1] at z
    cases z
theorem ex_hid_self {S : Addr → Bool} {H : Hp} : Ex (hid S H) H := fun _ _ h => (hid_some h).2

/-! ### data on the heap -/
structure FL (fs : List (Str × V)) (F : G.Fld) (m q l : Addr) : Prop where
  p : fs.lookup ("own_prime" : Str) = some (.int F.prime)
  t : fs.lookup ("own_turns" : Str) = some (.int F.turns)
  s : fs.lookup ("own_size" : Str) = some (.int F.size)
  m : fs.lookup ("own_modulus" : Str) = some (.ref m)
  q : fs.lookup ("own_powers" : Str) = some (.ref q)
  l : fs.lookup ("own_logs" : Str) = some (.ref l)
mutual
inductive Dat (C : Addr) (H : Hp) : V → G.D → Prop
  | non : Dat C H .non .non
  | int (i : Int) : Dat C H (.int i) (.int i)
  | bl (b : Bool) : Dat C H (.bl b) (.bl b)
  | lst {a : Addr} {xs : List V} {ds : List G.D} : H a = some (.lst xs) → Dats C H xs ds → Dat C H (.ref a) (.lst ds)
  | tup {a : Addr} {xs : List V} {ds : List G.D} : H a = some (.tup xs) → Dats C H xs ds → Dat C H (.ref a) (.tup ds)
  | fld {a dx m q l : Addr} {fs : List (Str × V)} {F : G.Fld} : H a = some (.ins C dx fs) → FL fs F m q l → H m = some (.lst (F.modulus.map V.int)) → H q = some (.lst (F.powers.map V.int)) →
      H l = some (.lst (F.logs.map V.int)) → Dat C H (.ref a) (.fld F)
  | txt (x : Str) : Dat C H (.str x) .txt
inductive Dats (C : Addr) (H : Hp) : List V → List G.D → Prop
  | nil : Dats C H [] []
  | cons {v : V} {vs : List V} {d : G.D} {ds : List G.D} : Dat C H v d → Dats C H vs ds → Dats C H (v :: vs) (d :: ds)
end
section
variable {C : Addr} {H H' : Hp}
mutual
theorem Dat.mono (e : Ex H H') : ∀ (d : G.D) (v : V), Dat C H v d → Dat C H' v d
  | .non, _, h => by cases h; exact .non
  | .int i, _, h => by cases h; exact .int i
  | .bl b, _, h => by cases h; exact .bl b
  | .txt, _, h => by cases h; exact .txt _
  | .lst ds, _, h => by
    cases h with
    | lst h1 h2 => exact .lst (e _ _ h1) (Dats.mono e ds _ h2)
  | .tup ds, _, h => by
    cases h with
    | tup h1 h2 => exact .tup (e _ _ h1) (Dats.mono e ds _ h2)
  | .fld F, _, h => by
    cases h with
    | fld h1 h2 h3 h4 h5 => exact .fld (e _ _ h1) h2 (e _ _ h3) (e _ _ h4) (e _ _ h5)
theorem Dats.mono (e : Ex H H') : ∀ (ds : List G.D) (vs : List V), Dats C H vs ds → Dats C H' vs ds
  | [], _, h => by cases h; exact .nil
  | d :: ds, _, h => by
    cases h with
    | cons h1 h2 => exact .cons (Dat.mono e d _ h1) (Dats.mono e ds _ h2)
end
theorem Dats.ints : ∀ ns : List Int, Dats C H (ns.map V.int) (ns.map G.D.int)
  | [] => .nil
  | i :: r => .cons (.int i) (Dats.ints r)
theorem Dats.length : ∀ {vs : List V} {ds : List G.D}, Dats C H vs ds → vs.length = ds.length
  | _, [], h => by cases h; rfl
  | _, d :: ds, h => by
    cases h with
    | cons _ h2 => exact congrArg (· + 1) (Dats.length h2)
theorem Dats.get : ∀ {vs : List V} {ds : List G.D} {i : Nat} {d : G.D}, Dats C H vs ds → ds[i]? = some d → ∃ v, vs[i]? = some v ∧ Dat C H v d
  | _, [], _, _, _, e => by simp at e
  | _, d :: ds, 0, _, h, e => by
    cases h with
    | cons h1 _ =>
      have e' : d = _ := Option.some.inj e
      subst e'
      exact ⟨_, rfl, h1⟩
  | _, d :: ds, i + 1, _, h, e => by
    cases h with
    | cons _ h2 =>
      obtain ⟨v, q, r⟩ := Dats.get (i := i) h2 e
      exact ⟨v, q, r⟩
theorem Dats.append : ∀ {vs ws : List V} {ds es : List G.D}, Dats C H vs ds → Dats C H ws es → Dats C H (vs ++ ws) (ds ++ es)
  | _, _, [], _, h, k => by cases h; exact k
  | _, _, d :: ds, _, h, k => by
    cases h with
    | cons h1 h2 => exact .cons h1 (Dats.append h2 k)
theorem Dats.take : ∀ {vs : List V} {ds : List G.D} (n : Nat), Dats C H vs ds → Dats C H (vs.take n) (ds.take n)
  | _, [], n, h => by cases h; simp; exact .nil
  | _, d :: ds, 0, h => by simp; exact .nil
  | _, d :: ds, n + 1, h => by
    cases h with
    | cons h1 h2 => exact .cons h1 (Dats.take n h2)
theorem Dats.drop : ∀ {vs : List V} {ds : List G.D} (n : Nat), Dats C H vs ds → Dats C H (vs.drop n) (ds.drop n)
  | _, [], n, h => by cases h; simp; exact .nil
  | _, d :: ds, 0, h => h
  | _, d :: ds, n + 1, h => by
    cases h with
    | cons h1 h2 => exact Dats.drop n h2
theorem Dats.set : ∀ {vs : List V} {ds : List G.D} {v : V} {d : G.D} (n : Nat), Dats C H vs ds → Dat C H v d → Dats C H (vs.set n v) (ds.set n d)
  | _, [], _, _, n, h, k => by cases h; exact .nil
  | _, d :: ds, _, _, 0, h, k => by
    cases h with
    | cons h1 h2 => exact .cons k h2
  | _, d :: ds, _, _, n + 1, h, k => by
    cases h with
    | cons h1 h2 => exact .cons h1 (Dats.set n h2 k)
theorem Dats.snoc {vs : List V} {ds : List G.D} {v : V} {d : G.D} (h : Dats C H vs ds) (k : Dat C H v d) : Dats C H (vs ++ [v]) (ds ++ [d]) := h.append (.cons k .nil)
theorem Dats.reverse : ∀ {vs : List V} {ds : List G.D}, Dats C H vs ds → Dats C H vs.reverse ds.reverse
  | _, [], h => by cases h; exact .nil
  | _, d :: ds, h => by
    cases h with
    | cons h1 h2 =>
      rw [List.reverse_cons, List.reverse_cons]
      exact (Dats.reverse h2).snoc h1
theorem Dats.dropLast : ∀ {vs : List V} {ds : List G.D}, Dats C H vs ds → Dats C H vs.dropLast ds.dropLast := fun {vs ds} h => by
  rw [List.dropLast_eq_take, List.dropLast_eq_take, h.length]
  exact h.take _
theorem Dats.rep (k : Nat) {vs : List V} {ds : List G.D} (h : Dats C H vs ds) : Dats C H (List.replicate k vs).flatten (List.replicate k ds).flatten := by
  induction k with
  | zero => exact .nil
  | succ n ih =>
    rw [List.replicate_succ, List.flatten_cons, List.replicate_succ, List.flatten_cons]
    exact h.append ih
theorem Dat.sc {H2 : Hp} {v : V} {d : G.D} (h : Dat C H v d) (s : G.isSc d = true) : Dat C H2 v d := by
  cases h with
  | non => exact .non
  | int i => exact .int i
  | bl b => exact .bl b
  | txt x => exact .txt x
  | lst _ _ => cases s
  | tup _ _ => cases s
  | fld _ _ _ _ _ => cases s
theorem Dats.sc {H2 : Hp} : ∀ {vs : List V} {ds : List G.D}, Dats C H vs ds → ds.all G.isSc = true → Dats C H2 vs ds
  | _, [], h, _ => by cases h; exact .nil
  | _, d :: ds, h, s => by
    rw [List.all_cons, Bool.and_eq_true] at s
    cases h with
    | cons h1 h2 => exact .cons (h1.sc s.1) (Dats.sc h2 s.2)
theorem Dats.ints? : ∀ {vs : List V} {ds : List G.D} {ns : List Int}, Dats C H vs ds → G.ints? ds = some ns → vs = ns.map V.int ∧ ds = ns.map G.D.int
  | _, [], ns, h, e => by
    cases h
    have e' : [] = ns := Option.some.inj e
    subst e'
    exact ⟨rfl, rfl⟩
  | _, d :: ds, ns, h, e => by
    cases h with
    | cons h1 h2 =>
      cases h1 with
      | int i =>
        unfold G.ints? at e
        cases q : G.ints? ds with
        | none => rw [q] at e; cases e
        | some l =>
          rw [q] at e
          have e' : i :: l = ns := Option.some.inj e
          subst e'
          obtain ⟨a, b⟩ := Dats.ints? h2 q
          rw [a, b]
          exact ⟨rfl, rfl⟩
      | _ => exact nomatch e
theorem Dats.bools? : ∀ {vs : List V} {ds : List G.D} {ns : List Bool}, Dats C H vs ds → G.bools? ds = some ns → vs = ns.map V.bl
  | _, [], ns, h, e => by
    cases h
    have e' : [] = ns := Option.some.inj e
    subst e'
    rfl
  | _, d :: ds, ns, h, e => by
    cases h with
    | cons h1 h2 =>
      cases h1 with
      | bl i =>
        unfold G.bools? at e
        cases q : G.bools? ds with
        | none => rw [q] at e; cases e
        | some l =>
          rw [q] at e
          have e' : i :: l = ns := Option.some.inj e
          subst e'
          rw [Dats.bools? h2 q]
          rfl
      | _ => exact nomatch e
end

/-! ### the slots hold data; slots in W own their lists; S0 is the caller's -/
abbrev Own := Nat → Option Addr
def ows (W : List Nat) (own : Own) : Addr → Bool := fun b => W.any fun i => own i == some b
def sv (W : List Nat) (S0 : Addr → Bool) (own : Own) : Addr → Bool := fun b => S0 b || ows W own b
def vw (st : Bool) (W : List Nat) (S0 : Addr → Bool) (own : Own) : Addr → Bool := if st = true then sv W S0 own else S0
theorem ows_true {W : List Nat} {own : Own} {b : Addr} : ows W own b = true ↔ ∃ i, i ∈ W ∧ own i = some b := by
  unfold ows
  rw [List.any_eq_true]
  constructor
  · rintro ⟨i, h1, h2⟩
    exact ⟨i, h1, beq_iff_eq.mp h2⟩
  · rintro ⟨i, h1, h2⟩
    exact ⟨i, h1, beq_iff_eq.mpr h2⟩
theorem sv_true {W : List Nat} {S0 : Addr → Bool} {own : Own} {b : Addr} : sv W S0 own b = true ↔ S0 b = true ∨ ∃ i, i ∈ W ∧ own i = some b := by
  unfold sv
  rw [Bool.or_eq_true, ows_true]
structure Sim (C : Addr) (W : List Nat) (S0 : Addr → Bool) (own : Own) (σ : St) (ρ : G.Env) (H : Hp) : Prop where
  s0 : ∀ b, S0 b = true → H b ≠ none
  ow : ∀ i a, i ∈ W → own i = some a → S0 a = false ∧ H a ≠ none
  inj : ∀ i j a, i ∈ W → j ∈ W → own i = some a → own j = some a → i = j
  len : σ.length = ρ.length
  pl : ∀ i d, i ∉ W → ρ.getD i none = some d → ∃ v, σ[i]? = some (some v) ∧ Dat C (hid (sv W S0 own) H) v d
  mu : ∀ i d, i ∈ W → ρ.getD i none = some d → ∃ a xs ds, d = .lst ds ∧ σ[i]? = some (some (.ref a)) ∧ own i = some a ∧ H a = some (.lst xs) ∧ Dats C (hid (sv W S0 own) H) xs ds
theorem some_mono {H H' : Hp} {b : Addr} (e : Ex H H') (h : H b ≠ none) : H' b ≠ none := by
  cases q : H b with
  | none => exact absurd q h
  | some o =>
    rw [e b o q]
    exact fun z => nomatch z
section
variable {C : Addr} {W : List Nat} {S0 : Addr → Bool} {own : Own} {σ : St} {ρ : G.Env} {H H' : Hp}
theorem Sim.mono (s : Sim C W S0 own σ ρ H) (e : Ex H H') : Sim C W S0 own σ ρ H' where
  s0 := fun b h => some_mono e (s.s0 b h)
  ow := fun i a hi h => ⟨(s.ow i a hi h).1, some_mono e (s.ow i a hi h).2⟩
  inj := s.inj
  len := s.len
  pl := fun i d hi h => by
    obtain ⟨v, h1, h2⟩ := s.pl i d hi h
    exact ⟨v, h1, h2.mono (ex_hid e)⟩
  mu := fun i d hi h => by
    obtain ⟨a, xs, ds, h0, h1, h2, h3, h4⟩ := s.mu i d hi h
    exact ⟨a, xs, ds, h0, h1, h2, e _ _ h3, h4.mono (ex_hid e)⟩
theorem Sim.dom (s : Sim C W S0 own σ ρ H) (b : Addr) (h : sv W S0 own b = true) : H b ≠ none := by
  rcases sv_true.mp h with q | ⟨i, q1, q2⟩
  · exact s.s0 b q
  · exact (s.ow i b q1 q2).2
theorem vw_dom {st : Bool} (s : Sim C W S0 own σ ρ H) (b : Addr) (h : vw st W S0 own b = true) : H b ≠ none := by
  cases st with
  | true => exact s.dom b h
  | false => exact s.s0 b h
theorem vw_le {st : Bool} (b : Addr) (h : vw st W S0 own b = true) : sv W S0 own b = true := by
  cases st with
  | true => exact h
  | false => exact sv_true.mpr (.inl h)
theorem s0_le {st : Bool} (b : Addr) (h : S0 b = true) : vw st W S0 own b = true := by
  cases st with
  | true => exact sv_true.mpr (.inl h)
  | false => exact h
/-- any slot as the caller may see it -/
theorem Sim.any (s : Sim C W S0 own σ ρ H) {i : Nat} {d : G.D} (h : ρ.getD i none = some d) : ∃ v, σ[i]? = some (some v) ∧ Dat C (hid S0 H) v d := by
  by_cases hi : i ∈ W
  · obtain ⟨a, xs, ds, rfl, h1, h2, h3, h4⟩ := s.mu i d hi h
    exact ⟨.ref a, h1, .lst (hid_of (s.ow i a hi h2).1 h3) (h4.mono (ex_unhid fun b q => sv_true.mpr (.inl q)))⟩
  · obtain ⟨v, h1, h2⟩ := s.pl i d hi h
    exact ⟨v, h1, h2.mono (ex_unhid fun b q => sv_true.mpr (.inl q))⟩
end
end GB

set_option autoImplicit false
set_option Elab.async false
set_option linter.all false
set_option maxRecDepth 100000
set_option maxHeartbeats 4000000
/-! Expressions. -/
namespace GB
open PySem L2

def plus (p : Addr) (S : Addr → Bool) : Addr → Bool := fun b => S b || b == p
theorem plus_true {p : Addr} {S : Addr → Bool} {b : Addr} : plus p S b = true ↔ S b = true ∨ b = p := by
  unfold plus
  rw [Bool.or_eq_true, beq_iff_eq]
theorem plus_le {p : Addr} {S : Addr → Bool} (b : Addr) (h : S b = true) : plus p S b = true := plus_true.mpr (.inl h)
theorem plus_mono {p : Addr} {S S' : Addr → Bool} (h : ∀ b, S b = true → S' b = true) (b : Addr) (q : plus p S b = true) : plus p S' b = true :=
  plus_true.mpr ((plus_true.mp q).imp (h b) id)
theorem ex_plus {S : Addr → Bool} {H : Hp} {p : Addr} {o : HO} (h : H p = none) : Ex (hid S H) (hid (plus p S) (upd H p o)) := fun b u e => by
  obtain ⟨e1, e2⟩ := hid_some e
  have ne : b ≠ p := ne_of_none e2 h
  refine hid_of ?_ (by rw [upd_ne ne]; exact e2)
  cases q : plus p S b with
  | false => rfl
  | true =>
    rcases plus_true.mp q with z | z
    · rw [e1] at z; cases z
    · exact absurd z ne
/-- an older heap's sight, p not there -/
theorem ex_plusE {S : Addr → Bool} {H H' : Hp} {p : Addr} (h : H p = none) (e : Ex H H') : Ex (hid S H) (hid (plus p S) H') := fun b u q => by
  obtain ⟨e1, e2⟩ := hid_some q
  have ne : b ≠ p := ne_of_none e2 h
  refine hid_of ?_ (e _ _ e2)
  cases q : plus p S b with
  | false => rfl
  | true =>
    rcases plus_true.mp q with z | z
    · rw [e1] at z; cases z
    · exact absurd z ne

/-! ### the judgements -/
structure XE (C : Addr) (W : List Nat) (st : Bool) (t : TE) (f : G.FE) : Prop where
  run : ∀ (S0 : Addr → Bool) (own : Own) (σ : L2.St) (ρ : G.Env) (H : Hp), Sim C W S0 own σ ρ H → ∀ d, f ρ = some d → ∀ Q : VK, (∀ v H', Ex H H' → Dat C (hid (vw st W S0 own) H') v d → Q v H') → t σ H Q
/-- a new list -/
structure XF (C : Addr) (W : List Nat) (st : Bool) (t : TE) (f : G.FE) : Prop where
  run : ∀ (S0 : Addr → Bool) (own : Own) (σ : L2.St) (ρ : G.Env) (H : Hp), Sim C W S0 own σ ρ H → ∀ d, f ρ = some d → ∀ Q : VK,
    (∀ p xs ds H', d = .lst ds → H p = none → Ex H H' → H' p = some (.lst xs) → Dats C (hid (plus p (vw st W S0 own)) H') xs ds → Q (.ref p) H') → t σ H Q
structure XA (C : Addr) (W : List Nat) (st : Bool) (t : TA) (f : G.FA) : Prop where
  run : ∀ (S0 : Addr → Bool) (own : Own) (σ : L2.St) (ρ : G.Env) (H : Hp), Sim C W S0 own σ ρ H → ∀ l, f ρ = some l → ∀ Q : List V → Hp → Prop, (∀ vs H', Ex H H' → Dats C (hid (vw st W S0 own) H') vs l → Q vs H') → t σ H Q
structure XT (C : Addr) (W : List Nat) (t : TT) (f : G.FT) : Prop where
  run : ∀ (S0 : Addr → Bool) (own : Own) (σ : L2.St) (ρ : G.Env) (H : Hp), Sim C W S0 own σ ρ H → ∀ b, f ρ = some b → ∀ Q : Bool → Hp → Prop, (∀ H', Ex H H' → Q b H') → t σ H Q
structure XO (C : Addr) (W : List Nat) (t : TO) (f : G.FO) : Prop where
  run : ∀ (S0 : Addr → Bool) (own : Own) (σ : L2.St) (ρ : G.Env) (H : Hp), Sim C W S0 own σ ρ H → ∀ o, f ρ = some o → ∀ Q : Option Int → Hp → Prop, (∀ H', Ex H H' → Q o H') → t σ H Q

section
variable {C : Addr} {W : List Nat} {st : Bool} {K : PySem.W.Frag} {ta tb tc te : TE} {fa fb fc fe : G.FE} {tt tu : TT} {ft fu : G.FT}
theorem x_of_f (h : XF C W st te fe) : XE C W st te fe := ⟨fun S0 own σ ρ H s d e Q q => h.run S0 own σ ρ H s d e Q fun p xs ds H' ed hp ex hp' hd => by
  subst ed
  refine q _ _ ex (.lst (hid_of ?_ hp') (hd.mono (ex_unhid fun b z => plus_le b z)))
  cases z : vw st W S0 own p with
  | false => rfl
  | true => exact absurd hp (vw_dom s p z)⟩
theorem x_weak (h : XE C W true te fe) : XE C W false te fe := ⟨fun S0 own σ ρ H s d e Q q => h.run S0 own σ ρ H s d e Q fun v H' ex hd => q v H' ex (hd.mono (ex_unhid fun b z => s0_le (st := true) b z))⟩
theorem f_weak (h : XF C W true te fe) : XF C W false te fe := ⟨fun S0 own σ ρ H s d e Q q => h.run S0 own σ ρ H s d e Q fun p xs ds H' ed hp ex hp' hd =>
  q p xs ds H' ed hp ex hp' (hd.mono (ex_unhid fun b z => plus_mono (fun b z => s0_le (st := true) b z) b z))⟩
theorem x_sc (h : XE C W false te fe) : XE C W st te (G.fSc fe) := ⟨fun S0 own σ ρ H s d e Q q => by
  unfold G.fSc at e
  cases z : fe ρ with
  | none => rw [z] at e; cases e
  | some d' =>
    rw [z] at e
    dsimp only at e
    by_cases k : G.isSc d' = true
    · rw [if_pos k] at e
      cases e
      exact h.run S0 own σ ρ H s d z Q fun v H' ex hd => q v H' ex (hd.sc k)
    · rw [if_neg k] at e
      cases e⟩
theorem x_scL (h : XF C W false te fe) : XF C W st te (G.fScL fe) := ⟨fun S0 own σ ρ H s d e Q q => by
  unfold G.fScL at e
  cases z : fe ρ with
  | none => rw [z] at e; cases e
  | some d' =>
    rw [z] at e
    cases d' with
    | lst l =>
      dsimp only at e
      by_cases k : l.all G.isSc = true
      · rw [if_pos k] at e
        cases e
        refine h.run S0 own σ ρ H s _ z Q fun p xs ds H' ed hp ex hp' hd => ?_
        cases ed
        exact q p xs l H' rfl hp ex hp' (hd.sc k)
      · rw [if_neg k] at e
        cases e
    | _ => cases e⟩
/-! names, constants -/
theorem x_var {i : Nat} (hi : i ∉ W) : XE C W true (tVar i) (G.fVar i) := ⟨fun S0 own σ ρ H s d e Q q => by
  obtain ⟨v, h1, h2⟩ := s.pl i d hi e
  exact ⟨v, h1, q v H (Ex.refl H) h2⟩⟩
theorem x_varw {i : Nat} : XE C W false (tVar i) (G.fVar i) := ⟨fun S0 own σ ρ H s d e Q q => by
  obtain ⟨v, h1, h2⟩ := s.any e
  exact ⟨v, h1, q v H (Ex.refl H) h2⟩⟩
theorem x_int {i : Int} : XE C W st (tC (.int i)) (G.fC (.int i)) := ⟨fun S0 own σ ρ H s d e Q q => by
  cases e
  exact q _ _ (Ex.refl H) (.int i)⟩
theorem x_bl {i : Bool} : XE C W st (tC (.bl i)) (G.fC (.bl i)) := ⟨fun S0 own σ ρ H s d e Q q => by
  cases e
  exact q _ _ (Ex.refl H) (.bl i)⟩
theorem x_non : XE C W st (tC .non) (G.fC .non) := ⟨fun S0 own σ ρ H s d e Q q => by
  cases e
  exact q _ _ (Ex.refl H) .non⟩
theorem x_txt {x : Str} : XE C W st (tC (.str x)) (G.fC .txt) := ⟨fun S0 own σ ρ H s d e Q q => by
  cases e
  exact q _ _ (Ex.refl H) (.txt x)⟩
/-! ints -/
def IR (r : R2) (g : Int → Int → Option G.D) : Prop := ∀ i j d, g i j = some d → ∃ v, (∀ C H, Dat C H v d) ∧ ∀ (H : Hp) (Q : VK), Q v H → r (.int i) (.int j) H Q
theorem ir_add : IR (rI0 fun i j => .int (i + j)) G.gAdd := fun i j d e => by cases e; exact ⟨.int (i + j), fun _ _ => .int _, fun H Q q => ⟨i, j, rfl, rfl, q⟩⟩
theorem ir_sub : IR (rI0 fun i j => .int (i - j)) G.gSub := fun i j d e => by cases e; exact ⟨.int (i - j), fun _ _ => .int _, fun H Q q => ⟨i, j, rfl, rfl, q⟩⟩
theorem ir_mul : IR (rI CMul fun i j => .int (i * j)) G.gMul := fun i j d e => by
  unfold G.gMul at e
  by_cases k : G.smallI i = true
  · rw [if_pos k] at e
    cases e
    unfold G.smallI at k
    rw [Bool.and_eq_true, decide_eq_true_eq, decide_eq_true_eq] at k
    exact ⟨.int (i * j), fun _ _ => .int _, fun H Q q => ⟨i, j, rfl, rfl, .inl k, q⟩⟩
  · rw [if_neg k] at e
    cases e
theorem ir_div : IR (rI CDiv fun i j => .int (i / j)) G.gDiv := fun i j d e => by
  unfold G.gDiv at e
  by_cases k : (decide (0 < j) && decide (j < 1073741824)) = true
  · rw [if_pos k] at e
    cases e
    rw [Bool.and_eq_true, decide_eq_true_eq, decide_eq_true_eq] at k
    exact ⟨.int (i / j), fun _ _ => .int _, fun H Q q => ⟨i, j, rfl, rfl, k, q⟩⟩
  · rw [if_neg k] at e
    cases e
theorem ir_mod : IR (rI (fun _ j => 0 < j) fun i j => .int (i % j)) G.gMod := fun i j d e => by
  unfold G.gMod at e
  by_cases k : decide (0 < j) = true
  · rw [if_pos k] at e
    cases e
    exact ⟨.int (i % j), fun _ _ => .int _, fun H Q q => ⟨i, j, rfl, rfl, of_decide_eq_true k, q⟩⟩
  · rw [if_neg k] at e
    cases e
theorem ir_lt : IR (rI0 fun i j => .bl (decide (i < j))) G.gLt := fun i j d e => by cases e; exact ⟨.bl _, fun _ _ => .bl _, fun H Q q => ⟨i, j, rfl, rfl, q⟩⟩
theorem ir_le : IR (rI0 fun i j => .bl (decide (i ≤ j))) G.gLe := fun i j d e => by cases e; exact ⟨.bl _, fun _ _ => .bl _, fun H Q q => ⟨i, j, rfl, rfl, q⟩⟩
theorem ir_gt : IR (rI0 fun i j => .bl (decide (j < i))) G.gGt := fun i j d e => by cases e; exact ⟨.bl _, fun _ _ => .bl _, fun H Q q => ⟨i, j, rfl, rfl, q⟩⟩
theorem ir_ge : IR (rI0 fun i j => .bl (decide (j ≤ i))) G.gGe := fun i j d e => by cases e; exact ⟨.bl _, fun _ _ => .bl _, fun H Q q => ⟨i, j, rfl, rfl, q⟩⟩
theorem dec_vi (i j : Int) : decide (V.int i = V.int j) = decide (i = j) := decide_eq_decide.mpr ⟨V.int.inj, congrArg _⟩
theorem ir_eq : IR rEq G.gEq := fun i j d e => by cases e; exact ⟨.bl _, fun _ _ => .bl _, fun H Q q => ⟨rfl, by rw [dec_vi]; exact q⟩⟩
theorem ir_ne : IR rNe G.gNe := fun i j d e => by cases e; exact ⟨.bl _, fun _ _ => .bl _, fun H Q q => ⟨rfl, by rw [dec_vi]; exact q⟩⟩
theorem i2_cases {g : Int → Int → Option G.D} {ρ : G.Env} {d : G.D} (e : G.fI2 g fa fb ρ = some d) : ∃ i j, fa ρ = some (.int i) ∧ fb ρ = some (.int j) ∧ g i j = some d := by
  unfold G.fI2 at e
  split at e
  · exact ⟨_, _, by assumption, by assumption, e⟩
  · cases e
theorem dat_int {H : Hp} {v : V} {i : Int} (h : Dat C H v (.int i)) : v = .int i := by cases h; rfl
theorem dat_bl {H : Hp} {v : V} {i : Bool} (h : Dat C H v (.bl i)) : v = .bl i := by cases h; rfl
theorem x_i2 {r : R2} {g : Int → Int → Option G.D} (hr : IR r g) (ha : XE C W false ta fa) (hb : XE C W false tb fb) : XE C W st (tOp r ta tb) (G.fI2 g fa fb) := ⟨fun S0 own σ ρ H s d e Q q => by
  obtain ⟨i, j, e1, e2, e3⟩ := i2_cases e
  obtain ⟨v, hv, hq⟩ := hr i j d e3
  refine ha.run S0 own σ ρ H s _ e1 _ fun x H1 x1 d1 => ?_
  refine hb.run S0 own σ ρ H1 (s.mono x1) _ e2 _ fun y H2 x2 d2 => ?_
  rw [dat_int d1, dat_int d2]
  exact hq H2 Q (q v H2 (x1.trans x2) (hv _ _))⟩
theorem x_neg (ha : XE C W false ta fa) : XE C W st (tUn (rU fun i => .int (-i)) ta) (G.fNeg fa) := ⟨fun S0 own σ ρ H s d e Q q => by
  unfold G.fNeg at e
  split at e
  · rename_i i z
    cases e
    refine ha.run S0 own σ ρ H s _ z _ fun x H1 x1 d1 => ?_
    rw [dat_int d1]
    exact ⟨i, rfl, q _ _ x1 (.int _)⟩
  · cases e⟩
/-! == of rows -/
theorem dpa_ints {H : Hp} : ∀ ns : List Int, DpAll K H (ns.map V.int) (ns.map PyData.int)
  | [] => .nil
  | i :: r => .cons (.int i) (dpa_ints r)
theorem dpa_rows {H : Hp} : ∀ {vs : List V} {ds : List G.D} {rs : List (List Int)}, Dats C H vs ds → G.rows? ds = some rs → DpAll K H vs (rs.map fun r => .list (r.map PyData.int))
  | _, [], rs, h, e => by
    cases h
    cases e
    exact .nil
  | _, d :: ds, rs, h, e => by
    cases h with
    | cons h1 h2 =>
      cases h1 with
      | lst a1 a2 =>
        unfold G.rows? at e
        split at e
        · rename_i x y p q
          cases e
          rw [(Dats.ints? a2 p).1] at a1
          exact .cons (.lst (.inl (.inl a1)) (dpa_ints x)) (dpa_rows h2 q)
        · cases e
      | _ => exact nomatch e
theorem eqv_ints : ∀ x y : List Int, PyData.eqvAll (x.map .int) (y.map .int) = decide (x = y)
  | [], [] => by simp [PyData.eqvAll]
  | [], _ :: _ => by simp [PyData.eqvAll]
  | _ :: _, [] => by simp [PyData.eqvAll]
  | a :: x, b :: y => by
    rw [List.map_cons, List.map_cons, PyData.eqvAll, eqv_ints x y, PyData.eqv, Bool.eq_iff_iff]
    simp
theorem eqv_rows : ∀ x y : List (List Int), PyData.eqvAll (x.map fun r => .list (r.map PyData.int)) (y.map fun r => .list (r.map PyData.int)) = decide (x = y)
  | [], [] => by simp [PyData.eqvAll]
  | [], _ :: _ => by simp [PyData.eqvAll]
  | _ :: _, [] => by simp [PyData.eqvAll]
  | a :: x, b :: y => by
    rw [List.map_cons, List.map_cons, PyData.eqvAll, eqv_rows x y, PyData.eqv, eqv_ints, Bool.eq_iff_iff]
    simp
theorem lay_ints : ∀ x : List Int, PyData.canLayAll0 (x.map .int) = true ∧ PyData.depthAll (x.map .int) = 0
  | [] => by simp [PyData.canLayAll0, PyData.depthAll]
  | a :: x => by
    have ih := lay_ints x
    rw [List.map_cons, PyData.canLayAll0, PyData.depthAll, ih.1, ih.2]
    simp [PyData.canLay0, PyData.depth]
theorem lay_rows : ∀ x : List (List Int), PyData.canLayAll0 (x.map fun r => .list (r.map PyData.int)) = true ∧ PyData.depthAll (x.map fun r => .list (r.map PyData.int)) ≤ 1
  | [] => by simp [PyData.canLayAll0, PyData.depthAll]
  | a :: x => by
    have ih := lay_rows x
    rw [List.map_cons, PyData.canLayAll0, PyData.depthAll, ih.1, PyData.canLay0, (lay_ints a).1, PyData.depth, (lay_ints a).2]
    refine ⟨rfl, ?_⟩
    have := ih.2
    omega
theorem sh_ints (x : List Int) : SeqAt.shaped (.list (x.map .int)) = true := by
  unfold SeqAt.shaped
  rw [PyData.canLay0, (lay_ints x).1, PyData.depth, (lay_ints x).2]
  rfl
theorem sh_rows (x : List (List Int)) : SeqAt.shaped (.list (x.map fun r => .list (r.map PyData.int))) = true := by
  unfold SeqAt.shaped
  rw [PyData.canLay0, (lay_rows x).1, PyData.depth]
  have h := (lay_rows x).2
  rw [Bool.true_and, decide_eq_true_eq]
  omega
theorem eqD_dp {S : Addr → Bool} {H : Hp} {v u : V} {d e : G.D} {k : Bool} (hv : Dat C (hid S H) v d) (hu : Dat C (hid S H) u e) (h : G.eqD d e = some k) :
    ∃ x y, Dp K H v x ∧ Dp K H u y ∧ SeqAt.shaped x = true ∧ SeqAt.shaped y = true ∧ PyData.eqv x y = k := by
  unfold G.eqD at h
  split at h
  · rename_i a b
    cases hv with
    | lst a1 a2 =>
      cases hu with
      | lst b1 b2 =>
        have a1' := (hid_some a1).2
        have b1' := (hid_some b1).2
        split at h
        · rename_i x y p q
          cases h
          rw [(Dats.ints? a2 p).1] at a1'
          rw [(Dats.ints? b2 q).1] at b1'
          exact ⟨_, _, .lst (.inl (.inl a1')) (dpa_ints x), .lst (.inl (.inl b1')) (dpa_ints y), sh_ints x, sh_ints y, by rw [PyData.eqv, eqv_ints]⟩
        · split at h
          · rename_i x y p q
            cases h
            exact ⟨_, _, .lst (.inl (.inl a1')) (dpa_rows (a2.mono ex_hid_self) p), .lst (.inl (.inl b1')) (dpa_rows (b2.mono ex_hid_self) q), sh_rows x, sh_rows y, by rw [PyData.eqv, eqv_rows]⟩
          · cases h
  · cases h
theorem x_eqD (ha : XE C W false ta fa) (hb : XE C W false tb fb) : XE C W st (tOp (rEqD K) ta tb) (G.fEqD fa fb) := ⟨fun S0 own σ ρ H s d e Q q => by
  unfold G.fEqD at e
  split at e
  · rename_i d1 d2 z1 z2
    split at e
    · rename_i k z
      cases e
      refine ha.run S0 own σ ρ H s _ z1 _ fun x H1 x1 h1 => ?_
      refine hb.run S0 own σ ρ H1 (s.mono x1) _ z2 _ fun y H2 x2 h2 => ?_
      obtain ⟨a, b, q1, q2, q3, q4, q5⟩ := eqD_dp (K := K) (h1.mono (ex_hid x2)) h2 z
      exact ⟨a, b, q1, q2, q3, q4, by rw [q5]; exact q _ _ (x1.trans x2) (.bl k)⟩
    · cases e
  · cases e⟩
theorem x_neD (ha : XE C W false ta fa) (hb : XE C W false tb fb) : XE C W st (tOp (rNeD K) ta tb) (G.fNeD fa fb) := ⟨fun S0 own σ ρ H s d e Q q => by
  unfold G.fNeD at e
  split at e
  · rename_i d1 d2 z1 z2
    split at e
    · rename_i k z
      cases e
      refine ha.run S0 own σ ρ H s _ z1 _ fun x H1 x1 h1 => ?_
      refine hb.run S0 own σ ρ H1 (s.mono x1) _ z2 _ fun y H2 x2 h2 => ?_
      obtain ⟨a, b, q1, q2, q3, q4, q5⟩ := eqD_dp (K := K) (h1.mono (ex_hid x2)) h2 z
      exact ⟨a, b, q1, q2, q3, q4, by rw [q5]; exact q _ _ (x1.trans x2) (.bl (!k))⟩
    · cases e
  · cases e⟩
/-- is True -/
theorem x_isTrue (ha : XE C W false ta fa) : XE C W st (tOp rIsB ta (tC (.bl true))) (G.fIsTrue fa) := ⟨fun S0 own σ ρ H s d e Q q => by
  unfold G.fIsTrue at e
  split at e
  · rename_i k z
    cases e
    refine ha.run S0 own σ ρ H s _ z _ fun x H1 x1 h1 => ?_
    rw [dat_bl h1]
    refine ⟨k, true, rfl, rfl, ?_⟩
    have ek : decide (k = true) = k := by cases k <;> rfl
    rw [ek]
    exact q _ _ x1 (.bl k)
  · cases e⟩
/-! lists -/
theorem x_cat (ha : XE C W st ta fa) (hb : XE C W st tb fb) : XF C W st (tOp rCat ta tb) (G.fCat fa fb) := ⟨fun S0 own σ ρ H s d e Q q => by
  unfold G.fCat at e
  split at e
  · rename_i l1 l2 z1 z2
    split at e
    · rename_i hl
      cases e
      refine ha.run S0 own σ ρ H s _ z1 _ fun x H1 x1 h1 => ?_
      refine hb.run S0 own σ ρ H1 (s.mono x1) _ z2 _ fun y H2 x2 h2 => ?_
      have h1' := h1.mono (ex_hid x2)
      cases h1' with
      | lst a1 a2 =>
        cases h2 with
        | lst b1 b2 =>
          refine ⟨_, _, _, _, rfl, rfl, (hid_some a1).2, (hid_some b1).2, ?_, fun p hp => ?_⟩
          · rw [a2.length, b2.length]
            exact Nat.le_trans hl (by decide)
          · exact q p _ _ _ rfl (fresh_back (x1.trans x2) hp) ((x1.trans x2).trans (Ex.new hp)) upd_same ((a2.append b2).mono (ex_plus hp))
    · cases e
  · cases e⟩
theorem x_rep (ha : XE C W st ta fa) (hb : XE C W false tb fb) : XF C W st (tOp rRep ta tb) (G.fRep fa fb) := ⟨fun S0 own σ ρ H s d e Q q => by
  unfold G.fRep at e
  split at e
  · rename_i l k z1 z2
    split at e
    · rename_i hl
      rw [Bool.and_eq_true, Bool.and_eq_true, decide_eq_true_eq, decide_eq_true_eq, decide_eq_true_eq] at hl
      obtain ⟨⟨k1, k2⟩, k3⟩ := hl
      cases e
      refine ha.run S0 own σ ρ H s _ z1 _ fun x H1 x1 h1 => ?_
      refine hb.run S0 own σ ρ H1 (s.mono x1) _ z2 _ fun y H2 x2 h2 => ?_
      have h1' := h1.mono (ex_hid x2)
      rw [dat_int h2]
      cases h1' with
      | lst a1 a2 =>
        refine ⟨_, _, _, rfl, rfl, (hid_some a1).2, by omega, by omega, ?_, fun p hp => ?_⟩
        · rw [a2.length]
          have h3 : k.toNat ≤ 100000 := by omega
          have h4 : l.length * k.toNat ≤ 10 * 100000 := Nat.mul_le_mul k3 h3
          exact Nat.le_trans h4 (by decide)
        · exact q p _ _ _ rfl (fresh_back (x1.trans x2) hp) ((x1.trans x2).trans (Ex.new hp)) upd_same ((a2.rep _).mono (ex_plus hp))
    · cases e
  · cases e⟩
theorem pIx_at {H : Hp} {vs : List V} {l : List G.D} {i : Int} {d : G.D} (h : Dats C H vs l) (e : G.pIx l i = some d) : ∃ v, atI vs i = some v ∧ Dat C H v d := by
  unfold G.pIx at e
  have hl := h.length
  unfold atI ixN
  by_cases h0 : 0 ≤ i
  · rw [if_pos h0] at e
    have hlt : i.toNat < l.length := (List.getElem?_eq_some_iff.mp e).1
    obtain ⟨v, h1, h2⟩ := h.get e
    refine ⟨v, ?_, h2⟩
    rw [if_pos h0, if_pos (by omega)]
    exact h1
  · rw [if_neg h0] at e
    by_cases h1 : -(l.length : Int) ≤ i
    · rw [if_pos h1] at e
      obtain ⟨v, h2, h3⟩ := h.get e
      refine ⟨v, ?_, h3⟩
      rw [if_neg h0, if_pos (by omega), hl]
      exact h2
    · rw [if_neg h1] at e
      cases e
theorem x_ixL (ha : XE C W st ta fa) (hb : XE C W false tb fb) : XE C W st (tOp (rIxL K) ta tb) (G.fIxL fa fb) := ⟨fun S0 own σ ρ H s d e Q q => by
  unfold G.fIxL at e
  split at e
  · rename_i l i z1 z2
    refine ha.run S0 own σ ρ H s _ z1 _ fun x H1 x1 h1 => ?_
    refine hb.run S0 own σ ρ H1 (s.mono x1) _ z2 _ fun y H2 x2 h2 => ?_
    have h1' := h1.mono (ex_hid x2)
    rw [dat_int h2]
    cases h1' with
    | lst a1 a2 =>
      obtain ⟨v, e1, e2⟩ := pIx_at a2 e
      exact ⟨_, _, i, v, rfl, rfl, .inl (.inl (hid_some a1).2), e1, q _ _ (x1.trans x2) e2⟩
  · cases e⟩
/-- an item of an owned list -/
theorem x_ixW {i : Nat} (hi : i ∈ W) (hb : XE C W false tb fb) : XE C W true (tOp (rIxL K) (tVar i) tb) (G.fIxL (G.fVar i) fb) := ⟨fun S0 own σ ρ H s d e Q q => by
  unfold G.fIxL at e
  split at e
  · rename_i l j z1 z2
    obtain ⟨a, xs, ds, ed, h1, h2, h3, h4⟩ := s.mu i _ hi z1
    cases ed
    refine ⟨.ref a, h1, ?_⟩
    refine hb.run S0 own σ ρ H s _ z2 _ fun y H2 x2 h5 => ?_
    rw [dat_int h5]
    obtain ⟨v, e1, e2⟩ := pIx_at (h4.mono (ex_hid x2)) e
    exact ⟨a, xs, j, v, rfl, rfl, .inl (.inl (x2 _ _ h3)), e1, q _ _ x2 e2⟩
  · cases e⟩
theorem x_ixT (ha : XE C W st ta fa) (hb : XE C W false tb fb) : XE C W st (tOp (rIxT K) ta tb) (G.fIxT fa fb) := ⟨fun S0 own σ ρ H s d e Q q => by
  unfold G.fIxT at e
  split at e
  · rename_i l i z1 z2
    refine ha.run S0 own σ ρ H s _ z1 _ fun x H1 x1 h1 => ?_
    refine hb.run S0 own σ ρ H1 (s.mono x1) _ z2 _ fun y H2 x2 h2 => ?_
    have h1' := h1.mono (ex_hid x2)
    rw [dat_int h2]
    cases h1' with
    | tup a1 a2 =>
      obtain ⟨v, e1, e2⟩ := pIx_at a2 e
      exact ⟨_, _, i, v, rfl, rfl, .inl (.inl (hid_some a1).2), e1, q _ _ (x1.trans x2) e2⟩
  · cases e⟩
theorem o_none : XO C W tNoPart G.oNone := ⟨fun S0 own σ ρ H s o e Q q => by cases e; exact q H (Ex.refl H)⟩
theorem o_some (ha : XE C W false ta fa) : XO C W (tPart ta) (G.oSome fa) := ⟨fun S0 own σ ρ H s o e Q q => by
  unfold G.oSome at e
  split at e
  · rename_i i z
    cases e
    refine ha.run S0 own σ ρ H s _ z _ fun x H1 x1 h1 => ?_
    rw [dat_int h1]
    exact ⟨i, rfl, q H1 x1⟩
  · cases e⟩
theorem cut_eq {vs : List V} {l : List G.D} {H : Hp} (h : Dats C H vs l) (lo hi : Option Int) : Dats C H (cutV vs lo hi) (G.cutD l lo hi) := by
  have e : ∀ (n d : Nat) (o : Option Int), HT.sIx n d o = G.cIx n d o := fun n d o => by cases o <;> rfl
  unfold cutV G.cutD
  rw [e, e, h.length]
  exact (h.drop _).take _
theorem x_sl {tl th : TO} {fl fh : G.FO} (ha : XE C W st ta fa) (h1 : XO C W tl fl) (h2 : XO C W th fh) : XF C W st (tSl (rSlL K) ta tl th) (G.fSl fa fl fh) := ⟨fun S0 own σ ρ H s d e Q q => by
  unfold G.fSl at e
  split at e
  · rename_i l x y z1 z2 z3
    cases e
    refine ha.run S0 own σ ρ H s _ z1 _ fun v H1 x1 d1 => ?_
    refine h1.run S0 own σ ρ H1 (s.mono x1) _ z2 _ fun H2 x2 => ?_
    refine h2.run S0 own σ ρ H2 (s.mono (x1.trans x2)) _ z3 _ fun H3 x3 => ?_
    have d1' := d1.mono (ex_hid (x2.trans x3))
    have xa := (x1.trans x2).trans x3
    cases d1' with
    | lst a1 a2 => exact ⟨_, _, rfl, .inl (.inl (hid_some a1).2), fun p hp => q p _ _ _ rfl (fresh_back xa hp) (xa.trans (Ex.new hp)) upd_same ((cut_eq a2 x y).mono (ex_plus hp))⟩
  · cases e⟩
theorem x_rev (ha : XE C W st ta fa) : XF C W st (tRevL K ta) (G.fRev fa) := ⟨fun S0 own σ ρ H s d e Q q => by
  unfold G.fRev at e
  split at e
  · rename_i l z1
    cases e
    refine ha.run S0 own σ ρ H s _ z1 _ fun v H1 x1 d1 => ?_
    cases d1 with
    | lst a1 a2 => exact ⟨_, _, rfl, .inl (.inl (hid_some a1).2), fun p hp => q p _ _ _ rfl (fresh_back x1 hp) (x1.trans (Ex.new hp)) upd_same (a2.reverse.mono (ex_plus hp))⟩
  · cases e⟩
def aname : Nat → Str
  | 0 => "own_prime" | 1 => "own_turns" | 2 => "own_size" | 3 => "own_modulus" | 4 => "own_powers" | _ => "own_logs"
theorem x_attr (n : Nat) (hC : Cls K C) (hn : NoAttr K C (aname n)) (ha : XE C W st ta fa) : XE C W st (tFld K ta (aname n)) (G.fAttr n fa) := ⟨fun S0 own σ ρ H s d e Q q => by
  unfold G.fAttr at e
  split at e
  · rename_i F z1
    cases e
    refine ha.run S0 own σ ρ H s _ z1 _ fun v H1 x1 d1 => ?_
    cases d1 with
    | @fld a dx m qq l fs F h1 h2 h3 h4 h5 =>
      match n, hn with
      | 0, hn => exact ⟨a, C, dx, fs, _, rfl, (hid_some h1).2, hC, hn, h2.p, q _ _ x1 (.int _)⟩
      | 1, hn => exact ⟨a, C, dx, fs, _, rfl, (hid_some h1).2, hC, hn, h2.t, q _ _ x1 (.int _)⟩
      | 2, hn => exact ⟨a, C, dx, fs, _, rfl, (hid_some h1).2, hC, hn, h2.s, q _ _ x1 (.int _)⟩
      | 3, hn => exact ⟨a, C, dx, fs, _, rfl, (hid_some h1).2, hC, hn, h2.m, q _ _ x1 (.lst h3 (Dats.ints _))⟩
      | 4, hn => exact ⟨a, C, dx, fs, _, rfl, (hid_some h1).2, hC, hn, h2.q, q _ _ x1 (.lst h4 (Dats.ints _))⟩
      | _ + 5, hn => exact ⟨a, C, dx, fs, _, rfl, (hid_some h1).2, hC, hn, h2.l, q _ _ x1 (.lst h5 (Dats.ints _))⟩
  · cases e⟩
/-! argument lists -/
theorem a_nil : XA C W st tNil G.aNil := ⟨fun S0 own σ ρ H s l e Q q => by cases e; exact q [] H (Ex.refl H) .nil⟩
theorem a_cons {tr : TA} {fr : G.FA} (ha : XE C W st ta fa) (hr : XA C W st tr fr) : XA C W st (tCons ta tr) (G.aCons fa fr) := ⟨fun S0 own σ ρ H s l e Q q => by
  unfold G.aCons at e
  split at e
  · rename_i d r z1 z2
    cases e
    refine ha.run S0 own σ ρ H s _ z1 _ fun v H1 x1 d1 => ?_
    refine hr.run S0 own σ ρ H1 (s.mono x1) _ z2 _ fun vs H2 x2 d2 => ?_
    exact q _ _ (x1.trans x2) (.cons (d1.mono (ex_hid x2)) d2)
  · cases e⟩
theorem x_lst {t : TA} {f : G.FA} (h : XA C W st t f) (hl : ∀ ρ l, f ρ = some l → l.length ≤ 1000) : XF C W st (tLst t) (G.fLst f) := ⟨fun S0 own σ ρ H s d e Q q => by
  unfold G.fLst at e
  split at e
  · rename_i l z
    cases e
    refine h.run S0 own σ ρ H s _ z _ fun vs H1 x1 d1 => ?_
    refine ⟨?_, fun p hp => q p _ _ _ rfl (fresh_back x1 hp) (x1.trans (Ex.new hp)) upd_same (d1.mono (ex_plus hp))⟩
    rw [d1.length]
    exact Nat.le_trans (hl ρ l z) (by decide)
  · cases e⟩
theorem x_tup {t : TA} {f : G.FA} (h : XA C W st t f) (hl : ∀ ρ l, f ρ = some l → l.length ≤ 1000) : XE C W st (tTup t) (G.fTup f) := ⟨fun S0 own σ ρ H s d e Q q => by
  unfold G.fTup at e
  split at e
  · rename_i l z
    cases e
    refine h.run S0 own σ ρ H s _ z _ fun vs H1 x1 d1 => ?_
    refine ⟨?_, fun p hp => q _ _ (x1.trans (Ex.new hp)) (.tup (hid_of ?_ upd_same) (d1.mono (ex_hid (Ex.new hp))))⟩
    · rw [d1.length]
      exact Nat.le_trans (hl ρ l z) (by decide)
    · cases k : vw st W S0 own p with
      | false => rfl
      | true => exact absurd hp (vw_dom (s.mono x1) p k)
  · cases e⟩
/-- how many a written list of arguments has -/
inductive Few : G.FA → Nat → Prop
  | nil : Few G.aNil 0
  | cons {a : G.FE} {r : G.FA} {n : Nat} : Few r n → Few (G.aCons a r) (n + 1)
theorem Few.len {f : G.FA} {n : Nat} (h : Few f n) : ∀ ρ l, f ρ = some l → l.length = n := by
  induction h with
  | nil =>
    intro ρ l e
    cases e
    rfl
  | cons h ih =>
    intro ρ l e
    unfold G.aCons at e
    split at e
    · rename_i d r z1 z2
      cases e
      rw [List.length_cons, ih ρ _ z2]
    · cases e
theorem Few.ok {f : G.FA} {n : Nat} (h : Few f n) (hn : n ≤ 1000 := by decide) : ∀ ρ l, f ρ = some l → l.length ≤ 1000 := fun ρ l e => by rw [h.len ρ l e]; exact hn
/-! tests -/
theorem t_test (h : XE C W false te fe) : XT C W (tTest te) (G.fTest fe) := ⟨fun S0 own σ ρ H s b e Q q => by
  unfold G.fTest at e
  split at e
  · rename_i k z
    cases e
    refine h.run S0 own σ ρ H s _ z _ fun v H1 x1 d1 => ?_
    rw [dat_bl d1]
    exact ⟨b, rfl, q H1 x1⟩
  · cases e⟩
theorem t_B (h : XE C W false te fe) : XT C W (tB te) (G.fTest fe) := t_test h
theorem t_and (h1 : XT C W tt ft) (h2 : XT C W tu fu) : XT C W (tAnd tt tu) (G.tAnd ft fu) := ⟨fun S0 own σ ρ H s b e Q q => by
  unfold G.tAnd at e
  split at e
  · rename_i z
    refine h1.run S0 own σ ρ H s _ z _ fun H1 x1 => ?_
    rw [if_pos rfl]
    exact h2.run S0 own σ ρ H1 (s.mono x1) _ e _ fun H2 x2 => q H2 (x1.trans x2)
  · rename_i z
    cases e
    refine h1.run S0 own σ ρ H s _ z _ fun H1 x1 => ?_
    rw [if_neg Bool.false_ne_true]
    exact q H1 x1
  · cases e⟩
theorem t_or (h1 : XT C W tt ft) (h2 : XT C W tu fu) : XT C W (tOr tt tu) (G.tOr ft fu) := ⟨fun S0 own σ ρ H s b e Q q => by
  unfold G.tOr at e
  split at e
  · rename_i z
    cases e
    refine h1.run S0 own σ ρ H s _ z _ fun H1 x1 => ?_
    rw [if_pos rfl]
    exact q H1 x1
  · rename_i z
    refine h1.run S0 own σ ρ H s _ z _ fun H1 x1 => ?_
    rw [if_neg Bool.false_ne_true]
    exact h2.run S0 own σ ρ H1 (s.mono x1) _ e _ fun H2 x2 => q H2 (x1.trans x2)
  · cases e⟩
theorem t_not (h1 : XT C W tt ft) : XT C W (tNot tt) (G.tNot ft) := ⟨fun S0 own σ ρ H s b e Q q => by
  unfold G.tNot at e
  split at e
  · rename_i k z
    cases e
    exact h1.run S0 own σ ρ H s _ z _ fun H1 x1 => q H1 x1
  · cases e⟩
theorem t_yes : XT C W tYes G.tYes := ⟨fun S0 own σ ρ H s b e Q q => by cases e; exact q H (Ex.refl H)⟩
theorem x_if (ht : XT C W tt ft) (ha : XE C W st ta fa) (hb : XE C W st tb fb) : XE C W st (tIf tt ta tb) (G.fIf ft fa fb) := ⟨fun S0 own σ ρ H s d e Q q => by
  unfold G.fIf at e
  split at e
  · rename_i z
    refine ht.run S0 own σ ρ H s _ z _ fun H1 x1 => ?_
    rw [if_pos rfl]
    exact ha.run S0 own σ ρ H1 (s.mono x1) _ e _ fun v H2 x2 hd => q v H2 (x1.trans x2) hd
  · rename_i z
    refine ht.run S0 own σ ρ H s _ z _ fun H1 x1 => ?_
    rw [if_neg Bool.false_ne_true]
    exact hb.run S0 own σ ρ H1 (s.mono x1) _ e _ fun v H2 x2 hd => q v H2 (x1.trans x2) hd
  · cases e⟩
theorem x_andV (ha : XE C W false ta fa) (hb : XE C W st tb fb) : XE C W st (tAndV ta tb) (G.fAndV fa fb) := ⟨fun S0 own σ ρ H s d e Q q => by
  unfold G.fAndV at e
  split at e
  · rename_i z
    refine ha.run S0 own σ ρ H s _ z _ fun v H1 x1 d1 => ?_
    rw [dat_bl d1]
    refine ⟨true, rfl, ?_⟩
    rw [if_pos rfl]
    exact hb.run S0 own σ ρ H1 (s.mono x1) _ e _ fun v H2 x2 hd => q v H2 (x1.trans x2) hd
  · rename_i z
    cases e
    refine ha.run S0 own σ ρ H s _ z _ fun v H1 x1 d1 => ?_
    rw [dat_bl d1]
    refine ⟨false, rfl, ?_⟩
    rw [if_neg Bool.false_ne_true]
    exact q _ _ x1 (.bl false)
  · cases e⟩
theorem x_orV (ha : XE C W false ta fa) (hb : XE C W st tb fb) : XE C W st (tOrV ta tb) (G.fOrV fa fb) := ⟨fun S0 own σ ρ H s d e Q q => by
  unfold G.fOrV at e
  split at e
  · rename_i z
    cases e
    refine ha.run S0 own σ ρ H s _ z _ fun v H1 x1 d1 => ?_
    rw [dat_bl d1]
    refine ⟨true, rfl, ?_⟩
    rw [if_pos rfl]
    exact q _ _ x1 (.bl true)
  · rename_i z
    refine ha.run S0 own σ ρ H s _ z _ fun v H1 x1 d1 => ?_
    rw [dat_bl d1]
    refine ⟨false, rfl, ?_⟩
    rw [if_neg Bool.false_ne_true]
    exact hb.run S0 own σ ρ H1 (s.mono x1) _ e _ fun v H2 x2 hd => q v H2 (x1.trans x2) hd
  · cases e⟩
theorem x_notV (ha : XE C W false ta fa) : XE C W st (tNotV ta) (G.fNotV fa) := ⟨fun S0 own σ ρ H s d e Q q => by
  unfold G.fNotV at e
  split at e
  · rename_i k z
    cases e
    refine ha.run S0 own σ ρ H s _ z _ fun v H1 x1 d1 => ?_
    rw [dat_bl d1]
    exact ⟨k, rfl, q _ _ x1 (.bl (!k))⟩
  · cases e⟩
theorem x_chain {r r' : R2} {g g' : Int → Int → Option G.D} (hr : IR r g) (hr' : IR r' g') (ha : XE C W false ta fa) (hb : XE C W false tb fb) (hc : XE C W false tc fc) :
    XE C W st (tChain r r' ta tb tc) (G.fChain g g' fa fb fc) := ⟨fun S0 own σ ρ H s d e Q q => by
  unfold G.fChain at e
  split at e
  · rename_i i j z1 z2
    refine ha.run S0 own σ ρ H s _ z1 _ fun v H1 x1 d1 => ?_
    refine hb.run S0 own σ ρ H1 (s.mono x1) _ z2 _ fun u H2 x2 d2 => ?_
    rw [dat_int d1, dat_int d2]
    split at e
    · rename_i z3
      obtain ⟨w, hw, hq⟩ := hr i j _ z3
      refine hq H2 _ ?_
      refine ⟨true, dat_bl (hw C H2), ?_⟩
      rw [if_pos rfl]
      split at e
      · rename_i k z4
        refine hc.run S0 own σ ρ H2 (s.mono (x1.trans x2)) _ z4 _ fun y H3 x3 d3 => ?_
        rw [dat_int d3]
        obtain ⟨w2, hw2, hq2⟩ := hr' j k _ e
        exact hq2 H3 _ (q _ _ ((x1.trans x2).trans x3) (hw2 _ _))
      · cases e
    · rename_i z3
      cases e
      obtain ⟨w, hw, hq⟩ := hr i j _ z3
      refine hq H2 _ ?_
      refine ⟨false, dat_bl (hw C H2), ?_⟩
      rw [if_neg Bool.false_ne_true]
      exact q _ _ (x1.trans x2) (.bl false)
    · cases e
  · cases e⟩
end
end GB

set_option autoImplicit false
set_option Elab.async false
set_option linter.all false
set_option maxRecDepth 100000
set_option maxHeartbeats 4000000
/-! Built-in calls, calls, what is walked, comprehensions. -/
namespace GB
open PySem L2

section
variable {C : Addr} {W : List Nat} {st : Bool} {K : PySem.W.Frag} {ta tb tc te : TE} {fa fb fc fe : G.FE} {tt tu : TT} {ft fu : G.FT}
theorem b1_cases {g : G.D → Option G.D} {ρ : G.Env} {d : G.D} (e : G.fB1 g fa ρ = some d) : ∃ x, fa ρ = some x ∧ g x = some d := by
  unfold G.fB1 at e
  split at e
  · exact ⟨_, by assumption, e⟩
  · cases e
theorem x_len (ha : XE C W false ta fa) : XE C W st (tCB (fun xs H Q => ∃ p ys, xs = [.ref p] ∧ (SqL K H p ys ∨ SqT K H p ys) ∧ Q (.int ys.length) H) (tCons ta tNil)) (G.fB1 G.bLen fa) := ⟨fun S0 own σ ρ H s d e Q q => by
  obtain ⟨x, e1, e2⟩ := b1_cases e
  unfold G.bLen at e2
  split at e2
  · rename_i l
    cases e2
    refine ha.run S0 own σ ρ H s _ e1 _ fun v H1 x1 d1 => ?_
    cases d1 with
    | lst a1 a2 => exact ⟨_, _, rfl, .inl (.inl (.inl (hid_some a1).2)), by rw [a2.length]; exact q _ _ x1 (.int _)⟩
  · cases e2⟩
theorem x_list (ha : XE C W st ta fa) : XF C W st (tCB (fun xs H Q => ∃ p ys, xs = [.ref p] ∧ (SqL K H p ys ∨ SqT K H p ys) ∧ ∀ l, H l = none → Q (.ref l) (upd H l (.lst ys))) (tCons ta tNil)) (G.fB1 G.bList fa) := ⟨fun S0 own σ ρ H s d e Q q => by
  obtain ⟨x, e1, e2⟩ := b1_cases e
  unfold G.bList at e2
  split at e2
  · rename_i l
    cases e2
    refine ha.run S0 own σ ρ H s _ e1 _ fun v H1 x1 d1 => ?_
    cases d1 with
    | lst a1 a2 => exact ⟨_, _, rfl, .inl (.inl (.inl (hid_some a1).2)), fun p hp => q p _ _ _ rfl (fresh_back x1 hp) (x1.trans (Ex.new hp)) upd_same (a2.mono (ex_plus hp))⟩
  · cases e2⟩
theorem x_sum (ha : XE C W false ta fa) : XE C W st (tCB (rSum K) (tCons ta tNil)) (G.fB1 G.bSum fa) := ⟨fun S0 own σ ρ H s d e Q q => by
  obtain ⟨x, e1, e2⟩ := b1_cases e
  unfold G.bSum at e2
  split at e2
  · rename_i l
    split at e2
    · rename_i ns z
      cases e2
      refine ha.run S0 own σ ρ H s _ e1 _ fun v H1 x1 d1 => ?_
      cases d1 with
      | lst a1 a2 =>
        rw [(Dats.ints? a2 z).1] at a1
        exact ⟨_, ns, rfl, .inl (.inl (hid_some a1).2), q _ _ x1 (.int _)⟩
    · cases e2
  · cases e2⟩
theorem x_all (ha : XE C W false ta fa) : XE C W st (tCB (rAll K) (tCons ta tNil)) (G.fB1 G.bAll fa) := ⟨fun S0 own σ ρ H s d e Q q => by
  obtain ⟨x, e1, e2⟩ := b1_cases e
  unfold G.bAll at e2
  split at e2
  · rename_i l
    split at e2
    · rename_i ns z
      cases e2
      refine ha.run S0 own σ ρ H s _ e1 _ fun v H1 x1 d1 => ?_
      cases d1 with
      | lst a1 a2 =>
        rw [Dats.bools? a2 z] at a1
        exact ⟨_, ns, rfl, .inl (.inl (hid_some a1).2), q _ _ x1 (.bl _)⟩
    · cases e2
  · cases e2⟩
theorem x_toInt (ha : XE C W false ta fa) : XE C W st (tCB (fun xs H Q => (∃ i, xs = [.int i] ∧ Q (.int i) H) ∨ ∃ k, xs = [.bl k] ∧ Q (.int (if k then 1 else 0)) H) (tCons ta tNil)) (G.fB1 G.bInt fa) := ⟨fun S0 own σ ρ H s d e Q q => by
  obtain ⟨x, e1, e2⟩ := b1_cases e
  unfold G.bInt at e2
  split at e2
  · rename_i i
    cases e2
    refine ha.run S0 own σ ρ H s _ e1 _ fun v H1 x1 d1 => ?_
    rw [dat_int d1]
    exact .inl ⟨i, rfl, q _ _ x1 (.int _)⟩
  · cases e2⟩
theorem x_max2 (ha : XE C W false ta fa) (hb : XE C W false tb fb) : XE C W st (tCB (fun xs H Q => ∃ i j, xs = [.int i, .int j] ∧ Q (.int (if j > i then j else i)) H) (tCons ta (tCons tb tNil))) (G.fI2 G.gMax2 fa fb) := ⟨fun S0 own σ ρ H s d e Q q => by
  obtain ⟨i, j, e1, e2, e3⟩ := i2_cases e
  cases e3
  refine ha.run S0 own σ ρ H s _ e1 _ fun x H1 x1 d1 => ?_
  refine hb.run S0 own σ ρ H1 (s.mono x1) _ e2 _ fun y H2 x2 d2 => ?_
  rw [dat_int d1, dat_int d2]
  exact ⟨i, j, rfl, q _ _ (x1.trans x2) (.int _)⟩⟩
theorem x_divmod (ha : XE C W false ta fa) (hb : XE C W false tb fb) : XE C W st (tCB (fun xs H Q => ∃ i j, xs = [.int i, .int j] ∧ CDiv i j ∧ ∀ p, H p = none → Q (.ref p) (upd H p (.tup [.int (i / j), .int (i % j)]))) (tCons ta (tCons tb tNil))) (G.fI2 G.gDivmod fa fb) := ⟨fun S0 own σ ρ H s d e Q q => by
  obtain ⟨i, j, e1, e2, e3⟩ := i2_cases e
  unfold G.gDivmod at e3
  by_cases k : (decide (0 < j) && decide (j < 1073741824)) = true
  · rw [if_pos k] at e3
    cases e3
    rw [Bool.and_eq_true, decide_eq_true_eq, decide_eq_true_eq] at k
    refine ha.run S0 own σ ρ H s _ e1 _ fun x H1 x1 d1 => ?_
    refine hb.run S0 own σ ρ H1 (s.mono x1) _ e2 _ fun y H2 x2 d2 => ?_
    rw [dat_int d1, dat_int d2]
    refine ⟨i, j, rfl, k, fun p hp => q _ _ ((x1.trans x2).trans (Ex.new hp)) (.tup (hid_of ?_ upd_same) (.cons (.int _) (.cons (.int _) .nil)))⟩
    cases z : vw st W S0 own p with
    | false => rfl
    | true => exact absurd hp (vw_dom (s.mono (x1.trans x2)) p z)
  · rw [if_neg k] at e3
    cases e3⟩
theorem inV_ints (i : Int) : ∀ l : List Int, inV (.int i) (l.map V.int) = l.contains i
  | [] => rfl
  | j :: r => by
    show (eqV (.int j) (.int i) || inV (.int i) (r.map V.int)) = _
    rw [inV_ints i r, List.contains_cons]
    congr 1
    show (j == i) = (i == j)
    rw [Bool.eq_iff_iff, beq_iff_eq, beq_iff_eq]
    exact ⟨Eq.symm, Eq.symm⟩
theorem x_notInK {l : List Int} {a : Addr} (hl : ∀ H, SqT K H a (l.map V.int)) (ha : XE C W false ta fa) : XE C W st (tOp (rIn K true) ta (tC (.ref a))) (G.fNotIn l fa) := ⟨fun S0 own σ ρ H s d e Q q => by
  unfold G.fNotIn at e
  split at e
  · rename_i i z
    cases e
    refine ha.run S0 own σ ρ H s _ z _ fun x H1 x1 d1 => ?_
    rw [dat_int d1]
    refine ⟨a, l.map V.int, rfl, .inr (hl H1), rfl, List.all_eq_true.mpr (fun x hx => by obtain ⟨i, _, rfl⟩ := List.mem_map.mp hx; rfl), ?_⟩
    rw [if_pos rfl, inV_ints]
    exact q _ _ x1 (.bl _)
  · cases e⟩
theorem kit_int : PySem.W.kitOne K (.type "int") (.type "int") = some true := kit_ty (by decide +kernel)
theorem kit_bool : PySem.W.kitOne K (.type "int") (.type "bool") = some false := kit_ty (by decide +kernel)
theorem kit_list : PySem.W.kitOne K (.type "list") (.type "list") = some true := kit_ty (by decide +kernel)
theorem x_isInt (ha : XE C W false ta fa) : XE C W st (tCB (rIsi K) (tCons ta (tCons (tC (.ty "int")) tNil))) (G.fB1 G.bIsInt fa) := ⟨fun S0 own σ ρ H s d e Q q => by
  obtain ⟨x, e1, e2⟩ := b1_cases e
  unfold G.bIsInt at e2
  split at e2
  · rename_i i
    cases e2
    refine ha.run S0 own σ ρ H s _ e1 _ fun v H1 x1 d1 => ?_
    rw [dat_int d1]
    exact ⟨.int i, .ty "int", _, _, true, rfl, .ty "int", .base (.int i), kit_int, q _ _ x1 (.bl _)⟩
  · cases e2⟩
theorem x_isBool (ha : XE C W false ta fa) : XE C W st (tCB (rIsi K) (tCons ta (tCons (tC (.ty "bool")) tNil))) (G.fB1 G.bIsBool fa) := ⟨fun S0 own σ ρ H s d e Q q => by
  obtain ⟨x, e1, e2⟩ := b1_cases e
  unfold G.bIsBool at e2
  split at e2
  · rename_i i
    cases e2
    refine ha.run S0 own σ ρ H s _ e1 _ fun v H1 x1 d1 => ?_
    rw [dat_int d1]
    exact ⟨.int i, .ty "bool", _, _, false, rfl, .ty "bool", .base (.int i), kit_bool, q _ _ x1 (.bl _)⟩
  · cases e2⟩
theorem x_isList (ha : XE C W false ta fa) : XE C W st (tCB (rIsiT K) (tCons ta (tCons (tTup (tCons (tC (.ty "list")) (tCons (tC (.ty "tuple")) tNil))) tNil))) (G.fB1 G.bIsList fa) := ⟨fun S0 own σ ρ H s d e Q q => by
  obtain ⟨x, e1, e2⟩ := b1_cases e
  unfold G.bIsList at e2
  split at e2
  · rename_i l
    cases e2
    refine ha.run S0 own σ ρ H s _ e1 _ fun v H1 x1 d1 => ?_
    cases d1 with
    | @lst a xs ds a1 a2 =>
      refine ⟨by show 2 ≤ sizeLine; decide, fun p hp => ?_⟩
      have h1 : upd H1 p (.tup [.ty "list", .ty "tuple"]) a = some (.lst xs) := Ex.new hp _ _ (hid_some a1).2
      exact ⟨.ref a, p, [.ty "list", .ty "tuple"], .type "list", [.type "list", .type "tuple"], true, rfl, upd_same, .cons (.ty _) (.cons (.ty _) .nil), .base (.lst h1),
        kitAny_cons kit_list (fun z => nomatch z) (fun _ => rfl), q _ _ (x1.trans (Ex.new hp)) (.bl _)⟩
  · cases e2⟩
theorem x_isField (ha : XE C W false ta fa) : XE C W st (tCB (fun xs H Q => ∃ a dx fs, xs = [.ref a, .ref C] ∧ H a = some (.ins C dx fs) ∧ Q (.bl true) H) (tCons ta (tCons (tC (.ref C)) tNil))) (G.fB1 G.bIsField fa) := ⟨fun S0 own σ ρ H s d e Q q => by
  obtain ⟨x, e1, e2⟩ := b1_cases e
  unfold G.bIsField at e2
  split at e2
  · rename_i l
    cases e2
    refine ha.run S0 own σ ρ H s _ e1 _ fun v H1 x1 d1 => ?_
    cases d1 with
    | @fld a dx m qq l fs F h1 h2 h3 h4 h5 => exact ⟨a, dx, fs, rfl, (hid_some h1).2, q _ _ x1 (.bl _)⟩
  · cases e2⟩
/-! sorted ints: the one rising arrangement -/
theorem insI_perm (x : Int) : ∀ l : List Int, (G.insI x l).Perm (x :: l)
  | [] => .refl _
  | y :: r => by
    unfold G.insI
    by_cases h : x ≤ y
    · rw [if_pos h]
    · rw [if_neg h]
      exact ((insI_perm x r).cons y).trans (.swap x y r)
theorem sortI_perm : ∀ l : List Int, (G.sortI l).Perm l
  | [] => .refl _
  | x :: r => (insI_perm x _).trans ((sortI_perm r).cons x)
theorem insI_up (x : Int) : ∀ l : List Int, l.Pairwise (· ≤ ·) → (G.insI x l).Pairwise (· ≤ ·)
  | [], _ => by unfold G.insI; simp
  | y :: r, h => by
    unfold G.insI
    by_cases k : x ≤ y
    · rw [if_pos k]
      refine List.pairwise_cons.mpr ⟨fun z hz => ?_, h⟩
      rcases List.mem_cons.mp hz with e | e
      · rw [e]; exact k
      · exact Int.le_trans k ((List.pairwise_cons.mp h).1 z e)
    · rw [if_neg k]
      refine List.pairwise_cons.mpr ⟨fun z hz => ?_, insI_up x r (List.pairwise_cons.mp h).2⟩
      rcases List.mem_cons.mp ((insI_perm x r).mem_iff.mp hz) with e | e
      · rw [e]; omega
      · exact (List.pairwise_cons.mp h).1 z e
theorem sortI_up : ∀ l : List Int, (G.sortI l).Pairwise (· ≤ ·)
  | [] => .nil
  | x :: r => insI_up x _ (sortI_up r)
theorem up_unique {a b : List Int} (p : a.Perm b) (ha : a.Pairwise (· ≤ ·)) (hb : b.Pairwise (· ≤ ·)) : a = b := by
  induction a generalizing b with
  | nil => exact (List.nil_perm.mp p).symm
  | cons x r ih =>
    cases b with
    | nil => exact absurd p.length_eq (by simp)
    | cons y s =>
      have h1 : x ≤ y := by
        rcases List.mem_cons.mp (p.mem_iff.mpr List.mem_cons_self) with e | e
        · rw [e]; exact Int.le_refl _
        · exact (List.pairwise_cons.mp ha).1 y e
      have h2 : y ≤ x := by
        rcases List.mem_cons.mp (p.mem_iff.mp List.mem_cons_self) with e | e
        · rw [e]; exact Int.le_refl _
        · exact (List.pairwise_cons.mp hb).1 x e
      have e : x = y := by omega
      subst e
      rw [ih (List.perm_cons x |>.mp p) (List.pairwise_cons.mp ha).2 (List.pairwise_cons.mp hb).2]
theorem x_sortI (ha : XE C W false ta fa) : XF C W st (tCB (rSortedI K) (tCons ta tNil)) (G.fB1 G.bSortI fa) := ⟨fun S0 own σ ρ H s d e Q q => by
  obtain ⟨x, e1, e2⟩ := b1_cases e
  unfold G.bSortI at e2
  split at e2
  · rename_i l
    split at e2
    · rename_i ns z
      cases e2
      refine ha.run S0 own σ ρ H s _ e1 _ fun v H1 x1 d1 => ?_
      cases d1 with
      | lst a1 a2 =>
        rw [(Dats.ints? a2 z).1] at a1
        refine ⟨_, ns, rfl, .inl (.inl (hid_some a1).2), fun ns' p hp hu hn => ?_⟩
        have en : ns' = G.sortI ns := up_unique (hp.trans (sortI_perm ns).symm) hu (sortI_up ns)
        rw [en]
        exact q p _ _ _ rfl (fresh_back x1 hn) (x1.trans (Ex.new hn)) upd_same (Dats.ints _)
    · cases e2
  · cases e2⟩

/-! ### a def's promise, calls -/
def spF (C : Addr) (g : List G.D → Option G.D) : Sp := fun vs H Q _ => ∃ (S0 : Addr → Bool) (ds : List G.D) (d : G.D), (∀ b, S0 b = true → H b ≠ none) ∧ Dats C (hid S0 H) vs ds ∧ g ds = some d ∧
  ∀ v H', Ex H H' → Dat C (hid S0 H') v d → Q v H'
/-- .. that hands back a new list -/
def spN (C : Addr) (g : List G.D → Option G.D) : Sp := fun vs H Q _ => ∃ (S0 : Addr → Bool) (ds : List G.D) (d : G.D), (∀ b, S0 b = true → H b ≠ none) ∧ Dats C (hid S0 H) vs ds ∧ g ds = some d ∧
  ∀ p xs ds' H', d = .lst ds' → H p = none → Ex H H' → H' p = some (.lst xs) → Dats C (hid (plus p S0) H') xs ds' → Q (.ref p) H'
theorem call_cases {g : List G.D → Option G.D} {fA : G.FA} {ρ : G.Env} {d : G.D} (e : G.fCall g fA ρ = some d) : ∃ l, fA ρ = some l ∧ g l = some d := by
  unfold G.fCall at e
  split at e
  · exact ⟨_, by assumption, e⟩
  · cases e
theorem x_call {g : List G.D → Option G.D} {t : TA} {f : G.FA} {E : XK} (h : XA C W st t f) : XE C W st (tCall (spF C g) [] E t) (G.fCall g f) := ⟨fun S0 own σ ρ H s d e Q q => by
  obtain ⟨l, e1, e2⟩ := call_cases e
  refine h.run S0 own σ ρ H s _ e1 _ fun vs H1 x1 d1 => ?_
  refine ⟨vw st W S0 own, l, d, fun b z => vw_dom (s.mono x1) b z, by rw [List.append_nil]; exact d1, e2, fun v H2 x2 d2 => q v H2 (x1.trans x2) d2⟩⟩
theorem x_callN {g : List G.D → Option G.D} {t : TA} {f : G.FA} {E : XK} (h : XA C W st t f) : XF C W st (tCall (spN C g) [] E t) (G.fCall g f) := ⟨fun S0 own σ ρ H s d e Q q => by
  obtain ⟨l, e1, e2⟩ := call_cases e
  refine h.run S0 own σ ρ H s _ e1 _ fun vs H1 x1 d1 => ?_
  refine ⟨vw st W S0 own, l, d, fun b z => vw_dom (s.mono x1) b z, by rw [List.append_nil]; exact d1, e2, fun p xs ds H2 ed hp x2 hp' d2 => q p xs ds H2 ed (fresh_back x1 hp) (x1.trans x2) hp' d2⟩⟩
end

/-! ### what is walked -/
def Good (C : Addr) (S1 : Addr → Bool) (H1 : Hp) (J : It) (l : List G.D) : Prop :=
  ∃ (Gd : Hp → Prop) (Y : Nat → Hp → V → Hp → Prop), Walk J l.length Gd Y ∧ (∀ H2, Ex (hid S1 H1) H2 → Gd H2) ∧
    ∀ (i : Nat) (S2 : Addr → Bool) (H2 : Hp) (x : V) (H3 : Hp) (d : G.D), l[i]? = some d → (∀ b, S2 b = true → H2 b ≠ none) → Ex (hid S1 H1) (hid S2 H2) → Y i H2 x H3 → Ex H2 H3 ∧ Dat C (hid S2 H3) x d
structure XI (C : Addr) (W : List Nat) (wi : TI) (f : G.FI) : Prop where
  run : ∀ (S0 : Addr → Bool) (own : Own) (σ : L2.St) (ρ : G.Env) (H : Hp), Sim C W S0 own σ ρ H → ∀ l, f ρ = some l → l.length ≤ 1000000 ∧ ∀ R : It → Hp → Prop, (∀ J H1, Ex H H1 → Good C (sv W S0 own) H1 J l → R J H1) → wi σ H R
section
variable {C : Addr} {W : List Nat} {K : PySem.W.Frag} {ta tb : TE} {fa fb : G.FE}
theorem i_list (ha : XE C W true ta fa) : XI C W (iList K ta) (G.iList fa) := ⟨fun S0 own σ ρ H s l e => by
  unfold G.iList at e
  split at e
  · rename_i l' z
    split at e
    · rename_i hl
      cases e
      refine ⟨by omega, fun R q => ?_⟩
      refine ha.run S0 own σ ρ H s _ z _ fun v H1 x1 d1 => ?_
      cases d1 with
      | @lst a xs ds a1 a2 =>
        have a1 : hid (sv W S0 own) H1 a = some (.lst xs) := a1
        have a2 : Dats C (hid (sv W S0 own) H1) xs l := a2
        refine ⟨a, rfl, ⟨xs, .inl (.inl (hid_some a1).2)⟩, q _ H1 x1 ⟨fun H => SqL K H a xs, YAt xs, by rw [← a2.length]; exact walk_list, fun H2 x2 => .inl (.inl (x2 _ _ a1)), fun i S2 H2 x H3 d hd _ x2 y => ?_⟩⟩
        obtain ⟨rfl, y⟩ := y
        obtain ⟨v, h1, h2⟩ := a2.get hd
        rw [h1] at y
        cases y
        exact ⟨Ex.refl _, h2.mono x2⟩
    · cases e
  · cases e⟩
theorem i_range1 (ha : XE C W false ta fa) : XI C W (iRng1 (tCons ta tNil)) (G.iRange1 fa) := ⟨fun S0 own σ ρ H s l e => by
  unfold G.iRange1 at e
  split at e
  · rename_i n z
    split at e
    · rename_i hl
      cases e
      refine ⟨by rw [List.length_map, List.length_range]; omega, fun R q => ?_⟩
      refine ha.run S0 own σ ρ H s _ z _ fun v H1 x1 d1 => ?_
      rw [dat_int d1]
      refine ⟨n, rfl, by omega, by omega, q _ H1 x1 ⟨_, _, by rw [List.length_map, List.length_range]; exact walk_range, fun _ _ => trivial, fun i S2 H2 x H3 d hd _ x2 y => ?_⟩⟩
      obtain ⟨rfl, rfl⟩ := y
      rw [List.getElem?_map] at hd
      have hi : i < n.toNat := by
        cases k : (List.range n.toNat)[i]? with
        | none => rw [k] at hd; cases hd
        | some j =>
          have := (List.getElem?_eq_some_iff.mp k).1
          rw [List.length_range] at this
          exact this
      rw [List.getElem?_range hi] at hd
      cases hd
      have e0 : (0 : Int) + ((i : Nat) : Int) = ((i : Nat) : Int) := Int.zero_add _
      dsimp only
      rw [e0]
      exact ⟨Ex.refl _, .int _⟩
    · cases e
  · cases e⟩
theorem i_range2 (ha : XE C W false ta fa) (hb : XE C W false tb fb) : XI C W (iRng2 (tCons ta (tCons tb tNil))) (G.iRange2 fa fb) := ⟨fun S0 own σ ρ H s l e => by
  unfold G.iRange2 at e
  split at e
  · rename_i m n z1 z2
    split at e
    · rename_i hl
      cases e
      refine ⟨by rw [List.length_map, List.length_range]; omega, fun R q => ?_⟩
      refine ha.run S0 own σ ρ H s _ z1 _ fun v H1 x1 d1 => ?_
      refine hb.run S0 own σ ρ H1 (s.mono x1) _ z2 _ fun u H2 x2 d2 => ?_
      rw [dat_int d1, dat_int d2]
      refine ⟨m, n, rfl, ⟨by omega, by omega, by omega, by omega⟩, q _ H2 (x1.trans x2) ⟨_, _, by rw [List.length_map, List.length_range]; exact walk_range, fun _ _ => trivial, fun i S2 H2 x H3 d hd _ x2 y => ?_⟩⟩
      obtain ⟨rfl, rfl⟩ := y
      rw [List.getElem?_map] at hd
      have hi : i < (n - m).toNat := by
        cases k : (List.range (n - m).toNat)[i]? with
        | none => rw [k] at hd; cases hd
        | some j =>
          have := (List.getElem?_eq_some_iff.mp k).1
          rw [List.length_range] at this
          exact this
      rw [List.getElem?_range hi] at hd
      cases hd
      exact ⟨Ex.refl _, .int _⟩
    · cases e
  · cases e⟩
theorem enum_len : ∀ (l : List G.D) (i : Nat), (G.enumD i l).length = l.length
  | [], _ => rfl
  | _ :: r, i => congrArg (· + 1) (enum_len r (i + 1))
theorem enum_get : ∀ (l : List G.D) (i j : Nat) (d : G.D), (G.enumD i l)[j]? = some d → ∃ e, l[j]? = some e ∧ d = .tup [.int ((i + j : Nat) : Int), e]
  | [], _, _, _, h => by simp [G.enumD] at h
  | e :: r, i, 0, d, h => by
    have h' : G.D.tup [.int (i : Nat), e] = d := Option.some.inj h
    exact ⟨e, rfl, h'.symm⟩
  | e :: r, i, j + 1, d, h => by
    obtain ⟨x, h1, h2⟩ := enum_get r (i + 1) j d h
    refine ⟨x, h1, ?_⟩
    rw [h2, show i + 1 + j = i + (j + 1) by omega]
theorem zip_len : ∀ (l m : List G.D), (G.zipD l m).length = min l.length m.length
  | [], _ => by simp [G.zipD]
  | _ :: _, [] => by simp [G.zipD]
  | _ :: r, _ :: s => by
    show (G.zipD r s).length + 1 = _
    rw [zip_len r s, List.length_cons, List.length_cons]
    omega
theorem zip_get : ∀ (l m : List G.D) (j : Nat) (d : G.D), (G.zipD l m)[j]? = some d → ∃ e f, l[j]? = some e ∧ m[j]? = some f ∧ d = .tup [e, f]
  | [], _, _, _, h => by simp [G.zipD] at h
  | _ :: _, [], _, _, h => by simp [G.zipD] at h
  | e :: r, f :: s, 0, d, h => by
    have h' : G.D.tup [e, f] = d := Option.some.inj h
    exact ⟨e, f, rfl, rfl, h'.symm⟩
  | e :: r, f :: s, j + 1, d, h => zip_get r s j d h
theorem pair_dat {S2 : Addr → Bool} {H2 H3 : Hp} {x y z : V} {d e : G.D} {T : Addr} (hS : ∀ b, S2 b = true → H2 b ≠ none) (hT : H2 T = none) (h3 : H3 = upd H2 T (.tup [y, z])) (hx : x = .ref T)
    (hy : Dat C (hid S2 H2) y d) (hz : Dat C (hid S2 H2) z e) : Ex H2 H3 ∧ Dat C (hid S2 H3) x (.tup [d, e]) := by
  subst h3 hx
  refine ⟨Ex.new hT, .tup (hid_of ?_ upd_same) (.cons (hy.mono (ex_hid (Ex.new hT))) (.cons (hz.mono (ex_hid (Ex.new hT))) .nil))⟩
  cases k : S2 T with
  | false => rfl
  | true => exact absurd hT (hS T k)
theorem i_enum (ha : XE C W true ta fa) : XI C W (iEnum K (tCons ta tNil)) (G.iEnum fa) := ⟨fun S0 own σ ρ H s l e => by
  unfold G.iEnum at e
  split at e
  · rename_i l' z
    split at e
    · rename_i hl
      cases e
      refine ⟨by rw [enum_len]; omega, fun R q => ?_⟩
      refine ha.run S0 own σ ρ H s _ z _ fun v H1 x1 d1 => ?_
      cases d1 with
      | @lst a xs ds a1 a2 =>
        have a1 : hid (sv W S0 own) H1 a = some (.lst xs) := a1
        have a2 : Dats C (hid (sv W S0 own) H1) xs l' := a2
        refine ⟨a, xs, rfl, .inl (.inl (hid_some a1).2), q _ H1 x1 ⟨fun H => SqL K H a xs, _, by rw [enum_len, ← a2.length]; exact walk_enum, fun H2 x2 => .inl (.inl (x2 _ _ a1)), fun i S2 H2 x H3 d hd hS x2 y => ?_⟩⟩
        obtain ⟨T, y, u, rfl, hT, rfl, h1, h2⟩ := y
        obtain ⟨e, g1, g2⟩ := enum_get _ _ _ _ hd
        obtain ⟨w, k1, k2⟩ := a2.get g1
        dsimp only at h1 h2
        rw [k1] at h2
        cases h2
        cases h1
        rw [g2]
        refine pair_dat hS hT rfl rfl ?_ (k2.mono x2)
        rw [Nat.zero_add]
        exact .int _
    · cases e
  · cases e⟩
theorem i_zip (ha : XE C W true ta fa) (hb : XE C W true tb fb) : XI C W (iZip K (tCons ta (tCons tb tNil))) (G.iZip fa fb) := ⟨fun S0 own σ ρ H s l e => by
  unfold G.iZip at e
  split at e
  · rename_i l1 l2 z1 z2
    split at e
    · rename_i hl
      cases e
      refine ⟨by rw [zip_len]; omega, fun R q => ?_⟩
      refine ha.run S0 own σ ρ H s _ z1 _ fun v H1 x1 d1 => ?_
      refine hb.run S0 own σ ρ H1 (s.mono x1) _ z2 _ fun u H2 x2 d2 => ?_
      have d1' := d1.mono (ex_hid x2)
      cases d1' with
      | @lst a xs ds a1 a2 =>
        cases d2 with
        | @lst b ys es b1 b2 =>
          have a1 : hid (sv W S0 own) H2 a = some (.lst xs) := a1
          have a2 : Dats C (hid (sv W S0 own) H2) xs l1 := a2
          have b1 : hid (sv W S0 own) H2 b = some (.lst ys) := b1
          have b2 : Dats C (hid (sv W S0 own) H2) ys l2 := b2
          refine ⟨a, b, xs, ys, rfl, .inl (.inl (hid_some a1).2), .inl (.inl (hid_some b1).2), q _ H2 (x1.trans x2) ⟨fun H => SqL K H a xs ∧ SqL K H b ys, _, walk_zip (by rw [zip_len, a2.length, b2.length]),
            fun H3 x3 => ⟨.inl (.inl (x3 _ _ a1)), .inl (.inl (x3 _ _ b1))⟩, fun i S2 H2 x H3 d hd hS x2 y => ?_⟩⟩
          obtain ⟨T, y, u, rfl, hT, rfl, h1, h2⟩ := y
          obtain ⟨e, f, g1, g2, g3⟩ := zip_get _ _ _ _ hd
          obtain ⟨w1, k1, k2⟩ := a2.get g1
          obtain ⟨w2, m1, m2⟩ := b2.get g2
          dsimp only at h1 h2
          rw [k1] at h1
          cases h1
          rw [m1] at h2
          cases h2
          rw [g3]
          exact pair_dat hS hT rfl rfl (k2.mono x2) (m2.mono x2)
    · cases e
  · cases e⟩
end

/-! ### setting slots -/
theorem getD_set {ρ : G.Env} {i j : Nat} {x : Option G.D} : (ρ.set i x).getD j none = if i = j ∧ j < ρ.length then x else ρ.getD j none := by
  rw [List.getD_eq_getElem?_getD, List.getD_eq_getElem?_getD, List.getElem?_set]
  by_cases h : i = j
  · subst h
    by_cases k : i < ρ.length
    · rw [if_pos rfl, if_pos k, if_pos ⟨rfl, k⟩]
      rfl
    · rw [if_pos rfl, if_neg k, if_neg (fun z => k z.2), List.getElem?_eq_none (by omega)]
  · rw [if_neg h, if_neg (fun z => h z.1)]
theorem get_set {σ : L2.St} {i j : Nat} {x : Option V} (h : j < σ.length) : (σ.set i x)[j]? = if i = j then some x else σ[j]? := by
  rw [List.getElem?_set]
  by_cases k : i = j
  · subst k
    rw [if_pos rfl, if_pos h, if_pos rfl]
  · rw [if_neg k, if_neg k]
theorem getD_lt {ρ : G.Env} {j : Nat} {d : G.D} (h : ρ.getD j none = some d) : j < ρ.length := by
  rw [List.getD_eq_getElem?_getD] at h
  cases k : ρ[j]? with
  | none => rw [k] at h; cases h
  | some x => exact (List.getElem?_eq_some_iff.mp k).1
section
variable {C : Addr} {W : List Nat} {S0 : Addr → Bool} {own : Own} {σ : L2.St} {ρ : G.Env} {H H' : Hp}
theorem Sim.set (s : Sim C W S0 own σ ρ H) {i : Nat} (hi : i ∉ W) {v : V} {d : G.D} (hd : Dat C (hid (sv W S0 own) H) v d) : Sim C W S0 own (σ.set i (some v)) (ρ.set i (some d)) H where
  s0 := s.s0
  ow := s.ow
  inj := s.inj
  len := by rw [List.length_set, List.length_set, s.len]
  pl := fun j e hj h => by
    have hl := getD_lt h
    rw [List.length_set] at hl
    rw [getD_set] at h
    rw [get_set (by rw [s.len]; exact hl)]
    by_cases k : i = j
    · rw [if_pos ⟨k, hl⟩] at h
      cases h
      rw [if_pos k]
      exact ⟨v, rfl, hd⟩
    · rw [if_neg (fun z => k z.1)] at h
      rw [if_neg k]
      exact s.pl j e hj h
  mu := fun j e hj h => by
    have hl := getD_lt h
    rw [List.length_set] at hl
    have k : ¬ i = j := fun z => hi (z ▸ hj)
    rw [getD_set, if_neg (fun z => k z.1)] at h
    rw [get_set (by rw [s.len]; exact hl), if_neg k]
    exact s.mu j e hj h
def setOwn (own : Own) (i : Nat) (p : Addr) : Own := fun j => if j = i then some p else own j
theorem sv_set {i : Nat} {p b : Addr} (h : sv W S0 (setOwn own i p) b = true) : plus p (sv W S0 own) b = true := by
  rcases sv_true.mp h with q | ⟨j, q1, q2⟩
  · exact plus_true.mpr (.inl (sv_true.mpr (.inl q)))
  · unfold setOwn at q2
    by_cases k : j = i
    · rw [if_pos k] at q2
      exact plus_true.mpr (.inr (Option.some.inj q2).symm)
    · rw [if_neg k] at q2
      exact plus_true.mpr (.inl (sv_true.mpr (.inr ⟨j, q1, q2⟩)))
theorem ows_set {i : Nat} {p b : Addr} (h : ows W (setOwn own i p) b = true) : plus p (ows W own) b = true := by
  obtain ⟨j, q1, q2⟩ := ows_true.mp h
  unfold setOwn at q2
  by_cases k : j = i
  · rw [if_pos k] at q2
    exact plus_true.mpr (.inr (Option.some.inj q2).symm)
  · rw [if_neg k] at q2
    exact plus_true.mpr (.inl (ows_true.mpr ⟨j, q1, q2⟩))
/-- what a statement leaves: all that is not owned -/
def Fr (W : List Nat) (own : Own) (H : Hp) (own' : Own) (H' : Hp) : Prop := Ex (hid (ows W own) H) (hid (ows W own') H')
theorem Fr.refl : Fr W own H own H := Ex.refl _
theorem Fr.trans {own1 own2 : Own} {H1 H2 : Hp} (a : Fr W own H own1 H1) (b : Fr W own1 H1 own2 H2) : Fr W own H own2 H2 := Ex.trans a b
theorem Fr.ex (e : Ex H H') : Fr W own H own H' := ex_hid e
theorem Fr.sv {own' : Own} (h : Fr W own H own' H') (hs : ∀ b, S0 b = true → ows W own' b = true → False) : Ex (hid (GB.sv W S0 own) H) (hid (GB.sv W S0 own') H') := fun b o e => by
  obtain ⟨e1, e2⟩ := hid_some e
  have hn : ows W own b = false := by
    cases k : ows W own b with
    | false => rfl
    | true =>
      have z : GB.sv W S0 own b = true := by unfold GB.sv; rw [k, Bool.or_true]
      rw [z] at e1
      cases e1
  have h0 : S0 b = false := by
    cases k : S0 b with
    | false => rfl
    | true =>
      have z : GB.sv W S0 own b = true := by unfold GB.sv; rw [k, Bool.true_or]
      rw [z] at e1
      cases e1
  obtain ⟨q1, q2⟩ := hid_some (h b o (hid_of hn e2))
  refine hid_of ?_ q2
  unfold GB.sv
  rw [h0, q1]
  rfl
/-- a new list goes to an owned slot -/
theorem Sim.setF (s : Sim C W S0 own σ ρ H) (x : Ex H H') {i : Nat} (hi : i ∈ W) {p : Addr} {xs : List V} {ds : List G.D} (hp : H p = none) (hp' : H' p = some (.lst xs)) (hd : Dats C (hid (plus p (sv W S0 own)) H') xs ds) :
    Sim C W S0 (setOwn own i p) (σ.set i (some (.ref p))) (ρ.set i (some (.lst ds))) H' ∧ Fr W own H (setOwn own i p) H' := by
  have see : Ex (hid (sv W S0 own) H) (hid (sv W S0 (setOwn own i p)) H') := (ex_plusE hp x).trans (ex_unhid fun b q => sv_set q)
  refine ⟨⟨fun b q => some_mono x (s.s0 b q), fun j a hj h => ?_, fun j k a hj hk h1 h2 => ?_, by rw [List.length_set, List.length_set, s.len], fun j e hj h => ?_, fun j e hj h => ?_⟩, ?_⟩
  · unfold setOwn at h
    by_cases k : j = i
    · rw [if_pos k] at h
      cases h
      refine ⟨?_, by rw [hp']; exact fun z => nomatch z⟩
      cases q : S0 p with
      | false => rfl
      | true => exact absurd hp (s.s0 p q)
    · rw [if_neg k] at h
      exact ⟨(s.ow j a hj h).1, some_mono x (s.ow j a hj h).2⟩
  · unfold setOwn at h1 h2
    by_cases k1 : j = i
    · by_cases k2 : k = i
      · rw [k1, k2]
      · rw [if_pos k1] at h1
        rw [if_neg k2] at h2
        cases h1
        exact absurd hp (s.ow k p hk h2).2
    · by_cases k2 : k = i
      · rw [if_neg k1] at h1
        rw [if_pos k2] at h2
        cases h2
        exact absurd hp (s.ow j p hj h1).2
      · rw [if_neg k1] at h1
        rw [if_neg k2] at h2
        exact s.inj j k a hj hk h1 h2
  · have hl := getD_lt h
    rw [List.length_set] at hl
    have k : ¬ i = j := fun z => hj (z ▸ hi)
    rw [getD_set, if_neg (fun z => k z.1)] at h
    rw [get_set (by rw [s.len]; exact hl), if_neg k]
    obtain ⟨v, h1, h2⟩ := s.pl j e hj h
    exact ⟨v, h1, h2.mono see⟩
  · have hl := getD_lt h
    rw [List.length_set] at hl
    rw [getD_set] at h
    rw [get_set (by rw [s.len]; exact hl)]
    by_cases k : i = j
    · rw [if_pos ⟨k, hl⟩] at h
      cases h
      rw [if_pos k]
      exact ⟨p, xs, ds, rfl, rfl, by unfold setOwn; rw [if_pos k.symm], hp', hd.mono (ex_unhid fun b q => sv_set q)⟩
    · rw [if_neg (fun z => k z.1)] at h
      rw [if_neg k]
      obtain ⟨a, ys, es, h0, h1, h2, h3, h4⟩ := s.mu j e hj h
      exact ⟨a, ys, es, h0, h1, by unfold setOwn; rw [if_neg (fun z => k z.symm)]; exact h2, x _ _ h3, h4.mono see⟩
  · exact (ex_plusE hp x).trans (ex_unhid fun b q => ows_set q)
/-- an owned list is changed -/
theorem Sim.chg (s : Sim C W S0 own σ ρ H) {i : Nat} (hi : i ∈ W) {a : Addr} {xs : List V} {ds : List G.D} (ha : own i = some a) (hx : ρ.getD i none ≠ none) (hd : Dats C (hid (sv W S0 own) H) xs ds) :
    Sim C W S0 own σ (ρ.set i (some (.lst ds))) (upd H a (.lst xs)) ∧ Fr W own H own (upd H a (.lst xs)) := by
  have hs : sv W S0 own a = true := sv_true.mpr (.inr ⟨i, hi, ha⟩)
  have ho : ows W own a = true := ows_true.mpr ⟨i, hi, ha⟩
  have see : ∀ S : Addr → Bool, S a = true → Ex (hid S H) (hid S (upd H a (.lst xs))) := fun S hS b o e => by
    obtain ⟨e1, e2⟩ := hid_some e
    have ne : b ≠ a := fun z => by rw [z, hS] at e1; cases e1
    exact hid_of e1 (by rw [upd_ne ne]; exact e2)
  have up : ∀ b, H b ≠ none → upd H a (.lst xs) b ≠ none := fun b h => by
    by_cases k : b = a
    · rw [k, upd_same]; exact fun z => nomatch z
    · rw [upd_ne k]; exact h
  refine ⟨⟨fun b q => up b (s.s0 b q), fun j b hj h => ⟨(s.ow j b hj h).1, up b (s.ow j b hj h).2⟩, s.inj, by rw [List.length_set, s.len], fun j e hj h => ?_, fun j e hj h => ?_⟩, see _ ho⟩
  · have k : ¬ i = j := fun z => hj (z ▸ hi)
    rw [getD_set, if_neg (fun z => k z.1)] at h
    obtain ⟨v, h1, h2⟩ := s.pl j e hj h
    exact ⟨v, h1, h2.mono (see _ hs)⟩
  · have hl := getD_lt h
    rw [List.length_set] at hl
    rw [getD_set] at h
    by_cases k : i = j
    · rw [if_pos ⟨k, hl⟩] at h
      cases h
      subst k
      cases z : ρ.getD i none with
      | none => exact absurd z hx
      | some d0 =>
        obtain ⟨b, ys, es, h0, h1, h2, h3, h4⟩ := s.mu i d0 hi z
        rw [ha] at h2
        cases h2
        exact ⟨a, xs, ds, rfl, h1, ha, upd_same, hd.mono (see _ hs)⟩
    · rw [if_neg (fun z => k z.1)] at h
      obtain ⟨b, ys, es, h0, h1, h2, h3, h4⟩ := s.mu j e hj h
      have ne : b ≠ a := fun z => by
        subst z
        exact k (s.inj i j b hi hj ha h2)
      exact ⟨b, ys, es, h0, h1, h2, by rw [upd_ne ne]; exact h3, h4.mono (see _ hs)⟩
/-- a thing just made is hidden -/
theorem Sim.hide (s : Sim C W S0 own σ ρ H) (x : Ex H H') {p : Addr} (hp : H p = none) (hp' : H' p ≠ none) : Sim C W (plus p S0) own σ ρ H' := by
  have le : ∀ b, sv W (plus p S0) own b = true → plus p (sv W S0 own) b = true := fun b h => by
    rcases sv_true.mp h with q | q
    · rcases plus_true.mp q with z | z
      · exact plus_true.mpr (.inl (sv_true.mpr (.inl z)))
      · exact plus_true.mpr (.inr z)
    · exact plus_true.mpr (.inl (sv_true.mpr (.inr q)))
  have see : Ex (hid (sv W S0 own) H) (hid (sv W (plus p S0) own) H') := (ex_plusE hp x).trans (ex_unhid le)
  refine ⟨fun b q => ?_, fun j a hj h => ⟨?_, some_mono x (s.ow j a hj h).2⟩, s.inj, s.len, fun j e hj h => ?_, fun j e hj h => ?_⟩
  · rcases plus_true.mp q with z | z
    · exact some_mono x (s.s0 b z)
    · rw [z]; exact hp'
  · cases k : plus p S0 a with
    | false => rfl
    | true =>
      rcases plus_true.mp k with z | z
      · rw [(s.ow j a hj h).1] at z; cases z
      · subst z
        exact absurd hp (s.ow j a hj h).2
  · obtain ⟨v, h1, h2⟩ := s.pl j e hj h
    exact ⟨v, h1, h2.mono see⟩
  · obtain ⟨a, ys, es, h0, h1, h2, h3, h4⟩ := s.mu j e hj h
    exact ⟨a, ys, es, h0, h1, h2, x _ _ h3, h4.mono see⟩
theorem sv_plus {p b : Addr} (h : plus p (sv W S0 own) b = true) : sv W (plus p S0) own b = true := by
  rcases plus_true.mp h with q | q
  · rcases sv_true.mp q with z | z
    · exact sv_true.mpr (.inl (plus_true.mpr (.inl z)))
    · exact sv_true.mpr (.inr z)
  · exact sv_true.mpr (.inl (plus_true.mpr (.inr q)))
end
end GB

set_option autoImplicit false
set_option Elab.async false
set_option linter.all false
set_option maxRecDepth 100000
set_option maxHeartbeats 4000000
/-! Targets, comprehensions, statements, a def's body. -/
namespace GB
open PySem L2

structure XG (C : Addr) (W : List Nat) (us : List Nat) (g : TG) (f : G.FG) : Prop where
  run : ∀ (S0 : Addr → Bool) (own : Own) (σ : L2.St) (ρ : G.Env) (H : Hp), Sim C W S0 own σ ρ H → ∀ (v : V) (d : G.D), Dat C (hid (sv W S0 own) H) v d → ∀ ρ', f d ρ = some ρ' → ∀ Q : L2.St → Hp → Prop,
    (∀ σ', Sim C W S0 own σ' ρ' H → σ'.length = σ.length → (∀ i, i ∉ us → σ'[i]? = σ[i]?) → Q σ' H) → g v σ H Q
section
variable {C : Addr} {W : List Nat} {K : PySem.W.Frag}
theorem g_name {i : Nat} (hi : i ∉ W) : XG C W [i] (gName i) (G.gName i) := ⟨fun S0 own σ ρ H s v d hd ρ' e Q q => by
  cases e
  refine q _ (s.set hi hd) (List.length_set ..) fun j hj => ?_
  rw [List.getElem?_set_ne (fun z => hj (by rw [z]; exact List.mem_singleton.mpr rfl))]⟩
theorem g_tup {i j : Nat} (hi : i ∉ W) (hj : j ∉ W) : XG C W [i, j] (gTup K 2 (gCons (gName i) (gCons (gName j) gNil))) (G.gTup i j) := ⟨fun S0 own σ ρ H s v d hd ρ' e Q q => by
  unfold G.gTup at e
  split at e
  · rename_i x y
    cases e
    cases hd with
    | @tup a xs ds h1 h2 =>
      cases h2 with
      | cons k1 k2 =>
        cases k2 with
        | cons m1 m2 =>
          cases m2
          refine ⟨a, _, rfl, .inl (.inl (hid_some h1).2), rfl, _, _, rfl, _, _, rfl, rfl, ?_⟩
          refine q _ ((s.set hi k1).set hj m1) (by rw [List.length_set, List.length_set]) fun l hl => ?_
          rw [List.getElem?_set_ne (fun z => hl (by rw [z]; simp)), List.getElem?_set_ne (fun z => hl (by rw [z]; simp))]
  · cases e⟩
theorem wipe_get : ∀ (σ : L2.St) (vs : List Nat) (i : Nat), i ∉ vs → (wipe σ vs)[i]? = σ[i]?
  | _, [], _, _ => rfl
  | σ, v :: vs, i, h => by
    unfold wipe
    rw [List.getElem?_set_ne (fun z => h (by rw [z]; exact List.mem_cons_self)), wipe_get σ vs i fun z => h (List.mem_cons_of_mem _ z)]
theorem wipe_in : ∀ (σ : L2.St) (vs : List Nat) (i : Nat), i ∈ vs → i < σ.length → (wipe σ vs)[i]? = some none
  | _, [], _, h, _ => absurd h (by simp)
  | σ, v :: vs, i, h, hl => by
    unfold wipe
    by_cases k : v = i
    · subst k
      rw [List.getElem?_set_self (by rw [wipe_length]; exact hl)]
    · rw [List.getElem?_set_ne k]
      rcases List.mem_cons.mp h with z | z
      · exact absurd z.symm k
      · exact wipe_in σ vs i z hl
theorem wipe_same {σ τ : L2.St} {vs : List Nat} (hl : τ.length = σ.length) (h : ∀ i, i ∉ vs → τ[i]? = σ[i]?) : wipe τ vs = wipe σ vs := by
  apply List.ext_getElem?
  intro i
  by_cases hi : i ∈ vs
  · by_cases k : i < σ.length
    · rw [wipe_in τ vs i hi (by omega), wipe_in σ vs i hi k]
    · rw [List.getElem?_eq_none (by rw [wipe_length]; omega), List.getElem?_eq_none (by rw [wipe_length]; omega)]
  · rw [wipe_get τ vs i hi, wipe_get σ vs i hi, h i hi]
theorem wipeE_get : ∀ (ρ : G.Env) (vs : List Nat) (i : Nat), (G.wipeE ρ vs).getD i none = if i ∈ vs then none else ρ.getD i none
  | _, [], _ => by simp [G.wipeE]
  | ρ, v :: vs, i => by
    show ((G.wipeE ρ vs).set v none).getD i none = _
    rw [getD_set, wipeE_get ρ vs i]
    by_cases k : v = i
    · subst k
      by_cases m : v < (G.wipeE ρ vs).length
      · rw [if_pos ⟨rfl, m⟩, if_pos List.mem_cons_self]
      · rw [if_neg (fun z => m z.2), if_pos List.mem_cons_self]
        split
        · rfl
        · rename_i h
          rw [← wipeE_get ρ vs v |>.trans (if_neg h)]
          rw [List.getD_eq_getElem?_getD, List.getElem?_eq_none (by omega)]
          rfl
    · rw [if_neg (fun z => k z.1)]
      by_cases m : i ∈ vs
      · rw [if_pos m, if_pos (List.mem_cons_of_mem _ m)]
      · rw [if_neg m, if_neg (fun z => (List.mem_cons.mp z).elim (fun e => k e.symm) m)]
theorem wipeE_len : ∀ (ρ : G.Env) (vs : List Nat), (G.wipeE ρ vs).length = ρ.length
  | _, [] => rfl
  | ρ, v :: vs => by
    show ((G.wipeE ρ vs).set v none).length = _
    rw [List.length_set, wipeE_len ρ vs]
theorem Sim.wipe {S0 : Addr → Bool} {own : Own} {σ : L2.St} {ρ : G.Env} {H : Hp} (s : Sim C W S0 own σ ρ H) (vs : List Nat) : Sim C W S0 own (L2.wipe σ vs) (G.wipeE ρ vs) H where
  s0 := s.s0
  ow := s.ow
  inj := s.inj
  len := by rw [wipe_length, wipeE_len, s.len]
  pl := fun i d hi h => by
    rw [wipeE_get] at h
    by_cases k : i ∈ vs
    · rw [if_pos k] at h; cases h
    · rw [if_neg k] at h
      rw [wipe_get _ _ _ k]
      exact s.pl i d hi h
  mu := fun i d hi h => by
    rw [wipeE_get] at h
    by_cases k : i ∈ vs
    · rw [if_pos k] at h; cases h
    · rw [if_neg k] at h
      rw [wipe_get _ _ _ k]
      exact s.mu i d hi h
theorem sv_hide {S0 : Addr → Bool} {own : Own} {p b : Addr} (h : sv W (plus p S0) own b = true) : plus p (sv W S0 own) b = true := by
  rcases sv_true.mp h with q | q
  · rcases plus_true.mp q with z | z
    · exact plus_true.mpr (.inl (sv_true.mpr (.inl z)))
    · exact plus_true.mpr (.inr z)
  · exact plus_true.mpr (.inl (sv_true.mpr (.inr q)))
theorem lc_go {g : TG} {tt : TT} {te : TE} {fg : G.FG} {ft : G.FT} {fe : G.FE} {us vs : List Nat} (hg : XG C W us g fg) (hu : ∀ i, i ∈ us → i ∈ vs) (ht : XT C W tt ft) (he : XE C W true te fe)
    {S0 : Addr → Bool} {own : Own} {σ : L2.St} {ρ : G.Env} {H H1 : Hp} (s : Sim C W S0 own σ ρ H) (x1 : Ex H H1) {J : It} {l r : List G.D} (hl : l.length ≤ 1000000) (good : Good C (sv W S0 own) H1 J l) (z2 : G.lcD fg ft fe (G.wipeE ρ vs) l = some r) {Q : VK}
    (q : ∀ p xs H', H p = none → Ex H H' → H' p = some (.lst xs) → Dats C (hid (plus p (sv W S0 own)) H') xs r → Q (.ref p) H') : ∀ D, H1 D = none → ∃ W : Nat → Nat → Hp → Prop, (∃ m, W 0 m (upd H1 D (.lst []))) ∧ ∀ i m H, W i m H →
  (J.stop i H ∧ Q (.ref D) H) ∨ (J.go i H ∧ ∃ Nx : Hp → Prop, (∀ H', Nx H' → ∃ m', m' < m ∧ W (i + 1) m' H') ∧ ∀ x H', J.yld i H x H' → g x (wipe σ vs) H' fun σ2 H2 => wipe σ2 vs = wipe σ vs ∧ tt σ2 H2 fun b H3 =>
    if b = true then te σ2 H3 fun y H4 => ∃ acc, H4 D = some (.lst acc) ∧ acc.length < sizeLine ∧ Nx (upd H4 D (.lst (acc ++ [y]))) else Nx H3) := by
      intro D hD
      obtain ⟨Gd, Y, wk, hG, hY⟩ := good
      have s1 := s.mono x1
      refine lc_it wk (fun i H2 => Ex H1 H2 ∧ ∃ acc ds, H2 D = some (.lst acc) ∧ Dats C (hid (plus D (sv W S0 own)) H2) acc ds ∧ acc.length ≤ i ∧ ∃ r', G.lcD fg ft fe (G.wipeE ρ vs) (l.drop i) = some r' ∧ r = ds ++ r')
        ⟨Ex.new hD, [], [], upd_same, .nil, Nat.le_refl _, r, by rw [List.drop_zero]; exact z2, rfl⟩ (fun i H2 _ p => hG H2 (ex_hid_self.trans p.1)) ?_ ?_
      · rintro i x H2 H3 hn ⟨p1, acc, ds, p2, p3, p4, r', p5, p6⟩ y
        have hd : l[i]? = some l[i] := by simp [hn]
        have hdr : l.drop i = l[i] :: l.drop (i + 1) := (List.drop_eq_getElem_cons hn)
        rw [hdr] at p5
        unfold G.lcD at p5
        obtain ⟨y1, y2⟩ := hY i (plus D (sv W S0 own)) H2 x H3 l[i] hd (fun b q => by
          rcases plus_true.mp q with z | z
          · exact some_mono p1 (s1.dom b z)
          · rw [z, p2]; exact fun z => nomatch z) (ex_plusE hD p1) y
        have x3 : Ex H1 H3 := p1.trans y1
        have s3 : Sim C W (plus D S0) own (L2.wipe σ vs) (G.wipeE ρ vs) H3 := (s1.wipe vs).hide x3 hD (by rw [y1 _ _ p2]; exact fun z => nomatch z)
        split at p5
        · rename_i ρ1 z3
          refine hg.run (plus D S0) own _ _ H3 s3 x _ (y2.mono (ex_unhid fun b q => sv_hide q)) ρ1 z3 _ fun σ2 s4 hlen hout => ⟨?_, ?_⟩
          · have e1 : wipe σ2 vs = wipe (wipe σ vs) vs := wipe_same hlen fun j hj => hout j fun z => hj (hu j z)
            have e2 : wipe (wipe σ vs) vs = wipe σ vs := wipe_same (wipe_length _ _) fun j hj => wipe_get _ _ _ hj
            rw [e1, e2]
          · split at p5
            · rename_i z4
              refine ht.run (plus D S0) own σ2 ρ1 H3 s4 _ z4 _ fun H4 x4 => ?_
              rw [if_pos rfl]
              split at p5
              · rename_i e r2 z5 z6
                cases p5
                refine he.run (plus D S0) own σ2 ρ1 H4 (s4.mono x4) _ z5 _ fun v H5 x5 d5 => ?_
                have x35 : Ex H3 H5 := x4.trans x5
                have hD5 : H5 D = some (.lst acc) := x35 _ _ (y1 _ _ p2)
                have see : Ex (hid (plus D (sv W S0 own)) H5) (hid (plus D (sv W S0 own)) (upd H5 D (.lst (acc ++ [v])))) := fun b o eb => by
                  obtain ⟨q1, q2⟩ := hid_some eb
                  have ne : b ≠ D := fun z => by
                    rw [z, plus_true.mpr (.inr rfl)] at q1
                    cases q1
                  exact hid_of q1 (by rw [upd_ne ne]; exact q2)
                refine ⟨acc, hD5, Nat.lt_of_le_of_lt p4 (Nat.lt_of_lt_of_le (show i < 1000000 by omega) (by decide)), ?_, acc ++ [v], ds ++ [e], upd_same, ?_, by rw [List.length_append]; simp; omega, r2, z6, by rw [p6, List.append_assoc]; rfl⟩
                · intro b o eb
                  rw [upd_ne (ne_of_none eb hD)]
                  exact x35 _ _ (x3 _ _ eb)
                · exact ((p3.mono (ex_hid (y1.trans x35))).snoc (d5.mono (ex_unhid fun b q => sv_plus q))).mono see
              · cases p5
            · rename_i z4
              refine ht.run (plus D S0) own σ2 ρ1 H3 s4 _ z4 _ fun H4 x4 => ?_
              rw [if_neg Bool.false_ne_true]
              exact ⟨x3.trans x4, acc, ds, x4 _ _ (y1 _ _ p2), p3.mono (ex_hid (y1.trans x4)), Nat.le_succ_of_le p4, r', p5, p6⟩
            · cases p5
        · cases p5
      · rintro H2 ⟨p1, acc, ds, p2, p3, p4, r', p5, p6⟩
        rw [List.drop_eq_nil_of_le (Nat.le_refl _)] at p5
        cases p5
        rw [List.append_nil] at p6
        subst p6
        exact q D acc H2 (fresh_back x1 hD) (x1.trans p1) p2 p3
/-- [e for target in it if t] -/
theorem x_lc {wi : TI} {g : TG} {tt : TT} {te : TE} {fi : G.FI} {fg : G.FG} {ft : G.FT} {fe : G.FE} {us vs : List Nat} (hi : XI C W wi fi) (hg : XG C W us g fg) (hu : ∀ i, i ∈ us → i ∈ vs) (ht : XT C W tt ft) (he : XE C W true te fe) :
    XF C W true (tLc wi g tt te vs) (G.fLc fi fg ft fe vs) := ⟨fun S0 own σ ρ H s d e Q q => by
  unfold G.fLc at e
  split at e
  · rename_i l z1
    split at e
    · rename_i r z2
      cases e
      obtain ⟨hl, run⟩ := hi.run S0 own σ ρ H s l z1
      exact run _ fun J H1 x1 good => lc_go hg hu ht he s x1 hl good z2 fun p xs H' h1 h2 h3 h4 => q p xs r H' rfl h1 h2 h3 h4
    · cases e
  · cases e⟩
end

/-! ### statements -/
def Post (C : Addr) (W : List Nat) (S0 : Addr → Bool) (fr : Bool) (own : Own) (H : Hp) (r : G.Res) (D : Ends) : Prop := match r with
  | .nx ρ' => ∀ own' σ' H', Sim C W S0 own' σ' ρ' H' → Fr W own H own' H' → D.nx σ' H'
  | .rt d => ∀ v own' H1 H', Fr W own H own' H1 → Ex H1 H' → Dat C (hid S0 H') v d → (fr = true → ∃ p xs ds, v = .ref p ∧ d = .lst ds ∧ H1 p = none ∧ H' p = some (.lst xs) ∧ Dats C (hid (plus p S0) H') xs ds) → D.rt v H'
theorem Post.back {C : Addr} {W : List Nat} {S0 : Addr → Bool} {fr : Bool} {own own1 : Own} {H H1 : Hp} {r : G.Res} {D : Ends} (f : Fr W own H own1 H1) (p : Post C W S0 fr own H r D) : Post C W S0 fr own1 H1 r D := by
  cases r with
  | nx ρ' => exact fun own' σ' H' s f2 => p own' σ' H' s (f.trans f2)
  | rt d => exact fun v own' H1 H' f2 => p v own' H1 H' (f.trans f2)
structure XS (C : Addr) (W : List Nat) (fr : Bool) (t : TS) (g : G.FS) : Prop where
  run : ∀ (S0 : Addr → Bool) (own : Own) (σ : L2.St) (ρ : G.Env) (H : Hp), Sim C W S0 own σ ρ H → ∀ r, g ρ = some r → ∀ D : Ends, Post C W S0 fr own H r D → t D σ H
section
variable {C : Addr} {W : List Nat} {fr : Bool} {K : PySem.W.Frag} {ta tb te : TE} {fa fb fe : G.FE} {tt : TT} {ft : G.FT} {t u : TS} {f h : G.FS}
theorem s_next : XS C W fr tNext G.sNext := ⟨fun S0 own σ ρ H s r e D p => by
  cases e
  exact p own σ H s Fr.refl⟩
theorem s_never : XS C W fr tNever G.sNever := ⟨fun S0 own σ ρ H s r e D p => by cases e⟩
theorem s_seq (h1 : XS C W fr t f) (h2 : XS C W fr u h) : XS C W fr (tSeq t u) (G.sSeq f h) := ⟨fun S0 own σ ρ H s r e D p => by
  unfold G.sSeq at e
  split at e
  · rename_i ρ' z
    refine h1.run S0 own σ ρ H s _ z _ ?_
    exact fun own' σ' H' s' f' => h2.run S0 own' σ' ρ' H' s' r e D (p.back f')
  · rename_i z
    cases r with
    | nx ρ' => exact absurd e (z ρ')
    | rt d => exact h1.run S0 own σ ρ H s _ e _ p⟩
theorem s_asg {us : List Nat} {g : TG} {fg : G.FG} (he : XE C W true te fe) (hg : XG C W us g fg) : XS C W fr (tAsg te g) (G.sAsg fg fe) := ⟨fun S0 own σ ρ H s r e D p => by
  unfold G.sAsg at e
  split at e
  · rename_i d z1
    split at e
    · rename_i ρ' z2
      cases e
      refine he.run S0 own σ ρ H s _ z1 _ fun v H1 x1 d1 => ?_
      exact hg.run S0 own σ ρ H1 (s.mono x1) v d d1 ρ' z2 _ fun σ' s' _ _ => p own σ' H1 s' (Fr.ex x1)
    · cases e
  · cases e⟩
/-- to an owned slot -/
theorem s_asgF {i : Nat} (hi : i ∈ W) (he : XF C W true te fe) : XS C W fr (tAsg te (gName i)) (G.sAsg (G.gName i) fe) := ⟨fun S0 own σ ρ H s r e D p => by
  unfold G.sAsg at e
  split at e
  · rename_i d z1
    unfold G.gName at e
    cases e
    refine he.run S0 own σ ρ H s _ z1 _ fun q xs ds H1 ed hq x1 hq' d1 => ?_
    subst ed
    obtain ⟨s', f'⟩ := s.setF x1 hi hq hq' d1
    exact p _ _ _ s' f'
  · cases e⟩
theorem par2_cases {i j : Nat} {ρ : G.Env} {r : G.Res} (e : G.sPar2 i j fa fb ρ = some r) : ∃ d1 d2, fa ρ = some d1 ∧ fb ρ = some d2 ∧ r = .nx ((ρ.set i (some d1)).set j (some d2)) := by
  unfold G.sPar2 at e
  split at e
  · cases e
    exact ⟨_, _, by assumption, by assumption, rfl⟩
  · cases e
theorem s_par2 {i j : Nat} (hi : i ∉ W) (hj : j ∉ W) (ha : XE C W true ta fa) (hb : XE C W true tb fb) : XS C W fr (tPar i j (tCons ta (tCons tb tNil))) (G.sPar2 i j fa fb) := ⟨fun S0 own σ ρ H s r e D p => by
  obtain ⟨d1, d2, z1, z2, rfl⟩ := par2_cases e
  refine ha.run S0 own σ ρ H s _ z1 _ fun v H1 x1 k1 => ?_
  refine hb.run S0 own σ ρ H1 (s.mono x1) _ z2 _ fun u H2 x2 k2 => ?_
  exact ⟨v, u, rfl, p own _ H2 (((s.mono (x1.trans x2)).set hi (k1.mono (ex_hid x2))).set hj k2) (Fr.ex (x1.trans x2))⟩⟩
theorem s_parF2 {i j : Nat} (hi : i ∉ W) (hj : j ∈ W) (ha : XE C W true ta fa) (hb : XF C W true tb fb) : XS C W fr (tPar i j (tCons ta (tCons tb tNil))) (G.sPar2 i j fa fb) := ⟨fun S0 own σ ρ H s r e D p => by
  obtain ⟨d1, d2, z1, z2, rfl⟩ := par2_cases e
  refine ha.run S0 own σ ρ H s _ z1 _ fun v H1 x1 k1 => ?_
  refine hb.run S0 own σ ρ H1 (s.mono x1) _ z2 _ fun q xs ds H2 ed hq x2 hq' k2 => ?_
  subst ed
  obtain ⟨s', f'⟩ := ((s.mono x1).set hi k1).setF x2 hj hq hq' k2
  exact ⟨v, .ref q, rfl, p _ _ _ s' ((Fr.ex x1).trans f')⟩⟩
theorem s_parF1 {i j : Nat} (hi : i ∈ W) (hj : j ∉ W) (ha : XF C W true ta fa) (hb : XE C W true tb fb) : XS C W fr (tPar i j (tCons ta (tCons tb tNil))) (G.sPar2 i j fa fb) := ⟨fun S0 own σ ρ H s r e D p => by
  obtain ⟨d1, d2, z1, z2, rfl⟩ := par2_cases e
  refine ha.run S0 own σ ρ H s _ z1 _ fun q xs ds H1 ed hq x1 hq' k1 => ?_
  subst ed
  have sh := s.hide x1 hq (by rw [hq']; exact fun z => nomatch z)
  refine hb.run (plus q S0) own σ ρ H1 sh _ z2 _ fun u H2 x2 k2 => ?_
  obtain ⟨s', f'⟩ := s.setF (x1.trans x2) hi hq (x2 _ _ hq') (k1.mono (ex_hid x2))
  refine ⟨.ref q, u, rfl, p _ _ _ (s'.set hj (k2.mono (ex_unhid fun b z => ?_))) f'⟩
  exact sv_plus (sv_set z)⟩
theorem s_par3 {i j k : Nat} {tc : TE} {fc : G.FE} (hi : i ∉ W) (hj : j ∈ W) (hk : k ∉ W) (ha : XE C W true ta fa) (hb : XF C W true tb fb) (hc : XE C W true tc fc) :
    XS C W fr (tPar3 i j k (tCons ta (tCons tb (tCons tc tNil)))) (G.sPar3 i j k fa fb fc) := ⟨fun S0 own σ ρ H s r e D p => by
  unfold G.sPar3 at e
  split at e
  · rename_i d1 d2 d3 z1 z2 z3
    cases e
    refine ha.run S0 own σ ρ H s _ z1 _ fun v H1 x1 k1 => ?_
    refine hb.run S0 own σ ρ H1 (s.mono x1) _ z2 _ fun q xs ds H2 ed hq x2 hq' k2 => ?_
    subst ed
    have sh := (s.mono x1).hide x2 hq (by rw [hq']; exact fun z => nomatch z)
    refine hc.run (plus q S0) own σ ρ H2 sh _ z3 _ fun u H3 x3 k3 => ?_
    obtain ⟨s', f'⟩ := ((s.mono x1).set hi k1).setF (x2.trans x3) hj hq (x3 _ _ hq') (k2.mono (ex_hid x3))
    refine ⟨v, .ref q, u, rfl, p _ _ _ (s'.set hk (k3.mono (ex_unhid fun b z => ?_))) ((Fr.ex x1).trans f')⟩
    exact sv_plus (sv_set z)
  · cases e⟩
theorem s_set {x : Nat} {ti : TE} {fi : G.FE} (hx : x ∈ W) (hi : XE C W false ti fi) (he : XE C W true te fe) : XS C W fr (tAsg te (gSub (tVar x) ti rSetL)) (G.sSetIx x fi fe) := ⟨fun S0 own σ ρ H s r e D p => by
  unfold G.sSetIx at e
  split at e
  · rename_i d l i z1 z2 z3
    split at e
    · rename_i hb
      cases e
      rw [Bool.and_eq_true, decide_eq_true_eq, decide_eq_true_eq] at hb
      refine he.run S0 own σ ρ H s _ z1 _ fun v H1 x1 d1 => ?_
      obtain ⟨a, xs, ds, ed, h1, h2, h3, h4⟩ := s.mu x _ hx z2
      cases ed
      refine ⟨.ref a, h1, ?_⟩
      refine hi.run S0 own σ ρ H1 (s.mono x1) _ z3 _ fun u H2 x2 d2 => ?_
      rw [dat_int d2]
      have xx := x1.trans x2
      refine ⟨a, xs, i, i.toNat, rfl, rfl, xx _ _ h3, ?_, ?_⟩
      · unfold ixN
        rw [if_pos hb.1, if_pos (by rw [h4.length]; exact hb.2)]
      · obtain ⟨s', f'⟩ := (s.mono xx).chg hx h2 (by rw [z2]; exact fun z => nomatch z) ((h4.mono (ex_hid xx)).set i.toNat (d1.mono (ex_hid x2)))
        exact p own σ _ s' ((Fr.ex xx).trans f')
    · cases e
  · cases e⟩
theorem s_app {x : Nat} (hx : x ∈ W) (he : XE C W true te fe) : XS C W fr (tDrop (tBM K "list" rAppend (tVar x) (tCons te tNil))) (G.sApp x fe) := ⟨fun S0 own σ ρ H s r e D p => by
  unfold G.sApp at e
  split at e
  · rename_i l d z1 z2
    split at e
    · rename_i hl
      cases e
      obtain ⟨a, xs, ds, ed, h1, h2, h3, h4⟩ := s.mu x _ hx z1
      cases ed
      refine ⟨.ref a, h1, .inl ⟨rfl, xs, .inl (.inl h3)⟩, ?_⟩
      refine he.run S0 own σ ρ H s _ z2 _ fun v H1 x1 d1 => ?_
      refine ⟨a, xs, v, rfl, rfl, x1 _ _ h3, ?_, ?_⟩
      · rw [h4.length]
        exact Nat.lt_of_lt_of_le hl (by decide)
      · obtain ⟨s', f'⟩ := (s.mono x1).chg hx h2 (by rw [z1]; exact fun z => nomatch z) ((h4.mono (ex_hid x1)).snoc d1)
        exact p own σ _ s' ((Fr.ex x1).trans f')
    · cases e
  · cases e⟩
theorem s_pop {x : Nat} (hx : x ∈ W) : XS C W fr (tDrop (tBM0 K "list" rPop (tVar x))) (G.sPop x) := ⟨fun S0 own σ ρ H s r e D p => by
  unfold G.sPop at e
  split at e
  · rename_i d0 l z1
    cases e
    obtain ⟨a, xs, ds, ed, h1, h2, h3, h4⟩ := s.mu x _ hx z1
    cases ed
    refine ⟨.ref a, h1, .inl ⟨rfl, xs, .inl (.inl h3)⟩, ?_⟩
    have hl := h4.length
    rw [List.length_cons] at hl
    have hlt : xs.length - 1 < xs.length := by omega
    refine ⟨a, xs, xs[xs.length - 1], rfl, rfl, h3, by simp [hlt], ?_⟩
    obtain ⟨s', f'⟩ := s.chg hx h2 (by rw [z1]; exact fun z => nomatch z) h4.dropLast
    exact p own σ _ s' f'
  · cases e⟩
theorem s_drop (he : XE C W false te fe) : XS C W fr (tDrop te) (G.sDrop fe) := ⟨fun S0 own σ ρ H s r e D p => by
  unfold G.sDrop at e
  split at e
  · rename_i d z
    cases e
    exact he.run S0 own σ ρ H s _ z _ fun v H1 x1 d1 => p own σ H1 (s.mono x1) (Fr.ex x1)
  · cases e⟩
theorem s_if (ht : XT C W tt ft) (h1 : XS C W fr t f) (h2 : XS C W fr u h) : XS C W fr (tIfS tt t u) (G.sIf ft f h) := ⟨fun S0 own σ ρ H s r e D p => by
  unfold G.sIf at e
  split at e
  · rename_i z
    refine ht.run S0 own σ ρ H s _ z _ fun H1 x1 => ?_
    rw [if_pos rfl]
    exact h1.run S0 own σ ρ H1 (s.mono x1) r e D (p.back (Fr.ex x1))
  · rename_i z
    refine ht.run S0 own σ ρ H s _ z _ fun H1 x1 => ?_
    rw [if_neg Bool.false_ne_true]
    exact h2.run S0 own σ ρ H1 (s.mono x1) r e D (p.back (Fr.ex x1))
  · cases e⟩
theorem s_ret (he : XE C W false te fe) : XS C W false (tRet te) (G.sRet fe) := ⟨fun S0 own σ ρ H s r e D p => by
  unfold G.sRet at e
  split at e
  · rename_i d z
    cases e
    exact he.run S0 own σ ρ H s _ z _ fun v H1 x1 d1 => p v own H H1 Fr.refl x1 d1 fun z => nomatch z
  · cases e⟩
theorem s_retF (he : XF C W false te fe) : XS C W true (tRet te) (G.sRet fe) := ⟨fun S0 own σ ρ H s r e D p => by
  unfold G.sRet at e
  split at e
  · rename_i d z
    cases e
    refine he.run S0 own σ ρ H s _ z _ fun q xs ds H1 ed hq x1 hq' d1 => ?_
    refine p (.ref q) own H H1 Fr.refl x1 ?_ fun _ => ⟨q, xs, ds, rfl, ed, hq, hq', d1⟩
    subst ed
    refine .lst (hid_of ?_ hq') (d1.mono (ex_unhid fun b z => plus_le b z))
    cases k : S0 q with
    | false => rfl
    | true => exact absurd hq (s.s0 q k)
  · cases e⟩
theorem sv_step {S0 : Addr → Bool} {own own' : Own} {σ' : L2.St} {ρ' : G.Env} {H H' : Hp} (s' : Sim C W S0 own' σ' ρ' H') (f' : Fr W own H own' H') : Ex (hid (sv W S0 own) H) (hid (sv W S0 own') H') :=
  Fr.sv f' fun b h1 h2 => by
    obtain ⟨i, q1, q2⟩ := ows_true.mp h2
    rw [(s'.ow i b q1 q2).1] at h1
    cases h1
theorem s_for {wi : TI} {fi : G.FI} {us : List Nat} {g : TG} {fg : G.FG} (hi : XI C W wi fi) (hg : XG C W us g fg) (hb : XS C W fr t f) : XS C W fr (tFor wi g t) (G.sFor fi fg f) := ⟨fun S0 own σ ρ H s r e D p => by
  unfold G.sFor at e
  split at e
  · rename_i l z1
    split at e
    · rename_i ρf z2
      cases e
      obtain ⟨hl, run⟩ := hi.run S0 own σ ρ H s l z1
      refine run _ fun J H1 x1 good => ?_
      obtain ⟨Gd, Y, wk, hG, hY⟩ := good
      refine for_it wk (fun i σ2 H2 => ∃ own2 ρ2, Sim C W S0 own2 σ2 ρ2 H2 ∧ Fr W own H1 own2 H2 ∧ G.loopD fg f (l.drop i) ρ2 = some ρf) ⟨own, ρ, s.mono x1, Fr.refl, by rw [List.drop_zero]; exact z2⟩ ?_ ?_ ?_
      · rintro i σ2 H2 _ ⟨own2, ρ2, s2, f2, _⟩
        exact hG H2 ((sv_step s2 f2).trans ex_hid_self)
      · rintro i x σ2 H2 H3 hn ⟨own2, ρ2, s2, f2, e2⟩ y
        have hd : l[i]? = some l[i] := by simp [hn]
        rw [List.drop_eq_getElem_cons hn] at e2
        unfold G.loopD at e2
        obtain ⟨y1, y2⟩ := hY i (sv W S0 own2) H2 x H3 l[i] hd (fun b q => s2.dom b q) (sv_step s2 f2) y
        split at e2
        · rename_i ρ3 z3
          refine hg.run S0 own2 σ2 ρ2 H3 (s2.mono y1) x _ y2 ρ3 z3 _ fun σ3 s3 _ _ => ?_
          split at e2
          · rename_i ρ4 z4
            refine hb.run S0 own2 σ3 ρ3 H3 s3 _ z4 _ ?_
            exact fun own4 σ4 H4 s4 f4 => ⟨own4, ρ4, s4, (f2.trans (Fr.ex y1)).trans f4, e2⟩
          · cases e2
        · cases e2
      · rintro σ2 H2 ⟨own2, ρ2, s2, f2, e2⟩
        rw [List.drop_eq_nil_of_le (Nat.le_refl _)] at e2
        cases e2
        exact p own2 σ2 H2 s2 ((Fr.ex x1).trans f2)
    · cases e
  · cases e⟩
theorem s_while {n : Nat} (ht : XT C W tt ft) (hb : XS C W fr t f) : XS C W fr (tWhile tt t) (G.sWhile n ft f) := ⟨fun S0 own σ ρ H s r e D p => by
  unfold G.sWhile at e
  split at e
  · rename_i ρf z1
    cases e
    refine ⟨fun m σ2 H2 => ∃ own2 ρ2, Sim C W S0 own2 σ2 ρ2 H2 ∧ Fr W own H own2 H2 ∧ G.whileD ft f m ρ2 = some ρf, ⟨n, own, ρ, s, Fr.refl, z1⟩, ?_⟩
    rintro m σ2 H2 ⟨own2, ρ2, s2, f2, e2⟩
    cases m with
    | zero => cases e2
    | succ m =>
      unfold G.whileD at e2
      split at e2
      · rename_i z3
        refine ht.run S0 own2 σ2 ρ2 H2 s2 _ z3 _ fun H3 x3 => ?_
        rw [if_pos rfl]
        split at e2
        · rename_i ρ4 z4
          refine ⟨fun σ4 H4 => ∃ own4, Sim C W S0 own4 σ4 ρ4 H4 ∧ Fr W own H own4 H4, fun σ4 H4 ⟨own4, s4, f4⟩ => ⟨m, Nat.lt_succ_self m, own4, ρ4, s4, f4, e2⟩, ?_⟩
          refine hb.run S0 own2 σ2 ρ2 H3 (s2.mono x3) _ z4 _ ?_
          exact fun own4 σ4 H4 s4 f4 => ⟨own4, s4, (f2.trans (Fr.ex x3)).trans f4⟩
        · cases e2
      · rename_i z3
        cases e2
        refine ht.run S0 own2 σ2 ρf H2 s2 _ z3 _ fun H3 x3 => ?_
        rw [if_neg Bool.false_ne_true]
        exact p own2 σ2 H3 (s2.mono x3) (f2.trans (Fr.ex x3))
      · cases e2
  · cases e⟩
end

/-! ### a def -/
theorem start_sim {C : Addr} {W : List Nat} {S0 : Addr → Bool} {H : Hp} {vs : List V} {ds : List G.D} {N : List Str} {ns : Nat} (hs : ∀ b, S0 b = true → H b ≠ none) (hd : Dats C (hid S0 H) vs ds) (hW : ∀ i, i ∈ W → ds.length ≤ i) (hN : N.length = ds.length + ns) :
    Sim C W S0 (fun _ => none) (L2.start N vs) (ds.map some ++ List.replicate ns none) H := by
  have hl := hd.length
  have nosv : ∀ b, sv W S0 (fun _ => none) b = true → S0 b = true := fun b h => by
    rcases sv_true.mp h with q | ⟨i, _, q⟩
    · exact q
    · cases q
  have gp : ∀ i d, (ds.map some ++ List.replicate ns none).getD i none = some d → ds[i]? = some d := fun i d h => by
    rw [List.getD_eq_getElem?_getD] at h
    by_cases k : i < ds.length
    · rw [List.getElem?_append_left (by rw [List.length_map]; exact k), List.getElem?_map] at h
      cases z : ds[i]? with
      | none => rw [z] at h; cases h
      | some x => rw [z] at h; cases h; rfl
    · rw [List.getElem?_append_right (by rw [List.length_map]; omega), List.getElem?_replicate] at h
      split at h <;> cases h
  refine ⟨hs, fun i a _ h => (nomatch h), fun i j a _ _ h => (nomatch h), ?_, fun i d hi h => ?_, fun i d hi h => ?_⟩
  · unfold L2.start
    rw [List.length_append, List.length_append, List.length_map, List.length_map, List.length_replicate, List.length_replicate]
    omega
  · obtain ⟨v, h1, h2⟩ := hd.get (gp i d h)
    refine ⟨v, ?_, h2.mono (ex_unhid nosv)⟩
    unfold L2.start
    rw [List.getElem?_append_left (by rw [List.length_map]; exact (List.getElem?_eq_some_iff.mp h1).1), List.getElem?_map, h1]
    rfl
  · have := (List.getElem?_eq_some_iff.mp (gp i d h)).1
    exact absurd this (Nat.not_lt.mpr (hW i hi))
theorem run_cases {np ns : Nat} {b : G.FS} {ds : List G.D} {d : G.D} (e : G.run np ns b ds = some d) : ds.length = np ∧ (b (ds.map some ++ List.replicate ns none) = some (.rt d) ∨ ∃ ρ, b (ds.map some ++ List.replicate ns none) = some (.nx ρ) ∧ d = .non) := by
  unfold G.run at e
  by_cases k : ds.length = np
  · rw [if_pos k] at e
    split at e
    · cases e
      exact ⟨k, .inl (by assumption)⟩
    · cases e
      exact ⟨k, .inr ⟨_, by assumption, rfl⟩⟩
    · cases e
  · rw [if_neg k] at e
    cases e
/-- the body's reading at the parameters' values -/
theorem body_ok {C : Addr} {W : List Nat} {t : TS} {b : G.FS} {np ns : Nat} {N : List Str} (h : XS C W false t b) (hW : ∀ i, i ∈ W → np ≤ i) (hN : N.length = np + ns) {vs : List V} {H : Hp} {Q : VK} {E : XK} (p : spF C (G.run np ns b) vs H Q E) :
    t { nx := fun _ H' => Q .non H', rt := Q } (L2.start N vs) H := by
  obtain ⟨S0, ds, d, hs, hd, e, q⟩ := p
  obtain ⟨k, e2⟩ := run_cases e
  have s := start_sim (N := N) (ns := ns) hs hd (fun i hi => by rw [k]; exact hW i hi) (by rw [k]; exact hN)
  have back : ∀ {own' : Own} {H1 : Hp}, Fr W (fun _ => none) H own' H1 → Ex H H1 := fun f b o e => (hid_some (f b o (hid_of (by
    cases z : ows W (fun _ => none) b with
    | false => rfl
    | true =>
      obtain ⟨i, _, q⟩ := ows_true.mp z
      cases q) e))).2
  rcases e2 with e3 | ⟨ρ, e3, rfl⟩
  · exact h.run S0 _ _ _ H s _ e3 _ fun v own' H1 H' f x hv _ => q v H' ((back f).trans x) hv
  · exact h.run S0 _ _ _ H s _ e3 _ fun own' σ' H' s' f => q .non H' (back f) .non
theorem bodyN_ok {C : Addr} {W : List Nat} {t : TS} {b : G.FS} {np ns : Nat} {N : List Str} (h : XS C W true t b) (hW : ∀ i, i ∈ W → np ≤ i) (hN : N.length = np + ns) (hr : ∀ ρ ρ', b ρ = some (.nx ρ') → False) {vs : List V} {H : Hp} {Q : VK} {E : XK} (p : spN C (G.run np ns b) vs H Q E) :
    t { nx := fun _ H' => Q .non H', rt := Q } (L2.start N vs) H := by
  obtain ⟨S0, ds, d, hs, hd, e, q⟩ := p
  obtain ⟨k, e2⟩ := run_cases e
  have s := start_sim (N := N) (ns := ns) hs hd (fun i hi => by rw [k]; exact hW i hi) (by rw [k]; exact hN)
  have back : ∀ {own' : Own} {H1 : Hp}, Fr W (fun _ => none) H own' H1 → Ex H H1 := fun f b o e => (hid_some (f b o (hid_of (by
    cases z : ows W (fun _ => none) b with
    | false => rfl
    | true =>
      obtain ⟨i, _, q⟩ := ows_true.mp z
      cases q) e))).2
  rcases e2 with e3 | ⟨ρ, e3, rfl⟩
  · refine h.run S0 _ _ _ H s _ e3 _ fun v own' H1 H' f x hv z => ?_
    obtain ⟨p, xs, ds', rfl, ed, hp, hp', hds⟩ := z rfl
    exact q p xs ds' H' ed (fresh_back (back f) hp) ((back f).trans x) hp' hds
  · exact (hr _ _ e3).elim
theorem spF_len {C : Addr} {np ns : Nat} {b : G.FS} {vs : List V} {H : Hp} {Q : VK} {E : XK} (p : spF C (G.run np ns b) vs H Q E) : vs.length = np := by
  obtain ⟨S0, ds, d, hs, hd, e, q⟩ := p
  rw [hd.length]
  exact (run_cases e).1
theorem spN_len {C : Addr} {np ns : Nat} {b : G.FS} {vs : List V} {H : Hp} {Q : VK} {E : XK} (p : spN C (G.run np ns b) vs H Q E) : vs.length = np := by
  obtain ⟨S0, ds, d, hs, hd, e, q⟩ := p
  rw [hd.length]
  exact (run_cases e).1
end GB

set_option autoImplicit false
/-! What each def of the text does, printed by gen.py. -/
namespace S
def b_is_integer : G.FS :=
  (G.sRet (G.fAndV (G.fB1 G.bIsInt (G.fVar 0)) (G.fNotV (G.fB1 G.bIsBool (G.fVar 0)))))
def is_integer : List G.D → Option G.D := G.run 1 0 b_is_integer
def b_is_count : G.FS :=
  (G.sRet (G.fAndV (G.fCall S.is_integer (G.aCons (G.fVar 0) G.aNil)) (G.fI2 G.gGe (G.fVar 0) (G.fC (.int 0)))))
def is_count : List G.D → Option G.D := G.run 1 0 b_is_count
def b_is_list : G.FS :=
  (G.sRet (G.fB1 G.bIsList (G.fVar 0)))
def is_list : List G.D → Option G.D := G.run 1 0 b_is_list
def b_want_at_most : G.FS :=
  (G.sIf (G.fTest (G.fI2 G.gGt (G.fVar 2) (G.fVar 1))) G.sNever G.sNext)
def want_at_most : List G.D → Option G.D := G.run 3 0 b_want_at_most
def b_without_end : G.FS :=
  (G.sSeq (G.sAsg (G.gName 1) (G.fB1 G.bLen (G.fVar 0)))
  (G.sSeq (G.sWhile 30 (G.tAnd (G.fTest (G.fI2 G.gGt (G.fVar 1) (G.fC (.int 0)))) (G.fTest (G.fI2 G.gEq (G.fIxL (G.fVar 0) (G.fI2 G.gSub (G.fVar 1) (G.fC (.int 1)))) (G.fC (.int 0))))) (G.sAsg (G.gName 1) (G.fI2 G.gSub (G.fVar 1) (G.fC (.int 1)))))
  (G.sRet (G.fB1 G.bList (G.fSl (G.fVar 0) G.oNone (G.oSome (G.fVar 1)))))))
def without_end : List G.D → Option G.D := G.run 1 1 b_without_end
def b_undone_by : G.FS :=
  (G.sRet (G.fIxL (G.fLc (G.iRange2 (G.fC (.int 1)) (G.fVar 0)) (G.gName 2) (G.fTest (G.fI2 G.gEq (G.fI2 G.gMod (G.fI2 G.gMul (G.fVar 2) (G.fVar 1)) (G.fVar 0)) (G.fC (.int 1)))) (G.fVar 2) [2]) (G.fC (.int 0))))
def undone_by : List G.D → Option G.D := G.run 2 1 b_undone_by
def b_poly_rest : G.FS :=
  (G.sSeq (G.sPar2 3 4 (G.fCall S.without_end (G.aCons (G.fVar 1) G.aNil)) (G.fCall S.undone_by (G.aCons (G.fVar 0) (G.aCons (G.fIxL (G.fVar 2) (G.fNeg (G.fC (.int 1)))) G.aNil))))
  (G.sSeq (G.sWhile 30 (G.fTest (G.fI2 G.gGe (G.fB1 G.bLen (G.fVar 3)) (G.fB1 G.bLen (G.fVar 2)))) (G.sSeq (G.sPar2 5 6 (G.fI2 G.gSub (G.fB1 G.bLen (G.fVar 3)) (G.fB1 G.bLen (G.fVar 2))) (G.fI2 G.gMod (G.fI2 G.gMul (G.fIxL (G.fVar 3) (G.fNeg (G.fC (.int 1)))) (G.fVar 4)) (G.fVar 0)))
  (G.sSeq (G.sFor (G.iEnum (G.fVar 2)) (G.gTup 7 8)
  (G.sSetIx 3 (G.fI2 G.gAdd (G.fVar 5) (G.fVar 7)) (G.fI2 G.gMod (G.fI2 G.gSub (G.fIxL (G.fVar 3) (G.fI2 G.gAdd (G.fVar 5) (G.fVar 7))) (G.fI2 G.gMul (G.fVar 6) (G.fVar 8))) (G.fVar 0))))
  (G.sAsg (G.gName 3) (G.fScL (G.fCall S.without_end (G.aCons (G.fVar 3) G.aNil)))))))
  (G.sRet (G.fVar 3))))
def poly_rest : List G.D → Option G.D := G.run 3 6 b_poly_rest
def b_poly_times : G.FS :=
  (G.sSeq (G.sAsg (G.gName 4) (G.fRep (G.fLst (G.aCons (G.fC (.int 0)) G.aNil)) (G.fI2 G.gMax2 (G.fC (.int 0)) (G.fI2 G.gSub (G.fI2 G.gAdd (G.fB1 G.bLen (G.fVar 1)) (G.fB1 G.bLen (G.fVar 2))) (G.fC (.int 1))))))
  (G.sSeq (G.sFor (G.iEnum (G.fVar 1)) (G.gTup 5 6)
  (G.sFor (G.iEnum (G.fVar 2)) (G.gTup 7 8)
  (G.sSetIx 4 (G.fI2 G.gAdd (G.fVar 5) (G.fVar 7)) (G.fI2 G.gMod (G.fI2 G.gAdd (G.fIxL (G.fVar 4) (G.fI2 G.gAdd (G.fVar 5) (G.fVar 7))) (G.fI2 G.gMul (G.fVar 6) (G.fVar 8))) (G.fVar 0)))))
  (G.sRet (G.fCall S.poly_rest (G.aCons (G.fVar 0) (G.aCons (G.fVar 4) (G.aCons (G.fVar 3) G.aNil)))))))
def poly_times : List G.D → Option G.D := G.run 4 5 b_poly_times
def b_poly_less : G.FS :=
  (G.sSeq (G.sAsg (G.gName 3) (G.fI2 G.gMax2 (G.fB1 G.bLen (G.fVar 1)) (G.fB1 G.bLen (G.fVar 2))))
  (G.sSeq (G.sPar2 4 5 (G.fCat (G.fVar 1) (G.fRep (G.fLst (G.aCons (G.fC (.int 0)) G.aNil)) (G.fI2 G.gSub (G.fVar 3) (G.fB1 G.bLen (G.fVar 1))))) (G.fCat (G.fVar 2) (G.fRep (G.fLst (G.aCons (G.fC (.int 0)) G.aNil)) (G.fI2 G.gSub (G.fVar 3) (G.fB1 G.bLen (G.fVar 2))))))
  (G.sRet (G.fCall S.without_end (G.aCons (G.fLc (G.iZip (G.fVar 4) (G.fVar 5)) (G.gTup 6 7) G.tYes (G.fI2 G.gMod (G.fI2 G.gSub (G.fVar 6) (G.fVar 7)) (G.fVar 0)) [6, 7]) G.aNil)))))
def poly_less : List G.D → Option G.D := G.run 3 5 b_poly_less
def b_are_apart : G.FS :=
  (G.sSeq (G.sPar2 3 4 (G.fVar 1) (G.fVar 2))
  (G.sSeq (G.sWhile 30 (G.fTest (G.fI2 G.gGt (G.fB1 G.bLen (G.fVar 4)) (G.fC (.int 0)))) (G.sPar2 3 4 (G.fVar 4) (G.fCall S.poly_rest (G.aCons (G.fVar 0) (G.aCons (G.fVar 3) (G.aCons (G.fVar 4) G.aNil))))))
  (G.sRet (G.fI2 G.gEq (G.fB1 G.bLen (G.fVar 3)) (G.fC (.int 1))))))
def are_apart : List G.D → Option G.D := G.run 3 2 b_are_apart
def b_letter_turns : G.FS :=
  (G.sSeq (G.sAsg (G.gName 2) (G.fLst (G.aCons (G.fCall S.poly_rest (G.aCons (G.fVar 0) (G.aCons (G.fLst (G.aCons (G.fC (.int 0)) (G.aCons (G.fC (.int 1)) G.aNil))) (G.aCons (G.fVar 1) G.aNil)))) G.aNil)))
  (G.sSeq (G.sFor (G.iRange1 (G.fI2 G.gSub (G.fB1 G.bLen (G.fVar 1)) (G.fC (.int 1)))) (G.gName 3)
  (G.sSeq (G.sAsg (G.gName 4) (G.fLst (G.aCons (G.fC (.int 1)) G.aNil)))
  (G.sSeq (G.sFor (G.iRange1 (G.fVar 0)) (G.gName 5)
  (G.sAsg (G.gName 4) (G.fCall S.poly_times (G.aCons (G.fVar 0) (G.aCons (G.fVar 4) (G.aCons (G.fIxL (G.fVar 2) (G.fNeg (G.fC (.int 1)))) (G.aCons (G.fVar 1) G.aNil)))))))
  (G.sApp 2 (G.fVar 4)))))
  (G.sRet (G.fVar 2))))
def letter_turns : List G.D → Option G.D := G.run 2 4 b_letter_turns
def b_is_prime : G.FS :=
  (G.sRet (G.fB1 G.bAll (G.fLc (G.iRange2 (G.fC (.int 2)) (G.fVar 0)) (G.gName 1) G.tYes (G.fI2 G.gNe (G.fI2 G.gMod (G.fVar 0) (G.fVar 1)) (G.fC (.int 0))) [1])))
def is_prime : List G.D → Option G.D := G.run 1 1 b_is_prime
def b_is_single : G.FS :=
  (G.sSeq (G.sAsg (G.gTup 3 4) (G.fTup (G.aCons (G.fI2 G.gSub (G.fB1 G.bLen (G.fVar 1)) (G.fC (.int 1))) (G.aCons (G.fCall S.letter_turns (G.aCons (G.fVar 0) (G.aCons (G.fVar 1) G.aNil))) G.aNil))))
  (G.sSeq (G.sIf (G.fTest (G.fNeD (G.fIxL (G.fVar 4) (G.fVar 3)) (G.fIxL (G.fVar 4) (G.fC (.int 0))))) (G.sRet (G.fC (.bl false))) G.sNext)
  (G.sSeq (G.sAsg (G.gName 2) (G.fLc (G.iRange2 (G.fC (.int 2)) (G.fI2 G.gAdd (G.fVar 3) (G.fC (.int 1)))) (G.gName 5) (G.tAnd (G.fTest (G.fI2 G.gEq (G.fI2 G.gMod (G.fVar 3) (G.fVar 5)) (G.fC (.int 0)))) (G.fTest (G.fCall S.is_prime (G.aCons (G.fVar 5) G.aNil)))) (G.fVar 5) [5]))
  (G.sRet (G.fB1 G.bAll (G.fLc (G.iList (G.fVar 2)) (G.gName 5) G.tYes (G.fCall S.are_apart (G.aCons (G.fVar 0) (G.aCons (G.fB1 G.bList (G.fVar 1)) (G.aCons (G.fCall S.poly_less (G.aCons (G.fVar 0) (G.aCons (G.fIxL (G.fVar 4) (G.fI2 G.gDiv (G.fVar 3) (G.fVar 5))) (G.aCons (G.fIxL (G.fVar 4) (G.fC (.int 0))) G.aNil)))) G.aNil)))) [5]))))))
def is_single : List G.D → Option G.D := G.run 2 4 b_is_single
def b_want_prime : G.FS :=
  (G.sIf (G.tOr (G.tNot (G.fTest (G.fCall S.is_count (G.aCons (G.fVar 0) G.aNil)))) (G.fTest (G.fNotIn [2, 3, 5, 7] (G.fVar 0)))) G.sNever G.sNext)
def want_prime : List G.D → Option G.D := G.run 1 0 b_want_prime
def b_is_figures : G.FS :=
  (G.sRet (G.fAndV (G.fCall S.is_list (G.aCons (G.fVar 1) G.aNil)) (G.fAndV (G.fI2 G.gEq (G.fB1 G.bLen (G.fVar 1)) (G.fVar 2)) (G.fB1 G.bAll (G.fLc (G.iList (G.fVar 1)) (G.gName 3) G.tYes (G.fAndV (G.fCall S.is_count (G.aCons (G.fVar 3) G.aNil)) (G.fI2 G.gLt (G.fVar 3) (G.fVar 0))) [3])))))
def is_figures : List G.D → Option G.D := G.run 3 1 b_is_figures
def b_is_right : G.FS :=
  (G.sSeq (G.sIf (G.tOr (G.tNot (G.fTest (G.fCall S.is_list (G.aCons (G.fVar 1) G.aNil)))) (G.tOr (G.tNot (G.fTest (G.fChain G.gLe G.gLe (G.fC (.int 3)) (G.fB1 G.bLen (G.fVar 1)) (G.fI2 G.gAdd (G.fC (.int 12)) (G.fC (.int 1)))))) (G.tNot (G.fTest (G.fCall S.is_figures (G.aCons (G.fVar 0) (G.aCons (G.fVar 1) (G.aCons (G.fB1 G.bLen (G.fVar 1)) G.aNil)))))))) (G.sRet (G.fC (.bl false))) G.sNext)
  (G.sRet (G.fAndV (G.fI2 G.gEq (G.fIxL (G.fVar 1) (G.fNeg (G.fC (.int 1)))) (G.fC (.int 1))) (G.fCall S.is_single (G.aCons (G.fVar 0) (G.aCons (G.fB1 G.bList (G.fVar 1)) G.aNil))))))
def is_right : List G.D → Option G.D := G.run 2 0 b_is_right
def b_told_number : G.FS :=
  (G.sSeq (G.sAsg (G.gName 2) (G.fC (.int 0)))
  (G.sSeq (G.sFor (G.iList (G.fRev (G.fVar 1))) (G.gName 3)
  (G.sAsg (G.gName 2) (G.fI2 G.gAdd (G.fI2 G.gMul (G.fVar 2) (G.fVar 0)) (G.fVar 3))))
  (G.sRet (G.fVar 2))))
def told_number : List G.D → Option G.D := G.run 2 2 b_told_number
def b_poly_of : G.FS :=
  (G.sSeq (G.sPar2 2 3 (G.fLst G.aNil) (G.fVar 1))
  (G.sSeq (G.sWhile 30 (G.fTest (G.fI2 G.gGt (G.fVar 3) (G.fC (.int 0)))) (G.sSeq (G.sApp 2 (G.fI2 G.gMod (G.fVar 3) (G.fVar 0)))
  (G.sAsg (G.gName 3) (G.fI2 G.gDiv (G.fVar 3) (G.fVar 0)))))
  (G.sRet (G.fVar 2))))
def poly_of : List G.D → Option G.D := G.run 2 2 b_poly_of
def b_powers_by : G.FS :=
  (G.sSeq (G.sPar3 3 4 5 (G.fCall S.poly_of (G.aCons (G.fVar 0) (G.aCons (G.fVar 2) G.aNil))) (G.fLst (G.aCons (G.fC (.int 1)) G.aNil)) (G.fCall S.poly_of (G.aCons (G.fVar 0) (G.aCons (G.fVar 2) G.aNil))))
  (G.sSeq (G.sWhile 200 (G.fTest (G.fNeD (G.fVar 5) (G.fLst (G.aCons (G.fC (.int 1)) G.aNil)))) (G.sSeq (G.sApp 4 (G.fCall S.told_number (G.aCons (G.fVar 0) (G.aCons (G.fVar 5) G.aNil))))
  (G.sAsg (G.gName 5) (G.fCall S.poly_times (G.aCons (G.fVar 0) (G.aCons (G.fVar 5) (G.aCons (G.fVar 3) (G.aCons (G.fVar 1) G.aNil))))))))
  (G.sRet (G.fVar 4))))
def powers_by : List G.D → Option G.D := G.run 3 3 b_powers_by
def b_all_powers : G.FS :=
  (G.sSeq (G.sAsg (G.gName 3) (G.fVar 0))
  (G.sSeq (G.sAsg (G.gName 4) (G.fCall S.powers_by (G.aCons (G.fVar 0) (G.aCons (G.fVar 1) (G.aCons (G.fVar 3) G.aNil)))))
  (G.sSeq (G.sWhile 200 (G.fTest (G.fI2 G.gLt (G.fB1 G.bLen (G.fVar 4)) (G.fI2 G.gSub (G.fVar 2) (G.fC (.int 1))))) (G.sSeq (G.sAsg (G.gName 3) (G.fI2 G.gAdd (G.fVar 3) (G.fC (.int 1))))
  (G.sAsg (G.gName 4) (G.fCall S.powers_by (G.aCons (G.fVar 0) (G.aCons (G.fVar 1) (G.aCons (G.fVar 3) G.aNil)))))))
  (G.sRet (G.fVar 4)))))
def all_powers : List G.D → Option G.D := G.run 3 2 b_all_powers
def b_logs_by : G.FS :=
  (G.sSeq (G.sAsg (G.gName 2) (G.fRep (G.fLst (G.aCons (G.fNeg (G.fC (.int 1))) G.aNil)) (G.fVar 1)))
  (G.sSeq (G.sFor (G.iEnum (G.fVar 0)) (G.gTup 3 4)
  (G.sSetIx 2 (G.fVar 4) (G.fVar 3)))
  (G.sRet (G.fVar 2))))
def logs_by : List G.D → Option G.D := G.run 2 3 b_logs_by
def b_sized : G.FS :=
  (G.sSeq (G.sAsg (G.gName 2) (G.fC (.int 1)))
  (G.sSeq (G.sFor (G.iRange1 (G.fVar 1)) (G.gName 3)
  (G.sAsg (G.gName 2) (G.fI2 G.gMul (G.fVar 2) (G.fVar 0))))
  (G.sRet (G.fVar 2))))
def sized : List G.D → Option G.D := G.run 2 2 b_sized
def b_want_field : G.FS :=
  (G.sSeq (G.sIf (G.tNot (G.fTest (G.fB1 G.bIsField (G.fVar 0)))) G.sNever G.sNext)
  (G.sRet (G.fVar 0)))
def want_field : List G.D → Option G.D := G.run 1 0 b_want_field
def b_figures_of : G.FS :=
  (G.sSeq (G.sPar2 3 4 (G.fLst G.aNil) (G.fVar 1))
  (G.sSeq (G.sFor (G.iRange1 (G.fAttr 1 (G.fVar 0))) (G.gName 2)
  (G.sSeq (G.sApp 3 (G.fI2 G.gMod (G.fVar 4) (G.fAttr 0 (G.fVar 0))))
  (G.sAsg (G.gName 4) (G.fI2 G.gDiv (G.fVar 4) (G.fAttr 0 (G.fVar 0))))))
  (G.sRet (G.fVar 3))))
def figures_of : List G.D → Option G.D := G.run 2 3 b_figures_of
def b_by_figures_of : G.FS :=
  (G.sSeq (G.sAsg (G.gName 2) (G.fC (.int 0)))
  (G.sSeq (G.sFor (G.iList (G.fRev (G.fVar 1))) (G.gName 3)
  (G.sAsg (G.gName 2) (G.fI2 G.gAdd (G.fI2 G.gMul (G.fVar 2) (G.fAttr 0 (G.fVar 0))) (G.fVar 3))))
  (G.sRet (G.fVar 2))))
def by_figures_of : List G.D → Option G.D := G.run 2 2 b_by_figures_of
def b_plus_of : G.FS :=
  (G.sSeq (G.sIf (G.tOr (G.fTest (G.fI2 G.gEq (G.fVar 1) (G.fC (.int 0)))) (G.fTest (G.fI2 G.gEq (G.fVar 2) (G.fC (.int 0))))) (G.sRet (G.fI2 G.gAdd (G.fVar 1) (G.fVar 2))) G.sNext)
  (G.sClr 3 (G.sRet (G.fCall S.by_figures_of (G.aCons (G.fVar 0) (G.aCons (G.fLc (G.iZip (G.fCall S.figures_of (G.aCons (G.fVar 0) (G.aCons (G.fVar 1) G.aNil))) (G.fCall S.figures_of (G.aCons (G.fVar 0) (G.aCons (G.fVar 2) G.aNil)))) (G.gTup 4 5) G.tYes (G.fI2 G.gMod (G.fI2 G.gAdd (G.fVar 4) (G.fVar 5)) (G.fAttr 0 (G.fVar 0))) [4, 5]) G.aNil))))))
def plus_of : List G.D → Option G.D := G.run 3 3 b_plus_of
def b_minus_of : G.FS :=
  (G.sSeq (G.sIf (G.fTest (G.fI2 G.gEq (G.fVar 2) (G.fC (.int 0)))) (G.sRet (G.fVar 1)) G.sNext)
  (G.sClr 3 (G.sRet (G.fCall S.by_figures_of (G.aCons (G.fVar 0) (G.aCons (G.fLc (G.iZip (G.fCall S.figures_of (G.aCons (G.fVar 0) (G.aCons (G.fVar 1) G.aNil))) (G.fCall S.figures_of (G.aCons (G.fVar 0) (G.aCons (G.fVar 2) G.aNil)))) (G.gTup 4 5) G.tYes (G.fI2 G.gMod (G.fI2 G.gSub (G.fVar 4) (G.fVar 5)) (G.fAttr 0 (G.fVar 0))) [4, 5]) G.aNil))))))
def minus_of : List G.D → Option G.D := G.run 3 3 b_minus_of
def b_times_of : G.FS :=
  (G.sSeq (G.sIf (G.tOr (G.fTest (G.fI2 G.gEq (G.fVar 1) (G.fC (.int 0)))) (G.fTest (G.fI2 G.gEq (G.fVar 2) (G.fC (.int 0))))) (G.sRet (G.fC (.int 0))) G.sNext)
  (G.sRet (G.fIxL (G.fAttr 4 (G.fVar 0)) (G.fI2 G.gMod (G.fI2 G.gAdd (G.fIxL (G.fAttr 5 (G.fVar 0)) (G.fVar 1)) (G.fIxL (G.fAttr 5 (G.fVar 0)) (G.fVar 2))) (G.fI2 G.gSub (G.fAttr 2 (G.fVar 0)) (G.fC (.int 1)))))))
def times_of : List G.D → Option G.D := G.run 3 0 b_times_of
def b_over_of : G.FS :=
  (G.sSeq (G.sIf (G.fTest (G.fI2 G.gEq (G.fVar 1) (G.fC (.int 0)))) (G.sRet (G.fC (.int 0))) G.sNext)
  (G.sRet (G.fIxL (G.fAttr 4 (G.fVar 0)) (G.fI2 G.gMod (G.fI2 G.gSub (G.fIxL (G.fAttr 5 (G.fVar 0)) (G.fVar 1)) (G.fIxL (G.fAttr 5 (G.fVar 0)) (G.fVar 2))) (G.fI2 G.gSub (G.fAttr 2 (G.fVar 0)) (G.fC (.int 1)))))))
def over_of : List G.D → Option G.D := G.run 3 0 b_over_of
def b_power_of : G.FS :=
  (G.sSeq (G.sIf (G.fTest (G.fI2 G.gEq (G.fVar 2) (G.fC (.int 0)))) (G.sRet (G.fC (.int 1))) G.sNext)
  (G.sRet (G.fIf (G.fTest (G.fI2 G.gNe (G.fVar 1) (G.fC (.int 0)))) (G.fIxL (G.fAttr 4 (G.fVar 0)) (G.fI2 G.gMod (G.fI2 G.gMul (G.fIxL (G.fAttr 5 (G.fVar 0)) (G.fVar 1)) (G.fVar 2)) (G.fI2 G.gSub (G.fAttr 2 (G.fVar 0)) (G.fC (.int 1))))) (G.fC (.int 0)))))
def power_of : List G.D → Option G.D := G.run 3 0 b_power_of
def b_turned_of : G.FS :=
  (G.sSeq (G.sAsg (G.gName 3) (G.fVar 1))
  (G.sSeq (G.sFor (G.iRange1 (G.fI2 G.gMod (G.fVar 2) (G.fAttr 1 (G.fVar 0)))) (G.gName 4)
  (G.sAsg (G.gName 3) (G.fCall S.power_of (G.aCons (G.fVar 0) (G.aCons (G.fVar 3) (G.aCons (G.fAttr 0 (G.fVar 0)) G.aNil))))))
  (G.sRet (G.fVar 3))))
def turned_of : List G.D → Option G.D := G.run 3 2 b_turned_of
def b_norm_of : G.FS :=
  (G.sSeq (G.sPar2 3 4 (G.fC (.int 1)) (G.fVar 1))
  (G.sSeq (G.sFor (G.iRange1 (G.fAttr 1 (G.fVar 0))) (G.gName 2)
  (G.sPar2 3 4 (G.fCall S.times_of (G.aCons (G.fVar 0) (G.aCons (G.fVar 3) (G.aCons (G.fVar 4) G.aNil)))) (G.fCall S.turned_of (G.aCons (G.fVar 0) (G.aCons (G.fVar 4) (G.aCons (G.fC (.int 1)) G.aNil))))))
  (G.sRet (G.fVar 3))))
def norm_of : List G.D → Option G.D := G.run 2 3 b_norm_of
def b_is_in : G.FS :=
  (G.sRet (G.fAndV (G.fCall S.is_count (G.aCons (G.fVar 1) G.aNil)) (G.fI2 G.gLt (G.fVar 1) (G.fAttr 2 (G.fVar 0)))))
def is_in : List G.D → Option G.D := G.run 2 0 b_is_in
def b_want_element : G.FS :=
  (G.sIf (G.tNot (G.fTest (G.fCall S.is_in (G.aCons (G.fVar 0) (G.aCons (G.fVar 1) G.aNil))))) G.sNever G.sNext)
def want_element : List G.D → Option G.D := G.run 2 0 b_want_element
def b_norm : G.FS :=
  (G.sSeq (G.sAsg (G.gName 2) (G.fCall S.want_field (G.aCons (G.fVar 0) G.aNil)))
  (G.sSeq (G.sDrop (G.fCall S.want_element (G.aCons (G.fVar 2) (G.aCons (G.fVar 1) G.aNil))))
  (G.sRet (G.fCall S.norm_of (G.aCons (G.fVar 2) (G.aCons (G.fVar 1) G.aNil))))))
def norm : List G.D → Option G.D := G.run 2 1 b_norm
def b_told_of : G.FS :=
  (G.sSeq (G.sAsg (G.gName 1) (G.fB1 G.bLen (G.fVar 0)))
  (G.sSeq (G.sWhile 30 (G.tAnd (G.fTest (G.fI2 G.gGt (G.fVar 1) (G.fC (.int 0)))) (G.fTest (G.fI2 G.gEq (G.fIxL (G.fVar 0) (G.fI2 G.gSub (G.fVar 1) (G.fC (.int 1)))) (G.fC (.int 0))))) (G.sAsg (G.gName 1) (G.fI2 G.gSub (G.fVar 1) (G.fC (.int 1)))))
  (G.sRet (G.fB1 G.bList (G.fSl (G.fVar 0) G.oNone (G.oSome (G.fVar 1)))))))
def told_of : List G.D → Option G.D := G.run 1 1 b_told_of
def b_is_sum : G.FS :=
  (G.sRet (G.fAndV (G.fCall S.is_list (G.aCons (G.fVar 1) G.aNil)) (G.fAndV (G.fI2 G.gLe (G.fB1 G.bLen (G.fVar 1)) (G.fC (.int 13))) (G.fB1 G.bAll (G.fLc (G.iList (G.fVar 1)) (G.gName 2) G.tYes (G.fCall S.is_in (G.aCons (G.fVar 0) (G.aCons (G.fVar 2) G.aNil))) [2])))))
def is_sum : List G.D → Option G.D := G.run 2 1 b_is_sum
def b_want_turner : G.FS :=
  (G.sSeq (G.sIf (G.tNot (G.fTest (G.fCall S.is_sum (G.aCons (G.fVar 0) (G.aCons (G.fVar 1) G.aNil))))) G.sNever G.sNext)
  (G.sRet (G.fCall S.told_of (G.aCons (G.fVar 1) G.aNil))))
def want_turner : List G.D → Option G.D := G.run 2 0 b_want_turner
def b_sum_turners : G.FS :=
  (G.sSeq (G.sAsg (G.gTup 4 5) (G.fIf (G.fTest (G.fI2 G.gGe (G.fB1 G.bLen (G.fVar 1)) (G.fB1 G.bLen (G.fVar 2)))) (G.fTup (G.aCons (G.fVar 1) (G.aCons (G.fVar 2) G.aNil))) (G.fTup (G.aCons (G.fVar 2) (G.aCons (G.fVar 1) G.aNil)))))
  (G.sSeq (G.sAsg (G.gName 3) (G.fLc (G.iRange1 (G.fB1 G.bLen (G.fVar 5))) (G.gName 6) G.tYes (G.fCall S.plus_of (G.aCons (G.fVar 0) (G.aCons (G.fIxL (G.fVar 4) (G.fVar 6)) (G.aCons (G.fIxL (G.fVar 5) (G.fVar 6)) G.aNil)))) [6]))
  (G.sRet (G.fCall S.told_of (G.aCons (G.fCat (G.fVar 3) (G.fSl (G.fVar 4) (G.oSome (G.fB1 G.bLen (G.fVar 5))) G.oNone)) G.aNil)))))
def sum_turners : List G.D → Option G.D := G.run 3 4 b_sum_turners
def b_less_turners : G.FS :=
  (G.sRet (G.fCall S.sum_turners (G.aCons (G.fVar 0) (G.aCons (G.fVar 1) (G.aCons (G.fLc (G.iList (G.fVar 2)) (G.gName 3) G.tYes (G.fCall S.minus_of (G.aCons (G.fVar 0) (G.aCons (G.fC (.int 0)) (G.aCons (G.fVar 3) G.aNil)))) [3]) G.aNil)))))
def less_turners : List G.D → Option G.D := G.run 3 1 b_less_turners
def b_put_turners : G.FS :=
  (G.sSeq (G.sAsg (G.gName 3) (G.fRep (G.fLst (G.aCons (G.fC (.int 0)) G.aNil)) (G.fI2 G.gMax2 (G.fC (.int 0)) (G.fI2 G.gSub (G.fI2 G.gAdd (G.fB1 G.bLen (G.fVar 1)) (G.fB1 G.bLen (G.fVar 2))) (G.fC (.int 1))))))
  (G.sSeq (G.sFor (G.iEnum (G.fVar 1)) (G.gTup 4 5)
  (G.sFor (G.iEnum (G.fVar 2)) (G.gTup 6 7)
  (G.sSetIx 3 (G.fI2 G.gAdd (G.fVar 4) (G.fVar 6)) (G.fCall S.plus_of (G.aCons (G.fVar 0) (G.aCons (G.fIxL (G.fVar 3) (G.fI2 G.gAdd (G.fVar 4) (G.fVar 6))) (G.aCons (G.fCall S.times_of (G.aCons (G.fVar 0) (G.aCons (G.fVar 5) (G.aCons (G.fCall S.turned_of (G.aCons (G.fVar 0) (G.aCons (G.fVar 7) (G.aCons (G.fVar 4) G.aNil)))) G.aNil)))) G.aNil)))))))
  (G.sRet (G.fCall S.told_of (G.aCons (G.fVar 3) G.aNil)))))
def put_turners : List G.D → Option G.D := G.run 3 5 b_put_turners
def b_told : G.FS :=
  (G.sSeq (G.sDrop (G.fCall S.want_field (G.aCons (G.fVar 0) G.aNil)))
  (G.sRet (G.fCall S.want_turner (G.aCons (G.fVar 0) (G.aCons (G.fVar 1) G.aNil)))))
def told : List G.D → Option G.D := G.run 2 0 b_told
def b_two_turners : G.FS :=
  (G.sSeq (G.sDrop (G.fCall S.want_field (G.aCons (G.fVar 0) G.aNil)))
  (G.sSeq (G.sAsg (G.gName 3) (G.fCall S.want_turner (G.aCons (G.fVar 0) (G.aCons (G.fVar 1) G.aNil))))
  (G.sRet (G.fTup (G.aCons (G.fVar 3) (G.aCons (G.fCall S.want_turner (G.aCons (G.fVar 0) (G.aCons (G.fVar 2) G.aNil))) G.aNil))))))
def two_turners : List G.D → Option G.D := G.run 3 1 b_two_turners
def b_put : G.FS :=
  (G.sSeq (G.sAsg (G.gTup 3 4) (G.fCall S.two_turners (G.aCons (G.fVar 0) (G.aCons (G.fVar 1) (G.aCons (G.fVar 2) G.aNil)))))
  (G.sSeq (G.sIf (G.tAnd (G.fTest (G.fNeD (G.fVar 3) (G.fLst G.aNil))) (G.fTest (G.fNeD (G.fVar 4) (G.fLst G.aNil)))) (G.sDrop (G.fCall S.want_at_most (G.aCons (G.fC .txt) (G.aCons (G.fC (.int 12)) (G.aCons (G.fI2 G.gSub (G.fI2 G.gAdd (G.fB1 G.bLen (G.fVar 3)) (G.fB1 G.bLen (G.fVar 4))) (G.fC (.int 2))) G.aNil))))) G.sNext)
  (G.sRet (G.fCall S.put_turners (G.aCons (G.fVar 0) (G.aCons (G.fVar 3) (G.aCons (G.fVar 4) G.aNil)))))))
def put : List G.D → Option G.D := G.run 3 2 b_put
def b_inner_parts : G.FS :=
  (G.sSeq (G.sPar2 3 4 (G.fVar 1) (G.fRep (G.fLst (G.aCons (G.fC (.int 0)) G.aNil)) (G.fI2 G.gMax2 (G.fC (.int 0)) (G.fI2 G.gAdd (G.fI2 G.gSub (G.fB1 G.bLen (G.fVar 1)) (G.fB1 G.bLen (G.fVar 2))) (G.fC (.int 1))))))
  (G.sSeq (G.sWhile 30 (G.fTest (G.fI2 G.gGe (G.fB1 G.bLen (G.fVar 3)) (G.fB1 G.bLen (G.fVar 2)))) (G.sSeq (G.sAsg (G.gName 5) (G.fI2 G.gSub (G.fB1 G.bLen (G.fVar 3)) (G.fB1 G.bLen (G.fVar 2))))
  (G.sSeq (G.sAsg (G.gName 6) (G.fCall S.over_of (G.aCons (G.fVar 0) (G.aCons (G.fIxL (G.fVar 3) (G.fNeg (G.fC (.int 1)))) (G.aCons (G.fCall S.turned_of (G.aCons (G.fVar 0) (G.aCons (G.fIxL (G.fVar 2) (G.fNeg (G.fC (.int 1)))) (G.aCons (G.fVar 5) G.aNil)))) G.aNil)))))
  (G.sSeq (G.sSetIx 4 (G.fVar 5) (G.fVar 6))
  (G.sSeq (G.sAsg (G.gName 7) (G.fLc (G.iList (G.fVar 2)) (G.gName 8) G.tYes (G.fCall S.times_of (G.aCons (G.fVar 0) (G.aCons (G.fVar 6) (G.aCons (G.fCall S.turned_of (G.aCons (G.fVar 0) (G.aCons (G.fVar 8) (G.aCons (G.fVar 5) G.aNil)))) G.aNil)))) [8]))
  (G.sAsg (G.gName 3) (G.fCall S.less_turners (G.aCons (G.fVar 0) (G.aCons (G.fVar 3) (G.aCons (G.fCat (G.fRep (G.fLst (G.aCons (G.fC (.int 0)) G.aNil)) (G.fVar 5)) (G.fVar 7)) G.aNil))))))))))
  (G.sRet (G.fTup (G.aCons (G.fVar 4) (G.aCons (G.fVar 3) G.aNil))))))
def inner_parts : List G.D → Option G.D := G.run 3 6 b_inner_parts
def b_outer_parts : G.FS :=
  (G.sSeq (G.sPar2 3 4 (G.fVar 1) (G.fRep (G.fLst (G.aCons (G.fC (.int 0)) G.aNil)) (G.fI2 G.gMax2 (G.fC (.int 0)) (G.fI2 G.gAdd (G.fI2 G.gSub (G.fB1 G.bLen (G.fVar 1)) (G.fB1 G.bLen (G.fVar 2))) (G.fC (.int 1))))))
  (G.sSeq (G.sWhile 30 (G.fTest (G.fI2 G.gGe (G.fB1 G.bLen (G.fVar 3)) (G.fB1 G.bLen (G.fVar 2)))) (G.sSeq (G.sAsg (G.gName 5) (G.fI2 G.gSub (G.fB1 G.bLen (G.fVar 3)) (G.fB1 G.bLen (G.fVar 2))))
  (G.sSeq (G.sAsg (G.gName 6) (G.fCall S.turned_of (G.aCons (G.fVar 0) (G.aCons (G.fCall S.over_of (G.aCons (G.fVar 0) (G.aCons (G.fIxL (G.fVar 3) (G.fNeg (G.fC (.int 1)))) (G.aCons (G.fIxL (G.fVar 2) (G.fNeg (G.fC (.int 1)))) G.aNil)))) (G.aCons (G.fI2 G.gSub (G.fC (.int 1)) (G.fB1 G.bLen (G.fVar 2))) G.aNil)))))
  (G.sSeq (G.sSetIx 4 (G.fVar 5) (G.fVar 6))
  (G.sSeq (G.sAsg (G.gName 7) (G.fLc (G.iEnum (G.fVar 2)) (G.gTup 8 9) G.tYes (G.fCall S.times_of (G.aCons (G.fVar 0) (G.aCons (G.fVar 9) (G.aCons (G.fCall S.turned_of (G.aCons (G.fVar 0) (G.aCons (G.fVar 6) (G.aCons (G.fVar 8) G.aNil)))) G.aNil)))) [8, 9]))
  (G.sAsg (G.gName 3) (G.fCall S.less_turners (G.aCons (G.fVar 0) (G.aCons (G.fVar 3) (G.aCons (G.fCat (G.fRep (G.fLst (G.aCons (G.fC (.int 0)) G.aNil)) (G.fVar 5)) (G.fVar 7)) G.aNil))))))))))
  (G.sRet (G.fTup (G.aCons (G.fVar 4) (G.aCons (G.fVar 3) G.aNil))))))
def outer_parts : List G.D → Option G.D := G.run 3 7 b_outer_parts
def b_want_standing : G.FS :=
  (G.sSeq (G.sDrop (G.fCall S.want_field (G.aCons (G.fVar 0) G.aNil)))
  (G.sSeq (G.sAsg (G.gName 2) (G.fCall S.want_turner (G.aCons (G.fVar 0) (G.aCons (G.fVar 1) G.aNil))))
  (G.sSeq (G.sIf (G.fTest (G.fEqD (G.fVar 2) (G.fLst G.aNil))) G.sNever G.sNext)
  (G.sRet (G.fVar 2)))))
def want_standing : List G.D → Option G.D := G.run 2 1 b_want_standing
def b_line_of : G.FS :=
  (G.sRet (G.fLst (G.aCons (G.fCall S.minus_of (G.aCons (G.fVar 0) (G.aCons (G.fC (.int 0)) (G.aCons (G.fVar 1) G.aNil)))) (G.aCons (G.fC (.int 1)) G.aNil))))
def line_of : List G.D → Option G.D := G.run 2 0 b_line_of
def b_rest_at : G.FS :=
  (G.sSeq (G.sAsg (G.gTup 4 5) (G.fTup (G.aCons (G.fC (.int 0)) (G.aCons (G.fC (.int 1)) G.aNil))))
  (G.sSeq (G.sFor (G.iList (G.fVar 1)) (G.gName 3)
  (G.sSeq (G.sAsg (G.gName 4) (G.fCall S.plus_of (G.aCons (G.fVar 0) (G.aCons (G.fVar 4) (G.aCons (G.fCall S.times_of (G.aCons (G.fVar 0) (G.aCons (G.fVar 3) (G.aCons (G.fVar 5) G.aNil)))) G.aNil)))))
  (G.sAsg (G.gName 5) (G.fCall S.times_of (G.aCons (G.fVar 0) (G.aCons (G.fCall S.turned_of (G.aCons (G.fVar 0) (G.aCons (G.fVar 5) (G.aCons (G.fC (.int 1)) G.aNil)))) (G.aCons (G.fVar 2) G.aNil)))))))
  (G.sRet (G.fVar 4))))
def rest_at : List G.D → Option G.D := G.run 3 3 b_rest_at
def b_inners_of : G.FS :=
  (G.sRet (G.fLc (G.iRange1 (G.fAttr 2 (G.fVar 0))) (G.gName 2) (G.fTest (G.fI2 G.gEq (G.fCall S.rest_at (G.aCons (G.fVar 0) (G.aCons (G.fVar 1) (G.aCons (G.fVar 2) G.aNil)))) (G.fC (.int 0)))) (G.fVar 2) [2]))
def inners_of : List G.D → Option G.D := G.run 2 1 b_inners_of
def b_outers_of : G.FS :=
  (G.sSeq (G.sIf (G.fTest (G.fI2 G.gEq (G.fB1 G.bLen (G.fVar 1)) (G.fC (.int 1)))) (G.sRet (G.fLst G.aNil)) G.sNext)
  (G.sRet (G.fLc (G.iRange1 (G.fAttr 2 (G.fVar 0))) (G.gName 2) (G.fTest (G.fEqD (G.fIxT (G.fCall S.outer_parts (G.aCons (G.fVar 0) (G.aCons (G.fVar 1) (G.aCons (G.fCall S.line_of (G.aCons (G.fVar 0) (G.aCons (G.fVar 2) G.aNil))) G.aNil)))) (G.fC (.int 1))) (G.fLst G.aNil))) (G.fVar 2) [2])))
def outers_of : List G.D → Option G.D := G.run 2 1 b_outers_of
def b_less_inner : G.FS :=
  (G.sRet (G.fIxT (G.fCall S.inner_parts (G.aCons (G.fVar 0) (G.aCons (G.fVar 1) (G.aCons (G.fCall S.line_of (G.aCons (G.fVar 0) (G.aCons (G.fVar 2) G.aNil))) G.aNil)))) (G.fC (.int 0))))
def less_inner : List G.D → Option G.D := G.run 3 0 b_less_inner
def b_inner_ones : G.FS :=
  (G.sRet (G.fCall S.inners_of (G.aCons (G.fVar 0) (G.aCons (G.fCall S.want_standing (G.aCons (G.fVar 0) (G.aCons (G.fVar 1) G.aNil))) G.aNil))))
def inner_ones : List G.D → Option G.D := G.run 2 0 b_inner_ones
def b_outer_ones : G.FS :=
  (G.sRet (G.fCall S.outers_of (G.aCons (G.fVar 0) (G.aCons (G.fCall S.want_standing (G.aCons (G.fVar 0) (G.aCons (G.fVar 1) G.aNil))) G.aNil))))
def outer_ones : List G.D → Option G.D := G.run 2 0 b_outer_ones
def b_want_like : G.FS :=
  (G.sSeq (G.sDrop (G.fCall S.want_field (G.aCons (G.fVar 0) G.aNil)))
  (G.sSeq (G.sDrop (G.fCall S.want_element (G.aCons (G.fVar 0) (G.aCons (G.fVar 1) G.aNil))))
  (G.sDrop (G.fCall S.want_element (G.aCons (G.fVar 0) (G.aCons (G.fVar 2) G.aNil))))))
def want_like : List G.D → Option G.D := G.run 3 0 b_want_like
def b_led_by : G.FS :=
  (G.sRet (G.fCall S.times_of (G.aCons (G.fVar 0) (G.aCons (G.fVar 1) (G.aCons (G.fCall S.power_of (G.aCons (G.fVar 0) (G.aCons (G.fVar 2) (G.aCons (G.fI2 G.gSub (G.fAttr 0 (G.fVar 0)) (G.fC (.int 1))) G.aNil)))) G.aNil)))))
def led_by : List G.D → Option G.D := G.run 3 0 b_led_by
def b_is_like_by : G.FS :=
  (G.sSeq (G.sDrop (G.fCall S.want_like (G.aCons (G.fVar 0) (G.aCons (G.fVar 1) (G.aCons (G.fVar 2) G.aNil)))))
  (G.sRet (G.fAndV (G.fCall S.is_in (G.aCons (G.fVar 0) (G.aCons (G.fVar 3) G.aNil))) (G.fAndV (G.fI2 G.gNe (G.fVar 3) (G.fC (.int 0))) (G.fI2 G.gEq (G.fCall S.led_by (G.aCons (G.fVar 0) (G.aCons (G.fVar 1) (G.aCons (G.fVar 3) G.aNil)))) (G.fVar 2))))))
def is_like_by : List G.D → Option G.D := G.run 4 0 b_is_like_by
def b_law_figures : G.FS :=
  (G.sSeq (G.sAsg (G.gName 3) (G.fLst G.aNil))
  (G.sSeq (G.sFor (G.iRange1 (G.fVar 1)) (G.gName 4)
  (G.sSeq (G.sAsg (G.gTup 2 5) (G.fI2 G.gDivmod (G.fVar 2) (G.fVar 0)))
  (G.sApp 3 (G.fVar 5))))
  (G.sRet (G.fVar 3))))
def law_figures : List G.D → Option G.D := G.run 3 3 b_law_figures
def b_law_value : G.FS :=
  (G.sSeq (G.sAsg (G.gName 2) (G.fC (.int 0)))
  (G.sSeq (G.sFor (G.iList (G.fRev (G.fVar 1))) (G.gName 3)
  (G.sAsg (G.gName 2) (G.fI2 G.gAdd (G.fI2 G.gMul (G.fVar 2) (G.fVar 0)) (G.fVar 3))))
  (G.sRet (G.fVar 2))))
def law_value : List G.D → Option G.D := G.run 2 2 b_law_value
def b_law_shifts : G.FS :=
  (G.sSeq (G.sAsg (G.gName 3) (G.fLst (G.aCons (G.fVar 2) G.aNil)))
  (G.sSeq (G.sFor (G.iRange1 (G.fI2 G.gSub (G.fB1 G.bLen (G.fVar 2)) (G.fC (.int 1)))) (G.gName 4)
  (G.sSeq (G.sAsg (G.gName 5) (G.fIxL (G.fVar 3) (G.fNeg (G.fC (.int 1)))))
  (G.sSeq (G.sAsg (G.gName 6) (G.fCat (G.fLst (G.aCons (G.fC (.int 0)) G.aNil)) (G.fSl (G.fVar 5) G.oNone (G.oSome (G.fNeg (G.fC (.int 1)))))))
  (G.sApp 3 (G.fLc (G.iZip (G.fVar 6) (G.fVar 1)) (G.gTup 7 8) G.tYes (G.fI2 G.gMod (G.fB1 G.bInt (G.fI2 G.gSub (G.fVar 7) (G.fI2 G.gMul (G.fIxL (G.fVar 5) (G.fNeg (G.fC (.int 1)))) (G.fVar 8)))) (G.fVar 0)) [7, 8])))))
  (G.sRet (G.fVar 3))))
def law_shifts : List G.D → Option G.D := G.run 3 6 b_law_shifts
def b_law_product_row : G.FS :=
  (G.sSeq (G.sPar2 5 6 (G.fCall S.law_shifts (G.aCons (G.fVar 0) (G.aCons (G.fVar 1) (G.aCons (G.fIxL (G.fVar 2) (G.fVar 3)) G.aNil)))) (G.fLst G.aNil))
  (G.sSeq (G.sFor (G.iList (G.fVar 2)) (G.gName 4)
  (G.sSeq (G.sAsg (G.gName 7) (G.fRep (G.fLst (G.aCons (G.fC (.int 0)) G.aNil)) (G.fB1 G.bLen (G.fVar 4))))
  (G.sSeq (G.sFor (G.iZip (G.fVar 4) (G.fVar 5)) (G.gTup 8 9)
  (G.sIf (G.fTest (G.fI2 G.gNe (G.fVar 8) (G.fC (.int 0)))) (G.sAsg (G.gName 7) (G.fLc (G.iZip (G.fVar 7) (G.fVar 9)) (G.gTup 11 12) G.tYes (G.fI2 G.gAdd (G.fVar 11) (G.fI2 G.gMul (G.fVar 8) (G.fVar 12))) [11, 12])) G.sNext))
  (G.sApp 6 (G.fCall S.law_value (G.aCons (G.fVar 0) (G.aCons (G.fLc (G.iList (G.fVar 7)) (G.gName 10) G.tYes (G.fI2 G.gMod (G.fB1 G.bInt (G.fVar 10)) (G.fVar 0)) [10]) G.aNil)))))))
  (G.sRet (G.fVar 6))))
def law_product_row : List G.D → Option G.D := G.run 4 9 b_law_product_row
def b_law_world : G.FS :=
  (G.sSeq (G.sAsg (G.gTup 11 12) (G.fTup (G.aCons (G.fI2 G.gSub (G.fB1 G.bLen (G.fVar 1)) (G.fC (.int 1))) (G.aCons (G.fC (.int 1)) G.aNil))))
  (G.sSeq (G.sFor (G.iRange1 (G.fVar 11)) (G.gName 2)
  (G.sAsg (G.gName 12) (G.fI2 G.gMul (G.fVar 12) (G.fVar 0))))
  (G.sSeq (G.sAsg (G.gName 3) (G.fLc (G.iRange1 (G.fVar 12)) (G.gName 13) G.tYes (G.fCall S.law_figures (G.aCons (G.fVar 0) (G.aCons (G.fVar 11) (G.aCons (G.fVar 13) G.aNil)))) [13]))
  (G.sSeq (G.sAsg (G.gName 4) (G.fLst G.aNil))
  (G.sSeq (G.sFor (G.iList (G.fVar 3)) (G.gName 5)
  (G.sApp 4 (G.fLc (G.iList (G.fVar 3)) (G.gName 14) G.tYes (G.fCall S.law_value (G.aCons (G.fVar 0) (G.aCons (G.fLc (G.iZip (G.fVar 5) (G.fVar 14)) (G.gTup 15 16) G.tYes (G.fI2 G.gMod (G.fB1 G.bInt (G.fI2 G.gAdd (G.fVar 15) (G.fVar 16))) (G.fVar 0)) [15, 16]) G.aNil))) [14])))
  (G.sSeq (G.sAsg (G.gName 6) (G.fLc (G.iRange1 (G.fVar 12)) (G.gName 10) G.tYes (G.fCall S.law_product_row (G.aCons (G.fVar 0) (G.aCons (G.fVar 1) (G.aCons (G.fVar 3) (G.aCons (G.fVar 10) G.aNil))))) [10]))
  (G.sSeq (G.sAsg (G.gName 7) (G.fLc (G.iRange1 (G.fVar 12)) (G.gName 10) G.tYes (G.fIxL (G.fLc (G.iRange1 (G.fVar 12)) (G.gName 14) (G.fTest (G.fI2 G.gEq (G.fIxL (G.fIxL (G.fVar 4) (G.fVar 10)) (G.fVar 14)) (G.fC (.int 0)))) (G.fVar 14) [14]) (G.fC (.int 0))) [10]))
  (G.sSeq (G.sAsg (G.gName 8) (G.fCat (G.fLst (G.aCons (G.fC (.int 0)) G.aNil)) (G.fLc (G.iRange2 (G.fC (.int 1)) (G.fVar 12)) (G.gName 10) G.tYes (G.fIxL (G.fLc (G.iRange1 (G.fVar 12)) (G.gName 14) (G.fTest (G.fI2 G.gEq (G.fIxL (G.fIxL (G.fVar 6) (G.fVar 10)) (G.fVar 14)) (G.fC (.int 1)))) (G.fVar 14) [14]) (G.fC (.int 0))) [10])))
  (G.sSeq (G.sAsg (G.gName 9) (G.fLst G.aNil))
  (G.sSeq (G.sFor (G.iRange1 (G.fVar 12)) (G.gName 10)
  (G.sSeq (G.sAsg (G.gName 13) (G.fC (.int 1)))
  (G.sSeq (G.sFor (G.iRange1 (G.fVar 0)) (G.gName 2)
  (G.sAsg (G.gName 13) (G.fIxL (G.fIxL (G.fVar 6) (G.fVar 13)) (G.fVar 10))))
  (G.sApp 9 (G.fVar 13)))))
  (G.sRet (G.fLst (G.aCons (G.fVar 0) (G.aCons (G.fVar 11) (G.aCons (G.fVar 12) (G.aCons (G.fVar 4) (G.aCons (G.fVar 6) (G.aCons (G.fVar 7) (G.aCons (G.fVar 8) (G.aCons (G.fVar 9) G.aNil))))))))))))))))))))
def law_world : List G.D → Option G.D := G.run 2 15 b_law_world
def b_law_turned : G.FS :=
  (G.sSeq (G.sFor (G.iRange1 (G.fI2 G.gMod (G.fB1 G.bInt (G.fVar 2)) (G.fIxL (G.fVar 0) (G.fC (.int 1))))) (G.gName 3)
  (G.sAsg (G.gName 1) (G.fIxL (G.fIxL (G.fVar 0) (G.fC (.int 7))) (G.fVar 1))))
  (G.sRet (G.fVar 1)))
def law_turned : List G.D → Option G.D := G.run 3 1 b_law_turned
def b_law_trim : G.FS :=
  (G.sSeq (G.sAsg (G.gName 1) (G.fB1 G.bList (G.fVar 0)))
  (G.sSeq (G.sWhile 30 (G.tAnd (G.fTest (G.fNeD (G.fVar 1) (G.fLst G.aNil))) (G.fTest (G.fI2 G.gEq (G.fIxL (G.fVar 1) (G.fNeg (G.fC (.int 1)))) (G.fC (.int 0))))) (G.sPop 1))
  (G.sRet (G.fVar 1))))
def law_trim : List G.D → Option G.D := G.run 1 1 b_law_trim
def b_law_put : G.FS :=
  (G.sSeq (G.sAsg (G.gName 3) (G.fRep (G.fLst (G.aCons (G.fC (.int 0)) G.aNil)) (G.fI2 G.gMax2 (G.fC (.int 0)) (G.fI2 G.gSub (G.fI2 G.gAdd (G.fB1 G.bLen (G.fVar 1)) (G.fB1 G.bLen (G.fVar 2))) (G.fC (.int 1))))))
  (G.sSeq (G.sFor (G.iEnum (G.fVar 1)) (G.gTup 4 5)
  (G.sFor (G.iEnum (G.fVar 2)) (G.gTup 6 7)
  (G.sSeq (G.sAsg (G.gName 8) (G.fIxL (G.fIxL (G.fIxL (G.fVar 0) (G.fC (.int 4))) (G.fVar 5)) (G.fCall S.law_turned (G.aCons (G.fVar 0) (G.aCons (G.fVar 7) (G.aCons (G.fVar 4) G.aNil))))))
  (G.sSetIx 3 (G.fI2 G.gAdd (G.fVar 4) (G.fVar 6)) (G.fIxL (G.fIxL (G.fIxL (G.fVar 0) (G.fC (.int 3))) (G.fIxL (G.fVar 3) (G.fI2 G.gAdd (G.fVar 4) (G.fVar 6)))) (G.fVar 8))))))
  (G.sRet (G.fCall S.law_trim (G.aCons (G.fVar 3) G.aNil)))))
def law_put : List G.D → Option G.D := G.run 3 6 b_law_put
def b_law_line : G.FS :=
  (G.sRet (G.fLst (G.aCons (G.fIxL (G.fIxL (G.fVar 0) (G.fC (.int 5))) (G.fVar 1)) (G.aCons (G.fC (.int 1)) G.aNil))))
def law_line : List G.D → Option G.D := G.run 2 0 b_law_line
def b_law_led : G.FS :=
  (G.sSeq (G.sFor (G.iRange1 (G.fI2 G.gSub (G.fIxL (G.fVar 0) (G.fC (.int 0))) (G.fC (.int 1)))) (G.gName 3)
  (G.sAsg (G.gName 1) (G.fIxL (G.fIxL (G.fIxL (G.fVar 0) (G.fC (.int 4))) (G.fVar 1)) (G.fVar 2))))
  (G.sRet (G.fVar 1)))
def law_led : List G.D → Option G.D := G.run 3 1 b_law_led
def b_law_sorts : G.FS :=
  (G.sRet (G.fB1 G.bSortI (G.fLc (G.iList (G.fVar 1)) (G.gName 2) G.tYes (G.fIf (G.fTest (G.fI2 G.gNe (G.fVar 2) (G.fC (.int 0)))) (G.fCall S.norm (G.aCons (G.fVar 0) (G.aCons (G.fVar 2) G.aNil))) (G.fC (.int 0))) [2])))
def law_sorts : List G.D → Option G.D := G.run 2 1 b_law_sorts
def b_law_back : G.FS :=
  (G.sRet (G.fCall S.law_led (G.aCons (G.fVar 0) (G.aCons (G.fVar 1) (G.aCons (G.fIxL (G.fIxL (G.fVar 0) (G.fC (.int 6))) (G.fVar 2)) G.aNil)))))
def law_back : List G.D → Option G.D := G.run 3 0 b_law_back
end S

set_option autoImplicit false
set_option Elab.async false
set_option linter.all false
set_option maxRecDepth 100000
set_option maxHeartbeats 4000000
/-! The text by places, what of the top the walks lean on. -/
namespace GB
open PySem L2
def topS (i : Nat) : Stmt := PySem.Challenge.pw_turnpowers_k67_whole_ways_have_like_part.main.body.getD i (.Pass ⟨0, 0, 0, 0⟩)
abbrev Fn (K : PySem.W.Frag) (x : Str) (st : Stmt) (f : Addr) (fd : FuncData) : Prop := FunD K x x (defArgs st) (defBody st) (defScope st) [] [] f fd
/-- a def of the module that keeps a promise -/
structure Kn (P : Program) (w : World) (K : PySem.W.Frag) (mg : Str → Option Value) (base : Heap) (x : Str) (k : Nat) (ps : List Str) (sp : Sp) : Prop where
  ex : ∃ f fd, FnOk P w K mg base CX0 k f fd ps sp ∧ mg x = some (.ref f) ∧ PySem.W.keepIn K (.ref f) = true ∧ Binds K fd ps []
/-- .. its address by name -/
theorem pe_kn {X : Cx} {k : Nat} {ps : List Str} {sp : Sp} {x : Str} {p pos : Pos} {e : Expr} {es : List Expr} {t : TA} (h : Kn X.prog X.w X.K X.mg X.base x k ps sp) (hr : Room k X.A) (hg : Gl X x) (ha : PA X (e :: es) t)
    (hdb : (x == ("__debug__" : Str)) = false := by decide) (he : starEach (e :: es) X.env = (false, eval e X.env) :: starEach es X.env := by rfl) (hpl : (backTo pos (starEach es X.env)).any (·.1) = false := by rfl) :
    PE X (.Call (.Name x p) (e :: es) [] pos) (tCall sp [] E0 t) := by
  obtain ⟨f, fd, F, hm, hk, hb⟩ := h.ex
  exact pe_call F hr hg hm hk hb .nil pass0 ha hdb he hpl
theorem pe_gint {X : Cx} {x : Str} {i : Int} {pos : Pos} (hg : Gl X x) (hm : ∃ t, X.mg x = some (.int i t)) (hd : (x == ("__debug__" : Str)) = false := by decide) : PE X (.Name x pos) (tC (.int i)) := by
  obtain ⟨t, h⟩ := hm
  exact pe_glob hg h ⟨t, rfl⟩ hd
theorem bt_len : bootBuiltins ("len" : Str) = some (.builtin "len") := by decide +kernel
theorem bt_max : bootBuiltins ("max" : Str) = some (.builtin "max") := by decide +kernel
theorem bt_list : bootBuiltins ("list" : Str) = some (.type "list") := by decide +kernel
theorem bt_tuple : bootBuiltins ("tuple" : Str) = some (.type "tuple") := by decide +kernel
theorem bt_int : bootBuiltins ("int" : Str) = some (.type "int") := by decide +kernel
theorem bt_bool : bootBuiltins ("bool" : Str) = some (.type "bool") := by decide +kernel
theorem bt_all : bootBuiltins ("all" : Str) = some (.builtin "all") := by decide +kernel
theorem bt_sum : bootBuiltins ("sum" : Str) = some (.builtin "sum") := by decide +kernel
theorem bt_sorted : bootBuiltins ("sorted" : Str) = some (.builtin "sorted") := by decide +kernel
theorem bt_isinstance : bootBuiltins ("isinstance" : Str) = some (.builtin "isinstance") := by decide +kernel
theorem bt_divmod : bootBuiltins ("divmod" : Str) = some (.builtin "divmod") := by decide +kernel
theorem bt_abs : bootBuiltins ("abs" : Str) = some (.builtin "abs") := by decide +kernel
theorem bt_zip : bootBuiltins ("zip" : Str) = some (.type "zip") := by decide +kernel
/-- the top, but for the defs -/
structure Tx (K : PySem.W.Frag) (mg : Str → Option Value) (C : Addr) : Prop where
  cl : Cls K C
  n0 : NoAttr K C "own_prime"
  n1 : NoAttr K C "own_turns"
  n2 : NoAttr K C "own_size"
  n3 : NoAttr K C "own_modulus"
  n4 : NoAttr K C "own_powers"
  n5 : NoAttr K C "own_logs"
  isC : C8.InsC K C
  mgC : mg "Field" = some (.ref C)
  sqP : ∀ H, SqT K H (He.ga K "PRIMES") ([2, 3, 5, 7].map V.int)
  mgP : mg "PRIMES" = some (.ref (He.ga K "PRIMES"))
  c_MOST_SIZE : ∃ t, mg "MOST_SIZE" = some (.int 128 t)
  c_MOST_TURNS : ∃ t, mg "MOST_TURNS" = some (.int 12 t)
  c_MOST_ELEMENTS : ∃ t, mg "MOST_ELEMENTS" = some (.int 13 t)
  c_MOST_DEGREE_turners : ∃ t, mg "MOST_DEGREE_turners" = some (.int 12 t)
  c_MOST_DEGREE_ways : ∃ t, mg "MOST_DEGREE_ways" = some (.int 4 t)
  c_MOST_WAYS : ∃ t, mg "MOST_WAYS" = some (.int 400 t)
  f_len : mg "len" = none
  f_max : mg "max" = none
  f_list : mg "list" = none
  f_tuple : mg "tuple" = none
  f_int : mg "int" = none
  f_bool : mg "bool" = none
  f_all : mg "all" = none
  f_sum : mg "sum" = none
  f_sorted : mg "sorted" = none
  f_isinstance : mg "isinstance" = none
  f_divmod : mg "divmod" = none
  f_abs : mg "abs" = none
  f_zip : mg "zip" = none
  f_enumerate : mg "enumerate" = none
  f_range : mg "range" = none
section
variable {C : Addr} {W : List Nat} {st : Bool} {K : PySem.W.Frag} {ta : TE} {fa : G.FE}
theorem x_attr0 (hC : Cls K C) (hn : NoAttr K C "own_prime") (ha : XE C W st ta fa) : XE C W st (tFld K ta "own_prime") (G.fAttr 0 fa) := x_attr 0 hC hn ha
theorem x_attr1 (hC : Cls K C) (hn : NoAttr K C "own_turns") (ha : XE C W st ta fa) : XE C W st (tFld K ta "own_turns") (G.fAttr 1 fa) := x_attr 1 hC hn ha
theorem x_attr2 (hC : Cls K C) (hn : NoAttr K C "own_size") (ha : XE C W st ta fa) : XE C W st (tFld K ta "own_size") (G.fAttr 2 fa) := x_attr 2 hC hn ha
theorem x_attr3 (hC : Cls K C) (hn : NoAttr K C "own_modulus") (ha : XE C W st ta fa) : XE C W st (tFld K ta "own_modulus") (G.fAttr 3 fa) := x_attr 3 hC hn ha
theorem x_attr4 (hC : Cls K C) (hn : NoAttr K C "own_powers") (ha : XE C W st ta fa) : XE C W st (tFld K ta "own_powers") (G.fAttr 4 fa) := x_attr 4 hC hn ha
theorem x_attr5 (hC : Cls K C) (hn : NoAttr K C "own_logs") (ha : XE C W st ta fa) : XE C W st (tFld K ta "own_logs") (G.fAttr 5 fa) := x_attr 5 hC hn ha
end
/-- a block that ends in a return -/
theorem seq_nx {a b : G.FS} (h : ∀ ρ ρ', b ρ = some (.nx ρ') → False) : ∀ ρ ρ', G.sSeq a b ρ = some (.nx ρ') → False := fun ρ ρ' e => by
  unfold G.sSeq at e
  split at e
  · exact h _ _ e
  · rename_i z
    exact z ρ' e
theorem ret_nx {a : G.FE} : ∀ ρ ρ', G.sRet a ρ = some (.nx ρ') → False := fun ρ ρ' e => by
  unfold G.sRet at e
  split at e <;> cases e
end GB

set_option autoImplicit false
set_option Elab.async false
set_option linter.all false
set_option maxRecDepth 100000
set_option maxHeartbeats 4000000
/-! pairs = zip(xs, ys), walked later: the iterator's five objects are held by what is true of each, and forgotten as the walk begins. -/
namespace GB
open PySem L2 ItX
def updL (l : List (Addr × HO)) (H : Hp) : Hp := fun b => match l.lookup b with
  | some o => some o
  | none => H b
theorem lookup_memA {b : Addr} {o : HO} : ∀ {l : List (Addr × HO)}, l.lookup b = some o → (b, o) ∈ l
  | [], h => by cases h
  | (c, u) :: r, h => by
    rw [List.lookup_cons] at h
    split at h
    · rename_i q
      cases h
      rw [beq_iff_eq.mp q]
      exact List.mem_cons_self
    · exact List.mem_cons_of_mem _ (lookup_memA h)
theorem updL_old {l : List (Addr × HO)} {H : Hp} {n : Nat} (hl : ∀ p ∈ l, n ≤ p.1) {b : Addr} (hb : b < n) : updL l H b = H b := by
  unfold updL
  cases e : l.lookup b with
  | none => rfl
  | some o =>
    have := hl _ (lookup_memA e)
    exact absurd hb (Nat.not_lt.mpr this)
theorem inv_laidL {X : Cx} {pins : List (Addr × Obj)} {σ : L2.St} {H : Hp} {s : Shared} {h' : Heap} {l : List (Addr × HO)} (I : Inv X pins σ H s) (k : ∀ b u, s.heap.get? b = some u → h'.get? b = some u) (hl : ∀ p ∈ l, s.heap.objs.size ≤ p.1)
    (new : ∀ a o, (a, o) ∈ l → ObjOk X.prog X.w (updL l H) h' a o) : Inv X pins σ (updL l H) { s with heap := h' } := by
  have old : ∀ b o, H b = some o → updL l H b = some o := fun b o e => by rw [updL_old hl (I.hok.lt e)]; exact e
  refine I.un (t' := s.toks) ⟨fun b u q _ _ _ => k b u q, fun b u q _ _ _ => ⟨u.slots, k b u q⟩, fun b u q n _ => by rw [updL_old hl (Heap.lt_size q)]; exact n, fun b u q _ => ⟨u, k b u q⟩, fun b xs q => old b _ q, fun b u xs q => old b _ q, fun b ps q => ⟨#[], by rw [old b _ q]; simp⟩⟩ ?_
  intro b o e
  unfold updL at e
  cases q : l.lookup b with
  | some u =>
    rw [q] at e
    cases e
    exact new b _ (lookup_memA q)
  | none =>
    rw [q] at e
    exact (I.hok b o e).stay (fun c v _ r => k c v r) (fun c r => old c _ r) fun c xs r => old c _ r
structure ZAt (H : Hp) (z a b : Addr) (n : Nat) (TI TO i1 i2 : Addr) : Prop where
  ap : ZipApart z TI TO i1 i2 a b
  hz : H z = some (.ext fun h => IsZip h z TI TO .none)
  hI : H TI = some (.ext fun h => IsPair h TI (.ref i1) (.ref i2))
  hO : H TO = some (.ext fun h => IsPair h TO .none .none)
  h1 : H i1 = some (.ext fun h => h.IsListIter i1 a 0)
  h2 : H i2 = some (.ext fun h => h.IsListIter i2 b 0)
  nz : n ≤ z
  nI : n ≤ TI
  nO : n ≤ TO
  n1 : n ≤ i1
  n2 : n ≤ i2
theorem ZAt.mono {H H' : Hp} {z a b : Addr} {n : Nat} {TI TO i1 i2 : Addr} (h : ZAt H z a b n TI TO i1 i2) (e : Ex H H') : ZAt H' z a b n TI TO i1 i2 :=
  ⟨h.ap, e _ _ h.hz, e _ _ h.hI, e _ _ h.hO, e _ _ h.h1, e _ _ h.h2, h.nz, h.nI, h.nO, h.n1, h.n2⟩
/-- zip(xs, ys) as a value -/
def rZipN (K : PySem.W.Frag) (n : Nat) : List V → Hp → VK → Prop := fun vs H Q => ∃ (a b : Addr) (xs ys : List V), vs = [.ref a, .ref b] ∧ SqL K H a xs ∧ SqL K H b ys ∧
  ∀ (z TI TO i1 i2 : Addr) (H' : Hp), Ex H H' → H z = none → H TI = none → H TO = none → H i1 = none → H i2 = none → ZAt H' z a b n TI TO i1 i2 → Q (.ref z) H'
section
variable {X : Cx}
theorem call_zipN : CallR X (.type "zip") (rZipN X.K X.s_0.heap.objs.size) := by
  intro pins s σ H vs us Q I r h
  obtain ⟨a, b, xs, ys, rfl, ha, hb, q⟩ := h
  obtain ⟨u1, u2, rfl, r1, r2⟩ := vals2 r
  cases r1
  cases r2
  obtain ⟨its, rv, p1, _⟩ := I.list ha
  obtain ⟨its2, rv2, p2, _⟩ := I.list hb
  refine call_zip_2 p1.isList p2.isList fun h' hz hTI hTO h1 h2 hsz hk => ?_
  have la : a < s.heap.objs.size := p1.lt
  have lb : b < s.heap.objs.size := p2.lt
  have ap := PySem.W.ktu_apart s.heap.objs.size a b la lb
  let l : List (Addr × HO) := [(s.heap.objs.size + 4, .ext fun h => IsZip h (s.heap.objs.size + 4) (s.heap.objs.size + 2) (s.heap.objs.size + 3) .none),
    (s.heap.objs.size + 2, .ext fun h => IsPair h (s.heap.objs.size + 2) (.ref s.heap.objs.size) (.ref (s.heap.objs.size + 1))), (s.heap.objs.size + 3, .ext fun h => IsPair h (s.heap.objs.size + 3) .none .none),
    (s.heap.objs.size, .ext fun h => h.IsListIter s.heap.objs.size a 0), (s.heap.objs.size + 1, .ext fun h => h.IsListIter (s.heap.objs.size + 1) b 0)]
  have hl : ∀ p ∈ l, s.heap.objs.size ≤ p.1 := fun p hp => by
    simp only [l, List.mem_cons, List.not_mem_nil, or_false] at hp
    rcases hp with e | e | e | e | e
    · rw [e]; exact Nat.le_add_right _ _
    · rw [e]; exact Nat.le_add_right _ _
    · rw [e]; exact Nat.le_add_right _ _
    · rw [e]; exact Nat.le_refl _
    · rw [e]; exact Nat.le_add_right _ _
  have I2 : Inv X pins σ (updL l H) { s with heap := h' } := inv_laidL I hk hl fun c o hc => by
    simp only [l, List.mem_cons, List.not_mem_nil, or_false] at hc
    rcases hc with e | e | e | e | e
    · injection e with e1 e2
      rw [e1, e2]
      exact ⟨hz, ⟨_, hz⟩, fun h1 h2 z k => k _ z⟩
    · injection e with e1 e2
      rw [e1, e2]
      exact ⟨hTI, ⟨_, hTI⟩, fun h1 h2 z k => k _ z⟩
    · injection e with e1 e2
      rw [e1, e2]
      exact ⟨hTO, ⟨_, hTO⟩, fun h1 h2 z k => k _ z⟩
    · injection e with e1 e2
      rw [e1, e2]
      exact ⟨h1, ⟨_, h1.choose_spec.1⟩, fun g1 g2 z k => z.imp fun o w => ⟨k _ w.1, w.2⟩⟩
    · injection e with e1 e2
      rw [e1, e2]
      exact ⟨h2, ⟨_, h2.choose_spec.1⟩, fun g1 g2 z k => z.imp fun o w => ⟨k _ w.1, w.2⟩⟩
  have fr : ∀ k : Nat, H (s.heap.objs.size + k) = none := fun k => I.hok.fresh (Nat.le_add_right _ _)
  have ne : ∀ (i j : Nat), i ≠ j → (s.heap.objs.size + i == s.heap.objs.size + j) = false := fun i j h => beq_eq_false_iff_ne.mpr fun e => h (Nat.add_left_cancel e)
  refine ⟨.ref (s.heap.objs.size + 4), updL l H, I2, rfl, q _ (s.heap.objs.size + 2) (s.heap.objs.size + 3) (s.heap.objs.size + 0) (s.heap.objs.size + 1) _ (fun c o e => by rw [updL_old hl (I.hok.lt e)]; exact e) (fr 4) (fr 2) (fr 3) (fr 0) (fr 1) ⟨ap, ?_, ?_, ?_, ?_, ?_, ?_, ?_, ?_, ?_, ?_⟩⟩
  · simp [updL, l]
  · simp [updL, l, List.lookup_cons, ne 2 4 (by decide)]
  · simp [updL, l, List.lookup_cons, ne 3 4 (by decide), ne 3 2 (by decide)]
  · have n0 := ne 0 4 (by decide)
    have n1 := ne 0 2 (by decide)
    have n2 := ne 0 3 (by decide)
    rw [Nat.add_zero] at n0 n1 n2
    simp [updL, l, List.lookup_cons, n0, n1, n2]
  · have n3 : (s.heap.objs.size + 1 == s.heap.objs.size) = false := beq_eq_false_iff_ne.mpr (Nat.succ_ne_self _)
    simp [updL, l, List.lookup_cons, ne 1 4 (by decide), ne 1 2 (by decide), ne 1 3 (by decide), n3]
  · exact Nat.le_trans I.sz (Nat.le_add_right _ _)
  · exact Nat.le_trans I.sz (Nat.le_add_right _ _)
  · exact Nat.le_trans I.sz (Nat.le_add_right _ _)
  · exact I.sz
  · exact Nat.le_trans I.sz (Nat.le_add_right _ _)
def drop5 (H : Hp) (z TI TO i1 i2 : Addr) : Hp := dropH (dropH (dropH (dropH (dropH H z) TI) TO) i1) i2
theorem drop5_old {H : Hp} {z TI TO i1 i2 b : Addr} (h1 : b ≠ z) (h2 : b ≠ TI) (h3 : b ≠ TO) (h4 : b ≠ i1) (h5 : b ≠ i2) : drop5 H z TI TO i1 i2 b = H b := by
  unfold drop5
  rw [dropH_ne h5, dropH_ne h4, dropH_ne h3, dropH_ne h2, dropH_ne h1]
/-- such a zip, walked; behind it the five objects are forgotten -/
def iZipV (K : PySem.W.Frag) (n k : Nat) : TI := fun σ H R => ∃ (z a b TI TO i1 i2 : Addr), σ[k]? = some (some (.ref z)) ∧ ZAt H z a b n TI TO i1 i2 ∧ R (Itz K a b) (drop5 H z TI TO i1 i2)
theorem pi_zipV {k kk : Nat} {x : Str} {p tpos : Pos} {elts : List Expr} (hN : X.N[k]? = some x) (hv : Vis X.env.scope x) (hd : (x == ("__debug__" : Str)) = false := by decide) (hcd : (x == ("__classdict__" : Str)) = false := by decide) :
    PI X (.Tuple elts kk tpos) (.Name x p) (iZipV X.K X.s_0.heap.objs.size k) := by
  refine ⟨fun pins s σ H R I h => ?_⟩
  obtain ⟨z, a, b, TI, TO, i1, i2, hs, Z, q⟩ := h
  refine thn ((pe_var (pos := p) (i := k) hN hv hd hcd).run pins s σ H (fun v H1 => v = .ref z ∧ H1 = H) I ⟨.ref z, hs, rfl, rfl⟩) fun u s1 ⟨v, H1, I1, r1, ev, eH⟩ => ?_
  subst ev
  rw [eH] at I1
  cases r1
  have gz : IsZip s1.heap z TI TO .none := (I1.hok z _ Z.hz).1
  have gI : IsPair s1.heap TI (.ref i1) (.ref i2) := (I1.hok TI _ Z.hI).1
  have gO : IsPair s1.heap TO .none .none := (I1.hok TO _ Z.hO).1
  have g1 : s1.heap.IsListIter i1 a 0 := (I1.hok i1 _ Z.h1).1
  have g2 : s1.heap.IsListIter i2 b 0 := (I1.hok i2 _ Z.h2).1
  have D := Z.ap
  refine wpAny_pyIter_zip gz ?_
  -- forgotten one by one
  have J1 := inv_drop I1 Z.hz
  have eI : dropH H z TI = _ := (dropH_ne D.TIz).trans Z.hI
  have J2 := inv_drop J1 eI
  have eO : dropH (dropH H z) TI TO = _ := (dropH_ne (Ne.symm D.TITO)).trans ((dropH_ne D.TOz).trans Z.hO)
  have J3 := inv_drop J2 eO
  have e1 : dropH (dropH (dropH H z) TI) TO i1 = _ := (dropH_ne (Ne.symm D.TOi1)).trans ((dropH_ne (Ne.symm D.TIi1)).trans ((dropH_ne D.i1z).trans Z.h1))
  have J4 := inv_drop J3 e1
  have e2 : dropH (dropH (dropH (dropH H z) TI) TO) i1 i2 = _ := (dropH_ne (Ne.symm D.i12)).trans ((dropH_ne (Ne.symm D.TOi2)).trans ((dropH_ne (Ne.symm D.TIi2)).trans ((dropH_ne D.i2z).trans Z.h2)))
  have J5 := inv_drop J4 e2
  have gone : ∀ {H' : Hp} {b c : Addr}, H' b = none → dropH H' c b = none := fun {H' b c} e => by
    by_cases k : b = c
    · rw [k, dropH_same]
    · rw [dropH_ne k]; exact e
  have fz := inv_fp I1 Z.hz Z.nz
  have fI := inv_fp J1 eI Z.nI
  have fO := inv_fp J2 eO Z.nO
  have f1 := inv_fp J3 e1 Z.n1
  have f2 := inv_fp J4 e2 Z.n2
  refine ⟨z, [z, TI, TO, i1, i2], _, _, drop5 H z TI TO i1 i2, rfl, J5, turn_zip D, ⟨gz, gI, ⟨_, _, gO⟩, g1, g2⟩, fun c hc => ?_, q⟩
  simp only [List.mem_cons, List.not_mem_nil, or_false] at hc
  rcases hc with e | e | e | e | e
  · rw [e]; exact ⟨gone (gone (gone (gone fz.1))), fz.2⟩
  · rw [e]; exact ⟨gone (gone (gone fI.1)), fI.2⟩
  · rw [e]; exact ⟨gone (gone fO.1), fO.2⟩
  · rw [e]; exact ⟨gone f1.1, f1.2⟩
  · rw [e]; exact f2
end
/-- pairs = zip(a, b); return g(x, [e for .. in pairs]) -/
theorem s_zipRet {C : Addr} {K : PySem.W.Frag} {n k i0 : Nat} {ta tb te : TE} {fa fb fe : G.FE} {gg : TG} {fg : G.FG} {us vs : List Nat} {g : List G.D → Option G.D} {E : XK} (ha : XE C [] true ta fa) (hb : XE C [] true tb fb) (hk : k ≠ i0)
    (hg : XG C [] us gg fg) (hu : ∀ i, i ∈ us → i ∈ vs) (he : XE C [] true te fe) :
    XS C [] false (tSeq (tAsg (tCB (rZipN K n) (tCons ta (tCons tb tNil))) (gName k)) (tRet (tCall (spF C g) [] E (tCons (tVar i0) (tCons (tLc (iZipV K n k) gg tYes te vs) tNil)))))
      (G.sClr k (G.sRet (G.fCall g (G.aCons (G.fVar i0) (G.aCons (G.fLc (G.iZip fa fb) fg G.tYes fe vs) G.aNil))))) := ⟨fun S0 own σ ρ0 H s0 r e D p => by
  unfold G.sClr at e
  split at e
  · rename_i hlen
    have nW : ∀ i : Nat, i ∉ ([] : List Nat) := fun i z => nomatch z
    have clr : ∀ {σ' : L2.St} {H' : Hp}, Ex H H' → σ'.length = σ.length → (∀ j, j ≠ k → σ'[j]? = σ[j]?) → Sim C [] S0 own σ' (ρ0.set k none) H' := fun {σ' H'} x hl hj => by
      have s3 := s0.mono x
      refine ⟨s3.s0, s3.ow, s3.inj, by rw [List.length_set, hl, s3.len], fun j dd _ hh => ?_, fun j dd hj hh => absurd hj (nW j)⟩
      have hlj := getD_lt hh
      rw [List.length_set] at hlj
      rw [getD_set] at hh
      by_cases kj : k = j
      · rw [if_pos ⟨kj, hlj⟩] at hh
        cases hh
      · rw [if_neg (fun w => kj w.1)] at hh
        obtain ⟨v, q1, q2⟩ := s3.pl j dd (nW j) hh
        exact ⟨v, (hj j (Ne.symm kj)).trans q1, q2⟩
    have s : Sim C [] S0 own σ (ρ0.set k none) H := clr (Ex.refl H) rfl fun _ _ => rfl
    revert e
    generalize hρ : ρ0.set k none = ρ at s clr
    intro e
    unfold G.sRet at e
    split at e
    · rename_i d z
      cases e
      obtain ⟨args, z1, z2⟩ := call_cases z
      unfold G.aCons at z1
      split at z1
      · rename_i d0 r0 z3 z4
        cases z1
        split at z4
        · rename_i d1 r1 z5 z6
          cases z6
          cases z4
          unfold G.fLc at z5
          split at z5
          · rename_i l z7
            split at z5
            · rename_i r2 z8
              cases z5
              unfold G.iZip at z7
              split at z7
              · rename_i l1 l2 y1 y2
                split at z7
                · rename_i hl
                  cases z7
                  refine ha.run S0 own σ ρ H s _ y1 _ fun v H1 x1 k1 => ?_
                  refine hb.run S0 own σ ρ H1 (s.mono x1) _ y2 _ fun u H2 x2 k2 => ?_
                  have k1' := k1.mono (ex_hid x2)
                  cases k1' with
                  | @lst a xs ds a1 a2 =>
                    cases k2 with
                    | @lst b ys es b1 b2 =>
                      have a1 : hid (sv [] S0 own) H2 a = some (.lst xs) := a1
                      have a2 : Dats C (hid (sv [] S0 own) H2) xs l1 := a2
                      have b1 : hid (sv [] S0 own) H2 b = some (.lst ys) := b1
                      have b2 : Dats C (hid (sv [] S0 own) H2) ys l2 := b2
                      refine ⟨a, b, xs, ys, rfl, .inl (.inl (hid_some a1).2), .inl (.inl (hid_some b1).2), fun zz TI TO i1 i2 H3 x3 nz nI nO n1 n2 Z => ?_⟩
                      have s2 := s.mono (x1.trans x2)
                      have hkl : k < σ.length := by rw [s0.len]; exact hlen
                      obtain ⟨v0, q1, q2⟩ := s2.pl i0 d0 (by simp) z3
                      have sk : Sim C [] S0 own (σ.set k (some (.ref zz))) ρ H2 := clr (x1.trans x2) (List.length_set ..) fun j hj => List.getElem?_set_ne (Ne.symm hj)
                      show tRet (tCall (spF C g) [] E (tCons (tVar i0) (tCons (tLc (iZipV K n k) gg tYes te vs) tNil))) D (σ.set k (some (.ref zz))) H3
                      refine ⟨v0, by rw [List.getElem?_set_ne hk]; exact q1, ?_⟩
                      refine ⟨zz, a, b, TI, TO, i1, i2, by rw [List.getElem?_set_self hkl], Z, ?_⟩
                      have off : Ex H2 (drop5 H3 zz TI TO i1 i2) := fun c o ec => by
                        rw [drop5_old (ne_of_none ec nz) (ne_of_none ec nI) (ne_of_none ec nO) (ne_of_none ec n1) (ne_of_none ec n2)]
                        exact x3 _ _ ec
                      have good : Good C (sv [] S0 own) (drop5 H3 zz TI TO i1 i2) (Itz K a b) (G.zipD l1 l2) := by
                        have a1' := ex_hid off (S := sv [] S0 own) _ _ a1
                        have b1' := ex_hid off (S := sv [] S0 own) _ _ b1
                        have a2' := a2.mono (ex_hid off)
                        have b2' := b2.mono (ex_hid off)
                        refine ⟨fun H => SqL K H a xs ∧ SqL K H b ys, _, walk_zip (by rw [zip_len, a2.length, b2.length]), fun H3 x3 => ⟨.inl (.inl (x3 _ _ a1')), .inl (.inl (x3 _ _ b1'))⟩, fun i S2 H2 x H3 d hd hS x2 y => ?_⟩
                        obtain ⟨T, y, u, rfl, hT, rfl, h1, h2⟩ := y
                        obtain ⟨e, f, g1, g2, g3⟩ := zip_get _ _ _ _ hd
                        obtain ⟨w1, k1, k2⟩ := a2'.get g1
                        obtain ⟨w2, m1, m2⟩ := b2'.get g2
                        dsimp only at h1 h2
                        rw [k1] at h1
                        cases h1
                        rw [m1] at h2
                        cases h2
                        rw [g3]
                        exact pair_dat hS hT rfl rfl (k2.mono x2) (m2.mono x2)
                      refine lc_go (Q := fun x H1 => tNil (σ.set k (some (.ref zz))) H1 fun xs H2 => spF C g ((v0 :: x :: xs) ++ []) H2 D.rt E) hg hu t_yes he sk off (by rw [zip_len]; omega) good z8 (fun pl xl H5 hp x5 hp' hd5 => ?_)
                      have see : Dat C (hid (sv [] S0 own) H5) v0 d0 := q2.mono (ex_hid x5)
                      have hpS : sv [] S0 own pl = false := by
                        cases w : sv [] S0 own pl with
                        | false => rfl
                        | true => exact absurd hp (s2.dom pl w)
                      have see2 : Dat C (hid (sv [] S0 own) H5) (.ref pl) (.lst r2) := .lst (hid_of hpS hp') (hd5.mono (ex_unhid fun b w => plus_le b w))
                      have ups : ∀ {v : V} {d : G.D} {H : Hp}, Dat C (hid (sv [] S0 own) H) v d → Dat C (hid S0 H) v d := fun h => h.mono (ex_unhid fun b w => sv_true.mpr (.inl w))
                      refine ⟨S0, [d0, .lst r2], d, fun b w => some_mono ((x1.trans x2).trans x5) (s.s0 b w), .cons (ups see) (.cons (ups see2) .nil), z2, fun v6 H6 x6 k6 => ?_⟩
                      exact p v6 own H H6 Fr.refl (((x1.trans x2).trans x5).trans x6) k6 fun z => nomatch z
                · cases z7
              · cases z7
            · cases z5
          · cases z5
        · cases z4
      · cases z1
    · cases e
  · cases e⟩
end GB

set_option autoImplicit false
/-! Field(prime, modulus), plainly. -/
namespace S
def Field : List G.D → Option G.D
  | [.int p, .lst m] => match G.ints? m, S.want_prime [.int p], S.is_right [.int p, .lst m], S.sized [.int p, .int ((m.length : Int) - 1)] with
    | some mi, some _, some (.bl true), some (.int sz) => (match S.want_at_most [.txt, .int 128, .int sz], S.all_powers [.int p, .lst m, .int sz] with
      | some _, some (.lst q) => (match G.ints? q, S.logs_by [.lst q, .int sz] with
        | some qi, some (.lst l) => (match G.ints? l with
          | some li => some (.fld ⟨p, (m.length : Int) - 1, sz, mi, qi, li⟩)
          | none => none)
        | _, _ => none)
      | _, _ => none)
    | _, _, _, _ => none
  | _ => none
/-! the counting and the listing of ways, plainly -/
def L (l : List Int) : G.D := .lst (l.map .int)
def LL (r : List (List Int)) : G.D := .lst (r.map L)
def mapO {α β : Type} (g : α → Option β) : List α → Option (List β)
  | [] => some []
  | a :: r => match g a, mapO g r with
    | some b, some l => some (b :: l)
    | _, _ => none
def asOf (F : G.Fld) (t : List Int) : Option (List Int) := match S.inners_of [.fld F, L t] with
  | some (.lst l) => (match G.ints? l with
    | some as => if as.length ≤ 128 then some as else none
    | none => none)
  | _ => none
def qOf (F : G.Fld) (t : List Int) (a : Int) : Option (List Int) := match S.less_inner [.fld F, L t, .int a] with
  | some (.lst l) => G.ints? l
  | _ => none
def stepM (g : List Int → Option Int) (t : List Int) (o : Option (List Int)) (q : Int → Option (List Int)) : Option Int := if t.length = 1 then some 1 else match o with
    | some as => (match mapO (fun a => match q a with
        | some q => g q
        | none => none) as with
      | some l => some l.sum
      | none => none)
    | none => none
def manyF : Nat → G.Fld → List Int → Option Int
  | 0, _, _ => none
  | n + 1, F, t => stepM (manyF n F) t (asOf F t) (qOf F t)
def stepW (g : List Int → Option (List (List Int))) (t : List Int) (o : Option (List Int)) (q : Int → Option (List Int)) : Option (List (List Int)) := if t.length = 1 then some [[]] else match o with
    | some as => (match mapO (fun a => match q a with
        | some q => (match g q with
          | some ws => some (ws.map fun w => w ++ [a])
          | none => none)
        | none => none) as with
      | some l => if l.flatten.length ≤ 10000 ∧ (∀ w ∈ l.flatten, w.length ≤ 1000) then some l.flatten else none
      | none => none)
    | none => none
def waysF : Nat → G.Fld → List Int → Option (List (List Int))
  | 0, _, _ => none
  | n + 1, F, t => stepW (waysF n F) t (asOf F t) (qOf F t)
def sortRows (r : List (List Int)) : List (List Int) := r.mergeSort fun p q => decide (p ≤ q)
def ways : List G.D → Option G.D
  | [.fld F, t0] => match S.want_standing [.fld F, t0] with
    | some (.lst l) => (match G.ints? l with
      | some t => (match S.want_at_most [.txt, .int 4, .int ((t.length : Int) - 1)], manyF 4 F t, waysF 4 F t with
        | some _, some m, some ws => if m ≤ 400 ∧ ws.length ≤ 400 ∧ (∀ w ∈ ws, w.length ≤ 60) then some (LL (sortRows ws)) else none
        | _, _, _ => none)
      | none => none)
    | _ => none
  | _ => none
theorem mapO_mono {α β : Type} {g h : α → Option β} (gh : ∀ a b, g a = some b → h a = some b) : ∀ (l : List α) (r : List β), mapO g l = some r → mapO h l = some r
  | [], r, e => e
  | a :: l, r, e => by
    unfold mapO at e ⊢
    split at e
    · rename_i b m z1 z2
      cases e
      rw [gh a b z1, mapO_mono gh l m z2]
    · cases e
theorem manyF_eq (n : Nat) (F : G.Fld) (t : List Int) : manyF (n + 1) F t = stepM (manyF n F) t (asOf F t) (qOf F t) := rfl
theorem stepM_mono {g h : List Int → Option Int} (gh : ∀ a b, g a = some b → h a = some b) {t : List Int} {o : Option (List Int)} {q : Int → Option (List Int)} {r : Int} (e : stepM g t o q = some r) : stepM h t o q = some r := by
  unfold stepM at e ⊢
  by_cases k : t.length = 1
  · rw [if_pos k] at e ⊢
    exact e
  · rw [if_neg k] at e ⊢
    cases o with
    | none => cases e
    | some as =>
      dsimp only at e ⊢
      cases zl : mapO (fun a => match q a with | some q => g q | none => none) as with
      | none => rw [zl] at e; cases e
      | some l =>
        rw [zl] at e
        rw [mapO_mono (h := fun a => match q a with | some q => h q | none => none) (fun a b hab => ?_) as l zl]
        · exact e
        · cases zq : q a with
          | none => rw [zq] at hab; cases hab
          | some q => rw [zq] at hab; exact gh q b hab
theorem manyF_up (n : Nat) (F : G.Fld) : ∀ (t : List Int) (r : Int), manyF n F t = some r → manyF (n + 1) F t = some r := by
  induction n with
  | zero => exact fun t r e => nomatch (show none = some r from e)
  | succ n ih => exact fun t r e => (manyF_eq (n + 1) F t).trans (stepM_mono ih ((manyF_eq n F t).symm.trans e))
theorem manyF_le {n m : Nat} (h : n ≤ m) {F : G.Fld} {t : List Int} {r : Int} (e : manyF n F t = some r) : manyF m F t = some r := by
  induction h with
  | refl => exact e
  | step _ ih => exact manyF_up _ F t r ih
theorem manyF_same {n m : Nat} {F : G.Fld} {t : List Int} {r s : Int} (e1 : manyF n F t = some r) (e2 : manyF m F t = some s) : r = s := by
  rcases Nat.le_total n m with h | h
  · exact Option.some.inj ((manyF_le h e1).symm.trans e2)
  · exact Option.some.inj (e1.symm.trans (manyF_le h e2))
theorem waysF_eq (n : Nat) (F : G.Fld) (t : List Int) : waysF (n + 1) F t = stepW (waysF n F) t (asOf F t) (qOf F t) := rfl
theorem stepW_mono {g h : List Int → Option (List (List Int))} (gh : ∀ a b, g a = some b → h a = some b) {t : List Int} {o : Option (List Int)} {q : Int → Option (List Int)} {r : List (List Int)} (e : stepW g t o q = some r) : stepW h t o q = some r := by
  unfold stepW at e ⊢
  by_cases k : t.length = 1
  · rw [if_pos k] at e ⊢
    exact e
  · rw [if_neg k] at e ⊢
    cases o with
    | none => cases e
    | some as =>
      dsimp only at e ⊢
      cases zl : mapO (fun a => match q a with | some q => (match g q with | some ws => some (ws.map fun w => w ++ [a]) | none => none) | none => none) as with
      | none => rw [zl] at e; cases e
      | some l =>
        rw [zl] at e
        rw [mapO_mono (h := fun a => match q a with | some q => (match h q with | some ws => some (ws.map fun w => w ++ [a]) | none => none) | none => none) (fun a b hab => ?_) as l zl]
        · exact e
        · cases zq : q a with
          | none => rw [zq] at hab; cases hab
          | some q =>
            rw [zq] at hab
            dsimp only at hab ⊢
            cases zg : g q with
            | none => rw [zg] at hab; cases hab
            | some ws =>
              rw [zg] at hab
              rw [gh q ws zg]
              exact hab
theorem waysF_up (n : Nat) (F : G.Fld) : ∀ (t : List Int) (r : List (List Int)), waysF n F t = some r → waysF (n + 1) F t = some r := by
  induction n with
  | zero => exact fun t r e => nomatch (show none = some r from e)
  | succ n ih => exact fun t r e => (waysF_eq (n + 1) F t).trans (stepW_mono ih ((waysF_eq n F t).symm.trans e))
theorem waysF_le {n m : Nat} (h : n ≤ m) {F : G.Fld} {t : List Int} {r : List (List Int)} (e : waysF n F t = some r) : waysF m F t = some r := by
  induction h with
  | refl => exact e
  | step _ ih => exact waysF_up _ F t r ih
theorem waysF_same {n m : Nat} {F : G.Fld} {t : List Int} {r s : List (List Int)} (e1 : waysF n F t = some r) (e2 : waysF m F t = some s) : r = s := by
  rcases Nat.le_total n m with h | h
  · exact Option.some.inj ((waysF_le h e1).symm.trans e2)
  · exact Option.some.inj (e1.symm.trans (waysF_le h e2))
end S

set_option autoImplicit false
set_option Elab.async false
set_option linter.all false
set_option maxRecDepth 100000
set_option maxHeartbeats 4000000
/-! Field.__init__ and Field(..). -/
namespace GB
open PySem L2
theorem field_cases {l : List G.D} {d : G.D} (e : S.Field l = some d) : ∃ p m mi sz q qi lg li w1 w2, l = [.int p, .lst m] ∧ G.ints? m = some mi ∧ S.want_prime [.int p] = some w1 ∧ S.is_right [.int p, .lst m] = some (.bl true) ∧ S.sized [.int p, .int ((m.length : Int) - 1)] = some (.int sz) ∧
    S.want_at_most [.txt, .int 128, .int sz] = some w2 ∧ S.all_powers [.int p, .lst m, .int sz] = some (.lst q) ∧ G.ints? q = some qi ∧ S.logs_by [.lst q, .int sz] = some (.lst lg) ∧ G.ints? lg = some li ∧ d = .fld ⟨p, (m.length : Int) - 1, sz, mi, qi, li⟩ := by
  unfold S.Field at e
  split at e
  · split at e
    · split at e
      · split at e
        · split at e
          · cases e
            exact ⟨_, _, _, _, _, _, _, _, _, _, rfl, by assumption, by assumption, by assumption, by assumption, by assumption, by assumption, by assumption, by assumption, by assumption, rfl⟩
          · cases e
        · cases e
      · cases e
    · cases e
  · cases e
def spInit (C : Addr) : Sp := fun vs H Q _ => ∃ (S0 : Addr → Bool) (x dx m : Addr) (p : Int) (ms : List G.D) (F : G.Fld), vs = [.ref x, .int p, .ref m] ∧ H x = some (.ins C dx []) ∧ S0 x = false ∧ (∀ b, S0 b = true → H b ≠ none) ∧
  Dat C (hid (plus x S0) H) (.ref m) (.lst ms) ∧ S.Field [.int p, .lst ms] = some (.fld F) ∧ ∀ H', (∀ b o, b ≠ x → H b = some o → H' b = some o) → Dat C (hid S0 H') (.ref x) (.fld F) → Q .non H'
abbrev sInit : Stmt := inClass (topS 39) 0
theorem sc_init : FnScope ["self", "prime", "modulus"] ["self", "prime", "modulus"] (defScope sInit) := ⟨rfl, rfl, rfl, by decide +kernel, rfl, by decide +kernel, by decide +kernel⟩
/-- a hidden thing changes -/
theorem Sim.hchg {C : Addr} {W : List Nat} {S0 : Addr → Bool} {own : Own} {σ : L2.St} {ρ : G.Env} {H : Hp} (s : Sim C W S0 own σ ρ H) {b : Addr} {o : HO} (hb : S0 b = true) : Sim C W S0 own σ ρ (upd H b o) := by
  have up : ∀ c, H c ≠ none → upd H b o c ≠ none := fun c h => by
    by_cases k : c = b
    · rw [k, upd_same]; exact fun z => nomatch z
    · rw [upd_ne k]; exact h
  have hs : sv W S0 own b = true := sv_true.mpr (.inl hb)
  have see : Ex (hid (sv W S0 own) H) (hid (sv W S0 own) (upd H b o)) := fun c u e => by
    obtain ⟨e1, e2⟩ := hid_some e
    have ne : c ≠ b := fun z => by rw [z, hs] at e1; cases e1
    exact hid_of e1 (by rw [upd_ne ne]; exact e2)
  refine ⟨fun c h => up c (s.s0 c h), fun i a hi h => ⟨(s.ow i a hi h).1, up a (s.ow i a hi h).2⟩, s.inj, s.len, fun i d hi h => ?_, fun i d hi h => ?_⟩
  · obtain ⟨v, h1, h2⟩ := s.pl i d hi h
    exact ⟨v, h1, h2.mono see⟩
  · obtain ⟨a, xs, ds, h0, h1, h2, h3, h4⟩ := s.mu i d hi h
    have ne : a ≠ b := fun z => by
      have := (s.ow i a hi h2).1
      rw [z, hb] at this
      cases this
    exact ⟨a, xs, ds, h0, h1, h2, by rw [upd_ne ne]; exact h3, h4.mono see⟩
theorem ev_cons {a : G.FE} {r : G.FA} {ρ : G.Env} {d : G.D} {l : List G.D} (h1 : a ρ = some d) (h2 : r ρ = some l) : G.aCons a r ρ = some (d :: l) := by
  unfold G.aCons
  rw [h1, h2]
theorem ev_call {g : List G.D → Option G.D} {f : G.FA} {ρ : G.Env} {l : List G.D} (h : f ρ = some l) : G.fCall g f ρ = g l := by
  unfold G.fCall
  rw [h]
section
variable {C : Addr} {K : PySem.W.Frag} {tv : TE} {fv : G.FE} {S1 : Addr → Bool} {σ : L2.St} {ρ : G.Env} {H : Hp} {x dx : Addr} {fs : List (Str × V)} {f : Str} {D : Ends}
/-- self.f = e -/
theorem fld_go (hC : Cls K C) (hn : NoAttr K C f) (s : Sim C [] S1 (fun _ => none) σ ρ H) (h0 : σ[0]? = some (some (.ref x))) (hx : H x = some (.ins C dx fs)) (hS : S1 x = true) (hl : fs.length < 1000) (hv : XE C [] true tv fv) {d : G.D} (e : fv ρ = some d)
    (k : ∀ v H1, Ex H H1 → Dat C (hid S1 (upd H1 x (.ins C dx (putF f v fs)))) v d → Sim C [] S1 (fun _ => none) σ ρ (upd H1 x (.ins C dx (putF f v fs))) → D.nx σ (upd H1 x (.ins C dx (putF f v fs)))) : sFld K (tVar 0) tv f D σ H := by
  refine hv.run S1 _ σ ρ H s d e _ fun v H1 x1 d1 => ?_
  refine ⟨.ref x, h0, x, C, dx, fs, rfl, x1 _ _ hx, hC, hn, hl, ?_⟩
  have same : ∀ b, sv [] S1 (fun _ => none) b = true → S1 b = true := fun b z => by
    rcases sv_true.mp z with q | ⟨i, q, _⟩
    · exact q
    · exact nomatch q
  refine k v H1 x1 (d1.mono ((ex_unhid fun b z => sv_true.mpr (.inl z)).trans ?_)) ((s.mono x1).hchg hS)
  intro c u ec
  obtain ⟨e1, e2⟩ := hid_some ec
  have ne : c ≠ x := fun z => by rw [z, hS] at e1; cases e1
  exact hid_of e1 (by rw [upd_ne ne]; exact e2)
end
theorem hid_upd {S : Addr → Bool} {H : Hp} {x : Addr} {o : HO} (h : S x = true) : Ex (hid S H) (hid S (upd H x o)) := fun c u ec => by
  obtain ⟨e1, e2⟩ := hid_some ec
  have ne : c ≠ x := fun z => by rw [z, h] at e1; cases e1
  exact hid_of e1 (by rw [upd_ne ne]; exact e2)
theorem lk_same {fs : List (Str × V)} {f : Str} {v : V} : (putF f v fs).lookup f = some v := by rw [lookup_putF, if_pos rfl]
theorem lk_ne {fs : List (Str × V)} {f g : Str} {v u : V} (h : ¬ f = g) (k : fs.lookup g = some u) : (putF f v fs).lookup g = some u := by rw [lookup_putF, if_neg (fun e => h e.symm), k]
theorem plen {fs : List (Str × V)} {f : Str} {v : V} {n : Nat} (h : fs.length ≤ n) : (putF f v fs).length ≤ n + 1 := Nat.le_trans (length_putF f v fs) (Nat.succ_le_succ h)
/-- steps of a block -/
theorem drop_go {C : Addr} {W : List Nat} {S0 : Addr → Bool} {own : Own} {σ : L2.St} {ρ : G.Env} {H : Hp} {te : TE} {fe : G.FE} {tz : TS} {D : Ends} (s : Sim C W S0 own σ ρ H) (he : XE C W false te fe) {d : G.D} (e : fe ρ = some d) (k : ∀ H1, Ex H H1 → tz D σ H1) : tSeq (tDrop te) tz D σ H :=
  he.run S0 own σ ρ H s d e (fun _ H1 => tz D σ H1) fun v H1 x1 _ => k H1 x1
theorem unless_go {C : Addr} {W : List Nat} {S0 : Addr → Bool} {own : Own} {σ : L2.St} {ρ : G.Env} {H : Hp} {tt : TT} {ft : G.FT} {tu tz : TS} {D : Ends} (s : Sim C W S0 own σ ρ H) (ht : XT C W tt ft) (e : ft ρ = some false) (k : ∀ H1, Ex H H1 → tz D σ H1) : tSeq (tIfS tt tu tNext) tz D σ H :=
  ht.run S0 own σ ρ H s false e (fun b H1 => if b = true then tu { D with nx := tz D } σ H1 else tNext { D with nx := tz D } σ H1) fun H1 x1 => by
    rw [if_neg Bool.false_ne_true]
    exact k H1 x1
section
variable {C : Addr} {K : PySem.W.Frag} {tv : TE} {fv : G.FE} {S1 : Addr → Bool} {σ : L2.St} {ρ : G.Env} {H : Hp} {x dx : Addr} {fs : List (Str × V)} {f : Str} {D : Ends} {tz : TS}
theorem fldq_go (hC : Cls K C) (hn : NoAttr K C f) (s : Sim C [] S1 (fun _ => none) σ ρ H) (h0 : σ[0]? = some (some (.ref x))) (hx : H x = some (.ins C dx fs)) (hS : S1 x = true) (hl : fs.length < 1000) (hv : XE C [] true tv fv) {d : G.D} (e : fv ρ = some d)
    (k : ∀ v H1, Ex H H1 → Dat C (hid S1 (upd H1 x (.ins C dx (putF f v fs)))) v d → Sim C [] S1 (fun _ => none) σ ρ (upd H1 x (.ins C dx (putF f v fs))) → tz D σ (upd H1 x (.ins C dx (putF f v fs)))) : tSeq (sFld K (tVar 0) tv f) tz D σ H :=
  fld_go (D := { D with nx := tz D }) hC hn s h0 hx hS hl hv e k
end
theorem ok_init {P : Program} {w : World} {K : PySem.W.Frag} {mg : Str → Option Value} {base : Heap} {C : Addr} (T : Tx K mg C) (k_want_prime : Kn P w K mg base "want_prime" 3 ["prime"] (spF C S.want_prime)) (k_is_right : Kn P w K mg base "is_right" 6 ["prime", "value"] (spF C S.is_right))
    (k_want_at_most : Kn P w K mg base "want_at_most" 1 ["what", "limit", "number"] (spF C S.want_at_most)) (k_sized : Kn P w K mg base "sized" 1 ["prime", "many"] (spF C S.sized)) (k_all_powers : Kn P w K mg base "all_powers" 5 ["prime", "modulus", "size"] (spF C S.all_powers))
    (k_logs_by : Kn P w K mg base "logs_by" 1 ["powers", "size"] (spF C S.logs_by)) {f : Addr} {fd : FuncData} (F : FunD K "__init__" "Field.__init__" (defArgs sInit) (defBody sInit) (defScope sInit) [] [] f fd) :
    FnOk P w K mg base CX0 7 f fd ["self", "prime", "modulus"] (spInit C) := by
  refine F.ok sc_init (fun vs H Q E h => ?_) (fun cdv A outer s H vs Q E hr h => ?_)
  · obtain ⟨S0, x, dx, m, p, ms, F, rfl, _⟩ := h
    rfl
  · refine ⟨_, PSs.nox (pss_cons (ps_expr (pe_kn k_want_prime (hr.mono (by decide)) rfl (pa_cons (pv 1) pa_nil)))
      (pss_cons (ps_if (pt_not (pt_val (pe_kn k_is_right (hr.mono (by decide)) rfl (pa_cons (pv 1) (pa_cons (pv 2) pa_nil))))) (pss_one ps_never) pss_nil)
      (pss_cons (ps_expr (pe_kn k_want_at_most (hr.mono (by decide)) rfl (pa_cons pe_str (pa_cons (pe_gint rfl T.c_MOST_SIZE) (pa_cons (pe_kn k_sized (hr.mono (by decide)) rfl (pa_cons (pv 1) (pa_cons (pe_op op_sub (pe_callB call_len_seq (by rfl) T.f_len bt_len (pa_cons (pv 2) pa_nil)) pe_int) pa_nil))) pa_nil)))))
      (pss_cons (ps_fld (pv 0) (pv 1) rfl)
      (pss_cons (ps_fld (pv 0) (pe_op op_sub (pe_callB call_len_seq (by rfl) T.f_len bt_len (pa_cons (pv 2) pa_nil)) pe_int) rfl)
      (pss_cons (ps_fld (pv 0) (pe_kn k_sized (hr.mono (by decide)) rfl (pa_cons (pv 1) (pa_cons (pe_op op_sub (pe_callB call_len_seq (by rfl) T.f_len bt_len (pa_cons (pv 2) pa_nil)) pe_int) pa_nil))) rfl)
      (pss_cons (ps_fld (pv 0) (pe_callTy call_list_of (by rfl) T.f_list bt_list (pa_cons (pv 2) pa_nil)) rfl)
      (pss_cons (ps_fld (pv 0) (pe_kn k_all_powers (hr.mono (by decide)) rfl (pa_cons (pv 1) (pa_cons (pe_callTy call_list_of (by rfl) T.f_list bt_list (pa_cons (pv 2) pa_nil)) (pa_cons (pe_kn k_sized (hr.mono (by decide)) rfl (pa_cons (pv 1) (pa_cons (pe_op op_sub (pe_callB call_len_seq (by rfl) T.f_len bt_len (pa_cons (pv 2) pa_nil)) pe_int) pa_nil))) pa_nil)))) rfl)
      (pss_one (ps_fld (pv 0) (pe_kn k_logs_by (hr.mono (by decide)) rfl (pa_cons (pe_fld (pv 0) rfl) (pa_cons (pe_fld (pv 0) rfl) pa_nil))) rfl)))))))))), ?_⟩
    obtain ⟨S0, x, dx, m, p, ms, F, rfl, hx, hS0, hdom, hm, hF, q⟩ := h
    obtain ⟨p', ms', mi, sz, qd, qi, lg, li, w1, w2, el, e1, e2, e3, e4, e5, e6, e7, e8, e9, e10⟩ := field_cases hF
    cases el
    cases e10
    have nW : ∀ i : Nat, i ∉ ([] : List Nat) := fun i z => nomatch z
    have hS1 : plus x S0 x = true := plus_true.mpr (.inr rfl)
    have same : ∀ b, sv [] (plus x S0) (fun _ => none) b = true → plus x S0 b = true := fun b z => by
      rcases sv_true.mp z with q | ⟨i, q, _⟩
      · exact q
      · exact nomatch q
    have s0 : Sim C [] (plus x S0) (fun _ => none) [some (.ref x), some (.int p), some (.ref m)] [none, some (.int p), some (.lst ms)] H := by
      refine ⟨fun b z => ?_, fun i a hi _ => absurd hi (nW i), fun i j a hi _ _ _ => absurd hi (nW i), rfl, fun i d _ h => ?_, fun i d hi _ => absurd hi (nW i)⟩
      · rcases plus_true.mp z with k | k
        · exact hdom b k
        · rw [k, hx]; exact fun z => nomatch z
      · match i, h with
        | 1, h => cases h; exact ⟨_, rfl, .int p⟩
        | 2, h => cases h; exact ⟨_, rfl, hm.mono (ex_unhid same)⟩
        | 0, h => cases h
        | n + 3, h => cases h
    -- the sub-terms' plain rules
    have xp : XE C [] true (tVar 1) (G.fVar 1) := x_var (by decide)
    have xm : XE C [] true (tVar 2) (G.fVar 2) := x_var (by decide)
    have xn := x_i2 (C := C) (W := []) (st := true) ir_sub (x_len (K := K) (x_weak xm)) (x_int (i := 1))
    have xs := x_call (C := C) (g := S.sized) (E := E0) (a_cons xp (a_cons xn a_nil))
    have xl := x_list (K := K) xm
    have xq := x_call (C := C) (g := S.all_powers) (E := E0) (a_cons xp (a_cons (x_of_f xl) (a_cons xs a_nil)))
    have vn : G.fI2 G.gSub (G.fB1 G.bLen (G.fVar 2)) (G.fC (.int 1)) [none, some (.int p), some (.lst ms)] = some (.int ((ms.length : Int) - 1)) := rfl
    have vs : G.fCall S.sized (G.aCons (G.fVar 1) (G.aCons (G.fI2 G.gSub (G.fB1 G.bLen (G.fVar 2)) (G.fC (.int 1))) G.aNil)) [none, some (.int p), some (.lst ms)] = some (.int sz) := e4
    have vq : G.fCall S.all_powers (G.aCons (G.fVar 1) (G.aCons (G.fB1 G.bList (G.fVar 2)) (G.aCons (G.fCall S.sized (G.aCons (G.fVar 1) (G.aCons (G.fI2 G.gSub (G.fB1 G.bLen (G.fVar 2)) (G.fC (.int 1))) G.aNil))) G.aNil))) [none, some (.int p), some (.lst ms)] = some (.lst qd) :=
      (ev_call (ev_cons rfl (ev_cons rfl (ev_cons vs rfl)))).trans e6
    -- want_prime, is_right, want_at_most
    refine drop_go s0 (x_call (g := S.want_prime) (a_cons (x_weak xp) a_nil)) (d := w1) e2 fun H1 x1 => ?_
    refine unless_go (s0.mono x1) (t_not (t_B (x_call (g := S.is_right) (a_cons (x_weak xp) (a_cons (x_weak xm) a_nil))))) (show G.tNot (G.fTest (G.fCall S.is_right (G.aCons (G.fVar 1) (G.aCons (G.fVar 2) G.aNil)))) _ = some false from by
      unfold G.tNot G.fTest
      rw [show G.fCall S.is_right (G.aCons (G.fVar 1) (G.aCons (G.fVar 2) G.aNil)) [none, some (.int p), some (.lst ms)] = some (.bl true) from e3]
      rfl) fun H2 x2 => ?_
    refine drop_go (s0.mono (x1.trans x2)) (x_call (g := S.want_at_most) (a_cons x_txt (a_cons x_int (a_cons (x_weak xs) a_nil)))) (d := w2) ((ev_call (ev_cons rfl (ev_cons rfl (ev_cons vs rfl)))).trans e5) fun H3 x3 => ?_
    have x13 := (x1.trans x2).trans x3
    -- the stores
    refine fldq_go T.cl T.n0 (s0.mono x13) rfl (x13 _ _ hx) hS1 (by decide) xp rfl fun va Ha xa da sa => ?_
    cases dat_int da
    refine fldq_go T.cl T.n1 sa rfl upd_same hS1 (Nat.lt_of_le_of_lt (plen (Nat.le_refl 0)) (by decide)) xn vn fun vb Hb xb db sb => ?_
    cases dat_int db
    refine fldq_go T.cl T.n2 sb rfl upd_same hS1 (Nat.lt_of_le_of_lt (plen (plen (Nat.le_refl 0))) (by decide)) xs vs fun vc Hc xc dc sc => ?_
    cases dat_int dc
    refine fldq_go T.cl T.n3 sc rfl upd_same hS1 (Nat.lt_of_le_of_lt (plen (plen (plen (Nat.le_refl 0)))) (by decide)) (x_of_f xl) rfl fun vd Hd xd dd sd => ?_
    cases dd with
    | @lst am xms ds1 am1 am2 =>
      rw [(Dats.ints? am2 e1).1] at am1
      refine fldq_go T.cl T.n4 sd rfl upd_same hS1 (Nat.lt_of_le_of_lt (plen (plen (plen (plen (Nat.le_refl 0))))) (by decide)) xq vq fun ve He xe de se => ?_
      cases de with
      | @lst aq xqs ds2 aq1 aq2 =>
        have aq0 := (Dats.ints? aq2 e7).1
        have k01 : ¬ (("own_prime" : Str) = "own_turns") := by decide +kernel
        have dq : Dat C (hid (plus x S0) (upd He x (.ins C dx (putF "own_powers" (.ref aq) (putF "own_modulus" (.ref am) (putF "own_size" (.int sz) (putF "own_turns" (.int ((ms.length : Int) - 1)) (putF "own_prime" (.int p) [])))))))) (.ref aq) (.lst qd) := .lst aq1 aq2
        rw [aq0] at aq1
        -- own_logs
        have lq : (putF "own_powers" (.ref aq) (putF "own_modulus" (.ref am) (putF "own_size" (.int sz) (putF "own_turns" (.int ((ms.length : Int) - 1)) (putF "own_prime" (.int p) []))))).lookup ("own_powers" : Str) = some (V.ref aq) := lk_same
        have ls : (putF "own_powers" (.ref aq) (putF "own_modulus" (.ref am) (putF "own_size" (.int sz) (putF "own_turns" (.int ((ms.length : Int) - 1)) (putF "own_prime" (.int p) []))))).lookup ("own_size" : Str) = some (V.int sz) := lk_ne (by decide +kernel) (lk_ne (by decide +kernel) lk_same)
        refine ⟨.ref x, rfl, x, C, dx, _, .ref aq, rfl, upd_same, T.cl, T.n4, lq, .ref x, rfl, x, C, dx, _, .int sz, rfl, upd_same, T.cl, T.n2, ls, ?_⟩
        refine ⟨plus x S0, [.lst qd, .int sz], .lst lg, se.s0, .cons dq (.cons (.int _) .nil), e8, fun v H6 x6 d6 => ?_⟩
        refine ⟨.ref x, rfl, x, C, dx, _, rfl, x6 _ _ upd_same, T.cl, T.n5, Nat.lt_of_le_of_lt (plen (plen (plen (plen (plen (Nat.le_refl 0)))))) (by decide), ?_⟩
        cases d6 with
        | @lst al xls ds3 al1 al2 =>
          rw [(Dats.ints? al2 e9).1] at al1
          have hu : ∀ {H : Hp} {o : HO}, Ex (hid (plus x S0) H) (hid (plus x S0) (upd H x o)) := hid_upd hS1
          have am9 := hu (o := .ins C dx (putF "own_logs" (.ref al) (putF "own_powers" (.ref aq) (putF "own_modulus" (.ref am) (putF "own_size" (.int sz) (putF "own_turns" (.int ((ms.length : Int) - 1)) (putF "own_prime" (.int p) []))))))) _ _ (ex_hid x6 _ _ (hu (o := .ins C dx (putF "own_powers" (.ref aq) (putF "own_modulus" (.ref am) (putF "own_size" (.int sz) (putF "own_turns" (.int ((ms.length : Int) - 1)) (putF "own_prime" (.int p) [])))))) _ _ (ex_hid xe _ _ am1)))
          have aq9 := hu (o := .ins C dx (putF "own_logs" (.ref al) (putF "own_powers" (.ref aq) (putF "own_modulus" (.ref am) (putF "own_size" (.int sz) (putF "own_turns" (.int ((ms.length : Int) - 1)) (putF "own_prime" (.int p) []))))))) _ _ (ex_hid x6 _ _ aq1)
          have al9 := hu (o := .ins C dx (putF "own_logs" (.ref al) (putF "own_powers" (.ref aq) (putF "own_modulus" (.ref am) (putF "own_size" (.int sz) (putF "own_turns" (.int ((ms.length : Int) - 1)) (putF "own_prime" (.int p) []))))))) _ _ al1
          have un : ∀ {H : Hp}, Ex (hid (plus x S0) H) (hid S0 H) := ex_unhid fun b z => plus_le b z
          refine q _ (fun b o hb eb => ?_) (.fld (hid_of hS0 upd_same) ⟨?_, ?_, ?_, ?_, ?_, ?_⟩ (un _ _ am9) (un _ _ aq9) (un _ _ al9))
          · rw [upd_ne hb]
            refine x6 _ _ ?_
            rw [upd_ne hb]
            refine xe _ _ ?_
            rw [upd_ne hb]
            refine xd _ _ ?_
            rw [upd_ne hb]
            refine xc _ _ ?_
            rw [upd_ne hb]
            refine xb _ _ ?_
            rw [upd_ne hb]
            exact xa _ _ (x13 _ _ eb)
          · exact lk_ne (by decide +kernel) (lk_ne (by decide +kernel) (lk_ne (by decide +kernel) (lk_ne (by decide +kernel) (lk_ne (by decide +kernel) lk_same))))
          · exact lk_ne (by decide +kernel) (lk_ne (by decide +kernel) (lk_ne (by decide +kernel) (lk_ne (by decide +kernel) lk_same)))
          · exact lk_ne (by decide +kernel) (lk_ne (by decide +kernel) (lk_ne (by decide +kernel) lk_same))
          · exact lk_ne (by decide +kernel) (lk_ne (by decide +kernel) lk_same)
          · exact lk_ne (by decide +kernel) lk_same
          · exact lk_same
end GB

set_option autoImplicit false
set_option Elab.async false
set_option linter.all false
set_option maxRecDepth 100000
set_option maxHeartbeats 4000000
/-! The memo dict: many_ways, ways_of. -/
namespace GB
open PySem L2 ItX
abbrev Key1 := List L2.Key
def key (t : List Int) : Key1 := t.map Sum.inl
theorem key_kV (t : List Int) : (key t).map kV = t.map V.int := by
  unfold key
  rw [List.map_map]
  rfl
theorem key_inj {t u : List Int} (h : key t = key u) : t = u := by
  have h' := congrArg (List.map kV) h
  rw [key_kV, key_kV] at h'
  have : ∀ {a b : List Int}, a.map V.int = b.map V.int → a = b := by
    intro a
    induction a with
    | nil => intro b e; cases b with
      | nil => rfl
      | cons _ _ => cases e
    | cons x r ih => intro b e; cases b with
      | nil => cases e
      | cons y s =>
        rw [List.map_cons, List.map_cons] at e
        injection e with e1 e2
        injection e1 with e1
        rw [e1, ih e2]
  exact this h'
abbrev Val := Nat → G.Fld → List Int → Option G.D
def manyD : Val := fun n F t => (S.manyF n F t).map .int
def waysD : Val := fun n F t => (S.waysF n F t).map S.LL
theorem manyD_same {n m : Nat} {F : G.Fld} {t : List Int} {r s : G.D} (e1 : manyD n F t = some r) (e2 : manyD m F t = some s) : r = s := by
  unfold manyD at e1 e2
  obtain ⟨a, h1, rfl⟩ := Option.map_eq_some_iff.mp e1
  obtain ⟨b, h2, rfl⟩ := Option.map_eq_some_iff.mp e2
  rw [S.manyF_same h1 h2]
theorem waysD_same {n m : Nat} {F : G.Fld} {t : List Int} {r s : G.D} (e1 : waysD n F t = some r) (e2 : waysD m F t = some s) : r = s := by
  unfold waysD at e1 e2
  obtain ⟨a, h1, rfl⟩ := Option.map_eq_some_iff.mp e1
  obtain ⟨b, h2, rfl⟩ := Option.map_eq_some_iff.mp e2
  rw [S.waysF_same h1 h2]
/-- what the memo holds -/
def InvG (C : Addr) (val : Val) (F : G.Fld) (S : Addr → Bool) (H : Hp) (kvs : List (Key1 × V)) : Prop :=
  ∀ t v, valV kvs (key t) = some v → ∃ n d, val n F t = some d ∧ Dat C (hid S H) v d
theorem InvG.mono {C : Addr} {val : Val} {F : G.Fld} {S S' : Addr → Bool} {H H' : Hp} {kvs : List (Key1 × V)} (h : InvG C val F S H kvs) (e : Ex (hid S H) (hid S' H')) : InvG C val F S' H' kvs := fun t v hv => by
  obtain ⟨n, d, h1, h2⟩ := h t v hv
  exact ⟨n, d, h1, h2.mono e⟩
theorem InvG.put {C : Addr} {val : Val} {F : G.Fld} {S : Addr → Bool} {H : Hp} {kvs : List (Key1 × V)} (h : InvG C val F S H kvs) {t : List Int} {v : V} {n : Nat} {d : G.D} (e : val n F t = some d) (hd : Dat C (hid S H) v d) :
    InvG C val F S H (putK kvs (key t) v) := fun u w hw => by
  rw [valV_put] at hw
  by_cases k : key u = key t
  · rw [if_pos k] at hw
    cases hw
    rw [key_inj k]
    exact ⟨n, d, e, hd⟩
  · rw [if_neg k] at hw
    exact h u w hw
def Bn : Nat → Nat
  | 0 => 0
  | n + 1 => 1 + 128 * Bn n
/-- the heap but for d -/
def Exb (d : Addr) (H H' : Hp) : Prop := ∀ b o, b ≠ d → H b = some o → H' b = some o
theorem Exb.trans {d : Addr} {H H1 H2 : Hp} (a : Exb d H H1) (b : Exb d H1 H2) : Exb d H H2 := fun x o n h => b x o n (a x o n h)
theorem Exb.of {d : Addr} {H H' : Hp} (e : Ex H H') : Exb d H H' := fun b o _ h => e b o h
theorem Exb.hid {d : Addr} {S S' : Addr → Bool} {H H' : Hp} (e : Exb d H H') (hS : S d = true) (h : ∀ b, S' b = true → S b = true) : Ex (hid S H) (hid S' H') := fun b o q => by
  obtain ⟨e1, e2⟩ := hid_some q
  refine hid_of ?_ (e b o (fun z => by rw [z, hS] at e1; cases e1) e2)
  cases z : S' b with
  | false => rfl
  | true => rw [h b z] at e1; cases e1
theorem Exb.see {d : Addr} {S : Addr → Bool} {H H' : Hp} (e : Exb d H H') (hS : S d = true) : Ex (GB.hid S H) H' := fun b o q => e b o (fun z => by rw [z, GB.hid, if_pos hS] at q; cases q) (hid_some q).2
def spG (C : Addr) (val : Val) (n : Nat) : Sp := fun vs H Q _ => ∃ (S0 : Addr → Bool) (F : G.Fld) (t : List Int) (fv tv : V) (d : Addr) (kvs : List (Key1 × V)) (dd : G.D), vs = [fv, tv, .ref d] ∧ (∀ b, S0 b = true → H b ≠ none) ∧ S0 d = true ∧
  Dat C (hid S0 H) fv (.fld F) ∧ Dat C (hid S0 H) tv (S.L t) ∧ H d = some (.dT kvs) ∧ InvG C val F S0 H kvs ∧ kvs.length + Bn n ≤ 3000000 ∧ val n F t = some dd ∧
  ∀ v H' kvs', Exb d H H' → H' d = some (.dT kvs') → InvG C val F S0 H' kvs' → kvs'.length ≤ kvs.length + Bn n → Dat C (hid S0 H') v dd → Q v H'
theorem ints_map : ∀ t : List Int, G.ints? (t.map G.D.int) = some t
  | [] => rfl
  | x :: r => by
    rw [List.map_cons]
    unfold G.ints?
    rw [ints_map r]
theorem list_cases {C : Addr} {H : Hp} {v : V} {t : List Int} (h : Dat C H v (S.L t)) : ∃ a, v = .ref a ∧ H a = some (.lst (t.map V.int)) := by
  unfold S.L at h
  cases h with
  | lst h1 h2 =>
    have e := ints_map t
    rw [(Dats.ints? h2 e).1] at h1
    exact ⟨_, rfl, h1⟩
abbrev st_many : Stmt := topS 78
theorem sc_many : FnScope ["field", "turner", "known", "key", "one"] ["field", "turner", "known"] (defScope st_many) := ⟨rfl, rfl, rfl, by decide +kernel, rfl, by decide +kernel, by decide +kernel⟩
theorem spG_len {C : Addr} {val : Val} {n : Nat} {vs : List V} {H : Hp} {Q : VK} {E : XK} (h : spG C val n vs H Q E) : vs.length = 3 := by
  obtain ⟨S0, F, t, fv, tv, d, kvs, dd, rfl, _⟩ := h
  rfl
theorem mapO_at {α β : Type} {g : α → Option β} : ∀ {l : List α} {r : List β}, S.mapO g l = some r → r.length = l.length ∧ ∀ i (h : i < l.length), ∃ b, r[i]? = some b ∧ g l[i] = some b
  | [], r, e => by
    cases e
    exact ⟨rfl, fun i h => absurd h (Nat.not_lt_zero i)⟩
  | a :: l, r, e => by
    unfold S.mapO at e
    split at e
    · rename_i b m z1 z2
      cases e
      obtain ⟨h1, h2⟩ := mapO_at z2
      refine ⟨by rw [List.length_cons, List.length_cons, h1], fun i h => ?_⟩
      cases i with
      | zero => exact ⟨b, rfl, z1⟩
      | succ i => exact h2 i (Nat.lt_of_succ_lt_succ h)
    · cases e
theorem asOf_cases {F : G.Fld} {t as : List Int} (e : S.asOf F t = some as) : S.inners_of [.fld F, S.L t] = some (.lst (as.map .int)) ∧ as.length ≤ 128 := by
  unfold S.asOf at e
  split at e
  · rename_i l z
    split at e
    · rename_i as' z2
      split at e
      · rename_i h
        cases e
        have : ∀ {l : List G.D} {ns : List Int}, G.ints? l = some ns → l = ns.map .int := by
          intro l
          induction l with
          | nil => intro ns e; cases e; rfl
          | cons x r ih =>
            intro ns e
            unfold G.ints? at e
            split at e
            · rename_i z; cases z
            · rename_i i r' z
              injection z with z1 z2
              subst z1
              subst z2
              split at e
              · rename_i l' zl
                cases e
                rw [List.map_cons, ih zl]
              · cases e
            · cases e
        rw [z, this z2]
        exact ⟨rfl, h⟩
      · cases e
    · cases e
  · cases e
theorem ints_back : ∀ {l : List G.D} {ns : List Int}, G.ints? l = some ns → l = ns.map .int := by
  intro l
  induction l with
  | nil => intro ns e; cases e; rfl
  | cons x r ih =>
    intro ns e
    unfold G.ints? at e
    split at e
    · rename_i z; cases z
    · rename_i i r' z
      injection z with z1 z2
      subst z1
      subst z2
      split at e
      · rename_i l' zl
        cases e
        rw [List.map_cons, ih zl]
      · cases e
    · cases e
theorem qOf_cases {F : G.Fld} {t q : List Int} {a : Int} (e : S.qOf F t a = some q) : S.less_inner [.fld F, S.L t, .int a] = some (S.L q) := by
  unfold S.qOf at e
  split at e
  · rename_i l z
    rw [z, ints_back e]
    rfl
  · cases e
theorem stepM_cases {g : List Int → Option Int} {t : List Int} {o : Option (List Int)} {q : Int → Option (List Int)} {r : Int} (e : S.stepM g t o q = some r) (h : ¬ t.length = 1) :
    ∃ as l, o = some as ∧ S.mapO (fun a => match q a with | some q => g q | none => none) as = some l ∧ r = l.sum := by
  unfold S.stepM at e
  rw [if_neg h] at e
  cases o with
  | none => cases e
  | some as =>
    dsimp only at e
    split at e
    · rename_i l z
      cases e
      exact ⟨as, l, rfl, z, rfl⟩
    · cases e
section
variable {P : Program} {w : World} {K : PySem.W.Frag} {mg : Str → Option Value} {base : Heap} {C : Addr}
theorem dput_lc {wi : TI} {g : TG} {tt : TT} {te td ty : TE} {vs : List Nat} {r : List V → Hp → VK → Prop} {D : Ends} {σ : L2.St} {H : Hp} (h : wi σ H fun J H1 => ∀ D', H1 D' = none → ∃ W : Nat → Nat → Hp → Prop, (∃ m, W 0 m (upd H1 D' (.lst []))) ∧ ∀ i m H, W i m H →
  (J.stop i H ∧ r [.ref D'] H fun v H1 => td σ H1 fun x H2 => ty σ H2 fun y H3 => ∃ a H4, x = .ref a ∧ DPut H3 a y v H4 ∧ D.nx σ H4) ∨ (J.go i H ∧ ∃ Nx : Hp → Prop, (∀ H', Nx H' → ∃ m', m' < m ∧ W (i + 1) m' H') ∧ ∀ x H', J.yld i H x H' → g x (wipe σ vs) H' fun σ2 H2 => wipe σ2 vs = wipe σ vs ∧ tt σ2 H2 fun b H3 =>
    if b = true then te σ2 H3 fun y H4 => ∃ acc, H4 D' = some (.lst acc) ∧ acc.length < sizeLine ∧ Nx (upd H4 D' (.lst (acc ++ [y]))) else Nx H3)) : sDPut td ty (tCB r (tCons (tLc wi g tt te vs) tNil)) D σ H := h
theorem yes_go {A : Hp → Prop} {B : Hp → Prop} {σ : L2.St} {H : Hp} (h : A H) : tYes σ H fun b H1 => if b = true then A H1 else B H1 := by
  show if true = true then A H else B H
  rw [if_pos rfl]
  exact h
theorem sim_ft {Z : Addr → Bool} {H : Hp} {fv tv : V} {F : G.Fld} {t : List Int} (hdom : ∀ b, Z b = true → H b ≠ none) (hF : Dat C (hid Z H) fv (.fld F)) (ht : Dat C (hid Z H) tv (S.L t)) (rest : List (Option V)) :
    Sim C [] Z (fun _ => none) (some fv :: some tv :: rest) (some (.fld F) :: some (S.L t) :: List.replicate rest.length none) H := by
  have nW : ∀ i : Nat, i ∉ ([] : List Nat) := fun i z => nomatch z
  have own0 : ∀ b, sv [] Z (fun _ => none) b = true → Z b = true := fun b z => by
    rcases sv_true.mp z with q | ⟨i, q, _⟩
    · exact q
    · exact nomatch q
  refine ⟨hdom, fun i a hi _ => absurd hi (nW i), fun i j a hi _ _ _ => absurd hi (nW i), by simp, fun i d _ h => ?_, fun i d hi _ => absurd hi (nW i)⟩
  match i, h with
  | 0, h => cases h; exact ⟨_, rfl, hF.mono (ex_unhid own0)⟩
  | 1, h => cases h; exact ⟨_, rfl, ht.mono (ex_unhid own0)⟩
  | n + 2, h =>
    exfalso
    rw [List.getD_eq_getElem?_getD, List.getElem?_cons_succ, List.getElem?_cons_succ, List.getElem?_replicate] at h
    split at h <;> cases h
theorem ok_many0 {f : Addr} {fd : FuncData} (F : Fn K "many_ways" st_many f fd) : FnOk P w K mg base CX0 7 f fd ["field", "turner", "known"] (spG C manyD 0) := by
  refine F.ok sc_many (fun vs H Q E h => spG_len h) (fun cdv A outer s H vs Q E hr h => ?_)
  obtain ⟨S0, F, t, fv, tv, d, kvs, dd, rfl, _, _, _, _, _, _, _, e, _⟩ := h
  exact nomatch (show none = some dd from e)
theorem ok_many (T : Tx K mg C) (n : Nat) (k_inners : Kn P w K mg base "inners_of" 4 ["field", "turner"] (spF C S.inners_of)) (k_less : Kn P w K mg base "less_inner" 6 ["field", "turner", "one"] (spF C S.less_inner))
    (k_many : Kn P w K mg base "many_ways" (7 + n) ["field", "turner", "known"] (spG C manyD n)) {f : Addr} {fd : FuncData} (F : Fn K "many_ways" st_many f fd) : FnOk P w K mg base CX0 (7 + n + 1) f fd ["field", "turner", "known"] (spG C manyD (n + 1)) := by
  refine F.ok sc_many (fun vs H Q E h => spG_len h) (fun cdv A outer s H vs Q E hr h => ?_)
  have hu := hu_of hr
  refine ⟨_, PSs.nox (pss_cons (ps_if (pt_cmpR op_eq (pe_callB call_len_seq (by rfl) T.f_len bt_len (pa_cons (pv 1) pa_nil)) pe_int (nomark _)) (pss_one (ps_ret pe_int)) pss_nil)
    (pss_cons (ps_set (i := 3) sc_many.nd rfl (by first | exact .inl rfl | exact .inr rfl) (pe_callTy call_tuple_of (by rfl) T.f_tuple bt_tuple (pa_cons (pv 1) pa_nil)))
    (pss_cons (ps_if (pt_cmp (pc_dnotin hu (pv 3) (pv 2))) (pss_one (ps_dput hu (pv 2) (pv 3) (pe_callB (cr_sum rfl) (by rfl) T.f_sum bt_sum (pa_cons (pe_lc (own := [("one", 4)]) rfl sc_many.nd
      (pi_list (pe_kn k_inners (hr.mono (by omega)) rfl (pa_cons (pv 0) (pa_cons (pv 1) pa_nil)))) (blkOk_by (by kernel_rfl)) (fun _ _ _ _ _ => (pg_name (i := 4) sc_many.nd rfl (by first | exact .inl rfl | exact .inr rfl))) (fun _ _ _ _ _ => pts_nil)
      (fun _ _ _ _ _ => (pe_kn k_many (hr.mono (by omega)) rfl (pa_cons (pv 0) (pa_cons (pe_kn k_less (hr.mono (by omega)) rfl (pa_cons (pv 0) (pa_cons (pv 1) (pa_cons (pv 4) pa_nil)))) (pa_cons (pv 2) pa_nil)))))) pa_nil)) rfl)) pss_nil)
    (pss_one (ps_ret (pe_dget hu (pv 2) (pv 3) (fun _ _ => rfl))))))), ?_⟩
  obtain ⟨S0, F, t, fv, tv, d, kvs, dd, rfl, hdom, hSd, hF, ht, hd, inv, hlen, hval, q⟩ := h
  obtain ⟨r, hr1, rfl⟩ := Option.map_eq_some_iff.mp hval
  obtain ⟨ta, rfl, hta⟩ := list_cases ht
  have hta1 := (hid_some hta).2
  have s0 := sim_ft hdom hF ht [some (.ref d), none, none]
  have own0 : ∀ b, sv [] S0 (fun _ => none) b = true → S0 b = true := fun b z => by
    rcases sv_true.mp z with q | ⟨i, q, _⟩
    · exact q
    · exact nomatch q
  -- if len(turner) == 1
  refine (t_test (x_i2 ir_eq (x_len (K := K) (x_varw (i := 1))) x_int)).run S0 _ _ _ H s0 (decide (((t.map G.D.int).length : Int) = 1)) rfl _ fun H1 x1 => ?_
  rw [List.length_map]
  by_cases h1 : t.length = 1
  · rw [if_pos (by simp [h1])]
    have e : r = 1 := by
      rw [S.manyF_eq] at hr1
      unfold S.stepM at hr1
      rw [if_pos h1] at hr1
      exact (Option.some.inj hr1).symm
    subst e
    exact q _ H1 kvs (Exb.of x1) (x1 _ _ hd) (inv.mono (ex_hid x1)) (Nat.le_add_right _ _) (.int 1)
  · rw [if_neg (by simp; omega)]
    -- key = tuple(turner)
    show tSeq _ _ _ _ _
    refine ⟨.ref ta, rfl, ta, t.map V.int, rfl, .inl ⟨.inl (.inl (x1 _ _ hta1)), fun l hl => ?_⟩⟩
    have x2 : Ex H (upd H1 l (.tup (t.map V.int))) := x1.trans (Ex.new hl)
    have hk : (upd H1 l (.tup (t.map V.int))) l = some (.tup ((key t).map kV)) := by rw [key_kV]; exact upd_same
    show tSeq _ _ _ [some fv, some (.ref ta), some (.ref d), some (.ref l), none] (upd H1 l (.tup (t.map V.int)))
    revert x2 hk
    generalize upd H1 l (.tup (t.map V.int)) = H2
    intro x2 hk
    have hd2 := x2 _ _ hd
    have hdom2 : ∀ b, S0 b = true → H2 b ≠ none := fun b z => some_mono x2 (hdom b z)
    have s2 := sim_ft hdom2 (hF.mono (ex_hid x2)) (ht.mono (ex_hid x2)) [some (.ref d), some (.ref l), none]
    refine ⟨.ref l, rfl, .ref d, rfl, d, valV kvs (key t), rfl, DGet.t hd2 hk, _, rfl, ?_⟩
    cases ev : valV kvs (key t) with
    | some v0 =>
      rw [if_neg (by simp)]
      obtain ⟨n', d', h2, h3⟩ := inv t v0 ev
      have e := manyD_same hval h2
      subst e
      refine ⟨.ref d, rfl, .ref l, rfl, d, v0, rfl, ?_, q v0 H2 kvs (Exb.of x2) hd2 (inv.mono (ex_hid x2)) (Nat.le_add_right _ _) (h3.mono (ex_hid x2))⟩
      rw [← ev]
      exact DGet.t hd2 hk
    | none =>
      rw [if_pos (by simp)]
      obtain ⟨as, l0, ea, el, er⟩ := stepM_cases (by rw [← S.manyF_eq]; exact hr1) h1
      obtain ⟨ei, hal⟩ := asOf_cases ea
      obtain ⟨ell, elg⟩ := mapO_at el
      obtain ⟨_, run⟩ := (i_list (K := K) (x_call (g := S.inners_of) (E := E0) (a_cons (x_var (i := 0) (by decide)) (a_cons (x_var (i := 1) (by decide)) a_nil)))).run S0 _ _ _ H2 s2 (as.map .int) (by
        unfold G.iList
        rw [(ev_call (g := S.inners_of) (ev_cons (d := .fld F) rfl (ev_cons (d := S.L t) rfl rfl))).trans ei]
        dsimp only
        rw [if_pos (by rw [List.length_map]; omega)])
      refine dput_lc (run _ fun J H3 x3 good => ?_)
      intro D hD
      obtain ⟨Gd, Y, wk, hG, hY⟩ := good
      rw [List.length_map] at wk
      have dD : d ≠ D := fun z => by
        subst z
        exact nomatch hD.symm.trans (x3 _ _ hd2)
      have lD : l ≠ D := fun z => by
        subst z
        exact nomatch hD.symm.trans (x3 _ _ hk)
      have ld : l ≠ d := fun z => by
        subst z
        exact nomatch hk.symm.trans hd2
      have hS1 : plus D S0 d = true := plus_le d hSd
      have hS2 : plus D S0 D = true := plus_true.mpr (.inr rfl)
      have x23 := x2.trans x3
      refine lc_it wk (fun i H4 => ∃ kvs4, Exb d H3 H4 ∧ H4 d = some (.dT kvs4) ∧ InvG C manyD F (plus D S0) H4 kvs4 ∧ kvs4.length ≤ kvs.length + i * Bn n ∧ H4 D = some (.lst ((l0.take i).map V.int)))
        ⟨kvs, Exb.of (Ex.new hD), (by rw [upd_ne dD]; exact x23 _ _ hd), (inv.mono (ex_plusE (fresh_back x23 hD) (x23.trans (Ex.new hD)))), (by omega), upd_same⟩ ?_ ?_ ?_
      · rintro i H4 _ ⟨kvs4, p1, _⟩
        exact hG H4 (p1.see (sv_true.mpr (.inl hSd)))
      · rintro i x H4 H5 hi ⟨kvs4, p1, p2, p3, p4, p5⟩ y
        have hdom4 : ∀ b, plus D S0 b = true → H4 b ≠ none := fun b z => by
          rcases plus_true.mp z with z | z
          · by_cases k : b = d
            · rw [k, p2]; exact fun z => nomatch z
            · cases k2 : H3 b with
              | none => exact absurd k2 (some_mono x3 (hdom2 b z))
              | some o => rw [p1 b o k k2]; exact fun z => nomatch z
          · rw [z, p5]; exact fun z => nomatch z
        have see4 : Ex (hid S0 H3) (hid (plus D S0) H4) := fun b o e => by
          obtain ⟨e1, e2⟩ := hid_some e
          refine hid_of ?_ (p1 b o (fun z => by rw [z, hSd] at e1; cases e1) e2)
          cases k : plus D S0 b with
          | false => rfl
          | true =>
            rcases plus_true.mp k with z | z
            · rw [e1] at z; cases z
            · rw [z, hD] at e2; cases e2
        have hit : (as.map G.D.int)[i]? = some (.int as[i]) := by
          rw [List.getElem?_map, List.getElem?_eq_getElem hi]
          rfl
        obtain ⟨y1, y2⟩ := hY i (plus D S0) H4 x H5 (.int as[i]) hit hdom4 ((ex_unhid fun b z => sv_true.mpr (.inl z)).trans see4) y
        have y3 := dat_int y2
        subst y3
        have hdom5 : ∀ b, plus D S0 b = true → H5 b ≠ none := fun b z => some_mono y1 (hdom4 b z)
        have see5 : Ex (hid S0 H3) (hid (plus D S0) H5) := see4.trans (ex_hid y1)
        have hF5 := hF.mono ((ex_hid x23).trans see5)
        have ht5 := ht.mono ((ex_hid x23).trans see5)
        have s5 := (sim_ft hdom5 hF5 ht5 [some (.ref d), some (.ref l), none]).set (i := 4) (fun z => nomatch z) (.int as[i])
        obtain ⟨b, eb1, eb2⟩ := elg i hi
        cases eq1 : S.qOf F t as[i] with
        | none => rw [eq1] at eb2; cases eb2
        | some qq =>
          rw [eq1] at eb2
          dsimp only at eb2
          refine ⟨rfl, ?_⟩
          refine yes_go ?_
          refine ⟨fv, rfl, ?_⟩
          refine (x_call (g := S.less_inner) (E := E0) (a_cons (x_var (i := 0) (by decide)) (a_cons (x_var (i := 1) (by decide)) (a_cons (x_var (i := 4) (by decide)) a_nil)))).run (plus D S0) _ _ _ H5 s5 (S.L qq)
            ((ev_call (g := S.less_inner) (ev_cons (d := .fld F) rfl (ev_cons (d := S.L t) rfl (ev_cons (d := .int as[i]) rfl rfl)))).trans (qOf_cases eq1)) _ fun v6 H6 x6 d6 => ?_
          have own1 : ∀ b, sv [] (plus D S0) (fun _ => none) b = true → plus D S0 b = true := fun b z => by
            rcases sv_true.mp z with q | ⟨i, q, _⟩
            · exact q
            · exact nomatch q
          refine ⟨.ref d, rfl, plus D S0, F, qq, fv, v6, d, kvs4, .int b, rfl, fun b z => some_mono x6 (hdom5 b z), hS1, hF5.mono (ex_hid x6), d6.mono (ex_unhid fun b z => sv_true.mpr (.inl z)), x6 _ _ (y1 _ _ p2), p3.mono (ex_hid (y1.trans x6)), ?_, ?_, fun v7 H7 kvs7 e7 h7 i7 l7 d7 => ?_⟩
          · have h3 : i * Bn n + Bn n ≤ 128 * Bn n := by
              rw [← Nat.succ_mul]
              exact Nat.mul_le_mul_right _ (by omega)
            have h4 : Bn (n + 1) = 1 + 128 * Bn n := rfl
            omega
          · unfold manyD
            rw [eb2]
            rfl
          · have y7 := dat_int d7
            subst y7
            have p5' : H7 D = some (.lst ((l0.take i).map V.int)) := e7 _ _ dD.symm (x6 _ _ (y1 _ _ p5))
            refine ⟨_, p5', ?_, kvs7, ?_, ?_, ?_, ?_, ?_⟩
            · rw [List.length_map, List.length_take]
              have : sizeLine = 2 ^ 24 := rfl
              omega
            · intro b o hb e
              rw [upd_ne (ne_of_none e hD)]
              exact e7 _ _ hb (x6 _ _ (y1 _ _ (p1 b o hb e)))
            · rw [upd_ne dD]
              exact h7
            · exact i7.mono (hid_upd hS2)
            · rw [Nat.succ_mul]
              omega
            · rw [upd_same, List.take_succ, eb1, List.map_append]
              rfl
      · rintro H4 ⟨kvs4, p1, p2, p3, p4, p5⟩
        rw [List.take_of_length_le (by omega)] at p5
        have hk4 := p1 _ _ ld (x3 _ _ hk)
        have h3 : as.length * Bn n ≤ 128 * Bn n := Nat.mul_le_mul_right _ hal
        have h4 : Bn (n + 1) = 1 + 128 * Bn n := rfl
        have hle := length_putK kvs4 (key t) (.int l0.sum)
        refine ⟨D, l0, rfl, .inl (.inl p5), .ref d, rfl, .ref l, rfl, d, _, rfl, DPut.t p2 hk4 ?_, ?_⟩
        · have : sizeLine = 2 ^ 24 := rfl
          omega
        have see : Ex (hid S0 H) (hid S0 H4) := fun b o e => by
          obtain ⟨e1, e2⟩ := hid_some e
          exact hid_of e1 (p1 b o (fun z => by rw [z, hSd] at e1; cases e1) (x23 _ _ e2))
        have back : Ex (hid (plus D S0) H4) (hid S0 (upd H4 d (.dT (putK kvs4 (key t) (.int l0.sum))))) := (ex_unhid fun b z => plus_le b z).trans (hid_upd hSd)
        refine ⟨.ref d, rfl, .ref l, rfl, d, .int l0.sum, rfl, ?_, ?_⟩
        · have := DGet.t (k := key t) (upd_same (H := H4) (a := d) (o := .dT (putK kvs4 (key t) (.int l0.sum)))) (by rw [upd_ne ld]; exact hk4)
          rw [valV_put, if_pos rfl] at this
          exact this
        · subst er
          refine q (.int l0.sum) _ _ ?_ upd_same ((p3.mono back).put (n := n + 1) hval (.int _)) (by omega) (.int _)
          intro b o hb e
          rw [upd_ne hb]
          exact p1 b o hb (x23 _ _ e)
end
end GB

set_option autoImplicit false
set_option Elab.async false
set_option linter.all false
set_option maxRecDepth 100000
set_option maxHeartbeats 4000000
/-! ways_of. -/
namespace GB
open PySem L2 ItX
abbrev st_waysof : Stmt := topS 79
theorem sc_waysof : FnScope ["field", "turner", "known", "key", "found", "one", "way"] ["field", "turner", "known"] (defScope st_waysof) := ⟨rfl, rfl, rfl, by decide +kernel, rfl, by decide +kernel, by decide +kernel⟩
theorem stepW_cases {g : List Int → Option (List (List Int))} {t : List Int} {o : Option (List Int)} {q : Int → Option (List Int)} {r : List (List Int)} (e : S.stepW g t o q = some r) (h : ¬ t.length = 1) :
    ∃ as l, o = some as ∧ S.mapO (fun a => match q a with | some q => (match g q with | some ws => some (ws.map fun w => w ++ [a]) | none => none) | none => none) as = some l ∧ r = l.flatten ∧ l.flatten.length ≤ 10000 ∧ ∀ w ∈ l.flatten, w.length ≤ 1000 := by
  unfold S.stepW at e
  rw [if_neg h] at e
  cases o with
  | none => cases e
  | some as =>
    dsimp only at e
    split at e
    · rename_i l z
      split at e
      · rename_i h
        cases e
        exact ⟨as, l, rfl, z, rfl, h.1, h.2⟩
      · cases e
    · cases e
theorem lcD_rows (a : Int) (ρ : G.Env) (h5 : ρ.getD 5 none = some (.int a)) (h6 : 6 < ρ.length) : ∀ ws : List (List Int), (∀ w ∈ ws, w.length ≤ 1000) → G.lcD (G.gName 6) G.tYes (G.fCat (G.fVar 6) (G.fLst (G.aCons (G.fVar 5) G.aNil))) ρ (ws.map S.L) = some ((ws.map fun w => w ++ [a]).map S.L)
  | [], _ => rfl
  | w :: r, h => by
    have ih := lcD_rows a ρ h5 h6 r fun x hx => h x (List.mem_cons_of_mem _ hx)
    rw [List.map_cons, List.map_cons, List.map_cons]
    have e6 : (ρ.set 6 (some (S.L w))).getD 6 none = some (S.L w) := by rw [getD_set, if_pos ⟨rfl, h6⟩]
    have e5 : (ρ.set 6 (some (S.L w))).getD 5 none = some (.int a) := by rw [getD_set, if_neg (fun z => nomatch z.1), h5]
    have ev : G.fCat (G.fVar 6) (G.fLst (G.aCons (G.fVar 5) G.aNil)) (ρ.set 6 (some (S.L w))) = some (S.L (w ++ [a])) := by
      unfold G.fCat G.fLst G.aCons G.aNil G.fVar
      rw [e6, e5]
      unfold S.L
      dsimp only
      have := h w List.mem_cons_self
      rw [if_pos (by simp; omega), List.map_append]
      rfl
    unfold G.lcD
    show (match (G.fCat (G.fVar 6) (G.fLst (G.aCons (G.fVar 5) G.aNil))) (ρ.set 6 (some (S.L w))), G.lcD _ _ _ ρ (r.map S.L) with | some y, some l => some (y :: l) | _, _ => none) = _
    rw [ev, ih]
theorem LL_cases {C : Addr} {H : Hp} {v : V} {r : List (List Int)} (h : Dat C H v (S.LL r)) : ∃ a xs, v = .ref a ∧ H a = some (.lst xs) ∧ Dats C H xs (r.map S.L) := by
  unfold S.LL at h
  cases h with
  | lst h1 h2 => exact ⟨_, _, rfl, h1, h2⟩
theorem forbm_lc {K : PySem.W.Frag} {wi : TI} {g : TG} {tt : TT} {te : TE} {vs : List Nat} {i : Nat} {D : Ends} {σ : L2.St} {H : Hp} (h : ∃ v, σ[i]? = some (some v) ∧ tyV K "list" v H ∧ tLc wi g tt te vs σ H fun p H1 => rExtend v [p] H1 fun _ H2 => D.nx σ H2) :
    tDrop (tBM K "list" rExtend (tVar i) (tCons (tLc wi g tt te vs) tNil)) D σ H := h
theorem forq_go {wi : TI} {g : TG} {tb tz : TS} {D : Ends} {σ : L2.St} {H : Hp} (h : wi σ H fun J H1 => ∃ W : Nat → Nat → L2.St → Hp → Prop, (∃ m, W 0 m σ H1) ∧ ∀ i m σ H, W i m σ H →
  (J.stop i H ∧ ({ D with nx := tz D } : Ends).nx σ H) ∨ (J.go i H ∧ ∃ N : L2.St → Hp → Prop, (∀ σ' H', N σ' H' → ∃ m', m' < m ∧ W (i + 1) m' σ' H') ∧ ∀ x H', J.yld i H x H' → g x σ H' fun σ2 H2 => tb { ({ D with nx := tz D } : Ends) with nx := N, ct := N, bk := ({ D with nx := tz D } : Ends).nx } σ2 H2)) :
    tSeq (tFor wi g tb) tz D σ H := h
section
variable {P : Program} {w : World} {K : PySem.W.Frag} {mg : Str → Option Value} {base : Heap} {C : Addr}
theorem ok_waysof0 {f : Addr} {fd : FuncData} (F : Fn K "ways_of" st_waysof f fd) : FnOk P w K mg base CX0 7 f fd ["field", "turner", "known"] (spG C waysD 0) := by
  refine F.ok sc_waysof (fun vs H Q E h => spG_len h) (fun cdv A outer s H vs Q E hr h => ?_)
  obtain ⟨S0, F, t, fv, tv, d, kvs, dd, rfl, _, _, _, _, _, _, _, e, _⟩ := h
  exact nomatch (show none = some dd from e)
theorem ok_waysof (T : Tx K mg C) (n : Nat) (k_inners : Kn P w K mg base "inners_of" 4 ["field", "turner"] (spF C S.inners_of)) (k_less : Kn P w K mg base "less_inner" 6 ["field", "turner", "one"] (spF C S.less_inner))
    (k_ways : Kn P w K mg base "ways_of" (7 + n) ["field", "turner", "known"] (spG C waysD n)) {f : Addr} {fd : FuncData} (F : Fn K "ways_of" st_waysof f fd) : FnOk P w K mg base CX0 (7 + n + 1) f fd ["field", "turner", "known"] (spG C waysD (n + 1)) := by
  refine F.ok sc_waysof (fun vs H Q E h => spG_len h) (fun cdv A outer s H vs Q E hr h => ?_)
  have hu := hu_of hr
  refine ⟨_, PSs.nox (pss_cons (ps_if (pt_cmpR op_eq (pe_callB call_len_seq (by rfl) T.f_len bt_len (pa_cons (pv 1) pa_nil)) pe_int (nomark _)) (pss_one (ps_ret (pe_lst (pa_cons (pe_lst pa_nil) pa_nil)))) pss_nil)
    (pss_cons (ps_set (i := 3) sc_waysof.nd rfl (by first | exact .inl rfl | exact .inr rfl) (pe_callTy call_tuple_of (by rfl) T.f_tuple bt_tuple (pa_cons (pv 1) pa_nil)))
    (pss_cons (ps_if (pt_cmp (pc_dnotin hu (pv 3) (pv 2)))
      (pss_cons (ps_set (i := 4) sc_waysof.nd rfl (by first | exact .inl rfl | exact .inr rfl) (pe_lst pa_nil))
      (pss_cons (ps_for PassesOwn.never rfl (pi_list (pe_kn k_inners (hr.mono (by omega)) rfl (pa_cons (pv 0) (pa_cons (pv 1) pa_nil)))) (pg_name (i := 5) sc_waysof.nd rfl (by first | exact .inl rfl | exact .inr rfl))
        (pss_one (ps_expr (pe_bm PySem.F.plainAttrs_list PySem.F.slot_list_extend PySem.F.type_list_extend mt_extend (pv 4) (pa_cons (pe_lc (own := [("way", 6)]) rfl sc_waysof.nd
          (pi_list (pe_kn k_ways (hr.mono (by omega)) rfl (pa_cons (pv 0) (pa_cons (pe_kn k_less (hr.mono (by omega)) rfl (pa_cons (pv 0) (pa_cons (pv 1) (pa_cons (pv 5) pa_nil)))) (pa_cons (pv 2) pa_nil)))))
          (blkOk_by (by kernel_rfl)) (fun _ _ _ _ _ => (pg_name (i := 6) sc_waysof.nd rfl (by first | exact .inl rfl | exact .inr rfl))) (fun _ _ _ _ _ => pts_nil)
          (fun _ _ _ _ _ => (pe_op op_cat (pv 6) (pe_lst (pa_cons (pv 5) pa_nil))))) pa_nil)))))
      (pss_one (ps_dput hu (pv 2) (pv 3) (pv 4) rfl)))) pss_nil)
    (pss_one (ps_ret (pe_dget hu (pv 2) (pv 3) (fun _ _ => rfl))))))), ?_⟩
  obtain ⟨S0, F, t, fv, tv, d, kvs, dd, rfl, hdom, hSd, hF, ht, hd, inv, hlen, hval, q⟩ := h
  obtain ⟨r, hr1, rfl⟩ := Option.map_eq_some_iff.mp hval
  obtain ⟨ta, rfl, hta⟩ := list_cases ht
  have hta1 := (hid_some hta).2
  have s0 := sim_ft hdom hF ht [some (.ref d), none, none, none, none]
  -- if len(turner) == 1
  refine (t_test (x_i2 ir_eq (x_len (K := K) (x_varw (i := 1))) x_int)).run S0 _ _ _ H s0 (decide (((t.map G.D.int).length : Int) = 1)) rfl _ fun H1 x1 => ?_
  rw [List.length_map]
  by_cases h1 : t.length = 1
  · rw [if_pos (by simp [h1])]
    have e : r = [[]] := by
      rw [S.waysF_eq] at hr1
      unfold S.stepW at hr1
      rw [if_pos h1] at hr1
      exact (Option.some.inj hr1).symm
    subst e
    refine (x_weak (x_of_f (x_lst (a_cons (x_of_f (x_lst a_nil (Few.ok .nil))) a_nil) (Few.ok (.cons .nil))))).run S0 _ _ _ H1 (s0.mono x1) (S.LL [[]]) rfl _ fun v H2 x2 d2 => ?_
    have x := x1.trans x2
    exact q v H2 kvs (Exb.of x) (x _ _ hd) (inv.mono (ex_hid x)) (Nat.le_add_right _ _) d2
  · rw [if_neg (by simp; omega)]
    -- key = tuple(turner)
    show tSeq _ _ _ _ _
    refine ⟨.ref ta, rfl, ta, t.map V.int, rfl, .inl ⟨.inl (.inl (x1 _ _ hta1)), fun l hl => ?_⟩⟩
    have x2 : Ex H (upd H1 l (.tup (t.map V.int))) := x1.trans (Ex.new hl)
    have hk : (upd H1 l (.tup (t.map V.int))) l = some (.tup ((key t).map kV)) := by rw [key_kV]; exact upd_same
    show tSeq _ _ _ [some fv, some (.ref ta), some (.ref d), some (.ref l), none, none, none] (upd H1 l (.tup (t.map V.int)))
    revert x2 hk
    generalize upd H1 l (.tup (t.map V.int)) = H2
    intro x2 hk
    have hd2 := x2 _ _ hd
    have hdom2 : ∀ b, S0 b = true → H2 b ≠ none := fun b z => some_mono x2 (hdom b z)
    refine ⟨.ref l, rfl, .ref d, rfl, d, valV kvs (key t), rfl, DGet.t hd2 hk, _, rfl, ?_⟩
    cases ev : valV kvs (key t) with
    | some v0 =>
      rw [if_neg (by simp)]
      obtain ⟨n', d', h2, h3⟩ := inv t v0 ev
      have e := waysD_same hval h2
      subst e
      refine ⟨.ref d, rfl, .ref l, rfl, d, v0, rfl, ?_, q v0 H2 kvs (Exb.of x2) hd2 (inv.mono (ex_hid x2)) (Nat.le_add_right _ _) (h3.mono (ex_hid x2))⟩
      rw [← ev]
      exact DGet.t hd2 hk
    | none =>
      rw [if_pos (by simp)]
      obtain ⟨as, l0, ea, el, er, ez, ew⟩ := stepW_cases (by rw [← S.waysF_eq]; exact hr1) h1
      obtain ⟨ei, hal⟩ := asOf_cases ea
      obtain ⟨ell, elg⟩ := mapO_at el
      -- found = []
      refine ⟨by decide, fun fo hfo => ?_⟩
      show tSeq _ _ _ [some fv, some (.ref ta), some (.ref d), some (.ref l), some (.ref fo), none, none] (upd H2 fo (.lst []))
      have dfo : d ≠ fo := fun z => by
        subst z
        exact nomatch hfo.symm.trans hd2
      have lfo : l ≠ fo := fun z => by
        subst z
        exact nomatch hfo.symm.trans hk
      have ld : l ≠ d := fun z => by
        subst z
        exact nomatch hk.symm.trans hd2
      have hS1 : plus fo S0 d = true := plus_le d hSd
      have hS2 : plus fo S0 fo = true := plus_true.mpr (.inr rfl)
      have xf : Ex H2 (upd H2 fo (.lst [])) := Ex.new hfo
      have hdomf : ∀ b, plus fo S0 b = true → (upd H2 fo (.lst [])) b ≠ none := fun b z => by
        rcases plus_true.mp z with z | z
        · exact some_mono xf (hdom2 b z)
        · rw [z, upd_same]; exact fun z => nomatch z
      have seef : Ex (hid S0 H) (hid (plus fo S0) (upd H2 fo (.lst []))) := ex_plusE (fresh_back x2 hfo) (x2.trans xf)
      have s2 := sim_ft hdomf (hF.mono seef) (ht.mono seef) [some (.ref d), some (.ref l), some (.ref fo), none, none]
      obtain ⟨_, run⟩ := (i_list (K := K) (x_call (g := S.inners_of) (E := E0) (a_cons (x_var (i := 0) (by decide)) (a_cons (x_var (i := 1) (by decide)) a_nil)))).run (plus fo S0) _ _ _ _ s2 (as.map .int) (by
        unfold G.iList
        rw [(ev_call (g := S.inners_of) (ev_cons (d := .fld F) rfl (ev_cons (d := S.L t) rfl rfl))).trans ei]
        dsimp only
        rw [if_pos (by rw [List.length_map]; omega)])
      refine forq_go (run _ fun J H3 x3 good => ?_)
      obtain ⟨Gd, Y, wk, hG, hY⟩ := good
      rw [List.length_map] at wk
      have own1 : ∀ b, sv [] (plus fo S0) (fun _ => none) b = true → plus fo S0 b = true := fun b z => by
        rcases sv_true.mp z with q | ⟨i, q, _⟩
        · exact q
        · exact nomatch q
      have own2 : ∀ b, plus fo S0 b = true → sv [] (plus fo S0) (fun _ => none) b = true := fun b z => sv_true.mpr (.inl z)
      have hd3 : H3 d = some (.dT kvs) := x3 _ _ (xf _ _ hd2)
      have hk3 := x3 _ _ (xf _ _ hk)
      have hfo3 : H3 fo = some (.lst []) := x3 _ _ upd_same
      have see3 : Ex (hid S0 H) (hid (plus fo S0) H3) := seef.trans (ex_hid x3)
      refine for_it wk (fun i σ4 H4 => ∃ kvs4 o5 xs, σ4 = [some fv, some (.ref ta), some (.ref d), some (.ref l), some (.ref fo), o5, none] ∧ (∀ b o, b ≠ d → b ≠ fo → H3 b = some o → H4 b = some o) ∧ H4 d = some (.dT kvs4) ∧ InvG C waysD F (plus fo S0) H4 kvs4 ∧
          kvs4.length ≤ kvs.length + i * Bn n ∧ H4 fo = some (.lst xs) ∧ Dats C (hid (plus fo S0) H4) xs ((l0.take i).flatten.map S.L))
        ⟨kvs, none, [], rfl, fun _ _ _ _ e => e, hd3, inv.mono see3, by omega, hfo3, .nil⟩ ?_ ?_ ?_
      · rintro i σ4 H4 _ ⟨kvs4, o5, xs, rfl, p1, _⟩
        refine hG H4 fun b o e => ?_
        obtain ⟨e1, e2⟩ := hid_some e
        exact p1 b o (fun z => by rw [z, own2 d hS1] at e1; cases e1) (fun z => by rw [z, own2 fo hS2] at e1; cases e1) e2
      · rintro i x σ4 H4 H5 hi ⟨kvs4, o5, xs, rfl, p1, p2, p3, p4, p5, p6⟩ y
        have hdom4 : ∀ b, plus fo S0 b = true → H4 b ≠ none := fun b z => by
          by_cases k1 : b = d
          · rw [k1, p2]; exact fun z => nomatch z
          · by_cases k2 : b = fo
            · rw [k2, p5]; exact fun z => nomatch z
            · cases k3 : H3 b with
              | none => exact absurd k3 (some_mono x3 (hdomf b z))
              | some o => rw [p1 b o k1 k2 k3]; exact fun z => nomatch z
        have see4 : Ex (hid (plus fo S0) H3) (hid (plus fo S0) H4) := fun b o e => by
          obtain ⟨e1, e2⟩ := hid_some e
          exact hid_of e1 (p1 b o (fun z => by rw [z, hS1] at e1; cases e1) (fun z => by rw [z, hS2] at e1; cases e1) e2)
        have hit : (as.map G.D.int)[i]? = some (.int as[i]) := by
          rw [List.getElem?_map, List.getElem?_eq_getElem hi]
          rfl
        obtain ⟨y1, y2⟩ := hY i (plus fo S0) H4 x H5 (.int as[i]) hit hdom4 ((ex_unhid own2).trans see4) y
        have y3 := dat_int y2
        subst y3
        have hdom5 : ∀ b, plus fo S0 b = true → H5 b ≠ none := fun b z => some_mono y1 (hdom4 b z)
        have see5 : Ex (hid S0 H) (hid (plus fo S0) H5) := (see3.trans see4).trans (ex_hid y1)
        have hF5 := hF.mono see5
        have ht5 := ht.mono see5
        have s5 := (sim_ft hdom5 hF5 ht5 [some (.ref d), some (.ref l), some (.ref fo), o5, none]).set (i := 5) (fun z => nomatch z) (.int as[i])
        obtain ⟨b, eb1, eb2⟩ := elg i hi
        cases eq1 : S.qOf F t as[i] with
        | none => rw [eq1] at eb2; cases eb2
        | some qq =>
          rw [eq1] at eb2
          dsimp only at eb2
          cases eq2 : S.waysF n F qq with
          | none => rw [eq2] at eb2; cases eb2
          | some ws =>
            rw [eq2] at eb2
            dsimp only at eb2
            have eb3 := Option.some.inj eb2
            have hin : ∀ w ∈ b, w ∈ l0.flatten := fun w hw => List.mem_flatten.mpr ⟨b, List.mem_of_getElem? eb1, hw⟩
            have hws : ∀ w ∈ ws, w.length ≤ 1000 := fun w hw => by
              have := ew (w ++ [as[i]]) (hin _ (by rw [← eb3]; exact List.mem_map.mpr ⟨w, hw, rfl⟩))
              rw [List.length_append] at this
              omega
            have hfl : ((l0.take (i + 1)).flatten).length ≤ 10000 := by
              have e1 : (l0.take (i + 1)).flatten.length ≤ l0.flatten.length := by
                have := congrArg (fun l => (List.flatten l).length) (List.take_append_drop (i + 1) l0)
                simp only [List.flatten_append, List.length_append] at this
                omega
              omega
            have etk : (l0.take (i + 1)).flatten = (l0.take i).flatten ++ b := by
              rw [List.take_succ, eb1, List.flatten_append]
              simp
            have hfo5 : H5 fo = some (.lst xs) := y1 _ _ p5
            refine forbm_lc ⟨.ref fo, rfl, .inl ⟨rfl, xs, .inl (.inl hfo5)⟩, ?_⟩
            refine ⟨fv, rfl, ?_⟩
            refine (x_call (g := S.less_inner) (E := E0) (a_cons (x_var (i := 0) (by decide)) (a_cons (x_var (i := 1) (by decide)) (a_cons (x_var (i := 5) (by decide)) a_nil)))).run (plus fo S0) _ _ _ H5 s5 (S.L qq)
              ((ev_call (g := S.less_inner) (ev_cons (d := .fld F) rfl (ev_cons (d := S.L t) rfl (ev_cons (d := .int as[i]) rfl rfl)))).trans (qOf_cases eq1)) _ fun v6 H6 x6 d6 => ?_
            refine ⟨.ref d, rfl, plus fo S0, F, qq, fv, v6, d, kvs4, S.LL ws, rfl, fun b z => some_mono x6 (hdom5 b z), hS1, hF5.mono (ex_hid x6), d6.mono (ex_unhid own2), x6 _ _ (y1 _ _ p2), p3.mono (ex_hid (y1.trans x6)), ?_, ?_, fun v7 H7 kvs7 e7 h7 i7 l7 d7 => ?_⟩
            · have h3 : i * Bn n + Bn n ≤ 128 * Bn n := by
                rw [← Nat.succ_mul]
                exact Nat.mul_le_mul_right _ (by omega)
              have h4 : Bn (n + 1) = 1 + 128 * Bn n := rfl
              omega
            · unfold waysD
              rw [eq2]
              rfl
            · obtain ⟨bb, zs, rfl, hb, hz⟩ := LL_cases d7
              refine ⟨bb, rfl, ⟨zs, .inl (.inl (hid_some hb).2)⟩, ?_⟩
              have see57 : Ex (hid (plus fo S0) H5) (hid (plus fo S0) H7) := (ex_hid x6).trans (e7.hid hS1 fun b z => z)
              have hdom7 : ∀ b, plus fo S0 b = true → H7 b ≠ none := fun b z => by
                by_cases k1 : b = d
                · rw [k1, h7]; exact fun z => nomatch z
                · cases k3 : H6 b with
                  | none => exact absurd k3 (some_mono x6 (hdom5 b z))
                  | some o => rw [e7 b o k1 k3]; exact fun z => nomatch z
              have s7 := (sim_ft hdom7 (hF5.mono see57) (ht5.mono see57) [some (.ref d), some (.ref l), some (.ref fo), o5, none]).set (i := 5) (fun z => nomatch z) (.int as[i])
              have hb' := ex_unhid (H := H7) own1 _ _ hb
              have hz' := hz.mono (ex_unhid own1)
              have good : Good C (sv [] (plus fo S0) (fun _ => none)) H7 (Itl K bb) (ws.map S.L) := by
                refine ⟨fun H => SqL K H bb zs, YAt zs, by rw [← hz.length]; exact walk_list, fun H2 x2 => .inl (.inl (x2 _ _ hb')), fun i S2 H2 x H3 d hd _ x2 y => ?_⟩
                obtain ⟨rfl, y⟩ := y
                obtain ⟨v, h1, h2⟩ := hz'.get hd
                rw [h1] at y
                cases y
                exact ⟨Ex.refl _, h2.mono x2⟩
              have hwl : (ws.map S.L).length ≤ 1000000 := by
                rw [List.length_map]
                have e1 : ws.length = b.length := by rw [← eb3, List.length_map]
                rw [etk, List.length_append] at hfl
                omega
              refine lc_go (Q := fun x H1 => rExtend (.ref fo) [x] H1 _) (C := C) (W := []) (us := [6]) (vs := [6]) (g_name (i := 6) (by decide)) (fun i z => z) t_yes (x_of_f (x_cat (x_var (i := 6) (by decide)) (x_of_f (x_lst (a_cons (x_var (i := 5) (by decide)) a_nil) (Few.ok (.cons .nil)))))) s7 (Ex.refl H7) hwl good
                (lcD_rows as[i] _ rfl (by show 6 < 7; decide) ws hws) fun p xs2 H8 hp x8 hp8 d8 => ?_
              have hfo8 : H8 fo = some (.lst xs) := x8 _ _ (e7 _ _ dfo.symm (x6 _ _ hfo5))
              have see48 : Ex (hid (plus fo S0) H4) (hid (plus fo S0) H8) := ((ex_hid y1).trans see57).trans (ex_hid x8)
              have d8' : Dats C (hid (plus fo S0) H8) xs2 (b.map S.L) := by
                rw [← eb3]
                exact d8.mono (ex_unhid fun b z => plus_true.mpr (.inl (own2 b z)))
              have dall := (p6.mono see48).append d8'
              rw [← List.map_append, ← etk] at dall
              refine ⟨fo, p, xs, xs2, rfl, rfl, hfo8, hp8, ?_, kvs7, _, xs ++ xs2, rfl, ?_, ?_, ?_, ?_, upd_same, dall.mono (hid_upd hS2)⟩
              · have := dall.length
                rw [List.length_append, List.length_map] at this
                have : sizeLine = 2 ^ 24 := rfl
                omega
              · intro c o h1 h2 e
                rw [upd_ne h2]
                exact x8 _ _ (e7 _ _ h1 (x6 _ _ (y1 _ _ (p1 c o h1 h2 e))))
              · rw [upd_ne dfo]
                exact x8 _ _ h7
              · exact i7.mono ((ex_hid x8).trans (hid_upd hS2))
              · rw [Nat.succ_mul]
                omega
      · rintro σ4 H4 ⟨kvs4, o5, xs, rfl, p1, p2, p3, p4, p5, p6⟩
        rw [List.take_of_length_le (by omega), ← er] at p6
        have hk4 := p1 _ _ ld lfo hk3
        have h3 : as.length * Bn n ≤ 128 * Bn n := Nat.mul_le_mul_right _ hal
        have h4 : Bn (n + 1) = 1 + 128 * Bn n := rfl
        have hle := length_putK kvs4 (key t) (.ref fo)
        refine ⟨.ref fo, rfl, .ref d, rfl, .ref l, rfl, d, _, rfl, DPut.t p2 hk4 ?_, ?_⟩
        · have : sizeLine = 2 ^ 24 := rfl
          omega
        have back : Ex (hid (plus fo S0) H4) (hid S0 (upd H4 d (.dT (putK kvs4 (key t) (.ref fo))))) := (ex_unhid fun b z => plus_le b z).trans (hid_upd hSd)
        have nfo : S0 fo = false := by
          cases k : S0 fo with
          | false => rfl
          | true => exact absurd hfo (hdom2 fo k)
        have dres : Dat C (hid S0 (upd H4 d (.dT (putK kvs4 (key t) (.ref fo))))) (.ref fo) (S.LL r) := .lst (hid_of nfo (by rw [upd_ne dfo.symm]; exact p5)) (p6.mono back)
        refine ⟨.ref d, rfl, .ref l, rfl, d, .ref fo, rfl, ?_, ?_⟩
        · have := DGet.t (k := key t) (upd_same (H := H4) (a := d) (o := .dT (putK kvs4 (key t) (.ref fo)))) (by rw [upd_ne ld]; exact hk4)
          rw [valV_put, if_pos rfl] at this
          exact this
        · refine q (.ref fo) _ _ ?_ upd_same ((p3.mono back).put (n := n + 1) hval dres) (by omega) dres
          intro b o hb e
          rw [upd_ne hb]
          have e2 := x2 _ _ e
          exact p1 b o hb (ne_of_none e2 hfo) (x3 _ _ (xf _ _ e2))
end
end GB

set_option autoImplicit false
set_option Elab.async false
set_option linter.all false
set_option maxRecDepth 100000
set_option maxHeartbeats 4000000
/-! sorted rows of ints; ways. -/
namespace GB
open PySem L2 ItX
def leRow (x y : V × List Int) : Bool := decide (x.2 ≤ y.2)
def rSortRows (K : PySem.W.Frag) : List V → Hp → VK → Prop := fun vs H Q => ∃ (a : Addr) (xs : List (V × List Int)), vs = [.ref a] ∧ SqL K H a (xs.map (·.1)) ∧ (∀ x ∈ xs, Dp K H x.1 (.list (x.2.map .int))) ∧
  ∀ p, H p = none → Q (.ref p) (upd H p (.lst ((xs.mergeSort leRow).map (·.1))))
theorem each_vals {R : Value → V × List Int → Prop} : ∀ {xs : List (V × List Int)} {its : List Value}, Vals (xs.map (·.1)) its → (∀ x ∈ xs, ∀ u, RelV x.1 u → R u x) → PySem.W.EachIs R its xs
  | [], _, r, _ => by
    rw [List.map_nil] at r
    cases r
    exact .nil
  | x :: xs, _, r, h => by
    rw [List.map_cons] at r
    cases r with
    | cons h1 h2 => exact .cons (h x List.mem_cons_self _ h1) (each_vals h2 fun y hy => h y (List.mem_cons_of_mem _ hy))
theorem vals_each : ∀ {xs : List (V × List Int)} {its : List Value}, PySem.W.EachIs (fun u x => RelV x.1 u) its xs → Vals (xs.map (·.1)) its
  | [], _, r => by
    cases r
    exact .nil
  | x :: xs, _, r => by
    cases r with
    | cons h1 h2 => exact .cons h1 (vals_each h2)
theorem cr_sortRows {X : Cx} (hu : X.A.units + 64 < cLine) : CallR X (.builtin "sorted") (rSortRows X.K) := by
  intro pins s σ H vs us Q I r h
  obtain ⟨a, xs, rfl, hs, hd, q⟩ := h
  obtain ⟨its, rv, hl, hz⟩ := I.list hs
  rw [Vals.ref1 r]
  refine PySem.W.sorted_data (enc := fun b => PyData.list (b.2.map .int)) (R := fun u x => RelV x.1 u) (bs := xs) hl.isList (each_vals rv fun x _ u h => h) (each_vals rv fun x hx u h => Dp.reads I _ _ _ (hd x hx) h) (PySem.W.AllAlike.of fun b b' => ?_)
    (PySem.W.Sortable.others fun b => ⟨fun z => (nomatch z), fun xs z => (nomatch z)⟩) (by rw [List.length_map] at hz; exact hz) (fun b hb => ?_) fun out h1 h2 => ?_
  · simp [PySem.W.alike, PySem.W.alike_ints]
  · rw [PyData.depth, (lay_ints _).2]
    omega
  · rw [PySem.W.dataLe_rows] at h2
    obtain ⟨ep, he'⟩ := PyProof.Rows.sortedAll_at s.heap its out.toArray
    have hlen : ((xs.mergeSort leRow).map (·.1)).length ≤ sizeLine := by
      rw [List.length_map, List.length_mergeSort]
      rw [List.length_map] at hz
      exact hz
    exact ⟨.ref _, upd H (s.heap.objs.size + 1) (.lst ((xs.mergeSort leRow).map (·.1))), I.laid (t' := s.toks) (fun _ _ => PyProof.Rows.sortedAll_old) (Nat.le_succ _) ⟨hlen, out, ep, vals_each h2, he'⟩, rfl, q _ (I.hok.fresh (Nat.le_succ _))⟩
end GB

set_option autoImplicit false
set_option Elab.async false
set_option linter.all false
set_option maxRecDepth 100000
set_option maxHeartbeats 4000000
/-! ways. -/
namespace GB
open PySem L2 ItX
theorem ways_cases {l : List G.D} {d : G.D} (e : S.ways l = some d) : ∃ F t0 t w m ws, l = [.fld F, t0] ∧ S.want_standing [.fld F, t0] = some (S.L t) ∧ S.want_at_most [.txt, .int 4, .int ((t.length : Int) - 1)] = some w ∧ S.manyF 4 F t = some m ∧ S.waysF 4 F t = some ws ∧ m ≤ 400 ∧ ws.length ≤ 400 ∧ (∀ r ∈ ws, r.length ≤ 60) ∧ d = S.LL (S.sortRows ws) := by
  unfold S.ways at e
  split at e
  · rename_i F t0
    split at e
    · rename_i l z
      split at e
      · rename_i t z1
        split at e
        · rename_i w m ws z2 z3 z4
          split at e
          · rename_i h
            cases e
            refine ⟨F, t0, t, w, m, ws, rfl, ?_, z2, z3, z4, h.1, h.2.1, h.2.2, rfl⟩
            rw [z, ints_back z1]
            rfl
          · cases e
        · cases e
      · cases e
    · cases e
  · cases e
theorem InvG.nil {C : Addr} {val : Val} {F : G.Fld} {S : Addr → Bool} {H : Hp} : InvG C val F S H [] := fun t v h => nomatch (show none = some v from h)
theorem rows_dat {C : Addr} {K : PySem.W.Frag} {H : Hp} : ∀ {xs : List V} {ws : List (List Int)}, Dats C H xs (ws.map S.L) → (xs.zip ws).map (·.1) = xs ∧ (xs.zip ws).map (·.2) = ws ∧ ∀ x ∈ xs.zip ws, Dat C H x.1 (S.L x.2)
  | _, [], h => by
    cases h
    exact ⟨rfl, rfl, fun x hx => absurd hx (by simp)⟩
  | _, w :: ws, h => by
    rw [List.map_cons] at h
    cases h with
    | cons h1 h2 =>
      obtain ⟨a, b, c⟩ := rows_dat (K := K) h2
      refine ⟨by rw [List.zip_cons_cons, List.map_cons, a], by rw [List.zip_cons_cons, List.map_cons, b], fun x hx => ?_⟩
      rw [List.zip_cons_cons] at hx
      rcases List.mem_cons.mp hx with e | e
      · rw [e]; exact h1
      · exact c x e
theorem dats_of {C : Addr} {H : Hp} : ∀ xs : List (V × List Int), (∀ x ∈ xs, Dat C H x.1 (S.L x.2)) → Dats C H (xs.map (·.1)) ((xs.map (·.2)).map S.L)
  | [], _ => .nil
  | x :: r, h => .cons (h x List.mem_cons_self) (dats_of r fun y hy => h y (List.mem_cons_of_mem _ hy))
theorem dat_dp {C : Addr} {K : PySem.W.Frag} {Z : Addr → Bool} {H : Hp} {v : V} {w : List Int} (h : Dat C (hid Z H) v (S.L w)) : Dp K H v (.list (w.map .int)) := by
  obtain ⟨a, rfl, ha⟩ := list_cases h
  exact .lst (.inl (.inl (hid_some ha).2)) (dpa_ints w)
abbrev st_ways : Stmt := topS 82
theorem sc_ways : FnScope ["field", "turner", "told"] ["field", "turner"] (defScope st_ways) := ⟨rfl, rfl, rfl, by decide +kernel, rfl, by decide +kernel, by decide +kernel⟩
section
variable {P : Program} {w : World} {K : PySem.W.Frag} {mg : Str → Option Value} {base : Heap} {C : Addr}
theorem ok_ways (T : Tx K mg C) (k_standing : Kn P w K mg base "want_standing" 6 ["field", "value"] (spF C S.want_standing)) (k_most : Kn P w K mg base "want_at_most" 1 ["what", "limit", "number"] (spF C S.want_at_most))
    (k_many : Kn P w K mg base "many_ways" 11 ["field", "turner", "known"] (spG C manyD 4)) (k_ways : Kn P w K mg base "ways_of" 11 ["field", "turner", "known"] (spG C waysD 4)) {f : Addr} {fd : FuncData} (F : Fn K "ways" st_ways f fd) :
    FnOk P w K mg base CX0 12 f fd ["field", "turner"] (spF C S.ways) := by
  refine F.ok sc_ways (fun vs H Q E h => ?_) (fun cdv A outer s H vs Q E hr h => ?_)
  · obtain ⟨S0, ds, d, hs, hd, e, q⟩ := h
    obtain ⟨F, t0, t, w, m, ws, rfl, _⟩ := ways_cases e
    exact hd.length
  · have hu := hr.units
    refine ⟨_, PSs.nox (pss_cons (ps_set (i := 2) sc_ways.nd rfl (by first | exact .inl rfl | exact .inr rfl) (pe_kn k_standing (hr.mono (by decide)) rfl (pa_cons (pv 0) (pa_cons (pv 1) pa_nil))))
      (pss_cons (ps_expr (pe_kn k_most (hr.mono (by decide)) rfl (pa_cons pe_str (pa_cons (pe_gint rfl T.c_MOST_DEGREE_ways) (pa_cons (pe_op op_sub (pe_callB call_len_seq (by rfl) T.f_len bt_len (pa_cons (pv 2) pa_nil)) pe_int) pa_nil)))))
      (pss_cons (ps_if (pt_cmpR op_gt (pe_kn k_many (hr.mono (by decide)) rfl (pa_cons (pv 0) (pa_cons (pv 2) (pa_cons pe_dnewT pa_nil)))) (pe_gint rfl T.c_MOST_WAYS) (nomark _)) (pss_one ps_never) pss_nil)
      (pss_one (ps_ret (pe_callB (cr_sortRows hu) (by rfl) T.f_sorted bt_sorted (pa_cons (pe_kn k_ways (hr.mono (by decide)) rfl (pa_cons (pv 0) (pa_cons (pv 2) (pa_cons pe_dnewT pa_nil)))) pa_nil))))))), ?_⟩
    obtain ⟨S0, ds, d, hs, hd, e, q⟩ := h
    obtain ⟨F, t0, t, w, m, ws, rfl, e1, e2, e3, e4, h1, h2, h3, rfl⟩ := ways_cases e
    have s := start_sim (W := []) (N := ["field", "turner", "told"]) (ns := 1) hs hd (fun i hi => nomatch hi) rfl
    cases hd with
    | @cons fv vs2 _ _ hF hd2 =>
      cases hd2 with
      | @cons tv vs3 _ _ ht hn =>
        cases hn
        have own1 : ∀ b, S0 b = true → sv [] S0 (fun _ => none) b = true := fun b z => sv_true.mpr (.inl z)
        refine (x_call (g := S.want_standing) (E := E0) (a_cons (x_var (i := 0) (by decide)) (a_cons (x_var (i := 1) (by decide)) a_nil))).run S0 _ _ _ H s (S.L t) ((ev_call (g := S.want_standing) (ev_cons (d := .fld F) rfl (ev_cons (d := t0) rfl rfl))).trans e1) _ fun v1 H1 x1 d1 => ?_
        have s1 := (s.mono x1).set (i := 2) (fun z => nomatch z) d1
        have vn : G.fI2 G.gSub (G.fB1 G.bLen (G.fVar 2)) (G.fC (.int 1)) (([G.D.fld F, t0].map some ++ List.replicate 1 none).set 2 (some (S.L t))) = some (.int ((t.length : Int) - 1)) := by
          show some (G.D.int (((t.map G.D.int).length : Int) - 1)) = _
          rw [List.length_map]
        refine drop_go s1 (x_call (g := S.want_at_most) (a_cons x_txt (a_cons x_int (a_cons (x_i2 ir_sub (x_len x_varw) x_int) a_nil)))) (d := w) ((ev_call (ev_cons rfl (ev_cons rfl (ev_cons vn rfl)))).trans e2) fun H2 x2 => ?_
        have x12 := x1.trans x2
        have d1' : Dat C (hid S0 H2) v1 (S.L t) := (d1.mono (ex_unhid own1)).mono (ex_hid x2)
        have hF2 := hF.mono (ex_hid x12)
        have dom2 : ∀ b, S0 b = true → H2 b ≠ none := fun b z => some_mono x12 (hs b z)
        have domd : ∀ {H : Hp} {dd : Addr}, (∀ b, S0 b = true → H b ≠ none) → ∀ b, plus dd S0 b = true → (upd H dd (.dT [])) b ≠ none := fun {H dd} hdm b z => by
          rcases plus_true.mp z with z | z
          · by_cases k : b = dd
            · rw [k, upd_same]; exact fun z => nomatch z
            · rw [upd_ne k]; exact hdm b z
          · rw [z, upd_same]; exact fun z => nomatch z
        refine ⟨fv, rfl, v1, rfl, fun dd hdd => ?_⟩
        have see2 : Ex (hid S0 H2) (hid (plus dd S0) (upd H2 dd (.dT []))) := ex_plusE hdd (Ex.new hdd)
        refine ⟨plus dd S0, F, t, fv, v1, dd, [], .int m, rfl, domd dom2, plus_true.mpr (.inr rfl), hF2.mono see2, d1'.mono see2, upd_same, InvG.nil, by decide, by unfold manyD; rw [e3]; rfl, fun v3 H3 kvs3 b3 h3' i3 l3 d3 => ?_⟩
        have y3 := dat_int d3
        subst y3
        have x23 : Ex H2 H3 := fun b o eb => b3 b o (ne_of_none eb hdd) (by rw [upd_ne (ne_of_none eb hdd)]; exact eb)
        refine ⟨m, 400, rfl, rfl, _, rfl, ?_⟩
        have ed : decide ((400 : Int) < m) = false := decide_eq_false (by omega)
        rw [ed]
        dsimp only
        rw [if_neg Bool.false_ne_true]
        have x13 := x12.trans x23
        have dom3 : ∀ b, S0 b = true → H3 b ≠ none := fun b z => some_mono x13 (hs b z)
        refine ⟨fv, rfl, v1, rfl, fun ee hee => ?_⟩
        have see3 : Ex (hid S0 H3) (hid (plus ee S0) (upd H3 ee (.dT []))) := ex_plusE hee (Ex.new hee)
        refine ⟨plus ee S0, F, t, fv, v1, ee, [], S.LL ws, rfl, domd dom3, plus_true.mpr (.inr rfl), (hF.mono (ex_hid x13)).mono see3, (d1'.mono (ex_hid x23)).mono see3, upd_same, InvG.nil, by decide, by unfold waysD; rw [e4]; rfl, fun v4 H4 kvs4 b4 h4' i4 l4 d4 => ?_⟩
        have x34 : Ex H3 H4 := fun b o eb => b4 b o (ne_of_none eb hee) (by rw [upd_ne (ne_of_none eb hee)]; exact eb)
        obtain ⟨bb, zs, rfl, hb, hz⟩ := LL_cases d4
        have hz0 := hz.mono (ex_unhid (S' := S0) fun b z => plus_le b z)
        obtain ⟨r1, r2, r3⟩ := rows_dat (K := K) hz0
        refine ⟨bb, zs.zip ws, rfl, .inl (.inl (by rw [r1]; exact (hid_some hb).2)), fun x hx => dat_dp (r3 x hx), fun p hp => ?_⟩
        have xall : Ex H (upd H4 p (.lst (((zs.zip ws).mergeSort leRow).map (·.1)))) := (x13.trans x34).trans (Ex.new hp)
        refine q _ _ xall ?_
        have np : S0 p = false := by
          cases k : S0 p with
          | false => rfl
          | true => exact absurd hp (some_mono (x13.trans x34) (hs p k))
        have hm := dats_of ((zs.zip ws).mergeSort leRow) (fun x hx => r3 x (List.mem_mergeSort.mp hx))
        rw [List.map_mergeSort (r := leRow) (s := fun p q => decide (p ≤ q)) (f := fun x : V × List Int => x.2) (fun a _ b _ => rfl), r2] at hm
        exact .lst (hid_of np upd_same) (hm.mono (ex_hid (Ex.new hp)))
end
end GB

set_option autoImplicit false
/-! What the ends of the defs that draw do, printed by gen.py. -/
namespace S
def b_lines_right0 : G.FS :=
  (G.sSeq (G.sAsg (G.gName 3) (G.fCall S.law_led (G.aCons (G.fVar 2) (G.aCons (G.fVar 6) (G.aCons (G.fVar 7) G.aNil)))))
  (G.sSeq (G.sAsg (G.gName 4) (G.fCall S.law_put (G.aCons (G.fVar 2) (G.aCons (G.fCall S.law_line (G.aCons (G.fVar 2) (G.aCons (G.fVar 3) G.aNil))) (G.aCons (G.fLst (G.aCons (G.fVar 7) G.aNil)) G.aNil)))))
  (G.sSeq (G.sAsg (G.gName 5) (G.fCall S.law_put (G.aCons (G.fVar 2) (G.aCons (G.fLst (G.aCons (G.fCall S.law_turned (G.aCons (G.fVar 2) (G.aCons (G.fVar 7) (G.aCons (G.fC (.int 1)) G.aNil)))) G.aNil)) (G.aCons (G.fCall S.law_line (G.aCons (G.fVar 2) (G.aCons (G.fVar 6) G.aNil))) G.aNil)))))
  (G.sSeq (G.sIf (G.tOr (G.fTest (G.fNeD (G.fVar 4) (G.fVar 5))) (G.fTest (G.fNeD (G.fCall S.put (G.aCons (G.fVar 1) (G.aCons (G.fCall S.law_line (G.aCons (G.fVar 2) (G.aCons (G.fVar 3) G.aNil))) (G.aCons (G.fLst (G.aCons (G.fVar 7) G.aNil)) G.aNil)))) (G.fVar 4)))) (G.sRet (G.fC (.bl false))) G.sNext)
  (G.sRet (G.fIsTrue (G.fCall S.is_like_by (G.aCons (G.fVar 1) (G.aCons (G.fVar 6) (G.aCons (G.fVar 3) (G.aCons (G.fVar 7) G.aNil)))))))))))
def b_ways_right0 : G.FS :=
  (G.sAsg (G.gName 4) (G.fCall S.ways (G.aCons (G.fVar 1) (G.aCons (G.fVar 3) G.aNil))))
def b_ways_right1 : G.FS :=
  (G.sIf (G.fTest (G.fEqD (G.fVar 4) (G.fLst G.aNil))) (G.sRet (G.fC (.bl false))) G.sNext)
def b_ways_right2 : G.FS :=
  (G.sAsg (G.gName 5) (G.fCall S.law_sorts (G.aCons (G.fVar 1) (G.aCons (G.fIxL (G.fVar 4) (G.fC (.int 0))) G.aNil))))
def b_ways_right3 : G.FS :=
  (G.sIf (G.tNot (G.fTest (G.fB1 G.bAll (G.fLc (G.iList (G.fVar 4)) (G.gName 7) G.tYes (G.fEqD (G.fCall S.law_sorts (G.aCons (G.fVar 1) (G.aCons (G.fVar 7) G.aNil))) (G.fVar 5)) [7])))) (G.sRet (G.fC (.bl false))) G.sNext)
def b_ways_right4 : G.FS :=
  (G.sRet (G.fEqD (G.fCall S.ways (G.aCons (G.fVar 1) (G.aCons (G.fCall S.law_put (G.aCons (G.fVar 2) (G.aCons (G.fLst (G.aCons (G.fVar 6) G.aNil)) (G.aCons (G.fVar 3) G.aNil)))) G.aNil))) (G.fVar 4)))
def b_inside_right0 : G.FS :=
  (G.sSeq (G.sAsg (G.gName 5) (G.fCall S.law_put (G.aCons (G.fVar 2) (G.aCons (G.fVar 3) (G.aCons (G.fLst (G.aCons (G.fVar 4) G.aNil)) G.aNil)))))
  (G.sSeq (G.sAsg (G.gName 6) (G.fB1 G.bSortI (G.fLc (G.iList (G.fCall S.inner_ones (G.aCons (G.fVar 1) (G.aCons (G.fVar 3) G.aNil)))) (G.gName 7) G.tYes (G.fCall S.law_back (G.aCons (G.fVar 2) (G.aCons (G.fVar 7) (G.aCons (G.fVar 4) G.aNil)))) [7])))
  (G.sRet (G.fAndV (G.fEqD (G.fCall S.inner_ones (G.aCons (G.fVar 1) (G.aCons (G.fVar 5) G.aNil))) (G.fVar 6)) (G.fI2 G.gEq (G.fB1 G.bLen (G.fCall S.told (G.aCons (G.fVar 1) (G.aCons (G.fVar 5) G.aNil)))) (G.fB1 G.bLen (G.fVar 3)))))))
def b_outside_right0 : G.FS :=
  (G.sRet (G.fEqD (G.fCall S.outer_ones (G.aCons (G.fVar 1) (G.aCons (G.fCall S.law_put (G.aCons (G.fVar 2) (G.aCons (G.fVar 3) (G.aCons (G.fLst (G.aCons (G.fVar 4) G.aNil)) G.aNil)))) G.aNil))) (G.fCall S.outer_ones (G.aCons (G.fVar 1) (G.aCons (G.fVar 3) G.aNil)))))
end S

set_option autoImplicit false
/-! What the defs that draw need of the plain meaning. -/
namespace S
open G
def okLR (F : G.Fld) (l : List G.D) (q : Int) : Prop := ∀ a c : Int, 0 ≤ a → a < q → 1 ≤ c → c < q → b_lines_right0 [none, some (.fld F), some (.lst l), none, none, none, some (.int a), some (.int c)] = some (.rt (.bl true))
def eW1 : G.FE := G.fCall S.ways (G.aCons (G.fVar 1) (G.aCons (G.fVar 3) G.aNil))
def tW2 : G.FT := G.fTest (G.fEqD (G.fVar 4) (G.fLst G.aNil))
def eW3 : G.FE := G.fCall S.law_sorts (G.aCons (G.fVar 1) (G.aCons (G.fIxL (G.fVar 4) (G.fC (.int 0))) G.aNil))
def tW4 : G.FT := G.tNot (G.fTest (G.fB1 G.bAll (G.fLc (G.iList (G.fVar 4)) (G.gName 7) G.tYes (G.fEqD (G.fCall S.law_sorts (G.aCons (G.fVar 1) (G.aCons (G.fVar 7) G.aNil))) (G.fVar 5)) [7])))
def okWR (F : G.Fld) (l : List G.D) (q : Int) (f : G.D) : Prop := ∃ rows srt, eW1 [none, some (.fld F), some (.lst l), some f, none, none, none, none] = some rows ∧ tW2 [none, some (.fld F), some (.lst l), some f, some rows, none, none, none] = some false ∧
  eW3 [none, some (.fld F), some (.lst l), some f, some rows, none, none, none] = some srt ∧ tW4 [none, some (.fld F), some (.lst l), some f, some rows, some srt, none, none] = some false ∧
  ∀ h : Int, 1 ≤ h → h < q → b_ways_right4 [none, some (.fld F), some (.lst l), some f, some rows, some srt, some (.int h), none] = some (.rt (.bl true))
def okIR (F : G.Fld) (l : List G.D) (q : Int) (f : G.D) : Prop := ∀ c : Int, 1 ≤ c → c < q → b_inside_right0 [none, some (.fld F), some (.lst l), some f, some (.int c), none, none, none] = some (.rt (.bl true))
def okOR (F : G.Fld) (l : List G.D) (q : Int) (f : G.D) : Prop := ∀ c : Int, 1 ≤ c → c < q → b_outside_right0 [none, some (.fld F), some (.lst l), some f, some (.int c)] = some (.rt (.bl true))
inductive Lns (W : G.D) (q : Int) : Nat → G.D → Prop
  | base (h : Int) : 1 ≤ h → h < q → Lns W q 0 (.lst [.int h])
  | step {m : Nat} {f x g : G.D} (a : Int) : Lns W q m f → 0 ≤ a → a < q → S.law_line [W, .int a] = some x → S.law_put [W, f, x] = some g → Lns W q (m + 1) g
def okLns (W : G.D) (q : Int) (m : Nat) : Prop := ∀ (k : Nat) (f : G.D) (a : Int), Lns W q k f → k < m → 0 ≤ a → a < q → ∃ x g, S.law_line [W, .int a] = some x ∧ S.law_put [W, f, x] = some g
def hasQ (l : List G.D) (q : Int) : Prop := G.pIx l 2 = some (.int q) ∧ 1 < q ∧ q < 1073741824
/-- the pair drawn leads to True -/
def fields4 : List (Int × List Int) := [(2, [1, 1, 1]), (2, [1, 1, 0, 1]), (3, [1, 0, 1]), (2, [1, 1, 0, 0, 1])]
def mostDeg (q : Int) : Nat := if q < 10 then 3 else 2
def okField (p : Int) (md : List Int) : Prop := ∃ F l q, S.Field [.int p, L md] = some (.fld F) ∧ S.law_world [.int p, L md] = some (.lst l) ∧ hasQ l q ∧ okLns (.lst l) q (mostDeg q) ∧ okLR F l q ∧
  ∀ m f, 1 ≤ m → m ≤ mostDeg q → Lns (.lst l) q m f → okWR F l q f ∧ okIR F l q f ∧ okOR F l q f
end S

set_option autoImplicit false
set_option Elab.async false
set_option linter.all false
set_option maxRecDepth 100000
set_option maxHeartbeats 4000000
/-! The pot: draws. -/
namespace GB
open PySem L2 ItX
def PotOk (a b : Int) : Prop := 0 ≤ b ∧ b ≤ 2147483549
def PotAt (H : Hp) (p : Addr) : Prop := ∃ a b : Int, H p = some (.lst [.int a, .int b]) ∧ PotOk a b
/-- a def that draws -/
def spP (C : Addr) (pre : List G.D → Prop) (R : List G.D → G.D → Prop) : Sp := fun vs H Q _ => ∃ (S0 : Addr → Bool) (pot : Addr) (vs' : List V) (ds : List G.D), vs = .ref pot :: vs' ∧ (∀ b, S0 b = true → H b ≠ none) ∧ S0 pot = true ∧ PotAt H pot ∧
  Dats C (hid S0 H) vs' ds ∧ pre ds ∧ ∀ d v H', R ds d → Exb pot H H' → PotAt H' pot → Dat C (hid S0 H') v d → Q v H'
/-- where such a def stands -/
structure PSt (C : Addr) (S0 : Addr → Bool) (pot : Addr) (σ : L2.St) (ρ : G.Env) (H : Hp) : Prop where
  s : Sim C [] S0 (fun _ => none) σ ρ H
  hS : S0 pot = true
  pa : PotAt H pot
  s0 : σ[0]? = some (some (.ref pot))
theorem sv0 {S0 : Addr → Bool} (b : Addr) (z : sv [] S0 (fun _ => none) b = true) : S0 b = true := by
  rcases sv_true.mp z with q | ⟨i, q, _⟩
  · exact q
  · exact nomatch q
theorem sv1 {S0 : Addr → Bool} (b : Addr) (z : S0 b = true) : sv [] S0 (fun _ => none) b = true := sv_true.mpr (.inl z)
section
variable {C : Addr} {S0 : Addr → Bool} {pot : Addr} {σ : L2.St} {ρ : G.Env} {H H' : Hp}
theorem PSt.dom (h : PSt C S0 pot σ ρ H) : ∀ b, S0 b = true → H b ≠ none := h.s.s0
theorem PSt.mono (h : PSt C S0 pot σ ρ H) (e : Ex H H') : PSt C S0 pot σ ρ H' := ⟨h.s.mono e, h.hS, by
  obtain ⟨a, b, h1, h2⟩ := h.pa
  exact ⟨a, b, e _ _ h1, h2⟩, h.s0⟩
theorem PSt.monoB (h : PSt C S0 pot σ ρ H) (e : Exb pot H H') (p : PotAt H' pot) : PSt C S0 pot σ ρ H' := by
  have see : Ex (hid (sv [] S0 (fun _ => none)) H) (hid (sv [] S0 (fun _ => none)) H') := e.hid (sv1 _ h.hS) fun b z => z
  refine ⟨⟨fun b z => ?_, fun i a hi _ => (nomatch hi), fun i j a hi _ _ _ => (nomatch hi), h.s.len, fun i d hi q => ?_, fun i d hi _ => (nomatch hi)⟩, h.hS, p, h.s0⟩
  · by_cases k : b = pot
    · obtain ⟨x, y, h1, _⟩ := p
      rw [k, h1]
      exact fun z => nomatch z
    · cases q : H b with
      | none => exact absurd q (h.dom b z)
      | some o => rw [e b o k q]; exact fun z => nomatch z
  · obtain ⟨v, h1, h2⟩ := h.s.pl i d hi q
    exact ⟨v, h1, h2.mono see⟩
theorem PSt.set (h : PSt C S0 pot σ ρ H) {i : Nat} (hi : i ≠ 0) {v : V} {d : G.D} (hd : Dat C (hid S0 H) v d) : PSt C S0 pot (σ.set i (some v)) (ρ.set i (some d)) H :=
  ⟨h.s.set (fun z => nomatch z) (hd.mono (ex_unhid sv0)), h.hS, h.pa, by rw [List.getElem?_set_ne hi]; exact h.s0⟩
/-- an expression without draws -/
theorem PSt.x {te : TE} {fe : G.FE} {d : G.D} {Q : VK} (h : PSt C S0 pot σ ρ H) (he : XE C [] false te fe) (e : fe ρ = some d) (q : ∀ v H', Ex H H' → PSt C S0 pot σ ρ H' → Dat C (hid S0 H') v d → Q v H') : te σ H Q :=
  he.run S0 _ σ ρ H h.s d e Q fun v H' x1 d1 => q v H' x1 (h.mono x1) d1
/-- a call that draws -/
theorem PSt.call {t : TA} {f : G.FA} {ds : List G.D} {pre : List G.D → Prop} {R : List G.D → G.D → Prop} {E : XK} {Q : VK} (h : PSt C S0 pot σ ρ H) (ht : XA C [] false t f) (e : f ρ = some ds) (hp : pre ds)
    (q : ∀ d v H', R ds d → Exb pot H H' → PSt C S0 pot σ ρ H' → Dat C (hid S0 H') v d → Q v H') : tCall (spP C pre R) [] E (tCons (tVar 0) t) σ H Q := by
  refine ⟨_, h.s0, ?_⟩
  refine ht.run S0 _ σ ρ H h.s ds e _ fun vs H1 x1 d1 => ?_
  have h1 := h.mono x1
  refine ⟨S0, pot, vs, ds, by rw [List.append_nil], h1.dom, h.hS, h1.pa, d1, hp, fun d v H' r e' p' dv => ?_⟩
  exact q d v H' r ((Exb.of x1).trans e') (h1.monoB e' p') dv
end
/-- a def's start -/
theorem start_pst {C : Addr} {S0 : Addr → Bool} {pot : Addr} {H : Hp} {vs : List V} {ds : List G.D} {N : List Str} {ns : Nat} (hs : ∀ b, S0 b = true → H b ≠ none) (hS : S0 pot = true) (pa : PotAt H pot) (hd : Dats C (hid S0 H) vs ds) (hN : N.length = 1 + ds.length + ns) :
    PSt C S0 pot (L2.start N (.ref pot :: vs)) (none :: (ds.map some ++ List.replicate ns none)) H := by
  have hl := hd.length
  refine ⟨⟨hs, fun i a hi _ => (nomatch hi), fun i j a hi _ _ _ => (nomatch hi), ?_, fun i d _ h => ?_, fun i d hi _ => (nomatch hi)⟩, hS, pa, rfl⟩
  · unfold L2.start
    rw [List.length_append, List.length_map, List.length_replicate, List.length_cons, List.length_cons, List.length_append, List.length_map, List.length_replicate]
    omega
  · cases i with
    | zero => cases h
    | succ i =>
      rw [List.getD_eq_getElem?_getD, List.getElem?_cons_succ] at h
      have hi : ds[i]? = some d := by
        by_cases k : i < ds.length
        · rw [List.getElem?_append_left (by rw [List.length_map]; exact k), List.getElem?_map] at h
          cases z : ds[i]? with
          | none => rw [z] at h; cases h
          | some x => rw [z] at h; cases h; rfl
        · rw [List.getElem?_append_right (by rw [List.length_map]; omega), List.getElem?_replicate] at h
          split at h <;> cases h
      obtain ⟨v, h1, h2⟩ := hd.get hi
      refine ⟨v, ?_, h2.mono (ex_unhid sv0)⟩
      unfold L2.start
      rw [List.map_cons, List.cons_append, List.getElem?_cons_succ, List.getElem?_append_left (by rw [List.length_map]; exact (List.getElem?_eq_some_iff.mp h1).1), List.getElem?_map, h1]
      rfl
/-! ### _law_pot, _law_draw -/
abbrev st_law_pot : Stmt := topS 88
theorem sc_law_pot : FnScope ["_law_script", "_law_k", "_law_cell"] ["_law_script", "_law_k"] (defScope st_law_pot) := ⟨rfl, rfl, rfl, by decide +kernel, rfl, by decide +kernel, by decide +kernel⟩
def spPot (K : PySem.W.Frag) : Sp := fun vs H Q _ => ∃ (a : Addr) (ns : List Int), vs = [.ref a, .int 0] ∧ SqL K H a (ns.map V.int) ∧ ∀ p H', H p = none → Ex H H' → PotAt H' p → Q (.ref p) H'
abbrev st_law_draw : Stmt := topS 89
theorem sc_law_draw : FnScope ["_law_pot_here", "_law_size", "_law_digit"] ["_law_pot_here", "_law_size"] (defScope st_law_draw) := ⟨rfl, rfl, rfl, by decide +kernel, rfl, by decide +kernel, by decide +kernel⟩
def preDraw : List G.D → Prop := fun ds => ∃ n : Int, ds = [.int n] ∧ 0 < n ∧ n < 1073741824
def RDraw : List G.D → G.D → Prop := fun ds d => ∃ n k : Int, ds = [.int n] ∧ d = .int k ∧ 0 ≤ k ∧ k < n
section
variable {P : Program} {w : World} {K : PySem.W.Frag} {mg : Str → Option Value} {base : Heap} {C : Addr}
theorem ok_law_pot (T : Tx K mg C) {f : Addr} {fd : FuncData} (F : Fn K "_law_pot" st_law_pot f fd) : FnOk P w K mg base CX0 1 f fd ["_law_script", "_law_k"] (spPot K) := by
  refine F.ok sc_law_pot (fun vs H Q E h => ?_) (fun cdv A outer s H vs Q E hr h => ?_)
  · obtain ⟨a, ns, rfl, _⟩ := h
    rfl
  · refine ⟨_, PSs.nox (pss_cons (ps_set (i := 2) sc_law_pot.nd rfl (by first | exact .inl rfl | exact .inr rfl) (pe_ifExp (pt_cmpR op_lt (pv 1) (pe_callB call_len_seq (by rfl) T.f_len bt_len (pa_cons (pv 0) pa_nil)) (nomark _))
        (pe_callB call_abs (by rfl) T.f_abs bt_abs (pa_cons (pe_ix ix_list (pv 0) (pv 1) (fun _ _ => rfl)) pa_nil)) (pe_op op_add (pe_op op_mul pe_int (pv 1)) pe_int)))
      (pss_one (ps_ret (pe_lst (pa_cons (pe_callB (call_max2 rfl) (by rfl) T.f_max bt_max (pa_cons pe_int (pa_cons (pe_op op_sub (pv 2) (pe_op op_pow pe_int pe_int)) pa_nil)))
        (pa_cons (pe_op op_add (pe_op op_mod (pe_callTy call_int1 (by rfl) T.f_int bt_int (pa_cons (pe_op op_add (pe_op op_add (pe_op op_mul (pe_op op_mod (pe_callTy call_int1 (by rfl) T.f_int bt_int (pa_cons (pv 2) pa_nil)) pe_int) pe_int) (pe_op op_mul pe_int (pv 1))) pe_int) pa_nil)) pe_int) pe_int) pa_nil)))))), ?_⟩
    obtain ⟨a, ns, rfl, hs, q⟩ := h
    refine ⟨.int 0, rfl, .ref a, rfl, _, _, rfl, .inl hs, _, _, rfl, rfl, _, rfl, ?_⟩
    dsimp only
    rw [List.length_map]
    by_cases hl : 0 < ns.length
    · rw [if_pos (by rw [decide_eq_true_eq]; omega)]
      refine ⟨.ref a, rfl, .int 0, rfl, a, ns.map V.int, 0, .int ns[0], rfl, rfl, hs, ?_, ns[0], rfl, ?_⟩
      · unfold atI ixN
        rw [if_pos (by decide), if_pos (by rw [List.length_map]; omega)]
        show (ns.map V.int)[0]? = _
        rw [List.getElem?_map, List.getElem?_eq_getElem hl]
        rfl
      · generalize (if ns[0] < 0 then -ns[0] else ns[0]) = c
        refine ⟨.int c, rfl, 10, 18, rfl, rfl, ⟨by decide, by decide, by decide⟩, _, _, rfl, rfl, _, _, rfl, .int c, rfl, .inl ⟨_, rfl, _, _, rfl, rfl, by show (0 : Int) < 2147483543; decide, _, _, rfl, rfl, .inr (by decide), .int 0, rfl, _, _, rfl, rfl, .inl (by decide), _, _, rfl, rfl, _, _, rfl, rfl, .inl ⟨_, rfl, _, _, rfl, rfl, by show (0 : Int) < 2147483549; decide, _, _, rfl, rfl, by show 2 ≤ sizeLine; decide, fun p hp => ?_⟩⟩⟩
        exact q p _ hp (Ex.new hp) ⟨_, _, upd_same, by omega, by omega⟩
    · rw [if_neg (by rw [decide_eq_true_eq]; omega)]
      refine ⟨.int 0, rfl, _, _, rfl, rfl, .inl (by decide), _, _, rfl, rfl, ?_⟩
      dsimp only
      generalize (733 * 0 + 577 : Int) = c
      refine ⟨.int c, rfl, 10, 18, rfl, rfl, ⟨by decide, by decide, by decide⟩, _, _, rfl, rfl, _, _, rfl, .int c, rfl, .inl ⟨_, rfl, _, _, rfl, rfl, by show (0 : Int) < 2147483543; decide, _, _, rfl, rfl, .inr (by decide), .int 0, rfl, _, _, rfl, rfl, .inl (by decide), _, _, rfl, rfl, _, _, rfl, rfl, .inl ⟨_, rfl, _, _, rfl, rfl, by show (0 : Int) < 2147483549; decide, _, _, rfl, rfl, by show 2 ≤ sizeLine; decide, fun p hp => ?_⟩⟩⟩
      exact q p _ hp (Ex.new hp) ⟨_, _, upd_same, by omega, by omega⟩
theorem ok_law_draw (T : Tx K mg C) {f : Addr} {fd : FuncData} (F : Fn K "_law_draw" st_law_draw f fd) : FnOk P w K mg base CX0 1 f fd ["_law_pot_here", "_law_size"] (spP C preDraw RDraw) := by
  refine F.ok sc_law_draw (fun vs H Q E h => ?_) (fun cdv A outer s H vs Q E hr h => ?_)
  · obtain ⟨S0, pot, vs', ds, rfl, _, _, _, hd, ⟨n, rfl, _⟩, _⟩ := h
    exact congrArg (· + 1) hd.length
  · refine ⟨_, PSs.nox (pss_cons (ps_if (pt_cmpR op_gt (pe_ix ix_list (pv 0) pe_int (fun _ _ => rfl)) pe_int (nomark _))
        (pss_cons (ps_asg (pe_callB call_divmod (by rfl) T.f_divmod bt_divmod (pa_cons (pe_ix ix_list (pv 0) pe_int (fun _ _ => rfl)) (pa_cons (pv 1) pa_nil))) (pg_tup rfl (pgs_cons (pg_sub (pv 0) pe_int set_list) (pgs_cons (pg_name (i := 2) sc_law_draw.nd rfl (by first | exact .inl rfl | exact .inr rfl)) pgs_nil))))
        (pss_one (ps_ret (pv 2)))) pss_nil)
      (pss_cons (ps_asg (pe_op op_mod (pe_callTy call_int1 (by rfl) T.f_int bt_int (pa_cons (pe_op op_add (pe_op op_mul (pe_ix ix_list (pv 0) pe_int (fun _ _ => rfl)) pe_int) pe_int) pa_nil)) pe_int) (pg_sub (pv 0) pe_int set_list))
      (pss_one (ps_ret (pe_op op_mod (pe_callTy call_int1 (by rfl) T.f_int bt_int (pa_cons (pe_op op_fdiv (pe_op op_mod (pe_callTy call_int1 (by rfl) T.f_int bt_int (pa_cons (pe_op op_mul (pe_ix ix_list (pv 0) pe_int (fun _ _ => rfl)) (pe_ix ix_list (pv 0) pe_int (fun _ _ => rfl))) pa_nil)) pe_int) pe_int) pa_nil)) (pv 1)))))), ?_⟩
    obtain ⟨S0, pot, vs', ds, rfl, hdom, hS, ⟨a, b, hp, hb⟩, hd, ⟨n, rfl, hn1, hn2⟩, q⟩ := h
    obtain ⟨hb1, hb2⟩ := hb
    have ev : vs' = [.int n] := by
      cases hd with
      | cons h1 h2 =>
        cases h2
        rw [dat_int h1]
    subst ev
    have at0 : ∀ x y : V, atI [x, y] 0 = some x := fun _ _ => rfl
    have at1 : ∀ x y : V, atI [x, y] 1 = some y := fun _ _ => rfl
    refine ⟨.ref pot, rfl, pot, _, 0, .int a, rfl, rfl, .inl (.inl hp), at0 _ _, _, _, rfl, rfl, _, rfl, ?_⟩
    dsimp only
    by_cases h0 : 0 < a
    · rw [if_pos (by rw [decide_eq_true_eq]; exact h0)]
      refine ⟨.ref pot, rfl, pot, _, 0, .int a, rfl, rfl, .inl (.inl hp), at0 _ _, .int n, rfl, a, n, rfl, ⟨hn1, hn2⟩, fun t ht => ?_⟩
      have tp : pot ≠ t := ne_of_none hp ht |> fun z => z
      refine ⟨t, _, rfl, .inl (.inl upd_same), rfl, _, _, rfl, ?_⟩
      refine ⟨.ref pot, rfl, pot, _, 0, 0, rfl, rfl, (by rw [upd_ne tp]; exact hp), rfl, _, _, rfl, ?_⟩
      refine ⟨rfl, .int (a % n), rfl, ?_⟩
      refine q (.int (a % n)) _ _ ⟨n, a % n, rfl, rfl, Int.emod_nonneg _ (by omega), Int.emod_lt_of_pos _ hn1⟩ (fun c o hc e => ?_) ⟨a / n, b, upd_same, hb1, hb2⟩ (.int _)
      rw [upd_ne hc, upd_ne (ne_of_none e ht)]
      exact e
    · rw [if_neg (by rw [decide_eq_true_eq]; exact h0)]
      refine ⟨.ref pot, rfl, pot, _, 1, .int b, rfl, rfl, .inl (.inl hp), at1 _ _, _, _, rfl, rfl, .inr (by decide), _, _, rfl, rfl, .inl ⟨_, rfl, _, _, rfl, rfl, by show (0 : Int) < 2147483549; decide, ?_⟩⟩
      refine ⟨.ref pot, rfl, pot, _, 1, 1, rfl, rfl, hp, rfl, ?_⟩
      have c1 : 0 ≤ (b * 39541 + 6827) % 2147483549 := by omega
      have c2 : (b * 39541 + 6827) % 2147483549 < 2147483549 := by omega
      have hp' : (upd H pot (.lst ([V.int a, V.int b].set 1 (V.int ((b * 39541 + 6827) % 2147483549))))) pot = some (.lst [.int a, .int ((b * 39541 + 6827) % 2147483549)]) := upd_same
      dsimp only
      generalize (b * 39541 + 6827) % 2147483549 = c at c1 c2 hp' ⊢
      refine ⟨.ref pot, rfl, pot, _, 1, .int c, rfl, rfl, .inl (.inl hp'), at1 _ _, .ref pot, rfl, pot, _, 1, .int c, rfl, rfl, .inl (.inl hp'), at1 _ _, _, _, rfl, rfl, .inl ⟨by omega, by omega⟩, .inl ⟨_, rfl, _, _, rfl, rfl, by show (0 : Int) < 2147483543; decide, _, _, rfl, rfl, ⟨by decide, by decide⟩, .inl ⟨_, rfl, .int n, rfl, _, _, rfl, rfl, hn1, ?_⟩⟩⟩
      refine q (.int _) _ _ ⟨n, _, rfl, rfl, Int.emod_nonneg _ (by omega), Int.emod_lt_of_pos _ hn1⟩ (fun d o hc e => ?_) ⟨a, c, hp', by omega, by omega⟩ (.int _)
      rw [upd_ne hc]
      exact e
end
end GB

set_option autoImplicit false
set_option Elab.async false
set_option linter.all false
set_option maxRecDepth 100000
set_option maxHeartbeats 400000
/-! The defs that draw. -/
namespace GB
open PySem L2 ItX
theorem fr_ex {own own' : Own} {H H' : Hp} (f : Fr [] own H own' H') : Ex H H' := fun b o e => (hid_some (f b o (hid_of rfl e))).2
section
variable {C : Addr} {S0 : Addr → Bool} {pot : Addr} {σ : L2.St} {ρ : G.Env} {H H' : Hp} {K : PySem.W.Frag}
/-- an end without draws -/
theorem PSt.tail {t : TS} {g : G.FS} {d : G.D} {D : Ends} (h : PSt C S0 pot σ ρ H) (xs : XS C [] false t g) (e : g ρ = some (.rt d)) (q : ∀ v H', Ex H H' → PotAt H' pot → Dat C (hid S0 H') v d → D.rt v H') : t D σ H :=
  xs.run S0 _ σ ρ H h.s _ e D fun v own' H1 H' f x hv _ => q v H' ((fr_ex f).trans x) (h.mono ((fr_ex f).trans x)).pa hv
theorem PSt.get (h : PSt C S0 pot σ ρ H) {i : Nat} {d : G.D} (e : ρ.getD i none = some d) : ∃ v, σ[i]? = some (some v) ∧ Dat C (hid S0 H) v d := by
  obtain ⟨v, h1, h2⟩ := h.s.pl i d (fun z => nomatch z) e
  exact ⟨v, h1, h2.mono (ex_unhid sv1)⟩
theorem PSt.draw {te : TE} {fe : G.FE} {n : Int} {E : XK} {Q : VK} (h : PSt C S0 pot σ ρ H) (he : XE C [] false te fe) (e : fe ρ = some (.int n)) (h1 : 0 < n) (h2 : n < 1073741824) (q : ∀ k H', 0 ≤ k → k < n → Exb pot H H' → PSt C S0 pot σ ρ H' → Q (.int k) H') :
    tCall (spP C preDraw RDraw) [] E (tCons (tVar 0) (tCons te tNil)) σ H Q := h.call (a_cons he a_nil) (ev_cons e rfl) ⟨n, rfl, h1, h2⟩ fun d v H' ⟨n', k, e1, e2, g1, g2⟩ eb hp dv => by
  cases e1
  subst e2
  rw [dat_int dv]
  exact q k H' g1 g2 eb hp
theorem PSt.unless {tt : TT} {ft : G.FT} {tu tz : TS} {D : Ends} (h : PSt C S0 pot σ ρ H) (ht : XT C [] tt ft) (e : ft ρ = some false) (k : ∀ H1, Ex H H1 → PSt C S0 pot σ ρ H1 → tz D σ H1) : tSeq (tIfS tt tu tNext) tz D σ H :=
  unless_go h.s ht e fun H1 x1 => k H1 x1 (h.mono x1)
theorem ev_q {ρ : G.Env} {i : Nat} {l : List G.D} {q : Int} (h : ρ.getD i none = some (.lst l)) (hq : G.pIx l 2 = some (.int q)) : G.fIxL (G.fVar i) (G.fC (.int 2)) ρ = some (.int q) := by
  unfold G.fIxL G.fVar G.fC
  rw [h]
  exact hq
theorem ev_q1 {ρ : G.Env} {i : Nat} {l : List G.D} {q : Int} (h : ρ.getD i none = some (.lst l)) (hq : G.pIx l 2 = some (.int q)) : G.fI2 G.gSub (G.fIxL (G.fVar i) (G.fC (.int 2))) (G.fC (.int 1)) ρ = some (.int (q - 1)) := by
  unfold G.fI2
  rw [ev_q h hq]
  rfl
theorem xe_q1 {i : Nat} : XE C [] false (tOp (rI0 fun i j => .int (i - j)) (tOp (rIxL K) (tVar i) (tC (.int 2))) (tC (.int 1))) (G.fI2 G.gSub (G.fIxL (G.fVar i) (G.fC (.int 2))) (G.fC (.int 1))) := x_i2 ir_sub (x_ixL x_varw x_int) x_int
end
theorem asgq_go {te : TE} {tz : TS} {i : Nat} {D : Ends} {σ : L2.St} {H : Hp} (h : te σ H fun x H1 => tz D (σ.set i (some x)) H1) : tSeq (tAsg te (gName i)) tz D σ H := h
theorem parq_go {ta tb : TE} {tz : TS} {i j : Nat} {D : Ends} {σ : L2.St} {H : Hp} (h : ta σ H fun v H1 => tb σ H1 fun u H2 => tz D ((σ.set i (some v)).set j (some u)) H2) : tSeq (tPar i j (tCons ta (tCons tb tNil))) tz D σ H := by
  have e : (ta σ H fun v H1 => tb σ H1 fun u H2 => ∃ x y, [v, u] = [x, y] ∧ tz D ((σ.set i (some x)).set j (some y)) H2) = (tSeq (tPar i j (tCons ta (tCons tb tNil))) tz D σ H) := rfl
  rw [← e]
  have e2 : (fun v H1 => tb σ H1 fun u H2 => tz D ((σ.set i (some v)).set j (some u)) H2) = fun v H1 => tb σ H1 fun u H2 => ∃ x y, [v, u] = [x, y] ∧ tz D ((σ.set i (some x)).set j (some y)) H2 := by
    funext v H1
    congr 1
    funext u H2
    refine propext ⟨fun z => ⟨v, u, rfl, z⟩, fun ⟨x, y, e, z⟩ => ?_⟩
    cases e
    exact z
  rw [← e2]
  exact h
theorem add_go {tb : TE} {i : Int} {σ : L2.St} {H : Hp} {Q : VK} (h : tb σ H fun u H1 => ∃ i' j, V.int i = .int i' ∧ u = .int j ∧ Q (.int (i' + j)) H1) : tOp (rI0 fun i j => .int (i + j)) (tC (.int i)) tb σ H Q := h
theorem lstq_go {te : TE} {tz : TS} {i : Nat} {D : Ends} {σ : L2.St} {H : Hp} (h : te σ H fun v H1 => 1 ≤ sizeLine ∧ ∀ p, H1 p = none → tz D (σ.set i (some (.ref p))) (upd H1 p (.lst [v]))) : tSeq (tAsg (tLst (tCons te tNil)) (gName i)) tz D σ H := h
theorem ret_go {te : TE} {D : Ends} {σ : L2.St} {H : Hp} (h : te σ H D.rt) : tRet te D σ H := h
theorem Exb.see0 {d : Addr} {S0 : Addr → Bool} {H H' : Hp} (e : Exb d H H') (hS : S0 d = true) : Ex (GB.hid S0 H) (GB.hid S0 H') := e.hid hS fun b z => z
def RTrue : List G.D → G.D → Prop := fun _ d => d = .bl true
def prePick : List G.D → Prop := fun ds => ∃ l, ds = [.lst l] ∧ 0 < l.length ∧ l.length < 1073741824
def RPick : List G.D → G.D → Prop := fun ds d => ∃ l, ds = [.lst l] ∧ d ∈ l
def preEl : List G.D → Prop := fun ds => ∃ l q, ds = [.lst l] ∧ S.hasQ l q
def REl : List G.D → G.D → Prop := fun ds d => ∃ l q k, ds = [.lst l] ∧ S.hasQ l q ∧ d = .int k ∧ 0 ≤ k ∧ k < q
def preTold : List G.D → Prop := fun ds => ds = [.int 4]
def RTold : List G.D → G.D → Prop := fun _ d => ∃ p, p ∈ S.fields4 ∧ d = .tup [.int p.1, S.L p.2]
def preLns : List G.D → Prop := fun ds => ∃ l q m, ds = [.lst l, .int m] ∧ S.hasQ l q ∧ 0 ≤ m ∧ m ≤ 1000 ∧ S.okLns (.lst l) q m.toNat
def RLns : List G.D → G.D → Prop := fun ds d => ∃ l q m, ds = [.lst l, .int m] ∧ S.hasQ l q ∧ S.Lns (.lst l) q m.toNat d
def preLR : List G.D → Prop := fun ds => ∃ F l q, ds = [.fld F, .lst l] ∧ S.hasQ l q ∧ S.okLR F l q
def preWR : List G.D → Prop := fun ds => ∃ F l q f, ds = [.fld F, .lst l, f] ∧ S.hasQ l q ∧ S.okWR F l q f
def preIR : List G.D → Prop := fun ds => ∃ F l q f, ds = [.fld F, .lst l, f] ∧ S.hasQ l q ∧ S.okIR F l q f
def preOR : List G.D → Prop := fun ds => ∃ F l q f, ds = [.fld F, .lst l, f] ∧ S.hasQ l q ∧ S.okOR F l q f
abbrev st_law_pick : Stmt := topS 90
theorem sc_law_pick : FnScope ["_law_pot_here", "_law_some"] ["_law_pot_here", "_law_some"] (defScope st_law_pick) := ⟨rfl, rfl, rfl, by decide +kernel, rfl, by decide +kernel, by decide +kernel⟩
abbrev st_law_element : Stmt := topS 101
theorem sc_law_element : FnScope ["_law_pot_here", "_law_world_here"] ["_law_pot_here", "_law_world_here"] (defScope st_law_element) := ⟨rfl, rfl, rfl, by decide +kernel, rfl, by decide +kernel, by decide +kernel⟩
abbrev st_law_told_field : Stmt := topS 100
theorem sc__law_told_field : FnScope ["_law_pot_here", "_law_most", "_law_some"] ["_law_pot_here", "_law_most"] (defScope st_law_told_field) := ⟨rfl, rfl, rfl, by decide +kernel, rfl, by decide +kernel, by decide +kernel⟩
abbrev st_law_lines : Stmt := topS 102
theorem sc__law_lines : FnScope ["_law_pot_here", "_law_world_here", "_law_degree", "_law_found", "_law_turn"] ["_law_pot_here", "_law_world_here", "_law_degree"] (defScope st_law_lines) := ⟨rfl, rfl, rfl, by decide +kernel, rfl, by decide +kernel, by decide +kernel⟩
abbrev st_law_lines_right : Stmt := topS 105
theorem sc__law_lines_right : FnScope ["_law_pot_here", "_law_field", "_law_world_here", "_law_other", "_law_near", "_law_far", "_law_one", "_law_leader"] ["_law_pot_here", "_law_field", "_law_world_here"] (defScope st_law_lines_right) := ⟨rfl, rfl, rfl, by decide +kernel, rfl, by decide +kernel, by decide +kernel⟩
abbrev st_law_ways_right : Stmt := topS 106
theorem sc__law_ways_right : FnScope ["_law_pot_here", "_law_field", "_law_world_here", "_law_whole", "_law_some", "_law_sorts_here", "_law_head", "_law_way"] ["_law_pot_here", "_law_field", "_law_world_here", "_law_whole"] (defScope st_law_ways_right) := ⟨rfl, rfl, rfl, by decide +kernel, rfl, by decide +kernel, by decide +kernel⟩
abbrev st_law_inside_right : Stmt := topS 107
theorem sc__law_inside_right : FnScope ["_law_pot_here", "_law_field", "_law_world_here", "_law_whole", "_law_leader", "_law_led_here", "_law_due", "_law_one"] ["_law_pot_here", "_law_field", "_law_world_here", "_law_whole"] (defScope st_law_inside_right) := ⟨rfl, rfl, rfl, by decide +kernel, rfl, by decide +kernel, by decide +kernel⟩
abbrev st_law_outside_right : Stmt := topS 109
theorem sc__law_outside_right : FnScope ["_law_pot_here", "_law_field", "_law_world_here", "_law_whole", "_law_leader"] ["_law_pot_here", "_law_field", "_law_world_here", "_law_whole"] (defScope st_law_outside_right) := ⟨rfl, rfl, rfl, by decide +kernel, rfl, by decide +kernel, by decide +kernel⟩
def fSome : G.FE := (G.fLst (G.aCons (G.fTup (G.aCons (G.fC (.int 2)) (G.aCons (G.fLst (G.aCons (G.fC (.int 1)) (G.aCons (G.fC (.int 1)) (G.aCons (G.fC (.int 1)) G.aNil)))) G.aNil))) (G.aCons (G.fTup (G.aCons (G.fC (.int 2)) (G.aCons (G.fLst (G.aCons (G.fC (.int 1)) (G.aCons (G.fC (.int 1)) (G.aCons (G.fC (.int 0)) (G.aCons (G.fC (.int 1)) G.aNil))))) G.aNil))) (G.aCons (G.fTup (G.aCons (G.fC (.int 3)) (G.aCons (G.fLst (G.aCons (G.fC (.int 1)) (G.aCons (G.fC (.int 0)) (G.aCons (G.fC (.int 1)) G.aNil)))) G.aNil))) (G.aCons (G.fTup (G.aCons (G.fC (.int 2)) (G.aCons (G.fLst (G.aCons (G.fC (.int 1)) (G.aCons (G.fC (.int 1)) (G.aCons (G.fC (.int 0)) (G.aCons (G.fC (.int 0)) (G.aCons (G.fC (.int 1)) G.aNil)))))) G.aNil))) (G.aCons (G.fTup (G.aCons (G.fC (.int 2)) (G.aCons (G.fLst (G.aCons (G.fC (.int 1)) (G.aCons (G.fC (.int 0)) (G.aCons (G.fC (.int 1)) (G.aCons (G.fC (.int 1)) G.aNil))))) G.aNil))) (G.aCons (G.fTup (G.aCons (G.fC (.int 5)) (G.aCons (G.fLst (G.aCons (G.fC (.int 2)) (G.aCons (G.fC (.int 0)) (G.aCons (G.fC (.int 1)) G.aNil)))) G.aNil))) (G.aCons (G.fTup (G.aCons (G.fC (.int 3)) (G.aCons (G.fLst (G.aCons (G.fC (.int 1)) (G.aCons (G.fC (.int 2)) (G.aCons (G.fC (.int 0)) (G.aCons (G.fC (.int 1)) G.aNil))))) G.aNil))) G.aNil))))))))
def fields7 : List (Int × List Int) := [(2, [1, 1, 1]), (2, [1, 1, 0, 1]), (3, [1, 0, 1]), (2, [1, 1, 0, 0, 1]), (2, [1, 0, 1, 1]), (5, [2, 0, 1]), (3, [1, 2, 0, 1])]
theorem ev_some (ρ : G.Env) : fSome ρ = some (.lst (fields7.map fun p => G.D.tup [.int p.1, S.L p.2])) := rfl
theorem xe_some {C : Addr} : XE C [] false (tLst (tCons (tTup (tCons (tC (.int 2)) (tCons (tLst (tCons (tC (.int 1)) (tCons (tC (.int 1)) (tCons (tC (.int 1)) tNil)))) tNil))) (tCons (tTup (tCons (tC (.int 2)) (tCons (tLst (tCons (tC (.int 1)) (tCons (tC (.int 1)) (tCons (tC (.int 0)) (tCons (tC (.int 1)) tNil))))) tNil))) (tCons (tTup (tCons (tC (.int 3)) (tCons (tLst (tCons (tC (.int 1)) (tCons (tC (.int 0)) (tCons (tC (.int 1)) tNil)))) tNil))) (tCons (tTup (tCons (tC (.int 2)) (tCons (tLst (tCons (tC (.int 1)) (tCons (tC (.int 1)) (tCons (tC (.int 0)) (tCons (tC (.int 0)) (tCons (tC (.int 1)) tNil)))))) tNil))) (tCons (tTup (tCons (tC (.int 2)) (tCons (tLst (tCons (tC (.int 1)) (tCons (tC (.int 0)) (tCons (tC (.int 1)) (tCons (tC (.int 1)) tNil))))) tNil))) (tCons (tTup (tCons (tC (.int 5)) (tCons (tLst (tCons (tC (.int 2)) (tCons (tC (.int 0)) (tCons (tC (.int 1)) tNil)))) tNil))) (tCons (tTup (tCons (tC (.int 3)) (tCons (tLst (tCons (tC (.int 1)) (tCons (tC (.int 2)) (tCons (tC (.int 0)) (tCons (tC (.int 1)) tNil))))) tNil))) tNil)))))))) fSome := (x_of_f (x_lst (a_cons (x_tup (a_cons x_int (a_cons (x_of_f (x_lst (a_cons x_int (a_cons x_int (a_cons x_int a_nil))) (Few.ok (.cons (.cons (.cons .nil)))))) a_nil)) (Few.ok (.cons (.cons .nil)))) (a_cons (x_tup (a_cons x_int (a_cons (x_of_f (x_lst (a_cons x_int (a_cons x_int (a_cons x_int (a_cons x_int a_nil)))) (Few.ok (.cons (.cons (.cons (.cons .nil))))))) a_nil)) (Few.ok (.cons (.cons .nil)))) (a_cons (x_tup (a_cons x_int (a_cons (x_of_f (x_lst (a_cons x_int (a_cons x_int (a_cons x_int a_nil))) (Few.ok (.cons (.cons (.cons .nil)))))) a_nil)) (Few.ok (.cons (.cons .nil)))) (a_cons (x_tup (a_cons x_int (a_cons (x_of_f (x_lst (a_cons x_int (a_cons x_int (a_cons x_int (a_cons x_int (a_cons x_int a_nil))))) (Few.ok (.cons (.cons (.cons (.cons (.cons .nil)))))))) a_nil)) (Few.ok (.cons (.cons .nil)))) (a_cons (x_tup (a_cons x_int (a_cons (x_of_f (x_lst (a_cons x_int (a_cons x_int (a_cons x_int (a_cons x_int a_nil)))) (Few.ok (.cons (.cons (.cons (.cons .nil))))))) a_nil)) (Few.ok (.cons (.cons .nil)))) (a_cons (x_tup (a_cons x_int (a_cons (x_of_f (x_lst (a_cons x_int (a_cons x_int (a_cons x_int a_nil))) (Few.ok (.cons (.cons (.cons .nil)))))) a_nil)) (Few.ok (.cons (.cons .nil)))) (a_cons (x_tup (a_cons x_int (a_cons (x_of_f (x_lst (a_cons x_int (a_cons x_int (a_cons x_int (a_cons x_int a_nil)))) (Few.ok (.cons (.cons (.cons (.cons .nil))))))) a_nil)) (Few.ok (.cons (.cons .nil)))) a_nil))))))) (Few.ok (.cons (.cons (.cons (.cons (.cons (.cons (.cons .nil))))))))))
section
variable {P : Program} {w : World} {K : PySem.W.Frag} {mg : Str → Option Value} {base : Heap} {C : Addr}
theorem ok_law_pick (T : Tx K mg C) (k_law_draw : Kn P w K mg base "_law_draw" 1 ["_law_pot_here", "_law_size"] (spP C preDraw RDraw)) {f : Addr} {fd : FuncData} (F : Fn K "_law_pick" st_law_pick f fd) : FnOk P w K mg base CX0 2 f fd ["_law_pot_here", "_law_some"] (spP C prePick RPick) := by
  refine F.ok sc_law_pick (fun vs H Q E h => ?_) (fun cdv A outer s H vs Q E hr h => ?_)
  · obtain ⟨S0, pot, vs', ds, rfl, _, _, _, hd, ⟨l, rfl, _⟩, _⟩ := h
    exact congrArg (· + 1) hd.length
  · refine ⟨_, PSs.nox (pss_one (ps_ret (pe_ix ix_list (pv 1) (pe_kn k_law_draw (hr.mono (by decide)) rfl (pa_cons (pv 0) (pa_cons (pe_callB call_len_seq (by rfl) T.f_len bt_len (pa_cons (pv 1) pa_nil)) pa_nil))) (fun _ _ => rfl)))), ?_⟩
    obtain ⟨S0, pot, vs', ds, rfl, hdom, hS, pa, hd, ⟨l, rfl, hl1, hl2⟩, q⟩ := h
    have h := start_pst (N := ["_law_pot_here", "_law_some"]) (ns := 0) hdom hS pa hd rfl
    obtain ⟨v, hv, dv⟩ := h.get (i := 1) (d := .lst l) rfl
    refine ⟨v, hv, ?_⟩
    refine h.draw (x_len x_varw) (n := (l.length : Int)) rfl (by omega) (by omega) fun k H1 k1 k2 e1 h1 => ?_
    have dv1 := dv.mono (e1.see0 hS)
    cases dv1 with
    | @lst a xs ds a1 a2 =>
      have hk : k.toNat < l.length := by omega
      obtain ⟨x, y1, y2⟩ := pIx_at (i := k) (d := l[k.toNat]) a2 (by unfold G.pIx; rw [if_pos k1, List.getElem?_eq_getElem hk])
      exact ⟨a, xs, k, x, rfl, rfl, .inl (.inl (hid_some a1).2), y1, q _ x H1 ⟨l, rfl, List.getElem_mem hk⟩ e1 h1.pa y2⟩
theorem ok_law_element (T : Tx K mg C) (k_law_draw : Kn P w K mg base "_law_draw" 1 ["_law_pot_here", "_law_size"] (spP C preDraw RDraw)) {f : Addr} {fd : FuncData} (F : Fn K "_law_element" st_law_element f fd) : FnOk P w K mg base CX0 2 f fd ["_law_pot_here", "_law_world_here"] (spP C preEl REl) := by
  refine F.ok sc_law_element (fun vs H Q E h => ?_) (fun cdv A outer s H vs Q E hr h => ?_)
  · obtain ⟨S0, pot, vs', ds, rfl, _, _, _, hd, ⟨l, q, rfl, _⟩, _⟩ := h
    exact congrArg (· + 1) hd.length
  · refine ⟨_, PSs.nox (pss_one (ps_ret (pe_kn k_law_draw (hr.mono (by decide)) rfl (pa_cons (pv 0) (pa_cons (pe_ix ix_list (pv 1) pe_int (fun _ _ => rfl)) pa_nil))))), ?_⟩
    obtain ⟨S0, pot, vs', ds, rfl, hdom, hS, pa, hd, ⟨l, qq, rfl, hq, hq1, hq2⟩, q⟩ := h
    have h := start_pst (N := ["_law_pot_here", "_law_world_here"]) (ns := 0) hdom hS pa hd rfl
    refine h.draw (x_ixL x_varw x_int) (n := qq) (ev_q rfl hq) (by omega) hq2 fun k H1 k1 k2 e1 h1 => ?_
    exact q _ _ H1 ⟨l, qq, k, rfl, ⟨hq, hq1, hq2⟩, rfl, k1, k2⟩ e1 h1.pa (.int k)
theorem ok_law_told_field (T : Tx K mg C) (k_law_pick : Kn P w K mg base "_law_pick" 2 ["_law_pot_here", "_law_some"] (spP C prePick RPick)) {f : Addr} {fd : FuncData} (F : Fn K "_law_told_field" st_law_told_field f fd) : FnOk P w K mg base CX0 3 f fd ["_law_pot_here", "_law_most"] (spP C preTold RTold) := by
  refine F.ok sc__law_told_field (fun vs H Q E h => ?_) (fun cdv A outer s H vs Q E hr h => ?_)
  · obtain ⟨S0, pot, vs', ds, rfl, _, _, _, hd, hp, _⟩ := h
    cases hp
    exact congrArg (· + 1) hd.length
  · refine ⟨_, PSs.nox (pss_cons (ps_set (i := 2) sc__law_told_field.nd rfl (by first | exact .inl rfl | exact .inr rfl) (pe_lst (pa_cons (pe_tup (pa_cons pe_int (pa_cons (pe_lst (pa_cons pe_int (pa_cons pe_int (pa_cons pe_int pa_nil)))) pa_nil))) (pa_cons (pe_tup (pa_cons pe_int (pa_cons (pe_lst (pa_cons pe_int (pa_cons pe_int (pa_cons pe_int (pa_cons pe_int pa_nil))))) pa_nil))) (pa_cons (pe_tup (pa_cons pe_int (pa_cons (pe_lst (pa_cons pe_int (pa_cons pe_int (pa_cons pe_int pa_nil)))) pa_nil))) (pa_cons (pe_tup (pa_cons pe_int (pa_cons (pe_lst (pa_cons pe_int (pa_cons pe_int (pa_cons pe_int (pa_cons pe_int (pa_cons pe_int pa_nil)))))) pa_nil))) (pa_cons (pe_tup (pa_cons pe_int (pa_cons (pe_lst (pa_cons pe_int (pa_cons pe_int (pa_cons pe_int (pa_cons pe_int pa_nil))))) pa_nil))) (pa_cons (pe_tup (pa_cons pe_int (pa_cons (pe_lst (pa_cons pe_int (pa_cons pe_int (pa_cons pe_int pa_nil)))) pa_nil))) (pa_cons (pe_tup (pa_cons pe_int (pa_cons (pe_lst (pa_cons pe_int (pa_cons pe_int (pa_cons pe_int (pa_cons pe_int pa_nil))))) pa_nil))) pa_nil)))))))))
      (pss_one (ps_ret (pe_kn k_law_pick (hr.mono (by decide)) rfl (pa_cons (pv 0) (pa_cons (pe_slice sl_list (pv 2) po_none (po_some (pv 1))) pa_nil)))))), ?_⟩
    obtain ⟨S0, pot, vs', ds, rfl, hdom, hS, pa, hd, hp, q⟩ := h
    cases hp
    have h := start_pst (N := ["_law_pot_here", "_law_most", "_law_some"]) (ns := 1) hdom hS pa hd rfl
    have hx : XE C [] false _ fSome := xe_some
    refine asgq_go (h.x hx (ev_some _) fun v H1 x1 h1 dv => ?_)
    have h2 := h1.set (i := 2) (by decide) dv
    refine h2.call (a_cons (x_of_f (x_sl x_varw o_none (o_some x_varw))) a_nil) (ev_cons rfl rfl) ⟨_, rfl, by decide, by decide⟩ fun d v H3 r e3 h3 d3 => ?_
    obtain ⟨l, e1, hm⟩ := r
    injection e1 with e1
    injection e1 with e1
    subst e1
    have hm' : d ∈ S.fields4.map fun p => G.D.tup [.int p.1, S.L p.2] := hm
    obtain ⟨p, p1, p2⟩ := List.mem_map.mp hm'
    exact q d v H3 ⟨p, p1, p2.symm⟩ ((Exb.of x1).trans e3) h3.pa d3
theorem ok_law_lines (T : Tx K mg C) (k_law_draw : Kn P w K mg base "_law_draw" 1 ["_law_pot_here", "_law_size"] (spP C preDraw RDraw)) (k_law_element : Kn P w K mg base "_law_element" 2 ["_law_pot_here", "_law_world_here"] (spP C preEl REl)) (k_law_put : Kn P w K mg base "_law_put" 2 ["_law_world_here", "_law_one", "_law_other"] (spF C S.law_put)) (k_law_line : Kn P w K mg base "_law_line" 1 ["_law_world_here", "_law_one"] (spF C S.law_line)) {f : Addr} {fd : FuncData} (F : Fn K "_law_lines" st_law_lines f fd) : FnOk P w K mg base CX0 3 f fd ["_law_pot_here", "_law_world_here", "_law_degree"] (spP C preLns RLns) := by
  refine F.ok sc__law_lines (fun vs H Q E h => ?_) (fun cdv A outer s H vs Q E hr h => ?_)
  · obtain ⟨S0, pot, vs', ds, rfl, _, _, _, hd, ⟨l, q, m, rfl, _⟩, _⟩ := h
    exact congrArg (· + 1) hd.length
  · refine ⟨_, PSs.nox (pss_cons (ps_set (i := 3) sc__law_lines.nd rfl (by first | exact .inl rfl | exact .inr rfl) (pe_lst (pa_cons (pe_op op_add pe_int (pe_kn k_law_draw (hr.mono (by decide)) rfl (pa_cons (pv 0) (pa_cons (pe_op op_sub (pe_ix ix_list (pv 1) pe_int (fun _ _ => rfl)) pe_int) pa_nil)))) pa_nil)))
      (pss_cons (ps_for PassesOwn.never rfl (pi_range1 rfl T.f_range (pa_cons (pv 2) pa_nil)) (pg_name (i := 4) sc__law_lines.nd rfl (by first | exact .inl rfl | exact .inr rfl))
        (pss_one (ps_set (i := 3) sc__law_lines.nd rfl (by first | exact .inl rfl | exact .inr rfl) (pe_kn k_law_put (hr.mono (by decide)) rfl (pa_cons (pv 1) (pa_cons (pv 3) (pa_cons (pe_kn k_law_line (hr.mono (by decide)) rfl (pa_cons (pv 1) (pa_cons (pe_kn k_law_element (hr.mono (by decide)) rfl (pa_cons (pv 0) (pa_cons (pv 1) pa_nil))) pa_nil))) pa_nil)))))))
      (pss_one (ps_ret (pv 3))))), ?_⟩
    obtain ⟨S0, pot, vs', ds, rfl, hdom, hS, pa, hd, ⟨l, qq, m, rfl, ⟨hq, hq1, hq2⟩, hm0, hm1, hok⟩, q⟩ := h
    have h := start_pst (N := ["_law_pot_here", "_law_world_here", "_law_degree", "_law_found", "_law_turn"]) (ns := 2) hdom hS pa hd rfl
    refine lstq_go (add_go (h.draw xe_q1 (n := qq - 1) (ev_q1 rfl hq) (by omega) (by omega) fun k H1 k1 k2 e1 h1 => ⟨1, k, rfl, rfl, by decide, fun p hp => ?_⟩))
    have n0 : S0 p = false := by
      cases z : S0 p with
      | false => rfl
      | true => exact absurd hp (h1.dom p z)
    have x2 : Ex H1 (upd H1 p (.lst [.int (1 + k)])) := Ex.new hp
    have h2 := (h1.mono x2).set (i := 3) (v := .ref p) (d := .lst [.int (1 + k)]) (by decide) (.lst (hid_of n0 upd_same) (.cons (.int _) .nil))
    refine forq_go (((i_range1 (x_varw (i := 2))).run S0 _ _ _ _ h2.s ((List.range m.toNat).map fun i => G.D.int (i : Nat)) (by
      show (if m ≤ 100000 ∧ -100000 ≤ m then some ((List.range m.toNat).map fun i => G.D.int (i : Nat)) else none) = _
      rw [if_pos ⟨by omega, by omega⟩])).2 _ fun J H3 x3 good => ?_)
    obtain ⟨Gd, Y, wk, hG, hY⟩ := good
    have elen : ((List.range m.toNat).map fun i => G.D.int (i : Nat)).length = m.toNat := by rw [List.length_map, List.length_range]
    refine for_it wk (fun i σ4 H4 => ∃ f o, PSt C S0 pot σ4 [none, some (.lst l), some (.int m), some f, o] H4 ∧ σ4.length = 5 ∧ Exb pot H3 H4 ∧ S.Lns (.lst l) qq i f)
      ⟨_, none, h2.mono x3, by rw [List.length_set, h.s.len]; rfl, Exb.of (Ex.refl _), .base (1 + k) (by omega) (by omega)⟩ ?_ ?_ ?_
    · rintro i σ4 H4 _ ⟨f, o, p1, _, p2, p3⟩
      exact hG H4 (p2.see (sv1 _ hS))
    · rintro i x σ4 H4 H5 hi ⟨f, o, p1, pl, p2, p3⟩ y
      rw [elen] at hi
      have hit : ((List.range m.toNat).map fun i => G.D.int (i : Nat))[i]? = some (.int (i : Nat)) := by
        rw [List.getElem?_map, List.getElem?_range hi]
        rfl
      obtain ⟨y1, y2⟩ := hY i S0 H4 x H5 _ hit p1.dom ((ex_unhid sv1).trans (p2.see0 hS)) y
      have h5 := (p1.mono y1).set (i := 4) (by decide) y2
      have h5' : PSt C S0 pot (σ4.set 4 (some x)) [none, some (.lst l), some (.int m), some f, some (.int (i : Nat))] H5 := h5
      obtain ⟨wv, hw, dw⟩ := h5'.get (i := 1) rfl
      obtain ⟨fv, hf, df⟩ := h5'.get (i := 3) rfl
      refine ⟨wv, hw, fv, hf, wv, hw, ?_⟩
      refine h5'.call (pre := preEl) (R := REl) (a_cons (x_varw (i := 1)) a_nil) (ev_cons rfl rfl) ⟨l, qq, rfl, hq, hq1, hq2⟩ fun d v H6 r e6 h6 d6 => ?_
      obtain ⟨l', q', a, el, hq', ed, a1, a2⟩ := r
      injection el with el
      injection el with el
      subst el
      have eq' : q' = qq := by
        have := hq'.1.symm.trans hq
        injection this with this
        injection this
      subst eq'
      subst ed
      have ev := dat_int d6
      subst ev
      obtain ⟨xl, g, g1, g2⟩ := hok i f a p3 hi a1 a2
      refine ⟨S0, [.lst l, .int a], xl, h6.dom, .cons (dw.mono (e6.see0 hS)) (.cons (.int a) .nil), g1, fun v7 H7 x7 d7 => ?_⟩
      have see7 : Ex (hid S0 H5) (hid S0 H7) := (e6.see0 hS).trans (ex_hid x7)
      refine ⟨S0, [.lst l, f, xl], g, (h6.mono x7).dom, .cons (dw.mono see7) (.cons (df.mono see7) (.cons d7 .nil)), g2, fun v8 H8 x8 d8 => ?_⟩
      have h8 := ((h6.mono x7).mono x8).set (i := 3) (by decide) d8
      exact ⟨g, _, h8, by rw [List.length_set, List.length_set, pl], (p2.trans (Exb.of y1)).trans (e6.trans (Exb.of (x7.trans x8))), .step a p3 a1 a2 g1 g2⟩
    · rintro σ4 H4 ⟨f, o, p1, pl, p2, p3⟩
      rw [elen] at p3
      obtain ⟨fv, hf, df⟩ := p1.get (i := 3) rfl
      exact ⟨fv, hf, q f fv H4 ⟨l, qq, m, rfl, ⟨hq, hq1, hq2⟩, p3⟩ (e1.trans ((Exb.of (x2.trans x3)).trans p2)) p1.pa df⟩
theorem ok_law_lines_right (T : Tx K mg C) (k_law_draw : Kn P w K mg base "_law_draw" 1 ["_law_pot_here", "_law_size"] (spP C preDraw RDraw)) (k_law_element : Kn P w K mg base "_law_element" 2 ["_law_pot_here", "_law_world_here"] (spP C preEl REl)) (k_law_led : Kn P w K mg base "_law_led" 1 ["_law_world_here", "_law_one", "_law_leader"] (spF C S.law_led)) (k_law_line : Kn P w K mg base "_law_line" 1 ["_law_world_here", "_law_one"] (spF C S.law_line)) (k_law_put : Kn P w K mg base "_law_put" 2 ["_law_world_here", "_law_one", "_law_other"] (spF C S.law_put)) (k_law_turned : Kn P w K mg base "_law_turned" 1 ["_law_world_here", "_law_one", "_law_many"] (spF C S.law_turned)) (k_is_like_by : Kn P w K mg base "is_like_by" 6 ["field", "one", "other", "value"] (spF C S.is_like_by)) (k_put : Kn P w K mg base "put" 7 ["field", "turner", "other"] (spF C S.put)) {f : Addr} {fd : FuncData} (F : Fn K "_law_lines_right" st_law_lines_right f fd) : FnOk P w K mg base CX0 8 f fd ["_law_pot_here", "_law_field", "_law_world_here"] (spP C preLR RTrue) := by
  refine F.ok sc__law_lines_right (fun vs H Q E h => ?_) (fun cdv A outer s H vs Q E hr h => ?_)
  · obtain ⟨S0, pot, vs', ds, rfl, _, _, _, hd, ⟨F, l, q, rfl, _⟩, _⟩ := h
    exact congrArg (· + 1) hd.length
  · refine ⟨_, PSs.nox (pss_cons (ps_par (i := 6) (j := 7) (by rfl) sc__law_lines_right.nd rfl rfl (by decide) rfl rfl (pa_cons (pe_kn k_law_element (hr.mono (by decide)) rfl (pa_cons (pv 0) (pa_cons (pv 2) pa_nil))) (pa_cons (pe_op op_add pe_int (pe_kn k_law_draw (hr.mono (by decide)) rfl (pa_cons (pv 0) (pa_cons (pe_op op_sub (pe_ix ix_list (pv 2) pe_int (fun _ _ => rfl)) pe_int) pa_nil)))) pa_nil)) (by rfl))
      (pss_cons (ps_set (i := 3) sc__law_lines_right.nd rfl (by first | exact .inl rfl | exact .inr rfl) (pe_kn k_law_led (hr.mono (by decide)) rfl (pa_cons (pv 2) (pa_cons (pv 6) (pa_cons (pv 7) pa_nil)))))
  (pss_cons (ps_set (i := 4) sc__law_lines_right.nd rfl (by first | exact .inl rfl | exact .inr rfl) (pe_kn k_law_put (hr.mono (by decide)) rfl (pa_cons (pv 2) (pa_cons (pe_kn k_law_line (hr.mono (by decide)) rfl (pa_cons (pv 2) (pa_cons (pv 3) pa_nil))) (pa_cons (pe_lst (pa_cons (pv 7) pa_nil)) pa_nil)))))
  (pss_cons (ps_set (i := 5) sc__law_lines_right.nd rfl (by first | exact .inl rfl | exact .inr rfl) (pe_kn k_law_put (hr.mono (by decide)) rfl (pa_cons (pv 2) (pa_cons (pe_lst (pa_cons (pe_kn k_law_turned (hr.mono (by decide)) rfl (pa_cons (pv 2) (pa_cons (pv 7) (pa_cons pe_int pa_nil)))) pa_nil)) (pa_cons (pe_kn k_law_line (hr.mono (by decide)) rfl (pa_cons (pv 2) (pa_cons (pv 6) pa_nil))) pa_nil)))))
  (pss_cons (ps_if (PW.pt (pw_or (pt_cmpR (op_neD hr.units) (pv 4) (pv 5) (nomark _)) (pw_or1 (pt_cmpR (op_neD hr.units) (pe_kn k_put (hr.mono (by decide)) rfl (pa_cons (pv 1) (pa_cons (pe_kn k_law_line (hr.mono (by decide)) rfl (pa_cons (pv 2) (pa_cons (pv 3) pa_nil))) (pa_cons (pe_lst (pa_cons (pv 7) pa_nil)) pa_nil)))) (pv 4) (nomark _))))) (pss_one (ps_ret pe_bl)) pss_nil)
  (pss_one (ps_ret (pe_cmpR op_isBl (pe_kn k_is_like_by (hr.mono (by decide)) rfl (pa_cons (pv 1) (pa_cons (pv 6) (pa_cons (pv 3) (pa_cons (pv 7) pa_nil))))) pe_bl (nomark _))))))))), ?_⟩
    obtain ⟨S0, pot, vs', ds, rfl, hdom, hS, pa, hd, ⟨F, l, qq, rfl, ⟨hq, hq1, hq2⟩, hok⟩, q⟩ := h
    have h := start_pst (N := ["_law_pot_here", "_law_field", "_law_world_here", "_law_other", "_law_near", "_law_far", "_law_one", "_law_leader"]) (ns := 5) hdom hS pa hd rfl
    refine parq_go (h.call (pre := preEl) (R := REl) (a_cons (x_varw (i := 2)) a_nil) (ev_cons rfl rfl) ⟨l, qq, rfl, hq, hq1, hq2⟩ fun d v H1 r e1 h1 d1 => ?_)
    obtain ⟨l', q', a, el, hq', ed, a1, a2⟩ := r
    injection el with el
    injection el with el
    subst el
    have eq' : q' = qq := by
      have := hq'.1.symm.trans hq
      injection this with this
      injection this
    subst eq'
    subst ed
    have ev := dat_int d1
    subst ev
    refine add_go (h1.draw xe_q1 (n := q' - 1) (ev_q1 rfl hq) (by omega) (by omega) fun k H2 k1 k2 e2 h2 => ⟨1, k, rfl, rfl, ?_⟩)
    have h3 := (h2.set (i := 6) (by decide) (.int a)).set (i := 7) (by decide) (.int (1 + k))
    exact h3.tail (s_seq (s_asg (x_call (a_cons (x_var (by decide)) (a_cons (x_var (by decide)) (a_cons (x_var (by decide)) a_nil)))) (g_name (by decide)))
  (s_seq (s_asg (x_call (a_cons (x_var (by decide)) (a_cons (x_call (a_cons (x_var (by decide)) (a_cons (x_var (by decide)) a_nil))) (a_cons (x_of_f (x_lst (a_cons (x_var (by decide)) a_nil) (Few.ok (.cons .nil)))) a_nil)))) (g_name (by decide)))
  (s_seq (s_asg (x_call (a_cons (x_var (by decide)) (a_cons (x_of_f (x_lst (a_cons (x_call (a_cons (x_var (by decide)) (a_cons (x_var (by decide)) (a_cons x_int a_nil)))) a_nil) (Few.ok (.cons .nil)))) (a_cons (x_call (a_cons (x_var (by decide)) (a_cons (x_var (by decide)) a_nil))) a_nil)))) (g_name (by decide)))
  (s_seq (s_if (t_or (t_test (x_neD x_varw x_varw)) (t_test (x_neD (x_call (a_cons x_varw (a_cons (x_call (a_cons x_varw (a_cons x_varw a_nil))) (a_cons (x_of_f (x_lst (a_cons x_varw a_nil) (Few.ok (.cons .nil)))) a_nil)))) x_varw))) (s_ret x_bl) s_next)
  (s_ret (x_isTrue (x_call (a_cons x_varw (a_cons x_varw (a_cons x_varw (a_cons x_varw a_nil))))))))))) (hok a (1 + k) a1 a2 (by omega) (by omega)) fun v H4 x4 p4 d4 => q _ v H4 rfl ((e1.trans e2).trans (Exb.of x4)) p4 d4
theorem ok_law_inside_right (T : Tx K mg C) (k_law_draw : Kn P w K mg base "_law_draw" 1 ["_law_pot_here", "_law_size"] (spP C preDraw RDraw)) (k_law_back : Kn P w K mg base "_law_back" 2 ["_law_world_here", "_law_one", "_law_leader"] (spF C S.law_back)) (k_law_put : Kn P w K mg base "_law_put" 2 ["_law_world_here", "_law_one", "_law_other"] (spF C S.law_put)) (k_inner_ones : Kn P w K mg base "inner_ones" 7 ["field", "turner"] (spF C S.inner_ones)) (k_told : Kn P w K mg base "told" 6 ["field", "turner"] (spF C S.told)) {f : Addr} {fd : FuncData} (F : Fn K "_law_inside_right" st_law_inside_right f fd) : FnOk P w K mg base CX0 8 f fd ["_law_pot_here", "_law_field", "_law_world_here", "_law_whole"] (spP C preIR RTrue) := by
  refine F.ok sc__law_inside_right (fun vs H Q E h => ?_) (fun cdv A outer s H vs Q E hr h => ?_)
  · obtain ⟨S0, pot, vs', ds, rfl, _, _, _, hd, ⟨F, l, q, f, rfl, _⟩, _⟩ := h
    exact congrArg (· + 1) hd.length
  · refine ⟨_, PSs.nox (pss_cons (ps_set (i := 4) sc__law_inside_right.nd rfl (by first | exact .inl rfl | exact .inr rfl) (pe_op op_add pe_int (pe_kn k_law_draw (hr.mono (by decide)) rfl (pa_cons (pv 0) (pa_cons (pe_op op_sub (pe_ix ix_list (pv 2) pe_int (fun _ _ => rfl)) pe_int) pa_nil)))))
      (pss_cons (ps_set (i := 5) sc__law_inside_right.nd rfl (by first | exact .inl rfl | exact .inr rfl) (pe_kn k_law_put (hr.mono (by decide)) rfl (pa_cons (pv 2) (pa_cons (pv 3) (pa_cons (pe_lst (pa_cons (pv 4) pa_nil)) pa_nil)))))
  (pss_cons (ps_set (i := 6) sc__law_inside_right.nd rfl (by first | exact .inl rfl | exact .inr rfl) (pe_callB cr_sortedI (by rfl) T.f_sorted bt_sorted (pa_cons (pe_lc (own := [("_law_one", 7)]) rfl sc__law_inside_right.nd (pi_list (pe_kn k_inner_ones (hr.mono (by decide)) rfl (pa_cons (pv 1) (pa_cons (pv 3) pa_nil)))) (blkOk_by (by kernel_rfl)) (fun _ _ _ _ _ => (pg_name (i := 7) sc__law_inside_right.nd rfl (by first | exact .inl rfl | exact .inr rfl))) (fun _ _ _ _ _ => pts_nil) (fun _ _ _ _ _ => (pe_kn k_law_back (hr.mono (by decide)) rfl (pa_cons (pv 2) (pa_cons (pv 7) (pa_cons (pv 4) pa_nil)))))) pa_nil)))
  (pss_one (ps_ret (pe_and (pe_cmpR (op_eqD hr.units) (pe_kn k_inner_ones (hr.mono (by decide)) rfl (pa_cons (pv 1) (pa_cons (pv 5) pa_nil))) (pv 6) (nomark _)) (pe_one (pe_cmpR op_eq (pe_callB call_len_seq (by rfl) T.f_len bt_len (pa_cons (pe_kn k_told (hr.mono (by decide)) rfl (pa_cons (pv 1) (pa_cons (pv 5) pa_nil))) pa_nil)) (pe_callB call_len_seq (by rfl) T.f_len bt_len (pa_cons (pv 3) pa_nil)) (nomark _))))))))), ?_⟩
    obtain ⟨S0, pot, vs', ds, rfl, hdom, hS, pa, hd, ⟨F, l, qq, f, rfl, ⟨hq, hq1, hq2⟩, hok⟩, q⟩ := h
    have h := start_pst (N := ["_law_pot_here", "_law_field", "_law_world_here", "_law_whole", "_law_leader", "_law_led_here", "_law_due", "_law_one"]) (ns := 4) hdom hS pa hd rfl
    refine asgq_go (add_go (h.draw xe_q1 (n := qq - 1) (ev_q1 rfl hq) (by omega) (by omega) fun k H2 k1 k2 e2 h2 => ⟨1, k, rfl, rfl, ?_⟩))
    have h3 := h2.set (i := 4) (by decide) (.int (1 + k))
    exact h3.tail (s_seq (s_asg (x_call (a_cons (x_var (by decide)) (a_cons (x_var (by decide)) (a_cons (x_of_f (x_lst (a_cons (x_var (by decide)) a_nil) (Few.ok (.cons .nil)))) a_nil)))) (g_name (by decide)))
  (s_seq (s_asg (x_of_f (x_sortI (x_of_f (f_weak (x_lc (i_list (x_call (a_cons (x_var (by decide)) (a_cons (x_var (by decide)) a_nil)))) (g_name (by decide)) (by decide) t_yes (x_call (a_cons (x_var (by decide)) (a_cons (x_var (by decide)) (a_cons (x_var (by decide)) a_nil))))))))) (g_name (by decide)))
  (s_ret (x_andV (x_eqD (x_call (a_cons x_varw (a_cons x_varw a_nil))) x_varw) (x_i2 ir_eq (x_len (x_call (a_cons x_varw (a_cons x_varw a_nil)))) (x_len x_varw)))))) (hok (1 + k) (by omega) (by omega)) fun v H4 x4 p4 d4 => q _ v H4 rfl (e2.trans (Exb.of x4)) p4 d4
theorem ok_law_outside_right (T : Tx K mg C) (k_law_draw : Kn P w K mg base "_law_draw" 1 ["_law_pot_here", "_law_size"] (spP C preDraw RDraw)) (k_law_put : Kn P w K mg base "_law_put" 2 ["_law_world_here", "_law_one", "_law_other"] (spF C S.law_put)) (k_outer_ones : Kn P w K mg base "outer_ones" 7 ["field", "turner"] (spF C S.outer_ones)) {f : Addr} {fd : FuncData} (F : Fn K "_law_outside_right" st_law_outside_right f fd) : FnOk P w K mg base CX0 8 f fd ["_law_pot_here", "_law_field", "_law_world_here", "_law_whole"] (spP C preOR RTrue) := by
  refine F.ok sc__law_outside_right (fun vs H Q E h => ?_) (fun cdv A outer s H vs Q E hr h => ?_)
  · obtain ⟨S0, pot, vs', ds, rfl, _, _, _, hd, ⟨F, l, q, f, rfl, _⟩, _⟩ := h
    exact congrArg (· + 1) hd.length
  · refine ⟨_, PSs.nox (pss_cons (ps_set (i := 4) sc__law_outside_right.nd rfl (by first | exact .inl rfl | exact .inr rfl) (pe_op op_add pe_int (pe_kn k_law_draw (hr.mono (by decide)) rfl (pa_cons (pv 0) (pa_cons (pe_op op_sub (pe_ix ix_list (pv 2) pe_int (fun _ _ => rfl)) pe_int) pa_nil)))))
      (pss_one (ps_ret (pe_cmpR (op_eqD hr.units) (pe_kn k_outer_ones (hr.mono (by decide)) rfl (pa_cons (pv 1) (pa_cons (pe_kn k_law_put (hr.mono (by decide)) rfl (pa_cons (pv 2) (pa_cons (pv 3) (pa_cons (pe_lst (pa_cons (pv 4) pa_nil)) pa_nil)))) pa_nil))) (pe_kn k_outer_ones (hr.mono (by decide)) rfl (pa_cons (pv 1) (pa_cons (pv 3) pa_nil))) (nomark _))))), ?_⟩
    obtain ⟨S0, pot, vs', ds, rfl, hdom, hS, pa, hd, ⟨F, l, qq, f, rfl, ⟨hq, hq1, hq2⟩, hok⟩, q⟩ := h
    have h := start_pst (N := ["_law_pot_here", "_law_field", "_law_world_here", "_law_whole", "_law_leader"]) (ns := 1) hdom hS pa hd rfl
    refine asgq_go (add_go (h.draw xe_q1 (n := qq - 1) (ev_q1 rfl hq) (by omega) (by omega) fun k H2 k1 k2 e2 h2 => ⟨1, k, rfl, rfl, ?_⟩))
    have h3 := h2.set (i := 4) (by decide) (.int (1 + k))
    exact h3.tail (s_ret (x_eqD (x_call (a_cons x_varw (a_cons (x_call (a_cons x_varw (a_cons x_varw (a_cons (x_of_f (x_lst (a_cons x_varw a_nil) (Few.ok (.cons .nil)))) a_nil)))) a_nil))) (x_call (a_cons x_varw (a_cons x_varw a_nil))))) (hok (1 + k) (by omega) (by omega)) fun v H4 x4 p4 d4 => q _ v H4 rfl (e2.trans (Exb.of x4)) p4 d4
theorem ok_law_ways_right (T : Tx K mg C) (k_law_draw : Kn P w K mg base "_law_draw" 1 ["_law_pot_here", "_law_size"] (spP C preDraw RDraw)) (k_law_put : Kn P w K mg base "_law_put" 2 ["_law_world_here", "_law_one", "_law_other"] (spF C S.law_put)) (k_law_sorts : Kn P w K mg base "_law_sorts" 6 ["_law_field", "_law_way"] (spF C S.law_sorts)) (k_ways : Kn P w K mg base "ways" 12 ["field", "turner"] (spF C S.ways)) {f : Addr} {fd : FuncData} (F : Fn K "_law_ways_right" st_law_ways_right f fd) : FnOk P w K mg base CX0 13 f fd ["_law_pot_here", "_law_field", "_law_world_here", "_law_whole"] (spP C preWR RTrue) := by
  refine F.ok sc__law_ways_right (fun vs H Q E h => ?_) (fun cdv A outer s H vs Q E hr h => ?_)
  · obtain ⟨S0, pot, vs', ds, rfl, _, _, _, hd, ⟨F, l, q, f, rfl, _⟩, _⟩ := h
    exact congrArg (· + 1) hd.length
  · refine ⟨_, PSs.nox (pss_cons (ps_set (i := 4) sc__law_ways_right.nd rfl (by first | exact .inl rfl | exact .inr rfl) (pe_kn k_ways (hr.mono (by decide)) rfl (pa_cons (pv 1) (pa_cons (pv 3) pa_nil)))) (pss_cons (ps_if (pt_cmpR (op_eqD hr.units) (pv 4) (pe_lst pa_nil) (nomark _)) (pss_one (ps_ret pe_bl)) pss_nil) (pss_cons (ps_set (i := 5) sc__law_ways_right.nd rfl (by first | exact .inl rfl | exact .inr rfl) (pe_kn k_law_sorts (hr.mono (by decide)) rfl (pa_cons (pv 1) (pa_cons (pe_ix ix_list (pv 4) pe_int (fun _ _ => rfl)) pa_nil)))) (pss_cons (ps_if (pt_not (pt_val (pe_callB (cr_all rfl) (by rfl) T.f_all bt_all (pa_cons (pe_lc (own := [("_law_way", 7)]) rfl sc__law_ways_right.nd (pi_list (pv 4)) (blkOk_by (by kernel_rfl)) (fun _ _ _ _ _ => (pg_name (i := 7) sc__law_ways_right.nd rfl (by first | exact .inl rfl | exact .inr rfl))) (fun _ _ _ _ _ => pts_nil) (fun _ _ _ _ _ => (pe_cmpR (show OpR _ (compareOp .Eq) (rEqD K) from op_eqD hr.units) (pe_kn k_law_sorts (hr.mono (by decide)) rfl (pa_cons (pv 1) (pa_cons (pv 7) pa_nil))) (pv 5) (nomark _)))) pa_nil)))) (pss_one (ps_ret pe_bl)) pss_nil)
      (pss_cons (ps_set (i := 6) sc__law_ways_right.nd rfl (by first | exact .inl rfl | exact .inr rfl) (pe_op op_add pe_int (pe_kn k_law_draw (hr.mono (by decide)) rfl (pa_cons (pv 0) (pa_cons (pe_op op_sub (pe_ix ix_list (pv 2) pe_int (fun _ _ => rfl)) pe_int) pa_nil)))))
      (pss_one (ps_ret (pe_cmpR (op_eqD hr.units) (pe_kn k_ways (hr.mono (by decide)) rfl (pa_cons (pv 1) (pa_cons (pe_kn k_law_put (hr.mono (by decide)) rfl (pa_cons (pv 2) (pa_cons (pe_lst (pa_cons (pv 6) pa_nil)) (pa_cons (pv 3) pa_nil)))) pa_nil))) (pv 4) (nomark _))))))))), ?_⟩
    obtain ⟨S0, pot, vs', ds, rfl, hdom, hS, pa, hd, ⟨F, l, qq, f, rfl, ⟨hq, hq1, hq2⟩, rows, srt, w1, w2, w3, w4, w5⟩, q⟩ := h
    have h := start_pst (N := ["_law_pot_here", "_law_field", "_law_world_here", "_law_whole", "_law_some", "_law_sorts_here", "_law_head", "_law_way"]) (ns := 4) hdom hS pa hd rfl
    refine asgq_go (h.x (x_call (a_cons x_varw (a_cons x_varw a_nil))) (fe := S.eW1) w1 fun v1 H1 x1 h1 d1 => ?_)
    have h2 := h1.set (i := 4) (by decide) d1
    refine h2.unless (t_test (x_eqD x_varw (x_of_f (x_lst a_nil (Few.ok .nil))))) w2 fun H2 x2 h3 => ?_
    refine asgq_go (h3.x (x_call (a_cons x_varw (a_cons (x_ixL x_varw x_int) a_nil))) (fe := S.eW3) w3 fun v3 H3 x3 h4 d3 => ?_)
    have h5 := h4.set (i := 5) (by decide) d3
    refine h5.unless (t_not (t_B (x_all (x_of_f (f_weak (x_lc (i_list (x_var (by decide))) (g_name (by decide)) (by decide) t_yes (x_eqD (x_call (a_cons x_varw (a_cons x_varw a_nil))) x_varw))))))) w4 fun H4 x4 h6 => ?_
    refine asgq_go (add_go (h6.draw xe_q1 (n := qq - 1) (ev_q1 rfl hq) (by omega) (by omega) fun k H5 k1 k2 e5 h7 => ⟨1, k, rfl, rfl, ?_⟩))
    have h8 := h7.set (i := 6) (by decide) (.int (1 + k))
    exact h8.tail (s_ret (x_eqD (x_call (a_cons x_varw (a_cons (x_call (a_cons x_varw (a_cons (x_of_f (x_lst (a_cons x_varw a_nil) (Few.ok (.cons .nil)))) (a_cons x_varw a_nil)))) a_nil))) x_varw)) (w5 (1 + k) (by omega) (by omega)) fun v H9 x9 p9 d9 => q _ v H9 rfl (((Exb.of (((x1.trans x2).trans x3).trans x4)).trans e5).trans (Exb.of x9)) p9 d9
end
end GB

set_option autoImplicit false
set_option Elab.async false
set_option linter.all false
set_option maxRecDepth 100000
set_option maxHeartbeats 400000
/-! _law_right, law. -/
namespace GB
open PySem L2 ItX
abbrev st_law_right : Stmt := topS 110
theorem sc__law_right : FnScope ["_law_pot_here", "_law_whole", "_law_prime", "_law_modulus", "_law_field", "_law_world_here"] ["_law_pot_here"] (defScope st_law_right) := ⟨rfl, rfl, rfl, by decide +kernel, rfl, by decide +kernel, by decide +kernel⟩
abbrev st_law : Stmt := topS 111
theorem sc_law : FnScope ["_law_script"] ["_law_script"] (defScope st_law) := ⟨rfl, rfl, rfl, by decide +kernel, rfl, by decide +kernel, by decide +kernel⟩
def fields5 : List (Int × List Int) := (3, [1, 2, 0, 1]) :: S.fields4
def preNil : List G.D → Prop := fun ds => ds = []
def spLaw (K : PySem.W.Frag) : Sp := fun vs H Q _ => ∃ (a : Addr) (ns : List Int), vs = [.ref a] ∧ SqL K H a (ns.map V.int) ∧ ∀ H', Q (.bl true) H'
section
variable {C : Addr} {S0 : Addr → Bool} {pot : Addr} {σ : L2.St} {ρ : G.Env} {H H' : Hp} {K : PySem.W.Frag}
theorem asgg_go {te : TE} {g : TG} {tz : TS} {D : Ends} {σ : L2.St} {H : Hp} (h : te σ H fun x H1 => g x σ H1 (tz D)) : tSeq (tAsg te g) tz D σ H := h
theorem ifgt_go {td ta tb : TE} {σ : L2.St} {H : Hp} {Q : VK} (h : td σ H fun u H1 => ∃ i' j, u = .int i' ∧ V.int 0 = .int j ∧ ∃ c, V.bl (decide (j < i')) = .bl c ∧ if c = true then ta σ H1 Q else tb σ H1 Q) : tIf (tB (tOp (rI0 fun i j => .bl (decide (j < i))) td (tC (.int 0)))) ta tb σ H Q := h
theorem PSt.told {Q : VK} {E1 E2 : XK} (h : PSt C S0 pot σ ρ H) (q : ∀ p v H1, p ∈ fields5 → Exb pot H H1 → PSt C S0 pot σ ρ H1 → Dat C (hid S0 H1) v (.tup [.int p.1, S.L p.2]) → Q v H1) :
    tIf (tB (tOp (rI0 fun i j => .bl (decide (j < i))) (tCall (spP C preDraw RDraw) [] E1 (tCons (tVar 0) (tCons (tC (.int 4)) tNil))) (tC (.int 0)))) (tCall (spP C preTold RTold) [] E2 (tCons (tVar 0) (tCons (tC (.int 4)) tNil)))
      (tTup (tCons (tC (.int 3)) (tCons (tLst (tCons (tC (.int 1)) (tCons (tC (.int 2)) (tCons (tC (.int 0)) (tCons (tC (.int 1)) tNil))))) tNil))) σ H Q := by
  refine ifgt_go (h.draw x_int (n := 4) rfl (by decide) (by decide) fun k H1 k1 k2 e1 h1 => ⟨k, 0, rfl, rfl, _, rfl, ?_⟩)
  by_cases k0 : 0 < k
  · rw [if_pos (by rw [decide_eq_true_eq]; exact k0)]
    refine h1.call (a_cons x_int a_nil) (ev_cons rfl rfl) rfl fun d v H2 r e2 h2 d2 => ?_
    obtain ⟨p, p1, rfl⟩ := r
    exact q p v H2 (List.mem_cons_of_mem _ p1) (e1.trans e2) h2 d2
  · rw [if_neg (by rw [decide_eq_true_eq]; exact k0)]
    have hx : XE C [] false (tTup (tCons (tC (.int 3)) (tCons (tLst (tCons (tC (.int 1)) (tCons (tC (.int 2)) (tCons (tC (.int 0)) (tCons (tC (.int 1)) tNil))))) tNil))) (G.fTup (G.aCons (G.fC (.int 3)) (G.aCons (G.fLst (G.aCons (G.fC (.int 1)) (G.aCons (G.fC (.int 2)) (G.aCons (G.fC (.int 0)) (G.aCons (G.fC (.int 1)) G.aNil))))) G.aNil))) :=
      x_tup (a_cons x_int (a_cons (x_of_f (x_lst (a_cons x_int (a_cons x_int (a_cons x_int (a_cons x_int a_nil)))) (Few.ok (.cons (.cons (.cons (.cons .nil))))))) a_nil)) (Few.ok (.cons (.cons .nil)))
    have he : ∀ ρ : G.Env, (G.fTup (G.aCons (G.fC (.int 3)) (G.aCons (G.fLst (G.aCons (G.fC (.int 1)) (G.aCons (G.fC (.int 2)) (G.aCons (G.fC (.int 0)) (G.aCons (G.fC (.int 1)) G.aNil))))) G.aNil))) ρ = some (.tup [.int 3, S.L [1, 2, 0, 1]]) := fun _ => rfl
    exact h1.x hx (he _) fun v H2 x2 h2 d2 => q (3, [1, 2, 0, 1]) v H2 List.mem_cons_self (e1.trans (Exb.of x2)) h2 d2
theorem PSt.callT {t : TA} {f : G.FA} {ds : List G.D} {pre : List G.D → Prop} {E : XK} {Q : VK} (h : PSt C S0 pot σ ρ H) (ht : XA C [] false t f) (e : f ρ = some ds) (hp : pre ds)
    (q : ∀ H', Exb pot H H' → PSt C S0 pot σ ρ H' → Q (.bl true) H') : tCall (spP C pre RTrue) [] E (tCons (tVar 0) t) σ H Q := h.call ht e hp fun d v H' r e1 h1 d1 => by
  cases (show d = .bl true from r)
  rw [dat_bl d1]
  exact q H' e1 h1
theorem ifor_go {t1 t2 : TE} {tu tz : TS} {D : Ends} {σ : L2.St} {H : Hp} (h : t1 σ H fun v H1 => ∃ c, v = .bl c ∧ if (!c) = true then (if true = true then tu { D with nx := tz D } σ H1 else tNext { D with nx := tz D } σ H1) else
    t2 σ H1 fun v2 H2 => ∃ c2, v2 = .bl c2 ∧ if (!c2) = true then tu { D with nx := tz D } σ H2 else tNext { D with nx := tz D } σ H2) : tSeq (tIfS (tOr (tNot (tB t1)) (tNot (tB t2))) tu tNext) tz D σ H := h
theorem andv_go {t1 t2 : TE} {D : Ends} {σ : L2.St} {H : Hp} (h : t1 σ H fun v H1 => ∃ c, v = .bl c ∧ if c = true then t2 σ H1 D.rt else D.rt (.bl false) H1) : tRet (tAndV t1 t2) D σ H := h
theorem lines_go {td : TE} {sp : Sp} {tz : TS} {i k : Nat} {D : Ends} {σ : L2.St} {H : Hp} {E : XK} (h : ∃ v, σ[0]? = some (some v) ∧ ∃ u, σ[k]? = some (some u) ∧ td σ H fun z H1 => ∃ i' j, V.int 1 = .int i' ∧ z = .int j ∧ sp ([v, u, .int (i' + j)] ++ []) H1 (fun x H2 => tz D (σ.set i (some x)) H2) E) :
    tSeq (tAsg (tCall sp [] E (tCons (tVar 0) (tCons (tVar k) (tCons (tOp (rI0 fun i j => .int (i + j)) (tC (.int 1)) td) tNil)))) (gName i)) tz D σ H := h
theorem makeq_go {C : Addr} {sp : Sp} {tb : TE} {tz : TS} {i j a b : Nat} {D : Ends} {σ : L2.St} {H : Hp} {E : XK} (h : ∃ v, σ[a]? = some (some v) ∧ ∃ u, σ[b]? = some (some u) ∧ ∀ x dx, H x = none → H dx = none → dx ≠ x → sp (.ref x :: ([v, u] ++ [])) (upd (upd H dx (.own x)) x (.ins C dx []))
      (fun v H2 => v = .non ∧ tb σ H2 fun u H3 => tz D ((σ.set i (some (.ref x))).set j (some u)) H3) E) : tSeq (tPar i j (tCons (tMake C sp [] E (tCons (tVar a) (tCons (tVar b) tNil))) (tCons tb tNil))) tz D σ H := by
  refine parq_go ?_
  obtain ⟨v, h1, u, h2, h3⟩ := h
  exact ⟨v, h1, u, h2, h3⟩
end
section
variable {P : Program} {w : World} {K : PySem.W.Frag} {mg : Str → Option Value} {base : Heap} {C : Addr}
theorem ok_law_right (T : Tx K mg C) (hall : ∀ p, p ∈ fields5 → S.okField p.1 p.2) (k_law_draw : Kn P w K mg base "_law_draw" 1 ["_law_pot_here", "_law_size"] (spP C preDraw RDraw)) (k_law_told_field : Kn P w K mg base "_law_told_field" 3 ["_law_pot_here", "_law_most"] (spP C preTold RTold)) (k_law_lines : Kn P w K mg base "_law_lines" 3 ["_law_pot_here", "_law_world_here", "_law_degree"] (spP C preLns RLns)) (k_law_lines_right : Kn P w K mg base "_law_lines_right" 8 ["_law_pot_here", "_law_field", "_law_world_here"] (spP C preLR RTrue)) (k_law_ways_right : Kn P w K mg base "_law_ways_right" 13 ["_law_pot_here", "_law_field", "_law_world_here", "_law_whole"] (spP C preWR RTrue)) (k_law_inside_right : Kn P w K mg base "_law_inside_right" 8 ["_law_pot_here", "_law_field", "_law_world_here", "_law_whole"] (spP C preIR RTrue)) (k_law_outside_right : Kn P w K mg base "_law_outside_right" 8 ["_law_pot_here", "_law_field", "_law_world_here", "_law_whole"] (spP C preOR RTrue)) (k_law_world : Kn P w K mg base "_law_world" 3 ["_law_prime", "_law_modulus"] (spF C S.law_world)) {fi : Addr} {fdi : FuncData} (M : Mk K C fi) (FI : FnOk P w K mg base CX0 7 fi fdi ["self", "prime", "modulus"] (spInit C)) (bI : Binds K fdi ["self", "prime", "modulus"] [])
    {f : Addr} {fd : FuncData} (F : Fn K "_law_right" st_law_right f fd) : FnOk P w K mg base CX0 14 f fd ["_law_pot_here"] (spP C preNil RTrue) := by
  refine F.ok sc__law_right (fun vs H Q E h => ?_) (fun cdv A outer s H vs Q E hr h => ?_)
  · obtain ⟨S0, pot, vs', ds, rfl, _, _, _, hd, hp, _⟩ := h
    cases hp
    exact congrArg (· + 1) hd.length
  · refine ⟨_, PSs.nox (pss_cons (ps_asg (pe_ifExp (pt_cmpR op_gt (pe_kn k_law_draw (hr.mono (by decide)) rfl (pa_cons (pv 0) (pa_cons pe_int pa_nil))) pe_int (nomark _)) (pe_kn k_law_told_field (hr.mono (by decide)) rfl (pa_cons (pv 0) (pa_cons pe_int pa_nil)))
        (pe_tup (pa_cons pe_int (pa_cons (pe_lst (pa_cons pe_int (pa_cons pe_int (pa_cons pe_int (pa_cons pe_int pa_nil))))) pa_nil)))) (pg_tup rfl (pgs_cons (pg_name (i := 2) sc__law_right.nd rfl (by first | exact .inl rfl | exact .inr rfl)) (pgs_cons (pg_name (i := 3) sc__law_right.nd rfl (by first | exact .inl rfl | exact .inr rfl)) pgs_nil))))
      (pss_cons (ps_par (i := 4) (j := 5) (by rfl) sc__law_right.nd rfl rfl (by decide) rfl rfl (pa_cons (pe_make M FI (hr.mono (by decide)) rfl T.mgC bI .nil pass0 (pa_cons (pv 2) (pa_cons (pv 3) pa_nil))) (pa_cons (pe_kn k_law_world (hr.mono (by decide)) rfl (pa_cons (pv 2) (pa_cons (pv 3) pa_nil))) pa_nil)) (by rfl))
      (pss_cons (ps_set (i := 1) sc__law_right.nd rfl (by first | exact .inl rfl | exact .inr rfl) (pe_kn k_law_lines (hr.mono (by decide)) rfl (pa_cons (pv 0) (pa_cons (pv 5) (pa_cons (pe_op op_add pe_int (pe_kn k_law_draw (hr.mono (by decide)) rfl (pa_cons (pv 0) (pa_cons (pe_ifExp (pt_cmpR op_lt (pe_ix ix_list (pv 5) pe_int (fun _ _ => rfl)) pe_int (nomark _)) pe_int pe_int) pa_nil)))) pa_nil)))))
      (pss_cons (ps_if (PW.pt (pw_or (pt_not (pt_val (pe_kn k_law_lines_right (hr.mono (by decide)) rfl (pa_cons (pv 0) (pa_cons (pv 4) (pa_cons (pv 5) pa_nil)))))) (pw_or1 (pt_not (pt_val (pe_kn k_law_ways_right (hr.mono (by decide)) rfl (pa_cons (pv 0) (pa_cons (pv 4) (pa_cons (pv 5) (pa_cons (pv 1) pa_nil)))))))))) (pss_one (ps_ret pe_bl)) pss_nil)
      (pss_one (ps_ret (pe_and (pe_kn k_law_inside_right (hr.mono (by decide)) rfl (pa_cons (pv 0) (pa_cons (pv 4) (pa_cons (pv 5) (pa_cons (pv 1) pa_nil))))) (pe_one (pe_kn k_law_outside_right (hr.mono (by decide)) rfl (pa_cons (pv 0) (pa_cons (pv 4) (pa_cons (pv 5) (pa_cons (pv 1) pa_nil))))))))))))), ?_⟩
    obtain ⟨S0, pot, vs', ds, rfl, hdom, hS, pa, hd, hp, q⟩ := h
    cases hp
    have h := start_pst (N := ["_law_pot_here", "_law_whole", "_law_prime", "_law_modulus", "_law_field", "_law_world_here"]) (ns := 5) hdom hS pa hd rfl
    refine asgg_go (h.told fun p v H1 hp5 e1 h1 d1 => ?_)
    obtain ⟨FF, l, qq, hF, hW, ⟨hq, hq1, hq2⟩, hL, hLR, hrest⟩ := hall p hp5
    cases d1 with
    | @tup ta txs tds t1 t2 =>
      cases t2 with
      | @cons v2 _ _ _ d2 t3 =>
        cases t3 with
        | @cons v3 _ _ _ d3 t4 =>
          cases t4
          refine ⟨ta, _, rfl, .inl (.inl (hid_some t1).2), rfl, _, _, rfl, _, _, rfl, rfl, ?_⟩
          have ev := dat_int d2
          subst ev
          have h2 := (h1.set (i := 2) (by decide) (.int p.1)).set (i := 3) (by decide) d3
          have h2' : PSt C S0 pot _ [none, none, some (.int p.1), some (S.L p.2), none, none] H1 := h2
          obtain ⟨ma, rfl, hma⟩ := list_cases d3
          obtain ⟨w2, g2, gd2⟩ := h2'.get (i := 2) rfl
          obtain ⟨w3, g3, gd3⟩ := h2'.get (i := 3) rfl
          have ew := dat_int gd2
          subst ew
          obtain ⟨mb, rfl, hmb⟩ := list_cases gd3
          refine makeq_go ⟨_, g2, _, g3, fun x dx hx hdx hne => ?_⟩
          have n0 : S0 x = false := by
            cases z : S0 x with
            | false => rfl
            | true => exact absurd hx (h1.dom x z)
          have xx : Ex H1 (upd (upd H1 dx (.own x)) x (.ins C dx [])) := fun b o e => by
            rw [upd_ne (ne_of_none e hx), upd_ne (ne_of_none e hdx)]
            exact e
          refine ⟨S0, x, dx, mb, p.1, p.2.map .int, FF, rfl, upd_same, n0, fun b z => some_mono xx (h1.dom b z), gd3.mono (ex_plusE hx xx), hF, fun H2 k2 dF => ⟨rfl, ?_⟩⟩
          have x2 : Ex H1 H2 := fun b o e => k2 b o (ne_of_none e hx) (xx b o e)
          have h3 := h2'.mono x2
          refine h3.x (x_call (g := S.law_world) (a_cons (x_varw (i := 2)) (a_cons (x_varw (i := 3)) a_nil))) ((ev_call (ev_cons (d := .int p.1) rfl (ev_cons (d := S.L p.2) rfl rfl))).trans hW) fun v5 H3 x3 h4 d5 => ?_
          have h5 := (h4.set (i := 4) (by decide) (dF.mono (ex_hid x3))).set (i := 5) (by decide) d5
          have h5' : PSt C S0 pot _ [none, none, some (.int p.1), some (S.L p.2), some (.fld FF), some (.lst l)] H3 := h5
          obtain ⟨wv, gw, gdw⟩ := h5'.get (i := 5) rfl
          have eq10 : G.fIf (G.fTest (G.fI2 G.gLt (G.fIxL (G.fVar 5) (G.fC (.int 2))) (G.fC (.int 10)))) (G.fC (.int 3)) (G.fC (.int 2)) [none, none, some (.int p.1), some (S.L p.2), some (.fld FF), some (.lst l)] = some (.int (S.mostDeg qq : Nat)) := by
            have e0 : G.fTest (G.fI2 G.gLt (G.fIxL (G.fVar 5) (G.fC (.int 2))) (G.fC (.int 10))) [none, none, some (.int p.1), some (S.L p.2), some (.fld FF), some (.lst l)] = some (decide (qq < 10)) := by
              unfold G.fTest G.fI2
              rw [ev_q rfl hq]
              rfl
            unfold G.fIf S.mostDeg
            rw [e0]
            by_cases z : qq < 10
            · rw [decide_eq_true z, if_pos z]; rfl
            · rw [decide_eq_false z, if_neg z]; rfl
          have hmd : S.mostDeg qq = 3 ∨ S.mostDeg qq = 2 := by
            unfold S.mostDeg
            by_cases z : qq < 10
            · rw [if_pos z]; exact .inl rfl
            · rw [if_neg z]; exact .inr rfl
          refine lines_go ⟨_, h5'.s0, wv, gw, h5'.draw (x_if (t_test (x_i2 ir_lt (x_ixL x_varw x_int) x_int)) x_int x_int) eq10 (by omega) (by omega) fun k H4 k1 k2 e4 h6 => ⟨1, k, rfl, rfl, ?_⟩⟩
          refine ⟨S0, pot, [wv, .int (1 + k)], [.lst l, .int (1 + k)], rfl, h6.dom, hS, h6.pa, .cons (gdw.mono (e4.see0 hS)) (.cons (.int _) .nil), ⟨l, qq, 1 + k, rfl, ⟨hq, hq1, hq2⟩, by omega, by omega, fun kk f a r hk => hL kk f a r (by omega)⟩, fun d v6 H5 r e5 p5 d6 => ?_⟩
          obtain ⟨l', q', m', el, hq', hl⟩ := r
          injection el with el1 el2
          injection el1 with el1
          injection el2 with el2 _
          injection el2 with el2
          subst el1
          subst el2
          have eq' : q' = qq := by
            have := hq'.1.symm.trans hq
            injection this with this
            injection this
          subst eq'
          obtain ⟨okw, oki, oko⟩ := hrest (1 + k).toNat d (by omega) (by omega) hl
          have h7 := (h6.monoB e5 p5).set (i := 1) (by decide) d6
          have h7' : PSt C S0 pot _ [none, some d, some (.int p.1), some (S.L p.2), some (.fld FF), some (.lst l)] H5 := h7
          have e05 : Exb pot H H5 := ((e1.trans (Exb.of (x2.trans x3))).trans e4).trans e5
          refine ifor_go (h7'.callT (a_cons (x_varw (i := 4)) (a_cons (x_varw (i := 5)) a_nil)) (ev_cons rfl (ev_cons rfl rfl)) ⟨FF, l, q', rfl, ⟨hq, hq1, hq2⟩, hLR⟩ fun H6 e6 h8 => ⟨true, rfl, ?_⟩)
          rw [if_neg (by decide)]
          refine h8.callT (a_cons (x_varw (i := 4)) (a_cons (x_varw (i := 5)) (a_cons (x_varw (i := 1)) a_nil))) (ev_cons rfl (ev_cons rfl (ev_cons rfl rfl))) ⟨FF, l, q', d, rfl, ⟨hq, hq1, hq2⟩, okw⟩ fun H7 e7 h9 => ⟨true, rfl, ?_⟩
          rw [if_neg (by decide)]
          refine andv_go (h9.callT (a_cons (x_varw (i := 4)) (a_cons (x_varw (i := 5)) (a_cons (x_varw (i := 1)) a_nil))) (ev_cons rfl (ev_cons rfl (ev_cons rfl rfl))) ⟨FF, l, q', d, rfl, ⟨hq, hq1, hq2⟩, oki⟩ fun H8 e8 h10 => ⟨true, rfl, ?_⟩)
          rw [if_pos rfl]
          exact h10.callT (a_cons (x_varw (i := 4)) (a_cons (x_varw (i := 5)) (a_cons (x_varw (i := 1)) a_nil))) (ev_cons rfl (ev_cons rfl (ev_cons rfl rfl))) ⟨FF, l, q', d, rfl, ⟨hq, hq1, hq2⟩, oko⟩ fun H9 e9 h11 => q _ _ H9 rfl ((((e05.trans e6).trans e7).trans e8).trans e9) h11.pa (.bl true)
theorem ok_law (T : Tx K mg C) (k_law_pot : Kn P w K mg base "_law_pot" 1 ["_law_script", "_law_k"] (spPot K)) (k_law_right : Kn P w K mg base "_law_right" 14 ["_law_pot_here"] (spP C preNil RTrue)) {f : Addr} {fd : FuncData} (F : Fn K "law" st_law f fd) :
    FnOk P w K mg base CX0 15 f fd ["_law_script"] (spLaw K) := by
  refine F.ok sc_law (fun vs H Q E h => ?_) (fun cdv A outer s H vs Q E hr h => ?_)
  · obtain ⟨a, ns, rfl, _⟩ := h
    rfl
  · refine ⟨_, PSs.nox (pss_one (ps_ret (pe_kn k_law_right (hr.mono (by decide)) rfl (pa_cons (pe_kn k_law_pot (hr.mono (by decide)) rfl (pa_cons (pv 0) (pa_cons pe_int pa_nil))) pa_nil)))), ?_⟩
    obtain ⟨a, ns, rfl, hs, q⟩ := h
    refine ⟨.ref a, rfl, a, ns, rfl, hs, fun p H1 hp x1 pa => ?_⟩
    refine ⟨fun b => b == p, p, [], [], rfl, fun b z => ?_, beq_self_eq_true p, pa, .nil, rfl, fun d v H2 r e2 p2 d2 => ?_⟩
    · obtain ⟨x, y, h1, _⟩ := pa
      rw [beq_iff_eq.mp z, h1]
      exact fun z => nomatch z
    · cases (show d = .bl true from r)
      rw [dat_bl d2]
      exact q H2
end
end GB

set_option autoImplicit false
set_option Elab.async false
set_option linter.all false
set_option maxRecDepth 100000
set_option maxHeartbeats 0
/-! What the top leaves, by names. -/
namespace GB
open PySem L2
/-- the objects that the facts lean on: the module's dict, what its names stand for, codes, the classes' dicts, their defs -/
def valsOf (g : Addr → Option Obj) (a : Addr) : List Addr := match g a with
  | some ⟨_, _, .dict es _, _⟩ => es.toList.flatMap fun e => He.refV e.val
  | _ => []
def codesOf (g : Addr → Option Obj) (a : Addr) : List Addr := match g a with
  | some ⟨_, _, .func fd, _⟩ => He.refV fd.code
  | _ => []
def nsOf (g : Addr → Option Obj) (a : Addr) : List Addr := match g a with
  | some ⟨_, _, .cls cd, _⟩ => [cd.ns]
  | _ => []
def asK (g : Addr → Option Obj) : List Addr :=
  let G0 := valsOf g mainGlobals
  let C0 := G0.flatMap (nsOf g)
  let M0 := C0.flatMap (valsOf g)
  mainGlobals :: (G0 ++ (C0 ++ (M0 ++ (G0.flatMap (codesOf g) ++ M0.flatMap (codesOf g)))))
/-- a look at the head: the defs, the facts, one more Bool -/
def hookX (fa : List He.Fa) (fn : List He.DefD) (xb : PySem.W.Frag → Bool) : PySem.W.Hook where
  α := Bool × He.AlD
  obs := fun s => (xb (He.frG s.heap.get? (asK s.heap.get?)), He.obsD fa fn (He.frG s.heap.get? (asK s.heap.get?)))
  val := fun _ => (true, He.valD fn)
  says := fun _ h => ∃ K : PySem.W.Frag, K.In h ∧ xb K = true ∧ He.SaysD fa fn K
  of := fun _ _ e => ⟨_, He.frG_in, congrArg Prod.fst e, congrArg Prod.snd e⟩
  keeps := fun _ _ _ ⟨K, hK, b, c⟩ k => ⟨K, PySem.W.Frag.In.keeps hK k, b, c⟩
def obsX (fa : List He.Fa) (fn : List He.DefD) (xb : PySem.W.Frag → Bool) (g : Addr → Option Obj) : Bool × He.AlD := (xb (He.frG g (asK g)), He.obsD fa fn (He.frG g (asK g)))
theorem obsX_eq {fa : List He.Fa} {fn : List He.DefD} {xb : PySem.W.Frag → Bool} {g : Addr → Option Obj} {s : Shared} (h : ∀ a, g a = s.heap.get? a) : obsX fa fn xb g = (hookX fa fn xb).obs s := by
  have e : g = s.heap.get? := funext h
  rw [e] <;> rfl
def dd (x : Str) (i : Nat) : He.DefD := ⟨(x, none), x, x, defArgs (topS i), defBody (topS i), defScope (topS i), [], []⟩
def dInit : He.DefD := ⟨("Field", some "__init__"), "__init__", "Field.__init__", defArgs sInit, defBody sInit, defScope sInit, [], []⟩

def fn0 : List He.DefD := [dd "is_integer" 13, dd "is_count" 14, dd "is_list" 15, dd "want_at_most" 16, dd "without_end" 21, dd "poly_rest" 22, dd "undone_by" 23, dd "poly_times" 24, dd "poly_less" 25, dd "are_apart" 26, dd "letter_turns" 27, dd "is_single" 28, dd "is_prime" 29, dd "want_prime" 30, dd "is_figures" 31, dd "is_right" 32, dd "told_number" 33, dd "poly_of" 34, dd "powers_by" 35, dd "all_powers" 36, dd "logs_by" 37, dd "sized" 38, dd "want_field" 40, dd "figures_of" 42, dd "by_figures_of" 43, dd "plus_of" 44, dd "minus_of" 45, dd "times_of" 46, dd "over_of" 47, dd "power_of" 48]
def fn1 : List He.DefD := [dd "turned_of" 49, dd "norm_of" 50, dd "is_in" 51, dd "want_element" 52, dd "norm" 53, dd "told_of" 57, dd "is_sum" 58, dd "want_turner" 59, dd "sum_turners" 60, dd "less_turners" 61, dd "put_turners" 62, dd "told" 63, dd "two_turners" 64, dd "put" 65, dd "inner_parts" 67, dd "outer_parts" 68, dd "want_standing" 72, dd "line_of" 73, dd "rest_at" 74, dd "inners_of" 75, dd "outers_of" 76, dd "less_inner" 77, dd "many_ways" 78, dd "ways_of" 79, dd "inner_ones" 80, dd "outer_ones" 81, dd "ways" 82, dd "want_like" 84, dd "led_by" 85, dd "is_like_by" 86]
def fn2 : List He.DefD := [dd "_law_pot" 88, dd "_law_draw" 89, dd "_law_pick" 90, dd "_law_figures" 91, dd "_law_value" 92, dd "_law_shifts" 93, dd "_law_product_row" 94, dd "_law_world" 95, dd "_law_turned" 96, dd "_law_trim" 97, dd "_law_put" 98, dd "_law_line" 99, dd "_law_told_field" 100, dd "_law_element" 101, dd "_law_lines" 102, dd "_law_led" 103, dd "_law_sorts" 104, dd "_law_lines_right" 105, dd "_law_ways_right" 106, dd "_law_inside_right" 107, dd "_law_back" 108, dd "_law_outside_right" 109, dd "_law_right" 110, dd "law" 111]
def fnAll : List He.DefD := dInit :: (fn0 ++ fn1 ++ fn2)
def fa0 : List He.Fa := [.glo "Field", .glo "PRIMES", .cls "Field", .mkr "Field", .noat "Field" "own_prime", .noat "Field" "own_turns", .noat "Field" "own_size", .noat "Field" "own_modulus", .noat "Field" "own_powers", .noat "Field" "own_logs", .int "MOST_SIZE" 128, .int "MOST_TURNS" 12, .int "MOST_ELEMENTS" 13, .int "MOST_DEGREE_turners" 12, .int "MOST_DEGREE_ways" 4, .int "MOST_WAYS" 400, .free "len", .free "max", .free "list", .free "tuple", .free "int", .free "bool", .free "all", .free "sum", .free "sorted", .free "isinstance", .free "divmod", .free "abs", .free "zip", .free "enumerate", .free "range"]
def fa1 : List He.Fa := [.glo "is_integer", .glo "is_count", .glo "is_list", .glo "want_at_most", .glo "without_end", .glo "poly_rest", .glo "undone_by", .glo "poly_times", .glo "poly_less", .glo "are_apart", .glo "letter_turns", .glo "is_single", .glo "is_prime", .glo "want_prime", .glo "is_figures", .glo "is_right", .glo "told_number", .glo "poly_of", .glo "powers_by", .glo "all_powers", .glo "logs_by", .glo "sized", .glo "want_field", .glo "figures_of", .glo "by_figures_of", .glo "plus_of", .glo "minus_of", .glo "times_of", .glo "over_of", .glo "power_of", .glo "turned_of", .glo "norm_of", .glo "is_in", .glo "want_element", .glo "norm", .glo "told_of", .glo "is_sum", .glo "want_turner", .glo "sum_turners", .glo "less_turners"]
def fa2 : List He.Fa := [.glo "put_turners", .glo "told", .glo "two_turners", .glo "put", .glo "inner_parts", .glo "outer_parts", .glo "want_standing", .glo "line_of", .glo "rest_at", .glo "inners_of", .glo "outers_of", .glo "less_inner", .glo "many_ways", .glo "ways_of", .glo "inner_ones", .glo "outer_ones", .glo "ways", .glo "want_like", .glo "led_by", .glo "is_like_by", .glo "_law_pot", .glo "_law_draw", .glo "_law_pick", .glo "_law_figures", .glo "_law_value", .glo "_law_shifts", .glo "_law_product_row", .glo "_law_world", .glo "_law_turned", .glo "_law_trim", .glo "_law_put", .glo "_law_line", .glo "_law_told_field", .glo "_law_element", .glo "_law_lines", .glo "_law_led", .glo "_law_sorts", .glo "_law_lines_right", .glo "_law_ways_right", .glo "_law_inside_right"]
def fa3 : List He.Fa := [.glo "_law_back", .glo "_law_outside_right", .glo "_law_right", .glo "law"]
def faAll : List He.Fa := fa0 ++ fa1 ++ fa2 ++ fa3
def xb (K : PySem.W.Frag) : Bool := He.tupB K "PRIMES" [.int 2, .int 3, .int 5, .int 7] && (He.eqO (PySem.W.findIn K (.ref (He.ga K "Field")) "__class__") (some (some (.builtin "object.__class__"))) &&
  (He.eqO (PySem.W.specialIn K (.builtin "object.__class__") "__get__") (some (some (.builtin "getset_descriptor.__get__"))) && (decide (PySem.W.takesIn K (.builtin "object.__class__") = some true) &&
  (decide (PySem.W.mroIn K (He.ga K "Field") (.type "object") = some true) && decide (PySem.W.kitOne K (.ref (He.ga K "Field")) (.ref (He.ga K "Field")) = some true)))))
abbrev RR : PySem.W.OpenRow := PySem.W.OpenLaw.row PySem.Challenge.rw_turnpowers_k67_whole_ways_have_like_part
abbrev hk : PySem.W.Hook := hookX faAll fnAll xb
def ob (s : PySem.W.SharedT) : Bool × He.AlD := obsX faAll fnAll xb (HandSHeadRun.getT s)
theorem ob_eq (s : PySem.W.SharedT) : ob s = hk.obs s.abs := obsX_eq (HandSHeadRun.getT_eq s)
def ln0 : List Str := ["_wall", "__name__", "TurnError", "StateError", "LimitError", "InvalidElement", "InvalidField", "InvalidTurner", "InvalidModulus", "InvalidPrime", "NoughtTurner", "TooMany", "is_integer", "is_count", "is_list", "want_at_most", "PRIMES", "MOST_SIZE", "MOST_TURNS", "without_end"]
def ln1 : List Str := ["poly_rest", "undone_by", "poly_times", "poly_less", "are_apart", "letter_turns", "is_single", "is_prime", "want_prime", "is_figures", "is_right", "told_number", "poly_of", "powers_by", "all_powers", "logs_by", "sized", "Field", "want_field", "figures_of"]
def ln2 : List Str := ["by_figures_of", "plus_of", "minus_of", "times_of", "over_of", "power_of", "turned_of", "norm_of", "is_in", "want_element", "norm", "MOST_ELEMENTS", "MOST_DEGREE_turners", "told_of", "is_sum", "want_turner", "sum_turners", "less_turners", "put_turners", "told"]
def ln3 : List Str := ["two_turners", "put", "inner_parts", "outer_parts", "MOST_DEGREE_ways", "MOST_WAYS", "want_standing", "line_of", "rest_at", "inners_of", "outers_of", "less_inner", "many_ways", "ways_of", "inner_ones", "outer_ones", "ways", "want_like", "led_by", "is_like_by"]
def ln4 : List Str := ["_law_pot", "_law_draw", "_law_pick", "_law_figures", "_law_value", "_law_shifts", "_law_product_row", "_law_world", "_law_turned", "_law_trim", "_law_put", "_law_line", "_law_told_field", "_law_element", "_law_lines", "_law_led", "_law_sorts", "_law_lines_right", "_law_ways_right", "_law_inside_right"]
def ln5 : List Str := ["_law_back", "_law_outside_right", "_law_right"]
def loose : List Str := ln0 ++ ln1 ++ ln2 ++ ln3 ++ ln4 ++ ln5
theorem run (w : World) : HandSHeadRun.RunEq RR (PySem.W.view RR.prog [111]) hk ob 20000 loose w := by
  intro os
  kernel_rfl
end GB

set_option autoImplicit false
set_option Elab.async false
set_option linter.all false
set_option maxRecDepth 100000
set_option maxHeartbeats 4000000
/-! Every def's promise, in order; the law. Printed by genfin.py. -/
namespace GB
open PySem L2
open ItX
abbrev st_is_integer : Stmt := topS 13
theorem sc_is_integer : FnScope ["value"] ["value"] (defScope st_is_integer) := ⟨rfl, rfl, rfl, by decide +kernel, rfl, by decide +kernel, by decide +kernel⟩
theorem ok_is_integer {P : Program} {w : World} {K : PySem.W.Frag} {mg : Str → Option Value} {base : Heap} {C : Addr} (T : Tx K mg C)  {f : Addr} {fd : FuncData} (F : Fn K "is_integer" st_is_integer f fd) : FnOk P w K mg base CX0 1 f fd ["value"] (spF C S.is_integer) := by
  refine F.ok sc_is_integer (fun vs H Q E h => spF_len h) (fun cdv A outer s H vs Q E hr h => ?_)
  exact ⟨_, PSs.nox (pss_one (ps_ret (pe_and (pe_callB call_isi (by rfl) T.f_isinstance bt_isinstance (pa_cons (pv 0) (pa_cons (pe_bltn (v := .ty "int") (by rfl) T.f_int bt_int rfl) pa_nil))) (pe_one (pe_not (pe_callB call_isi (by rfl) T.f_isinstance bt_isinstance (pa_cons (pv 0) (pa_cons (pe_bltn (v := .ty "bool") (by rfl) T.f_bool bt_bool rfl) pa_nil)))))))),
    body_ok (W := []) (b := S.b_is_integer) (np := 1) (ns := 0) (s_ret (x_andV (x_isInt x_varw) (x_notV (x_isBool x_varw)))) (by decide) rfl h⟩
abbrev st_is_count : Stmt := topS 14
theorem sc_is_count : FnScope ["value"] ["value"] (defScope st_is_count) := ⟨rfl, rfl, rfl, by decide +kernel, rfl, by decide +kernel, by decide +kernel⟩
theorem ok_is_count {P : Program} {w : World} {K : PySem.W.Frag} {mg : Str → Option Value} {base : Heap} {C : Addr} (T : Tx K mg C) (k_is_integer : Kn P w K mg base "is_integer" 1 ["value"] (spF C S.is_integer)) {f : Addr} {fd : FuncData} (F : Fn K "is_count" st_is_count f fd) : FnOk P w K mg base CX0 2 f fd ["value"] (spF C S.is_count) := by
  refine F.ok sc_is_count (fun vs H Q E h => spF_len h) (fun cdv A outer s H vs Q E hr h => ?_)
  exact ⟨_, PSs.nox (pss_one (ps_ret (pe_and (pe_kn k_is_integer (hr.mono (by decide)) rfl (pa_cons (pv 0) pa_nil)) (pe_one (pe_cmpR op_ge (pv 0) pe_int (nomark _)))))),
    body_ok (W := []) (b := S.b_is_count) (np := 1) (ns := 0) (s_ret (x_andV (x_call (a_cons x_varw a_nil)) (x_i2 ir_ge x_varw x_int))) (by decide) rfl h⟩
abbrev st_is_list : Stmt := topS 15
theorem sc_is_list : FnScope ["value"] ["value"] (defScope st_is_list) := ⟨rfl, rfl, rfl, by decide +kernel, rfl, by decide +kernel, by decide +kernel⟩
theorem ok_is_list {P : Program} {w : World} {K : PySem.W.Frag} {mg : Str → Option Value} {base : Heap} {C : Addr} (T : Tx K mg C)  {f : Addr} {fd : FuncData} (F : Fn K "is_list" st_is_list f fd) : FnOk P w K mg base CX0 1 f fd ["value"] (spF C S.is_list) := by
  refine F.ok sc_is_list (fun vs H Q E h => spF_len h) (fun cdv A outer s H vs Q E hr h => ?_)
  exact ⟨_, PSs.nox (pss_one (ps_ret (pe_callB call_isiT (by rfl) T.f_isinstance bt_isinstance (pa_cons (pv 0) (pa_cons (pe_tup (pa_cons (pe_bltn (v := .ty "list") (by rfl) T.f_list bt_list rfl) (pa_cons (pe_bltn (v := .ty "tuple") (by rfl) T.f_tuple bt_tuple rfl) pa_nil))) pa_nil))))),
    body_ok (W := []) (b := S.b_is_list) (np := 1) (ns := 0) (s_ret (x_isList x_varw)) (by decide) rfl h⟩
abbrev st_want_at_most : Stmt := topS 16
theorem sc_want_at_most : FnScope ["what", "limit", "number"] ["what", "limit", "number"] (defScope st_want_at_most) := ⟨rfl, rfl, rfl, by decide +kernel, rfl, by decide +kernel, by decide +kernel⟩
theorem ok_want_at_most {P : Program} {w : World} {K : PySem.W.Frag} {mg : Str → Option Value} {base : Heap} {C : Addr} (T : Tx K mg C)  {f : Addr} {fd : FuncData} (F : Fn K "want_at_most" st_want_at_most f fd) : FnOk P w K mg base CX0 1 f fd ["what", "limit", "number"] (spF C S.want_at_most) := by
  refine F.ok sc_want_at_most (fun vs H Q E h => spF_len h) (fun cdv A outer s H vs Q E hr h => ?_)
  exact ⟨_, PSs.nox (pss_one (ps_if (pt_cmpR op_gt (pv 2) (pv 1) (nomark _)) (pss_one ps_never) pss_nil)),
    body_ok (W := []) (b := S.b_want_at_most) (np := 3) (ns := 0) (s_if (t_test (x_i2 ir_gt x_varw x_varw)) s_never s_next) (by decide) rfl h⟩
abbrev st_without_end : Stmt := topS 21
theorem sc_without_end : FnScope ["numbers", "many"] ["numbers"] (defScope st_without_end) := ⟨rfl, rfl, rfl, by decide +kernel, rfl, by decide +kernel, by decide +kernel⟩
theorem ok_without_end {P : Program} {w : World} {K : PySem.W.Frag} {mg : Str → Option Value} {base : Heap} {C : Addr} (T : Tx K mg C)  {f : Addr} {fd : FuncData} (F : Fn K "without_end" st_without_end f fd) : FnOk P w K mg base CX0 1 f fd ["numbers"] (spN C S.without_end) := by
  refine F.ok sc_without_end (fun vs H Q E h => spN_len h) (fun cdv A outer s H vs Q E hr h => ?_)
  exact ⟨_, PSs.nox (pss_cons (ps_set (i := 1) sc_without_end.nd rfl (by first | exact .inl rfl | exact .inr rfl) (pe_callB call_len_seq (by rfl) T.f_len bt_len (pa_cons (pv 0) pa_nil)))
  (pss_cons (ps_while PassesOwn.never (PW.pt (pw_and (pt_cmpR op_gt (pv 1) pe_int (nomark _)) (pw_and1 (pt_cmpR op_eq (pe_ix ix_list (pv 0) (pe_op op_sub (pv 1) pe_int) (fun _ _ => rfl)) pe_int (nomark _))))) (pss_one (ps_set (i := 1) sc_without_end.nd rfl (by first | exact .inl rfl | exact .inr rfl) (pe_op op_sub (pv 1) pe_int))))
  (pss_one (ps_ret (pe_callTy call_list_of (by rfl) T.f_list bt_list (pa_cons (pe_slice sl_list (pv 0) po_none (po_some (pv 1))) pa_nil)))))),
    bodyN_ok (W := []) (b := S.b_without_end) (np := 1) (ns := 1) (s_seq (s_asg (x_len x_varw) (g_name (by decide)))
  (s_seq (s_while (t_and (t_test (x_i2 ir_gt x_varw x_int)) (t_test (x_i2 ir_eq (x_ixL x_varw (x_i2 ir_sub x_varw x_int)) x_int))) (s_asg (x_i2 ir_sub x_varw x_int) (g_name (by decide))))
  (s_retF (x_list (x_of_f (x_sl x_varw o_none (o_some x_varw))))))) (by decide) rfl (seq_nx (seq_nx ret_nx)) h⟩
abbrev st_undone_by : Stmt := topS 23
theorem sc_undone_by : FnScope ["prime", "number", "one"] ["prime", "number"] (defScope st_undone_by) := ⟨rfl, rfl, rfl, by decide +kernel, rfl, by decide +kernel, by decide +kernel⟩
theorem ok_undone_by {P : Program} {w : World} {K : PySem.W.Frag} {mg : Str → Option Value} {base : Heap} {C : Addr} (T : Tx K mg C)  {f : Addr} {fd : FuncData} (F : Fn K "undone_by" st_undone_by f fd) : FnOk P w K mg base CX0 1 f fd ["prime", "number"] (spF C S.undone_by) := by
  refine F.ok sc_undone_by (fun vs H Q E h => spF_len h) (fun cdv A outer s H vs Q E hr h => ?_)
  exact ⟨_, PSs.nox (pss_one (ps_ret (pe_ix ix_list (pe_lc (own := [("one", 2)]) rfl sc_undone_by.nd (pi_range2 rfl T.f_range (pa_cons pe_int (pa_cons (pv 0) pa_nil))) (blkOk_by (by kernel_rfl)) (fun _ _ _ _ _ => (pg_name (i := 2) sc_undone_by.nd rfl (by first | exact .inl rfl | exact .inr rfl))) (fun _ _ _ _ _ => (pts_one (pt_cmpR op_eq (pe_op op_mod (pe_op op_mul (pv 2) (pv 1)) (pv 0)) pe_int (nomark _)))) (fun _ _ _ _ _ => (pv 2))) pe_int (fun _ _ => rfl)))),
    body_ok (W := []) (b := S.b_undone_by) (np := 2) (ns := 1) (s_ret (x_ixL (x_of_f (f_weak (x_lc (i_range2 x_int x_varw) (g_name (by decide)) (by decide) (t_test (x_i2 ir_eq (x_i2 ir_mod (x_i2 ir_mul x_varw x_varw) x_varw) x_int)) (x_var (by decide))))) x_int)) (by decide) rfl h⟩
abbrev st_poly_rest : Stmt := topS 22
theorem sc_poly_rest : FnScope ["prime", "poly", "other", "left", "turn", "shift", "factor", "at", "number"] ["prime", "poly", "other"] (defScope st_poly_rest) := ⟨rfl, rfl, rfl, by decide +kernel, rfl, by decide +kernel, by decide +kernel⟩
theorem ok_poly_rest {P : Program} {w : World} {K : PySem.W.Frag} {mg : Str → Option Value} {base : Heap} {C : Addr} (T : Tx K mg C) (k_undone_by : Kn P w K mg base "undone_by" 1 ["prime", "number"] (spF C S.undone_by)) (k_without_end : Kn P w K mg base "without_end" 1 ["numbers"] (spN C S.without_end)) {f : Addr} {fd : FuncData} (F : Fn K "poly_rest" st_poly_rest f fd) : FnOk P w K mg base CX0 2 f fd ["prime", "poly", "other"] (spF C S.poly_rest) := by
  refine F.ok sc_poly_rest (fun vs H Q E h => spF_len h) (fun cdv A outer s H vs Q E hr h => ?_)
  exact ⟨_, PSs.nox (pss_cons (ps_par (i := 3) (j := 4) (by rfl) sc_poly_rest.nd rfl rfl (by decide) rfl rfl (pa_cons (pe_kn k_without_end (hr.mono (by decide)) rfl (pa_cons (pv 1) pa_nil)) (pa_cons (pe_kn k_undone_by (hr.mono (by decide)) rfl (pa_cons (pv 0) (pa_cons (pe_ix ix_list (pv 2) (pe_un un_neg pe_int) (fun _ _ => rfl)) pa_nil))) pa_nil)) (by rfl))
  (pss_cons (ps_while PassesOwn.never (pt_cmpR op_ge (pe_callB call_len_seq (by rfl) T.f_len bt_len (pa_cons (pv 3) pa_nil)) (pe_callB call_len_seq (by rfl) T.f_len bt_len (pa_cons (pv 2) pa_nil)) (nomark _)) (pss_cons (ps_par (i := 5) (j := 6) (by rfl) sc_poly_rest.nd rfl rfl (by decide) rfl rfl (pa_cons (pe_op op_sub (pe_callB call_len_seq (by rfl) T.f_len bt_len (pa_cons (pv 3) pa_nil)) (pe_callB call_len_seq (by rfl) T.f_len bt_len (pa_cons (pv 2) pa_nil))) (pa_cons (pe_op op_mod (pe_op op_mul (pe_ix ix_list (pv 3) (pe_un un_neg pe_int) (fun _ _ => rfl)) (pv 4)) (pv 0)) pa_nil)) (by rfl))
  (pss_cons (ps_for PassesOwn.never rfl (pi_enum (by rfl) T.f_enumerate (pa_cons (pv 2) pa_nil)) (pg_tup rfl (pgs_cons (pg_name (i := 7) sc_poly_rest.nd rfl (by first | exact .inl rfl | exact .inr rfl)) (pgs_cons (pg_name (i := 8) sc_poly_rest.nd rfl (by first | exact .inl rfl | exact .inr rfl)) pgs_nil)))
  (pss_one (ps_asg (pe_op op_mod (pe_op op_sub (pe_ix ix_list (pv 3) (pe_op op_add (pv 5) (pv 7)) (fun _ _ => rfl)) (pe_op op_mul (pv 6) (pv 8))) (pv 0)) (pg_sub (pv 3) (pe_op op_add (pv 5) (pv 7)) set_list))))
  (pss_one (ps_set (i := 3) sc_poly_rest.nd rfl (by first | exact .inl rfl | exact .inr rfl) (pe_kn k_without_end (hr.mono (by decide)) rfl (pa_cons (pv 3) pa_nil)))))))
  (pss_one (ps_ret (pv 3))))),
    body_ok (W := [3]) (b := S.b_poly_rest) (np := 3) (ns := 6) (s_seq (s_parF1 (by decide) (by decide) (x_callN (a_cons (x_var (by decide)) a_nil)) (x_call (a_cons (x_var (by decide)) (a_cons (x_ixL (x_var (by decide)) (x_neg x_int)) a_nil))))
  (s_seq (s_while (t_test (x_i2 ir_ge (x_len x_varw) (x_len x_varw))) (s_seq (s_par2 (by decide) (by decide) (x_i2 ir_sub (x_len x_varw) (x_len x_varw)) (x_i2 ir_mod (x_i2 ir_mul (x_ixL x_varw (x_neg x_int)) x_varw) x_varw))
  (s_seq (s_for (i_enum (x_var (by decide))) (g_tup (by decide) (by decide))
  (s_set (by decide) (x_i2 ir_add x_varw x_varw) (x_i2 ir_mod (x_i2 ir_sub (x_ixL x_varw (x_i2 ir_add x_varw x_varw)) (x_i2 ir_mul x_varw x_varw)) x_varw)))
  (s_asgF (by decide) (x_scL (x_callN (a_cons x_varw a_nil)))))))
  (s_ret x_varw))) (by decide) rfl h⟩
abbrev st_poly_times : Stmt := topS 24
theorem sc_poly_times : FnScope ["prime", "one", "other", "modulus", "found", "at", "near", "to", "far"] ["prime", "one", "other", "modulus"] (defScope st_poly_times) := ⟨rfl, rfl, rfl, by decide +kernel, rfl, by decide +kernel, by decide +kernel⟩
theorem ok_poly_times {P : Program} {w : World} {K : PySem.W.Frag} {mg : Str → Option Value} {base : Heap} {C : Addr} (T : Tx K mg C) (k_poly_rest : Kn P w K mg base "poly_rest" 2 ["prime", "poly", "other"] (spF C S.poly_rest)) {f : Addr} {fd : FuncData} (F : Fn K "poly_times" st_poly_times f fd) : FnOk P w K mg base CX0 3 f fd ["prime", "one", "other", "modulus"] (spF C S.poly_times) := by
  refine F.ok sc_poly_times (fun vs H Q E h => spF_len h) (fun cdv A outer s H vs Q E hr h => ?_)
  exact ⟨_, PSs.nox (pss_cons (ps_set (i := 4) sc_poly_times.nd rfl (by first | exact .inl rfl | exact .inr rfl) (pe_op op_rep (pe_lst (pa_cons pe_int pa_nil)) (pe_callB (call_max2 rfl) (by rfl) T.f_max bt_max (pa_cons pe_int (pa_cons (pe_op op_sub (pe_op op_add (pe_callB call_len_seq (by rfl) T.f_len bt_len (pa_cons (pv 1) pa_nil)) (pe_callB call_len_seq (by rfl) T.f_len bt_len (pa_cons (pv 2) pa_nil))) pe_int) pa_nil)))))
  (pss_cons (ps_for PassesOwn.never rfl (pi_enum (by rfl) T.f_enumerate (pa_cons (pv 1) pa_nil)) (pg_tup rfl (pgs_cons (pg_name (i := 5) sc_poly_times.nd rfl (by first | exact .inl rfl | exact .inr rfl)) (pgs_cons (pg_name (i := 6) sc_poly_times.nd rfl (by first | exact .inl rfl | exact .inr rfl)) pgs_nil)))
  (pss_one (ps_for PassesOwn.never rfl (pi_enum (by rfl) T.f_enumerate (pa_cons (pv 2) pa_nil)) (pg_tup rfl (pgs_cons (pg_name (i := 7) sc_poly_times.nd rfl (by first | exact .inl rfl | exact .inr rfl)) (pgs_cons (pg_name (i := 8) sc_poly_times.nd rfl (by first | exact .inl rfl | exact .inr rfl)) pgs_nil)))
  (pss_one (ps_asg (pe_op op_mod (pe_op op_add (pe_ix ix_list (pv 4) (pe_op op_add (pv 5) (pv 7)) (fun _ _ => rfl)) (pe_op op_mul (pv 6) (pv 8))) (pv 0)) (pg_sub (pv 4) (pe_op op_add (pv 5) (pv 7)) set_list))))))
  (pss_one (ps_ret (pe_kn k_poly_rest (hr.mono (by decide)) rfl (pa_cons (pv 0) (pa_cons (pv 4) (pa_cons (pv 3) pa_nil)))))))),
    body_ok (W := [4]) (b := S.b_poly_times) (np := 4) (ns := 5) (s_seq (s_asgF (by decide) (x_rep (x_of_f (x_lst (a_cons x_int a_nil) (Few.ok (.cons .nil)))) (x_max2 x_int (x_i2 ir_sub (x_i2 ir_add (x_len x_varw) (x_len x_varw)) x_int))))
  (s_seq (s_for (i_enum (x_var (by decide))) (g_tup (by decide) (by decide))
  (s_for (i_enum (x_var (by decide))) (g_tup (by decide) (by decide))
  (s_set (by decide) (x_i2 ir_add x_varw x_varw) (x_i2 ir_mod (x_i2 ir_add (x_ixL x_varw (x_i2 ir_add x_varw x_varw)) (x_i2 ir_mul x_varw x_varw)) x_varw))))
  (s_ret (x_call (a_cons x_varw (a_cons x_varw (a_cons x_varw a_nil))))))) (by decide) rfl h⟩
abbrev st_poly_less : Stmt := topS 25
theorem sc_poly_less : FnScope ["prime", "one", "other", "many", "near", "far", "first", "second"] ["prime", "one", "other"] (defScope st_poly_less) := ⟨rfl, rfl, rfl, by decide +kernel, rfl, by decide +kernel, by decide +kernel⟩
theorem ok_poly_less {P : Program} {w : World} {K : PySem.W.Frag} {mg : Str → Option Value} {base : Heap} {C : Addr} (T : Tx K mg C) (k_without_end : Kn P w K mg base "without_end" 1 ["numbers"] (spN C S.without_end)) {f : Addr} {fd : FuncData} (F : Fn K "poly_less" st_poly_less f fd) : FnOk P w K mg base CX0 2 f fd ["prime", "one", "other"] (spF C S.poly_less) := by
  refine F.ok sc_poly_less (fun vs H Q E h => spF_len h) (fun cdv A outer s H vs Q E hr h => ?_)
  exact ⟨_, PSs.nox (pss_cons (ps_set (i := 3) sc_poly_less.nd rfl (by first | exact .inl rfl | exact .inr rfl) (pe_callB (call_max2 rfl) (by rfl) T.f_max bt_max (pa_cons (pe_callB call_len_seq (by rfl) T.f_len bt_len (pa_cons (pv 1) pa_nil)) (pa_cons (pe_callB call_len_seq (by rfl) T.f_len bt_len (pa_cons (pv 2) pa_nil)) pa_nil))))
  (pss_cons (ps_par (i := 4) (j := 5) (by rfl) sc_poly_less.nd rfl rfl (by decide) rfl rfl (pa_cons (pe_op op_cat (pv 1) (pe_op op_rep (pe_lst (pa_cons pe_int pa_nil)) (pe_op op_sub (pv 3) (pe_callB call_len_seq (by rfl) T.f_len bt_len (pa_cons (pv 1) pa_nil))))) (pa_cons (pe_op op_cat (pv 2) (pe_op op_rep (pe_lst (pa_cons pe_int pa_nil)) (pe_op op_sub (pv 3) (pe_callB call_len_seq (by rfl) T.f_len bt_len (pa_cons (pv 2) pa_nil))))) pa_nil)) (by rfl))
  (pss_one (ps_ret (pe_kn k_without_end (hr.mono (by decide)) rfl (pa_cons (pe_lc (own := [("first", 6), ("second", 7)]) rfl sc_poly_less.nd (pi_zip (by rfl) T.f_zip (pa_cons (pv 4) (pa_cons (pv 5) pa_nil))) (blkOk_by (by kernel_rfl)) (fun _ _ _ _ _ => (pg_tup rfl (pgs_cons (pg_name (i := 6) sc_poly_less.nd rfl (by first | exact .inl rfl | exact .inr rfl)) (pgs_cons (pg_name (i := 7) sc_poly_less.nd rfl (by first | exact .inl rfl | exact .inr rfl)) pgs_nil)))) (fun _ _ _ _ _ => pts_nil) (fun _ _ _ _ _ => (pe_op op_mod (pe_op op_sub (pv 6) (pv 7)) (pv 0)))) pa_nil)))))),
    body_ok (W := []) (b := S.b_poly_less) (np := 3) (ns := 5) (s_seq (s_asg (x_max2 (x_len x_varw) (x_len x_varw)) (g_name (by decide)))
  (s_seq (s_par2 (by decide) (by decide) (x_of_f (x_cat (x_var (by decide)) (x_of_f (x_rep (x_of_f (x_lst (a_cons x_int a_nil) (Few.ok (.cons .nil)))) (x_i2 ir_sub x_varw (x_len x_varw)))))) (x_of_f (x_cat (x_var (by decide)) (x_of_f (x_rep (x_of_f (x_lst (a_cons x_int a_nil) (Few.ok (.cons .nil)))) (x_i2 ir_sub x_varw (x_len x_varw)))))))
  (s_ret (x_of_f (x_callN (a_cons (x_of_f (f_weak (x_lc (i_zip (x_var (by decide)) (x_var (by decide))) (g_tup (by decide) (by decide)) (by decide) t_yes (x_i2 ir_mod (x_i2 ir_sub x_varw x_varw) x_varw)))) a_nil)))))) (by decide) rfl h⟩
abbrev st_are_apart : Stmt := topS 26
theorem sc_are_apart : FnScope ["prime", "one", "other", "near", "far"] ["prime", "one", "other"] (defScope st_are_apart) := ⟨rfl, rfl, rfl, by decide +kernel, rfl, by decide +kernel, by decide +kernel⟩
theorem ok_are_apart {P : Program} {w : World} {K : PySem.W.Frag} {mg : Str → Option Value} {base : Heap} {C : Addr} (T : Tx K mg C) (k_poly_rest : Kn P w K mg base "poly_rest" 2 ["prime", "poly", "other"] (spF C S.poly_rest)) {f : Addr} {fd : FuncData} (F : Fn K "are_apart" st_are_apart f fd) : FnOk P w K mg base CX0 3 f fd ["prime", "one", "other"] (spF C S.are_apart) := by
  refine F.ok sc_are_apart (fun vs H Q E h => spF_len h) (fun cdv A outer s H vs Q E hr h => ?_)
  exact ⟨_, PSs.nox (pss_cons (ps_par (i := 3) (j := 4) (by rfl) sc_are_apart.nd rfl rfl (by decide) rfl rfl (pa_cons (pv 1) (pa_cons (pv 2) pa_nil)) (by rfl))
  (pss_cons (ps_while PassesOwn.never (pt_cmpR op_gt (pe_callB call_len_seq (by rfl) T.f_len bt_len (pa_cons (pv 4) pa_nil)) pe_int (nomark _)) (pss_one (ps_par (i := 3) (j := 4) (by rfl) sc_are_apart.nd rfl rfl (by decide) rfl rfl (pa_cons (pv 4) (pa_cons (pe_kn k_poly_rest (hr.mono (by decide)) rfl (pa_cons (pv 0) (pa_cons (pv 3) (pa_cons (pv 4) pa_nil)))) pa_nil)) (by rfl))))
  (pss_one (ps_ret (pe_cmpR op_eq (pe_callB call_len_seq (by rfl) T.f_len bt_len (pa_cons (pv 3) pa_nil)) pe_int (nomark _)))))),
    body_ok (W := []) (b := S.b_are_apart) (np := 3) (ns := 2) (s_seq (s_par2 (by decide) (by decide) (x_var (by decide)) (x_var (by decide)))
  (s_seq (s_while (t_test (x_i2 ir_gt (x_len x_varw) x_int)) (s_par2 (by decide) (by decide) (x_var (by decide)) (x_call (a_cons (x_var (by decide)) (a_cons (x_var (by decide)) (a_cons (x_var (by decide)) a_nil))))))
  (s_ret (x_i2 ir_eq (x_len x_varw) x_int)))) (by decide) rfl h⟩
abbrev st_letter_turns : Stmt := topS 27
theorem sc_letter_turns : FnScope ["prime", "modulus", "found", "turn", "here", "factor"] ["prime", "modulus"] (defScope st_letter_turns) := ⟨rfl, rfl, rfl, by decide +kernel, rfl, by decide +kernel, by decide +kernel⟩
theorem ok_letter_turns {P : Program} {w : World} {K : PySem.W.Frag} {mg : Str → Option Value} {base : Heap} {C : Addr} (T : Tx K mg C) (k_poly_rest : Kn P w K mg base "poly_rest" 2 ["prime", "poly", "other"] (spF C S.poly_rest)) (k_poly_times : Kn P w K mg base "poly_times" 3 ["prime", "one", "other", "modulus"] (spF C S.poly_times)) {f : Addr} {fd : FuncData} (F : Fn K "letter_turns" st_letter_turns f fd) : FnOk P w K mg base CX0 4 f fd ["prime", "modulus"] (spF C S.letter_turns) := by
  refine F.ok sc_letter_turns (fun vs H Q E h => spF_len h) (fun cdv A outer s H vs Q E hr h => ?_)
  exact ⟨_, PSs.nox (pss_cons (ps_set (i := 2) sc_letter_turns.nd rfl (by first | exact .inl rfl | exact .inr rfl) (pe_lst (pa_cons (pe_kn k_poly_rest (hr.mono (by decide)) rfl (pa_cons (pv 0) (pa_cons (pe_lst (pa_cons pe_int (pa_cons pe_int pa_nil))) (pa_cons (pv 1) pa_nil)))) pa_nil)))
  (pss_cons (ps_for PassesOwn.never rfl (pi_range1 rfl T.f_range (pa_cons (pe_op op_sub (pe_callB call_len_seq (by rfl) T.f_len bt_len (pa_cons (pv 1) pa_nil)) pe_int) pa_nil)) (pg_name (i := 3) sc_letter_turns.nd rfl (by first | exact .inl rfl | exact .inr rfl))
  (pss_cons (ps_set (i := 4) sc_letter_turns.nd rfl (by first | exact .inl rfl | exact .inr rfl) (pe_lst (pa_cons pe_int pa_nil)))
  (pss_cons (ps_for PassesOwn.never rfl (pi_range1 rfl T.f_range (pa_cons (pv 0) pa_nil)) (pg_name (i := 5) sc_letter_turns.nd rfl (by first | exact .inl rfl | exact .inr rfl))
  (pss_one (ps_set (i := 4) sc_letter_turns.nd rfl (by first | exact .inl rfl | exact .inr rfl) (pe_kn k_poly_times (hr.mono (by decide)) rfl (pa_cons (pv 0) (pa_cons (pv 4) (pa_cons (pe_ix ix_list (pv 2) (pe_un un_neg pe_int) (fun _ _ => rfl)) (pa_cons (pv 1) pa_nil))))))))
  (pss_one (ps_expr (pe_bm PySem.F.plainAttrs_list PySem.F.slot_list_append PySem.F.type_list_append mt_append (pv 2) (pa_cons (pv 4) pa_nil)))))))
  (pss_one (ps_ret (pv 2))))),
    body_ok (W := [2]) (b := S.b_letter_turns) (np := 2) (ns := 4) (s_seq (s_asgF (by decide) (x_lst (a_cons (x_call (a_cons (x_var (by decide)) (a_cons (x_of_f (x_lst (a_cons x_int (a_cons x_int a_nil)) (Few.ok (.cons (.cons .nil))))) (a_cons (x_var (by decide)) a_nil)))) a_nil) (Few.ok (.cons .nil))))
  (s_seq (s_for (i_range1 (x_i2 ir_sub (x_len x_varw) x_int)) (g_name (by decide))
  (s_seq (s_asg (x_of_f (x_lst (a_cons x_int a_nil) (Few.ok (.cons .nil)))) (g_name (by decide)))
  (s_seq (s_for (i_range1 x_varw) (g_name (by decide))
  (s_asg (x_call (a_cons (x_var (by decide)) (a_cons (x_var (by decide)) (a_cons (x_ixW (by decide) (x_neg x_int)) (a_cons (x_var (by decide)) a_nil))))) (g_name (by decide))))
  (s_app (by decide) (x_var (by decide))))))
  (s_ret x_varw))) (by decide) rfl h⟩
abbrev st_is_prime : Stmt := topS 29
theorem sc_is_prime : FnScope ["number", "less"] ["number"] (defScope st_is_prime) := ⟨rfl, rfl, rfl, by decide +kernel, rfl, by decide +kernel, by decide +kernel⟩
theorem ok_is_prime {P : Program} {w : World} {K : PySem.W.Frag} {mg : Str → Option Value} {base : Heap} {C : Addr} (T : Tx K mg C)  {f : Addr} {fd : FuncData} (F : Fn K "is_prime" st_is_prime f fd) : FnOk P w K mg base CX0 1 f fd ["number"] (spF C S.is_prime) := by
  refine F.ok sc_is_prime (fun vs H Q E h => spF_len h) (fun cdv A outer s H vs Q E hr h => ?_)
  exact ⟨_, PSs.nox (pss_one (ps_ret (pe_callB (cr_all rfl) (by rfl) T.f_all bt_all (pa_cons (pe_lc (own := [("less", 1)]) rfl sc_is_prime.nd (pi_range2 rfl T.f_range (pa_cons pe_int (pa_cons (pv 0) pa_nil))) (blkOk_by (by kernel_rfl)) (fun _ _ _ _ _ => (pg_name (i := 1) sc_is_prime.nd rfl (by first | exact .inl rfl | exact .inr rfl))) (fun _ _ _ _ _ => pts_nil) (fun _ _ _ _ _ => (pe_cmpR op_ne (pe_op op_mod (pv 0) (pv 1)) pe_int (nomark _)))) pa_nil)))),
    body_ok (W := []) (b := S.b_is_prime) (np := 1) (ns := 1) (s_ret (x_all (x_of_f (f_weak (x_lc (i_range2 x_int x_varw) (g_name (by decide)) (by decide) t_yes (x_i2 ir_ne (x_i2 ir_mod x_varw x_varw) x_int)))))) (by decide) rfl h⟩
abbrev st_is_single : Stmt := topS 28
theorem sc_is_single : FnScope ["prime", "modulus", "parts", "many", "found", "less"] ["prime", "modulus"] (defScope st_is_single) := ⟨rfl, rfl, rfl, by decide +kernel, rfl, by decide +kernel, by decide +kernel⟩
theorem ok_is_single {P : Program} {w : World} {K : PySem.W.Frag} {mg : Str → Option Value} {base : Heap} {C : Addr} (T : Tx K mg C) (k_are_apart : Kn P w K mg base "are_apart" 3 ["prime", "one", "other"] (spF C S.are_apart)) (k_is_prime : Kn P w K mg base "is_prime" 1 ["number"] (spF C S.is_prime)) (k_letter_turns : Kn P w K mg base "letter_turns" 4 ["prime", "modulus"] (spF C S.letter_turns)) (k_poly_less : Kn P w K mg base "poly_less" 2 ["prime", "one", "other"] (spF C S.poly_less)) {f : Addr} {fd : FuncData} (F : Fn K "is_single" st_is_single f fd) : FnOk P w K mg base CX0 5 f fd ["prime", "modulus"] (spF C S.is_single) := by
  refine F.ok sc_is_single (fun vs H Q E h => spF_len h) (fun cdv A outer s H vs Q E hr h => ?_)
  exact ⟨_, PSs.nox (pss_cons (ps_asg (pe_tup (pa_cons (pe_op op_sub (pe_callB call_len_seq (by rfl) T.f_len bt_len (pa_cons (pv 1) pa_nil)) pe_int) (pa_cons (pe_kn k_letter_turns (hr.mono (by decide)) rfl (pa_cons (pv 0) (pa_cons (pv 1) pa_nil))) pa_nil))) (pg_tup rfl (pgs_cons (pg_name (i := 3) sc_is_single.nd rfl (by first | exact .inl rfl | exact .inr rfl)) (pgs_cons (pg_name (i := 4) sc_is_single.nd rfl (by first | exact .inl rfl | exact .inr rfl)) pgs_nil))))
  (pss_cons (ps_if (pt_cmpR (op_neD hr.units) (pe_ix ix_list (pv 4) (pv 3) (fun _ _ => rfl)) (pe_ix ix_list (pv 4) pe_int (fun _ _ => rfl)) (nomark _)) (pss_one (ps_ret pe_bl)) pss_nil)
  (pss_cons (ps_setLc (i := 2) (own := [("less", 5)]) rfl sc_is_single.nd rfl rfl (sw_true rfl rfl rfl (by kernel_rfl)) (pi_range2 rfl T.f_range (pa_cons pe_int (pa_cons (pe_op op_add (pv 3) pe_int) pa_nil))) (blkOk_by (by kernel_rfl)) (fun _ _ _ _ _ => (pg_name (i := 5) sc_is_single.nd rfl (by first | exact .inl rfl | exact .inr rfl))) (fun _ _ _ _ _ => (pts_one (PW.pt (pw_and (pt_cmpR op_eq (pe_op op_mod (pv 3) (pv 5)) pe_int (nomark _)) (pw_and1 (pt_val (pe_kn k_is_prime (hr.mono (by decide)) rfl (pa_cons (pv 5) pa_nil)))))))) (fun _ _ _ _ _ => (pv 5)))
  (pss_one (ps_ret (pe_callB (cr_all rfl) (by rfl) T.f_all bt_all (pa_cons (pe_lc (own := [("less", 5)]) rfl sc_is_single.nd (pi_list (pv 2)) (blkOk_by (by kernel_rfl)) (fun _ _ _ _ _ => (pg_name (i := 5) sc_is_single.nd rfl (by first | exact .inl rfl | exact .inr rfl))) (fun _ _ _ _ _ => pts_nil) (fun _ _ _ _ _ => (pe_kn k_are_apart (hr.mono (by decide)) rfl (pa_cons (pv 0) (pa_cons (pe_callTy call_list_of (by rfl) T.f_list bt_list (pa_cons (pv 1) pa_nil)) (pa_cons (pe_kn k_poly_less (hr.mono (by decide)) rfl (pa_cons (pv 0) (pa_cons (pe_ix ix_list (pv 4) (pe_op op_fdiv (pv 3) (pv 5)) (fun _ _ => rfl)) (pa_cons (pe_ix ix_list (pv 4) pe_int (fun _ _ => rfl)) pa_nil)))) pa_nil)))))) pa_nil))))))),
    body_ok (W := []) (b := S.b_is_single) (np := 2) (ns := 4) (s_seq (s_asg (x_tup (a_cons (x_i2 ir_sub (x_len x_varw) x_int) (a_cons (x_call (a_cons (x_var (by decide)) (a_cons (x_var (by decide)) a_nil))) a_nil)) (Few.ok (.cons (.cons .nil)))) (g_tup (by decide) (by decide)))
  (s_seq (s_if (t_test (x_neD (x_ixL x_varw x_varw) (x_ixL x_varw x_int))) (s_ret x_bl) s_next)
  (s_seq (s_asg (x_of_f (x_lc (i_range2 x_int (x_i2 ir_add x_varw x_int)) (g_name (by decide)) (by decide) (t_and (t_test (x_i2 ir_eq (x_i2 ir_mod x_varw x_varw) x_int)) (t_B (x_call (a_cons x_varw a_nil)))) (x_var (by decide)))) (g_name (by decide)))
  (s_ret (x_all (x_of_f (f_weak (x_lc (i_list (x_var (by decide))) (g_name (by decide)) (by decide) t_yes (x_call (a_cons (x_var (by decide)) (a_cons (x_of_f (x_list (x_var (by decide)))) (a_cons (x_call (a_cons (x_var (by decide)) (a_cons (x_ixL (x_var (by decide)) (x_i2 ir_div x_varw x_varw)) (a_cons (x_ixL (x_var (by decide)) x_int) a_nil)))) a_nil)))))))))))) (by decide) rfl h⟩
abbrev st_want_prime : Stmt := topS 30
theorem sc_want_prime : FnScope ["prime"] ["prime"] (defScope st_want_prime) := ⟨rfl, rfl, rfl, by decide +kernel, rfl, by decide +kernel, by decide +kernel⟩
theorem ok_want_prime {P : Program} {w : World} {K : PySem.W.Frag} {mg : Str → Option Value} {base : Heap} {C : Addr} (T : Tx K mg C) (k_is_count : Kn P w K mg base "is_count" 2 ["value"] (spF C S.is_count)) {f : Addr} {fd : FuncData} (F : Fn K "want_prime" st_want_prime f fd) : FnOk P w K mg base CX0 3 f fd ["prime"] (spF C S.want_prime) := by
  refine F.ok sc_want_prime (fun vs H Q E h => spF_len h) (fun cdv A outer s H vs Q E hr h => ?_)
  exact ⟨_, PSs.nox (pss_one (ps_if (PW.pt (pw_or (pt_not (pt_val (pe_kn k_is_count (hr.mono (by decide)) rfl (pa_cons (pv 0) pa_nil)))) (pw_or1 (pt_cmpR op_notIn_seq (pv 0) (pe_glob (v := .ref (He.ga K "PRIMES")) rfl T.mgP rfl) (by rfl))))) (pss_one ps_never) pss_nil)),
    body_ok (W := []) (b := S.b_want_prime) (np := 1) (ns := 0) (s_if (t_or (t_not (t_B (x_call (a_cons x_varw a_nil)))) (t_test (x_notInK T.sqP x_varw))) s_never s_next) (by decide) rfl h⟩
abbrev st_is_figures : Stmt := topS 31
theorem sc_is_figures : FnScope ["prime", "value", "many", "one"] ["prime", "value", "many"] (defScope st_is_figures) := ⟨rfl, rfl, rfl, by decide +kernel, rfl, by decide +kernel, by decide +kernel⟩
theorem ok_is_figures {P : Program} {w : World} {K : PySem.W.Frag} {mg : Str → Option Value} {base : Heap} {C : Addr} (T : Tx K mg C) (k_is_count : Kn P w K mg base "is_count" 2 ["value"] (spF C S.is_count)) (k_is_list : Kn P w K mg base "is_list" 1 ["value"] (spF C S.is_list)) {f : Addr} {fd : FuncData} (F : Fn K "is_figures" st_is_figures f fd) : FnOk P w K mg base CX0 3 f fd ["prime", "value", "many"] (spF C S.is_figures) := by
  refine F.ok sc_is_figures (fun vs H Q E h => spF_len h) (fun cdv A outer s H vs Q E hr h => ?_)
  exact ⟨_, PSs.nox (pss_one (ps_ret (pe_and (pe_kn k_is_list (hr.mono (by decide)) rfl (pa_cons (pv 1) pa_nil)) (pe_and (pe_cmpR op_eq (pe_callB call_len_seq (by rfl) T.f_len bt_len (pa_cons (pv 1) pa_nil)) (pv 2) (nomark _)) (pe_one (pe_callB (cr_all rfl) (by rfl) T.f_all bt_all (pa_cons (pe_lc (own := [("one", 3)]) rfl sc_is_figures.nd (pi_list (pv 1)) (blkOk_by (by kernel_rfl)) (fun _ _ _ _ _ => (pg_name (i := 3) sc_is_figures.nd rfl (by first | exact .inl rfl | exact .inr rfl))) (fun _ _ _ _ _ => pts_nil) (fun _ _ _ _ _ => (pe_and (pe_kn k_is_count (hr.mono (by decide)) rfl (pa_cons (pv 3) pa_nil)) (pe_one (pe_cmpR op_lt (pv 3) (pv 0) (nomark _)))))) pa_nil))))))),
    body_ok (W := []) (b := S.b_is_figures) (np := 3) (ns := 1) (s_ret (x_andV (x_call (a_cons x_varw a_nil)) (x_andV (x_i2 ir_eq (x_len x_varw) x_varw) (x_all (x_of_f (f_weak (x_lc (i_list (x_var (by decide))) (g_name (by decide)) (by decide) t_yes (x_andV (x_call (a_cons x_varw a_nil)) (x_i2 ir_lt x_varw x_varw))))))))) (by decide) rfl h⟩
abbrev st_is_right : Stmt := topS 32
theorem sc_is_right : FnScope ["prime", "value"] ["prime", "value"] (defScope st_is_right) := ⟨rfl, rfl, rfl, by decide +kernel, rfl, by decide +kernel, by decide +kernel⟩
theorem ok_is_right {P : Program} {w : World} {K : PySem.W.Frag} {mg : Str → Option Value} {base : Heap} {C : Addr} (T : Tx K mg C) (k_is_figures : Kn P w K mg base "is_figures" 3 ["prime", "value", "many"] (spF C S.is_figures)) (k_is_list : Kn P w K mg base "is_list" 1 ["value"] (spF C S.is_list)) (k_is_single : Kn P w K mg base "is_single" 5 ["prime", "modulus"] (spF C S.is_single)) {f : Addr} {fd : FuncData} (F : Fn K "is_right" st_is_right f fd) : FnOk P w K mg base CX0 6 f fd ["prime", "value"] (spF C S.is_right) := by
  refine F.ok sc_is_right (fun vs H Q E h => spF_len h) (fun cdv A outer s H vs Q E hr h => ?_)
  exact ⟨_, PSs.nox (pss_cons (ps_if (PW.pt (pw_or (pt_not (pt_val (pe_kn k_is_list (hr.mono (by decide)) rfl (pa_cons (pv 1) pa_nil)))) (pw_or (pt_not (pt_chain op_le op_le pe_int (pe_callB call_len_seq (by rfl) T.f_len bt_len (pa_cons (pv 1) pa_nil)) (pe_op op_add (pe_gint rfl T.c_MOST_TURNS) pe_int))) (pw_or1 (pt_not (pt_val (pe_kn k_is_figures (hr.mono (by decide)) rfl (pa_cons (pv 0) (pa_cons (pv 1) (pa_cons (pe_callB call_len_seq (by rfl) T.f_len bt_len (pa_cons (pv 1) pa_nil)) pa_nil)))))))))) (pss_one (ps_ret pe_bl)) pss_nil)
  (pss_one (ps_ret (pe_and (pe_cmpR op_eq (pe_ix ix_list (pv 1) (pe_un un_neg pe_int) (fun _ _ => rfl)) pe_int (nomark _)) (pe_one (pe_kn k_is_single (hr.mono (by decide)) rfl (pa_cons (pv 0) (pa_cons (pe_callTy call_list_of (by rfl) T.f_list bt_list (pa_cons (pv 1) pa_nil)) pa_nil)))))))),
    body_ok (W := []) (b := S.b_is_right) (np := 2) (ns := 0) (s_seq (s_if (t_or (t_not (t_B (x_call (a_cons x_varw a_nil)))) (t_or (t_not (t_test (x_chain ir_le ir_le x_int (x_len x_varw) (x_i2 ir_add x_int x_int)))) (t_not (t_B (x_call (a_cons x_varw (a_cons x_varw (a_cons (x_len x_varw) a_nil)))))))) (s_ret x_bl) s_next)
  (s_ret (x_andV (x_i2 ir_eq (x_ixL x_varw (x_neg x_int)) x_int) (x_call (a_cons x_varw (a_cons (x_of_f (x_list x_varw)) a_nil)))))) (by decide) rfl h⟩
abbrev st_told_number : Stmt := topS 33
theorem sc_told_number : FnScope ["prime", "poly", "found", "one"] ["prime", "poly"] (defScope st_told_number) := ⟨rfl, rfl, rfl, by decide +kernel, rfl, by decide +kernel, by decide +kernel⟩
theorem ok_told_number {P : Program} {w : World} {K : PySem.W.Frag} {mg : Str → Option Value} {base : Heap} {C : Addr} (T : Tx K mg C)  {f : Addr} {fd : FuncData} (F : Fn K "told_number" st_told_number f fd) : FnOk P w K mg base CX0 1 f fd ["prime", "poly"] (spF C S.told_number) := by
  refine F.ok sc_told_number (fun vs H Q E h => spF_len h) (fun cdv A outer s H vs Q E hr h => ?_)
  exact ⟨_, PSs.nox (pss_cons (ps_set (i := 2) sc_told_number.nd rfl (by first | exact .inl rfl | exact .inr rfl) pe_int)
  (pss_cons (ps_for PassesOwn.never rfl (pi_list (pe_revL (pv 1))) (pg_name (i := 3) sc_told_number.nd rfl (by first | exact .inl rfl | exact .inr rfl))
  (pss_one (ps_set (i := 2) sc_told_number.nd rfl (by first | exact .inl rfl | exact .inr rfl) (pe_op op_add (pe_op op_mul (pv 2) (pv 0)) (pv 3)))))
  (pss_one (ps_ret (pv 2))))),
    body_ok (W := []) (b := S.b_told_number) (np := 2) (ns := 2) (s_seq (s_asg x_int (g_name (by decide)))
  (s_seq (s_for (i_list (x_of_f (x_rev (x_var (by decide))))) (g_name (by decide))
  (s_asg (x_i2 ir_add (x_i2 ir_mul x_varw x_varw) x_varw) (g_name (by decide))))
  (s_ret x_varw))) (by decide) rfl h⟩
abbrev st_poly_of : Stmt := topS 34
theorem sc_poly_of : FnScope ["prime", "number", "found", "left"] ["prime", "number"] (defScope st_poly_of) := ⟨rfl, rfl, rfl, by decide +kernel, rfl, by decide +kernel, by decide +kernel⟩
theorem ok_poly_of {P : Program} {w : World} {K : PySem.W.Frag} {mg : Str → Option Value} {base : Heap} {C : Addr} (T : Tx K mg C)  {f : Addr} {fd : FuncData} (F : Fn K "poly_of" st_poly_of f fd) : FnOk P w K mg base CX0 1 f fd ["prime", "number"] (spF C S.poly_of) := by
  refine F.ok sc_poly_of (fun vs H Q E h => spF_len h) (fun cdv A outer s H vs Q E hr h => ?_)
  exact ⟨_, PSs.nox (pss_cons (ps_par (i := 2) (j := 3) (by rfl) sc_poly_of.nd rfl rfl (by decide) rfl rfl (pa_cons (pe_lst pa_nil) (pa_cons (pv 1) pa_nil)) (by rfl))
  (pss_cons (ps_while PassesOwn.never (pt_cmpR op_gt (pv 3) pe_int (nomark _)) (pss_cons (ps_expr (pe_bm PySem.F.plainAttrs_list PySem.F.slot_list_append PySem.F.type_list_append mt_append (pv 2) (pa_cons (pe_op op_mod (pv 3) (pv 0)) pa_nil)))
  (pss_one (ps_set (i := 3) sc_poly_of.nd rfl (by first | exact .inl rfl | exact .inr rfl) (pe_op op_fdiv (pv 3) (pv 0))))))
  (pss_one (ps_ret (pv 2))))),
    body_ok (W := [2]) (b := S.b_poly_of) (np := 2) (ns := 2) (s_seq (s_parF1 (by decide) (by decide) (x_lst a_nil (Few.ok .nil)) (x_var (by decide)))
  (s_seq (s_while (t_test (x_i2 ir_gt x_varw x_int)) (s_seq (s_app (by decide) (x_i2 ir_mod x_varw x_varw))
  (s_asg (x_i2 ir_div x_varw x_varw) (g_name (by decide)))))
  (s_ret x_varw))) (by decide) rfl h⟩
abbrev st_powers_by : Stmt := topS 35
theorem sc_powers_by : FnScope ["prime", "modulus", "number", "base", "found", "here"] ["prime", "modulus", "number"] (defScope st_powers_by) := ⟨rfl, rfl, rfl, by decide +kernel, rfl, by decide +kernel, by decide +kernel⟩
theorem ok_powers_by {P : Program} {w : World} {K : PySem.W.Frag} {mg : Str → Option Value} {base : Heap} {C : Addr} (T : Tx K mg C) (k_poly_of : Kn P w K mg base "poly_of" 1 ["prime", "number"] (spF C S.poly_of)) (k_poly_times : Kn P w K mg base "poly_times" 3 ["prime", "one", "other", "modulus"] (spF C S.poly_times)) (k_told_number : Kn P w K mg base "told_number" 1 ["prime", "poly"] (spF C S.told_number)) {f : Addr} {fd : FuncData} (F : Fn K "powers_by" st_powers_by f fd) : FnOk P w K mg base CX0 4 f fd ["prime", "modulus", "number"] (spF C S.powers_by) := by
  refine F.ok sc_powers_by (fun vs H Q E h => spF_len h) (fun cdv A outer s H vs Q E hr h => ?_)
  exact ⟨_, PSs.nox (pss_cons (ps_par3 (i := 3) (j := 4) (l := 5) (by rfl) sc_powers_by.nd rfl rfl rfl (by decide) (by decide) (by decide) rfl rfl rfl (pa_cons (pe_kn k_poly_of (hr.mono (by decide)) rfl (pa_cons (pv 0) (pa_cons (pv 2) pa_nil))) (pa_cons (pe_lst (pa_cons pe_int pa_nil)) (pa_cons (pe_kn k_poly_of (hr.mono (by decide)) rfl (pa_cons (pv 0) (pa_cons (pv 2) pa_nil))) pa_nil))) (by rfl))
  (pss_cons (ps_while PassesOwn.never (pt_cmpR (op_neD hr.units) (pv 5) (pe_lst (pa_cons pe_int pa_nil)) (nomark _)) (pss_cons (ps_expr (pe_bm PySem.F.plainAttrs_list PySem.F.slot_list_append PySem.F.type_list_append mt_append (pv 4) (pa_cons (pe_kn k_told_number (hr.mono (by decide)) rfl (pa_cons (pv 0) (pa_cons (pv 5) pa_nil))) pa_nil)))
  (pss_one (ps_set (i := 5) sc_powers_by.nd rfl (by first | exact .inl rfl | exact .inr rfl) (pe_kn k_poly_times (hr.mono (by decide)) rfl (pa_cons (pv 0) (pa_cons (pv 5) (pa_cons (pv 3) (pa_cons (pv 1) pa_nil)))))))))
  (pss_one (ps_ret (pv 4))))),
    body_ok (W := [4]) (b := S.b_powers_by) (np := 3) (ns := 3) (s_seq (s_par3 (by decide) (by decide) (by decide) (x_call (a_cons (x_var (by decide)) (a_cons (x_var (by decide)) a_nil))) (x_lst (a_cons x_int a_nil) (Few.ok (.cons .nil))) (x_call (a_cons (x_var (by decide)) (a_cons (x_var (by decide)) a_nil))))
  (s_seq (s_while (t_test (x_neD x_varw (x_of_f (x_lst (a_cons x_int a_nil) (Few.ok (.cons .nil)))))) (s_seq (s_app (by decide) (x_call (a_cons (x_var (by decide)) (a_cons (x_var (by decide)) a_nil))))
  (s_asg (x_call (a_cons (x_var (by decide)) (a_cons (x_var (by decide)) (a_cons (x_var (by decide)) (a_cons (x_var (by decide)) a_nil))))) (g_name (by decide)))))
  (s_ret x_varw))) (by decide) rfl h⟩
abbrev st_all_powers : Stmt := topS 36
theorem sc_all_powers : FnScope ["prime", "modulus", "size", "number", "found"] ["prime", "modulus", "size"] (defScope st_all_powers) := ⟨rfl, rfl, rfl, by decide +kernel, rfl, by decide +kernel, by decide +kernel⟩
theorem ok_all_powers {P : Program} {w : World} {K : PySem.W.Frag} {mg : Str → Option Value} {base : Heap} {C : Addr} (T : Tx K mg C) (k_powers_by : Kn P w K mg base "powers_by" 4 ["prime", "modulus", "number"] (spF C S.powers_by)) {f : Addr} {fd : FuncData} (F : Fn K "all_powers" st_all_powers f fd) : FnOk P w K mg base CX0 5 f fd ["prime", "modulus", "size"] (spF C S.all_powers) := by
  refine F.ok sc_all_powers (fun vs H Q E h => spF_len h) (fun cdv A outer s H vs Q E hr h => ?_)
  exact ⟨_, PSs.nox (pss_cons (ps_set (i := 3) sc_all_powers.nd rfl (by first | exact .inl rfl | exact .inr rfl) (pv 0))
  (pss_cons (ps_set (i := 4) sc_all_powers.nd rfl (by first | exact .inl rfl | exact .inr rfl) (pe_kn k_powers_by (hr.mono (by decide)) rfl (pa_cons (pv 0) (pa_cons (pv 1) (pa_cons (pv 3) pa_nil)))))
  (pss_cons (ps_while PassesOwn.never (pt_cmpR op_lt (pe_callB call_len_seq (by rfl) T.f_len bt_len (pa_cons (pv 4) pa_nil)) (pe_op op_sub (pv 2) pe_int) (nomark _)) (pss_cons (ps_set (i := 3) sc_all_powers.nd rfl (by first | exact .inl rfl | exact .inr rfl) (pe_op op_add (pv 3) pe_int))
  (pss_one (ps_set (i := 4) sc_all_powers.nd rfl (by first | exact .inl rfl | exact .inr rfl) (pe_kn k_powers_by (hr.mono (by decide)) rfl (pa_cons (pv 0) (pa_cons (pv 1) (pa_cons (pv 3) pa_nil))))))))
  (pss_one (ps_ret (pv 4)))))),
    body_ok (W := []) (b := S.b_all_powers) (np := 3) (ns := 2) (s_seq (s_asg (x_var (by decide)) (g_name (by decide)))
  (s_seq (s_asg (x_call (a_cons (x_var (by decide)) (a_cons (x_var (by decide)) (a_cons (x_var (by decide)) a_nil)))) (g_name (by decide)))
  (s_seq (s_while (t_test (x_i2 ir_lt (x_len x_varw) (x_i2 ir_sub x_varw x_int))) (s_seq (s_asg (x_i2 ir_add x_varw x_int) (g_name (by decide)))
  (s_asg (x_call (a_cons (x_var (by decide)) (a_cons (x_var (by decide)) (a_cons (x_var (by decide)) a_nil)))) (g_name (by decide)))))
  (s_ret x_varw)))) (by decide) rfl h⟩
abbrev st_logs_by : Stmt := topS 37
theorem sc_logs_by : FnScope ["powers", "size", "found", "place", "number"] ["powers", "size"] (defScope st_logs_by) := ⟨rfl, rfl, rfl, by decide +kernel, rfl, by decide +kernel, by decide +kernel⟩
theorem ok_logs_by {P : Program} {w : World} {K : PySem.W.Frag} {mg : Str → Option Value} {base : Heap} {C : Addr} (T : Tx K mg C)  {f : Addr} {fd : FuncData} (F : Fn K "logs_by" st_logs_by f fd) : FnOk P w K mg base CX0 1 f fd ["powers", "size"] (spF C S.logs_by) := by
  refine F.ok sc_logs_by (fun vs H Q E h => spF_len h) (fun cdv A outer s H vs Q E hr h => ?_)
  exact ⟨_, PSs.nox (pss_cons (ps_set (i := 2) sc_logs_by.nd rfl (by first | exact .inl rfl | exact .inr rfl) (pe_op op_rep (pe_lst (pa_cons (pe_un un_neg pe_int) pa_nil)) (pv 1)))
  (pss_cons (ps_for PassesOwn.never rfl (pi_enum (by rfl) T.f_enumerate (pa_cons (pv 0) pa_nil)) (pg_tup rfl (pgs_cons (pg_name (i := 3) sc_logs_by.nd rfl (by first | exact .inl rfl | exact .inr rfl)) (pgs_cons (pg_name (i := 4) sc_logs_by.nd rfl (by first | exact .inl rfl | exact .inr rfl)) pgs_nil)))
  (pss_one (ps_asg (pv 3) (pg_sub (pv 2) (pv 4) set_list))))
  (pss_one (ps_ret (pv 2))))),
    body_ok (W := [2]) (b := S.b_logs_by) (np := 2) (ns := 3) (s_seq (s_asgF (by decide) (x_rep (x_of_f (x_lst (a_cons (x_neg x_int) a_nil) (Few.ok (.cons .nil)))) x_varw))
  (s_seq (s_for (i_enum (x_var (by decide))) (g_tup (by decide) (by decide))
  (s_set (by decide) x_varw (x_var (by decide))))
  (s_ret x_varw))) (by decide) rfl h⟩
abbrev st_sized : Stmt := topS 38
theorem sc_sized : FnScope ["prime", "many", "found", "turn"] ["prime", "many"] (defScope st_sized) := ⟨rfl, rfl, rfl, by decide +kernel, rfl, by decide +kernel, by decide +kernel⟩
theorem ok_sized {P : Program} {w : World} {K : PySem.W.Frag} {mg : Str → Option Value} {base : Heap} {C : Addr} (T : Tx K mg C)  {f : Addr} {fd : FuncData} (F : Fn K "sized" st_sized f fd) : FnOk P w K mg base CX0 1 f fd ["prime", "many"] (spF C S.sized) := by
  refine F.ok sc_sized (fun vs H Q E h => spF_len h) (fun cdv A outer s H vs Q E hr h => ?_)
  exact ⟨_, PSs.nox (pss_cons (ps_set (i := 2) sc_sized.nd rfl (by first | exact .inl rfl | exact .inr rfl) pe_int)
  (pss_cons (ps_for PassesOwn.never rfl (pi_range1 rfl T.f_range (pa_cons (pv 1) pa_nil)) (pg_name (i := 3) sc_sized.nd rfl (by first | exact .inl rfl | exact .inr rfl))
  (pss_one (ps_set (i := 2) sc_sized.nd rfl (by first | exact .inl rfl | exact .inr rfl) (pe_op op_mul (pv 2) (pv 0)))))
  (pss_one (ps_ret (pv 2))))),
    body_ok (W := []) (b := S.b_sized) (np := 2) (ns := 2) (s_seq (s_asg x_int (g_name (by decide)))
  (s_seq (s_for (i_range1 x_varw) (g_name (by decide))
  (s_asg (x_i2 ir_mul x_varw x_varw) (g_name (by decide))))
  (s_ret x_varw))) (by decide) rfl h⟩
abbrev st_want_field : Stmt := topS 40
theorem sc_want_field : FnScope ["value"] ["value"] (defScope st_want_field) := ⟨rfl, rfl, rfl, by decide +kernel, rfl, by decide +kernel, by decide +kernel⟩
theorem ok_want_field {P : Program} {w : World} {K : PySem.W.Frag} {mg : Str → Option Value} {base : Heap} {C : Addr} (T : Tx K mg C)  {f : Addr} {fd : FuncData} (F : Fn K "want_field" st_want_field f fd) : FnOk P w K mg base CX0 1 f fd ["value"] (spF C S.want_field) := by
  refine F.ok sc_want_field (fun vs H Q E h => spF_len h) (fun cdv A outer s H vs Q E hr h => ?_)
  exact ⟨_, PSs.nox (pss_cons (ps_if (pt_not (pt_val (pe_callB (C8.call_isC T.isC) (by rfl) T.f_isinstance bt_isinstance (pa_cons (pv 0) (pa_cons (pe_glob (v := .ref C) rfl T.mgC rfl) pa_nil))))) (pss_one ps_never) pss_nil)
  (pss_one (ps_ret (pv 0)))),
    body_ok (W := []) (b := S.b_want_field) (np := 1) (ns := 0) (s_seq (s_if (t_not (t_B (x_isField x_varw))) s_never s_next)
  (s_ret x_varw)) (by decide) rfl h⟩
abbrev st_figures_of : Stmt := topS 42
theorem sc_figures_of : FnScope ["field", "one", "place", "found", "left"] ["field", "one"] (defScope st_figures_of) := ⟨rfl, rfl, rfl, by decide +kernel, rfl, by decide +kernel, by decide +kernel⟩
theorem ok_figures_of {P : Program} {w : World} {K : PySem.W.Frag} {mg : Str → Option Value} {base : Heap} {C : Addr} (T : Tx K mg C)  {f : Addr} {fd : FuncData} (F : Fn K "figures_of" st_figures_of f fd) : FnOk P w K mg base CX0 1 f fd ["field", "one"] (spF C S.figures_of) := by
  refine F.ok sc_figures_of (fun vs H Q E h => spF_len h) (fun cdv A outer s H vs Q E hr h => ?_)
  exact ⟨_, PSs.nox (pss_cons (ps_par (i := 3) (j := 4) (by rfl) sc_figures_of.nd rfl rfl (by decide) rfl rfl (pa_cons (pe_lst pa_nil) (pa_cons (pv 1) pa_nil)) (by rfl))
  (pss_cons (ps_for PassesOwn.never rfl (pi_range1 rfl T.f_range (pa_cons (pe_fld (pv 0) rfl) pa_nil)) (pg_name (i := 2) sc_figures_of.nd rfl (by first | exact .inl rfl | exact .inr rfl))
  (pss_cons (ps_expr (pe_bm PySem.F.plainAttrs_list PySem.F.slot_list_append PySem.F.type_list_append mt_append (pv 3) (pa_cons (pe_op op_mod (pv 4) (pe_fld (pv 0) rfl)) pa_nil)))
  (pss_one (ps_set (i := 4) sc_figures_of.nd rfl (by first | exact .inl rfl | exact .inr rfl) (pe_op op_fdiv (pv 4) (pe_fld (pv 0) rfl))))))
  (pss_one (ps_ret (pv 3))))),
    body_ok (W := [3]) (b := S.b_figures_of) (np := 2) (ns := 3) (s_seq (s_parF1 (by decide) (by decide) (x_lst a_nil (Few.ok .nil)) (x_var (by decide)))
  (s_seq (s_for (i_range1 (x_attr1 T.cl T.n1 x_varw)) (g_name (by decide))
  (s_seq (s_app (by decide) (x_i2 ir_mod x_varw (x_attr0 T.cl T.n0 x_varw)))
  (s_asg (x_i2 ir_div x_varw (x_attr0 T.cl T.n0 x_varw)) (g_name (by decide)))))
  (s_ret x_varw))) (by decide) rfl h⟩
abbrev st_by_figures_of : Stmt := topS 43
theorem sc_by_figures_of : FnScope ["field", "row", "found", "one"] ["field", "row"] (defScope st_by_figures_of) := ⟨rfl, rfl, rfl, by decide +kernel, rfl, by decide +kernel, by decide +kernel⟩
theorem ok_by_figures_of {P : Program} {w : World} {K : PySem.W.Frag} {mg : Str → Option Value} {base : Heap} {C : Addr} (T : Tx K mg C)  {f : Addr} {fd : FuncData} (F : Fn K "by_figures_of" st_by_figures_of f fd) : FnOk P w K mg base CX0 1 f fd ["field", "row"] (spF C S.by_figures_of) := by
  refine F.ok sc_by_figures_of (fun vs H Q E h => spF_len h) (fun cdv A outer s H vs Q E hr h => ?_)
  exact ⟨_, PSs.nox (pss_cons (ps_set (i := 2) sc_by_figures_of.nd rfl (by first | exact .inl rfl | exact .inr rfl) pe_int)
  (pss_cons (ps_for PassesOwn.never rfl (pi_list (pe_revL (pv 1))) (pg_name (i := 3) sc_by_figures_of.nd rfl (by first | exact .inl rfl | exact .inr rfl))
  (pss_one (ps_set (i := 2) sc_by_figures_of.nd rfl (by first | exact .inl rfl | exact .inr rfl) (pe_op op_add (pe_op op_mul (pv 2) (pe_fld (pv 0) rfl)) (pv 3)))))
  (pss_one (ps_ret (pv 2))))),
    body_ok (W := []) (b := S.b_by_figures_of) (np := 2) (ns := 2) (s_seq (s_asg x_int (g_name (by decide)))
  (s_seq (s_for (i_list (x_of_f (x_rev (x_var (by decide))))) (g_name (by decide))
  (s_asg (x_i2 ir_add (x_i2 ir_mul x_varw (x_attr0 T.cl T.n0 x_varw)) x_varw) (g_name (by decide))))
  (s_ret x_varw))) (by decide) rfl h⟩
abbrev st_plus_of : Stmt := topS 44
theorem sc_plus_of : FnScope ["field", "one", "other", "pairs", "near", "far"] ["field", "one", "other"] (defScope st_plus_of) := ⟨rfl, rfl, rfl, by decide +kernel, rfl, by decide +kernel, by decide +kernel⟩
theorem ok_plus_of {P : Program} {w : World} {K : PySem.W.Frag} {mg : Str → Option Value} {base : Heap} {C : Addr} (T : Tx K mg C) (k_by_figures_of : Kn P w K mg base "by_figures_of" 1 ["field", "row"] (spF C S.by_figures_of)) (k_figures_of : Kn P w K mg base "figures_of" 1 ["field", "one"] (spF C S.figures_of)) {f : Addr} {fd : FuncData} (F : Fn K "plus_of" st_plus_of f fd) : FnOk P w K mg base CX0 2 f fd ["field", "one", "other"] (spF C S.plus_of) := by
  refine F.ok sc_plus_of (fun vs H Q E h => spF_len h) (fun cdv A outer s H vs Q E hr h => ?_)
  exact ⟨_, PSs.nox (pss_cons (ps_if (PW.pt (pw_or (pt_cmpR op_eq (pv 1) pe_int (nomark _)) (pw_or1 (pt_cmpR op_eq (pv 2) pe_int (nomark _))))) (pss_one (ps_ret (pe_op op_add (pv 1) (pv 2)))) pss_nil)
  (pss_cons (ps_set (i := 3) sc_plus_of.nd rfl (by first | exact .inl rfl | exact .inr rfl) (pe_callTy call_zipN (by rfl) T.f_zip bt_zip (pa_cons (pe_kn k_figures_of (hr.mono (by decide)) rfl (pa_cons (pv 0) (pa_cons (pv 1) pa_nil))) (pa_cons (pe_kn k_figures_of (hr.mono (by decide)) rfl (pa_cons (pv 0) (pa_cons (pv 2) pa_nil))) pa_nil))))
  (pss_one (ps_ret (pe_kn k_by_figures_of (hr.mono (by decide)) rfl (pa_cons (pv 0) (pa_cons (pe_lc (own := [("near", 4), ("far", 5)]) rfl sc_plus_of.nd (pi_zipV (k := 3) rfl (by first | exact .inl rfl | exact .inr (.inl rfl))) (blkOk_by (by kernel_rfl)) (fun _ _ _ _ _ => (pg_tup rfl (pgs_cons (pg_name (i := 4) sc_plus_of.nd rfl (by first | exact .inl rfl | exact .inr rfl)) (pgs_cons (pg_name (i := 5) sc_plus_of.nd rfl (by first | exact .inl rfl | exact .inr rfl)) pgs_nil)))) (fun _ _ _ _ _ => pts_nil) (fun _ _ _ _ _ => (pe_op op_mod (pe_op op_add (pv 4) (pv 5)) (pe_fld (pv 0) rfl)))) pa_nil))))))),
    body_ok (W := []) (b := S.b_plus_of) (np := 3) (ns := 3) (s_seq (s_if (t_or (t_test (x_i2 ir_eq x_varw x_int)) (t_test (x_i2 ir_eq x_varw x_int))) (s_ret (x_i2 ir_add x_varw x_varw)) s_next) (s_zipRet (k := 3) (i0 := 0) (us := [4, 5]) (vs := [4, 5]) (x_call (a_cons (x_var (by decide)) (a_cons (x_var (by decide)) a_nil))) (x_call (a_cons (x_var (by decide)) (a_cons (x_var (by decide)) a_nil))) (by decide) (g_tup (by decide) (by decide)) (by decide) (x_i2 ir_mod (x_i2 ir_add x_varw x_varw) (x_attr0 T.cl T.n0 x_varw)))) (by decide) rfl h⟩
abbrev st_minus_of : Stmt := topS 45
theorem sc_minus_of : FnScope ["field", "one", "other", "pairs", "near", "far"] ["field", "one", "other"] (defScope st_minus_of) := ⟨rfl, rfl, rfl, by decide +kernel, rfl, by decide +kernel, by decide +kernel⟩
theorem ok_minus_of {P : Program} {w : World} {K : PySem.W.Frag} {mg : Str → Option Value} {base : Heap} {C : Addr} (T : Tx K mg C) (k_by_figures_of : Kn P w K mg base "by_figures_of" 1 ["field", "row"] (spF C S.by_figures_of)) (k_figures_of : Kn P w K mg base "figures_of" 1 ["field", "one"] (spF C S.figures_of)) {f : Addr} {fd : FuncData} (F : Fn K "minus_of" st_minus_of f fd) : FnOk P w K mg base CX0 2 f fd ["field", "one", "other"] (spF C S.minus_of) := by
  refine F.ok sc_minus_of (fun vs H Q E h => spF_len h) (fun cdv A outer s H vs Q E hr h => ?_)
  exact ⟨_, PSs.nox (pss_cons (ps_if (pt_cmpR op_eq (pv 2) pe_int (nomark _)) (pss_one (ps_ret (pv 1))) pss_nil)
  (pss_cons (ps_set (i := 3) sc_minus_of.nd rfl (by first | exact .inl rfl | exact .inr rfl) (pe_callTy call_zipN (by rfl) T.f_zip bt_zip (pa_cons (pe_kn k_figures_of (hr.mono (by decide)) rfl (pa_cons (pv 0) (pa_cons (pv 1) pa_nil))) (pa_cons (pe_kn k_figures_of (hr.mono (by decide)) rfl (pa_cons (pv 0) (pa_cons (pv 2) pa_nil))) pa_nil))))
  (pss_one (ps_ret (pe_kn k_by_figures_of (hr.mono (by decide)) rfl (pa_cons (pv 0) (pa_cons (pe_lc (own := [("near", 4), ("far", 5)]) rfl sc_minus_of.nd (pi_zipV (k := 3) rfl (by first | exact .inl rfl | exact .inr (.inl rfl))) (blkOk_by (by kernel_rfl)) (fun _ _ _ _ _ => (pg_tup rfl (pgs_cons (pg_name (i := 4) sc_minus_of.nd rfl (by first | exact .inl rfl | exact .inr rfl)) (pgs_cons (pg_name (i := 5) sc_minus_of.nd rfl (by first | exact .inl rfl | exact .inr rfl)) pgs_nil)))) (fun _ _ _ _ _ => pts_nil) (fun _ _ _ _ _ => (pe_op op_mod (pe_op op_sub (pv 4) (pv 5)) (pe_fld (pv 0) rfl)))) pa_nil))))))),
    body_ok (W := []) (b := S.b_minus_of) (np := 3) (ns := 3) (s_seq (s_if (t_test (x_i2 ir_eq x_varw x_int)) (s_ret x_varw) s_next) (s_zipRet (k := 3) (i0 := 0) (us := [4, 5]) (vs := [4, 5]) (x_call (a_cons (x_var (by decide)) (a_cons (x_var (by decide)) a_nil))) (x_call (a_cons (x_var (by decide)) (a_cons (x_var (by decide)) a_nil))) (by decide) (g_tup (by decide) (by decide)) (by decide) (x_i2 ir_mod (x_i2 ir_sub x_varw x_varw) (x_attr0 T.cl T.n0 x_varw)))) (by decide) rfl h⟩
abbrev st_times_of : Stmt := topS 46
theorem sc_times_of : FnScope ["field", "one", "other"] ["field", "one", "other"] (defScope st_times_of) := ⟨rfl, rfl, rfl, by decide +kernel, rfl, by decide +kernel, by decide +kernel⟩
theorem ok_times_of {P : Program} {w : World} {K : PySem.W.Frag} {mg : Str → Option Value} {base : Heap} {C : Addr} (T : Tx K mg C)  {f : Addr} {fd : FuncData} (F : Fn K "times_of" st_times_of f fd) : FnOk P w K mg base CX0 1 f fd ["field", "one", "other"] (spF C S.times_of) := by
  refine F.ok sc_times_of (fun vs H Q E h => spF_len h) (fun cdv A outer s H vs Q E hr h => ?_)
  exact ⟨_, PSs.nox (pss_cons (ps_if (PW.pt (pw_or (pt_cmpR op_eq (pv 1) pe_int (nomark _)) (pw_or1 (pt_cmpR op_eq (pv 2) pe_int (nomark _))))) (pss_one (ps_ret pe_int)) pss_nil)
  (pss_one (ps_ret (pe_ix ix_list (pe_fld (pv 0) rfl) (pe_op op_mod (pe_op op_add (pe_ix ix_list (pe_fld (pv 0) rfl) (pv 1) (fun _ _ => rfl)) (pe_ix ix_list (pe_fld (pv 0) rfl) (pv 2) (fun _ _ => rfl))) (pe_op op_sub (pe_fld (pv 0) rfl) pe_int)) (fun _ _ => rfl))))),
    body_ok (W := []) (b := S.b_times_of) (np := 3) (ns := 0) (s_seq (s_if (t_or (t_test (x_i2 ir_eq x_varw x_int)) (t_test (x_i2 ir_eq x_varw x_int))) (s_ret x_int) s_next)
  (s_ret (x_ixL (x_attr4 T.cl T.n4 x_varw) (x_i2 ir_mod (x_i2 ir_add (x_ixL (x_attr5 T.cl T.n5 x_varw) x_varw) (x_ixL (x_attr5 T.cl T.n5 x_varw) x_varw)) (x_i2 ir_sub (x_attr2 T.cl T.n2 x_varw) x_int))))) (by decide) rfl h⟩
abbrev st_over_of : Stmt := topS 47
theorem sc_over_of : FnScope ["field", "one", "other"] ["field", "one", "other"] (defScope st_over_of) := ⟨rfl, rfl, rfl, by decide +kernel, rfl, by decide +kernel, by decide +kernel⟩
theorem ok_over_of {P : Program} {w : World} {K : PySem.W.Frag} {mg : Str → Option Value} {base : Heap} {C : Addr} (T : Tx K mg C)  {f : Addr} {fd : FuncData} (F : Fn K "over_of" st_over_of f fd) : FnOk P w K mg base CX0 1 f fd ["field", "one", "other"] (spF C S.over_of) := by
  refine F.ok sc_over_of (fun vs H Q E h => spF_len h) (fun cdv A outer s H vs Q E hr h => ?_)
  exact ⟨_, PSs.nox (pss_cons (ps_if (pt_cmpR op_eq (pv 1) pe_int (nomark _)) (pss_one (ps_ret pe_int)) pss_nil)
  (pss_one (ps_ret (pe_ix ix_list (pe_fld (pv 0) rfl) (pe_op op_mod (pe_op op_sub (pe_ix ix_list (pe_fld (pv 0) rfl) (pv 1) (fun _ _ => rfl)) (pe_ix ix_list (pe_fld (pv 0) rfl) (pv 2) (fun _ _ => rfl))) (pe_op op_sub (pe_fld (pv 0) rfl) pe_int)) (fun _ _ => rfl))))),
    body_ok (W := []) (b := S.b_over_of) (np := 3) (ns := 0) (s_seq (s_if (t_test (x_i2 ir_eq x_varw x_int)) (s_ret x_int) s_next)
  (s_ret (x_ixL (x_attr4 T.cl T.n4 x_varw) (x_i2 ir_mod (x_i2 ir_sub (x_ixL (x_attr5 T.cl T.n5 x_varw) x_varw) (x_ixL (x_attr5 T.cl T.n5 x_varw) x_varw)) (x_i2 ir_sub (x_attr2 T.cl T.n2 x_varw) x_int))))) (by decide) rfl h⟩
abbrev st_power_of : Stmt := topS 48
theorem sc_power_of : FnScope ["field", "one", "many"] ["field", "one", "many"] (defScope st_power_of) := ⟨rfl, rfl, rfl, by decide +kernel, rfl, by decide +kernel, by decide +kernel⟩
theorem ok_power_of {P : Program} {w : World} {K : PySem.W.Frag} {mg : Str → Option Value} {base : Heap} {C : Addr} (T : Tx K mg C)  {f : Addr} {fd : FuncData} (F : Fn K "power_of" st_power_of f fd) : FnOk P w K mg base CX0 1 f fd ["field", "one", "many"] (spF C S.power_of) := by
  refine F.ok sc_power_of (fun vs H Q E h => spF_len h) (fun cdv A outer s H vs Q E hr h => ?_)
  exact ⟨_, PSs.nox (pss_cons (ps_if (pt_cmpR op_eq (pv 2) pe_int (nomark _)) (pss_one (ps_ret pe_int)) pss_nil)
  (pss_one (ps_ret (pe_ifExp (pt_cmpR op_ne (pv 1) pe_int (nomark _)) (pe_ix ix_list (pe_fld (pv 0) rfl) (pe_op op_mod (pe_op op_mul (pe_ix ix_list (pe_fld (pv 0) rfl) (pv 1) (fun _ _ => rfl)) (pv 2)) (pe_op op_sub (pe_fld (pv 0) rfl) pe_int)) (fun _ _ => rfl)) pe_int)))),
    body_ok (W := []) (b := S.b_power_of) (np := 3) (ns := 0) (s_seq (s_if (t_test (x_i2 ir_eq x_varw x_int)) (s_ret x_int) s_next)
  (s_ret (x_if (t_test (x_i2 ir_ne x_varw x_int)) (x_ixL (x_attr4 T.cl T.n4 x_varw) (x_i2 ir_mod (x_i2 ir_mul (x_ixL (x_attr5 T.cl T.n5 x_varw) x_varw) x_varw) (x_i2 ir_sub (x_attr2 T.cl T.n2 x_varw) x_int))) x_int))) (by decide) rfl h⟩
abbrev st_turned_of : Stmt := topS 49
theorem sc_turned_of : FnScope ["field", "one", "many", "found", "turn"] ["field", "one", "many"] (defScope st_turned_of) := ⟨rfl, rfl, rfl, by decide +kernel, rfl, by decide +kernel, by decide +kernel⟩
theorem ok_turned_of {P : Program} {w : World} {K : PySem.W.Frag} {mg : Str → Option Value} {base : Heap} {C : Addr} (T : Tx K mg C) (k_power_of : Kn P w K mg base "power_of" 1 ["field", "one", "many"] (spF C S.power_of)) {f : Addr} {fd : FuncData} (F : Fn K "turned_of" st_turned_of f fd) : FnOk P w K mg base CX0 2 f fd ["field", "one", "many"] (spF C S.turned_of) := by
  refine F.ok sc_turned_of (fun vs H Q E h => spF_len h) (fun cdv A outer s H vs Q E hr h => ?_)
  exact ⟨_, PSs.nox (pss_cons (ps_set (i := 3) sc_turned_of.nd rfl (by first | exact .inl rfl | exact .inr rfl) (pv 1))
  (pss_cons (ps_for PassesOwn.never rfl (pi_range1 rfl T.f_range (pa_cons (pe_op op_mod (pv 2) (pe_fld (pv 0) rfl)) pa_nil)) (pg_name (i := 4) sc_turned_of.nd rfl (by first | exact .inl rfl | exact .inr rfl))
  (pss_one (ps_set (i := 3) sc_turned_of.nd rfl (by first | exact .inl rfl | exact .inr rfl) (pe_kn k_power_of (hr.mono (by decide)) rfl (pa_cons (pv 0) (pa_cons (pv 3) (pa_cons (pe_fld (pv 0) rfl) pa_nil)))))))
  (pss_one (ps_ret (pv 3))))),
    body_ok (W := []) (b := S.b_turned_of) (np := 3) (ns := 2) (s_seq (s_asg (x_var (by decide)) (g_name (by decide)))
  (s_seq (s_for (i_range1 (x_i2 ir_mod x_varw (x_attr1 T.cl T.n1 x_varw))) (g_name (by decide))
  (s_asg (x_call (a_cons (x_var (by decide)) (a_cons (x_var (by decide)) (a_cons (x_attr0 T.cl T.n0 (x_var (by decide))) a_nil)))) (g_name (by decide))))
  (s_ret x_varw))) (by decide) rfl h⟩
abbrev st_norm_of : Stmt := topS 50
theorem sc_norm_of : FnScope ["field", "one", "turn", "found", "here"] ["field", "one"] (defScope st_norm_of) := ⟨rfl, rfl, rfl, by decide +kernel, rfl, by decide +kernel, by decide +kernel⟩
theorem ok_norm_of {P : Program} {w : World} {K : PySem.W.Frag} {mg : Str → Option Value} {base : Heap} {C : Addr} (T : Tx K mg C) (k_times_of : Kn P w K mg base "times_of" 1 ["field", "one", "other"] (spF C S.times_of)) (k_turned_of : Kn P w K mg base "turned_of" 2 ["field", "one", "many"] (spF C S.turned_of)) {f : Addr} {fd : FuncData} (F : Fn K "norm_of" st_norm_of f fd) : FnOk P w K mg base CX0 3 f fd ["field", "one"] (spF C S.norm_of) := by
  refine F.ok sc_norm_of (fun vs H Q E h => spF_len h) (fun cdv A outer s H vs Q E hr h => ?_)
  exact ⟨_, PSs.nox (pss_cons (ps_par (i := 3) (j := 4) (by rfl) sc_norm_of.nd rfl rfl (by decide) rfl rfl (pa_cons pe_int (pa_cons (pv 1) pa_nil)) (by rfl))
  (pss_cons (ps_for PassesOwn.never rfl (pi_range1 rfl T.f_range (pa_cons (pe_fld (pv 0) rfl) pa_nil)) (pg_name (i := 2) sc_norm_of.nd rfl (by first | exact .inl rfl | exact .inr rfl))
  (pss_one (ps_par (i := 3) (j := 4) (by rfl) sc_norm_of.nd rfl rfl (by decide) rfl rfl (pa_cons (pe_kn k_times_of (hr.mono (by decide)) rfl (pa_cons (pv 0) (pa_cons (pv 3) (pa_cons (pv 4) pa_nil)))) (pa_cons (pe_kn k_turned_of (hr.mono (by decide)) rfl (pa_cons (pv 0) (pa_cons (pv 4) (pa_cons pe_int pa_nil)))) pa_nil)) (by rfl))))
  (pss_one (ps_ret (pv 3))))),
    body_ok (W := []) (b := S.b_norm_of) (np := 2) (ns := 3) (s_seq (s_par2 (by decide) (by decide) x_int (x_var (by decide)))
  (s_seq (s_for (i_range1 (x_attr1 T.cl T.n1 x_varw)) (g_name (by decide))
  (s_par2 (by decide) (by decide) (x_call (a_cons (x_var (by decide)) (a_cons (x_var (by decide)) (a_cons (x_var (by decide)) a_nil)))) (x_call (a_cons (x_var (by decide)) (a_cons (x_var (by decide)) (a_cons x_int a_nil))))))
  (s_ret x_varw))) (by decide) rfl h⟩
abbrev st_is_in : Stmt := topS 51
theorem sc_is_in : FnScope ["field", "value"] ["field", "value"] (defScope st_is_in) := ⟨rfl, rfl, rfl, by decide +kernel, rfl, by decide +kernel, by decide +kernel⟩
theorem ok_is_in {P : Program} {w : World} {K : PySem.W.Frag} {mg : Str → Option Value} {base : Heap} {C : Addr} (T : Tx K mg C) (k_is_count : Kn P w K mg base "is_count" 2 ["value"] (spF C S.is_count)) {f : Addr} {fd : FuncData} (F : Fn K "is_in" st_is_in f fd) : FnOk P w K mg base CX0 3 f fd ["field", "value"] (spF C S.is_in) := by
  refine F.ok sc_is_in (fun vs H Q E h => spF_len h) (fun cdv A outer s H vs Q E hr h => ?_)
  exact ⟨_, PSs.nox (pss_one (ps_ret (pe_and (pe_kn k_is_count (hr.mono (by decide)) rfl (pa_cons (pv 1) pa_nil)) (pe_one (pe_cmpR op_lt (pv 1) (pe_fld (pv 0) rfl) (nomark _)))))),
    body_ok (W := []) (b := S.b_is_in) (np := 2) (ns := 0) (s_ret (x_andV (x_call (a_cons x_varw a_nil)) (x_i2 ir_lt x_varw (x_attr2 T.cl T.n2 x_varw)))) (by decide) rfl h⟩
abbrev st_want_element : Stmt := topS 52
theorem sc_want_element : FnScope ["field", "value"] ["field", "value"] (defScope st_want_element) := ⟨rfl, rfl, rfl, by decide +kernel, rfl, by decide +kernel, by decide +kernel⟩
theorem ok_want_element {P : Program} {w : World} {K : PySem.W.Frag} {mg : Str → Option Value} {base : Heap} {C : Addr} (T : Tx K mg C) (k_is_in : Kn P w K mg base "is_in" 3 ["field", "value"] (spF C S.is_in)) {f : Addr} {fd : FuncData} (F : Fn K "want_element" st_want_element f fd) : FnOk P w K mg base CX0 4 f fd ["field", "value"] (spF C S.want_element) := by
  refine F.ok sc_want_element (fun vs H Q E h => spF_len h) (fun cdv A outer s H vs Q E hr h => ?_)
  exact ⟨_, PSs.nox (pss_one (ps_if (pt_not (pt_val (pe_kn k_is_in (hr.mono (by decide)) rfl (pa_cons (pv 0) (pa_cons (pv 1) pa_nil))))) (pss_one ps_never) pss_nil)),
    body_ok (W := []) (b := S.b_want_element) (np := 2) (ns := 0) (s_if (t_not (t_B (x_call (a_cons x_varw (a_cons x_varw a_nil))))) s_never s_next) (by decide) rfl h⟩
abbrev st_norm : Stmt := topS 53
theorem sc_norm : FnScope ["field", "one", "here"] ["field", "one"] (defScope st_norm) := ⟨rfl, rfl, rfl, by decide +kernel, rfl, by decide +kernel, by decide +kernel⟩
theorem ok_norm {P : Program} {w : World} {K : PySem.W.Frag} {mg : Str → Option Value} {base : Heap} {C : Addr} (T : Tx K mg C) (k_norm_of : Kn P w K mg base "norm_of" 3 ["field", "one"] (spF C S.norm_of)) (k_want_element : Kn P w K mg base "want_element" 4 ["field", "value"] (spF C S.want_element)) (k_want_field : Kn P w K mg base "want_field" 1 ["value"] (spF C S.want_field)) {f : Addr} {fd : FuncData} (F : Fn K "norm" st_norm f fd) : FnOk P w K mg base CX0 5 f fd ["field", "one"] (spF C S.norm) := by
  refine F.ok sc_norm (fun vs H Q E h => spF_len h) (fun cdv A outer s H vs Q E hr h => ?_)
  exact ⟨_, PSs.nox (pss_cons (ps_set (i := 2) sc_norm.nd rfl (by first | exact .inl rfl | exact .inr rfl) (pe_kn k_want_field (hr.mono (by decide)) rfl (pa_cons (pv 0) pa_nil)))
  (pss_cons (ps_expr (pe_kn k_want_element (hr.mono (by decide)) rfl (pa_cons (pv 2) (pa_cons (pv 1) pa_nil))))
  (pss_one (ps_ret (pe_kn k_norm_of (hr.mono (by decide)) rfl (pa_cons (pv 2) (pa_cons (pv 1) pa_nil))))))),
    body_ok (W := []) (b := S.b_norm) (np := 2) (ns := 1) (s_seq (s_asg (x_call (a_cons (x_var (by decide)) a_nil)) (g_name (by decide)))
  (s_seq (s_drop (x_call (a_cons x_varw (a_cons x_varw a_nil))))
  (s_ret (x_call (a_cons x_varw (a_cons x_varw a_nil)))))) (by decide) rfl h⟩
abbrev st_told_of : Stmt := topS 57
theorem sc_told_of : FnScope ["numbers", "many"] ["numbers"] (defScope st_told_of) := ⟨rfl, rfl, rfl, by decide +kernel, rfl, by decide +kernel, by decide +kernel⟩
theorem ok_told_of {P : Program} {w : World} {K : PySem.W.Frag} {mg : Str → Option Value} {base : Heap} {C : Addr} (T : Tx K mg C)  {f : Addr} {fd : FuncData} (F : Fn K "told_of" st_told_of f fd) : FnOk P w K mg base CX0 1 f fd ["numbers"] (spF C S.told_of) := by
  refine F.ok sc_told_of (fun vs H Q E h => spF_len h) (fun cdv A outer s H vs Q E hr h => ?_)
  exact ⟨_, PSs.nox (pss_cons (ps_set (i := 1) sc_told_of.nd rfl (by first | exact .inl rfl | exact .inr rfl) (pe_callB call_len_seq (by rfl) T.f_len bt_len (pa_cons (pv 0) pa_nil)))
  (pss_cons (ps_while PassesOwn.never (PW.pt (pw_and (pt_cmpR op_gt (pv 1) pe_int (nomark _)) (pw_and1 (pt_cmpR op_eq (pe_ix ix_list (pv 0) (pe_op op_sub (pv 1) pe_int) (fun _ _ => rfl)) pe_int (nomark _))))) (pss_one (ps_set (i := 1) sc_told_of.nd rfl (by first | exact .inl rfl | exact .inr rfl) (pe_op op_sub (pv 1) pe_int))))
  (pss_one (ps_ret (pe_callTy call_list_of (by rfl) T.f_list bt_list (pa_cons (pe_slice sl_list (pv 0) po_none (po_some (pv 1))) pa_nil)))))),
    body_ok (W := []) (b := S.b_told_of) (np := 1) (ns := 1) (s_seq (s_asg (x_len x_varw) (g_name (by decide)))
  (s_seq (s_while (t_and (t_test (x_i2 ir_gt x_varw x_int)) (t_test (x_i2 ir_eq (x_ixL x_varw (x_i2 ir_sub x_varw x_int)) x_int))) (s_asg (x_i2 ir_sub x_varw x_int) (g_name (by decide))))
  (s_ret (x_of_f (x_list (x_of_f (x_sl x_varw o_none (o_some x_varw)))))))) (by decide) rfl h⟩
abbrev st_is_sum : Stmt := topS 58
theorem sc_is_sum : FnScope ["field", "value", "one"] ["field", "value"] (defScope st_is_sum) := ⟨rfl, rfl, rfl, by decide +kernel, rfl, by decide +kernel, by decide +kernel⟩
theorem ok_is_sum {P : Program} {w : World} {K : PySem.W.Frag} {mg : Str → Option Value} {base : Heap} {C : Addr} (T : Tx K mg C) (k_is_in : Kn P w K mg base "is_in" 3 ["field", "value"] (spF C S.is_in)) (k_is_list : Kn P w K mg base "is_list" 1 ["value"] (spF C S.is_list)) {f : Addr} {fd : FuncData} (F : Fn K "is_sum" st_is_sum f fd) : FnOk P w K mg base CX0 4 f fd ["field", "value"] (spF C S.is_sum) := by
  refine F.ok sc_is_sum (fun vs H Q E h => spF_len h) (fun cdv A outer s H vs Q E hr h => ?_)
  exact ⟨_, PSs.nox (pss_one (ps_ret (pe_and (pe_kn k_is_list (hr.mono (by decide)) rfl (pa_cons (pv 1) pa_nil)) (pe_and (pe_cmpR op_le (pe_callB call_len_seq (by rfl) T.f_len bt_len (pa_cons (pv 1) pa_nil)) (pe_gint rfl T.c_MOST_ELEMENTS) (nomark _)) (pe_one (pe_callB (cr_all rfl) (by rfl) T.f_all bt_all (pa_cons (pe_lc (own := [("one", 2)]) rfl sc_is_sum.nd (pi_list (pv 1)) (blkOk_by (by kernel_rfl)) (fun _ _ _ _ _ => (pg_name (i := 2) sc_is_sum.nd rfl (by first | exact .inl rfl | exact .inr rfl))) (fun _ _ _ _ _ => pts_nil) (fun _ _ _ _ _ => (pe_kn k_is_in (hr.mono (by decide)) rfl (pa_cons (pv 0) (pa_cons (pv 2) pa_nil))))) pa_nil))))))),
    body_ok (W := []) (b := S.b_is_sum) (np := 2) (ns := 1) (s_ret (x_andV (x_call (a_cons x_varw a_nil)) (x_andV (x_i2 ir_le (x_len x_varw) x_int) (x_all (x_of_f (f_weak (x_lc (i_list (x_var (by decide))) (g_name (by decide)) (by decide) t_yes (x_call (a_cons (x_var (by decide)) (a_cons (x_var (by decide)) a_nil)))))))))) (by decide) rfl h⟩
abbrev st_want_turner : Stmt := topS 59
theorem sc_want_turner : FnScope ["field", "value"] ["field", "value"] (defScope st_want_turner) := ⟨rfl, rfl, rfl, by decide +kernel, rfl, by decide +kernel, by decide +kernel⟩
theorem ok_want_turner {P : Program} {w : World} {K : PySem.W.Frag} {mg : Str → Option Value} {base : Heap} {C : Addr} (T : Tx K mg C) (k_is_sum : Kn P w K mg base "is_sum" 4 ["field", "value"] (spF C S.is_sum)) (k_told_of : Kn P w K mg base "told_of" 1 ["numbers"] (spF C S.told_of)) {f : Addr} {fd : FuncData} (F : Fn K "want_turner" st_want_turner f fd) : FnOk P w K mg base CX0 5 f fd ["field", "value"] (spF C S.want_turner) := by
  refine F.ok sc_want_turner (fun vs H Q E h => spF_len h) (fun cdv A outer s H vs Q E hr h => ?_)
  exact ⟨_, PSs.nox (pss_cons (ps_if (pt_not (pt_val (pe_kn k_is_sum (hr.mono (by decide)) rfl (pa_cons (pv 0) (pa_cons (pv 1) pa_nil))))) (pss_one ps_never) pss_nil)
  (pss_one (ps_ret (pe_kn k_told_of (hr.mono (by decide)) rfl (pa_cons (pv 1) pa_nil))))),
    body_ok (W := []) (b := S.b_want_turner) (np := 2) (ns := 0) (s_seq (s_if (t_not (t_B (x_call (a_cons x_varw (a_cons x_varw a_nil))))) s_never s_next)
  (s_ret (x_call (a_cons x_varw a_nil)))) (by decide) rfl h⟩
abbrev st_sum_turners : Stmt := topS 60
theorem sc_sum_turners : FnScope ["field", "one", "other", "found", "near", "far", "at"] ["field", "one", "other"] (defScope st_sum_turners) := ⟨rfl, rfl, rfl, by decide +kernel, rfl, by decide +kernel, by decide +kernel⟩
theorem ok_sum_turners {P : Program} {w : World} {K : PySem.W.Frag} {mg : Str → Option Value} {base : Heap} {C : Addr} (T : Tx K mg C) (k_plus_of : Kn P w K mg base "plus_of" 2 ["field", "one", "other"] (spF C S.plus_of)) (k_told_of : Kn P w K mg base "told_of" 1 ["numbers"] (spF C S.told_of)) {f : Addr} {fd : FuncData} (F : Fn K "sum_turners" st_sum_turners f fd) : FnOk P w K mg base CX0 3 f fd ["field", "one", "other"] (spF C S.sum_turners) := by
  refine F.ok sc_sum_turners (fun vs H Q E h => spF_len h) (fun cdv A outer s H vs Q E hr h => ?_)
  exact ⟨_, PSs.nox (pss_cons (ps_asg (pe_ifExp (pt_cmpR op_ge (pe_callB call_len_seq (by rfl) T.f_len bt_len (pa_cons (pv 1) pa_nil)) (pe_callB call_len_seq (by rfl) T.f_len bt_len (pa_cons (pv 2) pa_nil)) (nomark _)) (pe_tup (pa_cons (pv 1) (pa_cons (pv 2) pa_nil))) (pe_tup (pa_cons (pv 2) (pa_cons (pv 1) pa_nil)))) (pg_tup rfl (pgs_cons (pg_name (i := 4) sc_sum_turners.nd rfl (by first | exact .inl rfl | exact .inr rfl)) (pgs_cons (pg_name (i := 5) sc_sum_turners.nd rfl (by first | exact .inl rfl | exact .inr rfl)) pgs_nil))))
  (pss_cons (ps_setLc (i := 3) (own := [("at", 6)]) rfl sc_sum_turners.nd rfl rfl (sw_true rfl rfl rfl (by kernel_rfl)) (pi_range1 rfl T.f_range (pa_cons (pe_callB call_len_seq (by rfl) T.f_len bt_len (pa_cons (pv 5) pa_nil)) pa_nil)) (blkOk_by (by kernel_rfl)) (fun _ _ _ _ _ => (pg_name (i := 6) sc_sum_turners.nd rfl (by first | exact .inl rfl | exact .inr rfl))) (fun _ _ _ _ _ => pts_nil) (fun _ _ _ _ _ => (pe_kn k_plus_of (hr.mono (by decide)) rfl (pa_cons (pv 0) (pa_cons (pe_ix ix_list (pv 4) (pv 6) (fun _ _ => rfl)) (pa_cons (pe_ix ix_list (pv 5) (pv 6) (fun _ _ => rfl)) pa_nil))))))
  (pss_one (ps_ret (pe_kn k_told_of (hr.mono (by decide)) rfl (pa_cons (pe_op op_cat (pv 3) (pe_slice sl_list (pv 4) (po_some (pe_callB call_len_seq (by rfl) T.f_len bt_len (pa_cons (pv 5) pa_nil))) po_none)) pa_nil)))))),
    body_ok (W := []) (b := S.b_sum_turners) (np := 3) (ns := 4) (s_seq (s_asg (x_if (t_test (x_i2 ir_ge (x_len x_varw) (x_len x_varw))) (x_tup (a_cons (x_var (by decide)) (a_cons (x_var (by decide)) a_nil)) (Few.ok (.cons (.cons .nil)))) (x_tup (a_cons (x_var (by decide)) (a_cons (x_var (by decide)) a_nil)) (Few.ok (.cons (.cons .nil))))) (g_tup (by decide) (by decide)))
  (s_seq (s_asg (x_of_f (x_lc (i_range1 (x_len x_varw)) (g_name (by decide)) (by decide) t_yes (x_call (a_cons (x_var (by decide)) (a_cons (x_ixL (x_var (by decide)) x_varw) (a_cons (x_ixL (x_var (by decide)) x_varw) a_nil)))))) (g_name (by decide)))
  (s_ret (x_call (a_cons (x_of_f (x_cat x_varw (x_of_f (x_sl x_varw (o_some (x_len x_varw)) o_none)))) a_nil))))) (by decide) rfl h⟩
abbrev st_less_turners : Stmt := topS 61
theorem sc_less_turners : FnScope ["field", "one", "other", "element"] ["field", "one", "other"] (defScope st_less_turners) := ⟨rfl, rfl, rfl, by decide +kernel, rfl, by decide +kernel, by decide +kernel⟩
theorem ok_less_turners {P : Program} {w : World} {K : PySem.W.Frag} {mg : Str → Option Value} {base : Heap} {C : Addr} (T : Tx K mg C) (k_minus_of : Kn P w K mg base "minus_of" 2 ["field", "one", "other"] (spF C S.minus_of)) (k_sum_turners : Kn P w K mg base "sum_turners" 3 ["field", "one", "other"] (spF C S.sum_turners)) {f : Addr} {fd : FuncData} (F : Fn K "less_turners" st_less_turners f fd) : FnOk P w K mg base CX0 4 f fd ["field", "one", "other"] (spF C S.less_turners) := by
  refine F.ok sc_less_turners (fun vs H Q E h => spF_len h) (fun cdv A outer s H vs Q E hr h => ?_)
  exact ⟨_, PSs.nox (pss_one (ps_ret (pe_kn k_sum_turners (hr.mono (by decide)) rfl (pa_cons (pv 0) (pa_cons (pv 1) (pa_cons (pe_lc (own := [("element", 3)]) rfl sc_less_turners.nd (pi_list (pv 2)) (blkOk_by (by kernel_rfl)) (fun _ _ _ _ _ => (pg_name (i := 3) sc_less_turners.nd rfl (by first | exact .inl rfl | exact .inr rfl))) (fun _ _ _ _ _ => pts_nil) (fun _ _ _ _ _ => (pe_kn k_minus_of (hr.mono (by decide)) rfl (pa_cons (pv 0) (pa_cons pe_int (pa_cons (pv 3) pa_nil)))))) pa_nil)))))),
    body_ok (W := []) (b := S.b_less_turners) (np := 3) (ns := 1) (s_ret (x_call (a_cons x_varw (a_cons x_varw (a_cons (x_of_f (f_weak (x_lc (i_list (x_var (by decide))) (g_name (by decide)) (by decide) t_yes (x_call (a_cons (x_var (by decide)) (a_cons x_int (a_cons (x_var (by decide)) a_nil))))))) a_nil))))) (by decide) rfl h⟩
abbrev st_put_turners : Stmt := topS 62
theorem sc_put_turners : FnScope ["field", "one", "other", "found", "at", "near", "to", "far"] ["field", "one", "other"] (defScope st_put_turners) := ⟨rfl, rfl, rfl, by decide +kernel, rfl, by decide +kernel, by decide +kernel⟩
theorem ok_put_turners {P : Program} {w : World} {K : PySem.W.Frag} {mg : Str → Option Value} {base : Heap} {C : Addr} (T : Tx K mg C) (k_plus_of : Kn P w K mg base "plus_of" 2 ["field", "one", "other"] (spF C S.plus_of)) (k_times_of : Kn P w K mg base "times_of" 1 ["field", "one", "other"] (spF C S.times_of)) (k_told_of : Kn P w K mg base "told_of" 1 ["numbers"] (spF C S.told_of)) (k_turned_of : Kn P w K mg base "turned_of" 2 ["field", "one", "many"] (spF C S.turned_of)) {f : Addr} {fd : FuncData} (F : Fn K "put_turners" st_put_turners f fd) : FnOk P w K mg base CX0 3 f fd ["field", "one", "other"] (spF C S.put_turners) := by
  refine F.ok sc_put_turners (fun vs H Q E h => spF_len h) (fun cdv A outer s H vs Q E hr h => ?_)
  exact ⟨_, PSs.nox (pss_cons (ps_set (i := 3) sc_put_turners.nd rfl (by first | exact .inl rfl | exact .inr rfl) (pe_op op_rep (pe_lst (pa_cons pe_int pa_nil)) (pe_callB (call_max2 rfl) (by rfl) T.f_max bt_max (pa_cons pe_int (pa_cons (pe_op op_sub (pe_op op_add (pe_callB call_len_seq (by rfl) T.f_len bt_len (pa_cons (pv 1) pa_nil)) (pe_callB call_len_seq (by rfl) T.f_len bt_len (pa_cons (pv 2) pa_nil))) pe_int) pa_nil)))))
  (pss_cons (ps_for PassesOwn.never rfl (pi_enum (by rfl) T.f_enumerate (pa_cons (pv 1) pa_nil)) (pg_tup rfl (pgs_cons (pg_name (i := 4) sc_put_turners.nd rfl (by first | exact .inl rfl | exact .inr rfl)) (pgs_cons (pg_name (i := 5) sc_put_turners.nd rfl (by first | exact .inl rfl | exact .inr rfl)) pgs_nil)))
  (pss_one (ps_for PassesOwn.never rfl (pi_enum (by rfl) T.f_enumerate (pa_cons (pv 2) pa_nil)) (pg_tup rfl (pgs_cons (pg_name (i := 6) sc_put_turners.nd rfl (by first | exact .inl rfl | exact .inr rfl)) (pgs_cons (pg_name (i := 7) sc_put_turners.nd rfl (by first | exact .inl rfl | exact .inr rfl)) pgs_nil)))
  (pss_one (ps_asg (pe_kn k_plus_of (hr.mono (by decide)) rfl (pa_cons (pv 0) (pa_cons (pe_ix ix_list (pv 3) (pe_op op_add (pv 4) (pv 6)) (fun _ _ => rfl)) (pa_cons (pe_kn k_times_of (hr.mono (by decide)) rfl (pa_cons (pv 0) (pa_cons (pv 5) (pa_cons (pe_kn k_turned_of (hr.mono (by decide)) rfl (pa_cons (pv 0) (pa_cons (pv 7) (pa_cons (pv 4) pa_nil)))) pa_nil)))) pa_nil)))) (pg_sub (pv 3) (pe_op op_add (pv 4) (pv 6)) set_list))))))
  (pss_one (ps_ret (pe_kn k_told_of (hr.mono (by decide)) rfl (pa_cons (pv 3) pa_nil)))))),
    body_ok (W := [3]) (b := S.b_put_turners) (np := 3) (ns := 5) (s_seq (s_asgF (by decide) (x_rep (x_of_f (x_lst (a_cons x_int a_nil) (Few.ok (.cons .nil)))) (x_max2 x_int (x_i2 ir_sub (x_i2 ir_add (x_len x_varw) (x_len x_varw)) x_int))))
  (s_seq (s_for (i_enum (x_var (by decide))) (g_tup (by decide) (by decide))
  (s_for (i_enum (x_var (by decide))) (g_tup (by decide) (by decide))
  (s_set (by decide) (x_i2 ir_add x_varw x_varw) (x_call (a_cons (x_var (by decide)) (a_cons (x_ixW (by decide) (x_i2 ir_add x_varw x_varw)) (a_cons (x_call (a_cons (x_var (by decide)) (a_cons (x_var (by decide)) (a_cons (x_call (a_cons (x_var (by decide)) (a_cons (x_var (by decide)) (a_cons (x_var (by decide)) a_nil)))) a_nil)))) a_nil)))))))
  (s_ret (x_call (a_cons x_varw a_nil))))) (by decide) rfl h⟩
abbrev st_told : Stmt := topS 63
theorem sc_told : FnScope ["field", "turner"] ["field", "turner"] (defScope st_told) := ⟨rfl, rfl, rfl, by decide +kernel, rfl, by decide +kernel, by decide +kernel⟩
theorem ok_told {P : Program} {w : World} {K : PySem.W.Frag} {mg : Str → Option Value} {base : Heap} {C : Addr} (T : Tx K mg C) (k_want_field : Kn P w K mg base "want_field" 1 ["value"] (spF C S.want_field)) (k_want_turner : Kn P w K mg base "want_turner" 5 ["field", "value"] (spF C S.want_turner)) {f : Addr} {fd : FuncData} (F : Fn K "told" st_told f fd) : FnOk P w K mg base CX0 6 f fd ["field", "turner"] (spF C S.told) := by
  refine F.ok sc_told (fun vs H Q E h => spF_len h) (fun cdv A outer s H vs Q E hr h => ?_)
  exact ⟨_, PSs.nox (pss_cons (ps_expr (pe_kn k_want_field (hr.mono (by decide)) rfl (pa_cons (pv 0) pa_nil)))
  (pss_one (ps_ret (pe_kn k_want_turner (hr.mono (by decide)) rfl (pa_cons (pv 0) (pa_cons (pv 1) pa_nil)))))),
    body_ok (W := []) (b := S.b_told) (np := 2) (ns := 0) (s_seq (s_drop (x_call (a_cons x_varw a_nil)))
  (s_ret (x_call (a_cons x_varw (a_cons x_varw a_nil))))) (by decide) rfl h⟩
abbrev st_two_turners : Stmt := topS 64
theorem sc_two_turners : FnScope ["field", "turner", "other", "first"] ["field", "turner", "other"] (defScope st_two_turners) := ⟨rfl, rfl, rfl, by decide +kernel, rfl, by decide +kernel, by decide +kernel⟩
theorem ok_two_turners {P : Program} {w : World} {K : PySem.W.Frag} {mg : Str → Option Value} {base : Heap} {C : Addr} (T : Tx K mg C) (k_want_field : Kn P w K mg base "want_field" 1 ["value"] (spF C S.want_field)) (k_want_turner : Kn P w K mg base "want_turner" 5 ["field", "value"] (spF C S.want_turner)) {f : Addr} {fd : FuncData} (F : Fn K "two_turners" st_two_turners f fd) : FnOk P w K mg base CX0 6 f fd ["field", "turner", "other"] (spF C S.two_turners) := by
  refine F.ok sc_two_turners (fun vs H Q E h => spF_len h) (fun cdv A outer s H vs Q E hr h => ?_)
  exact ⟨_, PSs.nox (pss_cons (ps_expr (pe_kn k_want_field (hr.mono (by decide)) rfl (pa_cons (pv 0) pa_nil)))
  (pss_cons (ps_set (i := 3) sc_two_turners.nd rfl (by first | exact .inl rfl | exact .inr rfl) (pe_kn k_want_turner (hr.mono (by decide)) rfl (pa_cons (pv 0) (pa_cons (pv 1) pa_nil))))
  (pss_one (ps_ret (pe_tup (pa_cons (pv 3) (pa_cons (pe_kn k_want_turner (hr.mono (by decide)) rfl (pa_cons (pv 0) (pa_cons (pv 2) pa_nil))) pa_nil))))))),
    body_ok (W := []) (b := S.b_two_turners) (np := 3) (ns := 1) (s_seq (s_drop (x_call (a_cons x_varw a_nil)))
  (s_seq (s_asg (x_call (a_cons (x_var (by decide)) (a_cons (x_var (by decide)) a_nil))) (g_name (by decide)))
  (s_ret (x_tup (a_cons x_varw (a_cons (x_call (a_cons x_varw (a_cons x_varw a_nil))) a_nil)) (Few.ok (.cons (.cons .nil))))))) (by decide) rfl h⟩
abbrev st_put : Stmt := topS 65
theorem sc_put : FnScope ["field", "turner", "other", "first", "second"] ["field", "turner", "other"] (defScope st_put) := ⟨rfl, rfl, rfl, by decide +kernel, rfl, by decide +kernel, by decide +kernel⟩
theorem ok_put {P : Program} {w : World} {K : PySem.W.Frag} {mg : Str → Option Value} {base : Heap} {C : Addr} (T : Tx K mg C) (k_put_turners : Kn P w K mg base "put_turners" 3 ["field", "one", "other"] (spF C S.put_turners)) (k_two_turners : Kn P w K mg base "two_turners" 6 ["field", "turner", "other"] (spF C S.two_turners)) (k_want_at_most : Kn P w K mg base "want_at_most" 1 ["what", "limit", "number"] (spF C S.want_at_most)) {f : Addr} {fd : FuncData} (F : Fn K "put" st_put f fd) : FnOk P w K mg base CX0 7 f fd ["field", "turner", "other"] (spF C S.put) := by
  refine F.ok sc_put (fun vs H Q E h => spF_len h) (fun cdv A outer s H vs Q E hr h => ?_)
  exact ⟨_, PSs.nox (pss_cons (ps_asg (pe_kn k_two_turners (hr.mono (by decide)) rfl (pa_cons (pv 0) (pa_cons (pv 1) (pa_cons (pv 2) pa_nil)))) (pg_tup rfl (pgs_cons (pg_name (i := 3) sc_put.nd rfl (by first | exact .inl rfl | exact .inr rfl)) (pgs_cons (pg_name (i := 4) sc_put.nd rfl (by first | exact .inl rfl | exact .inr rfl)) pgs_nil))))
  (pss_cons (ps_if (PW.pt (pw_and (pt_cmpR (op_neD hr.units) (pv 3) (pe_lst pa_nil) (nomark _)) (pw_and1 (pt_cmpR (op_neD hr.units) (pv 4) (pe_lst pa_nil) (nomark _))))) (pss_one (ps_expr (pe_kn k_want_at_most (hr.mono (by decide)) rfl (pa_cons pe_str (pa_cons (pe_gint rfl T.c_MOST_DEGREE_turners) (pa_cons (pe_op op_sub (pe_op op_add (pe_callB call_len_seq (by rfl) T.f_len bt_len (pa_cons (pv 3) pa_nil)) (pe_callB call_len_seq (by rfl) T.f_len bt_len (pa_cons (pv 4) pa_nil))) pe_int) pa_nil)))))) pss_nil)
  (pss_one (ps_ret (pe_kn k_put_turners (hr.mono (by decide)) rfl (pa_cons (pv 0) (pa_cons (pv 3) (pa_cons (pv 4) pa_nil)))))))),
    body_ok (W := []) (b := S.b_put) (np := 3) (ns := 2) (s_seq (s_asg (x_call (a_cons (x_var (by decide)) (a_cons (x_var (by decide)) (a_cons (x_var (by decide)) a_nil)))) (g_tup (by decide) (by decide)))
  (s_seq (s_if (t_and (t_test (x_neD x_varw (x_of_f (x_lst a_nil (Few.ok .nil))))) (t_test (x_neD x_varw (x_of_f (x_lst a_nil (Few.ok .nil)))))) (s_drop (x_call (a_cons x_txt (a_cons x_int (a_cons (x_i2 ir_sub (x_i2 ir_add (x_len x_varw) (x_len x_varw)) x_int) a_nil))))) s_next)
  (s_ret (x_call (a_cons x_varw (a_cons x_varw (a_cons x_varw a_nil))))))) (by decide) rfl h⟩
abbrev st_inner_parts : Stmt := topS 67
theorem sc_inner_parts : FnScope ["field", "one", "other", "rest", "quotient", "shift", "factor", "taken", "element"] ["field", "one", "other"] (defScope st_inner_parts) := ⟨rfl, rfl, rfl, by decide +kernel, rfl, by decide +kernel, by decide +kernel⟩
theorem ok_inner_parts {P : Program} {w : World} {K : PySem.W.Frag} {mg : Str → Option Value} {base : Heap} {C : Addr} (T : Tx K mg C) (k_less_turners : Kn P w K mg base "less_turners" 4 ["field", "one", "other"] (spF C S.less_turners)) (k_over_of : Kn P w K mg base "over_of" 1 ["field", "one", "other"] (spF C S.over_of)) (k_times_of : Kn P w K mg base "times_of" 1 ["field", "one", "other"] (spF C S.times_of)) (k_turned_of : Kn P w K mg base "turned_of" 2 ["field", "one", "many"] (spF C S.turned_of)) {f : Addr} {fd : FuncData} (F : Fn K "inner_parts" st_inner_parts f fd) : FnOk P w K mg base CX0 5 f fd ["field", "one", "other"] (spF C S.inner_parts) := by
  refine F.ok sc_inner_parts (fun vs H Q E h => spF_len h) (fun cdv A outer s H vs Q E hr h => ?_)
  exact ⟨_, PSs.nox (pss_cons (ps_par (i := 3) (j := 4) (by rfl) sc_inner_parts.nd rfl rfl (by decide) rfl rfl (pa_cons (pv 1) (pa_cons (pe_op op_rep (pe_lst (pa_cons pe_int pa_nil)) (pe_callB (call_max2 rfl) (by rfl) T.f_max bt_max (pa_cons pe_int (pa_cons (pe_op op_add (pe_op op_sub (pe_callB call_len_seq (by rfl) T.f_len bt_len (pa_cons (pv 1) pa_nil)) (pe_callB call_len_seq (by rfl) T.f_len bt_len (pa_cons (pv 2) pa_nil))) pe_int) pa_nil)))) pa_nil)) (by rfl))
  (pss_cons (ps_while PassesOwn.never (pt_cmpR op_ge (pe_callB call_len_seq (by rfl) T.f_len bt_len (pa_cons (pv 3) pa_nil)) (pe_callB call_len_seq (by rfl) T.f_len bt_len (pa_cons (pv 2) pa_nil)) (nomark _)) (pss_cons (ps_set (i := 5) sc_inner_parts.nd rfl (by first | exact .inl rfl | exact .inr rfl) (pe_op op_sub (pe_callB call_len_seq (by rfl) T.f_len bt_len (pa_cons (pv 3) pa_nil)) (pe_callB call_len_seq (by rfl) T.f_len bt_len (pa_cons (pv 2) pa_nil))))
  (pss_cons (ps_set (i := 6) sc_inner_parts.nd rfl (by first | exact .inl rfl | exact .inr rfl) (pe_kn k_over_of (hr.mono (by decide)) rfl (pa_cons (pv 0) (pa_cons (pe_ix ix_list (pv 3) (pe_un un_neg pe_int) (fun _ _ => rfl)) (pa_cons (pe_kn k_turned_of (hr.mono (by decide)) rfl (pa_cons (pv 0) (pa_cons (pe_ix ix_list (pv 2) (pe_un un_neg pe_int) (fun _ _ => rfl)) (pa_cons (pv 5) pa_nil)))) pa_nil)))))
  (pss_cons (ps_asg (pv 6) (pg_sub (pv 4) (pv 5) set_list))
  (pss_cons (ps_setLc (i := 7) (own := [("element", 8)]) rfl sc_inner_parts.nd rfl rfl (sw_true rfl rfl rfl (by kernel_rfl)) (pi_list (pv 2)) (blkOk_by (by kernel_rfl)) (fun _ _ _ _ _ => (pg_name (i := 8) sc_inner_parts.nd rfl (by first | exact .inl rfl | exact .inr rfl))) (fun _ _ _ _ _ => pts_nil) (fun _ _ _ _ _ => (pe_kn k_times_of (hr.mono (by decide)) rfl (pa_cons (pv 0) (pa_cons (pv 6) (pa_cons (pe_kn k_turned_of (hr.mono (by decide)) rfl (pa_cons (pv 0) (pa_cons (pv 8) (pa_cons (pv 5) pa_nil)))) pa_nil))))))
  (pss_one (ps_set (i := 3) sc_inner_parts.nd rfl (by first | exact .inl rfl | exact .inr rfl) (pe_kn k_less_turners (hr.mono (by decide)) rfl (pa_cons (pv 0) (pa_cons (pv 3) (pa_cons (pe_op op_cat (pe_op op_rep (pe_lst (pa_cons pe_int pa_nil)) (pv 5)) (pv 7)) pa_nil)))))))))))
  (pss_one (ps_ret (pe_tup (pa_cons (pv 4) (pa_cons (pv 3) pa_nil))))))),
    body_ok (W := [4]) (b := S.b_inner_parts) (np := 3) (ns := 6) (s_seq (s_parF2 (by decide) (by decide) (x_var (by decide)) (x_rep (x_of_f (x_lst (a_cons x_int a_nil) (Few.ok (.cons .nil)))) (x_max2 x_int (x_i2 ir_add (x_i2 ir_sub (x_len x_varw) (x_len x_varw)) x_int))))
  (s_seq (s_while (t_test (x_i2 ir_ge (x_len x_varw) (x_len x_varw))) (s_seq (s_asg (x_i2 ir_sub (x_len x_varw) (x_len x_varw)) (g_name (by decide)))
  (s_seq (s_asg (x_call (a_cons (x_var (by decide)) (a_cons (x_ixL (x_var (by decide)) (x_neg x_int)) (a_cons (x_call (a_cons (x_var (by decide)) (a_cons (x_ixL (x_var (by decide)) (x_neg x_int)) (a_cons (x_var (by decide)) a_nil)))) a_nil)))) (g_name (by decide)))
  (s_seq (s_set (by decide) x_varw (x_var (by decide)))
  (s_seq (s_asg (x_of_f (x_lc (i_list (x_var (by decide))) (g_name (by decide)) (by decide) t_yes (x_call (a_cons (x_var (by decide)) (a_cons (x_var (by decide)) (a_cons (x_call (a_cons (x_var (by decide)) (a_cons (x_var (by decide)) (a_cons (x_var (by decide)) a_nil)))) a_nil)))))) (g_name (by decide)))
  (s_asg (x_call (a_cons (x_var (by decide)) (a_cons (x_var (by decide)) (a_cons (x_of_f (x_cat (x_of_f (x_rep (x_of_f (x_lst (a_cons x_int a_nil) (Few.ok (.cons .nil)))) x_varw)) (x_var (by decide)))) a_nil)))) (g_name (by decide))))))))
  (s_ret (x_tup (a_cons x_varw (a_cons x_varw a_nil)) (Few.ok (.cons (.cons .nil))))))) (by decide) rfl h⟩
abbrev st_outer_parts : Stmt := topS 68
theorem sc_outer_parts : FnScope ["field", "one", "other", "rest", "quotient", "shift", "factor", "taken", "at", "element"] ["field", "one", "other"] (defScope st_outer_parts) := ⟨rfl, rfl, rfl, by decide +kernel, rfl, by decide +kernel, by decide +kernel⟩
theorem ok_outer_parts {P : Program} {w : World} {K : PySem.W.Frag} {mg : Str → Option Value} {base : Heap} {C : Addr} (T : Tx K mg C) (k_less_turners : Kn P w K mg base "less_turners" 4 ["field", "one", "other"] (spF C S.less_turners)) (k_over_of : Kn P w K mg base "over_of" 1 ["field", "one", "other"] (spF C S.over_of)) (k_times_of : Kn P w K mg base "times_of" 1 ["field", "one", "other"] (spF C S.times_of)) (k_turned_of : Kn P w K mg base "turned_of" 2 ["field", "one", "many"] (spF C S.turned_of)) {f : Addr} {fd : FuncData} (F : Fn K "outer_parts" st_outer_parts f fd) : FnOk P w K mg base CX0 5 f fd ["field", "one", "other"] (spF C S.outer_parts) := by
  refine F.ok sc_outer_parts (fun vs H Q E h => spF_len h) (fun cdv A outer s H vs Q E hr h => ?_)
  exact ⟨_, PSs.nox (pss_cons (ps_par (i := 3) (j := 4) (by rfl) sc_outer_parts.nd rfl rfl (by decide) rfl rfl (pa_cons (pv 1) (pa_cons (pe_op op_rep (pe_lst (pa_cons pe_int pa_nil)) (pe_callB (call_max2 rfl) (by rfl) T.f_max bt_max (pa_cons pe_int (pa_cons (pe_op op_add (pe_op op_sub (pe_callB call_len_seq (by rfl) T.f_len bt_len (pa_cons (pv 1) pa_nil)) (pe_callB call_len_seq (by rfl) T.f_len bt_len (pa_cons (pv 2) pa_nil))) pe_int) pa_nil)))) pa_nil)) (by rfl))
  (pss_cons (ps_while PassesOwn.never (pt_cmpR op_ge (pe_callB call_len_seq (by rfl) T.f_len bt_len (pa_cons (pv 3) pa_nil)) (pe_callB call_len_seq (by rfl) T.f_len bt_len (pa_cons (pv 2) pa_nil)) (nomark _)) (pss_cons (ps_set (i := 5) sc_outer_parts.nd rfl (by first | exact .inl rfl | exact .inr rfl) (pe_op op_sub (pe_callB call_len_seq (by rfl) T.f_len bt_len (pa_cons (pv 3) pa_nil)) (pe_callB call_len_seq (by rfl) T.f_len bt_len (pa_cons (pv 2) pa_nil))))
  (pss_cons (ps_set (i := 6) sc_outer_parts.nd rfl (by first | exact .inl rfl | exact .inr rfl) (pe_kn k_turned_of (hr.mono (by decide)) rfl (pa_cons (pv 0) (pa_cons (pe_kn k_over_of (hr.mono (by decide)) rfl (pa_cons (pv 0) (pa_cons (pe_ix ix_list (pv 3) (pe_un un_neg pe_int) (fun _ _ => rfl)) (pa_cons (pe_ix ix_list (pv 2) (pe_un un_neg pe_int) (fun _ _ => rfl)) pa_nil)))) (pa_cons (pe_op op_sub pe_int (pe_callB call_len_seq (by rfl) T.f_len bt_len (pa_cons (pv 2) pa_nil))) pa_nil)))))
  (pss_cons (ps_asg (pv 6) (pg_sub (pv 4) (pv 5) set_list))
  (pss_cons (ps_setLc (i := 7) (own := [("at", 8), ("element", 9)]) rfl sc_outer_parts.nd rfl rfl (sw_true rfl rfl rfl (by kernel_rfl)) (pi_enum (by rfl) T.f_enumerate (pa_cons (pv 2) pa_nil)) (blkOk_by (by kernel_rfl)) (fun _ _ _ _ _ => (pg_tup rfl (pgs_cons (pg_name (i := 8) sc_outer_parts.nd rfl (by first | exact .inl rfl | exact .inr rfl)) (pgs_cons (pg_name (i := 9) sc_outer_parts.nd rfl (by first | exact .inl rfl | exact .inr rfl)) pgs_nil)))) (fun _ _ _ _ _ => pts_nil) (fun _ _ _ _ _ => (pe_kn k_times_of (hr.mono (by decide)) rfl (pa_cons (pv 0) (pa_cons (pv 9) (pa_cons (pe_kn k_turned_of (hr.mono (by decide)) rfl (pa_cons (pv 0) (pa_cons (pv 6) (pa_cons (pv 8) pa_nil)))) pa_nil))))))
  (pss_one (ps_set (i := 3) sc_outer_parts.nd rfl (by first | exact .inl rfl | exact .inr rfl) (pe_kn k_less_turners (hr.mono (by decide)) rfl (pa_cons (pv 0) (pa_cons (pv 3) (pa_cons (pe_op op_cat (pe_op op_rep (pe_lst (pa_cons pe_int pa_nil)) (pv 5)) (pv 7)) pa_nil)))))))))))
  (pss_one (ps_ret (pe_tup (pa_cons (pv 4) (pa_cons (pv 3) pa_nil))))))),
    body_ok (W := [4]) (b := S.b_outer_parts) (np := 3) (ns := 7) (s_seq (s_parF2 (by decide) (by decide) (x_var (by decide)) (x_rep (x_of_f (x_lst (a_cons x_int a_nil) (Few.ok (.cons .nil)))) (x_max2 x_int (x_i2 ir_add (x_i2 ir_sub (x_len x_varw) (x_len x_varw)) x_int))))
  (s_seq (s_while (t_test (x_i2 ir_ge (x_len x_varw) (x_len x_varw))) (s_seq (s_asg (x_i2 ir_sub (x_len x_varw) (x_len x_varw)) (g_name (by decide)))
  (s_seq (s_asg (x_call (a_cons (x_var (by decide)) (a_cons (x_call (a_cons (x_var (by decide)) (a_cons (x_ixL (x_var (by decide)) (x_neg x_int)) (a_cons (x_ixL (x_var (by decide)) (x_neg x_int)) a_nil)))) (a_cons (x_i2 ir_sub x_int (x_len x_varw)) a_nil)))) (g_name (by decide)))
  (s_seq (s_set (by decide) x_varw (x_var (by decide)))
  (s_seq (s_asg (x_of_f (x_lc (i_enum (x_var (by decide))) (g_tup (by decide) (by decide)) (by decide) t_yes (x_call (a_cons (x_var (by decide)) (a_cons (x_var (by decide)) (a_cons (x_call (a_cons (x_var (by decide)) (a_cons (x_var (by decide)) (a_cons (x_var (by decide)) a_nil)))) a_nil)))))) (g_name (by decide)))
  (s_asg (x_call (a_cons (x_var (by decide)) (a_cons (x_var (by decide)) (a_cons (x_of_f (x_cat (x_of_f (x_rep (x_of_f (x_lst (a_cons x_int a_nil) (Few.ok (.cons .nil)))) x_varw)) (x_var (by decide)))) a_nil)))) (g_name (by decide))))))))
  (s_ret (x_tup (a_cons x_varw (a_cons x_varw a_nil)) (Few.ok (.cons (.cons .nil))))))) (by decide) rfl h⟩
abbrev st_want_standing : Stmt := topS 72
theorem sc_want_standing : FnScope ["field", "value", "told"] ["field", "value"] (defScope st_want_standing) := ⟨rfl, rfl, rfl, by decide +kernel, rfl, by decide +kernel, by decide +kernel⟩
theorem ok_want_standing {P : Program} {w : World} {K : PySem.W.Frag} {mg : Str → Option Value} {base : Heap} {C : Addr} (T : Tx K mg C) (k_want_field : Kn P w K mg base "want_field" 1 ["value"] (spF C S.want_field)) (k_want_turner : Kn P w K mg base "want_turner" 5 ["field", "value"] (spF C S.want_turner)) {f : Addr} {fd : FuncData} (F : Fn K "want_standing" st_want_standing f fd) : FnOk P w K mg base CX0 6 f fd ["field", "value"] (spF C S.want_standing) := by
  refine F.ok sc_want_standing (fun vs H Q E h => spF_len h) (fun cdv A outer s H vs Q E hr h => ?_)
  exact ⟨_, PSs.nox (pss_cons (ps_expr (pe_kn k_want_field (hr.mono (by decide)) rfl (pa_cons (pv 0) pa_nil)))
  (pss_cons (ps_set (i := 2) sc_want_standing.nd rfl (by first | exact .inl rfl | exact .inr rfl) (pe_kn k_want_turner (hr.mono (by decide)) rfl (pa_cons (pv 0) (pa_cons (pv 1) pa_nil))))
  (pss_cons (ps_if (pt_cmpR (op_eqD hr.units) (pv 2) (pe_lst pa_nil) (nomark _)) (pss_one ps_never) pss_nil)
  (pss_one (ps_ret (pv 2)))))),
    body_ok (W := []) (b := S.b_want_standing) (np := 2) (ns := 1) (s_seq (s_drop (x_call (a_cons x_varw a_nil)))
  (s_seq (s_asg (x_call (a_cons (x_var (by decide)) (a_cons (x_var (by decide)) a_nil))) (g_name (by decide)))
  (s_seq (s_if (t_test (x_eqD x_varw (x_of_f (x_lst a_nil (Few.ok .nil))))) s_never s_next)
  (s_ret x_varw)))) (by decide) rfl h⟩
abbrev st_line_of : Stmt := topS 73
theorem sc_line_of : FnScope ["field", "one"] ["field", "one"] (defScope st_line_of) := ⟨rfl, rfl, rfl, by decide +kernel, rfl, by decide +kernel, by decide +kernel⟩
theorem ok_line_of {P : Program} {w : World} {K : PySem.W.Frag} {mg : Str → Option Value} {base : Heap} {C : Addr} (T : Tx K mg C) (k_minus_of : Kn P w K mg base "minus_of" 2 ["field", "one", "other"] (spF C S.minus_of)) {f : Addr} {fd : FuncData} (F : Fn K "line_of" st_line_of f fd) : FnOk P w K mg base CX0 3 f fd ["field", "one"] (spF C S.line_of) := by
  refine F.ok sc_line_of (fun vs H Q E h => spF_len h) (fun cdv A outer s H vs Q E hr h => ?_)
  exact ⟨_, PSs.nox (pss_one (ps_ret (pe_lst (pa_cons (pe_kn k_minus_of (hr.mono (by decide)) rfl (pa_cons (pv 0) (pa_cons pe_int (pa_cons (pv 1) pa_nil)))) (pa_cons pe_int pa_nil))))),
    body_ok (W := []) (b := S.b_line_of) (np := 2) (ns := 0) (s_ret (x_of_f (x_lst (a_cons (x_call (a_cons x_varw (a_cons x_int (a_cons x_varw a_nil)))) (a_cons x_int a_nil)) (Few.ok (.cons (.cons .nil)))))) (by decide) rfl h⟩
abbrev st_rest_at : Stmt := topS 74
theorem sc_rest_at : FnScope ["field", "turner", "one", "number", "found", "part"] ["field", "turner", "one"] (defScope st_rest_at) := ⟨rfl, rfl, rfl, by decide +kernel, rfl, by decide +kernel, by decide +kernel⟩
theorem ok_rest_at {P : Program} {w : World} {K : PySem.W.Frag} {mg : Str → Option Value} {base : Heap} {C : Addr} (T : Tx K mg C) (k_plus_of : Kn P w K mg base "plus_of" 2 ["field", "one", "other"] (spF C S.plus_of)) (k_times_of : Kn P w K mg base "times_of" 1 ["field", "one", "other"] (spF C S.times_of)) (k_turned_of : Kn P w K mg base "turned_of" 2 ["field", "one", "many"] (spF C S.turned_of)) {f : Addr} {fd : FuncData} (F : Fn K "rest_at" st_rest_at f fd) : FnOk P w K mg base CX0 3 f fd ["field", "turner", "one"] (spF C S.rest_at) := by
  refine F.ok sc_rest_at (fun vs H Q E h => spF_len h) (fun cdv A outer s H vs Q E hr h => ?_)
  exact ⟨_, PSs.nox (pss_cons (ps_asg (pe_tup (pa_cons pe_int (pa_cons pe_int pa_nil))) (pg_tup rfl (pgs_cons (pg_name (i := 4) sc_rest_at.nd rfl (by first | exact .inl rfl | exact .inr rfl)) (pgs_cons (pg_name (i := 5) sc_rest_at.nd rfl (by first | exact .inl rfl | exact .inr rfl)) pgs_nil))))
  (pss_cons (ps_for PassesOwn.never rfl (pi_list (pv 1)) (pg_name (i := 3) sc_rest_at.nd rfl (by first | exact .inl rfl | exact .inr rfl))
  (pss_cons (ps_set (i := 4) sc_rest_at.nd rfl (by first | exact .inl rfl | exact .inr rfl) (pe_kn k_plus_of (hr.mono (by decide)) rfl (pa_cons (pv 0) (pa_cons (pv 4) (pa_cons (pe_kn k_times_of (hr.mono (by decide)) rfl (pa_cons (pv 0) (pa_cons (pv 3) (pa_cons (pv 5) pa_nil)))) pa_nil)))))
  (pss_one (ps_set (i := 5) sc_rest_at.nd rfl (by first | exact .inl rfl | exact .inr rfl) (pe_kn k_times_of (hr.mono (by decide)) rfl (pa_cons (pv 0) (pa_cons (pe_kn k_turned_of (hr.mono (by decide)) rfl (pa_cons (pv 0) (pa_cons (pv 5) (pa_cons pe_int pa_nil)))) (pa_cons (pv 2) pa_nil))))))))
  (pss_one (ps_ret (pv 4))))),
    body_ok (W := []) (b := S.b_rest_at) (np := 3) (ns := 3) (s_seq (s_asg (x_tup (a_cons x_int (a_cons x_int a_nil)) (Few.ok (.cons (.cons .nil)))) (g_tup (by decide) (by decide)))
  (s_seq (s_for (i_list (x_var (by decide))) (g_name (by decide))
  (s_seq (s_asg (x_call (a_cons (x_var (by decide)) (a_cons (x_var (by decide)) (a_cons (x_call (a_cons (x_var (by decide)) (a_cons (x_var (by decide)) (a_cons (x_var (by decide)) a_nil)))) a_nil)))) (g_name (by decide)))
  (s_asg (x_call (a_cons (x_var (by decide)) (a_cons (x_call (a_cons (x_var (by decide)) (a_cons (x_var (by decide)) (a_cons x_int a_nil)))) (a_cons (x_var (by decide)) a_nil)))) (g_name (by decide)))))
  (s_ret x_varw))) (by decide) rfl h⟩
abbrev st_inners_of : Stmt := topS 75
theorem sc_inners_of : FnScope ["field", "turner", "one"] ["field", "turner"] (defScope st_inners_of) := ⟨rfl, rfl, rfl, by decide +kernel, rfl, by decide +kernel, by decide +kernel⟩
theorem ok_inners_of {P : Program} {w : World} {K : PySem.W.Frag} {mg : Str → Option Value} {base : Heap} {C : Addr} (T : Tx K mg C) (k_rest_at : Kn P w K mg base "rest_at" 3 ["field", "turner", "one"] (spF C S.rest_at)) {f : Addr} {fd : FuncData} (F : Fn K "inners_of" st_inners_of f fd) : FnOk P w K mg base CX0 4 f fd ["field", "turner"] (spF C S.inners_of) := by
  refine F.ok sc_inners_of (fun vs H Q E h => spF_len h) (fun cdv A outer s H vs Q E hr h => ?_)
  exact ⟨_, PSs.nox (pss_one (ps_ret (pe_lc (own := [("one", 2)]) rfl sc_inners_of.nd (pi_range1 rfl T.f_range (pa_cons (pe_fld (pv 0) rfl) pa_nil)) (blkOk_by (by kernel_rfl)) (fun _ _ _ _ _ => (pg_name (i := 2) sc_inners_of.nd rfl (by first | exact .inl rfl | exact .inr rfl))) (fun _ _ _ _ _ => (pts_one (pt_cmpR op_eq (pe_kn k_rest_at (hr.mono (by decide)) rfl (pa_cons (pv 0) (pa_cons (pv 1) (pa_cons (pv 2) pa_nil)))) pe_int (nomark _)))) (fun _ _ _ _ _ => (pv 2))))),
    body_ok (W := []) (b := S.b_inners_of) (np := 2) (ns := 1) (s_ret (x_of_f (f_weak (x_lc (i_range1 (x_attr2 T.cl T.n2 x_varw)) (g_name (by decide)) (by decide) (t_test (x_i2 ir_eq (x_call (a_cons x_varw (a_cons x_varw (a_cons x_varw a_nil)))) x_int)) (x_var (by decide)))))) (by decide) rfl h⟩
abbrev st_outers_of : Stmt := topS 76
theorem sc_outers_of : FnScope ["field", "turner", "one"] ["field", "turner"] (defScope st_outers_of) := ⟨rfl, rfl, rfl, by decide +kernel, rfl, by decide +kernel, by decide +kernel⟩
theorem ok_outers_of {P : Program} {w : World} {K : PySem.W.Frag} {mg : Str → Option Value} {base : Heap} {C : Addr} (T : Tx K mg C) (k_line_of : Kn P w K mg base "line_of" 3 ["field", "one"] (spF C S.line_of)) (k_outer_parts : Kn P w K mg base "outer_parts" 5 ["field", "one", "other"] (spF C S.outer_parts)) {f : Addr} {fd : FuncData} (F : Fn K "outers_of" st_outers_of f fd) : FnOk P w K mg base CX0 6 f fd ["field", "turner"] (spF C S.outers_of) := by
  refine F.ok sc_outers_of (fun vs H Q E h => spF_len h) (fun cdv A outer s H vs Q E hr h => ?_)
  exact ⟨_, PSs.nox (pss_cons (ps_if (pt_cmpR op_eq (pe_callB call_len_seq (by rfl) T.f_len bt_len (pa_cons (pv 1) pa_nil)) pe_int (nomark _)) (pss_one (ps_ret (pe_lst pa_nil))) pss_nil)
  (pss_one (ps_ret (pe_lc (own := [("one", 2)]) rfl sc_outers_of.nd (pi_range1 rfl T.f_range (pa_cons (pe_fld (pv 0) rfl) pa_nil)) (blkOk_by (by kernel_rfl)) (fun _ _ _ _ _ => (pg_name (i := 2) sc_outers_of.nd rfl (by first | exact .inl rfl | exact .inr rfl))) (fun _ _ _ _ _ => (pts_one (pt_cmpR (op_eqD hr.units) (pe_ix ix_tup (pe_kn k_outer_parts (hr.mono (by decide)) rfl (pa_cons (pv 0) (pa_cons (pv 1) (pa_cons (pe_kn k_line_of (hr.mono (by decide)) rfl (pa_cons (pv 0) (pa_cons (pv 2) pa_nil))) pa_nil)))) pe_int (fun _ _ => rfl)) (pe_lst pa_nil) (nomark _)))) (fun _ _ _ _ _ => (pv 2)))))),
    body_ok (W := []) (b := S.b_outers_of) (np := 2) (ns := 1) (s_seq (s_if (t_test (x_i2 ir_eq (x_len x_varw) x_int)) (s_ret (x_of_f (x_lst a_nil (Few.ok .nil)))) s_next)
  (s_ret (x_of_f (f_weak (x_lc (i_range1 (x_attr2 T.cl T.n2 x_varw)) (g_name (by decide)) (by decide) (t_test (x_eqD (x_ixT (x_call (a_cons x_varw (a_cons x_varw (a_cons (x_call (a_cons x_varw (a_cons x_varw a_nil))) a_nil)))) x_int) (x_of_f (x_lst a_nil (Few.ok .nil))))) (x_var (by decide))))))) (by decide) rfl h⟩
abbrev st_less_inner : Stmt := topS 77
theorem sc_less_inner : FnScope ["field", "turner", "one"] ["field", "turner", "one"] (defScope st_less_inner) := ⟨rfl, rfl, rfl, by decide +kernel, rfl, by decide +kernel, by decide +kernel⟩
theorem ok_less_inner {P : Program} {w : World} {K : PySem.W.Frag} {mg : Str → Option Value} {base : Heap} {C : Addr} (T : Tx K mg C) (k_inner_parts : Kn P w K mg base "inner_parts" 5 ["field", "one", "other"] (spF C S.inner_parts)) (k_line_of : Kn P w K mg base "line_of" 3 ["field", "one"] (spF C S.line_of)) {f : Addr} {fd : FuncData} (F : Fn K "less_inner" st_less_inner f fd) : FnOk P w K mg base CX0 6 f fd ["field", "turner", "one"] (spF C S.less_inner) := by
  refine F.ok sc_less_inner (fun vs H Q E h => spF_len h) (fun cdv A outer s H vs Q E hr h => ?_)
  exact ⟨_, PSs.nox (pss_one (ps_ret (pe_ix ix_tup (pe_kn k_inner_parts (hr.mono (by decide)) rfl (pa_cons (pv 0) (pa_cons (pv 1) (pa_cons (pe_kn k_line_of (hr.mono (by decide)) rfl (pa_cons (pv 0) (pa_cons (pv 2) pa_nil))) pa_nil)))) pe_int (fun _ _ => rfl)))),
    body_ok (W := []) (b := S.b_less_inner) (np := 3) (ns := 0) (s_ret (x_ixT (x_call (a_cons x_varw (a_cons x_varw (a_cons (x_call (a_cons x_varw (a_cons x_varw a_nil))) a_nil)))) x_int)) (by decide) rfl h⟩
abbrev st_inner_ones : Stmt := topS 80
theorem sc_inner_ones : FnScope ["field", "turner"] ["field", "turner"] (defScope st_inner_ones) := ⟨rfl, rfl, rfl, by decide +kernel, rfl, by decide +kernel, by decide +kernel⟩
theorem ok_inner_ones {P : Program} {w : World} {K : PySem.W.Frag} {mg : Str → Option Value} {base : Heap} {C : Addr} (T : Tx K mg C) (k_inners_of : Kn P w K mg base "inners_of" 4 ["field", "turner"] (spF C S.inners_of)) (k_want_standing : Kn P w K mg base "want_standing" 6 ["field", "value"] (spF C S.want_standing)) {f : Addr} {fd : FuncData} (F : Fn K "inner_ones" st_inner_ones f fd) : FnOk P w K mg base CX0 7 f fd ["field", "turner"] (spF C S.inner_ones) := by
  refine F.ok sc_inner_ones (fun vs H Q E h => spF_len h) (fun cdv A outer s H vs Q E hr h => ?_)
  exact ⟨_, PSs.nox (pss_one (ps_ret (pe_kn k_inners_of (hr.mono (by decide)) rfl (pa_cons (pv 0) (pa_cons (pe_kn k_want_standing (hr.mono (by decide)) rfl (pa_cons (pv 0) (pa_cons (pv 1) pa_nil))) pa_nil))))),
    body_ok (W := []) (b := S.b_inner_ones) (np := 2) (ns := 0) (s_ret (x_call (a_cons x_varw (a_cons (x_call (a_cons x_varw (a_cons x_varw a_nil))) a_nil)))) (by decide) rfl h⟩
abbrev st_outer_ones : Stmt := topS 81
theorem sc_outer_ones : FnScope ["field", "turner"] ["field", "turner"] (defScope st_outer_ones) := ⟨rfl, rfl, rfl, by decide +kernel, rfl, by decide +kernel, by decide +kernel⟩
theorem ok_outer_ones {P : Program} {w : World} {K : PySem.W.Frag} {mg : Str → Option Value} {base : Heap} {C : Addr} (T : Tx K mg C) (k_outers_of : Kn P w K mg base "outers_of" 6 ["field", "turner"] (spF C S.outers_of)) (k_want_standing : Kn P w K mg base "want_standing" 6 ["field", "value"] (spF C S.want_standing)) {f : Addr} {fd : FuncData} (F : Fn K "outer_ones" st_outer_ones f fd) : FnOk P w K mg base CX0 7 f fd ["field", "turner"] (spF C S.outer_ones) := by
  refine F.ok sc_outer_ones (fun vs H Q E h => spF_len h) (fun cdv A outer s H vs Q E hr h => ?_)
  exact ⟨_, PSs.nox (pss_one (ps_ret (pe_kn k_outers_of (hr.mono (by decide)) rfl (pa_cons (pv 0) (pa_cons (pe_kn k_want_standing (hr.mono (by decide)) rfl (pa_cons (pv 0) (pa_cons (pv 1) pa_nil))) pa_nil))))),
    body_ok (W := []) (b := S.b_outer_ones) (np := 2) (ns := 0) (s_ret (x_call (a_cons x_varw (a_cons (x_call (a_cons x_varw (a_cons x_varw a_nil))) a_nil)))) (by decide) rfl h⟩
abbrev st_want_like : Stmt := topS 84
theorem sc_want_like : FnScope ["field", "one", "other"] ["field", "one", "other"] (defScope st_want_like) := ⟨rfl, rfl, rfl, by decide +kernel, rfl, by decide +kernel, by decide +kernel⟩
theorem ok_want_like {P : Program} {w : World} {K : PySem.W.Frag} {mg : Str → Option Value} {base : Heap} {C : Addr} (T : Tx K mg C) (k_want_element : Kn P w K mg base "want_element" 4 ["field", "value"] (spF C S.want_element)) (k_want_field : Kn P w K mg base "want_field" 1 ["value"] (spF C S.want_field)) {f : Addr} {fd : FuncData} (F : Fn K "want_like" st_want_like f fd) : FnOk P w K mg base CX0 5 f fd ["field", "one", "other"] (spF C S.want_like) := by
  refine F.ok sc_want_like (fun vs H Q E h => spF_len h) (fun cdv A outer s H vs Q E hr h => ?_)
  exact ⟨_, PSs.nox (pss_cons (ps_expr (pe_kn k_want_field (hr.mono (by decide)) rfl (pa_cons (pv 0) pa_nil)))
  (pss_cons (ps_expr (pe_kn k_want_element (hr.mono (by decide)) rfl (pa_cons (pv 0) (pa_cons (pv 1) pa_nil))))
  (pss_one (ps_expr (pe_kn k_want_element (hr.mono (by decide)) rfl (pa_cons (pv 0) (pa_cons (pv 2) pa_nil))))))),
    body_ok (W := []) (b := S.b_want_like) (np := 3) (ns := 0) (s_seq (s_drop (x_call (a_cons x_varw a_nil)))
  (s_seq (s_drop (x_call (a_cons x_varw (a_cons x_varw a_nil))))
  (s_drop (x_call (a_cons x_varw (a_cons x_varw a_nil)))))) (by decide) rfl h⟩
abbrev st_led_by : Stmt := topS 85
theorem sc_led_by : FnScope ["field", "one", "leader"] ["field", "one", "leader"] (defScope st_led_by) := ⟨rfl, rfl, rfl, by decide +kernel, rfl, by decide +kernel, by decide +kernel⟩
theorem ok_led_by {P : Program} {w : World} {K : PySem.W.Frag} {mg : Str → Option Value} {base : Heap} {C : Addr} (T : Tx K mg C) (k_power_of : Kn P w K mg base "power_of" 1 ["field", "one", "many"] (spF C S.power_of)) (k_times_of : Kn P w K mg base "times_of" 1 ["field", "one", "other"] (spF C S.times_of)) {f : Addr} {fd : FuncData} (F : Fn K "led_by" st_led_by f fd) : FnOk P w K mg base CX0 2 f fd ["field", "one", "leader"] (spF C S.led_by) := by
  refine F.ok sc_led_by (fun vs H Q E h => spF_len h) (fun cdv A outer s H vs Q E hr h => ?_)
  exact ⟨_, PSs.nox (pss_one (ps_ret (pe_kn k_times_of (hr.mono (by decide)) rfl (pa_cons (pv 0) (pa_cons (pv 1) (pa_cons (pe_kn k_power_of (hr.mono (by decide)) rfl (pa_cons (pv 0) (pa_cons (pv 2) (pa_cons (pe_op op_sub (pe_fld (pv 0) rfl) pe_int) pa_nil)))) pa_nil)))))),
    body_ok (W := []) (b := S.b_led_by) (np := 3) (ns := 0) (s_ret (x_call (a_cons x_varw (a_cons x_varw (a_cons (x_call (a_cons x_varw (a_cons x_varw (a_cons (x_i2 ir_sub (x_attr0 T.cl T.n0 x_varw) x_int) a_nil)))) a_nil))))) (by decide) rfl h⟩
abbrev st_is_like_by : Stmt := topS 86
theorem sc_is_like_by : FnScope ["field", "one", "other", "value"] ["field", "one", "other", "value"] (defScope st_is_like_by) := ⟨rfl, rfl, rfl, by decide +kernel, rfl, by decide +kernel, by decide +kernel⟩
theorem ok_is_like_by {P : Program} {w : World} {K : PySem.W.Frag} {mg : Str → Option Value} {base : Heap} {C : Addr} (T : Tx K mg C) (k_is_in : Kn P w K mg base "is_in" 3 ["field", "value"] (spF C S.is_in)) (k_led_by : Kn P w K mg base "led_by" 2 ["field", "one", "leader"] (spF C S.led_by)) (k_want_like : Kn P w K mg base "want_like" 5 ["field", "one", "other"] (spF C S.want_like)) {f : Addr} {fd : FuncData} (F : Fn K "is_like_by" st_is_like_by f fd) : FnOk P w K mg base CX0 6 f fd ["field", "one", "other", "value"] (spF C S.is_like_by) := by
  refine F.ok sc_is_like_by (fun vs H Q E h => spF_len h) (fun cdv A outer s H vs Q E hr h => ?_)
  exact ⟨_, PSs.nox (pss_cons (ps_expr (pe_kn k_want_like (hr.mono (by decide)) rfl (pa_cons (pv 0) (pa_cons (pv 1) (pa_cons (pv 2) pa_nil)))))
  (pss_one (ps_ret (pe_and (pe_kn k_is_in (hr.mono (by decide)) rfl (pa_cons (pv 0) (pa_cons (pv 3) pa_nil))) (pe_and (pe_cmpR op_ne (pv 3) pe_int (nomark _)) (pe_one (pe_cmpR op_eq (pe_kn k_led_by (hr.mono (by decide)) rfl (pa_cons (pv 0) (pa_cons (pv 1) (pa_cons (pv 3) pa_nil)))) (pv 2) (nomark _)))))))),
    body_ok (W := []) (b := S.b_is_like_by) (np := 4) (ns := 0) (s_seq (s_drop (x_call (a_cons x_varw (a_cons x_varw (a_cons x_varw a_nil)))))
  (s_ret (x_andV (x_call (a_cons x_varw (a_cons x_varw a_nil))) (x_andV (x_i2 ir_ne x_varw x_int) (x_i2 ir_eq (x_call (a_cons x_varw (a_cons x_varw (a_cons x_varw a_nil)))) x_varw))))) (by decide) rfl h⟩
abbrev st_law_figures : Stmt := topS 91
theorem sc__law_figures : FnScope ["_law_prime", "_law_turns", "_law_number", "_law_found", "_law_turn", "_law_figure"] ["_law_prime", "_law_turns", "_law_number"] (defScope st_law_figures) := ⟨rfl, rfl, rfl, by decide +kernel, rfl, by decide +kernel, by decide +kernel⟩
theorem ok_law_figures {P : Program} {w : World} {K : PySem.W.Frag} {mg : Str → Option Value} {base : Heap} {C : Addr} (T : Tx K mg C)  {f : Addr} {fd : FuncData} (F : Fn K "_law_figures" st_law_figures f fd) : FnOk P w K mg base CX0 1 f fd ["_law_prime", "_law_turns", "_law_number"] (spF C S.law_figures) := by
  refine F.ok sc__law_figures (fun vs H Q E h => spF_len h) (fun cdv A outer s H vs Q E hr h => ?_)
  exact ⟨_, PSs.nox (pss_cons (ps_set (i := 3) sc__law_figures.nd rfl (by first | exact .inl rfl | exact .inr rfl) (pe_lst pa_nil))
  (pss_cons (ps_for PassesOwn.never rfl (pi_range1 rfl T.f_range (pa_cons (pv 1) pa_nil)) (pg_name (i := 4) sc__law_figures.nd rfl (by first | exact .inl rfl | exact .inr rfl))
  (pss_cons (ps_asg (pe_callB call_divmod (by rfl) T.f_divmod bt_divmod (pa_cons (pv 2) (pa_cons (pv 0) pa_nil))) (pg_tup rfl (pgs_cons (pg_name (i := 2) sc__law_figures.nd rfl (by first | exact .inl rfl | exact .inr rfl)) (pgs_cons (pg_name (i := 5) sc__law_figures.nd rfl (by first | exact .inl rfl | exact .inr rfl)) pgs_nil))))
  (pss_one (ps_expr (pe_bm PySem.F.plainAttrs_list PySem.F.slot_list_append PySem.F.type_list_append mt_append (pv 3) (pa_cons (pv 5) pa_nil))))))
  (pss_one (ps_ret (pv 3))))),
    body_ok (W := [3]) (b := S.b_law_figures) (np := 3) (ns := 3) (s_seq (s_asgF (by decide) (x_lst a_nil (Few.ok .nil)))
  (s_seq (s_for (i_range1 x_varw) (g_name (by decide))
  (s_seq (s_asg (x_divmod x_varw x_varw) (g_tup (by decide) (by decide)))
  (s_app (by decide) (x_var (by decide)))))
  (s_ret x_varw))) (by decide) rfl h⟩
abbrev st_law_value : Stmt := topS 92
theorem sc__law_value : FnScope ["_law_prime", "_law_figures_here", "_law_found", "_law_figure"] ["_law_prime", "_law_figures_here"] (defScope st_law_value) := ⟨rfl, rfl, rfl, by decide +kernel, rfl, by decide +kernel, by decide +kernel⟩
theorem ok_law_value {P : Program} {w : World} {K : PySem.W.Frag} {mg : Str → Option Value} {base : Heap} {C : Addr} (T : Tx K mg C)  {f : Addr} {fd : FuncData} (F : Fn K "_law_value" st_law_value f fd) : FnOk P w K mg base CX0 1 f fd ["_law_prime", "_law_figures_here"] (spF C S.law_value) := by
  refine F.ok sc__law_value (fun vs H Q E h => spF_len h) (fun cdv A outer s H vs Q E hr h => ?_)
  exact ⟨_, PSs.nox (pss_cons (ps_set (i := 2) sc__law_value.nd rfl (by first | exact .inl rfl | exact .inr rfl) pe_int)
  (pss_cons (ps_for PassesOwn.never rfl (pi_list (pe_revL (pv 1))) (pg_name (i := 3) sc__law_value.nd rfl (by first | exact .inl rfl | exact .inr rfl))
  (pss_one (ps_set (i := 2) sc__law_value.nd rfl (by first | exact .inl rfl | exact .inr rfl) (pe_op op_add (pe_op op_mul (pv 2) (pv 0)) (pv 3)))))
  (pss_one (ps_ret (pv 2))))),
    body_ok (W := []) (b := S.b_law_value) (np := 2) (ns := 2) (s_seq (s_asg x_int (g_name (by decide)))
  (s_seq (s_for (i_list (x_of_f (x_rev (x_var (by decide))))) (g_name (by decide))
  (s_asg (x_i2 ir_add (x_i2 ir_mul x_varw x_varw) x_varw) (g_name (by decide))))
  (s_ret x_varw))) (by decide) rfl h⟩
abbrev st_law_shifts : Stmt := topS 93
theorem sc__law_shifts : FnScope ["_law_prime", "_law_modulus", "_law_figures_here", "_law_found", "_law_turn", "_law_last", "_law_moved", "_law_near", "_law_far"] ["_law_prime", "_law_modulus", "_law_figures_here"] (defScope st_law_shifts) := ⟨rfl, rfl, rfl, by decide +kernel, rfl, by decide +kernel, by decide +kernel⟩
theorem ok_law_shifts {P : Program} {w : World} {K : PySem.W.Frag} {mg : Str → Option Value} {base : Heap} {C : Addr} (T : Tx K mg C)  {f : Addr} {fd : FuncData} (F : Fn K "_law_shifts" st_law_shifts f fd) : FnOk P w K mg base CX0 1 f fd ["_law_prime", "_law_modulus", "_law_figures_here"] (spF C S.law_shifts) := by
  refine F.ok sc__law_shifts (fun vs H Q E h => spF_len h) (fun cdv A outer s H vs Q E hr h => ?_)
  exact ⟨_, PSs.nox (pss_cons (ps_set (i := 3) sc__law_shifts.nd rfl (by first | exact .inl rfl | exact .inr rfl) (pe_lst (pa_cons (pv 2) pa_nil)))
  (pss_cons (ps_for PassesOwn.never rfl (pi_range1 rfl T.f_range (pa_cons (pe_op op_sub (pe_callB call_len_seq (by rfl) T.f_len bt_len (pa_cons (pv 2) pa_nil)) pe_int) pa_nil)) (pg_name (i := 4) sc__law_shifts.nd rfl (by first | exact .inl rfl | exact .inr rfl))
  (pss_cons (ps_set (i := 5) sc__law_shifts.nd rfl (by first | exact .inl rfl | exact .inr rfl) (pe_ix ix_list (pv 3) (pe_un un_neg pe_int) (fun _ _ => rfl)))
  (pss_cons (ps_set (i := 6) sc__law_shifts.nd rfl (by first | exact .inl rfl | exact .inr rfl) (pe_op op_cat (pe_lst (pa_cons pe_int pa_nil)) (pe_slice sl_list (pv 5) po_none (po_some (pe_un un_neg pe_int)))))
  (pss_one (ps_expr (pe_bm PySem.F.plainAttrs_list PySem.F.slot_list_append PySem.F.type_list_append mt_append (pv 3) (pa_cons (pe_lc (own := [("_law_near", 7), ("_law_far", 8)]) rfl sc__law_shifts.nd (pi_zip (by rfl) T.f_zip (pa_cons (pv 6) (pa_cons (pv 1) pa_nil))) (blkOk_by (by kernel_rfl)) (fun _ _ _ _ _ => (pg_tup rfl (pgs_cons (pg_name (i := 7) sc__law_shifts.nd rfl (by first | exact .inl rfl | exact .inr rfl)) (pgs_cons (pg_name (i := 8) sc__law_shifts.nd rfl (by first | exact .inl rfl | exact .inr rfl)) pgs_nil)))) (fun _ _ _ _ _ => pts_nil) (fun _ _ _ _ _ => (pe_op op_mod (pe_callTy call_int1 (by rfl) T.f_int bt_int (pa_cons (pe_op op_sub (pv 7) (pe_op op_mul (pe_ix ix_list (pv 5) (pe_un un_neg pe_int) (fun _ _ => rfl)) (pv 8))) pa_nil)) (pv 0)))) pa_nil)))))))
  (pss_one (ps_ret (pv 3))))),
    body_ok (W := [3]) (b := S.b_law_shifts) (np := 3) (ns := 6) (s_seq (s_asgF (by decide) (x_lst (a_cons (x_var (by decide)) a_nil) (Few.ok (.cons .nil))))
  (s_seq (s_for (i_range1 (x_i2 ir_sub (x_len x_varw) x_int)) (g_name (by decide))
  (s_seq (s_asg (x_ixW (by decide) (x_neg x_int)) (g_name (by decide)))
  (s_seq (s_asg (x_of_f (x_cat (x_of_f (x_lst (a_cons x_int a_nil) (Few.ok (.cons .nil)))) (x_of_f (x_sl (x_var (by decide)) o_none (o_some (x_neg x_int)))))) (g_name (by decide)))
  (s_app (by decide) (x_of_f (x_lc (i_zip (x_var (by decide)) (x_var (by decide))) (g_tup (by decide) (by decide)) (by decide) t_yes (x_i2 ir_mod (x_toInt (x_i2 ir_sub x_varw (x_i2 ir_mul (x_ixL x_varw (x_neg x_int)) x_varw))) x_varw)))))))
  (s_ret x_varw))) (by decide) rfl h⟩
abbrev st_law_product_row : Stmt := topS 94
theorem sc__law_product_row : FnScope ["_law_prime", "_law_modulus", "_law_rows", "_law_one", "_law_row", "_law_shifts_here", "_law_found", "_law_total", "_law_figure", "_law_shift", "_law_number", "_law_near", "_law_far"] ["_law_prime", "_law_modulus", "_law_rows", "_law_one"] (defScope st_law_product_row) := ⟨rfl, rfl, rfl, by decide +kernel, rfl, by decide +kernel, by decide +kernel⟩
theorem ok_law_product_row {P : Program} {w : World} {K : PySem.W.Frag} {mg : Str → Option Value} {base : Heap} {C : Addr} (T : Tx K mg C) (k_law_shifts : Kn P w K mg base "_law_shifts" 1 ["_law_prime", "_law_modulus", "_law_figures_here"] (spF C S.law_shifts)) (k_law_value : Kn P w K mg base "_law_value" 1 ["_law_prime", "_law_figures_here"] (spF C S.law_value)) {f : Addr} {fd : FuncData} (F : Fn K "_law_product_row" st_law_product_row f fd) : FnOk P w K mg base CX0 2 f fd ["_law_prime", "_law_modulus", "_law_rows", "_law_one"] (spF C S.law_product_row) := by
  refine F.ok sc__law_product_row (fun vs H Q E h => spF_len h) (fun cdv A outer s H vs Q E hr h => ?_)
  exact ⟨_, PSs.nox (pss_cons (ps_par (i := 5) (j := 6) (by rfl) sc__law_product_row.nd rfl rfl (by decide) rfl rfl (pa_cons (pe_kn k_law_shifts (hr.mono (by decide)) rfl (pa_cons (pv 0) (pa_cons (pv 1) (pa_cons (pe_ix ix_list (pv 2) (pv 3) (fun _ _ => rfl)) pa_nil)))) (pa_cons (pe_lst pa_nil) pa_nil)) (by rfl))
  (pss_cons (ps_for PassesOwn.never rfl (pi_list (pv 2)) (pg_name (i := 4) sc__law_product_row.nd rfl (by first | exact .inl rfl | exact .inr rfl))
  (pss_cons (ps_set (i := 7) sc__law_product_row.nd rfl (by first | exact .inl rfl | exact .inr rfl) (pe_op op_rep (pe_lst (pa_cons pe_int pa_nil)) (pe_callB call_len_seq (by rfl) T.f_len bt_len (pa_cons (pv 4) pa_nil))))
  (pss_cons (ps_for PassesOwn.never rfl (pi_zip (by rfl) T.f_zip (pa_cons (pv 4) (pa_cons (pv 5) pa_nil))) (pg_tup rfl (pgs_cons (pg_name (i := 8) sc__law_product_row.nd rfl (by first | exact .inl rfl | exact .inr rfl)) (pgs_cons (pg_name (i := 9) sc__law_product_row.nd rfl (by first | exact .inl rfl | exact .inr rfl)) pgs_nil)))
  (pss_one (ps_if (pt_cmpR op_ne (pv 8) pe_int (nomark _)) (pss_one (ps_setLc (i := 7) (own := [("_law_near", 11), ("_law_far", 12)]) rfl sc__law_product_row.nd rfl rfl (sw_true rfl rfl rfl (by kernel_rfl)) (pi_zip (by rfl) T.f_zip (pa_cons (pv 7) (pa_cons (pv 9) pa_nil))) (blkOk_by (by kernel_rfl)) (fun _ _ _ _ _ => (pg_tup rfl (pgs_cons (pg_name (i := 11) sc__law_product_row.nd rfl (by first | exact .inl rfl | exact .inr rfl)) (pgs_cons (pg_name (i := 12) sc__law_product_row.nd rfl (by first | exact .inl rfl | exact .inr rfl)) pgs_nil)))) (fun _ _ _ _ _ => pts_nil) (fun _ _ _ _ _ => (pe_op op_add (pv 11) (pe_op op_mul (pv 8) (pv 12)))))) pss_nil)))
  (pss_one (ps_expr (pe_bm PySem.F.plainAttrs_list PySem.F.slot_list_append PySem.F.type_list_append mt_append (pv 6) (pa_cons (pe_kn k_law_value (hr.mono (by decide)) rfl (pa_cons (pv 0) (pa_cons (pe_lc (own := [("_law_number", 10)]) rfl sc__law_product_row.nd (pi_list (pv 7)) (blkOk_by (by kernel_rfl)) (fun _ _ _ _ _ => (pg_name (i := 10) sc__law_product_row.nd rfl (by first | exact .inl rfl | exact .inr rfl))) (fun _ _ _ _ _ => pts_nil) (fun _ _ _ _ _ => (pe_op op_mod (pe_callTy call_int1 (by rfl) T.f_int bt_int (pa_cons (pv 10) pa_nil)) (pv 0)))) pa_nil))) pa_nil)))))))
  (pss_one (ps_ret (pv 6))))),
    body_ok (W := [6]) (b := S.b_law_product_row) (np := 4) (ns := 9) (s_seq (s_parF2 (by decide) (by decide) (x_call (a_cons (x_var (by decide)) (a_cons (x_var (by decide)) (a_cons (x_ixL (x_var (by decide)) x_varw) a_nil)))) (x_lst a_nil (Few.ok .nil)))
  (s_seq (s_for (i_list (x_var (by decide))) (g_name (by decide))
  (s_seq (s_asg (x_of_f (x_rep (x_of_f (x_lst (a_cons x_int a_nil) (Few.ok (.cons .nil)))) (x_len x_varw))) (g_name (by decide)))
  (s_seq (s_for (i_zip (x_var (by decide)) (x_var (by decide))) (g_tup (by decide) (by decide))
  (s_if (t_test (x_i2 ir_ne x_varw x_int)) (s_asg (x_of_f (x_lc (i_zip (x_var (by decide)) (x_var (by decide))) (g_tup (by decide) (by decide)) (by decide) t_yes (x_i2 ir_add x_varw (x_i2 ir_mul x_varw x_varw)))) (g_name (by decide))) s_next))
  (s_app (by decide) (x_call (a_cons (x_var (by decide)) (a_cons (x_of_f (x_lc (i_list (x_var (by decide))) (g_name (by decide)) (by decide) t_yes (x_i2 ir_mod (x_toInt x_varw) x_varw))) a_nil)))))))
  (s_ret x_varw))) (by decide) rfl h⟩
abbrev st_law_world : Stmt := topS 95
theorem sc__law_world : FnScope ["_law_prime", "_law_modulus", "_law_turn", "_law_rows", "_law_sums", "_law_row", "_law_products", "_law_less", "_law_undone", "_law_turned_here", "_law_one", "_law_turns", "_law_size", "_law_number", "_law_other", "_law_near", "_law_far"] ["_law_prime", "_law_modulus"] (defScope st_law_world) := ⟨rfl, rfl, rfl, by decide +kernel, rfl, by decide +kernel, by decide +kernel⟩
theorem ok_law_world {P : Program} {w : World} {K : PySem.W.Frag} {mg : Str → Option Value} {base : Heap} {C : Addr} (T : Tx K mg C) (k_law_figures : Kn P w K mg base "_law_figures" 1 ["_law_prime", "_law_turns", "_law_number"] (spF C S.law_figures)) (k_law_product_row : Kn P w K mg base "_law_product_row" 2 ["_law_prime", "_law_modulus", "_law_rows", "_law_one"] (spF C S.law_product_row)) (k_law_value : Kn P w K mg base "_law_value" 1 ["_law_prime", "_law_figures_here"] (spF C S.law_value)) {f : Addr} {fd : FuncData} (F : Fn K "_law_world" st_law_world f fd) : FnOk P w K mg base CX0 3 f fd ["_law_prime", "_law_modulus"] (spF C S.law_world) := by
  refine F.ok sc__law_world (fun vs H Q E h => spF_len h) (fun cdv A outer s H vs Q E hr h => ?_)
  exact ⟨_, PSs.nox (pss_cons (ps_asg (pe_tup (pa_cons (pe_op op_sub (pe_callB call_len_seq (by rfl) T.f_len bt_len (pa_cons (pv 1) pa_nil)) pe_int) (pa_cons pe_int pa_nil))) (pg_tup rfl (pgs_cons (pg_name (i := 11) sc__law_world.nd rfl (by first | exact .inl rfl | exact .inr rfl)) (pgs_cons (pg_name (i := 12) sc__law_world.nd rfl (by first | exact .inl rfl | exact .inr rfl)) pgs_nil))))
  (pss_cons (ps_for PassesOwn.never rfl (pi_range1 rfl T.f_range (pa_cons (pv 11) pa_nil)) (pg_name (i := 2) sc__law_world.nd rfl (by first | exact .inl rfl | exact .inr rfl))
  (pss_one (ps_set (i := 12) sc__law_world.nd rfl (by first | exact .inl rfl | exact .inr rfl) (pe_op op_mul (pv 12) (pv 0)))))
  (pss_cons (ps_set (i := 3) sc__law_world.nd rfl (by first | exact .inl rfl | exact .inr rfl) (pe_lc (own := [("_law_number", 13)]) rfl sc__law_world.nd (pi_range1 rfl T.f_range (pa_cons (pv 12) pa_nil)) (blkOk_by (by kernel_rfl)) (fun _ _ _ _ _ => (pg_name (i := 13) sc__law_world.nd rfl (by first | exact .inl rfl | exact .inr rfl))) (fun _ _ _ _ _ => pts_nil) (fun _ _ _ _ _ => (pe_kn k_law_figures (hr.mono (by decide)) rfl (pa_cons (pv 0) (pa_cons (pv 11) (pa_cons (pv 13) pa_nil)))))))
  (pss_cons (ps_set (i := 4) sc__law_world.nd rfl (by first | exact .inl rfl | exact .inr rfl) (pe_lst pa_nil))
  (pss_cons (ps_for PassesOwn.never rfl (pi_list (pv 3)) (pg_name (i := 5) sc__law_world.nd rfl (by first | exact .inl rfl | exact .inr rfl))
  (pss_one (ps_expr (pe_bm PySem.F.plainAttrs_list PySem.F.slot_list_append PySem.F.type_list_append mt_append (pv 4) (pa_cons (pe_lc (own := [("_law_other", 14)]) rfl sc__law_world.nd (pi_list (pv 3)) (blkOk_by (by kernel_rfl)) (fun _ _ _ _ _ => (pg_name (i := 14) sc__law_world.nd rfl (by first | exact .inl rfl | exact .inr rfl))) (fun _ _ _ _ _ => pts_nil) (fun _ _ _ _ _ => (pe_kn k_law_value (hr.mono (by decide)) rfl (pa_cons (pv 0) (pa_cons (pe_lc (own := [("_law_near", 15), ("_law_far", 16)]) rfl sc__law_world.nd (pi_zip (by rfl) T.f_zip (pa_cons (pv 5) (pa_cons (pv 14) pa_nil))) (blkOk_by (by kernel_rfl)) (fun _ _ _ _ _ => (pg_tup rfl (pgs_cons (pg_name (i := 15) sc__law_world.nd rfl (by first | exact .inl rfl | exact .inr rfl)) (pgs_cons (pg_name (i := 16) sc__law_world.nd rfl (by first | exact .inl rfl | exact .inr rfl)) pgs_nil)))) (fun _ _ _ _ _ => pts_nil) (fun _ _ _ _ _ => (pe_op op_mod (pe_callTy call_int1 (by rfl) T.f_int bt_int (pa_cons (pe_op op_add (pv 15) (pv 16)) pa_nil)) (pv 0)))) pa_nil))))) pa_nil)))))
  (pss_cons (ps_set (i := 6) sc__law_world.nd rfl (by first | exact .inl rfl | exact .inr rfl) (pe_lc (own := [("_law_one", 10)]) rfl sc__law_world.nd (pi_range1 rfl T.f_range (pa_cons (pv 12) pa_nil)) (blkOk_by (by kernel_rfl)) (fun _ _ _ _ _ => (pg_name (i := 10) sc__law_world.nd rfl (by first | exact .inl rfl | exact .inr rfl))) (fun _ _ _ _ _ => pts_nil) (fun _ _ _ _ _ => (pe_kn k_law_product_row (hr.mono (by decide)) rfl (pa_cons (pv 0) (pa_cons (pv 1) (pa_cons (pv 3) (pa_cons (pv 10) pa_nil))))))))
  (pss_cons (ps_setLc (i := 7) (own := [("_law_one", 10)]) rfl sc__law_world.nd rfl rfl (sw_true rfl rfl rfl (by kernel_rfl)) (pi_range1 rfl T.f_range (pa_cons (pv 12) pa_nil)) (blkOk_by (by kernel_rfl)) (fun _ _ _ _ _ => (pg_name (i := 10) sc__law_world.nd rfl (by first | exact .inl rfl | exact .inr rfl))) (fun _ _ _ _ _ => pts_nil) (fun _ _ _ _ _ => (pe_ix ix_list (pe_lc (own := [("_law_other", 14)]) rfl sc__law_world.nd (pi_range1 rfl T.f_range (pa_cons (pv 12) pa_nil)) (blkOk_by (by kernel_rfl)) (fun _ _ _ _ _ => (pg_name (i := 14) sc__law_world.nd rfl (by first | exact .inl rfl | exact .inr rfl))) (fun _ _ _ _ _ => (pts_one (pt_cmpR op_eq (pe_ix ix_list (pe_ix ix_list (pv 4) (pv 10) (fun _ _ => rfl)) (pv 14) (fun _ _ => rfl)) pe_int (nomark _)))) (fun _ _ _ _ _ => (pv 14))) pe_int (fun _ _ => rfl))))
  (pss_cons (ps_set (i := 8) sc__law_world.nd rfl (by first | exact .inl rfl | exact .inr rfl) (pe_op op_cat (pe_lst (pa_cons pe_int pa_nil)) (pe_lc (own := [("_law_one", 10)]) rfl sc__law_world.nd (pi_range2 rfl T.f_range (pa_cons pe_int (pa_cons (pv 12) pa_nil))) (blkOk_by (by kernel_rfl)) (fun _ _ _ _ _ => (pg_name (i := 10) sc__law_world.nd rfl (by first | exact .inl rfl | exact .inr rfl))) (fun _ _ _ _ _ => pts_nil) (fun _ _ _ _ _ => (pe_ix ix_list (pe_lc (own := [("_law_other", 14)]) rfl sc__law_world.nd (pi_range1 rfl T.f_range (pa_cons (pv 12) pa_nil)) (blkOk_by (by kernel_rfl)) (fun _ _ _ _ _ => (pg_name (i := 14) sc__law_world.nd rfl (by first | exact .inl rfl | exact .inr rfl))) (fun _ _ _ _ _ => (pts_one (pt_cmpR op_eq (pe_ix ix_list (pe_ix ix_list (pv 6) (pv 10) (fun _ _ => rfl)) (pv 14) (fun _ _ => rfl)) pe_int (nomark _)))) (fun _ _ _ _ _ => (pv 14))) pe_int (fun _ _ => rfl))))))
  (pss_cons (ps_set (i := 9) sc__law_world.nd rfl (by first | exact .inl rfl | exact .inr rfl) (pe_lst pa_nil))
  (pss_cons (ps_for PassesOwn.never rfl (pi_range1 rfl T.f_range (pa_cons (pv 12) pa_nil)) (pg_name (i := 10) sc__law_world.nd rfl (by first | exact .inl rfl | exact .inr rfl))
  (pss_cons (ps_set (i := 13) sc__law_world.nd rfl (by first | exact .inl rfl | exact .inr rfl) pe_int)
  (pss_cons (ps_for PassesOwn.never rfl (pi_range1 rfl T.f_range (pa_cons (pv 0) pa_nil)) (pg_name (i := 2) sc__law_world.nd rfl (by first | exact .inl rfl | exact .inr rfl))
  (pss_one (ps_set (i := 13) sc__law_world.nd rfl (by first | exact .inl rfl | exact .inr rfl) (pe_ix ix_list (pe_ix ix_list (pv 6) (pv 13) (fun _ _ => rfl)) (pv 10) (fun _ _ => rfl)))))
  (pss_one (ps_expr (pe_bm PySem.F.plainAttrs_list PySem.F.slot_list_append PySem.F.type_list_append mt_append (pv 9) (pa_cons (pv 13) pa_nil)))))))
  (pss_one (ps_ret (pe_lst (pa_cons (pv 0) (pa_cons (pv 11) (pa_cons (pv 12) (pa_cons (pv 4) (pa_cons (pv 6) (pa_cons (pv 7) (pa_cons (pv 8) (pa_cons (pv 9) pa_nil))))))))))))))))))))),
    body_ok (W := [4, 9]) (b := S.b_law_world) (np := 2) (ns := 15) (s_seq (s_asg (x_tup (a_cons (x_i2 ir_sub (x_len x_varw) x_int) (a_cons x_int a_nil)) (Few.ok (.cons (.cons .nil)))) (g_tup (by decide) (by decide)))
  (s_seq (s_for (i_range1 x_varw) (g_name (by decide))
  (s_asg (x_i2 ir_mul x_varw x_varw) (g_name (by decide))))
  (s_seq (s_asg (x_of_f (x_lc (i_range1 x_varw) (g_name (by decide)) (by decide) t_yes (x_call (a_cons (x_var (by decide)) (a_cons (x_var (by decide)) (a_cons (x_var (by decide)) a_nil)))))) (g_name (by decide)))
  (s_seq (s_asgF (by decide) (x_lst a_nil (Few.ok .nil)))
  (s_seq (s_for (i_list (x_var (by decide))) (g_name (by decide))
  (s_app (by decide) (x_of_f (x_lc (i_list (x_var (by decide))) (g_name (by decide)) (by decide) t_yes (x_call (a_cons (x_var (by decide)) (a_cons (x_of_f (x_lc (i_zip (x_var (by decide)) (x_var (by decide))) (g_tup (by decide) (by decide)) (by decide) t_yes (x_i2 ir_mod (x_toInt (x_i2 ir_add x_varw x_varw)) x_varw))) a_nil)))))))
  (s_seq (s_asg (x_of_f (x_lc (i_range1 x_varw) (g_name (by decide)) (by decide) t_yes (x_call (a_cons (x_var (by decide)) (a_cons (x_var (by decide)) (a_cons (x_var (by decide)) (a_cons (x_var (by decide)) a_nil))))))) (g_name (by decide)))
  (s_seq (s_asg (x_of_f (x_lc (i_range1 x_varw) (g_name (by decide)) (by decide) t_yes (x_ixL (x_of_f (x_lc (i_range1 x_varw) (g_name (by decide)) (by decide) (t_test (x_i2 ir_eq (x_ixL (x_ixL x_varw x_varw) x_varw) x_int)) (x_var (by decide)))) x_int))) (g_name (by decide)))
  (s_seq (s_asg (x_of_f (x_cat (x_of_f (x_lst (a_cons x_int a_nil) (Few.ok (.cons .nil)))) (x_of_f (x_lc (i_range2 x_int x_varw) (g_name (by decide)) (by decide) t_yes (x_ixL (x_of_f (x_lc (i_range1 x_varw) (g_name (by decide)) (by decide) (t_test (x_i2 ir_eq (x_ixL (x_ixL x_varw x_varw) x_varw) x_int)) (x_var (by decide)))) x_int))))) (g_name (by decide)))
  (s_seq (s_asgF (by decide) (x_lst a_nil (Few.ok .nil)))
  (s_seq (s_for (i_range1 x_varw) (g_name (by decide))
  (s_seq (s_asg x_int (g_name (by decide)))
  (s_seq (s_for (i_range1 x_varw) (g_name (by decide))
  (s_asg (x_ixL (x_ixL (x_var (by decide)) x_varw) x_varw) (g_name (by decide))))
  (s_app (by decide) (x_var (by decide))))))
  (s_ret (x_of_f (x_lst (a_cons x_varw (a_cons x_varw (a_cons x_varw (a_cons x_varw (a_cons x_varw (a_cons x_varw (a_cons x_varw (a_cons x_varw a_nil)))))))) (Few.ok (.cons (.cons (.cons (.cons (.cons (.cons (.cons (.cons .nil)))))))))))))))))))))) (by decide) rfl h⟩
abbrev st_law_turned : Stmt := topS 96
theorem sc__law_turned : FnScope ["_law_world_here", "_law_one", "_law_many", "_law_turn"] ["_law_world_here", "_law_one", "_law_many"] (defScope st_law_turned) := ⟨rfl, rfl, rfl, by decide +kernel, rfl, by decide +kernel, by decide +kernel⟩
theorem ok_law_turned {P : Program} {w : World} {K : PySem.W.Frag} {mg : Str → Option Value} {base : Heap} {C : Addr} (T : Tx K mg C)  {f : Addr} {fd : FuncData} (F : Fn K "_law_turned" st_law_turned f fd) : FnOk P w K mg base CX0 1 f fd ["_law_world_here", "_law_one", "_law_many"] (spF C S.law_turned) := by
  refine F.ok sc__law_turned (fun vs H Q E h => spF_len h) (fun cdv A outer s H vs Q E hr h => ?_)
  exact ⟨_, PSs.nox (pss_cons (ps_for PassesOwn.never rfl (pi_range1 rfl T.f_range (pa_cons (pe_op op_mod (pe_callTy call_int1 (by rfl) T.f_int bt_int (pa_cons (pv 2) pa_nil)) (pe_ix ix_list (pv 0) pe_int (fun _ _ => rfl))) pa_nil)) (pg_name (i := 3) sc__law_turned.nd rfl (by first | exact .inl rfl | exact .inr rfl))
  (pss_one (ps_set (i := 1) sc__law_turned.nd rfl (by first | exact .inl rfl | exact .inr rfl) (pe_ix ix_list (pe_ix ix_list (pv 0) pe_int (fun _ _ => rfl)) (pv 1) (fun _ _ => rfl)))))
  (pss_one (ps_ret (pv 1)))),
    body_ok (W := []) (b := S.b_law_turned) (np := 3) (ns := 1) (s_seq (s_for (i_range1 (x_i2 ir_mod (x_toInt x_varw) (x_ixL x_varw x_int))) (g_name (by decide))
  (s_asg (x_ixL (x_ixL (x_var (by decide)) x_int) x_varw) (g_name (by decide))))
  (s_ret x_varw)) (by decide) rfl h⟩
abbrev st_law_trim : Stmt := topS 97
theorem sc__law_trim : FnScope ["_law_turner", "_law_found"] ["_law_turner"] (defScope st_law_trim) := ⟨rfl, rfl, rfl, by decide +kernel, rfl, by decide +kernel, by decide +kernel⟩
theorem ok_law_trim {P : Program} {w : World} {K : PySem.W.Frag} {mg : Str → Option Value} {base : Heap} {C : Addr} (T : Tx K mg C)  {f : Addr} {fd : FuncData} (F : Fn K "_law_trim" st_law_trim f fd) : FnOk P w K mg base CX0 1 f fd ["_law_turner"] (spF C S.law_trim) := by
  refine F.ok sc__law_trim (fun vs H Q E h => spF_len h) (fun cdv A outer s H vs Q E hr h => ?_)
  exact ⟨_, PSs.nox (pss_cons (ps_set (i := 1) sc__law_trim.nd rfl (by first | exact .inl rfl | exact .inr rfl) (pe_callTy call_list_of (by rfl) T.f_list bt_list (pa_cons (pv 0) pa_nil)))
  (pss_cons (ps_while PassesOwn.never (PW.pt (pw_and (pt_cmpR (op_neD hr.units) (pv 1) (pe_lst pa_nil) (nomark _)) (pw_and1 (pt_cmpR op_eq (pe_ix ix_list (pv 1) (pe_un un_neg pe_int) (fun _ _ => rfl)) pe_int (nomark _))))) (pss_one (ps_expr (pe_bm0 PySem.F.plainAttrs_list PySem.F.slot_list_pop PySem.F.type_list_pop mt_pop (pv 1)))))
  (pss_one (ps_ret (pv 1))))),
    body_ok (W := [1]) (b := S.b_law_trim) (np := 1) (ns := 1) (s_seq (s_asgF (by decide) (x_list (x_var (by decide))))
  (s_seq (s_while (t_and (t_test (x_neD x_varw (x_of_f (x_lst a_nil (Few.ok .nil))))) (t_test (x_i2 ir_eq (x_ixL x_varw (x_neg x_int)) x_int))) (s_pop (by decide)))
  (s_ret x_varw))) (by decide) rfl h⟩
abbrev st_law_put : Stmt := topS 98
theorem sc__law_put : FnScope ["_law_world_here", "_law_one", "_law_other", "_law_found", "_law_at", "_law_near", "_law_to", "_law_far", "_law_part"] ["_law_world_here", "_law_one", "_law_other"] (defScope st_law_put) := ⟨rfl, rfl, rfl, by decide +kernel, rfl, by decide +kernel, by decide +kernel⟩
theorem ok_law_put {P : Program} {w : World} {K : PySem.W.Frag} {mg : Str → Option Value} {base : Heap} {C : Addr} (T : Tx K mg C) (k_law_trim : Kn P w K mg base "_law_trim" 1 ["_law_turner"] (spF C S.law_trim)) (k_law_turned : Kn P w K mg base "_law_turned" 1 ["_law_world_here", "_law_one", "_law_many"] (spF C S.law_turned)) {f : Addr} {fd : FuncData} (F : Fn K "_law_put" st_law_put f fd) : FnOk P w K mg base CX0 2 f fd ["_law_world_here", "_law_one", "_law_other"] (spF C S.law_put) := by
  refine F.ok sc__law_put (fun vs H Q E h => spF_len h) (fun cdv A outer s H vs Q E hr h => ?_)
  exact ⟨_, PSs.nox (pss_cons (ps_set (i := 3) sc__law_put.nd rfl (by first | exact .inl rfl | exact .inr rfl) (pe_op op_rep (pe_lst (pa_cons pe_int pa_nil)) (pe_callB (call_max2 rfl) (by rfl) T.f_max bt_max (pa_cons pe_int (pa_cons (pe_op op_sub (pe_op op_add (pe_callB call_len_seq (by rfl) T.f_len bt_len (pa_cons (pv 1) pa_nil)) (pe_callB call_len_seq (by rfl) T.f_len bt_len (pa_cons (pv 2) pa_nil))) pe_int) pa_nil)))))
  (pss_cons (ps_for PassesOwn.never rfl (pi_enum (by rfl) T.f_enumerate (pa_cons (pv 1) pa_nil)) (pg_tup rfl (pgs_cons (pg_name (i := 4) sc__law_put.nd rfl (by first | exact .inl rfl | exact .inr rfl)) (pgs_cons (pg_name (i := 5) sc__law_put.nd rfl (by first | exact .inl rfl | exact .inr rfl)) pgs_nil)))
  (pss_one (ps_for PassesOwn.never rfl (pi_enum (by rfl) T.f_enumerate (pa_cons (pv 2) pa_nil)) (pg_tup rfl (pgs_cons (pg_name (i := 6) sc__law_put.nd rfl (by first | exact .inl rfl | exact .inr rfl)) (pgs_cons (pg_name (i := 7) sc__law_put.nd rfl (by first | exact .inl rfl | exact .inr rfl)) pgs_nil)))
  (pss_cons (ps_set (i := 8) sc__law_put.nd rfl (by first | exact .inl rfl | exact .inr rfl) (pe_ix ix_list (pe_ix ix_list (pe_ix ix_list (pv 0) pe_int (fun _ _ => rfl)) (pv 5) (fun _ _ => rfl)) (pe_kn k_law_turned (hr.mono (by decide)) rfl (pa_cons (pv 0) (pa_cons (pv 7) (pa_cons (pv 4) pa_nil)))) (fun _ _ => rfl)))
  (pss_one (ps_asg (pe_ix ix_list (pe_ix ix_list (pe_ix ix_list (pv 0) pe_int (fun _ _ => rfl)) (pe_ix ix_list (pv 3) (pe_op op_add (pv 4) (pv 6)) (fun _ _ => rfl)) (fun _ _ => rfl)) (pv 8) (fun _ _ => rfl)) (pg_sub (pv 3) (pe_op op_add (pv 4) (pv 6)) set_list)))))))
  (pss_one (ps_ret (pe_kn k_law_trim (hr.mono (by decide)) rfl (pa_cons (pv 3) pa_nil)))))),
    body_ok (W := [3]) (b := S.b_law_put) (np := 3) (ns := 6) (s_seq (s_asgF (by decide) (x_rep (x_of_f (x_lst (a_cons x_int a_nil) (Few.ok (.cons .nil)))) (x_max2 x_int (x_i2 ir_sub (x_i2 ir_add (x_len x_varw) (x_len x_varw)) x_int))))
  (s_seq (s_for (i_enum (x_var (by decide))) (g_tup (by decide) (by decide))
  (s_for (i_enum (x_var (by decide))) (g_tup (by decide) (by decide))
  (s_seq (s_asg (x_ixL (x_ixL (x_ixL (x_var (by decide)) x_int) x_varw) (x_call (a_cons x_varw (a_cons x_varw (a_cons x_varw a_nil))))) (g_name (by decide)))
  (s_set (by decide) (x_i2 ir_add x_varw x_varw) (x_ixL (x_ixL (x_ixL (x_var (by decide)) x_int) (x_ixL x_varw (x_i2 ir_add x_varw x_varw))) x_varw)))))
  (s_ret (x_call (a_cons x_varw a_nil))))) (by decide) rfl h⟩
abbrev st_law_line : Stmt := topS 99
theorem sc__law_line : FnScope ["_law_world_here", "_law_one"] ["_law_world_here", "_law_one"] (defScope st_law_line) := ⟨rfl, rfl, rfl, by decide +kernel, rfl, by decide +kernel, by decide +kernel⟩
theorem ok_law_line {P : Program} {w : World} {K : PySem.W.Frag} {mg : Str → Option Value} {base : Heap} {C : Addr} (T : Tx K mg C)  {f : Addr} {fd : FuncData} (F : Fn K "_law_line" st_law_line f fd) : FnOk P w K mg base CX0 1 f fd ["_law_world_here", "_law_one"] (spF C S.law_line) := by
  refine F.ok sc__law_line (fun vs H Q E h => spF_len h) (fun cdv A outer s H vs Q E hr h => ?_)
  exact ⟨_, PSs.nox (pss_one (ps_ret (pe_lst (pa_cons (pe_ix ix_list (pe_ix ix_list (pv 0) pe_int (fun _ _ => rfl)) (pv 1) (fun _ _ => rfl)) (pa_cons pe_int pa_nil))))),
    body_ok (W := []) (b := S.b_law_line) (np := 2) (ns := 0) (s_ret (x_of_f (x_lst (a_cons (x_ixL (x_ixL x_varw x_int) x_varw) (a_cons x_int a_nil)) (Few.ok (.cons (.cons .nil)))))) (by decide) rfl h⟩
abbrev st_law_led : Stmt := topS 103
theorem sc__law_led : FnScope ["_law_world_here", "_law_one", "_law_leader", "_law_turn"] ["_law_world_here", "_law_one", "_law_leader"] (defScope st_law_led) := ⟨rfl, rfl, rfl, by decide +kernel, rfl, by decide +kernel, by decide +kernel⟩
theorem ok_law_led {P : Program} {w : World} {K : PySem.W.Frag} {mg : Str → Option Value} {base : Heap} {C : Addr} (T : Tx K mg C)  {f : Addr} {fd : FuncData} (F : Fn K "_law_led" st_law_led f fd) : FnOk P w K mg base CX0 1 f fd ["_law_world_here", "_law_one", "_law_leader"] (spF C S.law_led) := by
  refine F.ok sc__law_led (fun vs H Q E h => spF_len h) (fun cdv A outer s H vs Q E hr h => ?_)
  exact ⟨_, PSs.nox (pss_cons (ps_for PassesOwn.never rfl (pi_range1 rfl T.f_range (pa_cons (pe_op op_sub (pe_ix ix_list (pv 0) pe_int (fun _ _ => rfl)) pe_int) pa_nil)) (pg_name (i := 3) sc__law_led.nd rfl (by first | exact .inl rfl | exact .inr rfl))
  (pss_one (ps_set (i := 1) sc__law_led.nd rfl (by first | exact .inl rfl | exact .inr rfl) (pe_ix ix_list (pe_ix ix_list (pe_ix ix_list (pv 0) pe_int (fun _ _ => rfl)) (pv 1) (fun _ _ => rfl)) (pv 2) (fun _ _ => rfl)))))
  (pss_one (ps_ret (pv 1)))),
    body_ok (W := []) (b := S.b_law_led) (np := 3) (ns := 1) (s_seq (s_for (i_range1 (x_i2 ir_sub (x_ixL x_varw x_int) x_int)) (g_name (by decide))
  (s_asg (x_ixL (x_ixL (x_ixL (x_var (by decide)) x_int) x_varw) x_varw) (g_name (by decide))))
  (s_ret x_varw)) (by decide) rfl h⟩
abbrev st_law_sorts : Stmt := topS 104
theorem sc__law_sorts : FnScope ["_law_field", "_law_way", "_law_one"] ["_law_field", "_law_way"] (defScope st_law_sorts) := ⟨rfl, rfl, rfl, by decide +kernel, rfl, by decide +kernel, by decide +kernel⟩
theorem ok_law_sorts {P : Program} {w : World} {K : PySem.W.Frag} {mg : Str → Option Value} {base : Heap} {C : Addr} (T : Tx K mg C) (k_norm : Kn P w K mg base "norm" 5 ["field", "one"] (spF C S.norm)) {f : Addr} {fd : FuncData} (F : Fn K "_law_sorts" st_law_sorts f fd) : FnOk P w K mg base CX0 6 f fd ["_law_field", "_law_way"] (spF C S.law_sorts) := by
  refine F.ok sc__law_sorts (fun vs H Q E h => spF_len h) (fun cdv A outer s H vs Q E hr h => ?_)
  exact ⟨_, PSs.nox (pss_one (ps_ret (pe_callB cr_sortedI (by rfl) T.f_sorted bt_sorted (pa_cons (pe_lc (own := [("_law_one", 2)]) rfl sc__law_sorts.nd (pi_list (pv 1)) (blkOk_by (by kernel_rfl)) (fun _ _ _ _ _ => (pg_name (i := 2) sc__law_sorts.nd rfl (by first | exact .inl rfl | exact .inr rfl))) (fun _ _ _ _ _ => pts_nil) (fun _ _ _ _ _ => (pe_ifExp (pt_cmpR op_ne (pv 2) pe_int (nomark _)) (pe_kn k_norm (hr.mono (by decide)) rfl (pa_cons (pv 0) (pa_cons (pv 2) pa_nil))) pe_int))) pa_nil)))),
    body_ok (W := []) (b := S.b_law_sorts) (np := 2) (ns := 1) (s_ret (x_of_f (x_sortI (x_of_f (f_weak (x_lc (i_list (x_var (by decide))) (g_name (by decide)) (by decide) t_yes (x_if (t_test (x_i2 ir_ne x_varw x_int)) (x_call (a_cons (x_var (by decide)) (a_cons (x_var (by decide)) a_nil))) x_int))))))) (by decide) rfl h⟩
abbrev st_law_back : Stmt := topS 108
theorem sc__law_back : FnScope ["_law_world_here", "_law_one", "_law_leader"] ["_law_world_here", "_law_one", "_law_leader"] (defScope st_law_back) := ⟨rfl, rfl, rfl, by decide +kernel, rfl, by decide +kernel, by decide +kernel⟩
theorem ok_law_back {P : Program} {w : World} {K : PySem.W.Frag} {mg : Str → Option Value} {base : Heap} {C : Addr} (T : Tx K mg C) (k_law_led : Kn P w K mg base "_law_led" 1 ["_law_world_here", "_law_one", "_law_leader"] (spF C S.law_led)) {f : Addr} {fd : FuncData} (F : Fn K "_law_back" st_law_back f fd) : FnOk P w K mg base CX0 2 f fd ["_law_world_here", "_law_one", "_law_leader"] (spF C S.law_back) := by
  refine F.ok sc__law_back (fun vs H Q E h => spF_len h) (fun cdv A outer s H vs Q E hr h => ?_)
  exact ⟨_, PSs.nox (pss_one (ps_ret (pe_kn k_law_led (hr.mono (by decide)) rfl (pa_cons (pv 0) (pa_cons (pv 1) (pa_cons (pe_ix ix_list (pe_ix ix_list (pv 0) pe_int (fun _ _ => rfl)) (pv 2) (fun _ _ => rfl)) pa_nil)))))),
    body_ok (W := []) (b := S.b_law_back) (np := 3) (ns := 0) (s_ret (x_call (a_cons x_varw (a_cons x_varw (a_cons (x_ixL (x_ixL x_varw x_int) x_varw) a_nil))))) (by decide) rfl h⟩
structure EV (P : Program) (w : World) (K : PySem.W.Frag) (mg : Str → Option Value) (base : Heap) : Prop where
  h : ∃ hp : Heap, K.In hp ∧ hp.Ns mainGlobals mg
  c : He.SaysD faAll fnAll K
  b : xb K = true
  hall : ∀ p, p ∈ fields5 → S.okField p.1 p.2
theorem kn_of {P : Program} {w : World} {K : PySem.W.Frag} {mg : Str → Option Value} {base : Heap} {x : Str} {k : Nat} {ps : List Str} {sp : Sp} {st : Stmt} (e : ∃ hp : Heap, K.In hp ∧ hp.Ns mainGlobals mg) (hg : (He.Fa.glo x).ok K = true) (hF : ∃ fd, Fn K x st (He.ga K x) fd)
    (hok : ∀ fd, Fn K x st (He.ga K x) fd → FnOk P w K mg base CX0 k (He.ga K x) fd ps sp)
    (hb : ∀ (kV doc pm : Value) (an : Option Addr) (cdv ct : Value) (us : List Value), us.length = ps.length → bindArgs (PySem.W.fnOf x x (defArgs st) (defBody st) (defScope st) .none kV doc pm an cdv ct) ⟨us, []⟩ = pure (ps.zip us)) : Kn P w K mg base x k ps sp := by
  obtain ⟨hp, X, G⟩ := e
  obtain ⟨fd, F⟩ := hF
  exact ⟨⟨_, fd, hok fd F, He.glo_ok X G hg, F.kp, F.bindsN hb⟩⟩
section
variable {P : Program} {w : World} {K : PySem.W.Frag} {mg : Str → Option Value} {base : Heap}
theorem tx_of (E : EV P w K mg base) : Tx K mg (He.ga K "Field") := by
  obtain ⟨hp, X, G⟩ := E.h
  have b := E.b
  unfold xb at b
  simp only [Bool.and_eq_true] at b
  obtain ⟨b1, b2, b3, b4, b5, b6⟩ := b
  exact {
    cl := He.cls_ok (E.c.fact 2 rfl)
    n0 := He.noat_ok (E.c.fact 4 rfl)
    n1 := He.noat_ok (E.c.fact 5 rfl)
    n2 := He.noat_ok (E.c.fact 6 rfl)
    n3 := He.noat_ok (E.c.fact 7 rfl)
    n4 := He.noat_ok (E.c.fact 8 rfl)
    n5 := He.noat_ok (E.c.fact 9 rfl)
    isC := ⟨He.cls_ok (E.c.fact 2 rfl), He.eqO_ok b2, He.eqO_ok b3, of_decide_eq_true b4, of_decide_eq_true b5, of_decide_eq_true b6⟩
    mgC := He.glo_ok X G (E.c.fact 0 rfl)
    sqP := fun H => He.tupB_ok b1 H
    mgP := He.glo_ok X G (E.c.fact 1 rfl)
    c_MOST_SIZE := He.int_ok X G (E.c.fact 10 rfl)
    c_MOST_TURNS := He.int_ok X G (E.c.fact 11 rfl)
    c_MOST_ELEMENTS := He.int_ok X G (E.c.fact 12 rfl)
    c_MOST_DEGREE_turners := He.int_ok X G (E.c.fact 13 rfl)
    c_MOST_DEGREE_ways := He.int_ok X G (E.c.fact 14 rfl)
    c_MOST_WAYS := He.int_ok X G (E.c.fact 15 rfl)
    f_len := He.free_ok X G (E.c.fact 16 rfl)
    f_max := He.free_ok X G (E.c.fact 17 rfl)
    f_list := He.free_ok X G (E.c.fact 18 rfl)
    f_tuple := He.free_ok X G (E.c.fact 19 rfl)
    f_int := He.free_ok X G (E.c.fact 20 rfl)
    f_bool := He.free_ok X G (E.c.fact 21 rfl)
    f_all := He.free_ok X G (E.c.fact 22 rfl)
    f_sum := He.free_ok X G (E.c.fact 23 rfl)
    f_sorted := He.free_ok X G (E.c.fact 24 rfl)
    f_isinstance := He.free_ok X G (E.c.fact 25 rfl)
    f_divmod := He.free_ok X G (E.c.fact 26 rfl)
    f_abs := He.free_ok X G (E.c.fact 27 rfl)
    f_zip := He.free_ok X G (E.c.fact 28 rfl)
    f_enumerate := He.free_ok X G (E.c.fact 29 rfl)
    f_range := He.free_ok X G (E.c.fact 30 rfl) }
theorem kn_is_integer (E : EV P w K mg base) : Kn P w K mg base "is_integer" 1 ["value"] (spF (He.ga K "Field") S.is_integer) := kn_of (st := topS 13) E.h (E.c.fact 31 rfl) (E.c.def_ 1 (d := dd "is_integer" 13) rfl) (fun fd F => ok_is_integer (tx_of E) F) (fun _ _ _ _ _ _ us hl => match us, hl with | [_], _ => rfl)
theorem kn_is_count (E : EV P w K mg base) : Kn P w K mg base "is_count" 2 ["value"] (spF (He.ga K "Field") S.is_count) := kn_of (st := topS 14) E.h (E.c.fact 32 rfl) (E.c.def_ 2 (d := dd "is_count" 14) rfl) (fun fd F => ok_is_count (tx_of E) (kn_is_integer E) F) (fun _ _ _ _ _ _ us hl => match us, hl with | [_], _ => rfl)
theorem kn_is_list (E : EV P w K mg base) : Kn P w K mg base "is_list" 1 ["value"] (spF (He.ga K "Field") S.is_list) := kn_of (st := topS 15) E.h (E.c.fact 33 rfl) (E.c.def_ 3 (d := dd "is_list" 15) rfl) (fun fd F => ok_is_list (tx_of E) F) (fun _ _ _ _ _ _ us hl => match us, hl with | [_], _ => rfl)
theorem kn_want_at_most (E : EV P w K mg base) : Kn P w K mg base "want_at_most" 1 ["what", "limit", "number"] (spF (He.ga K "Field") S.want_at_most) := kn_of (st := topS 16) E.h (E.c.fact 34 rfl) (E.c.def_ 4 (d := dd "want_at_most" 16) rfl) (fun fd F => ok_want_at_most (tx_of E) F) (fun _ _ _ _ _ _ us hl => match us, hl with | [_, _, _], _ => rfl)
theorem kn_without_end (E : EV P w K mg base) : Kn P w K mg base "without_end" 1 ["numbers"] (spN (He.ga K "Field") S.without_end) := kn_of (st := topS 21) E.h (E.c.fact 35 rfl) (E.c.def_ 5 (d := dd "without_end" 21) rfl) (fun fd F => ok_without_end (tx_of E) F) (fun _ _ _ _ _ _ us hl => match us, hl with | [_], _ => rfl)
theorem kn_undone_by (E : EV P w K mg base) : Kn P w K mg base "undone_by" 1 ["prime", "number"] (spF (He.ga K "Field") S.undone_by) := kn_of (st := topS 23) E.h (E.c.fact 37 rfl) (E.c.def_ 7 (d := dd "undone_by" 23) rfl) (fun fd F => ok_undone_by (tx_of E) F) (fun _ _ _ _ _ _ us hl => match us, hl with | [_, _], _ => rfl)
theorem kn_poly_rest (E : EV P w K mg base) : Kn P w K mg base "poly_rest" 2 ["prime", "poly", "other"] (spF (He.ga K "Field") S.poly_rest) := kn_of (st := topS 22) E.h (E.c.fact 36 rfl) (E.c.def_ 6 (d := dd "poly_rest" 22) rfl) (fun fd F => ok_poly_rest (tx_of E) (kn_undone_by E) (kn_without_end E) F) (fun _ _ _ _ _ _ us hl => match us, hl with | [_, _, _], _ => rfl)
theorem kn_poly_times (E : EV P w K mg base) : Kn P w K mg base "poly_times" 3 ["prime", "one", "other", "modulus"] (spF (He.ga K "Field") S.poly_times) := kn_of (st := topS 24) E.h (E.c.fact 38 rfl) (E.c.def_ 8 (d := dd "poly_times" 24) rfl) (fun fd F => ok_poly_times (tx_of E) (kn_poly_rest E) F) (fun _ _ _ _ _ _ us hl => match us, hl with | [_, _, _, _], _ => rfl)
theorem kn_poly_less (E : EV P w K mg base) : Kn P w K mg base "poly_less" 2 ["prime", "one", "other"] (spF (He.ga K "Field") S.poly_less) := kn_of (st := topS 25) E.h (E.c.fact 39 rfl) (E.c.def_ 9 (d := dd "poly_less" 25) rfl) (fun fd F => ok_poly_less (tx_of E) (kn_without_end E) F) (fun _ _ _ _ _ _ us hl => match us, hl with | [_, _, _], _ => rfl)
theorem kn_are_apart (E : EV P w K mg base) : Kn P w K mg base "are_apart" 3 ["prime", "one", "other"] (spF (He.ga K "Field") S.are_apart) := kn_of (st := topS 26) E.h (E.c.fact 40 rfl) (E.c.def_ 10 (d := dd "are_apart" 26) rfl) (fun fd F => ok_are_apart (tx_of E) (kn_poly_rest E) F) (fun _ _ _ _ _ _ us hl => match us, hl with | [_, _, _], _ => rfl)
theorem kn_letter_turns (E : EV P w K mg base) : Kn P w K mg base "letter_turns" 4 ["prime", "modulus"] (spF (He.ga K "Field") S.letter_turns) := kn_of (st := topS 27) E.h (E.c.fact 41 rfl) (E.c.def_ 11 (d := dd "letter_turns" 27) rfl) (fun fd F => ok_letter_turns (tx_of E) (kn_poly_rest E) (kn_poly_times E) F) (fun _ _ _ _ _ _ us hl => match us, hl with | [_, _], _ => rfl)
theorem kn_is_prime (E : EV P w K mg base) : Kn P w K mg base "is_prime" 1 ["number"] (spF (He.ga K "Field") S.is_prime) := kn_of (st := topS 29) E.h (E.c.fact 43 rfl) (E.c.def_ 13 (d := dd "is_prime" 29) rfl) (fun fd F => ok_is_prime (tx_of E) F) (fun _ _ _ _ _ _ us hl => match us, hl with | [_], _ => rfl)
theorem kn_is_single (E : EV P w K mg base) : Kn P w K mg base "is_single" 5 ["prime", "modulus"] (spF (He.ga K "Field") S.is_single) := kn_of (st := topS 28) E.h (E.c.fact 42 rfl) (E.c.def_ 12 (d := dd "is_single" 28) rfl) (fun fd F => ok_is_single (tx_of E) (kn_are_apart E) (kn_is_prime E) (kn_letter_turns E) (kn_poly_less E) F) (fun _ _ _ _ _ _ us hl => match us, hl with | [_, _], _ => rfl)
theorem kn_want_prime (E : EV P w K mg base) : Kn P w K mg base "want_prime" 3 ["prime"] (spF (He.ga K "Field") S.want_prime) := kn_of (st := topS 30) E.h (E.c.fact 44 rfl) (E.c.def_ 14 (d := dd "want_prime" 30) rfl) (fun fd F => ok_want_prime (tx_of E) (kn_is_count E) F) (fun _ _ _ _ _ _ us hl => match us, hl with | [_], _ => rfl)
theorem kn_is_figures (E : EV P w K mg base) : Kn P w K mg base "is_figures" 3 ["prime", "value", "many"] (spF (He.ga K "Field") S.is_figures) := kn_of (st := topS 31) E.h (E.c.fact 45 rfl) (E.c.def_ 15 (d := dd "is_figures" 31) rfl) (fun fd F => ok_is_figures (tx_of E) (kn_is_count E) (kn_is_list E) F) (fun _ _ _ _ _ _ us hl => match us, hl with | [_, _, _], _ => rfl)
theorem kn_is_right (E : EV P w K mg base) : Kn P w K mg base "is_right" 6 ["prime", "value"] (spF (He.ga K "Field") S.is_right) := kn_of (st := topS 32) E.h (E.c.fact 46 rfl) (E.c.def_ 16 (d := dd "is_right" 32) rfl) (fun fd F => ok_is_right (tx_of E) (kn_is_figures E) (kn_is_list E) (kn_is_single E) F) (fun _ _ _ _ _ _ us hl => match us, hl with | [_, _], _ => rfl)
theorem kn_told_number (E : EV P w K mg base) : Kn P w K mg base "told_number" 1 ["prime", "poly"] (spF (He.ga K "Field") S.told_number) := kn_of (st := topS 33) E.h (E.c.fact 47 rfl) (E.c.def_ 17 (d := dd "told_number" 33) rfl) (fun fd F => ok_told_number (tx_of E) F) (fun _ _ _ _ _ _ us hl => match us, hl with | [_, _], _ => rfl)
theorem kn_poly_of (E : EV P w K mg base) : Kn P w K mg base "poly_of" 1 ["prime", "number"] (spF (He.ga K "Field") S.poly_of) := kn_of (st := topS 34) E.h (E.c.fact 48 rfl) (E.c.def_ 18 (d := dd "poly_of" 34) rfl) (fun fd F => ok_poly_of (tx_of E) F) (fun _ _ _ _ _ _ us hl => match us, hl with | [_, _], _ => rfl)
theorem kn_powers_by (E : EV P w K mg base) : Kn P w K mg base "powers_by" 4 ["prime", "modulus", "number"] (spF (He.ga K "Field") S.powers_by) := kn_of (st := topS 35) E.h (E.c.fact 49 rfl) (E.c.def_ 19 (d := dd "powers_by" 35) rfl) (fun fd F => ok_powers_by (tx_of E) (kn_poly_of E) (kn_poly_times E) (kn_told_number E) F) (fun _ _ _ _ _ _ us hl => match us, hl with | [_, _, _], _ => rfl)
theorem kn_all_powers (E : EV P w K mg base) : Kn P w K mg base "all_powers" 5 ["prime", "modulus", "size"] (spF (He.ga K "Field") S.all_powers) := kn_of (st := topS 36) E.h (E.c.fact 50 rfl) (E.c.def_ 20 (d := dd "all_powers" 36) rfl) (fun fd F => ok_all_powers (tx_of E) (kn_powers_by E) F) (fun _ _ _ _ _ _ us hl => match us, hl with | [_, _, _], _ => rfl)
theorem kn_logs_by (E : EV P w K mg base) : Kn P w K mg base "logs_by" 1 ["powers", "size"] (spF (He.ga K "Field") S.logs_by) := kn_of (st := topS 37) E.h (E.c.fact 51 rfl) (E.c.def_ 21 (d := dd "logs_by" 37) rfl) (fun fd F => ok_logs_by (tx_of E) F) (fun _ _ _ _ _ _ us hl => match us, hl with | [_, _], _ => rfl)
theorem kn_sized (E : EV P w K mg base) : Kn P w K mg base "sized" 1 ["prime", "many"] (spF (He.ga K "Field") S.sized) := kn_of (st := topS 38) E.h (E.c.fact 52 rfl) (E.c.def_ 22 (d := dd "sized" 38) rfl) (fun fd F => ok_sized (tx_of E) F) (fun _ _ _ _ _ _ us hl => match us, hl with | [_, _], _ => rfl)
theorem kn_want_field (E : EV P w K mg base) : Kn P w K mg base "want_field" 1 ["value"] (spF (He.ga K "Field") S.want_field) := kn_of (st := topS 40) E.h (E.c.fact 53 rfl) (E.c.def_ 23 (d := dd "want_field" 40) rfl) (fun fd F => ok_want_field (tx_of E) F) (fun _ _ _ _ _ _ us hl => match us, hl with | [_], _ => rfl)
theorem kn_figures_of (E : EV P w K mg base) : Kn P w K mg base "figures_of" 1 ["field", "one"] (spF (He.ga K "Field") S.figures_of) := kn_of (st := topS 42) E.h (E.c.fact 54 rfl) (E.c.def_ 24 (d := dd "figures_of" 42) rfl) (fun fd F => ok_figures_of (tx_of E) F) (fun _ _ _ _ _ _ us hl => match us, hl with | [_, _], _ => rfl)
theorem kn_by_figures_of (E : EV P w K mg base) : Kn P w K mg base "by_figures_of" 1 ["field", "row"] (spF (He.ga K "Field") S.by_figures_of) := kn_of (st := topS 43) E.h (E.c.fact 55 rfl) (E.c.def_ 25 (d := dd "by_figures_of" 43) rfl) (fun fd F => ok_by_figures_of (tx_of E) F) (fun _ _ _ _ _ _ us hl => match us, hl with | [_, _], _ => rfl)
theorem kn_plus_of (E : EV P w K mg base) : Kn P w K mg base "plus_of" 2 ["field", "one", "other"] (spF (He.ga K "Field") S.plus_of) := kn_of (st := topS 44) E.h (E.c.fact 56 rfl) (E.c.def_ 26 (d := dd "plus_of" 44) rfl) (fun fd F => ok_plus_of (tx_of E) (kn_by_figures_of E) (kn_figures_of E) F) (fun _ _ _ _ _ _ us hl => match us, hl with | [_, _, _], _ => rfl)
theorem kn_minus_of (E : EV P w K mg base) : Kn P w K mg base "minus_of" 2 ["field", "one", "other"] (spF (He.ga K "Field") S.minus_of) := kn_of (st := topS 45) E.h (E.c.fact 57 rfl) (E.c.def_ 27 (d := dd "minus_of" 45) rfl) (fun fd F => ok_minus_of (tx_of E) (kn_by_figures_of E) (kn_figures_of E) F) (fun _ _ _ _ _ _ us hl => match us, hl with | [_, _, _], _ => rfl)
theorem kn_times_of (E : EV P w K mg base) : Kn P w K mg base "times_of" 1 ["field", "one", "other"] (spF (He.ga K "Field") S.times_of) := kn_of (st := topS 46) E.h (E.c.fact 58 rfl) (E.c.def_ 28 (d := dd "times_of" 46) rfl) (fun fd F => ok_times_of (tx_of E) F) (fun _ _ _ _ _ _ us hl => match us, hl with | [_, _, _], _ => rfl)
theorem kn_over_of (E : EV P w K mg base) : Kn P w K mg base "over_of" 1 ["field", "one", "other"] (spF (He.ga K "Field") S.over_of) := kn_of (st := topS 47) E.h (E.c.fact 59 rfl) (E.c.def_ 29 (d := dd "over_of" 47) rfl) (fun fd F => ok_over_of (tx_of E) F) (fun _ _ _ _ _ _ us hl => match us, hl with | [_, _, _], _ => rfl)
theorem kn_power_of (E : EV P w K mg base) : Kn P w K mg base "power_of" 1 ["field", "one", "many"] (spF (He.ga K "Field") S.power_of) := kn_of (st := topS 48) E.h (E.c.fact 60 rfl) (E.c.def_ 30 (d := dd "power_of" 48) rfl) (fun fd F => ok_power_of (tx_of E) F) (fun _ _ _ _ _ _ us hl => match us, hl with | [_, _, _], _ => rfl)
theorem kn_turned_of (E : EV P w K mg base) : Kn P w K mg base "turned_of" 2 ["field", "one", "many"] (spF (He.ga K "Field") S.turned_of) := kn_of (st := topS 49) E.h (E.c.fact 61 rfl) (E.c.def_ 31 (d := dd "turned_of" 49) rfl) (fun fd F => ok_turned_of (tx_of E) (kn_power_of E) F) (fun _ _ _ _ _ _ us hl => match us, hl with | [_, _, _], _ => rfl)
theorem kn_norm_of (E : EV P w K mg base) : Kn P w K mg base "norm_of" 3 ["field", "one"] (spF (He.ga K "Field") S.norm_of) := kn_of (st := topS 50) E.h (E.c.fact 62 rfl) (E.c.def_ 32 (d := dd "norm_of" 50) rfl) (fun fd F => ok_norm_of (tx_of E) (kn_times_of E) (kn_turned_of E) F) (fun _ _ _ _ _ _ us hl => match us, hl with | [_, _], _ => rfl)
theorem kn_is_in (E : EV P w K mg base) : Kn P w K mg base "is_in" 3 ["field", "value"] (spF (He.ga K "Field") S.is_in) := kn_of (st := topS 51) E.h (E.c.fact 63 rfl) (E.c.def_ 33 (d := dd "is_in" 51) rfl) (fun fd F => ok_is_in (tx_of E) (kn_is_count E) F) (fun _ _ _ _ _ _ us hl => match us, hl with | [_, _], _ => rfl)
theorem kn_want_element (E : EV P w K mg base) : Kn P w K mg base "want_element" 4 ["field", "value"] (spF (He.ga K "Field") S.want_element) := kn_of (st := topS 52) E.h (E.c.fact 64 rfl) (E.c.def_ 34 (d := dd "want_element" 52) rfl) (fun fd F => ok_want_element (tx_of E) (kn_is_in E) F) (fun _ _ _ _ _ _ us hl => match us, hl with | [_, _], _ => rfl)
theorem kn_norm (E : EV P w K mg base) : Kn P w K mg base "norm" 5 ["field", "one"] (spF (He.ga K "Field") S.norm) := kn_of (st := topS 53) E.h (E.c.fact 65 rfl) (E.c.def_ 35 (d := dd "norm" 53) rfl) (fun fd F => ok_norm (tx_of E) (kn_norm_of E) (kn_want_element E) (kn_want_field E) F) (fun _ _ _ _ _ _ us hl => match us, hl with | [_, _], _ => rfl)
theorem kn_told_of (E : EV P w K mg base) : Kn P w K mg base "told_of" 1 ["numbers"] (spF (He.ga K "Field") S.told_of) := kn_of (st := topS 57) E.h (E.c.fact 66 rfl) (E.c.def_ 36 (d := dd "told_of" 57) rfl) (fun fd F => ok_told_of (tx_of E) F) (fun _ _ _ _ _ _ us hl => match us, hl with | [_], _ => rfl)
theorem kn_is_sum (E : EV P w K mg base) : Kn P w K mg base "is_sum" 4 ["field", "value"] (spF (He.ga K "Field") S.is_sum) := kn_of (st := topS 58) E.h (E.c.fact 67 rfl) (E.c.def_ 37 (d := dd "is_sum" 58) rfl) (fun fd F => ok_is_sum (tx_of E) (kn_is_in E) (kn_is_list E) F) (fun _ _ _ _ _ _ us hl => match us, hl with | [_, _], _ => rfl)
theorem kn_want_turner (E : EV P w K mg base) : Kn P w K mg base "want_turner" 5 ["field", "value"] (spF (He.ga K "Field") S.want_turner) := kn_of (st := topS 59) E.h (E.c.fact 68 rfl) (E.c.def_ 38 (d := dd "want_turner" 59) rfl) (fun fd F => ok_want_turner (tx_of E) (kn_is_sum E) (kn_told_of E) F) (fun _ _ _ _ _ _ us hl => match us, hl with | [_, _], _ => rfl)
theorem kn_sum_turners (E : EV P w K mg base) : Kn P w K mg base "sum_turners" 3 ["field", "one", "other"] (spF (He.ga K "Field") S.sum_turners) := kn_of (st := topS 60) E.h (E.c.fact 69 rfl) (E.c.def_ 39 (d := dd "sum_turners" 60) rfl) (fun fd F => ok_sum_turners (tx_of E) (kn_plus_of E) (kn_told_of E) F) (fun _ _ _ _ _ _ us hl => match us, hl with | [_, _, _], _ => rfl)
theorem kn_less_turners (E : EV P w K mg base) : Kn P w K mg base "less_turners" 4 ["field", "one", "other"] (spF (He.ga K "Field") S.less_turners) := kn_of (st := topS 61) E.h (E.c.fact 70 rfl) (E.c.def_ 40 (d := dd "less_turners" 61) rfl) (fun fd F => ok_less_turners (tx_of E) (kn_minus_of E) (kn_sum_turners E) F) (fun _ _ _ _ _ _ us hl => match us, hl with | [_, _, _], _ => rfl)
theorem kn_put_turners (E : EV P w K mg base) : Kn P w K mg base "put_turners" 3 ["field", "one", "other"] (spF (He.ga K "Field") S.put_turners) := kn_of (st := topS 62) E.h (E.c.fact 71 rfl) (E.c.def_ 41 (d := dd "put_turners" 62) rfl) (fun fd F => ok_put_turners (tx_of E) (kn_plus_of E) (kn_times_of E) (kn_told_of E) (kn_turned_of E) F) (fun _ _ _ _ _ _ us hl => match us, hl with | [_, _, _], _ => rfl)
theorem kn_told (E : EV P w K mg base) : Kn P w K mg base "told" 6 ["field", "turner"] (spF (He.ga K "Field") S.told) := kn_of (st := topS 63) E.h (E.c.fact 72 rfl) (E.c.def_ 42 (d := dd "told" 63) rfl) (fun fd F => ok_told (tx_of E) (kn_want_field E) (kn_want_turner E) F) (fun _ _ _ _ _ _ us hl => match us, hl with | [_, _], _ => rfl)
theorem kn_two_turners (E : EV P w K mg base) : Kn P w K mg base "two_turners" 6 ["field", "turner", "other"] (spF (He.ga K "Field") S.two_turners) := kn_of (st := topS 64) E.h (E.c.fact 73 rfl) (E.c.def_ 43 (d := dd "two_turners" 64) rfl) (fun fd F => ok_two_turners (tx_of E) (kn_want_field E) (kn_want_turner E) F) (fun _ _ _ _ _ _ us hl => match us, hl with | [_, _, _], _ => rfl)
theorem kn_put (E : EV P w K mg base) : Kn P w K mg base "put" 7 ["field", "turner", "other"] (spF (He.ga K "Field") S.put) := kn_of (st := topS 65) E.h (E.c.fact 74 rfl) (E.c.def_ 44 (d := dd "put" 65) rfl) (fun fd F => ok_put (tx_of E) (kn_put_turners E) (kn_two_turners E) (kn_want_at_most E) F) (fun _ _ _ _ _ _ us hl => match us, hl with | [_, _, _], _ => rfl)
theorem kn_inner_parts (E : EV P w K mg base) : Kn P w K mg base "inner_parts" 5 ["field", "one", "other"] (spF (He.ga K "Field") S.inner_parts) := kn_of (st := topS 67) E.h (E.c.fact 75 rfl) (E.c.def_ 45 (d := dd "inner_parts" 67) rfl) (fun fd F => ok_inner_parts (tx_of E) (kn_less_turners E) (kn_over_of E) (kn_times_of E) (kn_turned_of E) F) (fun _ _ _ _ _ _ us hl => match us, hl with | [_, _, _], _ => rfl)
theorem kn_outer_parts (E : EV P w K mg base) : Kn P w K mg base "outer_parts" 5 ["field", "one", "other"] (spF (He.ga K "Field") S.outer_parts) := kn_of (st := topS 68) E.h (E.c.fact 76 rfl) (E.c.def_ 46 (d := dd "outer_parts" 68) rfl) (fun fd F => ok_outer_parts (tx_of E) (kn_less_turners E) (kn_over_of E) (kn_times_of E) (kn_turned_of E) F) (fun _ _ _ _ _ _ us hl => match us, hl with | [_, _, _], _ => rfl)
theorem kn_want_standing (E : EV P w K mg base) : Kn P w K mg base "want_standing" 6 ["field", "value"] (spF (He.ga K "Field") S.want_standing) := kn_of (st := topS 72) E.h (E.c.fact 77 rfl) (E.c.def_ 47 (d := dd "want_standing" 72) rfl) (fun fd F => ok_want_standing (tx_of E) (kn_want_field E) (kn_want_turner E) F) (fun _ _ _ _ _ _ us hl => match us, hl with | [_, _], _ => rfl)
theorem kn_line_of (E : EV P w K mg base) : Kn P w K mg base "line_of" 3 ["field", "one"] (spF (He.ga K "Field") S.line_of) := kn_of (st := topS 73) E.h (E.c.fact 78 rfl) (E.c.def_ 48 (d := dd "line_of" 73) rfl) (fun fd F => ok_line_of (tx_of E) (kn_minus_of E) F) (fun _ _ _ _ _ _ us hl => match us, hl with | [_, _], _ => rfl)
theorem kn_rest_at (E : EV P w K mg base) : Kn P w K mg base "rest_at" 3 ["field", "turner", "one"] (spF (He.ga K "Field") S.rest_at) := kn_of (st := topS 74) E.h (E.c.fact 79 rfl) (E.c.def_ 49 (d := dd "rest_at" 74) rfl) (fun fd F => ok_rest_at (tx_of E) (kn_plus_of E) (kn_times_of E) (kn_turned_of E) F) (fun _ _ _ _ _ _ us hl => match us, hl with | [_, _, _], _ => rfl)
theorem kn_inners_of (E : EV P w K mg base) : Kn P w K mg base "inners_of" 4 ["field", "turner"] (spF (He.ga K "Field") S.inners_of) := kn_of (st := topS 75) E.h (E.c.fact 80 rfl) (E.c.def_ 50 (d := dd "inners_of" 75) rfl) (fun fd F => ok_inners_of (tx_of E) (kn_rest_at E) F) (fun _ _ _ _ _ _ us hl => match us, hl with | [_, _], _ => rfl)
theorem kn_outers_of (E : EV P w K mg base) : Kn P w K mg base "outers_of" 6 ["field", "turner"] (spF (He.ga K "Field") S.outers_of) := kn_of (st := topS 76) E.h (E.c.fact 81 rfl) (E.c.def_ 51 (d := dd "outers_of" 76) rfl) (fun fd F => ok_outers_of (tx_of E) (kn_line_of E) (kn_outer_parts E) F) (fun _ _ _ _ _ _ us hl => match us, hl with | [_, _], _ => rfl)
theorem kn_less_inner (E : EV P w K mg base) : Kn P w K mg base "less_inner" 6 ["field", "turner", "one"] (spF (He.ga K "Field") S.less_inner) := kn_of (st := topS 77) E.h (E.c.fact 82 rfl) (E.c.def_ 52 (d := dd "less_inner" 77) rfl) (fun fd F => ok_less_inner (tx_of E) (kn_inner_parts E) (kn_line_of E) F) (fun _ _ _ _ _ _ us hl => match us, hl with | [_, _, _], _ => rfl)
theorem kn_inner_ones (E : EV P w K mg base) : Kn P w K mg base "inner_ones" 7 ["field", "turner"] (spF (He.ga K "Field") S.inner_ones) := kn_of (st := topS 80) E.h (E.c.fact 85 rfl) (E.c.def_ 55 (d := dd "inner_ones" 80) rfl) (fun fd F => ok_inner_ones (tx_of E) (kn_inners_of E) (kn_want_standing E) F) (fun _ _ _ _ _ _ us hl => match us, hl with | [_, _], _ => rfl)
theorem kn_outer_ones (E : EV P w K mg base) : Kn P w K mg base "outer_ones" 7 ["field", "turner"] (spF (He.ga K "Field") S.outer_ones) := kn_of (st := topS 81) E.h (E.c.fact 86 rfl) (E.c.def_ 56 (d := dd "outer_ones" 81) rfl) (fun fd F => ok_outer_ones (tx_of E) (kn_outers_of E) (kn_want_standing E) F) (fun _ _ _ _ _ _ us hl => match us, hl with | [_, _], _ => rfl)
theorem kn_want_like (E : EV P w K mg base) : Kn P w K mg base "want_like" 5 ["field", "one", "other"] (spF (He.ga K "Field") S.want_like) := kn_of (st := topS 84) E.h (E.c.fact 88 rfl) (E.c.def_ 58 (d := dd "want_like" 84) rfl) (fun fd F => ok_want_like (tx_of E) (kn_want_element E) (kn_want_field E) F) (fun _ _ _ _ _ _ us hl => match us, hl with | [_, _, _], _ => rfl)
theorem kn_led_by (E : EV P w K mg base) : Kn P w K mg base "led_by" 2 ["field", "one", "leader"] (spF (He.ga K "Field") S.led_by) := kn_of (st := topS 85) E.h (E.c.fact 89 rfl) (E.c.def_ 59 (d := dd "led_by" 85) rfl) (fun fd F => ok_led_by (tx_of E) (kn_power_of E) (kn_times_of E) F) (fun _ _ _ _ _ _ us hl => match us, hl with | [_, _, _], _ => rfl)
theorem kn_is_like_by (E : EV P w K mg base) : Kn P w K mg base "is_like_by" 6 ["field", "one", "other", "value"] (spF (He.ga K "Field") S.is_like_by) := kn_of (st := topS 86) E.h (E.c.fact 90 rfl) (E.c.def_ 60 (d := dd "is_like_by" 86) rfl) (fun fd F => ok_is_like_by (tx_of E) (kn_is_in E) (kn_led_by E) (kn_want_like E) F) (fun _ _ _ _ _ _ us hl => match us, hl with | [_, _, _, _], _ => rfl)
theorem kn_law_figures (E : EV P w K mg base) : Kn P w K mg base "_law_figures" 1 ["_law_prime", "_law_turns", "_law_number"] (spF (He.ga K "Field") S.law_figures) := kn_of (st := topS 91) E.h (E.c.fact 94 rfl) (E.c.def_ 64 (d := dd "_law_figures" 91) rfl) (fun fd F => ok_law_figures (tx_of E) F) (fun _ _ _ _ _ _ us hl => match us, hl with | [_, _, _], _ => rfl)
theorem kn_law_value (E : EV P w K mg base) : Kn P w K mg base "_law_value" 1 ["_law_prime", "_law_figures_here"] (spF (He.ga K "Field") S.law_value) := kn_of (st := topS 92) E.h (E.c.fact 95 rfl) (E.c.def_ 65 (d := dd "_law_value" 92) rfl) (fun fd F => ok_law_value (tx_of E) F) (fun _ _ _ _ _ _ us hl => match us, hl with | [_, _], _ => rfl)
theorem kn_law_shifts (E : EV P w K mg base) : Kn P w K mg base "_law_shifts" 1 ["_law_prime", "_law_modulus", "_law_figures_here"] (spF (He.ga K "Field") S.law_shifts) := kn_of (st := topS 93) E.h (E.c.fact 96 rfl) (E.c.def_ 66 (d := dd "_law_shifts" 93) rfl) (fun fd F => ok_law_shifts (tx_of E) F) (fun _ _ _ _ _ _ us hl => match us, hl with | [_, _, _], _ => rfl)
theorem kn_law_product_row (E : EV P w K mg base) : Kn P w K mg base "_law_product_row" 2 ["_law_prime", "_law_modulus", "_law_rows", "_law_one"] (spF (He.ga K "Field") S.law_product_row) := kn_of (st := topS 94) E.h (E.c.fact 97 rfl) (E.c.def_ 67 (d := dd "_law_product_row" 94) rfl) (fun fd F => ok_law_product_row (tx_of E) (kn_law_shifts E) (kn_law_value E) F) (fun _ _ _ _ _ _ us hl => match us, hl with | [_, _, _, _], _ => rfl)
theorem kn_law_world (E : EV P w K mg base) : Kn P w K mg base "_law_world" 3 ["_law_prime", "_law_modulus"] (spF (He.ga K "Field") S.law_world) := kn_of (st := topS 95) E.h (E.c.fact 98 rfl) (E.c.def_ 68 (d := dd "_law_world" 95) rfl) (fun fd F => ok_law_world (tx_of E) (kn_law_figures E) (kn_law_product_row E) (kn_law_value E) F) (fun _ _ _ _ _ _ us hl => match us, hl with | [_, _], _ => rfl)
theorem kn_law_turned (E : EV P w K mg base) : Kn P w K mg base "_law_turned" 1 ["_law_world_here", "_law_one", "_law_many"] (spF (He.ga K "Field") S.law_turned) := kn_of (st := topS 96) E.h (E.c.fact 99 rfl) (E.c.def_ 69 (d := dd "_law_turned" 96) rfl) (fun fd F => ok_law_turned (tx_of E) F) (fun _ _ _ _ _ _ us hl => match us, hl with | [_, _, _], _ => rfl)
theorem kn_law_trim (E : EV P w K mg base) : Kn P w K mg base "_law_trim" 1 ["_law_turner"] (spF (He.ga K "Field") S.law_trim) := kn_of (st := topS 97) E.h (E.c.fact 100 rfl) (E.c.def_ 70 (d := dd "_law_trim" 97) rfl) (fun fd F => ok_law_trim (tx_of E) F) (fun _ _ _ _ _ _ us hl => match us, hl with | [_], _ => rfl)
theorem kn_law_put (E : EV P w K mg base) : Kn P w K mg base "_law_put" 2 ["_law_world_here", "_law_one", "_law_other"] (spF (He.ga K "Field") S.law_put) := kn_of (st := topS 98) E.h (E.c.fact 101 rfl) (E.c.def_ 71 (d := dd "_law_put" 98) rfl) (fun fd F => ok_law_put (tx_of E) (kn_law_trim E) (kn_law_turned E) F) (fun _ _ _ _ _ _ us hl => match us, hl with | [_, _, _], _ => rfl)
theorem kn_law_line (E : EV P w K mg base) : Kn P w K mg base "_law_line" 1 ["_law_world_here", "_law_one"] (spF (He.ga K "Field") S.law_line) := kn_of (st := topS 99) E.h (E.c.fact 102 rfl) (E.c.def_ 72 (d := dd "_law_line" 99) rfl) (fun fd F => ok_law_line (tx_of E) F) (fun _ _ _ _ _ _ us hl => match us, hl with | [_, _], _ => rfl)
theorem kn_law_led (E : EV P w K mg base) : Kn P w K mg base "_law_led" 1 ["_law_world_here", "_law_one", "_law_leader"] (spF (He.ga K "Field") S.law_led) := kn_of (st := topS 103) E.h (E.c.fact 106 rfl) (E.c.def_ 76 (d := dd "_law_led" 103) rfl) (fun fd F => ok_law_led (tx_of E) F) (fun _ _ _ _ _ _ us hl => match us, hl with | [_, _, _], _ => rfl)
theorem kn_law_sorts (E : EV P w K mg base) : Kn P w K mg base "_law_sorts" 6 ["_law_field", "_law_way"] (spF (He.ga K "Field") S.law_sorts) := kn_of (st := topS 104) E.h (E.c.fact 107 rfl) (E.c.def_ 77 (d := dd "_law_sorts" 104) rfl) (fun fd F => ok_law_sorts (tx_of E) (kn_norm E) F) (fun _ _ _ _ _ _ us hl => match us, hl with | [_, _], _ => rfl)
theorem kn_law_back (E : EV P w K mg base) : Kn P w K mg base "_law_back" 2 ["_law_world_here", "_law_one", "_law_leader"] (spF (He.ga K "Field") S.law_back) := kn_of (st := topS 108) E.h (E.c.fact 111 rfl) (E.c.def_ 81 (d := dd "_law_back" 108) rfl) (fun fd F => ok_law_back (tx_of E) (kn_law_led E) F) (fun _ _ _ _ _ _ us hl => match us, hl with | [_, _, _], _ => rfl)
theorem kn_many_ways0 (E : EV P w K mg base) : Kn P w K mg base "many_ways" 7 ["field", "turner", "known"] (spG (He.ga K "Field") manyD 0) := kn_of (st := topS 78) E.h (E.c.fact 83 rfl) (E.c.def_ 53 (d := dd "many_ways" 78) rfl) (fun fd F => ok_many0 F) (fun _ _ _ _ _ _ us hl => match us, hl with | [_, _, _], _ => rfl)
theorem kn_many_ways1 (E : EV P w K mg base) : Kn P w K mg base "many_ways" 8 ["field", "turner", "known"] (spG (He.ga K "Field") manyD 1) := kn_of (st := topS 78) E.h (E.c.fact 83 rfl) (E.c.def_ 53 (d := dd "many_ways" 78) rfl) (fun fd F => ok_many (tx_of E) 0 (kn_inners_of E) (kn_less_inner E) (kn_many_ways0 E) F) (fun _ _ _ _ _ _ us hl => match us, hl with | [_, _, _], _ => rfl)
theorem kn_many_ways2 (E : EV P w K mg base) : Kn P w K mg base "many_ways" 9 ["field", "turner", "known"] (spG (He.ga K "Field") manyD 2) := kn_of (st := topS 78) E.h (E.c.fact 83 rfl) (E.c.def_ 53 (d := dd "many_ways" 78) rfl) (fun fd F => ok_many (tx_of E) 1 (kn_inners_of E) (kn_less_inner E) (kn_many_ways1 E) F) (fun _ _ _ _ _ _ us hl => match us, hl with | [_, _, _], _ => rfl)
theorem kn_many_ways3 (E : EV P w K mg base) : Kn P w K mg base "many_ways" 10 ["field", "turner", "known"] (spG (He.ga K "Field") manyD 3) := kn_of (st := topS 78) E.h (E.c.fact 83 rfl) (E.c.def_ 53 (d := dd "many_ways" 78) rfl) (fun fd F => ok_many (tx_of E) 2 (kn_inners_of E) (kn_less_inner E) (kn_many_ways2 E) F) (fun _ _ _ _ _ _ us hl => match us, hl with | [_, _, _], _ => rfl)
theorem kn_many_ways4 (E : EV P w K mg base) : Kn P w K mg base "many_ways" 11 ["field", "turner", "known"] (spG (He.ga K "Field") manyD 4) := kn_of (st := topS 78) E.h (E.c.fact 83 rfl) (E.c.def_ 53 (d := dd "many_ways" 78) rfl) (fun fd F => ok_many (tx_of E) 3 (kn_inners_of E) (kn_less_inner E) (kn_many_ways3 E) F) (fun _ _ _ _ _ _ us hl => match us, hl with | [_, _, _], _ => rfl)
theorem kn_ways_of0 (E : EV P w K mg base) : Kn P w K mg base "ways_of" 7 ["field", "turner", "known"] (spG (He.ga K "Field") waysD 0) := kn_of (st := topS 79) E.h (E.c.fact 84 rfl) (E.c.def_ 54 (d := dd "ways_of" 79) rfl) (fun fd F => ok_waysof0 F) (fun _ _ _ _ _ _ us hl => match us, hl with | [_, _, _], _ => rfl)
theorem kn_ways_of1 (E : EV P w K mg base) : Kn P w K mg base "ways_of" 8 ["field", "turner", "known"] (spG (He.ga K "Field") waysD 1) := kn_of (st := topS 79) E.h (E.c.fact 84 rfl) (E.c.def_ 54 (d := dd "ways_of" 79) rfl) (fun fd F => ok_waysof (tx_of E) 0 (kn_inners_of E) (kn_less_inner E) (kn_ways_of0 E) F) (fun _ _ _ _ _ _ us hl => match us, hl with | [_, _, _], _ => rfl)
theorem kn_ways_of2 (E : EV P w K mg base) : Kn P w K mg base "ways_of" 9 ["field", "turner", "known"] (spG (He.ga K "Field") waysD 2) := kn_of (st := topS 79) E.h (E.c.fact 84 rfl) (E.c.def_ 54 (d := dd "ways_of" 79) rfl) (fun fd F => ok_waysof (tx_of E) 1 (kn_inners_of E) (kn_less_inner E) (kn_ways_of1 E) F) (fun _ _ _ _ _ _ us hl => match us, hl with | [_, _, _], _ => rfl)
theorem kn_ways_of3 (E : EV P w K mg base) : Kn P w K mg base "ways_of" 10 ["field", "turner", "known"] (spG (He.ga K "Field") waysD 3) := kn_of (st := topS 79) E.h (E.c.fact 84 rfl) (E.c.def_ 54 (d := dd "ways_of" 79) rfl) (fun fd F => ok_waysof (tx_of E) 2 (kn_inners_of E) (kn_less_inner E) (kn_ways_of2 E) F) (fun _ _ _ _ _ _ us hl => match us, hl with | [_, _, _], _ => rfl)
theorem kn_ways_of4 (E : EV P w K mg base) : Kn P w K mg base "ways_of" 11 ["field", "turner", "known"] (spG (He.ga K "Field") waysD 4) := kn_of (st := topS 79) E.h (E.c.fact 84 rfl) (E.c.def_ 54 (d := dd "ways_of" 79) rfl) (fun fd F => ok_waysof (tx_of E) 3 (kn_inners_of E) (kn_less_inner E) (kn_ways_of3 E) F) (fun _ _ _ _ _ _ us hl => match us, hl with | [_, _, _], _ => rfl)
theorem kn_ways (E : EV P w K mg base) : Kn P w K mg base "ways" 12 ["field", "turner"] (spF (He.ga K "Field") S.ways) := kn_of (st := topS 82) E.h (E.c.fact 87 rfl) (E.c.def_ 57 (d := dd "ways" 82) rfl) (fun fd F => ok_ways (tx_of E) (kn_want_standing E) (kn_want_at_most E) (kn_many_ways4 E) (kn_ways_of4 E) F) (fun _ _ _ _ _ _ us hl => match us, hl with | [_, _], _ => rfl)
theorem kn_law_pot (E : EV P w K mg base) : Kn P w K mg base "_law_pot" 1 ["_law_script", "_law_k"] (spPot K) := kn_of (st := topS 88) E.h (E.c.fact 91 rfl) (E.c.def_ 61 (d := dd "_law_pot" 88) rfl) (fun fd F => ok_law_pot (tx_of E) F) (fun _ _ _ _ _ _ us hl => match us, hl with | [_, _], _ => rfl)
theorem kn_law_draw (E : EV P w K mg base) : Kn P w K mg base "_law_draw" 1 ["_law_pot_here", "_law_size"] (spP (He.ga K "Field") preDraw RDraw) := kn_of (st := topS 89) E.h (E.c.fact 92 rfl) (E.c.def_ 62 (d := dd "_law_draw" 89) rfl) (fun fd F => ok_law_draw (tx_of E) F) (fun _ _ _ _ _ _ us hl => match us, hl with | [_, _], _ => rfl)
theorem kn_law_pick (E : EV P w K mg base) : Kn P w K mg base "_law_pick" 2 ["_law_pot_here", "_law_some"] (spP (He.ga K "Field") prePick RPick) := kn_of (st := topS 90) E.h (E.c.fact 93 rfl) (E.c.def_ 63 (d := dd "_law_pick" 90) rfl) (fun fd F => ok_law_pick (tx_of E) (kn_law_draw E) F) (fun _ _ _ _ _ _ us hl => match us, hl with | [_, _], _ => rfl)
theorem kn_law_element (E : EV P w K mg base) : Kn P w K mg base "_law_element" 2 ["_law_pot_here", "_law_world_here"] (spP (He.ga K "Field") preEl REl) := kn_of (st := topS 101) E.h (E.c.fact 104 rfl) (E.c.def_ 74 (d := dd "_law_element" 101) rfl) (fun fd F => ok_law_element (tx_of E) (kn_law_draw E) F) (fun _ _ _ _ _ _ us hl => match us, hl with | [_, _], _ => rfl)
theorem kn_law_told_field (E : EV P w K mg base) : Kn P w K mg base "_law_told_field" 3 ["_law_pot_here", "_law_most"] (spP (He.ga K "Field") preTold RTold) := kn_of (st := topS 100) E.h (E.c.fact 103 rfl) (E.c.def_ 73 (d := dd "_law_told_field" 100) rfl) (fun fd F => ok_law_told_field (tx_of E) (kn_law_pick E) F) (fun _ _ _ _ _ _ us hl => match us, hl with | [_, _], _ => rfl)
theorem kn_law_lines (E : EV P w K mg base) : Kn P w K mg base "_law_lines" 3 ["_law_pot_here", "_law_world_here", "_law_degree"] (spP (He.ga K "Field") preLns RLns) := kn_of (st := topS 102) E.h (E.c.fact 105 rfl) (E.c.def_ 75 (d := dd "_law_lines" 102) rfl) (fun fd F => ok_law_lines (tx_of E) (kn_law_draw E) (kn_law_element E) (kn_law_put E) (kn_law_line E) F) (fun _ _ _ _ _ _ us hl => match us, hl with | [_, _, _], _ => rfl)
theorem kn_law_lines_right (E : EV P w K mg base) : Kn P w K mg base "_law_lines_right" 8 ["_law_pot_here", "_law_field", "_law_world_here"] (spP (He.ga K "Field") preLR RTrue) := kn_of (st := topS 105) E.h (E.c.fact 108 rfl) (E.c.def_ 78 (d := dd "_law_lines_right" 105) rfl) (fun fd F => ok_law_lines_right (tx_of E) (kn_law_draw E) (kn_law_element E) (kn_law_led E) (kn_law_line E) (kn_law_put E) (kn_law_turned E) (kn_is_like_by E) (kn_put E) F) (fun _ _ _ _ _ _ us hl => match us, hl with | [_, _, _], _ => rfl)
theorem kn_law_ways_right (E : EV P w K mg base) : Kn P w K mg base "_law_ways_right" 13 ["_law_pot_here", "_law_field", "_law_world_here", "_law_whole"] (spP (He.ga K "Field") preWR RTrue) := kn_of (st := topS 106) E.h (E.c.fact 109 rfl) (E.c.def_ 79 (d := dd "_law_ways_right" 106) rfl) (fun fd F => ok_law_ways_right (tx_of E) (kn_law_draw E) (kn_law_put E) (kn_law_sorts E) (kn_ways E) F) (fun _ _ _ _ _ _ us hl => match us, hl with | [_, _, _, _], _ => rfl)
theorem kn_law_inside_right (E : EV P w K mg base) : Kn P w K mg base "_law_inside_right" 8 ["_law_pot_here", "_law_field", "_law_world_here", "_law_whole"] (spP (He.ga K "Field") preIR RTrue) := kn_of (st := topS 107) E.h (E.c.fact 110 rfl) (E.c.def_ 80 (d := dd "_law_inside_right" 107) rfl) (fun fd F => ok_law_inside_right (tx_of E) (kn_law_draw E) (kn_law_back E) (kn_law_put E) (kn_inner_ones E) (kn_told E) F) (fun _ _ _ _ _ _ us hl => match us, hl with | [_, _, _, _], _ => rfl)
theorem kn_law_outside_right (E : EV P w K mg base) : Kn P w K mg base "_law_outside_right" 8 ["_law_pot_here", "_law_field", "_law_world_here", "_law_whole"] (spP (He.ga K "Field") preOR RTrue) := kn_of (st := topS 109) E.h (E.c.fact 112 rfl) (E.c.def_ 82 (d := dd "_law_outside_right" 109) rfl) (fun fd F => ok_law_outside_right (tx_of E) (kn_law_draw E) (kn_law_put E) (kn_outer_ones E) F) (fun _ _ _ _ _ _ us hl => match us, hl with | [_, _, _, _], _ => rfl)
theorem init_of (E : EV P w K mg base) : ∃ (fi : Addr) (fdi : FuncData), Mk K (He.ga K "Field") fi ∧ FnOk P w K mg base CX0 7 fi fdi ["self", "prime", "modulus"] (spInit (He.ga K "Field")) ∧ Binds K fdi ["self", "prime", "modulus"] [] := by
  obtain ⟨fdi, F⟩ := E.c.def_ 0 (d := dInit) rfl
  exact ⟨_, fdi, He.mkr_ok (E.c.fact 3 rfl), ok_init (tx_of E) (kn_want_prime E) (kn_is_right E) (kn_want_at_most E) (kn_sized E) (kn_all_powers E) (kn_logs_by E) F, F.bindsN (fun _ _ _ _ _ _ us hl => match us, hl with | [_, _, _], _ => rfl)⟩
theorem kn_law_right (E : EV P w K mg base) : Kn P w K mg base "_law_right" 14 ["_law_pot_here"] (spP (He.ga K "Field") preNil RTrue) := by
  obtain ⟨fi, fdi, M, FI, bI⟩ := init_of E
  exact kn_of (st := topS 110) E.h (E.c.fact 113 rfl) (E.c.def_ 83 (d := dd "_law_right" 110) rfl) (fun fd F => ok_law_right (tx_of E) E.hall (kn_law_draw E) (kn_law_told_field E) (kn_law_lines E) (kn_law_lines_right E) (kn_law_ways_right E) (kn_law_inside_right E) (kn_law_outside_right E) (kn_law_world E) M FI bI F) (fun _ _ _ _ _ _ us hl => match us, hl with | [_], _ => rfl)
theorem ok_law_all (E : EV P w K mg base) {f : Addr} {fd : FuncData} (F : Fn K "law" st_law f fd) : FnOk P w K mg base CX0 15 f fd ["_law_script"] (spLaw K) := ok_law (tx_of E) (kn_law_pot E) (kn_law_right E) F
end
theorem facts (hall : ∀ p, p ∈ fields5 → S.okField p.1 p.2) {P : Program} {w : World} {K : PySem.W.Frag} {h : Heap} {mg : Str → Option Value} {f : Addr} (X : K.In h) (G : h.Ns mainGlobals mg) (hfa : mg ("law" : Str) = some (.ref f)) (b : xb K = true) (c : He.SaysD faAll fnAll K) :
    ∃ fd : FuncData, (∀ (s : Shared) (v : Value), BindsTo s fd ⟨[v], []⟩ [("_law_script", v)]) ∧ ∀ base : Heap, K.In base → base.Ns mainGlobals mg → FnOk P w K mg base CX0 15 f fd ["_law_script"] (spLaw K) := by
  obtain ⟨fd, F⟩ := c.def_ 84 (d := dd "law" 111) rfl
  have e := hfa.symm.trans (He.glo_ok X G (c.fact 114 (f := .glo "law") rfl))
  cases e
  have bb := FunD.bindsA (ps := ["_law_script"]) F fun _ _ _ _ _ _ us hl => match us, hl with | [_], _ => rfl
  exact ⟨fd, fun s v => bb s [v] rfl, fun base _ _ => ok_law_all ⟨⟨h, X, G⟩, c, b, hall⟩ F⟩
end GB

set_option autoImplicit false
/-! Skew polynomials over a small field, plainly: what the text does, typed; scalars from both sides. Core Lean alone. -/
namespace M
structure Ops (q : Nat) where
  z : Fin q
  u : Fin q
  add : Fin q → Fin q → Fin q
  neg : Fin q → Fin q
  mul : Fin q → Fin q → Fin q
  ph : Fin q → Fin q
  ps : Fin q → Fin q
  nm : Fin q → Fin q
  ld : Fin q → Fin q → Fin q
  bk : Fin q → Fin q → Fin q
  els : List (Fin q)
structure Laws {q : Nat} (O : Ops q) : Prop where
  mul_add : ∀ a b c, O.mul a (O.add b c) = O.add (O.mul a b) (O.mul a c)
  mul_assoc : ∀ a b c, O.mul (O.mul a b) c = O.mul a (O.mul b c)
  mul_comm : ∀ a b, O.mul a b = O.mul b a
  mul_z : ∀ a, O.mul a O.z = O.z
  u_mul : ∀ a, O.mul O.u a = a
  z_add : ∀ a, O.add O.z a = a
  mul_ne : ∀ a b, O.mul a b = O.z → a = O.z ∨ b = O.z
  mul_neg : ∀ a b, O.neg (O.mul a b) = O.mul a (O.neg b)
  add_neg : ∀ a, O.add a (O.neg a) = O.z
  ph_mul : ∀ a b, O.ph (O.mul a b) = O.mul (O.ph a) (O.ph b)
  ph_ne : ∀ a, O.ph a = O.z → a = O.z
  ps_mul : ∀ a b, O.ps (O.mul a b) = O.mul (O.ps a) (O.ps b)
  ps_ph : ∀ a, O.ps (O.ph a) = a
  ph_ps : ∀ a, O.ph (O.ps a) = a
  ld_mul : ∀ b c, O.mul (O.ld b c) c = O.mul b (O.ph c)
  zu : O.u ≠ O.z
abbrev P (q : Nat) := List (Fin q)
section
variable {q : Nat} (O : Ops q)
def phN : Nat → Fin q → Fin q
  | 0, x => x
  | n + 1, x => O.ph (phN n x)
def cnt (p : Nat → Bool) : Nat → Nat
  | 0 => 0
  | k + 1 => if p k = true then cnt p k else k + 1
def zer (f : P q) (k : Nat) : Bool := decide (f.getD k O.z = O.z)
def trim (f : P q) : P q := f.take (cnt (zer O f) f.length)
def lessE (r t : P q) : P q := trim O (List.zipWith (fun x y => O.add x (O.neg y)) r t)
def raF (b : Fin q) : Fin q → Fin q → P q → Fin q
  | acc, _, [] => acc
  | acc, pt, x :: f => raF b (O.add acc (O.mul x pt)) (O.mul (O.ph pt) b) f
def inners (f : P q) : P q := O.els.filter fun b => decide (raF O b O.z O.u f = O.z)
def inT (a : Fin q) (r : P q) : P q := List.replicate (r.length - 2) O.z ++ [O.mul (r.getD (r.length - 1) O.z) (phN O (r.length - 2) (O.neg a)), r.getD (r.length - 1) O.z]
def inW (a : Fin q) : Nat → P q → P q → Option (P q × P q)
  | 0, _, _ => none
  | n + 1, r, qo => if r.length < 2 then some (qo, r) else inW a n (lessE O r (inT O a r)) (qo.set (r.length - 2) (r.getD (r.length - 1) O.z))
def quo (f : P q) (a : Fin q) : Option (P q) := (inW O a 30 f (List.replicate (f.length - 1) O.z)).map (·.1)
def outT (a : Fin q) (r : P q) : P q := List.replicate (r.length - 2) O.z ++ [O.mul (O.neg a) (O.ps (r.getD (r.length - 1) O.z)), O.ph (O.ps (r.getD (r.length - 1) O.z))]
def outR (a : Fin q) : Nat → P q → Option (P q)
  | 0, _ => none
  | n + 1, r => if r.length < 2 then some r else outR a n (lessE O r (outT O a r))
def outers (f : P q) : P q := if f.length = 1 then [] else O.els.filter fun b => decide (outR O b 30 f = some [])
def mapO {α β : Type} (g : α → Option β) : List α → Option (List β)
  | [] => some []
  | a :: r => match g a, mapO g r with
    | some b, some l => some (b :: l)
    | _, _ => none
def stepT (rec : P q → Option (List (P q))) (f : P q) (a : Fin q) : Option (List (P q)) := match quo O f a with
  | some g => (match rec g with
    | some ws => some (ws.map fun w => w ++ [a])
    | none => none)
  | none => none
def waysT : Nat → P q → Option (List (P q))
  | 0, _ => none
  | n + 1, f => if f.length = 1 then some [[]] else match mapO (stepT O (waysT n) f) (inners O f) with
    | some l => if l.flatten.length ≤ 400 then some l.flatten else none
    | none => none
def addAt : Nat → P q → P q → P q
  | _, [], acc => acc
  | s, y :: row, acc => addAt (s + 1) row (acc.set s (O.add (acc.getD s O.z) y))
def pu : Nat → P q → P q → P q → P q
  | _, [], _, acc => acc
  | s, x :: f, g, acc => pu (s + 1) f g (addAt O s (g.map fun y => O.mul x (phN O s y)) acc)
def putT (f g : P q) : P q := trim O (pu O 0 f g (List.replicate (f.length + g.length - 1) O.z))
def scale (k : Fin q) (f : P q) : P q := f.map (O.mul k)
def rs : Nat → Fin q → P q → P q
  | _, _, [] => []
  | i, c, x :: f => O.mul x (phN O i c) :: rs (i + 1) c f
end
section
variable {q : Nat} {O : Ops q}
theorem cnt_congr {p p' : Nat → Bool} : ∀ k, (∀ i, i < k → p i = p' i) → cnt p k = cnt p' k
  | 0, _ => rfl
  | k + 1, h => by
    unfold cnt
    rw [h k (Nat.lt_succ_self k), cnt_congr k fun i hi => h i (Nat.lt_succ_of_lt hi)]
theorem cnt_le (p : Nat → Bool) : ∀ k, cnt p k ≤ k
  | 0 => Nat.le_refl 0
  | k + 1 => by
    unfold cnt
    split
    · exact Nat.le_succ_of_le (cnt_le p k)
    · exact Nat.le_refl _
theorem cnt_idem (p : Nat → Bool) : ∀ k, cnt p (cnt p k) = cnt p k
  | 0 => rfl
  | k + 1 => by
    by_cases h : p k = true
    · have e : cnt p (k + 1) = cnt p k := by
        show (if p k = true then cnt p k else k + 1) = _
        rw [if_pos h]
      rw [e]
      exact cnt_idem p k
    · have e : cnt p (k + 1) = k + 1 := by
        show (if p k = true then cnt p k else k + 1) = _
        rw [if_neg h]
      rw [e, e]
theorem trim_length (f : P q) : (trim O f).length = cnt (zer O f) f.length := by
  unfold trim
  rw [List.length_take]
  exact Nat.min_eq_left (cnt_le _ _)
theorem zer_take (f : P q) (n i : Nat) (h : i < n) : zer O (f.take n) i = zer O f i := by
  unfold zer
  rw [List.getD_eq_getElem?_getD, List.getD_eq_getElem?_getD, List.getElem?_take_of_lt h]
theorem trim_idem (f : P q) : trim O (trim O f) = trim O f := by
  have h := trim_length (O := O) f
  have e : cnt (zer O (trim O f)) (trim O f).length = (trim O f).length := by
    rw [h]
    refine Eq.trans (cnt_congr _ fun i hi => ?_) (cnt_idem _ _)
    unfold trim
    exact zer_take f _ i hi
  show (trim O f).take (cnt (zer O (trim O f)) (trim O f).length) = trim O f
  rw [e, List.take_length]
variable (A : Laws O)
include A
theorem mul_iff {k x : Fin q} (hk : k ≠ O.z) : O.mul k x = O.z ↔ x = O.z := by
  constructor
  · intro h
    exact (A.mul_ne k x h).resolve_left hk
  · intro h
    rw [h, A.mul_z]
theorem phN_mul (n : Nat) (a b : Fin q) : phN O n (O.mul a b) = O.mul (phN O n a) (phN O n b) := by
  induction n with
  | zero => rfl
  | succ n ih =>
    show O.ph (phN O n (O.mul a b)) = _
    rw [ih, A.ph_mul]
    rfl
theorem phN_ne {n : Nat} {c : Fin q} (hc : c ≠ O.z) : phN O n c ≠ O.z := by
  induction n with
  | zero => exact hc
  | succ n ih => exact fun h => ih (A.ph_ne _ h)
theorem zer_scale {k : Fin q} (hk : k ≠ O.z) (f : P q) (i : Nat) : zer O (scale O k f) i = zer O f i := by
  unfold zer scale
  rw [List.getD_eq_getElem?_getD, List.getD_eq_getElem?_getD, List.getElem?_map]
  cases h : f[i]? with
  | none => rfl
  | some x =>
    show decide (O.mul k x = O.z) = decide (x = O.z)
    exact decide_eq_decide.mpr (mul_iff A hk)
theorem trim_scale {k : Fin q} (hk : k ≠ O.z) (f : P q) : trim O (scale O k f) = scale O k (trim O f) := by
  unfold trim
  rw [cnt_congr _ fun i _ => zer_scale A hk f i]
  unfold scale
  rw [List.length_map, List.map_take]
omit A in
theorem rs_length : ∀ (i : Nat) (c : Fin q) (f : P q), (rs O i c f).length = f.length
  | _, _, [] => rfl
  | i, c, _ :: f => congrArg (· + 1) (rs_length (i + 1) c f)
omit A in
theorem rs_take : ∀ (n i : Nat) (c : Fin q) (f : P q), (rs O i c f).take n = rs O i c (f.take n)
  | 0, _, _, _ => by simp [rs]
  | _ + 1, _, _, [] => by simp [rs]
  | n + 1, i, c, x :: f => by
    show O.mul x (phN O i c) :: (rs O (i + 1) c f).take n = _
    rw [rs_take n (i + 1) c f]
    rfl
theorem zer_rs {c : Fin q} (hc : c ≠ O.z) : ∀ (i k : Nat) (f : P q), zer O (rs O i c f) k = zer O f k
  | _, _, [] => rfl
  | i, 0, x :: f => by
    show decide (O.mul x (phN O i c) = O.z) = decide (x = O.z)
    rw [A.mul_comm]
    exact decide_eq_decide.mpr (mul_iff A (phN_ne A hc))
  | i, k + 1, x :: f => zer_rs hc (i + 1) k f
theorem trim_rs {c : Fin q} (hc : c ≠ O.z) (i : Nat) (f : P q) : trim O (rs O i c f) = rs O i c (trim O f) := by
  unfold trim
  rw [cnt_congr _ fun k _ => zer_rs A hc i k f, rs_take, rs_length]
theorem less_scale {k : Fin q} (hk : k ≠ O.z) (r t : P q) : lessE O (scale O k r) (scale O k t) = scale O k (lessE O r t) := by
  unfold lessE
  rw [← trim_scale A hk]
  congr 1
  unfold scale
  rw [List.zipWith_map, List.map_zipWith]
  congr 1
  funext x y
  rw [A.mul_neg, A.mul_add]
theorem zip_rs {c : Fin q} : ∀ (i : Nat) (r t : P q), List.zipWith (fun x y => O.add x (O.neg y)) (rs O i c r) (rs O i c t) = rs O i c (List.zipWith (fun x y => O.add x (O.neg y)) r t)
  | _, [], _ => by simp [rs]
  | _, _ :: _, [] => by simp [rs]
  | i, x :: r, y :: t => by
    show O.add (O.mul x (phN O i c)) (O.neg (O.mul y (phN O i c))) :: List.zipWith _ (rs O (i + 1) c r) (rs O (i + 1) c t) = O.mul (O.add x (O.neg y)) (phN O i c) :: rs O (i + 1) c (List.zipWith _ r t)
    rw [zip_rs (i + 1) r t, A.mul_comm x, A.mul_comm y, A.mul_neg, ← A.mul_add, A.mul_comm _ (O.add x (O.neg y))]
theorem less_rs {c : Fin q} (hc : c ≠ O.z) (r t : P q) : lessE O (rs O 0 c r) (rs O 0 c t) = rs O 0 c (lessE O r t) := by
  unfold lessE
  rw [zip_rs A, trim_rs A hc]
theorem getD_scale (k : Fin q) (f : P q) (i : Nat) : (scale O k f).getD i O.z = O.mul k (f.getD i O.z) := by
  unfold scale
  rw [List.getD_eq_getElem?_getD, List.getD_eq_getElem?_getD, List.getElem?_map]
  cases f[i]? with
  | none => exact (A.mul_z k).symm
  | some x => rfl
theorem rep_scale (k : Fin q) (n : Nat) : scale O k (List.replicate n O.z) = List.replicate n O.z := by
  unfold scale
  rw [List.map_replicate, A.mul_z]
omit A in
theorem scale_length (k : Fin q) (f : P q) : (scale O k f).length = f.length := by unfold scale; rw [List.length_map]
theorem inT_scale (k a : Fin q) (r : P q) : inT O a (scale O k r) = scale O k (inT O a r) := by
  unfold inT
  rw [scale_length, getD_scale A, A.mul_assoc]
  conv => rhs; unfold scale
  rw [List.map_append]
  have := rep_scale A k (r.length - 2)
  unfold scale at this
  rw [this]
  rfl
theorem inW_scale {k : Fin q} (hk : k ≠ O.z) (a : Fin q) : ∀ (n : Nat) (r qo : P q), inW O a n (scale O k r) (scale O k qo) = (inW O a n r qo).map fun p => (scale O k p.1, scale O k p.2)
  | 0, _, _ => rfl
  | n + 1, r, qo => by
    unfold inW
    rw [scale_length]
    by_cases h : r.length < 2
    · rw [if_pos h, if_pos h]
      rfl
    · rw [if_neg h, if_neg h, inT_scale A, less_scale A hk, getD_scale A]
      have e : (scale O k qo).set (r.length - 2) (O.mul k (r.getD (r.length - 1) O.z)) = scale O k (qo.set (r.length - 2) (r.getD (r.length - 1) O.z)) := by
        unfold scale
        rw [List.map_set]
      rw [e]
      exact inW_scale hk a n _ _
theorem quo_scale {k : Fin q} (hk : k ≠ O.z) (f : P q) (a : Fin q) : quo O (scale O k f) a = (quo O f a).map (scale O k) := by
  unfold quo
  rw [scale_length]
  have e : List.replicate (f.length - 1) O.z = scale O k (List.replicate (f.length - 1) O.z) := (rep_scale A k _).symm
  rw [e, inW_scale A hk, ← e]
  cases inW O a 30 f (List.replicate (f.length - 1) O.z) <;> rfl
theorem raF_scale (k b : Fin q) : ∀ (f : P q) (acc pt : Fin q), raF O b (O.mul k acc) pt (scale O k f) = O.mul k (raF O b acc pt f)
  | [], _, _ => rfl
  | x :: f, acc, pt => by
    show raF O b (O.add (O.mul k acc) (O.mul (O.mul k x) pt)) (O.mul (O.ph pt) b) (scale O k f) = O.mul k (raF O b (O.add acc (O.mul x pt)) (O.mul (O.ph pt) b) f)
    rw [A.mul_assoc, ← A.mul_add]
    exact raF_scale k b f _ _
theorem inners_scale {k : Fin q} (hk : k ≠ O.z) (f : P q) : inners O (scale O k f) = inners O f := by
  unfold inners
  congr 1
  funext b
  have e := raF_scale A k b f O.z O.u
  rw [A.mul_z] at e
  rw [e]
  exact decide_eq_decide.mpr (mul_iff A hk)
omit A in
theorem mapO_congr {α β : Type} {g h : α → Option β} (e : ∀ a, g a = h a) : ∀ l : List α, mapO g l = mapO h l
  | [] => rfl
  | a :: r => by
    unfold mapO
    rw [e a, mapO_congr e r]
theorem ways_scale {k : Fin q} (hk : k ≠ O.z) : ∀ (n : Nat) (f : P q), waysT O n (scale O k f) = waysT O n f
  | 0, _ => rfl
  | n + 1, f => by
    unfold waysT
    rw [scale_length, inners_scale A hk]
    have e : ∀ a, stepT O (waysT O n) (scale O k f) a = stepT O (waysT O n) f a := fun a => by
      unfold stepT
      rw [quo_scale A hk]
      cases quo O f a with
      | none => rfl
      | some g =>
        show (match waysT O n (scale O k g) with | some ws => some (ws.map fun w => w ++ [a]) | none => none) = _
        rw [ways_scale hk n g]
    rw [mapO_congr e]
/-! scalars on the right -/
theorem getD_rs (c : Fin q) : ∀ (i k : Nat) (f : P q), k < f.length → (rs O i c f).getD k O.z = O.mul (f.getD k O.z) (phN O (i + k) c)
  | _, _, [], h => absurd h (Nat.not_lt_zero _)
  | i, 0, x :: f, _ => rfl
  | i, k + 1, x :: f, h => by
    have := getD_rs c (i + 1) k f (Nat.lt_of_succ_lt_succ h)
    rw [show i + 1 + k = i + (k + 1) by omega] at this
    exact this
omit A in
theorem rs_append (c : Fin q) : ∀ (i : Nat) (f g : P q), rs O i c (f ++ g) = rs O i c f ++ rs O (i + f.length) c g
  | _, [], _ => rfl
  | i, x :: f, g => by
    show O.mul x (phN O i c) :: rs O (i + 1) c (f ++ g) = O.mul x (phN O i c) :: (rs O (i + 1) c f ++ rs O (i + (f.length + 1)) c g)
    rw [rs_append c (i + 1) f g, show i + 1 + f.length = i + (f.length + 1) by omega]
theorem rs_rep (c : Fin q) : ∀ (n i : Nat), rs O i c (List.replicate n O.z) = List.replicate n O.z
  | 0, _ => rfl
  | n + 1, i => by
    show O.mul O.z (phN O i c) :: rs O (i + 1) c (List.replicate n O.z) = O.z :: List.replicate n O.z
    rw [rs_rep c n, A.mul_comm, A.mul_z]
theorem outT_rs (c a : Fin q) (r : P q) (h : ¬ r.length < 2) : outT O a (rs O 0 c r) = rs O 0 c (outT O a r) := by
  unfold outT
  rw [rs_length, getD_rs A c 0 (r.length - 1) r (by omega), rs_append, rs_rep A, List.length_replicate, A.ps_mul]
  have e : phN O (0 + (r.length - 1)) c = O.ph (phN O (r.length - 2) c) := by
    rw [show 0 + (r.length - 1) = (r.length - 2) + 1 by omega]
    rfl
  rw [e, A.ps_ph, A.ph_mul, ← A.mul_assoc]
  rw [Nat.zero_add]
  rfl
theorem outR_rs {c : Fin q} (hc : c ≠ O.z) (a : Fin q) : ∀ (n : Nat) (r : P q), outR O a n (rs O 0 c r) = (outR O a n r).map (rs O 0 c)
  | 0, _ => rfl
  | n + 1, r => by
    unfold outR
    rw [rs_length]
    by_cases h : r.length < 2
    · rw [if_pos h, if_pos h]
      rfl
    · rw [if_neg h, if_neg h, outT_rs A c a r h, less_rs A hc]
      exact outR_rs hc a n _
theorem outers_rs {c : Fin q} (hc : c ≠ O.z) (f : P q) : outers O (rs O 0 c f) = outers O f := by
  unfold outers
  rw [rs_length]
  by_cases h : f.length = 1
  · rw [if_pos h, if_pos h]
  · rw [if_neg h, if_neg h]
    congr 1
    funext b
    rw [outR_rs A hc]
    refine decide_eq_decide.mpr ?_
    cases outR O b 30 f with
    | none => exact ⟨fun z => (nomatch z), fun z => (nomatch z)⟩
    | some r =>
      cases r with
      | nil => exact ⟨fun _ => rfl, fun _ => rfl⟩
      | cons x r => exact ⟨fun z => (nomatch z), fun z => (nomatch z)⟩
theorem raF_rs (b c : Fin q) : ∀ (f : P q) (i : Nat) (acc pt pt' : Fin q), O.mul (phN O i c) pt = O.mul c pt' → raF O b (O.mul c acc) pt (rs O i c f) = O.mul c (raF O (O.ld b c) acc pt' f)
  | [], _, _, _, _, _ => rfl
  | x :: f, i, acc, pt, pt', h => by
    show raF O b (O.add (O.mul c acc) (O.mul (O.mul x (phN O i c)) pt)) (O.mul (O.ph pt) b) (rs O (i + 1) c f) = O.mul c (raF O (O.ld b c) (O.add acc (O.mul x pt')) (O.mul (O.ph pt') (O.ld b c)) f)
    have e1 : O.mul (O.mul x (phN O i c)) pt = O.mul c (O.mul x pt') := by
      rw [A.mul_assoc, h, ← A.mul_assoc, A.mul_comm x c, A.mul_assoc]
    have e2 : O.mul (phN O (i + 1) c) (O.mul (O.ph pt) b) = O.mul c (O.mul (O.ph pt') (O.ld b c)) := by
      show O.mul (O.ph (phN O i c)) (O.mul (O.ph pt) b) = _
      rw [← A.mul_assoc, ← A.ph_mul, h, A.ph_mul, A.mul_comm (O.ph c), A.mul_assoc, A.mul_comm (O.ph c), ← A.ld_mul, A.mul_comm _ c, ← A.mul_assoc, A.mul_comm (O.ph pt') c, A.mul_assoc]
    rw [e1, ← A.mul_add]
    exact raF_rs b c f (i + 1) _ _ _ e2
theorem inners_rs {c : Fin q} (hc : c ≠ O.z) (f : P q) : inners O (rs O 0 c f) = O.els.filter fun b => decide (raF O (O.ld b c) O.z O.u f = O.z) := by
  unfold inners
  congr 1
  funext b
  have e := raF_rs A b c f 0 O.z O.u O.u rfl
  rw [A.mul_z] at e
  rw [e]
  exact decide_eq_decide.mpr (mul_iff A hc)
/-! products -/
theorem addAt_scale (k : Fin q) : ∀ (row : P q) (s : Nat) (acc : P q), addAt O s (scale O k row) (scale O k acc) = scale O k (addAt O s row acc)
  | [], _, _ => rfl
  | y :: row, s, acc => by
    show addAt O (s + 1) (scale O k row) ((scale O k acc).set s (O.add ((scale O k acc).getD s O.z) (O.mul k y))) = scale O k (addAt O (s + 1) row (acc.set s (O.add (acc.getD s O.z) y)))
    rw [getD_scale A, ← A.mul_add]
    have e : (scale O k acc).set s (O.mul k (O.add (acc.getD s O.z) y)) = scale O k (acc.set s (O.add (acc.getD s O.z) y)) := by
      unfold scale
      rw [List.map_set]
    rw [e]
    exact addAt_scale k row (s + 1) _
theorem pu_scale (k : Fin q) (g : P q) : ∀ (f : P q) (s : Nat) (acc : P q), pu O s (scale O k f) g (scale O k acc) = scale O k (pu O s f g acc)
  | [], _, _ => rfl
  | x :: f, s, acc => by
    show pu O (s + 1) (scale O k f) g (addAt O s (g.map fun y => O.mul (O.mul k x) (phN O s y)) (scale O k acc)) = scale O k (pu O (s + 1) f g (addAt O s (g.map fun y => O.mul x (phN O s y)) acc))
    have e : (g.map fun y => O.mul (O.mul k x) (phN O s y)) = scale O k (g.map fun y => O.mul x (phN O s y)) := by
      unfold scale
      rw [List.map_map]
      congr 1
      funext y
      exact A.mul_assoc k x _
    rw [e, addAt_scale A]
    exact pu_scale k g f (s + 1) _
theorem put_scale {k : Fin q} (hk : k ≠ O.z) (f g : P q) : putT O (scale O k f) g = scale O k (putT O f g) := by
  unfold putT
  rw [scale_length, ← trim_scale A hk, ← pu_scale A, rep_scale A]
theorem addAt_zeros : ∀ (row done : P q) (n : Nat), row.length = n → addAt O done.length row (done ++ List.replicate n O.z) = done ++ row
  | [], done, n, h => by
    cases h
    show done ++ [] = _
    rfl
  | y :: row, done, n, h => by
    cases n with
    | zero => cases h
    | succ n =>
      show addAt O (done.length + 1) row ((done ++ O.z :: List.replicate n O.z).set done.length (O.add ((done ++ O.z :: List.replicate n O.z).getD done.length O.z) y)) = _
      have e1 : (done ++ O.z :: List.replicate n O.z).getD done.length O.z = O.z := by
        rw [List.getD_eq_getElem?_getD, List.getElem?_append_right (Nat.le_refl _), Nat.sub_self]
        rfl
      have e2 : (done ++ O.z :: List.replicate n O.z).set done.length y = (done ++ [y]) ++ List.replicate n O.z := by
        rw [List.set_append_right _ _ (Nat.le_refl _), Nat.sub_self, List.append_assoc]
        rfl
      rw [e1, A.z_add, e2]
      have := addAt_zeros row (done ++ [y]) n (Nat.succ.inj h)
      rw [List.length_append] at this
      rw [show done.length + 1 = done.length + [y].length from rfl, this, List.append_assoc]
      rfl
theorem put_head (h : Fin q) (f : P q) : putT O [h] f = trim O (scale O h f) := by
  unfold putT
  show trim O (addAt O 0 (f.map fun y => O.mul h (phN O 0 y)) (List.replicate (1 + f.length - 1) O.z)) = _
  have := addAt_zeros A (f.map fun y => O.mul h (phN O 0 y)) [] (1 + f.length - 1) (by rw [List.length_map]; omega)
  rw [List.nil_append, List.nil_append] at this
  show trim O (addAt O ([] : P q).length _ _) = _
  rw [this]
  rfl
theorem pu_right (c : Fin q) : ∀ (f done : P q), pu O done.length f [c] (done ++ List.replicate f.length O.z) = done ++ rs O done.length c f
  | [], done => by
    show done ++ [] = done ++ []
    rfl
  | x :: f, done => by
    show pu O (done.length + 1) f [c] ((done ++ O.z :: List.replicate f.length O.z).set done.length (O.add ((done ++ O.z :: List.replicate f.length O.z).getD done.length O.z) (O.mul x (phN O done.length c)))) = _
    have e1 : (done ++ O.z :: List.replicate f.length O.z).getD done.length O.z = O.z := by
      rw [List.getD_eq_getElem?_getD, List.getElem?_append_right (Nat.le_refl _), Nat.sub_self]
      rfl
    have e2 : ∀ y, (done ++ O.z :: List.replicate f.length O.z).set done.length y = (done ++ [y]) ++ List.replicate f.length O.z := fun y => by
      rw [List.set_append_right _ _ (Nat.le_refl _), Nat.sub_self, List.append_assoc]
      rfl
    rw [e1, A.z_add, e2]
    have := pu_right c f (done ++ [O.mul x (phN O done.length c)])
    rw [List.length_append] at this
    rw [show done.length + 1 = done.length + [O.mul x (phN O done.length c)].length from rfl, this, List.append_assoc]
    rfl
theorem put_right (c : Fin q) (f : P q) : putT O f [c] = trim O (rs O 0 c f) := by
  unfold putT
  have := pu_right A c f []
  rw [List.nil_append, List.nil_append] at this
  rw [show f.length + [c].length - 1 = f.length from rfl]
  exact congrArg (trim O) this
/-! the outer division ends -/
theorem less_short (r t : P q) (hl : r.length = t.length) (h0 : 0 < r.length) (h : t.getD (r.length - 1) O.z = r.getD (r.length - 1) O.z) : (lessE O r t).length < r.length := by
  unfold lessE
  rw [trim_length, List.length_zipWith, ← hl, Nat.min_self]
  obtain ⟨n, hn⟩ : ∃ n, r.length = n + 1 := ⟨r.length - 1, by omega⟩
  rw [hn]
  have hz : zer O (List.zipWith (fun x y => O.add x (O.neg y)) r t) n = true := by
    unfold zer
    refine decide_eq_true ?_
    rw [hn, Nat.add_sub_cancel] at h
    rw [List.getD_eq_getElem?_getD, List.getElem?_zipWith]
    rw [List.getD_eq_getElem?_getD, List.getD_eq_getElem?_getD] at h
    have h1 : n < r.length := by omega
    have h2 : n < t.length := by omega
    rw [List.getElem?_eq_getElem h1, List.getElem?_eq_getElem h2] at h ⊢
    have h' : t[n] = r[n] := h
    show O.add r[n] (O.neg t[n]) = O.z
    rw [h', A.add_neg]
  unfold cnt
  rw [if_pos hz]
  exact Nat.lt_succ_of_le (cnt_le _ _)
omit A in
theorem outT_length (a : Fin q) (r : P q) (h : ¬ r.length < 2) : (outT O a r).length = r.length := by
  unfold outT
  rw [List.length_append, List.length_replicate]
  show r.length - 2 + 2 = r.length
  omega
theorem outR_ends (a : Fin q) : ∀ (n : Nat) (r : P q), r.length < n → ∃ t, outR O a n r = some t
  | 0, _, h => absurd h (Nat.not_lt_zero _)
  | n + 1, r, h => by
    unfold outR
    by_cases k : r.length < 2
    · rw [if_pos k]
      exact ⟨r, rfl⟩
    · rw [if_neg k]
      refine outR_ends a n _ (Nat.lt_of_lt_of_le (less_short A r _ (outT_length a r k).symm (by omega) ?_) (Nat.le_of_lt_succ h))
      unfold outT
      rw [List.getD_eq_getElem?_getD, List.getElem?_append_right (by rw [List.length_replicate]; omega), List.length_replicate, show r.length - 1 - (r.length - 2) = 1 by omega]
      show O.ph (O.ps (r.getD (r.length - 1) O.z)) = _
      rw [A.ph_ps]
end
end M

set_option autoImplicit false
/-! The plain meaning (S) on a small field is the typed one (M). -/
namespace B
open G
/-! evaluation, piece by piece -/
section
variable {ρ ρ' : G.Env} {a b c : G.FE} {d d' d'' : G.D} {i j : Int} {l m : List G.D}
theorem run_rt {np ns : Nat} {f : G.FS} {ds : List G.D} (hl : ds.length = np) (h : f (ds.map some ++ List.replicate ns none) = some (.rt d)) : G.run np ns f ds = some d := by
  unfold G.run
  rw [if_pos hl, h]
theorem run_nx {np ns : Nat} {f : G.FS} {ds : List G.D} (hl : ds.length = np) (h : f (ds.map some ++ List.replicate ns none) = some (.nx ρ')) : G.run np ns f ds = some .non := by
  unfold G.run
  rw [if_pos hl, h]
theorem seq_nx {s t : G.FS} {r : Option G.Res} (h1 : s ρ = some (.nx ρ')) (h2 : t ρ' = r) : G.sSeq s t ρ = r := by
  unfold G.sSeq
  rw [h1]
  exact h2
theorem seq_rt {s t : G.FS} (h1 : s ρ = some (.rt d)) : G.sSeq s t ρ = some (.rt d) := by
  unfold G.sSeq
  rw [h1]
theorem asg {k : Nat} (h : a ρ = some d) : G.sAsg (G.gName k) a ρ = some (.nx (ρ.set k (some d))) := by
  unfold G.sAsg G.gName
  rw [h]
theorem asg2 {k n : Nat} (h : a ρ = some (.tup [d, d'])) : G.sAsg (G.gTup k n) a ρ = some (.nx ((ρ.set k (some d)).set n (some d'))) := by
  unfold G.sAsg G.gTup
  rw [h]
theorem par2 {k n : Nat} (h : a ρ = some d) (h' : b ρ = some d') : G.sPar2 k n a b ρ = some (.nx ((ρ.set k (some d)).set n (some d'))) := by
  unfold G.sPar2
  rw [h, h']
theorem ret (h : a ρ = some d) : G.sRet a ρ = some (.rt d) := by
  unfold G.sRet
  rw [h]
theorem drop (h : a ρ = some d) : G.sDrop a ρ = some (.nx ρ) := by
  unfold G.sDrop
  rw [h]
theorem ifF {t : G.FT} {s u : G.FS} {r : Option G.Res} (h : t ρ = some false) (h2 : u ρ = r) : G.sIf t s u ρ = r := by
  unfold G.sIf
  rw [h]
  exact h2
theorem ifT {t : G.FT} {s u : G.FS} {r : Option G.Res} (h : t ρ = some true) (h2 : s ρ = r) : G.sIf t s u ρ = r := by
  unfold G.sIf
  rw [h]
  exact h2
theorem i2 {g : Int → Int → Option G.D} {r : Option G.D} (h1 : a ρ = some (.int i)) (h2 : b ρ = some (.int j)) (h3 : g i j = r) : G.fI2 g a b ρ = r := by
  unfold G.fI2
  rw [h1, h2]
  exact h3
theorem test {k : Bool} (h : a ρ = some (.bl k)) : G.fTest a ρ = some k := by
  unfold G.fTest
  rw [h]
theorem cons {r : G.FA} {l : List G.D} (h1 : a ρ = some d) (h2 : r ρ = some l) : G.aCons a r ρ = some (d :: l) := by
  unfold G.aCons
  rw [h1, h2]
theorem call {g : List G.D → Option G.D} {f : G.FA} {l : List G.D} {r : Option G.D} (h : f ρ = some l) (h2 : g l = r) : G.fCall g f ρ = r := by
  unfold G.fCall
  rw [h]
  exact h2
theorem len (h : a ρ = some (.lst l)) : G.fB1 G.bLen a ρ = some (.int (l.length : Int)) := by
  unfold G.fB1
  rw [h]
  rfl
theorem lst (h : a ρ = some (.lst l)) : G.fB1 G.bList a ρ = some (.lst l) := by
  unfold G.fB1
  rw [h]
  rfl
theorem ixL {r : Option G.D} (h : a ρ = some (.lst l)) (h2 : b ρ = some (.int i)) (h3 : G.pIx l i = r) : G.fIxL a b ρ = r := by
  unfold G.fIxL
  rw [h, h2]
  exact h3
theorem ixT {r : Option G.D} (h : a ρ = some (.tup l)) (h2 : b ρ = some (.int i)) (h3 : G.pIx l i = r) : G.fIxT a b ρ = r := by
  unfold G.fIxT
  rw [h, h2]
  exact h3
theorem neg (h : a ρ = some (.int i)) : G.fNeg a ρ = some (.int (-i)) := by
  unfold G.fNeg
  rw [h]
theorem cat (h : a ρ = some (.lst l)) (h2 : b ρ = some (.lst m)) (hl : l.length + m.length ≤ 100000) : G.fCat a b ρ = some (.lst (l ++ m)) := by
  unfold G.fCat
  rw [h, h2]
  dsimp only
  rw [if_pos hl]
theorem rep0 {n : Nat} (h2 : b ρ = some (.int n)) (hn : n < 1000) : G.fRep (G.fLst (G.aCons (G.fC (.int 0)) G.aNil)) b ρ = some (.lst (List.replicate n (.int 0))) := by
  have h1 : G.fLst (G.aCons (G.fC (.int 0)) G.aNil) ρ = some (.lst [.int 0]) := rfl
  unfold G.fRep
  rw [h1, h2]
  dsimp only
  rw [if_pos (by
    rw [Bool.and_eq_true, Bool.and_eq_true, decide_eq_true_eq, decide_eq_true_eq, decide_eq_true_eq]
    refine ⟨⟨by omega, by omega⟩, by decide⟩)]
  rw [Int.toNat_natCast]
  congr 2
  have : ∀ n : Nat, (List.replicate n [G.D.int 0]).flatten = List.replicate n (.int 0) := fun n => by
    induction n with
    | zero => rfl
    | succ n ih =>
      rw [List.replicate_succ, List.flatten_cons, ih, List.replicate_succ]
      rfl
  exact this n
theorem fLstE {f : G.FA} (h : f ρ = some l) : G.fLst f ρ = some (.lst l) := by
  unfold G.fLst
  rw [h]
theorem fTupE {f : G.FA} (h : f ρ = some l) : G.fTup f ρ = some (.tup l) := by
  unfold G.fTup
  rw [h]
theorem fIfT {t : G.FT} {r : Option G.D} (h : t ρ = some true) (h2 : a ρ = r) : G.fIf t a b ρ = r := by
  unfold G.fIf
  rw [h]
  exact h2
theorem fIfF {t : G.FT} {r : Option G.D} (h : t ρ = some false) (h2 : b ρ = r) : G.fIf t a b ρ = r := by
  unfold G.fIf
  rw [h]
  exact h2
theorem tNotE {t : G.FT} {k : Bool} (h : t ρ = some k) : G.tNot t ρ = some (!k) := by
  unfold G.tNot
  rw [h]
theorem tAndT {t u : G.FT} {r : Option Bool} (h : t ρ = some true) (h2 : u ρ = r) : G.tAnd t u ρ = r := by
  unfold G.tAnd
  rw [h]
  exact h2
theorem tAndF {t u : G.FT} (h : t ρ = some false) : G.tAnd t u ρ = some false := by
  unfold G.tAnd
  rw [h]
theorem andVT {r : Option G.D} (h : a ρ = some (.bl true)) (h2 : b ρ = r) : G.fAndV a b ρ = r := by
  unfold G.fAndV
  rw [h]
  exact h2
theorem eqE {k : Bool} (h : a ρ = some d) (h2 : b ρ = some d') (h3 : G.eqD d d' = some k) : G.fEqD a b ρ = some (.bl k) := by
  unfold G.fEqD
  rw [h, h2]
  dsimp only
  rw [h3]
theorem neE {k : Bool} (h : a ρ = some d) (h2 : b ρ = some d') (h3 : G.eqD d d' = some k) : G.fNeD a b ρ = some (.bl (!k)) := by
  unfold G.fNeD
  rw [h, h2]
  dsimp only
  rw [h3]
theorem lcE {src : G.FI} {g : G.FG} {t : G.FT} {vs : List Nat} {r : List G.D} (h : src ρ = some l) (h2 : G.lcD g t a (G.wipeE ρ vs) l = some r) : G.fLc src g t a vs ρ = some (.lst r) := by
  unfold G.fLc
  rw [h]
  dsimp only
  rw [h2]
theorem iListE (h : a ρ = some (.lst l)) (hl : l.length ≤ 100000) : G.iList a ρ = some l := by
  unfold G.iList
  rw [h]
  dsimp only
  rw [if_pos hl]
theorem iEnumE (h : a ρ = some (.lst l)) (hl : l.length ≤ 100000) : G.iEnum a ρ = some (G.enumD 0 l) := by
  unfold G.iEnum
  rw [h]
  dsimp only
  rw [if_pos hl]
theorem iRangeE {n : Nat} (h : a ρ = some (.int n)) (hl : n ≤ 100000) : G.iRange1 a ρ = some ((List.range n).map fun i => .int (i : Nat)) := by
  unfold G.iRange1
  rw [h]
  dsimp only
  rw [if_pos ⟨by omega, by omega⟩, Int.toNat_natCast]
/-- comprehension over coded items, no test -/
theorem lcMap {α : Type} {k : Nat} {g h : α → G.D} : ∀ (xs : List α), (∀ x, x ∈ xs → a (ρ.set k (some (g x))) = some (h x)) → G.lcD (G.gName k) G.tYes a ρ (xs.map g) = some (xs.map h)
  | [], _ => rfl
  | x :: xs, H => by
    have ih := lcMap xs fun y hy => H y (List.mem_cons_of_mem _ hy)
    show (match a (ρ.set k (some (g x))), G.lcD (G.gName k) G.tYes a ρ (xs.map g) with | some y, some l => some (y :: l) | _, _ => none) = _
    rw [H x List.mem_cons_self, ih]
    rfl
theorem lcFil {α : Type} {k : Nat} {g h : α → G.D} {t : G.FT} {p : α → Bool} : ∀ (xs : List α), (∀ x, x ∈ xs → t (ρ.set k (some (g x))) = some (p x)) → (∀ x, x ∈ xs → a (ρ.set k (some (g x))) = some (h x)) → G.lcD (G.gName k) t a ρ (xs.map g) = some ((xs.filter p).map h)
  | [], _, _ => rfl
  | x :: xs, T, H => by
    have ih := lcFil xs (fun y hy => T y (List.mem_cons_of_mem _ hy)) fun y hy => H y (List.mem_cons_of_mem _ hy)
    show (match t (ρ.set k (some (g x))) with | some true => (match a (ρ.set k (some (g x))), G.lcD (G.gName k) t a ρ (xs.map g) with | some y, some l => some (y :: l) | _, _ => none) | some false => G.lcD (G.gName k) t a ρ (xs.map g) | none => none) = _
    rw [T x List.mem_cons_self]
    cases e : p x with
    | true =>
      dsimp only
      rw [H x List.mem_cons_self, ih, List.filter_cons_of_pos e]
      rfl
    | false =>
      dsimp only
      rw [ih, List.filter_cons_of_neg (by rw [e]; exact Bool.false_ne_true)]
end
/-! codes -/
def e {q : Nat} (x : Fin q) : G.D := .int ((x.val : Nat) : Int)
def eL {q : Nat} (f : M.P q) : G.D := .lst (f.map e)
def cI {q : Nat} (f : M.P q) : List Int := f.map fun x => ((x.val : Nat) : Int)
theorem eL_L {q : Nat} (f : M.P q) : eL f = S.L (cI f) := by
  unfold eL S.L cI
  rw [List.map_map]
  rfl
theorem ints_eL {q : Nat} : ∀ f : M.P q, G.ints? (f.map e) = some (cI f)
  | [] => rfl
  | x :: r => by
    show (match G.ints? (r.map e) with | some l => some (((x.val : Nat) : Int) :: l) | none => none) = _
    rw [ints_eL r]
    rfl
theorem cI_inj {q : Nat} : ∀ {f g : M.P q}, cI f = cI g → f = g
  | [], [], _ => rfl
  | [], _ :: _, h => by cases h
  | _ :: _, [], h => by cases h
  | x :: f, y :: g, h => by
    have h' : ((x.val : Nat) : Int) :: cI f = ((y.val : Nat) : Int) :: cI g := h
    injection h' with h1 h2
    rw [cI_inj h2, Fin.ext (Int.ofNat.inj h1)]
theorem eq_eL {q : Nat} (f g : M.P q) : G.eqD (eL f) (eL g) = some (decide (f = g)) := by
  unfold G.eqD eL
  dsimp only
  rw [ints_eL, ints_eL]
  dsimp only
  congr 1
  exact decide_eq_decide.mpr ⟨cI_inj, fun h => by rw [h]⟩
open M
structure Br {q : Nat} (O : Ops q) (F : G.Fld) (l : List G.D) : Prop where
  A : Laws O
  z0 : O.z.val = 0
  u1 : O.u.val = 1
  els : O.els.map (fun x => x.val) = List.range q
  q1 : 1 < q
  q2 : q ≤ 100
  size : F.size = (q : Int)
  plus : ∀ a b, S.plus_of [.fld F, e a, e b] = some (e (O.add a b))
  minus : ∀ a, S.minus_of [.fld F, .int 0, e a] = some (e (O.neg a))
  times : ∀ a b, S.times_of [.fld F, e a, e b] = some (e (O.mul a b))
  over : ∀ a : Fin q, S.over_of [.fld F, e a, .int 1] = some (e a)
  turned : ∀ (a : Fin q) (k : Nat), k ≤ 3 → S.turned_of [.fld F, e a, .int k] = some (e (phN O k a))
  turnm : ∀ a : Fin q, S.turned_of [.fld F, e a, .int (-1)] = some (e (O.ps a))
  phu : ∀ k : Nat, k ≤ 3 → phN O k O.u = O.u
  mulu : ∀ a, O.mul a O.u = a
  isin : ∀ a : Fin q, S.is_in [.fld F, e a] = some (.bl true)
  norm : ∀ a, a ≠ O.z → S.norm [.fld F, e a] = some (e (O.nm a))
  nmz : O.nm O.z = O.z
  wturned : ∀ (a : Fin q) (k : Nat), k ≤ 3 → S.law_turned [.lst l, e a, .int k] = some (e (phN O k a))
  wline : ∀ a : Fin q, S.law_line [.lst l, e a] = some (eL [O.neg a, O.u])
  wback : ∀ a c : Fin q, c ≠ O.z → S.law_back [.lst l, e a, e c] = some (e (O.bk a c))
  wadd : ∀ a b : Fin q, ∃ rows row, G.pIx l 3 = some (.lst rows) ∧ G.pIx rows ((a.val : Nat) : Int) = some (.lst row) ∧ G.pIx row ((b.val : Nat) : Int) = some (e (O.add a b))
  wmul : ∀ a b : Fin q, ∃ rows row, G.pIx l 4 = some (.lst rows) ∧ G.pIx rows ((a.val : Nat) : Int) = some (.lst row) ∧ G.pIx row ((b.val : Nat) : Int) = some (e (O.mul a b))
  hq : G.pIx l 2 = some (.int (q : Int))
  lr : S.okLR F l (q : Int)
section
variable {q : Nat} {O : Ops q} {F : G.Fld} {l : List G.D} (R : Br O F l)
include R
theorem ez : e O.z = .int 0 := by unfold e; rw [R.z0]; rfl
theorem eu : e O.u = .int 1 := by unfold e; rw [R.u1]; rfl
theorem eq0 (a : Fin q) : G.gEq ((a.val : Nat) : Int) 0 = some (.bl (decide (a = O.z))) := by
  unfold G.gEq
  congr 2
  refine decide_eq_decide.mpr ⟨fun h => Fin.ext (by rw [R.z0]; omega), fun h => by rw [h, R.z0]; rfl⟩
omit R in
theorem pIx_eL (f : P q) (k : Nat) (h : k < f.length) : G.pIx (f.map e) (k : Int) = some (e (f.getD k O.z)) := by
  unfold G.pIx
  rw [if_pos (by omega), Int.toNat_natCast, List.getElem?_map, List.getD_eq_getElem?_getD, List.getElem?_eq_getElem h]
  rfl
omit R in
theorem pIx_last (f : P q) (h : 0 < f.length) : G.pIx (f.map e) (-1) = some (e (f.getD (f.length - 1) O.z)) := by
  unfold G.pIx
  rw [if_neg (by omega), if_pos (by rw [List.length_map]; omega), List.length_map, show (-1 + (f.length : Int)).toNat = f.length - 1 by omega, List.getElem?_map, List.getD_eq_getElem?_getD, List.getElem?_eq_getElem (by omega)]
  rfl
/-- told_of's loop -/
theorem told_go (f : P q) : ∀ (k n : Nat), k ≤ f.length → k < n → G.whileD (G.tAnd (G.fTest (G.fI2 G.gGt (G.fVar 1) (G.fC (.int 0)))) (G.fTest (G.fI2 G.gEq (G.fIxL (G.fVar 0) (G.fI2 G.gSub (G.fVar 1) (G.fC (.int 1)))) (G.fC (.int 0))))) (G.sAsg (G.gName 1) (G.fI2 G.gSub (G.fVar 1) (G.fC (.int 1)))) n [some (eL f), some (.int k)] = some [some (eL f), some (.int (cnt (zer O f) k : Nat))]
  | 0, n + 1, _, _ => by
    unfold G.whileD
    rw [tAndF (test (k := false) (i2 (i := 0) (j := 0) rfl rfl rfl))]
    rfl
  | k + 1, n + 1, h1, h2 => by
    have hs : G.fI2 G.gSub (G.fVar 1) (G.fC (.int 1)) [some (eL f), some (.int (k + 1 : Nat))] = some (.int (k : Nat)) := i2 (i := ((k + 1 : Nat) : Int)) (j := 1) rfl rfl (by unfold G.gSub; congr 2; omega)
    have ht : G.tAnd (G.fTest (G.fI2 G.gGt (G.fVar 1) (G.fC (.int 0)))) (G.fTest (G.fI2 G.gEq (G.fIxL (G.fVar 0) (G.fI2 G.gSub (G.fVar 1) (G.fC (.int 1)))) (G.fC (.int 0)))) [some (eL f), some (.int (k + 1 : Nat))] = some (zer O f k) :=
      tAndT (test (i2 (i := ((k + 1 : Nat) : Int)) (j := 0) rfl rfl (by unfold G.gGt; congr 2; exact decide_eq_true (by omega)))) (test (i2 (ixL (l := f.map e) rfl hs (pIx_eL f k (by omega))) rfl (eq0 R _)))
    unfold G.whileD
    rw [ht]
    unfold cnt
    cases hz : zer O f k with
    | true =>
      dsimp only
      rw [asg hs]
      dsimp only
      rw [if_pos rfl]
      exact told_go f k n (by omega) (by omega)
    | false =>
      dsimp only
      rw [if_neg Bool.false_ne_true]
theorem told_of (f : P q) (h : f.length < 30) : S.told_of [eL f] = some (eL (trim O f)) := by
  refine run_rt rfl ?_
  refine seq_nx (asg (len (l := f.map e) rfl)) ?_
  rw [List.length_map]
  have hw := told_go R f f.length 30 (Nat.le_refl _) h
  refine seq_nx (ρ' := [some (eL f), some (.int (cnt (zer O f) f.length : Nat))]) ?_ ?_
  · show (match G.whileD _ _ 30 [some (eL f), some (.int (f.length : Nat))] with | some ρ' => some (G.Res.nx ρ') | none => none) = _
    rw [hw]
  · refine ret (lst ?_)
    show (match some (eL f), some (none : Option Int), some (some ((cnt (zer O f) f.length : Nat) : Int)) with | some (.lst l), some x, some y => some (G.D.lst (G.cutD l x y)) | _, _, _ => none) = _
    show some (G.D.lst (G.cutD (f.map e) none (some ((cnt (zer O f) f.length : Nat) : Int)))) = _
    congr 2
    unfold G.cutD
    show ((f.map e).drop 0).take (G.cIx (f.map e).length (f.map e).length (some ((cnt (zer O f) f.length : Nat) : Int)) - 0) = _
    unfold G.cIx
    rw [List.drop_zero, Nat.sub_zero]
    dsimp only
    rw [if_neg (by omega), Int.toNat_natCast, List.length_map, Nat.min_eq_left (cnt_le _ _)]
    unfold trim
    rw [List.map_take]
end
end B

set_option autoImplicit false
/-! Bridges: turners, division, inner and outer ones. -/
namespace B
open G M
section
variable {q : Nat} {O : Ops q} {F : G.Fld} {l : List G.D} (R : Br O F l)
include R
omit R in
theorem eL_len (f : P q) : ((f.map e).length : Int) = (f.length : Int) := by rw [List.length_map]
theorem is_sum (f : P q) (h : f.length ≤ 13) : S.is_sum [.fld F, eL f] = some (.bl true) := by
  refine run_rt rfl (ret (andVT (call (cons rfl rfl) rfl) (andVT (i2 (i := (f.length : Int)) (j := 13) (by rw [len (l := f.map e) rfl, eL_len]) rfl ?_) ?_)))
  · unfold G.gLe
    congr 2
    exact decide_eq_true (by omega)
  · have h1 : G.fLc (G.iList (G.fVar 1)) (G.gName 2) G.tYes (G.fCall S.is_in (G.aCons (G.fVar 0) (G.aCons (G.fVar 2) G.aNil))) [2] [some (.fld F), some (eL f), none] = some (.lst (f.map fun _ => G.D.bl true)) :=
      lcE (iListE (l := f.map e) rfl (by rw [List.length_map]; omega)) (lcMap f fun x _ => call (cons rfl (cons rfl rfl)) (R.isin x))
    have h2 : ∀ f : P q, G.bools? (f.map fun _ => G.D.bl true) = some (f.map fun _ => true) := fun f => by
      induction f with
      | nil => rfl
      | cons x r ih =>
        show (match G.bools? (r.map fun _ => G.D.bl true) with | some l => some (true :: l) | none => none) = _
        rw [ih]
        rfl
    show G.fB1 G.bAll (G.fLc (G.iList (G.fVar 1)) (G.gName 2) G.tYes (G.fCall S.is_in (G.aCons (G.fVar 0) (G.aCons (G.fVar 2) G.aNil))) [2]) [some (.fld F), some (eL f), none] = _
    unfold G.fB1
    rw [h1]
    show (match G.bools? (f.map fun _ => G.D.bl true) with | some x => some (G.D.bl (x.all id)) | none => none) = _
    rw [h2]
    show some (G.D.bl ((f.map fun _ => true).all id)) = _
    congr 2
    rw [List.all_eq_true]
    intro x hx
    obtain ⟨_, _, rfl⟩ := List.mem_map.mp hx
    rfl
theorem want_turner (f : P q) (h : f.length ≤ 13) : S.want_turner [.fld F, eL f] = some (eL (trim O f)) :=
  run_rt rfl (seq_nx (ifF (tNotE (test (call (cons rfl (cons rfl rfl)) (is_sum R f h)))) rfl) (ret (call (cons rfl rfl) (told_of R f (by omega)))))
omit R in
theorem want_field : S.want_field [.fld F] = some (.fld F) := rfl
theorem told (f : P q) (h : f.length ≤ 13) : S.told [.fld F, eL f] = some (eL (trim O f)) :=
  run_rt rfl (seq_nx (drop (call (cons rfl rfl) want_field)) (ret (call (cons rfl (cons rfl rfl)) (want_turner R f h))))
theorem want_standing (f : P q) (h : f.length ≤ 13) (hn : trim O f ≠ []) : S.want_standing [.fld F, eL f] = some (eL (trim O f)) := by
  refine run_rt rfl (seq_nx (drop (call (cons rfl rfl) want_field)) (seq_nx (asg (call (cons rfl (cons rfl rfl)) (want_turner R f h))) (seq_nx (ifF (test (k := false) (eqE rfl (fLstE rfl) ?_)) rfl) (ret rfl))))
  have := eq_eL (trim O f) []
  rw [decide_eq_false hn] at this
  exact this
/-! rest_at, inners_of -/
theorem rest_go (b : Fin q) (tn : G.D) : ∀ (f : P q) (acc pt : Fin q) (o : Option G.D), ∃ (o' : Option G.D) (pt' : Fin q), G.loopD (G.gName 3) (G.sSeq (G.sAsg (G.gName 4) (G.fCall S.plus_of (G.aCons (G.fVar 0) (G.aCons (G.fVar 4) (G.aCons (G.fCall S.times_of (G.aCons (G.fVar 0) (G.aCons (G.fVar 3) (G.aCons (G.fVar 5) G.aNil)))) G.aNil)))))
    (G.sAsg (G.gName 5) (G.fCall S.times_of (G.aCons (G.fVar 0) (G.aCons (G.fCall S.turned_of (G.aCons (G.fVar 0) (G.aCons (G.fVar 5) (G.aCons (G.fC (.int 1)) G.aNil)))) (G.aCons (G.fVar 2) G.aNil))))))
    (f.map e) [some (.fld F), some tn, some (e b), o, some (e acc), some (e pt)] = some [some (.fld F), some tn, some (e b), o', some (e (raF O b acc pt f)), some (e pt')]
  | [], acc, pt, o => ⟨o, pt, rfl⟩
  | x :: f, acc, pt, o => by
    obtain ⟨o', pt', h⟩ := rest_go b tn f (O.add acc (O.mul x pt)) (O.mul (O.ph pt) b) (some (e x))
    refine ⟨o', pt', ?_⟩
    have hb : (G.sSeq (G.sAsg (G.gName 4) (G.fCall S.plus_of (G.aCons (G.fVar 0) (G.aCons (G.fVar 4) (G.aCons (G.fCall S.times_of (G.aCons (G.fVar 0) (G.aCons (G.fVar 3) (G.aCons (G.fVar 5) G.aNil)))) G.aNil)))))
        (G.sAsg (G.gName 5) (G.fCall S.times_of (G.aCons (G.fVar 0) (G.aCons (G.fCall S.turned_of (G.aCons (G.fVar 0) (G.aCons (G.fVar 5) (G.aCons (G.fC (.int 1)) G.aNil)))) (G.aCons (G.fVar 2) G.aNil))))))
        [some (.fld F), some tn, some (e b), some (e x), some (e acc), some (e pt)] = some (.nx [some (.fld F), some tn, some (e b), some (e x), some (e (O.add acc (O.mul x pt))), some (e (O.mul (O.ph pt) b))]) :=
      seq_nx (asg (call (cons rfl (cons rfl (cons (call (cons rfl (cons rfl (cons rfl rfl))) (R.times x pt)) rfl))) (R.plus _ _)))
        (asg (call (cons rfl (cons (call (cons rfl (cons rfl (cons rfl rfl))) (R.turned pt 1 (by decide))) (cons rfl rfl))) (R.times _ _)))
    show (match G.gName 3 (e x) [some (.fld F), some tn, some (e b), o, some (e acc), some (e pt)] with | some ρ1 => _ | none => none) = _
    show (match (G.sSeq _ _) [some (.fld F), some tn, some (e b), some (e x), some (e acc), some (e pt)] with | some (.nx ρ2) => G.loopD _ _ (f.map e) ρ2 | _ => none) = _
    rw [hb]
    exact h
theorem rest_at (f : P q) (b : Fin q) (hl : f.length ≤ 1000) : S.rest_at [.fld F, eL f, e b] = some (e (raF O b O.z O.u f)) := by
  obtain ⟨o', pt', h⟩ := rest_go R b (eL f) f O.z O.u none
  rw [ez R, eu R] at h
  refine run_rt rfl (seq_nx (asg2 (fTupE (cons rfl (cons rfl rfl)))) ?_)
  refine seq_nx (ρ' := [some (.fld F), some (eL f), some (e b), o', some (e (raF O b O.z O.u f)), some (e pt')]) ?_ (ret rfl)
  have hi : G.iList (G.fVar 1) [some (.fld F), some (eL f), some (e b), none, some (.int 0), some (.int 1)] = some (f.map e) := iListE rfl (by rw [List.length_map]; omega)
  show (match G.iList (G.fVar 1) [some (.fld F), some (eL f), some (e b), none, some (.int 0), some (.int 1)] with | some l => (match G.loopD _ _ l [some (.fld F), some (eL f), some (e b), none, some (.int 0), some (.int 1)] with | some ρ' => some (G.Res.nx ρ') | none => none) | none => none) = _
  rw [hi]
  dsimp only
  rw [h]
theorem range_els : ((List.range q).map fun i => G.D.int (i : Nat)) = O.els.map e := by
  rw [← R.els, List.map_map]
  rfl
theorem size_ev (ρ : G.Env) (h : ρ.getD 0 none = some (.fld F)) : G.fAttr 2 (G.fVar 0) ρ = some (.int (q : Nat)) := by
  unfold G.fAttr G.fVar
  rw [h]
  show some (G.D.int F.size) = _
  rw [R.size]
theorem inners_of (f : P q) (hl : f.length ≤ 1000) : S.inners_of [.fld F, eL f] = some (eL (inners O f)) := by
  have hi := iRangeE (ρ := [some (.fld F), some (eL f), none]) (size_ev R _ rfl) (by have := R.q2; omega)
  rw [range_els R] at hi
  refine run_rt rfl (ret (lcE hi (lcFil O.els (p := fun b => decide (raF O b O.z O.u f = O.z)) (fun b _ => ?_) fun b _ => rfl)))
  exact test (i2 (call (cons rfl (cons rfl (cons rfl rfl))) (rest_at R f b hl)) rfl (eq0 R _))
/-! less_turners -/
omit R in
theorem pIx_nat (f : P q) (k : Nat) (h : k < f.length) : G.pIx (f.map e) (k : Int) = some (e (f.getD k O.z)) := pIx_eL f k h
omit R in
theorem zip_getD (r t : P q) (h : r.length = t.length) : (List.range r.length).map (fun i => O.add (r.getD i O.z) (t.getD i O.z)) = List.zipWith O.add r t := by
  apply List.ext_getElem
  · rw [List.length_map, List.length_range, List.length_zipWith, ← h, Nat.min_self]
  · intro i h1 h2
    rw [List.length_map, List.length_range] at h1
    rw [List.getElem_map, List.getElem_range, List.getElem_zipWith, List.getD_eq_getElem?_getD, List.getD_eq_getElem?_getD, List.getElem?_eq_getElem h1, List.getElem?_eq_getElem (by omega)]
    rfl
theorem sum_turners (r t : P q) (h : r.length = t.length) (hl : r.length ≤ 20) : S.sum_turners [.fld F, eL r, eL t] = some (eL (trim O (List.zipWith O.add r t))) := by
  have hlen : (List.zipWith O.add r t).length = r.length := by rw [List.length_zipWith, ← h, Nat.min_self]
  refine run_rt rfl (seq_nx (ρ' := [some (.fld F), some (eL r), some (eL t), none, some (eL r), some (eL t), none]) (asg2 (fIfT (test (k := true) (i2 (i := (r.length : Int)) (j := (t.length : Int)) (by rw [len (l := r.map e) rfl, eL_len]) (by rw [len (l := t.map e) rfl, eL_len]) (by unfold G.gGe; congr 2; exact decide_eq_true (by omega)))) (fTupE (cons rfl (cons rfl rfl))))) ?_)
  have h5 : G.fB1 G.bLen (G.fVar 5) [some (.fld F), some (eL r), some (eL t), none, some (eL r), some (eL t), none] = some (.int (r.length : Nat)) := by rw [len (l := t.map e) rfl, eL_len, h]
  have hlc : G.fLc (G.iRange1 (G.fB1 G.bLen (G.fVar 5))) (G.gName 6) G.tYes (G.fCall S.plus_of (G.aCons (G.fVar 0) (G.aCons (G.fIxL (G.fVar 4) (G.fVar 6)) (G.aCons (G.fIxL (G.fVar 5) (G.fVar 6)) G.aNil)))) [6] [some (.fld F), some (eL r), some (eL t), none, some (eL r), some (eL t), none] =
      some (.lst ((List.range r.length).map fun i => e (O.add (r.getD i O.z) (t.getD i O.z)))) :=
    lcE (iRangeE h5 (by omega)) (lcMap (List.range r.length) fun i hi => by
      have hi' := List.mem_range.mp hi
      exact call (cons rfl (cons (ixL (l := r.map e) rfl rfl (pIx_eL (O := O) r i hi')) (cons (ixL (l := t.map e) rfl rfl (pIx_eL (O := O) t i (by omega))) rfl))) (R.plus _ _))
  refine seq_nx (asg hlc) ?_
  have ez1 : ((List.range r.length).map fun i => e (O.add (r.getD i O.z) (t.getD i O.z))) = (List.zipWith O.add r t).map e := by
    rw [← zip_getD r t h, List.map_map]
    rfl
  rw [ez1]
  refine ret (call (l := [eL (List.zipWith O.add r t)]) (cons ?_ rfl) (told_of R _ (by omega)))
  have hsl : G.fSl (G.fVar 4) (G.oSome (G.fB1 G.bLen (G.fVar 5))) G.oNone [some (.fld F), some (eL r), some (eL t), some (.lst ((List.zipWith O.add r t).map e)), some (eL r), some (eL t), none] = some (.lst []) := by
    have h6 : G.fB1 G.bLen (G.fVar 5) [some (.fld F), some (eL r), some (eL t), some (.lst ((List.zipWith O.add r t).map e)), some (eL r), some (eL t), none] = some (.int (r.length : Nat)) := by rw [len (l := t.map e) rfl, eL_len, h]
    unfold G.fSl G.oSome
    rw [h6]
    show some (G.D.lst (G.cutD (r.map e) (some ((r.length : Nat) : Int)) none)) = _
    unfold G.cutD G.cIx
    dsimp only
    rw [if_neg (by omega), Int.toNat_natCast, List.length_map, Nat.min_self, List.drop_eq_nil_of_le (by rw [List.length_map]; exact Nat.le_refl _), List.take_nil]
  have := cat (a := G.fVar 3) (l := (List.zipWith O.add r t).map e) (ρ := [some (.fld F), some (eL r), some (eL t), some (.lst ((List.zipWith O.add r t).map e)), some (eL r), some (eL t), none]) rfl hsl (by rw [List.length_map]; simp; omega)
  rw [List.append_nil] at this
  exact this
theorem less_turners (r t : P q) (h : r.length = t.length) (hl : r.length ≤ 20) : S.less_turners [.fld F, eL r, eL t] = some (eL (lessE O r t)) := by
  have h1 : G.fLc (G.iList (G.fVar 2)) (G.gName 3) G.tYes (G.fCall S.minus_of (G.aCons (G.fVar 0) (G.aCons (G.fC (.int 0)) (G.aCons (G.fVar 3) G.aNil)))) [3] [some (.fld F), some (eL r), some (eL t), none] = some (eL (t.map O.neg)) := by
    have := lcE (vs := [3]) (ρ := [some (.fld F), some (eL r), some (eL t), none]) (iListE (a := G.fVar 2) (l := t.map e) rfl (by rw [List.length_map]; omega)) (lcMap (a := G.fCall S.minus_of (G.aCons (G.fVar 0) (G.aCons (G.fC (.int 0)) (G.aCons (G.fVar 3) G.aNil)))) (k := 3) (h := fun x => e (O.neg x)) t fun x _ => call (cons rfl (cons rfl (cons rfl rfl))) (R.minus x))
    rw [show (t.map fun x => e (O.neg x)) = (t.map O.neg).map e by rw [List.map_map]; rfl] at this
    exact this
  refine run_rt rfl (ret (call (cons rfl (cons rfl (cons h1 rfl))) ?_))
  rw [sum_turners R r (t.map O.neg) (by rw [List.length_map]; exact h) hl]
  unfold lessE
  rw [List.zipWith_map_right]
end
end B

set_option autoImplicit false
/-! Bridges: division, products. -/
namespace B
open G M
theorem setIx {ρ : G.Env} {a v : G.FE} {d : G.D} {x k : Nat} {l : List G.D} (h1 : v ρ = some d) (h2 : ρ.getD x none = some (.lst l)) (h3 : a ρ = some (.int k)) (hk : k < l.length) : G.sSetIx x a v ρ = some (.nx (ρ.set x (some (.lst (l.set k d))))) := by
  unfold G.sSetIx
  rw [h1, h2, h3]
  dsimp only
  rw [if_pos (by rw [Bool.and_eq_true, decide_eq_true_eq, decide_eq_true_eq]; omega), Int.toNat_natCast]
theorem whT {t : G.FT} {b : G.FS} {n : Nat} {ρ ρ2 : G.Env} {r : Option G.Env} (h1 : t ρ = some true) (h2 : b ρ = some (.nx ρ2)) (h3 : G.whileD t b n ρ2 = r) : G.whileD t b (n + 1) ρ = r := by
  unfold G.whileD
  rw [h1]
  dsimp only
  rw [h2]
  exact h3
theorem whF {t : G.FT} {b : G.FS} {n : Nat} {ρ : G.Env} (h1 : t ρ = some false) : G.whileD t b (n + 1) ρ = some ρ := by
  unfold G.whileD
  rw [h1]
theorem sWh {t : G.FT} {b : G.FS} {n : Nat} {ρ ρ2 : G.Env} (h : G.whileD t b n ρ = some ρ2) : G.sWhile n t b ρ = some (.nx ρ2) := by
  unfold G.sWhile
  rw [h]
abbrev tDiv : G.FT := G.fTest (G.fI2 G.gGe (G.fB1 G.bLen (G.fVar 3)) (G.fB1 G.bLen (G.fVar 2)))
abbrev bInn : G.FS := (G.sSeq (G.sAsg (G.gName 5) (G.fI2 G.gSub (G.fB1 G.bLen (G.fVar 3)) (G.fB1 G.bLen (G.fVar 2))))
  (G.sSeq (G.sAsg (G.gName 6) (G.fCall S.over_of (G.aCons (G.fVar 0) (G.aCons (G.fIxL (G.fVar 3) (G.fNeg (G.fC (.int 1)))) (G.aCons (G.fCall S.turned_of (G.aCons (G.fVar 0) (G.aCons (G.fIxL (G.fVar 2) (G.fNeg (G.fC (.int 1)))) (G.aCons (G.fVar 5) G.aNil)))) G.aNil)))))
  (G.sSeq (G.sSetIx 4 (G.fVar 5) (G.fVar 6))
  (G.sSeq (G.sAsg (G.gName 7) (G.fLc (G.iList (G.fVar 2)) (G.gName 8) G.tYes (G.fCall S.times_of (G.aCons (G.fVar 0) (G.aCons (G.fVar 6) (G.aCons (G.fCall S.turned_of (G.aCons (G.fVar 0) (G.aCons (G.fVar 8) (G.aCons (G.fVar 5) G.aNil)))) G.aNil)))) [8]))
  (G.sAsg (G.gName 3) (G.fCall S.less_turners (G.aCons (G.fVar 0) (G.aCons (G.fVar 3) (G.aCons (G.fCat (G.fRep (G.fLst (G.aCons (G.fC (.int 0)) G.aNil)) (G.fVar 5)) (G.fVar 7)) G.aNil)))))))))
abbrev bOut : G.FS := (G.sSeq (G.sAsg (G.gName 5) (G.fI2 G.gSub (G.fB1 G.bLen (G.fVar 3)) (G.fB1 G.bLen (G.fVar 2))))
  (G.sSeq (G.sAsg (G.gName 6) (G.fCall S.turned_of (G.aCons (G.fVar 0) (G.aCons (G.fCall S.over_of (G.aCons (G.fVar 0) (G.aCons (G.fIxL (G.fVar 3) (G.fNeg (G.fC (.int 1)))) (G.aCons (G.fIxL (G.fVar 2) (G.fNeg (G.fC (.int 1)))) G.aNil)))) (G.aCons (G.fI2 G.gSub (G.fC (.int 1)) (G.fB1 G.bLen (G.fVar 2))) G.aNil)))))
  (G.sSeq (G.sSetIx 4 (G.fVar 5) (G.fVar 6))
  (G.sSeq (G.sAsg (G.gName 7) (G.fLc (G.iEnum (G.fVar 2)) (G.gTup 8 9) G.tYes (G.fCall S.times_of (G.aCons (G.fVar 0) (G.aCons (G.fVar 9) (G.aCons (G.fCall S.turned_of (G.aCons (G.fVar 0) (G.aCons (G.fVar 6) (G.aCons (G.fVar 8) G.aNil)))) G.aNil)))) [8, 9]))
  (G.sAsg (G.gName 3) (G.fCall S.less_turners (G.aCons (G.fVar 0) (G.aCons (G.fVar 3) (G.aCons (G.fCat (G.fRep (G.fLst (G.aCons (G.fC (.int 0)) G.aNil)) (G.fVar 5)) (G.fVar 7)) G.aNil)))))))))
section
variable {q : Nat} {O : Ops q} {F : G.Fld} {l : List G.D} (R : Br O F l)
include R
theorem rep_eL (n : Nat) (t : P q) : List.replicate n (G.D.int 0) ++ t.map e = (List.replicate n O.z ++ t).map e := by
  rw [List.map_append, List.map_replicate, ez R]
theorem inT_len (a : Fin q) (r : P q) (h : ¬ r.length < 2) : (inT O a r).length = r.length := by
  unfold inT
  rw [List.length_append, List.length_replicate]
  show r.length - 2 + 2 = r.length
  omega
theorem inT_last (a : Fin q) (r : P q) (h : ¬ r.length < 2) : (inT O a r).getD (r.length - 1) O.z = r.getD (r.length - 1) O.z := by
  unfold inT
  rw [List.getD_eq_getElem?_getD, List.getElem?_append_right (by rw [List.length_replicate]; omega), List.length_replicate, show r.length - 1 - (r.length - 2) = 1 by omega]
  rfl
omit R in
theorem test_div (r : P q) (a b : Fin q) {o1 o2 o3 o4 o5 : Option G.D} {tl : List (Option G.D)} : tDiv (some (.fld F) :: o1 :: some (eL [a, b]) :: some (eL r) :: tl) = some (!decide (r.length < 2)) := by
  refine test (i2 (i := (r.length : Int)) (j := 2) (by rw [len (l := r.map e) rfl, eL_len]) (len (l := [a, b].map e) rfl) ?_)
  unfold G.gGe
  congr 2
  by_cases h : r.length < 2
  · rw [decide_eq_true h]; exact decide_eq_false (by omega)
  · rw [decide_eq_false h]; exact decide_eq_true (by omega)
theorem inn_step (a : Fin q) (one : G.D) (r qo : P q) (o5 o6 o7 : Option G.D) (h : ¬ r.length < 2) (h5 : r.length ≤ 5) (hq : r.length ≤ qo.length + 1) :
    ∃ o5' o6' o7', bInn [some (.fld F), some one, some (eL [O.neg a, O.u]), some (eL r), some (eL qo), o5, o6, o7, none] =
      some (.nx [some (.fld F), some one, some (eL [O.neg a, O.u]), some (eL (lessE O r (inT O a r))), some (eL (qo.set (r.length - 2) (r.getD (r.length - 1) O.z))), o5', o6', o7', none]) := by
  refine ⟨some (.int (r.length - 2 : Nat)), some (e (r.getD (r.length - 1) O.z)), some (eL [O.mul (r.getD (r.length - 1) O.z) (phN O (r.length - 2) (O.neg a)), r.getD (r.length - 1) O.z]), ?_⟩
  have e5 : G.fI2 G.gSub (G.fB1 G.bLen (G.fVar 3)) (G.fB1 G.bLen (G.fVar 2)) [some (.fld F), some one, some (eL [O.neg a, O.u]), some (eL r), some (eL qo), o5, o6, o7, none] = some (.int (r.length - 2 : Nat)) :=
    i2 (i := (r.length : Int)) (j := 2) (by rw [len (l := r.map e) rfl, eL_len]) (len (l := [O.neg a, O.u].map e) rfl) (by unfold G.gSub; congr 2; omega)
  refine seq_nx (asg e5) ?_
  have el : G.pIx (r.map e) (-1) = some (e (r.getD (r.length - 1) O.z)) := pIx_last r (by omega)
  have eo : G.pIx ([O.neg a, O.u].map e) (-1) = some (e O.u) := pIx_last (O := O) [O.neg a, O.u] (by show 0 < 2; decide)
  refine seq_nx (asg (d := e (r.getD (r.length - 1) O.z)) (call (cons rfl (cons (ixL (l := r.map e) rfl rfl el) (cons (call (cons rfl (cons (ixL (l := [O.neg a, O.u].map e) rfl rfl eo) (cons rfl rfl))) (R.turned O.u (r.length - 2) (by omega))) rfl))) ?_)) ?_
  · rw [R.phu _ (by omega), eu R]
    exact R.over _
  refine seq_nx (setIx (l := qo.map e) (k := r.length - 2) rfl rfl rfl (by rw [List.length_map]; omega)) ?_
  refine seq_nx (asg (lcE (iListE (l := [O.neg a, O.u].map e) rfl (by show 2 ≤ 100000; decide)) (lcMap [O.neg a, O.u] (h := fun y => e (O.mul (r.getD (r.length - 1) O.z) (phN O (r.length - 2) y))) fun y _ => call (cons rfl (cons rfl (cons (call (cons rfl (cons rfl (cons rfl rfl))) (R.turned y (r.length - 2) (by omega))) rfl))) (R.times _ _)))) ?_
  have e7 : [O.neg a, O.u].map (fun y => e (O.mul (r.getD (r.length - 1) O.z) (phN O (r.length - 2) y))) = [O.mul (r.getD (r.length - 1) O.z) (phN O (r.length - 2) (O.neg a)), r.getD (r.length - 1) O.z].map e := by
    show [_, e (O.mul (r.getD (r.length - 1) O.z) (phN O (r.length - 2) O.u))] = [_, e (r.getD (r.length - 1) O.z)]
    rw [R.phu _ (by omega), R.mulu]
  rw [e7]
  have esq : (qo.map e).set (r.length - 2) (e (r.getD (r.length - 1) O.z)) = (qo.set (r.length - 2) (r.getD (r.length - 1) O.z)).map e := by rw [List.map_set]
  rw [esq]
  refine asg (call (cons rfl (cons rfl (cons (cat (rep0 (n := r.length - 2) rfl (by omega)) rfl ?_) rfl))) ?_)
  · rw [List.length_replicate]
    show r.length - 2 + 2 ≤ 100000
    omega
  · rw [rep_eL R]
    exact less_turners R r (inT O a r) (inT_len R a r h).symm (by omega)
theorem inn_go (a : Fin q) (one : G.D) : ∀ (n : Nat) (r qo qo' r' : P q) (o5 o6 o7 : Option G.D), r.length ≤ 5 → r.length ≤ qo.length + 1 → inW O a n r qo = some (qo', r') →
    ∃ o5' o6' o7', G.whileD tDiv bInn n [some (.fld F), some one, some (eL [O.neg a, O.u]), some (eL r), some (eL qo), o5, o6, o7, none] = some [some (.fld F), some one, some (eL [O.neg a, O.u]), some (eL r'), some (eL qo'), o5', o6', o7', none]
  | 0, _, _, _, _, _, _, _, _, _, h => by cases h
  | n + 1, r, qo, qo', r', o5, o6, o7, h5, hq, h => by
    unfold inW at h
    by_cases k : r.length < 2
    · rw [if_pos k] at h
      cases h
      exact ⟨o5, o6, o7, whF (by rw [test_div (o1 := some one) (o2 := none) (o3 := none) (o4 := none) (o5 := none), decide_eq_true k]; rfl)⟩
    · rw [if_neg k] at h
      obtain ⟨p5, p6, p7, hs⟩ := inn_step R a one r qo o5 o6 o7 k h5 hq
      have hsh := less_short R.A r (inT O a r) (inT_len R a r k).symm (by omega) (inT_last R a r k)
      obtain ⟨p5', p6', p7', hw⟩ := inn_go a one n _ _ qo' r' p5 p6 p7 (by omega) (by rw [List.length_set]; omega) h
      exact ⟨p5', p6', p7', whT (by rw [test_div (o1 := some one) (o2 := none) (o3 := none) (o4 := none) (o5 := none), decide_eq_false k]; rfl) hs hw⟩
theorem zeros_ev {ρ : G.Env} (f : P q) (a b : Fin q) (h0 : 0 < f.length) (hf : f.length ≤ 20) (h1 : ρ.getD 1 none = some (eL f)) (h2 : ρ.getD 2 none = some (eL [a, b])) :
    G.fRep (G.fLst (G.aCons (G.fC (.int 0)) G.aNil)) (G.fI2 G.gMax2 (G.fC (.int 0)) (G.fI2 G.gAdd (G.fI2 G.gSub (G.fB1 G.bLen (G.fVar 1)) (G.fB1 G.bLen (G.fVar 2))) (G.fC (.int 1)))) ρ = some (eL (List.replicate (f.length - 1) O.z)) := by
  have := rep0 (ρ := ρ) (n := f.length - 1) (b := (G.fI2 G.gMax2 (G.fC (.int 0)) (G.fI2 G.gAdd (G.fI2 G.gSub (G.fB1 G.bLen (G.fVar 1)) (G.fB1 G.bLen (G.fVar 2))) (G.fC (.int 1)))))
    (i2 (i := 0) (j := (f.length : Int) - 2 + 1) rfl (i2 (i := (f.length : Int) - 2) (j := 1) (i2 (i := (f.length : Int)) (j := 2) (by rw [len (l := f.map e) h1, eL_len]) (len (l := [a, b].map e) h2) rfl) rfl rfl) (by
      unfold G.gMax2
      congr 2
      by_cases k : (f.length : Int) - 2 + 1 > 0
      · rw [if_pos k]; omega
      · rw [if_neg k]; omega)) (by omega)
  rw [this]
  unfold eL
  rw [List.map_replicate, ez R]
theorem inner_parts (a : Fin q) (f qo' r' : P q) (h0 : 0 < f.length) (h5 : f.length ≤ 5) (h : inW O a 30 f (List.replicate (f.length - 1) O.z) = some (qo', r')) :
    S.inner_parts [.fld F, eL f, eL [O.neg a, O.u]] = some (.tup [eL qo', eL r']) := by
  obtain ⟨o5, o6, o7, hw⟩ := inn_go R a (eL f) 30 f _ qo' r' none none none h5 (by rw [List.length_replicate]; omega) h
  refine run_rt rfl (seq_nx (par2 rfl (zeros_ev R f (O.neg a) O.u h0 (by omega) rfl rfl)) (seq_nx (sWh hw) (ret (fTupE (cons rfl (cons rfl rfl))))))
theorem line_of (a : Fin q) : S.line_of [.fld F, e a] = some (eL [O.neg a, O.u]) := by
  refine run_rt rfl (ret (fLstE (cons (call (cons rfl (cons rfl rfl)) (R.minus a)) (cons ?_ rfl))))
  rw [eu R]
  rfl
theorem less_inner (a : Fin q) (f g : P q) (h0 : 0 < f.length) (h5 : f.length ≤ 5) (h : quo O f a = some g) : S.less_inner [.fld F, eL f, e a] = some (eL g) := by
  unfold quo at h
  obtain ⟨⟨qo', r'⟩, h1, h2⟩ := Option.map_eq_some_iff.mp h
  cases h2
  exact run_rt rfl (ret (ixT (call (cons rfl (cons rfl (cons (call (cons rfl (cons rfl rfl)) (line_of R a)) rfl))) (inner_parts R a f _ r' h0 h5 h1)) rfl rfl))
/-! the outer division -/
theorem out_step (a : Fin q) (one : G.D) (r qo : P q) (o5 o6 o7 : Option G.D) (h : ¬ r.length < 2) (h5 : r.length ≤ 5) (hq : r.length ≤ qo.length + 1) :
    ∃ (o5' o6' o7' : Option G.D) (qo' : P q), qo'.length = qo.length ∧ bOut [some (.fld F), some one, some (eL [O.neg a, O.u]), some (eL r), some (eL qo), o5, o6, o7, none, none] =
      some (.nx [some (.fld F), some one, some (eL [O.neg a, O.u]), some (eL (lessE O r (outT O a r))), some (eL qo'), o5', o6', o7', none, none]) := by
  refine ⟨some (.int (r.length - 2 : Nat)), some (e (O.ps (r.getD (r.length - 1) O.z))), some (eL [O.mul (O.neg a) (O.ps (r.getD (r.length - 1) O.z)), O.ph (O.ps (r.getD (r.length - 1) O.z))]), qo.set (r.length - 2) (O.ps (r.getD (r.length - 1) O.z)), List.length_set, ?_⟩
  have e5 : G.fI2 G.gSub (G.fB1 G.bLen (G.fVar 3)) (G.fB1 G.bLen (G.fVar 2)) [some (.fld F), some one, some (eL [O.neg a, O.u]), some (eL r), some (eL qo), o5, o6, o7, none, none] = some (.int (r.length - 2 : Nat)) :=
    i2 (i := (r.length : Int)) (j := 2) (by rw [len (l := r.map e) rfl, eL_len]) (len (l := [O.neg a, O.u].map e) rfl) (by unfold G.gSub; congr 2; omega)
  refine seq_nx (asg e5) ?_
  have el : G.pIx (r.map e) (-1) = some (e (r.getD (r.length - 1) O.z)) := pIx_last r (by omega)
  have eo : G.pIx ([O.neg a, O.u].map e) (-1) = some (e O.u) := pIx_last (O := O) [O.neg a, O.u] (by show 0 < 2; decide)
  refine seq_nx (asg (d := e (O.ps (r.getD (r.length - 1) O.z))) (call (cons rfl (cons (call (cons rfl (cons (ixL (l := r.map e) rfl rfl el) (cons (ixL (l := [O.neg a, O.u].map e) rfl rfl eo) rfl))) (by rw [eu R]; exact R.over _)) (cons (i2 (i := 1) (j := 2) rfl (len (l := [O.neg a, O.u].map e) rfl) rfl) rfl))) (R.turnm _))) ?_
  refine seq_nx (setIx (l := qo.map e) (k := r.length - 2) rfl rfl rfl (by rw [List.length_map]; omega)) ?_
  have hlc : ∀ ρ : G.Env, ρ.length = 10 → ρ.getD 0 none = some (.fld F) → ρ.getD 2 none = some (eL [O.neg a, O.u]) → ρ.getD 6 none = some (e (O.ps (r.getD (r.length - 1) O.z))) → G.fLc (G.iEnum (G.fVar 2)) (G.gTup 8 9) G.tYes (G.fCall S.times_of (G.aCons (G.fVar 0) (G.aCons (G.fVar 9) (G.aCons (G.fCall S.turned_of (G.aCons (G.fVar 0) (G.aCons (G.fVar 6) (G.aCons (G.fVar 8) G.aNil)))) G.aNil)))) [8, 9] ρ =
      some (eL [O.mul (O.neg a) (O.ps (r.getD (r.length - 1) O.z)), O.ph (O.ps (r.getD (r.length - 1) O.z))]) := fun ρ hl h0 h2 h6 => by
    match ρ, hl with
    | [r0, r1, r2, r3, r4, r5, r6, r7, r8, r9], _ =>
      have h0' : r0 = some (.fld F) := h0
      have h2' : r2 = some (eL [O.neg a, O.u]) := h2
      have h6' : r6 = some (e (O.ps (r.getD (r.length - 1) O.z))) := h6
      subst h0'
      subst h2'
      subst h6'
      refine lcE (iEnumE (l := [O.neg a, O.u].map e) rfl (by show 2 ≤ 100000; decide)) ?_
      have v1 : (G.fCall S.times_of (G.aCons (G.fVar 0) (G.aCons (G.fVar 9) (G.aCons (G.fCall S.turned_of (G.aCons (G.fVar 0) (G.aCons (G.fVar 6) (G.aCons (G.fVar 8) G.aNil)))) G.aNil)))) [some (.fld F), r1, some (eL [O.neg a, O.u]), r3, r4, r5, some (e (O.ps (r.getD (r.length - 1) O.z))), r7, some (.int (0 : Nat)), some (e (O.neg a))] = some (e (O.mul (O.neg a) (O.ps (r.getD (r.length - 1) O.z)))) :=
        call (cons rfl (cons rfl (cons (call (cons rfl (cons rfl (cons rfl rfl))) (R.turned (O.ps (r.getD (r.length - 1) O.z)) 0 (by decide))) rfl))) (R.times _ _)
      have v2 : (G.fCall S.times_of (G.aCons (G.fVar 0) (G.aCons (G.fVar 9) (G.aCons (G.fCall S.turned_of (G.aCons (G.fVar 0) (G.aCons (G.fVar 6) (G.aCons (G.fVar 8) G.aNil)))) G.aNil)))) [some (.fld F), r1, some (eL [O.neg a, O.u]), r3, r4, r5, some (e (O.ps (r.getD (r.length - 1) O.z))), r7, some (.int (1 : Nat)), some (e O.u)] = some (e (O.ph (O.ps (r.getD (r.length - 1) O.z)))) :=
        call (cons rfl (cons rfl (cons (call (cons rfl (cons rfl (cons rfl rfl))) (R.turned (O.ps (r.getD (r.length - 1) O.z)) 1 (by decide))) rfl))) ((R.times _ _).trans (by rw [R.A.u_mul]; rfl))
      show (match (G.fCall S.times_of (G.aCons (G.fVar 0) (G.aCons (G.fVar 9) (G.aCons (G.fCall S.turned_of (G.aCons (G.fVar 0) (G.aCons (G.fVar 6) (G.aCons (G.fVar 8) G.aNil)))) G.aNil)))) [some (.fld F), r1, some (eL [O.neg a, O.u]), r3, r4, r5, some (e (O.ps (r.getD (r.length - 1) O.z))), r7, some (.int (0 : Nat)), some (e (O.neg a))],
        (match (G.fCall S.times_of (G.aCons (G.fVar 0) (G.aCons (G.fVar 9) (G.aCons (G.fCall S.turned_of (G.aCons (G.fVar 0) (G.aCons (G.fVar 6) (G.aCons (G.fVar 8) G.aNil)))) G.aNil)))) [some (.fld F), r1, some (eL [O.neg a, O.u]), r3, r4, r5, some (e (O.ps (r.getD (r.length - 1) O.z))), r7, some (.int (1 : Nat)), some (e O.u)], (some [] : Option (List G.D)) with | some y, some l => some (y :: l) | _, _ => none) with | some y, some l => some (y :: l) | _, _ => none) = _
      rw [v1, v2]
      rfl
  refine seq_nx (asg (hlc _ rfl rfl rfl rfl)) ?_
  have esq : (qo.map e).set (r.length - 2) (e (O.ps (r.getD (r.length - 1) O.z))) = (qo.set (r.length - 2) (O.ps (r.getD (r.length - 1) O.z))).map e := by rw [List.map_set]
  rw [esq]
  refine asg (call (cons rfl (cons rfl (cons (cat (l := List.replicate (r.length - 2) (.int 0)) (m := [O.mul (O.neg a) (O.ps (r.getD (r.length - 1) O.z)), O.ph (O.ps (r.getD (r.length - 1) O.z))].map e) (rep0 (n := r.length - 2) rfl (by omega)) rfl ?_) rfl))) ?_)
  · rw [List.length_replicate]
    show r.length - 2 + 2 ≤ 100000
    omega
  · rw [rep_eL R]
    exact less_turners R r (outT O a r) (outT_length a r h).symm (by omega)
theorem outT_last (a : Fin q) (r : P q) (h : ¬ r.length < 2) : (outT O a r).getD (r.length - 1) O.z = r.getD (r.length - 1) O.z := by
  unfold outT
  rw [List.getD_eq_getElem?_getD, List.getElem?_append_right (by rw [List.length_replicate]; omega), List.length_replicate, show r.length - 1 - (r.length - 2) = 1 by omega]
  show O.ph (O.ps (r.getD (r.length - 1) O.z)) = _
  rw [R.A.ph_ps]
theorem out_go (a : Fin q) (one : G.D) : ∀ (n : Nat) (r qo r' : P q) (o5 o6 o7 : Option G.D), r.length ≤ 5 → r.length ≤ qo.length + 1 → outR O a n r = some r' →
    ∃ (o5' o6' o7' : Option G.D) (qo' : P q), G.whileD tDiv bOut n [some (.fld F), some one, some (eL [O.neg a, O.u]), some (eL r), some (eL qo), o5, o6, o7, none, none] = some [some (.fld F), some one, some (eL [O.neg a, O.u]), some (eL r'), some (eL qo'), o5', o6', o7', none, none]
  | 0, _, _, _, _, _, _, _, _, h => by cases h
  | n + 1, r, qo, r', o5, o6, o7, h5, hq, h => by
    unfold outR at h
    by_cases k : r.length < 2
    · rw [if_pos k] at h
      cases h
      exact ⟨o5, o6, o7, qo, whF (by rw [test_div (o1 := some one) (o2 := none) (o3 := none) (o4 := none) (o5 := none), decide_eq_true k]; rfl)⟩
    · rw [if_neg k] at h
      obtain ⟨p5, p6, p7, q2, hl2, hs⟩ := out_step R a one r qo o5 o6 o7 k h5 hq
      have hsh := less_short R.A r (outT O a r) (outT_length a r k).symm (by omega) (outT_last R a r k)
      obtain ⟨p5', p6', p7', q3, hw⟩ := out_go a one n _ q2 r' p5 p6 p7 (by omega) (by rw [hl2]; omega) h
      exact ⟨p5', p6', p7', q3, whT (by rw [test_div (o1 := some one) (o2 := none) (o3 := none) (o4 := none) (o5 := none), decide_eq_false k]; rfl) hs hw⟩
theorem outer_parts (a : Fin q) (f r' : P q) (h0 : 0 < f.length) (h5 : f.length ≤ 5) (h : outR O a 30 f = some r') : ∃ qo' : P q, S.outer_parts [.fld F, eL f, eL [O.neg a, O.u]] = some (.tup [eL qo', eL r']) := by
  obtain ⟨o5, o6, o7, qo', hw⟩ := out_go R a (eL f) 30 f (List.replicate (f.length - 1) O.z) r' none none none h5 (by rw [List.length_replicate]; omega) h
  exact ⟨qo', run_rt rfl (seq_nx (par2 rfl (zeros_ev R f (O.neg a) O.u h0 (by omega) rfl rfl)) (seq_nx (sWh hw) (ret (fTupE (cons rfl (cons rfl rfl))))))⟩
theorem outers_of (f : P q) (h0 : 0 < f.length) (h5 : f.length ≤ 5) : S.outers_of [.fld F, eL f] = some (eL (outers O f)) := by
  have hlen : G.fI2 G.gEq (G.fB1 G.bLen (G.fVar 1)) (G.fC (.int 1)) [some (.fld F), some (eL f), none] = some (.bl (decide (f.length = 1))) := by
    refine i2 (i := (f.length : Int)) (j := 1) (by rw [len (l := f.map e) rfl, eL_len]) rfl ?_
    unfold G.gEq
    congr 2
    exact decide_eq_decide.mpr ⟨fun h => by omega, fun h => by omega⟩
  refine run_rt rfl ?_
  unfold outers
  by_cases h1 : f.length = 1
  · rw [if_pos h1]
    rw [decide_eq_true h1] at hlen
    exact seq_rt (ifT (test hlen) (ret rfl))
  · rw [if_neg h1]
    rw [decide_eq_false h1] at hlen
    refine seq_nx (ifF (test hlen) rfl) ?_
    have hi := iRangeE (ρ := [some (.fld F), some (eL f), none]) (size_ev R _ rfl) (by have := R.q2; omega)
    rw [range_els R] at hi
    refine ret (lcE hi (lcFil O.els (p := fun b => decide (outR O b 30 f = some [])) (fun b _ => ?_) fun b _ => rfl))
    obtain ⟨t, ht⟩ := outR_ends R.A b 30 f (by omega)
    obtain ⟨qo', hp⟩ := outer_parts R b f t h0 h5 ht
    have he : decide (outR O b 30 f = some []) = decide (t = []) := by
      rw [ht]
      exact decide_eq_decide.mpr ⟨fun h => Option.some.inj h, fun h => by rw [h]⟩
    rw [he]
    exact test (eqE (d' := eL ([] : P q)) (ixT (l := [eL qo', eL t]) (call (cons rfl (cons rfl (cons (call (cons rfl (cons rfl rfl)) (line_of R b)) rfl))) hp) rfl rfl) rfl (eq_eL t []))
theorem inner_ones (f : P q) (h : f.length ≤ 13) (ht : trim O f = f) (hn : f ≠ []) : S.inner_ones [.fld F, eL f] = some (eL (inners O f)) := by
  have := want_standing R f h (by rw [ht]; exact hn)
  rw [ht] at this
  exact run_rt rfl (ret (call (cons rfl (cons (call (cons rfl (cons rfl rfl)) this) rfl)) (inners_of R f (by omega))))
theorem outer_ones (f : P q) (h : f.length ≤ 5) (ht : trim O f = f) (hn : f ≠ []) : S.outer_ones [.fld F, eL f] = some (eL (outers O f)) := by
  have := want_standing R f (by omega) (by rw [ht]; exact hn)
  rw [ht] at this
  exact run_rt rfl (ret (call (cons rfl (cons (call (cons rfl (cons rfl rfl)) this) rfl)) (outers_of R f (List.length_pos_iff.mpr hn) h)))
end
end B

set_option autoImplicit false
/-! Bridges: the law's own products, sorts, ways. -/
namespace B
open G M
theorem popE {ρ : G.Env} {x : Nat} {l : List G.D} (h : ρ.getD x none = some (.lst l)) (hl : l ≠ []) : G.sPop x ρ = some (.nx (ρ.set x (some (.lst l.dropLast)))) := by
  unfold G.sPop
  rw [h]
  cases l with
  | nil => exact absurd rfl hl
  | cons d r => rfl
theorem loop_cons {g : G.FG} {b : G.FS} {d : G.D} {r : List G.D} {ρ ρ1 ρ2 : G.Env} {z : Option G.Env} (h1 : g d ρ = some ρ1) (h2 : b ρ1 = some (.nx ρ2)) (h3 : G.loopD g b r ρ2 = z) : G.loopD g b (d :: r) ρ = z := by
  unfold G.loopD
  rw [h1]
  dsimp only
  rw [h2]
  exact h3
theorem forE {src : G.FI} {g : G.FG} {b : G.FS} {l : List G.D} {ρ ρ2 : G.Env} (h1 : src ρ = some l) (h2 : G.loopD g b l ρ = some ρ2) : G.sFor src g b ρ = some (.nx ρ2) := by
  unfold G.sFor
  rw [h1]
  dsimp only
  rw [h2]
abbrev tTrim : G.FT := (G.tAnd (G.fTest (G.fNeD (G.fVar 1) (G.fLst G.aNil))) (G.fTest (G.fI2 G.gEq (G.fIxL (G.fVar 1) (G.fNeg (G.fC (.int 1)))) (G.fC (.int 0)))))
abbrev bPut : G.FS := (G.sSeq (G.sAsg (G.gName 8) (G.fIxL (G.fIxL (G.fIxL (G.fVar 0) (G.fC (.int 4))) (G.fVar 5)) (G.fCall S.law_turned (G.aCons (G.fVar 0) (G.aCons (G.fVar 7) (G.aCons (G.fVar 4) G.aNil))))))
  (G.sSetIx 3 (G.fI2 G.gAdd (G.fVar 4) (G.fVar 6)) (G.fIxL (G.fIxL (G.fIxL (G.fVar 0) (G.fC (.int 3))) (G.fIxL (G.fVar 3) (G.fI2 G.gAdd (G.fVar 4) (G.fVar 6)))) (G.fVar 8))))
theorem addAt_length {q : Nat} {O : Ops q} : ∀ (row : P q) (s : Nat) (acc : P q), (addAt O s row acc).length = acc.length
  | [], _, _ => rfl
  | y :: row, s, acc => by
    show (addAt O (s + 1) row (acc.set s _)).length = _
    rw [addAt_length row, List.length_set]
section
variable {q : Nat} {O : Ops q} {F : G.Fld} {l : List G.D} (R : Br O F l)
include R
theorem trim_go (f : P q) (one : G.D) : ∀ (k n : Nat), k ≤ f.length → k < n → G.whileD tTrim (G.sPop 1) n [some one, some (eL (f.take k))] = some [some one, some (eL (f.take (cnt (zer O f) k)))]
  | 0, n + 1, _, _ => by
    refine whF (tAndF (test (k := false) (neE (k := true) rfl (fLstE rfl) ?_)))
    have := eq_eL (f.take 0) []
    rw [decide_eq_true (by simp)] at this
    exact this
  | k + 1, n + 1, h1, h2 => by
    have hlen : (f.take (k + 1)).length = k + 1 := by rw [List.length_take]; omega
    have hne : f.take (k + 1) ≠ [] := fun h => by rw [h] at hlen; cases hlen
    have hlast : (f.take (k + 1)).getD ((f.take (k + 1)).length - 1) O.z = f.getD k O.z := by
      rw [hlen, Nat.add_sub_cancel, List.getD_eq_getElem?_getD, List.getD_eq_getElem?_getD, List.getElem?_take_of_lt (Nat.lt_succ_self k)]
    have ht : tTrim [some one, some (eL (f.take (k + 1)))] = some (zer O f k) := by
      refine tAndT (test (k := true) (neE (k := false) rfl (fLstE rfl) ?_)) (test (i2 (ixL (l := (f.take (k + 1)).map e) rfl rfl ?_) rfl (eq0 R _)))
      · have := eq_eL (f.take (k + 1)) []
        rw [decide_eq_false hne] at this
        exact this
      · have := pIx_last (O := O) (f.take (k + 1)) (by omega)
        rw [hlast] at this
        exact this
    unfold cnt
    cases hz : zer O f k with
    | true =>
      rw [if_pos rfl]
      rw [hz] at ht
      refine whT ht (popE (l := (f.take (k + 1)).map e) rfl (fun h => hne (List.map_eq_nil_iff.mp h))) ?_
      have hd : ((f.take (k + 1)).map e).dropLast = (f.take k).map e := by
        rw [List.dropLast_eq_take, List.length_map, hlen, Nat.add_sub_cancel, ← List.map_take, List.take_take, Nat.min_eq_left (Nat.le_succ k)]
      rw [hd]
      exact trim_go f one k n (by omega) (by omega)
    | false =>
      rw [if_neg Bool.false_ne_true]
      rw [hz] at ht
      exact whF ht
theorem law_trim (f : P q) (h : f.length < 30) : S.law_trim [eL f] = some (eL (trim O f)) := by
  have hw := trim_go R f (eL f) f.length 30 (Nat.le_refl _) h
  rw [List.take_length] at hw
  exact run_rt rfl (seq_nx (asg (lst rfl)) (seq_nx (sWh hw) (ret rfl)))
theorem put_inner (W1 W2 : G.D) (x : Fin q) (s : Nat) (hs : s ≤ 3) : ∀ (g : P q) (t : Nat) (acc : P q) (o6 o7 o8 : Option G.D), s + t + g.length ≤ acc.length →
    ∃ (o6' o7' o8' : Option G.D), G.loopD (G.gTup 6 7) bPut (G.enumD t (g.map e)) [some (.lst l), some W1, some W2, some (eL acc), some (.int (s : Nat)), some (e x), o6, o7, o8] =
      some [some (.lst l), some W1, some W2, some (eL (addAt O (s + t) (g.map fun y => O.mul x (phN O s y)) acc)), some (.int (s : Nat)), some (e x), o6', o7', o8']
  | [], t, acc, o6, o7, o8, _ => ⟨o6, o7, o8, rfl⟩
  | y :: g, t, acc, o6, o7, o8, h => by
    rw [List.length_cons] at h
    obtain ⟨o6', o7', o8', ih⟩ := put_inner W1 W2 x s hs g (t + 1) (acc.set (s + t) (O.add (acc.getD (s + t) O.z) (O.mul x (phN O s y)))) (some (.int (t : Nat))) (some (e y)) (some (e (O.mul x (phN O s y)))) (by rw [List.length_set]; omega)
    refine ⟨o6', o7', o8', ?_⟩
    obtain ⟨rows, row, m1, m2, m3⟩ := R.wmul x (phN O s y)
    obtain ⟨rowsA, rowA, a1, a2, a3⟩ := R.wadd (acc.getD (s + t) O.z) (O.mul x (phN O s y))
    refine loop_cons (ρ1 := [some (.lst l), some W1, some W2, some (eL acc), some (.int (s : Nat)), some (e x), some (.int (t : Nat)), some (e y), o8]) rfl (seq_nx (asg (d := e (O.mul x (phN O s y))) ?_) (setIx (l := acc.map e) (k := s + t) (d := e (O.add (acc.getD (s + t) O.z) (O.mul x (phN O s y)))) ?_ rfl ?_ ?_)) ?_
    · exact ixL (l := row) (ixL (l := rows) (ixL (l := l) rfl rfl m1) rfl m2) (call (cons rfl (cons rfl (cons rfl rfl))) (R.wturned y s hs)) m3
    · exact ixL (l := rowA) (ixL (l := rowsA) (ixL (l := l) rfl rfl a1) (ixL (l := acc.map e) rfl (i2 (i := (s : Nat)) (j := (t : Nat)) (r := some (.int ((s + t : Nat) : Int))) rfl rfl rfl) (pIx_eL (O := O) acc (s + t) (by omega))) a2) rfl a3
    · exact i2 (i := (s : Nat)) (j := (t : Nat)) (r := some (.int ((s + t : Nat) : Int))) rfl rfl rfl
    · rw [List.length_map]; omega
    · have eset : (acc.map e).set (s + t) (e (O.add (acc.getD (s + t) O.z) (O.mul x (phN O s y)))) = (acc.set (s + t) (O.add (acc.getD (s + t) O.z) (O.mul x (phN O s y)))).map e := by rw [List.map_set]
      rw [eset]
      exact ih
theorem put_outer (W1 : G.D) (g : P q) : ∀ (f : P q) (s : Nat) (acc : P q) (o4 o5 o6 o7 o8 : Option G.D), s + f.length ≤ 4 → s + f.length + g.length ≤ acc.length + 1 → g.length ≤ 100 →
    ∃ (o4' o5' o6' o7' o8' : Option G.D), G.loopD (G.gTup 4 5) (G.sFor (G.iEnum (G.fVar 2)) (G.gTup 6 7) bPut) (G.enumD s (f.map e)) [some (.lst l), some W1, some (eL g), some (eL acc), o4, o5, o6, o7, o8] =
      some [some (.lst l), some W1, some (eL g), some (eL (pu O s f g acc)), o4', o5', o6', o7', o8']
  | [], s, acc, o4, o5, o6, o7, o8, _, _, _ => ⟨o4, o5, o6, o7, o8, rfl⟩
  | x :: f, s, acc, o4, o5, o6, o7, o8, h, h2, hg => by
    rw [List.length_cons] at h h2
    obtain ⟨p6, p7, p8, hin⟩ := put_inner R W1 (eL g) x s (by omega) g 0 acc o6 o7 o8 (by omega)
    obtain ⟨o4', o5', o6', o7', o8', ih⟩ := put_outer W1 g f (s + 1) (addAt O s (g.map fun y => O.mul x (phN O s y)) acc) (some (.int (s : Nat))) (some (e x)) p6 p7 p8 (by omega) (by rw [addAt_length]; omega) hg
    exact ⟨o4', o5', o6', o7', o8', loop_cons (ρ1 := [some (.lst l), some W1, some (eL g), some (eL acc), some (.int (s : Nat)), some (e x), o6, o7, o8]) rfl (forE (iEnumE (l := g.map e) rfl (by rw [List.length_map]; omega)) hin) ih⟩
theorem pu_length (g : P q) : ∀ (f : P q) (s : Nat) (acc : P q), (pu O s f g acc).length = acc.length
  | [], _, _ => rfl
  | x :: f, s, acc => by
    show (pu O (s + 1) f g (addAt O s _ acc)).length = _
    rw [pu_length g f, addAt_length]
theorem law_put (f g : P q) (hf : 0 < f.length) (hf4 : f.length ≤ 4) (hg : 0 < g.length) (hg4 : g.length ≤ 5) : S.law_put [.lst l, eL f, eL g] = some (eL (putT O f g)) := by
  obtain ⟨o4, o5, o6, o7, o8, hw⟩ := put_outer R (eL f) g f 0 (List.replicate (f.length + g.length - 1) O.z) none none none none none (by omega) (by rw [List.length_replicate]; omega) (by omega)
  have hz : G.fRep (G.fLst (G.aCons (G.fC (.int 0)) G.aNil)) (G.fI2 G.gMax2 (G.fC (.int 0)) (G.fI2 G.gSub (G.fI2 G.gAdd (G.fB1 G.bLen (G.fVar 1)) (G.fB1 G.bLen (G.fVar 2))) (G.fC (.int 1)))) [some (.lst l), some (eL f), some (eL g), none, none, none, none, none, none] = some (eL (List.replicate (f.length + g.length - 1) O.z)) := by
    rw [rep0 (n := f.length + g.length - 1) (i2 (i := 0) (j := (f.length : Int) + (g.length : Int) - 1) rfl (i2 (i := (f.length : Int) + (g.length : Int)) (j := 1) (i2 (i := (f.length : Int)) (j := (g.length : Int)) (by rw [len (l := f.map e) rfl, eL_len]) (by rw [len (l := g.map e) rfl, eL_len]) rfl) rfl rfl) (by
      unfold G.gMax2
      congr 2
      rw [if_pos (by omega)]
      omega)) (by omega)]
    unfold eL
    rw [List.map_replicate, ez R]
  refine run_rt rfl (seq_nx (asg hz) (seq_nx (forE (iEnumE (l := f.map e) rfl (by rw [List.length_map]; omega)) hw) (ret (call (cons rfl rfl) ?_))))
  refine law_trim R _ ?_
  rw [pu_length R, List.length_replicate]
  omega
theorem law_sorts (w : P q) (hw : w.length ≤ 1000) : S.law_sorts [.fld F, eL w] = some (S.L (G.sortI (cI (w.map O.nm)))) := by
  have h1 : G.fLc (G.iList (G.fVar 1)) (G.gName 2) G.tYes (G.fIf (G.fTest (G.fI2 G.gNe (G.fVar 2) (G.fC (.int 0)))) (G.fCall S.norm (G.aCons (G.fVar 0) (G.aCons (G.fVar 2) G.aNil))) (G.fC (.int 0))) [2] [some (.fld F), some (eL w), none] = some (.lst (w.map fun a => e (O.nm a))) := by
    refine lcE (iListE (l := w.map e) rfl (by rw [List.length_map]; omega)) (lcMap w fun a _ => ?_)
    have hn : ∀ ρ : G.Env, ρ.getD 2 none = some (e a) → G.fTest (G.fI2 G.gNe (G.fVar 2) (G.fC (.int 0))) ρ = some (!decide (a = O.z)) := fun ρ hρ => test (i2 hρ rfl (by
      unfold G.gNe
      have := eq0 R a
      unfold G.gEq at this
      injection this with this
      injection this with this
      rw [this]))
    by_cases ha : a = O.z
    · refine fIfF (by rw [hn _ rfl, decide_eq_true ha]; rfl) ?_
      rw [ha, R.nmz, ez R]
      rfl
    · exact fIfT (by rw [hn _ rfl, decide_eq_false ha]; rfl) (call (cons rfl (cons rfl rfl)) (R.norm a ha))
  refine run_rt rfl (ret ?_)
  show G.fB1 G.bSortI (G.fLc (G.iList (G.fVar 1)) (G.gName 2) G.tYes (G.fIf (G.fTest (G.fI2 G.gNe (G.fVar 2) (G.fC (.int 0)))) (G.fCall S.norm (G.aCons (G.fVar 0) (G.aCons (G.fVar 2) G.aNil))) (G.fC (.int 0))) [2]) [some (.fld F), some (eL w), none] = _
  unfold G.fB1
  rw [h1]
  have e1 : (w.map fun a => e (O.nm a)) = (w.map O.nm).map e := by rw [List.map_map]; rfl
  rw [e1]
  show (match G.ints? ((w.map O.nm).map e) with | some x => some (G.D.lst ((G.sortI x).map .int)) | none => none) = _
  rw [ints_eL]
  rfl
/-! ways -/
theorem asOf (f : P q) (hl : f.length ≤ 1000) : S.asOf F (cI f) = some (cI (inners O f)) := by
  unfold S.asOf
  rw [← eL_L, inners_of R f hl]
  show (match G.ints? ((inners O f).map e) with | some as => if as.length ≤ 128 then some as else none | none => none) = _
  rw [ints_eL]
  dsimp only
  rw [if_pos ?_]
  unfold cI inners
  rw [List.length_map]
  have h1 := List.length_filter_le (fun b => decide (raF O b O.z O.u f = O.z)) O.els
  have h2 := congrArg List.length R.els
  rw [List.length_map, List.length_range] at h2
  have := R.q2
  omega
theorem qOf (f g : P q) (a : Fin q) (h0 : 0 < f.length) (h5 : f.length ≤ 5) (h : quo O f a = some g) : S.qOf F (cI f) ((a.val : Nat) : Int) = some (cI g) := by
  unfold S.qOf
  rw [← eL_L]
  have := less_inner R a f g h0 h5 h
  rw [show [G.D.fld F, eL f, G.D.int ((a.val : Nat) : Int)] = [.fld F, eL f, e a] from rfl, this]
  exact ints_eL g
omit R in
theorem inW_len (a : Fin q) : ∀ (n : Nat) (r qo qo' r' : P q), inW O a n r qo = some (qo', r') → qo'.length = qo.length
  | 0, _, _, _, _, h => by cases h
  | n + 1, r, qo, qo', r', h => by
    unfold inW at h
    by_cases k : r.length < 2
    · rw [if_pos k] at h
      cases h
      rfl
    · rw [if_neg k] at h
      have := inW_len a n _ _ qo' r' h
      rw [List.length_set] at this
      exact this
omit R in
theorem quo_len (f g : P q) (a : Fin q) (h : quo O f a = some g) : g.length = f.length - 1 := by
  unfold quo at h
  obtain ⟨⟨qo', r'⟩, h1, h2⟩ := Option.map_eq_some_iff.mp h
  cases h2
  have := inW_len a 30 f _ qo' r' h1
  rw [List.length_replicate] at this
  exact this
omit R in
theorem mapO_tr {α β γ δ : Type} {g : α → Option β} {h : γ → Option δ} {v : α → γ} {t : β → δ} (H : ∀ a b, g a = some b → h (v a) = some (t b)) : ∀ (as : List α) (l : List β), M.mapO g as = some l → S.mapO h (as.map v) = some (l.map t)
  | [], l, e => by
    cases e
    rfl
  | a :: as, l, e => by
    unfold M.mapO at e
    split at e
    · rename_i b m z1 z2
      cases e
      show (match h (v a), S.mapO h (as.map v) with | some b, some l => some (b :: l) | _, _ => none) = _
      rw [H a b z1, mapO_tr H as m z2]
      rfl
    · cases e
omit R in
theorem mapO_mem {α β : Type} {g : α → Option β} : ∀ (as : List α) (l : List β), M.mapO g as = some l → ∀ b ∈ l, ∃ a, g a = some b
  | [], l, e, b, hb => by
    cases e
    cases hb
  | a :: as, l, e, b, hb => by
    unfold M.mapO at e
    split at e
    · rename_i b' m z1 z2
      cases e
      rcases List.mem_cons.mp hb with h | h
      · rw [h]; exact ⟨a, z1⟩
      · exact mapO_mem as m z2 b h
    · cases e
omit R in
theorem ways_len : ∀ (n : Nat) (f : P q) (ws : List (P q)), waysT O n f = some ws → ∀ w ∈ ws, w.length ≤ n
  | 0, _, _, h => by cases h
  | n + 1, f, ws, h => by
    unfold waysT at h
    by_cases k : f.length = 1
    · rw [if_pos k] at h
      cases h
      intro w hw
      rw [List.mem_singleton.mp hw]
      exact Nat.zero_le _
    · rw [if_neg k] at h
      split at h
      · rename_i m z
        split at h
        · cases h
          intro w hw
          obtain ⟨rows, h1, h2⟩ := List.mem_flatten.mp hw
          obtain ⟨a, ha⟩ := mapO_mem _ _ z rows h1
          unfold stepT at ha
          split at ha
          · rename_i g zg
            split at ha
            · rename_i vs zv
              cases ha
              obtain ⟨v, hv, rfl⟩ := List.mem_map.mp h2
              have := ways_len n g vs zv v hv
              rw [List.length_append]
              exact Nat.succ_le_succ this
            · cases ha
          · cases ha
        · cases h
      · cases h
theorem waysF : ∀ (n : Nat) (f : P q) (ws : List (P q)), n ≤ 100 → 0 < f.length → f.length ≤ 5 → waysT O n f = some ws → S.waysF n F (cI f) = some (ws.map cI) ∧ S.manyF n F (cI f) = some (ws.length : Int)
  | 0, _, _, _, _, _, h => by cases h
  | n + 1, f, ws, hn, h0, h5, h => by
    have hlen : (cI f).length = f.length := by unfold cI; rw [List.length_map]
    have hall := ways_len (n + 1) f ws h
    unfold waysT at h
    rw [S.waysF_eq, S.manyF_eq]
    unfold S.stepW S.stepM
    rw [hlen]
    by_cases k : f.length = 1
    · rw [if_pos k] at h
      cases h
      rw [if_pos k, if_pos k]
      exact ⟨rfl, rfl⟩
    · rw [if_neg k] at h
      rw [if_neg k, if_neg k, asOf R f (by omega)]
      split at h
      · rename_i m z
        split at h
        · rename_i hle
          cases h
          have hw := mapO_tr (h := fun a => match S.qOf F (cI f) a with | some q => (match S.waysF n F q with | some ws => some (ws.map fun w => w ++ [a]) | none => none) | none => none) (v := fun a : Fin q => ((a.val : Nat) : Int)) (t := fun rows => rows.map cI) (fun a b hab => by
            unfold stepT at hab
            split at hab
            · rename_i g zg
              split at hab
              · rename_i vs zv
                cases hab
                have hg := quo_len f g a zg
                obtain ⟨i1, i2⟩ := waysF n g vs (by omega) (by omega) (by omega) zv
                rw [qOf R f g a h0 h5 zg]
                dsimp only
                rw [i1]
                dsimp only
                congr 1
                rw [List.map_map, List.map_map]
                apply List.map_congr_left
                intro w _
                show cI w ++ [((a.val : Nat) : Int)] = cI (w ++ [a])
                unfold cI
                rw [List.map_append]
                rfl
              · cases hab
            · cases hab) _ _ z
          have hm := mapO_tr (h := fun a => match S.qOf F (cI f) a with | some q => S.manyF n F q | none => none) (v := fun a : Fin q => ((a.val : Nat) : Int)) (t := fun rows : List (P q) => (rows.length : Int)) (fun a b hab => by
            unfold stepT at hab
            split at hab
            · rename_i g zg
              split at hab
              · rename_i vs zv
                cases hab
                have hg := quo_len f g a zg
                obtain ⟨i1, i2⟩ := waysF n g vs (by omega) (by omega) (by omega) zv
                rw [qOf R f g a h0 h5 zg]
                dsimp only
                rw [i2, List.length_map]
              · cases hab
            · cases hab) _ _ z
          have hfl : (m.map fun rows => rows.map cI).flatten = m.flatten.map cI := by
            rw [List.map_flatten]
          constructor
          · have key : ∀ o : Option (List (List (List Int))), o = some (m.map fun rows => rows.map cI) → (match o with | some l => if l.flatten.length ≤ 10000 ∧ (∀ w ∈ l.flatten, w.length ≤ 1000) then some l.flatten else none | none => none) = some (m.flatten.map cI) := fun o ho => by
              rw [ho]
              dsimp only
              rw [hfl, if_pos ⟨by rw [List.length_map]; omega, fun w hw => by
                obtain ⟨v, hv, rfl⟩ := List.mem_map.mp hw
                have := hall v hv
                unfold cI
                rw [List.length_map]
                omega⟩]
            exact key _ hw
          · have key : ∀ o : Option (List Int), o = some (m.map fun rows => (rows.length : Int)) → (match o with | some l => some l.sum | none => none) = some (m.flatten.length : Int) := fun o ho => by
              rw [ho]
              dsimp only
              congr 1
              have : ∀ m : List (List (P q)), (m.map fun rows => (rows.length : Int)).sum = (m.flatten.length : Int) := fun m => by
                induction m with
                | nil => rfl
                | cons x r ih =>
                  rw [List.map_cons, List.sum_cons, ih, List.flatten_cons, List.length_append]
                  omega
              exact this m
            exact key _ hm
        · cases h
      · cases h
theorem ways (f : P q) (ws : List (P q)) (h0 : 0 < f.length) (h5 : f.length ≤ 5) (ht : trim O f = f) (h : waysT O 4 f = some ws) (hl : ws.length ≤ 400) : S.ways [.fld F, eL f] = some (S.LL (S.sortRows (ws.map cI))) := by
  obtain ⟨h1, h2⟩ := waysF R 4 f ws (by decide) h0 h5 h
  have h3 := want_standing R f (by omega) (by rw [ht]; exact List.length_pos_iff.mp h0)
  rw [ht] at h3
  have h4 : S.want_at_most [.txt, .int 4, .int (((cI f).length : Int) - 1)] = some .non := by
    refine run_nx (ρ' := [some .txt, some (.int 4), some (.int (((cI f).length : Int) - 1))]) rfl (ifF (test (k := false) (i2 (i := ((cI f).length : Int) - 1) (j := 4) rfl rfl ?_)) rfl)
    unfold G.gGt
    congr 2
    refine decide_eq_false ?_
    unfold cI
    rw [List.length_map]
    omega
  unfold S.ways
  dsimp only
  rw [h3]
  show (match G.ints? (f.map e) with | some t => _ | none => none) = _
  rw [ints_eL]
  dsimp only
  rw [h4, h2, h1]
  dsimp only
  rw [if_pos ⟨by omega, by rw [List.length_map]; exact hl, fun r hr => by
    obtain ⟨w, hw, rfl⟩ := List.mem_map.mp hr
    have := ways_len 4 f ws h w hw
    unfold cI
    rw [List.length_map]
    omega⟩]
end
end B

set_option autoImplicit false
set_option linter.all false
/-! okField from the bridges and the checks. -/
namespace B
open G M
section
variable {q : Nat} (O : Ops q)
def sN (w : P q) : List Int := G.sortI (cI (w.map O.nm))
def goodF (f : P q) : Bool := match waysT O 4 f with
  | some (w :: r) => decide ((w :: r).length ≤ 400) && r.all (fun v => decide (sN O v = sN O w)) && decide (trim O f = f) && decide (2 ≤ f.length) && decide (f.length ≤ 4)
  | _ => false
def allG : Nat → P q → Bool
  | 0, _ => true
  | m + 1, f => O.els.all fun a => goodF O (putT O f [O.neg a, O.u]) && allG m (putT O f [O.neg a, O.u])
def prod (f : P q) (as : P q) : P q := as.foldl (fun g a => putT O g [O.neg a, O.u]) f
structure Chk (m : Nat) : Prop where
  bkld : ∀ b c, c ≠ O.z → O.bk (O.ld b c) c = b
  ldbk : ∀ a c, c ≠ O.z → O.ld (O.bk a c) c = a
  all : allG O m [O.u] = true
end
section
variable {q : Nat} {O : Ops q} {F : G.Fld} {l : List G.D} (R : Br O F l)
include R
theorem mem_els (a : Fin q) : a ∈ O.els := by
  have h : a.val ∈ O.els.map (fun x => x.val) := by rw [R.els]; exact List.mem_range.mpr a.isLt
  obtain ⟨b, hb, e⟩ := List.mem_map.mp h
  rw [← Fin.ext e]
  exact hb
theorem allG_spec : ∀ (m : Nat) (f : P q) (as : P q), allG O m f = true → 1 ≤ as.length → as.length ≤ m → goodF O (prod O f as) = true
  | 0, f, as, _, h1, h2 => absurd h1 (by omega)
  | m + 1, f, as, h, h1, h2 => by
    cases as with
    | nil => cases h1
    | cons a r =>
      unfold allG at h
      have ha := List.all_eq_true.mp h a (mem_els R a)
      rw [Bool.and_eq_true] at ha
      show goodF O (prod O (putT O f [O.neg a, O.u]) r) = true
      cases r with
      | nil => exact ha.1
      | cons b r' => exact allG_spec m _ (b :: r') ha.2 (by rw [List.length_cons]; omega) (by rw [List.length_cons] at h2 ⊢; rw [List.length_cons] at h2; omega)
omit R in
theorem good_cases {f : P q} (h : goodF O f = true) : ∃ w r, waysT O 4 f = some (w :: r) ∧ (w :: r).length ≤ 400 ∧ (∀ v ∈ r, sN O v = sN O w) ∧ trim O f = f ∧ 2 ≤ f.length ∧ f.length ≤ 4 := by
  unfold goodF at h
  split at h
  · rename_i w r z
    rw [Bool.and_eq_true, Bool.and_eq_true, Bool.and_eq_true, Bool.and_eq_true, decide_eq_true_eq, decide_eq_true_eq, decide_eq_true_eq, decide_eq_true_eq] at h
    obtain ⟨⟨⟨⟨h1, h2⟩, h3⟩, h4⟩, h5⟩ := h
    exact ⟨w, r, z, h1, fun v hv => of_decide_eq_true (List.all_eq_true.mp h2 v hv), h3, h4, h5⟩
  · cases h
omit R in
theorem fin_of {a : Int} (h0 : 0 ≤ a) (h1 : a < (q : Int)) : ∃ a' : Fin q, a = ((a'.val : Nat) : Int) := ⟨⟨a.toNat, by omega⟩, by show a = ((a.toNat : Nat) : Int); omega⟩
theorem fin_ne {c : Fin q} (h : 1 ≤ ((c.val : Nat) : Int)) : c ≠ O.z := fun e => by
  rw [e, R.z0] at h
  exact absurd h (by decide)
variable {m : Nat} (Ch : Chk O m)
include Ch
theorem prod_len (as : P q) (h : as.length ≤ m) : 1 ≤ (prod O [O.u] as).length ∧ (prod O [O.u] as).length ≤ 4 := by
  cases as with
  | nil => exact ⟨by show 1 ≤ 1; decide, by show 1 ≤ 4; decide⟩
  | cons a r =>
    obtain ⟨_, _, _, _, _, _, h4, h5⟩ := good_cases (allG_spec R m [O.u] (a :: r) Ch.all (by rw [List.length_cons]; omega) h)
    exact ⟨by omega, h5⟩
theorem lns_char : ∀ (k : Nat) (d : G.D), S.Lns (.lst l) (q : Int) k d → k ≤ m → ∃ (h : Fin q) (as : P q), h ≠ O.z ∧ as.length = k ∧ d = eL (scale O h (prod O [O.u] as)) := by
  intro k d H
  induction H with
  | base h h1 h2 =>
    intro _
    obtain ⟨h', rfl⟩ := fin_of (q := q) (by omega) h2
    refine ⟨h', [], fin_ne R h1, rfl, ?_⟩
    show _ = eL [O.mul h' O.u]
    rw [R.mulu]
    rfl
  | @step k f x g a H1 a1 a2 e1 e2 ih =>
    intro hk
    obtain ⟨h, as, hh, hl, rfl⟩ := ih (by omega)
    obtain ⟨a', rfl⟩ := fin_of a1 a2
    have hx := e1.symm.trans (R.wline a')
    injection hx with hx
    subst hx
    obtain ⟨l1, l2⟩ := prod_len R Ch as (by omega)
    have hg := e2.symm.trans (law_put R (scale O h (prod O [O.u] as)) [O.neg a', O.u] (by rw [scale_length]; omega) (by rw [scale_length]; omega) (by show 0 < 2; decide) (by show 2 ≤ 5; decide))
    injection hg with hg
    subst hg
    refine ⟨h, as ++ [a'], hh, by rw [List.length_append, hl]; rfl, ?_⟩
    rw [put_scale R.A hh]
    unfold prod
    rw [List.foldl_append]
    rfl
theorem okLns : S.okLns (.lst l) (q : Int) m := by
  intro k f a H hk a1 a2
  obtain ⟨h, as, hh, hl, rfl⟩ := lns_char R Ch k f H (by omega)
  obtain ⟨a', rfl⟩ := fin_of a1 a2
  obtain ⟨l1, l2⟩ := prod_len R Ch as (by omega)
  exact ⟨_, _, R.wline a', law_put R (scale O h (prod O [O.u] as)) [O.neg a', O.u] (by rw [scale_length]; omega) (by rw [scale_length]; omega) (by show 0 < 2; decide) (by show 2 ≤ 5; decide)⟩
omit Ch in
theorem put_c (f : P q) (c : Fin q) (hc : c ≠ O.z) (ht : trim O f = f) (h0 : 0 < f.length) (h4 : f.length ≤ 4) : S.law_put [.lst l, eL f, .lst [e c]] = some (eL (rs O 0 c f)) := by
  have := law_put R f [c] h0 h4 (by show 0 < 1; decide) (by show 1 ≤ 5; decide)
  rw [put_right R.A, trim_rs R.A hc, ht] at this
  exact this
omit Ch in
theorem put_h (f : P q) (h : Fin q) (hh : h ≠ O.z) (ht : trim O f = f) (h0 : 0 < f.length) (h4 : f.length ≤ 4) : S.law_put [.lst l, .lst [e h], eL f] = some (eL (scale O h f)) := by
  have := law_put R [h] f (by show 0 < 1; decide) (by show 1 ≤ 4; decide) h0 (by omega)
  rw [put_head R.A, trim_scale R.A hh, ht] at this
  exact this
omit Ch in
theorem okOR (f : P q) (ht : trim O f = f) (h0 : 0 < f.length) (h4 : f.length ≤ 4) : S.okOR F l (q : Int) (eL f) := by
  intro c c1 c2
  obtain ⟨c', rfl⟩ := fin_of (by omega) c2
  have hc := fin_ne R c1
  have hne : f ≠ [] := List.length_pos_iff.mp h0
  have hrl := rs_length (O := O) 0 c' f
  have hne2 : rs O 0 c' f ≠ [] := List.length_pos_iff.mp (by rw [hrl]; exact h0)
  have ht2 : trim O (rs O 0 c' f) = rs O 0 c' f := by rw [trim_rs R.A hc, ht]
  have e1 := outer_ones R (rs O 0 c' f) (by rw [hrl]; omega) ht2 hne2
  rw [outers_rs R.A hc] at e1
  refine ret (eqE (d := eL (outers O f)) (d' := eL (outers O f)) (call (cons rfl (cons (call (cons rfl (cons rfl (cons (fLstE (cons rfl rfl)) rfl))) (put_c R f c' hc ht h0 h4)) rfl)) e1) (call (cons rfl (cons rfl rfl)) (outer_ones R f (by omega) ht hne)) ?_)
  rw [eq_eL, decide_eq_true rfl]
theorem inn_sorted (f : P q) (c : Fin q) (hc : c ≠ O.z) : G.sortI (cI ((inners O f).map fun b => O.bk b c)) = cI (inners O (rs O 0 c f)) := by
  rw [inners_rs R.A hc]
  have hnd : O.els.Nodup := by
    have : (O.els.map fun x => x.val).Nodup := by rw [R.els]; exact List.nodup_range
    exact (List.pairwise_map.mp this).imp fun {a b} h z => h (by rw [z])
  refine GB.up_unique ?_ (GB.sortI_up _) ?_
  · refine (GB.sortI_perm _).trans ?_
    unfold cI
    refine List.Perm.map _ ?_
    refine (List.perm_ext_iff_of_nodup ?_ (hnd.filter _)).mpr fun b => ?_
    · refine List.pairwise_map.mpr ((hnd.filter _).imp fun {a b} h z => h ?_)
      rw [← Ch.ldbk a c hc, z, Ch.ldbk b c hc]
    · rw [List.mem_map, List.mem_filter]
      constructor
      · rintro ⟨a, ha, rfl⟩
        unfold inners at ha
        rw [List.mem_filter] at ha
        refine ⟨mem_els R _, ?_⟩
        rw [Ch.ldbk a c hc]
        exact ha.2
      · rintro ⟨_, hb⟩
        refine ⟨O.ld b c, ?_, Ch.bkld b c hc⟩
        unfold inners
        rw [List.mem_filter]
        exact ⟨mem_els R _, hb⟩
  · unfold cI
    have h1 : (O.els.map fun x => ((x.val : Nat) : Int)).Pairwise (· ≤ ·) := by
      have h2 : (O.els.map fun x => x.val).Pairwise (· < ·) := by rw [R.els]; exact List.pairwise_lt_range
      have h3 := List.pairwise_map.mp h2
      exact List.pairwise_map.mpr (h3.imp fun {a b} h => by omega)
    have h4 := List.pairwise_map.mp h1
    exact List.pairwise_map.mpr (h4.filter _)
theorem okIR (f : P q) (ht : trim O f = f) (h0 : 0 < f.length) (h4 : f.length ≤ 4) : S.okIR F l (q : Int) (eL f) := by
  intro c c1 c2
  obtain ⟨c', rfl⟩ := fin_of (by omega) c2
  have hc := fin_ne R c1
  have hne : f ≠ [] := List.length_pos_iff.mp h0
  have hrl := rs_length (O := O) 0 c' f
  have hne2 : rs O 0 c' f ≠ [] := List.length_pos_iff.mp (by rw [hrl]; exact h0)
  have ht2 : trim O (rs O 0 c' f) = rs O 0 c' f := by rw [trim_rs R.A hc, ht]
  have e1 := inner_ones R (rs O 0 c' f) (by rw [hrl]; omega) ht2 hne2
  refine seq_nx (asg (call (cons rfl (cons rfl (cons (fLstE (cons rfl rfl)) rfl))) (put_c R f c' hc ht h0 h4))) ?_
  have hlen : (inners O f).length ≤ 100 := by
    have h1 := List.length_filter_le (fun b => decide (raF O b O.z O.u f = O.z)) O.els
    have h2 := congrArg List.length R.els
    rw [List.length_map, List.length_range] at h2
    have := R.q2
    unfold inners
    omega
  have hdue : G.fB1 G.bSortI (G.fLc (G.iList (G.fCall S.inner_ones (G.aCons (G.fVar 1) (G.aCons (G.fVar 3) G.aNil)))) (G.gName 7) G.tYes (G.fCall S.law_back (G.aCons (G.fVar 2) (G.aCons (G.fVar 7) (G.aCons (G.fVar 4) G.aNil)))) [7])
      [none, some (.fld F), some (.lst l), some (eL f), some (e c'), some (eL (rs O 0 c' f)), none, none] = some (eL (inners O (rs O 0 c' f))) := by
    have h1 : G.fLc (G.iList (G.fCall S.inner_ones (G.aCons (G.fVar 1) (G.aCons (G.fVar 3) G.aNil)))) (G.gName 7) G.tYes (G.fCall S.law_back (G.aCons (G.fVar 2) (G.aCons (G.fVar 7) (G.aCons (G.fVar 4) G.aNil)))) [7]
        [none, some (.fld F), some (.lst l), some (eL f), some (e c'), some (eL (rs O 0 c' f)), none, none] = some (.lst ((inners O f).map fun b => e (O.bk b c'))) :=
      lcE (iListE (l := (inners O f).map e) (call (cons rfl (cons rfl rfl)) (inner_ones R f (by omega) ht hne)) (by rw [List.length_map]; omega)) (lcMap (inners O f) fun b _ => call (cons rfl (cons rfl (cons rfl rfl))) (R.wback b c' hc))
    have h2 : ((inners O f).map fun b => e (O.bk b c')) = ((inners O f).map fun b => O.bk b c').map e := by rw [List.map_map]; rfl
    rw [h2] at h1
    unfold G.fB1
    rw [h1]
    show (match G.ints? (((inners O f).map fun b => O.bk b c').map e) with | some x => some (G.D.lst ((G.sortI x).map .int)) | none => none) = _
    rw [ints_eL]
    show some (S.L (G.sortI (cI ((inners O f).map fun b => O.bk b c')))) = _
    rw [inn_sorted R Ch f c' hc, ← eL_L]
  refine seq_nx (asg hdue) (ret (andVT (eqE (d := eL (inners O (rs O 0 c' f))) (d' := eL (inners O (rs O 0 c' f))) (k := true) (call (cons rfl (cons rfl rfl)) e1) rfl (by rw [eq_eL, decide_eq_true rfl])) ?_))
  have e2 := told R (rs O 0 c' f) (by rw [hrl]; omega)
  rw [ht2] at e2
  refine i2 (i := (f.length : Int)) (j := (f.length : Int)) ?_ (by rw [len (l := f.map e) rfl, eL_len]) ?_
  · rw [len (l := (rs O 0 c' f).map e) (call (cons rfl (cons rfl rfl)) e2), eL_len, hrl]
  · unfold G.gEq
    rw [decide_eq_true rfl]
omit R Ch in
theorem ints_map : ∀ t : List Int, G.ints? (t.map G.D.int) = some t
  | [] => rfl
  | x :: r => by
    show (match G.ints? (r.map G.D.int) with | some l => some (x :: l) | none => none) = _
    rw [ints_map r]
omit R Ch in
theorem rows_LL : ∀ r : List (List Int), G.rows? (r.map S.L) = some r
  | [] => rfl
  | x :: r => by
    show (match G.ints? (x.map .int), G.rows? (r.map S.L) with | some a, some b => some (a :: b) | _, _ => none) = _
    rw [ints_map x, rows_LL r]
omit R Ch in
theorem eq_LL (r s : List (List Int)) : G.eqD (S.LL r) (S.LL s) = some (decide (r = s)) := by
  have hi : ∀ (x : List Int) (r : List (List Int)), G.ints? ((x :: r).map S.L) = none := fun _ _ => rfl
  unfold G.eqD S.LL
  cases r with
  | nil =>
    cases s with
    | nil => rfl
    | cons y s =>
      dsimp only
      rw [hi, rows_LL, rows_LL]
      rfl
  | cons x r =>
    dsimp only
    rw [hi, rows_LL, rows_LL]
omit R Ch in
theorem eq_L (a b : List Int) : G.eqD (S.L a) (S.L b) = some (decide (a = b)) := by
  unfold G.eqD S.L
  dsimp only
  rw [ints_map, ints_map]
omit Ch in
theorem okWR (g : P q) (h : Fin q) (hh : h ≠ O.z) (hg : goodF O g = true) : S.okWR F l (q : Int) (eL (scale O h g)) := by
  obtain ⟨w, r, hw, hl, hr, ht, h2, h4⟩ := good_cases hg
  have hwf : waysT O 4 (scale O h g) = some (w :: r) := by rw [ways_scale R.A hh]; exact hw
  have htf : trim O (scale O h g) = scale O h g := by rw [trim_scale R.A hh, ht]
  have hlen := scale_length (O := O) h g
  have hW := ways R (scale O h g) (w :: r) (by omega) (by omega) htf hwf hl
  have hmem : ∀ x, x ∈ S.sortRows ((w :: r).map cI) → ∃ v, x = cI v ∧ sN O v = sN O w ∧ v.length ≤ 1000 := fun x hx => by
    unfold S.sortRows at hx
    rw [List.mem_mergeSort] at hx
    obtain ⟨v, hv, rfl⟩ := List.mem_map.mp hx
    have hvl := ways_len 4 _ _ hwf v hv
    refine ⟨v, rfl, ?_, by omega⟩
    rcases List.mem_cons.mp hv with z | z
    · rw [z]
    · exact hr v z
  have hlr : (S.sortRows ((w :: r).map cI)).length = (w :: r).length := by
    unfold S.sortRows
    rw [List.length_mergeSort, List.length_map]
  cases hrows : S.sortRows ((w :: r).map cI) with
  | nil => rw [hrows] at hlr; cases hlr
  | cons r0 rr =>
    rw [hrows] at hW hmem hlr
    obtain ⟨w0, rfl, hs0, hl0⟩ := hmem r0 List.mem_cons_self
    refine ⟨S.LL (cI w0 :: rr), S.L (sN O w), call (cons rfl (cons rfl rfl)) hW, test (eqE (d' := S.LL []) rfl rfl ((eq_LL _ _).trans ?_)), ?_, ?_, ?_⟩
    · rw [decide_eq_false (fun z => nomatch z)]
    · refine call (cons rfl (cons (ixL (l := (cI w0 :: rr).map S.L) rfl rfl (r := some (S.L (cI w0))) rfl) rfl)) ?_
      rw [← eL_L, law_sorts R w0 hl0]
      exact congrArg (fun z => some (S.L z)) hs0
    · have h1 : G.fLc (G.iList (G.fVar 4)) (G.gName 7) G.tYes (G.fEqD (G.fCall S.law_sorts (G.aCons (G.fVar 1) (G.aCons (G.fVar 7) G.aNil))) (G.fVar 5)) [7]
          [none, some (.fld F), some (.lst l), some (eL (scale O h g)), some (S.LL (cI w0 :: rr)), some (S.L (sN O w)), none, none] = some (.lst ((cI w0 :: rr).map fun _ => G.D.bl true)) := by
        refine lcE (iListE (l := (cI w0 :: rr).map S.L) rfl ?_) (lcMap (cI w0 :: rr) fun x hx => ?_)
        · rw [List.length_map, hlr]
          omega
        · obtain ⟨v, rfl, hv, hvl⟩ := hmem x hx
          refine eqE (d := S.L (sN O v)) (d' := S.L (sN O w)) (call (cons rfl (cons rfl rfl)) ?_) rfl ((eq_L _ _).trans ?_)
          · rw [← eL_L]
            exact law_sorts R v hvl
          · rw [hv, decide_eq_true rfl]
      have h2 : ∀ z : List (List Int), G.bools? (z.map fun _ => G.D.bl true) = some (z.map fun _ => true) := fun z => by
        induction z with
        | nil => rfl
        | cons x r ih =>
          show (match G.bools? (r.map fun _ => G.D.bl true) with | some l => some (true :: l) | none => none) = _
          rw [ih]
          rfl
      have h3 : G.fB1 G.bAll (G.fLc (G.iList (G.fVar 4)) (G.gName 7) G.tYes (G.fEqD (G.fCall S.law_sorts (G.aCons (G.fVar 1) (G.aCons (G.fVar 7) G.aNil))) (G.fVar 5)) [7])
          [none, some (.fld F), some (.lst l), some (eL (scale O h g)), some (S.LL (cI w0 :: rr)), some (S.L (sN O w)), none, none] = some (.bl true) := by
        unfold G.fB1
        rw [h1]
        show (match G.bools? ((cI w0 :: rr).map fun _ => G.D.bl true) with | some x => some (G.D.bl (x.all id)) | none => none) = _
        rw [h2]
        show some (G.D.bl (((cI w0 :: rr).map fun _ => true).all id)) = _
        congr 2
        rw [List.all_eq_true]
        intro x hx
        obtain ⟨_, _, rfl⟩ := List.mem_map.mp hx
        rfl
      exact tNotE (test h3)
    · intro c c1 c2
      obtain ⟨c', rfl⟩ := fin_of (by omega) c2
      have hc := fin_ne R c1
      have hW2 := ways R (scale O c' (scale O h g)) (w :: r) (by rw [scale_length]; omega) (by rw [scale_length]; omega) (by rw [trim_scale R.A hc, htf]) (by rw [ways_scale R.A hc]; exact hwf) hl
      rw [hrows] at hW2
      exact ret (eqE (call (cons rfl (cons (call (cons rfl (cons (fLstE (cons rfl rfl)) (cons rfl rfl))) (put_h R (scale O h g) c' hc htf (by omega) (by omega))) rfl)) hW2) rfl ((eq_LL _ _).trans (by rw [decide_eq_true rfl])))
end
theorem okField {q : Nat} {O : Ops q} {F : G.Fld} {l : List G.D} (R : Br O F l) (p : Int) (md : List Int) (hF : S.Field [.int p, S.L md] = some (.fld F)) (hW : S.law_world [.int p, S.L md] = some (.lst l)) (Ch : Chk O (S.mostDeg (q : Int))) : S.okField p md := by
  refine ⟨F, l, (q : Int), hF, hW, ⟨R.hq, by have := R.q1; omega, by have := R.q2; omega⟩, okLns R Ch, R.lr, fun m f h1 h2 H => ?_⟩
  obtain ⟨h, as, hh, hl, rfl⟩ := lns_char R Ch m f H h2
  have hg := allG_spec R (S.mostDeg (q : Int)) [O.u] as Ch.all (by omega) (by omega)
  obtain ⟨w, r, hw, hl2, hr, ht, h3, h4⟩ := good_cases hg
  have htf : trim O (scale O h (prod O [O.u] as)) = scale O h (prod O [O.u] as) := by rw [trim_scale R.A hh, ht]
  have hlen := scale_length (O := O) h (prod O [O.u] as)
  exact ⟨okWR R _ h hh hg, okIR R Ch _ htf (by omega) (by omega), okOR R _ htf (by omega) (by omega)⟩
end B

set_option autoImplicit false
set_option linter.all false
/-! Tables as packed numbers; the checks as booleans. -/
namespace B
open G M
def tb (T i : Nat) : Nat := (T >>> (5 * i)) % 32
def tf (n T i : Nat) : Fin (n + 1) := ⟨tb T i % (n + 1), Nat.mod_lt _ (Nat.succ_pos n)⟩
def rowD (T q : Nat) : G.D := .lst ((List.range q).map fun i => .int ((tb T i : Nat) : Int))
def tabD (T q : Nat) : G.D := .lst ((List.range q).map fun a => .lst ((List.range q).map fun b => .int ((tb T (q * a + b) : Nat) : Int)))
def elsT (n : Nat) : List (Fin (n + 1)) := (List.range (n + 1)).map fun i => ⟨i % (n + 1), Nat.mod_lt _ (Nat.succ_pos n)⟩
def opsT (n tadd tmul tneg tph tps tnm tld tbk : Nat) : Ops (n + 1) where
  z := ⟨0, Nat.succ_pos n⟩
  u := tf n 1 0
  add := fun a b => tf n tadd ((n + 1) * a.val + b.val)
  neg := fun a => tf n tneg a.val
  mul := fun a b => tf n tmul ((n + 1) * a.val + b.val)
  ph := fun a => tf n tph a.val
  ps := fun a => tf n tps a.val
  nm := fun a => tf n tnm a.val
  ld := fun a b => tf n tld ((n + 1) * a.val + b.val)
  bk := fun a b => tf n tbk ((n + 1) * a.val + b.val)
  els := elsT n
section
variable {q : Nat} (O : Ops q)
def all1 (p : Fin q → Bool) : Bool := O.els.all p
def all2 (p : Fin q → Fin q → Bool) : Bool := O.els.all fun a => O.els.all fun b => p a b
def all3 (p : Fin q → Fin q → Fin q → Bool) : Bool := O.els.all fun a => O.els.all fun b => O.els.all fun c => p a b c
def eqF (a b : Fin q) : Bool := Nat.beq a.val b.val
def lawsB : Bool := all3 O (fun a b c => eqF (O.mul a (O.add b c)) (O.add (O.mul a b) (O.mul a c)) && eqF (O.mul (O.mul a b) c) (O.mul a (O.mul b c))) &&
  all2 O (fun a b => eqF (O.mul a b) (O.mul b a) && (!eqF (O.mul a b) O.z || eqF a O.z || eqF b O.z) && eqF (O.neg (O.mul a b)) (O.mul a (O.neg b)) && eqF (O.ph (O.mul a b)) (O.mul (O.ph a) (O.ph b)) &&
    eqF (O.ps (O.mul a b)) (O.mul (O.ps a) (O.ps b)) && eqF (O.mul (O.ld a b) b) (O.mul a (O.ph b)) && (eqF b O.z || eqF (O.bk (O.ld a b) b) a) && (eqF b O.z || eqF (O.ld (O.bk a b) b) a)) &&
  all1 O (fun a => eqF (O.mul a O.z) O.z && eqF (O.mul O.u a) a && eqF (O.mul a O.u) a && eqF (O.add O.z a) a && eqF (O.add a (O.neg a)) O.z && (!eqF (O.ph a) O.z || eqF a O.z) && eqF (O.ps (O.ph a)) a && eqF (O.ph (O.ps a)) a) &&
  eqF (O.nm O.z) O.z && !eqF O.u O.z && eqF (O.ph O.u) O.u
def ck (o : Option G.D) (x : Fin q) : Bool := match o with
  | some (.int (.ofNat i)) => Nat.beq i x.val
  | _ => false
def ckT (o : Option G.D) : Bool := match o with
  | some (.bl true) => true
  | _ => false
def ckL (o : Option G.D) (x y : Fin q) : Bool := match o with
  | some (.lst [a, b]) => ck (some a) x && ck (some b) y
  | _ => false
def ckI (l : List G.D) (k : Int) (a b : Fin q) (x : Fin q) : Bool := match G.pIx l k with
  | some (.lst rows) => (match G.pIx rows ((a.val : Nat) : Int) with
    | some (.lst row) => ck (G.pIx row ((b.val : Nat) : Int)) x
    | _ => false)
  | _ => false
def fldB (F : G.Fld) : Bool := all2 O (fun a b => ck (S.plus_of [.fld F, e a, e b]) (O.add a b) && ck (S.times_of [.fld F, e a, e b]) (O.mul a b)) &&
  all1 O (fun a => ck (S.minus_of [.fld F, .int 0, e a]) (O.neg a) && ck (S.over_of [.fld F, e a, .int 1]) a && ck (S.turned_of [.fld F, e a, .int (-1)]) (O.ps a) && ckT (S.is_in [.fld F, e a]) && (eqF a O.z || ck (S.norm [.fld F, e a]) (O.nm a)) &&
    (List.range 4).all fun k => ck (S.turned_of [.fld F, e a, .int k]) (phN O k a))
def wldB (l : List G.D) : Bool := all2 O (fun a b => ckI l 3 a b (O.add a b) && ckI l 4 a b (O.mul a b) && (eqF b O.z || ck (S.law_back [.lst l, e a, e b]) (O.bk a b))) &&
  all1 O (fun a => ckL (S.law_line [.lst l, e a]) (O.neg a) O.u && (List.range 4).all fun k => ck (S.law_turned [.lst l, e a, .int k]) (phN O k a))
end
def lrB (q : Nat) (F : G.Fld) (l : List G.D) : Bool := (List.range q).all fun a => (List.range q).all fun c => Nat.beq c 0 || match S.b_lines_right0 [none, some (.fld F), some (.lst l), none, none, none, some (.int a), some (.int c)] with
  | some (.rt (.bl true)) => true
  | _ => false
section
variable {q : Nat} {O : Ops q}
theorem eqF_eq {a b : Fin q} (h : eqF a b = true) : a = b := Fin.ext (Nat.eq_of_beq_eq_true h)
theorem eqF_ne {a b : Fin q} (h : (!eqF a b) = true) : a ≠ b := fun z => by
  rw [z] at h
  unfold eqF at h
  have : Nat.beq b.val b.val = true := by simp
  rw [this] at h
  cases h
theorem eqF_no {a b : Fin q} (h : a ≠ b) : eqF a b = false := by
  cases z : eqF a b with
  | false => rfl
  | true => exact absurd (eqF_eq z) h
theorem ck_eq {o : Option G.D} {x : Fin q} (h : ck o x = true) : o = some (e x) := by
  unfold ck at h
  split at h
  · rename_i i
    rw [Nat.eq_of_beq_eq_true h]
    rfl
  · cases h
theorem ckT_eq {o : Option G.D} (h : ckT o = true) : o = some (.bl true) := by
  unfold ckT at h
  split at h
  · rfl
  · cases h
theorem ckL_eq {o : Option G.D} {x y : Fin q} (h : ckL o x y = true) : o = some (eL [x, y]) := by
  unfold ckL at h
  split at h
  · rename_i a b
    rw [Bool.and_eq_true] at h
    have h1 := ck_eq h.1
    have h2 := ck_eq h.2
    injection h1 with h1
    injection h2 with h2
    rw [h1, h2]
    rfl
  · cases h
theorem ckI_eq {l : List G.D} {k : Int} {a b x : Fin q} (h : ckI l k a b x = true) : ∃ rows row, G.pIx l k = some (.lst rows) ∧ G.pIx rows ((a.val : Nat) : Int) = some (.lst row) ∧ G.pIx row ((b.val : Nat) : Int) = some (e x) := by
  unfold ckI at h
  split at h
  · rename_i rows z1
    split at h
    · rename_i row z2
      exact ⟨rows, row, z1, z2, ck_eq h⟩
    · cases h
  · cases h
variable (hm : ∀ a : Fin q, a ∈ O.els)
include hm
theorem all1_eq {p : Fin q → Bool} (h : all1 O p = true) (a : Fin q) : p a = true := List.all_eq_true.mp h a (hm a)
theorem all2_eq {p : Fin q → Fin q → Bool} (h : all2 O p = true) (a b : Fin q) : p a b = true := List.all_eq_true.mp (List.all_eq_true.mp h a (hm a)) b (hm b)
theorem all3_eq {p : Fin q → Fin q → Fin q → Bool} (h : all3 O p = true) (a b c : Fin q) : p a b c = true := List.all_eq_true.mp (List.all_eq_true.mp (List.all_eq_true.mp h a (hm a)) b (hm b)) c (hm c)
end
theorem okF {q : Nat} {O : Ops q} {F : G.Fld} {l : List G.D} {p : Int} {md : List Int} (z0 : O.z.val = 0) (u1 : O.u.val = 1) (els : O.els.map (fun x => x.val) = List.range q) (q1 : 1 < q) (q2 : q ≤ 100) (size : F.size = (q : Int)) (hq : G.pIx l 2 = some (.int (q : Int)))
    (hl : lawsB O = true) (hf : fldB O F = true) (hw : wldB O l = true) (hlr : lrB q F l = true) (hall : allG O (S.mostDeg (q : Int)) [O.u] = true) (hF : S.Field [.int p, S.L md] = some (.fld F)) (hW : S.law_world [.int p, S.L md] = some (.lst l)) : S.okField p md := by
  have hm : ∀ a : Fin q, a ∈ O.els := fun a => by
    have h : a.val ∈ O.els.map (fun x => x.val) := by rw [els]; exact List.mem_range.mpr a.isLt
    obtain ⟨b, hb, e⟩ := List.mem_map.mp h
    rw [← Fin.ext e]
    exact hb
  unfold lawsB at hl
  simp only [Bool.and_eq_true] at hl
  obtain ⟨⟨⟨⟨⟨l3, l2⟩, l1⟩, lz⟩, lu⟩, lp⟩ := hl
  have l3 := fun a b c => all3_eq hm l3 a b c
  have l2 := fun a b => all2_eq hm l2 a b
  have l1 := fun a => all1_eq hm l1 a
  simp only [Bool.and_eq_true, Bool.or_eq_true] at l3 l2 l1
  have A : Laws O := {
    mul_add := fun a b c => eqF_eq (l3 a b c).1
    mul_assoc := fun a b c => eqF_eq (l3 a b c).2
    mul_comm := fun a b => eqF_eq (l2 a b).1.1.1.1.1.1.1
    mul_z := fun a => eqF_eq (l1 a).1.1.1.1.1.1.1
    u_mul := fun a => eqF_eq (l1 a).1.1.1.1.1.1.2
    z_add := fun a => eqF_eq (l1 a).1.1.1.1.2
    mul_ne := fun a b h => by
      rcases (l2 a b).1.1.1.1.1.1.2 with (z | z) | z
      · exact absurd h (eqF_ne z)
      · exact .inl (eqF_eq z)
      · exact .inr (eqF_eq z)
    mul_neg := fun a b => eqF_eq (l2 a b).1.1.1.1.1.2
    add_neg := fun a => eqF_eq (l1 a).1.1.1.2
    ph_mul := fun a b => eqF_eq (l2 a b).1.1.1.1.2
    ph_ne := fun a h => by
      rcases (l1 a).1.1.2 with z | z
      · exact absurd h (eqF_ne z)
      · exact eqF_eq z
    ps_mul := fun a b => eqF_eq (l2 a b).1.1.1.2
    ps_ph := fun a => eqF_eq (l1 a).1.2
    ph_ps := fun a => eqF_eq (l1 a).2
    ld_mul := fun b c => eqF_eq (l2 b c).1.1.2
    zu := eqF_ne lu }
  have phu : ∀ k : Nat, phN O k O.u = O.u := fun k => by
    induction k with
    | zero => rfl
    | succ n ih =>
      show O.ph (phN O n O.u) = _
      rw [ih]
      exact eqF_eq lp
  unfold fldB at hf
  rw [Bool.and_eq_true] at hf
  have f2 := fun a b => all2_eq hm hf.1 a b
  have f1 := fun a => all1_eq hm hf.2 a
  simp only [Bool.and_eq_true, Bool.or_eq_true] at f2 f1
  unfold wldB at hw
  rw [Bool.and_eq_true] at hw
  have w2 := fun a b => all2_eq hm hw.1 a b
  have w1 := fun a => all1_eq hm hw.2 a
  simp only [Bool.and_eq_true, Bool.or_eq_true] at w2 w1
  have R : Br O F l := {
    A := A, z0 := z0, u1 := u1, els := els, q1 := q1, q2 := q2, size := size
    plus := fun a b => ck_eq (f2 a b).1
    minus := fun a => ck_eq (f1 a).1.1.1.1.1
    times := fun a b => ck_eq (f2 a b).2
    over := fun a => ck_eq (f1 a).1.1.1.1.2
    turned := fun a k hk => ck_eq (List.all_eq_true.mp (f1 a).2 k (List.mem_range.mpr (by omega)))
    turnm := fun a => ck_eq (f1 a).1.1.1.2
    phu := fun k _ => phu k
    mulu := fun a => eqF_eq (l1 a).1.1.1.1.1.2
    isin := fun a => ckT_eq (f1 a).1.1.2
    norm := fun a ha => by
      rcases (f1 a).1.2 with z | z
      · exact absurd (eqF_eq z) ha
      · exact ck_eq z
    nmz := eqF_eq lz
    wturned := fun a k hk => ck_eq (List.all_eq_true.mp (w1 a).2 k (List.mem_range.mpr (by omega)))
    wline := fun a => ckL_eq (w1 a).1
    wback := fun a c hc => by
      rcases (w2 a c).2 with z | z
      · exact absurd (eqF_eq z) hc
      · exact ck_eq z
    wadd := fun a b => ckI_eq (w2 a b).1.1
    wmul := fun a b => ckI_eq (w2 a b).1.2
    hq := hq
    lr := fun a c a0 a1 c0 c1 => by
      obtain ⟨a', rfl⟩ : ∃ n : Nat, a = (n : Int) := ⟨a.toNat, by omega⟩
      obtain ⟨c', rfl⟩ : ∃ n : Nat, c = (n : Int) := ⟨c.toNat, by omega⟩
      have := List.all_eq_true.mp (List.all_eq_true.mp hlr a' (List.mem_range.mpr (by omega))) c' (List.mem_range.mpr (by omega))
      rw [Bool.or_eq_true] at this
      rcases this with z | z
      · have := Nat.eq_of_beq_eq_true z
        omega
      · split at z
        · assumption
        · cases z }
  exact okField R p md hF hW ⟨fun b c hc => by
    rcases (l2 b c).1.2 with z | z
    · exact absurd (eqF_eq z) hc
    · exact eqF_eq z, fun a c hc => by
    rcases (l2 a c).2 with z | z
    · exact absurd (eqF_eq z) hc
    · exact eqF_eq z, hall⟩
end B

set_option autoImplicit false
set_option linter.all false
/-! The same check with values forced on the way (for the kernel). -/
namespace B
open G M
def fz {β : Type} (m : Nat) (k : Nat → β) : β := match m with
  | 0 => k 0
  | j + 1 => k (j + 1)
theorem fz_eq {β : Type} (m : Nat) (k : Nat → β) : fz m k = k m := by cases m <;> rfl
section
variable {q : Nat} (O : Ops q)
def frc {β : Type} (a : Fin q) (k : Fin q → β) : β := fz a.val fun m => k ⟨m % q, Nat.mod_lt _ (Nat.lt_of_le_of_lt (Nat.zero_le _) O.z.isLt)⟩
theorem frc_eq {β : Type} (a : Fin q) (k : Fin q → β) : frc O a k = k a := by
  unfold frc
  rw [fz_eq]
  congr 1
  exact Fin.ext (Nat.mod_eq_of_lt a.isLt)
def fL {β : Type} : P q → (P q → β) → β
  | [], k => k []
  | x :: r, k => frc O x fun x' => fL r fun r' => k (x' :: r')
theorem fL_eq {β : Type} : ∀ (f : P q) (k : P q → β), fL O f k = k f
  | [], _ => rfl
  | x :: r, k => by
    show frc O x (fun x' => fL O r fun r' => k (x' :: r')) = _
    rw [frc_eq, fL_eq r]
def raQ (b : Fin q) : Fin q → Fin q → P q → Bool
  | acc, _, [] => Nat.beq acc.val 0
  | acc, pt, x :: f => frc O (O.add acc (O.mul x pt)) fun acc' => frc O (O.mul (O.ph pt) b) fun pt' => raQ b acc' pt' f
theorem raQ_eq (hz : O.z.val = 0) (b : Fin q) : ∀ (f : P q) (acc pt : Fin q), raQ O b acc pt f = decide (raF O b acc pt f = O.z)
  | [], acc, pt => by
    show Nat.beq acc.val 0 = decide (acc = O.z)
    rw [Bool.eq_iff_iff, decide_eq_true_eq]
    constructor
    · intro h
      exact Fin.ext (by rw [hz]; exact Nat.eq_of_beq_eq_true h)
    · intro h
      rw [h, hz]
      rfl
  | x :: f, acc, pt => by
    show frc O (O.add acc (O.mul x pt)) (fun acc' => frc O (O.mul (O.ph pt) b) fun pt' => raQ O b acc' pt' f) = _
    rw [frc_eq, frc_eq, raQ_eq hz b f]
    rfl
def innQ (f : P q) : P q := O.els.filter fun b => raQ O b O.z O.u f
theorem innQ_eq (hz : O.z.val = 0) (f : P q) : innQ O f = inners O f := by
  unfold innQ inners
  congr 1
  funext b
  exact raQ_eq O hz b f _ _
def inQ (a : Fin q) : Nat → P q → P q → Option (P q × P q)
  | 0, _, _ => none
  | n + 1, r, qo => if r.length < 2 then some (qo, r) else fL O (lessE O r (inT O a r)) fun r' => frc O (r.getD (r.length - 1) O.z) fun c => inQ a n r' (qo.set (r.length - 2) c)
theorem inQ_eq (a : Fin q) : ∀ (n : Nat) (r qo : P q), inQ O a n r qo = inW O a n r qo
  | 0, _, _ => rfl
  | n + 1, r, qo => by
    unfold inQ inW
    by_cases h : r.length < 2
    · rw [if_pos h, if_pos h]
    · rw [if_neg h, if_neg h, fL_eq, frc_eq, inQ_eq a n]
def quoQ (f : P q) (a : Fin q) : Option (P q) := (inQ O a 30 f (List.replicate (f.length - 1) O.z)).map (·.1)
theorem quoQ_eq (f : P q) (a : Fin q) : quoQ O f a = quo O f a := by
  unfold quoQ quo
  rw [inQ_eq]
def stepQ (rec : P q → Option (List (P q))) (f : P q) (a : Fin q) : Option (List (P q)) := match quoQ O f a with
  | some g => fL O g fun g' => (match rec g' with
    | some ws => some (ws.map fun w => w ++ [a])
    | none => none)
  | none => none
theorem stepQ_eq (rec : P q → Option (List (P q))) (f : P q) (a : Fin q) : stepQ O rec f a = stepT O rec f a := by
  unfold stepQ stepT
  rw [quoQ_eq]
  cases quo O f a with
  | none => rfl
  | some g => exact fL_eq O g _
def waysQ : Nat → P q → Option (List (P q))
  | 0, _ => none
  | n + 1, f => if f.length = 1 then some [[]] else match mapO (stepQ O (waysQ n) f) (innQ O f) with
    | some l => if l.flatten.length ≤ 400 then some l.flatten else none
    | none => none
theorem waysQ_eq (hz : O.z.val = 0) : ∀ (n : Nat) (f : P q), waysQ O n f = waysT O n f
  | 0, _ => rfl
  | n + 1, f => by
    unfold waysQ waysT
    rw [innQ_eq O hz, mapO_congr (fun a => (stepQ_eq O _ f a).trans (by
      unfold stepT
      cases quo O f a with
      | none => rfl
      | some g =>
        dsimp only
        rw [waysQ_eq hz n g]) : ∀ a, stepQ O (waysQ O n) f a = stepT O (waysT O n) f a)]
    all_goals rfl
def goodQ (f : P q) : Bool := match waysQ O 4 f with
  | some (w :: r) => Nat.ble (w :: r).length 400 && r.all (fun v => decide (sN O v = sN O w)) && decide (trim O f = f) && Nat.ble 2 f.length && Nat.ble f.length 4
  | _ => false
theorem goodQ_good (hz : O.z.val = 0) (f : P q) (h : goodQ O f = true) : goodF O f = true := by
  unfold goodQ at h
  unfold goodF
  rw [waysQ_eq O hz] at h
  split at h
  · rename_i w r z
    try rw [z]
    try dsimp only
    rw [Bool.and_eq_true, Bool.and_eq_true, Bool.and_eq_true, Bool.and_eq_true] at h ⊢
    obtain ⟨⟨⟨⟨h1, h2⟩, h3⟩, h4⟩, h5⟩ := h
    exact ⟨⟨⟨⟨decide_eq_true (Nat.le_of_ble_eq_true h1), h2⟩, h3⟩, decide_eq_true (Nat.le_of_ble_eq_true h4)⟩, decide_eq_true (Nat.le_of_ble_eq_true h5)⟩
  · cases h
def allQ : Nat → P q → Bool
  | 0, _ => true
  | m + 1, f => O.els.all fun a => fL O (putT O f [O.neg a, O.u]) fun g => goodQ O g && allQ m g
theorem allQ_all (hz : O.z.val = 0) : ∀ (m : Nat) (f : P q), allQ O m f = true → allG O m f = true
  | 0, _, _ => rfl
  | m + 1, f, h => by
    unfold allQ at h
    unfold allG
    rw [List.all_eq_true] at h ⊢
    intro a ha
    have := h a ha
    rw [fL_eq, Bool.and_eq_true] at this
    rw [Bool.and_eq_true]
    exact ⟨goodQ_good O hz _ this.1, allQ_all hz m _ this.2⟩
end
end B

set_option autoImplicit false
set_option linter.all false
set_option maxRecDepth 10000
/-! The law's world by stages. -/
namespace B
open G M
theorem appE {ρ : G.Env} {a : G.FE} {d : G.D} {x : Nat} {l : List G.D} (h1 : ρ.getD x none = some (.lst l)) (h2 : a ρ = some d) (hl : l.length < 100000) : G.sApp x a ρ = some (.nx (ρ.set x (some (.lst (l ++ [d]))))) := by
  unfold G.sApp
  rw [h1, h2]
  dsimp only
  rw [if_pos hl]
theorem range_snoc {α : Type} (f : Nat → α) (i : Nat) : (List.range i).map f ++ [f i] = (List.range (i + 1)).map f := by
  rw [List.range_succ, List.map_append]
  rfl
/-- a loop by the number of its turn -/
theorem loop_idx {g : G.FG} {b : G.FS} (items : Nat → G.D) (r : Nat → G.Env) (n : Nat) (h : ∀ i, i < n → ∃ ρ1, g (items i) (r i) = some ρ1 ∧ b ρ1 = some (.nx (r (i + 1)))) : ∀ (k s : Nat), s + k = n → G.loopD g b ((List.range' s k).map items) (r s) = some (r n)
  | 0, s, e => by
    rw [← e]
    rfl
  | k + 1, s, e => by
    obtain ⟨ρ1, h1, h2⟩ := h s (by omega)
    rw [List.range'_succ, List.map_cons]
    exact loop_cons h1 h2 (loop_idx items r n h k (s + 1) (by omega))
theorem loop_idx0 {g : G.FG} {b : G.FS} (items : Nat → G.D) (r : Nat → G.Env) (n : Nat) (h : ∀ i, i < n → ∃ ρ1, g (items i) (r i) = some ρ1 ∧ b ρ1 = some (.nx (r (i + 1)))) : G.loopD g b ((List.range n).map items) (r 0) = some (r n) := by
  rw [List.range_eq_range']
  exact loop_idx items r n h n 0 (by omega)
def iD (k : Nat) : G.D := .int ((k : Nat) : Int)
def rowW (q : Nat) (f : Nat → Nat) : G.D := .lst ((List.range q).map fun i => iD (f i))
def tabW (q : Nat) (f : Nat → Nat → Nat) : G.D := .lst ((List.range q).map fun a => rowW q (f a))
abbrev cSum : G.FE := (G.fLc (G.iList (G.fVar 3)) (G.gName 14) G.tYes (G.fCall S.law_value (G.aCons (G.fVar 0) (G.aCons (G.fLc (G.iZip (G.fVar 5) (G.fVar 14)) (G.gTup 15 16) G.tYes (G.fI2 G.gMod (G.fB1 G.bInt (G.fI2 G.gAdd (G.fVar 15) (G.fVar 16))) (G.fVar 0)) [15, 16]) G.aNil))) [14])
abbrev cLess : G.FE := (G.fIxL (G.fLc (G.iRange1 (G.fVar 12)) (G.gName 14) (G.fTest (G.fI2 G.gEq (G.fIxL (G.fIxL (G.fVar 4) (G.fVar 10)) (G.fVar 14)) (G.fC (.int 0)))) (G.fVar 14) [14]) (G.fC (.int 0)))
abbrev cUnd : G.FE := (G.fIxL (G.fLc (G.iRange1 (G.fVar 12)) (G.gName 14) (G.fTest (G.fI2 G.gEq (G.fIxL (G.fIxL (G.fVar 6) (G.fVar 10)) (G.fVar 14)) (G.fC (.int 1)))) (G.fVar 14) [14]) (G.fC (.int 0)))
abbrev cTurn : G.FS := (G.sFor (G.iRange1 (G.fVar 0)) (G.gName 2) (G.sAsg (G.gName 13) (G.fIxL (G.fIxL (G.fVar 6) (G.fVar 13)) (G.fVar 10))))
structure WF (p n q : Nat) (md : List Int) (R : G.D) (figs : Nat → G.D) (add mul : Nat → Nat → Nat) (neg inv ph : Nat → Nat) : Prop where
  eR : R = .lst ((List.range q).map figs)
  q1 : 1 < q
  q2 : q ≤ 1000
  st : (G.sSeq (G.sAsg (G.gTup 11 12) (G.fTup (G.aCons (G.fI2 G.gSub (G.fB1 G.bLen (G.fVar 1)) (G.fC (.int 1))) (G.aCons (G.fC (.int 1)) G.aNil)))) (G.sFor (G.iRange1 (G.fVar 11)) (G.gName 2) (G.sAsg (G.gName 12) (G.fI2 G.gMul (G.fVar 12) (G.fVar 0)))))
    [some (iD p), some (S.L md), none, none, none, none, none, none, none, none, none, none, none, none, none, none, none] = some (.nx [some (iD p), some (S.L md), some (iD (n - 1)), none, none, none, none, none, none, none, none, some (iD n), some (iD q), none, none, none, none])
  fig : ∀ x, x < q → S.law_figures [iD p, iD n, iD x] = some (figs x)
  sum : ∀ x, x < q → ∀ acc, cSum [some (iD p), some (S.L md), some (iD (n - 1)), some R, acc, some (figs x), none, none, none, none, none, some (iD n), some (iD q), none, none, none, none] = some (rowW q (add x))
  prd : ∀ x, x < q → S.law_product_row [iD p, S.L md, R, iD x] = some (rowW q (mul x))
  les : ∀ x, x < q → ∀ o5, cLess [some (iD p), some (S.L md), some (iD (n - 1)), some R, some (tabW q add), o5, some (tabW q mul), none, none, none, some (iD x), some (iD n), some (iD q), none, none, none, none] = some (iD (neg x))
  inv0 : inv 0 = 0
  und : ∀ x, 1 ≤ x → x < q → ∀ o5 o7, cUnd [some (iD p), some (S.L md), some (iD (n - 1)), some R, some (tabW q add), o5, some (tabW q mul), o7, none, none, some (iD x), some (iD n), some (iD q), none, none, none, none] = some (iD (inv x))
  trn : ∀ x, x < q → ∀ o2 o5 o7 o8 acc, ∃ o2', cTurn [some (iD p), some (S.L md), o2, some R, some (tabW q add), o5, some (tabW q mul), o7, o8, acc, some (iD x), some (iD n), some (iD q), some (.int 1), none, none, none] =
    some (.nx [some (iD p), some (S.L md), o2', some R, some (tabW q add), o5, some (tabW q mul), o7, o8, acc, some (iD x), some (iD n), some (iD q), some (iD (ph x)), none, none, none])
theorem seq_inv {a b : G.FS} {ρ ρ2 : G.Env} (h : G.sSeq a b ρ = some (.nx ρ2)) : ∃ ρ1, a ρ = some (.nx ρ1) ∧ b ρ1 = some (.nx ρ2) := by
  unfold G.sSeq at h
  split at h
  · rename_i ρ1 z
    exact ⟨ρ1, z, h⟩
  · rename_i z
    exact absurd h (z ρ2)
theorem loop_inv {g : G.FG} {b : G.FS} {I : Nat → G.Env → Prop} (items : Nat → G.D) (n : Nat) (h : ∀ i, i < n → ∀ ρ, I i ρ → ∃ ρ1 ρ2, g (items i) ρ = some ρ1 ∧ b ρ1 = some (.nx ρ2) ∧ I (i + 1) ρ2) : ∀ (k s : Nat) (ρ : G.Env), s + k = n → I s ρ → ∃ ρn, G.loopD g b ((List.range' s k).map items) ρ = some ρn ∧ I n ρn
  | 0, s, ρ, e, hi => by
    rw [← e]
    exact ⟨ρ, rfl, hi⟩
  | k + 1, s, ρ, e, hi => by
    obtain ⟨ρ1, ρ2, h1, h2, h3⟩ := h s (by omega) ρ hi
    obtain ⟨ρn, h4, h5⟩ := loop_inv items n h k (s + 1) ρ2 (by omega) h3
    rw [List.range'_succ, List.map_cons]
    exact ⟨ρn, loop_cons h1 h2 h4, h5⟩
theorem iRange2E {ρ : G.Env} {a b : G.FE} {m n : Nat} (h1 : a ρ = some (iD m)) (h2 : b ρ = some (iD n)) (hm : m ≤ 100000) (hl : n ≤ 100000) : G.iRange2 a b ρ = some ((List.range (n - m)).map fun i => iD (m + i)) := by
  unfold G.iRange2
  rw [h1, h2]
  unfold iD
  dsimp only
  rw [if_pos ⟨⟨by omega, by omega⟩, by omega, by omega⟩]
  have e : ((n : Int) - (m : Int)).toNat = n - m := by omega
  rw [e]
  exact congrArg some (List.map_congr_left fun i _ => rfl)
theorem iRangeI {ρ : G.Env} {a : G.FE} {n : Nat} (h : a ρ = some (iD n)) (hl : n ≤ 100000) : G.iRange1 a ρ = some ((List.range n).map iD) := iRangeE h hl
theorem world_eq {p n q : Nat} {md : List Int} {R : G.D} {figs : Nat → G.D} {add mul : Nat → Nat → Nat} {neg inv ph : Nat → Nat} (w : WF p n q md R figs add mul neg inv ph) :
    S.law_world [iD p, S.L md] = some (.lst [iD p, iD n, iD q, tabW q add, tabW q mul, rowW q neg, rowW q inv, rowW q ph]) := by
  have q1 := w.q1
  have q2 := w.q2
  have nW : ∀ q : Nat, q ≤ 1000 → q ≤ 100000 := fun q h => by omega
  obtain ⟨ρ1, s1, s2⟩ := seq_inv w.st
  refine run_rt rfl (seq_nx s1 (seq_nx s2 ?_))
  -- rows
  refine seq_nx (asg (d := R) ?_) ?_
  · rw [w.eR]
    exact lcE (iRangeI rfl (by omega)) (lcMap (List.range q) fun x hx => call (cons rfl (cons rfl (cons rfl rfl))) (w.fig x (List.mem_range.mp hx)))
  refine seq_nx (asg (d := .lst []) rfl) ?_
  -- sums
  have hR : G.iList (G.fVar 3) [some (iD p), some (S.L md), some (iD (n - 1)), some R, some (.lst []), none, none, none, none, none, none, some (iD n), some (iD q), none, none, none, none] = some ((List.range q).map figs) := by
    rw [w.eR]
    exact iListE rfl (by rw [List.length_map, List.length_range]; omega)
  obtain ⟨ρ2, l1, o5, l2⟩ := loop_inv (g := G.gName 5) (b := G.sApp 4 cSum) (I := fun i ρ => ∃ o5, ρ = [some (iD p), some (S.L md), some (iD (n - 1)), some R, some (.lst ((List.range i).map fun a => rowW q (add a))), o5, none, none, none, none, none, some (iD n), some (iD q), none, none, none, none])
    figs q (fun i hi ρ ⟨o5, e⟩ => by
      subst e
      refine ⟨_, _, rfl, appE rfl (w.sum i hi _) (by rw [List.length_map, List.length_range]; omega), some (figs i), ?_⟩
      rw [← range_snoc]
      rfl) q 0 _ (by omega) ⟨none, rfl⟩
  rw [← List.range_eq_range'] at l1
  refine seq_nx (forE hR l1) ?_
  subst l2
  -- products
  refine seq_nx (asg (d := tabW q mul) (lcE (iRangeI rfl (by omega)) (lcMap (List.range q) fun x hx => call (cons rfl (cons rfl (cons rfl (cons rfl rfl)))) (w.prd x (List.mem_range.mp hx))))) ?_
  -- less, undone
  refine seq_nx (asg (d := rowW q neg) (lcE (iRangeI rfl (by omega)) (lcMap (List.range q) (h := fun x => iD (neg x)) fun x hx => w.les x (List.mem_range.mp hx) _))) ?_
  refine seq_nx (asg (d := rowW q inv) ?_) ?_
  · have h1 := lcE (iRange2E (a := G.fC (.int 1)) (b := G.fVar 12) (m := 1) (n := q) (ρ := [some (iD p), some (S.L md), some (iD (n - 1)), some R, some (tabW q add), o5, some (tabW q mul), some (rowW q neg), none, none, none, some (iD n), some (iD q), none, none, none, none]) rfl rfl (by omega) (by omega))
      (vs := [10]) (lcMap (a := cUnd) (k := 10) (g := fun i => iD (1 + i)) (h := fun i => iD (inv (1 + i))) (List.range (q - 1)) fun i hi => w.und (1 + i) (by omega) (by have := List.mem_range.mp hi; omega) _ _)
    refine (cat (l := [iD 0]) rfl h1 (by rw [List.length_map, List.length_range]; show 1 + (q - 1) ≤ 100000; omega)).trans ?_
    unfold rowW
    have ek : ∀ k : Nat, [iD 0] ++ (List.range k).map (fun i => iD (inv (1 + i))) = (List.range (k + 1)).map fun i => iD (inv i) := fun k => by
      rw [List.range_succ_eq_map, List.map_cons, w.inv0, List.map_map]
      exact congrArg (List.cons (iD 0)) (List.map_congr_left fun a _ => by
        show iD (inv (1 + a)) = iD (inv (a + 1))
        rw [Nat.add_comm])
    rw [ek (q - 1), Nat.sub_add_cancel (by omega)]
  refine seq_nx (asg (d := .lst []) rfl) ?_
  -- turned
  have hr : G.iRange1 (G.fVar 12) [some (iD p), some (S.L md), some (iD (n - 1)), some R, some (tabW q add), o5, some (tabW q mul), some (rowW q neg), some (rowW q inv), some (.lst []), none, some (iD n), some (iD q), none, none, none, none] = some ((List.range q).map iD) := iRangeI rfl (by omega)
  obtain ⟨ρ3, t1, o2, o10, o13, t2⟩ := loop_inv (g := G.gName 10) (b := (G.sSeq (G.sAsg (G.gName 13) (G.fC (.int 1))) (G.sSeq cTurn (G.sApp 9 (G.fVar 13)))))
    (I := fun i ρ => ∃ o2 o10 o13, ρ = [some (iD p), some (S.L md), o2, some R, some (tabW q add), o5, some (tabW q mul), some (rowW q neg), some (rowW q inv), some (.lst ((List.range i).map fun a => iD (ph a))), o10, some (iD n), some (iD q), o13, none, none, none])
    iD q (fun i hi ρ ⟨o2, o10, o13, e⟩ => by
      subst e
      obtain ⟨o2', ht⟩ := w.trn i hi o2 o5 (some (rowW q neg)) (some (rowW q inv)) (some (.lst ((List.range i).map fun a => iD (ph a))))
      refine ⟨_, _, rfl, seq_nx (asg rfl) (seq_nx ht (appE rfl rfl (by rw [List.length_map, List.length_range]; omega))), o2', some (iD i), some (iD (ph i)), ?_⟩
      rw [← range_snoc]
      rfl) q 0 _ (by omega) ⟨_, _, _, rfl⟩
  rw [← List.range_eq_range'] at t1
  refine seq_nx (forE hr t1) ?_
  subst t2
  exact ret (fLstE (cons rfl (cons rfl (cons rfl (cons rfl (cons rfl (cons rfl (cons rfl (cons rfl rfl)))))))))
def figD (p n x : Nat) : G.D := .lst ((List.range n).map fun i => iD (x / p ^ i % p))
def lrA (q : Nat) (F : G.Fld) (l : List G.D) (a : Nat) : Bool := (List.range q).all fun c => Nat.beq c 0 || match S.b_lines_right0 [none, some (.fld F), some (.lst l), none, none, none, some (.int a), some (.int c)] with
  | some (.rt (.bl true)) => true
  | _ => false
theorem lrB_of {q : Nat} {F : G.Fld} {l : List G.D} (h : ∀ a, a < q → lrA q F l a = true) : lrB q F l = true := List.all_eq_true.mpr fun a ha => h a (List.mem_range.mp ha)
end B

set_option autoImplicit false
set_option Elab.async false
set_option linter.all false
set_option maxRecDepth 100000
set_option maxHeartbeats 4000000
/-! The field of 4 elements: tables, checks by the kernel. Printed by genf.py. -/
namespace B
open G M
namespace Fa
def t_add : Nat := 1257873498147170388000
def t_mul : Nat := 76849175288044735954944
def t_neg : Nat := 100384
def t_inv : Nat := 68640
def t_ph : Nat := 68640
def t_ps : Nat := 68640
def t_nm : Nat := 33824
def t_ld : Nat := 76849175288044735954944
def t_bk : Nat := 40250904851565923794944
def t_pows : Nat := 3137
def t_logs : Nat := 66560
abbrev q : Nat := 4
def O : Ops q := opsT 3 t_add t_mul t_neg t_ph t_ps t_nm t_ld t_bk
def F : G.Fld := ⟨2, 2, 4, [1, 1, 1], (List.range 3).map fun i => ((tb t_pows i : Nat) : Int), (-1) :: (List.range 3).map fun i => ((tb t_logs (i + 1) : Nat) : Int)⟩
def W : List G.D := [.int 2, .int 2, .int 4, tabD t_add 4, tabD t_mul 4, rowD t_neg 4, rowD t_inv 4, rowD t_ph 4]
theorem hF : S.Field [.int 2, S.L [1, 1, 1]] = some (.fld F) := by kernel_rfl
theorem hW : S.law_world [.int 2, S.L [1, 1, 1]] = some (.lst W) := by kernel_rfl
theorem laws : lawsB O = true := by decide +kernel
theorem fld : fldB O F = true := by decide +kernel
theorem wld : wldB O W = true := by decide +kernel
theorem lr : lrB q F W = true := by decide +kernel
theorem allq : allQ O (S.mostDeg (q : Int)) [O.u] = true := by decide +kernel
theorem all : allG O (S.mostDeg (q : Int)) [O.u] = true := allQ_all O rfl _ _ allq
theorem ok : S.okField 2 [1, 1, 1] := okF (O := O) rfl rfl (by decide +kernel) (by decide) (by decide) rfl rfl laws fld wld lr all hF hW
end Fa
end B

set_option autoImplicit false
set_option Elab.async false
set_option linter.all false
set_option maxRecDepth 100000
set_option maxHeartbeats 4000000
/-! The field of 8 elements: tables, checks by the kernel. Printed by genf.py. -/
namespace B
open G M
namespace Fb
def t_add : Nat := 2222671212794694141534283269429976345017421774852694578975096169606922552458795706466451949600
def t_mul : Nat := 208985769616701827085840123152954852478033187635719036164232176083338580047196829227489607811072
def t_neg : Nat := 247132686368
def t_inv : Nat := 140734829600
def t_ph : Nat := 105468039200
def t_ps : Nat := 176196655136
def t_nm : Nat := 35468117024
def t_ld : Nat := 208985769616701827085840123152954852478033187635719036164232176083338580047196829227489607811072
def t_bk : Nat := 71253748416922397998888536441714358458094606390786690694329213113232524860030308441987399811072
def t_pows : Nat := 5609984065
def t_logs : Nat := 176297182208
abbrev q : Nat := 8
def O : Ops q := opsT 7 t_add t_mul t_neg t_ph t_ps t_nm t_ld t_bk
def F : G.Fld := ⟨2, 3, 8, [1, 1, 0, 1], (List.range 7).map fun i => ((tb t_pows i : Nat) : Int), (-1) :: (List.range 7).map fun i => ((tb t_logs (i + 1) : Nat) : Int)⟩
def W : List G.D := [.int 2, .int 3, .int 8, tabD t_add 8, tabD t_mul 8, rowD t_neg 8, rowD t_inv 8, rowD t_ph 8]
theorem hF : S.Field [.int 2, S.L [1, 1, 0, 1]] = some (.fld F) := by kernel_rfl
theorem hW : S.law_world [.int 2, S.L [1, 1, 0, 1]] = some (.lst W) := by kernel_rfl
theorem laws : lawsB O = true := by decide +kernel
theorem fld : fldB O F = true := by decide +kernel
theorem wld : wldB O W = true := by decide +kernel
theorem lr : lrB q F W = true := by decide +kernel
theorem allq : allQ O (S.mostDeg (q : Int)) [O.u] = true := by decide +kernel
theorem all : allG O (S.mostDeg (q : Int)) [O.u] = true := allQ_all O rfl _ _ allq
theorem ok : S.okField 2 [1, 1, 0, 1] := okF (O := O) rfl rfl (by decide +kernel) (by decide) (by decide) rfl rfl laws fld wld lr all hF hW
end Fb
end B

set_option autoImplicit false
set_option Elab.async false
set_option linter.all false
set_option maxRecDepth 100000
set_option maxHeartbeats 4000000
/-! The field of 9 elements: tables, checks by the kernel. Printed by genf.py. -/
namespace B
open G M
namespace Fc
def t_add : Nat := 10583773055631901445943951575797730473326710187196548611996075012024505515092803899649948157155622235601072744596833929248
def t_mul : Nat := 15586968764015702712568157778771452852484259313638040401858295881418216071443080730106150686200323360740420026447758884864
def t_neg : Nat := 4573309895744
def t_inv : Nat := 7974820186144
def t_ph : Nat := 5638494292000
def t_ps : Nat := 5638494292000
def t_nm : Nat := 2268885713952
def t_ld : Nat := 13486767733735274911063770304227908114338324726494088067759940973031623806075007398174611226928145204764250039111838072832
def t_bk : Nat := 18489724189754364889765794223754229118025440734992625197449401615119476834443287244638047017694739075118162355947132944384
def t_pows : Nat := 175290685569
def t_logs : Nat := 5603020967936
abbrev q : Nat := 9
def O : Ops q := opsT 8 t_add t_mul t_neg t_ph t_ps t_nm t_ld t_bk
def F : G.Fld := ⟨3, 2, 9, [1, 0, 1], (List.range 8).map fun i => ((tb t_pows i : Nat) : Int), (-1) :: (List.range 8).map fun i => ((tb t_logs (i + 1) : Nat) : Int)⟩
def W : List G.D := [.int 3, .int 2, .int 9, tabD t_add 9, tabD t_mul 9, rowD t_neg 9, rowD t_inv 9, rowD t_ph 9]
theorem hF : S.Field [.int 3, S.L [1, 0, 1]] = some (.fld F) := by kernel_rfl
def R : G.D := .lst ((List.range 9).map (figD 3 2))
def fa (a b : Nat) : Nat := tb t_add (9 * a + b)
def fm (a b : Nat) : Nat := tb t_mul (9 * a + b)
theorem fig_0 : S.law_figures [iD 3, iD 2, iD 0] = some (figD 3 2 0) := by kernel_rfl
theorem sum_0 : ∀ acc, cSum [some (iD 3), some (S.L [1, 0, 1]), some (iD 1), some R, acc, some (figD 3 2 0), none, none, none, none, none, some (iD 2), some (iD 9), none, none, none, none] = some (rowW 9 (fa 0)) := by
  intro acc
  kernel_rfl
theorem prd_0 : S.law_product_row [iD 3, S.L [1, 0, 1], R, iD 0] = some (rowW 9 (fm 0)) := by kernel_rfl
theorem les_0 : ∀ o5, cLess [some (iD 3), some (S.L [1, 0, 1]), some (iD 1), some R, some (tabW 9 fa), o5, some (tabW 9 fm), none, none, none, some (iD 0), some (iD 2), some (iD 9), none, none, none, none] = some (iD (tb t_neg 0)) := by
  intro o5
  kernel_rfl
theorem trn_0 : ∀ o2 o5 o7 o8 acc, cTurn [some (iD 3), some (S.L [1, 0, 1]), o2, some R, some (tabW 9 fa), o5, some (tabW 9 fm), o7, o8, acc, some (iD 0), some (iD 2), some (iD 9), some (.int 1), none, none, none] = some (.nx [some (iD 3), some (S.L [1, 0, 1]), some (iD 2), some R, some (tabW 9 fa), o5, some (tabW 9 fm), o7, o8, acc, some (iD 0), some (iD 2), some (iD 9), some (iD (tb t_ph 0)), none, none, none]) := by
  intro o2 o5 o7 o8 acc
  kernel_rfl
theorem fig_1 : S.law_figures [iD 3, iD 2, iD 1] = some (figD 3 2 1) := by kernel_rfl
theorem sum_1 : ∀ acc, cSum [some (iD 3), some (S.L [1, 0, 1]), some (iD 1), some R, acc, some (figD 3 2 1), none, none, none, none, none, some (iD 2), some (iD 9), none, none, none, none] = some (rowW 9 (fa 1)) := by
  intro acc
  kernel_rfl
theorem prd_1 : S.law_product_row [iD 3, S.L [1, 0, 1], R, iD 1] = some (rowW 9 (fm 1)) := by kernel_rfl
theorem les_1 : ∀ o5, cLess [some (iD 3), some (S.L [1, 0, 1]), some (iD 1), some R, some (tabW 9 fa), o5, some (tabW 9 fm), none, none, none, some (iD 1), some (iD 2), some (iD 9), none, none, none, none] = some (iD (tb t_neg 1)) := by
  intro o5
  kernel_rfl
theorem und_1 : ∀ o5 o7, cUnd [some (iD 3), some (S.L [1, 0, 1]), some (iD 1), some R, some (tabW 9 fa), o5, some (tabW 9 fm), o7, none, none, some (iD 1), some (iD 2), some (iD 9), none, none, none, none] = some (iD (tb t_inv 1)) := by
  intro o5 o7
  kernel_rfl
theorem trn_1 : ∀ o2 o5 o7 o8 acc, cTurn [some (iD 3), some (S.L [1, 0, 1]), o2, some R, some (tabW 9 fa), o5, some (tabW 9 fm), o7, o8, acc, some (iD 1), some (iD 2), some (iD 9), some (.int 1), none, none, none] = some (.nx [some (iD 3), some (S.L [1, 0, 1]), some (iD 2), some R, some (tabW 9 fa), o5, some (tabW 9 fm), o7, o8, acc, some (iD 1), some (iD 2), some (iD 9), some (iD (tb t_ph 1)), none, none, none]) := by
  intro o2 o5 o7 o8 acc
  kernel_rfl
theorem fig_2 : S.law_figures [iD 3, iD 2, iD 2] = some (figD 3 2 2) := by kernel_rfl
theorem sum_2 : ∀ acc, cSum [some (iD 3), some (S.L [1, 0, 1]), some (iD 1), some R, acc, some (figD 3 2 2), none, none, none, none, none, some (iD 2), some (iD 9), none, none, none, none] = some (rowW 9 (fa 2)) := by
  intro acc
  kernel_rfl
theorem prd_2 : S.law_product_row [iD 3, S.L [1, 0, 1], R, iD 2] = some (rowW 9 (fm 2)) := by kernel_rfl
theorem les_2 : ∀ o5, cLess [some (iD 3), some (S.L [1, 0, 1]), some (iD 1), some R, some (tabW 9 fa), o5, some (tabW 9 fm), none, none, none, some (iD 2), some (iD 2), some (iD 9), none, none, none, none] = some (iD (tb t_neg 2)) := by
  intro o5
  kernel_rfl
theorem und_2 : ∀ o5 o7, cUnd [some (iD 3), some (S.L [1, 0, 1]), some (iD 1), some R, some (tabW 9 fa), o5, some (tabW 9 fm), o7, none, none, some (iD 2), some (iD 2), some (iD 9), none, none, none, none] = some (iD (tb t_inv 2)) := by
  intro o5 o7
  kernel_rfl
theorem trn_2 : ∀ o2 o5 o7 o8 acc, cTurn [some (iD 3), some (S.L [1, 0, 1]), o2, some R, some (tabW 9 fa), o5, some (tabW 9 fm), o7, o8, acc, some (iD 2), some (iD 2), some (iD 9), some (.int 1), none, none, none] = some (.nx [some (iD 3), some (S.L [1, 0, 1]), some (iD 2), some R, some (tabW 9 fa), o5, some (tabW 9 fm), o7, o8, acc, some (iD 2), some (iD 2), some (iD 9), some (iD (tb t_ph 2)), none, none, none]) := by
  intro o2 o5 o7 o8 acc
  kernel_rfl
theorem fig_3 : S.law_figures [iD 3, iD 2, iD 3] = some (figD 3 2 3) := by kernel_rfl
theorem sum_3 : ∀ acc, cSum [some (iD 3), some (S.L [1, 0, 1]), some (iD 1), some R, acc, some (figD 3 2 3), none, none, none, none, none, some (iD 2), some (iD 9), none, none, none, none] = some (rowW 9 (fa 3)) := by
  intro acc
  kernel_rfl
theorem prd_3 : S.law_product_row [iD 3, S.L [1, 0, 1], R, iD 3] = some (rowW 9 (fm 3)) := by kernel_rfl
theorem les_3 : ∀ o5, cLess [some (iD 3), some (S.L [1, 0, 1]), some (iD 1), some R, some (tabW 9 fa), o5, some (tabW 9 fm), none, none, none, some (iD 3), some (iD 2), some (iD 9), none, none, none, none] = some (iD (tb t_neg 3)) := by
  intro o5
  kernel_rfl
theorem und_3 : ∀ o5 o7, cUnd [some (iD 3), some (S.L [1, 0, 1]), some (iD 1), some R, some (tabW 9 fa), o5, some (tabW 9 fm), o7, none, none, some (iD 3), some (iD 2), some (iD 9), none, none, none, none] = some (iD (tb t_inv 3)) := by
  intro o5 o7
  kernel_rfl
theorem trn_3 : ∀ o2 o5 o7 o8 acc, cTurn [some (iD 3), some (S.L [1, 0, 1]), o2, some R, some (tabW 9 fa), o5, some (tabW 9 fm), o7, o8, acc, some (iD 3), some (iD 2), some (iD 9), some (.int 1), none, none, none] = some (.nx [some (iD 3), some (S.L [1, 0, 1]), some (iD 2), some R, some (tabW 9 fa), o5, some (tabW 9 fm), o7, o8, acc, some (iD 3), some (iD 2), some (iD 9), some (iD (tb t_ph 3)), none, none, none]) := by
  intro o2 o5 o7 o8 acc
  kernel_rfl
theorem fig_4 : S.law_figures [iD 3, iD 2, iD 4] = some (figD 3 2 4) := by kernel_rfl
theorem sum_4 : ∀ acc, cSum [some (iD 3), some (S.L [1, 0, 1]), some (iD 1), some R, acc, some (figD 3 2 4), none, none, none, none, none, some (iD 2), some (iD 9), none, none, none, none] = some (rowW 9 (fa 4)) := by
  intro acc
  kernel_rfl
theorem prd_4 : S.law_product_row [iD 3, S.L [1, 0, 1], R, iD 4] = some (rowW 9 (fm 4)) := by kernel_rfl
theorem les_4 : ∀ o5, cLess [some (iD 3), some (S.L [1, 0, 1]), some (iD 1), some R, some (tabW 9 fa), o5, some (tabW 9 fm), none, none, none, some (iD 4), some (iD 2), some (iD 9), none, none, none, none] = some (iD (tb t_neg 4)) := by
  intro o5
  kernel_rfl
theorem und_4 : ∀ o5 o7, cUnd [some (iD 3), some (S.L [1, 0, 1]), some (iD 1), some R, some (tabW 9 fa), o5, some (tabW 9 fm), o7, none, none, some (iD 4), some (iD 2), some (iD 9), none, none, none, none] = some (iD (tb t_inv 4)) := by
  intro o5 o7
  kernel_rfl
theorem trn_4 : ∀ o2 o5 o7 o8 acc, cTurn [some (iD 3), some (S.L [1, 0, 1]), o2, some R, some (tabW 9 fa), o5, some (tabW 9 fm), o7, o8, acc, some (iD 4), some (iD 2), some (iD 9), some (.int 1), none, none, none] = some (.nx [some (iD 3), some (S.L [1, 0, 1]), some (iD 2), some R, some (tabW 9 fa), o5, some (tabW 9 fm), o7, o8, acc, some (iD 4), some (iD 2), some (iD 9), some (iD (tb t_ph 4)), none, none, none]) := by
  intro o2 o5 o7 o8 acc
  kernel_rfl
theorem fig_5 : S.law_figures [iD 3, iD 2, iD 5] = some (figD 3 2 5) := by kernel_rfl
theorem sum_5 : ∀ acc, cSum [some (iD 3), some (S.L [1, 0, 1]), some (iD 1), some R, acc, some (figD 3 2 5), none, none, none, none, none, some (iD 2), some (iD 9), none, none, none, none] = some (rowW 9 (fa 5)) := by
  intro acc
  kernel_rfl
theorem prd_5 : S.law_product_row [iD 3, S.L [1, 0, 1], R, iD 5] = some (rowW 9 (fm 5)) := by kernel_rfl
theorem les_5 : ∀ o5, cLess [some (iD 3), some (S.L [1, 0, 1]), some (iD 1), some R, some (tabW 9 fa), o5, some (tabW 9 fm), none, none, none, some (iD 5), some (iD 2), some (iD 9), none, none, none, none] = some (iD (tb t_neg 5)) := by
  intro o5
  kernel_rfl
theorem und_5 : ∀ o5 o7, cUnd [some (iD 3), some (S.L [1, 0, 1]), some (iD 1), some R, some (tabW 9 fa), o5, some (tabW 9 fm), o7, none, none, some (iD 5), some (iD 2), some (iD 9), none, none, none, none] = some (iD (tb t_inv 5)) := by
  intro o5 o7
  kernel_rfl
theorem trn_5 : ∀ o2 o5 o7 o8 acc, cTurn [some (iD 3), some (S.L [1, 0, 1]), o2, some R, some (tabW 9 fa), o5, some (tabW 9 fm), o7, o8, acc, some (iD 5), some (iD 2), some (iD 9), some (.int 1), none, none, none] = some (.nx [some (iD 3), some (S.L [1, 0, 1]), some (iD 2), some R, some (tabW 9 fa), o5, some (tabW 9 fm), o7, o8, acc, some (iD 5), some (iD 2), some (iD 9), some (iD (tb t_ph 5)), none, none, none]) := by
  intro o2 o5 o7 o8 acc
  kernel_rfl
theorem fig_6 : S.law_figures [iD 3, iD 2, iD 6] = some (figD 3 2 6) := by kernel_rfl
theorem sum_6 : ∀ acc, cSum [some (iD 3), some (S.L [1, 0, 1]), some (iD 1), some R, acc, some (figD 3 2 6), none, none, none, none, none, some (iD 2), some (iD 9), none, none, none, none] = some (rowW 9 (fa 6)) := by
  intro acc
  kernel_rfl
theorem prd_6 : S.law_product_row [iD 3, S.L [1, 0, 1], R, iD 6] = some (rowW 9 (fm 6)) := by kernel_rfl
theorem les_6 : ∀ o5, cLess [some (iD 3), some (S.L [1, 0, 1]), some (iD 1), some R, some (tabW 9 fa), o5, some (tabW 9 fm), none, none, none, some (iD 6), some (iD 2), some (iD 9), none, none, none, none] = some (iD (tb t_neg 6)) := by
  intro o5
  kernel_rfl
theorem und_6 : ∀ o5 o7, cUnd [some (iD 3), some (S.L [1, 0, 1]), some (iD 1), some R, some (tabW 9 fa), o5, some (tabW 9 fm), o7, none, none, some (iD 6), some (iD 2), some (iD 9), none, none, none, none] = some (iD (tb t_inv 6)) := by
  intro o5 o7
  kernel_rfl
theorem trn_6 : ∀ o2 o5 o7 o8 acc, cTurn [some (iD 3), some (S.L [1, 0, 1]), o2, some R, some (tabW 9 fa), o5, some (tabW 9 fm), o7, o8, acc, some (iD 6), some (iD 2), some (iD 9), some (.int 1), none, none, none] = some (.nx [some (iD 3), some (S.L [1, 0, 1]), some (iD 2), some R, some (tabW 9 fa), o5, some (tabW 9 fm), o7, o8, acc, some (iD 6), some (iD 2), some (iD 9), some (iD (tb t_ph 6)), none, none, none]) := by
  intro o2 o5 o7 o8 acc
  kernel_rfl
theorem fig_7 : S.law_figures [iD 3, iD 2, iD 7] = some (figD 3 2 7) := by kernel_rfl
theorem sum_7 : ∀ acc, cSum [some (iD 3), some (S.L [1, 0, 1]), some (iD 1), some R, acc, some (figD 3 2 7), none, none, none, none, none, some (iD 2), some (iD 9), none, none, none, none] = some (rowW 9 (fa 7)) := by
  intro acc
  kernel_rfl
theorem prd_7 : S.law_product_row [iD 3, S.L [1, 0, 1], R, iD 7] = some (rowW 9 (fm 7)) := by kernel_rfl
theorem les_7 : ∀ o5, cLess [some (iD 3), some (S.L [1, 0, 1]), some (iD 1), some R, some (tabW 9 fa), o5, some (tabW 9 fm), none, none, none, some (iD 7), some (iD 2), some (iD 9), none, none, none, none] = some (iD (tb t_neg 7)) := by
  intro o5
  kernel_rfl
theorem und_7 : ∀ o5 o7, cUnd [some (iD 3), some (S.L [1, 0, 1]), some (iD 1), some R, some (tabW 9 fa), o5, some (tabW 9 fm), o7, none, none, some (iD 7), some (iD 2), some (iD 9), none, none, none, none] = some (iD (tb t_inv 7)) := by
  intro o5 o7
  kernel_rfl
theorem trn_7 : ∀ o2 o5 o7 o8 acc, cTurn [some (iD 3), some (S.L [1, 0, 1]), o2, some R, some (tabW 9 fa), o5, some (tabW 9 fm), o7, o8, acc, some (iD 7), some (iD 2), some (iD 9), some (.int 1), none, none, none] = some (.nx [some (iD 3), some (S.L [1, 0, 1]), some (iD 2), some R, some (tabW 9 fa), o5, some (tabW 9 fm), o7, o8, acc, some (iD 7), some (iD 2), some (iD 9), some (iD (tb t_ph 7)), none, none, none]) := by
  intro o2 o5 o7 o8 acc
  kernel_rfl
theorem fig_8 : S.law_figures [iD 3, iD 2, iD 8] = some (figD 3 2 8) := by kernel_rfl
theorem sum_8 : ∀ acc, cSum [some (iD 3), some (S.L [1, 0, 1]), some (iD 1), some R, acc, some (figD 3 2 8), none, none, none, none, none, some (iD 2), some (iD 9), none, none, none, none] = some (rowW 9 (fa 8)) := by
  intro acc
  kernel_rfl
theorem prd_8 : S.law_product_row [iD 3, S.L [1, 0, 1], R, iD 8] = some (rowW 9 (fm 8)) := by kernel_rfl
theorem les_8 : ∀ o5, cLess [some (iD 3), some (S.L [1, 0, 1]), some (iD 1), some R, some (tabW 9 fa), o5, some (tabW 9 fm), none, none, none, some (iD 8), some (iD 2), some (iD 9), none, none, none, none] = some (iD (tb t_neg 8)) := by
  intro o5
  kernel_rfl
theorem und_8 : ∀ o5 o7, cUnd [some (iD 3), some (S.L [1, 0, 1]), some (iD 1), some R, some (tabW 9 fa), o5, some (tabW 9 fm), o7, none, none, some (iD 8), some (iD 2), some (iD 9), none, none, none, none] = some (iD (tb t_inv 8)) := by
  intro o5 o7
  kernel_rfl
theorem trn_8 : ∀ o2 o5 o7 o8 acc, cTurn [some (iD 3), some (S.L [1, 0, 1]), o2, some R, some (tabW 9 fa), o5, some (tabW 9 fm), o7, o8, acc, some (iD 8), some (iD 2), some (iD 9), some (.int 1), none, none, none] = some (.nx [some (iD 3), some (S.L [1, 0, 1]), some (iD 2), some R, some (tabW 9 fa), o5, some (tabW 9 fm), o7, o8, acc, some (iD 8), some (iD 2), some (iD 9), some (iD (tb t_ph 8)), none, none, none]) := by
  intro o2 o5 o7 o8 acc
  kernel_rfl
theorem figA : ∀ x, x < 9 → S.law_figures [iD 3, iD 2, iD x] = some (figD 3 2 x)
  | 0, _ => fig_0
  | 1, _ => fig_1
  | 2, _ => fig_2
  | 3, _ => fig_3
  | 4, _ => fig_4
  | 5, _ => fig_5
  | 6, _ => fig_6
  | 7, _ => fig_7
  | 8, _ => fig_8
  | k + 9, h => absurd h (by omega)
theorem sumA : ∀ x, x < 9 → ∀ acc, cSum [some (iD 3), some (S.L [1, 0, 1]), some (iD 1), some R, acc, some (figD 3 2 x), none, none, none, none, none, some (iD 2), some (iD 9), none, none, none, none] = some (rowW 9 (fa x))
  | 0, _ => sum_0
  | 1, _ => sum_1
  | 2, _ => sum_2
  | 3, _ => sum_3
  | 4, _ => sum_4
  | 5, _ => sum_5
  | 6, _ => sum_6
  | 7, _ => sum_7
  | 8, _ => sum_8
  | k + 9, h => absurd h (by omega)
theorem prdA : ∀ x, x < 9 → S.law_product_row [iD 3, S.L [1, 0, 1], R, iD x] = some (rowW 9 (fm x))
  | 0, _ => prd_0
  | 1, _ => prd_1
  | 2, _ => prd_2
  | 3, _ => prd_3
  | 4, _ => prd_4
  | 5, _ => prd_5
  | 6, _ => prd_6
  | 7, _ => prd_7
  | 8, _ => prd_8
  | k + 9, h => absurd h (by omega)
theorem lesA : ∀ x, x < 9 → ∀ o5, cLess [some (iD 3), some (S.L [1, 0, 1]), some (iD 1), some R, some (tabW 9 fa), o5, some (tabW 9 fm), none, none, none, some (iD x), some (iD 2), some (iD 9), none, none, none, none] = some (iD (tb t_neg x))
  | 0, _ => les_0
  | 1, _ => les_1
  | 2, _ => les_2
  | 3, _ => les_3
  | 4, _ => les_4
  | 5, _ => les_5
  | 6, _ => les_6
  | 7, _ => les_7
  | 8, _ => les_8
  | k + 9, h => absurd h (by omega)
theorem undA : ∀ x, 1 ≤ x → x < 9 → ∀ o5 o7, cUnd [some (iD 3), some (S.L [1, 0, 1]), some (iD 1), some R, some (tabW 9 fa), o5, some (tabW 9 fm), o7, none, none, some (iD x), some (iD 2), some (iD 9), none, none, none, none] = some (iD (tb t_inv x))
  | 0, h, _ => absurd h (by omega)
  | 1, _, _ => und_1
  | 2, _, _ => und_2
  | 3, _, _ => und_3
  | 4, _, _ => und_4
  | 5, _, _ => und_5
  | 6, _, _ => und_6
  | 7, _, _ => und_7
  | 8, _, _ => und_8
  | k + 9, _, h => absurd h (by omega)
theorem trnA : ∀ x, x < 9 → ∀ o2 o5 o7 o8 acc, cTurn [some (iD 3), some (S.L [1, 0, 1]), o2, some R, some (tabW 9 fa), o5, some (tabW 9 fm), o7, o8, acc, some (iD x), some (iD 2), some (iD 9), some (.int 1), none, none, none] = some (.nx [some (iD 3), some (S.L [1, 0, 1]), some (iD 2), some R, some (tabW 9 fa), o5, some (tabW 9 fm), o7, o8, acc, some (iD x), some (iD 2), some (iD 9), some (iD (tb t_ph x)), none, none, none])
  | 0, _ => trn_0
  | 1, _ => trn_1
  | 2, _ => trn_2
  | 3, _ => trn_3
  | 4, _ => trn_4
  | 5, _ => trn_5
  | 6, _ => trn_6
  | 7, _ => trn_7
  | 8, _ => trn_8
  | k + 9, h => absurd h (by omega)
theorem wf : WF 3 2 9 [1, 0, 1] R (figD 3 2) fa fm (tb t_neg) (tb t_inv) (tb t_ph) where
  eR := rfl
  q1 := by decide
  q2 := by decide
  st := by kernel_rfl
  fig := figA
  sum := sumA
  prd := prdA
  les := lesA
  inv0 := by decide +kernel
  und := undA
  trn := fun x h o2 o5 o7 o8 acc => ⟨_, trnA x h o2 o5 o7 o8 acc⟩
theorem hW : S.law_world [.int 3, S.L [1, 0, 1]] = some (.lst W) := world_eq wf
theorem laws : lawsB O = true := by decide +kernel
theorem fld : fldB O F = true := by decide +kernel
theorem wld : wldB O W = true := by decide +kernel
theorem lr_0 : lrA q F W 0 = true := by decide +kernel
theorem lr_1 : lrA q F W 1 = true := by decide +kernel
theorem lr_2 : lrA q F W 2 = true := by decide +kernel
theorem lr_3 : lrA q F W 3 = true := by decide +kernel
theorem lr_4 : lrA q F W 4 = true := by decide +kernel
theorem lr_5 : lrA q F W 5 = true := by decide +kernel
theorem lr_6 : lrA q F W 6 = true := by decide +kernel
theorem lr_7 : lrA q F W 7 = true := by decide +kernel
theorem lr_8 : lrA q F W 8 = true := by decide +kernel
theorem lrAll : ∀ x, x < 9 → lrA q F W x = true
  | 0, _ => lr_0
  | 1, _ => lr_1
  | 2, _ => lr_2
  | 3, _ => lr_3
  | 4, _ => lr_4
  | 5, _ => lr_5
  | 6, _ => lr_6
  | 7, _ => lr_7
  | 8, _ => lr_8
  | k + 9, h => absurd h (by omega)
theorem lr : lrB q F W = true := lrB_of lrAll
theorem allq : allQ O (S.mostDeg (q : Int)) [O.u] = true := by decide +kernel
theorem all : allG O (S.mostDeg (q : Int)) [O.u] = true := allQ_all O rfl _ _ allq
theorem ok : S.okField 3 [1, 0, 1] := okF (O := O) rfl rfl (by decide +kernel) (by decide) (by decide) rfl rfl laws fld wld lr all hF hW
end Fc
end B

set_option autoImplicit false
set_option Elab.async false
set_option linter.all false
set_option maxRecDepth 100000
set_option maxHeartbeats 4000000
/-! The field of 16 elements: tables, checks by the kernel. Printed by genf.py. -/
namespace B
open G M
namespace Fd
def t_add : Nat := 21660628917095523583602957036327219445931786460243747932575041302463298946191732681705941809655322665869125115900338717058631966062958764679964503003727192961304895290211039409933157016991642322345507623299552075025705055613721521472059064666841685595944816075159889035418051231706004417015586104006264679491027986289741274923185526458860957755694890121107878146353932409875061639200
def t_mul : Nat := 6611205247545623063790713905720458957841077752496910745817062046454951107331266495178805605341957941520198308025959761425132441317092785613359362757853657583271947147181924323654710313750805473231818564181526973811577033132800852981878978597790374382637455402966531799781009633516368516245344729769383266179540982239137686150882528074516922068071441505512748172385476820876109367214080
def t_neg : Nat := 583706118939841765935136
def t_inv : Nat := 305932526675304725816352
def t_ph : Nat := 391309962851273258733600
def t_ps : Nat := 469036659880069769073696
def t_nm : Nat := 38997607084342876603424
def t_ld : Nat := 6611205247545623063790713905720458957841077752496910745817062046454951107331266495178805605341957941520198308025959761425132441317092785613359362757853657583271947147181924323654710313750805473231818564181526973811577033132800852981878978597790374382637455402966531799781009633516368516245344729769383266179540982239137686150882528074516922068071441505512748172385476820876109367214080
def t_bk : Nat := 697111099198954388521559703530932293615450547933320349138461641785771099690812969665066635596819894973153529458877430341697530540481815926264707390545956402673218489009529592781171375941591647524718302039334616348674202770918682209367885241509847982176377260839105384967290667592838883106869605519336821196873228140492756584854309519267915081241842938615796710975455580573084501934080
def t_pows : Nat := 11122746397132191961153
def t_logs : Nat := 466820485889228829492224
abbrev q : Nat := 16
def O : Ops q := opsT 15 t_add t_mul t_neg t_ph t_ps t_nm t_ld t_bk
def F : G.Fld := ⟨2, 4, 16, [1, 1, 0, 0, 1], (List.range 15).map fun i => ((tb t_pows i : Nat) : Int), (-1) :: (List.range 15).map fun i => ((tb t_logs (i + 1) : Nat) : Int)⟩
def W : List G.D := [.int 2, .int 4, .int 16, tabD t_add 16, tabD t_mul 16, rowD t_neg 16, rowD t_inv 16, rowD t_ph 16]
theorem hF : S.Field [.int 2, S.L [1, 1, 0, 0, 1]] = some (.fld F) := by kernel_rfl
def R : G.D := .lst ((List.range 16).map (figD 2 4))
def fa (a b : Nat) : Nat := tb t_add (16 * a + b)
def fm (a b : Nat) : Nat := tb t_mul (16 * a + b)
theorem fig_0 : S.law_figures [iD 2, iD 4, iD 0] = some (figD 2 4 0) := by kernel_rfl
theorem sum_0 : ∀ acc, cSum [some (iD 2), some (S.L [1, 1, 0, 0, 1]), some (iD 3), some R, acc, some (figD 2 4 0), none, none, none, none, none, some (iD 4), some (iD 16), none, none, none, none] = some (rowW 16 (fa 0)) := by
  intro acc
  kernel_rfl
theorem prd_0 : S.law_product_row [iD 2, S.L [1, 1, 0, 0, 1], R, iD 0] = some (rowW 16 (fm 0)) := by kernel_rfl
theorem les_0 : ∀ o5, cLess [some (iD 2), some (S.L [1, 1, 0, 0, 1]), some (iD 3), some R, some (tabW 16 fa), o5, some (tabW 16 fm), none, none, none, some (iD 0), some (iD 4), some (iD 16), none, none, none, none] = some (iD (tb t_neg 0)) := by
  intro o5
  kernel_rfl
theorem trn_0 : ∀ o2 o5 o7 o8 acc, cTurn [some (iD 2), some (S.L [1, 1, 0, 0, 1]), o2, some R, some (tabW 16 fa), o5, some (tabW 16 fm), o7, o8, acc, some (iD 0), some (iD 4), some (iD 16), some (.int 1), none, none, none] = some (.nx [some (iD 2), some (S.L [1, 1, 0, 0, 1]), some (iD 1), some R, some (tabW 16 fa), o5, some (tabW 16 fm), o7, o8, acc, some (iD 0), some (iD 4), some (iD 16), some (iD (tb t_ph 0)), none, none, none]) := by
  intro o2 o5 o7 o8 acc
  kernel_rfl
theorem fig_1 : S.law_figures [iD 2, iD 4, iD 1] = some (figD 2 4 1) := by kernel_rfl
theorem sum_1 : ∀ acc, cSum [some (iD 2), some (S.L [1, 1, 0, 0, 1]), some (iD 3), some R, acc, some (figD 2 4 1), none, none, none, none, none, some (iD 4), some (iD 16), none, none, none, none] = some (rowW 16 (fa 1)) := by
  intro acc
  kernel_rfl
theorem prd_1 : S.law_product_row [iD 2, S.L [1, 1, 0, 0, 1], R, iD 1] = some (rowW 16 (fm 1)) := by kernel_rfl
theorem les_1 : ∀ o5, cLess [some (iD 2), some (S.L [1, 1, 0, 0, 1]), some (iD 3), some R, some (tabW 16 fa), o5, some (tabW 16 fm), none, none, none, some (iD 1), some (iD 4), some (iD 16), none, none, none, none] = some (iD (tb t_neg 1)) := by
  intro o5
  kernel_rfl
theorem und_1 : ∀ o5 o7, cUnd [some (iD 2), some (S.L [1, 1, 0, 0, 1]), some (iD 3), some R, some (tabW 16 fa), o5, some (tabW 16 fm), o7, none, none, some (iD 1), some (iD 4), some (iD 16), none, none, none, none] = some (iD (tb t_inv 1)) := by
  intro o5 o7
  kernel_rfl
theorem trn_1 : ∀ o2 o5 o7 o8 acc, cTurn [some (iD 2), some (S.L [1, 1, 0, 0, 1]), o2, some R, some (tabW 16 fa), o5, some (tabW 16 fm), o7, o8, acc, some (iD 1), some (iD 4), some (iD 16), some (.int 1), none, none, none] = some (.nx [some (iD 2), some (S.L [1, 1, 0, 0, 1]), some (iD 1), some R, some (tabW 16 fa), o5, some (tabW 16 fm), o7, o8, acc, some (iD 1), some (iD 4), some (iD 16), some (iD (tb t_ph 1)), none, none, none]) := by
  intro o2 o5 o7 o8 acc
  kernel_rfl
theorem fig_2 : S.law_figures [iD 2, iD 4, iD 2] = some (figD 2 4 2) := by kernel_rfl
theorem sum_2 : ∀ acc, cSum [some (iD 2), some (S.L [1, 1, 0, 0, 1]), some (iD 3), some R, acc, some (figD 2 4 2), none, none, none, none, none, some (iD 4), some (iD 16), none, none, none, none] = some (rowW 16 (fa 2)) := by
  intro acc
  kernel_rfl
theorem prd_2 : S.law_product_row [iD 2, S.L [1, 1, 0, 0, 1], R, iD 2] = some (rowW 16 (fm 2)) := by kernel_rfl
theorem les_2 : ∀ o5, cLess [some (iD 2), some (S.L [1, 1, 0, 0, 1]), some (iD 3), some R, some (tabW 16 fa), o5, some (tabW 16 fm), none, none, none, some (iD 2), some (iD 4), some (iD 16), none, none, none, none] = some (iD (tb t_neg 2)) := by
  intro o5
  kernel_rfl
theorem und_2 : ∀ o5 o7, cUnd [some (iD 2), some (S.L [1, 1, 0, 0, 1]), some (iD 3), some R, some (tabW 16 fa), o5, some (tabW 16 fm), o7, none, none, some (iD 2), some (iD 4), some (iD 16), none, none, none, none] = some (iD (tb t_inv 2)) := by
  intro o5 o7
  kernel_rfl
theorem trn_2 : ∀ o2 o5 o7 o8 acc, cTurn [some (iD 2), some (S.L [1, 1, 0, 0, 1]), o2, some R, some (tabW 16 fa), o5, some (tabW 16 fm), o7, o8, acc, some (iD 2), some (iD 4), some (iD 16), some (.int 1), none, none, none] = some (.nx [some (iD 2), some (S.L [1, 1, 0, 0, 1]), some (iD 1), some R, some (tabW 16 fa), o5, some (tabW 16 fm), o7, o8, acc, some (iD 2), some (iD 4), some (iD 16), some (iD (tb t_ph 2)), none, none, none]) := by
  intro o2 o5 o7 o8 acc
  kernel_rfl
theorem fig_3 : S.law_figures [iD 2, iD 4, iD 3] = some (figD 2 4 3) := by kernel_rfl
theorem sum_3 : ∀ acc, cSum [some (iD 2), some (S.L [1, 1, 0, 0, 1]), some (iD 3), some R, acc, some (figD 2 4 3), none, none, none, none, none, some (iD 4), some (iD 16), none, none, none, none] = some (rowW 16 (fa 3)) := by
  intro acc
  kernel_rfl
theorem prd_3 : S.law_product_row [iD 2, S.L [1, 1, 0, 0, 1], R, iD 3] = some (rowW 16 (fm 3)) := by kernel_rfl
theorem les_3 : ∀ o5, cLess [some (iD 2), some (S.L [1, 1, 0, 0, 1]), some (iD 3), some R, some (tabW 16 fa), o5, some (tabW 16 fm), none, none, none, some (iD 3), some (iD 4), some (iD 16), none, none, none, none] = some (iD (tb t_neg 3)) := by
  intro o5
  kernel_rfl
theorem und_3 : ∀ o5 o7, cUnd [some (iD 2), some (S.L [1, 1, 0, 0, 1]), some (iD 3), some R, some (tabW 16 fa), o5, some (tabW 16 fm), o7, none, none, some (iD 3), some (iD 4), some (iD 16), none, none, none, none] = some (iD (tb t_inv 3)) := by
  intro o5 o7
  kernel_rfl
theorem trn_3 : ∀ o2 o5 o7 o8 acc, cTurn [some (iD 2), some (S.L [1, 1, 0, 0, 1]), o2, some R, some (tabW 16 fa), o5, some (tabW 16 fm), o7, o8, acc, some (iD 3), some (iD 4), some (iD 16), some (.int 1), none, none, none] = some (.nx [some (iD 2), some (S.L [1, 1, 0, 0, 1]), some (iD 1), some R, some (tabW 16 fa), o5, some (tabW 16 fm), o7, o8, acc, some (iD 3), some (iD 4), some (iD 16), some (iD (tb t_ph 3)), none, none, none]) := by
  intro o2 o5 o7 o8 acc
  kernel_rfl
theorem fig_4 : S.law_figures [iD 2, iD 4, iD 4] = some (figD 2 4 4) := by kernel_rfl
theorem sum_4 : ∀ acc, cSum [some (iD 2), some (S.L [1, 1, 0, 0, 1]), some (iD 3), some R, acc, some (figD 2 4 4), none, none, none, none, none, some (iD 4), some (iD 16), none, none, none, none] = some (rowW 16 (fa 4)) := by
  intro acc
  kernel_rfl
theorem prd_4 : S.law_product_row [iD 2, S.L [1, 1, 0, 0, 1], R, iD 4] = some (rowW 16 (fm 4)) := by kernel_rfl
theorem les_4 : ∀ o5, cLess [some (iD 2), some (S.L [1, 1, 0, 0, 1]), some (iD 3), some R, some (tabW 16 fa), o5, some (tabW 16 fm), none, none, none, some (iD 4), some (iD 4), some (iD 16), none, none, none, none] = some (iD (tb t_neg 4)) := by
  intro o5
  kernel_rfl
theorem und_4 : ∀ o5 o7, cUnd [some (iD 2), some (S.L [1, 1, 0, 0, 1]), some (iD 3), some R, some (tabW 16 fa), o5, some (tabW 16 fm), o7, none, none, some (iD 4), some (iD 4), some (iD 16), none, none, none, none] = some (iD (tb t_inv 4)) := by
  intro o5 o7
  kernel_rfl
theorem trn_4 : ∀ o2 o5 o7 o8 acc, cTurn [some (iD 2), some (S.L [1, 1, 0, 0, 1]), o2, some R, some (tabW 16 fa), o5, some (tabW 16 fm), o7, o8, acc, some (iD 4), some (iD 4), some (iD 16), some (.int 1), none, none, none] = some (.nx [some (iD 2), some (S.L [1, 1, 0, 0, 1]), some (iD 1), some R, some (tabW 16 fa), o5, some (tabW 16 fm), o7, o8, acc, some (iD 4), some (iD 4), some (iD 16), some (iD (tb t_ph 4)), none, none, none]) := by
  intro o2 o5 o7 o8 acc
  kernel_rfl
theorem fig_5 : S.law_figures [iD 2, iD 4, iD 5] = some (figD 2 4 5) := by kernel_rfl
theorem sum_5 : ∀ acc, cSum [some (iD 2), some (S.L [1, 1, 0, 0, 1]), some (iD 3), some R, acc, some (figD 2 4 5), none, none, none, none, none, some (iD 4), some (iD 16), none, none, none, none] = some (rowW 16 (fa 5)) := by
  intro acc
  kernel_rfl
theorem prd_5 : S.law_product_row [iD 2, S.L [1, 1, 0, 0, 1], R, iD 5] = some (rowW 16 (fm 5)) := by kernel_rfl
theorem les_5 : ∀ o5, cLess [some (iD 2), some (S.L [1, 1, 0, 0, 1]), some (iD 3), some R, some (tabW 16 fa), o5, some (tabW 16 fm), none, none, none, some (iD 5), some (iD 4), some (iD 16), none, none, none, none] = some (iD (tb t_neg 5)) := by
  intro o5
  kernel_rfl
theorem und_5 : ∀ o5 o7, cUnd [some (iD 2), some (S.L [1, 1, 0, 0, 1]), some (iD 3), some R, some (tabW 16 fa), o5, some (tabW 16 fm), o7, none, none, some (iD 5), some (iD 4), some (iD 16), none, none, none, none] = some (iD (tb t_inv 5)) := by
  intro o5 o7
  kernel_rfl
theorem trn_5 : ∀ o2 o5 o7 o8 acc, cTurn [some (iD 2), some (S.L [1, 1, 0, 0, 1]), o2, some R, some (tabW 16 fa), o5, some (tabW 16 fm), o7, o8, acc, some (iD 5), some (iD 4), some (iD 16), some (.int 1), none, none, none] = some (.nx [some (iD 2), some (S.L [1, 1, 0, 0, 1]), some (iD 1), some R, some (tabW 16 fa), o5, some (tabW 16 fm), o7, o8, acc, some (iD 5), some (iD 4), some (iD 16), some (iD (tb t_ph 5)), none, none, none]) := by
  intro o2 o5 o7 o8 acc
  kernel_rfl
theorem fig_6 : S.law_figures [iD 2, iD 4, iD 6] = some (figD 2 4 6) := by kernel_rfl
theorem sum_6 : ∀ acc, cSum [some (iD 2), some (S.L [1, 1, 0, 0, 1]), some (iD 3), some R, acc, some (figD 2 4 6), none, none, none, none, none, some (iD 4), some (iD 16), none, none, none, none] = some (rowW 16 (fa 6)) := by
  intro acc
  kernel_rfl
theorem prd_6 : S.law_product_row [iD 2, S.L [1, 1, 0, 0, 1], R, iD 6] = some (rowW 16 (fm 6)) := by kernel_rfl
theorem les_6 : ∀ o5, cLess [some (iD 2), some (S.L [1, 1, 0, 0, 1]), some (iD 3), some R, some (tabW 16 fa), o5, some (tabW 16 fm), none, none, none, some (iD 6), some (iD 4), some (iD 16), none, none, none, none] = some (iD (tb t_neg 6)) := by
  intro o5
  kernel_rfl
theorem und_6 : ∀ o5 o7, cUnd [some (iD 2), some (S.L [1, 1, 0, 0, 1]), some (iD 3), some R, some (tabW 16 fa), o5, some (tabW 16 fm), o7, none, none, some (iD 6), some (iD 4), some (iD 16), none, none, none, none] = some (iD (tb t_inv 6)) := by
  intro o5 o7
  kernel_rfl
theorem trn_6 : ∀ o2 o5 o7 o8 acc, cTurn [some (iD 2), some (S.L [1, 1, 0, 0, 1]), o2, some R, some (tabW 16 fa), o5, some (tabW 16 fm), o7, o8, acc, some (iD 6), some (iD 4), some (iD 16), some (.int 1), none, none, none] = some (.nx [some (iD 2), some (S.L [1, 1, 0, 0, 1]), some (iD 1), some R, some (tabW 16 fa), o5, some (tabW 16 fm), o7, o8, acc, some (iD 6), some (iD 4), some (iD 16), some (iD (tb t_ph 6)), none, none, none]) := by
  intro o2 o5 o7 o8 acc
  kernel_rfl
theorem fig_7 : S.law_figures [iD 2, iD 4, iD 7] = some (figD 2 4 7) := by kernel_rfl
theorem sum_7 : ∀ acc, cSum [some (iD 2), some (S.L [1, 1, 0, 0, 1]), some (iD 3), some R, acc, some (figD 2 4 7), none, none, none, none, none, some (iD 4), some (iD 16), none, none, none, none] = some (rowW 16 (fa 7)) := by
  intro acc
  kernel_rfl
theorem prd_7 : S.law_product_row [iD 2, S.L [1, 1, 0, 0, 1], R, iD 7] = some (rowW 16 (fm 7)) := by kernel_rfl
theorem les_7 : ∀ o5, cLess [some (iD 2), some (S.L [1, 1, 0, 0, 1]), some (iD 3), some R, some (tabW 16 fa), o5, some (tabW 16 fm), none, none, none, some (iD 7), some (iD 4), some (iD 16), none, none, none, none] = some (iD (tb t_neg 7)) := by
  intro o5
  kernel_rfl
theorem und_7 : ∀ o5 o7, cUnd [some (iD 2), some (S.L [1, 1, 0, 0, 1]), some (iD 3), some R, some (tabW 16 fa), o5, some (tabW 16 fm), o7, none, none, some (iD 7), some (iD 4), some (iD 16), none, none, none, none] = some (iD (tb t_inv 7)) := by
  intro o5 o7
  kernel_rfl
theorem trn_7 : ∀ o2 o5 o7 o8 acc, cTurn [some (iD 2), some (S.L [1, 1, 0, 0, 1]), o2, some R, some (tabW 16 fa), o5, some (tabW 16 fm), o7, o8, acc, some (iD 7), some (iD 4), some (iD 16), some (.int 1), none, none, none] = some (.nx [some (iD 2), some (S.L [1, 1, 0, 0, 1]), some (iD 1), some R, some (tabW 16 fa), o5, some (tabW 16 fm), o7, o8, acc, some (iD 7), some (iD 4), some (iD 16), some (iD (tb t_ph 7)), none, none, none]) := by
  intro o2 o5 o7 o8 acc
  kernel_rfl
theorem fig_8 : S.law_figures [iD 2, iD 4, iD 8] = some (figD 2 4 8) := by kernel_rfl
theorem sum_8 : ∀ acc, cSum [some (iD 2), some (S.L [1, 1, 0, 0, 1]), some (iD 3), some R, acc, some (figD 2 4 8), none, none, none, none, none, some (iD 4), some (iD 16), none, none, none, none] = some (rowW 16 (fa 8)) := by
  intro acc
  kernel_rfl
theorem prd_8 : S.law_product_row [iD 2, S.L [1, 1, 0, 0, 1], R, iD 8] = some (rowW 16 (fm 8)) := by kernel_rfl
theorem les_8 : ∀ o5, cLess [some (iD 2), some (S.L [1, 1, 0, 0, 1]), some (iD 3), some R, some (tabW 16 fa), o5, some (tabW 16 fm), none, none, none, some (iD 8), some (iD 4), some (iD 16), none, none, none, none] = some (iD (tb t_neg 8)) := by
  intro o5
  kernel_rfl
theorem und_8 : ∀ o5 o7, cUnd [some (iD 2), some (S.L [1, 1, 0, 0, 1]), some (iD 3), some R, some (tabW 16 fa), o5, some (tabW 16 fm), o7, none, none, some (iD 8), some (iD 4), some (iD 16), none, none, none, none] = some (iD (tb t_inv 8)) := by
  intro o5 o7
  kernel_rfl
theorem trn_8 : ∀ o2 o5 o7 o8 acc, cTurn [some (iD 2), some (S.L [1, 1, 0, 0, 1]), o2, some R, some (tabW 16 fa), o5, some (tabW 16 fm), o7, o8, acc, some (iD 8), some (iD 4), some (iD 16), some (.int 1), none, none, none] = some (.nx [some (iD 2), some (S.L [1, 1, 0, 0, 1]), some (iD 1), some R, some (tabW 16 fa), o5, some (tabW 16 fm), o7, o8, acc, some (iD 8), some (iD 4), some (iD 16), some (iD (tb t_ph 8)), none, none, none]) := by
  intro o2 o5 o7 o8 acc
  kernel_rfl
theorem fig_9 : S.law_figures [iD 2, iD 4, iD 9] = some (figD 2 4 9) := by kernel_rfl
theorem sum_9 : ∀ acc, cSum [some (iD 2), some (S.L [1, 1, 0, 0, 1]), some (iD 3), some R, acc, some (figD 2 4 9), none, none, none, none, none, some (iD 4), some (iD 16), none, none, none, none] = some (rowW 16 (fa 9)) := by
  intro acc
  kernel_rfl
theorem prd_9 : S.law_product_row [iD 2, S.L [1, 1, 0, 0, 1], R, iD 9] = some (rowW 16 (fm 9)) := by kernel_rfl
theorem les_9 : ∀ o5, cLess [some (iD 2), some (S.L [1, 1, 0, 0, 1]), some (iD 3), some R, some (tabW 16 fa), o5, some (tabW 16 fm), none, none, none, some (iD 9), some (iD 4), some (iD 16), none, none, none, none] = some (iD (tb t_neg 9)) := by
  intro o5
  kernel_rfl
theorem und_9 : ∀ o5 o7, cUnd [some (iD 2), some (S.L [1, 1, 0, 0, 1]), some (iD 3), some R, some (tabW 16 fa), o5, some (tabW 16 fm), o7, none, none, some (iD 9), some (iD 4), some (iD 16), none, none, none, none] = some (iD (tb t_inv 9)) := by
  intro o5 o7
  kernel_rfl
theorem trn_9 : ∀ o2 o5 o7 o8 acc, cTurn [some (iD 2), some (S.L [1, 1, 0, 0, 1]), o2, some R, some (tabW 16 fa), o5, some (tabW 16 fm), o7, o8, acc, some (iD 9), some (iD 4), some (iD 16), some (.int 1), none, none, none] = some (.nx [some (iD 2), some (S.L [1, 1, 0, 0, 1]), some (iD 1), some R, some (tabW 16 fa), o5, some (tabW 16 fm), o7, o8, acc, some (iD 9), some (iD 4), some (iD 16), some (iD (tb t_ph 9)), none, none, none]) := by
  intro o2 o5 o7 o8 acc
  kernel_rfl
theorem fig_10 : S.law_figures [iD 2, iD 4, iD 10] = some (figD 2 4 10) := by kernel_rfl
theorem sum_10 : ∀ acc, cSum [some (iD 2), some (S.L [1, 1, 0, 0, 1]), some (iD 3), some R, acc, some (figD 2 4 10), none, none, none, none, none, some (iD 4), some (iD 16), none, none, none, none] = some (rowW 16 (fa 10)) := by
  intro acc
  kernel_rfl
theorem prd_10 : S.law_product_row [iD 2, S.L [1, 1, 0, 0, 1], R, iD 10] = some (rowW 16 (fm 10)) := by kernel_rfl
theorem les_10 : ∀ o5, cLess [some (iD 2), some (S.L [1, 1, 0, 0, 1]), some (iD 3), some R, some (tabW 16 fa), o5, some (tabW 16 fm), none, none, none, some (iD 10), some (iD 4), some (iD 16), none, none, none, none] = some (iD (tb t_neg 10)) := by
  intro o5
  kernel_rfl
theorem und_10 : ∀ o5 o7, cUnd [some (iD 2), some (S.L [1, 1, 0, 0, 1]), some (iD 3), some R, some (tabW 16 fa), o5, some (tabW 16 fm), o7, none, none, some (iD 10), some (iD 4), some (iD 16), none, none, none, none] = some (iD (tb t_inv 10)) := by
  intro o5 o7
  kernel_rfl
theorem trn_10 : ∀ o2 o5 o7 o8 acc, cTurn [some (iD 2), some (S.L [1, 1, 0, 0, 1]), o2, some R, some (tabW 16 fa), o5, some (tabW 16 fm), o7, o8, acc, some (iD 10), some (iD 4), some (iD 16), some (.int 1), none, none, none] = some (.nx [some (iD 2), some (S.L [1, 1, 0, 0, 1]), some (iD 1), some R, some (tabW 16 fa), o5, some (tabW 16 fm), o7, o8, acc, some (iD 10), some (iD 4), some (iD 16), some (iD (tb t_ph 10)), none, none, none]) := by
  intro o2 o5 o7 o8 acc
  kernel_rfl
theorem fig_11 : S.law_figures [iD 2, iD 4, iD 11] = some (figD 2 4 11) := by kernel_rfl
theorem sum_11 : ∀ acc, cSum [some (iD 2), some (S.L [1, 1, 0, 0, 1]), some (iD 3), some R, acc, some (figD 2 4 11), none, none, none, none, none, some (iD 4), some (iD 16), none, none, none, none] = some (rowW 16 (fa 11)) := by
  intro acc
  kernel_rfl
theorem prd_11 : S.law_product_row [iD 2, S.L [1, 1, 0, 0, 1], R, iD 11] = some (rowW 16 (fm 11)) := by kernel_rfl
theorem les_11 : ∀ o5, cLess [some (iD 2), some (S.L [1, 1, 0, 0, 1]), some (iD 3), some R, some (tabW 16 fa), o5, some (tabW 16 fm), none, none, none, some (iD 11), some (iD 4), some (iD 16), none, none, none, none] = some (iD (tb t_neg 11)) := by
  intro o5
  kernel_rfl
theorem und_11 : ∀ o5 o7, cUnd [some (iD 2), some (S.L [1, 1, 0, 0, 1]), some (iD 3), some R, some (tabW 16 fa), o5, some (tabW 16 fm), o7, none, none, some (iD 11), some (iD 4), some (iD 16), none, none, none, none] = some (iD (tb t_inv 11)) := by
  intro o5 o7
  kernel_rfl
theorem trn_11 : ∀ o2 o5 o7 o8 acc, cTurn [some (iD 2), some (S.L [1, 1, 0, 0, 1]), o2, some R, some (tabW 16 fa), o5, some (tabW 16 fm), o7, o8, acc, some (iD 11), some (iD 4), some (iD 16), some (.int 1), none, none, none] = some (.nx [some (iD 2), some (S.L [1, 1, 0, 0, 1]), some (iD 1), some R, some (tabW 16 fa), o5, some (tabW 16 fm), o7, o8, acc, some (iD 11), some (iD 4), some (iD 16), some (iD (tb t_ph 11)), none, none, none]) := by
  intro o2 o5 o7 o8 acc
  kernel_rfl
theorem fig_12 : S.law_figures [iD 2, iD 4, iD 12] = some (figD 2 4 12) := by kernel_rfl
theorem sum_12 : ∀ acc, cSum [some (iD 2), some (S.L [1, 1, 0, 0, 1]), some (iD 3), some R, acc, some (figD 2 4 12), none, none, none, none, none, some (iD 4), some (iD 16), none, none, none, none] = some (rowW 16 (fa 12)) := by
  intro acc
  kernel_rfl
theorem prd_12 : S.law_product_row [iD 2, S.L [1, 1, 0, 0, 1], R, iD 12] = some (rowW 16 (fm 12)) := by kernel_rfl
theorem les_12 : ∀ o5, cLess [some (iD 2), some (S.L [1, 1, 0, 0, 1]), some (iD 3), some R, some (tabW 16 fa), o5, some (tabW 16 fm), none, none, none, some (iD 12), some (iD 4), some (iD 16), none, none, none, none] = some (iD (tb t_neg 12)) := by
  intro o5
  kernel_rfl
theorem und_12 : ∀ o5 o7, cUnd [some (iD 2), some (S.L [1, 1, 0, 0, 1]), some (iD 3), some R, some (tabW 16 fa), o5, some (tabW 16 fm), o7, none, none, some (iD 12), some (iD 4), some (iD 16), none, none, none, none] = some (iD (tb t_inv 12)) := by
  intro o5 o7
  kernel_rfl
theorem trn_12 : ∀ o2 o5 o7 o8 acc, cTurn [some (iD 2), some (S.L [1, 1, 0, 0, 1]), o2, some R, some (tabW 16 fa), o5, some (tabW 16 fm), o7, o8, acc, some (iD 12), some (iD 4), some (iD 16), some (.int 1), none, none, none] = some (.nx [some (iD 2), some (S.L [1, 1, 0, 0, 1]), some (iD 1), some R, some (tabW 16 fa), o5, some (tabW 16 fm), o7, o8, acc, some (iD 12), some (iD 4), some (iD 16), some (iD (tb t_ph 12)), none, none, none]) := by
  intro o2 o5 o7 o8 acc
  kernel_rfl
theorem fig_13 : S.law_figures [iD 2, iD 4, iD 13] = some (figD 2 4 13) := by kernel_rfl
theorem sum_13 : ∀ acc, cSum [some (iD 2), some (S.L [1, 1, 0, 0, 1]), some (iD 3), some R, acc, some (figD 2 4 13), none, none, none, none, none, some (iD 4), some (iD 16), none, none, none, none] = some (rowW 16 (fa 13)) := by
  intro acc
  kernel_rfl
theorem prd_13 : S.law_product_row [iD 2, S.L [1, 1, 0, 0, 1], R, iD 13] = some (rowW 16 (fm 13)) := by kernel_rfl
theorem les_13 : ∀ o5, cLess [some (iD 2), some (S.L [1, 1, 0, 0, 1]), some (iD 3), some R, some (tabW 16 fa), o5, some (tabW 16 fm), none, none, none, some (iD 13), some (iD 4), some (iD 16), none, none, none, none] = some (iD (tb t_neg 13)) := by
  intro o5
  kernel_rfl
theorem und_13 : ∀ o5 o7, cUnd [some (iD 2), some (S.L [1, 1, 0, 0, 1]), some (iD 3), some R, some (tabW 16 fa), o5, some (tabW 16 fm), o7, none, none, some (iD 13), some (iD 4), some (iD 16), none, none, none, none] = some (iD (tb t_inv 13)) := by
  intro o5 o7
  kernel_rfl
theorem trn_13 : ∀ o2 o5 o7 o8 acc, cTurn [some (iD 2), some (S.L [1, 1, 0, 0, 1]), o2, some R, some (tabW 16 fa), o5, some (tabW 16 fm), o7, o8, acc, some (iD 13), some (iD 4), some (iD 16), some (.int 1), none, none, none] = some (.nx [some (iD 2), some (S.L [1, 1, 0, 0, 1]), some (iD 1), some R, some (tabW 16 fa), o5, some (tabW 16 fm), o7, o8, acc, some (iD 13), some (iD 4), some (iD 16), some (iD (tb t_ph 13)), none, none, none]) := by
  intro o2 o5 o7 o8 acc
  kernel_rfl
theorem fig_14 : S.law_figures [iD 2, iD 4, iD 14] = some (figD 2 4 14) := by kernel_rfl
theorem sum_14 : ∀ acc, cSum [some (iD 2), some (S.L [1, 1, 0, 0, 1]), some (iD 3), some R, acc, some (figD 2 4 14), none, none, none, none, none, some (iD 4), some (iD 16), none, none, none, none] = some (rowW 16 (fa 14)) := by
  intro acc
  kernel_rfl
theorem prd_14 : S.law_product_row [iD 2, S.L [1, 1, 0, 0, 1], R, iD 14] = some (rowW 16 (fm 14)) := by kernel_rfl
theorem les_14 : ∀ o5, cLess [some (iD 2), some (S.L [1, 1, 0, 0, 1]), some (iD 3), some R, some (tabW 16 fa), o5, some (tabW 16 fm), none, none, none, some (iD 14), some (iD 4), some (iD 16), none, none, none, none] = some (iD (tb t_neg 14)) := by
  intro o5
  kernel_rfl
theorem und_14 : ∀ o5 o7, cUnd [some (iD 2), some (S.L [1, 1, 0, 0, 1]), some (iD 3), some R, some (tabW 16 fa), o5, some (tabW 16 fm), o7, none, none, some (iD 14), some (iD 4), some (iD 16), none, none, none, none] = some (iD (tb t_inv 14)) := by
  intro o5 o7
  kernel_rfl
theorem trn_14 : ∀ o2 o5 o7 o8 acc, cTurn [some (iD 2), some (S.L [1, 1, 0, 0, 1]), o2, some R, some (tabW 16 fa), o5, some (tabW 16 fm), o7, o8, acc, some (iD 14), some (iD 4), some (iD 16), some (.int 1), none, none, none] = some (.nx [some (iD 2), some (S.L [1, 1, 0, 0, 1]), some (iD 1), some R, some (tabW 16 fa), o5, some (tabW 16 fm), o7, o8, acc, some (iD 14), some (iD 4), some (iD 16), some (iD (tb t_ph 14)), none, none, none]) := by
  intro o2 o5 o7 o8 acc
  kernel_rfl
theorem fig_15 : S.law_figures [iD 2, iD 4, iD 15] = some (figD 2 4 15) := by kernel_rfl
theorem sum_15 : ∀ acc, cSum [some (iD 2), some (S.L [1, 1, 0, 0, 1]), some (iD 3), some R, acc, some (figD 2 4 15), none, none, none, none, none, some (iD 4), some (iD 16), none, none, none, none] = some (rowW 16 (fa 15)) := by
  intro acc
  kernel_rfl
theorem prd_15 : S.law_product_row [iD 2, S.L [1, 1, 0, 0, 1], R, iD 15] = some (rowW 16 (fm 15)) := by kernel_rfl
theorem les_15 : ∀ o5, cLess [some (iD 2), some (S.L [1, 1, 0, 0, 1]), some (iD 3), some R, some (tabW 16 fa), o5, some (tabW 16 fm), none, none, none, some (iD 15), some (iD 4), some (iD 16), none, none, none, none] = some (iD (tb t_neg 15)) := by
  intro o5
  kernel_rfl
theorem und_15 : ∀ o5 o7, cUnd [some (iD 2), some (S.L [1, 1, 0, 0, 1]), some (iD 3), some R, some (tabW 16 fa), o5, some (tabW 16 fm), o7, none, none, some (iD 15), some (iD 4), some (iD 16), none, none, none, none] = some (iD (tb t_inv 15)) := by
  intro o5 o7
  kernel_rfl
theorem trn_15 : ∀ o2 o5 o7 o8 acc, cTurn [some (iD 2), some (S.L [1, 1, 0, 0, 1]), o2, some R, some (tabW 16 fa), o5, some (tabW 16 fm), o7, o8, acc, some (iD 15), some (iD 4), some (iD 16), some (.int 1), none, none, none] = some (.nx [some (iD 2), some (S.L [1, 1, 0, 0, 1]), some (iD 1), some R, some (tabW 16 fa), o5, some (tabW 16 fm), o7, o8, acc, some (iD 15), some (iD 4), some (iD 16), some (iD (tb t_ph 15)), none, none, none]) := by
  intro o2 o5 o7 o8 acc
  kernel_rfl
theorem figA : ∀ x, x < 16 → S.law_figures [iD 2, iD 4, iD x] = some (figD 2 4 x)
  | 0, _ => fig_0
  | 1, _ => fig_1
  | 2, _ => fig_2
  | 3, _ => fig_3
  | 4, _ => fig_4
  | 5, _ => fig_5
  | 6, _ => fig_6
  | 7, _ => fig_7
  | 8, _ => fig_8
  | 9, _ => fig_9
  | 10, _ => fig_10
  | 11, _ => fig_11
  | 12, _ => fig_12
  | 13, _ => fig_13
  | 14, _ => fig_14
  | 15, _ => fig_15
  | k + 16, h => absurd h (by omega)
theorem sumA : ∀ x, x < 16 → ∀ acc, cSum [some (iD 2), some (S.L [1, 1, 0, 0, 1]), some (iD 3), some R, acc, some (figD 2 4 x), none, none, none, none, none, some (iD 4), some (iD 16), none, none, none, none] = some (rowW 16 (fa x))
  | 0, _ => sum_0
  | 1, _ => sum_1
  | 2, _ => sum_2
  | 3, _ => sum_3
  | 4, _ => sum_4
  | 5, _ => sum_5
  | 6, _ => sum_6
  | 7, _ => sum_7
  | 8, _ => sum_8
  | 9, _ => sum_9
  | 10, _ => sum_10
  | 11, _ => sum_11
  | 12, _ => sum_12
  | 13, _ => sum_13
  | 14, _ => sum_14
  | 15, _ => sum_15
  | k + 16, h => absurd h (by omega)
theorem prdA : ∀ x, x < 16 → S.law_product_row [iD 2, S.L [1, 1, 0, 0, 1], R, iD x] = some (rowW 16 (fm x))
  | 0, _ => prd_0
  | 1, _ => prd_1
  | 2, _ => prd_2
  | 3, _ => prd_3
  | 4, _ => prd_4
  | 5, _ => prd_5
  | 6, _ => prd_6
  | 7, _ => prd_7
  | 8, _ => prd_8
  | 9, _ => prd_9
  | 10, _ => prd_10
  | 11, _ => prd_11
  | 12, _ => prd_12
  | 13, _ => prd_13
  | 14, _ => prd_14
  | 15, _ => prd_15
  | k + 16, h => absurd h (by omega)
theorem lesA : ∀ x, x < 16 → ∀ o5, cLess [some (iD 2), some (S.L [1, 1, 0, 0, 1]), some (iD 3), some R, some (tabW 16 fa), o5, some (tabW 16 fm), none, none, none, some (iD x), some (iD 4), some (iD 16), none, none, none, none] = some (iD (tb t_neg x))
  | 0, _ => les_0
  | 1, _ => les_1
  | 2, _ => les_2
  | 3, _ => les_3
  | 4, _ => les_4
  | 5, _ => les_5
  | 6, _ => les_6
  | 7, _ => les_7
  | 8, _ => les_8
  | 9, _ => les_9
  | 10, _ => les_10
  | 11, _ => les_11
  | 12, _ => les_12
  | 13, _ => les_13
  | 14, _ => les_14
  | 15, _ => les_15
  | k + 16, h => absurd h (by omega)
theorem undA : ∀ x, 1 ≤ x → x < 16 → ∀ o5 o7, cUnd [some (iD 2), some (S.L [1, 1, 0, 0, 1]), some (iD 3), some R, some (tabW 16 fa), o5, some (tabW 16 fm), o7, none, none, some (iD x), some (iD 4), some (iD 16), none, none, none, none] = some (iD (tb t_inv x))
  | 0, h, _ => absurd h (by omega)
  | 1, _, _ => und_1
  | 2, _, _ => und_2
  | 3, _, _ => und_3
  | 4, _, _ => und_4
  | 5, _, _ => und_5
  | 6, _, _ => und_6
  | 7, _, _ => und_7
  | 8, _, _ => und_8
  | 9, _, _ => und_9
  | 10, _, _ => und_10
  | 11, _, _ => und_11
  | 12, _, _ => und_12
  | 13, _, _ => und_13
  | 14, _, _ => und_14
  | 15, _, _ => und_15
  | k + 16, _, h => absurd h (by omega)
theorem trnA : ∀ x, x < 16 → ∀ o2 o5 o7 o8 acc, cTurn [some (iD 2), some (S.L [1, 1, 0, 0, 1]), o2, some R, some (tabW 16 fa), o5, some (tabW 16 fm), o7, o8, acc, some (iD x), some (iD 4), some (iD 16), some (.int 1), none, none, none] = some (.nx [some (iD 2), some (S.L [1, 1, 0, 0, 1]), some (iD 1), some R, some (tabW 16 fa), o5, some (tabW 16 fm), o7, o8, acc, some (iD x), some (iD 4), some (iD 16), some (iD (tb t_ph x)), none, none, none])
  | 0, _ => trn_0
  | 1, _ => trn_1
  | 2, _ => trn_2
  | 3, _ => trn_3
  | 4, _ => trn_4
  | 5, _ => trn_5
  | 6, _ => trn_6
  | 7, _ => trn_7
  | 8, _ => trn_8
  | 9, _ => trn_9
  | 10, _ => trn_10
  | 11, _ => trn_11
  | 12, _ => trn_12
  | 13, _ => trn_13
  | 14, _ => trn_14
  | 15, _ => trn_15
  | k + 16, h => absurd h (by omega)
theorem wf : WF 2 4 16 [1, 1, 0, 0, 1] R (figD 2 4) fa fm (tb t_neg) (tb t_inv) (tb t_ph) where
  eR := rfl
  q1 := by decide
  q2 := by decide
  st := by kernel_rfl
  fig := figA
  sum := sumA
  prd := prdA
  les := lesA
  inv0 := by decide +kernel
  und := undA
  trn := fun x h o2 o5 o7 o8 acc => ⟨_, trnA x h o2 o5 o7 o8 acc⟩
theorem hW : S.law_world [.int 2, S.L [1, 1, 0, 0, 1]] = some (.lst W) := world_eq wf
theorem laws : lawsB O = true := by decide +kernel
theorem fld : fldB O F = true := by decide +kernel
theorem wld : wldB O W = true := by decide +kernel
theorem lr_0 : lrA q F W 0 = true := by decide +kernel
theorem lr_1 : lrA q F W 1 = true := by decide +kernel
theorem lr_2 : lrA q F W 2 = true := by decide +kernel
theorem lr_3 : lrA q F W 3 = true := by decide +kernel
theorem lr_4 : lrA q F W 4 = true := by decide +kernel
theorem lr_5 : lrA q F W 5 = true := by decide +kernel
theorem lr_6 : lrA q F W 6 = true := by decide +kernel
theorem lr_7 : lrA q F W 7 = true := by decide +kernel
theorem lr_8 : lrA q F W 8 = true := by decide +kernel
theorem lr_9 : lrA q F W 9 = true := by decide +kernel
theorem lr_10 : lrA q F W 10 = true := by decide +kernel
theorem lr_11 : lrA q F W 11 = true := by decide +kernel
theorem lr_12 : lrA q F W 12 = true := by decide +kernel
theorem lr_13 : lrA q F W 13 = true := by decide +kernel
theorem lr_14 : lrA q F W 14 = true := by decide +kernel
theorem lr_15 : lrA q F W 15 = true := by decide +kernel
theorem lrAll : ∀ x, x < 16 → lrA q F W x = true
  | 0, _ => lr_0
  | 1, _ => lr_1
  | 2, _ => lr_2
  | 3, _ => lr_3
  | 4, _ => lr_4
  | 5, _ => lr_5
  | 6, _ => lr_6
  | 7, _ => lr_7
  | 8, _ => lr_8
  | 9, _ => lr_9
  | 10, _ => lr_10
  | 11, _ => lr_11
  | 12, _ => lr_12
  | 13, _ => lr_13
  | 14, _ => lr_14
  | 15, _ => lr_15
  | k + 16, h => absurd h (by omega)
theorem lr : lrB q F W = true := lrB_of lrAll
theorem allq : allQ O (S.mostDeg (q : Int)) [O.u] = true := by decide +kernel
theorem all : allG O (S.mostDeg (q : Int)) [O.u] = true := allQ_all O rfl _ _ allq
theorem ok : S.okField 2 [1, 1, 0, 0, 1] := okF (O := O) rfl rfl (by decide +kernel) (by decide) (by decide) rfl rfl laws fld wld lr all hF hW
end Fd
end B

set_option autoImplicit false
set_option Elab.async false
set_option linter.all false
set_option maxRecDepth 100000
set_option maxHeartbeats 4000000
/-! The field of 27 elements: tables, checks by the kernel. Printed by genf.py. -/
namespace B
open G M
namespace Fe
def t_add : Nat := 75150505046255314798489685391020665237269972839199016236531863363015665923001742456229351084689902038717653518106513130657617068951229356428726003026906558492358800083830573113440275144003476052792566941892602299777882364067977349437797343320406671996792905576379887716021511817167104349238407880929698114267539042482426851509991408548239687044287684350879104229713496183531221886070170445757491667269417590182330052389652361431412526514097498441893367359840187151311886577666816048503013842125104194134019618082310076531812189072690233597194014516619233243125301861877697925561107732711607147553334350514889071336740785786945591258504409916514741656346870155555294402327657245846420144069164440426495388895400094139477523038370528629171041859228100866534512951703527148976704232518721536083035883438230600251534393140141788263715281931504014876240028758486139783903237238956894586976306404170572266036570986620563972084529839927404151829155220209832186651094278309047543203462320134402358042272281330674243114372448018502334876350344569499375583300284542602561201339169671287012408772920583751712
def t_mul : Nat := 65467564597539007116098912317392628641170637400036816055073328208647599273268482711847922765460354393502716027931804964177089024266414905550232973976603307532028576669327012954034509316877379819582400559225926950609951748463585805587509301828325889351132783188848390691515820743561250202821212189720529303681888233104436547523609611934655331696147430013060457479643565131434038736981903128572160945332052493771005891781905250070151498798992868236264906006436848192791540866116816214373340123744035238942951032515422057234079834971470423942941724621524807555847084063037748752907140664593207351778059176603710777789594728291797733550121443975327511806435425084616664352014496874284720268801742204783793302512089614800836865165773008613620021936084688496666871910906749263849295932363000124816137323446361060359037171302337011800551939878139129804743354005080001174380469595628401802545506040419115204599658123663593744432629272676918122666926597724506298281932322840208821593666924100931434058000095193720848903455065522812421097214162816415644831390664891935449174043430976100483900840631097884672
def t_neg : Nat := 18306815260805972811530360991366254888000
def t_inv : Nat := 23529097194781159056957175479015870924832
def t_ph : Nat := 32270442509308476844305177595152432269344
def t_ps : Nat := 25377405119436670304331784299803147634720
def t_nm : Nat := 2767537144527217716118910897354663069728
def t_ld : Nat := 132264926485039564056338497344707487804586368182109106304147993132362347777547761124409021528400904908879138914022017692114696214458327101474697492504567088311219632114541750359303187285440761988328649428670707845405594138897413480574199903587220878847523421349213606686290737191616283267500892670468754378376945361003756468409811317195861965004618419992719839228486049903264508164216954420374819578073894959962264216642308194436319280107633295548960322835856014080890966194328832759744254764560482604668943328387595843438062367496211168312361151878562386033439858555340869263078527589955850928673993294799374748756860381427753484151734296276900268030103926734457728374745575817155556173390238926565569463635897302208673117490335161124527042220732162746868904542186924250222731656545258985614348508575912001889032142586501721754228270012167158309585732139858026739139415885215562044752789117831938504977817226598973407592313492048730000827467426569143429545023439226914655631272580156035170243970128748341348063086750215004297983134377907017313193069654534843708711356181462509190180031897347817472
def t_bk : Nat := 99733222124664856601110483259847582808912187891238286774227166399072783887324233197607376253984559998505181195925012405087509529211036447899510563509257532086977622292604322940974632400277762517291376452747149261617318389354390429993740932936431267109442389131152474942595318403368447590895875825412951059761653731297574166055287243487355210686436413919522929342170620180446746412409597046747124205945880032621062250250674139151623093220988118813556187012552137982356515958842327243950097398093379595166850280713497426172388695081506775293199947668390580782151770314052502007919476770693212369820207456652960519417656966170231258969292464692248999425883469068882478667144824292156108719523452415589408047973131023938685152179782485566364642128088104351574397774259966671990429288410393524761834456002794670690019193464852284830332534728713325471469005441375108252078336166517636260093930185900531412970275546121347373388156063549246083337016445761665553588745146309824234167387027062506112679922529375862862537672260395753923395315150517459893002053599288027944978128357576888362811114311775158272
def t_pows : Nat := 842409061509507483299331351304528372833
def t_logs : Nat := 26913113584768170928310808220550109901824
abbrev q : Nat := 27
def O : Ops q := opsT 26 t_add t_mul t_neg t_ph t_ps t_nm t_ld t_bk
def F : G.Fld := ⟨3, 3, 27, [1, 2, 0, 1], (List.range 26).map fun i => ((tb t_pows i : Nat) : Int), (-1) :: (List.range 26).map fun i => ((tb t_logs (i + 1) : Nat) : Int)⟩
def W : List G.D := [.int 3, .int 3, .int 27, tabD t_add 27, tabD t_mul 27, rowD t_neg 27, rowD t_inv 27, rowD t_ph 27]
theorem hF : S.Field [.int 3, S.L [1, 2, 0, 1]] = some (.fld F) := by kernel_rfl
def R : G.D := .lst ((List.range 27).map (figD 3 3))
def fa (a b : Nat) : Nat := tb t_add (27 * a + b)
def fm (a b : Nat) : Nat := tb t_mul (27 * a + b)
theorem fig_0 : S.law_figures [iD 3, iD 3, iD 0] = some (figD 3 3 0) := by kernel_rfl
theorem sum_0 : ∀ acc, cSum [some (iD 3), some (S.L [1, 2, 0, 1]), some (iD 2), some R, acc, some (figD 3 3 0), none, none, none, none, none, some (iD 3), some (iD 27), none, none, none, none] = some (rowW 27 (fa 0)) := by
  intro acc
  kernel_rfl
theorem prd_0 : S.law_product_row [iD 3, S.L [1, 2, 0, 1], R, iD 0] = some (rowW 27 (fm 0)) := by kernel_rfl
theorem les_0 : ∀ o5, cLess [some (iD 3), some (S.L [1, 2, 0, 1]), some (iD 2), some R, some (tabW 27 fa), o5, some (tabW 27 fm), none, none, none, some (iD 0), some (iD 3), some (iD 27), none, none, none, none] = some (iD (tb t_neg 0)) := by
  intro o5
  kernel_rfl
theorem trn_0 : ∀ o2 o5 o7 o8 acc, cTurn [some (iD 3), some (S.L [1, 2, 0, 1]), o2, some R, some (tabW 27 fa), o5, some (tabW 27 fm), o7, o8, acc, some (iD 0), some (iD 3), some (iD 27), some (.int 1), none, none, none] = some (.nx [some (iD 3), some (S.L [1, 2, 0, 1]), some (iD 2), some R, some (tabW 27 fa), o5, some (tabW 27 fm), o7, o8, acc, some (iD 0), some (iD 3), some (iD 27), some (iD (tb t_ph 0)), none, none, none]) := by
  intro o2 o5 o7 o8 acc
  kernel_rfl
theorem fig_1 : S.law_figures [iD 3, iD 3, iD 1] = some (figD 3 3 1) := by kernel_rfl
theorem sum_1 : ∀ acc, cSum [some (iD 3), some (S.L [1, 2, 0, 1]), some (iD 2), some R, acc, some (figD 3 3 1), none, none, none, none, none, some (iD 3), some (iD 27), none, none, none, none] = some (rowW 27 (fa 1)) := by
  intro acc
  kernel_rfl
theorem prd_1 : S.law_product_row [iD 3, S.L [1, 2, 0, 1], R, iD 1] = some (rowW 27 (fm 1)) := by kernel_rfl
theorem les_1 : ∀ o5, cLess [some (iD 3), some (S.L [1, 2, 0, 1]), some (iD 2), some R, some (tabW 27 fa), o5, some (tabW 27 fm), none, none, none, some (iD 1), some (iD 3), some (iD 27), none, none, none, none] = some (iD (tb t_neg 1)) := by
  intro o5
  kernel_rfl
theorem und_1 : ∀ o5 o7, cUnd [some (iD 3), some (S.L [1, 2, 0, 1]), some (iD 2), some R, some (tabW 27 fa), o5, some (tabW 27 fm), o7, none, none, some (iD 1), some (iD 3), some (iD 27), none, none, none, none] = some (iD (tb t_inv 1)) := by
  intro o5 o7
  kernel_rfl
theorem trn_1 : ∀ o2 o5 o7 o8 acc, cTurn [some (iD 3), some (S.L [1, 2, 0, 1]), o2, some R, some (tabW 27 fa), o5, some (tabW 27 fm), o7, o8, acc, some (iD 1), some (iD 3), some (iD 27), some (.int 1), none, none, none] = some (.nx [some (iD 3), some (S.L [1, 2, 0, 1]), some (iD 2), some R, some (tabW 27 fa), o5, some (tabW 27 fm), o7, o8, acc, some (iD 1), some (iD 3), some (iD 27), some (iD (tb t_ph 1)), none, none, none]) := by
  intro o2 o5 o7 o8 acc
  kernel_rfl
theorem fig_2 : S.law_figures [iD 3, iD 3, iD 2] = some (figD 3 3 2) := by kernel_rfl
theorem sum_2 : ∀ acc, cSum [some (iD 3), some (S.L [1, 2, 0, 1]), some (iD 2), some R, acc, some (figD 3 3 2), none, none, none, none, none, some (iD 3), some (iD 27), none, none, none, none] = some (rowW 27 (fa 2)) := by
  intro acc
  kernel_rfl
theorem prd_2 : S.law_product_row [iD 3, S.L [1, 2, 0, 1], R, iD 2] = some (rowW 27 (fm 2)) := by kernel_rfl
theorem les_2 : ∀ o5, cLess [some (iD 3), some (S.L [1, 2, 0, 1]), some (iD 2), some R, some (tabW 27 fa), o5, some (tabW 27 fm), none, none, none, some (iD 2), some (iD 3), some (iD 27), none, none, none, none] = some (iD (tb t_neg 2)) := by
  intro o5
  kernel_rfl
theorem und_2 : ∀ o5 o7, cUnd [some (iD 3), some (S.L [1, 2, 0, 1]), some (iD 2), some R, some (tabW 27 fa), o5, some (tabW 27 fm), o7, none, none, some (iD 2), some (iD 3), some (iD 27), none, none, none, none] = some (iD (tb t_inv 2)) := by
  intro o5 o7
  kernel_rfl
theorem trn_2 : ∀ o2 o5 o7 o8 acc, cTurn [some (iD 3), some (S.L [1, 2, 0, 1]), o2, some R, some (tabW 27 fa), o5, some (tabW 27 fm), o7, o8, acc, some (iD 2), some (iD 3), some (iD 27), some (.int 1), none, none, none] = some (.nx [some (iD 3), some (S.L [1, 2, 0, 1]), some (iD 2), some R, some (tabW 27 fa), o5, some (tabW 27 fm), o7, o8, acc, some (iD 2), some (iD 3), some (iD 27), some (iD (tb t_ph 2)), none, none, none]) := by
  intro o2 o5 o7 o8 acc
  kernel_rfl
theorem fig_3 : S.law_figures [iD 3, iD 3, iD 3] = some (figD 3 3 3) := by kernel_rfl
theorem sum_3 : ∀ acc, cSum [some (iD 3), some (S.L [1, 2, 0, 1]), some (iD 2), some R, acc, some (figD 3 3 3), none, none, none, none, none, some (iD 3), some (iD 27), none, none, none, none] = some (rowW 27 (fa 3)) := by
  intro acc
  kernel_rfl
theorem prd_3 : S.law_product_row [iD 3, S.L [1, 2, 0, 1], R, iD 3] = some (rowW 27 (fm 3)) := by kernel_rfl
theorem les_3 : ∀ o5, cLess [some (iD 3), some (S.L [1, 2, 0, 1]), some (iD 2), some R, some (tabW 27 fa), o5, some (tabW 27 fm), none, none, none, some (iD 3), some (iD 3), some (iD 27), none, none, none, none] = some (iD (tb t_neg 3)) := by
  intro o5
  kernel_rfl
theorem und_3 : ∀ o5 o7, cUnd [some (iD 3), some (S.L [1, 2, 0, 1]), some (iD 2), some R, some (tabW 27 fa), o5, some (tabW 27 fm), o7, none, none, some (iD 3), some (iD 3), some (iD 27), none, none, none, none] = some (iD (tb t_inv 3)) := by
  intro o5 o7
  kernel_rfl
theorem trn_3 : ∀ o2 o5 o7 o8 acc, cTurn [some (iD 3), some (S.L [1, 2, 0, 1]), o2, some R, some (tabW 27 fa), o5, some (tabW 27 fm), o7, o8, acc, some (iD 3), some (iD 3), some (iD 27), some (.int 1), none, none, none] = some (.nx [some (iD 3), some (S.L [1, 2, 0, 1]), some (iD 2), some R, some (tabW 27 fa), o5, some (tabW 27 fm), o7, o8, acc, some (iD 3), some (iD 3), some (iD 27), some (iD (tb t_ph 3)), none, none, none]) := by
  intro o2 o5 o7 o8 acc
  kernel_rfl
theorem fig_4 : S.law_figures [iD 3, iD 3, iD 4] = some (figD 3 3 4) := by kernel_rfl
theorem sum_4 : ∀ acc, cSum [some (iD 3), some (S.L [1, 2, 0, 1]), some (iD 2), some R, acc, some (figD 3 3 4), none, none, none, none, none, some (iD 3), some (iD 27), none, none, none, none] = some (rowW 27 (fa 4)) := by
  intro acc
  kernel_rfl
theorem prd_4 : S.law_product_row [iD 3, S.L [1, 2, 0, 1], R, iD 4] = some (rowW 27 (fm 4)) := by kernel_rfl
theorem les_4 : ∀ o5, cLess [some (iD 3), some (S.L [1, 2, 0, 1]), some (iD 2), some R, some (tabW 27 fa), o5, some (tabW 27 fm), none, none, none, some (iD 4), some (iD 3), some (iD 27), none, none, none, none] = some (iD (tb t_neg 4)) := by
  intro o5
  kernel_rfl
theorem und_4 : ∀ o5 o7, cUnd [some (iD 3), some (S.L [1, 2, 0, 1]), some (iD 2), some R, some (tabW 27 fa), o5, some (tabW 27 fm), o7, none, none, some (iD 4), some (iD 3), some (iD 27), none, none, none, none] = some (iD (tb t_inv 4)) := by
  intro o5 o7
  kernel_rfl
theorem trn_4 : ∀ o2 o5 o7 o8 acc, cTurn [some (iD 3), some (S.L [1, 2, 0, 1]), o2, some R, some (tabW 27 fa), o5, some (tabW 27 fm), o7, o8, acc, some (iD 4), some (iD 3), some (iD 27), some (.int 1), none, none, none] = some (.nx [some (iD 3), some (S.L [1, 2, 0, 1]), some (iD 2), some R, some (tabW 27 fa), o5, some (tabW 27 fm), o7, o8, acc, some (iD 4), some (iD 3), some (iD 27), some (iD (tb t_ph 4)), none, none, none]) := by
  intro o2 o5 o7 o8 acc
  kernel_rfl
theorem fig_5 : S.law_figures [iD 3, iD 3, iD 5] = some (figD 3 3 5) := by kernel_rfl
theorem sum_5 : ∀ acc, cSum [some (iD 3), some (S.L [1, 2, 0, 1]), some (iD 2), some R, acc, some (figD 3 3 5), none, none, none, none, none, some (iD 3), some (iD 27), none, none, none, none] = some (rowW 27 (fa 5)) := by
  intro acc
  kernel_rfl
theorem prd_5 : S.law_product_row [iD 3, S.L [1, 2, 0, 1], R, iD 5] = some (rowW 27 (fm 5)) := by kernel_rfl
theorem les_5 : ∀ o5, cLess [some (iD 3), some (S.L [1, 2, 0, 1]), some (iD 2), some R, some (tabW 27 fa), o5, some (tabW 27 fm), none, none, none, some (iD 5), some (iD 3), some (iD 27), none, none, none, none] = some (iD (tb t_neg 5)) := by
  intro o5
  kernel_rfl
theorem und_5 : ∀ o5 o7, cUnd [some (iD 3), some (S.L [1, 2, 0, 1]), some (iD 2), some R, some (tabW 27 fa), o5, some (tabW 27 fm), o7, none, none, some (iD 5), some (iD 3), some (iD 27), none, none, none, none] = some (iD (tb t_inv 5)) := by
  intro o5 o7
  kernel_rfl
theorem trn_5 : ∀ o2 o5 o7 o8 acc, cTurn [some (iD 3), some (S.L [1, 2, 0, 1]), o2, some R, some (tabW 27 fa), o5, some (tabW 27 fm), o7, o8, acc, some (iD 5), some (iD 3), some (iD 27), some (.int 1), none, none, none] = some (.nx [some (iD 3), some (S.L [1, 2, 0, 1]), some (iD 2), some R, some (tabW 27 fa), o5, some (tabW 27 fm), o7, o8, acc, some (iD 5), some (iD 3), some (iD 27), some (iD (tb t_ph 5)), none, none, none]) := by
  intro o2 o5 o7 o8 acc
  kernel_rfl
theorem fig_6 : S.law_figures [iD 3, iD 3, iD 6] = some (figD 3 3 6) := by kernel_rfl
theorem sum_6 : ∀ acc, cSum [some (iD 3), some (S.L [1, 2, 0, 1]), some (iD 2), some R, acc, some (figD 3 3 6), none, none, none, none, none, some (iD 3), some (iD 27), none, none, none, none] = some (rowW 27 (fa 6)) := by
  intro acc
  kernel_rfl
theorem prd_6 : S.law_product_row [iD 3, S.L [1, 2, 0, 1], R, iD 6] = some (rowW 27 (fm 6)) := by kernel_rfl
theorem les_6 : ∀ o5, cLess [some (iD 3), some (S.L [1, 2, 0, 1]), some (iD 2), some R, some (tabW 27 fa), o5, some (tabW 27 fm), none, none, none, some (iD 6), some (iD 3), some (iD 27), none, none, none, none] = some (iD (tb t_neg 6)) := by
  intro o5
  kernel_rfl
theorem und_6 : ∀ o5 o7, cUnd [some (iD 3), some (S.L [1, 2, 0, 1]), some (iD 2), some R, some (tabW 27 fa), o5, some (tabW 27 fm), o7, none, none, some (iD 6), some (iD 3), some (iD 27), none, none, none, none] = some (iD (tb t_inv 6)) := by
  intro o5 o7
  kernel_rfl
theorem trn_6 : ∀ o2 o5 o7 o8 acc, cTurn [some (iD 3), some (S.L [1, 2, 0, 1]), o2, some R, some (tabW 27 fa), o5, some (tabW 27 fm), o7, o8, acc, some (iD 6), some (iD 3), some (iD 27), some (.int 1), none, none, none] = some (.nx [some (iD 3), some (S.L [1, 2, 0, 1]), some (iD 2), some R, some (tabW 27 fa), o5, some (tabW 27 fm), o7, o8, acc, some (iD 6), some (iD 3), some (iD 27), some (iD (tb t_ph 6)), none, none, none]) := by
  intro o2 o5 o7 o8 acc
  kernel_rfl
theorem fig_7 : S.law_figures [iD 3, iD 3, iD 7] = some (figD 3 3 7) := by kernel_rfl
theorem sum_7 : ∀ acc, cSum [some (iD 3), some (S.L [1, 2, 0, 1]), some (iD 2), some R, acc, some (figD 3 3 7), none, none, none, none, none, some (iD 3), some (iD 27), none, none, none, none] = some (rowW 27 (fa 7)) := by
  intro acc
  kernel_rfl
theorem prd_7 : S.law_product_row [iD 3, S.L [1, 2, 0, 1], R, iD 7] = some (rowW 27 (fm 7)) := by kernel_rfl
theorem les_7 : ∀ o5, cLess [some (iD 3), some (S.L [1, 2, 0, 1]), some (iD 2), some R, some (tabW 27 fa), o5, some (tabW 27 fm), none, none, none, some (iD 7), some (iD 3), some (iD 27), none, none, none, none] = some (iD (tb t_neg 7)) := by
  intro o5
  kernel_rfl
theorem und_7 : ∀ o5 o7, cUnd [some (iD 3), some (S.L [1, 2, 0, 1]), some (iD 2), some R, some (tabW 27 fa), o5, some (tabW 27 fm), o7, none, none, some (iD 7), some (iD 3), some (iD 27), none, none, none, none] = some (iD (tb t_inv 7)) := by
  intro o5 o7
  kernel_rfl
theorem trn_7 : ∀ o2 o5 o7 o8 acc, cTurn [some (iD 3), some (S.L [1, 2, 0, 1]), o2, some R, some (tabW 27 fa), o5, some (tabW 27 fm), o7, o8, acc, some (iD 7), some (iD 3), some (iD 27), some (.int 1), none, none, none] = some (.nx [some (iD 3), some (S.L [1, 2, 0, 1]), some (iD 2), some R, some (tabW 27 fa), o5, some (tabW 27 fm), o7, o8, acc, some (iD 7), some (iD 3), some (iD 27), some (iD (tb t_ph 7)), none, none, none]) := by
  intro o2 o5 o7 o8 acc
  kernel_rfl
theorem fig_8 : S.law_figures [iD 3, iD 3, iD 8] = some (figD 3 3 8) := by kernel_rfl
theorem sum_8 : ∀ acc, cSum [some (iD 3), some (S.L [1, 2, 0, 1]), some (iD 2), some R, acc, some (figD 3 3 8), none, none, none, none, none, some (iD 3), some (iD 27), none, none, none, none] = some (rowW 27 (fa 8)) := by
  intro acc
  kernel_rfl
theorem prd_8 : S.law_product_row [iD 3, S.L [1, 2, 0, 1], R, iD 8] = some (rowW 27 (fm 8)) := by kernel_rfl
theorem les_8 : ∀ o5, cLess [some (iD 3), some (S.L [1, 2, 0, 1]), some (iD 2), some R, some (tabW 27 fa), o5, some (tabW 27 fm), none, none, none, some (iD 8), some (iD 3), some (iD 27), none, none, none, none] = some (iD (tb t_neg 8)) := by
  intro o5
  kernel_rfl
theorem und_8 : ∀ o5 o7, cUnd [some (iD 3), some (S.L [1, 2, 0, 1]), some (iD 2), some R, some (tabW 27 fa), o5, some (tabW 27 fm), o7, none, none, some (iD 8), some (iD 3), some (iD 27), none, none, none, none] = some (iD (tb t_inv 8)) := by
  intro o5 o7
  kernel_rfl
theorem trn_8 : ∀ o2 o5 o7 o8 acc, cTurn [some (iD 3), some (S.L [1, 2, 0, 1]), o2, some R, some (tabW 27 fa), o5, some (tabW 27 fm), o7, o8, acc, some (iD 8), some (iD 3), some (iD 27), some (.int 1), none, none, none] = some (.nx [some (iD 3), some (S.L [1, 2, 0, 1]), some (iD 2), some R, some (tabW 27 fa), o5, some (tabW 27 fm), o7, o8, acc, some (iD 8), some (iD 3), some (iD 27), some (iD (tb t_ph 8)), none, none, none]) := by
  intro o2 o5 o7 o8 acc
  kernel_rfl
theorem fig_9 : S.law_figures [iD 3, iD 3, iD 9] = some (figD 3 3 9) := by kernel_rfl
theorem sum_9 : ∀ acc, cSum [some (iD 3), some (S.L [1, 2, 0, 1]), some (iD 2), some R, acc, some (figD 3 3 9), none, none, none, none, none, some (iD 3), some (iD 27), none, none, none, none] = some (rowW 27 (fa 9)) := by
  intro acc
  kernel_rfl
theorem prd_9 : S.law_product_row [iD 3, S.L [1, 2, 0, 1], R, iD 9] = some (rowW 27 (fm 9)) := by kernel_rfl
theorem les_9 : ∀ o5, cLess [some (iD 3), some (S.L [1, 2, 0, 1]), some (iD 2), some R, some (tabW 27 fa), o5, some (tabW 27 fm), none, none, none, some (iD 9), some (iD 3), some (iD 27), none, none, none, none] = some (iD (tb t_neg 9)) := by
  intro o5
  kernel_rfl
theorem und_9 : ∀ o5 o7, cUnd [some (iD 3), some (S.L [1, 2, 0, 1]), some (iD 2), some R, some (tabW 27 fa), o5, some (tabW 27 fm), o7, none, none, some (iD 9), some (iD 3), some (iD 27), none, none, none, none] = some (iD (tb t_inv 9)) := by
  intro o5 o7
  kernel_rfl
theorem trn_9 : ∀ o2 o5 o7 o8 acc, cTurn [some (iD 3), some (S.L [1, 2, 0, 1]), o2, some R, some (tabW 27 fa), o5, some (tabW 27 fm), o7, o8, acc, some (iD 9), some (iD 3), some (iD 27), some (.int 1), none, none, none] = some (.nx [some (iD 3), some (S.L [1, 2, 0, 1]), some (iD 2), some R, some (tabW 27 fa), o5, some (tabW 27 fm), o7, o8, acc, some (iD 9), some (iD 3), some (iD 27), some (iD (tb t_ph 9)), none, none, none]) := by
  intro o2 o5 o7 o8 acc
  kernel_rfl
theorem fig_10 : S.law_figures [iD 3, iD 3, iD 10] = some (figD 3 3 10) := by kernel_rfl
theorem sum_10 : ∀ acc, cSum [some (iD 3), some (S.L [1, 2, 0, 1]), some (iD 2), some R, acc, some (figD 3 3 10), none, none, none, none, none, some (iD 3), some (iD 27), none, none, none, none] = some (rowW 27 (fa 10)) := by
  intro acc
  kernel_rfl
theorem prd_10 : S.law_product_row [iD 3, S.L [1, 2, 0, 1], R, iD 10] = some (rowW 27 (fm 10)) := by kernel_rfl
theorem les_10 : ∀ o5, cLess [some (iD 3), some (S.L [1, 2, 0, 1]), some (iD 2), some R, some (tabW 27 fa), o5, some (tabW 27 fm), none, none, none, some (iD 10), some (iD 3), some (iD 27), none, none, none, none] = some (iD (tb t_neg 10)) := by
  intro o5
  kernel_rfl
theorem und_10 : ∀ o5 o7, cUnd [some (iD 3), some (S.L [1, 2, 0, 1]), some (iD 2), some R, some (tabW 27 fa), o5, some (tabW 27 fm), o7, none, none, some (iD 10), some (iD 3), some (iD 27), none, none, none, none] = some (iD (tb t_inv 10)) := by
  intro o5 o7
  kernel_rfl
theorem trn_10 : ∀ o2 o5 o7 o8 acc, cTurn [some (iD 3), some (S.L [1, 2, 0, 1]), o2, some R, some (tabW 27 fa), o5, some (tabW 27 fm), o7, o8, acc, some (iD 10), some (iD 3), some (iD 27), some (.int 1), none, none, none] = some (.nx [some (iD 3), some (S.L [1, 2, 0, 1]), some (iD 2), some R, some (tabW 27 fa), o5, some (tabW 27 fm), o7, o8, acc, some (iD 10), some (iD 3), some (iD 27), some (iD (tb t_ph 10)), none, none, none]) := by
  intro o2 o5 o7 o8 acc
  kernel_rfl
theorem fig_11 : S.law_figures [iD 3, iD 3, iD 11] = some (figD 3 3 11) := by kernel_rfl
theorem sum_11 : ∀ acc, cSum [some (iD 3), some (S.L [1, 2, 0, 1]), some (iD 2), some R, acc, some (figD 3 3 11), none, none, none, none, none, some (iD 3), some (iD 27), none, none, none, none] = some (rowW 27 (fa 11)) := by
  intro acc
  kernel_rfl
theorem prd_11 : S.law_product_row [iD 3, S.L [1, 2, 0, 1], R, iD 11] = some (rowW 27 (fm 11)) := by kernel_rfl
theorem les_11 : ∀ o5, cLess [some (iD 3), some (S.L [1, 2, 0, 1]), some (iD 2), some R, some (tabW 27 fa), o5, some (tabW 27 fm), none, none, none, some (iD 11), some (iD 3), some (iD 27), none, none, none, none] = some (iD (tb t_neg 11)) := by
  intro o5
  kernel_rfl
theorem und_11 : ∀ o5 o7, cUnd [some (iD 3), some (S.L [1, 2, 0, 1]), some (iD 2), some R, some (tabW 27 fa), o5, some (tabW 27 fm), o7, none, none, some (iD 11), some (iD 3), some (iD 27), none, none, none, none] = some (iD (tb t_inv 11)) := by
  intro o5 o7
  kernel_rfl
theorem trn_11 : ∀ o2 o5 o7 o8 acc, cTurn [some (iD 3), some (S.L [1, 2, 0, 1]), o2, some R, some (tabW 27 fa), o5, some (tabW 27 fm), o7, o8, acc, some (iD 11), some (iD 3), some (iD 27), some (.int 1), none, none, none] = some (.nx [some (iD 3), some (S.L [1, 2, 0, 1]), some (iD 2), some R, some (tabW 27 fa), o5, some (tabW 27 fm), o7, o8, acc, some (iD 11), some (iD 3), some (iD 27), some (iD (tb t_ph 11)), none, none, none]) := by
  intro o2 o5 o7 o8 acc
  kernel_rfl
theorem fig_12 : S.law_figures [iD 3, iD 3, iD 12] = some (figD 3 3 12) := by kernel_rfl
theorem sum_12 : ∀ acc, cSum [some (iD 3), some (S.L [1, 2, 0, 1]), some (iD 2), some R, acc, some (figD 3 3 12), none, none, none, none, none, some (iD 3), some (iD 27), none, none, none, none] = some (rowW 27 (fa 12)) := by
  intro acc
  kernel_rfl
theorem prd_12 : S.law_product_row [iD 3, S.L [1, 2, 0, 1], R, iD 12] = some (rowW 27 (fm 12)) := by kernel_rfl
theorem les_12 : ∀ o5, cLess [some (iD 3), some (S.L [1, 2, 0, 1]), some (iD 2), some R, some (tabW 27 fa), o5, some (tabW 27 fm), none, none, none, some (iD 12), some (iD 3), some (iD 27), none, none, none, none] = some (iD (tb t_neg 12)) := by
  intro o5
  kernel_rfl
theorem und_12 : ∀ o5 o7, cUnd [some (iD 3), some (S.L [1, 2, 0, 1]), some (iD 2), some R, some (tabW 27 fa), o5, some (tabW 27 fm), o7, none, none, some (iD 12), some (iD 3), some (iD 27), none, none, none, none] = some (iD (tb t_inv 12)) := by
  intro o5 o7
  kernel_rfl
theorem trn_12 : ∀ o2 o5 o7 o8 acc, cTurn [some (iD 3), some (S.L [1, 2, 0, 1]), o2, some R, some (tabW 27 fa), o5, some (tabW 27 fm), o7, o8, acc, some (iD 12), some (iD 3), some (iD 27), some (.int 1), none, none, none] = some (.nx [some (iD 3), some (S.L [1, 2, 0, 1]), some (iD 2), some R, some (tabW 27 fa), o5, some (tabW 27 fm), o7, o8, acc, some (iD 12), some (iD 3), some (iD 27), some (iD (tb t_ph 12)), none, none, none]) := by
  intro o2 o5 o7 o8 acc
  kernel_rfl
theorem fig_13 : S.law_figures [iD 3, iD 3, iD 13] = some (figD 3 3 13) := by kernel_rfl
theorem sum_13 : ∀ acc, cSum [some (iD 3), some (S.L [1, 2, 0, 1]), some (iD 2), some R, acc, some (figD 3 3 13), none, none, none, none, none, some (iD 3), some (iD 27), none, none, none, none] = some (rowW 27 (fa 13)) := by
  intro acc
  kernel_rfl
theorem prd_13 : S.law_product_row [iD 3, S.L [1, 2, 0, 1], R, iD 13] = some (rowW 27 (fm 13)) := by kernel_rfl
theorem les_13 : ∀ o5, cLess [some (iD 3), some (S.L [1, 2, 0, 1]), some (iD 2), some R, some (tabW 27 fa), o5, some (tabW 27 fm), none, none, none, some (iD 13), some (iD 3), some (iD 27), none, none, none, none] = some (iD (tb t_neg 13)) := by
  intro o5
  kernel_rfl
theorem und_13 : ∀ o5 o7, cUnd [some (iD 3), some (S.L [1, 2, 0, 1]), some (iD 2), some R, some (tabW 27 fa), o5, some (tabW 27 fm), o7, none, none, some (iD 13), some (iD 3), some (iD 27), none, none, none, none] = some (iD (tb t_inv 13)) := by
  intro o5 o7
  kernel_rfl
theorem trn_13 : ∀ o2 o5 o7 o8 acc, cTurn [some (iD 3), some (S.L [1, 2, 0, 1]), o2, some R, some (tabW 27 fa), o5, some (tabW 27 fm), o7, o8, acc, some (iD 13), some (iD 3), some (iD 27), some (.int 1), none, none, none] = some (.nx [some (iD 3), some (S.L [1, 2, 0, 1]), some (iD 2), some R, some (tabW 27 fa), o5, some (tabW 27 fm), o7, o8, acc, some (iD 13), some (iD 3), some (iD 27), some (iD (tb t_ph 13)), none, none, none]) := by
  intro o2 o5 o7 o8 acc
  kernel_rfl
theorem fig_14 : S.law_figures [iD 3, iD 3, iD 14] = some (figD 3 3 14) := by kernel_rfl
theorem sum_14 : ∀ acc, cSum [some (iD 3), some (S.L [1, 2, 0, 1]), some (iD 2), some R, acc, some (figD 3 3 14), none, none, none, none, none, some (iD 3), some (iD 27), none, none, none, none] = some (rowW 27 (fa 14)) := by
  intro acc
  kernel_rfl
theorem prd_14 : S.law_product_row [iD 3, S.L [1, 2, 0, 1], R, iD 14] = some (rowW 27 (fm 14)) := by kernel_rfl
theorem les_14 : ∀ o5, cLess [some (iD 3), some (S.L [1, 2, 0, 1]), some (iD 2), some R, some (tabW 27 fa), o5, some (tabW 27 fm), none, none, none, some (iD 14), some (iD 3), some (iD 27), none, none, none, none] = some (iD (tb t_neg 14)) := by
  intro o5
  kernel_rfl
theorem und_14 : ∀ o5 o7, cUnd [some (iD 3), some (S.L [1, 2, 0, 1]), some (iD 2), some R, some (tabW 27 fa), o5, some (tabW 27 fm), o7, none, none, some (iD 14), some (iD 3), some (iD 27), none, none, none, none] = some (iD (tb t_inv 14)) := by
  intro o5 o7
  kernel_rfl
theorem trn_14 : ∀ o2 o5 o7 o8 acc, cTurn [some (iD 3), some (S.L [1, 2, 0, 1]), o2, some R, some (tabW 27 fa), o5, some (tabW 27 fm), o7, o8, acc, some (iD 14), some (iD 3), some (iD 27), some (.int 1), none, none, none] = some (.nx [some (iD 3), some (S.L [1, 2, 0, 1]), some (iD 2), some R, some (tabW 27 fa), o5, some (tabW 27 fm), o7, o8, acc, some (iD 14), some (iD 3), some (iD 27), some (iD (tb t_ph 14)), none, none, none]) := by
  intro o2 o5 o7 o8 acc
  kernel_rfl
theorem fig_15 : S.law_figures [iD 3, iD 3, iD 15] = some (figD 3 3 15) := by kernel_rfl
theorem sum_15 : ∀ acc, cSum [some (iD 3), some (S.L [1, 2, 0, 1]), some (iD 2), some R, acc, some (figD 3 3 15), none, none, none, none, none, some (iD 3), some (iD 27), none, none, none, none] = some (rowW 27 (fa 15)) := by
  intro acc
  kernel_rfl
theorem prd_15 : S.law_product_row [iD 3, S.L [1, 2, 0, 1], R, iD 15] = some (rowW 27 (fm 15)) := by kernel_rfl
theorem les_15 : ∀ o5, cLess [some (iD 3), some (S.L [1, 2, 0, 1]), some (iD 2), some R, some (tabW 27 fa), o5, some (tabW 27 fm), none, none, none, some (iD 15), some (iD 3), some (iD 27), none, none, none, none] = some (iD (tb t_neg 15)) := by
  intro o5
  kernel_rfl
theorem und_15 : ∀ o5 o7, cUnd [some (iD 3), some (S.L [1, 2, 0, 1]), some (iD 2), some R, some (tabW 27 fa), o5, some (tabW 27 fm), o7, none, none, some (iD 15), some (iD 3), some (iD 27), none, none, none, none] = some (iD (tb t_inv 15)) := by
  intro o5 o7
  kernel_rfl
theorem trn_15 : ∀ o2 o5 o7 o8 acc, cTurn [some (iD 3), some (S.L [1, 2, 0, 1]), o2, some R, some (tabW 27 fa), o5, some (tabW 27 fm), o7, o8, acc, some (iD 15), some (iD 3), some (iD 27), some (.int 1), none, none, none] = some (.nx [some (iD 3), some (S.L [1, 2, 0, 1]), some (iD 2), some R, some (tabW 27 fa), o5, some (tabW 27 fm), o7, o8, acc, some (iD 15), some (iD 3), some (iD 27), some (iD (tb t_ph 15)), none, none, none]) := by
  intro o2 o5 o7 o8 acc
  kernel_rfl
theorem fig_16 : S.law_figures [iD 3, iD 3, iD 16] = some (figD 3 3 16) := by kernel_rfl
theorem sum_16 : ∀ acc, cSum [some (iD 3), some (S.L [1, 2, 0, 1]), some (iD 2), some R, acc, some (figD 3 3 16), none, none, none, none, none, some (iD 3), some (iD 27), none, none, none, none] = some (rowW 27 (fa 16)) := by
  intro acc
  kernel_rfl
theorem prd_16 : S.law_product_row [iD 3, S.L [1, 2, 0, 1], R, iD 16] = some (rowW 27 (fm 16)) := by kernel_rfl
theorem les_16 : ∀ o5, cLess [some (iD 3), some (S.L [1, 2, 0, 1]), some (iD 2), some R, some (tabW 27 fa), o5, some (tabW 27 fm), none, none, none, some (iD 16), some (iD 3), some (iD 27), none, none, none, none] = some (iD (tb t_neg 16)) := by
  intro o5
  kernel_rfl
theorem und_16 : ∀ o5 o7, cUnd [some (iD 3), some (S.L [1, 2, 0, 1]), some (iD 2), some R, some (tabW 27 fa), o5, some (tabW 27 fm), o7, none, none, some (iD 16), some (iD 3), some (iD 27), none, none, none, none] = some (iD (tb t_inv 16)) := by
  intro o5 o7
  kernel_rfl
theorem trn_16 : ∀ o2 o5 o7 o8 acc, cTurn [some (iD 3), some (S.L [1, 2, 0, 1]), o2, some R, some (tabW 27 fa), o5, some (tabW 27 fm), o7, o8, acc, some (iD 16), some (iD 3), some (iD 27), some (.int 1), none, none, none] = some (.nx [some (iD 3), some (S.L [1, 2, 0, 1]), some (iD 2), some R, some (tabW 27 fa), o5, some (tabW 27 fm), o7, o8, acc, some (iD 16), some (iD 3), some (iD 27), some (iD (tb t_ph 16)), none, none, none]) := by
  intro o2 o5 o7 o8 acc
  kernel_rfl
theorem fig_17 : S.law_figures [iD 3, iD 3, iD 17] = some (figD 3 3 17) := by kernel_rfl
theorem sum_17 : ∀ acc, cSum [some (iD 3), some (S.L [1, 2, 0, 1]), some (iD 2), some R, acc, some (figD 3 3 17), none, none, none, none, none, some (iD 3), some (iD 27), none, none, none, none] = some (rowW 27 (fa 17)) := by
  intro acc
  kernel_rfl
theorem prd_17 : S.law_product_row [iD 3, S.L [1, 2, 0, 1], R, iD 17] = some (rowW 27 (fm 17)) := by kernel_rfl
theorem les_17 : ∀ o5, cLess [some (iD 3), some (S.L [1, 2, 0, 1]), some (iD 2), some R, some (tabW 27 fa), o5, some (tabW 27 fm), none, none, none, some (iD 17), some (iD 3), some (iD 27), none, none, none, none] = some (iD (tb t_neg 17)) := by
  intro o5
  kernel_rfl
theorem und_17 : ∀ o5 o7, cUnd [some (iD 3), some (S.L [1, 2, 0, 1]), some (iD 2), some R, some (tabW 27 fa), o5, some (tabW 27 fm), o7, none, none, some (iD 17), some (iD 3), some (iD 27), none, none, none, none] = some (iD (tb t_inv 17)) := by
  intro o5 o7
  kernel_rfl
theorem trn_17 : ∀ o2 o5 o7 o8 acc, cTurn [some (iD 3), some (S.L [1, 2, 0, 1]), o2, some R, some (tabW 27 fa), o5, some (tabW 27 fm), o7, o8, acc, some (iD 17), some (iD 3), some (iD 27), some (.int 1), none, none, none] = some (.nx [some (iD 3), some (S.L [1, 2, 0, 1]), some (iD 2), some R, some (tabW 27 fa), o5, some (tabW 27 fm), o7, o8, acc, some (iD 17), some (iD 3), some (iD 27), some (iD (tb t_ph 17)), none, none, none]) := by
  intro o2 o5 o7 o8 acc
  kernel_rfl
theorem fig_18 : S.law_figures [iD 3, iD 3, iD 18] = some (figD 3 3 18) := by kernel_rfl
theorem sum_18 : ∀ acc, cSum [some (iD 3), some (S.L [1, 2, 0, 1]), some (iD 2), some R, acc, some (figD 3 3 18), none, none, none, none, none, some (iD 3), some (iD 27), none, none, none, none] = some (rowW 27 (fa 18)) := by
  intro acc
  kernel_rfl
theorem prd_18 : S.law_product_row [iD 3, S.L [1, 2, 0, 1], R, iD 18] = some (rowW 27 (fm 18)) := by kernel_rfl
theorem les_18 : ∀ o5, cLess [some (iD 3), some (S.L [1, 2, 0, 1]), some (iD 2), some R, some (tabW 27 fa), o5, some (tabW 27 fm), none, none, none, some (iD 18), some (iD 3), some (iD 27), none, none, none, none] = some (iD (tb t_neg 18)) := by
  intro o5
  kernel_rfl
theorem und_18 : ∀ o5 o7, cUnd [some (iD 3), some (S.L [1, 2, 0, 1]), some (iD 2), some R, some (tabW 27 fa), o5, some (tabW 27 fm), o7, none, none, some (iD 18), some (iD 3), some (iD 27), none, none, none, none] = some (iD (tb t_inv 18)) := by
  intro o5 o7
  kernel_rfl
theorem trn_18 : ∀ o2 o5 o7 o8 acc, cTurn [some (iD 3), some (S.L [1, 2, 0, 1]), o2, some R, some (tabW 27 fa), o5, some (tabW 27 fm), o7, o8, acc, some (iD 18), some (iD 3), some (iD 27), some (.int 1), none, none, none] = some (.nx [some (iD 3), some (S.L [1, 2, 0, 1]), some (iD 2), some R, some (tabW 27 fa), o5, some (tabW 27 fm), o7, o8, acc, some (iD 18), some (iD 3), some (iD 27), some (iD (tb t_ph 18)), none, none, none]) := by
  intro o2 o5 o7 o8 acc
  kernel_rfl
theorem fig_19 : S.law_figures [iD 3, iD 3, iD 19] = some (figD 3 3 19) := by kernel_rfl
theorem sum_19 : ∀ acc, cSum [some (iD 3), some (S.L [1, 2, 0, 1]), some (iD 2), some R, acc, some (figD 3 3 19), none, none, none, none, none, some (iD 3), some (iD 27), none, none, none, none] = some (rowW 27 (fa 19)) := by
  intro acc
  kernel_rfl
theorem prd_19 : S.law_product_row [iD 3, S.L [1, 2, 0, 1], R, iD 19] = some (rowW 27 (fm 19)) := by kernel_rfl
theorem les_19 : ∀ o5, cLess [some (iD 3), some (S.L [1, 2, 0, 1]), some (iD 2), some R, some (tabW 27 fa), o5, some (tabW 27 fm), none, none, none, some (iD 19), some (iD 3), some (iD 27), none, none, none, none] = some (iD (tb t_neg 19)) := by
  intro o5
  kernel_rfl
theorem und_19 : ∀ o5 o7, cUnd [some (iD 3), some (S.L [1, 2, 0, 1]), some (iD 2), some R, some (tabW 27 fa), o5, some (tabW 27 fm), o7, none, none, some (iD 19), some (iD 3), some (iD 27), none, none, none, none] = some (iD (tb t_inv 19)) := by
  intro o5 o7
  kernel_rfl
theorem trn_19 : ∀ o2 o5 o7 o8 acc, cTurn [some (iD 3), some (S.L [1, 2, 0, 1]), o2, some R, some (tabW 27 fa), o5, some (tabW 27 fm), o7, o8, acc, some (iD 19), some (iD 3), some (iD 27), some (.int 1), none, none, none] = some (.nx [some (iD 3), some (S.L [1, 2, 0, 1]), some (iD 2), some R, some (tabW 27 fa), o5, some (tabW 27 fm), o7, o8, acc, some (iD 19), some (iD 3), some (iD 27), some (iD (tb t_ph 19)), none, none, none]) := by
  intro o2 o5 o7 o8 acc
  kernel_rfl
theorem fig_20 : S.law_figures [iD 3, iD 3, iD 20] = some (figD 3 3 20) := by kernel_rfl
theorem sum_20 : ∀ acc, cSum [some (iD 3), some (S.L [1, 2, 0, 1]), some (iD 2), some R, acc, some (figD 3 3 20), none, none, none, none, none, some (iD 3), some (iD 27), none, none, none, none] = some (rowW 27 (fa 20)) := by
  intro acc
  kernel_rfl
theorem prd_20 : S.law_product_row [iD 3, S.L [1, 2, 0, 1], R, iD 20] = some (rowW 27 (fm 20)) := by kernel_rfl
theorem les_20 : ∀ o5, cLess [some (iD 3), some (S.L [1, 2, 0, 1]), some (iD 2), some R, some (tabW 27 fa), o5, some (tabW 27 fm), none, none, none, some (iD 20), some (iD 3), some (iD 27), none, none, none, none] = some (iD (tb t_neg 20)) := by
  intro o5
  kernel_rfl
theorem und_20 : ∀ o5 o7, cUnd [some (iD 3), some (S.L [1, 2, 0, 1]), some (iD 2), some R, some (tabW 27 fa), o5, some (tabW 27 fm), o7, none, none, some (iD 20), some (iD 3), some (iD 27), none, none, none, none] = some (iD (tb t_inv 20)) := by
  intro o5 o7
  kernel_rfl
theorem trn_20 : ∀ o2 o5 o7 o8 acc, cTurn [some (iD 3), some (S.L [1, 2, 0, 1]), o2, some R, some (tabW 27 fa), o5, some (tabW 27 fm), o7, o8, acc, some (iD 20), some (iD 3), some (iD 27), some (.int 1), none, none, none] = some (.nx [some (iD 3), some (S.L [1, 2, 0, 1]), some (iD 2), some R, some (tabW 27 fa), o5, some (tabW 27 fm), o7, o8, acc, some (iD 20), some (iD 3), some (iD 27), some (iD (tb t_ph 20)), none, none, none]) := by
  intro o2 o5 o7 o8 acc
  kernel_rfl
theorem fig_21 : S.law_figures [iD 3, iD 3, iD 21] = some (figD 3 3 21) := by kernel_rfl
theorem sum_21 : ∀ acc, cSum [some (iD 3), some (S.L [1, 2, 0, 1]), some (iD 2), some R, acc, some (figD 3 3 21), none, none, none, none, none, some (iD 3), some (iD 27), none, none, none, none] = some (rowW 27 (fa 21)) := by
  intro acc
  kernel_rfl
theorem prd_21 : S.law_product_row [iD 3, S.L [1, 2, 0, 1], R, iD 21] = some (rowW 27 (fm 21)) := by kernel_rfl
theorem les_21 : ∀ o5, cLess [some (iD 3), some (S.L [1, 2, 0, 1]), some (iD 2), some R, some (tabW 27 fa), o5, some (tabW 27 fm), none, none, none, some (iD 21), some (iD 3), some (iD 27), none, none, none, none] = some (iD (tb t_neg 21)) := by
  intro o5
  kernel_rfl
theorem und_21 : ∀ o5 o7, cUnd [some (iD 3), some (S.L [1, 2, 0, 1]), some (iD 2), some R, some (tabW 27 fa), o5, some (tabW 27 fm), o7, none, none, some (iD 21), some (iD 3), some (iD 27), none, none, none, none] = some (iD (tb t_inv 21)) := by
  intro o5 o7
  kernel_rfl
theorem trn_21 : ∀ o2 o5 o7 o8 acc, cTurn [some (iD 3), some (S.L [1, 2, 0, 1]), o2, some R, some (tabW 27 fa), o5, some (tabW 27 fm), o7, o8, acc, some (iD 21), some (iD 3), some (iD 27), some (.int 1), none, none, none] = some (.nx [some (iD 3), some (S.L [1, 2, 0, 1]), some (iD 2), some R, some (tabW 27 fa), o5, some (tabW 27 fm), o7, o8, acc, some (iD 21), some (iD 3), some (iD 27), some (iD (tb t_ph 21)), none, none, none]) := by
  intro o2 o5 o7 o8 acc
  kernel_rfl
theorem fig_22 : S.law_figures [iD 3, iD 3, iD 22] = some (figD 3 3 22) := by kernel_rfl
theorem sum_22 : ∀ acc, cSum [some (iD 3), some (S.L [1, 2, 0, 1]), some (iD 2), some R, acc, some (figD 3 3 22), none, none, none, none, none, some (iD 3), some (iD 27), none, none, none, none] = some (rowW 27 (fa 22)) := by
  intro acc
  kernel_rfl
theorem prd_22 : S.law_product_row [iD 3, S.L [1, 2, 0, 1], R, iD 22] = some (rowW 27 (fm 22)) := by kernel_rfl
theorem les_22 : ∀ o5, cLess [some (iD 3), some (S.L [1, 2, 0, 1]), some (iD 2), some R, some (tabW 27 fa), o5, some (tabW 27 fm), none, none, none, some (iD 22), some (iD 3), some (iD 27), none, none, none, none] = some (iD (tb t_neg 22)) := by
  intro o5
  kernel_rfl
theorem und_22 : ∀ o5 o7, cUnd [some (iD 3), some (S.L [1, 2, 0, 1]), some (iD 2), some R, some (tabW 27 fa), o5, some (tabW 27 fm), o7, none, none, some (iD 22), some (iD 3), some (iD 27), none, none, none, none] = some (iD (tb t_inv 22)) := by
  intro o5 o7
  kernel_rfl
theorem trn_22 : ∀ o2 o5 o7 o8 acc, cTurn [some (iD 3), some (S.L [1, 2, 0, 1]), o2, some R, some (tabW 27 fa), o5, some (tabW 27 fm), o7, o8, acc, some (iD 22), some (iD 3), some (iD 27), some (.int 1), none, none, none] = some (.nx [some (iD 3), some (S.L [1, 2, 0, 1]), some (iD 2), some R, some (tabW 27 fa), o5, some (tabW 27 fm), o7, o8, acc, some (iD 22), some (iD 3), some (iD 27), some (iD (tb t_ph 22)), none, none, none]) := by
  intro o2 o5 o7 o8 acc
  kernel_rfl
theorem fig_23 : S.law_figures [iD 3, iD 3, iD 23] = some (figD 3 3 23) := by kernel_rfl
theorem sum_23 : ∀ acc, cSum [some (iD 3), some (S.L [1, 2, 0, 1]), some (iD 2), some R, acc, some (figD 3 3 23), none, none, none, none, none, some (iD 3), some (iD 27), none, none, none, none] = some (rowW 27 (fa 23)) := by
  intro acc
  kernel_rfl
theorem prd_23 : S.law_product_row [iD 3, S.L [1, 2, 0, 1], R, iD 23] = some (rowW 27 (fm 23)) := by kernel_rfl
theorem les_23 : ∀ o5, cLess [some (iD 3), some (S.L [1, 2, 0, 1]), some (iD 2), some R, some (tabW 27 fa), o5, some (tabW 27 fm), none, none, none, some (iD 23), some (iD 3), some (iD 27), none, none, none, none] = some (iD (tb t_neg 23)) := by
  intro o5
  kernel_rfl
theorem und_23 : ∀ o5 o7, cUnd [some (iD 3), some (S.L [1, 2, 0, 1]), some (iD 2), some R, some (tabW 27 fa), o5, some (tabW 27 fm), o7, none, none, some (iD 23), some (iD 3), some (iD 27), none, none, none, none] = some (iD (tb t_inv 23)) := by
  intro o5 o7
  kernel_rfl
theorem trn_23 : ∀ o2 o5 o7 o8 acc, cTurn [some (iD 3), some (S.L [1, 2, 0, 1]), o2, some R, some (tabW 27 fa), o5, some (tabW 27 fm), o7, o8, acc, some (iD 23), some (iD 3), some (iD 27), some (.int 1), none, none, none] = some (.nx [some (iD 3), some (S.L [1, 2, 0, 1]), some (iD 2), some R, some (tabW 27 fa), o5, some (tabW 27 fm), o7, o8, acc, some (iD 23), some (iD 3), some (iD 27), some (iD (tb t_ph 23)), none, none, none]) := by
  intro o2 o5 o7 o8 acc
  kernel_rfl
theorem fig_24 : S.law_figures [iD 3, iD 3, iD 24] = some (figD 3 3 24) := by kernel_rfl
theorem sum_24 : ∀ acc, cSum [some (iD 3), some (S.L [1, 2, 0, 1]), some (iD 2), some R, acc, some (figD 3 3 24), none, none, none, none, none, some (iD 3), some (iD 27), none, none, none, none] = some (rowW 27 (fa 24)) := by
  intro acc
  kernel_rfl
theorem prd_24 : S.law_product_row [iD 3, S.L [1, 2, 0, 1], R, iD 24] = some (rowW 27 (fm 24)) := by kernel_rfl
theorem les_24 : ∀ o5, cLess [some (iD 3), some (S.L [1, 2, 0, 1]), some (iD 2), some R, some (tabW 27 fa), o5, some (tabW 27 fm), none, none, none, some (iD 24), some (iD 3), some (iD 27), none, none, none, none] = some (iD (tb t_neg 24)) := by
  intro o5
  kernel_rfl
theorem und_24 : ∀ o5 o7, cUnd [some (iD 3), some (S.L [1, 2, 0, 1]), some (iD 2), some R, some (tabW 27 fa), o5, some (tabW 27 fm), o7, none, none, some (iD 24), some (iD 3), some (iD 27), none, none, none, none] = some (iD (tb t_inv 24)) := by
  intro o5 o7
  kernel_rfl
theorem trn_24 : ∀ o2 o5 o7 o8 acc, cTurn [some (iD 3), some (S.L [1, 2, 0, 1]), o2, some R, some (tabW 27 fa), o5, some (tabW 27 fm), o7, o8, acc, some (iD 24), some (iD 3), some (iD 27), some (.int 1), none, none, none] = some (.nx [some (iD 3), some (S.L [1, 2, 0, 1]), some (iD 2), some R, some (tabW 27 fa), o5, some (tabW 27 fm), o7, o8, acc, some (iD 24), some (iD 3), some (iD 27), some (iD (tb t_ph 24)), none, none, none]) := by
  intro o2 o5 o7 o8 acc
  kernel_rfl
theorem fig_25 : S.law_figures [iD 3, iD 3, iD 25] = some (figD 3 3 25) := by kernel_rfl
theorem sum_25 : ∀ acc, cSum [some (iD 3), some (S.L [1, 2, 0, 1]), some (iD 2), some R, acc, some (figD 3 3 25), none, none, none, none, none, some (iD 3), some (iD 27), none, none, none, none] = some (rowW 27 (fa 25)) := by
  intro acc
  kernel_rfl
theorem prd_25 : S.law_product_row [iD 3, S.L [1, 2, 0, 1], R, iD 25] = some (rowW 27 (fm 25)) := by kernel_rfl
theorem les_25 : ∀ o5, cLess [some (iD 3), some (S.L [1, 2, 0, 1]), some (iD 2), some R, some (tabW 27 fa), o5, some (tabW 27 fm), none, none, none, some (iD 25), some (iD 3), some (iD 27), none, none, none, none] = some (iD (tb t_neg 25)) := by
  intro o5
  kernel_rfl
theorem und_25 : ∀ o5 o7, cUnd [some (iD 3), some (S.L [1, 2, 0, 1]), some (iD 2), some R, some (tabW 27 fa), o5, some (tabW 27 fm), o7, none, none, some (iD 25), some (iD 3), some (iD 27), none, none, none, none] = some (iD (tb t_inv 25)) := by
  intro o5 o7
  kernel_rfl
theorem trn_25 : ∀ o2 o5 o7 o8 acc, cTurn [some (iD 3), some (S.L [1, 2, 0, 1]), o2, some R, some (tabW 27 fa), o5, some (tabW 27 fm), o7, o8, acc, some (iD 25), some (iD 3), some (iD 27), some (.int 1), none, none, none] = some (.nx [some (iD 3), some (S.L [1, 2, 0, 1]), some (iD 2), some R, some (tabW 27 fa), o5, some (tabW 27 fm), o7, o8, acc, some (iD 25), some (iD 3), some (iD 27), some (iD (tb t_ph 25)), none, none, none]) := by
  intro o2 o5 o7 o8 acc
  kernel_rfl
theorem fig_26 : S.law_figures [iD 3, iD 3, iD 26] = some (figD 3 3 26) := by kernel_rfl
theorem sum_26 : ∀ acc, cSum [some (iD 3), some (S.L [1, 2, 0, 1]), some (iD 2), some R, acc, some (figD 3 3 26), none, none, none, none, none, some (iD 3), some (iD 27), none, none, none, none] = some (rowW 27 (fa 26)) := by
  intro acc
  kernel_rfl
theorem prd_26 : S.law_product_row [iD 3, S.L [1, 2, 0, 1], R, iD 26] = some (rowW 27 (fm 26)) := by kernel_rfl
theorem les_26 : ∀ o5, cLess [some (iD 3), some (S.L [1, 2, 0, 1]), some (iD 2), some R, some (tabW 27 fa), o5, some (tabW 27 fm), none, none, none, some (iD 26), some (iD 3), some (iD 27), none, none, none, none] = some (iD (tb t_neg 26)) := by
  intro o5
  kernel_rfl
theorem und_26 : ∀ o5 o7, cUnd [some (iD 3), some (S.L [1, 2, 0, 1]), some (iD 2), some R, some (tabW 27 fa), o5, some (tabW 27 fm), o7, none, none, some (iD 26), some (iD 3), some (iD 27), none, none, none, none] = some (iD (tb t_inv 26)) := by
  intro o5 o7
  kernel_rfl
theorem trn_26 : ∀ o2 o5 o7 o8 acc, cTurn [some (iD 3), some (S.L [1, 2, 0, 1]), o2, some R, some (tabW 27 fa), o5, some (tabW 27 fm), o7, o8, acc, some (iD 26), some (iD 3), some (iD 27), some (.int 1), none, none, none] = some (.nx [some (iD 3), some (S.L [1, 2, 0, 1]), some (iD 2), some R, some (tabW 27 fa), o5, some (tabW 27 fm), o7, o8, acc, some (iD 26), some (iD 3), some (iD 27), some (iD (tb t_ph 26)), none, none, none]) := by
  intro o2 o5 o7 o8 acc
  kernel_rfl
theorem figA : ∀ x, x < 27 → S.law_figures [iD 3, iD 3, iD x] = some (figD 3 3 x)
  | 0, _ => fig_0
  | 1, _ => fig_1
  | 2, _ => fig_2
  | 3, _ => fig_3
  | 4, _ => fig_4
  | 5, _ => fig_5
  | 6, _ => fig_6
  | 7, _ => fig_7
  | 8, _ => fig_8
  | 9, _ => fig_9
  | 10, _ => fig_10
  | 11, _ => fig_11
  | 12, _ => fig_12
  | 13, _ => fig_13
  | 14, _ => fig_14
  | 15, _ => fig_15
  | 16, _ => fig_16
  | 17, _ => fig_17
  | 18, _ => fig_18
  | 19, _ => fig_19
  | 20, _ => fig_20
  | 21, _ => fig_21
  | 22, _ => fig_22
  | 23, _ => fig_23
  | 24, _ => fig_24
  | 25, _ => fig_25
  | 26, _ => fig_26
  | k + 27, h => absurd h (by omega)
theorem sumA : ∀ x, x < 27 → ∀ acc, cSum [some (iD 3), some (S.L [1, 2, 0, 1]), some (iD 2), some R, acc, some (figD 3 3 x), none, none, none, none, none, some (iD 3), some (iD 27), none, none, none, none] = some (rowW 27 (fa x))
  | 0, _ => sum_0
  | 1, _ => sum_1
  | 2, _ => sum_2
  | 3, _ => sum_3
  | 4, _ => sum_4
  | 5, _ => sum_5
  | 6, _ => sum_6
  | 7, _ => sum_7
  | 8, _ => sum_8
  | 9, _ => sum_9
  | 10, _ => sum_10
  | 11, _ => sum_11
  | 12, _ => sum_12
  | 13, _ => sum_13
  | 14, _ => sum_14
  | 15, _ => sum_15
  | 16, _ => sum_16
  | 17, _ => sum_17
  | 18, _ => sum_18
  | 19, _ => sum_19
  | 20, _ => sum_20
  | 21, _ => sum_21
  | 22, _ => sum_22
  | 23, _ => sum_23
  | 24, _ => sum_24
  | 25, _ => sum_25
  | 26, _ => sum_26
  | k + 27, h => absurd h (by omega)
theorem prdA : ∀ x, x < 27 → S.law_product_row [iD 3, S.L [1, 2, 0, 1], R, iD x] = some (rowW 27 (fm x))
  | 0, _ => prd_0
  | 1, _ => prd_1
  | 2, _ => prd_2
  | 3, _ => prd_3
  | 4, _ => prd_4
  | 5, _ => prd_5
  | 6, _ => prd_6
  | 7, _ => prd_7
  | 8, _ => prd_8
  | 9, _ => prd_9
  | 10, _ => prd_10
  | 11, _ => prd_11
  | 12, _ => prd_12
  | 13, _ => prd_13
  | 14, _ => prd_14
  | 15, _ => prd_15
  | 16, _ => prd_16
  | 17, _ => prd_17
  | 18, _ => prd_18
  | 19, _ => prd_19
  | 20, _ => prd_20
  | 21, _ => prd_21
  | 22, _ => prd_22
  | 23, _ => prd_23
  | 24, _ => prd_24
  | 25, _ => prd_25
  | 26, _ => prd_26
  | k + 27, h => absurd h (by omega)
theorem lesA : ∀ x, x < 27 → ∀ o5, cLess [some (iD 3), some (S.L [1, 2, 0, 1]), some (iD 2), some R, some (tabW 27 fa), o5, some (tabW 27 fm), none, none, none, some (iD x), some (iD 3), some (iD 27), none, none, none, none] = some (iD (tb t_neg x))
  | 0, _ => les_0
  | 1, _ => les_1
  | 2, _ => les_2
  | 3, _ => les_3
  | 4, _ => les_4
  | 5, _ => les_5
  | 6, _ => les_6
  | 7, _ => les_7
  | 8, _ => les_8
  | 9, _ => les_9
  | 10, _ => les_10
  | 11, _ => les_11
  | 12, _ => les_12
  | 13, _ => les_13
  | 14, _ => les_14
  | 15, _ => les_15
  | 16, _ => les_16
  | 17, _ => les_17
  | 18, _ => les_18
  | 19, _ => les_19
  | 20, _ => les_20
  | 21, _ => les_21
  | 22, _ => les_22
  | 23, _ => les_23
  | 24, _ => les_24
  | 25, _ => les_25
  | 26, _ => les_26
  | k + 27, h => absurd h (by omega)
theorem undA : ∀ x, 1 ≤ x → x < 27 → ∀ o5 o7, cUnd [some (iD 3), some (S.L [1, 2, 0, 1]), some (iD 2), some R, some (tabW 27 fa), o5, some (tabW 27 fm), o7, none, none, some (iD x), some (iD 3), some (iD 27), none, none, none, none] = some (iD (tb t_inv x))
  | 0, h, _ => absurd h (by omega)
  | 1, _, _ => und_1
  | 2, _, _ => und_2
  | 3, _, _ => und_3
  | 4, _, _ => und_4
  | 5, _, _ => und_5
  | 6, _, _ => und_6
  | 7, _, _ => und_7
  | 8, _, _ => und_8
  | 9, _, _ => und_9
  | 10, _, _ => und_10
  | 11, _, _ => und_11
  | 12, _, _ => und_12
  | 13, _, _ => und_13
  | 14, _, _ => und_14
  | 15, _, _ => und_15
  | 16, _, _ => und_16
  | 17, _, _ => und_17
  | 18, _, _ => und_18
  | 19, _, _ => und_19
  | 20, _, _ => und_20
  | 21, _, _ => und_21
  | 22, _, _ => und_22
  | 23, _, _ => und_23
  | 24, _, _ => und_24
  | 25, _, _ => und_25
  | 26, _, _ => und_26
  | k + 27, _, h => absurd h (by omega)
theorem trnA : ∀ x, x < 27 → ∀ o2 o5 o7 o8 acc, cTurn [some (iD 3), some (S.L [1, 2, 0, 1]), o2, some R, some (tabW 27 fa), o5, some (tabW 27 fm), o7, o8, acc, some (iD x), some (iD 3), some (iD 27), some (.int 1), none, none, none] = some (.nx [some (iD 3), some (S.L [1, 2, 0, 1]), some (iD 2), some R, some (tabW 27 fa), o5, some (tabW 27 fm), o7, o8, acc, some (iD x), some (iD 3), some (iD 27), some (iD (tb t_ph x)), none, none, none])
  | 0, _ => trn_0
  | 1, _ => trn_1
  | 2, _ => trn_2
  | 3, _ => trn_3
  | 4, _ => trn_4
  | 5, _ => trn_5
  | 6, _ => trn_6
  | 7, _ => trn_7
  | 8, _ => trn_8
  | 9, _ => trn_9
  | 10, _ => trn_10
  | 11, _ => trn_11
  | 12, _ => trn_12
  | 13, _ => trn_13
  | 14, _ => trn_14
  | 15, _ => trn_15
  | 16, _ => trn_16
  | 17, _ => trn_17
  | 18, _ => trn_18
  | 19, _ => trn_19
  | 20, _ => trn_20
  | 21, _ => trn_21
  | 22, _ => trn_22
  | 23, _ => trn_23
  | 24, _ => trn_24
  | 25, _ => trn_25
  | 26, _ => trn_26
  | k + 27, h => absurd h (by omega)
theorem wf : WF 3 3 27 [1, 2, 0, 1] R (figD 3 3) fa fm (tb t_neg) (tb t_inv) (tb t_ph) where
  eR := rfl
  q1 := by decide
  q2 := by decide
  st := by kernel_rfl
  fig := figA
  sum := sumA
  prd := prdA
  les := lesA
  inv0 := by decide +kernel
  und := undA
  trn := fun x h o2 o5 o7 o8 acc => ⟨_, trnA x h o2 o5 o7 o8 acc⟩
theorem hW : S.law_world [.int 3, S.L [1, 2, 0, 1]] = some (.lst W) := world_eq wf
theorem laws : lawsB O = true := by decide +kernel
theorem fld : fldB O F = true := by decide +kernel
theorem wld : wldB O W = true := by decide +kernel
theorem lr_0 : lrA q F W 0 = true := by decide +kernel
theorem lr_1 : lrA q F W 1 = true := by decide +kernel
theorem lr_2 : lrA q F W 2 = true := by decide +kernel
theorem lr_3 : lrA q F W 3 = true := by decide +kernel
theorem lr_4 : lrA q F W 4 = true := by decide +kernel
theorem lr_5 : lrA q F W 5 = true := by decide +kernel
theorem lr_6 : lrA q F W 6 = true := by decide +kernel
theorem lr_7 : lrA q F W 7 = true := by decide +kernel
theorem lr_8 : lrA q F W 8 = true := by decide +kernel
theorem lr_9 : lrA q F W 9 = true := by decide +kernel
theorem lr_10 : lrA q F W 10 = true := by decide +kernel
theorem lr_11 : lrA q F W 11 = true := by decide +kernel
theorem lr_12 : lrA q F W 12 = true := by decide +kernel
theorem lr_13 : lrA q F W 13 = true := by decide +kernel
theorem lr_14 : lrA q F W 14 = true := by decide +kernel
theorem lr_15 : lrA q F W 15 = true := by decide +kernel
theorem lr_16 : lrA q F W 16 = true := by decide +kernel
theorem lr_17 : lrA q F W 17 = true := by decide +kernel
theorem lr_18 : lrA q F W 18 = true := by decide +kernel
theorem lr_19 : lrA q F W 19 = true := by decide +kernel
theorem lr_20 : lrA q F W 20 = true := by decide +kernel
theorem lr_21 : lrA q F W 21 = true := by decide +kernel
theorem lr_22 : lrA q F W 22 = true := by decide +kernel
theorem lr_23 : lrA q F W 23 = true := by decide +kernel
theorem lr_24 : lrA q F W 24 = true := by decide +kernel
theorem lr_25 : lrA q F W 25 = true := by decide +kernel
theorem lr_26 : lrA q F W 26 = true := by decide +kernel
theorem lrAll : ∀ x, x < 27 → lrA q F W x = true
  | 0, _ => lr_0
  | 1, _ => lr_1
  | 2, _ => lr_2
  | 3, _ => lr_3
  | 4, _ => lr_4
  | 5, _ => lr_5
  | 6, _ => lr_6
  | 7, _ => lr_7
  | 8, _ => lr_8
  | 9, _ => lr_9
  | 10, _ => lr_10
  | 11, _ => lr_11
  | 12, _ => lr_12
  | 13, _ => lr_13
  | 14, _ => lr_14
  | 15, _ => lr_15
  | 16, _ => lr_16
  | 17, _ => lr_17
  | 18, _ => lr_18
  | 19, _ => lr_19
  | 20, _ => lr_20
  | 21, _ => lr_21
  | 22, _ => lr_22
  | 23, _ => lr_23
  | 24, _ => lr_24
  | 25, _ => lr_25
  | 26, _ => lr_26
  | k + 27, h => absurd h (by omega)
theorem lr : lrB q F W = true := lrB_of lrAll
theorem allq : allQ O (S.mostDeg (q : Int)) [O.u] = true := by decide +kernel
theorem all : allG O (S.mostDeg (q : Int)) [O.u] = true := allQ_all O rfl _ _ allq
theorem ok : S.okField 3 [1, 2, 0, 1] := okF (O := O) rfl rfl (by decide +kernel) (by decide) (by decide) rfl rfl laws fld wld lr all hF hW
end Fe
end B

set_option autoImplicit false
set_option Elab.async false
set_option linter.all false
set_option maxRecDepth 100000
set_option maxHeartbeats 0
/-! The law. -/
theorem GB.hall : ∀ p, p ∈ GB.fields5 → S.okField p.1 p.2 := by
  intro p hp
  rcases List.mem_cons.mp hp with h | hp
  · rw [h]; exact B.Fe.ok
  rcases List.mem_cons.mp hp with h | hp
  · rw [h]; exact B.Fa.ok
  rcases List.mem_cons.mp hp with h | hp
  · rw [h]; exact B.Fb.ok
  rcases List.mem_cons.mp hp with h | hp
  · rw [h]; exact B.Fc.ok
  rcases List.mem_cons.mp hp with h | hp
  · rw [h]; exact B.Fd.ok
  · exact nomatch hp
open PySem PySem.W PySem.Calls PyProof.Rows
theorem PySem.Challenge.cw_turnpowers_k67_whole_ways_have_like_part_holds : PySem.Challenge.rw_turnpowers_k67_whole_ways_have_like_part.Holds := by
  w_on; o_law
  refine HandSHeadRun.head_any (r := GB.RR) (q := view GB.RR.prog [111]) (H := GB.hk) (ob := GB.ob) (M := 20000) (loose := GB.loose) (d := HandSHeadRun.topDef GB.RR.prog 111) (kwd := []) GB.ob_eq (by kernel_rfl) (fun s => by kernel_rfl) GB.run (by kernel_rfl) (by kernel_rfl) (by kernel_rfl) (by rfl)
    (by first | assumption | decide +kernel) (by decide +kernel) ⟨rfl, rfl, rfl, rfl, rfl, by decide +kernel⟩ ?hw ?hc
  case hw => w_witness2
  case hc =>
    refine L2.walk_ofE (l := PySem.Challenge.rw_turnpowers_k67_whole_ways_have_like_part) (n := 63) (k := 15) (x := "_law_script") (CX := L2.CX0) rfl (by decide) (by kernel_rfl) ⟨rfl, by decide, by decide⟩ ?F (fun _ _ _ _ z => z)
    intro w mg fa h Y G hmg0
    obtain ⟨K, KX, b, c⟩ := Y
    have hmg : mg ("law" : PySem.Str) = some (.ref fa) := by
      have e : (HandSHeadRun.topDef GB.RR.prog 111).name = ("law" : PySem.Str) := by kernel_rfl
      rw [← e]
      exact hmg0
    obtain ⟨fd, hb, hF⟩ := GB.facts GB.hall (P := PySem.Challenge.rw_turnpowers_k67_whole_ways_have_like_part.prog) (w := w) KX G hmg b c
    exact ⟨K, fd, GB.spLaw K, KX, hb, fun H a ns hl _ hS => ⟨a, ns, rfl, hS, fun _ => rfl⟩, hF⟩

