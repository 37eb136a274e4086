import PyProof.Rows.All
import Wide.All
import OpenK.AllK
import Wide.FinOn
import HandS.ForMost
import HandS.Exc
import HandS.Wide
import HandS.WideBits
import HandS.IsInst
import HandS.TupAny
import HandS.TupMul
import HandS.Deep
import HandS.Style
import HandS.Flow
import HandS.NoneIn
import HandS.Conv
import HandS.ForExc
import HandS.Defaults
import HandS.ExcField
import HandS.ExcIs
import HandS.Head0
import HandS.Head1
import HandS.Head2
import HandS.HeadEnd
import HandS.HeadHook1
import HandS.HeadHook2
import KE.KStateDown
import Lean
import HandS.CallSlots
import KE.KExcIs
import PySem.Challenge.RW_rootward_k01_labels_and_names
set_option Elab.async false
set_option linter.all false
set_option maxRecDepth 100000
set_option maxHeartbeats 4000000
/-! MP0: a small pure layer over the hand layer: values PV (tuples by value), a heap of cells by number, readings as predicate transformers. -/
namespace MP
open PySem

inductive PV where
  | non | bl (b : Bool) | int (i : Int) | str (s : Str) | tup (xs : List PV) | fl (xs : List PV) | ref (n : Nat) | exc (c : Str) (v : PV)
inductive Cell where
  | lst (xs : List PV) | dct (kvs : List (PV × PV)) | set (xs : List PV) | ins (c : Str) (fs : List (Str × PV))
abbrev PHeap := List Cell
abbrev PSt := List (Option PV)
abbrev PQ := PV → PHeap → Prop
abbrev PXQ := Str → PV → PHeap → Prop
abbrev PTE := PSt → PHeap → PQ → PXQ → Prop
abbrev PTT := PSt → PHeap → (Bool → PHeap → Prop) → PXQ → Prop
abbrev PTA := PSt → PHeap → (List PV → PHeap → Prop) → PXQ → Prop
abbrev PSp := List PV → PHeap → PQ → PXQ → Prop
structure PD where
  nx : PSt → PHeap → Prop
  rt : PV → PHeap → Prop
  bk : PSt → PHeap → Prop
  ct : PSt → PHeap → Prop
  ex : Str → PV → PSt → PHeap → Prop
abbrev PTS := PD → PSt → PHeap → Prop
abbrev POp := PV → PV → PHeap → PQ → Prop
abbrev PUn := PV → PHeap → PQ → Prop
abbrev PCb := List PV → PHeap → PQ → Prop

/-! ### what may be a text -/
def okS (s : Str) : Prop := s.length ≤ sizeLine ∧ PySem.PyData.strOk s = true

/-! ### data read off -/
def allD (g : PV → Option PyData) : List PV → Option (List PyData)
  | [] => some []
  | x :: xs => match g x, allD g xs with
    | some d, some ds => some (d :: ds)
    | _, _ => none
/-- read off, if it is no longer than a line -/
def rdL (g : PV → Option PyData) (xs : List PV) : Option (List PyData) := if xs.length ≤ 100000 then allD g xs else none
theorem rdL_ok {g : PV → Option PyData} {xs : List PV} {ds : List PyData} (e : rdL g xs = some ds) : xs.length ≤ 100000 ∧ allD g xs = some ds := by
  unfold rdL at e
  split at e
  · rename_i l
    exact ⟨l, e⟩
  · cases e
theorem rdL_of {g : PV → Option PyData} {xs : List PV} {ds : List PyData} (l : xs.length ≤ 100000) (e : allD g xs = some ds) : rdL g xs = some ds := by
  unfold rdL
  rw [if_pos l]
  exact e
def rd (h : PHeap) : Nat → PV → Option PyData
  | _, .non => some .none
  | _, .bl b => some (.bool b)
  | _, .int i => some (.int i)
  | _, .str s => some (.str s)
  | f + 1, .tup xs => (rdL (rd h f) xs).map .tuple
  | f + 1, .fl xs => (rdL (rd h f) xs).map .list
  | f + 1, .ref n => match h[n]? with
    | some (.lst xs) => (rdL (rd h f) xs).map .list
    | _ => none
  | _, _ => none

/-! ### expressions -/
def isExc : PV → Bool
  | .exc _ _ => true
  | _ => false
def pVar (i : Nat) : PTE := fun τ h Q _ => match τ[i]? with
  | some (some v) => isExc v = false ∧ Q v h
  | _ => False
def pC (v : PV) : PTE := fun _ h Q _ => Q v h
def pOp (r : POp) (a b : PTE) : PTE := fun τ h Q E => a τ h (fun x h1 => b τ h1 (fun y h2 => r x y h2 Q) E) E
def pUn (r : PUn) (a : PTE) : PTE := fun τ h Q E => a τ h (fun x h1 => r x h1 Q) E
def pNil : PTA := fun _ h Q _ => Q [] h
def pCons (a : PTE) (t : PTA) : PTA := fun τ h Q E => a τ h (fun x h1 => t τ h1 (fun xs h2 => Q (x :: xs) h2) E) E
def pCB (r : PCb) (t : PTA) : PTE := fun τ h Q E => t τ h (fun vs h1 => r vs h1 Q) E
def pCall (sp : PSp) (t : PTA) : PTE := fun τ h Q E => t τ h (fun vs h1 => sp vs h1 Q E) E
def pTup (t : PTA) : PTE := fun τ h Q E => t τ h (fun vs h1 => vs.length ≤ sizeLine ∧ Q (.tup vs) h1) E
/-- a list that nobody keeps: its items alone -/
def pTmp (t : PTA) : PTA := fun τ h Q E => t τ h (fun vs h1 => vs.length ≤ sizeLine ∧ Q vs h1) E
/-- a temporary list, kept from here on -/
def pNew (t : PTA) : PTE := fun τ h Q E => t τ h (fun vs h1 => Q (.ref h1.length) (h1 ++ [.lst vs])) E
/-- a call of a built-in upon a temporary list -/
def pCT (r : PCb) (t : PTA) : PTE := fun τ h Q E => t τ h (fun vs h1 => r vs h1 Q) E
/-- a temporary list at an index -/
def pIxT (r : List PV → PV → PHeap → PQ → Prop) (t : PTA) (b : PTE) : PTE := fun τ h Q E => t τ h (fun vs h1 => b τ h1 (fun y h2 => r vs y h2 Q) E) E
def pIf (t : PTT) (a b : PTE) : PTE := fun τ h Q E => t τ h (fun c h1 => if c = true then a τ h1 Q E else b τ h1 Q E) E

/-! ### tests -/
def truth (h : PHeap) : PV → Option Bool
  | .non => some false
  | .bl b => some b
  | .int i => some (i != 0)
  | .str s => some ((s.length : Int) != 0)
  | .tup xs => some !xs.isEmpty
  | .fl xs => some !xs.isEmpty
  | .ref n => match h[n]? with
    | some (.lst xs) => some !xs.isEmpty
    | _ => none
  | _ => none
/-- a value that is True or False, as a test -/
def pB (a : PTE) : PTT := fun τ h Q E => a τ h (fun x h1 => match x with
  | .bl b => Q b h1
  | _ => False) E
def pT (a : PTE) : PTT := fun τ h Q E => a τ h (fun x h1 => match truth h1 x with
  | some b => Q b h1
  | none => False) E
def pAnd (t u : PTT) : PTT := fun τ h Q E => t τ h (fun c h1 => if c = true then u τ h1 Q E else Q false h1) E
def pOr (t u : PTT) : PTT := fun τ h Q E => t τ h (fun c h1 => if c = true then Q true h1 else u τ h1 Q E) E
def pNot (t : PTT) : PTT := fun τ h Q E => t τ h (fun c h1 => Q (!c) h1) E
/-- and, or, not as values, all but the last True or False -/
def pAndV (a b : PTE) : PTE := fun τ h Q E => a τ h (fun x h1 => match x with
  | .bl c => if c = true then b τ h1 Q E else Q (.bl false) h1
  | _ => False) E
def pOrV (a b : PTE) : PTE := fun τ h Q E => a τ h (fun x h1 => match x with
  | .bl c => if c = true then Q (.bl true) h1 else b τ h1 Q E
  | _ => False) E
def pNotV (a : PTE) : PTE := fun τ h Q E => a τ h (fun x h1 => match x with
  | .bl c => Q (.bl (!c)) h1
  | _ => False) E
def pChain (r r' : POp) (a b c : PTE) : PTE := fun τ h Q E => a τ h (fun x h1 => b τ h1 (fun y h2 => r x y h2 fun z h3 => match z with
  | .bl k => if k = true then c τ h3 (fun w h4 => r' y w h4 Q) E else Q (.bl false) h3
  | _ => False) E) E

/-! ### targets -/
inductive Tg where
  | nm (i : Nat) | tp (ts : List Tg)
mutual
def pG : Tg → PV → PSt → Option PSt
  | .nm i, v, τ => some (τ.set i (some v))
  | .tp ts, .tup xs, τ => if xs.length = ts.length then pGs ts xs τ else none
  | .tp _, _, _ => none
def pGs : List Tg → List PV → PSt → Option PSt
  | [], _, τ => some τ
  | _ :: _, [], _ => none
  | t :: ts, v :: vs, τ => match pG t v τ with
    | some τ' => pGs ts vs τ'
    | none => none
end

/-! ### what is walked -/
abbrev PTI := PSt → PHeap → (List PV → (PHeap → Prop) → PHeap → Prop) → PXQ → Prop
def charsOf (s : Str) : List PV := s.cps.toList.map fun c => .str ⟨#[c]⟩
def pIter (a : PTE) : PTI := fun τ h R E => a τ h (fun x h1 => match x with
  | .tup xs => R xs (fun _ => True) h1
  | .fl xs => R xs (fun _ => True) h1
  | .str s => R (charsOf s) (fun _ => True) h1
  | .ref n => match h1[n]? with
    | some (.lst xs) => R xs (fun h2 => h2[n]? = some (.lst xs)) h1
    | _ => False
  | _ => False) E
/-- over a temporary list -/
def pIterT (t : PTA) : PTI := fun τ h R E => t τ h (fun xs h1 => R xs (fun _ => True) h1) E
def rngOf (lo : Int) (n : Nat) : List PV := (List.range n).map fun i => .int (lo + (i : Nat))
def pRng1 (a : PTE) : PTI := fun τ h R E => a τ h (fun x h1 => match x with
  | .int j => -(2 ^ 62) ≤ j ∧ j < 2 ^ 62 ∧ R (rngOf 0 j.toNat) (fun _ => True) h1
  | _ => False) E
def pRng2 (a b : PTE) : PTI := fun τ h R E => a τ h (fun x h1 => b τ h1 (fun y h2 => match x, y with
  | .int i, .int j => (-(2 ^ 62) ≤ i ∧ i < 2 ^ 62 ∧ -(2 ^ 62) ≤ j ∧ j < 2 ^ 62) ∧ R (rngOf i (j - i).toNat) (fun _ => True) h2
  | _, _ => False) E) E

/-! ### statements -/
def pNext : PTS := fun D τ h => D.nx τ h
def pSeq (t u : PTS) : PTS := fun D τ h => t { D with nx := u D } τ h
def pDrop (a : PTE) : PTS := fun D τ h => a τ h (fun _ h1 => D.nx τ h1) (fun c v h1 => D.ex c v τ h1)
def pRet (a : PTE) : PTS := fun D τ h => a τ h D.rt (fun c v h1 => D.ex c v τ h1)
def pRetN : PTS := fun D _ h => D.rt .non h
def pBrk : PTS := fun D τ h => D.bk τ h
def pCt : PTS := fun D τ h => D.ct τ h
def pIfS (c : PTT) (t u : PTS) : PTS := fun D τ h => c τ h (fun b h1 => if b = true then t D τ h1 else u D τ h1) (fun c v h1 => D.ex c v τ h1)
def pAsg (a : PTE) (g : Tg) : PTS := fun D τ h => a τ h (fun x h1 => match pG g x τ with
  | some τ' => D.nx τ' h1
  | none => False) (fun c v h1 => D.ex c v τ h1)
abbrev PSetR := PV → PV → PV → PHeap → (PHeap → Prop) → Prop
/-- o[i] = e: e, o, i -/
def pAsgS (a o i : PTE) (r : PSetR) : PTS := fun D τ h => a τ h (fun x h1 => o τ h1 (fun y h2 => i τ h2 (fun z h3 => r y z x h3 fun h4 => D.nx τ h4) (fun c v h' => D.ex c v τ h')) (fun c v h' => D.ex c v τ h')) (fun c v h' => D.ex c v τ h')
/-- name op= e -/
def pAug (i : Nat) (r : POp) (a : PTE) : PTS := fun D τ h => match τ[i]? with
  | some (some x) => isExc x = false ∧ a τ h (fun y h1 => r x y h1 fun z h2 => D.nx (τ.set i (some z)) h2) (fun c v h' => D.ex c v τ h')
  | _ => False
def forGo (g : Tg) (body : PTS) (D : PD) (ok : PHeap → Prop) : List PV → PSt → PHeap → Prop
  | [], τ, h => ok h ∧ D.nx τ h
  | x :: xs, τ, h => ok h ∧ match pG g x τ with
    | some τ' => body { D with nx := forGo g body D ok xs, ct := forGo g body D ok xs, bk := D.nx } τ' h
    | none => False
def pFor (s : PTI) (g : Tg) (body : PTS) : PTS := fun D τ h => s τ h (fun xs ok h1 => forGo g body D ok xs τ h1) (fun c v h' => D.ex c v τ h')
def pWhile (c : PTT) (body : PTS) : PTS := fun D τ h => ∃ W : Nat → PSt → PHeap → Prop, (∃ m, W m τ h) ∧ ∀ m τ h, W m τ h →
  c τ h (fun b h1 => if b = true then ∃ N : PSt → PHeap → Prop, (∀ τ' h', N τ' h' → ∃ m', m' < m ∧ W m' τ' h') ∧ body { D with nx := N, ct := N, bk := D.nx } τ h1 else D.nx τ h1) (fun c v h' => D.ex c v τ h')
def pRaise (c : Str) (a : PTE) : PTS := fun D τ h => a τ h (fun x h1 => D.ex c x τ h1) (fun c v h' => D.ex c v τ h')
/-- an except clause of the class cls takes an error of the class c -/
def catches (c cls : Str) : Bool := decide (c = cls) || decide (cls = ("TreeError" : Str))
def PD.out (D : PD) (i : Nat) : PD := { nx := fun t2 h2 => D.nx (t2.set i none) h2, rt := D.rt, bk := fun t2 h2 => D.bk (t2.set i none) h2, ct := fun t2 h2 => D.ct (t2.set i none) h2, ex := fun _ _ _ _ => False }
def exAs (cls : Str) (i : Nat) (su : PTS) (D : PD) (c : Str) (v : PV) (τ : PSt) (h : PHeap) : Prop := if catches c cls = true then su (D.out i) (τ.set i (some (.exc c v))) h else D.ex c v τ h
def pTryAs (tb : PTS) (cls : Str) (i : Nat) (su : PTS) : PTS := fun D τ h => tb { D with ex := exAs cls i su D } τ h

/-! ### comprehensions -/
def pwipe (τ : PSt) : List Nat → PSt
  | [] => τ
  | i :: is => (pwipe τ is).set i none
def F0 : PXQ := fun _ _ _ => False
def pYes : PTT := fun _ h Q _ => Q true h
def lcGo (g : Tg) (tt : PTT) (te : PTE) (ok : PHeap → Prop) (τ0 : PSt) : List PV → List PV → PHeap → (List PV → PHeap → Prop) → Prop
  | [], acc, h, Q => ok h ∧ Q acc h
  | x :: xs, acc, h, Q => ok h ∧ match pG g x τ0 with
    | some τ' => tt τ' h (fun b h1 => if b = true then te τ' h1 (fun y h2 => acc.length < sizeLine ∧ lcGo g tt te ok τ0 xs (acc ++ [y]) h2 Q) F0 else lcGo g tt te ok τ0 xs acc h1 Q) F0
    | none => False
/-- [te for g in s if tt], own slots vs: a temporary list -/
def pLc (s : PTI) (g : Tg) (tt : PTT) (te : PTE) (vs : List Nat) : PTA := fun τ h Q E => s τ h (fun xs ok h1 => lcGo g tt te ok (pwipe τ vs) xs [] h1 Q) E

/-! ### operators -/
def lstOf (h : PHeap) : PV → Option (List PV)
  | .fl xs => some xs
  | .ref n => match h[n]? with
    | some (.lst xs) => some xs
    | _ => none
  | _ => none
def rAdd : POp := fun x y h Q => match x, y with
  | .int i, .int j => Q (.int (i + j)) h
  | .str a, .str b => a.length + b.length ≤ sizeLine ∧ Q (.str (a ++ b)) h
  | .tup xs, .tup ys => xs.length + ys.length ≤ sizeLine ∧ Q (.tup (xs ++ ys)) h
  | .ref m, .ref n => match h[m]?, h[n]? with
    | some (.lst xs), some (.lst ys) => xs.length + ys.length ≤ sizeLine ∧ Q (.ref h.length) (h ++ [.lst (xs ++ ys)])
    | _, _ => False
  | _, _ => False
def rSub : POp := fun x y h Q => match x, y with
  | .int i, .int j => Q (.int (i - j)) h
  | _, _ => False
/-- small enough a product -/
def mulOk (i j : Int) : Prop := i.natAbs < 2 ^ 64 ∨ j.natAbs < 2 ^ 64 ∨ ∃ a b : Nat, i.natAbs < 2 ^ a ∧ j.natAbs < 2 ^ b ∧ a + b ≤ 134217728
def powOk (i j : Int) : Prop := 0 ≤ j ∧ ∃ a : Nat, i.natAbs < 2 ^ a ∧ (a : Int) * j ≤ 134217728
def strRep (s : Str) (k : Nat) : Str := ⟨(List.replicate k s.cps.toList).flatten.toArray⟩
def rMul : POp := fun x y h Q => match x, y with
  | .int i, .int j => mulOk i j ∧ Q (.int (i * j)) h
  | .ref m, .int k => match h[m]? with
    | some (.lst xs) => -(2 ^ 63) ≤ k ∧ k < 2 ^ 63 ∧ xs.length * k.toNat ≤ sizeLine ∧ Q (.ref h.length) (h ++ [.lst (List.replicate k.toNat xs).flatten])
    | _ => False
  | .str a, .int k => (PySem.MulOk a k ∧ okS (Txt.mul a k)) ∧ Q (.str (Txt.mul a k)) h
  | _, _ => False
def rIAdd : POp := fun x y h Q => match x, y with
  | .int i, .int j => Q (.int (i + j)) h
  | .str a, .str b => a.length + b.length ≤ sizeLine ∧ Q (.str (a ++ b)) h
  | _, _ => False
def rPow : POp := fun x y h Q => match x, y with
  | .int i, .int j => powOk i j ∧ Q (.int (i ^ j.toNat)) h
  | _, _ => False
def rFdiv : POp := fun x y h Q => match x, y with
  | .int i, .int j => (0 < j ∧ j.natAbs.log2 < 9000) ∧ Q (.int (i / j)) h
  | _, _ => False
def rMod : POp := fun x y h Q => match x, y with
  | .int i, .int j => 0 < j ∧ Q (.int (i % j)) h
  | _, _ => False
def rNeg : PUn := fun x h Q => match x with
  | .int i => Q (.int (-i)) h
  | _ => False
/-! ### comparisons -/
def cmpI (p : Int → Int → Bool) (q : Str → Str → Bool) : POp := fun x y h Q => match x, y with
  | .int i, .int j => Q (.bl (p i j)) h
  | .str a, .str b => Q (.bl (q a b)) h
  | _, _ => False
def rLt : POp := cmpI (fun i j => decide (i < j)) (fun a b => decide (a.cps.toList < b.cps.toList))
def rLe : POp := cmpI (fun i j => decide (i ≤ j)) (fun a b => !decide (b.cps.toList < a.cps.toList))
def rGt : POp := cmpI (fun i j => decide (j < i)) (fun a b => decide (b.cps.toList < a.cps.toList))
def rGe : POp := cmpI (fun i j => decide (j ≤ i)) (fun a b => !decide (a.cps.toList < b.cps.toList))
def rEqP : POp := fun x y h Q => match rd h 64 x, rd h 64 y with
  | some d, some e => Q (.bl (PyData.eqv d e)) h
  | _, _ => False
def rNeP : POp := fun x y h Q => match rd h 64 x, rd h 64 y with
  | some d, some e => Q (.bl (!PyData.eqv d e)) h
  | _, _ => False
def isNon : PV → Bool
  | .non => true
  | _ => false
def rIsN : PUn := fun x h Q => Q (.bl (isNon x)) h
def rNotN : PUn := fun x h Q => Q (.bl (!isNon x)) h
def strIn (a b : Str) : Bool := !(Builtin.Str.occurrences b a 0 b.length 1).isEmpty
/-- the items of what is searched -/
def itemsOf (h : PHeap) : PV → Option (List PV)
  | .tup xs => some xs
  | .fl xs => some xs
  | .ref n => match h[n]? with
    | some (.lst xs) => some xs
    | _ => none
  | _ => none
def inP (h : PHeap) (x y : PV) : Option Bool := match x, y with
  | .str a, .str b => some (strIn a b)
  | x, y => match itemsOf h y with
    | some ys => match rd h 64 x, allD (rd h 63) ys with
      | some d, some ds => some (ds.any fun z => PyData.eqv z d)
      | _, _ => none
    | none => none
def rInP : POp := fun x y h Q => match inP h x y with
  | some b => Q (.bl b) h
  | none => False
def rNotInP : POp := fun x y h Q => match inP h x y with
  | some b => Q (.bl (!b)) h
  | none => False

/-! ### subscripts -/
def rIx : POp := fun x y h Q => match y with
  | .int i => match x with
    | .str s => match L2.atI s.cps.toList i with
      | some c => Q (.str ⟨#[c]⟩) h
      | none => False
    | x => match itemsOf h x with
      | some xs => match L2.atI xs i with
        | some v => Q v h
        | none => False
      | none => False
  | _ => False
def rIxT (xs : List PV) (y : PV) (h : PHeap) (Q : PQ) : Prop := match y with
  | .int i => match L2.atI xs i with
    | some v => Q v h
    | none => False
  | _ => False
abbrev PTO := PSt → PHeap → (Option Int → PHeap → Prop) → PXQ → Prop
def pNoPart : PTO := fun _ h Q _ => Q none h
def pPart (a : PTE) : PTO := fun τ h Q E => a τ h (fun x h1 => match x with
  | .int i => Q (some i) h1
  | _ => False) E
def cut {α : Type} (xs : List α) (lo hi : Option Int) : List α := (xs.drop (HT.sIx xs.length 0 lo)).take (HT.sIx xs.length xs.length hi - HT.sIx xs.length 0 lo)
def rCut (x : PV) (lo hi : Option Int) (h : PHeap) (Q : PQ) : Prop := match x with
  | .str s => Q (.str (L2.cutS s lo hi)) h
  | .tup xs => Q (.tup (cut xs lo hi)) h
  | .fl xs => Q (.ref h.length) (h ++ [.lst (cut xs lo hi)])
  | .ref n => match h[n]? with
    | some (.lst xs) => Q (.ref h.length) (h ++ [.lst (cut xs lo hi)])
    | _ => False
  | _ => False
def pSlice (a : PTE) (lo hi : PTO) : PTE := fun τ h Q E => a τ h (fun x h1 => lo τ h1 (fun l h2 => hi τ h2 (fun u h3 => rCut x l u h3 Q) E) E) E
def rSetP : PSetR := fun o i v h Q => match o, i with
  | .ref n, .int k => match h[n]? with
    | some (.lst xs) => match L2.ixN xs.length k with
      | some j => Q (h.set n (.lst (xs.set j v)))
      | none => False
    | _ => False
  | _, _ => False

/-! ### built-ins -/
def rLen : PCb := fun vs h Q => match vs with
  | [.str s] => Q (.int s.length) h
  | [.tup xs] => Q (.int xs.length) h
  | [.fl xs] => Q (.int xs.length) h
  | [.ref n] => match h[n]? with
    | some (.lst xs) => Q (.int xs.length) h
    | _ => False
  | _ => False
def rLenT : PCb := fun vs h Q => Q (.int vs.length) h
def rIntP : PCb := fun vs h Q => match vs with
  | [.int i] => Q (.int i) h
  | [.bl b] => Q (.int (if b then 1 else 0)) h
  | _ => False
def rAbs : PCb := fun vs h Q => match vs with
  | [.int i] => Q (.int (if i < 0 then -i else i)) h
  | _ => False
def rMax2 : PCb := fun vs h Q => match vs with
  | [.int i, .int j] => Q (.int (if j > i then j else i)) h
  | _ => False
def rMin2 : PCb := fun vs h Q => match vs with
  | [.int i, .int j] => Q (.int (if j < i then j else i)) h
  | _ => False
def bls : List PV → Option (List Bool)
  | [] => some []
  | .bl b :: xs => (bls xs).map (b :: ·)
  | _ :: _ => none
def sts : List PV → Option (List Str)
  | [] => some []
  | .str s :: xs => (sts xs).map (s :: ·)
  | _ :: _ => none
def its : List PV → Option (List Int)
  | [] => some []
  | .int i :: xs => (its xs).map (i :: ·)
  | _ :: _ => none
/-- upon the items of a list -/
def rAllI : PCb := fun vs h Q => match bls vs with
  | some bs => Q (.bl (bs.all id)) h
  | none => False
def rAnyI : PCb := fun vs h Q => match bls vs with
  | some bs => Q (.bl (bs.any id)) h
  | none => False
def rSumI : PCb := fun vs h Q => match its vs with
  | some ns => Q (.int ns.sum) h
  | none => False
def rTupI : PCb := fun vs h Q => Q (.tup vs) h
def rLstI : PCb := fun vs h Q => Q (.ref h.length) (h ++ [.lst vs])
/-- a built-in upon a list (or tuple) that stands -/
def onItems (r : PCb) : PCb := fun vs h Q => match vs with
  | [x] => match itemsOf h x with
    | some xs => r xs h Q
    | none => False
  | _ => False
def onList (r : PCb) : PCb := fun vs h Q => match vs with
  | [x] => match lstOf h x with
    | some xs => r xs h Q
    | none => False
  | _ => False
def joinLen (a : Str) (ys : List Str) : Nat := (ys.map (·.length)).sum + ys.length * a.length
def rJoinI (a : Str) : PCb := fun vs h Q => match sts vs with
  | some ys => joinLen a ys ≤ 16777216 ∧ Q (.str (Txt.join a ys)) h
  | none => False
/-! ### kinds -/
def tyOf (h : PHeap) : PV → Option String
  | .non => some "NoneType"
  | .bl _ => some "bool"
  | .int _ => some "int"
  | .str _ => some "str"
  | .tup _ => some "tuple"
  | .fl _ => some "list"
  | .ref n => match h[n]? with
    | some (.lst _) => some "list"
    | some (.dct _) => some "dict"
    | some (.set _) => some "set"
    | _ => none
  | _ => none
def isiB (a b : String) : Bool := a == b || (a == "bool" && b == "int")
def rIsi (T : String) : PUn := fun x h Q => match tyOf h x with
  | some t => Q (.bl (isiB t T)) h
  | none => False
def rIsiT (Ts : List String) : PUn := fun x h Q => match tyOf h x with
  | some t => Q (.bl (Ts.any (isiB t))) h
  | none => False
/-- of a caught error: its class among these -/
def rValue : PUn := fun x h Q => match x with
  | .exc _ v => Q v h
  | _ => False

/-! ### methods -/
abbrev PMt := PV → List PV → PHeap → PQ → Prop
def pMt (r : PMt) (o : PTE) (t : PTA) : PTE := fun τ h Q E => o τ h (fun x h1 => t τ h1 (fun vs h2 => r x vs h2 Q) E) E
def rAppend : PMt := fun x vs h Q => match x, vs with
  | .ref n, [y] => match h[n]? with
    | some (.lst xs) => xs.length < sizeLine ∧ Q .non (h.set n (.lst (xs ++ [y])))
    | _ => False
  | _, _ => False
def rSplit : PMt := fun x vs h Q => match x, vs with
  | .str a, [.str b] => (b.length == 0) = false ∧ b.cps.all (· < 256) = true ∧ a.length + 2 ≤ sizeLine ∧ Q (.ref h.length) (h ++ [.lst ((Txt.split a b).map .str)])
  | _, _ => False

/-! ### a def -/
def pstart (N : Nat) (vs : List PV) : PSt := vs.map some ++ List.replicate (N - vs.length) none
/-- what a def's body is run for -/
def body (Q : PQ) (E : PXQ) : PD := { nx := fun _ h => Q .non h, rt := Q, bk := fun _ _ => False, ct := fun _ _ => False, ex := fun c v _ h => E c v h }
end MP
set_option maxHeartbeats 4000000
/-! MP1: how the pure layer lies in the hand layer's heap; the lift of a pure reading. -/
namespace MP
open PySem PySem.Spec PyProof.Rows L2

abbrev St := L2.St
structure LG where
  K : PySem.W.Frag
  mg : Str → Option Value
abbrev XA := Option (Nat × Addr × Value × Option Addr)

/-- a list that nobody writes -/
def FzL (K : PySem.W.Frag) (H : Hp) (a : Addr) (vs : List V) : Prop := (∃ o, H a = some (.frz o (.lst vs))) ∨
  ∃ (o : Obj) (its : Array Value) (n : Nat), K.lookup a = some o ∧ o.cls = .type "list" ∧ o.dict = none ∧ o.data = .seq its n ∧ its.size ≤ sizeLine ∧ Vals vs its.toList
theorem FzL.seq {K : PySem.W.Frag} {H : Hp} {a : Addr} {vs : List V} (h : FzL K H a vs) : SqL K H a vs := by
  rcases h with ⟨o, h⟩ | h
  · exact .inl (.inr ⟨o, h⟩)
  · exact .inr h

mutual
inductive RV (G : LG) (ρ : List Addr) (H : Hp) : PV → V → Prop
  | non : RV G ρ H .non .non
  | bl (b : Bool) : RV G ρ H (.bl b) (.bl b)
  | int (i : Int) : RV G ρ H (.int i) (.int i)
  | str {s : Str} : okS s → RV G ρ H (.str s) (.str s)
  | tup {xs : List PV} {a : Addr} {vs : List V} : SqT G.K H a vs → vs.length ≤ sizeLine → RVs G ρ H xs vs → RV G ρ H (.tup xs) (.ref a)
  | fl {xs : List PV} {a : Addr} {vs : List V} : FzL G.K H a vs → vs.length ≤ sizeLine → RVs G ρ H xs vs → RV G ρ H (.fl xs) (.ref a)
  | ref {n : Nat} {a : Addr} : ρ[n]? = some a → RV G ρ H (.ref n) (.ref a)
inductive RVs (G : LG) (ρ : List Addr) (H : Hp) : List PV → List V → Prop
  | nil : RVs G ρ H [] []
  | cons {x : PV} {v : V} {xs : List PV} {vs : List V} : RV G ρ H x v → RVs G ρ H xs vs → RVs G ρ H (x :: xs) (v :: vs)
end

def isCellHO : HO → Bool
  | .lst _ => true
  | .dK _ => true
  | .dT _ => true
  | .set _ _ => true
  | .ins _ _ _ => true
  | .ext _ => true
  | _ => false
def RF (G : LG) (ρ : List Addr) (H : Hp) (fs : List (Str × PV)) (gs : List (Str × V)) : Prop := fs.map (·.1) = gs.map (·.1) ∧ RVs G ρ H (fs.map (·.2)) (gs.map (·.2))
def RC (G : LG) (ρ : List Addr) (H : Hp) (a : Addr) : Cell → Prop
  | .lst xs => ∃ vs, H a = some (.lst vs) ∧ vs.length ≤ sizeLine ∧ RVs G ρ H xs vs
  | .ins c fs => ∃ C dx gs, G.mg c = some (.ref C) ∧ H a = some (.ins C dx gs) ∧ RF G ρ H fs gs
  | _ => False
structure Rel (G : LG) (ρ : List Addr) (H : Hp) (h : PHeap) : Prop where
  len : ρ.length = h.length
  nd : ρ.Nodup
  cell : ∀ (n : Nat) (a : Addr) (c : Cell), ρ[n]? = some a → h[n]? = some c → RC G ρ H a c
structure Ext (ρ : List Addr) (H : Hp) (ρ' : List Addr) (H' : Hp) : Prop where
  pre : ∃ t, ρ' = ρ ++ t
  keep : ∀ a o, H a = some o → a ∉ ρ → H' a = some o ∧ a ∉ ρ'
def Trk (ρ : List Addr) (H : Hp) : Prop := ∀ a ∈ ρ, ∃ o, H a = some o ∧ isCellHO o = true
/-- what a slot holds: a value, or the error that the suite holds -/
def RO (G : LG) (xa : XA) (ρ : List Addr) (H : Hp) (i : Nat) : PV → V → Prop
  | .exc c x, v => ∃ a C dd u, v = .ref a ∧ xa = some (i, a, .ref C, some dd) ∧ G.mg c = some (.ref C) ∧ H dd = some (.xd [(("value" : Str), u)]) ∧ RV G ρ H x u
  | x, v => RV G ρ H x v
def RS (G : LG) (xa : XA) (ρ : List Addr) (H : Hp) (τ : PSt) (σ : St) : Prop := τ.length = σ.length ∧ ∀ (i : Nat) (x : PV), τ[i]? = some (some x) → ∃ v, σ[i]? = some (some v) ∧ RO G xa ρ H i x v

section
variable {G : LG} {ρ ρ' ρ'' : List Addr} {H H' H'' : Hp} {h h' : PHeap} {τ : PSt} {σ : St}
theorem RC.trk {a : Addr} {c : Cell} (x : RC G ρ H a c) : ∃ o, H a = some o ∧ isCellHO o = true := by
  cases c with
  | lst xs => obtain ⟨vs, e, _⟩ := x; exact ⟨_, e, rfl⟩
  | ins c fs => obtain ⟨C, dx, gs, _, e, _⟩ := x; exact ⟨_, e, rfl⟩
  | _ => exact False.elim x
theorem Rel.trk (R : Rel G ρ H h) : Trk ρ H := fun a ha => by
  obtain ⟨n, hn, e⟩ := List.getElem_of_mem ha
  have hn' : n < h.length := by rw [← R.len]; exact hn
  exact (R.cell n a h[n] (by rw [List.getElem?_eq_getElem hn, e]) (List.getElem?_eq_getElem hn')).trk
theorem Ext.refl : Ext ρ H ρ H := ⟨⟨[], (List.append_nil _).symm⟩, fun _ _ e n => ⟨e, n⟩⟩
theorem Ext.trans (a : Ext ρ H ρ' H') (b : Ext ρ' H' ρ'' H'') : Ext ρ H ρ'' H'' := by
  obtain ⟨t, e⟩ := a.pre
  obtain ⟨u, e'⟩ := b.pre
  refine ⟨⟨t ++ u, by rw [e', e, List.append_assoc]⟩, fun c o e n => ?_⟩
  obtain ⟨e1, n1⟩ := a.keep c o e n
  exact b.keep c o e1 n1
theorem Ext.get (E : Ext ρ H ρ' H') {n : Nat} {a : Addr} (e : ρ[n]? = some a) : ρ'[n]? = some a := by
  obtain ⟨t, rfl⟩ := E.pre
  rw [List.getElem?_append_left (List.getElem?_eq_some_iff.mp e).1]
  exact e
theorem not_cell {a : Addr} {o : HO} (T : Trk ρ H) (e : H a = some o) (n : isCellHO o = false) : a ∉ ρ := fun ha => by
  obtain ⟨o', e', c⟩ := T a ha
  rw [e] at e'
  cases e'
  rw [n] at c
  cases c
theorem SqT.ext {K : PySem.W.Frag} {a : Addr} {vs : List V} (T : Trk ρ H) (E : Ext ρ H ρ' H') (x : SqT K H a vs) : SqT K H' a vs := by
  rcases x with (x | ⟨o, x⟩) | x
  · exact .inl (.inl (E.keep _ _ x (not_cell T x rfl)).1)
  · exact .inl (.inr ⟨o, (E.keep _ _ x (not_cell T x rfl)).1⟩)
  · exact .inr x
theorem FzL.ext {K : PySem.W.Frag} {a : Addr} {vs : List V} (T : Trk ρ H) (E : Ext ρ H ρ' H') (x : FzL K H a vs) : FzL K H' a vs := by
  rcases x with ⟨o, x⟩ | x
  · exact .inl ⟨o, (E.keep _ _ x (not_cell T x rfl)).1⟩
  · exact .inr x
mutual
theorem RV.mono (T : Trk ρ H) (E : Ext ρ H ρ' H') : ∀ {x : PV} {v : V}, RV G ρ H x v → RV G ρ' H' x v
  | _, _, .non => .non
  | _, _, .bl b => .bl b
  | _, _, .int i => .int i
  | _, _, .str o => .str o
  | _, _, .tup a l r => .tup (SqT.ext T E a) l (RVs.mono T E r)
  | _, _, .fl a l r => .fl (FzL.ext T E a) l (RVs.mono T E r)
  | _, _, .ref e => .ref (E.get e)
theorem RVs.mono (T : Trk ρ H) (E : Ext ρ H ρ' H') : ∀ {xs : List PV} {vs : List V}, RVs G ρ H xs vs → RVs G ρ' H' xs vs
  | _, _, .nil => .nil
  | _, _, .cons r rs => .cons (RV.mono T E r) (RVs.mono T E rs)
end
theorem RV.ro {xa : XA} {i : Nat} {x : PV} {v : V} (r : RV G ρ H x v) : RO G xa ρ H i x v := by
  cases r with
  | non => exact .non
  | bl b => exact .bl b
  | int i => exact .int i
  | str o => exact .str o
  | tup a l r => exact .tup a l r
  | fl a l r => exact .fl a l r
  | ref e => exact .ref e
theorem RO.mono {xa : XA} {i : Nat} {x : PV} {v : V} (T : Trk ρ H) (E : Ext ρ H ρ' H') (r : RO G xa ρ H i x v) : RO G xa ρ' H' i x v := by
  cases x with
  | exc c x =>
    obtain ⟨a, C, dd, u, e1, e2, e3, e4, r⟩ := r
    exact ⟨a, C, dd, u, e1, e2, e3, (E.keep _ _ e4 (not_cell T e4 rfl)).1, r.mono T E⟩
  | _ => exact RV.mono T E r
theorem RS.mono {xa : XA} (T : Trk ρ H) (E : Ext ρ H ρ' H') (s : RS G xa ρ H τ σ) : RS G xa ρ' H' τ σ := ⟨s.1, fun i x e => by
  obtain ⟨v, e', r⟩ := s.2 i x e
  exact ⟨v, e', r.mono T E⟩⟩
theorem RS.setO {xa : XA} {i : Nat} {x : PV} {v : V} (s : RS G xa ρ H τ σ) (r : RO G xa ρ H i x v) : RS G xa ρ H (τ.set i (some x)) (σ.set i (some v)) := by
  refine ⟨by rw [List.length_set, List.length_set]; exact s.1, fun j y e => ?_⟩
  by_cases hj : i = j
  · subst hj
    have hi : i < τ.length := by
      have z := (List.getElem?_eq_some_iff.mp e).1
      rwa [List.length_set] at z
    rw [List.getElem?_set_self hi] at e
    cases e
    exact ⟨v, List.getElem?_set_self (by rw [← s.1]; exact hi), r⟩
  · rw [List.getElem?_set_ne hj] at e
    obtain ⟨u, e', r'⟩ := s.2 j y e
    exact ⟨u, by rw [List.getElem?_set_ne hj]; exact e', r'⟩
theorem RS.set {xa : XA} {i : Nat} {x : PV} {v : V} (s : RS G xa ρ H τ σ) (r : RV G ρ H x v) : RS G xa ρ H (τ.set i (some x)) (σ.set i (some v)) := s.setO r.ro
theorem RS.unset {xa : XA} {i : Nat} {o : Option V} (s : RS G xa ρ H τ σ) : RS G xa ρ H (τ.set i none) (σ.set i o) := by
  refine ⟨by rw [List.length_set, List.length_set]; exact s.1, fun j y e => ?_⟩
  by_cases hj : i = j
  · subst hj
    have hi : i < τ.length := by
      have z := (List.getElem?_eq_some_iff.mp e).1
      rwa [List.length_set] at z
    rw [List.getElem?_set_self hi] at e
    cases e
  · rw [List.getElem?_set_ne hj] at e
    obtain ⟨u, e', r'⟩ := s.2 j y e
    exact ⟨u, by rw [List.getElem?_set_ne hj]; exact e', r'⟩
theorem RVs.length : ∀ {xs : List PV} {vs : List V}, RVs G ρ H xs vs → xs.length = vs.length
  | _, _, .nil => rfl
  | _, _, .cons _ r => congrArg (· + 1) (RVs.length r)
theorem RVs.get : ∀ {xs : List PV} {vs : List V} {i : Nat} {x : PV}, RVs G ρ H xs vs → xs[i]? = some x → ∃ v, vs[i]? = some v ∧ RV G ρ H x v
  | _, _, _, _, .nil, e => by simp at e
  | _, _, 0, _, .cons r _, e => by simp at e; subst e; exact ⟨_, rfl, r⟩
  | _, _, i + 1, x, .cons _ t, e => by
    obtain ⟨v, e', r⟩ := RVs.get (i := i) t (by simpa using e)
    exact ⟨v, by simpa using e', r⟩
theorem RVs.get' : ∀ {xs : List PV} {vs : List V} {i : Nat} {v : V}, RVs G ρ H xs vs → vs[i]? = some v → ∃ x, xs[i]? = some x ∧ RV G ρ H x v
  | _, _, _, _, .nil, e => by simp at e
  | _, _, 0, _, .cons r _, e => by simp at e; subst e; exact ⟨_, rfl, r⟩
  | _, _, i + 1, x, .cons _ t, e => by
    obtain ⟨v, e', r⟩ := RVs.get' (i := i) t (by simpa using e)
    exact ⟨v, by simpa using e', r⟩
theorem RVs.append : ∀ {xs ys : List PV} {vs us : List V}, RVs G ρ H xs vs → RVs G ρ H ys us → RVs G ρ H (xs ++ ys) (vs ++ us)
  | _, _, _, _, .nil, s => s
  | _, _, _, _, .cons r t, s => .cons r (RVs.append t s)
theorem RVs.take : ∀ {xs : List PV} {vs : List V} (n : Nat), RVs G ρ H xs vs → RVs G ρ H (xs.take n) (vs.take n)
  | _, _, 0, _ => .nil
  | _, _, _ + 1, .nil => .nil
  | _, _, n + 1, .cons r t => .cons r (RVs.take n t)
theorem RVs.drop : ∀ {xs : List PV} {vs : List V} (n : Nat), RVs G ρ H xs vs → RVs G ρ H (xs.drop n) (vs.drop n)
  | _, _, 0, r => r
  | _, _, _ + 1, .nil => .nil
  | _, _, n + 1, .cons _ t => RVs.drop n t
theorem RVs.set {x : PV} {v : V} (r : RV G ρ H x v) : ∀ {xs : List PV} {vs : List V} (i : Nat), RVs G ρ H xs vs → RVs G ρ H (xs.set i x) (vs.set i v)
  | _, _, _, .nil => .nil
  | _, _, 0, .cons _ t => .cons r t
  | _, _, i + 1, .cons q t => .cons q (RVs.set r i t)
theorem RVs.flat {xs : List PV} {vs : List V} (r : RVs G ρ H xs vs) : ∀ k : Nat, RVs G ρ H (List.replicate k xs).flatten (List.replicate k vs).flatten
  | 0 => .nil
  | k + 1 => by
    rw [List.replicate_succ, List.replicate_succ, List.flatten_cons, List.flatten_cons]
    exact r.append (RVs.flat r k)
theorem cut_eq (vs : List V) (lo hi : Option Int) : cut vs lo hi = cutV vs lo hi := rfl
theorem RVs.cut {xs : List PV} {vs : List V} (r : RVs G ρ H xs vs) (lo hi : Option Int) : RVs G ρ H (cut xs lo hi) (cut vs lo hi) := by
  unfold MP.cut
  rw [r.length]
  exact (r.drop _).take _
theorem Ext.fresh {p : Addr} (R : Rel G ρ' H' h') (E : Ext ρ H ρ' H') (hp : H' p = none) : H p = none := by
  cases e : H p with
  | none => rfl
  | some o =>
    by_cases hm : p ∈ ρ
    · obtain ⟨t, et⟩ := E.pre
      obtain ⟨o', e', _⟩ := R.trk p (by rw [et]; exact List.mem_append_left _ hm)
      rw [hp] at e'
      cases e'
    · have z := (E.keep p o e hm).1
      rw [hp] at z
      cases z
/-! ### what stays though a list that is no cell is written -/
structure Keep (ρ : List Addr) (H : Hp) (ρ' : List Addr) (H' : Hp) : Prop where
  pre : ∀ (n : Nat) (a : Addr), ρ[n]? = some a → ρ'[n]? = some a
  im : ∀ a o, H a = some o → isCellHO o = false → H' a = some o
mutual
theorem RV.keep (K : Keep ρ H ρ' H') : ∀ {x : PV} {v : V}, RV G ρ H x v → RV G ρ' H' x v
  | _, _, .non => .non
  | _, _, .bl b => .bl b
  | _, _, .int i => .int i
  | _, _, .str o => .str o
  | _, _, .tup a l r => .tup (match a with
    | .inl (.inl z) => .inl (.inl (K.im _ _ z rfl))
    | .inl (.inr ⟨o, z⟩) => .inl (.inr ⟨o, K.im _ _ z rfl⟩)
    | .inr z => .inr z) l (RVs.keep K r)
  | _, _, .fl a l r => .fl (match a with
    | .inl ⟨o, z⟩ => .inl ⟨o, K.im _ _ z rfl⟩
    | .inr z => .inr z) l (RVs.keep K r)
  | _, _, .ref e => .ref (K.pre _ _ e)
theorem RVs.keep (K : Keep ρ H ρ' H') : ∀ {xs : List PV} {vs : List V}, RVs G ρ H xs vs → RVs G ρ' H' xs vs
  | _, _, .nil => .nil
  | _, _, .cons r rs => .cons (RV.keep K r) (RVs.keep K rs)
end
/-- a list that is no cell is written -/
theorem Rel.other {D : Addr} {o : HO} {vs : List V} (R : Rel G ρ H h) (nD : D ∉ ρ) (hD : H D = some (.lst vs)) : Keep ρ H ρ (upd H D o) ∧ Rel G ρ (upd H D o) h := by
  have K : Keep ρ H ρ (upd H D o) := ⟨fun _ _ e => e, fun a o' e c => by
    rw [upd_ne (fun z => by subst z; rw [hD] at e; cases e; cases c)]; exact e⟩
  refine ⟨K, R.len, R.nd, fun n a c e1 e2 => ?_⟩
  have x := R.cell n a c e1 e2
  have ne : a ≠ D := fun z => nD (by rw [← z]; exact List.mem_of_getElem? e1)
  cases c with
  | lst xs => obtain ⟨vs, e, l, r⟩ := x; exact ⟨vs, by rw [upd_ne ne]; exact e, l, r.keep K⟩
  | ins c fs => obtain ⟨C, dx, gs, m, e, r⟩ := x; exact ⟨C, dx, gs, m, by rw [upd_ne ne]; exact e, r.1, r.2.keep K⟩
  | _ => exact x
theorem Ext.other {D : Addr} {o : HO} (E : Ext ρ H ρ' H') (fD : H D = none) : Ext ρ H ρ' (upd H' D o) := ⟨E.pre, fun a o' e n => by
  rw [upd_ne (ne_of_none e fD)]
  exact E.keep a o' e n⟩
/-! ### what is laid, what is changed -/
/-- something is tracked that the pure heap does not see -/
theorem Rel.skip {p : Addr} {o : HO} (R : Rel G ρ H h) (hp : H p = none) : Ext ρ H ρ (upd H p o) ∧ Rel G ρ (upd H p o) h ∧ (∀ {xa : XA} {τ : PSt} {σ : St}, RS G xa ρ H τ σ → RS G xa ρ (upd H p o) τ σ) := by
  have np : p ∉ ρ := fun hm => by
    obtain ⟨o', e, _⟩ := R.trk p hm
    rw [hp] at e
    cases e
  have E : Ext ρ H ρ (upd H p o) := ⟨⟨[], (List.append_nil _).symm⟩, fun a o' e n => ⟨by rw [upd_ne (ne_of_none e hp)]; exact e, n⟩⟩
  have K : ∀ {a : Addr} {o' : HO}, H a = some o' → upd H p o a = some o' := fun {a o'} e => by rw [upd_ne (ne_of_none e hp)]; exact e
  refine ⟨E, ⟨R.len, R.nd, fun n a c e1 e2 => ?_⟩, fun s => s.mono R.trk E⟩
  have x := R.cell n a c e1 e2
  cases c with
  | lst xs => obtain ⟨vs, e, l, r⟩ := x; exact ⟨vs, K e, l, r.mono R.trk E⟩
  | ins c fs => obtain ⟨C, dx, gs, m, e, r⟩ := x; exact ⟨C, dx, gs, m, K e, r.1, r.2.mono R.trk E⟩
  | _ => exact x
/-- what is tracked already becomes a cell -/
theorem Rel.adopt {p : Addr} {o : HO} {c : Cell} (R : Rel G ρ H h) (hp : H p = some o) (ho : isCellHO o = true) (np : p ∉ ρ) (hc : ∀ (ρ' : List Addr), (∀ {x : PV} {v : V}, RV G ρ H x v → RV G ρ' H x v) → (∀ {xs : List PV} {vs : List V}, RVs G ρ H xs vs → RVs G ρ' H xs vs) → RC G ρ' H p c) :
    (∀ a o, H a = some o → a ∉ ρ → a ≠ p → a ∉ ρ ++ [p]) ∧ Rel G (ρ ++ [p]) H (h ++ [c]) ∧ (∀ {x : PV} {v : V}, RV G ρ H x v → RV G (ρ ++ [p]) H x v) := by
  have gt : ∀ {n : Nat} {a : Addr}, ρ[n]? = some a → (ρ ++ [p])[n]? = some a := fun {n a} e => by
    rw [List.getElem?_append_left (List.getElem?_eq_some_iff.mp e).1]; exact e
  have M : ∀ {x : PV} {v : V}, RV G ρ H x v → RV G (ρ ++ [p]) H x v := fun {x v} r => by
    refine RV.rec (motive_1 := fun x v _ => RV G (ρ ++ [p]) H x v) (motive_2 := fun xs vs _ => RVs G (ρ ++ [p]) H xs vs) .non .bl .int .str (fun a l _ ih => .tup a l ih) (fun a l _ ih => .fl a l ih) (fun e => .ref (gt e)) .nil (fun _ _ i1 i2 => .cons i1 i2) r
  have Ms : ∀ {xs : List PV} {vs : List V}, RVs G ρ H xs vs → RVs G (ρ ++ [p]) H xs vs := fun {xs vs} r => by
    induction r using RVs.rec (motive_1 := fun x v _ => True) with
    | nil => exact .nil
    | cons r _ _ ih => exact .cons (M r) ih
    | _ => trivial
  refine ⟨fun a o e n ne hm => ?_, ⟨by rw [List.length_append, List.length_append, R.len]; rfl, ?_, fun n a c' e1 e2 => ?_⟩, M⟩
  · rcases List.mem_append.mp hm with z | z
    · exact n z
    · exact ne (List.mem_singleton.mp z)
  · rw [List.nodup_append]
    refine ⟨R.nd, by simp, fun a ha b hb => ?_⟩
    rw [List.mem_singleton.mp hb]
    rintro rfl
    exact np ha
  · by_cases hn : n < ρ.length
    · rw [List.getElem?_append_left hn] at e1
      rw [List.getElem?_append_left (by rw [← R.len]; exact hn)] at e2
      have x := R.cell n a c' e1 e2
      cases c' with
      | lst xs => obtain ⟨vs, e, l, r⟩ := x; exact ⟨vs, e, l, Ms r⟩
      | ins c fs => obtain ⟨C, dx, gs, m, e, r⟩ := x; exact ⟨C, dx, gs, m, e, r.1, Ms r.2⟩
      | _ => exact x
    · have hn' : ρ.length ≤ n := Nat.le_of_not_lt hn
      rw [List.getElem?_append_right hn'] at e1
      rw [List.getElem?_append_right (by rw [← R.len]; exact hn'), ← R.len] at e2
      have hz : n - ρ.length = 0 := by
        have z := (List.getElem?_eq_some_iff.mp e1).1
        simp at z
        omega
      rw [hz] at e1 e2
      cases e1
      cases e2
      exact hc _ M Ms
/-- a new list -/
theorem Rel.new {p : Addr} {xs : List PV} {vs : List V} (R : Rel G ρ H h) (hp : H p = none) (l : vs.length ≤ sizeLine) (r : RVs G ρ H xs vs) :
    Ext ρ H (ρ ++ [p]) (upd H p (.lst vs)) ∧ Rel G (ρ ++ [p]) (upd H p (.lst vs)) (h ++ [.lst xs]) ∧ RV G (ρ ++ [p]) (upd H p (.lst vs)) (.ref h.length) (.ref p) := by
  have np : p ∉ ρ := fun hm => by
    obtain ⟨o', e, _⟩ := R.trk p hm
    rw [hp] at e
    cases e
  obtain ⟨E, R1, _⟩ := R.skip (o := .lst vs) hp
  obtain ⟨a1, a2, a3⟩ := R1.adopt (p := p) (o := .lst vs) (c := .lst xs) upd_same rfl np (fun ρ' M Ms => ⟨vs, upd_same, l, Ms (r.mono R.trk E)⟩)
  refine ⟨⟨⟨[p], rfl⟩, fun a o e n => ?_⟩, a2, .ref ?_⟩
  · have ne := ne_of_none e hp
    exact ⟨(E.keep a o e n).1, a1 a o (E.keep a o e n).1 n ne⟩
  · rw [← R.len, List.getElem?_append_right (Nat.le_refl _), Nat.sub_self]
    rfl
/-- a tuple is made -/
theorem Rel.newT {p : Addr} {xs : List PV} {vs : List V} (R : Rel G ρ H h) (hp : H p = none) (l : vs.length ≤ sizeLine) (r : RVs G ρ H xs vs) :
    Ext ρ H ρ (upd H p (.tup vs)) ∧ Rel G ρ (upd H p (.tup vs)) h ∧ RV G ρ (upd H p (.tup vs)) (.tup xs) (.ref p) := by
  obtain ⟨E, R1, _⟩ := R.skip (o := .tup vs) hp
  exact ⟨E, R1, .tup (.of upd_same) l (r.mono R.trk E)⟩
/-- a list cell is read -/
theorem Rel.lst {n : Nat} {xs : List PV} (R : Rel G ρ H h) (e : h[n]? = some (.lst xs)) : ∃ a vs, ρ[n]? = some a ∧ H a = some (.lst vs) ∧ vs.length ≤ sizeLine ∧ RVs G ρ H xs vs := by
  have hn : n < ρ.length := by rw [R.len]; exact (List.getElem?_eq_some_iff.mp e).1
  obtain ⟨vs, e1, l, r⟩ := R.cell n ρ[n] _ (List.getElem?_eq_getElem hn) e
  exact ⟨ρ[n], vs, List.getElem?_eq_getElem hn, e1, l, r⟩
/-- a list cell is written -/
theorem Rel.set {n : Nat} {a : Addr} {o : HO} {xs : List PV} {vs : List V} (R : Rel G ρ H h) (ea : ρ[n]? = some a) (eo : H a = some o) (l : vs.length ≤ sizeLine) (r : RVs G ρ H xs vs) :
    Ext ρ H ρ (upd H a (.lst vs)) ∧ Rel G ρ (upd H a (.lst vs)) (h.set n (.lst xs)) ∧ (∀ {x : PV} {v : V}, RV G ρ H x v → RV G ρ (upd H a (.lst vs)) x v) := by
  have ha : a ∈ ρ := List.mem_of_getElem? ea
  have E : Ext ρ H ρ (upd H a (.lst vs)) := ⟨⟨[], (List.append_nil _).symm⟩, fun b o e n => ⟨by
    rw [upd_ne (fun z => n (by rw [z]; exact ha))]; exact e, n⟩⟩
  refine ⟨E, ⟨by rw [List.length_set]; exact R.len, R.nd, fun m b c e1 e2 => ?_⟩, fun q => q.mono R.trk E⟩
  by_cases hm : n = m
  · subst hm
    rw [ea] at e1
    cases e1
    have hn : n < h.length := by
      have z := (List.getElem?_eq_some_iff.mp e2).1
      rwa [List.length_set] at z
    rw [List.getElem?_set_self hn] at e2
    cases e2
    exact ⟨vs, upd_same, l, r.mono R.trk E⟩
  · rw [List.getElem?_set_ne hm] at e2
    have nb : b ≠ a := fun z => by
      subst z
      obtain ⟨h1, e1'⟩ := List.getElem?_eq_some_iff.mp e1
      obtain ⟨h2, e2'⟩ := List.getElem?_eq_some_iff.mp ea
      exact hm ((List.getElem_inj R.nd).mp (e2'.trans e1'.symm))
    have x := R.cell m b c e1 e2
    cases c with
    | lst xs => obtain ⟨vs, e, l, r⟩ := x; exact ⟨vs, by rw [upd_ne nb]; exact e, l, r.mono R.trk E⟩
    | ins c fs => obtain ⟨C, dx, gs, m, e, r⟩ := x; exact ⟨C, dx, gs, m, by rw [upd_ne nb]; exact e, r.1, r.2.mono R.trk E⟩
    | _ => exact x
end

/-! ### the lifts -/
section
variable (G : LG) (xa : XA) (W : WX)
/-- what an error is -/
def RX (ρ : List Addr) (H : Hp) (c : Str) (x : PV) (cls : Value) (d : Option Addr) : Prop := ∃ C dd u, G.mg c = some (.ref C) ∧ cls = .ref C ∧ d = some dd ∧ H dd = some (.xd [(("value" : Str), u)]) ∧ RV G ρ H x u
def XC (ρ : List Addr) (H : Hp) (σ : St) (E : PXQ) : Prop := ∀ ρ' H' h' c x cls d, Ext ρ H ρ' H' → Rel G ρ' H' h' → RX G ρ' H' c x cls d → E c x h' → W cls d σ H'
def lE (t : PTE) : TE := fun σ H Q => ∃ ρ τ h Qp Ep, Rel G ρ H h ∧ RS G xa ρ H τ σ ∧ t τ h Qp Ep ∧ (∀ ρ' H' h' x v, Ext ρ H ρ' H' → Rel G ρ' H' h' → RV G ρ' H' x v → Qp x h' → Q v H') ∧ XC G W ρ H σ Ep
def lT (t : PTT) : TT := fun σ H Q => ∃ ρ τ h Qp Ep, Rel G ρ H h ∧ RS G xa ρ H τ σ ∧ t τ h Qp Ep ∧ (∀ ρ' H' h' b, Ext ρ H ρ' H' → Rel G ρ' H' h' → Qp b h' → Q b H') ∧ XC G W ρ H σ Ep
def lA (t : PTA) : TA := fun σ H Q => ∃ ρ τ h Qp Ep, Rel G ρ H h ∧ RS G xa ρ H τ σ ∧ t τ h Qp Ep ∧ (∀ ρ' H' h' xs vs, Ext ρ H ρ' H' → Rel G ρ' H' h' → RVs G ρ' H' xs vs → Qp xs h' → Q vs H') ∧ XC G W ρ H σ Ep
/-- a temporary list -/
def lL (t : PTA) : TE := fun σ H Q => ∃ ρ τ h Qp Ep, Rel G ρ H h ∧ RS G xa ρ H τ σ ∧ t τ h Qp Ep ∧ (∀ ρ' H' h' xs D vs, Ext ρ H ρ' H' → Rel G ρ' H' h' → RVs G ρ' H' xs vs → vs.length ≤ sizeLine → H' D = some (.lst vs) → D ∉ ρ' → H D = none → Qp xs h' → Q (.ref D) H') ∧ XC G W ρ H σ Ep
def lO (t : PTO) : TO := fun σ H Q => ∃ ρ τ h Qp Ep, Rel G ρ H h ∧ RS G xa ρ H τ σ ∧ t τ h Qp Ep ∧ (∀ ρ' H' h' o, Ext ρ H ρ' H' → Rel G ρ' H' h' → Qp o h' → Q o H') ∧ XC G W ρ H σ Ep
structure Conts (ρ : List Addr) (H : Hp) (Dp : PD) (D : Ends) : Prop where
  nx : ∀ ρ' H' h' τ' σ', Ext ρ H ρ' H' → Rel G ρ' H' h' → RS G xa ρ' H' τ' σ' → Dp.nx τ' h' → D.nx σ' H'
  rt : ∀ ρ' H' h' x v, Ext ρ H ρ' H' → Rel G ρ' H' h' → RV G ρ' H' x v → Dp.rt x h' → D.rt v H'
  bk : ∀ ρ' H' h' τ' σ', Ext ρ H ρ' H' → Rel G ρ' H' h' → RS G xa ρ' H' τ' σ' → Dp.bk τ' h' → D.bk σ' H'
  ct : ∀ ρ' H' h' τ' σ', Ext ρ H ρ' H' → Rel G ρ' H' h' → RS G xa ρ' H' τ' σ' → Dp.ct τ' h' → D.ct σ' H'
  ex : ∀ ρ' H' h' τ' σ' c x cls d, Ext ρ H ρ' H' → Rel G ρ' H' h' → RS G xa ρ' H' τ' σ' → RX G ρ' H' c x cls d → Dp.ex c x τ' h' → W cls d σ' H'
def lS (t : PTS) : TS := fun D σ H => ∃ ρ τ h Dp, Rel G ρ H h ∧ RS G xa ρ H τ σ ∧ t Dp τ h ∧ Conts G xa W ρ H Dp D
/-- a def's promise -/
def lSp (sp : PSp) : Sp := fun vs H Q E => ∃ ρ h ps Qp Ep, Rel G ρ H h ∧ RVs G ρ H ps vs ∧ sp ps h Qp Ep ∧ (∀ ρ' H' h' x v, Ext ρ H ρ' H' → Rel G ρ' H' h' → RV G ρ' H' x v → Qp x h' → Q v H') ∧
  (∀ ρ' H' h' c x cls d, Ext ρ H ρ' H' → Rel G ρ' H' h' → RX G ρ' H' c x cls d → Ep c x h' → E cls d H')
/-- operators, by values -/
def lR (r : POp) : R2 := fun u v H Q => ∃ ρ h x y Qp, Rel G ρ H h ∧ RV G ρ H x u ∧ RV G ρ H y v ∧ r x y h Qp ∧ ∀ ρ' H' h' z w, Ext ρ H ρ' H' → Rel G ρ' H' h' → RV G ρ' H' z w → Qp z h' → Q w H'
def lU (r : PUn) : V → Hp → VK → Prop := fun u H Q => ∃ ρ h x Qp, Rel G ρ H h ∧ RV G ρ H x u ∧ r x h Qp ∧ ∀ ρ' H' h' z w, Ext ρ H ρ' H' → Rel G ρ' H' h' → RV G ρ' H' z w → Qp z h' → Q w H'
def lC (r : PCb) : List V → Hp → VK → Prop := fun vs H Q => ∃ ρ h xs Qp, Rel G ρ H h ∧ RVs G ρ H xs vs ∧ r xs h Qp ∧ ∀ ρ' H' h' z w, Ext ρ H ρ' H' → Rel G ρ' H' h' → RV G ρ' H' z w → Qp z h' → Q w H'
/-- a built-in upon a temporary list -/
def lCT (r : PCb) : List V → Hp → VK → Prop := fun vs H Q => ∃ ρ h xs D us Qp, vs = [.ref D] ∧ Rel G ρ H h ∧ RVs G ρ H xs us ∧ us.length ≤ sizeLine ∧ H D = some (.lst us) ∧ D ∉ ρ ∧ r xs h Qp ∧ ∀ ρ' H' h' z w, Ext ρ H ρ' H' → Rel G ρ' H' h' → RV G ρ' H' z w → Qp z h' → Q w H'
end
section
variable {G : LG} {xa : XA} {W : WX} {ρ ρ' : List Addr} {H H' : Hp} {σ : St}
theorem XC.mono {E : PXQ} (x : XC G W ρ H σ E) (e : Ext ρ H ρ' H') : XC G W ρ' H' σ E := fun ρ2 H2 h2 c y cls d e2 => x ρ2 H2 h2 c y cls d (e.trans e2)
theorem Conts.mono {Dp : PD} {D : Ends} (k : Conts G xa W ρ H Dp D) (e : Ext ρ H ρ' H') : Conts G xa W ρ' H' Dp D :=
  ⟨fun a b c d f e2 => k.nx a b c d f (e.trans e2), fun a b c d f e2 => k.rt a b c d f (e.trans e2), fun a b c d f e2 => k.bk a b c d f (e.trans e2), fun a b c d f e2 => k.ct a b c d f (e.trans e2), fun a b c d f g i j l e2 => k.ex a b c d f g i j l (e.trans e2)⟩
theorem Conts.xc {Dp : PD} {D : Ends} {h : PHeap} {τ : PSt} (k : Conts G xa W ρ H Dp D) (R : Rel G ρ H h) (s : RS G xa ρ H τ σ) : XC G W ρ H σ (fun c v h' => Dp.ex c v τ h') := fun ρ' H' h' c x cls d e R' rx q => k.ex ρ' H' h' τ σ c x cls d e R' (s.mono R.trk e) rx q
/-- readings that follow -/
theorem PE_imp {X : Cx} {e : Expr} {t t' : TE} (p : PE X e t) (f : ∀ σ H Q, t' σ H Q → t σ H Q) : PE X e t' := ⟨fun pins s σ H Q I h => p.run pins s σ H Q I (f σ H Q h)⟩
theorem PT_imp {X : Cx} {e : Expr} {t t' : TT} (p : PT X e t) (f : ∀ σ H Q, t' σ H Q → t σ H Q) : PT X e t' := ⟨fun pins s σ H Q I h => p.run pins s σ H Q I (f σ H Q h)⟩
theorem PW_imp {X : Cx} {e : Expr} {t t' : TT} (p : PW X e t) (f : ∀ σ H Q, t' σ H Q → t σ H Q) : PW X e t' := ⟨fun w pins s σ H Q I h => p.run w pins s σ H Q I (f σ H Q h)⟩
theorem PA_imp {X : Cx} {e : List Expr} {t t' : TA} (p : PA X e t) (f : ∀ σ H Q, t' σ H Q → t σ H Q) : PA X e t' := ⟨fun pos pins s σ H Q I h => p.run pos pins s σ H Q I (f σ H Q h)⟩
theorem PK_imp {X : Cx} {e : List Keyword} {t t' : TA} (p : PK X e t) (f : ∀ σ H Q, t' σ H Q → t σ H Q) : PK X e t' := ⟨fun pos pins s σ H Q I h => p.run pos pins s σ H Q I (f σ H Q h)⟩
theorem PS_imp {X : Cx} {e : Stmt} {t t' : TS} (p : PS X e t) (f : ∀ D σ H, t' D σ H → t D σ H) : PS X e t' := ⟨fun pins s σ H D I h => p.run pins s σ H D I (f D σ H h)⟩
theorem PSs_imp {X : Cx} {e : List Stmt} {t t' : TS} (p : PSs X e t) (f : ∀ D σ H, t' D σ H → t D σ H) : PSs X e t' := ⟨fun pins s σ H D I h => p.run pins s σ H D I (f D σ H h)⟩
theorem PO_imp {X : Cx} {e : Option Expr} {t t' : TO} (p : PO X e t) (f : ∀ σ H Q, t' σ H Q → t σ H Q) : PO X e t' := ⟨fun pins s σ H Q I h => p.run pins s σ H Q I (f σ H Q h)⟩
end
end MP
set_option maxHeartbeats 4000000
/-! MP2: expressions, tests, arguments: the rules. -/
namespace MP
open PySem PySem.Spec PyProof.Rows L2

abbrev gX (X : Cx) : LG := ⟨X.K, X.mg⟩

section
variable {X : Cx} {xa : Option (Nat × Addr × Value × Option Addr)} {W : WX} {a b c : Expr} {ta tb tc : PTE} {pos : Pos}
theorem le_var (i : Nat) {x : Str} (h : PE X (.Name x pos) (tVar i)) : PE X (.Name x pos) (lE (gX X) xa W (pVar i)) := by
  refine PE_imp h fun σ H Q hq => ?_
  obtain ⟨ρ, τ, h, Qp, Ep, R, S, hp, k, _⟩ := hq
  unfold pVar at hp
  split at hp
  · rename_i v e
    obtain ⟨nv, hp⟩ := hp
    obtain ⟨u, e', r⟩ := S.2 i v e
    refine ⟨u, e', k ρ H h v u .refl R ?_ hp⟩
    cases v with
    | exc c x => cases nv
    | _ => exact r
  · exact hp.elim
theorem le_c {e : Expr} {v : V} {x : PV} (h : PE X e (tC v)) (r : ∀ ρ H, RV (gX X) ρ H x v) : PE X e (lE (gX X) xa W (pC x)) := by
  refine PE_imp h fun σ H Q hq => ?_
  obtain ⟨ρ, τ, h, Qp, Ep, R, S, hp, k, _⟩ := hq
  exact k ρ H h x v .refl R (r ρ H) hp
theorem le_int {i j} : PE X (.Constant (.int i) j pos) (lE (gX X) xa W (pC (.int i))) := le_c pe_int fun _ _ => .int i
theorem le_bl {i j} : PE X (.Constant (.bool i) j pos) (lE (gX X) xa W (pC (.bl i))) := le_c pe_bl fun _ _ => .bl i
theorem le_non {j} : PE X (.Constant .none j pos) (lE (gX X) xa W (pC .non)) := le_c pe_non fun _ _ => .non
theorem le_str {s j} (o : okS s) : PE X (.Constant (.str s) j pos) (lE (gX X) xa W (pC (.str s))) := le_c pe_str fun _ _ => .str o
/-- a module's constant that is an int, a text -/
theorem le_gint {x : Str} {i : Int} (hg : Gl X x) (hm : ∃ t, X.mg x = some (.int i t)) (hd : (x == ("__debug__" : Str)) = false := by decide) : PE X (.Name x pos) (lE (gX X) xa W (pC (.int i))) := by
  obtain ⟨t, e⟩ := hm
  exact le_c (pe_glob (v := .int i) hg e ⟨t, rfl⟩ hd) fun _ _ => .int i
theorem le_gstr {x s : Str} (hg : Gl X x) (hm : ∃ t, X.mg x = some (.str s t)) (o : okS s) (hd : (x == ("__debug__" : Str)) = false := by decide) : PE X (.Name x pos) (lE (gX X) xa W (pC (.str s))) := by
  obtain ⟨t, e⟩ := hm
  exact le_c (pe_glob (v := .str s) hg e ⟨t, rfl⟩ hd) fun _ _ => .str o
/-- two in a row -/
theorem lR_of {r : POp} {σ : St} {H : Hp} {Q : VK} (h : lE (gX X) xa W (pOp r ta tb) σ H Q) : tOp (lR (gX X) r) (lE (gX X) xa W ta) (lE (gX X) xa W tb) σ H Q := by
  obtain ⟨ρ, τ, h, Qp, Ep, R, S, hp, k, kx⟩ := h
  refine ⟨ρ, τ, h, _, Ep, R, S, hp, fun ρ1 H1 h1 x v E1 R1 r1 q1 => ?_, kx⟩
  refine ⟨ρ1, τ, h1, _, Ep, R1, S.mono R.trk E1, q1, fun ρ2 H2 h2 y u E2 R2 r2 q2 => ?_, kx.mono E1⟩
  exact ⟨ρ2, h2, x, y, Qp, R2, r1.mono R1.trk E2, r2, q2, fun ρ3 H3 h3 z w E3 R3 r3 q3 => k ρ3 H3 h3 z w (E1.trans (E2.trans E3)) R3 r3 q3⟩
theorem le_op {op : Operator} {r : POp} (ho : OpR X (binaryOp op) (lR (gX X) r)) (ha : PE X a (lE (gX X) xa W ta)) (hb : PE X b (lE (gX X) xa W tb)) : PE X (.BinOp a op b pos) (lE (gX X) xa W (pOp r ta tb)) :=
  PE_imp (pe_op ho ha hb) fun _ _ _ h => lR_of h
theorem lU_of {r : PUn} {σ : St} {H : Hp} {Q : VK} (h : lE (gX X) xa W (pUn r ta) σ H Q) : tUn (lU (gX X) r) (lE (gX X) xa W ta) σ H Q := by
  obtain ⟨ρ, τ, h, Qp, Ep, R, S, hp, k, kx⟩ := h
  refine ⟨ρ, τ, h, _, Ep, R, S, hp, fun ρ1 H1 h1 x v E1 R1 r1 q1 => ?_, kx⟩
  exact ⟨ρ1, h1, x, Qp, R1, r1, q1, fun ρ3 H3 h3 z w E3 R3 r3 q3 => k ρ3 H3 h3 z w (E1.trans E3) R3 r3 q3⟩
theorem le_un {op : UnaryOp} {r : PUn} (ho : UnR X (unaryOp op) (lU (gX X) r)) (ha : PE X a (lE (gX X) xa W ta)) : PE X (.UnaryOp op a pos) (lE (gX X) xa W (pUn r ta)) :=
  PE_imp (pe_un ho ha) fun _ _ _ h => lU_of h
theorem le_cmp {op : CmpOp} {r : POp} (ho : OpR X (compareOp op) (lR (gX X) r)) (ha : PE X a (lE (gX X) xa W ta)) (hb : PE X b (lE (gX X) xa W tb)) (hm : behindInMarks op b = false) : PE X (.Compare a [op] [b] pos) (lE (gX X) xa W (pOp r ta tb)) :=
  PE_imp (pe_cmpR ho ha hb hm) fun _ _ _ h => lR_of h
/-- a value that is True or False as a test -/
theorem lB_of {t : PTE} {σ : St} {H : Hp} {Q : Bool → Hp → Prop} {te : TE} (f : ∀ σ H Q, lE (gX X) xa W t σ H Q → te σ H Q) (h : lT (gX X) xa W (pB t) σ H Q) : te σ H fun x H' => ∃ k, x = .bl k ∧ Q k H' := by
  obtain ⟨ρ, τ, h, Qp, Ep, R, S, hp, k, kx⟩ := h
  refine f σ H _ ⟨ρ, τ, h, _, Ep, R, S, hp, fun ρ1 H1 h1 x v E1 R1 r1 q1 => ?_, kx⟩
  cases r1 with
  | bl b => exact ⟨b, rfl, k ρ1 H1 h1 b E1 R1 q1⟩
  | _ => exact False.elim q1
theorem lt_cmp {op : CmpOp} {r : POp} (ho : OpR X (compareOp op) (lR (gX X) r)) (ha : PE X a (lE (gX X) xa W ta)) (hb : PE X b (lE (gX X) xa W tb)) (hm : behindInMarks op b = false) : PT X (.Compare a [op] [b] pos) (lT (gX X) xa W (pB (pOp r ta tb))) :=
  PT_imp (pt_cmpR ho ha hb hm) fun σ H Q h => lB_of (te := tOp (lR (gX X) r) (lE (gX X) xa W ta) (lE (gX X) xa W tb)) (fun _ _ _ h => lR_of h) h
/-- is None -/
theorem le_isN {j pos'} (ha : PE X a (lE (gX X) xa W ta)) : PE X (.Compare a [.Is] [.Constant .none j pos'] pos) (lE (gX X) xa W (pUn rIsN ta)) := by
  refine PE_imp (pe_cmp (pc_isN ha) rfl) fun σ H Q h => ?_
  obtain ⟨ρ, τ, h, Qp, Ep, R, S, hp, k, kx⟩ := h
  refine ⟨ρ, τ, h, _, Ep, R, S, hp, fun ρ1 H1 h1 x v E1 R1 r1 q1 => ?_, kx⟩
  have e : decide (v = .non) = isNon x := by cases r1 <;> simp [isNon]
  show Q (.bl (decide (v = .non))) H1
  rw [e]
  exact k ρ1 H1 h1 _ _ E1 R1 (.bl _) q1
theorem le_notN {j pos'} (ha : PE X a (lE (gX X) xa W ta)) : PE X (.Compare a [.IsNot] [.Constant .none j pos'] pos) (lE (gX X) xa W (pUn rNotN ta)) := by
  refine PE_imp (pe_cmp (pc_notN ha) rfl) fun σ H Q h => ?_
  obtain ⟨ρ, τ, h, Qp, Ep, R, S, hp, k, kx⟩ := h
  refine ⟨ρ, τ, h, _, Ep, R, S, hp, fun ρ1 H1 h1 x v E1 R1 r1 q1 => ?_, kx⟩
  have e : decide (v = .non) = isNon x := by cases r1 <;> simp [isNon]
  show Q (.bl (!decide (v = .non))) H1
  rw [e]
  exact k ρ1 H1 h1 _ _ E1 R1 (.bl _) q1
theorem isN_of {σ : St} {H : Hp} {Q : VK} (h : lE (gX X) xa W (pUn rIsN ta) σ H Q) : tIsN (lE (gX X) xa W ta) σ H Q := by
  obtain ⟨ρ, τ, h, Qp, Ep, R, S, hp, k, kx⟩ := h
  refine ⟨ρ, τ, h, _, Ep, R, S, hp, fun ρ1 H1 h1 x v E1 R1 r1 q1 => ?_, kx⟩
  have e : decide (v = .non) = isNon x := by cases r1 <;> simp [isNon]
  show Q (.bl (decide (v = .non))) H1
  rw [e]
  exact k ρ1 H1 h1 _ _ E1 R1 (.bl _) q1
theorem notN_of {σ : St} {H : Hp} {Q : VK} (h : lE (gX X) xa W (pUn rNotN ta) σ H Q) : tNotN (lE (gX X) xa W ta) σ H Q := by
  obtain ⟨ρ, τ, h, Qp, Ep, R, S, hp, k, kx⟩ := h
  refine ⟨ρ, τ, h, _, Ep, R, S, hp, fun ρ1 H1 h1 x v E1 R1 r1 q1 => ?_, kx⟩
  have e : decide (v = .non) = isNon x := by cases r1 <;> simp [isNon]
  show Q (.bl (!decide (v = .non))) H1
  rw [e]
  exact k ρ1 H1 h1 _ _ E1 R1 (.bl _) q1
theorem lt_isN {j pos'} (ha : PE X a (lE (gX X) xa W ta)) : PT X (.Compare a [.Is] [.Constant .none j pos'] pos) (lT (gX X) xa W (pB (pUn rIsN ta))) :=
  PT_imp (pt_cmp (pc_isN ha)) fun σ H Q h => lB_of (te := tIsN (lE (gX X) xa W ta)) (fun _ _ _ h => isN_of h) h
theorem lt_notN {j pos'} (ha : PE X a (lE (gX X) xa W ta)) : PT X (.Compare a [.IsNot] [.Constant .none j pos'] pos) (lT (gX X) xa W (pB (pUn rNotN ta))) :=
  PT_imp (pt_cmp (pc_notN ha)) fun σ H Q h => lB_of (te := tNotN (lE (gX X) xa W ta)) (fun _ _ _ h => notN_of h) h
/-- any value, that must be True or False, as a test -/
theorem lt_val {e : Expr} {t : PTE} (h : PE X e (lE (gX X) xa W t)) (he : ∀ whole, isTrue e X.env whole = (do let v ← whole; standAt e.pos; holding [v] (truthy v)) := by intro _; rfl) : PT X e (lT (gX X) xa W (pB t)) :=
  PT_imp (pt_val h he) fun σ H Q h => lB_of (te := lE (gX X) xa W t) (fun _ _ _ h => h) h
theorem truth_ok {G : LG} {ρ : List Addr} {H : Hp} {h : PHeap} {x : PV} {v : V} {b : Bool} (R : Rel G ρ H h) (r : RV G ρ H x v) (e : truth h x = some b) : TruV G.K v H b := by
  cases r with
  | non => cases e; rfl
  | bl c => cases e; rfl
  | int i => cases e; rfl
  | str o => cases e; exact ⟨o.1, rfl⟩
  | @tup xs a vs q l rs =>
    cases e
    refine .inr (.inl ⟨vs, q, ?_⟩)
    cases rs <;> rfl
  | @fl xs a vs q l rs =>
    cases e
    refine .inl ⟨vs, q.seq, ?_⟩
    cases rs <;> rfl
  | @ref n a ea =>
    have e' : (match h[n]? with
      | some (.lst xs) => some !xs.isEmpty
      | _ => none) = some b := e
    split at e'
    · rename_i xs en
      cases e'
      obtain ⟨a', vs, ea', ev, l, rs⟩ := R.lst en
      rw [ea] at ea'
      cases ea'
      refine .inl ⟨vs, .of ev, ?_⟩
      cases rs <;> rfl
    · cases e'
theorem lt_truth {t : PTE} (h : PE X a (lE (gX X) xa W t)) (he : ∀ whole, isTrue a X.env whole = (do let v ← whole; standAt a.pos; holding [v] (truthy v)) := by intro _; rfl) : PT X a (lT (gX X) xa W (pT t)) := by
  refine PT_imp (pt_truth h he) fun σ H Q h => ?_
  obtain ⟨ρ, τ, h, Qp, Ep, R, S, hp, k, kx⟩ := h
  refine ⟨ρ, τ, h, _, Ep, R, S, hp, fun ρ1 H1 h1 x v E1 R1 r1 q1 => ?_, kx⟩
  split at q1
  · rename_i b e
    exact ⟨b, truth_ok R1 r1 e, k ρ1 H1 h1 b E1 R1 q1⟩
  · exact q1.elim
/-! ### and, or, not -/
variable {tA tB' : PTT} {rest : List Expr}
theorem lw_and1 (ha : PT X a (lT (gX X) xa W tA)) : PW X (.BoolOp .And [a] pos) (lT (gX X) xa W tA) := pw_and1 ha
theorem lw_or1 (ha : PT X a (lT (gX X) xa W tA)) : PW X (.BoolOp .Or [a] pos) (lT (gX X) xa W tA) := pw_or1 ha
theorem lw_and (ha : PT X a (lT (gX X) xa W tA)) (hb : PW X (.BoolOp .And (b :: rest) pos) (lT (gX X) xa W tB')) : PW X (.BoolOp .And (a :: b :: rest) pos) (lT (gX X) xa W (pAnd tA tB')) := by
  refine PW_imp (pw_and ha hb) fun σ H Q h => ?_
  obtain ⟨ρ, τ, h, Qp, Ep, R, S, hp, k, kx⟩ := h
  refine ⟨ρ, τ, h, _, Ep, R, S, hp, fun ρ1 H1 h1 c E1 R1 q1 => ?_, kx⟩
  cases c with
  | true =>
    rw [if_pos rfl] at q1 ⊢
    exact ⟨ρ1, τ, h1, Qp, Ep, R1, S.mono R.trk E1, q1, fun ρ2 H2 h2 d E2 R2 q2 => k ρ2 H2 h2 d (E1.trans E2) R2 q2, kx.mono E1⟩
  | false =>
    rw [if_neg Bool.false_ne_true] at q1 ⊢
    exact k ρ1 H1 h1 false E1 R1 q1
theorem lw_or (ha : PT X a (lT (gX X) xa W tA)) (hb : PW X (.BoolOp .Or (b :: rest) pos) (lT (gX X) xa W tB')) : PW X (.BoolOp .Or (a :: b :: rest) pos) (lT (gX X) xa W (pOr tA tB')) := by
  refine PW_imp (pw_or ha hb) fun σ H Q h => ?_
  obtain ⟨ρ, τ, h, Qp, Ep, R, S, hp, k, kx⟩ := h
  refine ⟨ρ, τ, h, _, Ep, R, S, hp, fun ρ1 H1 h1 c E1 R1 q1 => ?_, kx⟩
  cases c with
  | false =>
    rw [if_neg Bool.false_ne_true] at q1 ⊢
    exact ⟨ρ1, τ, h1, Qp, Ep, R1, S.mono R.trk E1, q1, fun ρ2 H2 h2 d E2 R2 q2 => k ρ2 H2 h2 d (E1.trans E2) R2 q2, kx.mono E1⟩
  | true =>
    rw [if_pos rfl] at q1 ⊢
    exact k ρ1 H1 h1 true E1 R1 q1
theorem lt_not (ha : PT X a (lT (gX X) xa W tA)) : PT X (.UnaryOp .Not a pos) (lT (gX X) xa W (pNot tA)) := by
  refine PT_imp (pt_not ha) fun σ H Q h => ?_
  obtain ⟨ρ, τ, h, Qp, Ep, R, S, hp, k, kx⟩ := h
  exact ⟨ρ, τ, h, _, Ep, R, S, hp, fun ρ1 H1 h1 c E1 R1 q1 => k ρ1 H1 h1 (!c) E1 R1 q1, kx⟩
theorem le_one {op} {t : PTE} (h : PE X a (lE (gX X) xa W t)) : PE X (.BoolOp op [a] pos) (lE (gX X) xa W t) := pe_one h
theorem le_and (ha : PE X a (lE (gX X) xa W ta)) (hb : PE X (.BoolOp .And (b :: rest) pos) (lE (gX X) xa W tb)) : PE X (.BoolOp .And (a :: b :: rest) pos) (lE (gX X) xa W (pAndV ta tb)) := by
  refine PE_imp (pe_and ha hb) fun σ H Q h => ?_
  obtain ⟨ρ, τ, h, Qp, Ep, R, S, hp, k, kx⟩ := h
  refine ⟨ρ, τ, h, _, Ep, R, S, hp, fun ρ1 H1 h1 x v E1 R1 r1 q1 => ?_, kx⟩
  cases r1 with
  | bl c =>
    refine ⟨c, rfl, ?_⟩
    cases c with
    | true => exact ⟨ρ1, τ, h1, Qp, Ep, R1, S.mono R.trk E1, q1, fun ρ2 H2 h2 d w E2 R2 r2 q2 => k ρ2 H2 h2 d w (E1.trans E2) R2 r2 q2, kx.mono E1⟩
    | false => exact k ρ1 H1 h1 _ _ E1 R1 (.bl false) q1
  | _ => exact False.elim q1
theorem le_or (ha : PE X a (lE (gX X) xa W ta)) (hb : PE X (.BoolOp .Or (b :: rest) pos) (lE (gX X) xa W tb)) : PE X (.BoolOp .Or (a :: b :: rest) pos) (lE (gX X) xa W (pOrV ta tb)) := by
  refine PE_imp (pe_or ha hb) fun σ H Q h => ?_
  obtain ⟨ρ, τ, h, Qp, Ep, R, S, hp, k, kx⟩ := h
  refine ⟨ρ, τ, h, _, Ep, R, S, hp, fun ρ1 H1 h1 x v E1 R1 r1 q1 => ?_, kx⟩
  cases r1 with
  | bl c =>
    refine ⟨c, rfl, ?_⟩
    cases c with
    | false => exact ⟨ρ1, τ, h1, Qp, Ep, R1, S.mono R.trk E1, q1, fun ρ2 H2 h2 d w E2 R2 r2 q2 => k ρ2 H2 h2 d w (E1.trans E2) R2 r2 q2, kx.mono E1⟩
    | true => exact k ρ1 H1 h1 _ _ E1 R1 (.bl true) q1
  | _ => exact False.elim q1
theorem le_not (ha : PE X a (lE (gX X) xa W ta)) : PE X (.UnaryOp .Not a pos) (lE (gX X) xa W (pNotV ta)) := by
  refine PE_imp (pe_not ha) fun σ H Q h => ?_
  obtain ⟨ρ, τ, h, Qp, Ep, R, S, hp, k, kx⟩ := h
  refine ⟨ρ, τ, h, _, Ep, R, S, hp, fun ρ1 H1 h1 x v E1 R1 r1 q1 => ?_, kx⟩
  cases r1 with
  | bl c => exact ⟨c, rfl, k ρ1 H1 h1 _ _ E1 R1 (.bl _) q1⟩
  | _ => exact False.elim q1
theorem le_if (hc : PT X c (lT (gX X) xa W tA)) (ha : PE X a (lE (gX X) xa W ta)) (hb : PE X b (lE (gX X) xa W tb)) : PE X (.IfExp c a b pos) (lE (gX X) xa W (pIf tA ta tb)) := by
  refine PE_imp (pe_ifExp hc ha hb) fun σ H Q h => ?_
  obtain ⟨ρ, τ, h, Qp, Ep, R, S, hp, k, kx⟩ := h
  refine ⟨ρ, τ, h, _, Ep, R, S, hp, fun ρ1 H1 h1 c E1 R1 q1 => ?_, kx⟩
  cases c with
  | true =>
    rw [if_pos rfl] at q1 ⊢
    exact ⟨ρ1, τ, h1, Qp, Ep, R1, S.mono R.trk E1, q1, fun ρ2 H2 h2 d w E2 R2 r2 q2 => k ρ2 H2 h2 d w (E1.trans E2) R2 r2 q2, kx.mono E1⟩
  | false =>
    rw [if_neg Bool.false_ne_true] at q1 ⊢
    exact ⟨ρ1, τ, h1, Qp, Ep, R1, S.mono R.trk E1, q1, fun ρ2 H2 h2 d w E2 R2 r2 q2 => k ρ2 H2 h2 d w (E1.trans E2) R2 r2 q2, kx.mono E1⟩
/-! ### chains -/
theorem lch_of {r r' : POp} {σ : St} {H : Hp} {Q : VK} (h : lE (gX X) xa W (pChain r r' ta tb tc) σ H Q) : tChain (lR (gX X) r) (lR (gX X) r') (lE (gX X) xa W ta) (lE (gX X) xa W tb) (lE (gX X) xa W tc) σ H Q := by
  obtain ⟨ρ, τ, h, Qp, Ep, R, S, hp, k, kx⟩ := h
  refine ⟨ρ, τ, h, _, Ep, R, S, hp, fun ρ1 H1 h1 x v E1 R1 r1 q1 => ?_, kx⟩
  have S1 := S.mono R.trk E1
  refine ⟨ρ1, τ, h1, _, Ep, R1, S1, q1, fun ρ2 H2 h2 y u E2 R2 r2 q2 => ?_, kx.mono E1⟩
  have S2 := S1.mono R1.trk E2
  refine ⟨ρ2, h2, x, y, _, R2, r1.mono R1.trk E2, r2, q2, fun ρ3 H3 h3 z w E3 R3 r3 q3 => ?_⟩
  cases r3 with
  | bl kk =>
    refine ⟨kk, rfl, ?_⟩
    cases kk with
    | true =>
      have q3' : tc τ h3 (fun w h4 => r' y w h4 Qp) Ep := q3
      refine iteT ⟨ρ3, τ, h3, _, Ep, R3, S2.mono R2.trk E3, q3', fun ρ4 H4 h4 w' u' E4 R4 r4 q4 => ?_, kx.mono (E1.trans (E2.trans E3))⟩
      exact ⟨ρ4, h4, y, w', Qp, R4, r2.mono R2.trk (E3.trans E4), r4, q4, fun ρ5 H5 h5 z' w5 E5 R5 r5 q5 => k ρ5 H5 h5 z' w5 (E1.trans (E2.trans (E3.trans (E4.trans E5)))) R5 r5 q5⟩
    | false => exact iteF (k ρ3 H3 h3 _ _ (E1.trans (E2.trans E3)) R3 (.bl false) q3)
  | _ => exact False.elim q3
theorem le_chain {op op' : CmpOp} {r r' : POp} (ho : OpR X (compareOp op) (lR (gX X) r)) (ho' : OpR X (compareOp op') (lR (gX X) r')) (ha : PE X a (lE (gX X) xa W ta)) (hb : PE X b (lE (gX X) xa W tb)) (hc : PE X c (lE (gX X) xa W tc))
    (hm : lastMarks [op, op'] [b, c] = false := by with_unfolding_all rfl) : PE X (.Compare a [op, op'] [b, c] pos) (lE (gX X) xa W (pChain r r' ta tb tc)) :=
  PE_imp (pe_chain ho ho' ha hb hc hm) fun _ _ _ h => lch_of h
theorem lt_chain {op op' : CmpOp} {r r' : POp} (ho : OpR X (compareOp op) (lR (gX X) r)) (ho' : OpR X (compareOp op') (lR (gX X) r')) (ha : PE X a (lE (gX X) xa W ta)) (hb : PE X b (lE (gX X) xa W tb)) (hc : PE X c (lE (gX X) xa W tc))
    (hm : lastMarks [op, op'] [b, c] = false := by with_unfolding_all rfl) : PT X (.Compare a [op, op'] [b, c] pos) (lT (gX X) xa W (pB (pChain r r' ta tb tc))) :=
  PT_imp (pt_chain ho ho' ha hb hc hm) fun σ H Q h => lB_of (te := tChain (lR (gX X) r) (lR (gX X) r') (lE (gX X) xa W ta) (lE (gX X) xa W tb) (lE (gX X) xa W tc)) (fun _ _ _ h => lch_of h) h
/-! ### arguments, displays -/
variable {es : List Expr} {e : Expr} {te : PTE} {t : PTA}
theorem la_nil : PA X [] (lA (gX X) xa W pNil) := by
  refine PA_imp pa_nil fun σ H Q h => ?_
  obtain ⟨ρ, τ, h, Qp, Ep, R, S, hp, k, kx⟩ := h
  exact k ρ H h [] [] .refl R .nil hp
theorem lcons_of {σ : St} {H : Hp} {Q : List V → Hp → Prop} (h : lA (gX X) xa W (pCons te t) σ H Q) : tCons (lE (gX X) xa W te) (lA (gX X) xa W t) σ H Q := by
  obtain ⟨ρ, τ, h, Qp, Ep, R, S, hp, k, kx⟩ := h
  refine ⟨ρ, τ, h, _, Ep, R, S, hp, fun ρ1 H1 h1 x v E1 R1 r1 q1 => ?_, kx⟩
  refine ⟨ρ1, τ, h1, _, Ep, R1, S.mono R.trk E1, q1, fun ρ2 H2 h2 xs vs E2 R2 r2 q2 => ?_, kx.mono E1⟩
  exact k ρ2 H2 h2 (x :: xs) (v :: vs) (E1.trans E2) R2 (.cons (r1.mono R1.trk E2) r2) q2
theorem la_cons (ha : PE X e (lE (gX X) xa W te)) (hr : PA X es (lA (gX X) xa W t)) (hs : starEach (e :: es) X.env = (false, eval e X.env) :: starEach es X.env := by rfl) : PA X (e :: es) (lA (gX X) xa W (pCons te t)) :=
  PA_imp (pa_cons ha hr hs) fun _ _ _ h => lcons_of h
theorem lk_nil : PK X [] (lA (gX X) xa W pNil) := by
  refine PK_imp pk_nil fun σ H Q h => ?_
  obtain ⟨ρ, τ, h, Qp, Ep, R, S, hp, k, kx⟩ := h
  exact k ρ H h [] [] .refl R .nil hp
theorem lk_cons {kpos : Pos} {kws : List Keyword} (ha : PE X e (lE (gX X) xa W te)) (hr : PK X kws (lA (gX X) xa W t)) {n : Str} : PK X (⟨some n, e, kpos⟩ :: kws) (lA (gX X) xa W (pCons te t)) :=
  PK_imp (pk_cons ha hr) fun _ _ _ h => lcons_of h
theorem le_tup {x1} (h : PA X es (lA (gX X) xa W t)) : PE X (.Tuple es x1 pos) (lE (gX X) xa W (pTup t)) := by
  refine PE_imp (pe_tup h) fun σ H Q h => ?_
  obtain ⟨ρ, τ, h, Qp, Ep, R, S, hp, k, kx⟩ := h
  refine ⟨ρ, τ, h, _, Ep, R, S, hp, fun ρ1 H1 h1 xs vs E1 R1 r1 q1 => ?_, kx⟩
  obtain ⟨z, q⟩ := q1
  have l : vs.length ≤ sizeLine := by rw [← r1.length]; exact z
  refine ⟨l, fun p hp => ?_⟩
  obtain ⟨E2, R2, r2⟩ := R1.newT hp l r1
  exact k ρ1 _ h1 _ _ (E1.trans E2) R2 r2 q
/-- a display that nobody keeps -/
theorem ll_lst (h : PA X es (lA (gX X) xa W t)) : PE X (.List es pos) (lL (gX X) xa W (pTmp t)) := by
  refine PE_imp (pe_lst h) fun σ H Q h => ?_
  obtain ⟨ρ, τ, h, Qp, Ep, R, S, hp, k, kx⟩ := h
  refine ⟨ρ, τ, h, _, Ep, R, S, hp, fun ρ1 H1 h1 xs vs E1 R1 r1 q1 => ?_, kx⟩
  obtain ⟨z, q⟩ := q1
  have l : vs.length ≤ sizeLine := by rw [← r1.length]; exact z
  refine ⟨l, fun p hp => ?_⟩
  obtain ⟨E2, R2, _⟩ := R1.skip (o := .lst vs) hp
  refine k ρ1 _ h1 xs p vs (E1.trans E2) R2 (r1.mono R1.trk E2) l upd_same (fun hm => ?_) (E1.fresh R1 hp) q
  obtain ⟨o', e, _⟩ := R1.trk p hm
  rw [hp] at e
  cases e
/-- a temporary list is kept -/
theorem le_new (h : PE X e (lL (gX X) xa W t)) : PE X e (lE (gX X) xa W (pNew t)) := by
  refine PE_imp h fun σ H Q h => ?_
  obtain ⟨ρ, τ, h, Qp, Ep, R, S, hp, k, kx⟩ := h
  refine ⟨ρ, τ, h, _, Ep, R, S, hp, fun ρ1 H1 h1 xs D vs E1 R1 r1 l hD nD fD q1 => ?_, kx⟩
  obtain ⟨a1, a2, a3⟩ := R1.adopt (p := D) (o := .lst vs) (c := .lst xs) hD rfl nD (fun ρ' M Ms => ⟨vs, hD, l, Ms r1⟩)
  obtain ⟨t', et⟩ := E1.pre
  refine k (ρ1 ++ [D]) H1 _ _ _ ⟨⟨t' ++ [D], by rw [et, List.append_assoc]⟩, fun a o ea na => ?_⟩ a2 (.ref ?_) q1
  · obtain ⟨e1, n1⟩ := E1.keep a o ea na
    exact ⟨e1, a1 a o e1 n1 (ne_of_none ea fD)⟩
  · rw [← R1.len, List.getElem?_append_right (Nat.le_refl _), Nat.sub_self]
    rfl
end
end MP
set_option maxHeartbeats 4000000
/-! MP3: operators, comparisons, subscripts, built-ins, methods by values. -/
namespace MP
open PySem PySem.Spec PyProof.Rows L2 TL

/-! ### texts that may be -/
theorem okS_append {a b : Str} (ha : okS a) (hb : okS b) (l : a.length + b.length ≤ sizeLine) : okS (a ++ b) := by
  have e : tl (a ++ b) = tl a ++ tl b := tl_append a b
  refine ⟨by rw [len_tl, e, List.length_append, ← len_tl, ← len_tl]; exact l, ?_⟩
  have ha2 := ha.2
  have hb2 := hb.2
  unfold PySem.PyData.strOk at ha2 hb2 ⊢
  rw [← Array.all_toList] at ha2 hb2 ⊢
  have e' : (a ++ b).cps.toList = a.cps.toList ++ b.cps.toList := e
  rw [e', List.all_append, ha2, hb2]
  rfl
theorem okS_sub {a b : Str} (ha : okS a) (l : b.length ≤ a.length) (m : ∀ c ∈ b.cps.toList, c ∈ a.cps.toList) : okS b := by
  refine ⟨Nat.le_trans l ha.1, ?_⟩
  have ha2 := ha.2
  unfold PySem.PyData.strOk at ha2 ⊢
  rw [← Array.all_toList] at ha2 ⊢
  rw [List.all_eq_true] at ha2 ⊢
  exact fun c hc => ha2 c (m c hc)
theorem okS_cut {a : Str} (ha : okS a) (lo hi : Option Int) : okS (cutS a lo hi) := by
  refine okS_sub ha (cutS_length a lo hi) fun c hc => ?_
  unfold cutS at hc
  exact List.mem_of_mem_drop (List.mem_of_mem_take hc)
theorem okS_one {a : Str} (ha : okS a) {c : Nat} (h : c ∈ a.cps.toList) : okS ⟨#[c]⟩ := by
  refine okS_sub ha ?_ fun d hd => ?_
  · show (#[c] : Array Nat).size ≤ a.cps.size
    have : 0 < a.cps.toList.length := List.length_pos_of_mem h
    simp at this ⊢
    omega
  · have : d = c := by simpa using hd
    rw [this]; exact h

section
variable {X : Cx} {xa : Option (Nat × Addr × Value × Option Addr)}
theorem mo_add : OpR X (binaryOp .Add) (lR (gX X) rAdd) := by
  intro pins s σ H u v uu vv Q I ru rv hh
  obtain ⟨ρ, h, x, y, Qp, R, r1, r2, hp, k⟩ := hh
  cases r1 with
  | int i =>
    cases r2 with
    | int j => exact L2.op_add pins s σ H _ _ _ _ Q I ru rv ⟨i, j, rfl, rfl, k ρ H h _ _ .refl R (.int _) hp⟩
    | _ => exact False.elim hp
  | @str a oa =>
    cases r2 with
    | @str b ob =>
      obtain ⟨l, q⟩ := (show a.length + b.length ≤ sizeLine ∧ Qp (.str (a ++ b)) h from hp)
      exact L2.op_add_str pins s σ H _ _ _ _ Q I ru rv ⟨a, b, rfl, rfl, l, k ρ H h _ _ .refl R (.str (okS_append oa ob l)) q⟩
    | _ => exact False.elim hp
  | @tup xs a vs q l rs =>
    cases r2 with
    | @tup ys b us q' l' rs' =>
      obtain ⟨z, qq⟩ := (show xs.length + ys.length ≤ sizeLine ∧ Qp (.tup (xs ++ ys)) h from hp)
      have e1 := rs.length
      have e2 := rs'.length
      have zz : vs.length + us.length ≤ sizeLine := by omega
      refine L2.op_catA pins s σ H _ _ _ _ Q I ru rv ⟨a, b, vs, us, rfl, rfl, q, q', zz, fun e => ?_, fun _ e => ?_, fun _ _ p hp => ?_⟩
      · subst e
        cases rs
        exact k ρ H h _ _ .refl R (.tup q' l' rs') qq
      · subst e
        cases rs'
        rw [List.append_nil] at qq
        exact k ρ H h _ _ .refl R (.tup q l rs) qq
      · obtain ⟨E2, R2, r3⟩ := R.newT (vs := vs ++ us) hp (by rw [List.length_append]; exact zz) (rs.append rs')
        exact k ρ _ h _ _ E2 R2 r3 qq
    | _ => exact False.elim hp
  | @ref m a ea =>
    cases r2 with
    | @ref n b eb =>
      dsimp only [rAdd] at hp
      split at hp
      · rename_i xs ys e1 e2
        obtain ⟨z, qq⟩ := hp
        obtain ⟨a', vs, ea', ev, l, rs⟩ := R.lst e1
        obtain ⟨b', us, eb', eu, l', rs'⟩ := R.lst e2
        rw [ea] at ea'; cases ea'
        rw [eb] at eb'; cases eb'
        have q1 := rs.length
        have q2 := rs'.length
        have zz : vs.length + us.length ≤ sizeLine := by omega
        refine L2.op_cat pins s σ H _ _ _ _ Q I ru rv ⟨a, b, vs, us, rfl, rfl, ev, eu, zz, fun p hp => ?_⟩
        obtain ⟨E2, R2, r3⟩ := R.new (vs := vs ++ us) hp (by rw [List.length_append]; exact zz) (rs.append rs')
        exact k _ _ _ _ _ E2 R2 r3 qq
      · exact hp.elim
    | _ => exact False.elim hp
  | _ => exact False.elim hp
theorem mo_sub : OpR X (binaryOp .Sub) (lR (gX X) rSub) := by
  intro pins s σ H u v uu vv Q I ru rv hh
  obtain ⟨ρ, h, x, y, Qp, R, r1, r2, hp, k⟩ := hh
  cases r1 with
  | int i =>
    cases r2 with
    | int j => exact L2.op_sub pins s σ H _ _ _ _ Q I ru rv ⟨i, j, rfl, rfl, k ρ H h _ _ .refl R (.int _) hp⟩
    | _ => exact False.elim hp
  | _ => exact False.elim hp
theorem mulOk.ok {i j : Int} (h : mulOk i j) : IntMulOk i j := by
  rcases h with h | h | ⟨a, b, ha, hb, l⟩
  · exact .of_left (intBits_le_64 (by omega) (by omega))
  · exact .of_right (intBits_le_64 (by omega) (by omega))
  · exact (mulx_ok ha hb l).ok
theorem op_mulP : OpR X (binaryOp .Mult) (rI mulOk fun i j => .int (i * j)) := opI fun _ _ _ _ _ _ _ hc q => mul_int q hc.ok
theorem op_powP : OpR X (binaryOp .Pow) (rI powOk fun i j => .int (i ^ j.toNat)) := opI fun i j _ _ _ _ _ hc q => by
  obtain ⟨h0, a, ha, hl⟩ := hc
  refine pow_int h0 ?_ q
  have z := PyProof.Rows.intBits_le ha
  have z2 : (Builtin.Int.intBits i : Int) * j ≤ (a : Int) * j := Int.mul_le_mul_of_nonneg_right (by omega) h0
  have e : (2 : Int) ^ 27 = 134217728 := by decide
  rw [e]
  omega
theorem mo_mul : OpR X (binaryOp .Mult) (lR (gX X) rMul) := by
  intro pins s σ H u v uu vv Q I ru rv hh
  obtain ⟨ρ, h, x, y, Qp, R, r1, r2, hp, k⟩ := hh
  cases r1 with
  | @str a oa =>
    cases r2 with
    | int j =>
      obtain ⟨⟨c, o⟩, q⟩ := (show (PySem.MulOk a j ∧ okS (Txt.mul a j)) ∧ Qp (.str (Txt.mul a j)) h from hp)
      obtain ⟨t, rfl⟩ := ru
      obtain ⟨t2, rfl⟩ := rv
      exact PySem.SB.mul c fun t' tk => ⟨.str _, H, I.tok tk, ⟨t', rfl⟩, k ρ H h _ _ .refl R (.str o) q⟩
    | _ => exact False.elim hp
  | int i =>
    cases r2 with
    | int j =>
      obtain ⟨c, q⟩ := (show mulOk i j ∧ Qp (.int (i * j)) h from hp)
      exact op_mulP pins s σ H _ _ _ _ Q I ru rv ⟨i, j, rfl, rfl, c, k ρ H h _ _ .refl R (.int _) q⟩
    | _ => exact False.elim hp
  | @ref m a ea =>
    cases r2 with
    | int j =>
      dsimp only [rMul] at hp
      split at hp
      · rename_i xs e1
        obtain ⟨h1, h2, z, qq⟩ := hp
        obtain ⟨a', vs, ea', ev, l, rs⟩ := R.lst e1
        rw [ea] at ea'; cases ea'
        have q1 := rs.length
        rw [q1] at z
        refine L2.op_rep pins s σ H _ _ _ _ Q I ru rv ⟨a, j, vs, rfl, rfl, ev, h1, h2, z, fun p hp => ?_⟩
        obtain ⟨E2, R2, r3⟩ := R.new (vs := (List.replicate j.toNat vs).flatten) hp (by
          rw [List.length_flatten, List.map_replicate, List.sum_replicate_nat]; rw [Nat.mul_comm]; exact z) (rs.flat j.toNat)
        exact k _ _ _ _ _ E2 R2 r3 qq
      · exact hp.elim
    | _ => exact False.elim hp
  | _ => exact False.elim hp
theorem mo_pow : OpR X (binaryOp .Pow) (lR (gX X) rPow) := by
  intro pins s σ H u v uu vv Q I ru rv hh
  obtain ⟨ρ, h, x, y, Qp, R, r1, r2, hp, k⟩ := hh
  cases r1 with
  | int i =>
    cases r2 with
    | int j =>
      obtain ⟨c, q⟩ := (show powOk i j ∧ Qp (.int (i ^ j.toNat)) h from hp)
      exact op_powP pins s σ H _ _ _ _ Q I ru rv ⟨i, j, rfl, rfl, c, k ρ H h _ _ .refl R (.int _) q⟩
    | _ => exact False.elim hp
  | _ => exact False.elim hp
theorem mo_fdiv : OpR X (binaryOp .FloorDiv) (lR (gX X) rFdiv) := by
  intro pins s σ H u v uu vv Q I ru rv hh
  obtain ⟨ρ, h, x, y, Qp, R, r1, r2, hp, k⟩ := hh
  cases r1 with
  | int i =>
    cases r2 with
    | int j =>
      obtain ⟨c, q⟩ := (show (0 < j ∧ j.natAbs.log2 < 9000) ∧ Qp (.int (i / j)) h from hp)
      exact op_fdivW pins s σ H _ _ _ _ Q I ru rv ⟨i, j, rfl, rfl, c, k ρ H h _ _ .refl R (.int _) q⟩
    | _ => exact False.elim hp
  | _ => exact False.elim hp
theorem mo_mod : OpR X (binaryOp .Mod) (lR (gX X) rMod) := by
  intro pins s σ H u v uu vv Q I ru rv hh
  obtain ⟨ρ, h, x, y, Qp, R, r1, r2, hp, k⟩ := hh
  cases r1 with
  | int i =>
    cases r2 with
    | int j =>
      obtain ⟨c, q⟩ := (show 0 < j ∧ Qp (.int (i % j)) h from hp)
      exact L2.op_mod pins s σ H _ _ _ _ Q I ru rv ⟨i, j, rfl, rfl, c, k ρ H h _ _ .refl R (.int _) q⟩
    | _ => exact False.elim hp
  | _ => exact False.elim hp
theorem mo_neg : UnR X (unaryOp .USub) (lU (gX X) rNeg) := by
  intro pins s σ H u uu Q I ru hh
  obtain ⟨ρ, h, x, Qp, R, r1, hp, k⟩ := hh
  cases r1 with
  | int i => exact L2.un_neg pins s σ H _ _ Q I ru ⟨i, rfl, k ρ H h _ _ .refl R (.int _) hp⟩
  | _ => exact False.elim hp
/-! ### comparisons -/
theorem mo_cmp {op : CmpOp} {p : Int → Int → Bool} {q : Str → Str → Bool} (hi : OpR X (compareOp op) (rI0 fun i j => .bl (p i j))) (hs : OpR X (compareOp op) (fun x y H Q => ∃ i j, x = .str i ∧ y = .str j ∧ Q (.bl (q i j)) H)) :
    OpR X (compareOp op) (lR (gX X) (cmpI p q)) := by
  intro pins s σ H u v uu vv Q I ru rv hh
  obtain ⟨ρ, h, x, y, Qp, R, r1, r2, hp, k⟩ := hh
  cases r1 with
  | int i =>
    cases r2 with
    | int j => exact hi pins s σ H _ _ _ _ Q I ru rv ⟨i, j, rfl, rfl, k ρ H h _ _ .refl R (.bl _) hp⟩
    | _ => exact False.elim hp
  | @str a oa =>
    cases r2 with
    | @str b ob => exact hs pins s σ H _ _ _ _ Q I ru rv ⟨a, b, rfl, rfl, k ρ H h _ _ .refl R (.bl _) hp⟩
    | _ => exact False.elim hp
  | _ => exact False.elim hp
theorem mo_lt : OpR X (compareOp .Lt) (lR (gX X) rLt) := mo_cmp L2.op_lt L2.op_lt_str
theorem mo_le : OpR X (compareOp .LtE) (lR (gX X) rLe) := mo_cmp L2.op_le L2.op_le_str
theorem mo_gt : OpR X (compareOp .Gt) (lR (gX X) rGt) := mo_cmp L2.op_gt L2.op_gt_str
theorem mo_ge : OpR X (compareOp .GtE) (lR (gX X) rGe) := mo_cmp L2.op_ge L2.op_ge_str
/-! ### data -/
theorem allD_dp {G : LG} {ρ : List Addr} {H : Hp} {g : PV → Option PyData} (ih : ∀ x v d, RV G ρ H x v → g x = some d → Dp G.K H v d) : ∀ {xs : List PV} {vs : List V} {ds : List PyData}, RVs G ρ H xs vs → allD g xs = some ds → DpAll G.K H vs ds
  | _, _, _, .nil, e => by cases e; exact .nil
  | x :: xs, v :: vs, ds, .cons r rs, e => by
    have e' : (match g x, allD g xs with
      | some d, some ds => some (d :: ds)
      | _, _ => none) = some ds := e
    split at e'
    · rename_i d ds' e1 e2
      cases e'
      exact .cons (ih x v d r e1) (allD_dp ih rs e2)
    · cases e'
theorem rd_dp {G : LG} {ρ : List Addr} {H : Hp} {h : PHeap} (R : Rel G ρ H h) : ∀ (f : Nat) (x : PV) (v : V) (d : PyData), RV G ρ H x v → rd h f x = some d → Dp G.K H v d := by
  intro f
  induction f with
  | zero =>
    intro x v d r e
    cases r with
    | non => cases e; exact .non
    | bl b => cases e; exact .bl b
    | int i => cases e; exact .int i
    | str o => cases e; exact .str _
    | _ => cases e
  | succ f ih =>
    intro x v d r e
    cases r with
    | non => cases e; exact .non
    | bl b => cases e; exact .bl b
    | int i => cases e; exact .int i
    | str o => cases e; exact .str _
    | @tup xs a vs q l rs =>
      have e' : (rdL (rd h f) xs).map PyData.tuple = some d := e
      obtain ⟨ds, e1, e2⟩ := Option.map_eq_some_iff.mp e'
      subst e2
      exact .tup q (allD_dp ih rs (rdL_ok e1).2)
    | @fl xs a vs q l rs =>
      have e' : (rdL (rd h f) xs).map PyData.list = some d := e
      obtain ⟨ds, e1, e2⟩ := Option.map_eq_some_iff.mp e'
      subst e2
      exact .lst q.seq (allD_dp ih rs (rdL_ok e1).2)
    | @ref n a ea =>
      have e' : (match h[n]? with
        | some (.lst xs) => (rdL (rd h f) xs).map PyData.list
        | _ => none) = some d := e
      split at e'
      · rename_i xs en
        obtain ⟨a', vs, ea', ev, l, rs⟩ := R.lst en
        rw [ea] at ea'; cases ea'
        obtain ⟨ds, e1, e2⟩ := Option.map_eq_some_iff.mp e'
        subst e2
        exact .lst (.of ev) (allD_dp ih rs (rdL_ok e1).2)
      · cases e'
theorem allD_shaped {G : LG} {ρ : List Addr} {H : Hp} {g : PV → Option PyData} {k : Nat} (ih : ∀ x v d, RV G ρ H x v → g x = some d → d.canLay0 = true ∧ d.depth ≤ k) : ∀ {xs : List PV} {vs : List V} {ds : List PyData}, RVs G ρ H xs vs → allD g xs = some ds → PyData.canLayAll0 ds = true ∧ PyData.depthAll ds ≤ k
  | _, _, _, .nil, e => by cases e; exact ⟨rfl, by simp [PyData.depthAll]⟩
  | x :: xs, v :: vs, ds, .cons r rs, e => by
    have e' : (match g x, allD g xs with
      | some d, some ds => some (d :: ds)
      | _, _ => none) = some ds := e
    split at e'
    · rename_i d ds' e1 e2
      cases e'
      obtain ⟨a1, a2⟩ := ih x v d r e1
      obtain ⟨b1, b2⟩ := allD_shaped ih rs e2
      refine ⟨?_, ?_⟩
      · show (d.canLay0 && PyData.canLayAll0 ds') = true
        rw [a1, b1]
        rfl
      · simp only [PyData.depthAll]
        omega
    · cases e'
theorem rd_shaped {G : LG} {ρ : List Addr} {H : Hp} {h : PHeap} (R : Rel G ρ H h) : ∀ (f : Nat) (x : PV) (v : V) (d : PyData), RV G ρ H x v → rd h f x = some d → d.canLay0 = true ∧ d.depth ≤ f := by
  intro f
  induction f with
  | zero =>
    intro x v d r e
    cases r with
    | non => cases e; exact ⟨rfl, by simp [PyData.depth]⟩
    | bl b => cases e; exact ⟨rfl, by simp [PyData.depth]⟩
    | int i => cases e; exact ⟨rfl, by simp [PyData.depth]⟩
    | str o => cases e; exact ⟨o.2, by simp [PyData.depth]⟩
    | _ => cases e
  | succ f ih =>
    intro x v d r e
    cases r with
    | non => cases e; exact ⟨rfl, by simp [PyData.depth]⟩
    | bl b => cases e; exact ⟨rfl, by simp [PyData.depth]⟩
    | int i => cases e; exact ⟨rfl, by simp [PyData.depth]⟩
    | str o => cases e; exact ⟨o.2, by simp [PyData.depth]⟩
    | @tup xs a vs q l rs =>
      have e' : (rdL (rd h f) xs).map PyData.tuple = some d := e
      obtain ⟨ds, e1, e2⟩ := Option.map_eq_some_iff.mp e'
      subst e2
      obtain ⟨z1, z2⟩ := allD_shaped ih rs (rdL_ok e1).2
      exact ⟨z1, by simp only [PyData.depth]; omega⟩
    | @fl xs a vs q l rs =>
      have e' : (rdL (rd h f) xs).map PyData.list = some d := e
      obtain ⟨ds, e1, e2⟩ := Option.map_eq_some_iff.mp e'
      subst e2
      obtain ⟨z1, z2⟩ := allD_shaped ih rs (rdL_ok e1).2
      exact ⟨z1, by simp only [PyData.depth]; omega⟩
    | @ref n a ea =>
      have e' : (match h[n]? with
        | some (.lst xs) => (rdL (rd h f) xs).map PyData.list
        | _ => none) = some d := e
      split at e'
      · rename_i xs en
        obtain ⟨a', vs, ea', ev, l, rs⟩ := R.lst en
        obtain ⟨ds, e1, e2⟩ := Option.map_eq_some_iff.mp e'
        subst e2
        obtain ⟨z1, z2⟩ := allD_shaped ih rs (rdL_ok e1).2
        exact ⟨z1, by simp only [PyData.depth]; omega⟩
      · cases e'
theorem shaped_of {d : PyData} (h : d.canLay0 = true ∧ d.depth ≤ 64) : SeqAt.shaped d = true := by
  unfold SeqAt.shaped
  rw [h.1, decide_eq_true h.2]
  rfl
theorem mo_eq (hu : X.A.units + 64 < cLine) : OpR X (compareOp .Eq) (lR (gX X) rEqP) := by
  intro pins s σ H u v uu vv Q I ru rv hh
  obtain ⟨ρ, h, x, y, Qp, R, r1, r2, hp, k⟩ := hh
  dsimp only [rEqP] at hp
  split at hp
  · rename_i d e e1 e2
    exact L2.op_eqD hu pins s σ H _ _ _ _ Q I ru rv ⟨d, e, rd_dp R 64 x u d r1 e1, rd_dp R 64 y v e r2 e2, shaped_of (rd_shaped R 64 x u d r1 e1), shaped_of (rd_shaped R 64 y v e r2 e2), k ρ H h _ _ .refl R (.bl _) hp⟩
  · exact hp.elim
theorem mo_ne (hu : X.A.units + 64 < cLine) : OpR X (compareOp .NotEq) (lR (gX X) rNeP) := by
  intro pins s σ H u v uu vv Q I ru rv hh
  obtain ⟨ρ, h, x, y, Qp, R, r1, r2, hp, k⟩ := hh
  dsimp only [rNeP] at hp
  split at hp
  · rename_i d e e1 e2
    exact L2.op_neD hu pins s σ H _ _ _ _ Q I ru rv ⟨d, e, rd_dp R 64 x u d r1 e1, rd_dp R 64 y v e r2 e2, shaped_of (rd_shaped R 64 x u d r1 e1), shaped_of (rd_shaped R 64 y v e r2 e2), k ρ H h _ _ .refl R (.bl _) hp⟩
  · exact hp.elim
/-- in: a text in a text, or any data in a list or a tuple -/
theorem itemsOf_sq {G : LG} {ρ : List Addr} {H : Hp} {h : PHeap} {y : PV} {v : V} {ys : List PV} (R : Rel G ρ H h) (r : RV G ρ H y v) (e : itemsOf h y = some ys) :
    ∃ b us, v = .ref b ∧ (SqL G.K H b us ∨ SqT G.K H b us) ∧ us.length ≤ sizeLine ∧ RVs G ρ H ys us := by
  cases r with
  | @tup xs a vs q l rs => cases e; exact ⟨a, vs, rfl, .inr q, l, rs⟩
  | @fl xs a vs q l rs => cases e; exact ⟨a, vs, rfl, .inl q.seq, l, rs⟩
  | @ref n a ea =>
    have e' : (match h[n]? with
      | some (.lst xs) => some xs
      | _ => none) = some ys := e
    split at e'
    · rename_i xs en
      cases e'
      obtain ⟨a', vs, ea', ev, l, rs⟩ := R.lst en
      rw [ea] at ea'; cases ea'
      exact ⟨a, vs, rfl, .inl (.of ev), l, rs⟩
    · cases e'
  | _ => cases e
theorem lstOf_sq {G : LG} {ρ : List Addr} {H : Hp} {h : PHeap} {y : PV} {v : V} {ys : List PV} (R : Rel G ρ H h) (r : RV G ρ H y v) (e : lstOf h y = some ys) :
    ∃ b us, v = .ref b ∧ SqL G.K H b us ∧ us.length ≤ sizeLine ∧ RVs G ρ H ys us := by
  cases r with
  | @fl xs a vs q l rs => cases e; exact ⟨a, vs, rfl, q.seq, l, rs⟩
  | @ref n a ea =>
    have e' : (match h[n]? with
      | some (.lst xs) => some xs
      | _ => none) = some ys := e
    split at e'
    · rename_i xs en
      cases e'
      obtain ⟨a', vs, ea', ev, l, rs⟩ := R.lst en
      rw [ea] at ea'; cases ea'
      exact ⟨a, vs, rfl, .of ev, l, rs⟩
    · cases e'
  | _ => cases e
theorem op_inDT (hu : X.A.units + 65 < cLine) : OpR X (compareOp .In) (fun x y H Q => ∃ d ds, Dp X.K H x d ∧ Dp X.K H y (.tuple ds) ∧ SeqAt.shaped d = true ∧ SeqAt.shaped (.tuple ds) = true ∧ Q (.bl (ds.any fun z => PyData.eqv z d)) H) := by
  intro pins s σ H x y v u Q I rx ry h
  obtain ⟨d, ds, hd, he, sd, se, q⟩ := h
  obtain ⟨as, r1⟩ := Dp.reads I d x v hd rx
  obtain ⟨bs, r2⟩ := Dp.reads I (.tuple ds) y u he ry
  exact SeqAt.in_tuple_reads r2 r1 (SeqAt.canLay_of_shaped se) (SeqAt.canLay_of_shaped sd) (room_in_shaped sd hu) ⟨.bl _, H, I, rfl, q⟩
theorem op_notInDT (hu : X.A.units + 65 < cLine) : OpR X (compareOp .NotIn) (fun x y H Q => ∃ d ds, Dp X.K H x d ∧ Dp X.K H y (.tuple ds) ∧ SeqAt.shaped d = true ∧ SeqAt.shaped (.tuple ds) = true ∧ Q (.bl (!ds.any fun z => PyData.eqv z d)) H) := by
  intro pins s σ H x y v u Q I rx ry h
  obtain ⟨d, ds, hd, he, sd, se, q⟩ := h
  obtain ⟨as, r1⟩ := Dp.reads I d x v hd rx
  obtain ⟨bs, r2⟩ := Dp.reads I (.tuple ds) y u he ry
  exact SeqAt.notIn_tuple_reads r2 r1 (SeqAt.canLay_of_shaped se) (SeqAt.canLay_of_shaped sd) (room_in_shaped sd hu) ⟨.bl _, H, I, rfl, q⟩
end
end MP
set_option maxHeartbeats 4000000
/-! MP4: in, subscripts, slices, built-ins, kinds, methods. -/
namespace MP
open PySem PySem.Spec PyProof.Rows L2 TL

section
variable {X : Cx} {xa : Option (Nat × Addr × Value × Option Addr)}
theorem shaped_list {ds : List PyData} (h : PyData.canLayAll0 ds = true ∧ PyData.depthAll ds ≤ 63) : SeqAt.shaped (.list ds) = true := shaped_of ⟨h.1, by simp only [PyData.depth]; omega⟩
theorem shaped_tup {ds : List PyData} (h : PyData.canLayAll0 ds = true ∧ PyData.depthAll ds ≤ 63) : SeqAt.shaped (.tuple ds) = true := shaped_of ⟨h.1, by simp only [PyData.depth]; omega⟩
theorem in_core {neg : Bool} {op : CmpOp} (f : Bool → Bool) (hs : OpR X (compareOp op) (fun x y H Q => ∃ i j, x = .str i ∧ y = .str j ∧ Q (.bl (f (strIn i j))) H))
    (hl : OpR X (compareOp op) (fun x y H Q => ∃ d ds, Dp X.K H x d ∧ Dp X.K H y (.list ds) ∧ SeqAt.shaped d = true ∧ SeqAt.shaped (.list ds) = true ∧ Q (.bl (f (ds.any fun z => PyData.eqv z d))) H))
    (ht : OpR X (compareOp op) (fun x y H Q => ∃ d ds, Dp X.K H x d ∧ Dp X.K H y (.tuple ds) ∧ SeqAt.shaped d = true ∧ SeqAt.shaped (.tuple ds) = true ∧ Q (.bl (f (ds.any fun z => PyData.eqv z d))) H)) :
    OpR X (compareOp op) (lR (gX X) fun x y h Q => match inP h x y with
      | some b => Q (.bl (f b)) h
      | none => False) := by
  intro pins s σ H u v uu vv Q I ru rv hh
  obtain ⟨ρ, h, x, y, Qp, R, r1, r2, hp, k⟩ := hh
  have seq : ∀ (ys : List PV), itemsOf h y = some ys → (∀ (b : Bool), (match rd h 64 x, allD (rd h 63) ys with
      | some d, some ds => some (ds.any fun z => PyData.eqv z d)
      | _, _ => none) = some b → Qp (.bl (f b)) h → wpAny (model X.prog X.w) X.A (compareOp op uu vv) (EP X pins σ Q) X.xe s) := by
    intro ys ey b eb q
    split at eb
    · rename_i d ds e1 e2
      cases eb
      have k1 := rd_dp R 64 x u d r1 e1
      have k2 := rd_shaped R 64 x u d r1 e1
      cases r2 with
      | @tup xs a vs qq l rs =>
        cases ey
        exact ht pins s σ H _ _ _ _ Q I ru rv ⟨d, ds, k1, .tup qq (allD_dp (rd_dp R 63) rs e2), shaped_of k2, shaped_tup (allD_shaped (rd_shaped R 63) rs e2), k ρ H h _ _ .refl R (.bl _) q⟩
      | @fl xs a vs qq l rs =>
        cases ey
        exact hl pins s σ H _ _ _ _ Q I ru rv ⟨d, ds, k1, .lst qq.seq (allD_dp (rd_dp R 63) rs e2), shaped_of k2, shaped_list (allD_shaped (rd_shaped R 63) rs e2), k ρ H h _ _ .refl R (.bl _) q⟩
      | @ref n a ea =>
        have e' : (match h[n]? with
          | some (.lst xs) => some xs
          | _ => none) = some ys := ey
        split at e'
        · rename_i xs en
          cases e'
          obtain ⟨a', vs, ea', ev, l, rs⟩ := R.lst en
          rw [ea] at ea'; cases ea'
          exact hl pins s σ H _ _ _ _ Q I ru rv ⟨d, ds, k1, .lst (.of ev) (allD_dp (rd_dp R 63) rs e2), shaped_of k2, shaped_list (allD_shaped (rd_shaped R 63) rs e2), k ρ H h _ _ .refl R (.bl _) q⟩
        · cases e'
      | _ => cases ey
    · cases eb
  split at hp
  · rename_i b eb
    unfold inP at eb
    split at eb
    · rename_i a c
      cases eb
      cases r1
      cases r2
      exact hs pins s σ H _ _ _ _ Q I ru rv ⟨_, _, rfl, rfl, k ρ H h _ _ .refl R (.bl _) hp⟩
    · split at eb
      · rename_i ys ey
        exact seq ys ey b eb hp
      · cases eb
  · exact hp.elim
theorem mo_in (hu : X.A.units + 65 < cLine) : OpR X (compareOp .In) (lR (gX X) rInP) := in_core (neg := false) (fun b => b) L2.op_in_str (op_inD hu) (op_inDT hu)
theorem mo_notIn (hu : X.A.units + 65 < cLine) : OpR X (compareOp .NotIn) (lR (gX X) rNotInP) := in_core (neg := true) (fun b => !b) L2.op_notin_str (op_notInD hu) (op_notInDT hu)
/-! ### subscripts -/
theorem atI_rv {G : LG} {ρ : List Addr} {H : Hp} {xs : List PV} {vs : List V} {i : Int} {x : PV} (r : RVs G ρ H xs vs) (e : atI xs i = some x) : ∃ v, atI vs i = some v ∧ RV G ρ H x v := by
  unfold atI at e ⊢
  obtain ⟨j, e1, e2⟩ := Option.bind_eq_some_iff.mp e
  rw [r.length] at e1
  obtain ⟨v, e3, r'⟩ := r.get e2
  exact ⟨v, by rw [e1]; exact e3, r'⟩
theorem atI_mem {α : Type} {xs : List α} {i : Int} {x : α} (e : atI xs i = some x) : x ∈ xs := by
  unfold atI at e
  obtain ⟨j, _, e2⟩ := Option.bind_eq_some_iff.mp e
  exact List.mem_of_getElem? e2
theorem mi_ix : IxR X (lR (gX X) rIx) := by
  intro vl sl pins s σ H u v uu vv Q I ru rv hh hsub
  obtain ⟨ρ, h, x, y, Qp, R, r1, r2, hp, k⟩ := hh
  cases r2 with
  | int i =>
    have seq : ∀ xs, itemsOf h x = some xs → (match atI xs i with
        | some v => Qp v h
        | none => False) → wpAny (model X.prog X.w) X.A (subscriptTail vl sl uu vv) (EP X pins σ Q) X.xe s := fun xs ex q => by
      split at q
      · rename_i z ez
        obtain ⟨b, us, e1, sq, l, rs⟩ := itemsOf_sq R r1 ex
        obtain ⟨w', e2, r'⟩ := atI_rv rs ez
        subst e1
        rcases sq with sq | sq
        · exact ix_list vl sl pins s σ H _ _ _ _ Q I ru rv ⟨b, us, i, w', rfl, rfl, sq, e2, k ρ H h _ _ .refl R r' q⟩ hsub
        · exact ix_tup vl sl pins s σ H _ _ _ _ Q I ru rv ⟨b, us, i, w', rfl, rfl, sq, e2, k ρ H h _ _ .refl R r' q⟩ hsub
      · exact q.elim
    dsimp only [rIx] at hp
    split at hp
    · rename_i a
      cases r1 with
      | @str _ oa =>
        split at hp
        · rename_i c ec
          exact ix_str vl sl pins s σ H _ _ _ _ Q I ru rv ⟨a, i, c, rfl, rfl, oa.1, ec, k ρ H h _ _ .refl R (.str (okS_one oa (atI_mem ec))) hp⟩ hsub
        · exact hp.elim
    · split at hp
      · rename_i xs ex
        exact seq xs ex hp
      · exact hp.elim
  | _ => exact False.elim hp
variable {W : WX} {a b e : Expr} {ta tb te : PTE} {t tl' : PTA} {pos : Pos}
theorem le_ix (ha : PE X a (lE (gX X) xa W ta)) (hb : PE X b (lE (gX X) xa W tb)) (hs : PlainIx b) : PE X (.Subscript a b pos) (lE (gX X) xa W (pOp rIx ta tb)) :=
  PE_imp (pe_ix mi_ix ha hb hs) fun _ _ _ h => lR_of h
/-- a temporary list at an index -/
def lIxT (G : LG) : R2 := fun u v H Q => ∃ ρ h D us xs y Qp, u = .ref D ∧ Rel G ρ H h ∧ RVs G ρ H xs us ∧ H D = some (.lst us) ∧ RV G ρ H y v ∧ rIxT xs y h Qp ∧ ∀ ρ' H' h' z w, Ext ρ H ρ' H' → Rel G ρ' H' h' → RV G ρ' H' z w → Qp z h' → Q w H'
theorem mi_ixT : IxR X (lIxT (gX X)) := by
  intro vl sl pins s σ H u v uu vv Q I ru rv hh hsub
  obtain ⟨ρ, h, D, us, xs, y, Qp, e0, R, rs, hD, r2, hp, k⟩ := hh
  subst e0
  cases r2 with
  | int i =>
    dsimp only [rIxT] at hp
    split at hp
    · rename_i z ez
      obtain ⟨w', e2, r'⟩ := atI_rv rs ez
      exact ix_list vl sl pins s σ H _ _ _ _ Q I ru rv ⟨D, us, i, w', rfl, rfl, .of hD, e2, k ρ H h _ _ .refl R r' hp⟩ hsub
    · exact hp.elim
  | _ => exact False.elim hp
theorem le_ixT (ha : PE X a (lL (gX X) xa W t)) (hb : PE X b (lE (gX X) xa W tb)) (hs : PlainIx b) : PE X (.Subscript a b pos) (lE (gX X) xa W (pIxT rIxT t tb)) := by
  refine PE_imp (pe_ix mi_ixT ha hb hs) fun σ H Q h => ?_
  obtain ⟨ρ, τ, h, Qp, Ep, R, S, hp, k, kx⟩ := h
  refine ⟨ρ, τ, h, _, Ep, R, S, hp, fun ρ1 H1 h1 xs D vs E1 R1 r1 l hD nD fD q1 => ?_, kx⟩
  refine ⟨ρ1, τ, h1, _, Ep, R1, S.mono R.trk E1, q1, fun ρ2 H2 h2 y u E2 R2 r2 q2 => ?_, kx.mono E1⟩
  exact ⟨ρ2, h2, D, vs, xs, y, Qp, rfl, R2, r1.mono R1.trk E2, (E2.keep _ _ hD nD).1, r2, q2, fun ρ3 H3 h3 z w E3 R3 r3 q3 => k ρ3 H3 h3 z w (E1.trans (E2.trans E3)) R3 r3 q3⟩
/-! ### slices -/
variable {lo hi : Option Expr} {tlo thi : PTO} {p2 : Pos}
theorem lo_none : PO X none (lO (gX X) xa W pNoPart) := by
  refine PO_imp po_none fun σ H Q h => ?_
  obtain ⟨ρ, τ, h, Qp, Ep, R, S, hp, k, kx⟩ := h
  exact k ρ H h none .refl R hp
theorem lo_some (h : PE X e (lE (gX X) xa W te)) : PO X (some e) (lO (gX X) xa W (pPart te)) := by
  refine PO_imp (po_some h) fun σ H Q h => ?_
  obtain ⟨ρ, τ, h, Qp, Ep, R, S, hp, k, kx⟩ := h
  refine ⟨ρ, τ, h, _, Ep, R, S, hp, fun ρ1 H1 h1 x v E1 R1 r1 q1 => ?_, kx⟩
  cases r1 with
  | int i => exact ⟨i, rfl, k ρ1 H1 h1 (some i) E1 R1 q1⟩
  | _ => exact False.elim q1
def lSl (G : LG) : V → Option Int → Option Int → Hp → VK → Prop := fun u lo hi H Q => ∃ ρ h x Qp, Rel G ρ H h ∧ RV G ρ H x u ∧ rCut x lo hi h Qp ∧ ∀ ρ' H' h' z w, Ext ρ H ρ' H' → Rel G ρ' H' h' → RV G ρ' H' z w → Qp z h' → Q w H'
theorem cut_len {vs : List V} (lo hi : Option Int) (l : vs.length ≤ sizeLine) : (cut vs lo hi).length ≤ sizeLine := Nat.le_trans (cutV_length vs lo hi) l
theorem ms_cut : SlR X (lSl (gX X)) := by
  intro pins s σ H u v vl vu lo hi sl Q I ru hs pl pu hh
  obtain ⟨ρ, h, x, Qp, R, r1, hp, k⟩ := hh
  cases r1 with
  | @str a oa => exact sl_str pins s σ H _ v vl vu lo hi sl Q I ru hs pl pu ⟨a, rfl, oa.1, k ρ H h _ _ .refl R (.str (okS_cut oa lo hi)) hp⟩
  | @tup xs a vs q l rs =>
    refine sl_tupA pins s σ H _ v vl vu lo hi sl Q I ru hs pl pu ⟨a, vs, rfl, q, fun hw => ?_, fun _ p np => ?_⟩
    · have e : cut xs lo hi = xs := by
        unfold cut
        rw [rs.length, hw.1, hw.2, List.drop_zero, Nat.sub_zero, ← rs.length, List.take_length]
      have hp' : Qp (.tup (cut xs lo hi)) h := hp
      rw [e] at hp'
      exact k ρ H h _ _ .refl R (.tup q l rs) hp'
    · obtain ⟨E2, R2, r3⟩ := R.newT (vs := cut vs lo hi) np (cut_len lo hi l) (rs.cut lo hi)
      exact k ρ _ h _ _ E2 R2 r3 hp
  | @fl xs a vs q l rs =>
    refine sl_list pins s σ H _ v vl vu lo hi sl Q I ru hs pl pu ⟨a, vs, rfl, q.seq, fun p np => ?_⟩
    obtain ⟨E2, R2, r3⟩ := R.new (vs := cut vs lo hi) np (cut_len lo hi l) (rs.cut lo hi)
    exact k _ _ _ _ _ E2 R2 r3 hp
  | @ref n a ea =>
    dsimp only [rCut] at hp
    split at hp
    · rename_i xs en
      obtain ⟨a', vs, ea', ev, l, rs⟩ := R.lst en
      rw [ea] at ea'; cases ea'
      refine sl_list pins s σ H _ v vl vu lo hi sl Q I ru hs pl pu ⟨a, vs, rfl, .of ev, fun p np => ?_⟩
      obtain ⟨E2, R2, r3⟩ := R.new (vs := cut vs lo hi) np (cut_len lo hi l) (rs.cut lo hi)
      exact k _ _ _ _ _ E2 R2 r3 hp
    · exact hp.elim
  | _ => exact False.elim hp
theorem le_slice (he : PE X e (lE (gX X) xa W te)) (hl : PO X lo (lO (gX X) xa W tlo)) (hu : PO X hi (lO (gX X) xa W thi)) : PE X (.Subscript e (.Slice lo hi none p2) pos) (lE (gX X) xa W (pSlice te tlo thi)) := by
  refine PE_imp (pe_slice ms_cut he hl hu) fun σ H Q h => ?_
  obtain ⟨ρ, τ, h, Qp, Ep, R, S, hp, k, kx⟩ := h
  refine ⟨ρ, τ, h, _, Ep, R, S, hp, fun ρ1 H1 h1 x v E1 R1 r1 q1 => ?_, kx⟩
  have S1 := S.mono R.trk E1
  refine ⟨ρ1, τ, h1, _, Ep, R1, S1, q1, fun ρ2 H2 h2 l E2 R2 q2 => ?_, kx.mono E1⟩
  refine ⟨ρ2, τ, h2, _, Ep, R2, S1.mono R1.trk E2, q2, fun ρ3 H3 h3 u E3 R3 q3 => ?_, kx.mono (E1.trans E2)⟩
  exact ⟨ρ3, h3, x, Qp, R3, r1.mono R1.trk (E2.trans E3), q3, fun ρ4 H4 h4 z w E4 R4 r4 q4 => k ρ4 H4 h4 z w (E1.trans (E2.trans (E3.trans E4))) R4 r4 q4⟩
/-! ### calls of built-ins -/
variable {es : List Expr} {r : PCb} {x : Str} {p : Pos} {id T : String}
theorem lCB_of {σ : St} {H : Hp} {Q : VK} (h : lE (gX X) xa W (pCB r t) σ H Q) : tCB (lC (gX X) r) (lA (gX X) xa W t) σ H Q := by
  obtain ⟨ρ, τ, h, Qp, Ep, R, S, hp, k, kx⟩ := h
  refine ⟨ρ, τ, h, _, Ep, R, S, hp, fun ρ1 H1 h1 xs vs E1 R1 r1 q1 => ?_, kx⟩
  exact ⟨ρ1, h1, xs, Qp, R1, r1, q1, fun ρ3 H3 h3 z w E3 R3 r3 q3 => k ρ3 H3 h3 z w (E1.trans E3) R3 r3 q3⟩
theorem lCT_of {σ : St} {H : Hp} {Q : VK} (h : lE (gX X) xa W (pCT r t) σ H Q) : tCB (lCT (gX X) r) (tCons (lL (gX X) xa W t) tNil) σ H Q := by
  obtain ⟨ρ, τ, h, Qp, Ep, R, S, hp, k, kx⟩ := h
  refine ⟨ρ, τ, h, _, Ep, R, S, hp, fun ρ1 H1 h1 xs D vs E1 R1 r1 l hD nD fD q1 => ?_, kx⟩
  exact ⟨ρ1, h1, xs, D, vs, Qp, rfl, R1, r1, l, hD, nD, q1, fun ρ3 H3 h3 z w E3 R3 r3 q3 => k ρ3 H3 h3 z w (E1.trans E3) R3 r3 q3⟩
/-- f(e, ..), a built-in function -/
theorem le_callB (hc : CallR X (.builtin id) (lC (gX X) r)) (hg : Gl X x) (hm : X.mg x = none) (hv : bootBuiltins x = some (.builtin id)) (ha : PA X (e :: es) (lA (gX X) xa W t)) (hn : x ≠ "__name__" := by decide) (hdb : (x == ("__debug__" : Str)) = false := by decide)
    (he : starEach (e :: es) X.env = (false, eval e X.env) :: starEach es X.env := by rfl) (hpl : (backTo pos (starEach es X.env)).any (·.1) = false := by rfl) : PE X (.Call (.Name x p) (e :: es) [] pos) (lE (gX X) xa W (pCB r t)) :=
  PE_imp (pe_callB hc hg hm hv ha hn hdb he hpl) fun _ _ _ h => lCB_of h
theorem le_callTy (hc : CallR X (.type T) (lC (gX X) r)) (hg : Gl X x) (hm : X.mg x = none) (hv : bootBuiltins x = some (.type T)) (ha : PA X (e :: es) (lA (gX X) xa W t)) (hn : x ≠ "__name__" := by decide) (hdb : (x == ("__debug__" : Str)) = false := by decide)
    (he : starEach (e :: es) X.env = (false, eval e X.env) :: starEach es X.env := by rfl) (hpl : (backTo pos (starEach es X.env)).any (·.1) = false := by rfl) : PE X (.Call (.Name x p) (e :: es) [] pos) (lE (gX X) xa W (pCB r t)) :=
  PE_imp (pe_callTy hc hg hm hv ha hn hdb he hpl) fun _ _ _ h => lCB_of h
/-- f([..]) -/
theorem le_callBT (hc : CallR X (.builtin id) (lCT (gX X) r)) (hg : Gl X x) (hm : X.mg x = none) (hv : bootBuiltins x = some (.builtin id)) (ha : PE X e (lL (gX X) xa W t)) (hn : x ≠ "__name__" := by decide) (hdb : (x == ("__debug__" : Str)) = false := by decide)
    (he : starEach [e] X.env = (false, eval e X.env) :: starEach [] X.env := by rfl) : PE X (.Call (.Name x p) [e] [] pos) (lE (gX X) xa W (pCT r t)) :=
  PE_imp (pe_callB hc hg hm hv (pa_cons ha pa_nil he) hn hdb he rfl) fun _ _ _ h => lCT_of h
theorem le_callTyT (hc : CallR X (.type T) (lCT (gX X) r)) (hg : Gl X x) (hm : X.mg x = none) (hv : bootBuiltins x = some (.type T)) (ha : PE X e (lL (gX X) xa W t)) (hn : x ≠ "__name__" := by decide) (hdb : (x == ("__debug__" : Str)) = false := by decide)
    (he : starEach [e] X.env = (false, eval e X.env) :: starEach [] X.env := by rfl) : PE X (.Call (.Name x p) [e] [] pos) (lE (gX X) xa W (pCT r t)) :=
  PE_imp (pe_callTy hc hg hm hv (pa_cons ha pa_nil he) hn hdb he rfl) fun _ _ _ h => lCT_of h
theorem one_rv {G : LG} {ρ : List Addr} {H : Hp} {x : PV} {vs : List V} (r : RVs G ρ H [x] vs) : ∃ v, vs = [v] ∧ RV G ρ H x v := by
  cases r with
  | cons r rs => cases rs; exact ⟨_, rfl, r⟩
theorem two_rv {G : LG} {ρ : List Addr} {H : Hp} {x y : PV} {vs : List V} (r : RVs G ρ H [x, y] vs) : ∃ v u, vs = [v, u] ∧ RV G ρ H x v ∧ RV G ρ H y u := by
  cases r with
  | cons r rs =>
    cases rs with
    | cons r' rs => cases rs; exact ⟨_, _, rfl, r, r'⟩
theorem mc_len : CallR X (.builtin "len") (lC (gX X) rLen) := by
  intro pins s σ H vs us Q I rr hh
  obtain ⟨ρ, h, xs, Qp, R, r1, hp, k⟩ := hh
  unfold rLen at hp
  split at hp
  · obtain ⟨v, e, r⟩ := one_rv r1
    subst e
    cases r with
    | @str a oa => exact L2.call_len pins s σ H _ us Q I rr ⟨_, _, rfl, ⟨oa.1, rfl⟩, k ρ H h _ _ .refl R (.int _) hp⟩
  · obtain ⟨v, e, r⟩ := one_rv r1
    subst e
    cases r with
    | @tup xs a vs q l rs => exact L2.call_len pins s σ H _ us Q I rr ⟨_, _, rfl, .inr ⟨vs, q, rfl⟩, k ρ H h _ _ .refl R (by rw [rs.length]; exact .int _) hp⟩
  · obtain ⟨v, e, r⟩ := one_rv r1
    subst e
    cases r with
    | @fl xs a vs q l rs => exact L2.call_len pins s σ H _ us Q I rr ⟨_, _, rfl, .inl ⟨vs, q.seq, rfl⟩, k ρ H h _ _ .refl R (by rw [rs.length]; exact .int _) hp⟩
  · obtain ⟨v, e, r⟩ := one_rv r1
    subst e
    cases r with
    | @ref n a ea =>
      split at hp
      · rename_i xs en
        obtain ⟨a', vs, ea', ev, l, rs⟩ := R.lst en
        rw [ea] at ea'; cases ea'
        exact L2.call_len pins s σ H _ us Q I rr ⟨_, _, rfl, .inl ⟨vs, .of ev, rfl⟩, k ρ H h _ _ .refl R (by rw [rs.length]; exact .int _) hp⟩
      · exact hp.elim
  · exact hp.elim
theorem mc_int : CallR X (.type "int") (lC (gX X) rIntP) := by
  intro pins s σ H vs us Q I rr hh
  obtain ⟨ρ, h, xs, Qp, R, r1, hp, k⟩ := hh
  unfold rIntP at hp
  split at hp
  · obtain ⟨v, e, r⟩ := one_rv r1
    subst e
    cases r with
    | int i => exact L2.call_int1 pins s σ H _ us Q I rr (.inl ⟨_, rfl, k ρ H h _ _ .refl R (.int _) hp⟩)
  · obtain ⟨v, e, r⟩ := one_rv r1
    subst e
    cases r with
    | bl i => exact L2.call_int1 pins s σ H _ us Q I rr (.inr ⟨_, rfl, k ρ H h _ _ .refl R (.int _) hp⟩)
  · exact hp.elim
theorem mc_abs : CallR X (.builtin "abs") (lC (gX X) rAbs) := by
  intro pins s σ H vs us Q I rr hh
  obtain ⟨ρ, h, xs, Qp, R, r1, hp, k⟩ := hh
  unfold rAbs at hp
  split at hp
  · obtain ⟨v, e, r⟩ := one_rv r1
    subst e
    cases r with
    | int i => exact L2.call_abs pins s σ H _ us Q I rr ⟨_, rfl, k ρ H h _ _ .refl R (.int _) hp⟩
  · exact hp.elim
theorem mc_max2 (hc : X.calm = true) : CallR X (.builtin "max") (lC (gX X) rMax2) := by
  intro pins s σ H vs us Q I rr hh
  obtain ⟨ρ, h, xs, Qp, R, r1, hp, k⟩ := hh
  unfold rMax2 at hp
  split at hp
  · obtain ⟨v, u, e, r, r'⟩ := two_rv r1
    subst e
    cases r with
    | int i =>
      cases r' with
      | int j => exact L2.call_max2 hc pins s σ H _ us Q I rr ⟨_, _, rfl, k ρ H h _ _ .refl R (.int _) hp⟩
  · exact hp.elim
theorem mc_min2 (hc : X.calm = true) : CallR X (.builtin "min") (lC (gX X) rMin2) := by
  intro pins s σ H vs us Q I rr hh
  obtain ⟨ρ, h, xs, Qp, R, r1, hp, k⟩ := hh
  unfold rMin2 at hp
  split at hp
  · obtain ⟨v, u, e, r, r'⟩ := two_rv r1
    subst e
    cases r with
    | int i =>
      cases r' with
      | int j => exact L2.call_min2 hc pins s σ H _ us Q I rr ⟨_, _, rfl, k ρ H h _ _ .refl R (.int _) hp⟩
  · exact hp.elim
/-! ### upon the items of a list -/
theorem bls_vs {G : LG} {ρ : List Addr} {H : Hp} : ∀ {xs : List PV} {vs : List V} {bs : List Bool}, RVs G ρ H xs vs → bls xs = some bs → vs = bs.map V.bl
  | _, _, _, .nil, e => by cases e; rfl
  | x :: xs, v :: vs, bs, .cons r rs, e => by
    cases r with
    | bl b =>
      have e' : (bls xs).map (b :: ·) = some bs := e
      obtain ⟨cs, e1, e2⟩ := Option.map_eq_some_iff.mp e'
      subst e2
      rw [bls_vs rs e1]
      rfl
    | _ => cases e
theorem sts_vs {G : LG} {ρ : List Addr} {H : Hp} : ∀ {xs : List PV} {vs : List V} {bs : List Str}, RVs G ρ H xs vs → sts xs = some bs → vs = bs.map V.str ∧ ∀ b ∈ bs, okS b
  | _, _, _, .nil, e => by cases e; exact ⟨rfl, fun _ z => nomatch z⟩
  | x :: xs, v :: vs, bs, .cons r rs, e => by
    cases r with
    | @str b ob =>
      have e' : (sts xs).map (b :: ·) = some bs := e
      obtain ⟨cs, e1, e2⟩ := Option.map_eq_some_iff.mp e'
      subst e2
      obtain ⟨q1, q2⟩ := sts_vs rs e1
      refine ⟨by rw [q1]; rfl, fun c hc => ?_⟩
      rcases List.mem_cons.mp hc with z | z
      · rw [z]; exact ob
      · exact q2 c z
    | _ => cases e
theorem its_vs {G : LG} {ρ : List Addr} {H : Hp} : ∀ {xs : List PV} {vs : List V} {bs : List Int}, RVs G ρ H xs vs → its xs = some bs → vs = bs.map V.int
  | _, _, _, .nil, e => by cases e; rfl
  | x :: xs, v :: vs, bs, .cons r rs, e => by
    cases r with
    | int b =>
      have e' : (its xs).map (b :: ·) = some bs := e
      obtain ⟨cs, e1, e2⟩ := Option.map_eq_some_iff.mp e'
      subst e2
      rw [its_vs rs e1]
      rfl
    | _ => cases e
/-- what a built-in asks of a list at D with these items -/
def ItR (X : Cx) (f : Value) (r : PCb) : Prop := ∀ (pins : List (Addr × Obj)) (s : Shared) (σ : St) (H : Hp) (D : Addr) (vs : List V) (Q : VK) (ρ : List Addr) (h : PHeap) (xs : List PV) (Qp : PQ), Inv X pins σ H s → SqL X.K H D vs → vs.length ≤ sizeLine →
  Rel (gX X) ρ H h → RVs (gX X) ρ H xs vs → r xs h Qp → (∀ ρ' H' h' z w, Ext ρ H ρ' H' → Rel (gX X) ρ' H' h' → RV (gX X) ρ' H' z w → Qp z h' → Q w H') → wpAny (model X.prog X.w) X.A (call f [.ref D]) (EP X pins σ Q) X.xe s
theorem ItR.tmp {f : Value} (h : ItR X f r) : CallR X f (lCT (gX X) r) := by
  intro pins s σ H vs us Q I rr hh
  obtain ⟨ρ, h', xs, D, ws, Qp, e, R, r1, l, hD, nD, hp, k⟩ := hh
  subst e
  rw [Vals.ref1 rr]
  exact h pins s σ H D ws Q ρ h' xs Qp I (.of hD) l R r1 hp k
theorem ItR.lst {f : Value} (h : ItR X f r) : CallR X f (lC (gX X) (onList r)) := by
  intro pins s σ H vs us Q I rr hh
  obtain ⟨ρ, h', xs, Qp, R, r1, hp, k⟩ := hh
  unfold onList at hp
  split at hp
  · obtain ⟨v, e, r'⟩ := one_rv r1
    subst e
    split at hp
    · rename_i ys ey
      obtain ⟨b, ws, e1, sq, l, rs⟩ := lstOf_sq R r' ey
      subst e1
      rw [Vals.ref1 rr]
      exact h pins s σ H b ws Q ρ h' ys Qp I sq l R rs hp k
    · exact hp.elim
  · exact hp.elim
theorem it_all (hc : X.calm = true) : ItR X (.builtin "all") rAllI := by
  intro pins s σ H D vs Q ρ h xs Qp I sq l R rs hp k
  unfold rAllI at hp
  split at hp
  · rename_i bs eb
    have ev := bls_vs rs eb
    subst ev
    exact L2.cr_all hc pins s σ H [.ref D] [.ref D] Q I (.cons rfl .nil) ⟨D, bs, rfl, sq, k ρ H h _ _ .refl R (.bl _) hp⟩
  · exact hp.elim
theorem it_any (hc : X.calm = true) : ItR X (.builtin "any") rAnyI := by
  intro pins s σ H D vs Q ρ h xs Qp I sq l R rs hp k
  unfold rAnyI at hp
  split at hp
  · rename_i bs eb
    have ev := bls_vs rs eb
    subst ev
    exact L2.cr_any hc pins s σ H [.ref D] [.ref D] Q I (.cons rfl .nil) ⟨D, bs, rfl, sq, k ρ H h _ _ .refl R (.bl _) hp⟩
  · exact hp.elim
theorem it_sum (hc : X.calm = true) : ItR X (.builtin "sum") rSumI := by
  intro pins s σ H D vs Q ρ h xs Qp I sq l R rs hp k
  unfold rSumI at hp
  split at hp
  · rename_i bs eb
    have ev := its_vs rs eb
    subst ev
    exact L2.cr_sum hc pins s σ H [.ref D] [.ref D] Q I (.cons rfl .nil) ⟨D, bs, rfl, sq, k ρ H h _ _ .refl R (.int _) hp⟩
  · exact hp.elim
theorem it_len : ItR X (.builtin "len") rLenT := by
  intro pins s σ H D vs Q ρ h xs Qp I sq l R rs hp k
  exact L2.call_len pins s σ H [.ref D] [.ref D] Q I (.cons rfl .nil) ⟨_, _, rfl, .inl ⟨vs, sq, rfl⟩, k ρ H h _ _ .refl R (by rw [← rs.length]; exact .int _) hp⟩
theorem it_tuple : ItR X (.type "tuple") rTupI := by
  intro pins s σ H D vs Q ρ h xs Qp I sq l R rs hp k
  refine L2.call_tuple_of pins s σ H [.ref D] [.ref D] Q I (.cons rfl .nil) ⟨D, vs, rfl, .inl ⟨sq, fun p np => ?_⟩⟩
  obtain ⟨E2, R2, r3⟩ := R.newT np l rs
  exact k ρ _ h _ _ E2 R2 r3 hp
theorem it_list : ItR X (.type "list") rLstI := by
  intro pins s σ H D vs Q ρ h xs Qp I sq l R rs hp k
  refine L2.call_list_of pins s σ H [.ref D] [.ref D] Q I (.cons rfl .nil) ⟨D, vs, rfl, .inl sq, fun p np => ?_⟩
  obtain ⟨E2, R2, r3⟩ := R.new np l rs
  exact k _ _ _ _ _ E2 R2 r3 hp
/-- list(x), tuple(x) upon a list or a tuple -/
theorem mc_list : CallR X (.type "list") (lC (gX X) (onItems rLstI)) := by
  intro pins s σ H vs us Q I rr hh
  obtain ⟨ρ, h', xs, Qp, R, r1, hp, k⟩ := hh
  unfold onItems at hp
  split at hp
  · obtain ⟨v, e, r'⟩ := one_rv r1
    subst e
    split at hp
    · rename_i ys ey
      obtain ⟨b, ws, e1, sq, l, rs⟩ := itemsOf_sq R r' ey
      subst e1
      refine L2.call_list_of pins s σ H _ us Q I rr ⟨b, ws, rfl, sq, fun p np => ?_⟩
      obtain ⟨E2, R2, r3⟩ := R.new np l rs
      exact k _ _ _ _ _ E2 R2 r3 hp
    · exact hp.elim
  · exact hp.elim
theorem mc_tuple : CallR X (.type "tuple") (lC (gX X) (onItems rTupI)) := by
  intro pins s σ H vs us Q I rr hh
  obtain ⟨ρ, h', xs, Qp, R, r1, hp, k⟩ := hh
  unfold onItems at hp
  split at hp
  · obtain ⟨v, e, r'⟩ := one_rv r1
    subst e
    split at hp
    · rename_i ys ey
      obtain ⟨b, ws, e1, sq, l, rs⟩ := itemsOf_sq R r' ey
      subst e1
      rcases sq with sq | sq
      · refine L2.call_tuple_of pins s σ H _ us Q I rr ⟨b, ws, rfl, .inl ⟨sq, fun p np => ?_⟩⟩
        obtain ⟨E2, R2, r3⟩ := R.newT np l rs
        exact k ρ _ h' _ _ E2 R2 r3 hp
      · exact L2.call_tuple_of pins s σ H _ us Q I rr ⟨b, ws, rfl, .inr ⟨sq, k ρ H h' _ _ .refl R (.tup sq l rs) hp⟩⟩
    · exact hp.elim
  · exact hp.elim
/-! ### kinds -/
def kinds : List String := ["NoneType", "bool", "int", "str", "tuple", "list", "dict", "set"]
theorem kit_all : (kinds.all fun a => kinds.all fun b => decide (kitB a b = some (isiB a b))) = true := by decide +kernel
theorem kit_in {a b : String} (ha : a ∈ kinds) (hb : b ∈ kinds) : kitB a b = some (isiB a b) := by
  have q := List.all_eq_true.mp kit_all a ha
  exact of_decide_eq_true (List.all_eq_true.mp q b hb)
theorem tyOf_ok {G : LG} {ρ : List Addr} {H : Hp} {h : PHeap} {x : PV} {v : V} {t : String} (R : Rel G ρ H h) (r : RV G ρ H x v) (e : tyOf h x = some t) : t ∈ kinds ∧ TyX G.K H v (.type t) := by
  cases r with
  | non => cases e; exact ⟨by decide, .base .non⟩
  | bl b => cases e; exact ⟨by decide, .base (.bl b)⟩
  | int i => cases e; exact ⟨by decide, .base (.int i)⟩
  | str o => cases e; exact ⟨by decide, .base (.str _)⟩
  | @tup xs a vs q l rs =>
    cases e
    refine ⟨by decide, ?_⟩
    rcases q with (q | ⟨o, q⟩) | ⟨o, its, n, q, c, _⟩
    · exact .base (.tup q)
    · exact .fTuple q
    · exact .kTuple q c
  | @fl xs a vs q l rs =>
    cases e
    refine ⟨by decide, ?_⟩
    rcases q with ⟨o, q⟩ | ⟨o, its, n, q, c, _⟩
    · exact .base (.frz q)
    · exact .kList q c
  | @ref n a ea =>
    have e' : (match h[n]? with
      | some (.lst _) => some "list"
      | some (.dct _) => some "dict"
      | some (.set _) => some "set"
      | _ => none) = some t := e
    have hn : n < ρ.length := (List.getElem?_eq_some_iff.mp ea).1
    split at e'
    · rename_i xs en
      cases e'
      obtain ⟨a', vs, ea', ev, l, rs⟩ := R.lst en
      rw [ea] at ea'; cases ea'
      exact ⟨by decide, .base (.lst ev)⟩
    · rename_i kvs en
      exact (R.cell n a _ ea en).elim
    · rename_i kvs en
      exact (R.cell n a _ ea en).elim
    · cases e'
/-- isinstance(e, T) -/
theorem le_isi {T : String} {pT : Pos} {Tn : Str} (ha : PE X e (lE (gX X) xa W te)) (hT : T ∈ kinds) (hg : Gl X "isinstance") (hm : X.mg "isinstance" = none) (hgT : Gl X Tn) (hmT : X.mg Tn = none) (hvT : bootBuiltins Tn = some (.type T))
    (hnT : Tn ≠ "__name__" := by decide) (hdT : (Tn == ("__debug__" : Str)) = false := by decide)
    (hs : starEach [e, .Name Tn pT] X.env = (false, eval e X.env) :: starEach [.Name Tn pT] X.env := by rfl) (hs2 : starEach [Expr.Name Tn pT] X.env = (false, eval (.Name Tn pT) X.env) :: starEach [] X.env := by rfl)
    (hpl : (backTo pos (starEach [Expr.Name Tn pT] X.env)).any (·.1) = false := by rfl) :
    PE X (.Call (.Name "isinstance" p) [e, .Name Tn pT] [] pos) (lE (gX X) xa W (pUn (rIsi T) te)) := by
  refine PE_imp (pe_callB call_isi hg hm (by decide +kernel) (pa_cons ha (pa_cons (pe_bltn (v := .ty T) hgT hmT hvT rfl hnT hdT) pa_nil hs2) hs) (by decide) (by decide) hs hpl) fun σ H Q h => ?_
  obtain ⟨ρ, τ, h, Qp, Ep, R, S, hp, k, kx⟩ := h
  refine ⟨ρ, τ, h, _, Ep, R, S, hp, fun ρ1 H1 h1 x v E1 R1 r1 q1 => ?_, kx⟩
  unfold rIsi at q1
  split at q1
  · rename_i t et
    obtain ⟨m, ty⟩ := tyOf_ok R1 r1 et
    exact ⟨v, .ty T, .type t, .type T, isiB t T, rfl, .ty T, ty, kit_ty (kit_in m hT), k ρ1 H1 h1 _ _ E1 R1 (.bl _) q1⟩
  · exact q1.elim
theorem kitAny_ok {K : PySem.W.Frag} {t : String} (m : t ∈ kinds) : ∀ {Ts : List String}, (∀ T ∈ Ts, T ∈ kinds) → PySem.W.kitAny K (.type t) (Ts.map Value.type) = some (Ts.any (isiB t))
  | [], _ => kitAny_nil
  | T :: Ts, h => by
    refine kitAny_cons (b := isiB t T) (kit_ty (kit_in m (h T List.mem_cons_self))) (fun e => ?_) fun e => ?_
    · rw [List.any_cons, e, Bool.false_or]
      exact kitAny_ok m fun T' h' => h T' (List.mem_cons_of_mem _ h')
    · rw [List.any_cons, e, Bool.true_or]
/-- isinstance(e, (T, U)) -/
theorem le_isi2 {T U : String} {pT pU pt : Pos} {kt} {Tn Un : Str} (ha : PE X e (lE (gX X) xa W te)) (hT : T ∈ kinds) (hU : U ∈ kinds) (hg : Gl X "isinstance") (hm : X.mg "isinstance" = none) (hgT : Gl X Tn) (hmT : X.mg Tn = none) (hvT : bootBuiltins Tn = some (.type T)) (hgU : Gl X Un) (hmU : X.mg Un = none) (hvU : bootBuiltins Un = some (.type U))
    (hnT : Tn ≠ "__name__" := by decide) (hdT : (Tn == ("__debug__" : Str)) = false := by decide) (hnU : Un ≠ "__name__" := by decide) (hdU : (Un == ("__debug__" : Str)) = false := by decide)
    (hs : starEach [e, .Tuple [.Name Tn pT, .Name Un pU] kt pt] X.env = (false, eval e X.env) :: starEach [.Tuple [.Name Tn pT, .Name Un pU] kt pt] X.env := by rfl) (hs2 : starEach [Expr.Tuple [.Name Tn pT, .Name Un pU] kt pt] X.env = (false, eval (.Tuple [.Name Tn pT, .Name Un pU] kt pt) X.env) :: starEach [] X.env := by rfl)
    (hs3 : starEach [Expr.Name Tn pT, Expr.Name Un pU] X.env = (false, eval (.Name Tn pT) X.env) :: starEach [Expr.Name Un pU] X.env := by rfl) (hs4 : starEach [Expr.Name Un pU] X.env = (false, eval (.Name Un pU) X.env) :: starEach [] X.env := by rfl)
    (hpl : (backTo pos (starEach [Expr.Tuple [.Name Tn pT, .Name Un pU] kt pt] X.env)).any (·.1) = false := by rfl) :
    PE X (.Call (.Name "isinstance" p) [e, .Tuple [.Name Tn pT, .Name Un pU] kt pt] [] pos) (lE (gX X) xa W (pUn (rIsiT [T, U]) te)) := by
  refine PE_imp (pe_callB call_isiT hg hm (by decide +kernel) (pa_cons ha (pa_cons (pe_tup (pa_cons (pe_bltn (v := .ty T) hgT hmT hvT rfl hnT hdT) (pa_cons (pe_bltn (v := .ty U) hgU hmU hvU rfl hnU hdU) pa_nil hs4) hs3)) pa_nil hs2) hs) (by decide) (by decide) hs hpl) fun σ H Q h => ?_
  obtain ⟨ρ, τ, h, Qp, Ep, R, S, hp, k, kx⟩ := h
  refine ⟨ρ, τ, h, _, Ep, R, S, hp, fun ρ1 H1 h1 x v E1 R1 r1 q1 => ?_, kx⟩
  unfold rIsiT at q1
  split at q1
  · rename_i t et
    refine ⟨by show 2 ≤ sizeLine; rw [sizeLine_eq]; decide, fun tp np => ?_⟩
    obtain ⟨E2, R2, _⟩ := R1.skip (o := .tup [.ty T, .ty U]) np
    obtain ⟨m, ty⟩ := tyOf_ok R2 (r1.mono R1.trk E2) et
    exact ⟨v, tp, _, .type t, [.type T, .type U], _, rfl, upd_same, .cons (.ty T) (.cons (.ty U) .nil), ty, kitAny_ok m (Ts := [T, U]) (fun z hz => by
      rcases List.mem_cons.mp hz with e | e
      · rw [e]; exact hT
      · rw [List.mem_singleton.mp e]; exact hU), k ρ1 _ h1 _ _ (E1.trans E2) R2 (.bl _) q1⟩
  · exact q1.elim
/-! ### methods -/
def lM (G : LG) (r : PMt) : V → List V → Hp → VK → Prop := fun u vs H Q => ∃ ρ h x xs Qp, Rel G ρ H h ∧ RV G ρ H x u ∧ RVs G ρ H xs vs ∧ r x xs h Qp ∧ ∀ ρ' H' h' z w, Ext ρ H ρ' H' → Rel G ρ' H' h' → RV G ρ' H' z w → Qp z h' → Q w H'
/-- o.m(e, ..) of a text, a list -/
def PMtTy (T : String) (h : PHeap) (x : PV) : Prop := tyOf h x = some T
theorem tyV_of {G : LG} {ρ : List Addr} {H : Hp} {h : PHeap} {x : PV} {v : V} (R : Rel G ρ H h) (r : RV G ρ H x v) (T : String) (hT : T = "str" ∨ T = "list") (e : tyOf h x = some T) : tyV G.K T v H := by
  cases r with
  | @str a oa => cases e; exact rfl
  | @tup xs a vs q l rs => cases e; exact absurd hT (by decide)
  | @fl xs a vs q l rs => cases e; exact .inl ⟨rfl, vs, q.seq⟩
  | @ref n a ea =>
    have e' : (match h[n]? with
      | some (.lst _) => some "list"
      | some (.dct _) => some "dict"
      | some (.set _) => some "set"
      | _ => none) = some T := e
    split at e'
    · rename_i xs en
      cases e'
      obtain ⟨a', vs, ea', ev, l, rs⟩ := R.lst en
      rw [ea] at ea'; cases ea'
      exact .inl ⟨rfl, vs, .of ev⟩
    · rename_i kvs en
      exact (R.cell n a _ ea en).elim
    · rename_i kvs en
      exact (R.cell n a _ ea en).elim
    · cases e'
  | non => cases e; exact absurd hT (by decide)
  | bl b => cases e; exact absurd hT (by decide)
  | int i => cases e; exact absurd hT (by decide)
end
end MP
set_option maxHeartbeats 4000000
/-! MP5: methods, what is walked, comprehensions, statements. -/
namespace MP
open PySem PySem.Spec PyProof.Rows L2 TL

section
variable {X : Cx} {xa : Option (Nat × Addr × Value × Option Addr)} {W : WX} {o e a b c : Expr} {es : List Expr} {to te ta tb : PTE} {t : PTA} {pos apos cpos : Pos}
/-! ### methods -/
/-- a receiver whose kind is seen ahead of the arguments -/
def pMtT (T : String) (r : PMt) (o : PTE) (t : PTA) : PTE := fun τ h Q E => o τ h (fun x h1 => tyOf h1 x = some T ∧ t τ h1 (fun vs h2 => r x vs h2 Q) E) E
theorem le_bm {T id : String} {name : Str} {r : PMt} (hT : T = "str" ∨ T = "list") (pa : PlainAttrs T) (slot : Slot T name id) (hty : typeOf (.builtin id) = pure (.type "method_descriptor")) (hm : MtR X id (lM (gX X) r)) (ho : PE X o (lE (gX X) xa W to)) (ha : PA X (e :: es) (lA (gX X) xa W t))
    (hbase : attributeBase o name X.env (eval o X.env) = eval o X.env := by rfl)
    (hfew : ((backTo cpos (starEach (e :: es) X.env)).all (fun x => !x.1) && (backToKw cpos (keywordEach [] X.env)).all (fun x => x.1.isSome)
      && decide ((e :: es).length + ([] : List Keyword).length + (if ([] : List Keyword).isEmpty then 0 else 1) < 30)) = true := by rfl)
    (hline : (apos.endLine == cpos.line) = true := by rfl) (hs : starEach (e :: es) X.env = (false, eval e X.env) :: starEach es X.env := by rfl) (hplain : (backTo cpos (starEach es X.env)).any (·.1) = false := by rfl) :
    PE X (.Call (.Attribute o name apos) (e :: es) [] cpos) (lE (gX X) xa W (pMtT T r to t)) := by
  refine PE_imp (pe_bm pa slot hty hm ho ha hbase hfew hline hs hplain) fun σ H Q h => ?_
  obtain ⟨ρ, τ, h, Qp, Ep, R, S, hp, k, kx⟩ := h
  refine ⟨ρ, τ, h, _, Ep, R, S, hp, fun ρ1 H1 h1 x v E1 R1 r1 q1 => ?_, kx⟩
  have S1 := S.mono R.trk E1
  refine ⟨tyV_of R1 r1 T hT q1.1, ρ1, τ, h1, _, Ep, R1, S1, q1.2, fun ρ2 H2 h2 xs vs E2 R2 r2 q2 => ?_, kx.mono E1⟩
  exact ⟨ρ2, h2, x, xs, Qp, R2, r1.mono R1.trk E2, r2, q2, fun ρ3 H3 h3 z w E3 R3 r3 q3 => k ρ3 H3 h3 z w (E1.trans (E2.trans E3)) R3 r3 q3⟩
theorem mm_append : MtR X "list.append" (lM (gX X) rAppend) := by
  intro pins s σ H u vs uu us Q I ru rr hh
  obtain ⟨ρ, h, x, xs, Qp, R, r1, r2, hp, k⟩ := hh
  unfold rAppend at hp
  split at hp
  · rename_i n y
    obtain ⟨v, e, r'⟩ := one_rv r2
    subst e
    cases r1 with
    | @ref _ a ea =>
      split at hp
      · rename_i ys en
        obtain ⟨z, q⟩ := hp
        obtain ⟨a', ws, ea', ev, l, rs⟩ := R.lst en
        rw [ea] at ea'; cases ea'
        have l' : (ws ++ [v]).length ≤ sizeLine := by
          have := rs.length
          rw [List.length_append, List.length_singleton]
          omega
        obtain ⟨E2, R2, M⟩ := R.set ea ev l' (rs.append (.cons r' .nil))
        have hz : ws.length < sizeLine := by rw [← rs.length]; exact z
        exact mt_append pins s σ H _ _ uu us Q I ru rr ⟨a, ws, v, rfl, rfl, ev, hz, k _ _ _ _ _ E2 R2 .non q⟩
      · exact hp.elim
  · exact hp.elim
theorem vals_sts {ρ : List Addr} {H : Hp} {G : LG} : ∀ {l : List Str}, (∀ p ∈ l, okS p) → RVs G ρ H (l.map PV.str) (l.map V.str)
  | [], _ => .nil
  | s :: l, h => .cons (.str (h s List.mem_cons_self)) (vals_sts fun p hp => h p (List.mem_cons_of_mem _ hp))
theorem spl_mem (S : List Nat) : ∀ (l : List Nat) (k : Nat) (acc : List Nat), ∀ p ∈ spl S k acc l, ∀ c ∈ p, c ∈ acc ∨ c ∈ l
  | [], k, acc, p, hp, c, hc => by
    rw [spl_nil] at hp
    rw [List.mem_singleton.mp hp] at hc
    exact .inl hc
  | d :: r, k + 1, acc, p, hp, c, hc => (spl_mem S r k acc p hp c hc).imp id (List.mem_cons_of_mem _)
  | d :: r, 0, acc, p, hp, c, hc => by
    by_cases e : pre S (d :: r) = true
    · rw [spl_hit e] at hp
      rcases List.mem_cons.mp hp with z | z
      · rw [z] at hc; exact .inl hc
      · rcases spl_mem S r _ [] p z c hc with z | z
        · cases z
        · exact .inr (List.mem_cons_of_mem _ z)
    · rw [spl_miss (by simpa using e)] at hp
      rcases spl_mem S r 0 _ p hp c hc with z | z
      · rcases List.mem_append.mp z with z | z
        · exact .inl z
        · rw [List.mem_singleton.mp z]; exact .inr List.mem_cons_self
      · exact .inr (List.mem_cons_of_mem _ z)
theorem spl_size (S : List Nat) : ∀ (l : List Nat) (k : Nat) (acc : List Nat), ∀ p ∈ spl S k acc l, p.length ≤ acc.length + l.length
  | [], k, acc, p, hp => by
    rw [spl_nil] at hp
    rw [List.mem_singleton.mp hp]
    simp
  | d :: r, k + 1, acc, p, hp => Nat.le_trans (spl_size S r k acc p hp) (by simp only [List.length_cons]; omega)
  | d :: r, 0, acc, p, hp => by
    by_cases e : pre S (d :: r) = true
    · rw [spl_hit e] at hp
      rcases List.mem_cons.mp hp with z | z
      · rw [z]; omega
      · have := spl_size S r _ [] p z
        simp at this ⊢
        omega
    · rw [spl_miss (by simpa using e)] at hp
      have := spl_size S r 0 _ p hp
      simp at this ⊢
      omega
theorem spl_len (S : List Nat) : ∀ (l : List Nat) (k : Nat) (acc : List Nat), (spl S k acc l).length ≤ l.length + 1
  | [], k, acc => by rw [spl_nil]; simp
  | d :: r, k + 1, acc => Nat.le_trans (spl_len S r k acc) (by simp)
  | d :: r, 0, acc => by
    by_cases e : pre S (d :: r) = true
    · rw [spl_hit e]
      have := spl_len S r (S.length - 1) []
      simp only [List.length_cons]
      omega
    · rw [spl_miss (by simpa using e)]
      exact Nat.le_trans (spl_len S r 0 _) (by simp)
theorem split_ok {a b : Str} (oa : okS a) (q1 : (b.length == 0) = false) (q2 : b.cps.all (· < 256) = true) (q3 : a.length + 2 ≤ sizeLine) : (Txt.split a b).length ≤ sizeLine ∧ ∀ p ∈ Txt.split a b, okS p := by
  have hne : tl b ≠ [] := fun e => by
    rw [len_tl, e] at q1
    cases q1
  have e := split_spl a b hne (kind_ok q2)
  have l0 := spl_len (tl b) (tl a) 0 []
  rw [← e, List.length_map, ← len_tl] at l0
  have e3 : ∀ p ∈ Txt.split a b, (∀ c ∈ tl p, c ∈ tl a) := fun p hp c hc => by
    have z := spl_mem (tl b) (tl a) 0 [] (tl p) (by rw [← e]; exact List.mem_map_of_mem hp) c hc
    rcases z with z | z
    · cases z
    · exact z
  refine ⟨by omega, fun p hp => okS_sub oa ?_ (e3 p hp)⟩
  have := spl_size (tl b) (tl a) 0 [] (tl p) (by rw [← e]; exact List.mem_map_of_mem hp)
  rw [len_tl, len_tl]
  simpa using this
theorem mm_split : MtR X "str.split" (lM (gX X) rSplit) := by
  intro pins s σ H u vs uu us Q I ru rr hh
  obtain ⟨ρ, h, x, xs, Qp, R, r1, r2, hp, k⟩ := hh
  unfold rSplit at hp
  split at hp
  · rename_i a b
    obtain ⟨v, e, r'⟩ := one_rv r2
    subst e
    cases r1
    cases r'
    rename_i oa ob
    obtain ⟨q1, q0, q2, q⟩ := hp
    obtain ⟨q3, q4⟩ := split_ok oa q1 q0 q2
    refine mt_split pins s σ H _ _ uu us Q I ru rr ⟨a, b, rfl, rfl, q1, q2, fun p np => ?_⟩
    obtain ⟨E2, R2, r3⟩ := R.new (xs := (Txt.split a b).map PV.str) (vs := (Txt.split a b).map V.str) np (by rw [List.length_map]; exact q3) (vals_sts q4)
    exact k _ _ _ _ _ E2 R2 r3 q
  · exact hp.elim
/-! ### join -/
theorem sum_le_joined (a : Str) : ∀ ys : List Str, (Str.join a ys).length ≤ joinLen a ys := by
  intro ys
  rw [len_tl, tl_join]
  unfold joinLen
  have : ∀ (S : List Nat) (l : List (List Nat)), (joinL S l).length ≤ (l.map List.length).sum + l.length * S.length := by
    intro S l
    induction l with
    | nil => simp [joinL]
    | cons p r ih =>
      cases r with
      | nil => simp [joinL]
      | cons q r =>
        simp only [joinL, List.length_append, List.map_cons, List.sum_cons, List.length_cons] at ih ⊢
        have e : (r.length + 1 + 1) * S.length = (r.length + 1) * S.length + S.length := Nat.succ_mul _ _
        omega
  have z := this (tl a) (ys.map tl)
  rw [List.map_map, List.length_map, ← len_tl] at z
  have e : ys.map (List.length ∘ tl) = ys.map (·.length) := List.map_congr_left fun y _ => (len_tl y).symm
  rw [e] at z
  exact z
theorem mem_joinL {c : Nat} {S : List Nat} : ∀ {l : List (List Nat)}, c ∈ joinL S l → c ∈ S ∨ ∃ p ∈ l, c ∈ p
  | [], h => by simp [joinL] at h
  | [p], h => .inr ⟨p, List.mem_cons_self, by simpa [joinL] using h⟩
  | p :: q :: r, h => by
    have h' : c ∈ p ++ (S ++ joinL S (q :: r)) ∨ c ∈ p ++ S ++ joinL S (q :: r) := by
      first
        | (left; simpa [joinL] using h)
        | (right; simpa [joinL] using h)
    have h2 : c ∈ p ∨ c ∈ S ∨ c ∈ joinL S (q :: r) := by
      rcases h' with h' | h'
      · rcases List.mem_append.mp h' with z | z
        · exact .inl z
        · rcases List.mem_append.mp z with z | z
          · exact .inr (.inl z)
          · exact .inr (.inr z)
      · rcases List.mem_append.mp h' with z | z
        · rcases List.mem_append.mp z with z | z
          · exact .inl z
          · exact .inr (.inl z)
        · exact .inr (.inr z)
    rcases h2 with z | z | z
    · exact .inr ⟨p, List.mem_cons_self, z⟩
    · exact .inl z
    · rcases mem_joinL z with z | ⟨p', hp, z⟩
      · exact .inl z
      · exact .inr ⟨p', List.mem_cons_of_mem _ hp, z⟩
theorem okS_all {s : Str} : okS s ↔ s.length ≤ sizeLine ∧ ∀ c ∈ tl s, c < 0x110000 := by
  unfold okS
  refine and_congr_right fun _ => ?_
  unfold PySem.PyData.strOk
  rw [← Array.all_toList, List.all_eq_true]
  exact ⟨fun h c hc => of_decide_eq_true (h c hc), fun h c hc => decide_eq_true (h c hc)⟩
theorem okS_join {a : Str} {ys : List Str} (ha : okS a) (hy : ∀ y ∈ ys, okS y) (l : joinLen a ys ≤ 16777216) : okS (Txt.join a ys) := by
  rw [join_eq]
  refine okS_all.mpr ⟨Nat.le_trans (sum_le_joined a ys) (by rw [sizeLine_eq]; exact l), fun c hc => ?_⟩
  rw [tl_join] at hc
  rcases mem_joinL hc with z | ⟨p, hp, z⟩
  · exact (okS_all.mp ha).2 c z
  · obtain ⟨y, hy', rfl⟩ := List.mem_map.mp hp
    exact (okS_all.mp (hy y hy')).2 c z
/-- s.join(a temporary list) -/
def pJoinT (o : PTE) (t : PTA) : PTE := fun τ h Q E => o τ h (fun x h1 => match x with
  | .str a => t τ h1 (fun vs h2 => rJoinI a vs h2 Q) E
  | _ => False) E
def lJT (G : LG) : V → List V → Hp → VK → Prop := fun u vs H Q => ∃ ρ h a xs D us Qp, u = .str a ∧ okS a ∧ vs = [.ref D] ∧ Rel G ρ H h ∧ RVs G ρ H xs us ∧ H D = some (.lst us) ∧ rJoinI a xs h Qp ∧ ∀ ρ' H' h' z w, Ext ρ H ρ' H' → Rel G ρ' H' h' → RV G ρ' H' z w → Qp z h' → Q w H'
theorem mm_joinT : MtR X "str.join" (lJT (gX X)) := by
  intro pins s σ H u vs uu us Q I ru rr hh
  obtain ⟨ρ, h, a, xs, D, ws, Qp, e1, oa, e2, R, rs, hD, hp, k⟩ := hh
  subst e1 e2
  unfold rJoinI at hp
  split at hp
  · rename_i ys ey
    obtain ⟨l, q⟩ := hp
    obtain ⟨ew, oy⟩ := sts_vs rs ey
    subst ew
    exact mt_join pins s σ H _ _ uu us Q I ru rr ⟨a, D, ys, rfl, rfl, .inl (.of hD), l, k ρ H h _ _ .refl R (.str (okS_join oa oy l)) q⟩
  · exact hp.elim
theorem le_joinT (ho : PE X o (lE (gX X) xa W to)) (he : PE X e (lL (gX X) xa W t)) (hs : starEach [e] X.env = [(false, eval e X.env)] := by rfl) (hbase : attributeBase o "join" X.env (eval o X.env) = eval o X.env := by rfl) (hline : (apos.endLine == pos.line) = true := by rfl) :
    PE X (.Call (.Attribute o "join" apos) [e] [] pos) (lE (gX X) xa W (pJoinT to t)) := by
  refine PE_imp (pe_m1 (te := lL (gX X) xa W t) F.slot_str_join F.type_str_join (mm_joinT) ho he hs hbase hline) fun σ H Q h => ?_
  obtain ⟨ρ, τ, h, Qp, Ep, R, S, hp, k, kx⟩ := h
  refine ⟨ρ, τ, h, _, Ep, R, S, hp, fun ρ1 H1 h1 x v E1 R1 r1 q1 => ?_, kx⟩
  cases r1 with
  | @str a oa =>
    have S1 := S.mono R.trk E1
    refine ⟨⟨a, rfl⟩, ρ1, τ, h1, _, Ep, R1, S1, q1, fun ρ2 H2 h2 xs D vs E2 R2 r2 l hD nD fD q2 => ?_, kx.mono E1⟩
    exact ⟨ρ2, h2, a, xs, D, vs, Qp, rfl, oa, rfl, R2, r2, hD, q2, fun ρ3 H3 h3 z w E3 R3 r3 q3 => k ρ3 H3 h3 z w (E1.trans (E2.trans E3)) R3 r3 q3⟩
  | _ => exact False.elim q1
/-! ### targets -/
/-- the target's own slots -/
def Tg.slots : Tg → List Nat
  | .nm i => [i]
  | .tp ts => slotsL ts
where slotsL : List Tg → List Nat
  | [] => []
  | t :: ts => t.slots ++ slotsL ts
def lG (G : LG) (xa : XA) (g : Tg) : TG := fun v σ H Q => ∃ ρ τ h x τ', Rel G ρ H h ∧ RS G xa ρ H τ σ ∧ RV G ρ H x v ∧ pG g x τ = some τ' ∧ ∀ σ', RS G xa ρ H τ' σ' → (∀ vs : List Nat, (∀ i ∈ g.slots, i ∈ vs) → wipe σ' vs = wipe σ vs) → Q σ' H
def lGs (G : LG) (xa : XA) (gs : List Tg) : TGs := fun vs σ H Q => ∃ ρ τ h xs τ', Rel G ρ H h ∧ RS G xa ρ H τ σ ∧ RVs G ρ H xs vs ∧ xs.length = gs.length ∧ pGs gs xs τ = some τ' ∧ ∀ σ', RS G xa ρ H τ' σ' → (∀ vs : List Nat, (∀ i ∈ Tg.slots.slotsL gs, i ∈ vs) → wipe σ' vs = wipe σ vs) → Q σ' H
theorem PG_imp {e : Expr} {t t' : TG} (p : PG X e t) (f : ∀ v σ H Q, t' v σ H Q → t v σ H Q) : PG X e t' := ⟨fun pins s σ H v u Q I r h => p.run pins s σ H v u Q I r (f v σ H Q h)⟩
theorem PGs_imp {e : List Expr} {t t' : TGs} (p : PGs X e t) (f : ∀ v σ H Q, t' v σ H Q → t v σ H Q) : PGs X e t' := ⟨fun pins s σ H v u Q I r h => p.run pins s σ H v u Q I r (f v σ H Q h)⟩
theorem wipe_at (σ : St) (j : Nat) : ∀ vs : List Nat, (wipe σ vs)[j]? = if j ∈ vs then (σ[j]?).map fun _ => none else σ[j]?
  | [] => by rw [if_neg (by simp)]; rfl
  | i :: is => by
    show ((wipe σ is).set i none)[j]? = _
    by_cases hj : i = j
    · subst hj
      rw [if_pos List.mem_cons_self]
      by_cases hl : i < σ.length
      · rw [List.getElem?_set_self (by rw [wipe_length]; exact hl), List.getElem?_eq_getElem hl]
        rfl
      · rw [List.getElem?_eq_none (by rw [List.length_set, wipe_length]; exact Nat.le_of_not_lt hl), List.getElem?_eq_none (Nat.le_of_not_lt hl)]
        rfl
    · rw [List.getElem?_set_ne hj, wipe_at σ j is]
      by_cases hm : j ∈ is
      · rw [if_pos hm, if_pos (List.mem_cons_of_mem _ hm)]
      · rw [if_neg hm, if_neg (fun z => (List.mem_cons.mp z).elim (fun e => hj e.symm) hm)]
theorem wipe_set {σ : St} {i : Nat} {o : Option V} {vs : List Nat} (h : i ∈ vs) : wipe (σ.set i o) vs = wipe σ vs := by
  apply List.ext_getElem?
  intro j
  rw [wipe_at, wipe_at]
  by_cases hj : i = j
  · subst hj
    rw [if_pos h, if_pos h]
    by_cases hl : i < σ.length
    · rw [List.getElem?_set_self hl, List.getElem?_eq_getElem hl]
      rfl
    · rw [List.getElem?_eq_none (by rw [List.length_set]; exact Nat.le_of_not_lt hl), List.getElem?_eq_none (Nat.le_of_not_lt hl)]
  · rw [List.getElem?_set_ne hj]
theorem lg_name {i : Nat} {e : Expr} (h : PG X e (gName i)) : PG X e (lG (gX X) xa (.nm i)) := by
  refine PG_imp h fun v σ H Q hh => ?_
  obtain ⟨ρ, τ, h, x, τ', R, S, r, e, k⟩ := hh
  cases e
  exact k _ (S.set r) fun vs hv => wipe_set (hv i List.mem_cons_self)
theorem lgs_nil : PGs X [] (lGs (gX X) xa []) := by
  refine PGs_imp pgs_nil fun v σ H Q hh => ?_
  obtain ⟨ρ, τ, h, xs, τ', R, S, r, l, e, k⟩ := hh
  cases e
  have : xs = [] := List.length_eq_zero_iff.mp l
  subst this
  cases r
  exact ⟨rfl, k _ S fun _ _ => rfl⟩
theorem lgs_cons {e : Expr} {es : List Expr} {g : Tg} {gs : List Tg} (h1 : PG X e (lG (gX X) xa g)) (h2 : PGs X es (lGs (gX X) xa gs))
    (hs : (assignEach (e :: es) X.env).map (·.2) = assign e X.env :: (assignEach es X.env).map (·.2) := by rfl) : PGs X (e :: es) (lGs (gX X) xa (g :: gs)) := by
  refine PGs_imp (pgs_cons h1 h2 hs) fun v σ H Q hh => ?_
  obtain ⟨ρ, τ, h, xs, τ', R, S, r, l, e, k⟩ := hh
  cases r with
  | nil => cases l
  | @cons x v xs vs r rs =>
    have e' : (match pG g x τ with
      | some τ1 => pGs gs xs τ1
      | none => none) = some τ' := e
    split at e'
    · rename_i τ1 e1
      refine ⟨v, vs, rfl, ρ, τ, h, x, τ1, R, S, r, e1, fun σ1 S1 w1 => ?_⟩
      refine ⟨ρ, τ1, h, xs, τ', R, S1, rs, by simpa using l, e', fun σ2 S2 w2 => k σ2 S2 fun ws hw => ?_⟩
      rw [w2 ws fun i hi => hw i (List.mem_append_right _ hi)]
      exact w1 ws fun i hi => hw i (List.mem_append_left _ hi)
    · cases e'
theorem lg_tup {es : List Expr} {k : Nat} {gs : List Tg} (hc : X.calm = true) (h : PGs X es (lGs (gX X) xa gs)) (hn : (assignEach es X.env).length = gs.length := by rfl) (hst : (assignEach es X.env).findIdx? (·.1) = none := by rfl) :
    PG X (.Tuple es k pos) (lG (gX X) xa (.tp gs)) := by
  refine PG_imp (pg_tup (n := gs.length) hc h hn hst) fun v σ H Q hh => ?_
  obtain ⟨ρ, τ, h, x, τ', R, S, r, e, k⟩ := hh
  cases r with
  | @tup xs a vs q l rs =>
    have e' : (if xs.length = gs.length then pGs gs xs τ else none) = some τ' := by simpa [pG] using e
    split at e'
    · rename_i hl
      exact ⟨a, vs, rfl, q, by rw [← rs.length]; exact hl, ρ, τ, h, xs, τ', R, S, rs, hl, e', fun σ' S' w' => k σ' S' w'⟩
    · cases e'
  | _ => simp [pG] at e
end
end MP
set_option maxHeartbeats 4000000
/-! MP6: what is walked, comprehensions, statements. -/
namespace MP
open PySem PySem.Spec PyProof.Rows L2 TL

/-- an iterator of the hand layer gives out these items, while ok -/
def Sim (G : LG) (J : It) (xs : List PV) (ok : PHeap → Prop) (ρ0 : List Addr) (H0 : Hp) : Prop := ∀ (i : Nat) (ρ : List Addr) (H : Hp) (h : PHeap), Ext ρ0 H0 ρ H → Rel G ρ H h → ok h →
  (∀ x, xs[i]? = some x → J.go i H ∧ ∀ v H', J.yld i H v H' → Ext ρ H ρ H' ∧ Rel G ρ H' h ∧ RV G ρ H' x v) ∧ (xs.length ≤ i → J.stop i H)
def lI (G : LG) (xa : XA) (W : WX) (t : PTI) : TI := fun σ H R => ∃ ρ τ h Rp Ep, Rel G ρ H h ∧ RS G xa ρ H τ σ ∧ t τ h Rp Ep ∧ (∀ ρ' H' h' xs ok J, Ext ρ H ρ' H' → Rel G ρ' H' h' → Sim G J xs ok ρ' H' → Rp xs ok h' → R J H') ∧ XC G W ρ H σ Ep
theorem PI_imp {X : Cx} {tg e : Expr} {t t' : TI} (p : PI X tg e t) (f : ∀ σ H R, t' σ H R → t σ H R) : PI X tg e t' := ⟨fun pins s σ H R I h => p.run pins s σ H R I (f σ H R h)⟩
section
variable {G : LG} {ρ : List Addr} {H : Hp} {h : PHeap}
theorem sim_tup {a : Addr} {xs : List PV} {vs : List V} (T : Trk ρ H) (q : SqT G.K H a vs) (r : RVs G ρ H xs vs) : Sim G (Itt G.K a) xs (fun _ => True) ρ H := by
  intro i ρ' H' h' E R _
  have q' := SqT.ext T E q
  have r' := r.mono T E
  refine ⟨fun x ex => ?_, fun hl => ⟨vs, q', by rw [← r.length]; exact hl⟩⟩
  obtain ⟨v, ev, rv⟩ := r'.get ex
  refine ⟨⟨vs, v, q', ev⟩, fun u H2 y => ?_⟩
  obtain ⟨e, y⟩ := y
  subst e
  have z := y vs q'
  rw [ev] at z
  cases z
  exact ⟨.refl, R, rv⟩
theorem sim_fl {a : Addr} {xs : List PV} {vs : List V} (T : Trk ρ H) (q : FzL G.K H a vs) (r : RVs G ρ H xs vs) : Sim G (Itl G.K a) xs (fun _ => True) ρ H := by
  intro i ρ' H' h' E R _
  have q' := (FzL.ext T E q).seq
  have r' := r.mono T E
  refine ⟨fun x ex => ?_, fun hl => ⟨vs, q', by rw [← r.length]; exact hl⟩⟩
  obtain ⟨v, ev, rv⟩ := r'.get ex
  refine ⟨⟨vs, v, q', ev⟩, fun u H2 y => ?_⟩
  obtain ⟨e, y⟩ := y
  subst e
  have z := y vs q'
  rw [ev] at z
  cases z
  exact ⟨.refl, R, rv⟩
theorem sim_tmp {a : Addr} {xs : List PV} {vs : List V} (T : Trk ρ H) (q : H a = some (.lst vs)) (na : a ∉ ρ) (r : RVs G ρ H xs vs) : Sim G (Itl G.K a) xs (fun _ => True) ρ H := by
  intro i ρ' H' h' E R _
  have q' : SqL G.K H' a vs := .of (E.keep _ _ q na).1
  have r' := r.mono T E
  refine ⟨fun x ex => ?_, fun hl => ⟨vs, q', by rw [← r.length]; exact hl⟩⟩
  obtain ⟨v, ev, rv⟩ := r'.get ex
  refine ⟨⟨vs, v, q', ev⟩, fun u H2 y => ?_⟩
  obtain ⟨e, y⟩ := y
  subst e
  have z := y vs q'
  rw [ev] at z
  cases z
  exact ⟨.refl, R, rv⟩
theorem sim_ref {n : Nat} {a : Addr} {xs : List PV} (ea : ρ[n]? = some a) : Sim G (Itl G.K a) xs (fun h => h[n]? = some (.lst xs)) ρ H := by
  intro i ρ' H' h' E R en
  obtain ⟨a', vs, ea', ev, l, rs⟩ := R.lst en
  rw [E.get ea] at ea'; cases ea'
  refine ⟨fun x ex => ?_, fun hl => ⟨vs, .of ev, by rw [← rs.length]; exact hl⟩⟩
  obtain ⟨v, ev', rv⟩ := rs.get ex
  refine ⟨⟨vs, v, .of ev, ev'⟩, fun u H2 y => ?_⟩
  obtain ⟨e, y⟩ := y
  subst e
  have z := y vs (.of ev)
  rw [ev'] at z
  cases z
  exact ⟨.refl, R, rv⟩
theorem sim_rng (lo : Int) (n : Nat) : Sim G (Itr lo n) (rngOf lo n) (fun _ => True) ρ H := by
  intro i ρ' H' h' E R _
  refine ⟨fun x ex => ?_, fun hl => by unfold rngOf at hl; rw [List.length_map, List.length_range] at hl; exact hl⟩
  unfold rngOf at ex
  rw [List.getElem?_map] at ex
  obtain ⟨j, ej, e2⟩ := Option.map_eq_some_iff.mp ex
  obtain ⟨hj, e3⟩ := List.getElem?_eq_some_iff.mp ej
  rw [List.getElem_range] at e3
  rw [List.length_range] at hj
  subst e3
  refine ⟨hj, fun v H2 y => ?_⟩
  obtain ⟨e, y⟩ := y
  subst e y e2
  exact ⟨.refl, R, .int _⟩
theorem sim_str {s : Str} (o : okS s) : Sim G (Its s) (charsOf s) (fun _ => True) ρ H := by
  intro i ρ' H' h' E R _
  refine ⟨fun x ex => ?_, fun hl => by unfold charsOf at hl; rw [List.length_map, Array.length_toList] at hl; exact hl⟩
  unfold charsOf at ex
  rw [List.getElem?_map] at ex
  obtain ⟨c, ec, e2⟩ := Option.map_eq_some_iff.mp ex
  have ec' : s.cps[i]? = some c := by simpa using ec
  refine ⟨(Array.getElem?_eq_some_iff.mp ec').1, fun v H2 y => ?_⟩
  obtain ⟨e, c', ec2, y⟩ := y
  subst e y e2
  rw [ec'] at ec2
  cases ec2
  exact ⟨.refl, R, .str (okS_one o (List.mem_of_getElem? ec))⟩
end
section
variable {X : Cx} {xa : Option (Nat × Addr × Value × Option Addr)} {W : WX} {tg l : Expr} {tl : PTE} {t : PTA}
/-- over a list, a tuple, a text -/
def iAny (K : PySem.W.Frag) (te : TE) : TI := fun σ H R => te σ H fun x H1 => (∃ a, x = .ref a ∧ (∃ xs, SqL K H1 a xs) ∧ R (Itl K a) H1) ∨ (∃ a, x = .ref a ∧ (∃ xs, SqT K H1 a xs) ∧ R (Itt K a) H1) ∨ (∃ z, x = .str z ∧ R (Its z) H1)
theorem pi_any {te : TE} (hl : PE X l te) : PI X tg l (iAny X.K te) := by
  refine ⟨fun pins s σ H R I h => ?_⟩
  refine thn (hl.run pins s σ H _ I h) fun v s1 ⟨x, H1, I1, r1, q1⟩ => ?_
  rcases q1 with ⟨a, e, ⟨xs, hq⟩, q⟩ | ⟨a, e, ⟨xs, hq⟩, q⟩ | ⟨z, e, q⟩
  · subst e
    cases r1
    obtain ⟨its, rv, p, hz⟩ := I1.list hq
    refine wpAny_pyIter_list p.isList ?_
    refine ⟨s1.heap.objs.size, [s1.heap.objs.size], _, _, H1, rfl, I1.kept (t' := s1.toks) fun b o e => Heap.get?_push_of_some _ e, turn_list a _, ⟨_, Heap.get?_push_size _ rfl, rfl, rfl⟩, fun b hb => ?_, q⟩
    have e : b = s1.heap.objs.size := by simpa using hb
    subst e
    exact I1.fpOk (Nat.le_refl _) (I1.hok.fresh (Nat.le_refl _))
  · subst e
    cases r1
    obtain ⟨its, rv, p, hz⟩ := I1.tuple hq
    refine wpAny_pyIter_tuple (show s1.heap.IsTuple a its.toArray from p) ?_
    refine ⟨s1.heap.objs.size, [s1.heap.objs.size], _, _, H1, rfl, I1.kept (t' := s1.toks) fun b o e => Heap.get?_push_of_some _ e, turn_tuple a _, ⟨_, Heap.get?_push_size _ rfl, rfl, rfl⟩, fun b hb => ?_, q⟩
    have e : b = s1.heap.objs.size := by simpa using hb
    subst e
    exact I1.fpOk (Nat.le_refl _) (I1.hok.fresh (Nat.le_refl _))
  · subst e
    obtain ⟨t, rfl⟩ := r1
    cases ha : z.cps.all (· < 128)
    · exact wpAny_pyIter_wide ha (pi_one (tk := s1.toks) I1 _ (turn_str _ z t "str_iterator" (.inr rfl)) ⟨_, Heap.get?_push_size _ rfl, rfl, rfl⟩ q)
    · exact wpAny_pyIter_ascii ha (pi_one (tk := s1.toks) I1 _ (turn_str _ z t "str_ascii_iterator" (.inl rfl)) ⟨_, Heap.get?_push_size _ rfl, rfl, rfl⟩ q)
theorem li_any (hl : PE X l (lE (gX X) xa W tl)) : PI X tg l (lI (gX X) xa W (pIter tl)) := by
  refine PI_imp (pi_any hl) fun σ H R0 h => ?_
  obtain ⟨ρ, τ, h, Rp, Ep, R, S, hp, k, kx⟩ := h
  refine ⟨ρ, τ, h, _, Ep, R, S, hp, fun ρ1 H1 h1 x v E1 R1 r1 q1 => ?_, kx⟩
  cases r1 with
  | @tup xs a vs q l rs => exact .inr (.inl ⟨a, rfl, ⟨vs, q⟩, k ρ1 H1 h1 xs _ _ E1 R1 (sim_tup R1.trk q rs) q1⟩)
  | @fl xs a vs q l rs => exact .inl ⟨a, rfl, ⟨vs, q.seq⟩, k ρ1 H1 h1 xs _ _ E1 R1 (sim_fl R1.trk q rs) q1⟩
  | @str s o => exact .inr (.inr ⟨s, rfl, k ρ1 H1 h1 _ _ _ E1 R1 (sim_str o) q1⟩)
  | @ref n a ea =>
    have q1' : (match h1[n]? with
      | some (.lst xs) => Rp xs (fun h2 => h2[n]? = some (.lst xs)) h1
      | _ => False) := q1
    split at q1'
    · rename_i xs en
      obtain ⟨a', vs, ea', ev, l, rs⟩ := R1.lst en
      rw [ea] at ea'; cases ea'
      exact .inl ⟨a, rfl, ⟨vs, .of ev⟩, k ρ1 H1 h1 xs _ _ E1 R1 (sim_ref ea) q1'⟩
    · exact q1'.elim
  | _ => exact False.elim q1
theorem li_tmp (hl : PE X l (lL (gX X) xa W t)) : PI X tg l (lI (gX X) xa W (pIterT t)) := by
  refine PI_imp (pi_list hl) fun σ H R0 h => ?_
  obtain ⟨ρ, τ, h, Rp, Ep, R, S, hp, k, kx⟩ := h
  refine ⟨ρ, τ, h, _, Ep, R, S, hp, fun ρ1 H1 h1 xs D vs E1 R1 r1 l hD nD fD q1 => ?_, kx⟩
  exact ⟨D, rfl, ⟨vs, .of hD⟩, k ρ1 H1 h1 xs _ _ E1 R1 (sim_tmp R1.trk hD nD r1) q1⟩
theorem li_rng1 {a : Expr} {ta : PTE} {p pos : Pos} (hg : Gl X "range") (hm : X.mg "range" = none) (ha : PE X a (lE (gX X) xa W ta)) (hs : starEach [a] X.env = [(false, eval a X.env)] := by rfl) : PI X tg (.Call (.Name "range" p) [a] [] pos) (lI (gX X) xa W (pRng1 ta)) := by
  refine PI_imp (pi_range1 hg hm (pa_cons ha pa_nil hs) hs) fun σ H R0 h => ?_
  obtain ⟨ρ, τ, h, Rp, Ep, R, S, hp, k, kx⟩ := h
  refine ⟨ρ, τ, h, _, Ep, R, S, hp, fun ρ1 H1 h1 x v E1 R1 r1 q1 => ?_, kx⟩
  cases r1 with
  | int j =>
    obtain ⟨b1, b2, q⟩ := q1
    exact ⟨j, rfl, b1, b2, k ρ1 H1 h1 _ _ _ E1 R1 (sim_rng 0 j.toNat) q⟩
  | _ => exact False.elim q1
theorem li_rng2 {a b : Expr} {ta tb : PTE} {p pos : Pos} (hg : Gl X "range") (hm : X.mg "range" = none) (ha : PE X a (lE (gX X) xa W ta)) (hb : PE X b (lE (gX X) xa W tb))
    (hs : starEach [a, b] X.env = [(false, eval a X.env), (false, eval b X.env)] := by rfl) (hs2 : starEach [b] X.env = [(false, eval b X.env)] := by rfl) : PI X tg (.Call (.Name "range" p) [a, b] [] pos) (lI (gX X) xa W (pRng2 ta tb)) := by
  refine PI_imp (pi_range2 hg hm (pa_cons ha (pa_cons hb pa_nil hs2) (by rw [hs, hs2])) hs hs2) fun σ H R0 h => ?_
  obtain ⟨ρ, τ, h, Rp, Ep, R, S, hp, k, kx⟩ := h
  refine ⟨ρ, τ, h, _, Ep, R, S, hp, fun ρ1 H1 h1 x v E1 R1 r1 q1 => ?_, kx⟩
  refine ⟨ρ1, τ, h1, _, Ep, R1, S.mono R.trk E1, q1, fun ρ2 H2 h2 y u E2 R2 r2 q2 => ?_, kx.mono E1⟩
  cases r1 with
  | int i =>
    cases r2 with
    | int j =>
      obtain ⟨b1, q⟩ := q2
      exact ⟨i, j, rfl, b1, k ρ2 H2 h2 _ _ _ (E1.trans E2) R2 (sim_rng i (j - i).toNat) q⟩
    | _ => exact False.elim q2
  | _ => exact False.elim q2
/-! ### comprehensions -/
theorem drop_cons {α : Type} {xs : List α} {i : Nat} {x : α} (e : xs[i]? = some x) : xs.drop i = x :: xs.drop (i + 1) := by
  obtain ⟨hi, e'⟩ := List.getElem?_eq_some_iff.mp e
  rw [List.drop_eq_getElem_cons hi, e']
theorem RS.wipe {G : LG} {xa : XA} {ρ : List Addr} {H : Hp} {τ : PSt} {σ : St} (s : RS G xa ρ H τ σ) : ∀ vs : List Nat, RS G xa ρ H (pwipe τ vs) (L2.wipe σ vs)
  | [] => s
  | _ :: vs => RS.unset (RS.wipe s vs)
variable {elt iter : Expr} {ifs : List Expr} {scope : Scope} {own : List (Str × Nat)} {pos : Pos} {ti : PTI} {g : Tg} {tt : PTT} {te : PTE}
abbrev W0 : WX := fun _ _ _ _ => False
theorem lLc_of {σ : St} {H : Hp} {Q : VK} (hgs : ∀ i ∈ g.slots, i ∈ own.map (·.2)) (h : lL (gX X) xa W (pLc ti g tt te (own.map (·.2))) σ H Q) :
    tLc (lI (gX X) xa W ti) (lG (gX X) xa g) (lT (gX X) xa W0 tt) (lE (gX X) xa W0 te) (own.map (·.2)) σ H Q := by
  obtain ⟨ρ, τ, h, Qp, Ep, R, S, hp, k, kx⟩ := h
  refine ⟨ρ, τ, h, _, Ep, R, S, hp, fun ρ1 H1 h1 xs ok J E1 R1 sim q1 => ?_, kx⟩
  intro D hD
  have S1 : RS (gX X) xa ρ1 H1 τ σ := S.mono R.trk E1
  have fD : H D = none := E1.fresh R1 hD
  have nD : D ∉ ρ1 := fun hm => by
    obtain ⟨o', e, _⟩ := R1.trk D hm
    rw [hD] at e
    cases e
  refine ⟨fun i m H2 => m = xs.length - i ∧ i ≤ xs.length ∧ ∃ ρ2 h2 acc vs, Ext ρ1 H1 ρ2 H2 ∧ Rel (gX X) ρ2 H2 h2 ∧ H2 D = some (.lst vs) ∧ D ∉ ρ2 ∧ RVs (gX X) ρ2 H2 acc vs ∧ vs.length ≤ sizeLine ∧ lcGo g tt te ok (pwipe τ (own.map (·.2))) (xs.drop i) acc h2 Qp, ?_, ?_⟩
  · obtain ⟨E2, R2, _⟩ := R1.skip (o := .lst []) hD
    exact ⟨xs.length, by simp, Nat.zero_le _, ρ1, h1, [], [], E2, R2, upd_same, nD, .nil, Nat.zero_le _, q1⟩
  · rintro i m H2 ⟨rfl, hi, ρ2, h2, acc, vs, E2, R2, hD2, nD2, r2, l2, q2⟩
    by_cases hlt : i < xs.length
    · have ex : xs[i]? = some xs[i] := List.getElem?_eq_getElem hlt
      rw [drop_cons ex] at q2
      obtain ⟨hok, q2⟩ := q2
      obtain ⟨hgo, hy⟩ := (sim i ρ2 H2 h2 E2 R2 hok).1 _ ex
      refine .inr ⟨hgo, fun H' => ∃ ρ2 h2 acc vs, Ext ρ1 H1 ρ2 H' ∧ Rel (gX X) ρ2 H' h2 ∧ H' D = some (.lst vs) ∧ D ∉ ρ2 ∧ RVs (gX X) ρ2 H' acc vs ∧ vs.length ≤ sizeLine ∧ lcGo g tt te ok (pwipe τ (own.map (·.2))) (xs.drop (i + 1)) acc h2 Qp,
        fun H' nx => ⟨xs.length - (i + 1), by omega, rfl, hlt, nx⟩, fun v H' y => ?_⟩
      obtain ⟨E3, R3, r3⟩ := hy v H' y
      split at q2
      · rename_i τ' eg
        refine ⟨ρ2, pwipe τ (own.map (·.2)), h2, xs[i], τ', R3, (S1.mono R1.trk (E2.trans E3)).wipe _, r3, eg, fun σ2 S2 w2 => ⟨?_, ?_⟩⟩
        · rw [w2 _ hgs]
          apply List.ext_getElem?
          intro j
          rw [wipe_at, wipe_at]
          by_cases hj : j ∈ own.map (·.2)
          · rw [if_pos hj, if_pos hj]
            cases σ[j]? <;> rfl
          · rw [if_neg hj]
        · refine ⟨ρ2, τ', h2, _, F0, R3, S2, q2, fun ρ4 H4 h4 b E4 R4 q4 => ?_, fun _ _ _ _ _ _ _ _ _ _ z => z⟩
          have hD3 := E3.keep D _ hD2 nD2
          have hD4 := E4.keep D _ hD3.1 hD3.2
          cases b with
          | true =>
            rw [if_pos rfl] at q4
            refine iteT ⟨ρ4, τ', h4, _, F0, R4, S2.mono R3.trk E4, q4, fun ρ5 H5 h5 y u E5 R5 r5 q5 => ?_, fun _ _ _ _ _ _ _ _ _ _ z => z⟩
            obtain ⟨z, q5⟩ := q5
            have hD5 := E5.keep D _ hD4.1 hD4.2
            have len : vs.length < sizeLine := by rw [← r2.length]; exact z
            obtain ⟨K6, R6⟩ := R5.other (o := .lst (vs ++ [u])) hD5.2 hD5.1
            refine ⟨vs, hD5.1, len, ρ5, h5, acc ++ [y], vs ++ [u], (E2.trans (E3.trans (E4.trans E5))).other hD, R6, upd_same, hD5.2, ?_, by rw [List.length_append, List.length_singleton]; omega, q5⟩
            exact (((r2.mono R2.trk (E3.trans (E4.trans E5))).append (.cons r5 .nil))).keep K6
          | false =>
            rw [if_neg Bool.false_ne_true] at q4
            exact iteF ⟨ρ4, h4, acc, vs, E2.trans (E3.trans E4), R4, hD4.1, hD4.2, r2.mono R2.trk (E3.trans E4), l2, q4⟩
      · exact q2.elim
    · have e : i = xs.length := by omega
      subst e
      rw [List.drop_length] at q2
      obtain ⟨hok, q2⟩ := q2
      exact .inl ⟨(sim _ ρ2 H2 h2 E2 R2 hok).2 (Nat.le_refl _), k ρ2 H2 h2 acc D vs (E1.trans E2) R2 r2 l2 hD2 nD2 fD q2⟩
theorem ll_lc (hc : X.calm = true) (hN : X.N.Nodup) (hi : PI X tg iter (lI (gX X) xa W ti)) (ok : BlkOk X.N X.env.scope scope own) (hgs : ∀ i ∈ g.slots, i ∈ own.map (·.2))
    (hg : ∀ (s : Shared) (H : Hp) (C : Addr) (cl : List (Str × Addr)) (fp : List Addr), PG (X.blk s H scope (compEnvC scope cl C X.env) fp) tg (lG (gX X) xa g)) (ht : ∀ (s : Shared) (H : Hp) (C : Addr) (cl : List (Str × Addr)) (fp : List Addr), PTs (X.blk s H scope (compEnvC scope cl C X.env) fp) ifs (lT (gX X) xa W0 tt))
    (he : ∀ (s : Shared) (H : Hp) (C : Addr) (cl : List (Str × Addr)) (fp : List Addr), PE (X.blk s H scope (compEnvC scope cl C X.env) fp) elt (lE (gX X) xa W0 te)) (hs : ∀ x, foldedSetIterable iter X.env x = pure x := by intro _; rfl) :
    PE X (.ListComp elt [⟨tg, iter, ifs, 0⟩] scope pos) (lL (gX X) xa W (pLc ti g tt te (own.map (·.2)))) :=
  PE_imp (pe_lc hc hN hi ok hg ht he hs) fun _ _ _ h => lLc_of hgs h
theorem lts_nil : PTs X [] (lT (gX X) xa W pYes) := by
  refine ⟨fun pins s σ H Q I hw => pts_nil.run pins s σ H Q I ?_⟩
  obtain ⟨ρ, τ, h, Qp, Ep, R, S, hp, k, kx⟩ := hw
  exact k ρ H h true .refl R hp
theorem lts_one {c : Expr} (h : PT X c (lT (gX X) xa W tt)) : PTs X [c] (lT (gX X) xa W tt) := pts_one h
end
end MP
set_option maxHeartbeats 4000000
/-! MP7: statements. -/
namespace MP
open PySem PySem.Spec PyProof.Rows L2 TL

section
variable {X : Cx} {xa : Option (Nat × Addr × Value × Option Addr)} {W : WX} {st : Stmt} {rest : List Stmt} {t u : PTS} {e a b c : Expr} {te ta tb : PTE} {tc : PTT} {pos : Pos}
theorem lss_nil : PSs X [] (lS (gX X) xa W pNext) := by
  refine PSs_imp pss_nil fun D σ H h => ?_
  obtain ⟨ρ, τ, h, Dp, R, S, hp, k⟩ := h
  exact k.nx ρ H h τ σ .refl R S hp
theorem lss_one (h1 : PS X st (lS (gX X) xa W t)) : PSs X [st] (lS (gX X) xa W t) := pss_one h1
theorem lss_cons (h1 : PS X st (lS (gX X) xa W t)) (h2 : PSs X rest (lS (gX X) xa W u)) : PSs X (st :: rest) (lS (gX X) xa W (pSeq t u)) := by
  refine PSs_imp (pss_cons h1 h2) fun D σ H h => ?_
  obtain ⟨ρ, τ, h, Dp, R, S, hp, k⟩ := h
  refine ⟨ρ, τ, h, { Dp with nx := u Dp }, R, S, hp, ⟨fun ρ' H' h' τ' σ' E R' S' q => ?_, k.rt, k.bk, k.ct, k.ex⟩⟩
  exact ⟨ρ', τ', h', Dp, R', S', q, k.mono E⟩
theorem ls_pass : PS X (.Pass pos) (lS (gX X) xa W pNext) := by
  refine PS_imp ps_pass fun D σ H h => ?_
  obtain ⟨ρ, τ, h, Dp, R, S, hp, k⟩ := h
  exact k.nx ρ H h τ σ .refl R S hp
theorem ls_break : PS X (.Break pos) (lS (gX X) xa W pBrk) := by
  refine PS_imp ps_break fun D σ H h => ?_
  obtain ⟨ρ, τ, h, Dp, R, S, hp, k⟩ := h
  exact k.bk ρ H h τ σ .refl R S hp
theorem ls_continue : PS X (.Continue pos) (lS (gX X) xa W pCt) := by
  refine PS_imp ps_continue fun D σ H h => ?_
  obtain ⟨ρ, τ, h, Dp, R, S, hp, k⟩ := h
  exact k.ct ρ H h τ σ .refl R S hp
/-- from a statement's end to an expression's -/
theorem eE {t' : PTE} {D : Ends} {σ : St} {H : Hp} {ρ : List Addr} {τ : PSt} {h : PHeap} {Dp : PD} {Qp : PQ} {Q : VK} (R : Rel (gX X) ρ H h) (S : RS (gX X) xa ρ H τ σ) (hp : t' τ h Qp (fun c v h1 => Dp.ex c v τ h1)) (k : Conts (gX X) xa W ρ H Dp D)
    (kQ : ∀ ρ' H' h' x v, Ext ρ H ρ' H' → Rel (gX X) ρ' H' h' → RV (gX X) ρ' H' x v → Qp x h' → Q v H') : lE (gX X) xa W t' σ H Q := ⟨ρ, τ, h, Qp, _, R, S, hp, kQ, k.xc R S⟩
theorem ls_expr (he : PE X e (lE (gX X) xa W te)) (hs : swapsWith e none pos.line X.env = pure false := by rfl) : PS X (.Expr e pos) (lS (gX X) xa W (pDrop te)) := by
  refine PS_imp (ps_expr he hs) fun D σ H h => ?_
  obtain ⟨ρ, τ, h, Dp, R, S, hp, k⟩ := h
  exact eE R S hp k fun ρ' H' h' x v E R' r q => k.nx ρ' H' h' τ σ E R' (S.mono R.trk E) q
theorem ls_ret (he : PE X e (lE (gX X) xa W te)) : PS X (.Return (some e) pos) (lS (gX X) xa W (pRet te)) := by
  refine PS_imp (ps_ret he) fun D σ H h => ?_
  obtain ⟨ρ, τ, h, Dp, R, S, hp, k⟩ := h
  exact eE R S hp k fun ρ' H' h' x v E R' r q => k.rt ρ' H' h' x v E R' r q
theorem ls_retN : PS X (.Return none pos) (lS (gX X) xa W pRetN) := by
  refine PS_imp ps_retN fun D σ H h => ?_
  obtain ⟨ρ, τ, h, Dp, R, S, hp, k⟩ := h
  exact k.rt ρ H h .non .non .refl R .non hp
theorem ls_if {x y : List Stmt} (hc : PT X c (lT (gX X) xa W tc)) (ha : PSs X x (lS (gX X) xa W t)) (hb : PSs X y (lS (gX X) xa W u)) : PS X (.If c x y pos) (lS (gX X) xa W (pIfS tc t u)) := by
  refine PS_imp (ps_if hc ha hb) fun D σ H h => ?_
  obtain ⟨ρ, τ, h, Dp, R, S, hp, k⟩ := h
  refine ⟨ρ, τ, h, _, _, R, S, hp, fun ρ' H' h' b E R' q => ?_, k.xc R S⟩
  have S' := S.mono R.trk E
  cases b with
  | true =>
    rw [if_pos rfl] at q
    exact iteT ⟨ρ', τ, h', Dp, R', S', q, k.mono E⟩
  | false =>
    rw [if_neg Bool.false_ne_true] at q
    exact iteF ⟨ρ', τ, h', Dp, R', S', q, k.mono E⟩
/-! ### assignments -/
theorem asg_of {g : Tg} {D : Ends} {σ : St} {H : Hp} (h : lS (gX X) xa W (pAsg te g) D σ H) : tAsg (lE (gX X) xa W te) (lG (gX X) xa g) D σ H := by
  obtain ⟨ρ, τ, h, Dp, R, S, hp, k⟩ := h
  refine eE R S hp k fun ρ' H' h' x v E R' r q => ?_
  split at q
  · rename_i τ' eg
    exact ⟨ρ', τ, h', x, τ', R', S.mono R.trk E, r, eg, fun σ' S' _ => k.nx ρ' H' h' τ' σ' E R' S' q⟩
  · exact q.elim
theorem ls_asg {tg : Expr} {g : Tg} (he : PE X e (lE (gX X) xa W te)) (hg : PG X tg (lG (gX X) xa g)) (hs : swapsWithSole [tg] e pos.line X.env = pure false := by rfl) (hw : swappedStores [tg] e X.env = pure none := by rfl)
    (h1 : (assignEach [tg] X.env).map (·.2) = [assign tg X.env] := by rfl) : PS X (.Assign [tg] e pos) (lS (gX X) xa W (pAsg te g)) :=
  PS_imp (ps_asg he hg hs hw h1) fun _ _ _ h => asg_of h
theorem ls_set {i : Nat} {x : Str} {pos' : Pos} (hN : X.N.Nodup) (hi : X.N[i]? = some x) (hx : Loc X.env.scope x) (he : PE X e (lE (gX X) xa W te)) (hs : swapsWith e (some (.Name x pos')) pos.line X.env = pure false := by rfl) (hf : X.fn x = true ∨ X.env.scope.names.lookup x = some .local := by first | exact .inl rfl | exact .inr rfl | assumption) :
    PS X (.Assign [.Name x pos'] e pos) (lS (gX X) xa W (pAsg te (.nm i))) := by
  refine PS_imp (ps_set hN hi hx he hs hf) fun D σ H h => ?_
  obtain ⟨ρ, τ, h, Dp, R, S, hp, k⟩ := h
  refine eE R S hp k fun ρ' H' h' x v E R' r q => ?_
  exact k.nx ρ' H' h' _ _ E R' ((S.mono R.trk E).set r) q
/-- y = [.. for ..]: the list is kept -/
theorem ls_setLc {i : Nat} {y : Str} {py : Pos} {elt tg iter : Expr} {ifs : List Expr} {scope : Scope} {own : List (Str × Nat)} {lpos spos : Pos} {ti : PTI} {g : Tg} {tt : PTT} (hc : X.calm = true) (hN : X.N.Nodup) (hy : X.N[i]? = some y) (hyl : X.env.scope.names.lookup y = some .local)
    (hsw : swapsWith (.ListComp elt [⟨tg, iter, ifs, 0⟩] scope lpos) (some (.Name y py)) spos.line X.env = pure true) (hi : PI X tg iter (lI (gX X) xa W ti)) (ok : BlkOk X.N X.env.scope scope own) (hgs : ∀ i ∈ g.slots, i ∈ own.map (·.2))
    (hg : ∀ (s : Shared) (H : Hp) (C : Addr) (cl : List (Str × Addr)) (fp : List Addr), PG (X.blk s H scope (compEnvC scope cl C X.env) fp) tg (lG (gX X) xa g)) (ht : ∀ (s : Shared) (H : Hp) (C : Addr) (cl : List (Str × Addr)) (fp : List Addr), PTs (X.blk s H scope (compEnvC scope cl C X.env) fp) ifs (lT (gX X) xa W0 tt))
    (he : ∀ (s : Shared) (H : Hp) (C : Addr) (cl : List (Str × Addr)) (fp : List Addr), PE (X.blk s H scope (compEnvC scope cl C X.env) fp) elt (lE (gX X) xa W0 te)) (hs : ∀ x, foldedSetIterable iter X.env x = pure x := by intro _; rfl) :
    PS X (.Assign [.Name y py] (.ListComp elt [⟨tg, iter, ifs, 0⟩] scope lpos) spos) (lS (gX X) xa W (pAsg (pNew (pLc ti g tt te (own.map (·.2)))) (.nm i))) := by
  refine PS_imp (ps_setLc hc hN hy hyl hsw hi ok hg ht he hs) fun D σ H h => ?_
  obtain ⟨ρ, τ, h, Dp, R, S, hp, k⟩ := h
  refine lLc_of hgs ⟨ρ, τ, h, _, _, R, S, hp, fun ρ1 H1 h1 xs D' vs E1 R1 r1 l hD nD fD q1 => ?_, k.xc R S⟩
  obtain ⟨a1, a2, a3⟩ := R1.adopt (p := D') (o := .lst vs) (c := .lst xs) hD rfl nD (fun ρ' M Ms => ⟨vs, hD, l, Ms r1⟩)
  obtain ⟨t', et⟩ := E1.pre
  have E2 : Ext ρ H (ρ1 ++ [D']) H1 := ⟨⟨t' ++ [D'], by rw [et, List.append_assoc]⟩, fun a o ea na => by
    obtain ⟨e1, n1⟩ := E1.keep a o ea na
    exact ⟨e1, a1 a o e1 n1 (ne_of_none ea fD)⟩⟩
  have q2 : Dp.nx (τ.set i (some (.ref h1.length))) (h1 ++ [.lst xs]) := q1
  refine k.nx (ρ1 ++ [D']) H1 _ _ _ E2 a2 ((S.mono R.trk E2).set (.ref ?_)) q2
  rw [← R1.len, List.getElem?_append_right (Nat.le_refl _), Nat.sub_self]
  rfl
/-- o[i] = e -/
theorem mset : PSet X (fun o i v H Q => ∃ ρ h x y z Qp, Rel (gX X) ρ H h ∧ RV (gX X) ρ H x o ∧ RV (gX X) ρ H y i ∧ RV (gX X) ρ H z v ∧ rSetP x y z h Qp ∧ ∀ ρ' H' h', Ext ρ H ρ' H' → Rel (gX X) ρ' H' h' → Qp h' → Q H') := by
  intro pins s σ H o i v ov iv uu Q I ro ri rv hh
  obtain ⟨ρ, h, x, y, z, Qp, R, r1, r2, r3, hp, k⟩ := hh
  cases r1 with
  | @ref n a ea =>
    cases r2 with
    | int kk =>
      dsimp only [rSetP] at hp
      split at hp
      · rename_i xs en
        obtain ⟨a', vs, ea', ev, l, rs⟩ := R.lst en
        rw [ea] at ea'; cases ea'
        split at hp
        · rename_i j ej
          rw [rs.length] at ej
          obtain ⟨E2, R2, M⟩ := R.set (vs := vs.set j v) ea ev (by rw [List.length_set]; exact l) (RVs.set r3 j rs)
          exact set_list pins s σ H _ _ _ ov iv uu Q I ro ri rv ⟨a, vs, kk, j, rfl, rfl, ev, ej, k _ _ _ E2 R2 hp⟩
        · exact hp.elim
      · exact hp.elim
    | _ => exact False.elim hp
  | _ => exact False.elim hp
theorem ls_setS {o i : Expr} {to ti : PTE} {tpos : Pos} (he : PE X e (lE (gX X) xa W te)) (ho : PE X o (lE (gX X) xa W to)) (hi : PE X i (lE (gX X) xa W ti))
    (ha : ∀ v, assign (.Subscript o i tpos) X.env v = (do
      let ov ← holding [v] (eval o X.env)
      let iv ← holding [v, ov] (eval i X.env)
      standAt tpos
      holding [v, ov, iv] (setItem ov iv v)
      release [v, ov, iv] []) := by intro _; rfl)
    (hs : swapsWithSole [.Subscript o i tpos] e pos.line X.env = pure false := by rfl) (hw : swappedStores [.Subscript o i tpos] e X.env = pure none := by rfl)
    (h1 : (assignEach [.Subscript o i tpos] X.env).map (·.2) = [assign (.Subscript o i tpos) X.env] := by rfl) : PS X (.Assign [.Subscript o i tpos] e pos) (lS (gX X) xa W (pAsgS te to ti rSetP)) := by
  refine PS_imp (ps_asg he (pg_sub ho hi (mset) ha) hs hw h1) fun D σ H h => ?_
  obtain ⟨ρ, τ, h, Dp, R, S, hp, k⟩ := h
  refine eE R S hp k fun ρ1 H1 h1 x v E1 R1 r1 q1 => ?_
  have S1 := S.mono R.trk E1
  refine eE R1 S1 q1 (k.mono E1) fun ρ2 H2 h2 y u E2 R2 r2 q2 => ?_
  have S2 := S1.mono R1.trk E2
  refine eE R2 S2 q2 (k.mono (E1.trans E2)) fun ρ3 H3 h3 z w E3 R3 r3 q3 => ?_
  have S3 := S2.mono R2.trk E3
  refine ⟨ρ3, h3, y, z, x, _, R3, r2.mono R2.trk E3, r3, r1.mono R1.trk (E2.trans E3), q3, fun ρ4 H4 h4 E4 R4 q4 => ?_⟩
  exact k.nx ρ4 H4 h4 τ σ (E1.trans (E2.trans (E3.trans E4))) R4 (S3.mono R3.trk E4) q4
/-- name op= e -/
theorem ls_aug {i : Nat} {x : Str} {op : Operator} {r : POp} {pos' : Pos} (hN : X.N.Nodup) (hi : X.N[i]? = some x) (hx : Loc X.env.scope x) (he : PE X e (lE (gX X) xa W te)) (ho : OpR X (inplaceOp op) (lR (gX X) r)) (hf : X.fn x = true ∨ X.env.scope.names.lookup x = some .local := by first | exact .inl rfl | exact .inr rfl | assumption) :
    PS X (.AugAssign (.Name x pos') op e pos) (lS (gX X) xa W (pAug i r te)) := by
  refine PS_imp (ps_aug (ti := lR (gX X) r) hN hi hx he ho hf) fun D σ H h => ?_
  obtain ⟨ρ, τ, h, Dp, R, S, hp, k⟩ := h
  unfold pAug at hp
  split at hp
  · rename_i y ey
    obtain ⟨ny, hp⟩ := hp
    obtain ⟨v, ev, rv0⟩ := S.2 i y ey
    have rv : RV (gX X) ρ H y v := by
      cases y with
      | exc c x => cases ny
      | _ => exact rv0
    refine ⟨v, ev, eE R S hp k fun ρ1 H1 h1 z u E1 R1 r1 q1 => ?_⟩
    refine ⟨ρ1, h1, y, z, _, R1, rv.mono R.trk E1, r1, q1, fun ρ2 H2 h2 z' w E2 R2 r2 q2 => ?_⟩
    exact k.nx ρ2 H2 h2 _ _ (E1.trans E2) R2 ((S.mono R.trk (E1.trans E2)).set r2) q2
  · exact hp.elim
theorem mi_add : OpR X (inplaceOp .Add) (lR (gX X) rIAdd) := by
  intro pins s σ H u v uu vv Q I ru rv hh
  obtain ⟨ρ, h, x, y, Qp, R, r1, r2, hp, k⟩ := hh
  cases r1 with
  | int i =>
    cases r2 with
    | int j => exact L2.iop_add pins s σ H _ _ _ _ Q I ru rv ⟨i, j, rfl, rfl, k ρ H h _ _ .refl R (.int _) hp⟩
    | _ => exact False.elim hp
  | @str a oa =>
    cases r2 with
    | @str b ob =>
      obtain ⟨l, q⟩ := (show a.length + b.length ≤ sizeLine ∧ Qp (.str (a ++ b)) h from hp)
      exact L2.iop_add_str pins s σ H _ _ _ _ Q I ru rv ⟨a, b, rfl, rfl, l, k ρ H h _ _ .refl R (.str (okS_append oa ob l)) q⟩
    | _ => exact False.elim hp
  | _ => exact False.elim hp
theorem mi_sub : OpR X (inplaceOp .Sub) (lR (gX X) rSub) := by
  intro pins s σ H u v uu vv Q I ru rv hh
  obtain ⟨ρ, h, x, y, Qp, R, r1, r2, hp, k⟩ := hh
  cases r1 with
  | int i =>
    cases r2 with
    | int j => exact L2.iop_sub pins s σ H _ _ _ _ Q I ru rv ⟨i, j, rfl, rfl, k ρ H h _ _ .refl R (.int _) hp⟩
    | _ => exact False.elim hp
  | _ => exact False.elim hp
/-! ### for, while -/
theorem ls_for {tg iter : Expr} {sts : List Stmt} {ti : PTI} {g : Tg} (hp : PassesOwn (model X.prog X.w) X.A X.env X.xe) (hc : X.calm = true) (hi : PI X tg iter (lI (gX X) xa W ti)) (hg : PG X tg (lG (gX X) xa g)) (hb : PSs X sts (lS (gX X) xa W t))
    (hs : ∀ x, foldedSetIterable iter X.env x = pure x := by intro _; rfl) : PS X (.For tg iter sts [] pos) (lS (gX X) xa W (pFor ti g t)) := by
  refine PS_imp (ps_for hp hc hi hg hb hs) fun D σ H h => ?_
  obtain ⟨ρ, τ, h, Dp, R, S, hp, k⟩ := h
  refine ⟨ρ, τ, h, _, _, R, S, hp, fun ρ1 H1 h1 xs ok J E1 R1 sim q1 => ?_, k.xc R S⟩
  refine ⟨fun i m σ2 H2 => m = xs.length - i ∧ i ≤ xs.length ∧ ∃ ρ2 τ2 h2, Ext ρ1 H1 ρ2 H2 ∧ Rel (gX X) ρ2 H2 h2 ∧ RS (gX X) xa ρ2 H2 τ2 σ2 ∧ forGo g t Dp ok (xs.drop i) τ2 h2,
    ⟨xs.length, by simp, Nat.zero_le _, ρ1, τ, h1, .refl, R1, S.mono R.trk E1, q1⟩, ?_⟩
  rintro i m σ2 H2 ⟨rfl, hi, ρ2, τ2, h2, E2, R2, S2, q2⟩
  by_cases hlt : i < xs.length
  · have ex : xs[i]? = some xs[i] := List.getElem?_eq_getElem hlt
    rw [drop_cons ex] at q2
    obtain ⟨hok, q2⟩ := q2
    obtain ⟨hgo, hy⟩ := (sim i ρ2 H2 h2 E2 R2 hok).1 _ ex
    refine .inr ⟨hgo, fun σ3 H3 => ∃ ρ3 τ3 h3, Ext ρ1 H1 ρ3 H3 ∧ Rel (gX X) ρ3 H3 h3 ∧ RS (gX X) xa ρ3 H3 τ3 σ3 ∧ forGo g t Dp ok (xs.drop (i + 1)) τ3 h3,
      fun σ3 H3 nx => ⟨xs.length - (i + 1), by omega, rfl, hlt, nx⟩, fun v H' y => ?_⟩
    obtain ⟨E3, R3, r3⟩ := hy v H' y
    split at q2
    · rename_i τ' eg
      refine ⟨ρ2, τ2, h2, xs[i], τ', R3, S2.mono R2.trk E3, r3, eg, fun σ4 S4 _ => ?_⟩
      have E23 := E2.trans E3
      refine ⟨ρ2, τ', h2, _, R3, S4, q2, ⟨fun ρ5 H5 h5 τ5 σ5 E5 R5 S5 q5 => ⟨ρ5, τ5, h5, E23.trans E5, R5, S5, q5⟩, fun ρ5 H5 h5 x v E5 R5 r5 q5 => k.rt ρ5 H5 h5 x v (E1.trans (E23.trans E5)) R5 r5 q5,
        fun ρ5 H5 h5 τ5 σ5 E5 R5 S5 q5 => k.nx ρ5 H5 h5 τ5 σ5 (E1.trans (E23.trans E5)) R5 S5 q5, fun ρ5 H5 h5 τ5 σ5 E5 R5 S5 q5 => ⟨ρ5, τ5, h5, E23.trans E5, R5, S5, q5⟩,
        fun ρ5 H5 h5 τ5 σ5 c x cls d E5 R5 S5 rx q5 => k.ex ρ5 H5 h5 τ5 σ5 c x cls d (E1.trans (E23.trans E5)) R5 S5 rx q5⟩⟩
    · exact q2.elim
  · have e : i = xs.length := by omega
    subst e
    rw [List.drop_length] at q2
    obtain ⟨hok, q2⟩ := q2
    exact .inl ⟨(sim _ ρ2 H2 h2 E2 R2 hok).2 (Nat.le_refl _), k.nx ρ2 H2 h2 τ2 σ2 (E1.trans E2) R2 S2 q2⟩
theorem ls_while {sts : List Stmt} (hp : PassesOwn (model X.prog X.w) X.A X.env X.xe) (hc : PT X c (lT (gX X) xa W tc)) (hb : PSs X sts (lS (gX X) xa W t)) : PS X (.While c sts [] pos) (lS (gX X) xa W (pWhile tc t)) := by
  refine PS_imp (ps_while hp hc hb) fun D σ H h => ?_
  obtain ⟨ρ, τ, h, Dp, R, S, ⟨Wp, ⟨m0, w0⟩, turn⟩, k⟩ := h
  refine ⟨fun m σ2 H2 => ∃ ρ2 τ2 h2, Ext ρ H ρ2 H2 ∧ Rel (gX X) ρ2 H2 h2 ∧ RS (gX X) xa ρ2 H2 τ2 σ2 ∧ Wp m τ2 h2, ⟨m0, ρ, τ, h, .refl, R, S, w0⟩, ?_⟩
  rintro m σ2 H2 ⟨ρ2, τ2, h2, E2, R2, S2, w2⟩
  refine ⟨ρ2, τ2, h2, _, _, R2, S2, turn m τ2 h2 w2, fun ρ3 H3 h3 b E3 R3 q3 => ?_, (k.mono E2).xc R2 S2⟩
  have S3 := S2.mono R2.trk E3
  cases b with
  | true =>
    rw [if_pos rfl] at q3
    obtain ⟨Np, hN, q3⟩ := q3
    refine iteT ⟨fun σ4 H4 => ∃ ρ4 τ4 h4, Ext ρ H ρ4 H4 ∧ Rel (gX X) ρ4 H4 h4 ∧ RS (gX X) xa ρ4 H4 τ4 σ4 ∧ Np τ4 h4, ?_, ?_⟩
    · rintro σ4 H4 ⟨ρ4, τ4, h4, E4, R4, S4, n4⟩
      obtain ⟨m', hm, w4⟩ := hN τ4 h4 n4
      exact ⟨m', hm, ρ4, τ4, h4, E4, R4, S4, w4⟩
    · have E23 := E2.trans E3
      exact ⟨ρ3, τ2, h3, _, R3, S3, q3, ⟨fun ρ5 H5 h5 τ5 σ5 E5 R5 S5 q5 => ⟨ρ5, τ5, h5, E23.trans E5, R5, S5, q5⟩, fun ρ5 H5 h5 x v E5 R5 r5 q5 => k.rt ρ5 H5 h5 x v (E23.trans E5) R5 r5 q5,
        fun ρ5 H5 h5 τ5 σ5 E5 R5 S5 q5 => k.nx ρ5 H5 h5 τ5 σ5 (E23.trans E5) R5 S5 q5, fun ρ5 H5 h5 τ5 σ5 E5 R5 S5 q5 => ⟨ρ5, τ5, h5, E23.trans E5, R5, S5, q5⟩,
        fun ρ5 H5 h5 τ5 σ5 c x cls d E5 R5 S5 rx q5 => k.ex ρ5 H5 h5 τ5 σ5 c x cls d (E23.trans E5) R5 S5 rx q5⟩⟩
  | false =>
    rw [if_neg Bool.false_ne_true] at q3
    exact iteF (k.nx ρ3 H3 h3 τ2 σ2 (E2.trans E3) R3 S3 q3)
end
end MP
set_option maxHeartbeats 4000000
/-! MP8: errors made, raised, caught; defs called. (The block TErr follows the worked proof 42_own_error_by_import, turned to a class that inherits its __init__.) -/
namespace PySem
namespace TErr
open PySem.W PySem.Calls PyProof.Rows PySem.HandSPX
/-- the text of __init__ -/
def iA (p1 p2 : Pos) : Arguments := { posonlyargs := [], args := [{ arg := "self", annotation := none, pos := p1 }, { arg := "value", annotation := none, pos := p2 }], vararg := none, kwonlyargs := [], kw_defaults := [], kwarg := none, defaults := [] }
def iB (q1 q2 q3 q4 : Pos) : List Stmt := [.Assign [.Attribute (.Name "self" q1) "value" q2] (.Name "value" q3) q4]
def iS : Scope := { kind := .function, names := [(PySem.Str.ofString "self", .local), (PySem.Str.ofString "value", .local)], isGenerator := false, isCoroutine := false, more := [] }
/-- what the written part says of the error class at C, and of its __init__, at fI -/
structure LowTxt (K : Frag) (C fI : Addr) : Prop where
  cls : ∃ nm q N bs bm sn sub ab col dd k0 k1 k2 k3 k5, K.lookup C = some (excClassObj nm q C N bs bm true sn sub ab col dd k0 k1 k2 k3 k5 "ValueError.__new__") ∧ refsVE bm = true
  sa : findIn K (.ref C) "__setattr__" = some (some (.builtin "object.__setattr__"))
  ga : findIn K (.ref C) "__getattribute__" = some (some (.builtin "BaseException.__getattribute__"))
  gg : findIn K (.ref C) "__getattr__" = some none
  noN : findIn K (.ref C) "value" = some none
  iC : findIn K (.ref C) "__init__" = some (some (.ref fI))
  tC : typeIn K (.ref fI) = some (.type "function")
  kC : keepIn K (.ref C) = true
  exC : subIn K (.ref C) (.type "BaseException") = some true
  tyC : typeIn K (.ref C) = some (.type "type")
  hdC : hasDictIn K C = true
  fn : ∃ (oc : Value) (od : Option Addr) (kV doc pm : Value) (an : Option Addr) (cdv ct : Value) (osl : Array (Option Value)) (p1 p2 q1 q2 q3 q4 : Pos),
    K.lookup fI = some ⟨oc, od, .func (fnOf "__init__" "TreeError.__init__" (iA p1 p2) (iB q1 q2 q3 q4) iS .none kV doc pm an cdv ct), osl⟩ ∧ codeIn K cdv "TreeError.__init__" = true
theorem one_size (v : Value) : [v].length ≤ sizeLine := by
  rw [sizeLine_eq]
  exact (by decide : 1 ≤ 16777216)
theorem ldC {M : Model} {s : Shared} {name : Str} {scope : Scope} {L a : Addr} {cd : Value} {m : Str → Option Value} {x : Str} {pos : Pos} {v : Value} {Q : Value → Shared → Prop} {A : Around} {E : Value → Shared → Prop} (hn : s.heap.Ns L m) (hv : m x = some v) (h : Q v s)
    (hk : scope.kind = .function := by rfl) (hl : (envOfC name scope L a cd).kindOf x = some .local := by rfl) (hd : (x == ("__debug__" : Str)) = false := by decide) :
    wpAny M A (eval (.Name x pos) (envOfC name scope L a cd)) Q E s := wpAny_Name (wpAny_loadName_local hk hl hn hv h) hd
/-- what __init__ leaves of a fresh exception at x -/
structure InitEnd (h h' : Heap) (x C dx t1 : Addr) (v : Value) : Prop where
  keep : ∀ b o, b ≠ x → h.get? b = some o → h'.get? b = some o
  obj : h'.get? x = some { cls := .ref C, dict := some dx, data := .fields #[.ref t1, .none, .none, .none, .bool false, .none] }
  dbig : h.objs.size ≤ dx
  dne : dx ≠ x
  ns : h'.Ns1 dx (fun y => if y = "value" then some v else none)
/-- a made error -/
structure OwnMade (h h' : Heap) (e C d : Addr) (v : Value) : Prop where
  keep : ∀ b o, h.get? b = some o → h'.get? b = some o
  new : h.objs.size ≤ e
  obj : ∃ oe vs, h'.get? e = some oe ∧ oe.cls = .ref C ∧ oe.dict = some d ∧ oe.data = .fields vs ∧ vs[1]? = some .none
  dbig : h.objs.size ≤ d
  dne : d ≠ e
  ns : h'.Ns1 d (fun y => if y = "value" then some v else none)
section
variable {prog : Program} {w : World} {A : Around} {E : Value → Shared → Prop} {R : Result → Shared → Prop} {s : Shared} {K : Frag} {C fI : Addr}
theorem low_init (T : LowTxt K C fI) {x t0 : Addr} {v : Value} (X : K.In s.heap) (hlim : s.heap.NoLimit) (hx : s.heap.get? x = some (excO C t0)) (hnx : K.lookup x = none) (hroom : A.depth < recursionLimit)
    (hq : ∀ h' tk dx, InitEnd s.heap h' x C dx t0 v → R (.ok (.ret .none)) { s with heap := h', toks := tk }) {kw : List (Str × Value)} {us : List Value} (hkw : (us = [v] ∧ kw = []) ∨ (us = [] ∧ kw = [(("value" : Str), v)])) :
    codeAny (model prog w) A (.call (.ref fI) ⟨.ref x :: us, kw⟩) R s := by
  obtain ⟨oc, od, kV, doc, pm, an, cdv, ct, osl, p1, p2, q1, q2, q3, q4, ho, hcd⟩ := T.fn
  obtain ⟨nm, q, N, bs, bm, sn, sub, ab, col, dd, k0, k1, k2, k3, k5, hC, hbm⟩ := T.cls
  have hcl : clsIn K C = some { name := nm, bases := bs, mro := .ref C :: bm, ns := N, qualname := q, hasDict := true, slotNames := sn, subclasses := sub, abstract := ab, collection := col, hasDel := false } := by unfold clsIn; rw [hC] <;> rfl
  have bnd : BindsTo s (fnOf "__init__" "TreeError.__init__" (iA p1 p2) (iB q1 q2 q3 q4) iS .none kV doc pm an cdv ct) ⟨.ref x :: us, kw⟩ [("self", .ref x), ("value", v)] := by
    rcases hkw with ⟨rfl, rfl⟩ | ⟨rfl, rfl⟩
    · exact BindsTo.of_eq (by first | rfl | with_unfolding_all rfl)
    · exact BindsTo.of_eq (by first | rfl | with_unfolding_all rfl)
  refine Att.call_fn (binds := [("self", .ref x), ("value", v)]) X hlim ho hcd hroom bnd (by first | rfl | decide | with_unfolding_all rfl) (fun s₁ IC => ?_) rfl rfl rfl
  obtain ⟨h₁, tk₁, rfl⟩ := IC.toInCall.same
  have k : ∀ b o, s.heap.get? b = some o → h₁.get? b = some o := IC.toInCall.keep
  have hn := IC.toInCall.ns
  have X₁ : K.In h₁ := X.keeps k
  have hx₁ := k _ _ hx
  show wpAny _ _ (execs _ _) _ _ _
  refine wpAny_execs_cons (plainObj_wpAny_Assign_Attribute ?_)
  refine ldC (v := v) hn (by first | rfl | with_unfolding_all rfl | kernel_rfl) (ldC (v := .ref x) hn (by first | rfl | with_unfolding_all rfl | kernel_rfl) ?_)
  refine set_plain X₁ (ox := excO C t0) (od := none) ⟨hx₁, rfl, rfl, trivial⟩ T.sa ?_
  refine exc_osa X₁ hx₁ hcl (show refsVE (.ref C :: bm) = true from hbm) rfl T.noN (fun h₃ tk₃ dx k₃ dn dne hx₃ hn₃ => ?_)
  show wpAny _ _ (execs _ _) _ _ _
  have z : s.heap.objs.size < h₁.objs.size := hn.lt
  exact wpAny_execs_nil (hq h₃ tk₃ dx ⟨fun b o hb e => k₃ b o hb (k b o e), hx₃, Nat.le_of_lt (Nat.lt_of_lt_of_le z dn), dne, hn₃⟩)
theorem low_made (T : LowTxt K C fI) {v : Value} (X : K.In s.heap) (hlim : s.heap.NoLimit) (hroom : A.depth + 1 < recursionLimit)
    (hq : ∀ h' tk e d, OwnMade s.heap h' e C d v → R (.ok (.ret (.ref e))) { s with heap := h', toks := tk }) :
    codeAny (model prog w) A (.call (.ref C) ⟨[v], []⟩) R s := by
  obtain ⟨nm, q, N, bs, bm, sn, sub, ab, col, dd, k0, k1, k2, k3, k5, hC, hbm⟩ := T.cls
  obtain ⟨hp, g, dr, tk, os⟩ := s
  have k : ∀ b o, hp.get? b = some o → ((hp.push (kdv_tup [v])).push (excO C hp.objs.size)).get? b = some o := fun b o e => Heap.get?_push_of_some _ (Heap.get?_push_of_some _ e)
  have hget : ((hp.push (kdv_tup [v])).push (excO C hp.objs.size)).get? (hp.objs.size + 1) = some (excO C hp.objs.size) := by heap_get
  have hnx : K.lookup (hp.objs.size + 1) = none := by
    cases e : K.lookup (hp.objs.size + 1) with
    | none => rfl
    | some o =>
      have z : hp.get? (hp.objs.size + 1) = some o := X _ _ e
      exact absurd (Nat.lt_of_succ_lt (Heap.lt_size z)) (Nat.lt_irrefl _)
  refine call_own F.excBase_ValueError (fun X => refsVE_contains X bm hbm) (X _ _ hC) (looks_findIn X T.iC) (fun self => bind_fn X self T.tC) (one_size v) ?_
  refine low_init (s := ⟨(hp.push (kdv_tup [v])).push (excO C hp.objs.size), g, dr, tk, os⟩) T (X.keeps k) (hlim.keeps k) hget hnx ?_ (fun h' tk' dx ⟨k', hx, dn, dne, hns⟩ => ?_) (.inl ⟨rfl, rfl⟩)
  · show A.depth + 1 < recursionLimit
    exact hroom
  · have old : ∀ b o, hp.get? b = some o → h'.get? b = some o := fun b o e => k' b o (Nat.ne_of_lt (Nat.lt_succ_of_lt (Heap.lt_size e))) (k b o e)
    have z : hp.objs.size + 1 + 1 ≤ dx := by
      first
        | (simpa only [Heap.size_push] using dn)
        | exact dn
        | (have q := dn; rw [Heap.size_push, Heap.size_push] at q; exact q)
    exact ⟨rfl, hq h' tk' (hp.objs.size + 1) dx ⟨old, Nat.le_succ _, ⟨_, _, hx, rfl, rfl, rfl, rfl⟩, Nat.le_trans (Nat.le_trans (Nat.le_succ _) (Nat.le_succ _)) z, dne, hns⟩⟩
end
end TErr
end PySem
namespace MP
open PySem PySem.Spec PyProof.Rows L2 TL
theorem relO_val {v : V} {v' : Value} (r : RelV v v') (f : Str) : RelO (List.lookup f [(("value" : Str), v)]) (if f = "value" then some v' else none) := by
  by_cases hw : f = "value"
  · subst hw
    rw [if_pos rfl]
    have q : List.lookup ("value" : Str) [(("value" : Str), v)] = some v := by simp [List.lookup]
    rw [q]
    exact r
  · rw [if_neg hw]
    have qw : (f == ("value" : Str)) = false := by simpa using hw
    have q2 : List.lookup f [(("value" : Str), v)] = none := by simp [List.lookup, qw]
    rw [q2]
    trivial
section
variable {X : Cx} {C fI : Addr}
/-- E(e), E the error class at C -/
def tMkErr (C : Addr) (ta : TA) : St → Hp → XK → Prop := fun σ H Q => ta σ H fun vs H1 => ∃ v, vs = [v] ∧ ∀ d, H1 d = none → Q (.ref C) (some d) (upd H1 d (.xd [(("value" : Str), v)]))
theorem pmk_err {a : Expr} {x : Str} {ta : TA} {p pos : Pos} {k : Nat} (T : PySem.TErr.LowTxt X.K C fI) (hC : X.mg x = some (.ref C)) (hr : Room k X.A) (ha : PA X [a] ta) (hg : Gl X x) (hdb : (x == ("__debug__" : Str)) = false := by decide)
    (he : starEach (a :: []) X.env = (false, eval a X.env) :: starEach [] X.env := by rfl) (hpl : (backTo pos (starEach [] X.env)).any (·.1) = false := by rfl) :
    PMk X (.Call (.Name x p) [a] [] pos) (tMkErr C ta) := by
  intro pins s σ H Q I h
  refine wpAny_Call_Name_kw (ld_glob I hg hC ?_ hdb)
  refine PySem.W.callWith_K (h₀ := X.base) I.ok.mod.kin T.kC (thn (ha.run pos pins s σ H _ I h) fun us s1 hh => ?_) he hpl
  obtain ⟨vs, H1, I1, r1, v, ev, q1⟩ := hh
  subst ev
  refine ⟨I1.kIn, ?_⟩
  cases r1 with
  | cons rv rn =>
    rename_i v' us'
    cases rn
    show wpAny _ _ (call (.ref C) [v']) _ _ _
    have hlim := I1.nolimit
    obtain ⟨hp, g, dr, tk, os⟩ := s1
    refine wpAny_call (PySem.TErr.low_made T I1.kIn hlim (by have := hr.dp; omega) fun h' tk' e d M => ?_)
    show MkP X pins σ Q (.ref e) ⟨h', g, dr, tk', os⟩
    obtain ⟨oe, fv, hoe, hc, hd, hdat, h1⟩ := M.obj
    have hns := M.ns
    obtain ⟨G', g1, g2⟩ := restrict h' fun b => decide (b ≠ e)
    have gk : ∀ b, b ≠ e → G'.get? b = h'.get? b := fun b hb => g1 b (decide_eq_true hb)
    have ge : G'.get? e = none := g2 e (by simp)
    have old : ∀ b o, hp.get? b = some o → G'.get? b = some o := fun b o q => (gk b (Nat.ne_of_lt (Nat.lt_of_lt_of_le (Heap.lt_size q) M.new))).trans (M.keep b o q)
    have ob : ObjOk X.prog X.w (upd H1 d (.xd [(("value" : Str), v)])) G' d (.xd [(("value" : Str), v)]) :=
      ⟨_, hns.at (fun o q => (gk d M.dne).trans q), fun f => relO_val rv f⟩
    have J : Inv X pins σ (upd H1 d (.xd [(("value" : Str), v)])) ⟨G', g, dr, tk', os⟩ := I1.laid (t' := tk') old M.dbig ob
    refine ⟨e, oe, fv, ⟨G', g, dr, tk', os⟩, _, .ref C, some d, rfl, J, fun b o q => ?_, ge, hoe, ⟨hc, hd⟩, hdat, h1, ?_, rfl, I1.bare, raises_own T.exC T.tyC, q1 d (I1.hok.fresh M.dbig)⟩
    · by_cases hb : b = e
      · have q' : G'.get? b = some o := q
        rw [hb, ge] at q'; cases q'
      · exact (gk b hb).symm.trans q
    · rw [upd_ne (Ne.symm M.dne)]
      exact I1.hok.fresh M.new
/-- raise E(e) -/
theorem ls_raise {xa : Option (Nat × Addr × Value × Option Addr)} {a : Expr} {x : Str} {te : PTE} {W : WX} {p pos pos2 : Pos} {k : Nat} (hc : X.calm = true) (T : PySem.TErr.LowTxt X.K C fI) (hC : X.mg x = some (.ref C)) (hr : Room k X.A) (tk : Takes X W) (ha : PE X a (lE (gX X) xa W te)) (hg : Gl X x) (hdb : (x == ("__debug__" : Str)) = false := by decide)
    (he : starEach (a :: []) X.env = (false, eval a X.env) :: starEach [] X.env := by rfl) (hpl : (backTo pos (starEach [] X.env)).any (·.1) = false := by rfl) :
    PS X (.Raise (some (.Call (.Name x p) [a] [] pos)) none pos2) (lS (gX X) xa W (pRaise x te)) := by
  refine PS_imp (ps_raise hc tk (pmk_err T hC hr (pa_cons ha pa_nil he) hg hdb he hpl)) fun D σ H h => ?_
  obtain ⟨ρ, τ, h, Dp, R, S, hp, kk⟩ := h
  refine eE R S hp kk fun ρ1 H1 h1 x1 v E1 R1 r1 q1 => ⟨v, rfl, fun d hd => ?_⟩
  obtain ⟨E2, R2, _⟩ := R1.skip (o := .xd [(("value" : Str), v)]) hd
  exact kk.ex ρ1 _ h1 τ σ x x1 _ _ (E1.trans E2) R2 ((S.mono R.trk E1).mono R1.trk E2) ⟨C, d, v, hC, rfl, rfl, upd_same, r1.mono R1.trk E2⟩ q1
end
/-! ### caught errors -/
structure ErrTab (K : PySem.W.Frag) (mg : Str → Option Value) (es : List Str) : Prop where
  low : ∀ c ∈ es, ∃ C fI, mg c = some (.ref C) ∧ PySem.TErr.LowTxt K C fI
  exm : ∀ c ∈ es, ∀ c' ∈ es, ∀ C C' : Addr, mg c = some (.ref C) → mg c' = some (.ref C') → PySem.W.exmOne K (.ref C) (.ref C') = some (catches c c')
/-- what an except clause does with an error: its class is one of the table's -/
def exAsT (es : List Str) (cls : Str) (i : Nat) (su : PTS) (D : PD) (c : Str) (v : PV) (τ : PSt) (h : PHeap) : Prop := c ∈ es ∧ exAs cls i su D c v τ h
def pTryT (es : List Str) (tb : PTS) (cls : Str) (i : Nat) (su : PTS) : PTS := fun D τ h => tb { D with ex := exAsT es cls i su D } τ h
theorem RS.up {G : LG} {xa : XA} {ρ : List Addr} {H : Hp} {τ : PSt} {σ : St} (s : RS G none ρ H τ σ) : RS G xa ρ H τ σ := ⟨s.1, fun i x e => by
  obtain ⟨v, e', r⟩ := s.2 i x e
  refine ⟨v, e', ?_⟩
  cases x with
  | exc c x =>
    obtain ⟨a, C, dd, u, e1, e2, _⟩ := r
    cases e2
  | _ => exact r⟩
theorem RS.down {G : LG} {ρ : List Addr} {H : Hp} {τ : PSt} {σ : St} {i : Nat} {z : Addr × Value × Option Addr} {o : Option V} (s : RS G (some (i, z)) ρ H τ σ) : RS G none ρ H (τ.set i none) (σ.set i o) := by
  have s2 := s.unset (i := i) (o := o)
  refine ⟨s2.1, fun j x e => ?_⟩
  obtain ⟨v, e', r⟩ := s2.2 j x e
  refine ⟨v, e', ?_⟩
  cases x with
  | exc c x =>
    obtain ⟨a, C, dd, u, e1, e2, _⟩ := r
    have ej : i = j := by
      have q := Option.some.inj e2
      exact congrArg (fun z : Nat × Addr × Value × Option Addr => z.1) q
    subst ej
    have hl : i < τ.length := by
      have z := (List.getElem?_eq_some_iff.mp e).1
      rwa [List.length_set] at z
    rw [List.getElem?_set_self hl] at e
    cases e
  | _ => exact r
section
variable {X : Cx}
theorem ls_tryAs {es : List Str} {x n : Str} {C : Addr} {i : Nat} {sb suite : List Stmt} {b₀ : Stmt} {np pos pos' : Pos} {tb : PTS} {su : PTS} {W : WX}
    (T : ErrTab X.K X.mg es) (hx : x ∈ es) (hC : X.mg x = some (.ref C)) (hs : X.stack = X.env :: X.outer) (hf : X.env.frame = some X.env.locals) (hN : X.N.Nodup) (hi : X.N[i]? = some n) (hln : X.env.kindOf n = some .local) (hc : Names X x (.ref C)) (tk : Takes X W)
    (hb : ∀ (W : WX) (pn : List (Addr × Obj)) (xe : Value → Shared → Prop), Takes (X.tr pn xe) W → PassesOwn (model X.prog X.w) X.A X.env xe → PSs (X.tr pn xe) sb (lS (gX X) none W tb))
    (hsu : ∀ (a : Addr) (oe : Obj) (cls : Value) (d : Option Addr) (pn : List (Addr × Obj)), Zc cls d oe → (∃ vs, oe.data = .fields vs) → PSs (X.suite a ((a, oe) :: pn)) (b₀ :: suite) (lS (gX X) (some (i, a, cls, d)) W0 su)) :
    PS X (.Try sb [.ExceptHandler (some (.Name x np)) (some n) (b₀ :: suite) pos'] [] [] pos) (lS (gX X) none W (pTryT es tb x i su)) := by
  refine PS_imp (ps_try_as (i := i) (tb := fun W => lS (gX X) none W tb) (ts := fun a cls d => lS (gX X) (some (i, a, cls, d)) W0 su) (Wout := W) hs hf hN hi hln hc tk hb hsu) fun D σ H h => ?_
  obtain ⟨ρ, τ, h, Dp, R, S, hp, k⟩ := h
  refine ⟨ρ, τ, h, _, R, S, hp, ⟨k.nx, k.rt, k.bk, k.ct, fun ρ1 H1 h1 τ1 σ1 c v cls d E1 R1 S1 rx q1 => ?_⟩⟩
  obtain ⟨hm, q1⟩ := q1
  obtain ⟨Cc, dd, u, hmc, rfl, rfl, hd, rv⟩ := rx
  refine ⟨catches c x, T.exm c hm x hx Cc C hmc hC, fun e a ha => ?_, fun e => ?_⟩
  · have q2 : su (Dp.out i) (τ1.set i (some (.exc c v))) h1 := by
      have q2 := q1
      unfold exAs at q2
      rw [e, if_pos rfl] at q2
      exact q2
    refine ⟨ρ1, _, h1, _, R1, S1.up.setO (xa := some (i, a, .ref Cc, some dd)) (x := .exc c v) (v := .ref a) ⟨a, Cc, dd, u, rfl, rfl, hmc, hd, rv⟩, q2, ⟨fun ρ2 H2 h2 τ2 σ2 E2 R2 S2 q3 => ?_, fun ρ2 H2 h2 y w E2 R2 r2 q3 => ?_, fun ρ2 H2 h2 τ2 σ2 E2 R2 S2 q3 => ?_, fun ρ2 H2 h2 τ2 σ2 E2 R2 S2 q3 => ?_, fun _ _ _ _ _ _ _ _ _ _ _ _ _ z => z⟩⟩
    · exact k.nx ρ2 H2 h2 _ _ (E1.trans E2) R2 S2.down q3
    · exact k.rt ρ2 H2 h2 y w (E1.trans E2) R2 r2 q3
    · exact k.bk ρ2 H2 h2 _ _ (E1.trans E2) R2 S2.down q3
    · exact k.ct ρ2 H2 h2 _ _ (E1.trans E2) R2 S2.down q3
  · have q2 := q1
    unfold exAs at q2
    rw [e, if_neg Bool.false_ne_true] at q2
    exact k.ex ρ1 H1 h1 τ1 σ1 c v _ _ E1 R1 S1 ⟨Cc, dd, u, hmc, rfl, rfl, hd, rv⟩ q2
/-- the value of the error that the suite holds (in slot i) -/
def pErrVal (es : List Str) (i : Nat) : PTE := fun τ h Q _ => match τ[i]? with
  | some (some (.exc c v)) => c ∈ es ∧ Q v h
  | _ => False
theorem xfC_of {K : PySem.W.Frag} {C fI : Addr} (T : PySem.TErr.LowTxt K C fI) : XfC K C := ⟨T.ga, T.gg, T.exC, T.hdC⟩
theorem le_errVal {es : List Str} {n : Str} {a : Addr} {oe : Obj} {cls : Value} {d : Option Addr} {pn : List (Addr × Obj)} {i : Nat} {W : WX} {pos pos' : Pos} (T : ErrTab X.K X.mg es)
    (hz : Zc cls d oe) (hf : ∃ vs, oe.data = .fields vs) (hv : PE (X.suite a ((a, oe) :: pn)) (.Name n pos') (tVar i)) (hb : attributeBase (.Name n pos') "value" X.env (eval (.Name n pos') X.env) = eval (.Name n pos') X.env := by rfl) :
    PE (X.suite a ((a, oe) :: pn)) (.Attribute (.Name n pos') "value" pos) (lE (gX X) (some (i, a, cls, d)) W (pErrVal es i)) := by
  refine ⟨fun pins s σ H Q I h => ?_⟩
  obtain ⟨ρ, τ, h, Qp, Ep, R, S, hp, k, kx⟩ := h
  unfold pErrVal at hp
  split at hp
  · rename_i c v e
    obtain ⟨hm, q⟩ := hp
    obtain ⟨w', ew, r⟩ := S.2 i _ e
    obtain ⟨a', C, dd, u, e1, e2, e3, e4, rv⟩ := r
    subst e1
    cases e2
    obtain ⟨C', fI, m', low⟩ := T.low c hm
    have m'' : X.mg c = some (.ref C) := e3
    rw [m''] at m'
    cases m'
    exact (pe_xf (xfC_of low) low.noN hz hf hv hb).run pins s σ H Q I ⟨_, ew, rfl, rfl, dd, _, u, rfl, e4, by simp [List.lookup], k ρ H h v u .refl R rv q⟩
  · exact hp.elim
end
/-! ### calls -/
section
variable {X : Cx} {xa : XA} {W : WX} {k : Nat} {f : Addr} {fd : FuncData} {ps : List Str} {sp : PSp} {x : Str} {p pos : Pos} {e : Expr} {es : List Expr} {t : PTA}
theorem call_of {σ : St} {H : Hp} {Q : VK} {dp : List PV} {dvs : List V} (hd : ∀ ρ H, RVs (gX X) ρ H dp dvs) (h : lE (gX X) xa W (pCall (fun vs => sp (vs ++ dp)) t) σ H Q) : tCallSD (lSp (gX X) sp) dvs (fun σ cls d H => W cls d σ H) (lA (gX X) xa W t) σ H Q := by
  obtain ⟨ρ, τ, h, Qp, Ep, R, S, hp, kk, kx⟩ := h
  refine ⟨ρ, τ, h, _, Ep, R, S, hp, fun ρ1 H1 h1 xs vs E1 R1 r1 q1 => ?_, kx⟩
  exact ⟨ρ1, h1, xs ++ dp, Qp, Ep, R1, r1.append (hd ρ1 H1), q1, fun ρ2 H2 h2 y w E2 R2 r2 q2 => kk ρ2 H2 h2 y w (E1.trans E2) R2 r2 q2, fun ρ2 H2 h2 c y cls d E2 R2 r2 q2 => kx ρ2 H2 h2 c y cls d (E1.trans E2) R2 r2 q2⟩
theorem wpass {W : WX} (tk : Takes X W) (σ : St) : PassesAt (L2.CX X.prog X.w) X σ (fun cls d H => W cls d σ H) := fun _ _ _ e s' I c => tk e s' (XE.of_call I (fun _ _ _ h => h) c)
/-- f(e, ..) -/
theorem le_call (F : FnOk X.prog X.w X.K X.mg X.base (L2.CX X.prog X.w) k f fd ps (lSp (gX X) sp)) (hr : Room k X.A) (hg : Gl X x) (hm : X.mg x = some (.ref f)) (hk : PySem.W.keepIn X.K (.ref f) = true) (hb : Binds X.K fd ps []) (tk : Takes X W)
    (ha : PA X (e :: es) (lA (gX X) xa W t)) (hdb : (x == ("__debug__" : Str)) = false := by decide) (he : starEach (e :: es) X.env = (false, eval e X.env) :: starEach es X.env := by rfl) (hpl : (backTo pos (starEach es X.env)).any (·.1) = false := by rfl) :
    PE X (.Call (.Name x p) (e :: es) [] pos) (lE (gX X) xa W (pCall sp t)) :=
  PE_imp (pe_callSD F hr hg hm hk hb .nil (fun σ => wpass tk σ) ha hdb he hpl) fun σ H Q h => call_of (dp := []) (fun _ _ => .nil) (by
    have e : (fun vs : List PV => sp (vs ++ [])) = sp := by funext vs; rw [List.append_nil]
    rw [e]
    exact h)
/-- f() -/
theorem le_call0 (F : FnOk X.prog X.w X.K X.mg X.base (L2.CX X.prog X.w) k f fd ps (lSp (gX X) sp)) (hr : Room k X.A) (hg : Gl X x) (hm : X.mg x = some (.ref f)) (hk : PySem.W.keepIn X.K (.ref f) = true) (hb : Binds X.K fd ps []) (tk : Takes X W)
    (hdb : (x == ("__debug__" : Str)) = false := by decide) : PE X (.Call (.Name x p) [] [] pos) (lE (gX X) xa W (pCall sp pNil)) := by
  refine ⟨fun pins s σ H Q I h => ?_⟩
  obtain ⟨ρ, τ, h, Qp, Ep, R, S, hp, kk, kx⟩ := h
  refine wpAny_Call_Name_kw (ld_glob I hg hm ?_ hdb)
  exact PySem.W.callWith_K0 I.kIn hk (run_fnSD (us := []) (dvs := []) (E := fun σ cls d H => W cls d σ H) F hr hb .nil (wpass tk σ) I .nil ⟨ρ, h, [], Qp, Ep, R, .nil, hp, fun ρ2 H2 h2 y w E2 R2 r2 q2 => kk ρ2 H2 h2 y w E2 R2 r2 q2, fun ρ2 H2 h2 c y cls d E2 R2 r2 q2 => kx ρ2 H2 h2 c y cls d E2 R2 r2 q2⟩)
/-! keywords -/
def pick {α : Type} (p : List Nat) (xs : List α) : List α := p.filterMap fun i => xs[i]?
theorem pick_rv {G : LG} {ρ : List Addr} {H : Hp} {xs : List PV} {vs : List V} (r : RVs G ρ H xs vs) : ∀ p : List Nat, RVs G ρ H (pick p xs) (pick p vs)
  | [] => .nil
  | i :: p => by
    unfold pick
    rw [List.filterMap_cons, List.filterMap_cons]
    cases e : xs[i]? with
    | none =>
      have e2 : vs[i]? = none := List.getElem?_eq_none (by rw [← r.length]; exact List.getElem?_eq_none_iff.mp e)
      rw [e2]
      exact pick_rv r p
    | some x =>
      obtain ⟨v, ev, rv⟩ := r.get e
      rw [ev]
      exact .cons rv (pick_rv r p)
theorem pick_vals {vs : List V} {us : List Value} (r : Vals vs us) : ∀ p : List Nat, Vals (pick p vs) (pick p us)
  | [] => .nil
  | i :: p => by
    unfold pick
    rw [List.filterMap_cons, List.filterMap_cons]
    cases e : vs[i]? with
    | none =>
      rw [r.none_of e]
      exact pick_vals r p
    | some x =>
      obtain ⟨v, ev, rv⟩ := r.get e
      rw [ev]
      exact .cons rv (pick_vals r p)
/-- how a call with keywords binds: perm names, parameter by parameter, the place among the values as they are written -/
def KwBinds (K : PySem.W.Frag) (fd : FuncData) (ps ks : List Str) (n : Nat) (perm : List Nat) : Prop :=
  ∀ (s : Shared) (us ws : List Value), K.In s.heap → us.length = n → ws.length = ks.length → BindsTo s fd ⟨us, ks.zip ws⟩ (ps.zip (pick perm (us ++ ws)))
theorem FunD.kwb {K : PySem.W.Frag} {fd : FuncData} {xn qual : Str} {params : Arguments} {body : List Stmt} {scope : Scope} {kws : List (Str × V)} (F : FunD K xn qual params body scope [] kws f fd) {ks : List Str} {n : Nat} {perm : List Nat}
    (h : ∀ (kV doc pm : Value) (an : Option Addr) (cdv ct : Value) (us ws : List Value), us.length = n → ws.length = ks.length → bindArgs (PySem.W.fnOf xn qual params body scope .none kV doc pm an cdv ct) ⟨us, ks.zip ws⟩ = pure (ps.zip (pick perm (us ++ ws)))) : KwBinds K fd ps ks n perm := by
  obtain ⟨oc, od, dV, kV, doc, pm, an, cdv, ct, osl, rfl, lk, hcd, hD, hK⟩ := F.ex
  rcases hD with ⟨_, rfl⟩ | ⟨e, _⟩
  · exact fun s us ws _ h1 h2 => .of_eq (h kV doc pm an cdv ct us ws h1 h2)
  · exact absurd rfl e
def pCallK (sp : PSp) (n m : Nat) (perm : List Nat) (t tk : PTA) : PTE := fun τ h Q E => t τ h (fun vs h1 => tk τ h1 (fun zs h2 => vs.length = n ∧ zs.length = m ∧ sp (pick perm (vs ++ zs)) h2 Q E) E) E
variable {ks : List Str} {n : Nat} {perm : List Nat} {kws : List Keyword} {tk' : PTA}
theorem run_fnKS {pins : List (Addr × Obj)} {σ : St} {H : Hp} {s : Shared} {Q : VK} {us ws : List Value} {vs zs : List V} {sp : Sp} {E : XK} (F : FnOk X.prog X.w X.K X.mg X.base (L2.CX X.prog X.w) k f fd ps sp) (hr : Room k X.A) (hb : KwBinds X.K fd ps ks n perm) (hx : PassesAt (L2.CX X.prog X.w) X σ E)
    (I : Inv X pins σ H s) (r : Vals vs us) (rz : Vals zs ws) (l1 : vs.length = n) (l2 : zs.length = ks.length) (h : sp (pick perm (vs ++ zs)) H Q E) : wpAny (model X.prog X.w) X.A (call (.ref f) us (ks.zip ws)) (EP X pins σ Q) X.xe s := by
  refine wpAny_call (codeAny_mono (F.run X.A X.stack s H ⟨us, ks.zip ws⟩ (pick perm (us ++ ws)) (pick perm (vs ++ zs)) Q E hr I.env0 (hb s us ws I.kIn (r.length.symm.trans l1) (rz.length.symm.trans l2)) (pick_vals (r.append rz) perm) h) fun r s' hq => ?_)
  cases r with
  | error e => exact hx pins H s e s' I hq
  | ok fl =>
    cases fl with
    | ret u => exact I.after hq
    | next => exact False.elim hq
    | brk => exact False.elim hq
    | cont => exact False.elim hq
theorem le_callK (F : FnOk X.prog X.w X.K X.mg X.base (L2.CX X.prog X.w) k f fd ps (lSp (gX X) sp)) (hr : Room k X.A) (hg : Gl X x) (hm : X.mg x = some (.ref f)) (hk : PySem.W.keepIn X.K (.ref f) = true) (hb : KwBinds X.K fd ps ks n perm) (tk : Takes X W)
    (ha : PA X (e :: es) (lA (gX X) xa W t)) (hkw : PK X kws (lA (gX X) xa W tk')) (hall : (backToKw pos (keywordEach kws X.env)).all (·.1.isSome) = true := by rfl) (hks : (backToKw pos (keywordEach kws X.env)).filterMap (·.1) = ks := by rfl)
    (hdb : (x == ("__debug__" : Str)) = false := by decide) (he : starEach (e :: es) X.env = (false, eval e X.env) :: starEach es X.env := by rfl)
    (hpl : ((backTo pos (starEach (e :: es) X.env)).any (·.1) || (backToKw pos (keywordEach kws X.env)).any (·.1.isNone)) = false := by rfl) :
    PE X (.Call (.Name x p) (e :: es) kws pos) (lE (gX X) xa W (pCallK sp n ks.length perm t tk')) := by
  refine ⟨fun pins s σ H Q I h => ?_⟩
  obtain ⟨ρ, τ, h, Qp, Ep, R, S, hp, kk, kx⟩ := h
  refine wpAny_Call_Name_kw (ld_glob I hg hm ?_ hdb)
  refine PySem.W.callWith_KW (h₀ := X.base) I.ok.mod.kin hk hall (thn (ha.run pos pins s σ H (fun vs H1 => lA (gX X) xa W tk' σ H1 fun zs H2 => vs.length = n ∧ zs.length = ks.length ∧ lSp (gX X) sp (pick perm (vs ++ zs)) H2 Q (fun cls d H => W cls d σ H)) I ?_) fun us s1 ⟨vs, H1, I1, r, q⟩ => ?_) hpl he
  · refine ⟨ρ, τ, h, _, Ep, R, S, hp, fun ρ1 H1 h1 xs vs E1 R1 r1 q1 => ?_, kx⟩
    refine ⟨ρ1, τ, h1, _, Ep, R1, S.mono R.trk E1, q1, fun ρ2 H2 h2 ys us E2 R2 r2 q2 => ?_, kx.mono E1⟩
    obtain ⟨l1, l2, q2⟩ := q2
    exact ⟨by rw [← r1.length]; exact l1, by rw [← r2.length]; exact l2, ρ2, h2, _, Qp, Ep, R2, pick_rv ((r1.mono R1.trk E2).append r2) perm, q2, fun ρ3 H3 h3 y w E3 R3 r3 q3 => kk ρ3 H3 h3 y w (E1.trans (E2.trans E3)) R3 r3 q3, fun ρ3 H3 h3 c y cls d E3 R3 r3 q3 => kx ρ3 H3 h3 c y cls d (E1.trans (E2.trans E3)) R3 r3 q3⟩
  · refine thn (hkw.run pos pins s1 σ H1 _ I1 q) fun ws s2 ⟨zs, H2, I2, rz, l1, l2, q2⟩ => ⟨I2.kIn, ?_⟩
    rw [hks]
    exact run_fnKS F hr hb (wpass tk σ) I2 r rz l1 l2 q2
theorem le_callK0 (F : FnOk X.prog X.w X.K X.mg X.base (L2.CX X.prog X.w) k f fd ps (lSp (gX X) sp)) (hr : Room k X.A) (hg : Gl X x) (hm : X.mg x = some (.ref f)) (hk : PySem.W.keepIn X.K (.ref f) = true) (hb : KwBinds X.K fd ps ks 0 perm) (tk : Takes X W)
    (hkw : PK X kws (lA (gX X) xa W tk')) (hall : (backToKw pos (keywordEach kws X.env)).all (·.1.isSome) = true := by rfl) (hks : (backToKw pos (keywordEach kws X.env)).filterMap (·.1) = ks := by rfl)
    (hdb : (x == ("__debug__" : Str)) = false := by decide)
    (hpl : ((backTo pos (starEach [] X.env)).any (·.1) || (backToKw pos (keywordEach kws X.env)).any (·.1.isNone)) = false := by rfl) :
    PE X (.Call (.Name x p) [] kws pos) (lE (gX X) xa W (pCallK sp 0 ks.length perm pNil tk')) := by
  refine ⟨fun pins s σ H Q I h => ?_⟩
  obtain ⟨ρ, τ, h, Qp, Ep, R, S, hp, kk, kx⟩ := h
  refine wpAny_Call_Name_kw (ld_glob I hg hm ?_ hdb)
  refine PySem.W.callWith_KW0 (h₀ := X.base) I.ok.mod.kin hk hall (thn (hkw.run pos pins s σ H (fun zs H2 => zs.length = ks.length ∧ lSp (gX X) sp (pick perm ([] ++ zs)) H2 Q (fun cls d H => W cls d σ H)) I ?_) fun ws s2 ⟨zs, H2, I2, rz, l2, q2⟩ => ⟨I2.kIn, ?_⟩) hpl
  · refine ⟨ρ, τ, h, _, Ep, R, S, hp, fun ρ2 H2 h2 ys us E2 R2 r2 q2 => ?_, kx⟩
    obtain ⟨_, l2, q2⟩ := q2
    exact ⟨by rw [← r2.length]; exact l2, ρ2, h2, _, Qp, Ep, R2, pick_rv (xs := [] ++ ys) (vs := [] ++ us) r2 perm, q2, fun ρ3 H3 h3 y w E3 R3 r3 q3 => kk ρ3 H3 h3 y w (E2.trans E3) R3 r3 q3, fun ρ3 H3 h3 c y cls d E3 R3 r3 q3 => kx ρ3 H3 h3 c y cls d (E2.trans E3) R3 r3 q3⟩
  · rw [hks]
    exact run_fnKS F hr hb (wpass tk σ) I2 .nil rz rfl l2 q2
end
/-! ### a def -/
theorem rs_start {G : LG} {ρ : List Addr} {H : Hp} {N : List Str} {xs : List PV} {vs : List V} (r : RVs G ρ H xs vs) : RS G none ρ H (pstart N.length xs) (L2.start N vs) := by
  unfold pstart L2.start
  refine ⟨by rw [List.length_append, List.length_append, List.length_map, List.length_map, List.length_replicate, List.length_replicate, r.length], fun i x e => ?_⟩
  by_cases hi : i < xs.length
  · rw [List.getElem?_append_left (by rw [List.length_map]; exact hi), List.getElem?_map] at e
    obtain ⟨y, ey, e2⟩ := Option.map_eq_some_iff.mp e
    cases e2
    obtain ⟨v, ev, rv⟩ := r.get ey
    exact ⟨v, by rw [List.getElem?_append_left (by rw [List.length_map, ← r.length]; exact hi), List.getElem?_map, ev]; rfl, rv.ro⟩
  · rw [List.getElem?_append_right (by rw [List.length_map]; exact Nat.le_of_not_lt hi), List.getElem?_replicate] at e
    split at e <;> cases e
/-- a def keeps its promise: its derivation d, and the pure theorem pure -/
theorem ok_def {P : Program} {w : World} {K : PySem.W.Frag} {mg : Str → Option Value} {base : Heap} {x qual : Str} {params : Arguments} {sts : List Stmt} {scope : Scope} {dvs : List V} {kws : List (Str × V)} {f : Addr} {fd : FuncData} {N ps : List Str} {k : Nat} {sp : PSp} {t : PTS}
    (F : FunD K x qual params sts scope dvs kws f fd) (S : FnScope N ps scope) (len : ∀ vs h Q E, sp vs h Q E → vs.length = ps.length)
    (d : ∀ (cdv : Value) (A : Around) (outer : List Env) (s : Shared) (H : Hp) (E : XK), Room k (A.deeper (envOfC qual scope s.heap.objs.size f cdv)) → PSs (cxOf (L2.CX P w) P w K mg base N qual scope f cdv A outer s H E) sts (lS ⟨K, mg⟩ none (fun cls d _ H => E cls d H) t))
    (pure : ∀ vs h Q E, sp vs h Q E → t (body Q E) (pstart N.length vs) h) : FnOk P w K mg base (L2.CX P w) (k + 1) f fd ps (lSp ⟨K, mg⟩ sp) := by
  refine F.ok S (fun vs H Q E h => ?_) fun cdv A outer s H vs Q E hr h => ⟨_, d cdv A outer s H E hr, ?_⟩
  · obtain ⟨ρ, h, xs, Qp, Ep, R, r, hp, _⟩ := h
    rw [← r.length]
    exact len _ _ _ _ hp
  · obtain ⟨ρ, h, xs, Qp, Ep, R, r, hp, k1, k2⟩ := h
    exact ⟨ρ, _, h, body Qp Ep, R, rs_start r, pure xs h Qp Ep hp, ⟨fun ρ' H' h' τ' σ' E' R' S' q => k1 ρ' H' h' _ _ E' R' .non q, fun ρ' H' h' y v E' R' r' q => k1 ρ' H' h' y v E' R' r' q, fun _ _ _ _ _ _ _ _ z => z.elim, fun _ _ _ _ _ _ _ _ z => z.elim, fun ρ' H' h' τ' σ' c y cls d E' R' S' rx q => k2 ρ' H' h' c y cls d E' R' rx q⟩⟩
end MP
set_option maxHeartbeats 4000000
/-! MP9: the head's facts; short words for derivations. -/
namespace MP
open PySem PySem.Spec PyProof.Rows L2 TL

/-! ### a hook with any facts -/
def obsM (fb : PySem.W.Frag → Bool) (fn : List He.DefD) (K : PySem.W.Frag) : He.AlD := (fb K && fn.all fun d => d.ok K, fn.map fun d => He.fnW K d.at_)
def SaysM (fb : PySem.W.Frag → Bool) (fn : List He.DefD) (K : PySem.W.Frag) : Prop := obsM fb fn K = He.valD fn
def obsMG (n : Nat) (fb : PySem.W.Frag → Bool) (fn : List He.DefD) (g : Addr → Option Obj) : He.AlD := obsM fb fn (He.frG g (He.asD g n))
def hookM (n : Nat) (fb : PySem.W.Frag → Bool) (fn : List He.DefD) : PySem.W.Hook where
  α := He.AlD
  obs := fun s => obsMG n fb fn s.heap.get?
  val := fun _ => He.valD fn
  says := fun _ h => ∃ K : PySem.W.Frag, K.In h ∧ SaysM fb fn K
  of := fun _ _ e => ⟨_, He.frG_in, e⟩
  keeps := fun _ _ _ ⟨K, hK, c⟩ k => ⟨K, PySem.W.Frag.In.keeps hK k, c⟩
theorem obsMG_eq {n : Nat} {fb : PySem.W.Frag → Bool} {fn : List He.DefD} {g : Addr → Option Obj} {s : Shared} (h : ∀ a, g a = s.heap.get? a) : obsMG n fb fn g = (hookM n fb fn).obs s := by
  have e : g = s.heap.get? := funext h
  rw [e] <;> rfl
section
variable {fbb : PySem.W.Frag → Bool} {fn : List He.DefD} {K : PySem.W.Frag}
theorem SaysM.fb (c : SaysM fbb fn K) : fbb K = true := (He.ba (show (fbb K && fn.all fun d => d.ok K) = true from congrArg (fun z : He.AlD => z.1) c)).1
theorem SaysM.def_ (c : SaysM fbb fn K) (i : Nat) {d : He.DefD} (h : fn[i]? = some d := by rfl) : ∃ fd, FunD K d.name d.qual d.params d.body d.scope (d.dvs K) (d.kws K) (He.fAd K d.at_) fd := by
  have c2 := (He.ba (show (fbb K && fn.all fun d => d.ok K) = true from congrArg (fun z : He.AlD => z.1) c)).2
  have e : fn.map (fun d => He.fnW K d.at_) = fn.map He.DefD.val := congrArg (fun z : He.AlD => z.2) c
  have e2 : (fn.map fun d => He.fnW K d.at_)[i]? = (fn.map He.DefD.val)[i]? := by rw [e]
  rw [List.getElem?_map, List.getElem?_map, h] at e2
  exact He.DefD.funD (Option.some.inj e2) (List.all_eq_true.mp c2 d (List.mem_of_getElem? h))
end
/-! ### errors -/
def clsB (K : PySem.W.Frag) (C : Addr) : Bool := match K.lookup C with
  | some ⟨.type t, _, .cls ⟨_, _, .ref C' :: bm, _, _, true, _, _, _, _, false⟩, ⟨[_, _, _, _, some (.builtin n), _]⟩⟩ => decide (t = "type") && (decide (C' = C) && (decide (n = "ValueError.__new__") && PySem.HandSPX.refsVE bm))
  | _ => false
theorem clsB_ok {K : PySem.W.Frag} {C : Addr} (h : clsB K C = true) : ∃ nm q N bs bm sn sub ab col dd k0 k1 k2 k3 k5, K.lookup C = some (excClassObj nm q C N bs bm true sn sub ab col dd k0 k1 k2 k3 k5 "ValueError.__new__") ∧ PySem.HandSPX.refsVE bm = true := by
  unfold clsB at h
  split at h
  · rename_i e
    obtain ⟨h1, h⟩ := He.ba h
    obtain ⟨h2, h⟩ := He.ba h
    obtain ⟨h3, h4⟩ := He.ba h
    have e1 := of_decide_eq_true h1
    have e2 := of_decide_eq_true h2
    have e3 := of_decide_eq_true h3
    subst e1 e2 e3
    exact ⟨_, _, _, _, _, _, _, _, _, _, _, _, _, _, _, e, h4⟩
  · cases h
def initAd (K : PySem.W.Frag) : Addr := He.fAd K ("TreeError", some "__init__")
def lowB (K : PySem.W.Frag) (c : Str) : Bool := He.eqO (PySem.W.nsIn K mainGlobals c) (some (some (.ref (He.ga K c)))) && (clsB K (He.ga K c) && (He.eqO (PySem.W.findIn K (.ref (He.ga K c)) "__setattr__") (some (some (.builtin "object.__setattr__"))) && (He.eqO (PySem.W.findIn K (.ref (He.ga K c)) "__getattribute__") (some (some (.builtin "BaseException.__getattribute__"))) &&
  (He.eqO (PySem.W.findIn K (.ref (He.ga K c)) "__getattr__") (some none) && (He.eqO (PySem.W.findIn K (.ref (He.ga K c)) "value") (some none) && (He.eqO (PySem.W.findIn K (.ref (He.ga K c)) "__init__") (some (some (.ref (initAd K)))) && (decide (PySem.W.typeIn K (.ref (initAd K)) = some (.type "function")) &&
  (PySem.W.keepIn K (.ref (He.ga K c)) && (decide (PySem.W.subIn K (.ref (He.ga K c)) (.type "BaseException") = some true) && (decide (PySem.W.typeIn K (.ref (He.ga K c)) = some (.type "type")) && PySem.W.hasDictIn K (He.ga K c)))))))))))
/-- the __init__ of the base class, as the text has it -/
structure InitTxt (K : PySem.W.Frag) : Prop where
  fn : ∃ (oc : Value) (od : Option Addr) (kV doc pm : Value) (an : Option Addr) (cdv ct : Value) (osl : Array (Option Value)) (p1 p2 q1 q2 q3 q4 : Pos),
    K.lookup (initAd K) = some ⟨oc, od, .func (PySem.W.fnOf "__init__" "TreeError.__init__" (PySem.TErr.iA p1 p2) (PySem.TErr.iB q1 q2 q3 q4) PySem.TErr.iS .none kV doc pm an cdv ct), osl⟩ ∧ PySem.W.codeIn K cdv "TreeError.__init__" = true
theorem initTxt_of {K : PySem.W.Frag} {p1 p2 q1 q2 q3 q4 : Pos} {fd : FuncData} (F : FunD K "__init__" "TreeError.__init__" (PySem.TErr.iA p1 p2) (PySem.TErr.iB q1 q2 q3 q4) PySem.TErr.iS [] [] (initAd K) fd) : InitTxt K := by
  obtain ⟨oc, od, dV, kV, doc, pm, an, cdv, ct, osl, rfl, lk, hcd, hD, hK⟩ := F.ex
  rcases hD with ⟨_, rfl⟩ | ⟨e, _⟩
  · exact ⟨_, _, _, _, _, _, _, _, _, _, _, _, _, _, _, lk, hcd⟩
  · exact absurd rfl e
theorem low_ok {K : PySem.W.Frag} {c : Str} (I : InitTxt K) (h : lowB K c = true) : PySem.TErr.LowTxt K (He.ga K c) (initAd K) := by
  obtain ⟨h0, h⟩ := He.ba h
  obtain ⟨h1, h⟩ := He.ba h
  obtain ⟨h2, h⟩ := He.ba h
  obtain ⟨h3, h⟩ := He.ba h
  obtain ⟨h4, h⟩ := He.ba h
  obtain ⟨h5, h⟩ := He.ba h
  obtain ⟨h6, h⟩ := He.ba h
  obtain ⟨h7, h⟩ := He.ba h
  obtain ⟨h8, h⟩ := He.ba h
  obtain ⟨h9, h⟩ := He.ba h
  obtain ⟨h10, h11⟩ := He.ba h
  exact ⟨clsB_ok h1, He.eqO_ok h2, He.eqO_ok h3, He.eqO_ok h4, He.eqO_ok h5, He.eqO_ok h6, of_decide_eq_true h7, h8, of_decide_eq_true h9, of_decide_eq_true h10, h11, I.fn⟩
def errB (es : List Str) (K : PySem.W.Frag) : Bool := (es.all fun c => lowB K c) && (es.all fun c => es.all fun c' => decide (PySem.W.exmOne K (.ref (He.ga K c)) (.ref (He.ga K c')) = some (catches c c')))
theorem err_mg {K : PySem.W.Frag} {h : Heap} {mg : Str → Option Value} {es : List Str} (X : K.In h) (G : h.Ns mainGlobals mg) (e : errB es K = true) {c : Str} (hc : c ∈ es) : mg c = some (.ref (He.ga K c)) := by
  have q := List.all_eq_true.mp (He.ba e).1 c hc
  exact PySem.W.mg_of X G (He.eqO_ok (He.ba q).1)
theorem errTab_of {K : PySem.W.Frag} {h : Heap} {mg : Str → Option Value} {es : List Str} (X : K.In h) (G : h.Ns mainGlobals mg) (I : InitTxt K) (e : errB es K = true) : ErrTab K mg es := by
  refine ⟨fun c hc => ⟨He.ga K c, initAd K, err_mg X G e hc, low_ok I (List.all_eq_true.mp (He.ba e).1 c hc)⟩, fun c hc c' hc' C C' hC hC' => ?_⟩
  rw [err_mg X G e hc] at hC
  rw [err_mg X G e hc'] at hC'
  cases hC
  cases hC'
  exact of_decide_eq_true (List.all_eq_true.mp (List.all_eq_true.mp (He.ba e).2 c hc) c' hc')
/-! ### short words -/
def okB (s : Str) : Bool := decide (s.length ≤ 16777216) && PySem.PyData.strOk s
theorem okS_b {s : Str} (h : okB s = true) : okS s := by
  obtain ⟨h1, h2⟩ := He.ba h
  exact ⟨by rw [sizeLine_eq]; exact of_decide_eq_true h1, h2⟩
theorem Room.u65 {k : Nat} {A : Around} (r : Room k A) : A.units + 65 < cLine := by have := r.un; omega
/-- a promise with its number of arguments -/
def gd (n : Nat) (sp : PSp) : PSp := fun vs h Q E => vs.length = n ∧ sp vs h Q E
/-- what stands: the facts, over the base -/
structure HE (fb : PySem.W.Frag → Bool) (fn : List He.DefD) (K : PySem.W.Frag) (mg : Str → Option Value) (base : Heap) : Prop where
  c : SaysM fb fn K
  X : K.In base
  G : base.Ns mainGlobals mg
/-- a def keeps a promise -/
def Ok (P : Program) (w : World) (K : PySem.W.Frag) (mg : Str → Option Value) (base : Heap) (name : Str) (st : Stmt) (ps : List Str) (k : Nat) (sp : PSp) : Prop :=
  ∃ fd : FuncData, FunD K name name (defArgs st) (defBody st) (defScope st) [] [] (He.ga K name) fd ∧ FnOk P w K mg base (L2.CX P w) k (He.ga K name) fd ps (lSp ⟨K, mg⟩ (gd ps.length sp))
theorem ok_mk {P : Program} {w : World} {K : PySem.W.Frag} {mg : Str → Option Value} {base : Heap} {name : Str} {st : Stmt} {N ps : List Str} {k : Nat} {sp : PSp} {t : PTS} {fd : FuncData} (F : FunD K name name (defArgs st) (defBody st) (defScope st) [] [] (He.ga K name) fd) (S : FnScope N ps (defScope st))
    (d : ∀ (cdv : Value) (A : Around) (outer : List Env) (s : Shared) (H : Hp) (E : XK), Room k (A.deeper (envOfC name (defScope st) s.heap.objs.size (He.ga K name) cdv)) → PSs (cxOf (L2.CX P w) P w K mg base N name (defScope st) (He.ga K name) cdv A outer s H E) (defBody st) (lS ⟨K, mg⟩ none (fun cls d _ H => E cls d H) t))
    (pure : ∀ vs h Q E, vs.length = ps.length → sp vs h Q E → t (body Q E) (pstart N.length vs) h) : Ok P w K mg base name st ps (k + 1) sp :=
  ⟨fd, F, ok_def F S (fun _ _ _ _ h => h.1) d fun vs h Q E hh => pure vs h Q E hh.1 hh.2⟩
theorem le_call' {X : Cx} {xa : XA} {W : WX} {k : Nat} {f : Addr} {fd : FuncData} {ps : List Str} {sp : PSp} {x : Str} {p pos : Pos} {e : Expr} {es : List Expr} {t : PTA} (O : FnOk X.prog X.w X.K X.mg X.base (L2.CX X.prog X.w) k f fd ps (lSp (gX X) sp)) {name : Str} {st : Stmt} (F : FunD X.K name name (defArgs st) (defBody st) (defScope st) [] [] f fd) (hr : Room k X.A) (hm : X.mg x = some (.ref f)) (hb : Binds X.K fd ps []) (tk : Takes X W)
    (ha : PA X (e :: es) (lA (gX X) xa W t)) (hg : Gl X x := by rfl) (hdb : (x == ("__debug__" : Str)) = false := by decide) (he : starEach (e :: es) X.env = (false, eval e X.env) :: starEach es X.env := by rfl) (hpl : (backTo pos (starEach es X.env)).any (·.1) = false := by rfl) :
    PE X (.Call (.Name x p) (e :: es) [] pos) (lE (gX X) xa W (pCall sp t)) := le_call O hr hg hm F.kp hb tk ha hdb he hpl
end MP
set_option maxHeartbeats 4000000
/-! MP10: more rules. -/
namespace MP
open PySem PySem.Spec PyProof.Rows L2 TL

/-- s.join(a list or tuple that stands) -/
def rJoin : PMt := fun x vs h Q => match x with
  | .str a => match vs with
    | [y] => match itemsOf h y with
      | some xs => rJoinI a xs h Q
      | none => False
    | _ => False
  | _ => False
section
variable {X : Cx} {xa : Option (Nat × Addr × Value × Option Addr)} {W : WX} {e : Expr} {pos p : Pos}
theorem mm_join : MtR X "str.join" (lM (gX X) rJoin) := by
  intro pins s σ H u vs uu us Q I ru rr hh
  obtain ⟨ρ, h, x, xs, Qp, R, r1, r2, hp, k⟩ := hh
  unfold rJoin at hp
  split at hp
  · rename_i a
    split at hp
    · rename_i y
      obtain ⟨v, e, r'⟩ := one_rv r2
      subst e
      split at hp
      · rename_i ys ey
        obtain ⟨b, ws, e1, sq, l, rs⟩ := itemsOf_sq R r' ey
        subst e1
        cases r1 with
        | str oa =>
          unfold rJoinI at hp
          split at hp
          · rename_i zs ez
            obtain ⟨lz, q⟩ := hp
            obtain ⟨ew, oy⟩ := sts_vs rs ez
            subst ew
            exact mt_join pins s σ H _ _ uu us Q I ru rr ⟨a, b, zs, rfl, rfl, sq, lz, k ρ H h _ _ .refl R (.str (okS_join oa oy lz)) q⟩
          · exact hp.elim
      · exact hp.elim
    · exact hp.elim
  · exact hp.elim
/-- a module's tuple of plain constants -/
def dvP : He.Dv → Option PV
  | .non => some .non
  | .bl b => some (.bl b)
  | .int i => some (.int i)
  | .str s => some (.str s)
  | _ => none
def dvPs : List He.Dv → Option (List PV)
  | [] => some []
  | d :: ds => match dvP d, dvPs ds with
    | some x, some xs => some (x :: xs)
    | _, _ => none
def dvOk : He.Dv → Bool
  | .str s => okB s
  | _ => true
theorem dvPs_rv {G : LG} {ρ : List Addr} {H : Hp} : ∀ {ds : List He.Dv} {xs : List PV}, dvPs ds = some xs → ds.all dvOk = true → RVs G ρ H xs (ds.map (He.Dv.v G.K))
  | [], _, e, _ => by cases e; exact .nil
  | d :: ds, xs, e, o => by
    have e' : (match dvP d, dvPs ds with
      | some x, some xs => some (x :: xs)
      | _, _ => none) = some xs := e
    rw [List.all_cons] at o
    obtain ⟨o1, o2⟩ := He.ba o
    split at e'
    · rename_i y ys e1 e2
      cases e'
      refine .cons ?_ (dvPs_rv e2 o2)
      cases d with
      | non => cases e1; exact .non
      | bl b => cases e1; exact .bl b
      | int i => cases e1; exact .int i
      | str s => cases e1; exact .str (okS_b o1)
      | _ => cases e1
    · cases e'
theorem le_gtup {x : Str} {ds : List He.Dv} {xs : List PV} (hg : Gl X x) (hm : X.mg x = some (.ref (He.ga X.K x)) ∧ He.tupB X.K x ds = true) (hd : dvPs ds = some xs := by rfl) (ho : (decide (ds.length ≤ 16777216) && ds.all dvOk) = true := by decide +kernel) (hdb : (x == ("__debug__" : Str)) = false := by decide) :
    PE X (.Name x pos) (lE (gX X) xa W (pC (.tup xs))) := by
  obtain ⟨m, t⟩ := hm
  obtain ⟨h1, h2⟩ := He.ba ho
  refine le_c (pe_glob (v := .ref (He.ga X.K x)) hg m rfl hdb) fun ρ H => .tup (He.tupB_ok t H) ?_ (dvPs_rv hd h2)
  rw [List.length_map, sizeLine_eq]
  exact of_decide_eq_true h1

/-! ### isinstance of the error that the suite holds -/
structure IsC (K : PySem.W.Frag) (D : Addr) : Prop where
  hc : (PySem.W.clsIn K D).isSome = true
  ha : PySem.W.findIn K (.ref D) "__class__" = some (some (.builtin "object.__class__"))
  hn : PySem.W.specialIn K (.builtin "object.__class__") "__get__" = some (some (.builtin "getset_descriptor.__get__"))
  ht : PySem.W.takesIn K (.builtin "object.__class__") = some true
  hm : PySem.W.mroIn K D (.type "object") = some true
structure IsTab (K : PySem.W.Frag) (mg : Str → Option Value) (es : List Str) : Prop where
  cl : ∀ c ∈ es, ∀ C : Addr, mg c = some (.ref C) → IsC K C
  is : ∀ c ∈ es, ∀ c' ∈ es, ∀ C C' : Addr, mg c = some (.ref C) → mg c' = some (.ref C') → PySem.W.kitOne K (.ref C) (.ref C') = some (catches c c')
  ve : ∀ c ∈ es, ∀ C : Addr, mg c = some (.ref C) → PySem.W.kitOne K (.ref C) (.type "ValueError") = some true
def isB (es : List Str) (K : PySem.W.Frag) : Bool := (es.all fun c => (PySem.W.clsIn K (He.ga K c)).isSome && (He.eqO (PySem.W.findIn K (.ref (He.ga K c)) "__class__") (some (some (.builtin "object.__class__"))) && (He.eqO (PySem.W.specialIn K (.builtin "object.__class__") "__get__") (some (some (.builtin "getset_descriptor.__get__"))) && (decide (PySem.W.takesIn K (.builtin "object.__class__") = some true) && (decide (PySem.W.mroIn K (He.ga K c) (.type "object") = some true) && decide (PySem.W.kitOne K (.ref (He.ga K c)) (.type "ValueError") = some true))))))
  && (es.all fun c => es.all fun c' => decide (PySem.W.kitOne K (.ref (He.ga K c)) (.ref (He.ga K c')) = some (catches c c')))
theorem isTab_of {K : PySem.W.Frag} {h : Heap} {mg : Str → Option Value} {es : List Str} (X : K.In h) (G : h.Ns mainGlobals mg) (e : errB es K = true) (i : isB es K = true) : IsTab K mg es := by
  obtain ⟨i1, i2⟩ := He.ba i
  have q : ∀ c ∈ es, ∀ C : Addr, mg c = some (.ref C) → C = He.ga K c := fun c hc C hC => by
    rw [err_mg X G e hc] at hC
    cases hC
    rfl
  refine ⟨fun c hc C hC => ?_, fun c hc c' hc' C C' hC hC' => ?_, fun c hc C hC => ?_⟩
  · cases q c hc C hC
    have z := List.all_eq_true.mp i1 c hc
    obtain ⟨z1, z⟩ := He.ba z
    obtain ⟨z2, z⟩ := He.ba z
    obtain ⟨z3, z⟩ := He.ba z
    obtain ⟨z4, z⟩ := He.ba z
    obtain ⟨z5, z6⟩ := He.ba z
    exact ⟨z1, He.eqO_ok z2, He.eqO_ok z3, of_decide_eq_true z4, of_decide_eq_true z5⟩
  · cases q c hc C hC
    cases q c' hc' C' hC'
    exact of_decide_eq_true (List.all_eq_true.mp (List.all_eq_true.mp i2 c hc) c' hc')
  · cases q c hc C hC
    have z := List.all_eq_true.mp i1 c hc
    obtain ⟨z1, z⟩ := He.ba z
    obtain ⟨z2, z⟩ := He.ba z
    obtain ⟨z3, z⟩ := He.ba z
    obtain ⟨z4, z⟩ := He.ba z
    obtain ⟨z5, z6⟩ := He.ba z
    exact of_decide_eq_true z6
def pErrIs (es : List Str) (i : Nat) (f : Str → Bool) : PTE := fun τ h Q _ => match τ[i]? with
  | some (some (.exc c _)) => c ∈ es ∧ Q (.bl (f c)) h
  | _ => False
theorem call_isE2 {a : Addr} {oe : Obj} {pn : List (Addr × Obj)} {D dd : Addr} (hz : Zc (.ref D) (some dd) oe) (hf : ∃ vs, oe.data = .fields vs) (xf : XfC X.K D) (C : IsC X.K D) : CallR (X.suite a ((a, oe) :: pn)) (.builtin "isinstance") (fun xs H Q => ∃ (fs : List (Str × V)) (c : V) (cv : Value) (b : Bool), xs = [.ref a, c] ∧ H dd = some (.xd fs) ∧ (∀ u, RelV c u → u = cv) ∧ PySem.W.kitOne X.K (.ref D) cv = some b ∧ Q (.bl b) H) := by
  intro pins s σ H xs us Q I r h
  obtain ⟨fs, c, cv, b, rfl, ea, hcv, e, q⟩ := h
  cases r with
  | cons rx rr =>
    cases rr with
    | cons rt rr =>
      cases rr
      cases rx
      have ec := hcv _ rt
      subst ec
      obtain ⟨hget, _⟩ := I.pin (a, oe) (List.mem_append.mpr (.inl List.mem_cons_self))
      obtain ⟨vs, hv⟩ := hf
      have hx : ObjOk X.prog X.w H s.heap dd (.xd fs) := I.hok dd _ ea
      obtain ⟨mA, hns, hr⟩ := hx
      obtain ⟨od, ho, hl⟩ := lookIn_ns hns
      have J : PySem.W.InstAt s.heap a oe D (some od) := ⟨hget, hz.1, by unfold PySem.W.notCls; rw [hv] <;> rfl, by rw [hz.2]; exact ho⟩
      exact PySem.W.kia_one (PySem.W.kitx_exc C.hc xf.ga xf.gg xf.exC C.ha C.hn C.ht C.hm) I.kIn J e (fun z => nomatch z) fun tk => ⟨.bl b, H, I.kept (t' := tk) fun _ _ z => z, rfl, q⟩
theorem le_errIsG {es : List Str} {n cn : Str} {a : Addr} {oe : Obj} {cls : Value} {d : Option Addr} {pn : List (Addr × Obj)} {i : Nat} {pos' pc : Pos} {f : Str → Bool} {cw : V} {cv : Value} (T : ErrTab X.K X.mg es) (TI : IsTab X.K X.mg es)
    (hz : Zc cls d oe) (hf : ∃ vs, oe.data = .fields vs) (hv : PE (X.suite a ((a, oe) :: pn)) (.Name n pos') (tVar i)) (hg : Gl X "isinstance") (hm : X.mg "isinstance" = none)
    (hcw : PE (X.suite a ((a, oe) :: pn)) (.Name cn pc) (tC cw)) (hcv : ∀ u, RelV cw u → u = cv) (hk : ∀ c ∈ es, ∀ C : Addr, X.mg c = some (.ref C) → PySem.W.kitOne X.K (.ref C) cv = some (f c))
    (hs : starEach [.Name n pos', .Name cn pc] X.env = (false, eval (.Name n pos') X.env) :: starEach [.Name cn pc] X.env := by rfl) (hs2 : starEach [Expr.Name cn pc] X.env = (false, eval (.Name cn pc) X.env) :: starEach [] X.env := by rfl)
    (hpl : (backTo pos (starEach [Expr.Name cn pc] X.env)).any (·.1) = false := by rfl) :
    PE (X.suite a ((a, oe) :: pn)) (.Call (.Name "isinstance" p) [.Name n pos', .Name cn pc] [] pos) (lE (gX X) (some (i, a, cls, d)) W (pErrIs es i f)) := by
  refine ⟨fun pins s σ H Q I h => ?_⟩
  obtain ⟨ρ, τ, h, Qp, Ep, R, S, hp, k, kx⟩ := h
  unfold pErrIs at hp
  split at hp
  · rename_i c v e
    obtain ⟨hm', q⟩ := hp
    obtain ⟨w', ew, r⟩ := S.2 i _ e
    obtain ⟨a', C, dd, u, e1, e2, e3, e4, rv⟩ := r
    subst e1
    cases e2
    obtain ⟨C', fI, m', low⟩ := T.low c hm'
    have m'' : X.mg c = some (.ref C) := e3
    rw [m''] at m'
    cases m'
    refine (pe_callB (call_isE2 hz hf (xfC_of low) (TI.cl c hm' C m'')) hg hm (by decide +kernel) (pa_cons hv (pa_cons hcw pa_nil hs2) hs) (by decide) (by decide) hs hpl).run pins s σ H Q I ?_
    exact ⟨_, ew, _, cw, cv, f c, rfl, e4, hcv, hk c hm' C m'', k ρ H h _ _ .refl R (.bl _) q⟩
  · exact hp.elim
/-- isinstance(e, c), c an own error class -/
theorem le_errIs {es : List Str} {n cn : Str} {a : Addr} {oe : Obj} {cls : Value} {d : Option Addr} {pn : List (Addr × Obj)} {i : Nat} {pos' pc : Pos} {D : Addr} (T : ErrTab X.K X.mg es) (TI : IsTab X.K X.mg es)
    (hz : Zc cls d oe) (hf : ∃ vs, oe.data = .fields vs) (hv : PE (X.suite a ((a, oe) :: pn)) (.Name n pos') (tVar i)) (hg : Gl X "isinstance") (hm : X.mg "isinstance" = none)
    (hgc : Gl X cn) (hmc : X.mg cn = some (.ref D)) (hin : cn ∈ es) (hdb : (cn == ("__debug__" : Str)) = false := by decide)
    (hs : starEach [.Name n pos', .Name cn pc] X.env = (false, eval (.Name n pos') X.env) :: starEach [.Name cn pc] X.env := by rfl) (hs2 : starEach [Expr.Name cn pc] X.env = (false, eval (.Name cn pc) X.env) :: starEach [] X.env := by rfl)
    (hpl : (backTo pos (starEach [Expr.Name cn pc] X.env)).any (·.1) = false := by rfl) :
    PE (X.suite a ((a, oe) :: pn)) (.Call (.Name "isinstance" p) [.Name n pos', .Name cn pc] [] pos) (lE (gX X) (some (i, a, cls, d)) W (pErrIs es i fun c => catches c cn)) :=
  le_errIsG T TI hz hf hv hg hm (pe_glob (v := .ref D) (u := .ref D) hgc hmc rfl hdb) (fun u r => r) (fun c hc C hC => TI.is c hc cn hin C D hC hmc) hs hs2 hpl
/-- isinstance(e, ValueError) -/
theorem le_errVE {es : List Str} {n : Str} {a : Addr} {oe : Obj} {cls : Value} {d : Option Addr} {pn : List (Addr × Obj)} {i : Nat} {pos' pc : Pos} (T : ErrTab X.K X.mg es) (TI : IsTab X.K X.mg es)
    (hz : Zc cls d oe) (hf : ∃ vs, oe.data = .fields vs) (hv : PE (X.suite a ((a, oe) :: pn)) (.Name n pos') (tVar i)) (hg : Gl X "isinstance") (hm : X.mg "isinstance" = none)
    (hgc : Gl X "ValueError") (hmc : X.mg "ValueError" = none)
    (hs : starEach [.Name n pos', .Name "ValueError" pc] X.env = (false, eval (.Name n pos') X.env) :: starEach [.Name "ValueError" pc] X.env := by rfl) (hs2 : starEach [Expr.Name "ValueError" pc] X.env = (false, eval (.Name "ValueError" pc) X.env) :: starEach [] X.env := by rfl)
    (hpl : (backTo pos (starEach [Expr.Name "ValueError" pc] X.env)).any (·.1) = false := by rfl) :
    PE (X.suite a ((a, oe) :: pn)) (.Call (.Name "isinstance" p) [.Name n pos', .Name "ValueError" pc] [] pos) (lE (gX X) (some (i, a, cls, d)) W (pErrIs es i fun _ => true)) :=
  le_errIsG T TI hz hf hv hg hm (pe_bltn (v := .ty "ValueError") hgc hmc (by decide +kernel) rfl) (fun u r => r) (fun c hc C hC => TI.ve c hc C hC) hs hs2 hpl
end
end MP
set_option maxHeartbeats 4000000
/-! MP11: the end: from the promise of law to the statement. -/
namespace L2
open PySem PySem.Spec PyProof.Rows
/-- a law's end where what may be let out is known per world -/
theorem walk_ofM {l : PySem.W.OpenLaw} {n k : Nat} {q : Program} {loose : List Str} {XP : (Str → Option Value) → Heap → Prop} {YP : World → Heap → Prop} {d : DefRec} {x : Str}
    (hn : l.most = some n) (hn2 : n ≤ sizeLine) (hdf : d.params.defaults = []) (hr : Room k callerA)
    (F : ∀ (w : World) (mg : Str → Option Value) (fa : Addr) (h : Heap), YP w h → h.Ns mainGlobals mg → mg d.name = some (.ref fa) →
      ∃ (K : PySem.W.Frag) (fd : FuncData) (sp : Sp), K.In h ∧ (∀ (s : Shared) (u : Value), BindsTo s fd ⟨[u], []⟩ [(x, u)]) ∧
        (∀ (H : Hp) (a : Addr) (ns : List Int), ns.length ≤ n → Only H → SqL K H a (ns.map V.int) → sp [.ref a] H (fun v _ => v = .bl true) fun _ _ _ => False) ∧
        ∀ base : Heap, K.In base → base.Ns mainGlobals mg → FnOk l.prog w K mg base (CX l.prog w) k fa fd [x] sp) :
    PySem.W.WalkO q loose XP YP l.row.toRowW d [] (fun f vs => PySem.call f vs) := by
  refine Att.attach_call hn hdf fun w s₀ s₁ mg mb fa o pm cd doc a vs ns G Y ho hd hcd hmg hobj hints hlen hg => ?_
  obtain ⟨K, fd, sp, KX, hb, hsp, hF⟩ := F w mg fa _ Y G.T.g hmg
  refine law_call KX G.T.g G.T.b G.T.builtins G.T.nolimit hg hobj hints (Nat.le_trans hlen hn2) hr hF hb (fun H hO hS => hsp H a ns hlen hO hS) fun H e s' c => ?_
  obtain ⟨_, _, _, _, _, _, _, _, _, _, _, _, z⟩ := c
  exact z
end L2
namespace MP
open PySem PySem.Spec PyProof.Rows L2 TL
theorem funD_uniq {K : PySem.W.Frag} {x q x' q' : Str} {p p' : Arguments} {b b' : List Stmt} {s s' : Scope} {d d' : List V} {k k' : List (Str × V)} {f : Addr} {fd fd' : FuncData} (F : FunD K x q p b s d k f fd) (F' : FunD K x' q' p' b' s' d' k' f fd') : fd = fd' := by
  obtain ⟨_, _, _, _, _, _, _, _, _, _, _, l1, _⟩ := F.ex
  obtain ⟨_, _, _, _, _, _, _, _, _, _, _, l2, _⟩ := F'.ex
  have e := l1.symm.trans l2
  simp only [Option.some.injEq, Obj.mk.injEq, Data.func.injEq] at e
  exact e.2.2.1
theorem ints_rv {G : LG} {ρ : List Addr} {H : Hp} : ∀ ns : List Int, RVs G ρ H (ns.map PV.int) (ns.map V.int)
  | [] => .nil
  | n :: ns => .cons (.int n) (ints_rv ns)
/-- the law's promise at the head -/
theorem sp_end {K : PySem.W.Frag} {mg : Str → Option Value} {sp : PSp} {H : Hp} {a : Addr} {ns : List Int} (hl : ns.length ≤ 16777216) (hO : Only H) (hS : SqL K H a (ns.map V.int)) (h : sp [.fl (ns.map PV.int)] [] (fun v _ => v = .bl true) F0) :
    lSp ⟨K, mg⟩ (gd 1 sp) [.ref a] H (fun v _ => v = .bl true) fun _ _ _ => False := by
  refine ⟨[], [], [.fl (ns.map PV.int)], _, _, ⟨rfl, List.nodup_nil, fun n a c e _ => by cases e⟩, .cons (.fl ?_ ?_ (ints_rv ns)) .nil, ⟨rfl, h⟩, fun ρ' H' h' x v _ _ r q => ?_, fun _ _ _ _ _ _ _ _ _ _ z => z⟩
  · rcases hS with (e | ⟨o, e⟩) | e
    · rcases hO a with z | ⟨o, xs, z⟩
      · rw [z] at e; cases e
      · rw [z] at e; cases e
    · exact .inl ⟨o, e⟩
    · exact .inr e
  · rw [List.length_map, sizeLine_eq]; exact hl
  · have q' : x = .bl true := q
    subst q'
    cases r
    rfl
/-- what is asked of a law whose def keeps its promise -/
theorem law_end {P : Program} {w : World} {K : PySem.W.Frag} {mg : Str → Option Value} {st : Stmt} {x : Str} {k n : Nat} {sp : PSp} {fd : FuncData} (hn : n ≤ 16777216) (F : FunD K "law" "law" (defArgs st) (defBody st) (defScope st) [] [] (He.ga K "law") fd)
    (hb : ∀ (s : Shared) (u : Value), BindsTo s fd ⟨[u], []⟩ [(x, u)])
    (ok : ∀ base : Heap, K.In base → base.Ns mainGlobals mg → Ok P w K mg base "law" st [x] k sp) (pure : ∀ ns : List Int, ns.length ≤ n → sp [.fl (ns.map PV.int)] [] (fun v _ => v = .bl true) F0) :
    ∃ (fd : FuncData) (sp : L2.Sp), (∀ (s : Shared) (u : Value), BindsTo s fd ⟨[u], []⟩ [(x, u)]) ∧
      (∀ (H : L2.Hp) (a : Addr) (ns : List Int), ns.length ≤ n → L2.Only H → L2.SqL K H a (ns.map L2.V.int) → sp [.ref a] H (fun v _ => v = .bl true) fun _ _ _ => False) ∧
      ∀ base : Heap, K.In base → base.Ns mainGlobals mg → L2.FnOk P w K mg base (L2.CX P w) k (He.ga K "law") fd [x] sp :=
  ⟨fd, lSp ⟨K, mg⟩ (gd 1 sp), hb, fun H a ns hl hO hS => sp_end (Nat.le_trans hl hn) hO hS (pure ns hl), fun base X G => by
    obtain ⟨fd', F', O⟩ := ok base X G
    cases funD_uniq F F'
    exact O⟩
end MP
set_option maxHeartbeats 4000000
/-! MP12: tools for the plain part: reading of data, the pot, loops. -/
namespace MP
open PySem L2 TL

/-! ### data read off -/
theorem allD_mono {g g' : PV → Option PyData} (m : ∀ x d, g x = some d → g' x = some d) : ∀ {xs : List PV} {ds : List PyData}, allD g xs = some ds → allD g' xs = some ds
  | [], _, e => e
  | x :: xs, ds, e => by
    unfold allD at e ⊢
    split at e
    · rename_i d ds' e1 e2
      rw [m x d e1, allD_mono m e2]
      exact e
    · cases e
theorem rdL_mono {g g' : PV → Option PyData} (m : ∀ x d, g x = some d → g' x = some d) {xs : List PV} {ds : List PyData} (e : rdL g xs = some ds) : rdL g' xs = some ds := by
  obtain ⟨l, e⟩ := rdL_ok e
  exact rdL_of l (allD_mono m e)
theorem rd_mono {h h' : PHeap} (m : ∀ (i : Nat) (xs : List PV), h[i]? = some (.lst xs) → h'[i]? = some (.lst xs)) : ∀ (f g : Nat), f ≤ g → ∀ (v : PV) (d : PyData), rd h f v = some d → rd h' g v = some d := by
  intro f
  induction f with
  | zero =>
    intro g _ v d e
    cases v with
    | non => cases g <;> exact e
    | bl b => cases g <;> exact e
    | int b => cases g <;> exact e
    | str b => cases g <;> exact e
    | _ => cases e
  | succ f ih =>
    intro g hg v d e
    obtain ⟨g, rfl⟩ : ∃ k, g = k + 1 := ⟨g - 1, by omega⟩
    have ih' := fun x d => ih g (by omega) x d
    cases v with
    | tup xs =>
      have e' : (rdL (rd h f) xs).map PyData.tuple = some d := e
      obtain ⟨ds, e1, e2⟩ := Option.map_eq_some_iff.mp e'
      show (rdL (rd h' g) xs).map PyData.tuple = some d
      rw [rdL_mono ih' e1]
      exact congrArg some e2
    | fl xs =>
      have e' : (rdL (rd h f) xs).map PyData.list = some d := e
      obtain ⟨ds, e1, e2⟩ := Option.map_eq_some_iff.mp e'
      show (rdL (rd h' g) xs).map PyData.list = some d
      rw [rdL_mono ih' e1]
      exact congrArg some e2
    | ref n =>
      have e' : (match h[n]? with
        | some (.lst xs) => (rdL (rd h f) xs).map PyData.list
        | _ => none) = some d := e
      show (match h'[n]? with
        | some (.lst xs) => (rdL (rd h' g) xs).map PyData.list
        | _ => none) = some d
      split at e'
      · rename_i xs en
        obtain ⟨ds, e1, e2⟩ := Option.map_eq_some_iff.mp e'
        rw [m n xs en]
        show (rdL (rd h' g) xs).map PyData.list = some d
        rw [rdL_mono ih' e1]
        exact congrArg some e2
      · cases e'
    | non => exact e
    | bl b => exact e
    | int b => exact e
    | str b => exact e
    | exc c v => cases e
theorem rd_le {h : PHeap} {f g : Nat} (l : f ≤ g) {v : PV} {d : PyData} (e : rd h f v = some d) : rd h g v = some d := rd_mono (fun _ _ z => z) f g l v d e
theorem rd_app {h : PHeap} (t : PHeap) {f : Nat} {v : PV} {d : PyData} (e : rd h f v = some d) : rd (h ++ t) f v = some d := rd_mono (fun i xs z => by
  rw [List.getElem?_append_left (List.getElem?_eq_some_iff.mp z).1]; exact z) f f (Nat.le_refl _) v d e
theorem rd_notExc {h : PHeap} {f : Nat} {v : PV} {d : PyData} (e : rd h f v = some d) : isExc v = false := by
  cases v with
  | exc c x => cases f <;> cases e
  | _ => rfl
theorem allD_len {g : PV → Option PyData} : ∀ {xs : List PV} {ds : List PyData}, allD g xs = some ds → xs.length = ds.length
  | [], _, e => by cases e; rfl
  | x :: xs, ds, e => by
    unfold allD at e
    split at e
    · rename_i d ds' e1 e2
      cases e
      simp [allD_len e2]
    · cases e
theorem allD_get {g : PV → Option PyData} : ∀ {xs : List PV} {ds : List PyData}, allD g xs = some ds → ∀ (i : Nat) (x : PV), xs[i]? = some x → ∃ d, ds[i]? = some d ∧ g x = some d
  | x :: xs, ds, e, i, y, ey => by
    unfold allD at e
    split at e
    · rename_i d ds' e1 e2
      cases e
      cases i with
      | zero => cases ey; exact ⟨d, rfl, e1⟩
      | succ i => exact allD_get e2 i y ey
    · cases e
  | [], _, _, i, y, ey => by cases ey
theorem allD_mem {g : PV → Option PyData} {xs : List PV} {ds : List PyData} (e : allD g xs = some ds) {x : PV} (hx : x ∈ xs) : ∃ d, d ∈ ds ∧ g x = some d := by
  obtain ⟨i, hi⟩ := List.getElem?_of_mem hx
  obtain ⟨d, e1, e2⟩ := allD_get e i x hi
  exact ⟨d, List.mem_of_getElem? e1, e2⟩
/-- texts read as themselves -/
theorem allD_strs {h : PHeap} {f : Nat} : ∀ ss : List Str, allD (rd h f) (ss.map .str) = some (ss.map .str)
  | [] => rfl
  | s :: ss => by
    have e : rd h f (.str s) = some (.str s) := by cases f <;> rfl
    show (match rd h f (.str s), allD (rd h f) (ss.map .str) with
      | some d, some ds => some (d :: ds)
      | _, _ => none) = _
    rw [e, allD_strs ss]
    rfl
/-- what is read has no dict: it is like itself -/
theorem eqvAll_refl' : ∀ {ds : List PyData}, (∀ d ∈ ds, PyData.eqv d d = true) → PyData.eqvAll ds ds = true
  | [], _ => by rfl
  | d :: ds, m => by
    have e1 := m d List.mem_cons_self
    have e2 := eqvAll_refl' fun x hx => m x (List.mem_cons_of_mem _ hx)
    simp [PyData.eqvAll, e1, e2]
theorem rd_eqv {h : PHeap} : ∀ (f : Nat) (v : PV) (d : PyData), rd h f v = some d → PyData.eqv d d = true := by
  have one : ∀ (f : Nat) (g : PV → Option PyData), (∀ x d, g x = some d → PyData.eqv d d = true) → ∀ xs ds, allD g xs = some ds → PyData.eqvAll ds ds = true := by
    intro f g ih xs ds e
    refine eqvAll_refl' fun d hd => ?_
    obtain ⟨i, hi⟩ := List.getElem?_of_mem hd
    have hi2 : i < xs.length := by rw [allD_len e]; exact (List.getElem?_eq_some_iff.mp hi).1
    obtain ⟨d', e1, e2⟩ := allD_get e i xs[i] (List.getElem?_eq_getElem hi2)
    rw [hi] at e1
    cases e1
    exact ih _ _ e2
  intro f
  induction f with
  | zero =>
    intro v d e
    cases v with
    | non => cases e; rfl
    | bl b => cases e; simp [PyData.eqv]
    | int b => cases e; simp [PyData.eqv]
    | str b => cases e; simp [PyData.eqv]
    | _ => cases e
  | succ f ih =>
    intro v d e
    cases v with
    | tup xs =>
      have e' : (rdL (rd h f) xs).map PyData.tuple = some d := e
      obtain ⟨ds, e1, rfl⟩ := Option.map_eq_some_iff.mp e'
      have := one f _ ih xs ds (rdL_ok e1).2
      simpa [PyData.eqv] using this
    | fl xs =>
      have e' : (rdL (rd h f) xs).map PyData.list = some d := e
      obtain ⟨ds, e1, rfl⟩ := Option.map_eq_some_iff.mp e'
      have := one f _ ih xs ds (rdL_ok e1).2
      simpa [PyData.eqv] using this
    | ref n =>
      have e' : (match h[n]? with
        | some (.lst xs) => (rdL (rd h f) xs).map PyData.list
        | _ => none) = some d := e
      split at e'
      · rename_i xs en
        obtain ⟨ds, e1, rfl⟩ := Option.map_eq_some_iff.mp e'
        have := one f _ ih xs ds (rdL_ok e1).2
        simpa [PyData.eqv] using this
      · cases e'
    | non => cases e; rfl
    | bl b => cases e; simp [PyData.eqv]
    | int b => cases e; simp [PyData.eqv]
    | str b => cases e; simp [PyData.eqv]
    | exc c v => cases e
/-! ### the pot, and a heap that goes on -/
def hid (p : Nat) (h : PHeap) : PHeap := h.set p (.dct [])
structure Ev (p : Nat) (h h' : PHeap) : Prop where
  len : h.length ≤ h'.length
  same : ∀ i, i ≠ p → i < h.length → h'[i]? = h[i]?
theorem Ev.refl {p : Nat} {h : PHeap} : Ev p h h := ⟨Nat.le_refl _, fun _ _ _ => rfl⟩
theorem Ev.trans {p : Nat} {h h' h'' : PHeap} (a : Ev p h h') (b : Ev p h' h'') : Ev p h h'' := ⟨Nat.le_trans a.len b.len, fun i n l => (b.same i n (Nat.lt_of_lt_of_le l a.len)).trans (a.same i n l)⟩
theorem Ev.app {p : Nat} {h : PHeap} (t : PHeap) : Ev p h (h ++ t) := ⟨by simp, fun i _ l => List.getElem?_append_left l⟩
theorem Ev.put {p : Nat} {h : PHeap} (c : Cell) : Ev p h (h.set p c) := ⟨by simp, fun i n _ => List.getElem?_set_ne (Ne.symm n)⟩
theorem rd_hid {p : Nat} {h : PHeap} {f : Nat} {v : PV} {d : PyData} (e : rd (hid p h) f v = some d) : rd h f v = some d := rd_mono (fun i xs z => by
  unfold hid at z
  by_cases hp : p = i
  · subst hp
    have l := (List.getElem?_eq_some_iff.mp z).1
    rw [List.length_set] at l
    rw [List.getElem?_set_self l] at z
    cases z
  · rwa [List.getElem?_set_ne hp] at z) f f (Nat.le_refl _) v d e
theorem Ev.lst {p : Nat} {h h' : PHeap} (E : Ev p h h') {i : Nat} {xs : List PV} (n : i ≠ p) (e : h[i]? = some (.lst xs)) : h'[i]? = some (.lst xs) := by
  rw [E.same i n (List.getElem?_eq_some_iff.mp e).1]
  exact e
theorem Ev.rd {p : Nat} {h h' : PHeap} (E : Ev p h h') {f : Nat} {v : PV} {d : PyData} (e : rd (hid p h) f v = some d) : rd (hid p h') f v = some d := rd_mono (fun i xs z => by
  unfold hid at z ⊢
  by_cases hp : p = i
  · subst hp
    have l := (List.getElem?_eq_some_iff.mp z).1
    rw [List.length_set] at l
    rw [List.getElem?_set_self l] at z
    cases z
  · rw [List.getElem?_set_ne hp] at z ⊢
    exact E.lst (Ne.symm hp) z) f f (Nat.le_refl _) v d e
def Pot (h : PHeap) (p n : Nat) : Prop := ∃ a b c : Int, h[p]? = some (.lst [.int a, .int b, .int c]) ∧ 0 ≤ a ∧ 0 ≤ b ∧ b < 10 ^ 40 ∧ 0 ≤ c ∧ c + n ≤ 10 ^ 9
theorem Pot.lt {h : PHeap} {p n : Nat} (P : Pot h p n) : p < h.length := by
  obtain ⟨a, b, c, e, _⟩ := P
  exact (List.getElem?_eq_some_iff.mp e).1
theorem Pot.app {h : PHeap} {p n : Nat} (P : Pot h p n) (t : PHeap) : Pot (h ++ t) p n := by
  have l := P.lt
  obtain ⟨a, b, c, e, r⟩ := P
  exact ⟨a, b, c, by rw [List.getElem?_append_left l]; exact e, r⟩
theorem Pot.le {h : PHeap} {p n m : Nat} (P : Pot h p n) (l : m ≤ n) : Pot h p m := by
  obtain ⟨a, b, c, e, r1, r2, r3, r4, r5⟩ := P
  exact ⟨a, b, c, e, r1, r2, r3, r4, by omega⟩
/-- one more number drawn, below m -/
def sp_draw : PSp := fun vs h Q _ => ∃ (p : Nat) (m : Int) (n : Nat), vs = [.ref p, .int m] ∧ 0 < m ∧ m < 2 ^ 64 ∧ Pot h p (n + 1) ∧ ∀ r h', 0 ≤ r → r < m → Pot h' p n → Ev p h h' → h'.length = h.length → Q (.int r) h'
/-! ### loops -/
/-- a walk with its invariant -/
theorem forGo_inv {g : Tg} {b : PTS} {D : PD} {ok : PHeap → Prop} (I : Nat → PSt → PHeap → Prop) (xs : List PV) (hok : ∀ k τ h, I k τ h → ok h) (end_ : ∀ τ h, I xs.length τ h → D.nx τ h)
    (step : ∀ (k : Nat) (x : PV) (τ : PSt) (h : PHeap) (N : PSt → PHeap → Prop), xs[k]? = some x → I k τ h → (∀ τ' h', I (k + 1) τ' h' → N τ' h') → ∃ τ', pG g x τ = some τ' ∧ b { D with nx := N, ct := N, bk := D.nx } τ' h) :
    ∀ (τ : PSt) (h : PHeap), I 0 τ h → forGo g b D ok xs τ h := by
  have go : ∀ (ys : List PV) (k : Nat), k ≤ xs.length → xs.drop k = ys → ∀ τ h, I k τ h → forGo g b D ok ys τ h := by
    intro ys
    induction ys with
    | nil =>
      intro k hk e τ h i
      have l : k = xs.length := by
        have := congrArg List.length e
        simp at this
        omega
      subst l
      exact ⟨hok _ _ _ i, end_ _ _ i⟩
    | cons y ys ih =>
      intro k hk e τ h i
      have ek : xs[k]? = some y := by
        have := congrArg (fun l : List PV => l[0]?) e
        simpa using this
      have e2 : xs.drop (k + 1) = ys := by
        have := congrArg (List.drop 1) e
        simpa [List.drop_drop, Nat.add_comm] using this
      obtain ⟨τ', e3, q⟩ := step k y τ h (forGo g b D ok ys) ek i (fun τ' h' i' => ih (k + 1) (List.getElem?_eq_some_iff.mp ek).1 e2 τ' h' i')
      refine ⟨hok _ _ _ i, ?_⟩
      rw [e3]
      exact q
  exact fun τ h i => go xs 0 (Nat.zero_le _) (by simp) τ h i
/-- a comprehension with its invariant -/
theorem lcGo_inv {g : Tg} {tt : PTT} {te : PTE} {ok : PHeap → Prop} {τ0 : PSt} {Q : List PV → PHeap → Prop} (I : Nat → List PV → PHeap → Prop) (xs : List PV) (hok : ∀ k acc h, I k acc h → ok h) (end_ : ∀ acc h, I xs.length acc h → Q acc h)
    (step : ∀ (k : Nat) (x : PV) (acc : List PV) (h : PHeap) (N : List PV → PHeap → Prop), xs[k]? = some x → I k acc h → (∀ acc' h', I (k + 1) acc' h' → N acc' h') → ∃ τ', pG g x τ0 = some τ' ∧
      tt τ' h (fun b h1 => if b = true then te τ' h1 (fun y h2 => acc.length < sizeLine ∧ N (acc ++ [y]) h2) F0 else N acc h1) F0) :
    ∀ (h : PHeap), I 0 [] h → lcGo g tt te ok τ0 xs [] h Q := by
  have go : ∀ (ys : List PV) (k : Nat), k ≤ xs.length → xs.drop k = ys → ∀ acc h, I k acc h → lcGo g tt te ok τ0 ys acc h Q := by
    intro ys
    induction ys with
    | nil =>
      intro k hk e acc h i
      have l : k = xs.length := by
        have := congrArg List.length e
        simp at this
        omega
      subst l
      exact ⟨hok _ _ _ i, end_ _ _ i⟩
    | cons y ys ih =>
      intro k hk e acc h i
      have ek : xs[k]? = some y := by
        have := congrArg (fun l : List PV => l[0]?) e
        simpa using this
      have e2 : xs.drop (k + 1) = ys := by
        have := congrArg (List.drop 1) e
        simpa [List.drop_drop, Nat.add_comm] using this
      obtain ⟨τ', e3, q⟩ := step k y acc h (fun acc' h' => lcGo g tt te ok τ0 ys acc' h' Q) ek i (fun acc' h' i' => ih (k + 1) (List.getElem?_eq_some_iff.mp ek).1 e2 acc' h' i')
      refine ⟨hok _ _ _ i, ?_⟩
      rw [e3]
      exact q
  exact fun h i => go xs 0 (Nat.zero_le _) (by simp) [] h i
/-- a comprehension whose items are each a value, nothing written -/
theorem lcGo_map {g : Tg} {te : PTE} {ok : PHeap → Prop} {τ0 : PSt} {Q : List PV → PHeap → Prop} (f : PV → PV) {xs : List PV} {h : PHeap} (hl : xs.length ≤ sizeLine) (hok : ok h)
    (step : ∀ x ∈ xs, ∃ τ', pG g x τ0 = some τ' ∧ ∀ Q : PQ, Q (f x) h → te τ' h Q F0) (q : Q (xs.map f) h) : lcGo g pYes te ok τ0 xs [] h Q := by
  refine lcGo_inv (fun k acc h' => h' = h ∧ acc = (xs.take k).map f) xs (fun k acc h' i => by rw [i.1]; exact hok) (fun acc h' i => ?_) (fun k x acc h' N ek i n => ?_) h ⟨rfl, by simp⟩
  · obtain ⟨rfl, rfl⟩ := i
    rw [List.take_length]
    exact q
  · obtain ⟨rfl, rfl⟩ := i
    obtain ⟨τ', e, s⟩ := step x (List.mem_of_getElem? ek)
    refine ⟨τ', e, ?_⟩
    have lk := (List.getElem?_eq_some_iff.mp ek).1
    unfold pYes
    dsimp only
    rw [if_pos rfl]
    refine s _ ⟨by rw [List.length_map, List.length_take]; omega, n _ _ ⟨rfl, ?_⟩⟩
    have e2 : xs.take (k + 1) = xs.take k ++ [x] := by
      rw [List.take_add_one, ek]
      rfl
    rw [e2, List.map_append]
    rfl
/-! ### readings upon known kinds -/
section
variable {h : PHeap} {Q : PQ} {i j : Int} {a b : Str} {xs ys : List PV} {n m : Nat} {x y v : PV} {bo bp : Bool}
theorem e_add_ii : MP.rAdd (.int i) (.int j) h Q = Q (.int (i + j)) h := rfl
theorem e_add_ss : MP.rAdd (.str a) (.str b) h Q = (a.length + b.length ≤ sizeLine ∧ Q (.str (a ++ b)) h) := rfl
theorem e_add_tt : MP.rAdd (.tup xs) (.tup ys) h Q = (xs.length + ys.length ≤ sizeLine ∧ Q (.tup (xs ++ ys)) h) := rfl
theorem e_add_rr : MP.rAdd (.ref m) (.ref n) h Q = (match h[m]?, h[n]? with
    | some (.lst xs), some (.lst ys) => xs.length + ys.length ≤ sizeLine ∧ Q (.ref h.length) (h ++ [.lst (xs ++ ys)])
    | _, _ => False) := rfl
theorem e_sub : MP.rSub (.int i) (.int j) h Q = Q (.int (i - j)) h := rfl
theorem e_mul_ii : MP.rMul (.int i) (.int j) h Q = (mulOk i j ∧ Q (.int (i * j)) h) := rfl
theorem e_mul_si : MP.rMul (.str a) (.int j) h Q = ((PySem.MulOk a j ∧ okS (Txt.mul a j)) ∧ Q (.str (Txt.mul a j)) h) := rfl
theorem e_mul_ri : MP.rMul (.ref m) (.int j) h Q = (match h[m]? with
    | some (.lst xs) => -(2 ^ 63) ≤ j ∧ j < 2 ^ 63 ∧ xs.length * j.toNat ≤ sizeLine ∧ Q (.ref h.length) (h ++ [.lst (List.replicate j.toNat xs).flatten])
    | _ => False) := rfl
theorem e_iadd_ii : MP.rIAdd (.int i) (.int j) h Q = Q (.int (i + j)) h := rfl
theorem e_iadd_ss : MP.rIAdd (.str a) (.str b) h Q = (a.length + b.length ≤ sizeLine ∧ Q (.str (a ++ b)) h) := rfl
theorem e_pow : MP.rPow (.int i) (.int j) h Q = (powOk i j ∧ Q (.int (i ^ j.toNat)) h) := rfl
theorem e_fdiv : MP.rFdiv (.int i) (.int j) h Q = ((0 < j ∧ j.natAbs.log2 < 9000) ∧ Q (.int (i / j)) h) := rfl
theorem e_mod : MP.rMod (.int i) (.int j) h Q = (0 < j ∧ Q (.int (i % j)) h) := rfl
theorem e_neg : MP.rNeg (.int i) h Q = Q (.int (-i)) h := rfl
theorem e_lt : MP.rLt (.int i) (.int j) h Q = Q (.bl (decide (i < j))) h := rfl
theorem e_le : MP.rLe (.int i) (.int j) h Q = Q (.bl (decide (i ≤ j))) h := rfl
theorem e_gt : MP.rGt (.int i) (.int j) h Q = Q (.bl (decide (j < i))) h := rfl
theorem e_ge : MP.rGe (.int i) (.int j) h Q = Q (.bl (decide (j ≤ i))) h := rfl
theorem e_eq {d e : PyData} (hx : rd h 64 x = some d) (hy : rd h 64 y = some e) : rEqP x y h Q = Q (.bl (PyData.eqv d e)) h := by unfold rEqP; rw [hx, hy]
theorem e_ne {d e : PyData} (hx : rd h 64 x = some d) (hy : rd h 64 y = some e) : rNeP x y h Q = Q (.bl (!PyData.eqv d e)) h := by unfold rNeP; rw [hx, hy]
theorem eqv_ii : PyData.eqv (.int i) (.int j) = (i == j) := by simp [PyData.eqv]
theorem eqv_ss : PyData.eqv (.str a) (.str b) = (a == b) := by simp [PyData.eqv]
theorem eqv_bb : PyData.eqv (.bool bo) (.bool bp) = (bo == bp) := by simp [PyData.eqv]
theorem e_eq_ii : rEqP (.int i) (.int j) h Q = Q (.bl (decide (i = j))) h := by rw [e_eq (d := .int i) (e := .int j) rfl rfl, eqv_ii]; rfl
theorem e_ne_ii : rNeP (.int i) (.int j) h Q = Q (.bl (!decide (i = j))) h := by rw [e_ne (d := .int i) (e := .int j) rfl rfl, eqv_ii]; rfl
theorem e_eq_ss : rEqP (.str a) (.str b) h Q = Q (.bl (a == b)) h := by rw [e_eq (d := .str a) (e := .str b) rfl rfl, eqv_ss]
theorem e_ne_ss : rNeP (.str a) (.str b) h Q = Q (.bl (!(a == b))) h := by rw [e_ne (d := .str a) (e := .str b) rfl rfl, eqv_ss]
theorem e_eq_bb : rEqP (.bl bo) (.bl bp) h Q = Q (.bl (bo == bp)) h := by rw [e_eq (d := .bool bo) (e := .bool bp) rfl rfl, eqv_bb]
theorem e_ne_bb : rNeP (.bl bo) (.bl bp) h Q = Q (.bl (!(bo == bp))) h := by rw [e_ne (d := .bool bo) (e := .bool bp) rfl rfl, eqv_bb]
theorem e_isN : rIsN v h Q = Q (.bl (isNon v)) h := rfl
theorem e_notN : rNotN v h Q = Q (.bl (!isNon v)) h := rfl
theorem e_ix_s : MP.rIx (.str a) (.int i) h Q = (match L2.atI a.cps.toList i with
      | some c => Q (.str ⟨#[c]⟩) h
      | none => False) := rfl
theorem e_ix_t : MP.rIx (.tup xs) (.int i) h Q = (match L2.atI xs i with
        | some v => Q v h
        | none => False) := rfl
theorem e_ix_f : MP.rIx (.fl xs) (.int i) h Q = (match L2.atI xs i with
        | some v => Q v h
        | none => False) := rfl
theorem e_ix_r : MP.rIx (.ref n) (.int i) h Q = (match h[n]? with
    | some (.lst xs) => (match L2.atI xs i with
      | some v => Q v h
      | none => False)
    | _ => False) := by
  show (match itemsOf h (.ref n) with
    | some xs => (match L2.atI xs i with
      | some v => Q v h
      | none => False)
    | none => False) = _
  unfold itemsOf
  dsimp only
  cases h[n]? with
  | none => rfl
  | some c => cases c <;> rfl
theorem e_ixT : MP.rIxT xs (.int i) h Q = (match L2.atI xs i with
        | some v => Q v h
        | none => False) := rfl
theorem e_set : rSetP (.ref n) (.int i) v h Q' = (match h[n]? with
    | some (.lst xs) => match L2.ixN xs.length i with
      | some j => Q' (h.set n (.lst (xs.set j v)))
      | none => False
    | _ => False) := rfl
theorem e_len_s : MP.rLen [.str a] h Q = Q (.int a.length) h := rfl
theorem e_len_t : MP.rLen [.tup xs] h Q = Q (.int xs.length) h := rfl
theorem e_len_f : MP.rLen [.fl xs] h Q = Q (.int xs.length) h := rfl
theorem e_len_r : MP.rLen [.ref n] h Q = (match h[n]? with
    | some (.lst xs) => Q (.int xs.length) h
    | _ => False) := rfl
theorem e_lenT : MP.rLenT xs h Q = Q (.int xs.length) h := rfl
theorem e_int_i : rIntP [.int i] h Q = Q (.int i) h := rfl
theorem e_int_b : rIntP [.bl bo] h Q = Q (.int (if bo then 1 else 0)) h := rfl
theorem e_abs : MP.rAbs [.int i] h Q = Q (.int (if i < 0 then -i else i)) h := rfl
theorem e_max : MP.rMax2 [.int i, .int j] h Q = Q (.int (if j > i then j else i)) h := rfl
theorem e_min : MP.rMin2 [.int i, .int j] h Q = Q (.int (if j < i then j else i)) h := rfl
theorem e_tupI : MP.rTupI xs h Q = Q (.tup xs) h := rfl
theorem e_lstI : MP.rLstI xs h Q = Q (.ref h.length) (h ++ [.lst xs]) := rfl
theorem bls_map {α : Type} (f : α → Bool) : ∀ l : List α, bls (l.map fun c => PV.bl (f c)) = some (l.map f)
  | [] => rfl
  | x :: l => by simp [bls, bls_map f l]
theorem sts_map {α : Type} (f : α → Str) : ∀ l : List α, sts (l.map fun c => PV.str (f c)) = some (l.map f)
  | [] => rfl
  | x :: l => by simp [sts, sts_map f l]
theorem e_allI {l : List Bool} : MP.rAllI (l.map .bl) h Q = Q (.bl (l.all id)) h := by
  have e := bls_map (fun b : Bool => b) l
  unfold MP.rAllI
  rw [show l.map PV.bl = l.map fun c => PV.bl c from rfl, e]
  simp
theorem e_anyI {l : List Bool} : MP.rAnyI (l.map .bl) h Q = Q (.bl (l.any id)) h := by
  have e := bls_map (fun b : Bool => b) l
  unfold MP.rAnyI
  rw [show l.map PV.bl = l.map fun c => PV.bl c from rfl, e]
  simp
theorem e_onI_t {r : PCb} : onItems r [.tup xs] h Q = r xs h Q := rfl
theorem e_onI_f {r : PCb} : onItems r [.fl xs] h Q = r xs h Q := rfl
theorem e_onI_r {r : PCb} : onItems r [.ref n] h Q = (match h[n]? with
    | some (.lst xs) => r xs h Q
    | _ => False) := by
  unfold onItems itemsOf
  dsimp only
  cases h[n]? with
  | none => rfl
  | some c => cases c <;> rfl
theorem e_onL_r {r : PCb} : onList r [.ref n] h Q = (match h[n]? with
    | some (.lst xs) => r xs h Q
    | _ => False) := by
  unfold onList lstOf
  dsimp only
  cases h[n]? with
  | none => rfl
  | some c => cases c <;> rfl
theorem e_isi {T t : String} (e : tyOf h v = some t) : MP.rIsi T v h Q = Q (.bl (isiB t T)) h := by unfold MP.rIsi; rw [e]
theorem e_isiT {T : List String} {t : String} (e : tyOf h v = some t) : MP.rIsiT T v h Q = Q (.bl (T.any (isiB t))) h := by unfold MP.rIsiT; rw [e]
theorem e_isi_n {T : String} : MP.rIsi T .non h Q = Q (.bl (isiB "NoneType" T)) h := rfl
theorem e_isi_b {T : String} : MP.rIsi T (.bl bo) h Q = Q (.bl (isiB "bool" T)) h := rfl
theorem e_isi_i {T : String} : MP.rIsi T (.int i) h Q = Q (.bl (isiB "int" T)) h := rfl
theorem e_isi_s {T : String} : MP.rIsi T (.str a) h Q = Q (.bl (isiB "str" T)) h := rfl
theorem e_isi_t {T : String} : MP.rIsi T (.tup xs) h Q = Q (.bl (isiB "tuple" T)) h := rfl
theorem e_isi_f {T : String} : MP.rIsi T (.fl xs) h Q = Q (.bl (isiB "list" T)) h := rfl
theorem e_isiT_n {T : List String} : MP.rIsiT T .non h Q = Q (.bl (T.any (isiB "NoneType"))) h := rfl
theorem e_isiT_b {T : List String} : MP.rIsiT T (.bl bo) h Q = Q (.bl (T.any (isiB "bool"))) h := rfl
theorem e_isiT_i {T : List String} : MP.rIsiT T (.int i) h Q = Q (.bl (T.any (isiB "int"))) h := rfl
theorem e_isiT_s {T : List String} : MP.rIsiT T (.str a) h Q = Q (.bl (T.any (isiB "str"))) h := rfl
theorem e_isiT_t {T : List String} : MP.rIsiT T (.tup xs) h Q = Q (.bl (T.any (isiB "tuple"))) h := rfl
theorem e_isiT_f {T : List String} : MP.rIsiT T (.fl xs) h Q = Q (.bl (T.any (isiB "list"))) h := rfl
theorem e_app : MP.rAppend (.ref n) [v] h Q = (match h[n]? with
    | some (.lst xs) => xs.length < sizeLine ∧ Q .non (h.set n (.lst (xs ++ [v])))
    | _ => False) := rfl
theorem e_split : rSplit (.str a) [.str b] h Q = ((b.length == 0) = false ∧ b.cps.all (· < 256) = true ∧ a.length + 2 ≤ sizeLine ∧ Q (.ref h.length) (h ++ [.lst ((Txt.split a b).map .str)])) := rfl
theorem e_joinI {l : List Str} : rJoinI a (l.map .str) h Q = (joinLen a l ≤ 16777216 ∧ Q (.str (Txt.join a l)) h) := by
  have e := sts_map (fun b : Str => b) l
  unfold rJoinI
  rw [show l.map PV.str = l.map fun c => PV.str c from rfl, e]
  simp
theorem e_join_r : rJoin (.str a) [.ref n] h Q = (match h[n]? with
    | some (.lst xs) => rJoinI a xs h Q
    | _ => False) := by
  unfold rJoin itemsOf
  dsimp only
  cases h[n]? with
  | none => rfl
  | some c => cases c <;> rfl
theorem e_cut_s {lo hi : Option Int} : rCut (.str a) lo hi h Q = Q (.str (L2.cutS a lo hi)) h := rfl
theorem e_cut_t {lo hi : Option Int} : rCut (.tup xs) lo hi h Q = Q (.tup (cut xs lo hi)) h := rfl
theorem e_cut_f {lo hi : Option Int} : rCut (.fl xs) lo hi h Q = Q (.ref h.length) (h ++ [.lst (cut xs lo hi)]) := rfl
theorem e_cut_r {lo hi : Option Int} : rCut (.ref n) lo hi h Q = (match h[n]? with
    | some (.lst xs) => Q (.ref h.length) (h ++ [.lst (cut xs lo hi)])
    | _ => False) := rfl
theorem tr_b : truth h (.bl bo) = some bo := rfl
theorem tr_i : truth h (.int i) = some (i != 0) := rfl
theorem tr_s : truth h (.str a) = some ((a.length : Int) != 0) := rfl
theorem tr_n : truth h .non = some false := rfl
theorem tr_t : truth h (.tup xs) = some !xs.isEmpty := rfl
theorem tr_r : truth h (.ref n) = (match h[n]? with
    | some (.lst xs) => some !xs.isEmpty
    | _ => none) := rfl
theorem ty_r : tyOf h (.ref n) = (match h[n]? with
    | some (.lst _) => some "list"
    | some (.dct _) => some "dict"
    | some (.set _) => some "set"
    | _ => none) := rfl
theorem x_n : isExc .non = false := rfl
theorem x_b : isExc (.bl bo) = false := rfl
theorem x_i : isExc (.int i) = false := rfl
theorem x_s : isExc (.str a) = false := rfl
theorem x_t : isExc (.tup xs) = false := rfl
theorem x_f : isExc (.fl xs) = false := rfl
theorem x_r : isExc (.ref n) = false := rfl
end
section
variable {α : Type} {xs : List α}
theorem atI_nat (k : Nat) : L2.atI xs (k : Int) = xs[k]? := by
  unfold L2.atI L2.ixN
  rw [if_pos (Int.natCast_nonneg k)]
  by_cases l : (k : Int) < (xs.length : Int)
  · rw [if_pos l]
    simp
  · rw [if_neg l]
    simp
    omega
theorem atI_pos {i : Int} (l : 0 ≤ i) : L2.atI xs i = xs[i.toNat]? := by
  have e := atI_nat (xs := xs) i.toNat
  rw [Int.toNat_of_nonneg l] at e
  exact e
theorem atI_0 : L2.atI xs 0 = xs[0]? := atI_nat 0
theorem atI_1 : L2.atI xs 1 = xs[1]? := atI_nat 1
theorem atI_2 : L2.atI xs 2 = xs[2]? := atI_nat 2
theorem atI_3 : L2.atI xs 3 = xs[3]? := atI_nat 3
theorem atI_m1 : L2.atI xs (-1) = xs.getLast? := by
  unfold L2.atI L2.ixN
  rw [if_neg (by decide)]
  cases xs with
  | nil => simp
  | cons x xs =>
    have l : -(((x :: xs).length : Nat) : Int) ≤ -1 := by simp; omega
    rw [if_pos l]
    have e : (-1 + (((x :: xs).length : Nat) : Int)).toNat = xs.length := by simp; omega
    rw [e]
    simp [List.getLast?_eq_getElem?]
theorem ixN_nat {n k : Nat} (l : k < n) : L2.ixN n (k : Int) = some k := by
  unfold L2.ixN
  rw [if_pos (Int.natCast_nonneg k), if_pos (by omega)]
  simp
theorem ixN_0 {n : Nat} (l : 0 < n) : L2.ixN n 0 = some 0 := ixN_nat l
theorem ixN_m1 {n : Nat} (l : 0 < n) : L2.ixN n (-1) = some (n - 1) := by
  unfold L2.ixN
  rw [if_neg (by decide), if_pos (by omega)]
  congr 1
  omega
end
theorem ixN_c0 {n : Nat} : L2.ixN (n + 1) 0 = some 0 := ixN_0 (Nat.succ_pos n)
theorem ixN_c1 {n : Nat} : L2.ixN (n + 1 + 1) 1 = some 1 := ixN_nat (n := n + 1 + 1) (k := 1) (by omega)
theorem ixN_c2 {n : Nat} : L2.ixN (n + 1 + 1 + 1) 2 = some 2 := ixN_nat (n := n + 1 + 1 + 1) (k := 2) (by omega)
/-! ### bounds -/
theorem mulOk_l {i j : Int} (h : i.natAbs < 2 ^ 64) : mulOk i j := .inl h
theorem mulOk_r {i j : Int} (h : j.natAbs < 2 ^ 64) : mulOk i j := .inr (.inl h)
theorem log2_lt {m : Int} (h0 : 0 < m) (h : m < 2 ^ 64) : m.natAbs.log2 < 9000 := by
  have e : m.natAbs ≠ 0 := by omega
  have l : m.natAbs < 2 ^ 64 := by omega
  have := (Nat.log2_lt e).mpr l
  omega
theorem pow_cube {x : Int} (h0 : 0 ≤ x) (h : x < 2 ^ 200) : powOk x 3 := ⟨by decide, 200, by omega, by decide⟩
/-! ### texts -/
theorem strIn_one (c : Nat) (b : Str) : strIn ⟨#[c]⟩ b = decide (c ∈ tl b) := PySem.StrLaws.found_one b c
theorem e_in_ss {h : PHeap} {Q : PQ} {a b : Str} : rInP (.str a) (.str b) h Q = Q (.bl (strIn a b)) h := rfl
theorem one_eq (c d : Nat) : ((⟨#[c]⟩ : Str) == (⟨#[d]⟩ : Str)) = (c == d) := by
  by_cases e : c = d
  · subst e; simp
  · have e2 : ((⟨#[c]⟩ : Str)) ≠ ⟨#[d]⟩ := fun z => e (by cases z; rfl)
    rw [beq_eq_false_iff_ne.mpr e2, beq_eq_false_iff_ne.mpr e]
theorem str_eq_tl (a b : Str) : (a == b) = (tl a == tl b) := by
  by_cases e : a = b
  · subst e; simp
  · have e2 : tl a ≠ tl b := fun z => e (ext_tl z)
    rw [beq_eq_false_iff_ne.mpr e, beq_eq_false_iff_ne.mpr e2]
/-- a walk over a text's signs, each a value -/
theorem lc_chars {i : Nat} {te : PTE} {ok : PHeap → Prop} {τ0 : PSt} {Q : List PV → PHeap → Prop} (f : Nat → PV) {s : Str} {h : PHeap} (hl : s.length ≤ sizeLine) (hok : ok h)
    (step : ∀ c ∈ tl s, ∀ Q : PQ, Q (f c) h → te (τ0.set i (some (.str ⟨#[c]⟩))) h Q F0) (q : Q ((tl s).map f) h) : lcGo (.nm i) pYes te ok τ0 (charsOf s) [] h Q := by
  refine lcGo_map (fun x => match x with
    | .str ⟨a⟩ => f (a.toList.headD 0)
    | _ => .non) (by unfold charsOf; rw [List.length_map]; rwa [len_tl] at hl) hok (fun x hx => ?_) ?_
  · obtain ⟨c, hc, rfl⟩ := List.mem_map.mp hx
    exact ⟨_, rfl, fun Q q => step c hc Q q⟩
  · unfold charsOf
    rw [List.map_map]
    exact q
/-- all of a text's signs -/
theorem all_chars {h : PHeap} {Q : PQ} {f : Nat → Bool} {l : List Nat} : MP.rAllI (l.map fun c => .bl (f c)) h Q = Q (.bl (l.all f)) h := by
  unfold MP.rAllI
  rw [bls_map]
  simp
theorem all_vals {α : Type} {h : PHeap} {Q : PQ} {f : α → Bool} {l : List α} : MP.rAllI (l.map fun c => .bl (f c)) h Q = Q (.bl (l.all f)) h := by
  unfold MP.rAllI
  rw [bls_map]
  simp
theorem ty_notExc {h : PHeap} {v : PV} (e : (tyOf h v).isSome = true) : isExc v = false := by
  cases v with
  | exc c x => cases e
  | _ => rfl
/-- a cell is no plain value -/
theorem ty_ref {h : PHeap} {n : Nat} (e : (tyOf h (.ref n)).isSome = true) : ∃ t, tyOf h (.ref n) = some t ∧ (t = "list" ∨ t = "dict" ∨ t = "set") := by
  obtain ⟨t, et⟩ := Option.isSome_iff_exists.mp e
  refine ⟨t, et, ?_⟩
  rw [ty_r] at et
  split at et <;> cases et <;> simp
theorem rd_ty {h : PHeap} {f : Nat} {v : PV} {d : PyData} (e : rd h f v = some d) : (tyOf h v).isSome = true := by
  cases v with
  | exc c x => cases f <;> cases e
  | ref n =>
    cases f with
    | zero => cases e
    | succ f =>
      have e' : (match h[n]? with
        | some (.lst xs) => (rdL (rd h f) xs).map PyData.list
        | _ => none) = some d := e
      rw [ty_r]
      split at e'
      · rename_i xs en
        rw [en]; rfl
      · cases e'
  | _ => rfl
theorem ib_NoneType_bool : isiB "NoneType" "bool" = false := by decide
theorem ib_NoneType_int : isiB "NoneType" "int" = false := by decide
theorem ib_NoneType_str : isiB "NoneType" "str" = false := by decide
theorem ib_NoneType_tuple : isiB "NoneType" "tuple" = false := by decide
theorem ib_NoneType_list : isiB "NoneType" "list" = false := by decide
theorem ib_NoneType_dict : isiB "NoneType" "dict" = false := by decide
theorem ib_NoneType_set : isiB "NoneType" "set" = false := by decide
theorem ib_bool_bool : isiB "bool" "bool" = true := by decide
theorem ib_bool_int : isiB "bool" "int" = true := by decide
theorem ib_bool_str : isiB "bool" "str" = false := by decide
theorem ib_bool_tuple : isiB "bool" "tuple" = false := by decide
theorem ib_bool_list : isiB "bool" "list" = false := by decide
theorem ib_bool_dict : isiB "bool" "dict" = false := by decide
theorem ib_bool_set : isiB "bool" "set" = false := by decide
theorem ib_int_bool : isiB "int" "bool" = false := by decide
theorem ib_int_int : isiB "int" "int" = true := by decide
theorem ib_int_str : isiB "int" "str" = false := by decide
theorem ib_int_tuple : isiB "int" "tuple" = false := by decide
theorem ib_int_list : isiB "int" "list" = false := by decide
theorem ib_int_dict : isiB "int" "dict" = false := by decide
theorem ib_int_set : isiB "int" "set" = false := by decide
theorem ib_str_bool : isiB "str" "bool" = false := by decide
theorem ib_str_int : isiB "str" "int" = false := by decide
theorem ib_str_str : isiB "str" "str" = true := by decide
theorem ib_str_tuple : isiB "str" "tuple" = false := by decide
theorem ib_str_list : isiB "str" "list" = false := by decide
theorem ib_str_dict : isiB "str" "dict" = false := by decide
theorem ib_str_set : isiB "str" "set" = false := by decide
theorem ib_tuple_bool : isiB "tuple" "bool" = false := by decide
theorem ib_tuple_int : isiB "tuple" "int" = false := by decide
theorem ib_tuple_str : isiB "tuple" "str" = false := by decide
theorem ib_tuple_tuple : isiB "tuple" "tuple" = true := by decide
theorem ib_tuple_list : isiB "tuple" "list" = false := by decide
theorem ib_tuple_dict : isiB "tuple" "dict" = false := by decide
theorem ib_tuple_set : isiB "tuple" "set" = false := by decide
theorem ib_list_bool : isiB "list" "bool" = false := by decide
theorem ib_list_int : isiB "list" "int" = false := by decide
theorem ib_list_str : isiB "list" "str" = false := by decide
theorem ib_list_tuple : isiB "list" "tuple" = false := by decide
theorem ib_list_list : isiB "list" "list" = true := by decide
theorem ib_list_dict : isiB "list" "dict" = false := by decide
theorem ib_list_set : isiB "list" "set" = false := by decide
theorem ib_dict_bool : isiB "dict" "bool" = false := by decide
theorem ib_dict_int : isiB "dict" "int" = false := by decide
theorem ib_dict_str : isiB "dict" "str" = false := by decide
theorem ib_dict_tuple : isiB "dict" "tuple" = false := by decide
theorem ib_dict_list : isiB "dict" "list" = false := by decide
theorem ib_dict_dict : isiB "dict" "dict" = true := by decide
theorem ib_dict_set : isiB "dict" "set" = false := by decide
theorem ib_set_bool : isiB "set" "bool" = false := by decide
theorem ib_set_int : isiB "set" "int" = false := by decide
theorem ib_set_str : isiB "set" "str" = false := by decide
theorem ib_set_tuple : isiB "set" "tuple" = false := by decide
theorem ib_set_list : isiB "set" "list" = false := by decide
theorem ib_set_dict : isiB "set" "dict" = false := by decide
theorem ib_set_set : isiB "set" "set" = true := by decide
/-! ### what can be read -/
def Rb (h : PHeap) (v : PV) : Prop := ∃ d, rd h 16 v = some d
theorem Rb.ty {h : PHeap} {v : PV} (r : Rb h v) : (tyOf h v).isSome = true := by
  obtain ⟨d, e⟩ := r
  exact rd_ty e
theorem Rb.nx {h : PHeap} {v : PV} (r : Rb h v) : isExc v = false := ty_notExc r.ty
theorem Rb.app {h : PHeap} {v : PV} (r : Rb h v) (t : PHeap) : Rb (h ++ t) v := by
  obtain ⟨d, e⟩ := r
  exact ⟨d, rd_app t e⟩
theorem rd_tup {h : PHeap} {f : Nat} {xs : List PV} {d : PyData} (e : rd h (f + 1) (.tup xs) = some d) : ∃ ds, d = .tuple ds ∧ xs.length ≤ 100000 ∧ allD (rd h f) xs = some ds := by
  have e' : (rdL (rd h f) xs).map PyData.tuple = some d := e
  obtain ⟨ds, e1, rfl⟩ := Option.map_eq_some_iff.mp e'
  obtain ⟨l, e1⟩ := rdL_ok e1
  exact ⟨ds, rfl, l, e1⟩
theorem rd_tup_of {h : PHeap} {f : Nat} {xs : List PV} {ds : List PyData} (l : xs.length ≤ 100000) (e : allD (rd h f) xs = some ds) : rd h (f + 1) (.tup xs) = some (.tuple ds) := by
  show (rdL (rd h f) xs).map PyData.tuple = _
  rw [rdL_of l e]
  rfl
theorem rd_ref {h : PHeap} {f n : Nat} {d : PyData} (e : rd h (f + 1) (.ref n) = some d) : ∃ xs ds, h[n]? = some (.lst xs) ∧ d = .list ds ∧ xs.length ≤ 100000 ∧ allD (rd h f) xs = some ds := by
  have e' : (match h[n]? with
    | some (.lst xs) => (rdL (rd h f) xs).map PyData.list
    | _ => none) = some d := e
  split at e'
  · rename_i xs en
    obtain ⟨ds, e1, rfl⟩ := Option.map_eq_some_iff.mp e'
    obtain ⟨l, e1⟩ := rdL_ok e1
    exact ⟨xs, ds, en, rfl, l, e1⟩
  · cases e'
theorem rd_ref_of {h : PHeap} {f n : Nat} {xs : List PV} {ds : List PyData} (en : h[n]? = some (.lst xs)) (l : xs.length ≤ 100000) (e : allD (rd h f) xs = some ds) : rd h (f + 1) (.ref n) = some (.list ds) := by
  show (match h[n]? with
    | some (.lst xs) => (rdL (rd h f) xs).map PyData.list
    | _ => none) = _
  rw [en]
  show (rdL (rd h f) xs).map PyData.list = _
  rw [rdL_of l e]
  rfl
theorem Rb.tup {h : PHeap} {xs : List PV} (r : Rb h (.tup xs)) : xs.length ≤ 100000 ∧ ∀ x ∈ xs, Rb h x := by
  obtain ⟨d, e⟩ := r
  obtain ⟨ds, rfl, l, e⟩ := rd_tup e
  refine ⟨l, fun x hx => ?_⟩
  obtain ⟨d, _, e2⟩ := allD_mem e hx
  exact ⟨d, rd_le (by decide) e2⟩
/-! ### parts -/
theorem cut_from {α : Type} (xs : List α) (k : Nat) : cut xs (some (k : Int)) none = xs.drop k := by
  unfold cut
  rw [HT.sIx_nat, HT.sIx_none]
  by_cases l : k ≤ xs.length
  · rw [Nat.min_eq_left l, List.take_of_length_le (by simp)]
  · rw [Nat.min_eq_right (by omega), List.drop_of_length_le (Nat.le_refl _), List.drop_of_length_le (by omega), List.take_nil]
theorem cut_to {α : Type} (xs : List α) (k : Nat) : cut xs none (some (k : Int)) = xs.take k := by
  unfold cut
  rw [HT.sIx_nat, HT.sIx_none, List.drop_zero, Nat.sub_zero]
  by_cases l : k ≤ xs.length
  · rw [Nat.min_eq_left l]
  · rw [Nat.min_eq_right (by omega), List.take_of_length_le (Nat.le_refl _), List.take_of_length_le (by omega)]
theorem sIx_m1 (n d : Nat) : HT.sIx n d (some (-1)) = n - 1 := by
  show (if (-1 : Int) < 0 then ((-1 : Int) + (n : Int)).toNat else min (-1 : Int).toNat n) = n - 1
  rw [if_pos (by decide)]
  omega
theorem cut_to_m1 {α : Type} (xs : List α) : cut xs none (some (-1)) = xs.take (xs.length - 1) := by
  unfold cut
  rw [sIx_m1, HT.sIx_none, List.drop_zero, Nat.sub_zero]
theorem cut_from_m1 {α : Type} (xs : List α) : cut xs (some (-1)) none = xs.drop (xs.length - 1) := by
  unfold cut
  rw [sIx_m1, HT.sIx_none, List.take_of_length_le (by simp)]
theorem tl_cutS (s : Str) (lo hi : Option Int) : tl (L2.cutS s lo hi) = cut (tl s) lo hi := by
  unfold L2.cutS cut
  try rw [len_tl]
theorem cut_1 {α : Type} (xs : List α) : cut xs (some 1) none = xs.drop 1 := cut_from xs 1
theorem cut_t1 {α : Type} (xs : List α) : cut xs none (some 1) = xs.take 1 := cut_to xs 1
/-! ### a text among texts -/
theorem any_strs (ss : List Str) (a : Str) : ((ss.map PyData.str).any fun z => PyData.eqv z (.str a)) = ss.any (· == a) := by
  rw [List.any_map]
  have e : ((fun z => PyData.eqv z (.str a)) ∘ PyData.str) = fun b : Str => b == a := by
    funext b
    exact eqv_ss
  rw [e]
theorem e_in_st {h : PHeap} {Q : PQ} {a : Str} (ss : List Str) : rInP (.str a) (.tup (ss.map .str)) h Q = Q (.bl (ss.any (· == a))) h := by
  unfold rInP inP itemsOf
  dsimp only
  rw [allD_strs, show rd h 64 (.str a) = some (.str a) from rfl]
  dsimp only
  rw [any_strs]
theorem e_notin_st {h : PHeap} {Q : PQ} {a : Str} (ss : List Str) : rNotInP (.str a) (.tup (ss.map .str)) h Q = Q (.bl (!ss.any (· == a))) h := by
  unfold rNotInP inP itemsOf
  dsimp only
  rw [allD_strs, show rd h 64 (.str a) = some (.str a) from rfl]
  dsimp only
  rw [any_strs]
/-- a walk over a range, each a value -/
theorem lc_rng {i : Nat} {te : PTE} {ok : PHeap → Prop} {τ0 : PSt} {Q : List PV → PHeap → Prop} (f : Nat → PV) {lo : Int} {n : Nat} {h : PHeap} (hl : n ≤ sizeLine) (hok : ok h)
    (step : ∀ k, k < n → ∀ Q : PQ, Q (f k) h → te (τ0.set i (some (.int (lo + (k : Nat))))) h Q F0) (q : Q ((List.range n).map f) h) : lcGo (.nm i) pYes te ok τ0 (rngOf lo n) [] h Q := by
  refine lcGo_map (fun x => match x with
    | .int j => f (j - lo).toNat
    | _ => .non) (by unfold rngOf; simpa using hl) hok (fun x hx => ?_) ?_
  · unfold rngOf at hx
    obtain ⟨k, hk, rfl⟩ := List.mem_map.mp hx
    refine ⟨_, rfl, fun Q q => step k (List.mem_range.mp hk) Q ?_⟩
    have e : (lo + (k : Nat) - lo).toNat = k := by omega
    have q' : Q (f (lo + (k : Nat) - lo).toNat) h := q
    rw [e] at q'
    exact q'
  · unfold rngOf
    rw [List.map_map]
    have e : ((fun x => match x with
      | PV.int j => f (j - lo).toNat
      | _ => .non) ∘ fun i : Nat => PV.int (lo + i)) = f := by
      funext k
      show f (lo + (k : Nat) - lo).toNat = f k
      congr 1
      omega
    rw [e]
    exact q
/-- a walk over items that stay, each a value -/
theorem lc_items {i : Nat} {te : PTE} {ok : PHeap → Prop} {τ0 : PSt} {Q : List PV → PHeap → Prop} (f : PV → PV) {xs : List PV} {h : PHeap} (hl : xs.length ≤ 100000) (hok : ok h)
    (step : ∀ x ∈ xs, ∀ Q : PQ, Q (f x) h → te (τ0.set i (some x)) h Q F0) (q : Q (xs.map f) h) : lcGo (.nm i) pYes te ok τ0 xs [] h Q :=
  lcGo_map f (by rw [sizeLine_eq]; omega) hok (fun x hx => ⟨_, rfl, fun Q q => step x hx Q q⟩) q
/-! ### promises of defs that call themselves -/
def spNo : PSp := fun _ _ _ _ => False
section
variable {P : Program} {w : World} {K : PySem.W.Frag} {mg : Str → Option Value} {base : Heap} {name : Str} {st : Stmt} {ps : List Str} {k : Nat} {sp sp' : PSp}
theorem ok_no (E : ∃ fd, FunD K name name (defArgs st) (defBody st) (defScope st) [] [] (He.ga K name) fd) : Ok P w K mg base name st ps k spNo := by
  obtain ⟨fd, F⟩ := E
  refine ⟨fd, F, ⟨fun vs H Q E h => ?_, fun A outer s H args us vs Q E hr he hb hv h => ?_⟩⟩
  · obtain ⟨_, _, _, _, _, _, _, ⟨_, z⟩, _⟩ := h
    exact z.elim
  · obtain ⟨_, _, _, _, _, _, _, ⟨_, z⟩, _⟩ := h
    exact z.elim
theorem Ok.imp (O : Ok P w K mg base name st ps k sp) (f : ∀ vs h Q E, vs.length = ps.length → sp' vs h Q E → sp vs h Q E) : Ok P w K mg base name st ps k sp' := by
  obtain ⟨fd, F, O⟩ := O
  refine ⟨fd, F, O.imp fun vs H Q E h => ?_⟩
  obtain ⟨ρ, h, xs, Qp, Ep, R, r, ⟨l, z⟩, k1, k2⟩ := h
  exact ⟨ρ, h, xs, Qp, Ep, R, r, ⟨l, f _ _ _ _ l z⟩, k1, k2⟩
theorem Ok.mono {j : Nat} (O : Ok P w K mg base name st ps j sp) (l : j ≤ k) : Ok P w K mg base name st ps k sp := by
  obtain ⟨fd, F, O⟩ := O
  exact ⟨fd, F, O.mono l⟩
theorem ok_rec {spf : Nat → PSp} {b : Nat} (E : ∃ fd, FunD K name name (defArgs st) (defBody st) (defScope st) [] [] (He.ga K name) fd) (h0 : spf 0 = spNo)
    (step : ∀ (f kk : Nat), b ≤ kk → Ok P w K mg base name st ps kk (spf f) → Ok P w K mg base name st ps (kk + 1) (spf (f + 1))) : ∀ f : Nat, Ok P w K mg base name st ps (b + f) (spf f)
  | 0 => by rw [h0]; exact ok_no E
  | f + 1 => step f (b + f) (Nat.le_add_right _ _) (ok_rec E h0 step f)
end
/-! ### sequences, by what is read -/
def seqD : PyData → Option (List PyData)
  | .tuple ds => some ds
  | .list ds => some ds
  | _ => none
def kindD : PyData → String
  | .none => "NoneType"
  | .bool _ => "bool"
  | .int _ => "int"
  | .str _ => "str"
  | .list _ => "list"
  | .tuple _ => "tuple"
  | .dict _ => "dict"
theorem rd_kind {h : PHeap} {f : Nat} {v : PV} {d : PyData} (e : rd h f v = some d) : tyOf h v = some (kindD d) := by
  cases f with
  | zero =>
    cases v with
    | non => cases e; rfl
    | bl b => cases e; rfl
    | int b => cases e; rfl
    | str b => cases e; rfl
    | _ => cases e
  | succ f =>
    cases v with
    | non => cases e; rfl
    | bl b => cases e; rfl
    | int b => cases e; rfl
    | str b => cases e; rfl
    | tup xs =>
      obtain ⟨ds, rfl, _⟩ := rd_tup e
      rfl
    | fl xs =>
      have e' : (rdL (rd h f) xs).map PyData.list = some d := e
      obtain ⟨ds, e1, rfl⟩ := Option.map_eq_some_iff.mp e'
      rfl
    | ref n =>
      obtain ⟨xs, ds, en, rfl, _⟩ := rd_ref e
      rw [ty_r, en]
      rfl
    | exc c v => cases e
theorem rd_items {h : PHeap} {f : Nat} {v : PV} {d : PyData} {ds : List PyData} (e : rd h f v = some d) (s : seqD d = some ds) : ∃ g xs, f = g + 1 ∧ itemsOf h v = some xs ∧ xs.length ≤ 100000 ∧ allD (rd h g) xs = some ds := by
  cases f with
  | zero =>
    cases v with
    | non => cases e; cases s
    | bl b => cases e; cases s
    | int b => cases e; cases s
    | str b => cases e; cases s
    | _ => cases e
  | succ f =>
    refine ⟨f, ?_⟩
    cases v with
    | non => cases e; cases s
    | bl b => cases e; cases s
    | int b => cases e; cases s
    | str b => cases e; cases s
    | tup xs =>
      obtain ⟨ds', rfl, l, e1⟩ := rd_tup e
      cases s
      exact ⟨xs, rfl, rfl, l, e1⟩
    | fl xs =>
      have e' : (rdL (rd h f) xs).map PyData.list = some d := e
      obtain ⟨ds', e1, rfl⟩ := Option.map_eq_some_iff.mp e'
      cases s
      obtain ⟨l, e1⟩ := rdL_ok e1
      exact ⟨xs, rfl, rfl, l, e1⟩
    | ref n =>
      obtain ⟨xs, ds', en, rfl, l, e1⟩ := rd_ref e
      cases s
      refine ⟨xs, rfl, ?_, l, e1⟩
      unfold itemsOf
      dsimp only
      rw [en]
    | exc c v => cases e
/-- what is no sequence is the value itself -/
def scal : PyData → Option PV
  | .none => some .non
  | .bool b => some (.bl b)
  | .int i => some (.int i)
  | .str s => some (.str s)
  | _ => none
theorem rd_scal {h : PHeap} {f : Nat} {v x : PV} {d : PyData} (e : rd h f v = some d) (s : scal d = some x) : v = x := by
  cases f with
  | zero =>
    cases v with
    | non => cases e; cases s; rfl
    | bl b => cases e; cases s; rfl
    | int b => cases e; cases s; rfl
    | str b => cases e; cases s; rfl
    | _ => cases e
  | succ f =>
    cases v with
    | non => cases e; cases s; rfl
    | bl b => cases e; cases s; rfl
    | int b => cases e; cases s; rfl
    | str b => cases e; cases s; rfl
    | tup xs =>
      obtain ⟨ds', rfl, l, e1⟩ := rd_tup e
      cases s
    | fl xs =>
      have e' : (rdL (rd h f) xs).map PyData.list = some d := e
      obtain ⟨ds', e1, rfl⟩ := Option.map_eq_some_iff.mp e'
      cases s
    | ref n =>
      obtain ⟨xs, ds', en, rfl, l, e1⟩ := rd_ref e
      cases s
    | exc c v => cases e
section
variable {h : PHeap} {v : PV} {xs : List PV} {Q : PQ} {i : Int}
theorem e_len_it (e : itemsOf h v = some xs) : MP.rLen [v] h Q = Q (.int xs.length) h := by
  cases v with
  | tup ys => cases e; rfl
  | fl ys => cases e; rfl
  | ref n =>
    unfold itemsOf at e
    dsimp only at e
    rw [e_len_r]
    split at e
    · rename_i ys en
      cases e
      first
        | rw [en]
        | rfl
    · cases e
  | _ => cases e
theorem e_ix_it (e : itemsOf h v = some xs) : MP.rIx v (.int i) h Q = (match L2.atI xs i with
      | some v => Q v h
      | none => False) := by
  cases v with
  | tup ys => cases e; rfl
  | fl ys => cases e; rfl
  | ref n =>
    unfold itemsOf at e
    dsimp only at e
    rw [e_ix_r]
    split at e
    · rename_i ys en
      cases e
      first
        | rw [en]
        | rfl
    · cases e
  | _ => cases e
theorem it_nx (e : itemsOf h v = some xs) : isExc v = false := by
  cases v with
  | exc c x => cases e
  | _ => rfl
/-- what is read of both is the same, so is it of equal texts -/
theorem e_eq_rd {x y : PV} {f g : Nat} {d : PyData} (hf : f ≤ 64) (hg : g ≤ 64) (hx : rd h f x = some d) (hy : rd h g y = some d) : rEqP x y h Q = Q (.bl true) h := by
  rw [e_eq (rd_le hf hx) (rd_le hg hy), rd_eqv f x d hx]
theorem e_ne_rd {x y : PV} {f g : Nat} {d : PyData} (hf : f ≤ 64) (hg : g ≤ 64) (hx : rd h f x = some d) (hy : rd h g y = some d) : rNeP x y h Q = Q (.bl false) h := by
  rw [e_ne (rd_le hf hx) (rd_le hg hy), rd_eqv f x d hx]
  rfl
theorem eqvAll_strs : ∀ (as bs : List Str), PyData.eqvAll (as.map .str) (bs.map .str) = (as == bs)
  | [], [] => by simp [PyData.eqvAll]
  | [], b :: bs => by simp [PyData.eqvAll]
  | a :: as, [] => by simp [PyData.eqvAll]
  | a :: as, b :: bs => by
    have := eqvAll_strs as bs
    simp [PyData.eqvAll, eqv_ss, this]
theorem rd_strs {as : List Str} (l : as.length ≤ 100000) {f : Nat} : rd h (f + 1) (.tup (as.map .str)) = some (.tuple (as.map .str)) := rd_tup_of (by simpa using l) (allD_strs as)
theorem e_ne_tt {as bs : List Str} (l1 : as.length ≤ 100000) (l2 : bs.length ≤ 100000) : rNeP (.tup (as.map .str)) (.tup (bs.map .str)) h Q = Q (.bl (!(as == bs))) h := by
  rw [e_ne (rd_strs l1) (rd_strs l2)]
  simp [PyData.eqv, eqvAll_strs]
theorem e_eq_tt {as bs : List Str} (l1 : as.length ≤ 100000) (l2 : bs.length ≤ 100000) : rEqP (.tup (as.map .str)) (.tup (bs.map .str)) h Q = Q (.bl (as == bs)) h := by
  rw [e_eq (rd_strs l1) (rd_strs l2)]
  simp [PyData.eqv, eqvAll_strs]
end
theorem allD_snoc {g : PV → Option PyData} {x : PV} {d : PyData} : ∀ {xs : List PV} {ds : List PyData}, allD g xs = some ds → g x = some d → allD g (xs ++ [x]) = some (ds ++ [d])
  | [], ds, e, ex => by
    cases e
    show (match g x, allD g [] with
      | some d, some ds => some (d :: ds)
      | _, _ => none) = _
    rw [ex]
    rfl
  | y :: ys, ds, e, ex => by
    have e' : (match g y, allD g ys with
      | some d, some ds => some (d :: ds)
      | _, _ => none) = some ds := e
    split at e'
    · rename_i d' ds' e1 e2
      cases e'
      show (match g y, allD g (ys ++ [x]) with
        | some d, some ds => some (d :: ds)
        | _, _ => none) = _
      rw [e1, allD_snoc e2 ex]
      rfl
    · cases e'
/-! ### cut at a sign, put together again -/
theorem split_len {a b : Str} (q1 : (b.length == 0) = false) (q2 : b.cps.all (· < 256) = true) : (Txt.split a b).length ≤ a.length + 1 := by
  have hne : tl b ≠ [] := fun e => by
    rw [len_tl, e] at q1
    cases q1
  have e := split_spl a b hne (kind_ok q2)
  have l0 := spl_len (tl b) (tl a) 0 []
  rw [← e, List.length_map, ← len_tl] at l0
  exact l0
theorem spl_ne (S : List Nat) : ∀ (l : List Nat) (k : Nat) (acc : List Nat), spl S k acc l ≠ []
  | [], k, acc => by rw [spl_nil]; simp
  | d :: r, k + 1, acc => spl_ne S r k acc
  | d :: r, 0, acc => by
    by_cases e : pre S (d :: r) = true
    · rw [spl_hit e]; simp
    · rw [spl_miss (by simpa using e)]
      exact spl_ne S r 0 _
theorem joinL_cons (S p : List Nat) : ∀ {r : List (List Nat)}, r ≠ [] → joinL S (p :: r) = p ++ (S ++ joinL S r)
  | q :: r, _ => by
    first
      | rfl
      | simp [joinL]
theorem join_spl (c : Nat) : ∀ (l acc : List Nat), joinL [c] (spl [c] 0 acc l) = acc ++ l
  | [], acc => by rw [spl_nil]; simp [joinL]
  | d :: r, acc => by
    by_cases e : pre [c] (d :: r) = true
    · rw [spl_hit e, joinL_cons _ _ (spl_ne _ _ _ _)]
      have ed : d = c := by
        unfold pre at e
        simpa using e
      subst ed
      show acc ++ ([d] ++ joinL [d] (spl [d] 0 [] r)) = acc ++ (d :: r)
      rw [join_spl d r []]
      rfl
    · rw [spl_miss (by simpa using e), join_spl c r]
      simp
theorem joinL_nil : ∀ ls : List (List Nat), joinL [] ls = ls.flatten
  | [] => rfl
  | [p] => by simp [joinL]
  | p :: q :: r => by
    rw [joinL_cons _ _ (by simp), joinL_nil (q :: r)]
    simp
/-- each with a sign behind it, put together -/
theorem flat_dots (c : Nat) : ∀ {ls : List (List Nat)}, ls ≠ [] → (ls.map (· ++ [c])).flatten = joinL [c] ls ++ [c]
  | [p], _ => by simp [joinL]
  | p :: q :: r, _ => by
    rw [joinL_cons _ _ (by simp), List.map_cons, List.flatten_cons, flat_dots c (ls := q :: r) (by simp)]
    simp
theorem last_is {l : List Nat} {c : Nat} : (l.drop (l.length - 1) == [c]) = (l.getLast? == some c) := by
  cases h : l.getLast? with
  | none =>
    have e : l = [] := List.getLast?_eq_none_iff.mp h
    subst e
    rfl
  | some x =>
    obtain ⟨ys, rfl⟩ := List.getLast?_eq_some_iff.mp h
    simp
theorem cut_last (s : Str) (c : Nat) : (L2.cutS s (some (-1)) none == (⟨#[c]⟩ : Str)) = ((tl s).getLast? == some c) := by
  rw [str_eq_tl, tl_cutS, cut_from_m1]
  exact last_is
theorem tl_cut_m1 (s : Str) : tl (L2.cutS s none (some (-1))) = (tl s).dropLast := by
  rw [tl_cutS, cut_to_m1, List.dropLast_eq_take]
theorem len_cutS (s : Str) (lo hi : Option Int) : (L2.cutS s lo hi).length ≤ s.length := by
  rw [len_tl, tl_cutS, len_tl]
  unfold cut
  rw [List.length_take, List.length_drop]
  omega
/-- what range(n) walks -/
theorem pRng1_of {a : PTE} {n : Nat} {τ : PSt} {h : PHeap} {R : List PV → (PHeap → Prop) → PHeap → Prop} {E : PXQ} (ha : ∀ Q : PQ, Q (.int n) h → a τ h Q E) (hn : n < 2 ^ 62) (k : R (rngOf 0 n) (fun _ => True) h) : pRng1 a τ h R E := by
  unfold pRng1
  refine ha _ ⟨by omega, by omega, ?_⟩
  rw [Int.toNat_natCast]
  exact k
/-! ### draws in a row -/
theorem lc_draw {i p w n L : Nat} {P : PV → PHeap → Prop} {te : PTE} {ok : PHeap → Prop} {τ0 : PSt} {h : PHeap} {Q : List PV → PHeap → Prop} {lo : Int} (mono : ∀ v h1 h2, P v h1 → Ev p h1 h2 → P v h2) (hL : L ≤ 100000) (hok : ∀ h', ok h') (pot : Pot h p (n + w * L))
    (step : ∀ (k : Nat) (h1 : PHeap) (m : Nat) (R : PQ), k < L → Pot h1 p (m + w) → Ev p h h1 → (∀ y h2, P y h2 → Pot h2 p m → Ev p h1 h2 → R y h2) → te (τ0.set i (some (.int (lo + (k : Nat))))) h1 R F0)
    (q : ∀ ys h', ys.length = L → (∀ y ∈ ys, P y h') → Pot h' p n → Ev p h h' → Q ys h') : lcGo (.nm i) pYes te ok τ0 (rngOf lo L) [] h Q := by
  have hlen : (rngOf lo L).length = L := by unfold rngOf; simp
  refine lcGo_inv (fun k acc h' => k ≤ L ∧ acc.length = k ∧ (∀ y ∈ acc, P y h') ∧ Pot h' p (n + w * (L - k)) ∧ Ev p h h') (rngOf lo L) (fun k acc h' _ => hok h') (fun acc h' z => ?_) (fun k x acc h' N ek z nn => ?_) h ⟨Nat.zero_le _, rfl, fun y hy => (by cases hy), pot, .refl⟩
  · obtain ⟨z0, z1, z2, z3, z4⟩ := z
    rw [hlen] at z1 z3
    rw [Nat.sub_self, Nat.mul_zero, Nat.add_zero] at z3
    exact q acc h' z1 z2 z3 z4
  · obtain ⟨z0, z1, z2, z3, z4⟩ := z
    have hk : k < L := by
      have := (List.getElem?_eq_some_iff.mp ek).1
      rw [hlen] at this
      exact this
    have ex : x = .int (lo + (k : Nat)) := by
      unfold rngOf at ek
      rw [List.getElem?_map, List.getElem?_range hk] at ek
      exact (Option.some.inj ek).symm
    subst ex
    refine ⟨_, rfl, ?_⟩
    unfold pYes
    dsimp only
    rw [if_pos rfl]
    have e : n + w * (L - k) = n + w * (L - (k + 1)) + w := by
      have : L - k = (L - (k + 1)) + 1 := by omega
      rw [this, Nat.mul_add, Nat.mul_one]
      omega
    rw [e] at z3
    refine step k h' _ _ hk z3 z4 fun y h2 py p2 e2 => ⟨by rw [z1, sizeLine_eq]; omega, nn _ _ ⟨hk, by rw [List.length_append, z1]; rfl, fun y' hy' => ?_, p2, z4.trans e2⟩⟩
    rcases List.mem_append.mp hy' with a | a
    · exact mono y' h' h2 (z2 y' a) e2
    · rw [List.mem_singleton.mp a]
      exact py
/-- values that are short texts -/
def ShS (b : Nat) (v : PV) (_ : PHeap) : Prop := ∃ s : Str, v = .str s ∧ s.length ≤ b
theorem shS_list {b : Nat} {h : PHeap} : ∀ {ys : List PV}, (∀ y ∈ ys, ShS b y h) → ∃ ss : List Str, ys = ss.map .str ∧ ∀ s ∈ ss, s.length ≤ b
  | [], _ => ⟨[], rfl, fun s hs => by cases hs⟩
  | y :: ys, m => by
    obtain ⟨s, rfl, ls⟩ := m y List.mem_cons_self
    obtain ⟨ss, rfl, l⟩ := shS_list fun y' hy => m y' (List.mem_cons_of_mem _ hy)
    exact ⟨s :: ss, rfl, fun s' hs' => by
      rcases List.mem_cons.mp hs' with e | e
      · rw [e]; exact ls
      · exact l s' e⟩
theorem rng_draw {τ : PSt} {i : Nat} {m : Int} {n : Nat} {sp : PSp} {h : PHeap} {Q : PQ} {E : PXQ} {p : Nat} (hs : sp = sp_draw) (hτ : τ[i]? = some (some (.ref p))) (m0 : 0 < m) (m1 : m < 2 ^ 64) (P : Pot h p (n + 1)) (k : ∀ r h', 0 ≤ r → r < m → Pot h' p n → Ev p h h' → h'.length = h.length → Q (.int r) h') :
    pCall (gd 2 sp) (pCons (pVar i) (pCons (pC (.int m)) pNil)) τ h Q E := by
  subst hs
  unfold pCall pCons pVar pC pNil
  dsimp only
  rw [hτ]
  exact ⟨rfl, rfl, p, m, n, rfl, m0, m1, P, k⟩
theorem hid_app {p : Nat} {h : PHeap} (l : p < h.length) (t : PHeap) : hid p (h ++ t) = hid p h ++ t := by
  unfold hid
  exact List.set_append_left _ _ l
theorem get_app {h t : PHeap} (k : Nat) : (h ++ t)[h.length + k]? = t[k]? := by
  rw [List.getElem?_append_right (by omega)]
  congr 1
  omega
theorem Ev.get {p : Nat} {h h' : PHeap} (E : Ev p h h') {i : Nat} (n : i ≠ p) (l : i < h.length) : h'[i]? = h[i]? := E.same i n l
theorem Pot.set {h : PHeap} {p n q : Nat} {c : Cell} (P : Pot h p n) (nq : q ≠ p) : Pot (h.set q c) p n := by
  obtain ⟨a, b, d, e, r⟩ := P
  exact ⟨a, b, d, by rw [List.getElem?_set_ne nq]; exact e, r⟩
theorem Ev.setNew {p q : Nat} {h h' : PHeap} {c : Cell} (E : Ev p h h') (l : h.length ≤ q) : Ev p h (h'.set q c) := ⟨by rw [List.length_set]; exact E.len, fun i n hi => by rw [List.getElem?_set_ne (by omega)]; exact E.same i n hi⟩
theorem map_set_str (ss : List Str) (i : Nat) (a : Str) : (ss.map PV.str).set i (.str a) = (ss.set i a).map .str := by rw [List.map_set]
theorem mem_set_le {ss : List Str} {b i : Nat} {a : Str} (h : ∀ s ∈ ss, s.length ≤ b) (ha : a.length ≤ b) : ∀ s ∈ ss.set i a, s.length ≤ b := fun s hs => by
  rcases List.mem_or_eq_of_mem_set hs with e | e
  · exact h s e
  · rw [e]; exact ha
/-! ### values made -/
def Mk (k p : Nat) (e : PTE) (τ : PSt) : Prop := ∀ (h : PHeap) (Q : PQ) (E : PXQ), p < h.length → (∀ v t, (∃ d, rd (hid p (h ++ t)) k v = some d) → Q v (h ++ t)) → e τ h Q E
def MkA (k p : Nat) (a : PTA) (n : Nat) (τ : PSt) : Prop := ∀ (h : PHeap) (Q : List PV → PHeap → Prop) (E : PXQ), p < h.length → (∀ vs t, vs.length = n → (∀ v ∈ vs, ∃ d, rd (hid p (h ++ t)) k v = some d) → Q vs (h ++ t)) → a τ h Q E
section
variable {k p n : Nat} {τ : PSt} {e : PTE} {a : PTA}
theorem app_nil {h : PHeap} : h ++ [] = h := List.append_nil h
theorem mk_non : Mk k p (pC .non) τ := fun h Q E _ q => by
  have := q .non [] ⟨.none, by cases k <;> rfl⟩
  rwa [app_nil] at this
theorem mk_bl {b : Bool} : Mk k p (pC (.bl b)) τ := fun h Q E _ q => by
  have := q (.bl b) [] ⟨.bool b, by cases k <;> rfl⟩
  rwa [app_nil] at this
theorem mk_int {i : Int} : Mk k p (pC (.int i)) τ := fun h Q E _ q => by
  have := q (.int i) [] ⟨.int i, by cases k <;> rfl⟩
  rwa [app_nil] at this
theorem mk_neg {i : Int} : Mk k p (pUn MP.rNeg (pC (.int i))) τ := fun h Q E _ q => by
  have := q (.int (-i)) [] ⟨.int (-i), by cases k <;> rfl⟩
  rwa [app_nil] at this
theorem mk_str {s : Str} : Mk k p (pC (.str s)) τ := fun h Q E _ q => by
  have := q (.str s) [] ⟨.str s, by cases k <;> rfl⟩
  rwa [app_nil] at this
theorem mk_mul {s : Str} {i : Int} (c : PySem.MulOk s i ∧ okS (Txt.mul s i)) : Mk k p (pOp MP.rMul (pC (.str s)) (pC (.int i))) τ := fun h Q E _ q => by
  have := q (.str (Txt.mul s i)) [] ⟨.str (Txt.mul s i), by cases k <;> rfl⟩
  rw [app_nil] at this
  exact ⟨c, this⟩
theorem mka_nil : MkA k p pNil 0 τ := fun h Q E _ q => by
  have := q [] [] rfl (fun v hv => absurd hv List.not_mem_nil)
  rwa [app_nil] at this
theorem rdh_app {h t : PHeap} (l : p < h.length) {v : PV} {d : PyData} (e : rd (hid p h) k v = some d) : rd (hid p (h ++ t)) k v = some d := by
  rw [hid_app l]
  exact rd_app t e
theorem mka_cons (x : Mk k p e τ) (y : MkA k p a n τ) : MkA k p (pCons e a) (n + 1) τ := fun h Q E l q => by
  refine x h _ E l fun v t ⟨d, r⟩ => y (h ++ t) _ E (by rw [List.length_append]; omega) fun vs t' lv m => ?_
  have := q (v :: vs) (t ++ t') (by rw [List.length_cons, lv]) (fun v' hv => by
    rw [← List.append_assoc]
    rcases List.mem_cons.mp hv with z | z
    · rw [z]; exact ⟨d, rdh_app (by rw [List.length_append]; omega) r⟩
    · exact m v' z)
  rwa [← List.append_assoc] at this
theorem allD_of {g : PV → Option PyData} : ∀ {vs : List PV}, (∀ v ∈ vs, ∃ d, g v = some d) → ∃ ds, allD g vs = some ds
  | [], _ => ⟨[], rfl⟩
  | v :: vs, m => by
    obtain ⟨d, e⟩ := m v List.mem_cons_self
    obtain ⟨ds, es⟩ := allD_of fun v' hv => m v' (List.mem_cons_of_mem _ hv)
    refine ⟨d :: ds, ?_⟩
    show (match g v, allD g vs with
      | some d, some ds => some (d :: ds)
      | _, _ => none) = _
    rw [e, es]
theorem mk_tup (y : MkA k p a n τ) (hn : n ≤ 100000 := by decide) : Mk (k + 1) p (pTup a) τ := fun h Q E l q => by
  refine y h _ E l fun vs t lv m => ⟨by rw [lv, sizeLine_eq]; omega, q _ t ?_⟩
  obtain ⟨ds, e⟩ := allD_of m
  exact ⟨_, rd_tup_of (by rw [lv]; exact hn) e⟩
theorem mk_new (y : MkA k p a n τ) (hn : n ≤ 100000 := by decide) : Mk (k + 1) p (pNew (pTmp a)) τ := fun h Q E l q => by
  refine y h _ E l fun vs t lv m => ⟨by rw [lv, sizeLine_eq]; omega, ?_⟩
  obtain ⟨ds, e⟩ := allD_of m
  have := q (.ref (h ++ t).length) (t ++ [.lst vs]) ⟨_, by
    rw [← List.append_assoc, hid_app (by rw [List.length_append]; omega)]
    refine rd_ref_of (xs := vs) ?_ (by rw [lv]; exact hn) (allD_mono (fun x d z => rd_app _ z) e)
    have e2 : (hid p (h ++ t)).length = (h ++ t).length := by unfold hid; rw [List.length_set]
    rw [← e2, List.getElem?_concat_length]⟩
  rwa [← List.append_assoc] at this
theorem mk_up {j : Nat} (x : Mk j p e τ) (l : j ≤ k := by decide) : Mk k p e τ := fun h Q E hp q => x h Q E hp fun v t ⟨d, r⟩ => q v t ⟨d, rd_le l r⟩
theorem mka_up {j : Nat} (x : MkA j p a n τ) (l : j ≤ k := by decide) : MkA k p a n τ := fun h Q E hp q => x h Q E hp fun vs t lv m => q vs t lv fun v hv => by
  obtain ⟨d, r⟩ := m v hv
  exact ⟨d, rd_le l r⟩
end
/-! ### one step at a time -/
section
variable {τ : PSt} {h : PHeap} {Q : PQ} {E : PXQ} {D : PD} {a b : PTE} {t : PTA} {i : Nat} {u : PTS}
theorem seq_asg (k : a τ h (fun x h1 => u D (τ.set i (some x)) h1) (fun c v h1 => D.ex c v τ h1)) : pSeq (pAsg a (.nm i)) u D τ h := k
theorem st_ret (k : a τ h D.rt (fun c v h1 => D.ex c v τ h1)) : pRet a D τ h := k
theorem new_of (k : t τ h (fun vs h1 => vs.length ≤ sizeLine ∧ Q (.ref h1.length) (h1 ++ [.lst vs])) E) : pNew (pTmp t) τ h Q E := k
theorem op_of {r : POp} (k : a τ h (fun x h1 => b τ h1 (fun y h2 => r x y h2 Q) E) E) : pOp r a b τ h Q E := k
theorem var_of {v : PV} (e : τ[i]? = some (some v)) (x : isExc v = false) (k : Q v h) : pVar i τ h Q E := by
  unfold pVar
  rw [e]
  exact ⟨x, k⟩
end
theorem seq_for {s : PTI} {g : Tg} {b u : PTS} {D : PD} {τ : PSt} {h : PHeap} (k : s τ h (fun xs ok h1 => forGo g b { D with nx := u D } ok xs τ h1) (fun c v h' => D.ex c v τ h')) : pSeq (pFor s g b) u D τ h := k
theorem seq_if {c : PTT} {a b u : PTS} {D : PD} {τ : PSt} {h : PHeap} (k : c τ h (fun x h1 => if x = true then a { D with nx := u D } τ h1 else b { D with nx := u D } τ h1) (fun c v h1 => D.ex c v τ h1)) : pSeq (pIfS c a b) u D τ h := k
theorem rd_pair {h : PHeap} {f : Nat} {a b : PV} {da db : PyData} (ea : rd h f a = some da) (eb : rd h f b = some db) : rd h (f + 1) (.tup [a, b]) = some (.tuple [da, db]) := by
  refine rd_tup_of (show 2 ≤ 100000 by decide) ?_
  simp only [allD, ea, eb]
theorem rd_str' {h : PHeap} {f : Nat} {s : Str} : rd h f (.str s) = some (.str s) := by cases f <;> rfl
end MP
set_option maxHeartbeats 8000000
/-! Printed by gen.py: the readings of the defs. -/
namespace L_k01
open PySem MP
def es : List Str := (["TreeError", "InvalidName", "Unreadable"] : List Str)
/-- slots: 0 value, 1 part -/
def t_rebuilt (sp_rebuilt : PSp) : PTS :=
  pSeq (pIfS (pT (pUn (rIsi "list") (pVar 0))) (pRet (pNew (pLc (pIter (pVar 0)) (.nm 1) (pYes) (pCall (gd 1 sp_rebuilt) (pCons (pVar 1) (pNil))) [1]))) (pNext)) (pSeq (pIfS (pT (pUn (rIsi "tuple") (pVar 0))) (pRet (pCT rTupI (pLc (pIter (pVar 0)) (.nm 1) (pYes) (pCall (gd 1 sp_rebuilt) (pCons (pVar 1) (pNil))) [1]))) (pNext)) (pRet (pVar 0)))
/-- slots: 0 value, 1 sign -/
def t_is_label : PTS :=
  pSeq (pIfS (pOr (pNot (pT (pUn (rIsi "str") (pVar 0)))) (pNot (pB (pChain rLe rLe (pC (.int 1)) (pCB rLen (pCons (pVar 0) (pNil))) (pC (.int 20)))))) (pRet (pC (.bl false))) (pNext)) (pSeq (pIfS (pB (pOp rEqP (pVar 0) (pC (.str "*")))) (pRet (pC (.bl true))) (pNext)) (pRet (pAndV (pOp rNeP (pOp rIx (pVar 0) (pC (.int 0))) (pC (.str "-"))) (pAndV (pOp rNeP (pOp rIx (pVar 0) (pUn rNeg (pC (.int 1)))) (pC (.str "-"))) (pCT rAllI (pLc (pIter (pVar 0)) (.nm 1) (pYes) (pOp rInP (pVar 1) (pC (.str "-0123456789abcdefghijklmnopqrstuvwxyz"))) [1]))))))
/-- slots: 0 value, 1 label -/
def t_is_name (sp_is_label : PSp) : PTS :=
  pSeq (pIfS (pOr (pNot (pT (pUn (rIsi "tuple") (pVar 0)))) (pNot (pT (pCT rAllI (pLc (pIter (pVar 0)) (.nm 1) (pYes) (pCall (gd 1 sp_is_label) (pCons (pVar 1) (pNil))) [1]))))) (pRet (pC (.bl false))) (pNext)) (pRet (pOp rNotInP (pC (.str "*")) (pSlice (pVar 0) (pPart (pC (.int 1))) (pNoPart))))
/-- slots: 0 value -/
def t_is_asked (sp_is_name : PSp) : PTS :=
  pRet (pAndV (pCall (gd 1 sp_is_name) (pCons (pVar 0) (pNil))) (pOp rNeP (pSlice (pVar 0) (pNoPart) (pPart (pC (.int 1)))) (pTup (pCons (pC (.str "*")) (pNil)))))
/-- slots: 0 name -/
def t_need_name (sp_is_name sp_rebuilt : PSp) : PTS :=
  pIfS (pNot (pT (pCall (gd 1 sp_is_name) (pCons (pVar 0) (pNil))))) (pRaise "InvalidName" (pCall (gd 1 sp_rebuilt) (pCons (pVar 0) (pNil)))) (pNext)
/-- slots: 0 text, 1 name -/
def t_name_of (sp_is_name sp_rebuilt : PSp) : PTS :=
  pSeq (pIfS (pB (pOp rEqP (pVar 0) (pC (.str ".")))) (pRet (pTup (pNil))) (pNext)) (pSeq (pIfS (pOr (pNot (pT (pUn (rIsi "str") (pVar 0)))) (pB (pOp rNeP (pSlice (pVar 0) (pPart (pUn rNeg (pC (.int 1)))) (pNoPart)) (pC (.str "."))))) (pRaise "Unreadable" (pCall (gd 1 sp_rebuilt) (pCons (pVar 0) (pNil)))) (pNext)) (pSeq (pAsg (pCB (onItems rTupI) (pCons (pMtT "str" rSplit (pSlice (pVar 0) (pNoPart) (pPart (pUn rNeg (pC (.int 1))))) (pCons (pC (.str ".")) (pNil))) (pNil))) (.nm 1)) (pSeq (pIfS (pNot (pT (pCall (gd 1 sp_is_name) (pCons (pVar 1) (pNil))))) (pRaise "Unreadable" (pVar 0)) (pNext)) (pRet (pVar 1)))))
/-- slots: 0 name, 1 label -/
def t_show_name (sp_need_name : PSp) : PTS :=
  pSeq (pDrop (pCall (gd 1 sp_need_name) (pCons (pVar 0) (pNil)))) (pSeq (pIfS (pB (pOp rEqP (pVar 0) (pTup (pNil)))) (pRet (pC (.str "."))) (pNext)) (pRet (pJoinT (pC (.str "")) (pLc (pIter (pVar 0)) (.nm 1) (pYes) (pOp rAdd (pVar 1) (pC (.str "."))) [1]))))
/-- slots: 0 _law_script, 1 _law_k, 2 _law_cell, 3 _law_mix, 4 _law_other -/
def t__law_pot : PTS :=
  pSeq (pAsg (pOp rAdd (pC (.int 29)) (pOp rMul (pC (.int 11)) (pVar 1))) (.nm 2)) (pSeq (pIfS (pB (pOp rLt (pVar 1) (pCB rLen (pCons (pVar 0) (pNil))))) (pAsg (pOp rIx (pVar 0) (pVar 1)) (.nm 2)) (pNext)) (pSeq (pAsg (pC (.int 1)) (.nm 3)) (pSeq (pFor (pIter (pVar 0)) (.nm 4) (pAsg (pOp rMod (pCB rIntP (pCons (pOp rAdd (pOp rMul (pVar 3) (pC (.int 131))) (pVar 4)) (pNil))) (pOp rAdd (pOp rPow (pC (.int 10)) (pC (.int 33))) (pC (.int 61)))) (.nm 3))) (pRet (pNew (pTmp (pCons (pCB rMax2 (pCons (pC (.int 0)) (pCons (pOp rSub (pVar 2) (pOp rPow (pC (.int 10)) (pC (.int 18)))) (pNil)))) (pCons (pOp rMod (pCB rIntP (pCons (pOp rAdd (pOp rAdd (pOp rMul (pVar 3) (pC (.int 977))) (pCB rAbs (pCons (pVar 2) (pNil)))) (pOp rMul (pC (.int 13)) (pVar 1))) (pNil))) (pOp rAdd (pOp rPow (pC (.int 10)) (pC (.int 33))) (pC (.int 61)))) (pCons (pC (.int 0)) (pNil))))))))))
/-- slots: 0 _law_pot_here, 1 _law_many, 2 _law_mixed, 3 _law_part -/
def t__law_take : PTS :=
  pSeq (pIfS (pB (pOp rGt (pOp rIx (pVar 0) (pC (.int 0))) (pC (.int 0)))) (pSeq (pAsg (pOp rMod (pCB rIntP (pCons (pOp rIx (pVar 0) (pC (.int 0))) (pNil))) (pVar 1)) (.nm 3)) (pSeq (pAsgS (pOp rFdiv (pOp rIx (pVar 0) (pC (.int 0))) (pVar 1)) (pVar 0) (pC (.int 0)) rSetP) (pRet (pVar 3)))) (pNext)) (pSeq (pAsgS (pOp rAdd (pOp rIx (pVar 0) (pC (.int 2))) (pC (.int 1))) (pVar 0) (pC (.int 2)) rSetP) (pSeq (pAsg (pOp rMod (pCB rIntP (pCons (pOp rAdd (pOp rPow (pOp rAdd (pOp rIx (pVar 0) (pC (.int 1))) (pOp rMul (pC (.int 999983)) (pOp rIx (pVar 0) (pC (.int 2))))) (pC (.int 3))) (pOp rMul (pC (.int 7)) (pOp rIx (pVar 0) (pC (.int 2))))) (pNil))) (pOp rAdd (pOp rPow (pC (.int 10)) (pC (.int 37))) (pC (.int 43)))) (.nm 2)) (pRet (pOp rMod (pCB rIntP (pCons (pOp rFdiv (pVar 2) (pC (.int 65537))) (pNil))) (pVar 1)))))
/-- slots: 0 _law_told_here, 1 _law_due, 2 _law_k -/
def t__law_same (sp__law_same : PSp) : PTS :=
  pSeq (pIfS (pT (pUn (rIsiT ["tuple", "list"]) (pVar 1))) (pSeq (pIfS (pOr (pB (pOp rNeP (pUn (rIsi "tuple") (pVar 1)) (pUn (rIsi "tuple") (pVar 0)))) (pB (pOp rNeP (pUn (rIsi "list") (pVar 1)) (pUn (rIsi "list") (pVar 0))))) (pRet (pC (.bl false))) (pNext)) (pRet (pAndV (pOp rEqP (pCB rLen (pCons (pVar 0) (pNil))) (pCB rLen (pCons (pVar 1) (pNil)))) (pCT rAllI (pLc (pRng1 (pCB rLen (pCons (pVar 1) (pNil)))) (.nm 2) (pYes) (pCall (gd 2 sp__law_same) (pCons (pOp rIx (pVar 0) (pVar 2)) (pCons (pOp rIx (pVar 1) (pVar 2)) (pNil)))) [2]))))) (pNext)) (pSeq (pIfS (pB (pUn rIsN (pVar 1))) (pRet (pUn rIsN (pVar 0))) (pNext)) (pSeq (pIfS (pT (pUn (rIsi "bool") (pVar 1))) (pRet (pAndV (pUn (rIsi "bool") (pVar 0)) (pOp rEqP (pVar 0) (pVar 1)))) (pNext)) (pSeq (pIfS (pT (pUn (rIsi "int") (pVar 1))) (pRet (pAndV (pUn (rIsi "int") (pVar 0)) (pAndV (pNotV (pUn (rIsi "bool") (pVar 0))) (pOp rEqP (pVar 0) (pVar 1))))) (pNext)) (pRet (pAndV (pUn (rIsi "str") (pVar 1)) (pAndV (pUn (rIsi "str") (pVar 0)) (pOp rEqP (pVar 0) (pVar 1))))))))
/-- slots: 0 _law_pot_here, 1 _law_ends, 2 _law_length, 3 _law_signs, 4 _law_k -/
def t__law_label (sp__law_take : PSp) : PTS :=
  pSeq (pAsg (pC (.str "0123456789abcdefghijklmnopqrstuvwxyz")) (.nm 1)) (pSeq (pAsg (pIxT rIxT (pTmp (pCons (pC (.int 1)) (pCons (pC (.int 2)) (pCons (pC (.int 3)) (pCons (pOp rAdd (pC (.int 1)) (pCall (gd 2 sp__law_take) (pCons (pVar 0) (pCons (pC (.int 20)) (pNil))))) (pCons (pC (.int 20)) (pNil))))))) (pCall (gd 2 sp__law_take) (pCons (pVar 0) (pCons (pC (.int 5)) (pNil))))) (.nm 2)) (pSeq (pAsg (pNew (pLc (pRng1 (pVar 2)) (.nm 4) (pYes) (pOp rIx (pOp rAdd (pC (.str "-")) (pVar 1)) (pCall (gd 2 sp__law_take) (pCons (pVar 0) (pCons (pC (.int 37)) (pNil))))) [4])) (.nm 3)) (pSeq (pAsgS (pOp rIx (pVar 1) (pCall (gd 2 sp__law_take) (pCons (pVar 0) (pCons (pC (.int 36)) (pNil))))) (pVar 3) (pC (.int 0)) rSetP) (pSeq (pAsgS (pOp rIx (pVar 1) (pCall (gd 2 sp__law_take) (pCons (pVar 0) (pCons (pC (.int 36)) (pNil))))) (pVar 3) (pUn rNeg (pC (.int 1))) rSetP) (pRet (pMtT "str" rJoin (pC (.str "")) (pCons (pVar 3) (pNil))))))))
/-- slots: 0 _law_pot_here, 1 _law_some -/
def t__law_odd (sp__law_take : PSp) : PTS :=
  pSeq (pAsg (pNew (pTmp (pCons (pC .non) (pCons (pC (.bl true)) (pCons (pC (.int 7)) (pCons (pUn rNeg (pC (.int 1))) (pCons (pC (.str "")) (pCons (pC (.str "a")) (pCons (pNew (pTmp (pCons (pC (.str "a")) (pNil)))) (pCons (pNew (pTmp (pNil))) (pCons (pTup (pCons (pC (.str "a")) (pCons (pC (.int 5)) (pNil)))) (pCons (pTup (pCons (pC (.str "a")) (pCons (pC (.str "*")) (pNil)))) (pCons (pTup (pCons (pTup (pCons (pC (.str "a")) (pNil))) (pNil))) (pCons (pTup (pCons (pC (.str "")) (pNil))) (pCons (pTup (pCons (pC (.str "*")) (pCons (pC (.str "*")) (pNil)))) (pCons (pC (.str "a.")) (pNil))))))))))))))))) (.nm 1)) (pSeq (pAsg (pOp rAdd (pVar 1) (pNew (pTmp (pCons (pTup (pCons (pC (.str "a-")) (pNil))) (pCons (pTup (pCons (pC (.str "-")) (pNil))) (pCons (pTup (pCons (pC (.str "A")) (pNil))) (pCons (pTup (pCons (pC (.str "a b")) (pNil))) (pCons (pTup (pCons (pC (.str "a")) (pCons (pC .non) (pNil)))) (pCons (pNew (pTmp (pCons (pTup (pCons (pC (.str "a")) (pNil))) (pNil)))) (pCons (pTup (pCons (pOp rMul (pC (.str "a")) (pC (.int 21))) (pNil))) (pCons (pTup (pCons (pC (.str "a")) (pCons (pC (.str "")) (pCons (pC (.str "b")) (pNil))))) (pCons (pTup (pCons (pC (.str "**")) (pNil))) (pNil))))))))))))) (.nm 1)) (pRet (pOp rIx (pVar 1) (pCall (gd 2 sp__law_take) (pCons (pVar 0) (pCons (pCB rLen (pCons (pVar 1) (pNil))) (pNil)))))))
/-- slots: 0 _law_value, 1 _law_good, 2 _law_sign -/
def t__law_is_label : PTS :=
  pSeq (pIfS (pOr (pNot (pT (pUn (rIsi "str") (pVar 0)))) (pOr (pB (pOp rLt (pCB rLen (pCons (pVar 0) (pNil))) (pC (.int 1)))) (pB (pOp rGt (pCB rLen (pCons (pVar 0) (pNil))) (pC (.int 20)))))) (pRet (pC (.bl false))) (pNext)) (pSeq (pIfS (pB (pOp rEqP (pVar 0) (pC (.str "*")))) (pRet (pC (.bl true))) (pNext)) (pSeq (pAsg (pC (.str "abcdefghijklmnopqrstuvwxyz0123456789-")) (.nm 1)) (pRet (pAndV (pCT rAllI (pLc (pIter (pVar 0)) (.nm 2) (pYes) (pOp rInP (pVar 2) (pVar 1)) [2])) (pAndV (pOp rNeP (pOp rIx (pVar 0) (pC (.int 0))) (pC (.str "-"))) (pOp rNeP (pOp rIx (pVar 0) (pOp rSub (pCB rLen (pCons (pVar 0) (pNil))) (pC (.int 1)))) (pC (.str "-"))))))))
/-- slots: 0 _law_value, 1 _law_k, 2 _law_label_here -/
def t__law_is_name (sp__law_is_label : PSp) : PTS :=
  pSeq (pIfS (pOr (pNot (pT (pUn (rIsi "tuple") (pVar 0)))) (pNot (pT (pCT rAllI (pLc (pIter (pVar 0)) (.nm 2) (pYes) (pCall (gd 1 sp__law_is_label) (pCons (pVar 2) (pNil))) [2]))))) (pRet (pC (.bl false))) (pNext)) (pRet (pCT rAllI (pLc (pRng2 (pC (.int 1)) (pCB rLen (pCons (pVar 0) (pNil)))) (.nm 1) (pYes) (pOp rNeP (pOp rIx (pVar 0) (pVar 1)) (pC (.str "*"))) [1])))
/-- slots: 0 _law_pot_here, 1 _law_way, 2 _law_text, 3 _law_wide, 4 _law_at, 5 _law_k -/
def t__law_any_label (sp__law_take sp__law_label : PSp) : PTS :=
  pSeq (pAsg (pCall (gd 2 sp__law_take) (pCons (pVar 0) (pCons (pC (.int 9)) (pNil)))) (.nm 1)) (pSeq (pAsg (pCall (gd 1 sp__law_label) (pCons (pVar 0) (pNil))) (.nm 2)) (pSeq (pIfS (pB (pOp rEqP (pVar 1) (pC (.int 6)))) (pRet (pC (.str "*"))) (pNext)) (pSeq (pIfS (pB (pOp rEqP (pVar 1) (pC (.int 7)))) (pSeq (pAsg (pC (.str "ab0-*._A ~")) (.nm 3)) (pRet (pJoinT (pC (.str "")) (pLc (pRng1 (pCall (gd 2 sp__law_take) (pCons (pVar 0) (pCons (pC (.int 23)) (pNil))))) (.nm 5) (pYes) (pOp rIx (pVar 3) (pCall (gd 2 sp__law_take) (pCons (pVar 0) (pCons (pC (.int 10)) (pNil))))) [5])))) (pNext)) (pSeq (pIfS (pB (pOp rEqP (pVar 1) (pC (.int 8)))) (pSeq (pAsg (pCall (gd 2 sp__law_take) (pCons (pVar 0) (pCons (pOp rAdd (pCB rLen (pCons (pVar 2) (pNil))) (pC (.int 1))) (pNil)))) (.nm 4)) (pRet (pOp rAdd (pOp rAdd (pSlice (pVar 2) (pNoPart) (pPart (pVar 4))) (pOp rIx (pC (.str "-*.Z _a")) (pCall (gd 2 sp__law_take) (pCons (pVar 0) (pCons (pC (.int 7)) (pNil)))))) (pSlice (pVar 2) (pPart (pOp rAdd (pVar 4) (pCall (gd 2 sp__law_take) (pCons (pVar 0) (pCons (pC (.int 2)) (pNil)))))) (pNoPart))))) (pNext)) (pRet (pVar 2))))))
/-- slots: 0 _law_pot_here, 1 _law_many, 2 _law_k -/
def t__law_some_labels (sp__law_take sp__law_any_label sp__law_label : PSp) : PTS :=
  pSeq (pAsg (pIxT rIxT (pTmp (pCons (pCall (gd 2 sp__law_take) (pCons (pVar 0) (pCons (pC (.int 4)) (pNil)))) (pCons (pC (.int 12)) (pNil)))) (pCB rIntP (pCons (pOp rEqP (pCall (gd 2 sp__law_take) (pCons (pVar 0) (pCons (pC (.int 8)) (pNil)))) (pC (.int 7))) (pNil)))) (.nm 1)) (pSeq (pIfS (pB (pOp rEqP (pCall (gd 2 sp__law_take) (pCons (pVar 0) (pCons (pC (.int 2)) (pNil)))) (pC (.int 0)))) (pRet (pOp rAdd (pOp rMul (pNew (pTmp (pCons (pC (.str "*")) (pNil)))) (pCall (gd 2 sp__law_take) (pCons (pVar 0) (pCons (pC (.int 2)) (pNil))))) (pNew (pLc (pRng1 (pCB rMin2 (pCons (pVar 1) (pCons (pC (.int 11)) (pNil))))) (.nm 2) (pYes) (pCall (gd 1 sp__law_label) (pCons (pVar 0) (pNil))) [2])))) (pNext)) (pRet (pNew (pLc (pRng1 (pVar 1)) (.nm 2) (pYes) (pCall (gd 1 sp__law_any_label) (pCons (pVar 0) (pNil))) [2]))))
/-- slots: 0 _law_pot_here, 1 _law_turn, 2 _law_value -/
def t__law_labels_right (sp__law_any_label sp__law_take sp__law_odd sp__law_same sp_is_label sp__law_is_label : PSp) : PTS :=
  pSeq (pFor (pRng1 (pC (.int 5))) (.nm 1) (pSeq (pAsg (pCall (gd 1 sp__law_any_label) (pCons (pVar 0) (pNil))) (.nm 2)) (pSeq (pIfS (pB (pOp rEqP (pCall (gd 2 sp__law_take) (pCons (pVar 0) (pCons (pC (.int 5)) (pNil)))) (pC (.int 4)))) (pAsg (pCall (gd 1 sp__law_odd) (pCons (pVar 0) (pNil))) (.nm 2)) (pNext)) (pSeq (pIfS (pNot (pT (pCall (gd 2 sp__law_same) (pCons (pCall (gd 1 sp_is_label) (pCons (pVar 2) (pNil))) (pCons (pCall (gd 1 sp__law_is_label) (pCons (pVar 2) (pNil))) (pNil)))))) (pRet (pC (.bl false))) (pNext)) (pIfS (pNot (pT (pCall (gd 2 sp__law_same) (pCons (pCallK (gd 1 sp_is_label) 0 1 [0] pNil (pCons (pVar 2) (pNil))) (pCons (pCall (gd 1 sp__law_is_label) (pCons (pVar 2) (pNil))) (pNil)))))) (pRet (pC (.bl false))) (pNext)))))) (pRet (pC (.bl true)))
/-- slots: 0 _law_value, 1 _law_found, 2 error -/
def t__law_shown (sp_show_name : PSp) : PTS :=
  pSeq (pAsg (pC .non) (.nm 1)) (pSeq (pTryT es (pAsg (pTup (pCons (pC (.str "text")) (pCons (pCall (gd 1 sp_show_name) (pCons (pVar 0) (pNil))) (pNil)))) (.nm 1)) "InvalidName" 2 (pAsg (pTup (pCons (pC (.str "refused")) (pCons (pErrVal es 2) (pNil)))) (.nm 1))) (pRet (pVar 1)))
/-- slots: 0 _law_value, 1 _law_due, 2 _law_copy, 3 _law_found, 4 _law_told_here -/
def t__law_kept_apart (sp__law_shown : PSp) : PTS :=
  pSeq (pAsg (pCB (onItems rLstI) (pCons (pVar 0) (pNil))) (.nm 2)) (pSeq (pAsg (pCall (gd 1 sp__law_shown) (pCons (pVar 0) (pNil))) (.nm 3)) (pSeq (pAsg (pOp rIx (pVar 3) (pC (.int 1))) (.nm 4)) (pSeq (pDrop (pMtT "list" rAppend (pVar 4) (pCons (pC (.str "z")) (pNil)))) (pRet (pAndV (pOp rEqP (pVar 0) (pVar 2)) (pOp rEqP (pCall (gd 1 sp__law_shown) (pCons (pVar 0) (pNil))) (pVar 1)))))))
/-- slots: 0 _law_pot_here, 1 _law_turn, 2 _law_labels, 3 _law_value, 4 _law_good, 5 _law_due, 6 _law_label_here -/
def t__law_names_right (sp__law_some_labels sp__law_is_name sp__law_take sp__law_same sp__law_shown sp_is_name sp_is_asked sp__law_kept_apart sp__law_odd sp_show_name sp_name_of : PSp) : PTS :=
  pSeq (pFor (pRng1 (pC (.int 5))) (.nm 1) (pSeq (pAsg (pCall (gd 1 sp__law_some_labels) (pCons (pVar 0) (pNil))) (.nm 2)) (pSeq (pAsg (pCB (onItems rTupI) (pCons (pVar 2) (pNil))) (.nm 3)) (pSeq (pIfS (pB (pOp rEqP (pCall (gd 2 sp__law_take) (pCons (pVar 0) (pCons (pC (.int 5)) (pNil)))) (pC (.int 4)))) (pAsg (pIxT rIxT (pTmp (pCons (pCB (onItems rLstI) (pCons (pVar 2) (pNil))) (pCons (pCall (gd 1 sp__law_odd) (pCons (pVar 0) (pNil))) (pNil)))) (pCall (gd 2 sp__law_take) (pCons (pVar 0) (pCons (pC (.int 2)) (pNil))))) (.nm 3)) (pNext)) (pSeq (pAsg (pCall (gd 1 sp__law_is_name) (pCons (pVar 3) (pNil))) (.nm 4)) (pSeq (pIfS (pNot (pT (pCall (gd 2 sp__law_same) (pCons (pCall (gd 1 sp_is_name) (pCons (pVar 3) (pNil))) (pCons (pVar 4) (pNil)))))) (pRet (pC (.bl false))) (pNext)) (pSeq (pIfS (pNot (pT (pCall (gd 2 sp__law_same) (pCons (pCall (gd 1 sp_is_asked) (pCons (pVar 3) (pNil))) (pCons (pAndV (pVar 4) (pOp rNeP (pSlice (pVar 3) (pNoPart) (pPart (pC (.int 1)))) (pTup (pCons (pC (.str "*")) (pNil))))) (pNil)))))) (pRet (pC (.bl false))) (pNext)) (pSeq (pIfS (pB (pOp rNeP (pNew (pTmp (pCons (pCallK (gd 1 sp_is_name) 0 1 [0] pNil (pCons (pVar 3) (pNil))) (pCons (pCallK (gd 1 sp_is_asked) 0 1 [0] pNil (pCons (pVar 3) (pNil))) (pNil))))) (pNew (pTmp (pCons (pVar 4) (pCons (pAndV (pVar 4) (pOp rNeP (pSlice (pVar 3) (pNoPart) (pPart (pC (.int 1)))) (pTup (pCons (pC (.str "*")) (pNil))))) (pNil))))))) (pRet (pC (.bl false))) (pNext)) (pSeq (pAsg (pTup (pCons (pC (.str "refused")) (pCons (pVar 3) (pNil)))) (.nm 5)) (pSeq (pIfS (pT (pVar 4)) (pSeq (pAsg (pTup (pCons (pC (.str "text")) (pCons (pJoinT (pC (.str "")) (pLc (pIter (pVar 2)) (.nm 6) (pYes) (pOp rAdd (pVar 6) (pC (.str "."))) [6])) (pNil)))) (.nm 5)) (pIfS (pB (pOp rEqP (pVar 2) (pNew (pTmp (pNil))))) (pAsg (pTup (pCons (pC (.str "text")) (pCons (pC (.str ".")) (pNil)))) (.nm 5)) (pNext))) (pNext)) (pSeq (pIfS (pAnd (pT (pUn (rIsiT ["tuple", "list"]) (pVar 3))) (pNot (pT (pCall (gd 2 sp__law_same) (pCons (pCall (gd 1 sp__law_shown) (pCons (pVar 3) (pNil))) (pCons (pVar 5) (pNil))))))) (pRet (pC (.bl false))) (pNext)) (pSeq (pIfS (pB (pOp rNeP (pCall (gd 1 sp__law_shown) (pCons (pVar 3) (pNil))) (pVar 5))) (pRet (pC (.bl false))) (pNext)) (pSeq (pIfS (pAnd (pNot (pT (pVar 4))) (pAnd (pT (pUn (rIsi "list") (pVar 3))) (pNot (pT (pCall (gd 2 sp__law_kept_apart) (pCons (pVar 3) (pCons (pVar 5) (pNil)))))))) (pRet (pC (.bl false))) (pNext)) (pSeq (pIfS (pAnd (pT (pVar 4)) (pOr (pNot (pT (pCall (gd 2 sp__law_same) (pCons (pCall (gd 1 sp_name_of) (pCons (pOp rIx (pVar 5) (pC (.int 1))) (pNil))) (pCons (pVar 3) (pNil)))))) (pB (pOp rNeP (pCallK (gd 1 sp_show_name) 0 1 [0] pNil (pCons (pVar 3) (pNil))) (pOp rIx (pVar 5) (pC (.int 1))))))) (pRet (pC (.bl false))) (pNext)) (pIfS (pAnd (pT (pVar 4)) (pNot (pT (pCall (gd 2 sp__law_same) (pCons (pCallK (gd 1 sp_name_of) 0 1 [0] pNil (pCons (pOp rIx (pVar 5) (pC (.int 1))) (pNil))) (pCons (pVar 3) (pNil))))))) (pRet (pC (.bl false))) (pNext)))))))))))))))) (pRet (pC (.bl true)))
/-- slots: 0 _law_text, 1 _law_name -/
def t__law_read (sp__law_is_name : PSp) : PTS :=
  pSeq (pIfS (pB (pOp rEqP (pVar 0) (pC (.str ".")))) (pRet (pNew (pTmp (pCons (pTup (pNil)) (pNil))))) (pNext)) (pSeq (pIfS (pOr (pB (pOp rEqP (pVar 0) (pC (.str "")))) (pB (pOp rNeP (pOp rIx (pVar 0) (pOp rSub (pCB rLen (pCons (pVar 0) (pNil))) (pC (.int 1)))) (pC (.str "."))))) (pRet (pNew (pTmp (pNil)))) (pNext)) (pSeq (pAsg (pCB (onItems rTupI) (pCons (pMtT "str" rSplit (pSlice (pVar 0) (pNoPart) (pPart (pOp rSub (pCB rLen (pCons (pVar 0) (pNil))) (pC (.int 1))))) (pCons (pC (.str ".")) (pNil))) (pNil))) (.nm 1)) (pRet (pIf (pT (pCall (gd 1 sp__law_is_name) (pCons (pVar 1) (pNil)))) (pNew (pTmp (pCons (pVar 1) (pNil)))) (pNew (pTmp (pNil)))))))
/-- slots: 0 _law_text, 1 _law_found, 2 error -/
def t__law_told (sp_name_of : PSp) : PTS :=
  pSeq (pAsg (pC .non) (.nm 1)) (pSeq (pTryT es (pAsg (pTup (pCons (pC (.str "name")) (pCons (pCall (gd 1 sp_name_of) (pCons (pVar 0) (pNil))) (pNil)))) (.nm 1)) "Unreadable" 2 (pAsg (pTup (pCons (pC (.str "refused")) (pCons (pErrVal es 2) (pNil)))) (.nm 1))) (pRet (pVar 1)))
/-- slots: 0 _law_text, 1 _law_found, 2 error -/
def t__law_is_base (sp_name_of : PSp) : PTS :=
  pSeq (pAsg (pC (.bl false)) (.nm 1)) (pSeq (pTryT es (pDrop (pCall (gd 1 sp_name_of) (pCons (pVar 0) (pNil)))) "TreeError" 2 (pAsg (pAndV (pErrIs es 2 (fun _ => true)) (pAndV (pErrIs es 2 (fun c => catches c "Unreadable")) (pNotV (pErrIs es 2 (fun c => catches c "InvalidName"))))) (.nm 1))) (pRet (pVar 1)))
/-- slots: 0 _law_pot_here, 1 _law_turn, 2 _law_text, 3 _law_way, 4 _law_at, 5 _law_due, 6 _law_some, 7 _law_label_here -/
def t__law_texts_right (sp__law_take sp__law_read sp__law_told sp__law_is_base sp__law_same sp_show_name sp__law_some_labels : PSp) : PTS :=
  pSeq (pFor (pRng1 (pC (.int 6))) (.nm 1) (pSeq (pAsg (pJoinT (pC (.str "")) (pLc (pIter (pSlice (pCall (gd 1 sp__law_some_labels) (pCons (pVar 0) (pNil))) (pNoPart) (pPart (pC (.int 11))))) (.nm 7) (pYes) (pOp rAdd (pVar 7) (pC (.str "."))) [7])) (.nm 2)) (pSeq (pAsg (pCall (gd 2 sp__law_take) (pCons (pVar 0) (pCons (pC (.int 6)) (pNil)))) (.nm 3)) (pSeq (pAsg (pCall (gd 2 sp__law_take) (pCons (pVar 0) (pCons (pOp rAdd (pCB rLen (pCons (pVar 2) (pNil))) (pC (.int 1))) (pNil)))) (.nm 4)) (pSeq (pIfS (pB (pOp rEqP (pVar 3) (pC (.int 3)))) (pAsg (pOp rAdd (pOp rAdd (pSlice (pVar 2) (pNoPart) (pPart (pVar 4))) (pC (.str "."))) (pSlice (pVar 2) (pPart (pVar 4)) (pNoPart))) (.nm 2)) (pNext)) (pSeq (pIfS (pB (pOp rEqP (pVar 3) (pC (.int 4)))) (pAsg (pOp rAdd (pSlice (pVar 2) (pNoPart) (pPart (pVar 4))) (pSlice (pVar 2) (pPart (pOp rAdd (pVar 4) (pC (.int 1)))) (pNoPart))) (.nm 2)) (pNext)) (pSeq (pIfS (pB (pOp rEqP (pVar 3) (pC (.int 5)))) (pSeq (pAsg (pNew (pTmp (pCons (pC (.str "")) (pCons (pC (.str ".")) (pCons (pC (.str "..")) (pCons (pC (.str "*.")) (pCons (pC (.str "*")) (pCons (pC (.str "a")) (pCons (pC (.str ".a.")) (pCons (pC (.str "a..")) (pCons (pC (.str "*.*.")) (pCons (pC (.str "a.*.")) (pCons (pC (.str " .")) (pCons (pC (.str "a.\n")) (pCons (pC (.str "\n")) (pCons (pC (.str "-.")) (pNil))))))))))))))))) (.nm 6)) (pAsg (pOp rIx (pVar 6) (pCall (gd 2 sp__law_take) (pCons (pVar 0) (pCons (pC (.int 14)) (pNil))))) (.nm 2))) (pNext)) (pSeq (pAsg (pCall (gd 1 sp__law_read) (pCons (pVar 2) (pNil))) (.nm 5)) (pIfS (pB (pOp rEqP (pVar 5) (pNew (pTmp (pNil))))) (pIfS (pOr (pB (pOp rNeP (pCall (gd 1 sp__law_told) (pCons (pVar 2) (pNil))) (pTup (pCons (pC (.str "refused")) (pCons (pVar 2) (pNil)))))) (pNot (pT (pCall (gd 1 sp__law_is_base) (pCons (pVar 2) (pNil)))))) (pRet (pC (.bl false))) (pNext)) (pIfS (pOr (pNot (pT (pCall (gd 2 sp__law_same) (pCons (pCall (gd 1 sp__law_told) (pCons (pVar 2) (pNil))) (pCons (pTup (pCons (pC (.str "name")) (pCons (pOp rIx (pVar 5) (pC (.int 0))) (pNil)))) (pNil)))))) (pB (pOp rNeP (pCall (gd 1 sp_show_name) (pCons (pOp rIx (pVar 5) (pC (.int 0))) (pNil))) (pVar 2)))) (pRet (pC (.bl false))) (pNext))))))))))) (pRet (pC (.bl true)))
/-- slots: 0 _law_script, 1 _law_k, 2 _law_pot_here -/
def t_law (sp__law_pot sp__law_labels_right sp__law_names_right sp__law_texts_right : PSp) : PTS :=
  pSeq (pFor (pRng1 (pCB rMax2 (pCons (pC (.int 1)) (pCons (pCB rMin2 (pCons (pC (.int 5)) (pCons (pCB rLen (pCons (pVar 0) (pNil))) (pNil)))) (pNil))))) (.nm 1) (pSeq (pAsg (pCall (gd 2 sp__law_pot) (pCons (pVar 0) (pCons (pVar 1) (pNil)))) (.nm 2)) (pIfS (pOr (pNot (pT (pCall (gd 1 sp__law_labels_right) (pCons (pVar 2) (pNil))))) (pOr (pNot (pT (pCall (gd 1 sp__law_names_right) (pCons (pVar 2) (pNil))))) (pNot (pT (pCall (gd 1 sp__law_texts_right) (pCons (pVar 2) (pNil))))))) (pRet (pC (.bl false))) (pNext)))) (pRet (pC (.bl true)))
end L_k01
set_option maxHeartbeats 8000000
/-! Printed by gen.py: the facts of the text, the derivations. -/
namespace L_k01
open PySem PySem.Spec PyProof.Rows L2 TL MP
def top (i : Nat) : Stmt := PySem.Challenge.pw_rootward_k01_labels_and_names.main.body.getD i (.Pass ⟨0, 0, 0, 0⟩)
abbrev s_rebuilt : Stmt := top 7
def dd_rebuilt : He.DefD := ⟨("rebuilt", none), "rebuilt", "rebuilt", defArgs s_rebuilt, defBody s_rebuilt, defScope s_rebuilt, [], []⟩
abbrev s_is_label : Stmt := top 8
def dd_is_label : He.DefD := ⟨("is_label", none), "is_label", "is_label", defArgs s_is_label, defBody s_is_label, defScope s_is_label, [], []⟩
abbrev s_is_name : Stmt := top 9
def dd_is_name : He.DefD := ⟨("is_name", none), "is_name", "is_name", defArgs s_is_name, defBody s_is_name, defScope s_is_name, [], []⟩
abbrev s_is_asked : Stmt := top 10
def dd_is_asked : He.DefD := ⟨("is_asked", none), "is_asked", "is_asked", defArgs s_is_asked, defBody s_is_asked, defScope s_is_asked, [], []⟩
abbrev s_need_name : Stmt := top 11
def dd_need_name : He.DefD := ⟨("need_name", none), "need_name", "need_name", defArgs s_need_name, defBody s_need_name, defScope s_need_name, [], []⟩
abbrev s_name_of : Stmt := top 12
def dd_name_of : He.DefD := ⟨("name_of", none), "name_of", "name_of", defArgs s_name_of, defBody s_name_of, defScope s_name_of, [], []⟩
abbrev s_show_name : Stmt := top 13
def dd_show_name : He.DefD := ⟨("show_name", none), "show_name", "show_name", defArgs s_show_name, defBody s_show_name, defScope s_show_name, [], []⟩
abbrev s__law_pot : Stmt := top 15
def dd__law_pot : He.DefD := ⟨("_law_pot", none), "_law_pot", "_law_pot", defArgs s__law_pot, defBody s__law_pot, defScope s__law_pot, [], []⟩
abbrev s__law_take : Stmt := top 16
def dd__law_take : He.DefD := ⟨("_law_take", none), "_law_take", "_law_take", defArgs s__law_take, defBody s__law_take, defScope s__law_take, [], []⟩
abbrev s__law_same : Stmt := top 17
def dd__law_same : He.DefD := ⟨("_law_same", none), "_law_same", "_law_same", defArgs s__law_same, defBody s__law_same, defScope s__law_same, [], []⟩
abbrev s__law_label : Stmt := top 18
def dd__law_label : He.DefD := ⟨("_law_label", none), "_law_label", "_law_label", defArgs s__law_label, defBody s__law_label, defScope s__law_label, [], []⟩
abbrev s__law_odd : Stmt := top 19
def dd__law_odd : He.DefD := ⟨("_law_odd", none), "_law_odd", "_law_odd", defArgs s__law_odd, defBody s__law_odd, defScope s__law_odd, [], []⟩
abbrev s__law_is_label : Stmt := top 20
def dd__law_is_label : He.DefD := ⟨("_law_is_label", none), "_law_is_label", "_law_is_label", defArgs s__law_is_label, defBody s__law_is_label, defScope s__law_is_label, [], []⟩
abbrev s__law_is_name : Stmt := top 21
def dd__law_is_name : He.DefD := ⟨("_law_is_name", none), "_law_is_name", "_law_is_name", defArgs s__law_is_name, defBody s__law_is_name, defScope s__law_is_name, [], []⟩
abbrev s__law_any_label : Stmt := top 22
def dd__law_any_label : He.DefD := ⟨("_law_any_label", none), "_law_any_label", "_law_any_label", defArgs s__law_any_label, defBody s__law_any_label, defScope s__law_any_label, [], []⟩
abbrev s__law_some_labels : Stmt := top 23
def dd__law_some_labels : He.DefD := ⟨("_law_some_labels", none), "_law_some_labels", "_law_some_labels", defArgs s__law_some_labels, defBody s__law_some_labels, defScope s__law_some_labels, [], []⟩
abbrev s__law_labels_right : Stmt := top 24
def dd__law_labels_right : He.DefD := ⟨("_law_labels_right", none), "_law_labels_right", "_law_labels_right", defArgs s__law_labels_right, defBody s__law_labels_right, defScope s__law_labels_right, [], []⟩
abbrev s__law_shown : Stmt := top 25
def dd__law_shown : He.DefD := ⟨("_law_shown", none), "_law_shown", "_law_shown", defArgs s__law_shown, defBody s__law_shown, defScope s__law_shown, [], []⟩
abbrev s__law_kept_apart : Stmt := top 26
def dd__law_kept_apart : He.DefD := ⟨("_law_kept_apart", none), "_law_kept_apart", "_law_kept_apart", defArgs s__law_kept_apart, defBody s__law_kept_apart, defScope s__law_kept_apart, [], []⟩
abbrev s__law_names_right : Stmt := top 27
def dd__law_names_right : He.DefD := ⟨("_law_names_right", none), "_law_names_right", "_law_names_right", defArgs s__law_names_right, defBody s__law_names_right, defScope s__law_names_right, [], []⟩
abbrev s__law_read : Stmt := top 28
def dd__law_read : He.DefD := ⟨("_law_read", none), "_law_read", "_law_read", defArgs s__law_read, defBody s__law_read, defScope s__law_read, [], []⟩
abbrev s__law_told : Stmt := top 29
def dd__law_told : He.DefD := ⟨("_law_told", none), "_law_told", "_law_told", defArgs s__law_told, defBody s__law_told, defScope s__law_told, [], []⟩
abbrev s__law_is_base : Stmt := top 30
def dd__law_is_base : He.DefD := ⟨("_law_is_base", none), "_law_is_base", "_law_is_base", defArgs s__law_is_base, defBody s__law_is_base, defScope s__law_is_base, [], []⟩
abbrev s__law_texts_right : Stmt := top 31
def dd__law_texts_right : He.DefD := ⟨("_law_texts_right", none), "_law_texts_right", "_law_texts_right", defArgs s__law_texts_right, defBody s__law_texts_right, defScope s__law_texts_right, [], []⟩
abbrev s_law : Stmt := top 32
def dd_law : He.DefD := ⟨("law", none), "law", "law", defArgs s_law, defBody s_law, defScope s_law, [], []⟩
abbrev s_TreeInit : Stmt := inClass (top 1) 0
def dd_TreeInit : He.DefD := ⟨("TreeError", some "__init__"), "__init__", "TreeError.__init__", defArgs s_TreeInit, defBody s_TreeInit, defScope s_TreeInit, [], []⟩
def fn : List He.DefD := ([dd_rebuilt, dd_is_label, dd_is_name, dd_is_asked, dd_need_name, dd_name_of, dd_show_name, dd__law_pot, dd__law_take, dd__law_same, dd__law_label, dd__law_odd, dd__law_is_label, dd__law_is_name, dd__law_any_label, dd__law_some_labels, dd__law_labels_right, dd__law_shown, dd__law_kept_apart, dd__law_names_right, dd__law_read, dd__law_told, dd__law_is_base, dd__law_texts_right, dd_law] : List He.DefD) ++ ([dd_TreeInit] : List He.DefD)
def globs : List Str := (["rebuilt", "is_label", "is_name", "is_asked", "need_name", "name_of", "show_name", "_law_pot", "_law_take", "_law_same", "_law_label", "_law_odd", "_law_is_label", "_law_is_name", "_law_any_label", "_law_some_labels", "_law_labels_right", "_law_shown", "_law_kept_apart", "_law_names_right", "_law_read", "_law_told", "_law_is_base", "_law_texts_right", "law"] : List Str)
def frees : List Str := (["isinstance", "list", "tuple", "str", "len", "all", "int", "max", "abs", "range", "bool", "min", "ValueError"] : List Str)
def cints : List (Str × Int) := ([("LONGEST", 20)] : List (Str × Int))
def cstrs : List (Str × Str) := ([("SIGNS", "-0123456789abcdefghijklmnopqrstuvwxyz")] : List (Str × Str))
def ctups : List (Str × List He.Dv) := ([] : List (Str × List He.Dv))
def fb (K : PySem.W.Frag) : Bool := (errB es K && isB es K) && ((globs.all fun x => (He.Fa.glo x).ok K) && ((frees.all fun x => (He.Fa.free x).ok K) && ((cints.all fun p => (He.Fa.int p.1 p.2).ok K) && ((cstrs.all fun p => (He.Fa.str p.1 p.2).ok K) && (ctups.all fun p => (He.Fa.glo p.1).ok K && He.tupB K p.1 p.2)))))
/-- what stands -/
structure HX (K : PySem.W.Frag) (mg : Str → Option Value) (base : Heap) : Prop where
  c : SaysM fb fn K
  X : K.In base
  G : base.Ns mainGlobals mg
section
variable {P : Program} {w : World} {K : PySem.W.Frag} {mg : Str → Option Value} {base : Heap}
theorem HX.p1 (E : HX K mg base) : (errB es K && isB es K) = true ∧ (globs.all fun x => (He.Fa.glo x).ok K) = true ∧ (frees.all fun x => (He.Fa.free x).ok K) = true ∧ (cints.all fun p => (He.Fa.int p.1 p.2).ok K) = true ∧ (cstrs.all fun p => (He.Fa.str p.1 p.2).ok K) = true ∧ (ctups.all fun p => (He.Fa.glo p.1).ok K && He.tupB K p.1 p.2) = true := by
  have h : fb K = true := E.c.fb
  obtain ⟨h1, h⟩ := He.ba h
  obtain ⟨h2, h⟩ := He.ba h
  obtain ⟨h3, h⟩ := He.ba h
  obtain ⟨h4, h⟩ := He.ba h
  obtain ⟨h5, h6⟩ := He.ba h
  exact ⟨h1, h2, h3, h4, h5, h6⟩
theorem HX.e (E : HX K mg base) : errB es K = true := (He.ba E.p1.1).1
theorem HX.glo (E : HX K mg base) {x : Str} (h : x ∈ globs) : mg x = some (.ref (He.ga K x)) := He.glo_ok E.X E.G (List.all_eq_true.mp E.p1.2.1 x h)
theorem HX.free (E : HX K mg base) {x : Str} (h : x ∈ frees) : mg x = none := He.free_ok E.X E.G (List.all_eq_true.mp E.p1.2.2.1 x h)
theorem HX.cint (E : HX K mg base) {x : Str} {i : Int} (h : (x, i) ∈ cints) : ∃ t, mg x = some (.int i t) := He.int_ok E.X E.G (List.all_eq_true.mp E.p1.2.2.2.1 (x, i) h)
theorem HX.cstr (E : HX K mg base) {x z : Str} (h : (x, z) ∈ cstrs) : ∃ t, mg x = some (.str z t) := He.str_ok E.X E.G (List.all_eq_true.mp E.p1.2.2.2.2.1 (x, z) h)
theorem HX.ctup (E : HX K mg base) {x : Str} {vs : List He.Dv} (h : (x, vs) ∈ ctups) : mg x = some (.ref (He.ga K x)) ∧ He.tupB K x vs = true := by
  obtain ⟨h1, h2⟩ := He.ba (List.all_eq_true.mp E.p1.2.2.2.2.2 (x, vs) h)
  exact ⟨He.glo_ok E.X E.G h1, h2⟩
theorem HX.g_rebuilt (E : HX K mg base) : mg "rebuilt" = some (.ref (He.ga K "rebuilt")) := E.glo (by decide)
theorem HX.g_is_label (E : HX K mg base) : mg "is_label" = some (.ref (He.ga K "is_label")) := E.glo (by decide)
theorem HX.g_is_name (E : HX K mg base) : mg "is_name" = some (.ref (He.ga K "is_name")) := E.glo (by decide)
theorem HX.g_is_asked (E : HX K mg base) : mg "is_asked" = some (.ref (He.ga K "is_asked")) := E.glo (by decide)
theorem HX.g_need_name (E : HX K mg base) : mg "need_name" = some (.ref (He.ga K "need_name")) := E.glo (by decide)
theorem HX.g_name_of (E : HX K mg base) : mg "name_of" = some (.ref (He.ga K "name_of")) := E.glo (by decide)
theorem HX.g_show_name (E : HX K mg base) : mg "show_name" = some (.ref (He.ga K "show_name")) := E.glo (by decide)
theorem HX.g__law_pot (E : HX K mg base) : mg "_law_pot" = some (.ref (He.ga K "_law_pot")) := E.glo (by decide)
theorem HX.g__law_take (E : HX K mg base) : mg "_law_take" = some (.ref (He.ga K "_law_take")) := E.glo (by decide)
theorem HX.g__law_same (E : HX K mg base) : mg "_law_same" = some (.ref (He.ga K "_law_same")) := E.glo (by decide)
theorem HX.g__law_label (E : HX K mg base) : mg "_law_label" = some (.ref (He.ga K "_law_label")) := E.glo (by decide)
theorem HX.g__law_odd (E : HX K mg base) : mg "_law_odd" = some (.ref (He.ga K "_law_odd")) := E.glo (by decide)
theorem HX.g__law_is_label (E : HX K mg base) : mg "_law_is_label" = some (.ref (He.ga K "_law_is_label")) := E.glo (by decide)
theorem HX.g__law_is_name (E : HX K mg base) : mg "_law_is_name" = some (.ref (He.ga K "_law_is_name")) := E.glo (by decide)
theorem HX.g__law_any_label (E : HX K mg base) : mg "_law_any_label" = some (.ref (He.ga K "_law_any_label")) := E.glo (by decide)
theorem HX.g__law_some_labels (E : HX K mg base) : mg "_law_some_labels" = some (.ref (He.ga K "_law_some_labels")) := E.glo (by decide)
theorem HX.g__law_labels_right (E : HX K mg base) : mg "_law_labels_right" = some (.ref (He.ga K "_law_labels_right")) := E.glo (by decide)
theorem HX.g__law_shown (E : HX K mg base) : mg "_law_shown" = some (.ref (He.ga K "_law_shown")) := E.glo (by decide)
theorem HX.g__law_kept_apart (E : HX K mg base) : mg "_law_kept_apart" = some (.ref (He.ga K "_law_kept_apart")) := E.glo (by decide)
theorem HX.g__law_names_right (E : HX K mg base) : mg "_law_names_right" = some (.ref (He.ga K "_law_names_right")) := E.glo (by decide)
theorem HX.g__law_read (E : HX K mg base) : mg "_law_read" = some (.ref (He.ga K "_law_read")) := E.glo (by decide)
theorem HX.g__law_told (E : HX K mg base) : mg "_law_told" = some (.ref (He.ga K "_law_told")) := E.glo (by decide)
theorem HX.g__law_is_base (E : HX K mg base) : mg "_law_is_base" = some (.ref (He.ga K "_law_is_base")) := E.glo (by decide)
theorem HX.g__law_texts_right (E : HX K mg base) : mg "_law_texts_right" = some (.ref (He.ga K "_law_texts_right")) := E.glo (by decide)
theorem HX.g_law (E : HX K mg base) : mg "law" = some (.ref (He.ga K "law")) := E.glo (by decide)
theorem HX.f_isinstance (E : HX K mg base) : mg "isinstance" = none := E.free (by decide)
theorem HX.f_list (E : HX K mg base) : mg "list" = none := E.free (by decide)
theorem HX.f_tuple (E : HX K mg base) : mg "tuple" = none := E.free (by decide)
theorem HX.f_str (E : HX K mg base) : mg "str" = none := E.free (by decide)
theorem HX.f_len (E : HX K mg base) : mg "len" = none := E.free (by decide)
theorem HX.f_all (E : HX K mg base) : mg "all" = none := E.free (by decide)
theorem HX.f_int (E : HX K mg base) : mg "int" = none := E.free (by decide)
theorem HX.f_max (E : HX K mg base) : mg "max" = none := E.free (by decide)
theorem HX.f_abs (E : HX K mg base) : mg "abs" = none := E.free (by decide)
theorem HX.f_range (E : HX K mg base) : mg "range" = none := E.free (by decide)
theorem HX.f_bool (E : HX K mg base) : mg "bool" = none := E.free (by decide)
theorem HX.f_min (E : HX K mg base) : mg "min" = none := E.free (by decide)
theorem HX.f_ValueError (E : HX K mg base) : mg "ValueError" = none := E.free (by decide)
theorem HX.c_LONGEST (E : HX K mg base) : ∃ t, mg "LONGEST" = some (.int 20 t) := E.cint (by decide)
theorem HX.c_SIGNS (E : HX K mg base) : ∃ t, mg "SIGNS" = some (.str "-0123456789abcdefghijklmnopqrstuvwxyz" t) := E.cstr (by decide)
theorem HX.d_rebuilt (E : HX K mg base) : ∃ fd, FunD K "rebuilt" "rebuilt" (defArgs s_rebuilt) (defBody s_rebuilt) (defScope s_rebuilt) [] [] (He.ga K "rebuilt") fd := E.c.def_ 0 (d := dd_rebuilt) rfl
theorem HX.d_is_label (E : HX K mg base) : ∃ fd, FunD K "is_label" "is_label" (defArgs s_is_label) (defBody s_is_label) (defScope s_is_label) [] [] (He.ga K "is_label") fd := E.c.def_ 1 (d := dd_is_label) rfl
theorem HX.d_is_name (E : HX K mg base) : ∃ fd, FunD K "is_name" "is_name" (defArgs s_is_name) (defBody s_is_name) (defScope s_is_name) [] [] (He.ga K "is_name") fd := E.c.def_ 2 (d := dd_is_name) rfl
theorem HX.d_is_asked (E : HX K mg base) : ∃ fd, FunD K "is_asked" "is_asked" (defArgs s_is_asked) (defBody s_is_asked) (defScope s_is_asked) [] [] (He.ga K "is_asked") fd := E.c.def_ 3 (d := dd_is_asked) rfl
theorem HX.d_need_name (E : HX K mg base) : ∃ fd, FunD K "need_name" "need_name" (defArgs s_need_name) (defBody s_need_name) (defScope s_need_name) [] [] (He.ga K "need_name") fd := E.c.def_ 4 (d := dd_need_name) rfl
theorem HX.d_name_of (E : HX K mg base) : ∃ fd, FunD K "name_of" "name_of" (defArgs s_name_of) (defBody s_name_of) (defScope s_name_of) [] [] (He.ga K "name_of") fd := E.c.def_ 5 (d := dd_name_of) rfl
theorem HX.d_show_name (E : HX K mg base) : ∃ fd, FunD K "show_name" "show_name" (defArgs s_show_name) (defBody s_show_name) (defScope s_show_name) [] [] (He.ga K "show_name") fd := E.c.def_ 6 (d := dd_show_name) rfl
theorem HX.d__law_pot (E : HX K mg base) : ∃ fd, FunD K "_law_pot" "_law_pot" (defArgs s__law_pot) (defBody s__law_pot) (defScope s__law_pot) [] [] (He.ga K "_law_pot") fd := E.c.def_ 7 (d := dd__law_pot) rfl
theorem HX.d__law_take (E : HX K mg base) : ∃ fd, FunD K "_law_take" "_law_take" (defArgs s__law_take) (defBody s__law_take) (defScope s__law_take) [] [] (He.ga K "_law_take") fd := E.c.def_ 8 (d := dd__law_take) rfl
theorem HX.d__law_same (E : HX K mg base) : ∃ fd, FunD K "_law_same" "_law_same" (defArgs s__law_same) (defBody s__law_same) (defScope s__law_same) [] [] (He.ga K "_law_same") fd := E.c.def_ 9 (d := dd__law_same) rfl
theorem HX.d__law_label (E : HX K mg base) : ∃ fd, FunD K "_law_label" "_law_label" (defArgs s__law_label) (defBody s__law_label) (defScope s__law_label) [] [] (He.ga K "_law_label") fd := E.c.def_ 10 (d := dd__law_label) rfl
theorem HX.d__law_odd (E : HX K mg base) : ∃ fd, FunD K "_law_odd" "_law_odd" (defArgs s__law_odd) (defBody s__law_odd) (defScope s__law_odd) [] [] (He.ga K "_law_odd") fd := E.c.def_ 11 (d := dd__law_odd) rfl
theorem HX.d__law_is_label (E : HX K mg base) : ∃ fd, FunD K "_law_is_label" "_law_is_label" (defArgs s__law_is_label) (defBody s__law_is_label) (defScope s__law_is_label) [] [] (He.ga K "_law_is_label") fd := E.c.def_ 12 (d := dd__law_is_label) rfl
theorem HX.d__law_is_name (E : HX K mg base) : ∃ fd, FunD K "_law_is_name" "_law_is_name" (defArgs s__law_is_name) (defBody s__law_is_name) (defScope s__law_is_name) [] [] (He.ga K "_law_is_name") fd := E.c.def_ 13 (d := dd__law_is_name) rfl
theorem HX.d__law_any_label (E : HX K mg base) : ∃ fd, FunD K "_law_any_label" "_law_any_label" (defArgs s__law_any_label) (defBody s__law_any_label) (defScope s__law_any_label) [] [] (He.ga K "_law_any_label") fd := E.c.def_ 14 (d := dd__law_any_label) rfl
theorem HX.d__law_some_labels (E : HX K mg base) : ∃ fd, FunD K "_law_some_labels" "_law_some_labels" (defArgs s__law_some_labels) (defBody s__law_some_labels) (defScope s__law_some_labels) [] [] (He.ga K "_law_some_labels") fd := E.c.def_ 15 (d := dd__law_some_labels) rfl
theorem HX.d__law_labels_right (E : HX K mg base) : ∃ fd, FunD K "_law_labels_right" "_law_labels_right" (defArgs s__law_labels_right) (defBody s__law_labels_right) (defScope s__law_labels_right) [] [] (He.ga K "_law_labels_right") fd := E.c.def_ 16 (d := dd__law_labels_right) rfl
theorem HX.d__law_shown (E : HX K mg base) : ∃ fd, FunD K "_law_shown" "_law_shown" (defArgs s__law_shown) (defBody s__law_shown) (defScope s__law_shown) [] [] (He.ga K "_law_shown") fd := E.c.def_ 17 (d := dd__law_shown) rfl
theorem HX.d__law_kept_apart (E : HX K mg base) : ∃ fd, FunD K "_law_kept_apart" "_law_kept_apart" (defArgs s__law_kept_apart) (defBody s__law_kept_apart) (defScope s__law_kept_apart) [] [] (He.ga K "_law_kept_apart") fd := E.c.def_ 18 (d := dd__law_kept_apart) rfl
theorem HX.d__law_names_right (E : HX K mg base) : ∃ fd, FunD K "_law_names_right" "_law_names_right" (defArgs s__law_names_right) (defBody s__law_names_right) (defScope s__law_names_right) [] [] (He.ga K "_law_names_right") fd := E.c.def_ 19 (d := dd__law_names_right) rfl
theorem HX.d__law_read (E : HX K mg base) : ∃ fd, FunD K "_law_read" "_law_read" (defArgs s__law_read) (defBody s__law_read) (defScope s__law_read) [] [] (He.ga K "_law_read") fd := E.c.def_ 20 (d := dd__law_read) rfl
theorem HX.d__law_told (E : HX K mg base) : ∃ fd, FunD K "_law_told" "_law_told" (defArgs s__law_told) (defBody s__law_told) (defScope s__law_told) [] [] (He.ga K "_law_told") fd := E.c.def_ 21 (d := dd__law_told) rfl
theorem HX.d__law_is_base (E : HX K mg base) : ∃ fd, FunD K "_law_is_base" "_law_is_base" (defArgs s__law_is_base) (defBody s__law_is_base) (defScope s__law_is_base) [] [] (He.ga K "_law_is_base") fd := E.c.def_ 22 (d := dd__law_is_base) rfl
theorem HX.d__law_texts_right (E : HX K mg base) : ∃ fd, FunD K "_law_texts_right" "_law_texts_right" (defArgs s__law_texts_right) (defBody s__law_texts_right) (defScope s__law_texts_right) [] [] (He.ga K "_law_texts_right") fd := E.c.def_ 23 (d := dd__law_texts_right) rfl
theorem HX.d_law (E : HX K mg base) : ∃ fd, FunD K "law" "law" (defArgs s_law) (defBody s_law) (defScope s_law) [] [] (He.ga K "law") fd := E.c.def_ 24 (d := dd_law) rfl
theorem HX.I (E : HX K mg base) : InitTxt K := by
  obtain ⟨fd, F⟩ := E.c.def_ 25 (d := dd_TreeInit) rfl
  exact initTxt_of F
theorem HX.T (E : HX K mg base) : ErrTab K mg es := errTab_of E.X E.G E.I E.e
theorem HX.TI (E : HX K mg base) : IsTab K mg es := isTab_of E.X E.G E.e (He.ba E.p1.1).2
theorem sc_rebuilt : FnScope ["value", "part"] ["value"] (defScope s_rebuilt) := ⟨rfl, rfl, rfl, by decide +kernel, rfl, by decide +kernel, by decide +kernel⟩
theorem ok_rebuilt (E : HX K mg base) {sp sp_rebuilt : PSp} {kk : Nat} (hk : 0 ≤ kk) (H_rebuilt : Ok P w K mg base "rebuilt" s_rebuilt ["value"] kk sp_rebuilt)
    (pure : ∀ vs h Q Ex, vs.length = 1 → sp vs h Q Ex → t_rebuilt sp_rebuilt (body Q Ex) (pstart 2 vs) h) : Ok P w K mg base "rebuilt" s_rebuilt ["value"] (kk + 1) sp := by
  obtain ⟨fd_rebuilt, F_rebuilt, O_rebuilt⟩ := H_rebuilt
  have g_rebuilt : mg "rebuilt" = some (.ref (He.ga K "rebuilt")) := E.g_rebuilt
  have b_rebuilt : Binds K fd_rebuilt ["value"] [] := F_rebuilt.bindsN (fun _ _ _ _ _ _ us hl => match us, hl with | [_], _ => rfl)
  have l_rebuilt : kk ≤ kk := Nat.le_refl _
  obtain ⟨fd, F⟩ := E.d_rebuilt
  refine ok_mk (k := kk) F sc_rebuilt (fun cdv A outer s H Ex hr => ?_) pure
  have S := sc_rebuilt
  have tk := takes_of (X := cxOf (L2.CX P w) P w K mg base ["value", "part"] "rebuilt" (defScope s_rebuilt) (He.ga K "rebuilt") cdv A outer s H Ex) (E := Ex) rfl rfl rfl rfl
  exact (lss_cons (ls_if (lt_truth (le_isi (T := "list") (le_var 0 (pv 0)) (by decide) rfl E.f_isinstance rfl E.f_list (by decide +kernel))) (lss_one (ls_ret (le_new (ll_lc (own := ([("part", 1)] : List (Str × Nat))) rfl S.nd (li_any (le_var 0 (pv 0))) (blkOk_by (by rfl)) (by decide) (fun _ _ _ _ _ => (lg_name (pg_name (i := 1) S.nd rfl (by first | exact Or.inl rfl | exact Or.inr rfl)))) (fun _ _ _ _ _ => lts_nil) (fun _ _ _ _ _ => (le_call O_rebuilt (hr.mono l_rebuilt) rfl g_rebuilt F_rebuilt.kp b_rebuilt takes0 (la_cons (le_var 1 (pv 1)) la_nil))))))) lss_nil)
  (lss_cons (ls_if (lt_truth (le_isi (T := "tuple") (le_var 0 (pv 0)) (by decide) rfl E.f_isinstance rfl E.f_tuple (by decide +kernel))) (lss_one (ls_ret (le_callTyT (ItR.tmp it_tuple) rfl E.f_tuple (by decide +kernel) (ll_lc (own := ([("part", 1)] : List (Str × Nat))) rfl S.nd (li_any (le_var 0 (pv 0))) (blkOk_by (by rfl)) (by decide) (fun _ _ _ _ _ => (lg_name (pg_name (i := 1) S.nd rfl (by first | exact Or.inl rfl | exact Or.inr rfl)))) (fun _ _ _ _ _ => lts_nil) (fun _ _ _ _ _ => (le_call O_rebuilt (hr.mono l_rebuilt) rfl g_rebuilt F_rebuilt.kp b_rebuilt takes0 (la_cons (le_var 1 (pv 1)) la_nil))))))) lss_nil)
  (lss_one (ls_ret (le_var 0 (pv 0))))))
theorem sc_is_label : FnScope ["value", "sign"] ["value"] (defScope s_is_label) := ⟨rfl, rfl, rfl, by decide +kernel, rfl, by decide +kernel, by decide +kernel⟩
theorem ok_is_label (E : HX K mg base) {sp : PSp}
    (pure : ∀ vs h Q Ex, vs.length = 1 → sp vs h Q Ex → t_is_label (body Q Ex) (pstart 2 vs) h) : Ok P w K mg base "is_label" s_is_label ["value"] (1) sp := by
  obtain ⟨fd, F⟩ := E.d_is_label
  refine ok_mk (k := 0) F sc_is_label (fun cdv A outer s H Ex hr => ?_) pure
  have S := sc_is_label
  have tk := takes_of (X := cxOf (L2.CX P w) P w K mg base ["value", "sign"] "is_label" (defScope s_is_label) (He.ga K "is_label") cdv A outer s H Ex) (E := Ex) rfl rfl rfl rfl
  exact (lss_cons (ls_if (PW.pt (lw_or (lt_not (lt_truth (le_isi (T := "str") (le_var 0 (pv 0)) (by decide) rfl E.f_isinstance rfl E.f_str (by decide +kernel)))) (lw_or1 (lt_not (lt_chain mo_le mo_le le_int (le_callB mc_len rfl E.f_len (by decide +kernel) (la_cons (le_var 0 (pv 0)) la_nil)) (le_gint rfl E.c_LONGEST)))))) (lss_one (ls_ret le_bl)) lss_nil)
  (lss_cons (ls_if (lt_cmp (mo_eq hr.units) (le_var 0 (pv 0)) (le_str (okS_b (by decide +kernel))) (nomark _)) (lss_one (ls_ret le_bl)) lss_nil)
  (lss_one (ls_ret (le_and (le_cmp (mo_ne hr.units) (le_ix (le_var 0 (pv 0)) le_int (fun _ _ => rfl)) (le_str (okS_b (by decide +kernel))) (nomark _)) (le_and (le_cmp (mo_ne hr.units) (le_ix (le_var 0 (pv 0)) (le_un mo_neg le_int) (fun _ _ => rfl)) (le_str (okS_b (by decide +kernel))) (nomark _)) (le_one (le_callBT (ItR.tmp (it_all rfl)) rfl E.f_all (by decide +kernel) (ll_lc (own := ([("sign", 1)] : List (Str × Nat))) rfl S.nd (li_any (le_var 0 (pv 0))) (blkOk_by (by rfl)) (by decide) (fun _ _ _ _ _ => (lg_name (pg_name (i := 1) S.nd rfl (by first | exact Or.inl rfl | exact Or.inr rfl)))) (fun _ _ _ _ _ => lts_nil) (fun _ _ _ _ _ => (le_cmp (mo_in (Room.u65 hr)) (le_var 1 (pv 1)) (le_gstr rfl E.c_SIGNS (okS_b (by decide +kernel))) (by with_unfolding_all rfl))))))))))))
theorem sc_is_name : FnScope ["value", "label"] ["value"] (defScope s_is_name) := ⟨rfl, rfl, rfl, by decide +kernel, rfl, by decide +kernel, by decide +kernel⟩
theorem ok_is_name (E : HX K mg base) {sp sp_is_label : PSp} (H_is_label : Ok P w K mg base "is_label" s_is_label ["value"] 1 sp_is_label)
    (pure : ∀ vs h Q Ex, vs.length = 1 → sp vs h Q Ex → t_is_name sp_is_label (body Q Ex) (pstart 2 vs) h) : Ok P w K mg base "is_name" s_is_name ["value"] (2) sp := by
  obtain ⟨fd_is_label, F_is_label, O_is_label⟩ := H_is_label
  have g_is_label : mg "is_label" = some (.ref (He.ga K "is_label")) := E.g_is_label
  have b_is_label : Binds K fd_is_label ["value"] [] := F_is_label.bindsN (fun _ _ _ _ _ _ us hl => match us, hl with | [_], _ => rfl)
  have l_is_label : 1 ≤ 1 := by decide
  obtain ⟨fd, F⟩ := E.d_is_name
  refine ok_mk (k := 1) F sc_is_name (fun cdv A outer s H Ex hr => ?_) pure
  have S := sc_is_name
  have tk := takes_of (X := cxOf (L2.CX P w) P w K mg base ["value", "label"] "is_name" (defScope s_is_name) (He.ga K "is_name") cdv A outer s H Ex) (E := Ex) rfl rfl rfl rfl
  exact (lss_cons (ls_if (PW.pt (lw_or (lt_not (lt_truth (le_isi (T := "tuple") (le_var 0 (pv 0)) (by decide) rfl E.f_isinstance rfl E.f_tuple (by decide +kernel)))) (lw_or1 (lt_not (lt_truth (le_callBT (ItR.tmp (it_all rfl)) rfl E.f_all (by decide +kernel) (ll_lc (own := ([("label", 1)] : List (Str × Nat))) rfl S.nd (li_any (le_var 0 (pv 0))) (blkOk_by (by rfl)) (by decide) (fun _ _ _ _ _ => (lg_name (pg_name (i := 1) S.nd rfl (by first | exact Or.inl rfl | exact Or.inr rfl)))) (fun _ _ _ _ _ => lts_nil) (fun _ _ _ _ _ => (le_call O_is_label (hr.mono l_is_label) rfl g_is_label F_is_label.kp b_is_label takes0 (la_cons (le_var 1 (pv 1)) la_nil)))))))))) (lss_one (ls_ret le_bl)) lss_nil)
  (lss_one (ls_ret (le_cmp (mo_notIn (Room.u65 hr)) (le_str (okS_b (by decide +kernel))) (le_slice (le_var 0 (pv 0)) (lo_some le_int) lo_none) (by with_unfolding_all rfl)))))
theorem sc_is_asked : FnScope ["value"] ["value"] (defScope s_is_asked) := ⟨rfl, rfl, rfl, by decide +kernel, rfl, by decide +kernel, by decide +kernel⟩
theorem ok_is_asked (E : HX K mg base) {sp sp_is_name : PSp} (H_is_name : Ok P w K mg base "is_name" s_is_name ["value"] 2 sp_is_name)
    (pure : ∀ vs h Q Ex, vs.length = 1 → sp vs h Q Ex → t_is_asked sp_is_name (body Q Ex) (pstart 1 vs) h) : Ok P w K mg base "is_asked" s_is_asked ["value"] (3) sp := by
  obtain ⟨fd_is_name, F_is_name, O_is_name⟩ := H_is_name
  have g_is_name : mg "is_name" = some (.ref (He.ga K "is_name")) := E.g_is_name
  have b_is_name : Binds K fd_is_name ["value"] [] := F_is_name.bindsN (fun _ _ _ _ _ _ us hl => match us, hl with | [_], _ => rfl)
  have l_is_name : 2 ≤ 2 := by decide
  obtain ⟨fd, F⟩ := E.d_is_asked
  refine ok_mk (k := 2) F sc_is_asked (fun cdv A outer s H Ex hr => ?_) pure
  have S := sc_is_asked
  have tk := takes_of (X := cxOf (L2.CX P w) P w K mg base ["value"] "is_asked" (defScope s_is_asked) (He.ga K "is_asked") cdv A outer s H Ex) (E := Ex) rfl rfl rfl rfl
  exact (lss_one (ls_ret (le_and (le_call O_is_name (hr.mono l_is_name) rfl g_is_name F_is_name.kp b_is_name tk (la_cons (le_var 0 (pv 0)) la_nil)) (le_one (le_cmp (mo_ne hr.units) (le_slice (le_var 0 (pv 0)) lo_none (lo_some le_int)) (le_tup (la_cons (le_str (okS_b (by decide +kernel))) la_nil)) (nomark _))))))
theorem sc_need_name : FnScope ["name"] ["name"] (defScope s_need_name) := ⟨rfl, rfl, rfl, by decide +kernel, rfl, by decide +kernel, by decide +kernel⟩
theorem ok_need_name (E : HX K mg base) {sp sp_is_name sp_rebuilt : PSp} (H_is_name : Ok P w K mg base "is_name" s_is_name ["value"] 2 sp_is_name) (H_rebuilt : Ok P w K mg base "rebuilt" s_rebuilt ["value"] 17 sp_rebuilt)
    (pure : ∀ vs h Q Ex, vs.length = 1 → sp vs h Q Ex → t_need_name sp_is_name sp_rebuilt (body Q Ex) (pstart 1 vs) h) : Ok P w K mg base "need_name" s_need_name ["name"] (18) sp := by
  obtain ⟨fd_is_name, F_is_name, O_is_name⟩ := H_is_name
  have g_is_name : mg "is_name" = some (.ref (He.ga K "is_name")) := E.g_is_name
  have b_is_name : Binds K fd_is_name ["value"] [] := F_is_name.bindsN (fun _ _ _ _ _ _ us hl => match us, hl with | [_], _ => rfl)
  have l_is_name : 2 ≤ 17 := by decide
  obtain ⟨fd_rebuilt, F_rebuilt, O_rebuilt⟩ := H_rebuilt
  have g_rebuilt : mg "rebuilt" = some (.ref (He.ga K "rebuilt")) := E.g_rebuilt
  have b_rebuilt : Binds K fd_rebuilt ["value"] [] := F_rebuilt.bindsN (fun _ _ _ _ _ _ us hl => match us, hl with | [_], _ => rfl)
  have l_rebuilt : 17 ≤ 17 := by decide
  obtain ⟨fd, F⟩ := E.d_need_name
  refine ok_mk (k := 17) F sc_need_name (fun cdv A outer s H Ex hr => ?_) pure
  have S := sc_need_name
  have tk := takes_of (X := cxOf (L2.CX P w) P w K mg base ["name"] "need_name" (defScope s_need_name) (He.ga K "need_name") cdv A outer s H Ex) (E := Ex) rfl rfl rfl rfl
  exact (lss_one (ls_if (lt_not (lt_truth (le_call O_is_name (hr.mono l_is_name) rfl g_is_name F_is_name.kp b_is_name tk (la_cons (le_var 0 (pv 0)) la_nil)))) (lss_one (ls_raise rfl (low_ok E.I (List.all_eq_true.mp (He.ba E.e).1 "InvalidName" (by decide))) (err_mg E.X E.G E.e (c := "InvalidName") (by decide)) hr tk (le_call O_rebuilt (hr.mono l_rebuilt) rfl g_rebuilt F_rebuilt.kp b_rebuilt tk (la_cons (le_var 0 (pv 0)) la_nil)) rfl)) lss_nil))
theorem sc_name_of : FnScope ["text", "name"] ["text"] (defScope s_name_of) := ⟨rfl, rfl, rfl, by decide +kernel, rfl, by decide +kernel, by decide +kernel⟩
theorem ok_name_of (E : HX K mg base) {sp sp_is_name sp_rebuilt : PSp} (H_is_name : Ok P w K mg base "is_name" s_is_name ["value"] 2 sp_is_name) (H_rebuilt : Ok P w K mg base "rebuilt" s_rebuilt ["value"] 17 sp_rebuilt)
    (pure : ∀ vs h Q Ex, vs.length = 1 → sp vs h Q Ex → t_name_of sp_is_name sp_rebuilt (body Q Ex) (pstart 2 vs) h) : Ok P w K mg base "name_of" s_name_of ["text"] (18) sp := by
  obtain ⟨fd_is_name, F_is_name, O_is_name⟩ := H_is_name
  have g_is_name : mg "is_name" = some (.ref (He.ga K "is_name")) := E.g_is_name
  have b_is_name : Binds K fd_is_name ["value"] [] := F_is_name.bindsN (fun _ _ _ _ _ _ us hl => match us, hl with | [_], _ => rfl)
  have l_is_name : 2 ≤ 17 := by decide
  obtain ⟨fd_rebuilt, F_rebuilt, O_rebuilt⟩ := H_rebuilt
  have g_rebuilt : mg "rebuilt" = some (.ref (He.ga K "rebuilt")) := E.g_rebuilt
  have b_rebuilt : Binds K fd_rebuilt ["value"] [] := F_rebuilt.bindsN (fun _ _ _ _ _ _ us hl => match us, hl with | [_], _ => rfl)
  have l_rebuilt : 17 ≤ 17 := by decide
  obtain ⟨fd, F⟩ := E.d_name_of
  refine ok_mk (k := 17) F sc_name_of (fun cdv A outer s H Ex hr => ?_) pure
  have S := sc_name_of
  have tk := takes_of (X := cxOf (L2.CX P w) P w K mg base ["text", "name"] "name_of" (defScope s_name_of) (He.ga K "name_of") cdv A outer s H Ex) (E := Ex) rfl rfl rfl rfl
  exact (lss_cons (ls_if (lt_cmp (mo_eq hr.units) (le_var 0 (pv 0)) (le_str (okS_b (by decide +kernel))) (nomark _)) (lss_one (ls_ret (le_tup la_nil))) lss_nil)
  (lss_cons (ls_if (PW.pt (lw_or (lt_not (lt_truth (le_isi (T := "str") (le_var 0 (pv 0)) (by decide) rfl E.f_isinstance rfl E.f_str (by decide +kernel)))) (lw_or1 (lt_cmp (mo_ne hr.units) (le_slice (le_var 0 (pv 0)) (lo_some (le_un mo_neg le_int)) lo_none) (le_str (okS_b (by decide +kernel))) (nomark _))))) (lss_one (ls_raise rfl (low_ok E.I (List.all_eq_true.mp (He.ba E.e).1 "Unreadable" (by decide))) (err_mg E.X E.G E.e (c := "Unreadable") (by decide)) hr tk (le_call O_rebuilt (hr.mono l_rebuilt) rfl g_rebuilt F_rebuilt.kp b_rebuilt tk (la_cons (le_var 0 (pv 0)) la_nil)) rfl)) lss_nil)
  (lss_cons (ls_set (i := 1) S.nd rfl (by first | exact Or.inl rfl | exact Or.inr rfl) (le_callTy mc_tuple rfl E.f_tuple (by decide +kernel) (la_cons (le_bm (.inl rfl) PySem.F.plainAttrs_str PySem.F.slot_str_split PySem.F.type_str_split mm_split (le_slice (le_var 0 (pv 0)) lo_none (lo_some (le_un mo_neg le_int))) (la_cons (le_str (okS_b (by decide +kernel))) la_nil)) la_nil)))
  (lss_cons (ls_if (lt_not (lt_truth (le_call O_is_name (hr.mono l_is_name) rfl g_is_name F_is_name.kp b_is_name tk (la_cons (le_var 1 (pv 1)) la_nil)))) (lss_one (ls_raise rfl (low_ok E.I (List.all_eq_true.mp (He.ba E.e).1 "Unreadable" (by decide))) (err_mg E.X E.G E.e (c := "Unreadable") (by decide)) hr tk (le_var 0 (pv 0)) rfl)) lss_nil)
  (lss_one (ls_ret (le_var 1 (pv 1))))))))
theorem sc_show_name : FnScope ["name", "label"] ["name"] (defScope s_show_name) := ⟨rfl, rfl, rfl, by decide +kernel, rfl, by decide +kernel, by decide +kernel⟩
theorem ok_show_name (E : HX K mg base) {sp sp_need_name : PSp} (H_need_name : Ok P w K mg base "need_name" s_need_name ["name"] 18 sp_need_name)
    (pure : ∀ vs h Q Ex, vs.length = 1 → sp vs h Q Ex → t_show_name sp_need_name (body Q Ex) (pstart 2 vs) h) : Ok P w K mg base "show_name" s_show_name ["name"] (19) sp := by
  obtain ⟨fd_need_name, F_need_name, O_need_name⟩ := H_need_name
  have g_need_name : mg "need_name" = some (.ref (He.ga K "need_name")) := E.g_need_name
  have b_need_name : Binds K fd_need_name ["name"] [] := F_need_name.bindsN (fun _ _ _ _ _ _ us hl => match us, hl with | [_], _ => rfl)
  have l_need_name : 18 ≤ 18 := by decide
  obtain ⟨fd, F⟩ := E.d_show_name
  refine ok_mk (k := 18) F sc_show_name (fun cdv A outer s H Ex hr => ?_) pure
  have S := sc_show_name
  have tk := takes_of (X := cxOf (L2.CX P w) P w K mg base ["name", "label"] "show_name" (defScope s_show_name) (He.ga K "show_name") cdv A outer s H Ex) (E := Ex) rfl rfl rfl rfl
  exact (lss_cons (ls_expr (le_call O_need_name (hr.mono l_need_name) rfl g_need_name F_need_name.kp b_need_name tk (la_cons (le_var 0 (pv 0)) la_nil)))
  (lss_cons (ls_if (lt_cmp (mo_eq hr.units) (le_var 0 (pv 0)) (le_tup la_nil) (nomark _)) (lss_one (ls_ret (le_str (okS_b (by decide +kernel))))) lss_nil)
  (lss_one (ls_ret (le_joinT (le_str (okS_b (by decide +kernel))) (ll_lc (own := ([("label", 1)] : List (Str × Nat))) rfl S.nd (li_any (le_var 0 (pv 0))) (blkOk_by (by rfl)) (by decide) (fun _ _ _ _ _ => (lg_name (pg_name (i := 1) S.nd rfl (by first | exact Or.inl rfl | exact Or.inr rfl)))) (fun _ _ _ _ _ => lts_nil) (fun _ _ _ _ _ => (le_op mo_add (le_var 1 (pv 1)) (le_str (okS_b (by decide +kernel)))))))))))
theorem sc__law_pot : FnScope ["_law_script", "_law_k", "_law_cell", "_law_mix", "_law_other"] ["_law_script", "_law_k"] (defScope s__law_pot) := ⟨rfl, rfl, rfl, by decide +kernel, rfl, by decide +kernel, by decide +kernel⟩
theorem ok__law_pot (E : HX K mg base) {sp : PSp}
    (pure : ∀ vs h Q Ex, vs.length = 2 → sp vs h Q Ex → t__law_pot (body Q Ex) (pstart 5 vs) h) : Ok P w K mg base "_law_pot" s__law_pot ["_law_script", "_law_k"] (1) sp := by
  obtain ⟨fd, F⟩ := E.d__law_pot
  refine ok_mk (k := 0) F sc__law_pot (fun cdv A outer s H Ex hr => ?_) pure
  have S := sc__law_pot
  have tk := takes_of (X := cxOf (L2.CX P w) P w K mg base ["_law_script", "_law_k", "_law_cell", "_law_mix", "_law_other"] "_law_pot" (defScope s__law_pot) (He.ga K "_law_pot") cdv A outer s H Ex) (E := Ex) rfl rfl rfl rfl
  exact (lss_cons (ls_set (i := 2) S.nd rfl (by first | exact Or.inl rfl | exact Or.inr rfl) (le_op mo_add le_int (le_op mo_mul le_int (le_var 1 (pv 1)))))
  (lss_cons (ls_if (lt_cmp mo_lt (le_var 1 (pv 1)) (le_callB mc_len rfl E.f_len (by decide +kernel) (la_cons (le_var 0 (pv 0)) la_nil)) (nomark _)) (lss_one (ls_set (i := 2) S.nd rfl (by first | exact Or.inl rfl | exact Or.inr rfl) (le_ix (le_var 0 (pv 0)) (le_var 1 (pv 1)) (fun _ _ => rfl)))) lss_nil)
  (lss_cons (ls_set (i := 3) S.nd rfl (by first | exact Or.inl rfl | exact Or.inr rfl) le_int)
  (lss_cons (ls_for (passes_of rfl) rfl (li_any (le_var 0 (pv 0))) (lg_name (pg_name (i := 4) S.nd rfl (by first | exact Or.inl rfl | exact Or.inr rfl))) (lss_one (ls_set (i := 3) S.nd rfl (by first | exact Or.inl rfl | exact Or.inr rfl) (le_op mo_mod (le_callTy mc_int rfl E.f_int (by decide +kernel) (la_cons (le_op mo_add (le_op mo_mul (le_var 3 (pv 3)) le_int) (le_var 4 (pv 4))) la_nil)) (le_op mo_add (le_op mo_pow le_int le_int) le_int)))))
  (lss_one (ls_ret (le_new (ll_lst (la_cons (le_callB (mc_max2 rfl) rfl E.f_max (by decide +kernel) (la_cons le_int (la_cons (le_op mo_sub (le_var 2 (pv 2)) (le_op mo_pow le_int le_int)) la_nil))) (la_cons (le_op mo_mod (le_callTy mc_int rfl E.f_int (by decide +kernel) (la_cons (le_op mo_add (le_op mo_add (le_op mo_mul (le_var 3 (pv 3)) le_int) (le_callB mc_abs rfl E.f_abs (by decide +kernel) (la_cons (le_var 2 (pv 2)) la_nil))) (le_op mo_mul le_int (le_var 1 (pv 1)))) la_nil)) (le_op mo_add (le_op mo_pow le_int le_int) le_int)) (la_cons le_int la_nil)))))))))))
theorem sc__law_take : FnScope ["_law_pot_here", "_law_many", "_law_mixed", "_law_part"] ["_law_pot_here", "_law_many"] (defScope s__law_take) := ⟨rfl, rfl, rfl, by decide +kernel, rfl, by decide +kernel, by decide +kernel⟩
theorem ok__law_take (E : HX K mg base) {sp : PSp}
    (pure : ∀ vs h Q Ex, vs.length = 2 → sp vs h Q Ex → t__law_take (body Q Ex) (pstart 4 vs) h) : Ok P w K mg base "_law_take" s__law_take ["_law_pot_here", "_law_many"] (1) sp := by
  obtain ⟨fd, F⟩ := E.d__law_take
  refine ok_mk (k := 0) F sc__law_take (fun cdv A outer s H Ex hr => ?_) pure
  have S := sc__law_take
  have tk := takes_of (X := cxOf (L2.CX P w) P w K mg base ["_law_pot_here", "_law_many", "_law_mixed", "_law_part"] "_law_take" (defScope s__law_take) (He.ga K "_law_take") cdv A outer s H Ex) (E := Ex) rfl rfl rfl rfl
  exact (lss_cons (ls_if (lt_cmp mo_gt (le_ix (le_var 0 (pv 0)) le_int (fun _ _ => rfl)) le_int (nomark _)) (lss_cons (ls_set (i := 3) S.nd rfl (by first | exact Or.inl rfl | exact Or.inr rfl) (le_op mo_mod (le_callTy mc_int rfl E.f_int (by decide +kernel) (la_cons (le_ix (le_var 0 (pv 0)) le_int (fun _ _ => rfl)) la_nil)) (le_var 1 (pv 1))))
  (lss_cons (ls_setS (le_op mo_fdiv (le_ix (le_var 0 (pv 0)) le_int (fun _ _ => rfl)) (le_var 1 (pv 1))) (le_var 0 (pv 0)) le_int)
  (lss_one (ls_ret (le_var 3 (pv 3)))))) lss_nil)
  (lss_cons (ls_setS (le_op mo_add (le_ix (le_var 0 (pv 0)) le_int (fun _ _ => rfl)) le_int) (le_var 0 (pv 0)) le_int)
  (lss_cons (ls_set (i := 2) S.nd rfl (by first | exact Or.inl rfl | exact Or.inr rfl) (le_op mo_mod (le_callTy mc_int rfl E.f_int (by decide +kernel) (la_cons (le_op mo_add (le_op mo_pow (le_op mo_add (le_ix (le_var 0 (pv 0)) le_int (fun _ _ => rfl)) (le_op mo_mul le_int (le_ix (le_var 0 (pv 0)) le_int (fun _ _ => rfl)))) le_int) (le_op mo_mul le_int (le_ix (le_var 0 (pv 0)) le_int (fun _ _ => rfl)))) la_nil)) (le_op mo_add (le_op mo_pow le_int le_int) le_int)))
  (lss_one (ls_ret (le_op mo_mod (le_callTy mc_int rfl E.f_int (by decide +kernel) (la_cons (le_op mo_fdiv (le_var 2 (pv 2)) le_int) la_nil)) (le_var 1 (pv 1))))))))
theorem sc__law_same : FnScope ["_law_told_here", "_law_due", "_law_k"] ["_law_told_here", "_law_due"] (defScope s__law_same) := ⟨rfl, rfl, rfl, by decide +kernel, rfl, by decide +kernel, by decide +kernel⟩
theorem ok__law_same (E : HX K mg base) {sp sp__law_same : PSp} {kk : Nat} (hk : 0 ≤ kk) (H__law_same : Ok P w K mg base "_law_same" s__law_same ["_law_told_here", "_law_due"] kk sp__law_same)
    (pure : ∀ vs h Q Ex, vs.length = 2 → sp vs h Q Ex → t__law_same sp__law_same (body Q Ex) (pstart 3 vs) h) : Ok P w K mg base "_law_same" s__law_same ["_law_told_here", "_law_due"] (kk + 1) sp := by
  obtain ⟨fd__law_same, F__law_same, O__law_same⟩ := H__law_same
  have g__law_same : mg "_law_same" = some (.ref (He.ga K "_law_same")) := E.g__law_same
  have b__law_same : Binds K fd__law_same ["_law_told_here", "_law_due"] [] := F__law_same.bindsN (fun _ _ _ _ _ _ us hl => match us, hl with | [_, _], _ => rfl)
  have l__law_same : kk ≤ kk := Nat.le_refl _
  obtain ⟨fd, F⟩ := E.d__law_same
  refine ok_mk (k := kk) F sc__law_same (fun cdv A outer s H Ex hr => ?_) pure
  have S := sc__law_same
  have tk := takes_of (X := cxOf (L2.CX P w) P w K mg base ["_law_told_here", "_law_due", "_law_k"] "_law_same" (defScope s__law_same) (He.ga K "_law_same") cdv A outer s H Ex) (E := Ex) rfl rfl rfl rfl
  exact (lss_cons (ls_if (lt_truth (le_isi2 (T := "tuple") (U := "list") (le_var 1 (pv 1)) (by decide) (by decide) rfl E.f_isinstance rfl E.f_tuple (by decide +kernel) rfl E.f_list (by decide +kernel))) (lss_cons (ls_if (PW.pt (lw_or (lt_cmp (mo_ne hr.units) (le_isi (T := "tuple") (le_var 1 (pv 1)) (by decide) rfl E.f_isinstance rfl E.f_tuple (by decide +kernel)) (le_isi (T := "tuple") (le_var 0 (pv 0)) (by decide) rfl E.f_isinstance rfl E.f_tuple (by decide +kernel)) (nomark _)) (lw_or1 (lt_cmp (mo_ne hr.units) (le_isi (T := "list") (le_var 1 (pv 1)) (by decide) rfl E.f_isinstance rfl E.f_list (by decide +kernel)) (le_isi (T := "list") (le_var 0 (pv 0)) (by decide) rfl E.f_isinstance rfl E.f_list (by decide +kernel)) (nomark _))))) (lss_one (ls_ret le_bl)) lss_nil)
  (lss_one (ls_ret (le_and (le_cmp (mo_eq hr.units) (le_callB mc_len rfl E.f_len (by decide +kernel) (la_cons (le_var 0 (pv 0)) la_nil)) (le_callB mc_len rfl E.f_len (by decide +kernel) (la_cons (le_var 1 (pv 1)) la_nil)) (nomark _)) (le_one (le_callBT (ItR.tmp (it_all rfl)) rfl E.f_all (by decide +kernel) (ll_lc (own := ([("_law_k", 2)] : List (Str × Nat))) rfl S.nd (li_rng1 rfl E.f_range (le_callB mc_len rfl E.f_len (by decide +kernel) (la_cons (le_var 1 (pv 1)) la_nil))) (blkOk_by (by rfl)) (by decide) (fun _ _ _ _ _ => (lg_name (pg_name (i := 2) S.nd rfl (by first | exact Or.inl rfl | exact Or.inr rfl)))) (fun _ _ _ _ _ => lts_nil) (fun _ _ _ _ _ => (le_call O__law_same (hr.mono l__law_same) rfl g__law_same F__law_same.kp b__law_same takes0 (la_cons (le_ix (le_var 0 (pv 0)) (le_var 2 (pv 2)) (fun _ _ => rfl)) (la_cons (le_ix (le_var 1 (pv 1)) (le_var 2 (pv 2)) (fun _ _ => rfl)) la_nil))))))))))) lss_nil)
  (lss_cons (ls_if (lt_isN (le_var 1 (pv 1))) (lss_one (ls_ret (le_isN (le_var 0 (pv 0))))) lss_nil)
  (lss_cons (ls_if (lt_truth (le_isi (T := "bool") (le_var 1 (pv 1)) (by decide) rfl E.f_isinstance rfl E.f_bool (by decide +kernel))) (lss_one (ls_ret (le_and (le_isi (T := "bool") (le_var 0 (pv 0)) (by decide) rfl E.f_isinstance rfl E.f_bool (by decide +kernel)) (le_one (le_cmp (mo_eq hr.units) (le_var 0 (pv 0)) (le_var 1 (pv 1)) (nomark _)))))) lss_nil)
  (lss_cons (ls_if (lt_truth (le_isi (T := "int") (le_var 1 (pv 1)) (by decide) rfl E.f_isinstance rfl E.f_int (by decide +kernel))) (lss_one (ls_ret (le_and (le_isi (T := "int") (le_var 0 (pv 0)) (by decide) rfl E.f_isinstance rfl E.f_int (by decide +kernel)) (le_and (le_not (le_isi (T := "bool") (le_var 0 (pv 0)) (by decide) rfl E.f_isinstance rfl E.f_bool (by decide +kernel))) (le_one (le_cmp (mo_eq hr.units) (le_var 0 (pv 0)) (le_var 1 (pv 1)) (nomark _))))))) lss_nil)
  (lss_one (ls_ret (le_and (le_isi (T := "str") (le_var 1 (pv 1)) (by decide) rfl E.f_isinstance rfl E.f_str (by decide +kernel)) (le_and (le_isi (T := "str") (le_var 0 (pv 0)) (by decide) rfl E.f_isinstance rfl E.f_str (by decide +kernel)) (le_one (le_cmp (mo_eq hr.units) (le_var 0 (pv 0)) (le_var 1 (pv 1)) (nomark _)))))))))))
theorem sc__law_label : FnScope ["_law_pot_here", "_law_ends", "_law_length", "_law_signs", "_law_k"] ["_law_pot_here"] (defScope s__law_label) := ⟨rfl, rfl, rfl, by decide +kernel, rfl, by decide +kernel, by decide +kernel⟩
theorem ok__law_label (E : HX K mg base) {sp sp__law_take : PSp} (H__law_take : Ok P w K mg base "_law_take" s__law_take ["_law_pot_here", "_law_many"] 1 sp__law_take)
    (pure : ∀ vs h Q Ex, vs.length = 1 → sp vs h Q Ex → t__law_label sp__law_take (body Q Ex) (pstart 5 vs) h) : Ok P w K mg base "_law_label" s__law_label ["_law_pot_here"] (2) sp := by
  obtain ⟨fd__law_take, F__law_take, O__law_take⟩ := H__law_take
  have g__law_take : mg "_law_take" = some (.ref (He.ga K "_law_take")) := E.g__law_take
  have b__law_take : Binds K fd__law_take ["_law_pot_here", "_law_many"] [] := F__law_take.bindsN (fun _ _ _ _ _ _ us hl => match us, hl with | [_, _], _ => rfl)
  have l__law_take : 1 ≤ 1 := by decide
  obtain ⟨fd, F⟩ := E.d__law_label
  refine ok_mk (k := 1) F sc__law_label (fun cdv A outer s H Ex hr => ?_) pure
  have S := sc__law_label
  have tk := takes_of (X := cxOf (L2.CX P w) P w K mg base ["_law_pot_here", "_law_ends", "_law_length", "_law_signs", "_law_k"] "_law_label" (defScope s__law_label) (He.ga K "_law_label") cdv A outer s H Ex) (E := Ex) rfl rfl rfl rfl
  exact (lss_cons (ls_set (i := 1) S.nd rfl (by first | exact Or.inl rfl | exact Or.inr rfl) (le_str (okS_b (by decide +kernel))))
  (lss_cons (ls_set (i := 2) S.nd rfl (by first | exact Or.inl rfl | exact Or.inr rfl) (le_ixT (ll_lst (la_cons le_int (la_cons le_int (la_cons le_int (la_cons (le_op mo_add le_int (le_call O__law_take (hr.mono l__law_take) rfl g__law_take F__law_take.kp b__law_take tk (la_cons (le_var 0 (pv 0)) (la_cons le_int la_nil)))) (la_cons le_int la_nil)))))) (le_call O__law_take (hr.mono l__law_take) rfl g__law_take F__law_take.kp b__law_take tk (la_cons (le_var 0 (pv 0)) (la_cons le_int la_nil))) (fun _ _ => rfl)))
  (lss_cons (ls_setLc (i := 3) (own := ([("_law_k", 4)] : List (Str × Nat))) rfl S.nd rfl rfl (sw_true rfl rfl rfl (by decide +kernel)) (li_rng1 rfl E.f_range (le_var 2 (pv 2))) (blkOk_by (by rfl)) (by decide) (fun _ _ _ _ _ => (lg_name (pg_name (i := 4) S.nd rfl (by first | exact Or.inl rfl | exact Or.inr rfl)))) (fun _ _ _ _ _ => lts_nil) (fun _ _ _ _ _ => (le_ix (le_op mo_add (le_str (okS_b (by decide +kernel))) (le_var 1 (pv 1))) (le_call O__law_take (hr.mono l__law_take) rfl g__law_take F__law_take.kp b__law_take takes0 (la_cons (le_var 0 (pv 0)) (la_cons le_int la_nil))) (fun _ _ => rfl))))
  (lss_cons (ls_setS (le_ix (le_var 1 (pv 1)) (le_call O__law_take (hr.mono l__law_take) rfl g__law_take F__law_take.kp b__law_take tk (la_cons (le_var 0 (pv 0)) (la_cons le_int la_nil))) (fun _ _ => rfl)) (le_var 3 (pv 3)) le_int)
  (lss_cons (ls_setS (le_ix (le_var 1 (pv 1)) (le_call O__law_take (hr.mono l__law_take) rfl g__law_take F__law_take.kp b__law_take tk (la_cons (le_var 0 (pv 0)) (la_cons le_int la_nil))) (fun _ _ => rfl)) (le_var 3 (pv 3)) (le_un mo_neg le_int))
  (lss_one (ls_ret (le_bm (.inl rfl) PySem.F.plainAttrs_str PySem.F.slot_str_join PySem.F.type_str_join mm_join (le_str (okS_b (by decide +kernel))) (la_cons (le_var 3 (pv 3)) la_nil)))))))))
theorem sc__law_odd : FnScope ["_law_pot_here", "_law_some"] ["_law_pot_here"] (defScope s__law_odd) := ⟨rfl, rfl, rfl, by decide +kernel, rfl, by decide +kernel, by decide +kernel⟩
theorem ok__law_odd (E : HX K mg base) {sp sp__law_take : PSp} (H__law_take : Ok P w K mg base "_law_take" s__law_take ["_law_pot_here", "_law_many"] 1 sp__law_take)
    (pure : ∀ vs h Q Ex, vs.length = 1 → sp vs h Q Ex → t__law_odd sp__law_take (body Q Ex) (pstart 2 vs) h) : Ok P w K mg base "_law_odd" s__law_odd ["_law_pot_here"] (2) sp := by
  obtain ⟨fd__law_take, F__law_take, O__law_take⟩ := H__law_take
  have g__law_take : mg "_law_take" = some (.ref (He.ga K "_law_take")) := E.g__law_take
  have b__law_take : Binds K fd__law_take ["_law_pot_here", "_law_many"] [] := F__law_take.bindsN (fun _ _ _ _ _ _ us hl => match us, hl with | [_, _], _ => rfl)
  have l__law_take : 1 ≤ 1 := by decide
  obtain ⟨fd, F⟩ := E.d__law_odd
  refine ok_mk (k := 1) F sc__law_odd (fun cdv A outer s H Ex hr => ?_) pure
  have S := sc__law_odd
  have tk := takes_of (X := cxOf (L2.CX P w) P w K mg base ["_law_pot_here", "_law_some"] "_law_odd" (defScope s__law_odd) (He.ga K "_law_odd") cdv A outer s H Ex) (E := Ex) rfl rfl rfl rfl
  exact (lss_cons (ls_set (i := 1) S.nd rfl (by first | exact Or.inl rfl | exact Or.inr rfl) (le_new (ll_lst (la_cons le_non (la_cons le_bl (la_cons le_int (la_cons (le_un mo_neg le_int) (la_cons (le_str (okS_b (by decide +kernel))) (la_cons (le_str (okS_b (by decide +kernel))) (la_cons (le_new (ll_lst (la_cons (le_str (okS_b (by decide +kernel))) la_nil))) (la_cons (le_new (ll_lst la_nil)) (la_cons (le_tup (la_cons (le_str (okS_b (by decide +kernel))) (la_cons le_int la_nil))) (la_cons (le_tup (la_cons (le_str (okS_b (by decide +kernel))) (la_cons (le_str (okS_b (by decide +kernel))) la_nil))) (la_cons (le_tup (la_cons (le_tup (la_cons (le_str (okS_b (by decide +kernel))) la_nil)) la_nil)) (la_cons (le_tup (la_cons (le_str (okS_b (by decide +kernel))) la_nil)) (la_cons (le_tup (la_cons (le_str (okS_b (by decide +kernel))) (la_cons (le_str (okS_b (by decide +kernel))) la_nil))) (la_cons (le_str (okS_b (by decide +kernel))) la_nil)))))))))))))))))
  (lss_cons (ls_set (i := 1) S.nd rfl (by first | exact Or.inl rfl | exact Or.inr rfl) (le_op mo_add (le_var 1 (pv 1)) (le_new (ll_lst (la_cons (le_tup (la_cons (le_str (okS_b (by decide +kernel))) la_nil)) (la_cons (le_tup (la_cons (le_str (okS_b (by decide +kernel))) la_nil)) (la_cons (le_tup (la_cons (le_str (okS_b (by decide +kernel))) la_nil)) (la_cons (le_tup (la_cons (le_str (okS_b (by decide +kernel))) la_nil)) (la_cons (le_tup (la_cons (le_str (okS_b (by decide +kernel))) (la_cons le_non la_nil))) (la_cons (le_new (ll_lst (la_cons (le_tup (la_cons (le_str (okS_b (by decide +kernel))) la_nil)) la_nil))) (la_cons (le_tup (la_cons (le_op mo_mul (le_str (okS_b (by decide +kernel))) le_int) la_nil)) (la_cons (le_tup (la_cons (le_str (okS_b (by decide +kernel))) (la_cons (le_str (okS_b (by decide +kernel))) (la_cons (le_str (okS_b (by decide +kernel))) la_nil)))) (la_cons (le_tup (la_cons (le_str (okS_b (by decide +kernel))) la_nil)) la_nil)))))))))))))
  (lss_one (ls_ret (le_ix (le_var 1 (pv 1)) (le_call O__law_take (hr.mono l__law_take) rfl g__law_take F__law_take.kp b__law_take tk (la_cons (le_var 0 (pv 0)) (la_cons (le_callB mc_len rfl E.f_len (by decide +kernel) (la_cons (le_var 1 (pv 1)) la_nil)) la_nil))) (fun _ _ => rfl))))))
theorem sc__law_is_label : FnScope ["_law_value", "_law_good", "_law_sign"] ["_law_value"] (defScope s__law_is_label) := ⟨rfl, rfl, rfl, by decide +kernel, rfl, by decide +kernel, by decide +kernel⟩
theorem ok__law_is_label (E : HX K mg base) {sp : PSp}
    (pure : ∀ vs h Q Ex, vs.length = 1 → sp vs h Q Ex → t__law_is_label (body Q Ex) (pstart 3 vs) h) : Ok P w K mg base "_law_is_label" s__law_is_label ["_law_value"] (1) sp := by
  obtain ⟨fd, F⟩ := E.d__law_is_label
  refine ok_mk (k := 0) F sc__law_is_label (fun cdv A outer s H Ex hr => ?_) pure
  have S := sc__law_is_label
  have tk := takes_of (X := cxOf (L2.CX P w) P w K mg base ["_law_value", "_law_good", "_law_sign"] "_law_is_label" (defScope s__law_is_label) (He.ga K "_law_is_label") cdv A outer s H Ex) (E := Ex) rfl rfl rfl rfl
  exact (lss_cons (ls_if (PW.pt (lw_or (lt_not (lt_truth (le_isi (T := "str") (le_var 0 (pv 0)) (by decide) rfl E.f_isinstance rfl E.f_str (by decide +kernel)))) (lw_or (lt_cmp mo_lt (le_callB mc_len rfl E.f_len (by decide +kernel) (la_cons (le_var 0 (pv 0)) la_nil)) le_int (nomark _)) (lw_or1 (lt_cmp mo_gt (le_callB mc_len rfl E.f_len (by decide +kernel) (la_cons (le_var 0 (pv 0)) la_nil)) le_int (nomark _)))))) (lss_one (ls_ret le_bl)) lss_nil)
  (lss_cons (ls_if (lt_cmp (mo_eq hr.units) (le_var 0 (pv 0)) (le_str (okS_b (by decide +kernel))) (nomark _)) (lss_one (ls_ret le_bl)) lss_nil)
  (lss_cons (ls_set (i := 1) S.nd rfl (by first | exact Or.inl rfl | exact Or.inr rfl) (le_str (okS_b (by decide +kernel))))
  (lss_one (ls_ret (le_and (le_callBT (ItR.tmp (it_all rfl)) rfl E.f_all (by decide +kernel) (ll_lc (own := ([("_law_sign", 2)] : List (Str × Nat))) rfl S.nd (li_any (le_var 0 (pv 0))) (blkOk_by (by rfl)) (by decide) (fun _ _ _ _ _ => (lg_name (pg_name (i := 2) S.nd rfl (by first | exact Or.inl rfl | exact Or.inr rfl)))) (fun _ _ _ _ _ => lts_nil) (fun _ _ _ _ _ => (le_cmp (mo_in (Room.u65 hr)) (le_var 2 (pv 2)) (le_var 1 (pv 1)) (by with_unfolding_all rfl))))) (le_and (le_cmp (mo_ne hr.units) (le_ix (le_var 0 (pv 0)) le_int (fun _ _ => rfl)) (le_str (okS_b (by decide +kernel))) (nomark _)) (le_one (le_cmp (mo_ne hr.units) (le_ix (le_var 0 (pv 0)) (le_op mo_sub (le_callB mc_len rfl E.f_len (by decide +kernel) (la_cons (le_var 0 (pv 0)) la_nil)) le_int) (fun _ _ => rfl)) (le_str (okS_b (by decide +kernel))) (nomark _))))))))))
theorem sc__law_is_name : FnScope ["_law_value", "_law_k", "_law_label_here"] ["_law_value"] (defScope s__law_is_name) := ⟨rfl, rfl, rfl, by decide +kernel, rfl, by decide +kernel, by decide +kernel⟩
theorem ok__law_is_name (E : HX K mg base) {sp sp__law_is_label : PSp} (H__law_is_label : Ok P w K mg base "_law_is_label" s__law_is_label ["_law_value"] 1 sp__law_is_label)
    (pure : ∀ vs h Q Ex, vs.length = 1 → sp vs h Q Ex → t__law_is_name sp__law_is_label (body Q Ex) (pstart 3 vs) h) : Ok P w K mg base "_law_is_name" s__law_is_name ["_law_value"] (2) sp := by
  obtain ⟨fd__law_is_label, F__law_is_label, O__law_is_label⟩ := H__law_is_label
  have g__law_is_label : mg "_law_is_label" = some (.ref (He.ga K "_law_is_label")) := E.g__law_is_label
  have b__law_is_label : Binds K fd__law_is_label ["_law_value"] [] := F__law_is_label.bindsN (fun _ _ _ _ _ _ us hl => match us, hl with | [_], _ => rfl)
  have l__law_is_label : 1 ≤ 1 := by decide
  obtain ⟨fd, F⟩ := E.d__law_is_name
  refine ok_mk (k := 1) F sc__law_is_name (fun cdv A outer s H Ex hr => ?_) pure
  have S := sc__law_is_name
  have tk := takes_of (X := cxOf (L2.CX P w) P w K mg base ["_law_value", "_law_k", "_law_label_here"] "_law_is_name" (defScope s__law_is_name) (He.ga K "_law_is_name") cdv A outer s H Ex) (E := Ex) rfl rfl rfl rfl
  exact (lss_cons (ls_if (PW.pt (lw_or (lt_not (lt_truth (le_isi (T := "tuple") (le_var 0 (pv 0)) (by decide) rfl E.f_isinstance rfl E.f_tuple (by decide +kernel)))) (lw_or1 (lt_not (lt_truth (le_callBT (ItR.tmp (it_all rfl)) rfl E.f_all (by decide +kernel) (ll_lc (own := ([("_law_label_here", 2)] : List (Str × Nat))) rfl S.nd (li_any (le_var 0 (pv 0))) (blkOk_by (by rfl)) (by decide) (fun _ _ _ _ _ => (lg_name (pg_name (i := 2) S.nd rfl (by first | exact Or.inl rfl | exact Or.inr rfl)))) (fun _ _ _ _ _ => lts_nil) (fun _ _ _ _ _ => (le_call O__law_is_label (hr.mono l__law_is_label) rfl g__law_is_label F__law_is_label.kp b__law_is_label takes0 (la_cons (le_var 2 (pv 2)) la_nil)))))))))) (lss_one (ls_ret le_bl)) lss_nil)
  (lss_one (ls_ret (le_callBT (ItR.tmp (it_all rfl)) rfl E.f_all (by decide +kernel) (ll_lc (own := ([("_law_k", 1)] : List (Str × Nat))) rfl S.nd (li_rng2 rfl E.f_range le_int (le_callB mc_len rfl E.f_len (by decide +kernel) (la_cons (le_var 0 (pv 0)) la_nil))) (blkOk_by (by rfl)) (by decide) (fun _ _ _ _ _ => (lg_name (pg_name (i := 1) S.nd rfl (by first | exact Or.inl rfl | exact Or.inr rfl)))) (fun _ _ _ _ _ => lts_nil) (fun _ _ _ _ _ => (le_cmp (mo_ne hr.units) (le_ix (le_var 0 (pv 0)) (le_var 1 (pv 1)) (fun _ _ => rfl)) (le_str (okS_b (by decide +kernel))) (nomark _))))))))
theorem sc__law_any_label : FnScope ["_law_pot_here", "_law_way", "_law_text", "_law_wide", "_law_at", "_law_k"] ["_law_pot_here"] (defScope s__law_any_label) := ⟨rfl, rfl, rfl, by decide +kernel, rfl, by decide +kernel, by decide +kernel⟩
theorem ok__law_any_label (E : HX K mg base) {sp sp__law_take sp__law_label : PSp} (H__law_take : Ok P w K mg base "_law_take" s__law_take ["_law_pot_here", "_law_many"] 1 sp__law_take) (H__law_label : Ok P w K mg base "_law_label" s__law_label ["_law_pot_here"] 2 sp__law_label)
    (pure : ∀ vs h Q Ex, vs.length = 1 → sp vs h Q Ex → t__law_any_label sp__law_take sp__law_label (body Q Ex) (pstart 6 vs) h) : Ok P w K mg base "_law_any_label" s__law_any_label ["_law_pot_here"] (3) sp := by
  obtain ⟨fd__law_take, F__law_take, O__law_take⟩ := H__law_take
  have g__law_take : mg "_law_take" = some (.ref (He.ga K "_law_take")) := E.g__law_take
  have b__law_take : Binds K fd__law_take ["_law_pot_here", "_law_many"] [] := F__law_take.bindsN (fun _ _ _ _ _ _ us hl => match us, hl with | [_, _], _ => rfl)
  have l__law_take : 1 ≤ 2 := by decide
  obtain ⟨fd__law_label, F__law_label, O__law_label⟩ := H__law_label
  have g__law_label : mg "_law_label" = some (.ref (He.ga K "_law_label")) := E.g__law_label
  have b__law_label : Binds K fd__law_label ["_law_pot_here"] [] := F__law_label.bindsN (fun _ _ _ _ _ _ us hl => match us, hl with | [_], _ => rfl)
  have l__law_label : 2 ≤ 2 := by decide
  obtain ⟨fd, F⟩ := E.d__law_any_label
  refine ok_mk (k := 2) F sc__law_any_label (fun cdv A outer s H Ex hr => ?_) pure
  have S := sc__law_any_label
  have tk := takes_of (X := cxOf (L2.CX P w) P w K mg base ["_law_pot_here", "_law_way", "_law_text", "_law_wide", "_law_at", "_law_k"] "_law_any_label" (defScope s__law_any_label) (He.ga K "_law_any_label") cdv A outer s H Ex) (E := Ex) rfl rfl rfl rfl
  exact (lss_cons (ls_set (i := 1) S.nd rfl (by first | exact Or.inl rfl | exact Or.inr rfl) (le_call O__law_take (hr.mono l__law_take) rfl g__law_take F__law_take.kp b__law_take tk (la_cons (le_var 0 (pv 0)) (la_cons le_int la_nil))))
  (lss_cons (ls_set (i := 2) S.nd rfl (by first | exact Or.inl rfl | exact Or.inr rfl) (le_call O__law_label (hr.mono l__law_label) rfl g__law_label F__law_label.kp b__law_label tk (la_cons (le_var 0 (pv 0)) la_nil)))
  (lss_cons (ls_if (lt_cmp (mo_eq hr.units) (le_var 1 (pv 1)) le_int (nomark _)) (lss_one (ls_ret (le_str (okS_b (by decide +kernel))))) lss_nil)
  (lss_cons (ls_if (lt_cmp (mo_eq hr.units) (le_var 1 (pv 1)) le_int (nomark _)) (lss_cons (ls_set (i := 3) S.nd rfl (by first | exact Or.inl rfl | exact Or.inr rfl) (le_str (okS_b (by decide +kernel))))
  (lss_one (ls_ret (le_joinT (le_str (okS_b (by decide +kernel))) (ll_lc (own := ([("_law_k", 5)] : List (Str × Nat))) rfl S.nd (li_rng1 rfl E.f_range (le_call O__law_take (hr.mono l__law_take) rfl g__law_take F__law_take.kp b__law_take tk (la_cons (le_var 0 (pv 0)) (la_cons le_int la_nil)))) (blkOk_by (by rfl)) (by decide) (fun _ _ _ _ _ => (lg_name (pg_name (i := 5) S.nd rfl (by first | exact Or.inl rfl | exact Or.inr rfl)))) (fun _ _ _ _ _ => lts_nil) (fun _ _ _ _ _ => (le_ix (le_var 3 (pv 3)) (le_call O__law_take (hr.mono l__law_take) rfl g__law_take F__law_take.kp b__law_take takes0 (la_cons (le_var 0 (pv 0)) (la_cons le_int la_nil))) (fun _ _ => rfl)))))))) lss_nil)
  (lss_cons (ls_if (lt_cmp (mo_eq hr.units) (le_var 1 (pv 1)) le_int (nomark _)) (lss_cons (ls_set (i := 4) S.nd rfl (by first | exact Or.inl rfl | exact Or.inr rfl) (le_call O__law_take (hr.mono l__law_take) rfl g__law_take F__law_take.kp b__law_take tk (la_cons (le_var 0 (pv 0)) (la_cons (le_op mo_add (le_callB mc_len rfl E.f_len (by decide +kernel) (la_cons (le_var 2 (pv 2)) la_nil)) le_int) la_nil))))
  (lss_one (ls_ret (le_op mo_add (le_op mo_add (le_slice (le_var 2 (pv 2)) lo_none (lo_some (le_var 4 (pv 4)))) (le_ix (le_str (okS_b (by decide +kernel))) (le_call O__law_take (hr.mono l__law_take) rfl g__law_take F__law_take.kp b__law_take tk (la_cons (le_var 0 (pv 0)) (la_cons le_int la_nil))) (fun _ _ => rfl))) (le_slice (le_var 2 (pv 2)) (lo_some (le_op mo_add (le_var 4 (pv 4)) (le_call O__law_take (hr.mono l__law_take) rfl g__law_take F__law_take.kp b__law_take tk (la_cons (le_var 0 (pv 0)) (la_cons le_int la_nil))))) lo_none))))) lss_nil)
  (lss_one (ls_ret (le_var 2 (pv 2)))))))))
theorem sc__law_some_labels : FnScope ["_law_pot_here", "_law_many", "_law_k"] ["_law_pot_here"] (defScope s__law_some_labels) := ⟨rfl, rfl, rfl, by decide +kernel, rfl, by decide +kernel, by decide +kernel⟩
theorem ok__law_some_labels (E : HX K mg base) {sp sp__law_take sp__law_any_label sp__law_label : PSp} (H__law_take : Ok P w K mg base "_law_take" s__law_take ["_law_pot_here", "_law_many"] 1 sp__law_take) (H__law_any_label : Ok P w K mg base "_law_any_label" s__law_any_label ["_law_pot_here"] 3 sp__law_any_label) (H__law_label : Ok P w K mg base "_law_label" s__law_label ["_law_pot_here"] 2 sp__law_label)
    (pure : ∀ vs h Q Ex, vs.length = 1 → sp vs h Q Ex → t__law_some_labels sp__law_take sp__law_any_label sp__law_label (body Q Ex) (pstart 3 vs) h) : Ok P w K mg base "_law_some_labels" s__law_some_labels ["_law_pot_here"] (4) sp := by
  obtain ⟨fd__law_take, F__law_take, O__law_take⟩ := H__law_take
  have g__law_take : mg "_law_take" = some (.ref (He.ga K "_law_take")) := E.g__law_take
  have b__law_take : Binds K fd__law_take ["_law_pot_here", "_law_many"] [] := F__law_take.bindsN (fun _ _ _ _ _ _ us hl => match us, hl with | [_, _], _ => rfl)
  have l__law_take : 1 ≤ 3 := by decide
  obtain ⟨fd__law_any_label, F__law_any_label, O__law_any_label⟩ := H__law_any_label
  have g__law_any_label : mg "_law_any_label" = some (.ref (He.ga K "_law_any_label")) := E.g__law_any_label
  have b__law_any_label : Binds K fd__law_any_label ["_law_pot_here"] [] := F__law_any_label.bindsN (fun _ _ _ _ _ _ us hl => match us, hl with | [_], _ => rfl)
  have l__law_any_label : 3 ≤ 3 := by decide
  obtain ⟨fd__law_label, F__law_label, O__law_label⟩ := H__law_label
  have g__law_label : mg "_law_label" = some (.ref (He.ga K "_law_label")) := E.g__law_label
  have b__law_label : Binds K fd__law_label ["_law_pot_here"] [] := F__law_label.bindsN (fun _ _ _ _ _ _ us hl => match us, hl with | [_], _ => rfl)
  have l__law_label : 2 ≤ 3 := by decide
  obtain ⟨fd, F⟩ := E.d__law_some_labels
  refine ok_mk (k := 3) F sc__law_some_labels (fun cdv A outer s H Ex hr => ?_) pure
  have S := sc__law_some_labels
  have tk := takes_of (X := cxOf (L2.CX P w) P w K mg base ["_law_pot_here", "_law_many", "_law_k"] "_law_some_labels" (defScope s__law_some_labels) (He.ga K "_law_some_labels") cdv A outer s H Ex) (E := Ex) rfl rfl rfl rfl
  exact (lss_cons (ls_set (i := 1) S.nd rfl (by first | exact Or.inl rfl | exact Or.inr rfl) (le_ixT (ll_lst (la_cons (le_call O__law_take (hr.mono l__law_take) rfl g__law_take F__law_take.kp b__law_take tk (la_cons (le_var 0 (pv 0)) (la_cons le_int la_nil))) (la_cons le_int la_nil))) (le_callTy mc_int rfl E.f_int (by decide +kernel) (la_cons (le_cmp (mo_eq hr.units) (le_call O__law_take (hr.mono l__law_take) rfl g__law_take F__law_take.kp b__law_take tk (la_cons (le_var 0 (pv 0)) (la_cons le_int la_nil))) le_int (nomark _)) la_nil)) (fun _ _ => rfl)))
  (lss_cons (ls_if (lt_cmp (mo_eq hr.units) (le_call O__law_take (hr.mono l__law_take) rfl g__law_take F__law_take.kp b__law_take tk (la_cons (le_var 0 (pv 0)) (la_cons le_int la_nil))) le_int (nomark _)) (lss_one (ls_ret (le_op mo_add (le_op mo_mul (le_new (ll_lst (la_cons (le_str (okS_b (by decide +kernel))) la_nil))) (le_call O__law_take (hr.mono l__law_take) rfl g__law_take F__law_take.kp b__law_take tk (la_cons (le_var 0 (pv 0)) (la_cons le_int la_nil)))) (le_new (ll_lc (own := ([("_law_k", 2)] : List (Str × Nat))) rfl S.nd (li_rng1 rfl E.f_range (le_callB (mc_min2 rfl) rfl E.f_min (by decide +kernel) (la_cons (le_var 1 (pv 1)) (la_cons le_int la_nil)))) (blkOk_by (by rfl)) (by decide) (fun _ _ _ _ _ => (lg_name (pg_name (i := 2) S.nd rfl (by first | exact Or.inl rfl | exact Or.inr rfl)))) (fun _ _ _ _ _ => lts_nil) (fun _ _ _ _ _ => (le_call O__law_label (hr.mono l__law_label) rfl g__law_label F__law_label.kp b__law_label takes0 (la_cons (le_var 0 (pv 0)) la_nil)))))))) lss_nil)
  (lss_one (ls_ret (le_new (ll_lc (own := ([("_law_k", 2)] : List (Str × Nat))) rfl S.nd (li_rng1 rfl E.f_range (le_var 1 (pv 1))) (blkOk_by (by rfl)) (by decide) (fun _ _ _ _ _ => (lg_name (pg_name (i := 2) S.nd rfl (by first | exact Or.inl rfl | exact Or.inr rfl)))) (fun _ _ _ _ _ => lts_nil) (fun _ _ _ _ _ => (le_call O__law_any_label (hr.mono l__law_any_label) rfl g__law_any_label F__law_any_label.kp b__law_any_label takes0 (la_cons (le_var 0 (pv 0)) la_nil)))))))))
theorem sc__law_labels_right : FnScope ["_law_pot_here", "_law_turn", "_law_value"] ["_law_pot_here"] (defScope s__law_labels_right) := ⟨rfl, rfl, rfl, by decide +kernel, rfl, by decide +kernel, by decide +kernel⟩
theorem ok__law_labels_right (E : HX K mg base) {sp sp__law_any_label sp__law_take sp__law_odd sp__law_same sp_is_label sp__law_is_label : PSp} (H__law_any_label : Ok P w K mg base "_law_any_label" s__law_any_label ["_law_pot_here"] 3 sp__law_any_label) (H__law_take : Ok P w K mg base "_law_take" s__law_take ["_law_pot_here", "_law_many"] 1 sp__law_take) (H__law_odd : Ok P w K mg base "_law_odd" s__law_odd ["_law_pot_here"] 2 sp__law_odd) (H__law_same : Ok P w K mg base "_law_same" s__law_same ["_law_told_here", "_law_due"] 18 sp__law_same) (H_is_label : Ok P w K mg base "is_label" s_is_label ["value"] 1 sp_is_label) (H__law_is_label : Ok P w K mg base "_law_is_label" s__law_is_label ["_law_value"] 1 sp__law_is_label)
    (pure : ∀ vs h Q Ex, vs.length = 1 → sp vs h Q Ex → t__law_labels_right sp__law_any_label sp__law_take sp__law_odd sp__law_same sp_is_label sp__law_is_label (body Q Ex) (pstart 3 vs) h) : Ok P w K mg base "_law_labels_right" s__law_labels_right ["_law_pot_here"] (19) sp := by
  obtain ⟨fd__law_any_label, F__law_any_label, O__law_any_label⟩ := H__law_any_label
  have g__law_any_label : mg "_law_any_label" = some (.ref (He.ga K "_law_any_label")) := E.g__law_any_label
  have b__law_any_label : Binds K fd__law_any_label ["_law_pot_here"] [] := F__law_any_label.bindsN (fun _ _ _ _ _ _ us hl => match us, hl with | [_], _ => rfl)
  have l__law_any_label : 3 ≤ 18 := by decide
  obtain ⟨fd__law_take, F__law_take, O__law_take⟩ := H__law_take
  have g__law_take : mg "_law_take" = some (.ref (He.ga K "_law_take")) := E.g__law_take
  have b__law_take : Binds K fd__law_take ["_law_pot_here", "_law_many"] [] := F__law_take.bindsN (fun _ _ _ _ _ _ us hl => match us, hl with | [_, _], _ => rfl)
  have l__law_take : 1 ≤ 18 := by decide
  obtain ⟨fd__law_odd, F__law_odd, O__law_odd⟩ := H__law_odd
  have g__law_odd : mg "_law_odd" = some (.ref (He.ga K "_law_odd")) := E.g__law_odd
  have b__law_odd : Binds K fd__law_odd ["_law_pot_here"] [] := F__law_odd.bindsN (fun _ _ _ _ _ _ us hl => match us, hl with | [_], _ => rfl)
  have l__law_odd : 2 ≤ 18 := by decide
  obtain ⟨fd__law_same, F__law_same, O__law_same⟩ := H__law_same
  have g__law_same : mg "_law_same" = some (.ref (He.ga K "_law_same")) := E.g__law_same
  have b__law_same : Binds K fd__law_same ["_law_told_here", "_law_due"] [] := F__law_same.bindsN (fun _ _ _ _ _ _ us hl => match us, hl with | [_, _], _ => rfl)
  have l__law_same : 18 ≤ 18 := by decide
  obtain ⟨fd_is_label, F_is_label, O_is_label⟩ := H_is_label
  have g_is_label : mg "is_label" = some (.ref (He.ga K "is_label")) := E.g_is_label
  have b_is_label : Binds K fd_is_label ["value"] [] := F_is_label.bindsN (fun _ _ _ _ _ _ us hl => match us, hl with | [_], _ => rfl)
  have l_is_label : 1 ≤ 18 := by decide
  obtain ⟨fd__law_is_label, F__law_is_label, O__law_is_label⟩ := H__law_is_label
  have g__law_is_label : mg "_law_is_label" = some (.ref (He.ga K "_law_is_label")) := E.g__law_is_label
  have b__law_is_label : Binds K fd__law_is_label ["_law_value"] [] := F__law_is_label.bindsN (fun _ _ _ _ _ _ us hl => match us, hl with | [_], _ => rfl)
  have l__law_is_label : 1 ≤ 18 := by decide
  have kb_is_label_value : KwBinds K fd_is_label ["value"] ["value"] 0 [0] := FunD.kwb F_is_label (fun _ _ _ _ _ _ us ws hu hw => match us, ws, hu, hw with | [], [_], _, _ => rfl)
  obtain ⟨fd, F⟩ := E.d__law_labels_right
  refine ok_mk (k := 18) F sc__law_labels_right (fun cdv A outer s H Ex hr => ?_) pure
  have S := sc__law_labels_right
  have tk := takes_of (X := cxOf (L2.CX P w) P w K mg base ["_law_pot_here", "_law_turn", "_law_value"] "_law_labels_right" (defScope s__law_labels_right) (He.ga K "_law_labels_right") cdv A outer s H Ex) (E := Ex) rfl rfl rfl rfl
  exact (lss_cons (ls_for (passes_of rfl) rfl (li_rng1 rfl E.f_range le_int) (lg_name (pg_name (i := 1) S.nd rfl (by first | exact Or.inl rfl | exact Or.inr rfl))) (lss_cons (ls_set (i := 2) S.nd rfl (by first | exact Or.inl rfl | exact Or.inr rfl) (le_call O__law_any_label (hr.mono l__law_any_label) rfl g__law_any_label F__law_any_label.kp b__law_any_label tk (la_cons (le_var 0 (pv 0)) la_nil)))
  (lss_cons (ls_if (lt_cmp (mo_eq hr.units) (le_call O__law_take (hr.mono l__law_take) rfl g__law_take F__law_take.kp b__law_take tk (la_cons (le_var 0 (pv 0)) (la_cons le_int la_nil))) le_int (nomark _)) (lss_one (ls_set (i := 2) S.nd rfl (by first | exact Or.inl rfl | exact Or.inr rfl) (le_call O__law_odd (hr.mono l__law_odd) rfl g__law_odd F__law_odd.kp b__law_odd tk (la_cons (le_var 0 (pv 0)) la_nil)))) lss_nil)
  (lss_cons (ls_if (lt_not (lt_truth (le_call O__law_same (hr.mono l__law_same) rfl g__law_same F__law_same.kp b__law_same tk (la_cons (le_call O_is_label (hr.mono l_is_label) rfl g_is_label F_is_label.kp b_is_label tk (la_cons (le_var 2 (pv 2)) la_nil)) (la_cons (le_call O__law_is_label (hr.mono l__law_is_label) rfl g__law_is_label F__law_is_label.kp b__law_is_label tk (la_cons (le_var 2 (pv 2)) la_nil)) la_nil))))) (lss_one (ls_ret le_bl)) lss_nil)
  (lss_one (ls_if (lt_not (lt_truth (le_call O__law_same (hr.mono l__law_same) rfl g__law_same F__law_same.kp b__law_same tk (la_cons (le_callK0 (ks := ["value"]) (perm := [0]) O_is_label (hr.mono l_is_label) rfl g_is_label F_is_label.kp kb_is_label_value tk (lk_cons (le_var 2 (pv 2)) lk_nil)) (la_cons (le_call O__law_is_label (hr.mono l__law_is_label) rfl g__law_is_label F__law_is_label.kp b__law_is_label tk (la_cons (le_var 2 (pv 2)) la_nil)) la_nil))))) (lss_one (ls_ret le_bl)) lss_nil))))))
  (lss_one (ls_ret le_bl)))
theorem sc__law_shown : FnScope ["_law_value", "_law_found", "error"] ["_law_value"] (defScope s__law_shown) := ⟨rfl, rfl, rfl, by decide +kernel, rfl, by decide +kernel, by decide +kernel⟩
theorem ok__law_shown (E : HX K mg base) {sp sp_show_name : PSp} (H_show_name : Ok P w K mg base "show_name" s_show_name ["name"] 19 sp_show_name)
    (pure : ∀ vs h Q Ex, vs.length = 1 → sp vs h Q Ex → t__law_shown sp_show_name (body Q Ex) (pstart 3 vs) h) : Ok P w K mg base "_law_shown" s__law_shown ["_law_value"] (20) sp := by
  obtain ⟨fd_show_name, F_show_name, O_show_name⟩ := H_show_name
  have g_show_name : mg "show_name" = some (.ref (He.ga K "show_name")) := E.g_show_name
  have b_show_name : Binds K fd_show_name ["name"] [] := F_show_name.bindsN (fun _ _ _ _ _ _ us hl => match us, hl with | [_], _ => rfl)
  have l_show_name : 19 ≤ 19 := by decide
  obtain ⟨fd, F⟩ := E.d__law_shown
  refine ok_mk (k := 19) F sc__law_shown (fun cdv A outer s H Ex hr => ?_) pure
  have S := sc__law_shown
  have tk := takes_of (X := cxOf (L2.CX P w) P w K mg base ["_law_value", "_law_found", "error"] "_law_shown" (defScope s__law_shown) (He.ga K "_law_shown") cdv A outer s H Ex) (E := Ex) rfl rfl rfl rfl
  exact (lss_cons (ls_set (i := 1) S.nd rfl (by first | exact Or.inl rfl | exact Or.inr rfl) le_non)
  (lss_cons (ls_tryAs (i := 2) E.T (by decide) (err_mg E.X E.G E.e (c := "InvalidName") (by decide)) rfl rfl S.nd rfl rfl ⟨rfl, by decide, Or.inl (err_mg E.X E.G E.e (c := "InvalidName") (by decide))⟩ tk (fun W pn xe tk' hp' => (lss_one (ls_set (i := 1) S.nd rfl (by first | exact Or.inl rfl | exact Or.inr rfl) (le_tup (la_cons (le_str (okS_b (by decide +kernel))) (la_cons (le_call O_show_name (hr.mono l_show_name) rfl g_show_name F_show_name.kp b_show_name tk' (la_cons (le_var 0 (pv 0)) la_nil)) la_nil)))))) (fun a oe cls d pn hz hf => (lss_one (ls_set (i := 1) S.nd rfl (by first | exact Or.inl rfl | exact Or.inr rfl) (le_tup (la_cons (le_str (okS_b (by decide +kernel))) (la_cons (le_errVal E.T hz hf (pv 2)) la_nil)))))))
  (lss_one (ls_ret (le_var 1 (pv 1))))))
theorem sc__law_kept_apart : FnScope ["_law_value", "_law_due", "_law_copy", "_law_found", "_law_told_here"] ["_law_value", "_law_due"] (defScope s__law_kept_apart) := ⟨rfl, rfl, rfl, by decide +kernel, rfl, by decide +kernel, by decide +kernel⟩
theorem ok__law_kept_apart (E : HX K mg base) {sp sp__law_shown : PSp} (H__law_shown : Ok P w K mg base "_law_shown" s__law_shown ["_law_value"] 20 sp__law_shown)
    (pure : ∀ vs h Q Ex, vs.length = 2 → sp vs h Q Ex → t__law_kept_apart sp__law_shown (body Q Ex) (pstart 5 vs) h) : Ok P w K mg base "_law_kept_apart" s__law_kept_apart ["_law_value", "_law_due"] (21) sp := by
  obtain ⟨fd__law_shown, F__law_shown, O__law_shown⟩ := H__law_shown
  have g__law_shown : mg "_law_shown" = some (.ref (He.ga K "_law_shown")) := E.g__law_shown
  have b__law_shown : Binds K fd__law_shown ["_law_value"] [] := F__law_shown.bindsN (fun _ _ _ _ _ _ us hl => match us, hl with | [_], _ => rfl)
  have l__law_shown : 20 ≤ 20 := by decide
  obtain ⟨fd, F⟩ := E.d__law_kept_apart
  refine ok_mk (k := 20) F sc__law_kept_apart (fun cdv A outer s H Ex hr => ?_) pure
  have S := sc__law_kept_apart
  have tk := takes_of (X := cxOf (L2.CX P w) P w K mg base ["_law_value", "_law_due", "_law_copy", "_law_found", "_law_told_here"] "_law_kept_apart" (defScope s__law_kept_apart) (He.ga K "_law_kept_apart") cdv A outer s H Ex) (E := Ex) rfl rfl rfl rfl
  exact (lss_cons (ls_set (i := 2) S.nd rfl (by first | exact Or.inl rfl | exact Or.inr rfl) (le_callTy mc_list rfl E.f_list (by decide +kernel) (la_cons (le_var 0 (pv 0)) la_nil)))
  (lss_cons (ls_set (i := 3) S.nd rfl (by first | exact Or.inl rfl | exact Or.inr rfl) (le_call O__law_shown (hr.mono l__law_shown) rfl g__law_shown F__law_shown.kp b__law_shown tk (la_cons (le_var 0 (pv 0)) la_nil)))
  (lss_cons (ls_set (i := 4) S.nd rfl (by first | exact Or.inl rfl | exact Or.inr rfl) (le_ix (le_var 3 (pv 3)) le_int (fun _ _ => rfl)))
  (lss_cons (ls_expr (le_bm (.inr rfl) PySem.F.plainAttrs_list PySem.F.slot_list_append PySem.F.type_list_append mm_append (le_var 4 (pv 4)) (la_cons (le_str (okS_b (by decide +kernel))) la_nil)))
  (lss_one (ls_ret (le_and (le_cmp (mo_eq hr.units) (le_var 0 (pv 0)) (le_var 2 (pv 2)) (nomark _)) (le_one (le_cmp (mo_eq hr.units) (le_call O__law_shown (hr.mono l__law_shown) rfl g__law_shown F__law_shown.kp b__law_shown tk (la_cons (le_var 0 (pv 0)) la_nil)) (le_var 1 (pv 1)) (nomark _))))))))))
theorem sc__law_names_right : FnScope ["_law_pot_here", "_law_turn", "_law_labels", "_law_value", "_law_good", "_law_due", "_law_label_here"] ["_law_pot_here"] (defScope s__law_names_right) := ⟨rfl, rfl, rfl, by decide +kernel, rfl, by decide +kernel, by decide +kernel⟩
theorem ok__law_names_right (E : HX K mg base) {sp sp__law_some_labels sp__law_is_name sp__law_take sp__law_same sp__law_shown sp_is_name sp_is_asked sp__law_kept_apart sp__law_odd sp_show_name sp_name_of : PSp} (H__law_some_labels : Ok P w K mg base "_law_some_labels" s__law_some_labels ["_law_pot_here"] 4 sp__law_some_labels) (H__law_is_name : Ok P w K mg base "_law_is_name" s__law_is_name ["_law_value"] 2 sp__law_is_name) (H__law_take : Ok P w K mg base "_law_take" s__law_take ["_law_pot_here", "_law_many"] 1 sp__law_take) (H__law_same : Ok P w K mg base "_law_same" s__law_same ["_law_told_here", "_law_due"] 18 sp__law_same) (H__law_shown : Ok P w K mg base "_law_shown" s__law_shown ["_law_value"] 20 sp__law_shown) (H_is_name : Ok P w K mg base "is_name" s_is_name ["value"] 2 sp_is_name) (H_is_asked : Ok P w K mg base "is_asked" s_is_asked ["value"] 3 sp_is_asked) (H__law_kept_apart : Ok P w K mg base "_law_kept_apart" s__law_kept_apart ["_law_value", "_law_due"] 21 sp__law_kept_apart) (H__law_odd : Ok P w K mg base "_law_odd" s__law_odd ["_law_pot_here"] 2 sp__law_odd) (H_show_name : Ok P w K mg base "show_name" s_show_name ["name"] 19 sp_show_name) (H_name_of : Ok P w K mg base "name_of" s_name_of ["text"] 18 sp_name_of)
    (pure : ∀ vs h Q Ex, vs.length = 1 → sp vs h Q Ex → t__law_names_right sp__law_some_labels sp__law_is_name sp__law_take sp__law_same sp__law_shown sp_is_name sp_is_asked sp__law_kept_apart sp__law_odd sp_show_name sp_name_of (body Q Ex) (pstart 7 vs) h) : Ok P w K mg base "_law_names_right" s__law_names_right ["_law_pot_here"] (22) sp := by
  obtain ⟨fd__law_some_labels, F__law_some_labels, O__law_some_labels⟩ := H__law_some_labels
  have g__law_some_labels : mg "_law_some_labels" = some (.ref (He.ga K "_law_some_labels")) := E.g__law_some_labels
  have b__law_some_labels : Binds K fd__law_some_labels ["_law_pot_here"] [] := F__law_some_labels.bindsN (fun _ _ _ _ _ _ us hl => match us, hl with | [_], _ => rfl)
  have l__law_some_labels : 4 ≤ 21 := by decide
  obtain ⟨fd__law_is_name, F__law_is_name, O__law_is_name⟩ := H__law_is_name
  have g__law_is_name : mg "_law_is_name" = some (.ref (He.ga K "_law_is_name")) := E.g__law_is_name
  have b__law_is_name : Binds K fd__law_is_name ["_law_value"] [] := F__law_is_name.bindsN (fun _ _ _ _ _ _ us hl => match us, hl with | [_], _ => rfl)
  have l__law_is_name : 2 ≤ 21 := by decide
  obtain ⟨fd__law_take, F__law_take, O__law_take⟩ := H__law_take
  have g__law_take : mg "_law_take" = some (.ref (He.ga K "_law_take")) := E.g__law_take
  have b__law_take : Binds K fd__law_take ["_law_pot_here", "_law_many"] [] := F__law_take.bindsN (fun _ _ _ _ _ _ us hl => match us, hl with | [_, _], _ => rfl)
  have l__law_take : 1 ≤ 21 := by decide
  obtain ⟨fd__law_same, F__law_same, O__law_same⟩ := H__law_same
  have g__law_same : mg "_law_same" = some (.ref (He.ga K "_law_same")) := E.g__law_same
  have b__law_same : Binds K fd__law_same ["_law_told_here", "_law_due"] [] := F__law_same.bindsN (fun _ _ _ _ _ _ us hl => match us, hl with | [_, _], _ => rfl)
  have l__law_same : 18 ≤ 21 := by decide
  obtain ⟨fd__law_shown, F__law_shown, O__law_shown⟩ := H__law_shown
  have g__law_shown : mg "_law_shown" = some (.ref (He.ga K "_law_shown")) := E.g__law_shown
  have b__law_shown : Binds K fd__law_shown ["_law_value"] [] := F__law_shown.bindsN (fun _ _ _ _ _ _ us hl => match us, hl with | [_], _ => rfl)
  have l__law_shown : 20 ≤ 21 := by decide
  obtain ⟨fd_is_name, F_is_name, O_is_name⟩ := H_is_name
  have g_is_name : mg "is_name" = some (.ref (He.ga K "is_name")) := E.g_is_name
  have b_is_name : Binds K fd_is_name ["value"] [] := F_is_name.bindsN (fun _ _ _ _ _ _ us hl => match us, hl with | [_], _ => rfl)
  have l_is_name : 2 ≤ 21 := by decide
  obtain ⟨fd_is_asked, F_is_asked, O_is_asked⟩ := H_is_asked
  have g_is_asked : mg "is_asked" = some (.ref (He.ga K "is_asked")) := E.g_is_asked
  have b_is_asked : Binds K fd_is_asked ["value"] [] := F_is_asked.bindsN (fun _ _ _ _ _ _ us hl => match us, hl with | [_], _ => rfl)
  have l_is_asked : 3 ≤ 21 := by decide
  obtain ⟨fd__law_kept_apart, F__law_kept_apart, O__law_kept_apart⟩ := H__law_kept_apart
  have g__law_kept_apart : mg "_law_kept_apart" = some (.ref (He.ga K "_law_kept_apart")) := E.g__law_kept_apart
  have b__law_kept_apart : Binds K fd__law_kept_apart ["_law_value", "_law_due"] [] := F__law_kept_apart.bindsN (fun _ _ _ _ _ _ us hl => match us, hl with | [_, _], _ => rfl)
  have l__law_kept_apart : 21 ≤ 21 := by decide
  obtain ⟨fd__law_odd, F__law_odd, O__law_odd⟩ := H__law_odd
  have g__law_odd : mg "_law_odd" = some (.ref (He.ga K "_law_odd")) := E.g__law_odd
  have b__law_odd : Binds K fd__law_odd ["_law_pot_here"] [] := F__law_odd.bindsN (fun _ _ _ _ _ _ us hl => match us, hl with | [_], _ => rfl)
  have l__law_odd : 2 ≤ 21 := by decide
  obtain ⟨fd_show_name, F_show_name, O_show_name⟩ := H_show_name
  have g_show_name : mg "show_name" = some (.ref (He.ga K "show_name")) := E.g_show_name
  have b_show_name : Binds K fd_show_name ["name"] [] := F_show_name.bindsN (fun _ _ _ _ _ _ us hl => match us, hl with | [_], _ => rfl)
  have l_show_name : 19 ≤ 21 := by decide
  obtain ⟨fd_name_of, F_name_of, O_name_of⟩ := H_name_of
  have g_name_of : mg "name_of" = some (.ref (He.ga K "name_of")) := E.g_name_of
  have b_name_of : Binds K fd_name_of ["text"] [] := F_name_of.bindsN (fun _ _ _ _ _ _ us hl => match us, hl with | [_], _ => rfl)
  have l_name_of : 18 ≤ 21 := by decide
  have kb_is_name_value : KwBinds K fd_is_name ["value"] ["value"] 0 [0] := FunD.kwb F_is_name (fun _ _ _ _ _ _ us ws hu hw => match us, ws, hu, hw with | [], [_], _, _ => rfl)
  have kb_is_asked_value : KwBinds K fd_is_asked ["value"] ["value"] 0 [0] := FunD.kwb F_is_asked (fun _ _ _ _ _ _ us ws hu hw => match us, ws, hu, hw with | [], [_], _, _ => rfl)
  have kb_show_name_name : KwBinds K fd_show_name ["name"] ["name"] 0 [0] := FunD.kwb F_show_name (fun _ _ _ _ _ _ us ws hu hw => match us, ws, hu, hw with | [], [_], _, _ => rfl)
  have kb_name_of_text : KwBinds K fd_name_of ["text"] ["text"] 0 [0] := FunD.kwb F_name_of (fun _ _ _ _ _ _ us ws hu hw => match us, ws, hu, hw with | [], [_], _, _ => rfl)
  obtain ⟨fd, F⟩ := E.d__law_names_right
  refine ok_mk (k := 21) F sc__law_names_right (fun cdv A outer s H Ex hr => ?_) pure
  have S := sc__law_names_right
  have tk := takes_of (X := cxOf (L2.CX P w) P w K mg base ["_law_pot_here", "_law_turn", "_law_labels", "_law_value", "_law_good", "_law_due", "_law_label_here"] "_law_names_right" (defScope s__law_names_right) (He.ga K "_law_names_right") cdv A outer s H Ex) (E := Ex) rfl rfl rfl rfl
  exact (lss_cons (ls_for (passes_of rfl) rfl (li_rng1 rfl E.f_range le_int) (lg_name (pg_name (i := 1) S.nd rfl (by first | exact Or.inl rfl | exact Or.inr rfl))) (lss_cons (ls_set (i := 2) S.nd rfl (by first | exact Or.inl rfl | exact Or.inr rfl) (le_call O__law_some_labels (hr.mono l__law_some_labels) rfl g__law_some_labels F__law_some_labels.kp b__law_some_labels tk (la_cons (le_var 0 (pv 0)) la_nil)))
  (lss_cons (ls_set (i := 3) S.nd rfl (by first | exact Or.inl rfl | exact Or.inr rfl) (le_callTy mc_tuple rfl E.f_tuple (by decide +kernel) (la_cons (le_var 2 (pv 2)) la_nil)))
  (lss_cons (ls_if (lt_cmp (mo_eq hr.units) (le_call O__law_take (hr.mono l__law_take) rfl g__law_take F__law_take.kp b__law_take tk (la_cons (le_var 0 (pv 0)) (la_cons le_int la_nil))) le_int (nomark _)) (lss_one (ls_set (i := 3) S.nd rfl (by first | exact Or.inl rfl | exact Or.inr rfl) (le_ixT (ll_lst (la_cons (le_callTy mc_list rfl E.f_list (by decide +kernel) (la_cons (le_var 2 (pv 2)) la_nil)) (la_cons (le_call O__law_odd (hr.mono l__law_odd) rfl g__law_odd F__law_odd.kp b__law_odd tk (la_cons (le_var 0 (pv 0)) la_nil)) la_nil))) (le_call O__law_take (hr.mono l__law_take) rfl g__law_take F__law_take.kp b__law_take tk (la_cons (le_var 0 (pv 0)) (la_cons le_int la_nil))) (fun _ _ => rfl)))) lss_nil)
  (lss_cons (ls_set (i := 4) S.nd rfl (by first | exact Or.inl rfl | exact Or.inr rfl) (le_call O__law_is_name (hr.mono l__law_is_name) rfl g__law_is_name F__law_is_name.kp b__law_is_name tk (la_cons (le_var 3 (pv 3)) la_nil)))
  (lss_cons (ls_if (lt_not (lt_truth (le_call O__law_same (hr.mono l__law_same) rfl g__law_same F__law_same.kp b__law_same tk (la_cons (le_call O_is_name (hr.mono l_is_name) rfl g_is_name F_is_name.kp b_is_name tk (la_cons (le_var 3 (pv 3)) la_nil)) (la_cons (le_var 4 (pv 4)) la_nil))))) (lss_one (ls_ret le_bl)) lss_nil)
  (lss_cons (ls_if (lt_not (lt_truth (le_call O__law_same (hr.mono l__law_same) rfl g__law_same F__law_same.kp b__law_same tk (la_cons (le_call O_is_asked (hr.mono l_is_asked) rfl g_is_asked F_is_asked.kp b_is_asked tk (la_cons (le_var 3 (pv 3)) la_nil)) (la_cons (le_and (le_var 4 (pv 4)) (le_one (le_cmp (mo_ne hr.units) (le_slice (le_var 3 (pv 3)) lo_none (lo_some le_int)) (le_tup (la_cons (le_str (okS_b (by decide +kernel))) la_nil)) (nomark _)))) la_nil))))) (lss_one (ls_ret le_bl)) lss_nil)
  (lss_cons (ls_if (lt_cmp (mo_ne hr.units) (le_new (ll_lst (la_cons (le_callK0 (ks := ["value"]) (perm := [0]) O_is_name (hr.mono l_is_name) rfl g_is_name F_is_name.kp kb_is_name_value tk (lk_cons (le_var 3 (pv 3)) lk_nil)) (la_cons (le_callK0 (ks := ["value"]) (perm := [0]) O_is_asked (hr.mono l_is_asked) rfl g_is_asked F_is_asked.kp kb_is_asked_value tk (lk_cons (le_var 3 (pv 3)) lk_nil)) la_nil)))) (le_new (ll_lst (la_cons (le_var 4 (pv 4)) (la_cons (le_and (le_var 4 (pv 4)) (le_one (le_cmp (mo_ne hr.units) (le_slice (le_var 3 (pv 3)) lo_none (lo_some le_int)) (le_tup (la_cons (le_str (okS_b (by decide +kernel))) la_nil)) (nomark _)))) la_nil)))) (nomark _)) (lss_one (ls_ret le_bl)) lss_nil)
  (lss_cons (ls_set (i := 5) S.nd rfl (by first | exact Or.inl rfl | exact Or.inr rfl) (le_tup (la_cons (le_str (okS_b (by decide +kernel))) (la_cons (le_var 3 (pv 3)) la_nil))))
  (lss_cons (ls_if (lt_truth (le_var 4 (pv 4))) (lss_cons (ls_set (i := 5) S.nd rfl (by first | exact Or.inl rfl | exact Or.inr rfl) (le_tup (la_cons (le_str (okS_b (by decide +kernel))) (la_cons (le_joinT (le_str (okS_b (by decide +kernel))) (ll_lc (own := ([("_law_label_here", 6)] : List (Str × Nat))) rfl S.nd (li_any (le_var 2 (pv 2))) (blkOk_by (by rfl)) (by decide) (fun _ _ _ _ _ => (lg_name (pg_name (i := 6) S.nd rfl (by first | exact Or.inl rfl | exact Or.inr rfl)))) (fun _ _ _ _ _ => lts_nil) (fun _ _ _ _ _ => (le_op mo_add (le_var 6 (pv 6)) (le_str (okS_b (by decide +kernel))))))) la_nil))))
  (lss_one (ls_if (lt_cmp (mo_eq hr.units) (le_var 2 (pv 2)) (le_new (ll_lst la_nil)) (nomark _)) (lss_one (ls_set (i := 5) S.nd rfl (by first | exact Or.inl rfl | exact Or.inr rfl) (le_tup (la_cons (le_str (okS_b (by decide +kernel))) (la_cons (le_str (okS_b (by decide +kernel))) la_nil))))) lss_nil))) lss_nil)
  (lss_cons (ls_if (PW.pt (lw_and (lt_truth (le_isi2 (T := "tuple") (U := "list") (le_var 3 (pv 3)) (by decide) (by decide) rfl E.f_isinstance rfl E.f_tuple (by decide +kernel) rfl E.f_list (by decide +kernel))) (lw_and1 (lt_not (lt_truth (le_call O__law_same (hr.mono l__law_same) rfl g__law_same F__law_same.kp b__law_same tk (la_cons (le_call O__law_shown (hr.mono l__law_shown) rfl g__law_shown F__law_shown.kp b__law_shown tk (la_cons (le_var 3 (pv 3)) la_nil)) (la_cons (le_var 5 (pv 5)) la_nil)))))))) (lss_one (ls_ret le_bl)) lss_nil)
  (lss_cons (ls_if (lt_cmp (mo_ne hr.units) (le_call O__law_shown (hr.mono l__law_shown) rfl g__law_shown F__law_shown.kp b__law_shown tk (la_cons (le_var 3 (pv 3)) la_nil)) (le_var 5 (pv 5)) (nomark _)) (lss_one (ls_ret le_bl)) lss_nil)
  (lss_cons (ls_if (PW.pt (lw_and (lt_not (lt_truth (le_var 4 (pv 4)))) (lw_and (lt_truth (le_isi (T := "list") (le_var 3 (pv 3)) (by decide) rfl E.f_isinstance rfl E.f_list (by decide +kernel))) (lw_and1 (lt_not (lt_truth (le_call O__law_kept_apart (hr.mono l__law_kept_apart) rfl g__law_kept_apart F__law_kept_apart.kp b__law_kept_apart tk (la_cons (le_var 3 (pv 3)) (la_cons (le_var 5 (pv 5)) la_nil))))))))) (lss_one (ls_ret le_bl)) lss_nil)
  (lss_cons (ls_if (PW.pt (lw_and (lt_truth (le_var 4 (pv 4))) (lw_and1 (PW.pt (lw_or (lt_not (lt_truth (le_call O__law_same (hr.mono l__law_same) rfl g__law_same F__law_same.kp b__law_same tk (la_cons (le_call O_name_of (hr.mono l_name_of) rfl g_name_of F_name_of.kp b_name_of tk (la_cons (le_ix (le_var 5 (pv 5)) le_int (fun _ _ => rfl)) la_nil)) (la_cons (le_var 3 (pv 3)) la_nil))))) (lw_or1 (lt_cmp (mo_ne hr.units) (le_callK0 (ks := ["name"]) (perm := [0]) O_show_name (hr.mono l_show_name) rfl g_show_name F_show_name.kp kb_show_name_name tk (lk_cons (le_var 3 (pv 3)) lk_nil)) (le_ix (le_var 5 (pv 5)) le_int (fun _ _ => rfl)) (nomark _)))))))) (lss_one (ls_ret le_bl)) lss_nil)
  (lss_one (ls_if (PW.pt (lw_and (lt_truth (le_var 4 (pv 4))) (lw_and1 (lt_not (lt_truth (le_call O__law_same (hr.mono l__law_same) rfl g__law_same F__law_same.kp b__law_same tk (la_cons (le_callK0 (ks := ["text"]) (perm := [0]) O_name_of (hr.mono l_name_of) rfl g_name_of F_name_of.kp kb_name_of_text tk (lk_cons (le_ix (le_var 5 (pv 5)) le_int (fun _ _ => rfl)) lk_nil)) (la_cons (le_var 3 (pv 3)) la_nil)))))))) (lss_one (ls_ret le_bl)) lss_nil))))))))))))))))
  (lss_one (ls_ret le_bl)))
theorem sc__law_read : FnScope ["_law_text", "_law_name"] ["_law_text"] (defScope s__law_read) := ⟨rfl, rfl, rfl, by decide +kernel, rfl, by decide +kernel, by decide +kernel⟩
theorem ok__law_read (E : HX K mg base) {sp sp__law_is_name : PSp} (H__law_is_name : Ok P w K mg base "_law_is_name" s__law_is_name ["_law_value"] 2 sp__law_is_name)
    (pure : ∀ vs h Q Ex, vs.length = 1 → sp vs h Q Ex → t__law_read sp__law_is_name (body Q Ex) (pstart 2 vs) h) : Ok P w K mg base "_law_read" s__law_read ["_law_text"] (3) sp := by
  obtain ⟨fd__law_is_name, F__law_is_name, O__law_is_name⟩ := H__law_is_name
  have g__law_is_name : mg "_law_is_name" = some (.ref (He.ga K "_law_is_name")) := E.g__law_is_name
  have b__law_is_name : Binds K fd__law_is_name ["_law_value"] [] := F__law_is_name.bindsN (fun _ _ _ _ _ _ us hl => match us, hl with | [_], _ => rfl)
  have l__law_is_name : 2 ≤ 2 := by decide
  obtain ⟨fd, F⟩ := E.d__law_read
  refine ok_mk (k := 2) F sc__law_read (fun cdv A outer s H Ex hr => ?_) pure
  have S := sc__law_read
  have tk := takes_of (X := cxOf (L2.CX P w) P w K mg base ["_law_text", "_law_name"] "_law_read" (defScope s__law_read) (He.ga K "_law_read") cdv A outer s H Ex) (E := Ex) rfl rfl rfl rfl
  exact (lss_cons (ls_if (lt_cmp (mo_eq hr.units) (le_var 0 (pv 0)) (le_str (okS_b (by decide +kernel))) (nomark _)) (lss_one (ls_ret (le_new (ll_lst (la_cons (le_tup la_nil) la_nil))))) lss_nil)
  (lss_cons (ls_if (PW.pt (lw_or (lt_cmp (mo_eq hr.units) (le_var 0 (pv 0)) (le_str (okS_b (by decide +kernel))) (nomark _)) (lw_or1 (lt_cmp (mo_ne hr.units) (le_ix (le_var 0 (pv 0)) (le_op mo_sub (le_callB mc_len rfl E.f_len (by decide +kernel) (la_cons (le_var 0 (pv 0)) la_nil)) le_int) (fun _ _ => rfl)) (le_str (okS_b (by decide +kernel))) (nomark _))))) (lss_one (ls_ret (le_new (ll_lst la_nil)))) lss_nil)
  (lss_cons (ls_set (i := 1) S.nd rfl (by first | exact Or.inl rfl | exact Or.inr rfl) (le_callTy mc_tuple rfl E.f_tuple (by decide +kernel) (la_cons (le_bm (.inl rfl) PySem.F.plainAttrs_str PySem.F.slot_str_split PySem.F.type_str_split mm_split (le_slice (le_var 0 (pv 0)) lo_none (lo_some (le_op mo_sub (le_callB mc_len rfl E.f_len (by decide +kernel) (la_cons (le_var 0 (pv 0)) la_nil)) le_int))) (la_cons (le_str (okS_b (by decide +kernel))) la_nil)) la_nil)))
  (lss_one (ls_ret (le_if (lt_truth (le_call O__law_is_name (hr.mono l__law_is_name) rfl g__law_is_name F__law_is_name.kp b__law_is_name tk (la_cons (le_var 1 (pv 1)) la_nil))) (le_new (ll_lst (la_cons (le_var 1 (pv 1)) la_nil))) (le_new (ll_lst la_nil))))))))
theorem sc__law_told : FnScope ["_law_text", "_law_found", "error"] ["_law_text"] (defScope s__law_told) := ⟨rfl, rfl, rfl, by decide +kernel, rfl, by decide +kernel, by decide +kernel⟩
theorem ok__law_told (E : HX K mg base) {sp sp_name_of : PSp} (H_name_of : Ok P w K mg base "name_of" s_name_of ["text"] 18 sp_name_of)
    (pure : ∀ vs h Q Ex, vs.length = 1 → sp vs h Q Ex → t__law_told sp_name_of (body Q Ex) (pstart 3 vs) h) : Ok P w K mg base "_law_told" s__law_told ["_law_text"] (19) sp := by
  obtain ⟨fd_name_of, F_name_of, O_name_of⟩ := H_name_of
  have g_name_of : mg "name_of" = some (.ref (He.ga K "name_of")) := E.g_name_of
  have b_name_of : Binds K fd_name_of ["text"] [] := F_name_of.bindsN (fun _ _ _ _ _ _ us hl => match us, hl with | [_], _ => rfl)
  have l_name_of : 18 ≤ 18 := by decide
  obtain ⟨fd, F⟩ := E.d__law_told
  refine ok_mk (k := 18) F sc__law_told (fun cdv A outer s H Ex hr => ?_) pure
  have S := sc__law_told
  have tk := takes_of (X := cxOf (L2.CX P w) P w K mg base ["_law_text", "_law_found", "error"] "_law_told" (defScope s__law_told) (He.ga K "_law_told") cdv A outer s H Ex) (E := Ex) rfl rfl rfl rfl
  exact (lss_cons (ls_set (i := 1) S.nd rfl (by first | exact Or.inl rfl | exact Or.inr rfl) le_non)
  (lss_cons (ls_tryAs (i := 2) E.T (by decide) (err_mg E.X E.G E.e (c := "Unreadable") (by decide)) rfl rfl S.nd rfl rfl ⟨rfl, by decide, Or.inl (err_mg E.X E.G E.e (c := "Unreadable") (by decide))⟩ tk (fun W pn xe tk' hp' => (lss_one (ls_set (i := 1) S.nd rfl (by first | exact Or.inl rfl | exact Or.inr rfl) (le_tup (la_cons (le_str (okS_b (by decide +kernel))) (la_cons (le_call O_name_of (hr.mono l_name_of) rfl g_name_of F_name_of.kp b_name_of tk' (la_cons (le_var 0 (pv 0)) la_nil)) la_nil)))))) (fun a oe cls d pn hz hf => (lss_one (ls_set (i := 1) S.nd rfl (by first | exact Or.inl rfl | exact Or.inr rfl) (le_tup (la_cons (le_str (okS_b (by decide +kernel))) (la_cons (le_errVal E.T hz hf (pv 2)) la_nil)))))))
  (lss_one (ls_ret (le_var 1 (pv 1))))))
theorem sc__law_is_base : FnScope ["_law_text", "_law_found", "error"] ["_law_text"] (defScope s__law_is_base) := ⟨rfl, rfl, rfl, by decide +kernel, rfl, by decide +kernel, by decide +kernel⟩
theorem ok__law_is_base (E : HX K mg base) {sp sp_name_of : PSp} (H_name_of : Ok P w K mg base "name_of" s_name_of ["text"] 18 sp_name_of)
    (pure : ∀ vs h Q Ex, vs.length = 1 → sp vs h Q Ex → t__law_is_base sp_name_of (body Q Ex) (pstart 3 vs) h) : Ok P w K mg base "_law_is_base" s__law_is_base ["_law_text"] (19) sp := by
  obtain ⟨fd_name_of, F_name_of, O_name_of⟩ := H_name_of
  have g_name_of : mg "name_of" = some (.ref (He.ga K "name_of")) := E.g_name_of
  have b_name_of : Binds K fd_name_of ["text"] [] := F_name_of.bindsN (fun _ _ _ _ _ _ us hl => match us, hl with | [_], _ => rfl)
  have l_name_of : 18 ≤ 18 := by decide
  obtain ⟨fd, F⟩ := E.d__law_is_base
  refine ok_mk (k := 18) F sc__law_is_base (fun cdv A outer s H Ex hr => ?_) pure
  have S := sc__law_is_base
  have tk := takes_of (X := cxOf (L2.CX P w) P w K mg base ["_law_text", "_law_found", "error"] "_law_is_base" (defScope s__law_is_base) (He.ga K "_law_is_base") cdv A outer s H Ex) (E := Ex) rfl rfl rfl rfl
  exact (lss_cons (ls_set (i := 1) S.nd rfl (by first | exact Or.inl rfl | exact Or.inr rfl) le_bl)
  (lss_cons (ls_tryAs (i := 2) E.T (by decide) (err_mg E.X E.G E.e (c := "TreeError") (by decide)) rfl rfl S.nd rfl rfl ⟨rfl, by decide, Or.inl (err_mg E.X E.G E.e (c := "TreeError") (by decide))⟩ tk (fun W pn xe tk' hp' => (lss_one (ls_expr (le_call O_name_of (hr.mono l_name_of) rfl g_name_of F_name_of.kp b_name_of tk' (la_cons (le_var 0 (pv 0)) la_nil))))) (fun a oe cls d pn hz hf => (lss_one (ls_set (i := 1) S.nd rfl (by first | exact Or.inl rfl | exact Or.inr rfl) (le_and (le_errVE E.T E.TI hz hf (pv 2) rfl E.f_isinstance rfl E.f_ValueError) (le_and (le_errIs E.T E.TI hz hf (pv 2) rfl E.f_isinstance rfl (err_mg E.X E.G E.e (c := "Unreadable") (by decide)) (by decide)) (le_one (le_not (le_errIs E.T E.TI hz hf (pv 2) rfl E.f_isinstance rfl (err_mg E.X E.G E.e (c := "InvalidName") (by decide)) (by decide))))))))))
  (lss_one (ls_ret (le_var 1 (pv 1))))))
theorem sc__law_texts_right : FnScope ["_law_pot_here", "_law_turn", "_law_text", "_law_way", "_law_at", "_law_due", "_law_some", "_law_label_here"] ["_law_pot_here"] (defScope s__law_texts_right) := ⟨rfl, rfl, rfl, by decide +kernel, rfl, by decide +kernel, by decide +kernel⟩
theorem ok__law_texts_right (E : HX K mg base) {sp sp__law_take sp__law_read sp__law_told sp__law_is_base sp__law_same sp_show_name sp__law_some_labels : PSp} (H__law_take : Ok P w K mg base "_law_take" s__law_take ["_law_pot_here", "_law_many"] 1 sp__law_take) (H__law_read : Ok P w K mg base "_law_read" s__law_read ["_law_text"] 3 sp__law_read) (H__law_told : Ok P w K mg base "_law_told" s__law_told ["_law_text"] 19 sp__law_told) (H__law_is_base : Ok P w K mg base "_law_is_base" s__law_is_base ["_law_text"] 19 sp__law_is_base) (H__law_same : Ok P w K mg base "_law_same" s__law_same ["_law_told_here", "_law_due"] 18 sp__law_same) (H_show_name : Ok P w K mg base "show_name" s_show_name ["name"] 19 sp_show_name) (H__law_some_labels : Ok P w K mg base "_law_some_labels" s__law_some_labels ["_law_pot_here"] 4 sp__law_some_labels)
    (pure : ∀ vs h Q Ex, vs.length = 1 → sp vs h Q Ex → t__law_texts_right sp__law_take sp__law_read sp__law_told sp__law_is_base sp__law_same sp_show_name sp__law_some_labels (body Q Ex) (pstart 8 vs) h) : Ok P w K mg base "_law_texts_right" s__law_texts_right ["_law_pot_here"] (20) sp := by
  obtain ⟨fd__law_take, F__law_take, O__law_take⟩ := H__law_take
  have g__law_take : mg "_law_take" = some (.ref (He.ga K "_law_take")) := E.g__law_take
  have b__law_take : Binds K fd__law_take ["_law_pot_here", "_law_many"] [] := F__law_take.bindsN (fun _ _ _ _ _ _ us hl => match us, hl with | [_, _], _ => rfl)
  have l__law_take : 1 ≤ 19 := by decide
  obtain ⟨fd__law_read, F__law_read, O__law_read⟩ := H__law_read
  have g__law_read : mg "_law_read" = some (.ref (He.ga K "_law_read")) := E.g__law_read
  have b__law_read : Binds K fd__law_read ["_law_text"] [] := F__law_read.bindsN (fun _ _ _ _ _ _ us hl => match us, hl with | [_], _ => rfl)
  have l__law_read : 3 ≤ 19 := by decide
  obtain ⟨fd__law_told, F__law_told, O__law_told⟩ := H__law_told
  have g__law_told : mg "_law_told" = some (.ref (He.ga K "_law_told")) := E.g__law_told
  have b__law_told : Binds K fd__law_told ["_law_text"] [] := F__law_told.bindsN (fun _ _ _ _ _ _ us hl => match us, hl with | [_], _ => rfl)
  have l__law_told : 19 ≤ 19 := by decide
  obtain ⟨fd__law_is_base, F__law_is_base, O__law_is_base⟩ := H__law_is_base
  have g__law_is_base : mg "_law_is_base" = some (.ref (He.ga K "_law_is_base")) := E.g__law_is_base
  have b__law_is_base : Binds K fd__law_is_base ["_law_text"] [] := F__law_is_base.bindsN (fun _ _ _ _ _ _ us hl => match us, hl with | [_], _ => rfl)
  have l__law_is_base : 19 ≤ 19 := by decide
  obtain ⟨fd__law_same, F__law_same, O__law_same⟩ := H__law_same
  have g__law_same : mg "_law_same" = some (.ref (He.ga K "_law_same")) := E.g__law_same
  have b__law_same : Binds K fd__law_same ["_law_told_here", "_law_due"] [] := F__law_same.bindsN (fun _ _ _ _ _ _ us hl => match us, hl with | [_, _], _ => rfl)
  have l__law_same : 18 ≤ 19 := by decide
  obtain ⟨fd_show_name, F_show_name, O_show_name⟩ := H_show_name
  have g_show_name : mg "show_name" = some (.ref (He.ga K "show_name")) := E.g_show_name
  have b_show_name : Binds K fd_show_name ["name"] [] := F_show_name.bindsN (fun _ _ _ _ _ _ us hl => match us, hl with | [_], _ => rfl)
  have l_show_name : 19 ≤ 19 := by decide
  obtain ⟨fd__law_some_labels, F__law_some_labels, O__law_some_labels⟩ := H__law_some_labels
  have g__law_some_labels : mg "_law_some_labels" = some (.ref (He.ga K "_law_some_labels")) := E.g__law_some_labels
  have b__law_some_labels : Binds K fd__law_some_labels ["_law_pot_here"] [] := F__law_some_labels.bindsN (fun _ _ _ _ _ _ us hl => match us, hl with | [_], _ => rfl)
  have l__law_some_labels : 4 ≤ 19 := by decide
  obtain ⟨fd, F⟩ := E.d__law_texts_right
  refine ok_mk (k := 19) F sc__law_texts_right (fun cdv A outer s H Ex hr => ?_) pure
  have S := sc__law_texts_right
  have tk := takes_of (X := cxOf (L2.CX P w) P w K mg base ["_law_pot_here", "_law_turn", "_law_text", "_law_way", "_law_at", "_law_due", "_law_some", "_law_label_here"] "_law_texts_right" (defScope s__law_texts_right) (He.ga K "_law_texts_right") cdv A outer s H Ex) (E := Ex) rfl rfl rfl rfl
  exact (lss_cons (ls_for (passes_of rfl) rfl (li_rng1 rfl E.f_range le_int) (lg_name (pg_name (i := 1) S.nd rfl (by first | exact Or.inl rfl | exact Or.inr rfl))) (lss_cons (ls_set (i := 2) S.nd rfl (by first | exact Or.inl rfl | exact Or.inr rfl) (le_joinT (le_str (okS_b (by decide +kernel))) (ll_lc (own := ([("_law_label_here", 7)] : List (Str × Nat))) rfl S.nd (li_any (le_slice (le_call O__law_some_labels (hr.mono l__law_some_labels) rfl g__law_some_labels F__law_some_labels.kp b__law_some_labels tk (la_cons (le_var 0 (pv 0)) la_nil)) lo_none (lo_some le_int))) (blkOk_by (by rfl)) (by decide) (fun _ _ _ _ _ => (lg_name (pg_name (i := 7) S.nd rfl (by first | exact Or.inl rfl | exact Or.inr rfl)))) (fun _ _ _ _ _ => lts_nil) (fun _ _ _ _ _ => (le_op mo_add (le_var 7 (pv 7)) (le_str (okS_b (by decide +kernel))))))))
  (lss_cons (ls_set (i := 3) S.nd rfl (by first | exact Or.inl rfl | exact Or.inr rfl) (le_call O__law_take (hr.mono l__law_take) rfl g__law_take F__law_take.kp b__law_take tk (la_cons (le_var 0 (pv 0)) (la_cons le_int la_nil))))
  (lss_cons (ls_set (i := 4) S.nd rfl (by first | exact Or.inl rfl | exact Or.inr rfl) (le_call O__law_take (hr.mono l__law_take) rfl g__law_take F__law_take.kp b__law_take tk (la_cons (le_var 0 (pv 0)) (la_cons (le_op mo_add (le_callB mc_len rfl E.f_len (by decide +kernel) (la_cons (le_var 2 (pv 2)) la_nil)) le_int) la_nil))))
  (lss_cons (ls_if (lt_cmp (mo_eq hr.units) (le_var 3 (pv 3)) le_int (nomark _)) (lss_one (ls_set (i := 2) S.nd rfl (by first | exact Or.inl rfl | exact Or.inr rfl) (le_op mo_add (le_op mo_add (le_slice (le_var 2 (pv 2)) lo_none (lo_some (le_var 4 (pv 4)))) (le_str (okS_b (by decide +kernel)))) (le_slice (le_var 2 (pv 2)) (lo_some (le_var 4 (pv 4))) lo_none)))) lss_nil)
  (lss_cons (ls_if (lt_cmp (mo_eq hr.units) (le_var 3 (pv 3)) le_int (nomark _)) (lss_one (ls_set (i := 2) S.nd rfl (by first | exact Or.inl rfl | exact Or.inr rfl) (le_op mo_add (le_slice (le_var 2 (pv 2)) lo_none (lo_some (le_var 4 (pv 4)))) (le_slice (le_var 2 (pv 2)) (lo_some (le_op mo_add (le_var 4 (pv 4)) le_int)) lo_none)))) lss_nil)
  (lss_cons (ls_if (lt_cmp (mo_eq hr.units) (le_var 3 (pv 3)) le_int (nomark _)) (lss_cons (ls_set (i := 6) S.nd rfl (by first | exact Or.inl rfl | exact Or.inr rfl) (le_new (ll_lst (la_cons (le_str (okS_b (by decide +kernel))) (la_cons (le_str (okS_b (by decide +kernel))) (la_cons (le_str (okS_b (by decide +kernel))) (la_cons (le_str (okS_b (by decide +kernel))) (la_cons (le_str (okS_b (by decide +kernel))) (la_cons (le_str (okS_b (by decide +kernel))) (la_cons (le_str (okS_b (by decide +kernel))) (la_cons (le_str (okS_b (by decide +kernel))) (la_cons (le_str (okS_b (by decide +kernel))) (la_cons (le_str (okS_b (by decide +kernel))) (la_cons (le_str (okS_b (by decide +kernel))) (la_cons (le_str (okS_b (by decide +kernel))) (la_cons (le_str (okS_b (by decide +kernel))) (la_cons (le_str (okS_b (by decide +kernel))) la_nil)))))))))))))))))
  (lss_one (ls_set (i := 2) S.nd rfl (by first | exact Or.inl rfl | exact Or.inr rfl) (le_ix (le_var 6 (pv 6)) (le_call O__law_take (hr.mono l__law_take) rfl g__law_take F__law_take.kp b__law_take tk (la_cons (le_var 0 (pv 0)) (la_cons le_int la_nil))) (fun _ _ => rfl))))) lss_nil)
  (lss_cons (ls_set (i := 5) S.nd rfl (by first | exact Or.inl rfl | exact Or.inr rfl) (le_call O__law_read (hr.mono l__law_read) rfl g__law_read F__law_read.kp b__law_read tk (la_cons (le_var 2 (pv 2)) la_nil)))
  (lss_one (ls_if (lt_cmp (mo_eq hr.units) (le_var 5 (pv 5)) (le_new (ll_lst la_nil)) (nomark _)) (lss_one (ls_if (PW.pt (lw_or (lt_cmp (mo_ne hr.units) (le_call O__law_told (hr.mono l__law_told) rfl g__law_told F__law_told.kp b__law_told tk (la_cons (le_var 2 (pv 2)) la_nil)) (le_tup (la_cons (le_str (okS_b (by decide +kernel))) (la_cons (le_var 2 (pv 2)) la_nil))) (nomark _)) (lw_or1 (lt_not (lt_truth (le_call O__law_is_base (hr.mono l__law_is_base) rfl g__law_is_base F__law_is_base.kp b__law_is_base tk (la_cons (le_var 2 (pv 2)) la_nil))))))) (lss_one (ls_ret le_bl)) lss_nil)) (lss_one (ls_if (PW.pt (lw_or (lt_not (lt_truth (le_call O__law_same (hr.mono l__law_same) rfl g__law_same F__law_same.kp b__law_same tk (la_cons (le_call O__law_told (hr.mono l__law_told) rfl g__law_told F__law_told.kp b__law_told tk (la_cons (le_var 2 (pv 2)) la_nil)) (la_cons (le_tup (la_cons (le_str (okS_b (by decide +kernel))) (la_cons (le_ix (le_var 5 (pv 5)) le_int (fun _ _ => rfl)) la_nil))) la_nil))))) (lw_or1 (lt_cmp (mo_ne hr.units) (le_call O_show_name (hr.mono l_show_name) rfl g_show_name F_show_name.kp b_show_name tk (la_cons (le_ix (le_var 5 (pv 5)) le_int (fun _ _ => rfl)) la_nil)) (le_var 2 (pv 2)) (nomark _))))) (lss_one (ls_ret le_bl)) lss_nil))))))))))))
  (lss_one (ls_ret le_bl)))
theorem sc_law : FnScope ["_law_script", "_law_k", "_law_pot_here"] ["_law_script"] (defScope s_law) := ⟨rfl, rfl, rfl, by decide +kernel, rfl, by decide +kernel, by decide +kernel⟩
theorem ok_law (E : HX K mg base) {sp sp__law_pot sp__law_labels_right sp__law_names_right sp__law_texts_right : PSp} (H__law_pot : Ok P w K mg base "_law_pot" s__law_pot ["_law_script", "_law_k"] 1 sp__law_pot) (H__law_labels_right : Ok P w K mg base "_law_labels_right" s__law_labels_right ["_law_pot_here"] 19 sp__law_labels_right) (H__law_names_right : Ok P w K mg base "_law_names_right" s__law_names_right ["_law_pot_here"] 22 sp__law_names_right) (H__law_texts_right : Ok P w K mg base "_law_texts_right" s__law_texts_right ["_law_pot_here"] 20 sp__law_texts_right)
    (pure : ∀ vs h Q Ex, vs.length = 1 → sp vs h Q Ex → t_law sp__law_pot sp__law_labels_right sp__law_names_right sp__law_texts_right (body Q Ex) (pstart 3 vs) h) : Ok P w K mg base "law" s_law ["_law_script"] (23) sp := by
  obtain ⟨fd__law_pot, F__law_pot, O__law_pot⟩ := H__law_pot
  have g__law_pot : mg "_law_pot" = some (.ref (He.ga K "_law_pot")) := E.g__law_pot
  have b__law_pot : Binds K fd__law_pot ["_law_script", "_law_k"] [] := F__law_pot.bindsN (fun _ _ _ _ _ _ us hl => match us, hl with | [_, _], _ => rfl)
  have l__law_pot : 1 ≤ 22 := by decide
  obtain ⟨fd__law_labels_right, F__law_labels_right, O__law_labels_right⟩ := H__law_labels_right
  have g__law_labels_right : mg "_law_labels_right" = some (.ref (He.ga K "_law_labels_right")) := E.g__law_labels_right
  have b__law_labels_right : Binds K fd__law_labels_right ["_law_pot_here"] [] := F__law_labels_right.bindsN (fun _ _ _ _ _ _ us hl => match us, hl with | [_], _ => rfl)
  have l__law_labels_right : 19 ≤ 22 := by decide
  obtain ⟨fd__law_names_right, F__law_names_right, O__law_names_right⟩ := H__law_names_right
  have g__law_names_right : mg "_law_names_right" = some (.ref (He.ga K "_law_names_right")) := E.g__law_names_right
  have b__law_names_right : Binds K fd__law_names_right ["_law_pot_here"] [] := F__law_names_right.bindsN (fun _ _ _ _ _ _ us hl => match us, hl with | [_], _ => rfl)
  have l__law_names_right : 22 ≤ 22 := by decide
  obtain ⟨fd__law_texts_right, F__law_texts_right, O__law_texts_right⟩ := H__law_texts_right
  have g__law_texts_right : mg "_law_texts_right" = some (.ref (He.ga K "_law_texts_right")) := E.g__law_texts_right
  have b__law_texts_right : Binds K fd__law_texts_right ["_law_pot_here"] [] := F__law_texts_right.bindsN (fun _ _ _ _ _ _ us hl => match us, hl with | [_], _ => rfl)
  have l__law_texts_right : 20 ≤ 22 := by decide
  obtain ⟨fd, F⟩ := E.d_law
  refine ok_mk (k := 22) F sc_law (fun cdv A outer s H Ex hr => ?_) pure
  have S := sc_law
  have tk := takes_of (X := cxOf (L2.CX P w) P w K mg base ["_law_script", "_law_k", "_law_pot_here"] "law" (defScope s_law) (He.ga K "law") cdv A outer s H Ex) (E := Ex) rfl rfl rfl rfl
  exact (lss_cons (ls_for (passes_of rfl) rfl (li_rng1 rfl E.f_range (le_callB (mc_max2 rfl) rfl E.f_max (by decide +kernel) (la_cons le_int (la_cons (le_callB (mc_min2 rfl) rfl E.f_min (by decide +kernel) (la_cons le_int (la_cons (le_callB mc_len rfl E.f_len (by decide +kernel) (la_cons (le_var 0 (pv 0)) la_nil)) la_nil))) la_nil)))) (lg_name (pg_name (i := 1) S.nd rfl (by first | exact Or.inl rfl | exact Or.inr rfl))) (lss_cons (ls_set (i := 2) S.nd rfl (by first | exact Or.inl rfl | exact Or.inr rfl) (le_call O__law_pot (hr.mono l__law_pot) rfl g__law_pot F__law_pot.kp b__law_pot tk (la_cons (le_var 0 (pv 0)) (la_cons (le_var 1 (pv 1)) la_nil))))
  (lss_one (ls_if (PW.pt (lw_or (lt_not (lt_truth (le_call O__law_labels_right (hr.mono l__law_labels_right) rfl g__law_labels_right F__law_labels_right.kp b__law_labels_right tk (la_cons (le_var 2 (pv 2)) la_nil)))) (lw_or (lt_not (lt_truth (le_call O__law_names_right (hr.mono l__law_names_right) rfl g__law_names_right F__law_names_right.kp b__law_names_right tk (la_cons (le_var 2 (pv 2)) la_nil)))) (lw_or1 (lt_not (lt_truth (le_call O__law_texts_right (hr.mono l__law_texts_right) rfl g__law_texts_right F__law_texts_right.kp b__law_texts_right tk (la_cons (le_var 2 (pv 2)) la_nil)))))))) (lss_one (ls_ret le_bl)) lss_nil))))
  (lss_one (ls_ret le_bl)))
end
end L_k01
set_option maxHeartbeats 4000000
namespace L_k01
open PySem MP TL
theorem pure__law_take (vs : List PV) (h : PHeap) (Q : PQ) (Ex : PXQ) (_ : vs.length = 2) (hh : sp_draw vs h Q Ex) : t__law_take (body Q Ex) (pstart 4 vs) h := by
  obtain ⟨p, m, n, rfl, m0, m1, P, k⟩ := hh
  have l := P.lt
  obtain ⟨a, b, c, e, a0, b0, b1, c0, c1⟩ := P
  show t__law_take (body Q Ex) [some (.ref p), some (.int m), none, none] h
  unfold t__law_take
  simp only [MP.pSeq, MP.pIfS, MP.pRet, MP.pRetN, MP.pNext, MP.pAsg, MP.pDrop, MP.pBrk, MP.pCt, MP.pVar, MP.pC, MP.pOp, MP.pUn, MP.pNil, MP.pCons, MP.pCB, MP.pCall, MP.pTup, MP.pTmp, MP.pNew, MP.pCT, MP.pIf, MP.pB, MP.pT, MP.pAnd, MP.pOr, MP.pNot, MP.pAndV, MP.pOrV, MP.pNotV, MP.pChain, MP.pG, MP.pGs, MP.pIxT, MP.pSlice, MP.pPart, MP.pNoPart, MP.pMtT, MP.pJoinT, MP.pAsgS, MP.pAug, MP.body, MP.gd, MP.e_add_ii, MP.e_add_ss, MP.e_add_tt, MP.e_add_rr, MP.e_sub, MP.e_mul_ii, MP.e_mul_si, MP.e_mul_ri, MP.e_iadd_ii, MP.e_iadd_ss, MP.e_pow, MP.e_fdiv, MP.e_mod, MP.e_neg, MP.e_lt, MP.e_le, MP.e_gt, MP.e_ge, MP.e_eq_ii, MP.e_ne_ii, MP.e_eq_ss, MP.e_ne_ss, MP.e_eq_bb, MP.e_ne_bb, MP.e_isN, MP.e_notN, MP.e_ix_s, MP.e_ix_t, MP.e_ix_f, MP.e_ix_r, MP.e_ixT, MP.e_set, MP.e_len_s, MP.e_len_t, MP.e_len_f, MP.e_len_r, MP.e_lenT, MP.e_int_i, MP.e_int_b, MP.e_abs, MP.e_max, MP.e_min, MP.e_tupI, MP.e_lstI, MP.e_allI, MP.e_anyI, MP.e_onI_t, MP.e_onI_f, MP.e_onI_r, MP.e_onL_r, MP.e_isi_n, MP.e_isi_b, MP.e_isi_i, MP.e_isi_s, MP.e_isi_t, MP.e_isi_f, MP.e_isiT_n, MP.e_isiT_b, MP.e_isiT_i, MP.e_isiT_s, MP.e_isiT_t, MP.e_isiT_f, MP.e_app, MP.e_split, MP.e_joinI, MP.e_join_r, MP.e_cut_s, MP.e_cut_t, MP.e_cut_f, MP.e_cut_r, MP.tr_b, MP.tr_i, MP.tr_s, MP.tr_n, MP.tr_t, MP.tr_r, MP.x_n, MP.x_b, MP.x_i, MP.x_s, MP.x_t, MP.x_f, MP.x_r, MP.atI_0, MP.atI_1, MP.atI_2, MP.atI_3, MP.atI_m1, MP.ixN_c0, MP.ixN_c1, MP.ixN_c2, MP.e_in_ss, MP.ib_NoneType_bool, MP.ib_NoneType_int, MP.ib_NoneType_str, MP.ib_NoneType_tuple, MP.ib_NoneType_list, MP.ib_NoneType_dict, MP.ib_NoneType_set, MP.ib_bool_bool, MP.ib_bool_int, MP.ib_bool_str, MP.ib_bool_tuple, MP.ib_bool_list, MP.ib_bool_dict, MP.ib_bool_set, MP.ib_int_bool, MP.ib_int_int, MP.ib_int_str, MP.ib_int_tuple, MP.ib_int_list, MP.ib_int_dict, MP.ib_int_set, MP.ib_str_bool, MP.ib_str_int, MP.ib_str_str, MP.ib_str_tuple, MP.ib_str_list, MP.ib_str_dict, MP.ib_str_set, MP.ib_tuple_bool, MP.ib_tuple_int, MP.ib_tuple_str, MP.ib_tuple_tuple, MP.ib_tuple_list, MP.ib_tuple_dict, MP.ib_tuple_set, MP.ib_list_bool, MP.ib_list_int, MP.ib_list_str, MP.ib_list_tuple, MP.ib_list_list, MP.ib_list_dict, MP.ib_list_set, MP.ib_dict_bool, MP.ib_dict_int, MP.ib_dict_str, MP.ib_dict_tuple, MP.ib_dict_list, MP.ib_dict_dict, MP.ib_dict_set, MP.ib_set_bool, MP.ib_set_int, MP.ib_set_str, MP.ib_set_tuple, MP.ib_set_list, MP.ib_set_dict, MP.ib_set_set, Bool.not_true, Bool.not_false, List.any_cons, List.any_nil, Bool.or_false, Bool.or_true, Bool.true_or, Bool.false_or, Bool.and_true, Bool.true_and, Bool.and_false, Bool.false_and, if_true, if_false, ite_true, ite_false, and_true, true_and, Bool.false_eq_true, List.getElem?_cons_zero, List.getElem?_cons_succ, List.set_cons_zero, List.set_cons_succ, List.length_cons, List.length_nil, List.cons_append, List.nil_append, e, List.getElem?_set_self l, List.length_set]
  by_cases ha : 0 < a
  · rw [if_pos (decide_eq_true ha)]
    refine ⟨m0, ⟨m0, log2_lt m0 m1⟩, k _ _ (Int.emod_nonneg _ (by omega)) (Int.emod_lt_of_pos _ m0) ⟨a / m, b, c, List.getElem?_set_self l, Int.ediv_nonneg a0 (by omega), b0, b1, c0, by omega⟩ (.put _) (by simp)⟩
  · rw [if_neg (by simpa using ha)]
    have hp : powOk (b + 999983 * (c + 1)) 3 := pow_cube (by omega) (by omega)
    have h10 : powOk 10 37 := ⟨by decide, 4, by decide, by decide⟩
    refine ⟨mulOk_l (by decide), hp, mulOk_l (by decide), h10, by decide, ⟨by decide, by decide +kernel⟩, m0, k _ _ (Int.emod_nonneg _ (by omega)) (Int.emod_lt_of_pos _ m0) ⟨a, b, c + 1, List.getElem?_set_self l, a0, b0, b1, by omega, by omega⟩ (.put _) (by simp)⟩


/-! ### labels and names -/
def signs : List Nat := tl "-0123456789abcdefghijklmnopqrstuvwxyz"
def labL (l : List Nat) : Bool := decide (1 ≤ l.length) && (decide (l.length ≤ 20) && ((l == [42]) || (!(l.head? == some 45) && (!(l.getLast? == some 45) && l.all fun c => decide (c ∈ signs)))))
def isLab : PV → Bool
  | .str s => labL (tl s)
  | _ => false
def sp_is_label : PSp := fun vs h Q _ => ∃ v, vs = [v] ∧ (tyOf h v).isSome = true ∧ Q (.bl (isLab v)) h
theorem star_eq (s : Str) : (s == ("*" : Str)) = (tl s == [42]) := str_eq_tl s _
theorem dash_eq (c : Nat) : ((⟨#[c]⟩ : Str) == ("-" : Str)) = (c == 45) := one_eq c 45
theorem size20 : 20 ≤ sizeLine := by rw [sizeLine_eq]; decide
theorem pure_is_label (vs : List PV) (h : PHeap) (Q : PQ) (Ex : PXQ) (_ : vs.length = 1) (hh : sp_is_label vs h Q Ex) : t_is_label (body Q Ex) (pstart 2 vs) h := by
  obtain ⟨v, rfl, hty, k⟩ := hh
  have hx := ty_notExc hty
  show t_is_label (body Q Ex) [some v, none] h
  unfold t_is_label
  cases v with
  | str s =>
    have k : Q (.bl (labL (tl s))) h := k
    unfold labL at k
    simp only [MP.pSeq, MP.pIfS, MP.pRet, MP.pRetN, MP.pNext, MP.pAsg, MP.pDrop, MP.pBrk, MP.pCt, MP.pVar, MP.pC, MP.pOp, MP.pUn, MP.pNil, MP.pCons, MP.pCB, MP.pCall, MP.pTup, MP.pTmp, MP.pNew, MP.pCT, MP.pIf, MP.pB, MP.pT, MP.pAnd, MP.pOr, MP.pNot, MP.pAndV, MP.pOrV, MP.pNotV, MP.pChain, MP.pG, MP.pGs, MP.pIxT, MP.pSlice, MP.pPart, MP.pNoPart, MP.pMtT, MP.pJoinT, MP.pAsgS, MP.pAug, MP.body, MP.gd, MP.e_add_ii, MP.e_add_ss, MP.e_add_tt, MP.e_add_rr, MP.e_sub, MP.e_mul_ii, MP.e_mul_si, MP.e_mul_ri, MP.e_iadd_ii, MP.e_iadd_ss, MP.e_pow, MP.e_fdiv, MP.e_mod, MP.e_neg, MP.e_lt, MP.e_le, MP.e_gt, MP.e_ge, MP.e_eq_ii, MP.e_ne_ii, MP.e_eq_ss, MP.e_ne_ss, MP.e_eq_bb, MP.e_ne_bb, MP.e_isN, MP.e_notN, MP.e_ix_s, MP.e_ix_t, MP.e_ix_f, MP.e_ix_r, MP.e_ixT, MP.e_set, MP.e_len_s, MP.e_len_t, MP.e_len_f, MP.e_len_r, MP.e_lenT, MP.e_int_i, MP.e_int_b, MP.e_abs, MP.e_max, MP.e_min, MP.e_tupI, MP.e_lstI, MP.e_allI, MP.e_anyI, MP.e_onI_t, MP.e_onI_f, MP.e_onI_r, MP.e_onL_r, MP.e_isi_n, MP.e_isi_b, MP.e_isi_i, MP.e_isi_s, MP.e_isi_t, MP.e_isi_f, MP.e_isiT_n, MP.e_isiT_b, MP.e_isiT_i, MP.e_isiT_s, MP.e_isiT_t, MP.e_isiT_f, MP.e_app, MP.e_split, MP.e_joinI, MP.e_join_r, MP.e_cut_s, MP.e_cut_t, MP.e_cut_f, MP.e_cut_r, MP.tr_b, MP.tr_i, MP.tr_s, MP.tr_n, MP.tr_t, MP.tr_r, MP.x_n, MP.x_b, MP.x_i, MP.x_s, MP.x_t, MP.x_f, MP.x_r, MP.atI_0, MP.atI_1, MP.atI_2, MP.atI_3, MP.atI_m1, MP.ixN_c0, MP.ixN_c1, MP.ixN_c2, MP.e_in_ss, MP.ib_NoneType_bool, MP.ib_NoneType_int, MP.ib_NoneType_str, MP.ib_NoneType_tuple, MP.ib_NoneType_list, MP.ib_NoneType_dict, MP.ib_NoneType_set, MP.ib_bool_bool, MP.ib_bool_int, MP.ib_bool_str, MP.ib_bool_tuple, MP.ib_bool_list, MP.ib_bool_dict, MP.ib_bool_set, MP.ib_int_bool, MP.ib_int_int, MP.ib_int_str, MP.ib_int_tuple, MP.ib_int_list, MP.ib_int_dict, MP.ib_int_set, MP.ib_str_bool, MP.ib_str_int, MP.ib_str_str, MP.ib_str_tuple, MP.ib_str_list, MP.ib_str_dict, MP.ib_str_set, MP.ib_tuple_bool, MP.ib_tuple_int, MP.ib_tuple_str, MP.ib_tuple_tuple, MP.ib_tuple_list, MP.ib_tuple_dict, MP.ib_tuple_set, MP.ib_list_bool, MP.ib_list_int, MP.ib_list_str, MP.ib_list_tuple, MP.ib_list_list, MP.ib_list_dict, MP.ib_list_set, MP.ib_dict_bool, MP.ib_dict_int, MP.ib_dict_str, MP.ib_dict_tuple, MP.ib_dict_list, MP.ib_dict_dict, MP.ib_dict_set, MP.ib_set_bool, MP.ib_set_int, MP.ib_set_str, MP.ib_set_tuple, MP.ib_set_list, MP.ib_set_dict, MP.ib_set_set, Bool.not_true, Bool.not_false, List.any_cons, List.any_nil, Bool.or_false, Bool.or_true, Bool.true_or, Bool.false_or, Bool.and_true, Bool.true_and, Bool.and_false, Bool.false_and, if_true, if_false, ite_true, ite_false, and_true, true_and, Bool.false_eq_true, List.getElem?_cons_zero, List.getElem?_cons_succ, List.set_cons_zero, List.set_cons_succ, List.length_cons, List.length_nil, List.cons_append, List.nil_append]
    rw [len_tl, star_eq]
    have last : (tl s).length ≤ 20 → (Q (.bl ((tl s).all fun c => decide (c ∈ signs))) h) → pLc (pIter (pVar 0)) (Tg.nm 1) pYes (pOp rInP (pVar 1) (pC (PV.str (Str.ofString "-0123456789abcdefghijklmnopqrstuvwxyz")))) [1]
                    [some (PV.str s), none] h (fun vs h1 => MP.rAllI vs h1 Q) fun c v h1 => Ex c v h1 := fun hl q => by
      have hl2 : s.length ≤ sizeLine := by rw [len_tl]; exact Nat.le_trans hl size20
      refine ⟨rfl, lc_chars (fun c => .bl (decide (c ∈ signs))) hl2 trivial (fun c _ Q q => ⟨rfl, ?_⟩) ?_⟩
      · show Q (.bl (strIn ⟨#[c]⟩ "-0123456789abcdefghijklmnopqrstuvwxyz")) h
        rw [strIn_one]
        exact q
      · rw [all_vals]
        exact q
    by_cases h1 : 1 ≤ (tl s).length
    · by_cases h2 : (tl s).length ≤ 20
      · obtain ⟨c, r, e⟩ : ∃ c r, tl s = c :: r := by
          cases e : tl s with
          | nil => rw [e] at h1; cases h1
          | cons c r => exact ⟨c, r, rfl⟩
        have e' : s.cps.toList = c :: r := e
        have last := last h2
        rw [e] at k h1 h2
        rw [e] at last
        obtain ⟨z, ez⟩ : ∃ z, (c :: r).getLast? = some z := ⟨_, List.getLast?_cons⟩
        simp only [e, e', ez, dash_eq, List.getElem?_cons_zero, List.head?_cons, Option.some_beq_some] at k ⊢
        rw [decide_eq_true h1, decide_eq_true h2] at k
        rw [decide_eq_true (show (1 : Int) ≤ ((c :: r).length : Int) by omega), decide_eq_true (show ((c :: r).length : Int) ≤ 20 by omega)]
        by_cases a1 : (c :: r == [42]) = true
        · rw [a1] at k ⊢
          exact k
        · rw [Bool.not_eq_true] at a1
          rw [a1] at k ⊢
          by_cases a2 : (c == 45) = true
          · rw [a2] at k ⊢
            exact k
          · rw [Bool.not_eq_true] at a2
            rw [a2] at k ⊢
            by_cases a3 : (z == 45) = true
            · rw [a3] at k ⊢
              exact k
            · rw [Bool.not_eq_true] at a3
              rw [a3] at k ⊢
              exact last k
      · rw [decide_eq_true h1, decide_eq_false h2] at k
        rw [decide_eq_true (show (1 : Int) ≤ ((tl s).length : Int) by omega), decide_eq_false (show ¬ ((tl s).length : Int) ≤ 20 by omega)]
        exact k
    · rw [decide_eq_false h1] at k
      rw [decide_eq_false (show ¬ (1 : Int) ≤ ((tl s).length : Int) by omega)]
      exact k
  | exc c x => cases hty
  | ref n =>
    obtain ⟨t, et, ht⟩ := ty_ref hty
    simp only [MP.pSeq, MP.pIfS, MP.pRet, MP.pRetN, MP.pNext, MP.pAsg, MP.pDrop, MP.pBrk, MP.pCt, MP.pVar, MP.pC, MP.pOp, MP.pUn, MP.pNil, MP.pCons, MP.pCB, MP.pCall, MP.pTup, MP.pTmp, MP.pNew, MP.pCT, MP.pIf, MP.pB, MP.pT, MP.pAnd, MP.pOr, MP.pNot, MP.pAndV, MP.pOrV, MP.pNotV, MP.pChain, MP.pG, MP.pGs, MP.pIxT, MP.pSlice, MP.pPart, MP.pNoPart, MP.pMtT, MP.pJoinT, MP.pAsgS, MP.pAug, MP.body, MP.gd, MP.e_add_ii, MP.e_add_ss, MP.e_add_tt, MP.e_add_rr, MP.e_sub, MP.e_mul_ii, MP.e_mul_si, MP.e_mul_ri, MP.e_iadd_ii, MP.e_iadd_ss, MP.e_pow, MP.e_fdiv, MP.e_mod, MP.e_neg, MP.e_lt, MP.e_le, MP.e_gt, MP.e_ge, MP.e_eq_ii, MP.e_ne_ii, MP.e_eq_ss, MP.e_ne_ss, MP.e_eq_bb, MP.e_ne_bb, MP.e_isN, MP.e_notN, MP.e_ix_s, MP.e_ix_t, MP.e_ix_f, MP.e_ix_r, MP.e_ixT, MP.e_set, MP.e_len_s, MP.e_len_t, MP.e_len_f, MP.e_len_r, MP.e_lenT, MP.e_int_i, MP.e_int_b, MP.e_abs, MP.e_max, MP.e_min, MP.e_tupI, MP.e_lstI, MP.e_allI, MP.e_anyI, MP.e_onI_t, MP.e_onI_f, MP.e_onI_r, MP.e_onL_r, MP.e_isi_n, MP.e_isi_b, MP.e_isi_i, MP.e_isi_s, MP.e_isi_t, MP.e_isi_f, MP.e_isiT_n, MP.e_isiT_b, MP.e_isiT_i, MP.e_isiT_s, MP.e_isiT_t, MP.e_isiT_f, MP.e_app, MP.e_split, MP.e_joinI, MP.e_join_r, MP.e_cut_s, MP.e_cut_t, MP.e_cut_f, MP.e_cut_r, MP.tr_b, MP.tr_i, MP.tr_s, MP.tr_n, MP.tr_t, MP.tr_r, MP.x_n, MP.x_b, MP.x_i, MP.x_s, MP.x_t, MP.x_f, MP.x_r, MP.atI_0, MP.atI_1, MP.atI_2, MP.atI_3, MP.atI_m1, MP.ixN_c0, MP.ixN_c1, MP.ixN_c2, MP.e_in_ss, MP.ib_NoneType_bool, MP.ib_NoneType_int, MP.ib_NoneType_str, MP.ib_NoneType_tuple, MP.ib_NoneType_list, MP.ib_NoneType_dict, MP.ib_NoneType_set, MP.ib_bool_bool, MP.ib_bool_int, MP.ib_bool_str, MP.ib_bool_tuple, MP.ib_bool_list, MP.ib_bool_dict, MP.ib_bool_set, MP.ib_int_bool, MP.ib_int_int, MP.ib_int_str, MP.ib_int_tuple, MP.ib_int_list, MP.ib_int_dict, MP.ib_int_set, MP.ib_str_bool, MP.ib_str_int, MP.ib_str_str, MP.ib_str_tuple, MP.ib_str_list, MP.ib_str_dict, MP.ib_str_set, MP.ib_tuple_bool, MP.ib_tuple_int, MP.ib_tuple_str, MP.ib_tuple_tuple, MP.ib_tuple_list, MP.ib_tuple_dict, MP.ib_tuple_set, MP.ib_list_bool, MP.ib_list_int, MP.ib_list_str, MP.ib_list_tuple, MP.ib_list_list, MP.ib_list_dict, MP.ib_list_set, MP.ib_dict_bool, MP.ib_dict_int, MP.ib_dict_str, MP.ib_dict_tuple, MP.ib_dict_list, MP.ib_dict_dict, MP.ib_dict_set, MP.ib_set_bool, MP.ib_set_int, MP.ib_set_str, MP.ib_set_tuple, MP.ib_set_list, MP.ib_set_dict, MP.ib_set_set, Bool.not_true, Bool.not_false, List.any_cons, List.any_nil, Bool.or_false, Bool.or_true, Bool.true_or, Bool.false_or, Bool.and_true, Bool.true_and, Bool.and_false, Bool.false_and, if_true, if_false, ite_true, ite_false, and_true, true_and, Bool.false_eq_true, List.getElem?_cons_zero, List.getElem?_cons_succ, List.set_cons_zero, List.set_cons_succ, List.length_cons, List.length_nil, List.cons_append, List.nil_append, e_isi et]
    rcases ht with rfl | rfl | rfl <;> exact k
  | _ => simp only [MP.pSeq, MP.pIfS, MP.pRet, MP.pRetN, MP.pNext, MP.pAsg, MP.pDrop, MP.pBrk, MP.pCt, MP.pVar, MP.pC, MP.pOp, MP.pUn, MP.pNil, MP.pCons, MP.pCB, MP.pCall, MP.pTup, MP.pTmp, MP.pNew, MP.pCT, MP.pIf, MP.pB, MP.pT, MP.pAnd, MP.pOr, MP.pNot, MP.pAndV, MP.pOrV, MP.pNotV, MP.pChain, MP.pG, MP.pGs, MP.pIxT, MP.pSlice, MP.pPart, MP.pNoPart, MP.pMtT, MP.pJoinT, MP.pAsgS, MP.pAug, MP.body, MP.gd, MP.e_add_ii, MP.e_add_ss, MP.e_add_tt, MP.e_add_rr, MP.e_sub, MP.e_mul_ii, MP.e_mul_si, MP.e_mul_ri, MP.e_iadd_ii, MP.e_iadd_ss, MP.e_pow, MP.e_fdiv, MP.e_mod, MP.e_neg, MP.e_lt, MP.e_le, MP.e_gt, MP.e_ge, MP.e_eq_ii, MP.e_ne_ii, MP.e_eq_ss, MP.e_ne_ss, MP.e_eq_bb, MP.e_ne_bb, MP.e_isN, MP.e_notN, MP.e_ix_s, MP.e_ix_t, MP.e_ix_f, MP.e_ix_r, MP.e_ixT, MP.e_set, MP.e_len_s, MP.e_len_t, MP.e_len_f, MP.e_len_r, MP.e_lenT, MP.e_int_i, MP.e_int_b, MP.e_abs, MP.e_max, MP.e_min, MP.e_tupI, MP.e_lstI, MP.e_allI, MP.e_anyI, MP.e_onI_t, MP.e_onI_f, MP.e_onI_r, MP.e_onL_r, MP.e_isi_n, MP.e_isi_b, MP.e_isi_i, MP.e_isi_s, MP.e_isi_t, MP.e_isi_f, MP.e_isiT_n, MP.e_isiT_b, MP.e_isiT_i, MP.e_isiT_s, MP.e_isiT_t, MP.e_isiT_f, MP.e_app, MP.e_split, MP.e_joinI, MP.e_join_r, MP.e_cut_s, MP.e_cut_t, MP.e_cut_f, MP.e_cut_r, MP.tr_b, MP.tr_i, MP.tr_s, MP.tr_n, MP.tr_t, MP.tr_r, MP.x_n, MP.x_b, MP.x_i, MP.x_s, MP.x_t, MP.x_f, MP.x_r, MP.atI_0, MP.atI_1, MP.atI_2, MP.atI_3, MP.atI_m1, MP.ixN_c0, MP.ixN_c1, MP.ixN_c2, MP.e_in_ss, MP.ib_NoneType_bool, MP.ib_NoneType_int, MP.ib_NoneType_str, MP.ib_NoneType_tuple, MP.ib_NoneType_list, MP.ib_NoneType_dict, MP.ib_NoneType_set, MP.ib_bool_bool, MP.ib_bool_int, MP.ib_bool_str, MP.ib_bool_tuple, MP.ib_bool_list, MP.ib_bool_dict, MP.ib_bool_set, MP.ib_int_bool, MP.ib_int_int, MP.ib_int_str, MP.ib_int_tuple, MP.ib_int_list, MP.ib_int_dict, MP.ib_int_set, MP.ib_str_bool, MP.ib_str_int, MP.ib_str_str, MP.ib_str_tuple, MP.ib_str_list, MP.ib_str_dict, MP.ib_str_set, MP.ib_tuple_bool, MP.ib_tuple_int, MP.ib_tuple_str, MP.ib_tuple_tuple, MP.ib_tuple_list, MP.ib_tuple_dict, MP.ib_tuple_set, MP.ib_list_bool, MP.ib_list_int, MP.ib_list_str, MP.ib_list_tuple, MP.ib_list_list, MP.ib_list_dict, MP.ib_list_set, MP.ib_dict_bool, MP.ib_dict_int, MP.ib_dict_str, MP.ib_dict_tuple, MP.ib_dict_list, MP.ib_dict_dict, MP.ib_dict_set, MP.ib_set_bool, MP.ib_set_int, MP.ib_set_str, MP.ib_set_tuple, MP.ib_set_list, MP.ib_set_dict, MP.ib_set_set, Bool.not_true, Bool.not_false, List.any_cons, List.any_nil, Bool.or_false, Bool.or_true, Bool.true_or, Bool.false_or, Bool.and_true, Bool.true_and, Bool.and_false, Bool.false_and, if_true, if_false, ite_true, ite_false, and_true, true_and, Bool.false_eq_true, List.getElem?_cons_zero, List.getElem?_cons_succ, List.set_cons_zero, List.set_cons_succ, List.length_cons, List.length_nil, List.cons_append, List.nil_append]; exact k


theorem good_mem (c : Nat) : c ∈ tl "abcdefghijklmnopqrstuvwxyz0123456789-" ↔ c ∈ signs := by
  have p : (tl "abcdefghijklmnopqrstuvwxyz0123456789-").Perm signs := by decide +kernel
  exact p.mem_iff
theorem pure__law_is_label (vs : List PV) (h : PHeap) (Q : PQ) (Ex : PXQ) (_ : vs.length = 1) (hh : sp_is_label vs h Q Ex) : t__law_is_label (body Q Ex) (pstart 3 vs) h := by
  obtain ⟨v, rfl, hty, k⟩ := hh
  have hx := ty_notExc hty
  show t__law_is_label (body Q Ex) [some v, none, none] h
  unfold t__law_is_label
  cases v with
  | str s =>
    have k : Q (.bl (labL (tl s))) h := k
    unfold labL at k
    simp only [MP.pSeq, MP.pIfS, MP.pRet, MP.pRetN, MP.pNext, MP.pAsg, MP.pDrop, MP.pBrk, MP.pCt, MP.pVar, MP.pC, MP.pOp, MP.pUn, MP.pNil, MP.pCons, MP.pCB, MP.pCall, MP.pTup, MP.pTmp, MP.pNew, MP.pCT, MP.pIf, MP.pB, MP.pT, MP.pAnd, MP.pOr, MP.pNot, MP.pAndV, MP.pOrV, MP.pNotV, MP.pChain, MP.pG, MP.pGs, MP.pIxT, MP.pSlice, MP.pPart, MP.pNoPart, MP.pMtT, MP.pJoinT, MP.pAsgS, MP.pAug, MP.body, MP.gd, MP.e_add_ii, MP.e_add_ss, MP.e_add_tt, MP.e_add_rr, MP.e_sub, MP.e_mul_ii, MP.e_mul_si, MP.e_mul_ri, MP.e_iadd_ii, MP.e_iadd_ss, MP.e_pow, MP.e_fdiv, MP.e_mod, MP.e_neg, MP.e_lt, MP.e_le, MP.e_gt, MP.e_ge, MP.e_eq_ii, MP.e_ne_ii, MP.e_eq_ss, MP.e_ne_ss, MP.e_eq_bb, MP.e_ne_bb, MP.e_isN, MP.e_notN, MP.e_ix_s, MP.e_ix_t, MP.e_ix_f, MP.e_ix_r, MP.e_ixT, MP.e_set, MP.e_len_s, MP.e_len_t, MP.e_len_f, MP.e_len_r, MP.e_lenT, MP.e_int_i, MP.e_int_b, MP.e_abs, MP.e_max, MP.e_min, MP.e_tupI, MP.e_lstI, MP.e_allI, MP.e_anyI, MP.e_onI_t, MP.e_onI_f, MP.e_onI_r, MP.e_onL_r, MP.e_isi_n, MP.e_isi_b, MP.e_isi_i, MP.e_isi_s, MP.e_isi_t, MP.e_isi_f, MP.e_isiT_n, MP.e_isiT_b, MP.e_isiT_i, MP.e_isiT_s, MP.e_isiT_t, MP.e_isiT_f, MP.e_app, MP.e_split, MP.e_joinI, MP.e_join_r, MP.e_cut_s, MP.e_cut_t, MP.e_cut_f, MP.e_cut_r, MP.tr_b, MP.tr_i, MP.tr_s, MP.tr_n, MP.tr_t, MP.tr_r, MP.x_n, MP.x_b, MP.x_i, MP.x_s, MP.x_t, MP.x_f, MP.x_r, MP.atI_0, MP.atI_1, MP.atI_2, MP.atI_3, MP.atI_m1, MP.ixN_c0, MP.ixN_c1, MP.ixN_c2, MP.e_in_ss, MP.ib_NoneType_bool, MP.ib_NoneType_int, MP.ib_NoneType_str, MP.ib_NoneType_tuple, MP.ib_NoneType_list, MP.ib_NoneType_dict, MP.ib_NoneType_set, MP.ib_bool_bool, MP.ib_bool_int, MP.ib_bool_str, MP.ib_bool_tuple, MP.ib_bool_list, MP.ib_bool_dict, MP.ib_bool_set, MP.ib_int_bool, MP.ib_int_int, MP.ib_int_str, MP.ib_int_tuple, MP.ib_int_list, MP.ib_int_dict, MP.ib_int_set, MP.ib_str_bool, MP.ib_str_int, MP.ib_str_str, MP.ib_str_tuple, MP.ib_str_list, MP.ib_str_dict, MP.ib_str_set, MP.ib_tuple_bool, MP.ib_tuple_int, MP.ib_tuple_str, MP.ib_tuple_tuple, MP.ib_tuple_list, MP.ib_tuple_dict, MP.ib_tuple_set, MP.ib_list_bool, MP.ib_list_int, MP.ib_list_str, MP.ib_list_tuple, MP.ib_list_list, MP.ib_list_dict, MP.ib_list_set, MP.ib_dict_bool, MP.ib_dict_int, MP.ib_dict_str, MP.ib_dict_tuple, MP.ib_dict_list, MP.ib_dict_dict, MP.ib_dict_set, MP.ib_set_bool, MP.ib_set_int, MP.ib_set_str, MP.ib_set_tuple, MP.ib_set_list, MP.ib_set_dict, MP.ib_set_set, Bool.not_true, Bool.not_false, List.any_cons, List.any_nil, Bool.or_false, Bool.or_true, Bool.true_or, Bool.false_or, Bool.and_true, Bool.true_and, Bool.and_false, Bool.false_and, if_true, if_false, ite_true, ite_false, and_true, true_and, Bool.false_eq_true, List.getElem?_cons_zero, List.getElem?_cons_succ, List.set_cons_zero, List.set_cons_succ, List.length_cons, List.length_nil, List.cons_append, List.nil_append]
    rw [len_tl, star_eq]
    by_cases h1 : 1 ≤ (tl s).length
    · by_cases h2 : (tl s).length ≤ 20
      · obtain ⟨c, r, e⟩ : ∃ c r, tl s = c :: r := by
          cases e : tl s with
          | nil => rw [e] at h1; cases h1
          | cons c r => exact ⟨c, r, rfl⟩
        have e' : s.cps.toList = c :: r := e
        have hl2 : s.length ≤ sizeLine := by rw [len_tl]; exact Nat.le_trans h2 size20
        obtain ⟨z, ez⟩ : ∃ z, (c :: r).getLast? = some z := ⟨_, List.getLast?_cons⟩
        have ez' : L2.atI (c :: r) (((r.length + 1 : Nat) : Int) - 1) = some z := by
          rw [atI_pos (by omega), ← ez, List.getLast?_eq_getElem?]
          congr 1
          simp
        rw [e] at h1 h2
        simp only [e, e', ez, dash_eq, List.getElem?_cons_zero, List.head?_cons, Option.some_beq_some] at k ⊢
        rw [decide_eq_true h1, decide_eq_true h2] at k
        rw [decide_eq_false (show ¬ ((c :: r).length : Int) < 1 by omega), decide_eq_false (show ¬ (20 : Int) < ((c :: r).length : Int) by omega)]
        by_cases a1 : (c :: r == [42]) = true
        · rw [a1] at k ⊢
          exact k
        · rw [Bool.not_eq_true] at a1
          rw [a1] at k ⊢
          refine ⟨rfl, lc_chars (fun c => .bl (decide (c ∈ signs))) hl2 trivial (fun c _ Q q => ⟨rfl, rfl, ?_⟩) ?_⟩
          · show Q (.bl (strIn ⟨#[c]⟩ "abcdefghijklmnopqrstuvwxyz0123456789-")) h
            rw [strIn_one, decide_eq_decide.mpr (good_mem c)]
            exact q
          · rw [all_vals, e]
            generalize ((c :: r).all fun c => decide (c ∈ signs)) = b at k ⊢
            generalize (c == 45) = b2 at k ⊢
            simp only [MP.pSeq, MP.pIfS, MP.pRet, MP.pRetN, MP.pNext, MP.pAsg, MP.pDrop, MP.pBrk, MP.pCt, MP.pVar, MP.pC, MP.pOp, MP.pUn, MP.pNil, MP.pCons, MP.pCB, MP.pCall, MP.pTup, MP.pTmp, MP.pNew, MP.pCT, MP.pIf, MP.pB, MP.pT, MP.pAnd, MP.pOr, MP.pNot, MP.pAndV, MP.pOrV, MP.pNotV, MP.pChain, MP.pG, MP.pGs, MP.pIxT, MP.pSlice, MP.pPart, MP.pNoPart, MP.pMtT, MP.pJoinT, MP.pAsgS, MP.pAug, MP.body, MP.gd, MP.e_add_ii, MP.e_add_ss, MP.e_add_tt, MP.e_add_rr, MP.e_sub, MP.e_mul_ii, MP.e_mul_si, MP.e_mul_ri, MP.e_iadd_ii, MP.e_iadd_ss, MP.e_pow, MP.e_fdiv, MP.e_mod, MP.e_neg, MP.e_lt, MP.e_le, MP.e_gt, MP.e_ge, MP.e_eq_ii, MP.e_ne_ii, MP.e_eq_ss, MP.e_ne_ss, MP.e_eq_bb, MP.e_ne_bb, MP.e_isN, MP.e_notN, MP.e_ix_s, MP.e_ix_t, MP.e_ix_f, MP.e_ix_r, MP.e_ixT, MP.e_set, MP.e_len_s, MP.e_len_t, MP.e_len_f, MP.e_len_r, MP.e_lenT, MP.e_int_i, MP.e_int_b, MP.e_abs, MP.e_max, MP.e_min, MP.e_tupI, MP.e_lstI, MP.e_allI, MP.e_anyI, MP.e_onI_t, MP.e_onI_f, MP.e_onI_r, MP.e_onL_r, MP.e_isi_n, MP.e_isi_b, MP.e_isi_i, MP.e_isi_s, MP.e_isi_t, MP.e_isi_f, MP.e_isiT_n, MP.e_isiT_b, MP.e_isiT_i, MP.e_isiT_s, MP.e_isiT_t, MP.e_isiT_f, MP.e_app, MP.e_split, MP.e_joinI, MP.e_join_r, MP.e_cut_s, MP.e_cut_t, MP.e_cut_f, MP.e_cut_r, MP.tr_b, MP.tr_i, MP.tr_s, MP.tr_n, MP.tr_t, MP.tr_r, MP.x_n, MP.x_b, MP.x_i, MP.x_s, MP.x_t, MP.x_f, MP.x_r, MP.atI_0, MP.atI_1, MP.atI_2, MP.atI_3, MP.atI_m1, MP.ixN_c0, MP.ixN_c1, MP.ixN_c2, MP.e_in_ss, MP.ib_NoneType_bool, MP.ib_NoneType_int, MP.ib_NoneType_str, MP.ib_NoneType_tuple, MP.ib_NoneType_list, MP.ib_NoneType_dict, MP.ib_NoneType_set, MP.ib_bool_bool, MP.ib_bool_int, MP.ib_bool_str, MP.ib_bool_tuple, MP.ib_bool_list, MP.ib_bool_dict, MP.ib_bool_set, MP.ib_int_bool, MP.ib_int_int, MP.ib_int_str, MP.ib_int_tuple, MP.ib_int_list, MP.ib_int_dict, MP.ib_int_set, MP.ib_str_bool, MP.ib_str_int, MP.ib_str_str, MP.ib_str_tuple, MP.ib_str_list, MP.ib_str_dict, MP.ib_str_set, MP.ib_tuple_bool, MP.ib_tuple_int, MP.ib_tuple_str, MP.ib_tuple_tuple, MP.ib_tuple_list, MP.ib_tuple_dict, MP.ib_tuple_set, MP.ib_list_bool, MP.ib_list_int, MP.ib_list_str, MP.ib_list_tuple, MP.ib_list_list, MP.ib_list_dict, MP.ib_list_set, MP.ib_dict_bool, MP.ib_dict_int, MP.ib_dict_str, MP.ib_dict_tuple, MP.ib_dict_list, MP.ib_dict_dict, MP.ib_dict_set, MP.ib_set_bool, MP.ib_set_int, MP.ib_set_str, MP.ib_set_tuple, MP.ib_set_list, MP.ib_set_dict, MP.ib_set_set, Bool.not_true, Bool.not_false, List.any_cons, List.any_nil, Bool.or_false, Bool.or_true, Bool.true_or, Bool.false_or, Bool.and_true, Bool.true_and, Bool.and_false, Bool.false_and, if_true, if_false, ite_true, ite_false, and_true, true_and, Bool.false_eq_true, List.getElem?_cons_zero, List.getElem?_cons_succ, List.set_cons_zero, List.set_cons_succ, List.length_cons, List.length_nil, List.cons_append, List.nil_append, e', ez', dash_eq]
            generalize (z == 45) = b3 at k ⊢
            cases b <;> cases b2 <;> cases b3 <;> exact k
      · rw [decide_eq_true h1, decide_eq_false h2] at k
        rw [decide_eq_false (show ¬ ((tl s).length : Int) < 1 by omega), decide_eq_true (show (20 : Int) < ((tl s).length : Int) by omega)]
        exact k
    · rw [decide_eq_false h1] at k
      rw [decide_eq_true (show ((tl s).length : Int) < 1 by omega)]
      exact k
  | exc c x => cases hty
  | ref n =>
    obtain ⟨t, et, ht⟩ := ty_ref hty
    simp only [MP.pSeq, MP.pIfS, MP.pRet, MP.pRetN, MP.pNext, MP.pAsg, MP.pDrop, MP.pBrk, MP.pCt, MP.pVar, MP.pC, MP.pOp, MP.pUn, MP.pNil, MP.pCons, MP.pCB, MP.pCall, MP.pTup, MP.pTmp, MP.pNew, MP.pCT, MP.pIf, MP.pB, MP.pT, MP.pAnd, MP.pOr, MP.pNot, MP.pAndV, MP.pOrV, MP.pNotV, MP.pChain, MP.pG, MP.pGs, MP.pIxT, MP.pSlice, MP.pPart, MP.pNoPart, MP.pMtT, MP.pJoinT, MP.pAsgS, MP.pAug, MP.body, MP.gd, MP.e_add_ii, MP.e_add_ss, MP.e_add_tt, MP.e_add_rr, MP.e_sub, MP.e_mul_ii, MP.e_mul_si, MP.e_mul_ri, MP.e_iadd_ii, MP.e_iadd_ss, MP.e_pow, MP.e_fdiv, MP.e_mod, MP.e_neg, MP.e_lt, MP.e_le, MP.e_gt, MP.e_ge, MP.e_eq_ii, MP.e_ne_ii, MP.e_eq_ss, MP.e_ne_ss, MP.e_eq_bb, MP.e_ne_bb, MP.e_isN, MP.e_notN, MP.e_ix_s, MP.e_ix_t, MP.e_ix_f, MP.e_ix_r, MP.e_ixT, MP.e_set, MP.e_len_s, MP.e_len_t, MP.e_len_f, MP.e_len_r, MP.e_lenT, MP.e_int_i, MP.e_int_b, MP.e_abs, MP.e_max, MP.e_min, MP.e_tupI, MP.e_lstI, MP.e_allI, MP.e_anyI, MP.e_onI_t, MP.e_onI_f, MP.e_onI_r, MP.e_onL_r, MP.e_isi_n, MP.e_isi_b, MP.e_isi_i, MP.e_isi_s, MP.e_isi_t, MP.e_isi_f, MP.e_isiT_n, MP.e_isiT_b, MP.e_isiT_i, MP.e_isiT_s, MP.e_isiT_t, MP.e_isiT_f, MP.e_app, MP.e_split, MP.e_joinI, MP.e_join_r, MP.e_cut_s, MP.e_cut_t, MP.e_cut_f, MP.e_cut_r, MP.tr_b, MP.tr_i, MP.tr_s, MP.tr_n, MP.tr_t, MP.tr_r, MP.x_n, MP.x_b, MP.x_i, MP.x_s, MP.x_t, MP.x_f, MP.x_r, MP.atI_0, MP.atI_1, MP.atI_2, MP.atI_3, MP.atI_m1, MP.ixN_c0, MP.ixN_c1, MP.ixN_c2, MP.e_in_ss, MP.ib_NoneType_bool, MP.ib_NoneType_int, MP.ib_NoneType_str, MP.ib_NoneType_tuple, MP.ib_NoneType_list, MP.ib_NoneType_dict, MP.ib_NoneType_set, MP.ib_bool_bool, MP.ib_bool_int, MP.ib_bool_str, MP.ib_bool_tuple, MP.ib_bool_list, MP.ib_bool_dict, MP.ib_bool_set, MP.ib_int_bool, MP.ib_int_int, MP.ib_int_str, MP.ib_int_tuple, MP.ib_int_list, MP.ib_int_dict, MP.ib_int_set, MP.ib_str_bool, MP.ib_str_int, MP.ib_str_str, MP.ib_str_tuple, MP.ib_str_list, MP.ib_str_dict, MP.ib_str_set, MP.ib_tuple_bool, MP.ib_tuple_int, MP.ib_tuple_str, MP.ib_tuple_tuple, MP.ib_tuple_list, MP.ib_tuple_dict, MP.ib_tuple_set, MP.ib_list_bool, MP.ib_list_int, MP.ib_list_str, MP.ib_list_tuple, MP.ib_list_list, MP.ib_list_dict, MP.ib_list_set, MP.ib_dict_bool, MP.ib_dict_int, MP.ib_dict_str, MP.ib_dict_tuple, MP.ib_dict_list, MP.ib_dict_dict, MP.ib_dict_set, MP.ib_set_bool, MP.ib_set_int, MP.ib_set_str, MP.ib_set_tuple, MP.ib_set_list, MP.ib_set_dict, MP.ib_set_set, Bool.not_true, Bool.not_false, List.any_cons, List.any_nil, Bool.or_false, Bool.or_true, Bool.true_or, Bool.false_or, Bool.and_true, Bool.true_and, Bool.and_false, Bool.false_and, if_true, if_false, ite_true, ite_false, and_true, true_and, Bool.false_eq_true, List.getElem?_cons_zero, List.getElem?_cons_succ, List.set_cons_zero, List.set_cons_succ, List.length_cons, List.length_nil, List.cons_append, List.nil_append, e_isi et]
    rcases ht with rfl | rfl | rfl <;> exact k
  | _ => simp only [MP.pSeq, MP.pIfS, MP.pRet, MP.pRetN, MP.pNext, MP.pAsg, MP.pDrop, MP.pBrk, MP.pCt, MP.pVar, MP.pC, MP.pOp, MP.pUn, MP.pNil, MP.pCons, MP.pCB, MP.pCall, MP.pTup, MP.pTmp, MP.pNew, MP.pCT, MP.pIf, MP.pB, MP.pT, MP.pAnd, MP.pOr, MP.pNot, MP.pAndV, MP.pOrV, MP.pNotV, MP.pChain, MP.pG, MP.pGs, MP.pIxT, MP.pSlice, MP.pPart, MP.pNoPart, MP.pMtT, MP.pJoinT, MP.pAsgS, MP.pAug, MP.body, MP.gd, MP.e_add_ii, MP.e_add_ss, MP.e_add_tt, MP.e_add_rr, MP.e_sub, MP.e_mul_ii, MP.e_mul_si, MP.e_mul_ri, MP.e_iadd_ii, MP.e_iadd_ss, MP.e_pow, MP.e_fdiv, MP.e_mod, MP.e_neg, MP.e_lt, MP.e_le, MP.e_gt, MP.e_ge, MP.e_eq_ii, MP.e_ne_ii, MP.e_eq_ss, MP.e_ne_ss, MP.e_eq_bb, MP.e_ne_bb, MP.e_isN, MP.e_notN, MP.e_ix_s, MP.e_ix_t, MP.e_ix_f, MP.e_ix_r, MP.e_ixT, MP.e_set, MP.e_len_s, MP.e_len_t, MP.e_len_f, MP.e_len_r, MP.e_lenT, MP.e_int_i, MP.e_int_b, MP.e_abs, MP.e_max, MP.e_min, MP.e_tupI, MP.e_lstI, MP.e_allI, MP.e_anyI, MP.e_onI_t, MP.e_onI_f, MP.e_onI_r, MP.e_onL_r, MP.e_isi_n, MP.e_isi_b, MP.e_isi_i, MP.e_isi_s, MP.e_isi_t, MP.e_isi_f, MP.e_isiT_n, MP.e_isiT_b, MP.e_isiT_i, MP.e_isiT_s, MP.e_isiT_t, MP.e_isiT_f, MP.e_app, MP.e_split, MP.e_joinI, MP.e_join_r, MP.e_cut_s, MP.e_cut_t, MP.e_cut_f, MP.e_cut_r, MP.tr_b, MP.tr_i, MP.tr_s, MP.tr_n, MP.tr_t, MP.tr_r, MP.x_n, MP.x_b, MP.x_i, MP.x_s, MP.x_t, MP.x_f, MP.x_r, MP.atI_0, MP.atI_1, MP.atI_2, MP.atI_3, MP.atI_m1, MP.ixN_c0, MP.ixN_c1, MP.ixN_c2, MP.e_in_ss, MP.ib_NoneType_bool, MP.ib_NoneType_int, MP.ib_NoneType_str, MP.ib_NoneType_tuple, MP.ib_NoneType_list, MP.ib_NoneType_dict, MP.ib_NoneType_set, MP.ib_bool_bool, MP.ib_bool_int, MP.ib_bool_str, MP.ib_bool_tuple, MP.ib_bool_list, MP.ib_bool_dict, MP.ib_bool_set, MP.ib_int_bool, MP.ib_int_int, MP.ib_int_str, MP.ib_int_tuple, MP.ib_int_list, MP.ib_int_dict, MP.ib_int_set, MP.ib_str_bool, MP.ib_str_int, MP.ib_str_str, MP.ib_str_tuple, MP.ib_str_list, MP.ib_str_dict, MP.ib_str_set, MP.ib_tuple_bool, MP.ib_tuple_int, MP.ib_tuple_str, MP.ib_tuple_tuple, MP.ib_tuple_list, MP.ib_tuple_dict, MP.ib_tuple_set, MP.ib_list_bool, MP.ib_list_int, MP.ib_list_str, MP.ib_list_tuple, MP.ib_list_list, MP.ib_list_dict, MP.ib_list_set, MP.ib_dict_bool, MP.ib_dict_int, MP.ib_dict_str, MP.ib_dict_tuple, MP.ib_dict_list, MP.ib_dict_dict, MP.ib_dict_set, MP.ib_set_bool, MP.ib_set_int, MP.ib_set_str, MP.ib_set_tuple, MP.ib_set_list, MP.ib_set_dict, MP.ib_set_set, Bool.not_true, Bool.not_false, List.any_cons, List.any_nil, Bool.or_false, Bool.or_true, Bool.true_or, Bool.false_or, Bool.and_true, Bool.true_and, Bool.and_false, Bool.false_and, if_true, if_false, ite_true, ite_false, and_true, true_and, Bool.false_eq_true, List.getElem?_cons_zero, List.getElem?_cons_succ, List.set_cons_zero, List.set_cons_succ, List.length_cons, List.length_nil, List.cons_append, List.nil_append]; exact k


def isStar : PV → Bool
  | .str s => s == "*"
  | _ => false
def isNam : PV → Bool
  | .tup xs => xs.all isLab && !(xs.drop 1).any isStar
  | _ => false
theorem labs_strs : ∀ {xs : List PV}, xs.all isLab = true → ∃ ss : List Str, xs = ss.map .str
  | [], _ => ⟨[], rfl⟩
  | x :: xs, e => by
    rw [List.all_cons] at e
    obtain ⟨e1, e2⟩ := He.ba e
    obtain ⟨ss, rfl⟩ := labs_strs e2
    cases x with
    | str s => exact ⟨s :: ss, rfl⟩
    | _ => cases e1
theorem any_star (ss : List Str) : (ss.map PV.str).any isStar = ss.any (· == "*") := by
  rw [List.any_map]
  rfl
def sp_is_name : PSp := fun vs h Q _ => ∃ v, vs = [v] ∧ Rb h v ∧ Q (.bl (isNam v)) h
theorem pure_is_name (vs : List PV) (h : PHeap) (Q : PQ) (Ex : PXQ) (_ : vs.length = 1) (hh : sp_is_name vs h Q Ex) : t_is_name sp_is_label (body Q Ex) (pstart 2 vs) h := by
  obtain ⟨v, rfl, hr, k⟩ := hh
  have hx := hr.nx
  show t_is_name sp_is_label (body Q Ex) [some v, none] h
  unfold t_is_name
  cases v with
  | tup xs =>
    obtain ⟨hl, hi⟩ := hr.tup
    have k : Q (.bl (xs.all isLab && !(xs.drop 1).any isStar)) h := k
    simp only [MP.pSeq, MP.pIfS, MP.pRet, MP.pRetN, MP.pNext, MP.pAsg, MP.pDrop, MP.pBrk, MP.pCt, MP.pVar, MP.pC, MP.pOp, MP.pUn, MP.pNil, MP.pCons, MP.pCB, MP.pCall, MP.pTup, MP.pTmp, MP.pNew, MP.pCT, MP.pIf, MP.pB, MP.pT, MP.pAnd, MP.pOr, MP.pNot, MP.pAndV, MP.pOrV, MP.pNotV, MP.pChain, MP.pG, MP.pGs, MP.pIxT, MP.pSlice, MP.pPart, MP.pNoPart, MP.pMtT, MP.pJoinT, MP.pAsgS, MP.pAug, MP.body, MP.gd, MP.e_add_ii, MP.e_add_ss, MP.e_add_tt, MP.e_add_rr, MP.e_sub, MP.e_mul_ii, MP.e_mul_si, MP.e_mul_ri, MP.e_iadd_ii, MP.e_iadd_ss, MP.e_pow, MP.e_fdiv, MP.e_mod, MP.e_neg, MP.e_lt, MP.e_le, MP.e_gt, MP.e_ge, MP.e_eq_ii, MP.e_ne_ii, MP.e_eq_ss, MP.e_ne_ss, MP.e_eq_bb, MP.e_ne_bb, MP.e_isN, MP.e_notN, MP.e_ix_s, MP.e_ix_t, MP.e_ix_f, MP.e_ix_r, MP.e_ixT, MP.e_set, MP.e_len_s, MP.e_len_t, MP.e_len_f, MP.e_len_r, MP.e_lenT, MP.e_int_i, MP.e_int_b, MP.e_abs, MP.e_max, MP.e_min, MP.e_tupI, MP.e_lstI, MP.e_allI, MP.e_anyI, MP.e_onI_t, MP.e_onI_f, MP.e_onI_r, MP.e_onL_r, MP.e_isi_n, MP.e_isi_b, MP.e_isi_i, MP.e_isi_s, MP.e_isi_t, MP.e_isi_f, MP.e_isiT_n, MP.e_isiT_b, MP.e_isiT_i, MP.e_isiT_s, MP.e_isiT_t, MP.e_isiT_f, MP.e_app, MP.e_split, MP.e_joinI, MP.e_join_r, MP.e_cut_s, MP.e_cut_t, MP.e_cut_f, MP.e_cut_r, MP.tr_b, MP.tr_i, MP.tr_s, MP.tr_n, MP.tr_t, MP.tr_r, MP.x_n, MP.x_b, MP.x_i, MP.x_s, MP.x_t, MP.x_f, MP.x_r, MP.atI_0, MP.atI_1, MP.atI_2, MP.atI_3, MP.atI_m1, MP.ixN_c0, MP.ixN_c1, MP.ixN_c2, MP.e_in_ss, MP.ib_NoneType_bool, MP.ib_NoneType_int, MP.ib_NoneType_str, MP.ib_NoneType_tuple, MP.ib_NoneType_list, MP.ib_NoneType_dict, MP.ib_NoneType_set, MP.ib_bool_bool, MP.ib_bool_int, MP.ib_bool_str, MP.ib_bool_tuple, MP.ib_bool_list, MP.ib_bool_dict, MP.ib_bool_set, MP.ib_int_bool, MP.ib_int_int, MP.ib_int_str, MP.ib_int_tuple, MP.ib_int_list, MP.ib_int_dict, MP.ib_int_set, MP.ib_str_bool, MP.ib_str_int, MP.ib_str_str, MP.ib_str_tuple, MP.ib_str_list, MP.ib_str_dict, MP.ib_str_set, MP.ib_tuple_bool, MP.ib_tuple_int, MP.ib_tuple_str, MP.ib_tuple_tuple, MP.ib_tuple_list, MP.ib_tuple_dict, MP.ib_tuple_set, MP.ib_list_bool, MP.ib_list_int, MP.ib_list_str, MP.ib_list_tuple, MP.ib_list_list, MP.ib_list_dict, MP.ib_list_set, MP.ib_dict_bool, MP.ib_dict_int, MP.ib_dict_str, MP.ib_dict_tuple, MP.ib_dict_list, MP.ib_dict_dict, MP.ib_dict_set, MP.ib_set_bool, MP.ib_set_int, MP.ib_set_str, MP.ib_set_tuple, MP.ib_set_list, MP.ib_set_dict, MP.ib_set_set, Bool.not_true, Bool.not_false, List.any_cons, List.any_nil, Bool.or_false, Bool.or_true, Bool.true_or, Bool.false_or, Bool.and_true, Bool.true_and, Bool.and_false, Bool.false_and, if_true, if_false, ite_true, ite_false, and_true, true_and, Bool.false_eq_true, List.getElem?_cons_zero, List.getElem?_cons_succ, List.set_cons_zero, List.set_cons_succ, List.length_cons, List.length_nil, List.cons_append, List.nil_append]
    refine ⟨rfl, lc_items (fun x => .bl (isLab x)) hl trivial (fun x hx Q q => ⟨(hi x hx).nx, rfl, x, rfl, (hi x hx).ty, q⟩) ?_⟩
    rw [all_vals]
    simp only [MP.pSeq, MP.pIfS, MP.pRet, MP.pRetN, MP.pNext, MP.pAsg, MP.pDrop, MP.pBrk, MP.pCt, MP.pVar, MP.pC, MP.pOp, MP.pUn, MP.pNil, MP.pCons, MP.pCB, MP.pCall, MP.pTup, MP.pTmp, MP.pNew, MP.pCT, MP.pIf, MP.pB, MP.pT, MP.pAnd, MP.pOr, MP.pNot, MP.pAndV, MP.pOrV, MP.pNotV, MP.pChain, MP.pG, MP.pGs, MP.pIxT, MP.pSlice, MP.pPart, MP.pNoPart, MP.pMtT, MP.pJoinT, MP.pAsgS, MP.pAug, MP.body, MP.gd, MP.e_add_ii, MP.e_add_ss, MP.e_add_tt, MP.e_add_rr, MP.e_sub, MP.e_mul_ii, MP.e_mul_si, MP.e_mul_ri, MP.e_iadd_ii, MP.e_iadd_ss, MP.e_pow, MP.e_fdiv, MP.e_mod, MP.e_neg, MP.e_lt, MP.e_le, MP.e_gt, MP.e_ge, MP.e_eq_ii, MP.e_ne_ii, MP.e_eq_ss, MP.e_ne_ss, MP.e_eq_bb, MP.e_ne_bb, MP.e_isN, MP.e_notN, MP.e_ix_s, MP.e_ix_t, MP.e_ix_f, MP.e_ix_r, MP.e_ixT, MP.e_set, MP.e_len_s, MP.e_len_t, MP.e_len_f, MP.e_len_r, MP.e_lenT, MP.e_int_i, MP.e_int_b, MP.e_abs, MP.e_max, MP.e_min, MP.e_tupI, MP.e_lstI, MP.e_allI, MP.e_anyI, MP.e_onI_t, MP.e_onI_f, MP.e_onI_r, MP.e_onL_r, MP.e_isi_n, MP.e_isi_b, MP.e_isi_i, MP.e_isi_s, MP.e_isi_t, MP.e_isi_f, MP.e_isiT_n, MP.e_isiT_b, MP.e_isiT_i, MP.e_isiT_s, MP.e_isiT_t, MP.e_isiT_f, MP.e_app, MP.e_split, MP.e_joinI, MP.e_join_r, MP.e_cut_s, MP.e_cut_t, MP.e_cut_f, MP.e_cut_r, MP.tr_b, MP.tr_i, MP.tr_s, MP.tr_n, MP.tr_t, MP.tr_r, MP.x_n, MP.x_b, MP.x_i, MP.x_s, MP.x_t, MP.x_f, MP.x_r, MP.atI_0, MP.atI_1, MP.atI_2, MP.atI_3, MP.atI_m1, MP.ixN_c0, MP.ixN_c1, MP.ixN_c2, MP.e_in_ss, MP.ib_NoneType_bool, MP.ib_NoneType_int, MP.ib_NoneType_str, MP.ib_NoneType_tuple, MP.ib_NoneType_list, MP.ib_NoneType_dict, MP.ib_NoneType_set, MP.ib_bool_bool, MP.ib_bool_int, MP.ib_bool_str, MP.ib_bool_tuple, MP.ib_bool_list, MP.ib_bool_dict, MP.ib_bool_set, MP.ib_int_bool, MP.ib_int_int, MP.ib_int_str, MP.ib_int_tuple, MP.ib_int_list, MP.ib_int_dict, MP.ib_int_set, MP.ib_str_bool, MP.ib_str_int, MP.ib_str_str, MP.ib_str_tuple, MP.ib_str_list, MP.ib_str_dict, MP.ib_str_set, MP.ib_tuple_bool, MP.ib_tuple_int, MP.ib_tuple_str, MP.ib_tuple_tuple, MP.ib_tuple_list, MP.ib_tuple_dict, MP.ib_tuple_set, MP.ib_list_bool, MP.ib_list_int, MP.ib_list_str, MP.ib_list_tuple, MP.ib_list_list, MP.ib_list_dict, MP.ib_list_set, MP.ib_dict_bool, MP.ib_dict_int, MP.ib_dict_str, MP.ib_dict_tuple, MP.ib_dict_list, MP.ib_dict_dict, MP.ib_dict_set, MP.ib_set_bool, MP.ib_set_int, MP.ib_set_str, MP.ib_set_tuple, MP.ib_set_list, MP.ib_set_dict, MP.ib_set_set, Bool.not_true, Bool.not_false, List.any_cons, List.any_nil, Bool.or_false, Bool.or_true, Bool.true_or, Bool.false_or, Bool.and_true, Bool.true_and, Bool.and_false, Bool.false_and, if_true, if_false, ite_true, ite_false, and_true, true_and, Bool.false_eq_true, List.getElem?_cons_zero, List.getElem?_cons_succ, List.set_cons_zero, List.set_cons_succ, List.length_cons, List.length_nil, List.cons_append, List.nil_append, cut_1]
    cases e : xs.all isLab with
    | false => rw [e] at k; exact k
    | true =>
      rw [e] at k
      obtain ⟨ss, rfl⟩ := labs_strs e
      rw [← List.map_drop, any_star] at k
      show rNotInP _ (.tup (List.drop 1 (ss.map .str))) h Q
      rw [← List.map_drop, e_notin_st]
      exact k
  | ref n =>
    obtain ⟨t, et, ht⟩ := ty_ref hr.ty
    simp only [MP.pSeq, MP.pIfS, MP.pRet, MP.pRetN, MP.pNext, MP.pAsg, MP.pDrop, MP.pBrk, MP.pCt, MP.pVar, MP.pC, MP.pOp, MP.pUn, MP.pNil, MP.pCons, MP.pCB, MP.pCall, MP.pTup, MP.pTmp, MP.pNew, MP.pCT, MP.pIf, MP.pB, MP.pT, MP.pAnd, MP.pOr, MP.pNot, MP.pAndV, MP.pOrV, MP.pNotV, MP.pChain, MP.pG, MP.pGs, MP.pIxT, MP.pSlice, MP.pPart, MP.pNoPart, MP.pMtT, MP.pJoinT, MP.pAsgS, MP.pAug, MP.body, MP.gd, MP.e_add_ii, MP.e_add_ss, MP.e_add_tt, MP.e_add_rr, MP.e_sub, MP.e_mul_ii, MP.e_mul_si, MP.e_mul_ri, MP.e_iadd_ii, MP.e_iadd_ss, MP.e_pow, MP.e_fdiv, MP.e_mod, MP.e_neg, MP.e_lt, MP.e_le, MP.e_gt, MP.e_ge, MP.e_eq_ii, MP.e_ne_ii, MP.e_eq_ss, MP.e_ne_ss, MP.e_eq_bb, MP.e_ne_bb, MP.e_isN, MP.e_notN, MP.e_ix_s, MP.e_ix_t, MP.e_ix_f, MP.e_ix_r, MP.e_ixT, MP.e_set, MP.e_len_s, MP.e_len_t, MP.e_len_f, MP.e_len_r, MP.e_lenT, MP.e_int_i, MP.e_int_b, MP.e_abs, MP.e_max, MP.e_min, MP.e_tupI, MP.e_lstI, MP.e_allI, MP.e_anyI, MP.e_onI_t, MP.e_onI_f, MP.e_onI_r, MP.e_onL_r, MP.e_isi_n, MP.e_isi_b, MP.e_isi_i, MP.e_isi_s, MP.e_isi_t, MP.e_isi_f, MP.e_isiT_n, MP.e_isiT_b, MP.e_isiT_i, MP.e_isiT_s, MP.e_isiT_t, MP.e_isiT_f, MP.e_app, MP.e_split, MP.e_joinI, MP.e_join_r, MP.e_cut_s, MP.e_cut_t, MP.e_cut_f, MP.e_cut_r, MP.tr_b, MP.tr_i, MP.tr_s, MP.tr_n, MP.tr_t, MP.tr_r, MP.x_n, MP.x_b, MP.x_i, MP.x_s, MP.x_t, MP.x_f, MP.x_r, MP.atI_0, MP.atI_1, MP.atI_2, MP.atI_3, MP.atI_m1, MP.ixN_c0, MP.ixN_c1, MP.ixN_c2, MP.e_in_ss, MP.ib_NoneType_bool, MP.ib_NoneType_int, MP.ib_NoneType_str, MP.ib_NoneType_tuple, MP.ib_NoneType_list, MP.ib_NoneType_dict, MP.ib_NoneType_set, MP.ib_bool_bool, MP.ib_bool_int, MP.ib_bool_str, MP.ib_bool_tuple, MP.ib_bool_list, MP.ib_bool_dict, MP.ib_bool_set, MP.ib_int_bool, MP.ib_int_int, MP.ib_int_str, MP.ib_int_tuple, MP.ib_int_list, MP.ib_int_dict, MP.ib_int_set, MP.ib_str_bool, MP.ib_str_int, MP.ib_str_str, MP.ib_str_tuple, MP.ib_str_list, MP.ib_str_dict, MP.ib_str_set, MP.ib_tuple_bool, MP.ib_tuple_int, MP.ib_tuple_str, MP.ib_tuple_tuple, MP.ib_tuple_list, MP.ib_tuple_dict, MP.ib_tuple_set, MP.ib_list_bool, MP.ib_list_int, MP.ib_list_str, MP.ib_list_tuple, MP.ib_list_list, MP.ib_list_dict, MP.ib_list_set, MP.ib_dict_bool, MP.ib_dict_int, MP.ib_dict_str, MP.ib_dict_tuple, MP.ib_dict_list, MP.ib_dict_dict, MP.ib_dict_set, MP.ib_set_bool, MP.ib_set_int, MP.ib_set_str, MP.ib_set_tuple, MP.ib_set_list, MP.ib_set_dict, MP.ib_set_set, Bool.not_true, Bool.not_false, List.any_cons, List.any_nil, Bool.or_false, Bool.or_true, Bool.true_or, Bool.false_or, Bool.and_true, Bool.true_and, Bool.and_false, Bool.false_and, if_true, if_false, ite_true, ite_false, and_true, true_and, Bool.false_eq_true, List.getElem?_cons_zero, List.getElem?_cons_succ, List.set_cons_zero, List.set_cons_succ, List.length_cons, List.length_nil, List.cons_append, List.nil_append, e_isi et]
    rcases ht with rfl | rfl | rfl <;> exact k
  | exc c x => cases hx
  | _ => simp only [MP.pSeq, MP.pIfS, MP.pRet, MP.pRetN, MP.pNext, MP.pAsg, MP.pDrop, MP.pBrk, MP.pCt, MP.pVar, MP.pC, MP.pOp, MP.pUn, MP.pNil, MP.pCons, MP.pCB, MP.pCall, MP.pTup, MP.pTmp, MP.pNew, MP.pCT, MP.pIf, MP.pB, MP.pT, MP.pAnd, MP.pOr, MP.pNot, MP.pAndV, MP.pOrV, MP.pNotV, MP.pChain, MP.pG, MP.pGs, MP.pIxT, MP.pSlice, MP.pPart, MP.pNoPart, MP.pMtT, MP.pJoinT, MP.pAsgS, MP.pAug, MP.body, MP.gd, MP.e_add_ii, MP.e_add_ss, MP.e_add_tt, MP.e_add_rr, MP.e_sub, MP.e_mul_ii, MP.e_mul_si, MP.e_mul_ri, MP.e_iadd_ii, MP.e_iadd_ss, MP.e_pow, MP.e_fdiv, MP.e_mod, MP.e_neg, MP.e_lt, MP.e_le, MP.e_gt, MP.e_ge, MP.e_eq_ii, MP.e_ne_ii, MP.e_eq_ss, MP.e_ne_ss, MP.e_eq_bb, MP.e_ne_bb, MP.e_isN, MP.e_notN, MP.e_ix_s, MP.e_ix_t, MP.e_ix_f, MP.e_ix_r, MP.e_ixT, MP.e_set, MP.e_len_s, MP.e_len_t, MP.e_len_f, MP.e_len_r, MP.e_lenT, MP.e_int_i, MP.e_int_b, MP.e_abs, MP.e_max, MP.e_min, MP.e_tupI, MP.e_lstI, MP.e_allI, MP.e_anyI, MP.e_onI_t, MP.e_onI_f, MP.e_onI_r, MP.e_onL_r, MP.e_isi_n, MP.e_isi_b, MP.e_isi_i, MP.e_isi_s, MP.e_isi_t, MP.e_isi_f, MP.e_isiT_n, MP.e_isiT_b, MP.e_isiT_i, MP.e_isiT_s, MP.e_isiT_t, MP.e_isiT_f, MP.e_app, MP.e_split, MP.e_joinI, MP.e_join_r, MP.e_cut_s, MP.e_cut_t, MP.e_cut_f, MP.e_cut_r, MP.tr_b, MP.tr_i, MP.tr_s, MP.tr_n, MP.tr_t, MP.tr_r, MP.x_n, MP.x_b, MP.x_i, MP.x_s, MP.x_t, MP.x_f, MP.x_r, MP.atI_0, MP.atI_1, MP.atI_2, MP.atI_3, MP.atI_m1, MP.ixN_c0, MP.ixN_c1, MP.ixN_c2, MP.e_in_ss, MP.ib_NoneType_bool, MP.ib_NoneType_int, MP.ib_NoneType_str, MP.ib_NoneType_tuple, MP.ib_NoneType_list, MP.ib_NoneType_dict, MP.ib_NoneType_set, MP.ib_bool_bool, MP.ib_bool_int, MP.ib_bool_str, MP.ib_bool_tuple, MP.ib_bool_list, MP.ib_bool_dict, MP.ib_bool_set, MP.ib_int_bool, MP.ib_int_int, MP.ib_int_str, MP.ib_int_tuple, MP.ib_int_list, MP.ib_int_dict, MP.ib_int_set, MP.ib_str_bool, MP.ib_str_int, MP.ib_str_str, MP.ib_str_tuple, MP.ib_str_list, MP.ib_str_dict, MP.ib_str_set, MP.ib_tuple_bool, MP.ib_tuple_int, MP.ib_tuple_str, MP.ib_tuple_tuple, MP.ib_tuple_list, MP.ib_tuple_dict, MP.ib_tuple_set, MP.ib_list_bool, MP.ib_list_int, MP.ib_list_str, MP.ib_list_tuple, MP.ib_list_list, MP.ib_list_dict, MP.ib_list_set, MP.ib_dict_bool, MP.ib_dict_int, MP.ib_dict_str, MP.ib_dict_tuple, MP.ib_dict_list, MP.ib_dict_dict, MP.ib_dict_set, MP.ib_set_bool, MP.ib_set_int, MP.ib_set_str, MP.ib_set_tuple, MP.ib_set_list, MP.ib_set_dict, MP.ib_set_set, Bool.not_true, Bool.not_false, List.any_cons, List.any_nil, Bool.or_false, Bool.or_true, Bool.true_or, Bool.false_or, Bool.and_true, Bool.true_and, Bool.and_false, Bool.false_and, if_true, if_false, ite_true, ite_false, and_true, true_and, Bool.false_eq_true, List.getElem?_cons_zero, List.getElem?_cons_succ, List.set_cons_zero, List.set_cons_succ, List.length_cons, List.length_nil, List.cons_append, List.nil_append]; exact k
theorem all_range {α : Type} (f : α → Bool) (xs : List α) (g : Nat → Bool) (hg : ∀ (k : Nat) (x : α), xs[k]? = some x → g k = f x) : (List.range xs.length).all g = xs.all f := by
  rw [Bool.eq_iff_iff, List.all_eq_true, List.all_eq_true]
  constructor
  · intro a x hx
    obtain ⟨k, hk⟩ := List.getElem?_of_mem hx
    rw [← hg k x hk]
    exact a k (List.mem_range.mpr (List.getElem?_eq_some_iff.mp hk).1)
  · intro a k hk
    have l := List.mem_range.mp hk
    rw [hg k xs[k] (List.getElem?_eq_getElem l)]
    exact a _ (List.getElem_mem l)
theorem pure__law_is_name (vs : List PV) (h : PHeap) (Q : PQ) (Ex : PXQ) (_ : vs.length = 1) (hh : sp_is_name vs h Q Ex) : t__law_is_name sp_is_label (body Q Ex) (pstart 3 vs) h := by
  obtain ⟨v, rfl, hr, k⟩ := hh
  have hx := hr.nx
  show t__law_is_name sp_is_label (body Q Ex) [some v, none, none] h
  unfold t__law_is_name
  cases v with
  | tup xs =>
    obtain ⟨hl, hi⟩ := hr.tup
    have k : Q (.bl (xs.all isLab && !(xs.drop 1).any isStar)) h := k
    simp only [MP.pSeq, MP.pIfS, MP.pRet, MP.pRetN, MP.pNext, MP.pAsg, MP.pDrop, MP.pBrk, MP.pCt, MP.pVar, MP.pC, MP.pOp, MP.pUn, MP.pNil, MP.pCons, MP.pCB, MP.pCall, MP.pTup, MP.pTmp, MP.pNew, MP.pCT, MP.pIf, MP.pB, MP.pT, MP.pAnd, MP.pOr, MP.pNot, MP.pAndV, MP.pOrV, MP.pNotV, MP.pChain, MP.pG, MP.pGs, MP.pIxT, MP.pSlice, MP.pPart, MP.pNoPart, MP.pMtT, MP.pJoinT, MP.pAsgS, MP.pAug, MP.body, MP.gd, MP.e_add_ii, MP.e_add_ss, MP.e_add_tt, MP.e_add_rr, MP.e_sub, MP.e_mul_ii, MP.e_mul_si, MP.e_mul_ri, MP.e_iadd_ii, MP.e_iadd_ss, MP.e_pow, MP.e_fdiv, MP.e_mod, MP.e_neg, MP.e_lt, MP.e_le, MP.e_gt, MP.e_ge, MP.e_eq_ii, MP.e_ne_ii, MP.e_eq_ss, MP.e_ne_ss, MP.e_eq_bb, MP.e_ne_bb, MP.e_isN, MP.e_notN, MP.e_ix_s, MP.e_ix_t, MP.e_ix_f, MP.e_ix_r, MP.e_ixT, MP.e_set, MP.e_len_s, MP.e_len_t, MP.e_len_f, MP.e_len_r, MP.e_lenT, MP.e_int_i, MP.e_int_b, MP.e_abs, MP.e_max, MP.e_min, MP.e_tupI, MP.e_lstI, MP.e_allI, MP.e_anyI, MP.e_onI_t, MP.e_onI_f, MP.e_onI_r, MP.e_onL_r, MP.e_isi_n, MP.e_isi_b, MP.e_isi_i, MP.e_isi_s, MP.e_isi_t, MP.e_isi_f, MP.e_isiT_n, MP.e_isiT_b, MP.e_isiT_i, MP.e_isiT_s, MP.e_isiT_t, MP.e_isiT_f, MP.e_app, MP.e_split, MP.e_joinI, MP.e_join_r, MP.e_cut_s, MP.e_cut_t, MP.e_cut_f, MP.e_cut_r, MP.tr_b, MP.tr_i, MP.tr_s, MP.tr_n, MP.tr_t, MP.tr_r, MP.x_n, MP.x_b, MP.x_i, MP.x_s, MP.x_t, MP.x_f, MP.x_r, MP.atI_0, MP.atI_1, MP.atI_2, MP.atI_3, MP.atI_m1, MP.ixN_c0, MP.ixN_c1, MP.ixN_c2, MP.e_in_ss, MP.ib_NoneType_bool, MP.ib_NoneType_int, MP.ib_NoneType_str, MP.ib_NoneType_tuple, MP.ib_NoneType_list, MP.ib_NoneType_dict, MP.ib_NoneType_set, MP.ib_bool_bool, MP.ib_bool_int, MP.ib_bool_str, MP.ib_bool_tuple, MP.ib_bool_list, MP.ib_bool_dict, MP.ib_bool_set, MP.ib_int_bool, MP.ib_int_int, MP.ib_int_str, MP.ib_int_tuple, MP.ib_int_list, MP.ib_int_dict, MP.ib_int_set, MP.ib_str_bool, MP.ib_str_int, MP.ib_str_str, MP.ib_str_tuple, MP.ib_str_list, MP.ib_str_dict, MP.ib_str_set, MP.ib_tuple_bool, MP.ib_tuple_int, MP.ib_tuple_str, MP.ib_tuple_tuple, MP.ib_tuple_list, MP.ib_tuple_dict, MP.ib_tuple_set, MP.ib_list_bool, MP.ib_list_int, MP.ib_list_str, MP.ib_list_tuple, MP.ib_list_list, MP.ib_list_dict, MP.ib_list_set, MP.ib_dict_bool, MP.ib_dict_int, MP.ib_dict_str, MP.ib_dict_tuple, MP.ib_dict_list, MP.ib_dict_dict, MP.ib_dict_set, MP.ib_set_bool, MP.ib_set_int, MP.ib_set_str, MP.ib_set_tuple, MP.ib_set_list, MP.ib_set_dict, MP.ib_set_set, Bool.not_true, Bool.not_false, List.any_cons, List.any_nil, Bool.or_false, Bool.or_true, Bool.true_or, Bool.false_or, Bool.and_true, Bool.true_and, Bool.and_false, Bool.false_and, if_true, if_false, ite_true, ite_false, and_true, true_and, Bool.false_eq_true, List.getElem?_cons_zero, List.getElem?_cons_succ, List.set_cons_zero, List.set_cons_succ, List.length_cons, List.length_nil, List.cons_append, List.nil_append]
    refine ⟨rfl, lc_items (fun x => .bl (isLab x)) hl trivial (fun x hx Q q => ⟨(hi x hx).nx, rfl, x, rfl, (hi x hx).ty, q⟩) ?_⟩
    rw [all_vals]
    simp only [MP.pSeq, MP.pIfS, MP.pRet, MP.pRetN, MP.pNext, MP.pAsg, MP.pDrop, MP.pBrk, MP.pCt, MP.pVar, MP.pC, MP.pOp, MP.pUn, MP.pNil, MP.pCons, MP.pCB, MP.pCall, MP.pTup, MP.pTmp, MP.pNew, MP.pCT, MP.pIf, MP.pB, MP.pT, MP.pAnd, MP.pOr, MP.pNot, MP.pAndV, MP.pOrV, MP.pNotV, MP.pChain, MP.pG, MP.pGs, MP.pIxT, MP.pSlice, MP.pPart, MP.pNoPart, MP.pMtT, MP.pJoinT, MP.pAsgS, MP.pAug, MP.body, MP.gd, MP.e_add_ii, MP.e_add_ss, MP.e_add_tt, MP.e_add_rr, MP.e_sub, MP.e_mul_ii, MP.e_mul_si, MP.e_mul_ri, MP.e_iadd_ii, MP.e_iadd_ss, MP.e_pow, MP.e_fdiv, MP.e_mod, MP.e_neg, MP.e_lt, MP.e_le, MP.e_gt, MP.e_ge, MP.e_eq_ii, MP.e_ne_ii, MP.e_eq_ss, MP.e_ne_ss, MP.e_eq_bb, MP.e_ne_bb, MP.e_isN, MP.e_notN, MP.e_ix_s, MP.e_ix_t, MP.e_ix_f, MP.e_ix_r, MP.e_ixT, MP.e_set, MP.e_len_s, MP.e_len_t, MP.e_len_f, MP.e_len_r, MP.e_lenT, MP.e_int_i, MP.e_int_b, MP.e_abs, MP.e_max, MP.e_min, MP.e_tupI, MP.e_lstI, MP.e_allI, MP.e_anyI, MP.e_onI_t, MP.e_onI_f, MP.e_onI_r, MP.e_onL_r, MP.e_isi_n, MP.e_isi_b, MP.e_isi_i, MP.e_isi_s, MP.e_isi_t, MP.e_isi_f, MP.e_isiT_n, MP.e_isiT_b, MP.e_isiT_i, MP.e_isiT_s, MP.e_isiT_t, MP.e_isiT_f, MP.e_app, MP.e_split, MP.e_joinI, MP.e_join_r, MP.e_cut_s, MP.e_cut_t, MP.e_cut_f, MP.e_cut_r, MP.tr_b, MP.tr_i, MP.tr_s, MP.tr_n, MP.tr_t, MP.tr_r, MP.x_n, MP.x_b, MP.x_i, MP.x_s, MP.x_t, MP.x_f, MP.x_r, MP.atI_0, MP.atI_1, MP.atI_2, MP.atI_3, MP.atI_m1, MP.ixN_c0, MP.ixN_c1, MP.ixN_c2, MP.e_in_ss, MP.ib_NoneType_bool, MP.ib_NoneType_int, MP.ib_NoneType_str, MP.ib_NoneType_tuple, MP.ib_NoneType_list, MP.ib_NoneType_dict, MP.ib_NoneType_set, MP.ib_bool_bool, MP.ib_bool_int, MP.ib_bool_str, MP.ib_bool_tuple, MP.ib_bool_list, MP.ib_bool_dict, MP.ib_bool_set, MP.ib_int_bool, MP.ib_int_int, MP.ib_int_str, MP.ib_int_tuple, MP.ib_int_list, MP.ib_int_dict, MP.ib_int_set, MP.ib_str_bool, MP.ib_str_int, MP.ib_str_str, MP.ib_str_tuple, MP.ib_str_list, MP.ib_str_dict, MP.ib_str_set, MP.ib_tuple_bool, MP.ib_tuple_int, MP.ib_tuple_str, MP.ib_tuple_tuple, MP.ib_tuple_list, MP.ib_tuple_dict, MP.ib_tuple_set, MP.ib_list_bool, MP.ib_list_int, MP.ib_list_str, MP.ib_list_tuple, MP.ib_list_list, MP.ib_list_dict, MP.ib_list_set, MP.ib_dict_bool, MP.ib_dict_int, MP.ib_dict_str, MP.ib_dict_tuple, MP.ib_dict_list, MP.ib_dict_dict, MP.ib_dict_set, MP.ib_set_bool, MP.ib_set_int, MP.ib_set_str, MP.ib_set_tuple, MP.ib_set_list, MP.ib_set_dict, MP.ib_set_set, Bool.not_true, Bool.not_false, List.any_cons, List.any_nil, Bool.or_false, Bool.or_true, Bool.true_or, Bool.false_or, Bool.and_true, Bool.true_and, Bool.and_false, Bool.false_and, if_true, if_false, ite_true, ite_false, and_true, true_and, Bool.false_eq_true, List.getElem?_cons_zero, List.getElem?_cons_succ, List.set_cons_zero, List.set_cons_succ, List.length_cons, List.length_nil, List.cons_append, List.nil_append]
    cases e : xs.all isLab with
    | false => rw [e] at k; exact k
    | true =>
      rw [e] at k
      obtain ⟨ss, rfl⟩ := labs_strs e
      rw [← List.map_drop, any_star] at k
      refine ⟨rfl, ⟨by decide, by decide, by omega, by omega⟩, ?_⟩
      have en : (((ss.map PV.str).length : Nat) - 1 : Int).toNat = (ss.drop 1).length := by
        rw [List.length_map, List.length_drop]
        omega
      rw [en]
      refine lc_rng (fun i => .bl (((ss.drop 1)[i]?.map fun s => !(s == ("*" : Str))).getD false)) (by rw [sizeLine_eq]; simp at hl ⊢; try omega) trivial (fun i hi Q q => ?_) ?_
      · obtain ⟨s, es⟩ : ∃ s, (ss.drop 1)[i]? = some s := ⟨_, List.getElem?_eq_getElem hi⟩
        have e4 : L2.atI (ss.map PV.str) (1 + (i : Nat)) = some (.str s) := by
          rw [atI_pos (by omega), show ((1 : Int) + (i : Nat)).toNat = 1 + i by omega, List.getElem?_map]
          rw [List.getElem?_drop] at es
          rw [es]
          rfl
        rw [es] at q
        show _ ∧ _
        refine ⟨rfl, rfl, ?_⟩
        dsimp only
        show (match L2.atI (ss.map PV.str) (1 + (i : Nat)) with
          | some v => _
          | none => False)
        rw [e4]
        show rNeP (.str s) (.str "*") h Q
        rw [e_ne_ss]
        exact q
      · rw [all_vals, all_range (fun s => !(s == ("*" : Str))) (ss.drop 1) _ (fun k x ek => by rw [ek]; rfl)]
        have e3 : ((ss.drop 1).all fun s => !(s == ("*" : Str))) = !((ss.drop 1).any (· == ("*" : Str))) := by
          rw [List.not_any_eq_all_not]
        rw [e3]
        exact k
  | ref n =>
    obtain ⟨t, et, ht⟩ := ty_ref hr.ty
    simp only [MP.pSeq, MP.pIfS, MP.pRet, MP.pRetN, MP.pNext, MP.pAsg, MP.pDrop, MP.pBrk, MP.pCt, MP.pVar, MP.pC, MP.pOp, MP.pUn, MP.pNil, MP.pCons, MP.pCB, MP.pCall, MP.pTup, MP.pTmp, MP.pNew, MP.pCT, MP.pIf, MP.pB, MP.pT, MP.pAnd, MP.pOr, MP.pNot, MP.pAndV, MP.pOrV, MP.pNotV, MP.pChain, MP.pG, MP.pGs, MP.pIxT, MP.pSlice, MP.pPart, MP.pNoPart, MP.pMtT, MP.pJoinT, MP.pAsgS, MP.pAug, MP.body, MP.gd, MP.e_add_ii, MP.e_add_ss, MP.e_add_tt, MP.e_add_rr, MP.e_sub, MP.e_mul_ii, MP.e_mul_si, MP.e_mul_ri, MP.e_iadd_ii, MP.e_iadd_ss, MP.e_pow, MP.e_fdiv, MP.e_mod, MP.e_neg, MP.e_lt, MP.e_le, MP.e_gt, MP.e_ge, MP.e_eq_ii, MP.e_ne_ii, MP.e_eq_ss, MP.e_ne_ss, MP.e_eq_bb, MP.e_ne_bb, MP.e_isN, MP.e_notN, MP.e_ix_s, MP.e_ix_t, MP.e_ix_f, MP.e_ix_r, MP.e_ixT, MP.e_set, MP.e_len_s, MP.e_len_t, MP.e_len_f, MP.e_len_r, MP.e_lenT, MP.e_int_i, MP.e_int_b, MP.e_abs, MP.e_max, MP.e_min, MP.e_tupI, MP.e_lstI, MP.e_allI, MP.e_anyI, MP.e_onI_t, MP.e_onI_f, MP.e_onI_r, MP.e_onL_r, MP.e_isi_n, MP.e_isi_b, MP.e_isi_i, MP.e_isi_s, MP.e_isi_t, MP.e_isi_f, MP.e_isiT_n, MP.e_isiT_b, MP.e_isiT_i, MP.e_isiT_s, MP.e_isiT_t, MP.e_isiT_f, MP.e_app, MP.e_split, MP.e_joinI, MP.e_join_r, MP.e_cut_s, MP.e_cut_t, MP.e_cut_f, MP.e_cut_r, MP.tr_b, MP.tr_i, MP.tr_s, MP.tr_n, MP.tr_t, MP.tr_r, MP.x_n, MP.x_b, MP.x_i, MP.x_s, MP.x_t, MP.x_f, MP.x_r, MP.atI_0, MP.atI_1, MP.atI_2, MP.atI_3, MP.atI_m1, MP.ixN_c0, MP.ixN_c1, MP.ixN_c2, MP.e_in_ss, MP.ib_NoneType_bool, MP.ib_NoneType_int, MP.ib_NoneType_str, MP.ib_NoneType_tuple, MP.ib_NoneType_list, MP.ib_NoneType_dict, MP.ib_NoneType_set, MP.ib_bool_bool, MP.ib_bool_int, MP.ib_bool_str, MP.ib_bool_tuple, MP.ib_bool_list, MP.ib_bool_dict, MP.ib_bool_set, MP.ib_int_bool, MP.ib_int_int, MP.ib_int_str, MP.ib_int_tuple, MP.ib_int_list, MP.ib_int_dict, MP.ib_int_set, MP.ib_str_bool, MP.ib_str_int, MP.ib_str_str, MP.ib_str_tuple, MP.ib_str_list, MP.ib_str_dict, MP.ib_str_set, MP.ib_tuple_bool, MP.ib_tuple_int, MP.ib_tuple_str, MP.ib_tuple_tuple, MP.ib_tuple_list, MP.ib_tuple_dict, MP.ib_tuple_set, MP.ib_list_bool, MP.ib_list_int, MP.ib_list_str, MP.ib_list_tuple, MP.ib_list_list, MP.ib_list_dict, MP.ib_list_set, MP.ib_dict_bool, MP.ib_dict_int, MP.ib_dict_str, MP.ib_dict_tuple, MP.ib_dict_list, MP.ib_dict_dict, MP.ib_dict_set, MP.ib_set_bool, MP.ib_set_int, MP.ib_set_str, MP.ib_set_tuple, MP.ib_set_list, MP.ib_set_dict, MP.ib_set_set, Bool.not_true, Bool.not_false, List.any_cons, List.any_nil, Bool.or_false, Bool.or_true, Bool.true_or, Bool.false_or, Bool.and_true, Bool.true_and, Bool.and_false, Bool.false_and, if_true, if_false, ite_true, ite_false, and_true, true_and, Bool.false_eq_true, List.getElem?_cons_zero, List.getElem?_cons_succ, List.set_cons_zero, List.set_cons_succ, List.length_cons, List.length_nil, List.cons_append, List.nil_append, e_isi et]
    rcases ht with rfl | rfl | rfl <;> exact k
  | exc c x => cases hx
  | _ => simp only [MP.pSeq, MP.pIfS, MP.pRet, MP.pRetN, MP.pNext, MP.pAsg, MP.pDrop, MP.pBrk, MP.pCt, MP.pVar, MP.pC, MP.pOp, MP.pUn, MP.pNil, MP.pCons, MP.pCB, MP.pCall, MP.pTup, MP.pTmp, MP.pNew, MP.pCT, MP.pIf, MP.pB, MP.pT, MP.pAnd, MP.pOr, MP.pNot, MP.pAndV, MP.pOrV, MP.pNotV, MP.pChain, MP.pG, MP.pGs, MP.pIxT, MP.pSlice, MP.pPart, MP.pNoPart, MP.pMtT, MP.pJoinT, MP.pAsgS, MP.pAug, MP.body, MP.gd, MP.e_add_ii, MP.e_add_ss, MP.e_add_tt, MP.e_add_rr, MP.e_sub, MP.e_mul_ii, MP.e_mul_si, MP.e_mul_ri, MP.e_iadd_ii, MP.e_iadd_ss, MP.e_pow, MP.e_fdiv, MP.e_mod, MP.e_neg, MP.e_lt, MP.e_le, MP.e_gt, MP.e_ge, MP.e_eq_ii, MP.e_ne_ii, MP.e_eq_ss, MP.e_ne_ss, MP.e_eq_bb, MP.e_ne_bb, MP.e_isN, MP.e_notN, MP.e_ix_s, MP.e_ix_t, MP.e_ix_f, MP.e_ix_r, MP.e_ixT, MP.e_set, MP.e_len_s, MP.e_len_t, MP.e_len_f, MP.e_len_r, MP.e_lenT, MP.e_int_i, MP.e_int_b, MP.e_abs, MP.e_max, MP.e_min, MP.e_tupI, MP.e_lstI, MP.e_allI, MP.e_anyI, MP.e_onI_t, MP.e_onI_f, MP.e_onI_r, MP.e_onL_r, MP.e_isi_n, MP.e_isi_b, MP.e_isi_i, MP.e_isi_s, MP.e_isi_t, MP.e_isi_f, MP.e_isiT_n, MP.e_isiT_b, MP.e_isiT_i, MP.e_isiT_s, MP.e_isiT_t, MP.e_isiT_f, MP.e_app, MP.e_split, MP.e_joinI, MP.e_join_r, MP.e_cut_s, MP.e_cut_t, MP.e_cut_f, MP.e_cut_r, MP.tr_b, MP.tr_i, MP.tr_s, MP.tr_n, MP.tr_t, MP.tr_r, MP.x_n, MP.x_b, MP.x_i, MP.x_s, MP.x_t, MP.x_f, MP.x_r, MP.atI_0, MP.atI_1, MP.atI_2, MP.atI_3, MP.atI_m1, MP.ixN_c0, MP.ixN_c1, MP.ixN_c2, MP.e_in_ss, MP.ib_NoneType_bool, MP.ib_NoneType_int, MP.ib_NoneType_str, MP.ib_NoneType_tuple, MP.ib_NoneType_list, MP.ib_NoneType_dict, MP.ib_NoneType_set, MP.ib_bool_bool, MP.ib_bool_int, MP.ib_bool_str, MP.ib_bool_tuple, MP.ib_bool_list, MP.ib_bool_dict, MP.ib_bool_set, MP.ib_int_bool, MP.ib_int_int, MP.ib_int_str, MP.ib_int_tuple, MP.ib_int_list, MP.ib_int_dict, MP.ib_int_set, MP.ib_str_bool, MP.ib_str_int, MP.ib_str_str, MP.ib_str_tuple, MP.ib_str_list, MP.ib_str_dict, MP.ib_str_set, MP.ib_tuple_bool, MP.ib_tuple_int, MP.ib_tuple_str, MP.ib_tuple_tuple, MP.ib_tuple_list, MP.ib_tuple_dict, MP.ib_tuple_set, MP.ib_list_bool, MP.ib_list_int, MP.ib_list_str, MP.ib_list_tuple, MP.ib_list_list, MP.ib_list_dict, MP.ib_list_set, MP.ib_dict_bool, MP.ib_dict_int, MP.ib_dict_str, MP.ib_dict_tuple, MP.ib_dict_list, MP.ib_dict_dict, MP.ib_dict_set, MP.ib_set_bool, MP.ib_set_int, MP.ib_set_str, MP.ib_set_tuple, MP.ib_set_list, MP.ib_set_dict, MP.ib_set_set, Bool.not_true, Bool.not_false, List.any_cons, List.any_nil, Bool.or_false, Bool.or_true, Bool.true_or, Bool.false_or, Bool.and_true, Bool.true_and, Bool.and_false, Bool.false_and, if_true, if_false, ite_true, ite_false, and_true, true_and, Bool.false_eq_true, List.getElem?_cons_zero, List.getElem?_cons_succ, List.set_cons_zero, List.set_cons_succ, List.length_cons, List.length_nil, List.cons_append, List.nil_append]; exact k


/-! ### rebuilt -/
/-- as data the same; a list is a new one -/
def Anew (h : PHeap) (v v' : PV) (h' : PHeap) : Prop := ∀ n0, v = .ref n0 → ∃ n, v' = .ref n ∧ h.length ≤ n
def sp_rebuilt : Nat → PSp
  | 0 => spNo
  | f + 1 => fun vs h Q _ => ∃ v d, vs = [v] ∧ rd h f v = some d ∧ ∀ v' t, rd (h ++ t) f v' = some d → Anew h v v' (h ++ t) → Q v' (h ++ t)
theorem rebuilt_items {f : Nat} {xs : List PV} {ds : List PyData} {h : PHeap} {ok : PHeap → Prop} {i : Nat} {τ0 : PSt} {Q : List PV → PHeap → Prop} (l : xs.length ≤ 100000) (e : allD (rd h f) xs = some ds) (hok : ∀ t, ok (h ++ t))
    (hi : ∀ x : PV, (τ0.set i (some x))[i]? = some (some x)) (q : ∀ ys t, allD (rd (h ++ t) f) ys = some ds → ys.length = xs.length → Q ys (h ++ t)) :
    lcGo (.nm i) pYes (pCall (gd 1 (sp_rebuilt (f + 1))) (pCons (pVar i) pNil)) ok τ0 xs [] h Q := by
  refine lcGo_inv (fun k acc h' => ∃ t, h' = h ++ t ∧ acc.length = k ∧ allD (rd h' f) acc = some (ds.take k)) xs (fun k acc h' ⟨t, e, _⟩ => by rw [e]; exact hok t) (fun acc h' z => ?_) (fun k x acc h' N ek z n => ?_) h ⟨[], by simp, rfl, by simp [allD]⟩
  · obtain ⟨t, e1, e2, e3⟩ := z
    subst e1
    refine q acc t ?_ e2
    rw [e3, List.take_of_length_le (by rw [← allD_len e]; exact Nat.le_refl _)]
  · obtain ⟨t, e1, e2, e3⟩ := z
    subst e1
    obtain ⟨d, ed, ex⟩ := allD_get e k x ek
    have ex' := rd_app t ex
    refine ⟨_, rfl, ?_⟩
    unfold pYes
    dsimp only
    rw [if_pos rfl]
    unfold pCall pCons pVar pNil
    dsimp only
    rw [hi x]
    refine ⟨rd_notExc ex', rfl, x, d, rfl, ex', fun v' t' r' _ => ⟨by rw [e2, sizeLine_eq]; have := (List.getElem?_eq_some_iff.mp ek).1; omega, n _ _ ⟨t ++ t', by rw [List.append_assoc], by rw [List.length_append, e2]; rfl, ?_⟩⟩⟩
    have e5 : ds.take (k + 1) = ds.take k ++ [d] := by
      rw [List.take_add_one, ed]
      rfl
    rw [e5]
    exact allD_snoc (allD_mono (fun x d z => rd_app t' z) e3) r'
theorem pure_rebuilt (f : Nat) (vs : List PV) (h : PHeap) (Q : PQ) (Ex : PXQ) (_ : vs.length = 1) (hh : sp_rebuilt (f + 1) vs h Q Ex) : t_rebuilt (sp_rebuilt f) (body Q Ex) (pstart 2 vs) h := by
  obtain ⟨v, d, rfl, hr, k⟩ := hh
  have hx := rd_notExc hr
  show t_rebuilt (sp_rebuilt f) (body Q Ex) [some v, none] h
  unfold t_rebuilt
  have self : scal d = some v → Q v h := fun _ => by
    have := k v [] (by simpa using hr)
    rw [List.append_nil] at this
    refine this fun n0 e => ?_
    subst e
    cases d <;> rename_i z <;> cases z
  cases v with
  | tup xs =>
    obtain ⟨g, ys, rfl, ey, l, e⟩ := rd_items (ds := (match d with | .tuple ds => ds | _ => [])) hr (by
      cases f with
      | zero => cases hr
      | succ f => obtain ⟨ds, rfl, _⟩ := rd_tup hr; rfl)
    cases ey
    obtain ⟨ds, rfl, _⟩ := rd_tup hr
    simp only [MP.pSeq, MP.pIfS, MP.pRet, MP.pRetN, MP.pNext, MP.pAsg, MP.pDrop, MP.pBrk, MP.pCt, MP.pVar, MP.pC, MP.pOp, MP.pUn, MP.pNil, MP.pCons, MP.pCB, MP.pCall, MP.pTup, MP.pTmp, MP.pNew, MP.pCT, MP.pIf, MP.pB, MP.pT, MP.pAnd, MP.pOr, MP.pNot, MP.pAndV, MP.pOrV, MP.pNotV, MP.pChain, MP.pG, MP.pGs, MP.pIxT, MP.pSlice, MP.pPart, MP.pNoPart, MP.pMtT, MP.pJoinT, MP.pAsgS, MP.pAug, MP.body, MP.gd, MP.e_add_ii, MP.e_add_ss, MP.e_add_tt, MP.e_add_rr, MP.e_sub, MP.e_mul_ii, MP.e_mul_si, MP.e_mul_ri, MP.e_iadd_ii, MP.e_iadd_ss, MP.e_pow, MP.e_fdiv, MP.e_mod, MP.e_neg, MP.e_lt, MP.e_le, MP.e_gt, MP.e_ge, MP.e_eq_ii, MP.e_ne_ii, MP.e_eq_ss, MP.e_ne_ss, MP.e_eq_bb, MP.e_ne_bb, MP.e_isN, MP.e_notN, MP.e_ix_s, MP.e_ix_t, MP.e_ix_f, MP.e_ix_r, MP.e_ixT, MP.e_set, MP.e_len_s, MP.e_len_t, MP.e_len_f, MP.e_len_r, MP.e_lenT, MP.e_int_i, MP.e_int_b, MP.e_abs, MP.e_max, MP.e_min, MP.e_tupI, MP.e_lstI, MP.e_allI, MP.e_anyI, MP.e_onI_t, MP.e_onI_f, MP.e_onI_r, MP.e_onL_r, MP.e_isi_n, MP.e_isi_b, MP.e_isi_i, MP.e_isi_s, MP.e_isi_t, MP.e_isi_f, MP.e_isiT_n, MP.e_isiT_b, MP.e_isiT_i, MP.e_isiT_s, MP.e_isiT_t, MP.e_isiT_f, MP.e_app, MP.e_split, MP.e_joinI, MP.e_join_r, MP.e_cut_s, MP.e_cut_t, MP.e_cut_f, MP.e_cut_r, MP.tr_b, MP.tr_i, MP.tr_s, MP.tr_n, MP.tr_t, MP.tr_r, MP.x_n, MP.x_b, MP.x_i, MP.x_s, MP.x_t, MP.x_f, MP.x_r, MP.atI_0, MP.atI_1, MP.atI_2, MP.atI_3, MP.atI_m1, MP.ixN_c0, MP.ixN_c1, MP.ixN_c2, MP.e_in_ss, MP.ib_NoneType_bool, MP.ib_NoneType_int, MP.ib_NoneType_str, MP.ib_NoneType_tuple, MP.ib_NoneType_list, MP.ib_NoneType_dict, MP.ib_NoneType_set, MP.ib_bool_bool, MP.ib_bool_int, MP.ib_bool_str, MP.ib_bool_tuple, MP.ib_bool_list, MP.ib_bool_dict, MP.ib_bool_set, MP.ib_int_bool, MP.ib_int_int, MP.ib_int_str, MP.ib_int_tuple, MP.ib_int_list, MP.ib_int_dict, MP.ib_int_set, MP.ib_str_bool, MP.ib_str_int, MP.ib_str_str, MP.ib_str_tuple, MP.ib_str_list, MP.ib_str_dict, MP.ib_str_set, MP.ib_tuple_bool, MP.ib_tuple_int, MP.ib_tuple_str, MP.ib_tuple_tuple, MP.ib_tuple_list, MP.ib_tuple_dict, MP.ib_tuple_set, MP.ib_list_bool, MP.ib_list_int, MP.ib_list_str, MP.ib_list_tuple, MP.ib_list_list, MP.ib_list_dict, MP.ib_list_set, MP.ib_dict_bool, MP.ib_dict_int, MP.ib_dict_str, MP.ib_dict_tuple, MP.ib_dict_list, MP.ib_dict_dict, MP.ib_dict_set, MP.ib_set_bool, MP.ib_set_int, MP.ib_set_str, MP.ib_set_tuple, MP.ib_set_list, MP.ib_set_dict, MP.ib_set_set, Bool.not_true, Bool.not_false, List.any_cons, List.any_nil, Bool.or_false, Bool.or_true, Bool.true_or, Bool.false_or, Bool.and_true, Bool.true_and, Bool.and_false, Bool.false_and, if_true, if_false, ite_true, ite_false, and_true, true_and, Bool.false_eq_true, List.getElem?_cons_zero, List.getElem?_cons_succ, List.set_cons_zero, List.set_cons_succ, List.length_cons, List.length_nil, List.cons_append, List.nil_append]
    refine ⟨rfl, rebuilt_items l e (fun _ => trivial) (fun _ => rfl) fun zs t ez lz => ?_⟩
    exact k _ t (rd_tup_of (by rw [lz]; exact l) ez) (fun n0 e => by cases e)
  | fl xs =>
    cases f with
    | zero => cases hr
    | succ f =>
      have e' : (rdL (rd h f) xs).map PyData.list = some d := hr
      obtain ⟨ds, e1, rfl⟩ := Option.map_eq_some_iff.mp e'
      obtain ⟨l, e1⟩ := rdL_ok e1
      simp only [MP.pSeq, MP.pIfS, MP.pRet, MP.pRetN, MP.pNext, MP.pAsg, MP.pDrop, MP.pBrk, MP.pCt, MP.pVar, MP.pC, MP.pOp, MP.pUn, MP.pNil, MP.pCons, MP.pCB, MP.pCall, MP.pTup, MP.pTmp, MP.pNew, MP.pCT, MP.pIf, MP.pB, MP.pT, MP.pAnd, MP.pOr, MP.pNot, MP.pAndV, MP.pOrV, MP.pNotV, MP.pChain, MP.pG, MP.pGs, MP.pIxT, MP.pSlice, MP.pPart, MP.pNoPart, MP.pMtT, MP.pJoinT, MP.pAsgS, MP.pAug, MP.body, MP.gd, MP.e_add_ii, MP.e_add_ss, MP.e_add_tt, MP.e_add_rr, MP.e_sub, MP.e_mul_ii, MP.e_mul_si, MP.e_mul_ri, MP.e_iadd_ii, MP.e_iadd_ss, MP.e_pow, MP.e_fdiv, MP.e_mod, MP.e_neg, MP.e_lt, MP.e_le, MP.e_gt, MP.e_ge, MP.e_eq_ii, MP.e_ne_ii, MP.e_eq_ss, MP.e_ne_ss, MP.e_eq_bb, MP.e_ne_bb, MP.e_isN, MP.e_notN, MP.e_ix_s, MP.e_ix_t, MP.e_ix_f, MP.e_ix_r, MP.e_ixT, MP.e_set, MP.e_len_s, MP.e_len_t, MP.e_len_f, MP.e_len_r, MP.e_lenT, MP.e_int_i, MP.e_int_b, MP.e_abs, MP.e_max, MP.e_min, MP.e_tupI, MP.e_lstI, MP.e_allI, MP.e_anyI, MP.e_onI_t, MP.e_onI_f, MP.e_onI_r, MP.e_onL_r, MP.e_isi_n, MP.e_isi_b, MP.e_isi_i, MP.e_isi_s, MP.e_isi_t, MP.e_isi_f, MP.e_isiT_n, MP.e_isiT_b, MP.e_isiT_i, MP.e_isiT_s, MP.e_isiT_t, MP.e_isiT_f, MP.e_app, MP.e_split, MP.e_joinI, MP.e_join_r, MP.e_cut_s, MP.e_cut_t, MP.e_cut_f, MP.e_cut_r, MP.tr_b, MP.tr_i, MP.tr_s, MP.tr_n, MP.tr_t, MP.tr_r, MP.x_n, MP.x_b, MP.x_i, MP.x_s, MP.x_t, MP.x_f, MP.x_r, MP.atI_0, MP.atI_1, MP.atI_2, MP.atI_3, MP.atI_m1, MP.ixN_c0, MP.ixN_c1, MP.ixN_c2, MP.e_in_ss, MP.ib_NoneType_bool, MP.ib_NoneType_int, MP.ib_NoneType_str, MP.ib_NoneType_tuple, MP.ib_NoneType_list, MP.ib_NoneType_dict, MP.ib_NoneType_set, MP.ib_bool_bool, MP.ib_bool_int, MP.ib_bool_str, MP.ib_bool_tuple, MP.ib_bool_list, MP.ib_bool_dict, MP.ib_bool_set, MP.ib_int_bool, MP.ib_int_int, MP.ib_int_str, MP.ib_int_tuple, MP.ib_int_list, MP.ib_int_dict, MP.ib_int_set, MP.ib_str_bool, MP.ib_str_int, MP.ib_str_str, MP.ib_str_tuple, MP.ib_str_list, MP.ib_str_dict, MP.ib_str_set, MP.ib_tuple_bool, MP.ib_tuple_int, MP.ib_tuple_str, MP.ib_tuple_tuple, MP.ib_tuple_list, MP.ib_tuple_dict, MP.ib_tuple_set, MP.ib_list_bool, MP.ib_list_int, MP.ib_list_str, MP.ib_list_tuple, MP.ib_list_list, MP.ib_list_dict, MP.ib_list_set, MP.ib_dict_bool, MP.ib_dict_int, MP.ib_dict_str, MP.ib_dict_tuple, MP.ib_dict_list, MP.ib_dict_dict, MP.ib_dict_set, MP.ib_set_bool, MP.ib_set_int, MP.ib_set_str, MP.ib_set_tuple, MP.ib_set_list, MP.ib_set_dict, MP.ib_set_set, Bool.not_true, Bool.not_false, List.any_cons, List.any_nil, Bool.or_false, Bool.or_true, Bool.true_or, Bool.false_or, Bool.and_true, Bool.true_and, Bool.and_false, Bool.false_and, if_true, if_false, ite_true, ite_false, and_true, true_and, Bool.false_eq_true, List.getElem?_cons_zero, List.getElem?_cons_succ, List.set_cons_zero, List.set_cons_succ, List.length_cons, List.length_nil, List.cons_append, List.nil_append]
      refine ⟨rfl, rebuilt_items l e1 (fun _ => trivial) (fun _ => rfl) fun zs t ez lz => ?_⟩
      have := k (.ref (h ++ t).length) (t ++ [.lst zs]) (by
        rw [← List.append_assoc]
        exact rd_ref_of (by simp) (by rw [lz]; exact l) (allD_mono (fun x d z => rd_app _ z) ez)) (fun n0 e => by cases e)
      rw [← List.append_assoc] at this
      exact this
  | ref n =>
    cases f with
    | zero => cases hr
    | succ f =>
      obtain ⟨xs, ds, en, rfl, l, e1⟩ := rd_ref hr
      have et : tyOf h (.ref n) = some "list" := by rw [ty_r, en]
      simp only [MP.pSeq, MP.pIfS, MP.pRet, MP.pRetN, MP.pNext, MP.pAsg, MP.pDrop, MP.pBrk, MP.pCt, MP.pVar, MP.pC, MP.pOp, MP.pUn, MP.pNil, MP.pCons, MP.pCB, MP.pCall, MP.pTup, MP.pTmp, MP.pNew, MP.pCT, MP.pIf, MP.pB, MP.pT, MP.pAnd, MP.pOr, MP.pNot, MP.pAndV, MP.pOrV, MP.pNotV, MP.pChain, MP.pG, MP.pGs, MP.pIxT, MP.pSlice, MP.pPart, MP.pNoPart, MP.pMtT, MP.pJoinT, MP.pAsgS, MP.pAug, MP.body, MP.gd, MP.e_add_ii, MP.e_add_ss, MP.e_add_tt, MP.e_add_rr, MP.e_sub, MP.e_mul_ii, MP.e_mul_si, MP.e_mul_ri, MP.e_iadd_ii, MP.e_iadd_ss, MP.e_pow, MP.e_fdiv, MP.e_mod, MP.e_neg, MP.e_lt, MP.e_le, MP.e_gt, MP.e_ge, MP.e_eq_ii, MP.e_ne_ii, MP.e_eq_ss, MP.e_ne_ss, MP.e_eq_bb, MP.e_ne_bb, MP.e_isN, MP.e_notN, MP.e_ix_s, MP.e_ix_t, MP.e_ix_f, MP.e_ix_r, MP.e_ixT, MP.e_set, MP.e_len_s, MP.e_len_t, MP.e_len_f, MP.e_len_r, MP.e_lenT, MP.e_int_i, MP.e_int_b, MP.e_abs, MP.e_max, MP.e_min, MP.e_tupI, MP.e_lstI, MP.e_allI, MP.e_anyI, MP.e_onI_t, MP.e_onI_f, MP.e_onI_r, MP.e_onL_r, MP.e_isi_n, MP.e_isi_b, MP.e_isi_i, MP.e_isi_s, MP.e_isi_t, MP.e_isi_f, MP.e_isiT_n, MP.e_isiT_b, MP.e_isiT_i, MP.e_isiT_s, MP.e_isiT_t, MP.e_isiT_f, MP.e_app, MP.e_split, MP.e_joinI, MP.e_join_r, MP.e_cut_s, MP.e_cut_t, MP.e_cut_f, MP.e_cut_r, MP.tr_b, MP.tr_i, MP.tr_s, MP.tr_n, MP.tr_t, MP.tr_r, MP.x_n, MP.x_b, MP.x_i, MP.x_s, MP.x_t, MP.x_f, MP.x_r, MP.atI_0, MP.atI_1, MP.atI_2, MP.atI_3, MP.atI_m1, MP.ixN_c0, MP.ixN_c1, MP.ixN_c2, MP.e_in_ss, MP.ib_NoneType_bool, MP.ib_NoneType_int, MP.ib_NoneType_str, MP.ib_NoneType_tuple, MP.ib_NoneType_list, MP.ib_NoneType_dict, MP.ib_NoneType_set, MP.ib_bool_bool, MP.ib_bool_int, MP.ib_bool_str, MP.ib_bool_tuple, MP.ib_bool_list, MP.ib_bool_dict, MP.ib_bool_set, MP.ib_int_bool, MP.ib_int_int, MP.ib_int_str, MP.ib_int_tuple, MP.ib_int_list, MP.ib_int_dict, MP.ib_int_set, MP.ib_str_bool, MP.ib_str_int, MP.ib_str_str, MP.ib_str_tuple, MP.ib_str_list, MP.ib_str_dict, MP.ib_str_set, MP.ib_tuple_bool, MP.ib_tuple_int, MP.ib_tuple_str, MP.ib_tuple_tuple, MP.ib_tuple_list, MP.ib_tuple_dict, MP.ib_tuple_set, MP.ib_list_bool, MP.ib_list_int, MP.ib_list_str, MP.ib_list_tuple, MP.ib_list_list, MP.ib_list_dict, MP.ib_list_set, MP.ib_dict_bool, MP.ib_dict_int, MP.ib_dict_str, MP.ib_dict_tuple, MP.ib_dict_list, MP.ib_dict_dict, MP.ib_dict_set, MP.ib_set_bool, MP.ib_set_int, MP.ib_set_str, MP.ib_set_tuple, MP.ib_set_list, MP.ib_set_dict, MP.ib_set_set, Bool.not_true, Bool.not_false, List.any_cons, List.any_nil, Bool.or_false, Bool.or_true, Bool.true_or, Bool.false_or, Bool.and_true, Bool.true_and, Bool.and_false, Bool.false_and, if_true, if_false, ite_true, ite_false, and_true, true_and, Bool.false_eq_true, List.getElem?_cons_zero, List.getElem?_cons_succ, List.set_cons_zero, List.set_cons_succ, List.length_cons, List.length_nil, List.cons_append, List.nil_append, e_isi et]
      refine ⟨rfl, ?_⟩
      dsimp only
      rw [en]
      refine rebuilt_items l e1 (fun t => ?_) (fun _ => rfl) fun zs t ez lz => ?_
      · rw [List.getElem?_append_left (List.getElem?_eq_some_iff.mp en).1]
        exact en
      · have := k (.ref (h ++ t).length) (t ++ [.lst zs]) (by
          rw [← List.append_assoc]
          exact rd_ref_of (by simp) (by rw [lz]; exact l) (allD_mono (fun x d z => rd_app _ z) ez)) (fun n0 e => ⟨_, rfl, by simp⟩)
        rw [← List.append_assoc] at this
        exact this
  | exc c x => cases hx
  | non => simp only [MP.pSeq, MP.pIfS, MP.pRet, MP.pRetN, MP.pNext, MP.pAsg, MP.pDrop, MP.pBrk, MP.pCt, MP.pVar, MP.pC, MP.pOp, MP.pUn, MP.pNil, MP.pCons, MP.pCB, MP.pCall, MP.pTup, MP.pTmp, MP.pNew, MP.pCT, MP.pIf, MP.pB, MP.pT, MP.pAnd, MP.pOr, MP.pNot, MP.pAndV, MP.pOrV, MP.pNotV, MP.pChain, MP.pG, MP.pGs, MP.pIxT, MP.pSlice, MP.pPart, MP.pNoPart, MP.pMtT, MP.pJoinT, MP.pAsgS, MP.pAug, MP.body, MP.gd, MP.e_add_ii, MP.e_add_ss, MP.e_add_tt, MP.e_add_rr, MP.e_sub, MP.e_mul_ii, MP.e_mul_si, MP.e_mul_ri, MP.e_iadd_ii, MP.e_iadd_ss, MP.e_pow, MP.e_fdiv, MP.e_mod, MP.e_neg, MP.e_lt, MP.e_le, MP.e_gt, MP.e_ge, MP.e_eq_ii, MP.e_ne_ii, MP.e_eq_ss, MP.e_ne_ss, MP.e_eq_bb, MP.e_ne_bb, MP.e_isN, MP.e_notN, MP.e_ix_s, MP.e_ix_t, MP.e_ix_f, MP.e_ix_r, MP.e_ixT, MP.e_set, MP.e_len_s, MP.e_len_t, MP.e_len_f, MP.e_len_r, MP.e_lenT, MP.e_int_i, MP.e_int_b, MP.e_abs, MP.e_max, MP.e_min, MP.e_tupI, MP.e_lstI, MP.e_allI, MP.e_anyI, MP.e_onI_t, MP.e_onI_f, MP.e_onI_r, MP.e_onL_r, MP.e_isi_n, MP.e_isi_b, MP.e_isi_i, MP.e_isi_s, MP.e_isi_t, MP.e_isi_f, MP.e_isiT_n, MP.e_isiT_b, MP.e_isiT_i, MP.e_isiT_s, MP.e_isiT_t, MP.e_isiT_f, MP.e_app, MP.e_split, MP.e_joinI, MP.e_join_r, MP.e_cut_s, MP.e_cut_t, MP.e_cut_f, MP.e_cut_r, MP.tr_b, MP.tr_i, MP.tr_s, MP.tr_n, MP.tr_t, MP.tr_r, MP.x_n, MP.x_b, MP.x_i, MP.x_s, MP.x_t, MP.x_f, MP.x_r, MP.atI_0, MP.atI_1, MP.atI_2, MP.atI_3, MP.atI_m1, MP.ixN_c0, MP.ixN_c1, MP.ixN_c2, MP.e_in_ss, MP.ib_NoneType_bool, MP.ib_NoneType_int, MP.ib_NoneType_str, MP.ib_NoneType_tuple, MP.ib_NoneType_list, MP.ib_NoneType_dict, MP.ib_NoneType_set, MP.ib_bool_bool, MP.ib_bool_int, MP.ib_bool_str, MP.ib_bool_tuple, MP.ib_bool_list, MP.ib_bool_dict, MP.ib_bool_set, MP.ib_int_bool, MP.ib_int_int, MP.ib_int_str, MP.ib_int_tuple, MP.ib_int_list, MP.ib_int_dict, MP.ib_int_set, MP.ib_str_bool, MP.ib_str_int, MP.ib_str_str, MP.ib_str_tuple, MP.ib_str_list, MP.ib_str_dict, MP.ib_str_set, MP.ib_tuple_bool, MP.ib_tuple_int, MP.ib_tuple_str, MP.ib_tuple_tuple, MP.ib_tuple_list, MP.ib_tuple_dict, MP.ib_tuple_set, MP.ib_list_bool, MP.ib_list_int, MP.ib_list_str, MP.ib_list_tuple, MP.ib_list_list, MP.ib_list_dict, MP.ib_list_set, MP.ib_dict_bool, MP.ib_dict_int, MP.ib_dict_str, MP.ib_dict_tuple, MP.ib_dict_list, MP.ib_dict_dict, MP.ib_dict_set, MP.ib_set_bool, MP.ib_set_int, MP.ib_set_str, MP.ib_set_tuple, MP.ib_set_list, MP.ib_set_dict, MP.ib_set_set, Bool.not_true, Bool.not_false, List.any_cons, List.any_nil, Bool.or_false, Bool.or_true, Bool.true_or, Bool.false_or, Bool.and_true, Bool.true_and, Bool.and_false, Bool.false_and, if_true, if_false, ite_true, ite_false, and_true, true_and, Bool.false_eq_true, List.getElem?_cons_zero, List.getElem?_cons_succ, List.set_cons_zero, List.set_cons_succ, List.length_cons, List.length_nil, List.cons_append, List.nil_append]; exact self (by cases f <;> cases hr <;> rfl)
  | bl b => simp only [MP.pSeq, MP.pIfS, MP.pRet, MP.pRetN, MP.pNext, MP.pAsg, MP.pDrop, MP.pBrk, MP.pCt, MP.pVar, MP.pC, MP.pOp, MP.pUn, MP.pNil, MP.pCons, MP.pCB, MP.pCall, MP.pTup, MP.pTmp, MP.pNew, MP.pCT, MP.pIf, MP.pB, MP.pT, MP.pAnd, MP.pOr, MP.pNot, MP.pAndV, MP.pOrV, MP.pNotV, MP.pChain, MP.pG, MP.pGs, MP.pIxT, MP.pSlice, MP.pPart, MP.pNoPart, MP.pMtT, MP.pJoinT, MP.pAsgS, MP.pAug, MP.body, MP.gd, MP.e_add_ii, MP.e_add_ss, MP.e_add_tt, MP.e_add_rr, MP.e_sub, MP.e_mul_ii, MP.e_mul_si, MP.e_mul_ri, MP.e_iadd_ii, MP.e_iadd_ss, MP.e_pow, MP.e_fdiv, MP.e_mod, MP.e_neg, MP.e_lt, MP.e_le, MP.e_gt, MP.e_ge, MP.e_eq_ii, MP.e_ne_ii, MP.e_eq_ss, MP.e_ne_ss, MP.e_eq_bb, MP.e_ne_bb, MP.e_isN, MP.e_notN, MP.e_ix_s, MP.e_ix_t, MP.e_ix_f, MP.e_ix_r, MP.e_ixT, MP.e_set, MP.e_len_s, MP.e_len_t, MP.e_len_f, MP.e_len_r, MP.e_lenT, MP.e_int_i, MP.e_int_b, MP.e_abs, MP.e_max, MP.e_min, MP.e_tupI, MP.e_lstI, MP.e_allI, MP.e_anyI, MP.e_onI_t, MP.e_onI_f, MP.e_onI_r, MP.e_onL_r, MP.e_isi_n, MP.e_isi_b, MP.e_isi_i, MP.e_isi_s, MP.e_isi_t, MP.e_isi_f, MP.e_isiT_n, MP.e_isiT_b, MP.e_isiT_i, MP.e_isiT_s, MP.e_isiT_t, MP.e_isiT_f, MP.e_app, MP.e_split, MP.e_joinI, MP.e_join_r, MP.e_cut_s, MP.e_cut_t, MP.e_cut_f, MP.e_cut_r, MP.tr_b, MP.tr_i, MP.tr_s, MP.tr_n, MP.tr_t, MP.tr_r, MP.x_n, MP.x_b, MP.x_i, MP.x_s, MP.x_t, MP.x_f, MP.x_r, MP.atI_0, MP.atI_1, MP.atI_2, MP.atI_3, MP.atI_m1, MP.ixN_c0, MP.ixN_c1, MP.ixN_c2, MP.e_in_ss, MP.ib_NoneType_bool, MP.ib_NoneType_int, MP.ib_NoneType_str, MP.ib_NoneType_tuple, MP.ib_NoneType_list, MP.ib_NoneType_dict, MP.ib_NoneType_set, MP.ib_bool_bool, MP.ib_bool_int, MP.ib_bool_str, MP.ib_bool_tuple, MP.ib_bool_list, MP.ib_bool_dict, MP.ib_bool_set, MP.ib_int_bool, MP.ib_int_int, MP.ib_int_str, MP.ib_int_tuple, MP.ib_int_list, MP.ib_int_dict, MP.ib_int_set, MP.ib_str_bool, MP.ib_str_int, MP.ib_str_str, MP.ib_str_tuple, MP.ib_str_list, MP.ib_str_dict, MP.ib_str_set, MP.ib_tuple_bool, MP.ib_tuple_int, MP.ib_tuple_str, MP.ib_tuple_tuple, MP.ib_tuple_list, MP.ib_tuple_dict, MP.ib_tuple_set, MP.ib_list_bool, MP.ib_list_int, MP.ib_list_str, MP.ib_list_tuple, MP.ib_list_list, MP.ib_list_dict, MP.ib_list_set, MP.ib_dict_bool, MP.ib_dict_int, MP.ib_dict_str, MP.ib_dict_tuple, MP.ib_dict_list, MP.ib_dict_dict, MP.ib_dict_set, MP.ib_set_bool, MP.ib_set_int, MP.ib_set_str, MP.ib_set_tuple, MP.ib_set_list, MP.ib_set_dict, MP.ib_set_set, Bool.not_true, Bool.not_false, List.any_cons, List.any_nil, Bool.or_false, Bool.or_true, Bool.true_or, Bool.false_or, Bool.and_true, Bool.true_and, Bool.and_false, Bool.false_and, if_true, if_false, ite_true, ite_false, and_true, true_and, Bool.false_eq_true, List.getElem?_cons_zero, List.getElem?_cons_succ, List.set_cons_zero, List.set_cons_succ, List.length_cons, List.length_nil, List.cons_append, List.nil_append]; exact self (by cases f <;> cases hr <;> rfl)
  | int b => simp only [MP.pSeq, MP.pIfS, MP.pRet, MP.pRetN, MP.pNext, MP.pAsg, MP.pDrop, MP.pBrk, MP.pCt, MP.pVar, MP.pC, MP.pOp, MP.pUn, MP.pNil, MP.pCons, MP.pCB, MP.pCall, MP.pTup, MP.pTmp, MP.pNew, MP.pCT, MP.pIf, MP.pB, MP.pT, MP.pAnd, MP.pOr, MP.pNot, MP.pAndV, MP.pOrV, MP.pNotV, MP.pChain, MP.pG, MP.pGs, MP.pIxT, MP.pSlice, MP.pPart, MP.pNoPart, MP.pMtT, MP.pJoinT, MP.pAsgS, MP.pAug, MP.body, MP.gd, MP.e_add_ii, MP.e_add_ss, MP.e_add_tt, MP.e_add_rr, MP.e_sub, MP.e_mul_ii, MP.e_mul_si, MP.e_mul_ri, MP.e_iadd_ii, MP.e_iadd_ss, MP.e_pow, MP.e_fdiv, MP.e_mod, MP.e_neg, MP.e_lt, MP.e_le, MP.e_gt, MP.e_ge, MP.e_eq_ii, MP.e_ne_ii, MP.e_eq_ss, MP.e_ne_ss, MP.e_eq_bb, MP.e_ne_bb, MP.e_isN, MP.e_notN, MP.e_ix_s, MP.e_ix_t, MP.e_ix_f, MP.e_ix_r, MP.e_ixT, MP.e_set, MP.e_len_s, MP.e_len_t, MP.e_len_f, MP.e_len_r, MP.e_lenT, MP.e_int_i, MP.e_int_b, MP.e_abs, MP.e_max, MP.e_min, MP.e_tupI, MP.e_lstI, MP.e_allI, MP.e_anyI, MP.e_onI_t, MP.e_onI_f, MP.e_onI_r, MP.e_onL_r, MP.e_isi_n, MP.e_isi_b, MP.e_isi_i, MP.e_isi_s, MP.e_isi_t, MP.e_isi_f, MP.e_isiT_n, MP.e_isiT_b, MP.e_isiT_i, MP.e_isiT_s, MP.e_isiT_t, MP.e_isiT_f, MP.e_app, MP.e_split, MP.e_joinI, MP.e_join_r, MP.e_cut_s, MP.e_cut_t, MP.e_cut_f, MP.e_cut_r, MP.tr_b, MP.tr_i, MP.tr_s, MP.tr_n, MP.tr_t, MP.tr_r, MP.x_n, MP.x_b, MP.x_i, MP.x_s, MP.x_t, MP.x_f, MP.x_r, MP.atI_0, MP.atI_1, MP.atI_2, MP.atI_3, MP.atI_m1, MP.ixN_c0, MP.ixN_c1, MP.ixN_c2, MP.e_in_ss, MP.ib_NoneType_bool, MP.ib_NoneType_int, MP.ib_NoneType_str, MP.ib_NoneType_tuple, MP.ib_NoneType_list, MP.ib_NoneType_dict, MP.ib_NoneType_set, MP.ib_bool_bool, MP.ib_bool_int, MP.ib_bool_str, MP.ib_bool_tuple, MP.ib_bool_list, MP.ib_bool_dict, MP.ib_bool_set, MP.ib_int_bool, MP.ib_int_int, MP.ib_int_str, MP.ib_int_tuple, MP.ib_int_list, MP.ib_int_dict, MP.ib_int_set, MP.ib_str_bool, MP.ib_str_int, MP.ib_str_str, MP.ib_str_tuple, MP.ib_str_list, MP.ib_str_dict, MP.ib_str_set, MP.ib_tuple_bool, MP.ib_tuple_int, MP.ib_tuple_str, MP.ib_tuple_tuple, MP.ib_tuple_list, MP.ib_tuple_dict, MP.ib_tuple_set, MP.ib_list_bool, MP.ib_list_int, MP.ib_list_str, MP.ib_list_tuple, MP.ib_list_list, MP.ib_list_dict, MP.ib_list_set, MP.ib_dict_bool, MP.ib_dict_int, MP.ib_dict_str, MP.ib_dict_tuple, MP.ib_dict_list, MP.ib_dict_dict, MP.ib_dict_set, MP.ib_set_bool, MP.ib_set_int, MP.ib_set_str, MP.ib_set_tuple, MP.ib_set_list, MP.ib_set_dict, MP.ib_set_set, Bool.not_true, Bool.not_false, List.any_cons, List.any_nil, Bool.or_false, Bool.or_true, Bool.true_or, Bool.false_or, Bool.and_true, Bool.true_and, Bool.and_false, Bool.false_and, if_true, if_false, ite_true, ite_false, and_true, true_and, Bool.false_eq_true, List.getElem?_cons_zero, List.getElem?_cons_succ, List.set_cons_zero, List.set_cons_succ, List.length_cons, List.length_nil, List.cons_append, List.nil_append]; exact self (by cases f <;> cases hr <;> rfl)
  | str b => simp only [MP.pSeq, MP.pIfS, MP.pRet, MP.pRetN, MP.pNext, MP.pAsg, MP.pDrop, MP.pBrk, MP.pCt, MP.pVar, MP.pC, MP.pOp, MP.pUn, MP.pNil, MP.pCons, MP.pCB, MP.pCall, MP.pTup, MP.pTmp, MP.pNew, MP.pCT, MP.pIf, MP.pB, MP.pT, MP.pAnd, MP.pOr, MP.pNot, MP.pAndV, MP.pOrV, MP.pNotV, MP.pChain, MP.pG, MP.pGs, MP.pIxT, MP.pSlice, MP.pPart, MP.pNoPart, MP.pMtT, MP.pJoinT, MP.pAsgS, MP.pAug, MP.body, MP.gd, MP.e_add_ii, MP.e_add_ss, MP.e_add_tt, MP.e_add_rr, MP.e_sub, MP.e_mul_ii, MP.e_mul_si, MP.e_mul_ri, MP.e_iadd_ii, MP.e_iadd_ss, MP.e_pow, MP.e_fdiv, MP.e_mod, MP.e_neg, MP.e_lt, MP.e_le, MP.e_gt, MP.e_ge, MP.e_eq_ii, MP.e_ne_ii, MP.e_eq_ss, MP.e_ne_ss, MP.e_eq_bb, MP.e_ne_bb, MP.e_isN, MP.e_notN, MP.e_ix_s, MP.e_ix_t, MP.e_ix_f, MP.e_ix_r, MP.e_ixT, MP.e_set, MP.e_len_s, MP.e_len_t, MP.e_len_f, MP.e_len_r, MP.e_lenT, MP.e_int_i, MP.e_int_b, MP.e_abs, MP.e_max, MP.e_min, MP.e_tupI, MP.e_lstI, MP.e_allI, MP.e_anyI, MP.e_onI_t, MP.e_onI_f, MP.e_onI_r, MP.e_onL_r, MP.e_isi_n, MP.e_isi_b, MP.e_isi_i, MP.e_isi_s, MP.e_isi_t, MP.e_isi_f, MP.e_isiT_n, MP.e_isiT_b, MP.e_isiT_i, MP.e_isiT_s, MP.e_isiT_t, MP.e_isiT_f, MP.e_app, MP.e_split, MP.e_joinI, MP.e_join_r, MP.e_cut_s, MP.e_cut_t, MP.e_cut_f, MP.e_cut_r, MP.tr_b, MP.tr_i, MP.tr_s, MP.tr_n, MP.tr_t, MP.tr_r, MP.x_n, MP.x_b, MP.x_i, MP.x_s, MP.x_t, MP.x_f, MP.x_r, MP.atI_0, MP.atI_1, MP.atI_2, MP.atI_3, MP.atI_m1, MP.ixN_c0, MP.ixN_c1, MP.ixN_c2, MP.e_in_ss, MP.ib_NoneType_bool, MP.ib_NoneType_int, MP.ib_NoneType_str, MP.ib_NoneType_tuple, MP.ib_NoneType_list, MP.ib_NoneType_dict, MP.ib_NoneType_set, MP.ib_bool_bool, MP.ib_bool_int, MP.ib_bool_str, MP.ib_bool_tuple, MP.ib_bool_list, MP.ib_bool_dict, MP.ib_bool_set, MP.ib_int_bool, MP.ib_int_int, MP.ib_int_str, MP.ib_int_tuple, MP.ib_int_list, MP.ib_int_dict, MP.ib_int_set, MP.ib_str_bool, MP.ib_str_int, MP.ib_str_str, MP.ib_str_tuple, MP.ib_str_list, MP.ib_str_dict, MP.ib_str_set, MP.ib_tuple_bool, MP.ib_tuple_int, MP.ib_tuple_str, MP.ib_tuple_tuple, MP.ib_tuple_list, MP.ib_tuple_dict, MP.ib_tuple_set, MP.ib_list_bool, MP.ib_list_int, MP.ib_list_str, MP.ib_list_tuple, MP.ib_list_list, MP.ib_list_dict, MP.ib_list_set, MP.ib_dict_bool, MP.ib_dict_int, MP.ib_dict_str, MP.ib_dict_tuple, MP.ib_dict_list, MP.ib_dict_dict, MP.ib_dict_set, MP.ib_set_bool, MP.ib_set_int, MP.ib_set_str, MP.ib_set_tuple, MP.ib_set_list, MP.ib_set_dict, MP.ib_set_set, Bool.not_true, Bool.not_false, List.any_cons, List.any_nil, Bool.or_false, Bool.or_true, Bool.true_or, Bool.false_or, Bool.and_true, Bool.true_and, Bool.and_false, Bool.false_and, if_true, if_false, ite_true, ite_false, and_true, true_and, Bool.false_eq_true, List.getElem?_cons_zero, List.getElem?_cons_succ, List.set_cons_zero, List.set_cons_succ, List.length_cons, List.length_nil, List.cons_append, List.nil_append]; exact self (by cases f <;> cases hr <;> rfl)


theorem nam_tup : ∀ {v : PV}, isNam v = true → ∃ ss : List Str, v = .tup (ss.map .str) ∧ (ss.all fun s => labL (tl s)) = true ∧ (ss.drop 1).any (· == ("*" : Str)) = false
  | .tup xs, e => by
    obtain ⟨e1, e2⟩ := He.ba (show (xs.all isLab && !(xs.drop 1).any isStar) = true from e)
    obtain ⟨ss, rfl⟩ := labs_strs e1
    rw [← List.map_drop, any_star] at e2
    rw [List.all_map] at e1
    exact ⟨ss, rfl, e1, by simpa using e2⟩
def star1 : PV → Bool
  | .tup (.str s :: _) => s == "*"
  | _ => false
def isAsk (v : PV) : Bool := isNam v && !star1 v
theorem star1_eq (ss : List Str) : (ss.take 1 == [("*" : Str)]) = star1 (.tup (ss.map .str)) := by
  cases ss with
  | nil => rfl
  | cons s ss => simp [star1]
theorem size1 : 1 ≤ sizeLine := by rw [sizeLine_eq]; decide
/-- v[:1] != ('*',) of a name -/
theorem ne_star {ss : List Str} {h : PHeap} {Q : PQ} (l : ss.length ≤ 100000) (k : Q (.bl (!star1 (.tup (ss.map .str)))) h) : rNeP (.tup (cut (ss.map .str) none (some 1))) (.tup [.str "*"]) h Q := by
  rw [cut_t1, ← List.map_take, show ([PV.str "*"] : List PV) = [("*" : Str)].map .str from rfl, e_ne_tt (by rw [List.length_take]; omega) (by decide), star1_eq]
  exact k
def sp_is_asked : PSp := fun vs h Q _ => ∃ v, vs = [v] ∧ Rb h v ∧ Q (.bl (isAsk v)) h
theorem pure_is_asked (vs : List PV) (h : PHeap) (Q : PQ) (Ex : PXQ) (_ : vs.length = 1) (hh : sp_is_asked vs h Q Ex) : t_is_asked sp_is_name (body Q Ex) (pstart 1 vs) h := by
  obtain ⟨v, rfl, hr, k⟩ := hh
  have hx := hr.nx
  show t_is_asked sp_is_name (body Q Ex) [some v] h
  unfold t_is_asked
  simp only [MP.pSeq, MP.pIfS, MP.pRet, MP.pRetN, MP.pNext, MP.pAsg, MP.pDrop, MP.pBrk, MP.pCt, MP.pVar, MP.pC, MP.pOp, MP.pUn, MP.pNil, MP.pCons, MP.pCB, MP.pCall, MP.pTup, MP.pTmp, MP.pNew, MP.pCT, MP.pIf, MP.pB, MP.pT, MP.pAnd, MP.pOr, MP.pNot, MP.pAndV, MP.pOrV, MP.pNotV, MP.pChain, MP.pG, MP.pGs, MP.pIxT, MP.pSlice, MP.pPart, MP.pNoPart, MP.pMtT, MP.pJoinT, MP.pAsgS, MP.pAug, MP.body, MP.gd, MP.e_add_ii, MP.e_add_ss, MP.e_add_tt, MP.e_add_rr, MP.e_sub, MP.e_mul_ii, MP.e_mul_si, MP.e_mul_ri, MP.e_iadd_ii, MP.e_iadd_ss, MP.e_pow, MP.e_fdiv, MP.e_mod, MP.e_neg, MP.e_lt, MP.e_le, MP.e_gt, MP.e_ge, MP.e_eq_ii, MP.e_ne_ii, MP.e_eq_ss, MP.e_ne_ss, MP.e_eq_bb, MP.e_ne_bb, MP.e_isN, MP.e_notN, MP.e_ix_s, MP.e_ix_t, MP.e_ix_f, MP.e_ix_r, MP.e_ixT, MP.e_set, MP.e_len_s, MP.e_len_t, MP.e_len_f, MP.e_len_r, MP.e_lenT, MP.e_int_i, MP.e_int_b, MP.e_abs, MP.e_max, MP.e_min, MP.e_tupI, MP.e_lstI, MP.e_allI, MP.e_anyI, MP.e_onI_t, MP.e_onI_f, MP.e_onI_r, MP.e_onL_r, MP.e_isi_n, MP.e_isi_b, MP.e_isi_i, MP.e_isi_s, MP.e_isi_t, MP.e_isi_f, MP.e_isiT_n, MP.e_isiT_b, MP.e_isiT_i, MP.e_isiT_s, MP.e_isiT_t, MP.e_isiT_f, MP.e_app, MP.e_split, MP.e_joinI, MP.e_join_r, MP.e_cut_s, MP.e_cut_t, MP.e_cut_f, MP.e_cut_r, MP.tr_b, MP.tr_i, MP.tr_s, MP.tr_n, MP.tr_t, MP.tr_r, MP.x_n, MP.x_b, MP.x_i, MP.x_s, MP.x_t, MP.x_f, MP.x_r, MP.atI_0, MP.atI_1, MP.atI_2, MP.atI_3, MP.atI_m1, MP.ixN_c0, MP.ixN_c1, MP.ixN_c2, MP.e_in_ss, MP.ib_NoneType_bool, MP.ib_NoneType_int, MP.ib_NoneType_str, MP.ib_NoneType_tuple, MP.ib_NoneType_list, MP.ib_NoneType_dict, MP.ib_NoneType_set, MP.ib_bool_bool, MP.ib_bool_int, MP.ib_bool_str, MP.ib_bool_tuple, MP.ib_bool_list, MP.ib_bool_dict, MP.ib_bool_set, MP.ib_int_bool, MP.ib_int_int, MP.ib_int_str, MP.ib_int_tuple, MP.ib_int_list, MP.ib_int_dict, MP.ib_int_set, MP.ib_str_bool, MP.ib_str_int, MP.ib_str_str, MP.ib_str_tuple, MP.ib_str_list, MP.ib_str_dict, MP.ib_str_set, MP.ib_tuple_bool, MP.ib_tuple_int, MP.ib_tuple_str, MP.ib_tuple_tuple, MP.ib_tuple_list, MP.ib_tuple_dict, MP.ib_tuple_set, MP.ib_list_bool, MP.ib_list_int, MP.ib_list_str, MP.ib_list_tuple, MP.ib_list_list, MP.ib_list_dict, MP.ib_list_set, MP.ib_dict_bool, MP.ib_dict_int, MP.ib_dict_str, MP.ib_dict_tuple, MP.ib_dict_list, MP.ib_dict_dict, MP.ib_dict_set, MP.ib_set_bool, MP.ib_set_int, MP.ib_set_str, MP.ib_set_tuple, MP.ib_set_list, MP.ib_set_dict, MP.ib_set_set, Bool.not_true, Bool.not_false, List.any_cons, List.any_nil, Bool.or_false, Bool.or_true, Bool.true_or, Bool.false_or, Bool.and_true, Bool.true_and, Bool.and_false, Bool.false_and, if_true, if_false, ite_true, ite_false, and_true, true_and, Bool.false_eq_true, List.getElem?_cons_zero, List.getElem?_cons_succ, List.set_cons_zero, List.set_cons_succ, List.length_cons, List.length_nil, List.cons_append, List.nil_append]
  refine ⟨hx, v, rfl, hr, ?_⟩
  unfold isAsk at k
  cases e : isNam v with
  | false => rw [e] at k; exact k
  | true =>
    rw [e] at k
    obtain ⟨ss, rfl, _⟩ := nam_tup e
    have l := hr.tup.1
    rw [List.length_map] at l
    exact ⟨hx, size1, ne_star l k⟩
/-- InvalidName with a copy of v -/
def Refuse (c : Str) (v : PV) (h : PHeap) (E : PXQ) : Prop := ∃ d, rd h 16 v = some d ∧ ∀ v' t, rd (h ++ t) 16 v' = some d → Anew h v v' (h ++ t) → E c v' (h ++ t)
def sp_need_name : PSp := fun vs h Q E => ∃ v, vs = [v] ∧ Rb h v ∧ (isNam v = true → Q .non h) ∧ (isNam v = false → Refuse "InvalidName" v h E)
theorem pure_need_name (vs : List PV) (h : PHeap) (Q : PQ) (Ex : PXQ) (_ : vs.length = 1) (hh : sp_need_name vs h Q Ex) : t_need_name sp_is_name (sp_rebuilt 17) (body Q Ex) (pstart 1 vs) h := by
  obtain ⟨v, rfl, hr, k1, k2⟩ := hh
  have hx := hr.nx
  show t_need_name sp_is_name (sp_rebuilt 17) (body Q Ex) [some v] h
  unfold t_need_name
  simp only [MP.pSeq, MP.pIfS, MP.pRet, MP.pRetN, MP.pNext, MP.pAsg, MP.pDrop, MP.pBrk, MP.pCt, MP.pVar, MP.pC, MP.pOp, MP.pUn, MP.pNil, MP.pCons, MP.pCB, MP.pCall, MP.pTup, MP.pTmp, MP.pNew, MP.pCT, MP.pIf, MP.pB, MP.pT, MP.pAnd, MP.pOr, MP.pNot, MP.pAndV, MP.pOrV, MP.pNotV, MP.pChain, MP.pG, MP.pGs, MP.pIxT, MP.pSlice, MP.pPart, MP.pNoPart, MP.pMtT, MP.pJoinT, MP.pAsgS, MP.pAug, MP.body, MP.gd, MP.e_add_ii, MP.e_add_ss, MP.e_add_tt, MP.e_add_rr, MP.e_sub, MP.e_mul_ii, MP.e_mul_si, MP.e_mul_ri, MP.e_iadd_ii, MP.e_iadd_ss, MP.e_pow, MP.e_fdiv, MP.e_mod, MP.e_neg, MP.e_lt, MP.e_le, MP.e_gt, MP.e_ge, MP.e_eq_ii, MP.e_ne_ii, MP.e_eq_ss, MP.e_ne_ss, MP.e_eq_bb, MP.e_ne_bb, MP.e_isN, MP.e_notN, MP.e_ix_s, MP.e_ix_t, MP.e_ix_f, MP.e_ix_r, MP.e_ixT, MP.e_set, MP.e_len_s, MP.e_len_t, MP.e_len_f, MP.e_len_r, MP.e_lenT, MP.e_int_i, MP.e_int_b, MP.e_abs, MP.e_max, MP.e_min, MP.e_tupI, MP.e_lstI, MP.e_allI, MP.e_anyI, MP.e_onI_t, MP.e_onI_f, MP.e_onI_r, MP.e_onL_r, MP.e_isi_n, MP.e_isi_b, MP.e_isi_i, MP.e_isi_s, MP.e_isi_t, MP.e_isi_f, MP.e_isiT_n, MP.e_isiT_b, MP.e_isiT_i, MP.e_isiT_s, MP.e_isiT_t, MP.e_isiT_f, MP.e_app, MP.e_split, MP.e_joinI, MP.e_join_r, MP.e_cut_s, MP.e_cut_t, MP.e_cut_f, MP.e_cut_r, MP.tr_b, MP.tr_i, MP.tr_s, MP.tr_n, MP.tr_t, MP.tr_r, MP.x_n, MP.x_b, MP.x_i, MP.x_s, MP.x_t, MP.x_f, MP.x_r, MP.atI_0, MP.atI_1, MP.atI_2, MP.atI_3, MP.atI_m1, MP.ixN_c0, MP.ixN_c1, MP.ixN_c2, MP.e_in_ss, MP.ib_NoneType_bool, MP.ib_NoneType_int, MP.ib_NoneType_str, MP.ib_NoneType_tuple, MP.ib_NoneType_list, MP.ib_NoneType_dict, MP.ib_NoneType_set, MP.ib_bool_bool, MP.ib_bool_int, MP.ib_bool_str, MP.ib_bool_tuple, MP.ib_bool_list, MP.ib_bool_dict, MP.ib_bool_set, MP.ib_int_bool, MP.ib_int_int, MP.ib_int_str, MP.ib_int_tuple, MP.ib_int_list, MP.ib_int_dict, MP.ib_int_set, MP.ib_str_bool, MP.ib_str_int, MP.ib_str_str, MP.ib_str_tuple, MP.ib_str_list, MP.ib_str_dict, MP.ib_str_set, MP.ib_tuple_bool, MP.ib_tuple_int, MP.ib_tuple_str, MP.ib_tuple_tuple, MP.ib_tuple_list, MP.ib_tuple_dict, MP.ib_tuple_set, MP.ib_list_bool, MP.ib_list_int, MP.ib_list_str, MP.ib_list_tuple, MP.ib_list_list, MP.ib_list_dict, MP.ib_list_set, MP.ib_dict_bool, MP.ib_dict_int, MP.ib_dict_str, MP.ib_dict_tuple, MP.ib_dict_list, MP.ib_dict_dict, MP.ib_dict_set, MP.ib_set_bool, MP.ib_set_int, MP.ib_set_str, MP.ib_set_tuple, MP.ib_set_list, MP.ib_set_dict, MP.ib_set_set, Bool.not_true, Bool.not_false, List.any_cons, List.any_nil, Bool.or_false, Bool.or_true, Bool.true_or, Bool.false_or, Bool.and_true, Bool.true_and, Bool.and_false, Bool.false_and, if_true, if_false, ite_true, ite_false, and_true, true_and, Bool.false_eq_true, List.getElem?_cons_zero, List.getElem?_cons_succ, List.set_cons_zero, List.set_cons_succ, List.length_cons, List.length_nil, List.cons_append, List.nil_append, pRaise]
  refine ⟨hx, v, rfl, hr, ?_⟩
  cases e : isNam v with
  | true => exact k1 e
  | false =>
    obtain ⟨d, r, q⟩ := k2 e
    exact ⟨hx, v, d, rfl, r, q⟩
/-! ### a name's text -/
def shown (ss : List Str) : Str := if ss = [] then "." else Txt.join "" (ss.map (· ++ "."))
def sp_show_name : PSp := fun vs h Q E => ∃ v, vs = [v] ∧ Rb h v ∧ (∀ ss : List Str, isNam v = true → v = .tup (ss.map .str) → Q (.str (shown ss)) h) ∧ (isNam v = false → Refuse "InvalidName" v h E)
theorem len_app (a b : Str) : (a ++ b).length = a.length + b.length := by rw [len_tl, tl_append, List.length_append, ← len_tl, ← len_tl]
theorem sum_le {α : Type} (f : α → Nat) (b : Nat) : ∀ l : List α, (∀ x ∈ l, f x ≤ b) → (l.map f).sum ≤ l.length * b
  | [], _ => by simp
  | x :: l, m => by
    have h1 := m x List.mem_cons_self
    have h2 := sum_le f b l fun y hy => m y (List.mem_cons_of_mem _ hy)
    simp only [List.map_cons, List.sum_cons, List.length_cons, Nat.succ_mul]
    omega
theorem lab_len {s : Str} (e : labL (tl s) = true) : 1 ≤ s.length ∧ s.length ≤ 20 := by
  unfold labL at e
  obtain ⟨e1, e⟩ := He.ba e
  obtain ⟨e2, e⟩ := He.ba e
  rw [len_tl]
  exact ⟨of_decide_eq_true e1, of_decide_eq_true e2⟩
/-- ''.join([label + '.' for label in name]), short labels -/
theorem join_dots {ss : List Str} {i : Nat} {τ0 : PSt} {ok : PHeap → Prop} {h : PHeap} {Q : PQ} {b : Nat} (hok : ok h) (hl : ss.length ≤ 100000) (hb : ss.length * (b + 1) ≤ 16000000) (hs : ∀ s ∈ ss, s.length ≤ b) (hi : ∀ x : PV, (τ0.set i (some x))[i]? = some (some x)) (k : Q (.str (Txt.join "" (ss.map (· ++ ".")))) h) :
    lcGo (.nm i) pYes (pOp MP.rAdd (pVar i) (pC (.str "."))) ok τ0 (ss.map .str) [] h fun vs h2 => rJoinI (Str.ofString "") vs h2 Q := by
  refine lc_items (fun x => match x with
    | .str s => .str (s ++ ".")
    | _ => .non) (by rw [List.length_map]; omega) hok (fun x hx Q q => ?_) ?_
  · obtain ⟨s, hs', rfl⟩ := List.mem_map.mp hx
    unfold pOp pVar pC
    dsimp only
    rw [hi]
    refine ⟨rfl, ?_⟩
    rw [e_add_ss]
    refine ⟨?_, q⟩
    have := hs s hs'
    have lp : 1 ≤ ss.length := List.length_pos_of_mem hs'
    have lm : 1 * (b + 1) ≤ ss.length * (b + 1) := Nat.mul_le_mul_right _ lp
    rw [sizeLine_eq]
    show s.length + 1 ≤ 16777216
    omega
  · rw [List.map_map]
    show rJoinI _ (ss.map ((fun s : Str => PV.str (s ++ ".")))) h Q
    rw [show (ss.map fun s : Str => PV.str (s ++ ".")) = (ss.map (· ++ ("." : Str))).map .str by rw [List.map_map]; rfl, e_joinI]
    refine ⟨?_, k⟩
    unfold joinLen
    have z := sum_le (fun s : Str => s.length) (b + 1) (ss.map (· ++ ("." : Str))) fun x hx => by
      obtain ⟨s, hs', rfl⟩ := List.mem_map.mp hx
      rw [len_app]
      have := hs s hs'
      show s.length + 1 ≤ b + 1
      omega
    rw [List.length_map] at z ⊢
    have z3 : (Str.ofString "").length = 0 := rfl
    rw [z3]
    omega
theorem pure_show_name (vs : List PV) (h : PHeap) (Q : PQ) (Ex : PXQ) (_ : vs.length = 1) (hh : sp_show_name vs h Q Ex) : t_show_name sp_need_name (body Q Ex) (pstart 2 vs) h := by
  obtain ⟨v, rfl, hr, k1, k2⟩ := hh
  have hx := hr.nx
  show t_show_name sp_need_name (body Q Ex) [some v, none] h
  unfold t_show_name
  simp only [MP.pSeq, MP.pIfS, MP.pRet, MP.pRetN, MP.pNext, MP.pAsg, MP.pDrop, MP.pBrk, MP.pCt, MP.pVar, MP.pC, MP.pOp, MP.pUn, MP.pNil, MP.pCons, MP.pCB, MP.pCall, MP.pTup, MP.pTmp, MP.pNew, MP.pCT, MP.pIf, MP.pB, MP.pT, MP.pAnd, MP.pOr, MP.pNot, MP.pAndV, MP.pOrV, MP.pNotV, MP.pChain, MP.pG, MP.pGs, MP.pIxT, MP.pSlice, MP.pPart, MP.pNoPart, MP.pMtT, MP.pJoinT, MP.pAsgS, MP.pAug, MP.body, MP.gd, MP.e_add_ii, MP.e_add_ss, MP.e_add_tt, MP.e_add_rr, MP.e_sub, MP.e_mul_ii, MP.e_mul_si, MP.e_mul_ri, MP.e_iadd_ii, MP.e_iadd_ss, MP.e_pow, MP.e_fdiv, MP.e_mod, MP.e_neg, MP.e_lt, MP.e_le, MP.e_gt, MP.e_ge, MP.e_eq_ii, MP.e_ne_ii, MP.e_eq_ss, MP.e_ne_ss, MP.e_eq_bb, MP.e_ne_bb, MP.e_isN, MP.e_notN, MP.e_ix_s, MP.e_ix_t, MP.e_ix_f, MP.e_ix_r, MP.e_ixT, MP.e_set, MP.e_len_s, MP.e_len_t, MP.e_len_f, MP.e_len_r, MP.e_lenT, MP.e_int_i, MP.e_int_b, MP.e_abs, MP.e_max, MP.e_min, MP.e_tupI, MP.e_lstI, MP.e_allI, MP.e_anyI, MP.e_onI_t, MP.e_onI_f, MP.e_onI_r, MP.e_onL_r, MP.e_isi_n, MP.e_isi_b, MP.e_isi_i, MP.e_isi_s, MP.e_isi_t, MP.e_isi_f, MP.e_isiT_n, MP.e_isiT_b, MP.e_isiT_i, MP.e_isiT_s, MP.e_isiT_t, MP.e_isiT_f, MP.e_app, MP.e_split, MP.e_joinI, MP.e_join_r, MP.e_cut_s, MP.e_cut_t, MP.e_cut_f, MP.e_cut_r, MP.tr_b, MP.tr_i, MP.tr_s, MP.tr_n, MP.tr_t, MP.tr_r, MP.x_n, MP.x_b, MP.x_i, MP.x_s, MP.x_t, MP.x_f, MP.x_r, MP.atI_0, MP.atI_1, MP.atI_2, MP.atI_3, MP.atI_m1, MP.ixN_c0, MP.ixN_c1, MP.ixN_c2, MP.e_in_ss, MP.ib_NoneType_bool, MP.ib_NoneType_int, MP.ib_NoneType_str, MP.ib_NoneType_tuple, MP.ib_NoneType_list, MP.ib_NoneType_dict, MP.ib_NoneType_set, MP.ib_bool_bool, MP.ib_bool_int, MP.ib_bool_str, MP.ib_bool_tuple, MP.ib_bool_list, MP.ib_bool_dict, MP.ib_bool_set, MP.ib_int_bool, MP.ib_int_int, MP.ib_int_str, MP.ib_int_tuple, MP.ib_int_list, MP.ib_int_dict, MP.ib_int_set, MP.ib_str_bool, MP.ib_str_int, MP.ib_str_str, MP.ib_str_tuple, MP.ib_str_list, MP.ib_str_dict, MP.ib_str_set, MP.ib_tuple_bool, MP.ib_tuple_int, MP.ib_tuple_str, MP.ib_tuple_tuple, MP.ib_tuple_list, MP.ib_tuple_dict, MP.ib_tuple_set, MP.ib_list_bool, MP.ib_list_int, MP.ib_list_str, MP.ib_list_tuple, MP.ib_list_list, MP.ib_list_dict, MP.ib_list_set, MP.ib_dict_bool, MP.ib_dict_int, MP.ib_dict_str, MP.ib_dict_tuple, MP.ib_dict_list, MP.ib_dict_dict, MP.ib_dict_set, MP.ib_set_bool, MP.ib_set_int, MP.ib_set_str, MP.ib_set_tuple, MP.ib_set_list, MP.ib_set_dict, MP.ib_set_set, Bool.not_true, Bool.not_false, List.any_cons, List.any_nil, Bool.or_false, Bool.or_true, Bool.true_or, Bool.false_or, Bool.and_true, Bool.true_and, Bool.and_false, Bool.false_and, if_true, if_false, ite_true, ite_false, and_true, true_and, Bool.false_eq_true, List.getElem?_cons_zero, List.getElem?_cons_succ, List.set_cons_zero, List.set_cons_succ, List.length_cons, List.length_nil, List.cons_append, List.nil_append]
  refine ⟨hx, v, rfl, hr, fun e => ⟨hx, ?_⟩, k2⟩
  obtain ⟨ss, rfl, e1, e2⟩ := nam_tup e
  have k := k1 ss e rfl
  have l := hr.tup.1
  rw [List.length_map] at l
  refine ⟨by rw [sizeLine_eq]; decide, ?_⟩
  rw [show (PV.tup [] : PV) = .tup (([] : List Str).map .str) from rfl, e_eq_tt (by omega) (by decide)]
  dsimp only
  unfold shown at k
  by_cases hn : ss = []
  · subst hn
    exact k
  · rw [if_neg hn] at k
    rw [if_neg (by simpa using hn)]
    refine ⟨rfl, ?_⟩
    exact join_dots (b := 20) trivial (by omega) (by omega) (fun s hs => (lab_len (List.all_eq_true.mp e1 s hs)).2) (fun _ => rfl) k


/-! ### a text read as a name -/
def readN (s : Str) : Option (List Str) :=
  if s = "." then some []
  else if ((tl s).getLast? == some 46) = true then
    (if isNam (.tup ((Txt.split (L2.cutS s none (some (-1))) ".").map .str)) = true then some (Txt.split (L2.cutS s none (some (-1))) ".") else none)
  else none
def sp_name_of : PSp := fun vs h Q E => ∃ s, vs = [.str s] ∧ s.length ≤ 10000 ∧ (∀ ss t, readN s = some ss → Q (.tup (ss.map .str)) (h ++ t)) ∧ (∀ t, readN s = none → E "Unreadable" (.str s) (h ++ t))
theorem dot1 : (("." : Str).length == 0) = false := by decide
theorem dot2 : ("." : Str).cps.all (· < 256) = true := by decide +kernel
theorem pure_name_of (vs : List PV) (h : PHeap) (Q : PQ) (Ex : PXQ) (_ : vs.length = 1) (hh : sp_name_of vs h Q Ex) : t_name_of sp_is_name (sp_rebuilt 17) (body Q Ex) (pstart 2 vs) h := by
  obtain ⟨s, rfl, l, k1, k2⟩ := hh
  show t_name_of sp_is_name (sp_rebuilt 17) (body Q Ex) [some (.str s), none] h
  unfold t_name_of
  unfold readN at k1 k2
  simp only [MP.pSeq, MP.pIfS, MP.pRet, MP.pRetN, MP.pNext, MP.pAsg, MP.pDrop, MP.pBrk, MP.pCt, MP.pVar, MP.pC, MP.pOp, MP.pUn, MP.pNil, MP.pCons, MP.pCB, MP.pCall, MP.pTup, MP.pTmp, MP.pNew, MP.pCT, MP.pIf, MP.pB, MP.pT, MP.pAnd, MP.pOr, MP.pNot, MP.pAndV, MP.pOrV, MP.pNotV, MP.pChain, MP.pG, MP.pGs, MP.pIxT, MP.pSlice, MP.pPart, MP.pNoPart, MP.pMtT, MP.pJoinT, MP.pAsgS, MP.pAug, MP.body, MP.gd, MP.e_add_ii, MP.e_add_ss, MP.e_add_tt, MP.e_add_rr, MP.e_sub, MP.e_mul_ii, MP.e_mul_si, MP.e_mul_ri, MP.e_iadd_ii, MP.e_iadd_ss, MP.e_pow, MP.e_fdiv, MP.e_mod, MP.e_neg, MP.e_lt, MP.e_le, MP.e_gt, MP.e_ge, MP.e_eq_ii, MP.e_ne_ii, MP.e_eq_ss, MP.e_ne_ss, MP.e_eq_bb, MP.e_ne_bb, MP.e_isN, MP.e_notN, MP.e_ix_s, MP.e_ix_t, MP.e_ix_f, MP.e_ix_r, MP.e_ixT, MP.e_set, MP.e_len_s, MP.e_len_t, MP.e_len_f, MP.e_len_r, MP.e_lenT, MP.e_int_i, MP.e_int_b, MP.e_abs, MP.e_max, MP.e_min, MP.e_tupI, MP.e_lstI, MP.e_allI, MP.e_anyI, MP.e_onI_t, MP.e_onI_f, MP.e_onI_r, MP.e_onL_r, MP.e_isi_n, MP.e_isi_b, MP.e_isi_i, MP.e_isi_s, MP.e_isi_t, MP.e_isi_f, MP.e_isiT_n, MP.e_isiT_b, MP.e_isiT_i, MP.e_isiT_s, MP.e_isiT_t, MP.e_isiT_f, MP.e_app, MP.e_split, MP.e_joinI, MP.e_join_r, MP.e_cut_s, MP.e_cut_t, MP.e_cut_f, MP.e_cut_r, MP.tr_b, MP.tr_i, MP.tr_s, MP.tr_n, MP.tr_t, MP.tr_r, MP.x_n, MP.x_b, MP.x_i, MP.x_s, MP.x_t, MP.x_f, MP.x_r, MP.atI_0, MP.atI_1, MP.atI_2, MP.atI_3, MP.atI_m1, MP.ixN_c0, MP.ixN_c1, MP.ixN_c2, MP.e_in_ss, MP.ib_NoneType_bool, MP.ib_NoneType_int, MP.ib_NoneType_str, MP.ib_NoneType_tuple, MP.ib_NoneType_list, MP.ib_NoneType_dict, MP.ib_NoneType_set, MP.ib_bool_bool, MP.ib_bool_int, MP.ib_bool_str, MP.ib_bool_tuple, MP.ib_bool_list, MP.ib_bool_dict, MP.ib_bool_set, MP.ib_int_bool, MP.ib_int_int, MP.ib_int_str, MP.ib_int_tuple, MP.ib_int_list, MP.ib_int_dict, MP.ib_int_set, MP.ib_str_bool, MP.ib_str_int, MP.ib_str_str, MP.ib_str_tuple, MP.ib_str_list, MP.ib_str_dict, MP.ib_str_set, MP.ib_tuple_bool, MP.ib_tuple_int, MP.ib_tuple_str, MP.ib_tuple_tuple, MP.ib_tuple_list, MP.ib_tuple_dict, MP.ib_tuple_set, MP.ib_list_bool, MP.ib_list_int, MP.ib_list_str, MP.ib_list_tuple, MP.ib_list_list, MP.ib_list_dict, MP.ib_list_set, MP.ib_dict_bool, MP.ib_dict_int, MP.ib_dict_str, MP.ib_dict_tuple, MP.ib_dict_list, MP.ib_dict_dict, MP.ib_dict_set, MP.ib_set_bool, MP.ib_set_int, MP.ib_set_str, MP.ib_set_tuple, MP.ib_set_list, MP.ib_set_dict, MP.ib_set_set, Bool.not_true, Bool.not_false, List.any_cons, List.any_nil, Bool.or_false, Bool.or_true, Bool.true_or, Bool.false_or, Bool.and_true, Bool.true_and, Bool.and_false, Bool.false_and, if_true, if_false, ite_true, ite_false, and_true, true_and, Bool.false_eq_true, List.getElem?_cons_zero, List.getElem?_cons_succ, List.set_cons_zero, List.set_cons_succ, List.length_cons, List.length_nil, List.cons_append, List.nil_append, pRaise]
  rw [show (L2.cutS s (some (-1)) none == Str.ofString ".") = ((tl s).getLast? == some 46) from cut_last s 46]
  by_cases h1 : s = "."
  · subst h1
    have := k1 [] [] (by rw [if_pos rfl])
    rw [List.append_nil] at this
    exact ⟨Nat.zero_le _, this⟩
  · rw [if_neg (by simpa using h1)]
    rw [if_neg h1] at k1 k2
    cases h2 : ((tl s).getLast? == some 46) with
    | false =>
      rw [h2] at k2
      exact ⟨.str s, .str s, rfl, rfl, fun v' t r _ => by
        cases rd_scal (x := .str s) r rfl
        exact k2 t rfl⟩
    | true =>
      rw [h2] at k1 k2
      have lc := len_cutS s none (some (-1))
      have ls := split_len (a := L2.cutS s none (some (-1))) dot1 dot2
      rw [if_pos rfl] at k1 k2
      rw [if_neg (by decide)]
      refine ⟨rfl, dot1, dot2, by rw [sizeLine_eq]; omega, ?_⟩
      rw [List.getElem?_concat_length]
      dsimp only
      refine ⟨.tup ((Txt.split (L2.cutS s none (some (-1))) ".").map .str), rfl, ⟨_, rd_strs (by omega)⟩, ?_⟩
      dsimp only
      cases h3 : isNam (.tup ((Txt.split (L2.cutS s none (some (-1))) ".").map .str)) with
      | true => exact k1 _ _ (by rw [if_pos h3])
      | false => exact k2 _ (by rw [if_neg (by rw [h3]; decide)])
theorem lab_nodot {s : Str} (e : labL (tl s) = true) : (46 : Nat) ∉ tl s := by
  unfold labL at e
  obtain ⟨e1, e⟩ := He.ba e
  obtain ⟨e2, e⟩ := He.ba e
  intro hm
  cases h3 : (tl s == [42]) with
  | true =>
    rw [beq_iff_eq.mp h3] at hm
    revert hm
    decide
  | false =>
    rw [h3, Bool.false_or] at e
    obtain ⟨e3, e⟩ := He.ba e
    obtain ⟨e4, e⟩ := He.ba e
    have := of_decide_eq_true (List.all_eq_true.mp e 46 hm)
    revert this
    decide +kernel
theorem tl_shown {ss : List Str} (hn : ss ≠ []) : tl (shown ss) = joinL [46] (ss.map tl) ++ [46] := by
  unfold shown
  rw [if_neg hn, join_eq, tl_join, show tl ("" : Str) = [] from rfl, joinL_nil, List.map_map]
  rw [← flat_dots 46 (ls := ss.map tl) (by simpa using hn), List.map_map]
  congr 1
  refine List.map_congr_left fun x _ => ?_
  show tl (x ++ ".") = tl x ++ [46]
  rw [tl_append]
  rfl
theorem shown_read {ss : List Str} (e : isNam (.tup (ss.map .str)) = true) : readN (shown ss) = some ss := by
  by_cases hn : ss = []
  · subst hn
    rfl
  · obtain ⟨ss', e1, e2, e3⟩ := nam_tup e
    have es : ss = ss' := by
      have := PV.tup.inj e1
      exact (List.map_inj_right (fun _ _ z => PV.str.inj z)).mp this
    subst es
    have et := tl_shown hn
    have h1 : shown ss ≠ "." := fun z => by
      have := congrArg tl z
      rw [et] at this
      obtain ⟨s, r, rfl⟩ := List.exists_cons_of_ne_nil hn
      have l1 := (lab_len (List.all_eq_true.mp e2 s List.mem_cons_self)).1
      have := congrArg List.length this
      rw [List.length_append] at this
      have lj : s.length ≤ (joinL [46] ((s :: r).map tl)).length := by
        rw [len_tl]
        cases r with
        | nil => simp [joinL]
        | cons q r => rw [List.map_cons, joinL_cons _ _ (by simp), List.length_append]; omega
      have : (joinL [46] ((s :: r).map tl)).length + 1 = 1 := this
      omega
    have h2 : ((tl (shown ss)).getLast? == some 46) = true := by rw [et]; simp
    have h3 : L2.cutS (shown ss) none (some (-1)) = Txt.join "." ss := by
      refine ext_tl ?_
      rw [tl_cut_m1, et, List.dropLast_concat, join_eq, tl_join]
      rfl
    have h4 : Txt.split (L2.cutS (shown ss) none (some (-1))) "." = ss := by
      rw [h3]
      exact split_join (s := 46) (S := []) rfl dot2 hn fun p hp => lab_nodot (List.all_eq_true.mp e2 p hp)
    unfold readN
    rw [if_neg h1, h2, if_pos rfl, h4, if_pos e]
theorem read_nam {s : Str} {ss : List Str} (e : readN s = some ss) : isNam (.tup (ss.map .str)) = true := by
  unfold readN at e
  by_cases h1 : s = "."
  · rw [if_pos h1] at e; cases e; rfl
  · rw [if_neg h1] at e
    cases h2 : ((tl s).getLast? == some 46) with
    | false => rw [h2] at e; cases e
    | true =>
      rw [h2, if_pos rfl] at e
      split at e
      · rename_i z
        cases e
        exact z
      · cases e
theorem read_shown {s : Str} {ss : List Str} (e : readN s = some ss) : shown ss = s := by
  unfold readN at e
  by_cases h1 : s = "."
  · rw [if_pos h1] at e; cases e; rw [h1]; rfl
  · rw [if_neg h1] at e
    cases h2 : ((tl s).getLast? == some 46) with
    | false => rw [h2] at e; cases e
    | true =>
      rw [h2, if_pos rfl] at e
      split at e
      · cases e
        have em := split_spl (L2.cutS s none (some (-1))) "." (by decide) (kind_ok dot2)
        have hn : Txt.split (L2.cutS s none (some (-1))) "." ≠ [] := fun z => by
          rw [z] at em
          exact spl_ne _ _ _ _ em.symm
        refine ext_tl ?_
        rw [tl_shown hn, em, show tl (Str.ofString ".") = [46] from rfl, join_spl, tl_cut_m1]
        obtain ⟨ys, ey⟩ := List.getLast?_eq_some_iff.mp (beq_iff_eq.mp h2)
        rw [ey]
        simp
      · cases e


/-! ### the same data -/
def sp_same : Nat → PSp
  | 0 => spNo
  | f + 1 => fun vs h Q _ => ∃ a b d, vs = [a, b] ∧ rd h f a = some d ∧ rd h f b = some d ∧ Q (.bl true) h
theorem pure__law_same (f : Nat) (vs : List PV) (h : PHeap) (Q : PQ) (Ex : PXQ) (_ : vs.length = 2) (hh : sp_same (f + 1) vs h Q Ex) : t__law_same (sp_same f) (body Q Ex) (pstart 3 vs) h := by
  obtain ⟨a, b, d, rfl, ra, rb, k⟩ := hh
  have xa := rd_notExc ra
  have xb := rd_notExc rb
  have ka := rd_kind ra
  have kb := rd_kind rb
  have hsc : ∀ x, scal d = some x → a = x ∧ b = x := fun x e => ⟨rd_scal ra e, rd_scal rb e⟩
  show t__law_same (sp_same f) (body Q Ex) [some a, some b, none] h
  unfold t__law_same
  have seq : ∀ ds, seqD d = some ds → ∀ tp, kindD d = tp → (tp = "tuple" ∨ tp = "list") → t__law_same (sp_same f) (body Q Ex) [some a, some b, none] h := fun ds hs tp e ht => by
    obtain ⟨g, xs, rfl, ex, lx, dx⟩ := rd_items ra hs
    obtain ⟨g', ys, eg, ey, ly, dy⟩ := rd_items rb hs
    cases eg
    rw [e] at ka kb
    unfold t__law_same
    have el : (xs.length : Int) = (ys.length : Int) := by rw [allD_len dx, allD_len dy]
    have main : pLc (pRng1 (pCB MP.rLen (pCons (pVar 1) pNil))) (Tg.nm 2) pYes (pCall (gd 2 (sp_same (g + 1))) (pCons (pOp MP.rIx (pVar 0) (pVar 2)) (pCons (pOp MP.rIx (pVar 1) (pVar 2)) pNil))) [2] [some a, some b, none] h (fun vs h1 => MP.rAllI vs h1 Q) fun c v h1 => Ex c v h1 := by
      refine pRng1_of (n := ys.length) (fun Q q => ⟨xb, ?_⟩) (by omega) ?_
      · show MP.rLen [b] h Q
        rw [e_len_it ey]
        exact q
      refine lc_rng (fun _ => .bl true) (by rw [sizeLine_eq]; omega) trivial (fun k hk Q q => ?_) ?_
      · have hk' : k < xs.length := by omega
        obtain ⟨d1, e1, r1⟩ := allD_get dx k xs[k] (List.getElem?_eq_getElem hk')
        obtain ⟨d2, e2, r2⟩ := allD_get dy k ys[k] (List.getElem?_eq_getElem hk)
        rw [e1] at e2
        cases e2
        refine ⟨xa, rfl, ?_⟩
        dsimp only
        rw [e_ix_it ex, Int.zero_add, atI_nat, List.getElem?_eq_getElem hk']
        refine ⟨xb, rfl, ?_⟩
        dsimp only
        rw [e_ix_it ey, atI_nat, List.getElem?_eq_getElem hk]
        exact ⟨rfl, _, _, d1, rfl, r1, r2, q⟩
      · rw [all_vals, show ((List.range ys.length).all fun _ => true) = true from List.all_eq_true.mpr fun _ _ => rfl]
        exact k
    rcases ht with rfl | rfl
    · simp only [MP.pSeq, MP.pIfS, MP.pRet, MP.pRetN, MP.pNext, MP.pAsg, MP.pDrop, MP.pBrk, MP.pCt, MP.pVar, MP.pC, MP.pOp, MP.pUn, MP.pNil, MP.pCons, MP.pCB, MP.pCall, MP.pTup, MP.pTmp, MP.pNew, MP.pCT, MP.pIf, MP.pB, MP.pT, MP.pAnd, MP.pOr, MP.pNot, MP.pAndV, MP.pOrV, MP.pNotV, MP.pChain, MP.pG, MP.pGs, MP.pIxT, MP.pSlice, MP.pPart, MP.pNoPart, MP.pMtT, MP.pJoinT, MP.pAsgS, MP.pAug, MP.body, MP.gd, MP.e_add_ii, MP.e_add_ss, MP.e_add_tt, MP.e_add_rr, MP.e_sub, MP.e_mul_ii, MP.e_mul_si, MP.e_mul_ri, MP.e_iadd_ii, MP.e_iadd_ss, MP.e_pow, MP.e_fdiv, MP.e_mod, MP.e_neg, MP.e_lt, MP.e_le, MP.e_gt, MP.e_ge, MP.e_eq_ii, MP.e_ne_ii, MP.e_eq_ss, MP.e_ne_ss, MP.e_eq_bb, MP.e_ne_bb, MP.e_isN, MP.e_notN, MP.e_ix_s, MP.e_ix_t, MP.e_ix_f, MP.e_ix_r, MP.e_ixT, MP.e_set, MP.e_len_s, MP.e_len_t, MP.e_len_f, MP.e_len_r, MP.e_lenT, MP.e_int_i, MP.e_int_b, MP.e_abs, MP.e_max, MP.e_min, MP.e_tupI, MP.e_lstI, MP.e_allI, MP.e_anyI, MP.e_onI_t, MP.e_onI_f, MP.e_onI_r, MP.e_onL_r, MP.e_isi_n, MP.e_isi_b, MP.e_isi_i, MP.e_isi_s, MP.e_isi_t, MP.e_isi_f, MP.e_isiT_n, MP.e_isiT_b, MP.e_isiT_i, MP.e_isiT_s, MP.e_isiT_t, MP.e_isiT_f, MP.e_app, MP.e_split, MP.e_joinI, MP.e_join_r, MP.e_cut_s, MP.e_cut_t, MP.e_cut_f, MP.e_cut_r, MP.tr_b, MP.tr_i, MP.tr_s, MP.tr_n, MP.tr_t, MP.tr_r, MP.x_n, MP.x_b, MP.x_i, MP.x_s, MP.x_t, MP.x_f, MP.x_r, MP.atI_0, MP.atI_1, MP.atI_2, MP.atI_3, MP.atI_m1, MP.ixN_c0, MP.ixN_c1, MP.ixN_c2, MP.e_in_ss, MP.ib_NoneType_bool, MP.ib_NoneType_int, MP.ib_NoneType_str, MP.ib_NoneType_tuple, MP.ib_NoneType_list, MP.ib_NoneType_dict, MP.ib_NoneType_set, MP.ib_bool_bool, MP.ib_bool_int, MP.ib_bool_str, MP.ib_bool_tuple, MP.ib_bool_list, MP.ib_bool_dict, MP.ib_bool_set, MP.ib_int_bool, MP.ib_int_int, MP.ib_int_str, MP.ib_int_tuple, MP.ib_int_list, MP.ib_int_dict, MP.ib_int_set, MP.ib_str_bool, MP.ib_str_int, MP.ib_str_str, MP.ib_str_tuple, MP.ib_str_list, MP.ib_str_dict, MP.ib_str_set, MP.ib_tuple_bool, MP.ib_tuple_int, MP.ib_tuple_str, MP.ib_tuple_tuple, MP.ib_tuple_list, MP.ib_tuple_dict, MP.ib_tuple_set, MP.ib_list_bool, MP.ib_list_int, MP.ib_list_str, MP.ib_list_tuple, MP.ib_list_list, MP.ib_list_dict, MP.ib_list_set, MP.ib_dict_bool, MP.ib_dict_int, MP.ib_dict_str, MP.ib_dict_tuple, MP.ib_dict_list, MP.ib_dict_dict, MP.ib_dict_set, MP.ib_set_bool, MP.ib_set_int, MP.ib_set_str, MP.ib_set_tuple, MP.ib_set_list, MP.ib_set_dict, MP.ib_set_set, Bool.not_true, Bool.not_false, List.any_cons, List.any_nil, Bool.or_false, Bool.or_true, Bool.true_or, Bool.false_or, Bool.and_true, Bool.true_and, Bool.and_false, Bool.false_and, if_true, if_false, ite_true, ite_false, and_true, true_and, Bool.false_eq_true, List.getElem?_cons_zero, List.getElem?_cons_succ, List.set_cons_zero, List.set_cons_succ, List.length_cons, List.length_nil, List.cons_append, List.nil_append, e_isi ka, e_isi kb, e_isiT ka, e_isiT kb, beq_self_eq_true, e_len_it ex, e_len_it ey, xa, xb, el, decide_true]
      exact main
    · simp only [MP.pSeq, MP.pIfS, MP.pRet, MP.pRetN, MP.pNext, MP.pAsg, MP.pDrop, MP.pBrk, MP.pCt, MP.pVar, MP.pC, MP.pOp, MP.pUn, MP.pNil, MP.pCons, MP.pCB, MP.pCall, MP.pTup, MP.pTmp, MP.pNew, MP.pCT, MP.pIf, MP.pB, MP.pT, MP.pAnd, MP.pOr, MP.pNot, MP.pAndV, MP.pOrV, MP.pNotV, MP.pChain, MP.pG, MP.pGs, MP.pIxT, MP.pSlice, MP.pPart, MP.pNoPart, MP.pMtT, MP.pJoinT, MP.pAsgS, MP.pAug, MP.body, MP.gd, MP.e_add_ii, MP.e_add_ss, MP.e_add_tt, MP.e_add_rr, MP.e_sub, MP.e_mul_ii, MP.e_mul_si, MP.e_mul_ri, MP.e_iadd_ii, MP.e_iadd_ss, MP.e_pow, MP.e_fdiv, MP.e_mod, MP.e_neg, MP.e_lt, MP.e_le, MP.e_gt, MP.e_ge, MP.e_eq_ii, MP.e_ne_ii, MP.e_eq_ss, MP.e_ne_ss, MP.e_eq_bb, MP.e_ne_bb, MP.e_isN, MP.e_notN, MP.e_ix_s, MP.e_ix_t, MP.e_ix_f, MP.e_ix_r, MP.e_ixT, MP.e_set, MP.e_len_s, MP.e_len_t, MP.e_len_f, MP.e_len_r, MP.e_lenT, MP.e_int_i, MP.e_int_b, MP.e_abs, MP.e_max, MP.e_min, MP.e_tupI, MP.e_lstI, MP.e_allI, MP.e_anyI, MP.e_onI_t, MP.e_onI_f, MP.e_onI_r, MP.e_onL_r, MP.e_isi_n, MP.e_isi_b, MP.e_isi_i, MP.e_isi_s, MP.e_isi_t, MP.e_isi_f, MP.e_isiT_n, MP.e_isiT_b, MP.e_isiT_i, MP.e_isiT_s, MP.e_isiT_t, MP.e_isiT_f, MP.e_app, MP.e_split, MP.e_joinI, MP.e_join_r, MP.e_cut_s, MP.e_cut_t, MP.e_cut_f, MP.e_cut_r, MP.tr_b, MP.tr_i, MP.tr_s, MP.tr_n, MP.tr_t, MP.tr_r, MP.x_n, MP.x_b, MP.x_i, MP.x_s, MP.x_t, MP.x_f, MP.x_r, MP.atI_0, MP.atI_1, MP.atI_2, MP.atI_3, MP.atI_m1, MP.ixN_c0, MP.ixN_c1, MP.ixN_c2, MP.e_in_ss, MP.ib_NoneType_bool, MP.ib_NoneType_int, MP.ib_NoneType_str, MP.ib_NoneType_tuple, MP.ib_NoneType_list, MP.ib_NoneType_dict, MP.ib_NoneType_set, MP.ib_bool_bool, MP.ib_bool_int, MP.ib_bool_str, MP.ib_bool_tuple, MP.ib_bool_list, MP.ib_bool_dict, MP.ib_bool_set, MP.ib_int_bool, MP.ib_int_int, MP.ib_int_str, MP.ib_int_tuple, MP.ib_int_list, MP.ib_int_dict, MP.ib_int_set, MP.ib_str_bool, MP.ib_str_int, MP.ib_str_str, MP.ib_str_tuple, MP.ib_str_list, MP.ib_str_dict, MP.ib_str_set, MP.ib_tuple_bool, MP.ib_tuple_int, MP.ib_tuple_str, MP.ib_tuple_tuple, MP.ib_tuple_list, MP.ib_tuple_dict, MP.ib_tuple_set, MP.ib_list_bool, MP.ib_list_int, MP.ib_list_str, MP.ib_list_tuple, MP.ib_list_list, MP.ib_list_dict, MP.ib_list_set, MP.ib_dict_bool, MP.ib_dict_int, MP.ib_dict_str, MP.ib_dict_tuple, MP.ib_dict_list, MP.ib_dict_dict, MP.ib_dict_set, MP.ib_set_bool, MP.ib_set_int, MP.ib_set_str, MP.ib_set_tuple, MP.ib_set_list, MP.ib_set_dict, MP.ib_set_set, Bool.not_true, Bool.not_false, List.any_cons, List.any_nil, Bool.or_false, Bool.or_true, Bool.true_or, Bool.false_or, Bool.and_true, Bool.true_and, Bool.and_false, Bool.false_and, if_true, if_false, ite_true, ite_false, and_true, true_and, Bool.false_eq_true, List.getElem?_cons_zero, List.getElem?_cons_succ, List.set_cons_zero, List.set_cons_succ, List.length_cons, List.length_nil, List.cons_append, List.nil_append, e_isi ka, e_isi kb, e_isiT ka, e_isiT kb, beq_self_eq_true, e_len_it ex, e_len_it ey, xa, xb, el, decide_true]
      exact main
  cases d with
  | tuple ds => exact seq ds rfl _ rfl (.inl rfl)
  | list ds => exact seq ds rfl _ rfl (.inr rfl)
  | dict kvs =>
    exfalso
    have := rd_eqv _ _ _ ra
    simp [PyData.eqv] at this
  | none =>
    obtain ⟨rfl, rfl⟩ := hsc .non rfl
    simp only [MP.pSeq, MP.pIfS, MP.pRet, MP.pRetN, MP.pNext, MP.pAsg, MP.pDrop, MP.pBrk, MP.pCt, MP.pVar, MP.pC, MP.pOp, MP.pUn, MP.pNil, MP.pCons, MP.pCB, MP.pCall, MP.pTup, MP.pTmp, MP.pNew, MP.pCT, MP.pIf, MP.pB, MP.pT, MP.pAnd, MP.pOr, MP.pNot, MP.pAndV, MP.pOrV, MP.pNotV, MP.pChain, MP.pG, MP.pGs, MP.pIxT, MP.pSlice, MP.pPart, MP.pNoPart, MP.pMtT, MP.pJoinT, MP.pAsgS, MP.pAug, MP.body, MP.gd, MP.e_add_ii, MP.e_add_ss, MP.e_add_tt, MP.e_add_rr, MP.e_sub, MP.e_mul_ii, MP.e_mul_si, MP.e_mul_ri, MP.e_iadd_ii, MP.e_iadd_ss, MP.e_pow, MP.e_fdiv, MP.e_mod, MP.e_neg, MP.e_lt, MP.e_le, MP.e_gt, MP.e_ge, MP.e_eq_ii, MP.e_ne_ii, MP.e_eq_ss, MP.e_ne_ss, MP.e_eq_bb, MP.e_ne_bb, MP.e_isN, MP.e_notN, MP.e_ix_s, MP.e_ix_t, MP.e_ix_f, MP.e_ix_r, MP.e_ixT, MP.e_set, MP.e_len_s, MP.e_len_t, MP.e_len_f, MP.e_len_r, MP.e_lenT, MP.e_int_i, MP.e_int_b, MP.e_abs, MP.e_max, MP.e_min, MP.e_tupI, MP.e_lstI, MP.e_allI, MP.e_anyI, MP.e_onI_t, MP.e_onI_f, MP.e_onI_r, MP.e_onL_r, MP.e_isi_n, MP.e_isi_b, MP.e_isi_i, MP.e_isi_s, MP.e_isi_t, MP.e_isi_f, MP.e_isiT_n, MP.e_isiT_b, MP.e_isiT_i, MP.e_isiT_s, MP.e_isiT_t, MP.e_isiT_f, MP.e_app, MP.e_split, MP.e_joinI, MP.e_join_r, MP.e_cut_s, MP.e_cut_t, MP.e_cut_f, MP.e_cut_r, MP.tr_b, MP.tr_i, MP.tr_s, MP.tr_n, MP.tr_t, MP.tr_r, MP.x_n, MP.x_b, MP.x_i, MP.x_s, MP.x_t, MP.x_f, MP.x_r, MP.atI_0, MP.atI_1, MP.atI_2, MP.atI_3, MP.atI_m1, MP.ixN_c0, MP.ixN_c1, MP.ixN_c2, MP.e_in_ss, MP.ib_NoneType_bool, MP.ib_NoneType_int, MP.ib_NoneType_str, MP.ib_NoneType_tuple, MP.ib_NoneType_list, MP.ib_NoneType_dict, MP.ib_NoneType_set, MP.ib_bool_bool, MP.ib_bool_int, MP.ib_bool_str, MP.ib_bool_tuple, MP.ib_bool_list, MP.ib_bool_dict, MP.ib_bool_set, MP.ib_int_bool, MP.ib_int_int, MP.ib_int_str, MP.ib_int_tuple, MP.ib_int_list, MP.ib_int_dict, MP.ib_int_set, MP.ib_str_bool, MP.ib_str_int, MP.ib_str_str, MP.ib_str_tuple, MP.ib_str_list, MP.ib_str_dict, MP.ib_str_set, MP.ib_tuple_bool, MP.ib_tuple_int, MP.ib_tuple_str, MP.ib_tuple_tuple, MP.ib_tuple_list, MP.ib_tuple_dict, MP.ib_tuple_set, MP.ib_list_bool, MP.ib_list_int, MP.ib_list_str, MP.ib_list_tuple, MP.ib_list_list, MP.ib_list_dict, MP.ib_list_set, MP.ib_dict_bool, MP.ib_dict_int, MP.ib_dict_str, MP.ib_dict_tuple, MP.ib_dict_list, MP.ib_dict_dict, MP.ib_dict_set, MP.ib_set_bool, MP.ib_set_int, MP.ib_set_str, MP.ib_set_tuple, MP.ib_set_list, MP.ib_set_dict, MP.ib_set_set, Bool.not_true, Bool.not_false, List.any_cons, List.any_nil, Bool.or_false, Bool.or_true, Bool.true_or, Bool.false_or, Bool.and_true, Bool.true_and, Bool.and_false, Bool.false_and, if_true, if_false, ite_true, ite_false, and_true, true_and, Bool.false_eq_true, List.getElem?_cons_zero, List.getElem?_cons_succ, List.set_cons_zero, List.set_cons_succ, List.length_cons, List.length_nil, List.cons_append, List.nil_append]
    exact k
  | bool c =>
    obtain ⟨rfl, rfl⟩ := hsc (.bl c) rfl
    simp only [MP.pSeq, MP.pIfS, MP.pRet, MP.pRetN, MP.pNext, MP.pAsg, MP.pDrop, MP.pBrk, MP.pCt, MP.pVar, MP.pC, MP.pOp, MP.pUn, MP.pNil, MP.pCons, MP.pCB, MP.pCall, MP.pTup, MP.pTmp, MP.pNew, MP.pCT, MP.pIf, MP.pB, MP.pT, MP.pAnd, MP.pOr, MP.pNot, MP.pAndV, MP.pOrV, MP.pNotV, MP.pChain, MP.pG, MP.pGs, MP.pIxT, MP.pSlice, MP.pPart, MP.pNoPart, MP.pMtT, MP.pJoinT, MP.pAsgS, MP.pAug, MP.body, MP.gd, MP.e_add_ii, MP.e_add_ss, MP.e_add_tt, MP.e_add_rr, MP.e_sub, MP.e_mul_ii, MP.e_mul_si, MP.e_mul_ri, MP.e_iadd_ii, MP.e_iadd_ss, MP.e_pow, MP.e_fdiv, MP.e_mod, MP.e_neg, MP.e_lt, MP.e_le, MP.e_gt, MP.e_ge, MP.e_eq_ii, MP.e_ne_ii, MP.e_eq_ss, MP.e_ne_ss, MP.e_eq_bb, MP.e_ne_bb, MP.e_isN, MP.e_notN, MP.e_ix_s, MP.e_ix_t, MP.e_ix_f, MP.e_ix_r, MP.e_ixT, MP.e_set, MP.e_len_s, MP.e_len_t, MP.e_len_f, MP.e_len_r, MP.e_lenT, MP.e_int_i, MP.e_int_b, MP.e_abs, MP.e_max, MP.e_min, MP.e_tupI, MP.e_lstI, MP.e_allI, MP.e_anyI, MP.e_onI_t, MP.e_onI_f, MP.e_onI_r, MP.e_onL_r, MP.e_isi_n, MP.e_isi_b, MP.e_isi_i, MP.e_isi_s, MP.e_isi_t, MP.e_isi_f, MP.e_isiT_n, MP.e_isiT_b, MP.e_isiT_i, MP.e_isiT_s, MP.e_isiT_t, MP.e_isiT_f, MP.e_app, MP.e_split, MP.e_joinI, MP.e_join_r, MP.e_cut_s, MP.e_cut_t, MP.e_cut_f, MP.e_cut_r, MP.tr_b, MP.tr_i, MP.tr_s, MP.tr_n, MP.tr_t, MP.tr_r, MP.x_n, MP.x_b, MP.x_i, MP.x_s, MP.x_t, MP.x_f, MP.x_r, MP.atI_0, MP.atI_1, MP.atI_2, MP.atI_3, MP.atI_m1, MP.ixN_c0, MP.ixN_c1, MP.ixN_c2, MP.e_in_ss, MP.ib_NoneType_bool, MP.ib_NoneType_int, MP.ib_NoneType_str, MP.ib_NoneType_tuple, MP.ib_NoneType_list, MP.ib_NoneType_dict, MP.ib_NoneType_set, MP.ib_bool_bool, MP.ib_bool_int, MP.ib_bool_str, MP.ib_bool_tuple, MP.ib_bool_list, MP.ib_bool_dict, MP.ib_bool_set, MP.ib_int_bool, MP.ib_int_int, MP.ib_int_str, MP.ib_int_tuple, MP.ib_int_list, MP.ib_int_dict, MP.ib_int_set, MP.ib_str_bool, MP.ib_str_int, MP.ib_str_str, MP.ib_str_tuple, MP.ib_str_list, MP.ib_str_dict, MP.ib_str_set, MP.ib_tuple_bool, MP.ib_tuple_int, MP.ib_tuple_str, MP.ib_tuple_tuple, MP.ib_tuple_list, MP.ib_tuple_dict, MP.ib_tuple_set, MP.ib_list_bool, MP.ib_list_int, MP.ib_list_str, MP.ib_list_tuple, MP.ib_list_list, MP.ib_list_dict, MP.ib_list_set, MP.ib_dict_bool, MP.ib_dict_int, MP.ib_dict_str, MP.ib_dict_tuple, MP.ib_dict_list, MP.ib_dict_dict, MP.ib_dict_set, MP.ib_set_bool, MP.ib_set_int, MP.ib_set_str, MP.ib_set_tuple, MP.ib_set_list, MP.ib_set_dict, MP.ib_set_set, Bool.not_true, Bool.not_false, List.any_cons, List.any_nil, Bool.or_false, Bool.or_true, Bool.true_or, Bool.false_or, Bool.and_true, Bool.true_and, Bool.and_false, Bool.false_and, if_true, if_false, ite_true, ite_false, and_true, true_and, Bool.false_eq_true, List.getElem?_cons_zero, List.getElem?_cons_succ, List.set_cons_zero, List.set_cons_succ, List.length_cons, List.length_nil, List.cons_append, List.nil_append, isNon, beq_self_eq_true]
    exact k
  | int c =>
    obtain ⟨rfl, rfl⟩ := hsc (.int c) rfl
    simp only [MP.pSeq, MP.pIfS, MP.pRet, MP.pRetN, MP.pNext, MP.pAsg, MP.pDrop, MP.pBrk, MP.pCt, MP.pVar, MP.pC, MP.pOp, MP.pUn, MP.pNil, MP.pCons, MP.pCB, MP.pCall, MP.pTup, MP.pTmp, MP.pNew, MP.pCT, MP.pIf, MP.pB, MP.pT, MP.pAnd, MP.pOr, MP.pNot, MP.pAndV, MP.pOrV, MP.pNotV, MP.pChain, MP.pG, MP.pGs, MP.pIxT, MP.pSlice, MP.pPart, MP.pNoPart, MP.pMtT, MP.pJoinT, MP.pAsgS, MP.pAug, MP.body, MP.gd, MP.e_add_ii, MP.e_add_ss, MP.e_add_tt, MP.e_add_rr, MP.e_sub, MP.e_mul_ii, MP.e_mul_si, MP.e_mul_ri, MP.e_iadd_ii, MP.e_iadd_ss, MP.e_pow, MP.e_fdiv, MP.e_mod, MP.e_neg, MP.e_lt, MP.e_le, MP.e_gt, MP.e_ge, MP.e_eq_ii, MP.e_ne_ii, MP.e_eq_ss, MP.e_ne_ss, MP.e_eq_bb, MP.e_ne_bb, MP.e_isN, MP.e_notN, MP.e_ix_s, MP.e_ix_t, MP.e_ix_f, MP.e_ix_r, MP.e_ixT, MP.e_set, MP.e_len_s, MP.e_len_t, MP.e_len_f, MP.e_len_r, MP.e_lenT, MP.e_int_i, MP.e_int_b, MP.e_abs, MP.e_max, MP.e_min, MP.e_tupI, MP.e_lstI, MP.e_allI, MP.e_anyI, MP.e_onI_t, MP.e_onI_f, MP.e_onI_r, MP.e_onL_r, MP.e_isi_n, MP.e_isi_b, MP.e_isi_i, MP.e_isi_s, MP.e_isi_t, MP.e_isi_f, MP.e_isiT_n, MP.e_isiT_b, MP.e_isiT_i, MP.e_isiT_s, MP.e_isiT_t, MP.e_isiT_f, MP.e_app, MP.e_split, MP.e_joinI, MP.e_join_r, MP.e_cut_s, MP.e_cut_t, MP.e_cut_f, MP.e_cut_r, MP.tr_b, MP.tr_i, MP.tr_s, MP.tr_n, MP.tr_t, MP.tr_r, MP.x_n, MP.x_b, MP.x_i, MP.x_s, MP.x_t, MP.x_f, MP.x_r, MP.atI_0, MP.atI_1, MP.atI_2, MP.atI_3, MP.atI_m1, MP.ixN_c0, MP.ixN_c1, MP.ixN_c2, MP.e_in_ss, MP.ib_NoneType_bool, MP.ib_NoneType_int, MP.ib_NoneType_str, MP.ib_NoneType_tuple, MP.ib_NoneType_list, MP.ib_NoneType_dict, MP.ib_NoneType_set, MP.ib_bool_bool, MP.ib_bool_int, MP.ib_bool_str, MP.ib_bool_tuple, MP.ib_bool_list, MP.ib_bool_dict, MP.ib_bool_set, MP.ib_int_bool, MP.ib_int_int, MP.ib_int_str, MP.ib_int_tuple, MP.ib_int_list, MP.ib_int_dict, MP.ib_int_set, MP.ib_str_bool, MP.ib_str_int, MP.ib_str_str, MP.ib_str_tuple, MP.ib_str_list, MP.ib_str_dict, MP.ib_str_set, MP.ib_tuple_bool, MP.ib_tuple_int, MP.ib_tuple_str, MP.ib_tuple_tuple, MP.ib_tuple_list, MP.ib_tuple_dict, MP.ib_tuple_set, MP.ib_list_bool, MP.ib_list_int, MP.ib_list_str, MP.ib_list_tuple, MP.ib_list_list, MP.ib_list_dict, MP.ib_list_set, MP.ib_dict_bool, MP.ib_dict_int, MP.ib_dict_str, MP.ib_dict_tuple, MP.ib_dict_list, MP.ib_dict_dict, MP.ib_dict_set, MP.ib_set_bool, MP.ib_set_int, MP.ib_set_str, MP.ib_set_tuple, MP.ib_set_list, MP.ib_set_dict, MP.ib_set_set, Bool.not_true, Bool.not_false, List.any_cons, List.any_nil, Bool.or_false, Bool.or_true, Bool.true_or, Bool.false_or, Bool.and_true, Bool.true_and, Bool.and_false, Bool.false_and, if_true, if_false, ite_true, ite_false, and_true, true_and, Bool.false_eq_true, List.getElem?_cons_zero, List.getElem?_cons_succ, List.set_cons_zero, List.set_cons_succ, List.length_cons, List.length_nil, List.cons_append, List.nil_append, isNon, decide_true]
    exact k
  | str c =>
    obtain ⟨rfl, rfl⟩ := hsc (.str c) rfl
    simp only [MP.pSeq, MP.pIfS, MP.pRet, MP.pRetN, MP.pNext, MP.pAsg, MP.pDrop, MP.pBrk, MP.pCt, MP.pVar, MP.pC, MP.pOp, MP.pUn, MP.pNil, MP.pCons, MP.pCB, MP.pCall, MP.pTup, MP.pTmp, MP.pNew, MP.pCT, MP.pIf, MP.pB, MP.pT, MP.pAnd, MP.pOr, MP.pNot, MP.pAndV, MP.pOrV, MP.pNotV, MP.pChain, MP.pG, MP.pGs, MP.pIxT, MP.pSlice, MP.pPart, MP.pNoPart, MP.pMtT, MP.pJoinT, MP.pAsgS, MP.pAug, MP.body, MP.gd, MP.e_add_ii, MP.e_add_ss, MP.e_add_tt, MP.e_add_rr, MP.e_sub, MP.e_mul_ii, MP.e_mul_si, MP.e_mul_ri, MP.e_iadd_ii, MP.e_iadd_ss, MP.e_pow, MP.e_fdiv, MP.e_mod, MP.e_neg, MP.e_lt, MP.e_le, MP.e_gt, MP.e_ge, MP.e_eq_ii, MP.e_ne_ii, MP.e_eq_ss, MP.e_ne_ss, MP.e_eq_bb, MP.e_ne_bb, MP.e_isN, MP.e_notN, MP.e_ix_s, MP.e_ix_t, MP.e_ix_f, MP.e_ix_r, MP.e_ixT, MP.e_set, MP.e_len_s, MP.e_len_t, MP.e_len_f, MP.e_len_r, MP.e_lenT, MP.e_int_i, MP.e_int_b, MP.e_abs, MP.e_max, MP.e_min, MP.e_tupI, MP.e_lstI, MP.e_allI, MP.e_anyI, MP.e_onI_t, MP.e_onI_f, MP.e_onI_r, MP.e_onL_r, MP.e_isi_n, MP.e_isi_b, MP.e_isi_i, MP.e_isi_s, MP.e_isi_t, MP.e_isi_f, MP.e_isiT_n, MP.e_isiT_b, MP.e_isiT_i, MP.e_isiT_s, MP.e_isiT_t, MP.e_isiT_f, MP.e_app, MP.e_split, MP.e_joinI, MP.e_join_r, MP.e_cut_s, MP.e_cut_t, MP.e_cut_f, MP.e_cut_r, MP.tr_b, MP.tr_i, MP.tr_s, MP.tr_n, MP.tr_t, MP.tr_r, MP.x_n, MP.x_b, MP.x_i, MP.x_s, MP.x_t, MP.x_f, MP.x_r, MP.atI_0, MP.atI_1, MP.atI_2, MP.atI_3, MP.atI_m1, MP.ixN_c0, MP.ixN_c1, MP.ixN_c2, MP.e_in_ss, MP.ib_NoneType_bool, MP.ib_NoneType_int, MP.ib_NoneType_str, MP.ib_NoneType_tuple, MP.ib_NoneType_list, MP.ib_NoneType_dict, MP.ib_NoneType_set, MP.ib_bool_bool, MP.ib_bool_int, MP.ib_bool_str, MP.ib_bool_tuple, MP.ib_bool_list, MP.ib_bool_dict, MP.ib_bool_set, MP.ib_int_bool, MP.ib_int_int, MP.ib_int_str, MP.ib_int_tuple, MP.ib_int_list, MP.ib_int_dict, MP.ib_int_set, MP.ib_str_bool, MP.ib_str_int, MP.ib_str_str, MP.ib_str_tuple, MP.ib_str_list, MP.ib_str_dict, MP.ib_str_set, MP.ib_tuple_bool, MP.ib_tuple_int, MP.ib_tuple_str, MP.ib_tuple_tuple, MP.ib_tuple_list, MP.ib_tuple_dict, MP.ib_tuple_set, MP.ib_list_bool, MP.ib_list_int, MP.ib_list_str, MP.ib_list_tuple, MP.ib_list_list, MP.ib_list_dict, MP.ib_list_set, MP.ib_dict_bool, MP.ib_dict_int, MP.ib_dict_str, MP.ib_dict_tuple, MP.ib_dict_list, MP.ib_dict_dict, MP.ib_dict_set, MP.ib_set_bool, MP.ib_set_int, MP.ib_set_str, MP.ib_set_tuple, MP.ib_set_list, MP.ib_set_dict, MP.ib_set_set, Bool.not_true, Bool.not_false, List.any_cons, List.any_nil, Bool.or_false, Bool.or_true, Bool.true_or, Bool.false_or, Bool.and_true, Bool.true_and, Bool.and_false, Bool.false_and, if_true, if_false, ite_true, ite_false, and_true, true_and, Bool.false_eq_true, List.getElem?_cons_zero, List.getElem?_cons_succ, List.set_cons_zero, List.set_cons_succ, List.length_cons, List.length_nil, List.cons_append, List.nil_append, isNon, beq_self_eq_true]
    exact k


/-! ### drawn texts -/
def sp_label : PSp := fun vs h Q _ => ∃ p n, vs = [.ref p] ∧ Pot h p (n + 24) ∧ ∀ s h', s.length ≤ 20 → Pot h' p n → Ev p h h' → Q (.str s) h'
theorem ends_len : (tl "0123456789abcdefghijklmnopqrstuvwxyz").length = 36 := by decide +kernel
theorem ends2_len : (tl (("-" : Str) ++ ("0123456789abcdefghijklmnopqrstuvwxyz" : Str))).length = 37 := by decide +kernel
theorem at_some {l : List Nat} {r : Int} (h0 : 0 ≤ r) (h1 : r < (l.length : Nat)) : ∃ c, L2.atI l r = some c := by
  rw [atI_pos h0]
  exact ⟨_, List.getElem?_eq_getElem (by omega)⟩
theorem joined_len {ys : List Str} {b : Nat} (hy : ∀ y ∈ ys, y.length ≤ b) : (Txt.join "" ys).length ≤ ys.length * b ∧ joinLen "" ys ≤ ys.length * b := by
  have z := sum_le (fun s : Str => s.length) b ys hy
  have e : joinLen "" ys = (ys.map (·.length)).sum := by
    unfold joinLen
    rw [show ("" : Str).length = 0 from rfl, Nat.mul_zero, Nat.add_zero]
  have j := sum_le_joined "" ys
  rw [join_eq]
  rw [e] at j ⊢
  exact ⟨Nat.le_trans j z, z⟩
theorem pure__law_label (vs : List PV) (h : PHeap) (Q : PQ) (Ex : PXQ) (_ : vs.length = 1) (hh : sp_label vs h Q Ex) : t__law_label sp_draw (body Q Ex) (pstart 5 vs) h := by
  obtain ⟨p, n, rfl, P, k⟩ := hh
  show t__law_label sp_draw (body Q Ex) [some (.ref p), none, none, none, none] h
  unfold t__law_label
  simp only [MP.pSeq, MP.pIfS, MP.pRet, MP.pRetN, MP.pNext, MP.pAsg, MP.pDrop, MP.pBrk, MP.pCt, MP.pVar, MP.pC, MP.pOp, MP.pUn, MP.pNil, MP.pCons, MP.pCB, MP.pCall, MP.pTup, MP.pTmp, MP.pNew, MP.pCT, MP.pIf, MP.pB, MP.pT, MP.pAnd, MP.pOr, MP.pNot, MP.pAndV, MP.pOrV, MP.pNotV, MP.pChain, MP.pG, MP.pGs, MP.pIxT, MP.pSlice, MP.pPart, MP.pNoPart, MP.pMtT, MP.pJoinT, MP.pAsgS, MP.pAug, MP.body, MP.gd, MP.e_add_ii, MP.e_add_ss, MP.e_add_tt, MP.e_add_rr, MP.e_sub, MP.e_mul_ii, MP.e_mul_si, MP.e_mul_ri, MP.e_iadd_ii, MP.e_iadd_ss, MP.e_pow, MP.e_fdiv, MP.e_mod, MP.e_neg, MP.e_lt, MP.e_le, MP.e_gt, MP.e_ge, MP.e_eq_ii, MP.e_ne_ii, MP.e_eq_ss, MP.e_ne_ss, MP.e_eq_bb, MP.e_ne_bb, MP.e_isN, MP.e_notN, MP.e_ix_s, MP.e_ix_t, MP.e_ix_f, MP.e_ix_r, MP.e_ixT, MP.e_set, MP.e_len_s, MP.e_len_t, MP.e_len_f, MP.e_len_r, MP.e_lenT, MP.e_int_i, MP.e_int_b, MP.e_abs, MP.e_max, MP.e_min, MP.e_tupI, MP.e_lstI, MP.e_allI, MP.e_anyI, MP.e_onI_t, MP.e_onI_f, MP.e_onI_r, MP.e_onL_r, MP.e_isi_n, MP.e_isi_b, MP.e_isi_i, MP.e_isi_s, MP.e_isi_t, MP.e_isi_f, MP.e_isiT_n, MP.e_isiT_b, MP.e_isiT_i, MP.e_isiT_s, MP.e_isiT_t, MP.e_isiT_f, MP.e_app, MP.e_split, MP.e_joinI, MP.e_join_r, MP.e_cut_s, MP.e_cut_t, MP.e_cut_f, MP.e_cut_r, MP.tr_b, MP.tr_i, MP.tr_s, MP.tr_n, MP.tr_t, MP.tr_r, MP.x_n, MP.x_b, MP.x_i, MP.x_s, MP.x_t, MP.x_f, MP.x_r, MP.atI_0, MP.atI_1, MP.atI_2, MP.atI_3, MP.atI_m1, MP.ixN_c0, MP.ixN_c1, MP.ixN_c2, MP.e_in_ss, MP.ib_NoneType_bool, MP.ib_NoneType_int, MP.ib_NoneType_str, MP.ib_NoneType_tuple, MP.ib_NoneType_list, MP.ib_NoneType_dict, MP.ib_NoneType_set, MP.ib_bool_bool, MP.ib_bool_int, MP.ib_bool_str, MP.ib_bool_tuple, MP.ib_bool_list, MP.ib_bool_dict, MP.ib_bool_set, MP.ib_int_bool, MP.ib_int_int, MP.ib_int_str, MP.ib_int_tuple, MP.ib_int_list, MP.ib_int_dict, MP.ib_int_set, MP.ib_str_bool, MP.ib_str_int, MP.ib_str_str, MP.ib_str_tuple, MP.ib_str_list, MP.ib_str_dict, MP.ib_str_set, MP.ib_tuple_bool, MP.ib_tuple_int, MP.ib_tuple_str, MP.ib_tuple_tuple, MP.ib_tuple_list, MP.ib_tuple_dict, MP.ib_tuple_set, MP.ib_list_bool, MP.ib_list_int, MP.ib_list_str, MP.ib_list_tuple, MP.ib_list_list, MP.ib_list_dict, MP.ib_list_set, MP.ib_dict_bool, MP.ib_dict_int, MP.ib_dict_str, MP.ib_dict_tuple, MP.ib_dict_list, MP.ib_dict_dict, MP.ib_dict_set, MP.ib_set_bool, MP.ib_set_int, MP.ib_set_str, MP.ib_set_tuple, MP.ib_set_list, MP.ib_set_dict, MP.ib_set_set, Bool.not_true, Bool.not_false, List.any_cons, List.any_nil, Bool.or_false, Bool.or_true, Bool.true_or, Bool.false_or, Bool.and_true, Bool.true_and, Bool.and_false, Bool.false_and, if_true, if_false, ite_true, ite_false, and_true, true_and, Bool.false_eq_true, List.getElem?_cons_zero, List.getElem?_cons_succ, List.set_cons_zero, List.set_cons_succ, List.length_cons, List.length_nil, List.cons_append, List.nil_append]
  refine ⟨p, 20, n + 23, rfl, by decide, by decide, P, fun r1 h1 r10 r11 P1 E1 l1 => ⟨by rw [sizeLine_eq]; decide, p, 5, n + 22, rfl, by decide, by decide, P1, fun r2 h2 r20 r21 P2 E2 l2 => ?_⟩⟩
  have hL : ∃ L : Nat, 1 ≤ L ∧ L ≤ 20 ∧ L2.atI [PV.int 1, .int 2, .int 3, .int (1 + r1), .int 20] r2 = some (.int L) := by
    have : r2 = 0 ∨ r2 = 1 ∨ r2 = 2 ∨ r2 = 3 ∨ r2 = 4 := by omega
    rcases this with rfl | rfl | rfl | rfl | rfl
    · exact ⟨1, by decide, by decide, rfl⟩
    · exact ⟨2, by decide, by decide, rfl⟩
    · exact ⟨3, by decide, by decide, rfl⟩
    · exact ⟨(1 + r1).toNat, by omega, by omega, by rw [Int.toNat_of_nonneg (by omega)]; rfl⟩
    · exact ⟨20, by decide, by decide, rfl⟩
  obtain ⟨L, L1, L2', eL⟩ := hL
  dsimp only
  rw [e_ixT, eL]
  have P2' : Pot h2 p ((n + 2) + 1 * L) := P2.le (by omega)
  refine pRng1_of (n := L) (fun Q q => ⟨rfl, q⟩) (by omega) (lc_draw (P := ShS 1) (fun v h1 h2 z _ => z) (by omega) (fun _ => trivial) P2' (fun j h3 m R _ P3 E3 k3 => ?_) ?_)
  · refine ⟨rfl, ?_⟩
    dsimp only
    rw [e_add_ss]
    refine ⟨by rw [sizeLine_eq]; decide +kernel, ⟨rfl, rfl, p, 37, m, rfl, by decide, by decide, P3, fun r3 h4 r30 r31 P4 E4 l4 => ?_⟩⟩
    dsimp only
    rw [e_ix_s]
    obtain ⟨c, ec⟩ := at_some (l := tl (("-" : Str) ++ ("0123456789abcdefghijklmnopqrstuvwxyz" : Str))) r30 (by rw [ends2_len]; exact r31)
    rw [show L2.atI ((Str.ofString "-" ++ Str.ofString "0123456789abcdefghijklmnopqrstuvwxyz").cps.toList) r3 = some c from ec]
    exact k3 _ _ ⟨_, rfl, Nat.le_refl _⟩ P4 E4
  · intro ys h3 ly my P3 E3
    obtain ⟨ss, rfl, ms⟩ := shS_list my
    rw [List.length_map] at ly
    have lp := P3.lt
    have E3 : Ev p h h3 := (E1.trans E2).trans E3
    refine ⟨p, 36, n + 1, rfl, by decide, by decide, P3.app _, fun r4 h4 r40 r41 P4 E4 l4 => ?_⟩
    have E4' : Ev p h h4 := (E3.trans (.app _)).trans E4
    have q4 : h4[h3.length]? = some (.lst (ss.map .str)) := E4.lst (by omega) (by rw [List.getElem?_concat_length])
    obtain ⟨c4, ec4⟩ := at_some (l := tl ("0123456789abcdefghijklmnopqrstuvwxyz" : Str)) r40 (by rw [ends_len]; exact r41)
    dsimp only
    rw [e_ix_s, show L2.atI ((Str.ofString "0123456789abcdefghijklmnopqrstuvwxyz").cps.toList) r4 = some c4 from ec4]
    dsimp only
    rw [q4]
    dsimp only
    rw [ixN_0 (by rw [List.length_map]; omega)]
    dsimp only
    rw [map_set_str]
    refine ⟨p, 36, n, rfl, by decide, by decide, P4.set (by omega), fun r5 h5 r50 r51 P5 E5 l5 => ?_⟩
    have hl4 : h3.length < h4.length := (List.getElem?_eq_some_iff.mp q4).1
    have q5 : h5[h3.length]? = some (.lst ((ss.set 0 ⟨#[c4]⟩).map .str)) := E5.lst (by omega) (by rw [List.getElem?_set_self hl4])
    have E5' : Ev p h h5 := (E4'.setNew (by have := E3.len; omega)).trans E5
    have hl5 : h3.length < h5.length := (List.getElem?_eq_some_iff.mp q5).1
    obtain ⟨c5, ec5⟩ := at_some (l := tl ("0123456789abcdefghijklmnopqrstuvwxyz" : Str)) r50 (by rw [ends_len]; exact r51)
    dsimp only
    rw [e_ix_s, show L2.atI ((Str.ofString "0123456789abcdefghijklmnopqrstuvwxyz").cps.toList) r5 = some c5 from ec5]
    dsimp only
    rw [q5]
    dsimp only
    rw [ixN_m1 (by rw [List.length_map, List.length_set]; omega)]
    dsimp only
    rw [map_set_str]
    refine ⟨rfl, ?_⟩
    rw [List.getElem?_set_self hl5]
    dsimp only
    rw [e_joinI]
    have hm : ∀ s ∈ (ss.set 0 ⟨#[c4]⟩).set (((ss.set 0 ⟨#[c4]⟩).map PV.str).length - 1) ⟨#[c5]⟩, s.length ≤ 1 := mem_set_le (mem_set_le ms (Nat.le_refl _)) (Nat.le_refl _)
    obtain ⟨j1, j2⟩ := joined_len hm
    rw [List.length_set, List.length_set] at j1 j2
    exact ⟨by omega, k _ _ (by omega) (P5.set (by omega)) (E5'.setNew (by have := E3.len; omega))⟩


def sp_any : PSp := fun vs h Q _ => ∃ p n, vs = [.ref p] ∧ Pot h p (n + 60) ∧ ∀ s h', s.length ≤ 50 → Pot h' p n → Ev p h h' → Q (.str s) h'
theorem wide_len : (tl ("ab0-*._A ~" : Str)).length = 10 := by decide +kernel
theorem odd_len : (tl ("-*.Z _a" : Str)).length = 7 := by decide +kernel
theorem pure__law_any_label (vs : List PV) (h : PHeap) (Q : PQ) (Ex : PXQ) (_ : vs.length = 1) (hh : sp_any vs h Q Ex) : t__law_any_label sp_draw sp_label (body Q Ex) (pstart 6 vs) h := by
  obtain ⟨p, n, rfl, P, k⟩ := hh
  show t__law_any_label sp_draw sp_label (body Q Ex) [some (.ref p), none, none, none, none, none] h
  unfold t__law_any_label
  simp only [MP.pSeq, MP.pIfS, MP.pRet, MP.pRetN, MP.pNext, MP.pAsg, MP.pDrop, MP.pBrk, MP.pCt, MP.pVar, MP.pC, MP.pOp, MP.pUn, MP.pNil, MP.pCons, MP.pCB, MP.pCall, MP.pTup, MP.pTmp, MP.pNew, MP.pCT, MP.pIf, MP.pB, MP.pT, MP.pAnd, MP.pOr, MP.pNot, MP.pAndV, MP.pOrV, MP.pNotV, MP.pChain, MP.pG, MP.pGs, MP.pIxT, MP.pSlice, MP.pPart, MP.pNoPart, MP.pMtT, MP.pJoinT, MP.pAsgS, MP.pAug, MP.body, MP.gd, MP.e_add_ii, MP.e_add_ss, MP.e_add_tt, MP.e_add_rr, MP.e_sub, MP.e_mul_ii, MP.e_mul_si, MP.e_mul_ri, MP.e_iadd_ii, MP.e_iadd_ss, MP.e_pow, MP.e_fdiv, MP.e_mod, MP.e_neg, MP.e_lt, MP.e_le, MP.e_gt, MP.e_ge, MP.e_eq_ii, MP.e_ne_ii, MP.e_eq_ss, MP.e_ne_ss, MP.e_eq_bb, MP.e_ne_bb, MP.e_isN, MP.e_notN, MP.e_ix_s, MP.e_ix_t, MP.e_ix_f, MP.e_ix_r, MP.e_ixT, MP.e_set, MP.e_len_s, MP.e_len_t, MP.e_len_f, MP.e_len_r, MP.e_lenT, MP.e_int_i, MP.e_int_b, MP.e_abs, MP.e_max, MP.e_min, MP.e_tupI, MP.e_lstI, MP.e_allI, MP.e_anyI, MP.e_onI_t, MP.e_onI_f, MP.e_onI_r, MP.e_onL_r, MP.e_isi_n, MP.e_isi_b, MP.e_isi_i, MP.e_isi_s, MP.e_isi_t, MP.e_isi_f, MP.e_isiT_n, MP.e_isiT_b, MP.e_isiT_i, MP.e_isiT_s, MP.e_isiT_t, MP.e_isiT_f, MP.e_app, MP.e_split, MP.e_joinI, MP.e_join_r, MP.e_cut_s, MP.e_cut_t, MP.e_cut_f, MP.e_cut_r, MP.tr_b, MP.tr_i, MP.tr_s, MP.tr_n, MP.tr_t, MP.tr_r, MP.x_n, MP.x_b, MP.x_i, MP.x_s, MP.x_t, MP.x_f, MP.x_r, MP.atI_0, MP.atI_1, MP.atI_2, MP.atI_3, MP.atI_m1, MP.ixN_c0, MP.ixN_c1, MP.ixN_c2, MP.e_in_ss, MP.ib_NoneType_bool, MP.ib_NoneType_int, MP.ib_NoneType_str, MP.ib_NoneType_tuple, MP.ib_NoneType_list, MP.ib_NoneType_dict, MP.ib_NoneType_set, MP.ib_bool_bool, MP.ib_bool_int, MP.ib_bool_str, MP.ib_bool_tuple, MP.ib_bool_list, MP.ib_bool_dict, MP.ib_bool_set, MP.ib_int_bool, MP.ib_int_int, MP.ib_int_str, MP.ib_int_tuple, MP.ib_int_list, MP.ib_int_dict, MP.ib_int_set, MP.ib_str_bool, MP.ib_str_int, MP.ib_str_str, MP.ib_str_tuple, MP.ib_str_list, MP.ib_str_dict, MP.ib_str_set, MP.ib_tuple_bool, MP.ib_tuple_int, MP.ib_tuple_str, MP.ib_tuple_tuple, MP.ib_tuple_list, MP.ib_tuple_dict, MP.ib_tuple_set, MP.ib_list_bool, MP.ib_list_int, MP.ib_list_str, MP.ib_list_tuple, MP.ib_list_list, MP.ib_list_dict, MP.ib_list_set, MP.ib_dict_bool, MP.ib_dict_int, MP.ib_dict_str, MP.ib_dict_tuple, MP.ib_dict_list, MP.ib_dict_dict, MP.ib_dict_set, MP.ib_set_bool, MP.ib_set_int, MP.ib_set_str, MP.ib_set_tuple, MP.ib_set_list, MP.ib_set_dict, MP.ib_set_set, Bool.not_true, Bool.not_false, List.any_cons, List.any_nil, Bool.or_false, Bool.or_true, Bool.true_or, Bool.false_or, Bool.and_true, Bool.true_and, Bool.and_false, Bool.false_and, if_true, if_false, ite_true, ite_false, and_true, true_and, Bool.false_eq_true, List.getElem?_cons_zero, List.getElem?_cons_succ, List.set_cons_zero, List.set_cons_succ, List.length_cons, List.length_nil, List.cons_append, List.nil_append]
  refine ⟨p, 9, n + 59, rfl, by decide, by decide, P, fun r1 h1 r10 r11 P1 E1 l1 => ⟨p, n + 35, rfl, P1, fun s h2 ls P2 E2 => ?_⟩⟩
  have E2 := E1.trans E2
  simp only [MP.pSeq, MP.pIfS, MP.pRet, MP.pRetN, MP.pNext, MP.pAsg, MP.pDrop, MP.pBrk, MP.pCt, MP.pVar, MP.pC, MP.pOp, MP.pUn, MP.pNil, MP.pCons, MP.pCB, MP.pCall, MP.pTup, MP.pTmp, MP.pNew, MP.pCT, MP.pIf, MP.pB, MP.pT, MP.pAnd, MP.pOr, MP.pNot, MP.pAndV, MP.pOrV, MP.pNotV, MP.pChain, MP.pG, MP.pGs, MP.pIxT, MP.pSlice, MP.pPart, MP.pNoPart, MP.pMtT, MP.pJoinT, MP.pAsgS, MP.pAug, MP.body, MP.gd, MP.e_add_ii, MP.e_add_ss, MP.e_add_tt, MP.e_add_rr, MP.e_sub, MP.e_mul_ii, MP.e_mul_si, MP.e_mul_ri, MP.e_iadd_ii, MP.e_iadd_ss, MP.e_pow, MP.e_fdiv, MP.e_mod, MP.e_neg, MP.e_lt, MP.e_le, MP.e_gt, MP.e_ge, MP.e_eq_ii, MP.e_ne_ii, MP.e_eq_ss, MP.e_ne_ss, MP.e_eq_bb, MP.e_ne_bb, MP.e_isN, MP.e_notN, MP.e_ix_s, MP.e_ix_t, MP.e_ix_f, MP.e_ix_r, MP.e_ixT, MP.e_set, MP.e_len_s, MP.e_len_t, MP.e_len_f, MP.e_len_r, MP.e_lenT, MP.e_int_i, MP.e_int_b, MP.e_abs, MP.e_max, MP.e_min, MP.e_tupI, MP.e_lstI, MP.e_allI, MP.e_anyI, MP.e_onI_t, MP.e_onI_f, MP.e_onI_r, MP.e_onL_r, MP.e_isi_n, MP.e_isi_b, MP.e_isi_i, MP.e_isi_s, MP.e_isi_t, MP.e_isi_f, MP.e_isiT_n, MP.e_isiT_b, MP.e_isiT_i, MP.e_isiT_s, MP.e_isiT_t, MP.e_isiT_f, MP.e_app, MP.e_split, MP.e_joinI, MP.e_join_r, MP.e_cut_s, MP.e_cut_t, MP.e_cut_f, MP.e_cut_r, MP.tr_b, MP.tr_i, MP.tr_s, MP.tr_n, MP.tr_t, MP.tr_r, MP.x_n, MP.x_b, MP.x_i, MP.x_s, MP.x_t, MP.x_f, MP.x_r, MP.atI_0, MP.atI_1, MP.atI_2, MP.atI_3, MP.atI_m1, MP.ixN_c0, MP.ixN_c1, MP.ixN_c2, MP.e_in_ss, MP.ib_NoneType_bool, MP.ib_NoneType_int, MP.ib_NoneType_str, MP.ib_NoneType_tuple, MP.ib_NoneType_list, MP.ib_NoneType_dict, MP.ib_NoneType_set, MP.ib_bool_bool, MP.ib_bool_int, MP.ib_bool_str, MP.ib_bool_tuple, MP.ib_bool_list, MP.ib_bool_dict, MP.ib_bool_set, MP.ib_int_bool, MP.ib_int_int, MP.ib_int_str, MP.ib_int_tuple, MP.ib_int_list, MP.ib_int_dict, MP.ib_int_set, MP.ib_str_bool, MP.ib_str_int, MP.ib_str_str, MP.ib_str_tuple, MP.ib_str_list, MP.ib_str_dict, MP.ib_str_set, MP.ib_tuple_bool, MP.ib_tuple_int, MP.ib_tuple_str, MP.ib_tuple_tuple, MP.ib_tuple_list, MP.ib_tuple_dict, MP.ib_tuple_set, MP.ib_list_bool, MP.ib_list_int, MP.ib_list_str, MP.ib_list_tuple, MP.ib_list_list, MP.ib_list_dict, MP.ib_list_set, MP.ib_dict_bool, MP.ib_dict_int, MP.ib_dict_str, MP.ib_dict_tuple, MP.ib_dict_list, MP.ib_dict_dict, MP.ib_dict_set, MP.ib_set_bool, MP.ib_set_int, MP.ib_set_str, MP.ib_set_tuple, MP.ib_set_list, MP.ib_set_dict, MP.ib_set_set, Bool.not_true, Bool.not_false, List.any_cons, List.any_nil, Bool.or_false, Bool.or_true, Bool.true_or, Bool.false_or, Bool.and_true, Bool.true_and, Bool.and_false, Bool.false_and, if_true, if_false, ite_true, ite_false, and_true, true_and, Bool.false_eq_true, List.getElem?_cons_zero, List.getElem?_cons_succ, List.set_cons_zero, List.set_cons_succ, List.length_cons, List.length_nil, List.cons_append, List.nil_append]
  by_cases c6 : r1 = 6
  · rw [if_pos (decide_eq_true c6)]
    exact k _ _ (by decide) (P2.le (by omega)) E2
  rw [if_neg (by simpa using c6)]
  by_cases c7 : r1 = 7
  · rw [if_pos (decide_eq_true c7)]
    refine ⟨rfl, rfl, p, 23, n + 34, rfl, by decide, by decide, P2, fun r3 h3 r30 r31 P3 E3 l3 => ⟨by omega, by omega, ?_⟩⟩
    refine lc_draw (P := ShS 1) (w := 1) (n := n) (fun v h1 h2 z _ => z) (by omega) (fun _ => trivial) (P3.le (by omega)) (fun j h4 m R _ P4 E4 k4 => ?_) ?_
    · refine ⟨rfl, rfl, rfl, p, 10, m, rfl, by decide, by decide, P4, fun r5 h5 r50 r51 P5 E5 l5 => ?_⟩
      dsimp only
      rw [e_ix_s]
      obtain ⟨c, ec⟩ := at_some (l := tl ("ab0-*._A ~" : Str)) r50 (by rw [wide_len]; exact r51)
      rw [show L2.atI ((Str.ofString "ab0-*._A ~").cps.toList) r5 = some c from ec]
      exact k4 _ _ ⟨_, rfl, Nat.le_refl _⟩ P5 E5
    · intro ys h4 ly my P4 E4
      obtain ⟨ss, rfl, ms⟩ := shS_list my
      rw [List.length_map] at ly
      obtain ⟨j1, j2⟩ := joined_len ms
      rw [e_joinI]
      exact ⟨by omega, k _ _ (by omega) P4 ((E2.trans E3).trans E4)⟩
  rw [if_neg (by simpa using c7)]
  by_cases c8 : r1 = 8
  · rw [if_pos (decide_eq_true c8)]
    refine ⟨p, _, n + 34, rfl, by omega, by omega, P2, fun r3 h3 r30 r31 P3 E3 l3 => ?_⟩
    refine ⟨rfl, p, 7, n + 33, rfl, by decide, by decide, P3, fun r4 h4 r40 r41 P4 E4 l4 => ?_⟩
    obtain ⟨c, ec⟩ := at_some (l := tl ("-*.Z _a" : Str)) r40 (by rw [odd_len]; exact r41)
    rw [e_ix_s, show L2.atI ((Str.ofString "-*.Z _a").cps.toList) r4 = some c from ec]
    dsimp only
    have lc1 := len_cutS s none (some r3)
    rw [e_add_ss]
    have l1' : (⟨#[c]⟩ : Str).length = 1 := rfl
    refine ⟨by rw [sizeLine_eq, l1']; omega, rfl, p, 2, n + 32, rfl, by decide, by decide, P4, fun r5 h5 r50 r51 P5 E5 l5 => ?_⟩
    have lc2 := len_cutS s (some (r3 + r5)) none
    have la := len_app (L2.cutS s none (some r3)) ⟨#[c]⟩
    have lb := len_app (L2.cutS s none (some r3) ++ ⟨#[c]⟩) (L2.cutS s (some (r3 + r5)) none)
    dsimp only
    rw [e_add_ii]
    dsimp only
    rw [e_add_ss]
    exact ⟨by rw [sizeLine_eq]; omega, k _ _ (by omega) (P5.le (by omega)) (((E2.trans E3).trans E4).trans E5)⟩
  · rw [if_neg (by simpa using c8)]
    exact k _ _ (by omega) (P2.le (by omega)) E2


end L_k01
set_option maxHeartbeats 4000000
namespace L_k01
open PySem MP TL
def oddA : PTA := (pCons (pC .non) (pCons (pC (.bl true)) (pCons (pC (.int 7)) (pCons (pUn MP.rNeg (pC (.int 1))) (pCons (pC (.str "")) (pCons (pC (.str "a")) (pCons (pNew (pTmp (pCons (pC (.str "a")) (pNil)))) (pCons (pNew (pTmp (pNil))) (pCons (pTup (pCons (pC (.str "a")) (pCons (pC (.int 5)) (pNil)))) (pCons (pTup (pCons (pC (.str "a")) (pCons (pC (.str "*")) (pNil)))) (pCons (pTup (pCons (pTup (pCons (pC (.str "a")) (pNil))) (pNil))) (pCons (pTup (pCons (pC (.str "")) (pNil))) (pCons (pTup (pCons (pC (.str "*")) (pCons (pC (.str "*")) (pNil)))) (pCons (pC (.str "a.")) (pNil)))))))))))))))
def oddB : PTA := (pCons (pTup (pCons (pC (.str "a-")) (pNil))) (pCons (pTup (pCons (pC (.str "-")) (pNil))) (pCons (pTup (pCons (pC (.str "A")) (pNil))) (pCons (pTup (pCons (pC (.str "a b")) (pNil))) (pCons (pTup (pCons (pC (.str "a")) (pCons (pC .non) (pNil)))) (pCons (pNew (pTmp (pCons (pTup (pCons (pC (.str "a")) (pNil))) (pNil)))) (pCons (pTup (pCons (pOp MP.rMul (pC (.str "a")) (pC (.int 21))) (pNil))) (pCons (pTup (pCons (pC (.str "a")) (pCons (pC (.str "")) (pCons (pC (.str "b")) (pNil))))) (pCons (pTup (pCons (pC (.str "**")) (pNil))) (pNil))))))))))
theorem mul21 : PySem.MulOk ("a" : Str) 21 ∧ okS (Txt.mul ("a" : Str) 21) := ⟨⟨by decide, fun _ _ => by decide +kernel, fun _ _ => by decide +kernel⟩, okS_b (by decide +kernel)⟩
def isFl : PV → Bool
  | .fl _ => true
  | _ => false
def NoN (v : PV) : Prop := isNam v = false ∧ isFl v = false
/-- an expression with one value, whatever stands -/
def Cv (e : PTE) (v : PV) : Prop := ∀ (τ : PSt) (h : PHeap) (Q : PQ) (E : PXQ), Q v h → e τ h Q E
def CvA (a : PTA) (vs : List PV) : Prop := ∀ (τ : PSt) (h : PHeap) (Q : List PV → PHeap → Prop) (E : PXQ), Q vs h → a τ h Q E
theorem cv_c {v : PV} : Cv (pC v) v := fun _ _ _ _ q => q
theorem cva_nil : CvA pNil [] := fun _ _ _ _ q => q
theorem cva_cons {e : PTE} {a : PTA} {v : PV} {vs : List PV} (x : Cv e v) (y : CvA a vs) : CvA (pCons e a) (v :: vs) := fun τ h Q E q => x τ h _ E (y τ h _ E q)
theorem cv_tup {a : PTA} {vs : List PV} (y : CvA a vs) (hl : vs.length ≤ 100000) : Cv (pTup a) (.tup vs) := fun τ h Q E q => y τ h _ E ⟨by rw [sizeLine_eq]; omega, q⟩
theorem cv_mul {s : Str} {i : Int} (c : PySem.MulOk s i ∧ okS (Txt.mul s i)) : Cv (pOp MP.rMul (pC (.str s)) (pC (.int i))) (.str (Txt.mul s i)) := fun τ h Q E q => ⟨c, q⟩
def MkN (k p : Nat) (e : PTE) (τ : PSt) : Prop := ∀ (h : PHeap) (Q : PQ) (E : PXQ), p < h.length → (∀ v t, (∃ d, rd (hid p (h ++ t)) k v = some d) → NoN v → Q v (h ++ t)) → e τ h Q E
def MkNA (k p : Nat) (a : PTA) (n : Nat) (τ : PSt) : Prop := ∀ (h : PHeap) (Q : List PV → PHeap → Prop) (E : PXQ), p < h.length → (∀ vs t, vs.length = n → (∀ v ∈ vs, (∃ d, rd (hid p (h ++ t)) k v = some d) ∧ NoN v) → Q vs (h ++ t)) → a τ h Q E
section
variable {p n : Nat} {τ : PSt} {e : PTE} {a : PTA}
theorem mkn_cv {v : PV} (x : Cv e v) (r : ∀ h, ∃ d, rd h 6 v = some d) (nn : NoN v) : MkN 6 p e τ := fun h Q E _ q => x τ h Q E (by
  have := q v [] (by rw [app_nil]; exact r _) nn
  rwa [app_nil] at this)
theorem mkn_new {k : Nat} (y : MkA k p a n τ) (hn : n ≤ 100000 := by decide) (l : k + 1 ≤ 6 := by decide) : MkN 6 p (pNew (pTmp a)) τ := fun h Q E hp q => by
  refine y h _ E hp fun vs t lv m => ⟨by rw [lv, sizeLine_eq]; omega, ?_⟩
  obtain ⟨ds, e⟩ := allD_of m
  have := q (.ref (h ++ t).length) (t ++ [.lst vs]) ⟨_, by
    rw [← List.append_assoc, hid_app (by rw [List.length_append]; omega)]
    refine rd_le l (rd_ref_of (xs := vs) ?_ (by rw [lv]; exact hn) (allD_mono (fun x d z => rd_app _ z) e))
    have e2 : (hid p (h ++ t)).length = (h ++ t).length := by unfold hid; rw [List.length_set]
    rw [← e2, List.getElem?_concat_length]⟩ ⟨rfl, rfl⟩
  rwa [← List.append_assoc] at this
theorem mkna_nil : MkNA 6 p pNil 0 τ := fun h Q E _ q => by
  have := q [] [] rfl (fun v hv => absurd hv List.not_mem_nil)
  rwa [app_nil] at this
theorem mkna_cons (x : MkN 6 p e τ) (y : MkNA 6 p a n τ) : MkNA 6 p (pCons e a) (n + 1) τ := fun h Q E l q => by
  refine x h _ E l fun v t ⟨d, r⟩ nn => y (h ++ t) _ E (by rw [List.length_append]; omega) fun vs t' lv m => ?_
  have := q (v :: vs) (t ++ t') (by rw [List.length_cons, lv]) (fun v' hv => by
    rw [← List.append_assoc]
    rcases List.mem_cons.mp hv with z | z
    · rw [z]; exact ⟨⟨d, rdh_app (by rw [List.length_append]; omega) r⟩, nn⟩
    · exact m v' z)
  rwa [← List.append_assoc] at this
end
theorem rdt {h : PHeap} {f : Nat} {vs : List PV} (l : vs.length ≤ 100000) (m : ∀ v ∈ vs, ∃ d, rd h f v = some d) : ∃ d, rd h (f + 1) (.tup vs) = some d := by
  obtain ⟨ds, e⟩ := allD_of m
  exact ⟨_, rd_tup_of l e⟩
theorem rds {h : PHeap} {f : Nat} {s : Str} : ∃ d, rd h f (.str s) = some d := ⟨_, rd_str'⟩
theorem m1 {P : PV → Prop} {a : PV} (ha : P a) : ∀ v ∈ [a], P v := fun v hv => by rw [List.mem_singleton.mp hv]; exact ha
theorem mC {P : PV → Prop} {a : PV} {l : List PV} (ha : P a) (hl : ∀ v ∈ l, P v) : ∀ v ∈ a :: l, P v := fun v hv => by
  rcases List.mem_cons.mp hv with e | e
  · rw [e]; exact ha
  · exact hl v e
theorem t1 {s : Str} (h : PHeap) : ∃ d, rd h 6 (.tup [.str s]) = some d := rdt (by simp) (m1 rds)
theorem t2 {s u : Str} (h : PHeap) : ∃ d, rd h 6 (.tup [.str s, .str u]) = some d := rdt (by simp) (mC rds (m1 rds))
theorem mk_oddA {p : Nat} {τ : PSt} : MkNA 6 p oddA 14 τ :=
  mkna_cons (mkn_cv cv_c (fun h => ⟨.none, rfl⟩) ⟨rfl, rfl⟩) (mkna_cons (mkn_cv cv_c (fun h => ⟨.bool true, rfl⟩) ⟨rfl, rfl⟩) (mkna_cons (mkn_cv cv_c (fun h => ⟨.int 7, rfl⟩) ⟨rfl, rfl⟩) (mkna_cons (mkn_cv (v := .int (-1)) (fun _ _ _ _ q => q) (fun h => ⟨.int (-1), rfl⟩) ⟨rfl, rfl⟩) (mkna_cons (mkn_cv cv_c (fun h => rds) ⟨rfl, rfl⟩) (mkna_cons (mkn_cv cv_c (fun h => rds) ⟨rfl, rfl⟩)
  (mkna_cons (mkn_new (k := 3) (mka_cons mk_str mka_nil)) (mkna_cons (mkn_new (k := 3) mka_nil)
  (mkna_cons (mkn_cv (cv_tup (cva_cons cv_c (cva_cons cv_c cva_nil)) (by simp)) (fun h => rdt (by simp) (mC rds (m1 ⟨.int 5, rfl⟩))) ⟨by decide +kernel, rfl⟩)
  (mkna_cons (mkn_cv (cv_tup (cva_cons cv_c (cva_cons cv_c cva_nil)) (by simp)) t2 ⟨by decide +kernel, rfl⟩)
  (mkna_cons (mkn_cv (cv_tup (cva_cons (cv_tup (cva_cons cv_c cva_nil) (by simp)) cva_nil) (by simp)) (fun h => rdt (by simp) (m1 (rdt (by simp) (m1 rds)))) ⟨by decide +kernel, rfl⟩)
  (mkna_cons (mkn_cv (cv_tup (cva_cons cv_c cva_nil) (by simp)) t1 ⟨by decide +kernel, rfl⟩)
  (mkna_cons (mkn_cv (cv_tup (cva_cons cv_c (cva_cons cv_c cva_nil)) (by simp)) t2 ⟨by decide +kernel, rfl⟩)
  (mkna_cons (mkn_cv cv_c (fun h => rds) ⟨rfl, rfl⟩) mkna_nil)))))))))))))
theorem mk_oddB {p : Nat} {τ : PSt} : MkNA 6 p oddB 9 τ :=
  mkna_cons (mkn_cv (cv_tup (cva_cons cv_c cva_nil) (by simp)) t1 ⟨by decide +kernel, rfl⟩)
  (mkna_cons (mkn_cv (cv_tup (cva_cons cv_c cva_nil) (by simp)) t1 ⟨by decide +kernel, rfl⟩)
  (mkna_cons (mkn_cv (cv_tup (cva_cons cv_c cva_nil) (by simp)) t1 ⟨by decide +kernel, rfl⟩)
  (mkna_cons (mkn_cv (cv_tup (cva_cons cv_c cva_nil) (by simp)) t1 ⟨by decide +kernel, rfl⟩)
  (mkna_cons (mkn_cv (cv_tup (cva_cons cv_c (cva_cons cv_c cva_nil)) (by simp)) (fun h => rdt (by simp) (mC rds (m1 ⟨.none, rfl⟩))) ⟨by decide +kernel, rfl⟩)
  (mkna_cons (mkn_new (k := 3) (mka_cons (mk_up (mk_tup (k := 1) (mka_cons mk_str mka_nil))) mka_nil))
  (mkna_cons (mkn_cv (cv_tup (cva_cons (cv_mul mul21) cva_nil) (by simp)) t1 ⟨by decide +kernel, rfl⟩)
  (mkna_cons (mkn_cv (cv_tup (cva_cons cv_c (cva_cons cv_c (cva_cons cv_c cva_nil))) (by simp)) (fun h => rdt (by simp) (mC rds (mC rds (m1 rds)))) ⟨by decide +kernel, rfl⟩)
  (mkna_cons (mkn_cv (cv_tup (cva_cons cv_c cva_nil) (by simp)) t1 ⟨by decide +kernel, rfl⟩) mkna_nil))))))))
theorem odd_eq : t__law_odd sp_draw = pSeq (pAsg (pNew (pTmp oddA)) (.nm 1)) (pSeq (pAsg (pOp MP.rAdd (pVar 1) (pNew (pTmp oddB))) (.nm 1)) (pRet (pOp MP.rIx (pVar 1) (pCall (gd 2 sp_draw) (pCons (pVar 0) (pCons (pCB MP.rLen (pCons (pVar 1) (pNil))) (pNil))))))) := rfl
def Rd8 (p : Nat) (v : PV) (h : PHeap) : Prop := ∃ d, rd (hid p h) 8 v = some d
theorem Rd8.ev {p : Nat} {v : PV} {h h' : PHeap} (r : Rd8 p v h) (E : Ev p h h') : Rd8 p v h' := by
  obtain ⟨d, e⟩ := r
  exact ⟨d, E.rd e⟩
def sp_odd : PSp := fun vs h Q _ => ∃ p n, vs = [.ref p] ∧ Pot h p (n + 1) ∧ ∀ v h', Rd8 p v h' → NoN v → Pot h' p n → Ev p h h' → Q v h'
theorem pure__law_odd (vs : List PV) (h : PHeap) (Q : PQ) (Ex : PXQ) (_ : vs.length = 1) (hh : sp_odd vs h Q Ex) : t__law_odd sp_draw (body Q Ex) (pstart 2 vs) h := by
  obtain ⟨p, n, rfl, P, k⟩ := hh
  rw [odd_eq]
  have eτ : pstart 2 [PV.ref p] = [some (.ref p), none] := rfl
  rw [eτ]
  refine seq_asg (new_of (mk_oddA h _ _ P.lt fun vs t lv mv => ⟨by rw [lv, sizeLine_eq]; decide, seq_asg (op_of (var_of rfl rfl ?_))⟩))
  have hp1 : p < (h ++ t ++ [Cell.lst vs]).length := by
    have := P.lt
    rw [List.length_append, List.length_append]
    omega
  refine new_of (mk_oddB _ _ _ hp1 fun us t2 lu mu => ⟨by rw [lu, sizeLine_eq]; decide, ?_⟩)
  have g2 : (h ++ t ++ [Cell.lst vs] ++ t2 ++ [Cell.lst us])[(h ++ t ++ [Cell.lst vs] ++ t2).length]? = some (.lst us) := by rw [List.getElem?_concat_length]
  have g1 : (h ++ t ++ [Cell.lst vs] ++ t2 ++ [Cell.lst us])[(h ++ t).length]? = some (.lst vs) := by
    rw [List.append_assoc (h ++ t ++ [Cell.lst vs]), List.append_assoc (h ++ t), List.getElem?_append_right (Nat.le_refl _), Nat.sub_self]
    rfl
  have P2 : Pot (h ++ t ++ [Cell.lst vs] ++ t2 ++ [Cell.lst us]) p (n + 1) := (((P.app t).app _).app t2).app _
  have E2 : Ev p h (h ++ t ++ [Cell.lst vs] ++ t2 ++ [Cell.lst us]) := (((Ev.app t).trans (.app _)).trans (.app t2)).trans (.app _)
  have mv2 : ∀ v ∈ vs, Rd8 p v (h ++ t ++ [Cell.lst vs] ++ t2 ++ [Cell.lst us]) ∧ NoN v := fun v hv => by
    obtain ⟨⟨d, r⟩, nn⟩ := mv v hv
    refine ⟨?_, nn⟩
    exact ⟨d, (((Ev.app _).trans (.app t2)).trans (.app _)).rd (rd_le (by decide) r)⟩
  have mu2 : ∀ v ∈ us, Rd8 p v (h ++ t ++ [Cell.lst vs] ++ t2 ++ [Cell.lst us]) ∧ NoN v := fun v hv => by
    obtain ⟨⟨d, r⟩, nn⟩ := mu v hv
    refine ⟨?_, nn⟩
    exact ⟨d, (Ev.app _).rd (rd_le (by decide) r)⟩
  generalize (h ++ t ++ [Cell.lst vs] ++ t2).length = q2 at g2 ⊢
  generalize (h ++ t).length = q1 at g1 ⊢
  generalize (h ++ t ++ [Cell.lst vs] ++ t2 ++ [Cell.lst us]) = H at g1 g2 P2 E2 mv2 mu2 ⊢
  rw [e_add_rr, g1, g2]
  refine ⟨by rw [lv, lu, sizeLine_eq]; decide, ?_⟩
  have P3 := P2.app [Cell.lst (vs ++ us)]
  have E3 := E2.trans (.app [Cell.lst (vs ++ us)])
  have m3 : ∀ v ∈ vs ++ us, Rd8 p v (H ++ [Cell.lst (vs ++ us)]) ∧ NoN v := fun v hv => (List.mem_append.mp hv).elim (fun z => ⟨(mv2 v z).1.ev (.app _), (mv2 v z).2⟩) (fun z => ⟨(mu2 v z).1.ev (.app _), (mu2 v z).2⟩)
  have hl : (vs ++ us).length = 23 := by rw [List.length_append, lv, lu]
  simp only [MP.pSeq, MP.pIfS, MP.pRet, MP.pRetN, MP.pNext, MP.pAsg, MP.pDrop, MP.pBrk, MP.pCt, MP.pVar, MP.pC, MP.pOp, MP.pUn, MP.pNil, MP.pCons, MP.pCB, MP.pCall, MP.pTup, MP.pTmp, MP.pNew, MP.pCT, MP.pIf, MP.pB, MP.pT, MP.pAnd, MP.pOr, MP.pNot, MP.pAndV, MP.pOrV, MP.pNotV, MP.pChain, MP.pG, MP.pGs, MP.pIxT, MP.pSlice, MP.pPart, MP.pNoPart, MP.pMtT, MP.pJoinT, MP.pAsgS, MP.pAug, MP.body, MP.gd, MP.e_add_ii, MP.e_add_ss, MP.e_add_tt, MP.e_add_rr, MP.e_sub, MP.e_mul_ii, MP.e_mul_si, MP.e_mul_ri, MP.e_iadd_ii, MP.e_iadd_ss, MP.e_pow, MP.e_fdiv, MP.e_mod, MP.e_neg, MP.e_lt, MP.e_le, MP.e_gt, MP.e_ge, MP.e_eq_ii, MP.e_ne_ii, MP.e_eq_ss, MP.e_ne_ss, MP.e_eq_bb, MP.e_ne_bb, MP.e_isN, MP.e_notN, MP.e_ix_s, MP.e_ix_t, MP.e_ix_f, MP.e_ix_r, MP.e_ixT, MP.e_set, MP.e_len_s, MP.e_len_t, MP.e_len_f, MP.e_len_r, MP.e_lenT, MP.e_int_i, MP.e_int_b, MP.e_abs, MP.e_max, MP.e_min, MP.e_tupI, MP.e_lstI, MP.e_allI, MP.e_anyI, MP.e_onI_t, MP.e_onI_f, MP.e_onI_r, MP.e_onL_r, MP.e_isi_n, MP.e_isi_b, MP.e_isi_i, MP.e_isi_s, MP.e_isi_t, MP.e_isi_f, MP.e_isiT_n, MP.e_isiT_b, MP.e_isiT_i, MP.e_isiT_s, MP.e_isiT_t, MP.e_isiT_f, MP.e_app, MP.e_split, MP.e_joinI, MP.e_join_r, MP.e_cut_s, MP.e_cut_t, MP.e_cut_f, MP.e_cut_r, MP.tr_b, MP.tr_i, MP.tr_s, MP.tr_n, MP.tr_t, MP.tr_r, MP.x_n, MP.x_b, MP.x_i, MP.x_s, MP.x_t, MP.x_f, MP.x_r, MP.atI_0, MP.atI_1, MP.atI_2, MP.atI_3, MP.atI_m1, MP.ixN_c0, MP.ixN_c1, MP.ixN_c2, MP.e_in_ss, MP.ib_NoneType_bool, MP.ib_NoneType_int, MP.ib_NoneType_str, MP.ib_NoneType_tuple, MP.ib_NoneType_list, MP.ib_NoneType_dict, MP.ib_NoneType_set, MP.ib_bool_bool, MP.ib_bool_int, MP.ib_bool_str, MP.ib_bool_tuple, MP.ib_bool_list, MP.ib_bool_dict, MP.ib_bool_set, MP.ib_int_bool, MP.ib_int_int, MP.ib_int_str, MP.ib_int_tuple, MP.ib_int_list, MP.ib_int_dict, MP.ib_int_set, MP.ib_str_bool, MP.ib_str_int, MP.ib_str_str, MP.ib_str_tuple, MP.ib_str_list, MP.ib_str_dict, MP.ib_str_set, MP.ib_tuple_bool, MP.ib_tuple_int, MP.ib_tuple_str, MP.ib_tuple_tuple, MP.ib_tuple_list, MP.ib_tuple_dict, MP.ib_tuple_set, MP.ib_list_bool, MP.ib_list_int, MP.ib_list_str, MP.ib_list_tuple, MP.ib_list_list, MP.ib_list_dict, MP.ib_list_set, MP.ib_dict_bool, MP.ib_dict_int, MP.ib_dict_str, MP.ib_dict_tuple, MP.ib_dict_list, MP.ib_dict_dict, MP.ib_dict_set, MP.ib_set_bool, MP.ib_set_int, MP.ib_set_str, MP.ib_set_tuple, MP.ib_set_list, MP.ib_set_dict, MP.ib_set_set, Bool.not_true, Bool.not_false, List.any_cons, List.any_nil, Bool.or_false, Bool.or_true, Bool.true_or, Bool.false_or, Bool.and_true, Bool.true_and, Bool.and_false, Bool.false_and, if_true, if_false, ite_true, ite_false, and_true, true_and, Bool.false_eq_true, List.getElem?_cons_zero, List.getElem?_cons_succ, List.set_cons_zero, List.set_cons_succ, List.length_cons, List.length_nil, List.cons_append, List.nil_append, List.getElem?_concat_length]
  refine ⟨p, _, n, rfl, by rw [hl]; decide, by rw [hl]; decide, P3, fun r h4 r0 r1 P4 E4 l4 => ?_⟩
  dsimp only
  rw [e_ix_r]
  have hq : H.length ≠ p := by have := P2.lt; omega
  rw [E4.lst hq (List.getElem?_concat_length ..)]
  dsimp only
  have hr : r.toNat < (vs ++ us).length := by omega
  rw [atI_pos r0, List.getElem?_eq_getElem hr]
  exact k _ _ ((m3 _ (List.getElem_mem hr)).1.ev E4) (m3 _ (List.getElem_mem hr)).2 P4 (E3.trans E4)


def sp_some : PSp := fun vs h Q _ => ∃ p n, vs = [.ref p] ∧ Pot h p (n + 800) ∧ ∀ (q : Nat) (ss : List Str) (h' : PHeap), h'[q]? = some (.lst (ss.map .str)) → q ≠ p → h.length ≤ q → ss.length ≤ 12 → (∀ s ∈ ss, s.length ≤ 50) → Pot h' p n → Ev p h h' → Q (.ref q) h'
theorem stars (r : Int) (r0 : 0 ≤ r) (r1 : r < 2) : ∃ st : List Str, (List.replicate r.toNat [PV.str ("*" : Str)]).flatten = st.map .str ∧ st.length ≤ 1 ∧ ∀ s ∈ st, s.length ≤ 50 := by
  have : r = 0 ∨ r = 1 := by omega
  rcases this with rfl | rfl
  · exact ⟨[], rfl, by decide, fun s hs => absurd hs List.not_mem_nil⟩
  · exact ⟨["*"], rfl, by decide, fun s hs => by rw [List.mem_singleton.mp hs]; decide⟩
theorem pure__law_some_labels (vs : List PV) (h : PHeap) (Q : PQ) (Ex : PXQ) (_ : vs.length = 1) (hh : sp_some vs h Q Ex) : t__law_some_labels sp_draw sp_any sp_label (body Q Ex) (pstart 3 vs) h := by
  obtain ⟨p, n, rfl, P, k⟩ := hh
  show t__law_some_labels sp_draw sp_any sp_label (body Q Ex) [some (.ref p), none, none] h
  unfold t__law_some_labels
  simp only [MP.pSeq, MP.pIfS, MP.pRet, MP.pRetN, MP.pNext, MP.pAsg, MP.pDrop, MP.pBrk, MP.pCt, MP.pVar, MP.pC, MP.pOp, MP.pUn, MP.pNil, MP.pCons, MP.pCB, MP.pCall, MP.pTup, MP.pTmp, MP.pNew, MP.pCT, MP.pIf, MP.pB, MP.pT, MP.pAnd, MP.pOr, MP.pNot, MP.pAndV, MP.pOrV, MP.pNotV, MP.pChain, MP.pG, MP.pGs, MP.pIxT, MP.pSlice, MP.pPart, MP.pNoPart, MP.pMtT, MP.pJoinT, MP.pAsgS, MP.pAug, MP.body, MP.gd, MP.e_add_ii, MP.e_add_ss, MP.e_add_tt, MP.e_add_rr, MP.e_sub, MP.e_mul_ii, MP.e_mul_si, MP.e_mul_ri, MP.e_iadd_ii, MP.e_iadd_ss, MP.e_pow, MP.e_fdiv, MP.e_mod, MP.e_neg, MP.e_lt, MP.e_le, MP.e_gt, MP.e_ge, MP.e_eq_ii, MP.e_ne_ii, MP.e_eq_ss, MP.e_ne_ss, MP.e_eq_bb, MP.e_ne_bb, MP.e_isN, MP.e_notN, MP.e_ix_s, MP.e_ix_t, MP.e_ix_f, MP.e_ix_r, MP.e_ixT, MP.e_set, MP.e_len_s, MP.e_len_t, MP.e_len_f, MP.e_len_r, MP.e_lenT, MP.e_int_i, MP.e_int_b, MP.e_abs, MP.e_max, MP.e_min, MP.e_tupI, MP.e_lstI, MP.e_allI, MP.e_anyI, MP.e_onI_t, MP.e_onI_f, MP.e_onI_r, MP.e_onL_r, MP.e_isi_n, MP.e_isi_b, MP.e_isi_i, MP.e_isi_s, MP.e_isi_t, MP.e_isi_f, MP.e_isiT_n, MP.e_isiT_b, MP.e_isiT_i, MP.e_isiT_s, MP.e_isiT_t, MP.e_isiT_f, MP.e_app, MP.e_split, MP.e_joinI, MP.e_join_r, MP.e_cut_s, MP.e_cut_t, MP.e_cut_f, MP.e_cut_r, MP.tr_b, MP.tr_i, MP.tr_s, MP.tr_n, MP.tr_t, MP.tr_r, MP.x_n, MP.x_b, MP.x_i, MP.x_s, MP.x_t, MP.x_f, MP.x_r, MP.atI_0, MP.atI_1, MP.atI_2, MP.atI_3, MP.atI_m1, MP.ixN_c0, MP.ixN_c1, MP.ixN_c2, MP.e_in_ss, MP.ib_NoneType_bool, MP.ib_NoneType_int, MP.ib_NoneType_str, MP.ib_NoneType_tuple, MP.ib_NoneType_list, MP.ib_NoneType_dict, MP.ib_NoneType_set, MP.ib_bool_bool, MP.ib_bool_int, MP.ib_bool_str, MP.ib_bool_tuple, MP.ib_bool_list, MP.ib_bool_dict, MP.ib_bool_set, MP.ib_int_bool, MP.ib_int_int, MP.ib_int_str, MP.ib_int_tuple, MP.ib_int_list, MP.ib_int_dict, MP.ib_int_set, MP.ib_str_bool, MP.ib_str_int, MP.ib_str_str, MP.ib_str_tuple, MP.ib_str_list, MP.ib_str_dict, MP.ib_str_set, MP.ib_tuple_bool, MP.ib_tuple_int, MP.ib_tuple_str, MP.ib_tuple_tuple, MP.ib_tuple_list, MP.ib_tuple_dict, MP.ib_tuple_set, MP.ib_list_bool, MP.ib_list_int, MP.ib_list_str, MP.ib_list_tuple, MP.ib_list_list, MP.ib_list_dict, MP.ib_list_set, MP.ib_dict_bool, MP.ib_dict_int, MP.ib_dict_str, MP.ib_dict_tuple, MP.ib_dict_list, MP.ib_dict_dict, MP.ib_dict_set, MP.ib_set_bool, MP.ib_set_int, MP.ib_set_str, MP.ib_set_tuple, MP.ib_set_list, MP.ib_set_dict, MP.ib_set_set, Bool.not_true, Bool.not_false, List.any_cons, List.any_nil, Bool.or_false, Bool.or_true, Bool.true_or, Bool.false_or, Bool.and_true, Bool.true_and, Bool.and_false, Bool.false_and, if_true, if_false, ite_true, ite_false, and_true, true_and, Bool.false_eq_true, List.getElem?_cons_zero, List.getElem?_cons_succ, List.set_cons_zero, List.set_cons_succ, List.length_cons, List.length_nil, List.cons_append, List.nil_append]
  refine ⟨p, 4, n + 799, rfl, by decide, by decide, P, fun r1 h1 r10 r11 P1 E1 l1 => ⟨by rw [sizeLine_eq]; decide, p, 8, n + 798, rfl, by decide, by decide, P1, fun r2 h2 r20 r21 P2 E2 l2 => ?_⟩⟩
  have hM : ∃ M : Nat, M ≤ 12 ∧ L2.atI [PV.int r1, .int 12] (if decide (r2 = 7) = true then 1 else 0) = some (.int M) := by
    by_cases c : r2 = 7
    · rw [if_pos (decide_eq_true c)]
      exact ⟨12, by decide, rfl⟩
    · rw [if_neg (by simpa using c)]
      exact ⟨r1.toNat, by omega, by rw [Int.toNat_of_nonneg r10]; rfl⟩
  obtain ⟨M, hM, eM⟩ := hM
  simp only [MP.pSeq, MP.pIfS, MP.pRet, MP.pRetN, MP.pNext, MP.pAsg, MP.pDrop, MP.pBrk, MP.pCt, MP.pVar, MP.pC, MP.pOp, MP.pUn, MP.pNil, MP.pCons, MP.pCB, MP.pCall, MP.pTup, MP.pTmp, MP.pNew, MP.pCT, MP.pIf, MP.pB, MP.pT, MP.pAnd, MP.pOr, MP.pNot, MP.pAndV, MP.pOrV, MP.pNotV, MP.pChain, MP.pG, MP.pGs, MP.pIxT, MP.pSlice, MP.pPart, MP.pNoPart, MP.pMtT, MP.pJoinT, MP.pAsgS, MP.pAug, MP.body, MP.gd, MP.e_add_ii, MP.e_add_ss, MP.e_add_tt, MP.e_add_rr, MP.e_sub, MP.e_mul_ii, MP.e_mul_si, MP.e_mul_ri, MP.e_iadd_ii, MP.e_iadd_ss, MP.e_pow, MP.e_fdiv, MP.e_mod, MP.e_neg, MP.e_lt, MP.e_le, MP.e_gt, MP.e_ge, MP.e_eq_ii, MP.e_ne_ii, MP.e_eq_ss, MP.e_ne_ss, MP.e_eq_bb, MP.e_ne_bb, MP.e_isN, MP.e_notN, MP.e_ix_s, MP.e_ix_t, MP.e_ix_f, MP.e_ix_r, MP.e_ixT, MP.e_set, MP.e_len_s, MP.e_len_t, MP.e_len_f, MP.e_len_r, MP.e_lenT, MP.e_int_i, MP.e_int_b, MP.e_abs, MP.e_max, MP.e_min, MP.e_tupI, MP.e_lstI, MP.e_allI, MP.e_anyI, MP.e_onI_t, MP.e_onI_f, MP.e_onI_r, MP.e_onL_r, MP.e_isi_n, MP.e_isi_b, MP.e_isi_i, MP.e_isi_s, MP.e_isi_t, MP.e_isi_f, MP.e_isiT_n, MP.e_isiT_b, MP.e_isiT_i, MP.e_isiT_s, MP.e_isiT_t, MP.e_isiT_f, MP.e_app, MP.e_split, MP.e_joinI, MP.e_join_r, MP.e_cut_s, MP.e_cut_t, MP.e_cut_f, MP.e_cut_r, MP.tr_b, MP.tr_i, MP.tr_s, MP.tr_n, MP.tr_t, MP.tr_r, MP.x_n, MP.x_b, MP.x_i, MP.x_s, MP.x_t, MP.x_f, MP.x_r, MP.atI_0, MP.atI_1, MP.atI_2, MP.atI_3, MP.atI_m1, MP.ixN_c0, MP.ixN_c1, MP.ixN_c2, MP.e_in_ss, MP.ib_NoneType_bool, MP.ib_NoneType_int, MP.ib_NoneType_str, MP.ib_NoneType_tuple, MP.ib_NoneType_list, MP.ib_NoneType_dict, MP.ib_NoneType_set, MP.ib_bool_bool, MP.ib_bool_int, MP.ib_bool_str, MP.ib_bool_tuple, MP.ib_bool_list, MP.ib_bool_dict, MP.ib_bool_set, MP.ib_int_bool, MP.ib_int_int, MP.ib_int_str, MP.ib_int_tuple, MP.ib_int_list, MP.ib_int_dict, MP.ib_int_set, MP.ib_str_bool, MP.ib_str_int, MP.ib_str_str, MP.ib_str_tuple, MP.ib_str_list, MP.ib_str_dict, MP.ib_str_set, MP.ib_tuple_bool, MP.ib_tuple_int, MP.ib_tuple_str, MP.ib_tuple_tuple, MP.ib_tuple_list, MP.ib_tuple_dict, MP.ib_tuple_set, MP.ib_list_bool, MP.ib_list_int, MP.ib_list_str, MP.ib_list_tuple, MP.ib_list_list, MP.ib_list_dict, MP.ib_list_set, MP.ib_dict_bool, MP.ib_dict_int, MP.ib_dict_str, MP.ib_dict_tuple, MP.ib_dict_list, MP.ib_dict_dict, MP.ib_dict_set, MP.ib_set_bool, MP.ib_set_int, MP.ib_set_str, MP.ib_set_tuple, MP.ib_set_list, MP.ib_set_dict, MP.ib_set_set, Bool.not_true, Bool.not_false, List.any_cons, List.any_nil, Bool.or_false, Bool.or_true, Bool.true_or, Bool.false_or, Bool.and_true, Bool.true_and, Bool.and_false, Bool.false_and, if_true, if_false, ite_true, ite_false, and_true, true_and, Bool.false_eq_true, List.getElem?_cons_zero, List.getElem?_cons_succ, List.set_cons_zero, List.set_cons_succ, List.length_cons, List.length_nil, List.cons_append, List.nil_append]
  rw [eM]
  refine ⟨p, 2, n + 797, rfl, by decide, by decide, P2, fun r3 h3 r30 r31 P3 E3 l3 => ?_⟩
  have E3 := (E1.trans E2).trans E3
  simp only [MP.pSeq, MP.pIfS, MP.pRet, MP.pRetN, MP.pNext, MP.pAsg, MP.pDrop, MP.pBrk, MP.pCt, MP.pVar, MP.pC, MP.pOp, MP.pUn, MP.pNil, MP.pCons, MP.pCB, MP.pCall, MP.pTup, MP.pTmp, MP.pNew, MP.pCT, MP.pIf, MP.pB, MP.pT, MP.pAnd, MP.pOr, MP.pNot, MP.pAndV, MP.pOrV, MP.pNotV, MP.pChain, MP.pG, MP.pGs, MP.pIxT, MP.pSlice, MP.pPart, MP.pNoPart, MP.pMtT, MP.pJoinT, MP.pAsgS, MP.pAug, MP.body, MP.gd, MP.e_add_ii, MP.e_add_ss, MP.e_add_tt, MP.e_add_rr, MP.e_sub, MP.e_mul_ii, MP.e_mul_si, MP.e_mul_ri, MP.e_iadd_ii, MP.e_iadd_ss, MP.e_pow, MP.e_fdiv, MP.e_mod, MP.e_neg, MP.e_lt, MP.e_le, MP.e_gt, MP.e_ge, MP.e_eq_ii, MP.e_ne_ii, MP.e_eq_ss, MP.e_ne_ss, MP.e_eq_bb, MP.e_ne_bb, MP.e_isN, MP.e_notN, MP.e_ix_s, MP.e_ix_t, MP.e_ix_f, MP.e_ix_r, MP.e_ixT, MP.e_set, MP.e_len_s, MP.e_len_t, MP.e_len_f, MP.e_len_r, MP.e_lenT, MP.e_int_i, MP.e_int_b, MP.e_abs, MP.e_max, MP.e_min, MP.e_tupI, MP.e_lstI, MP.e_allI, MP.e_anyI, MP.e_onI_t, MP.e_onI_f, MP.e_onI_r, MP.e_onL_r, MP.e_isi_n, MP.e_isi_b, MP.e_isi_i, MP.e_isi_s, MP.e_isi_t, MP.e_isi_f, MP.e_isiT_n, MP.e_isiT_b, MP.e_isiT_i, MP.e_isiT_s, MP.e_isiT_t, MP.e_isiT_f, MP.e_app, MP.e_split, MP.e_joinI, MP.e_join_r, MP.e_cut_s, MP.e_cut_t, MP.e_cut_f, MP.e_cut_r, MP.tr_b, MP.tr_i, MP.tr_s, MP.tr_n, MP.tr_t, MP.tr_r, MP.x_n, MP.x_b, MP.x_i, MP.x_s, MP.x_t, MP.x_f, MP.x_r, MP.atI_0, MP.atI_1, MP.atI_2, MP.atI_3, MP.atI_m1, MP.ixN_c0, MP.ixN_c1, MP.ixN_c2, MP.e_in_ss, MP.ib_NoneType_bool, MP.ib_NoneType_int, MP.ib_NoneType_str, MP.ib_NoneType_tuple, MP.ib_NoneType_list, MP.ib_NoneType_dict, MP.ib_NoneType_set, MP.ib_bool_bool, MP.ib_bool_int, MP.ib_bool_str, MP.ib_bool_tuple, MP.ib_bool_list, MP.ib_bool_dict, MP.ib_bool_set, MP.ib_int_bool, MP.ib_int_int, MP.ib_int_str, MP.ib_int_tuple, MP.ib_int_list, MP.ib_int_dict, MP.ib_int_set, MP.ib_str_bool, MP.ib_str_int, MP.ib_str_str, MP.ib_str_tuple, MP.ib_str_list, MP.ib_str_dict, MP.ib_str_set, MP.ib_tuple_bool, MP.ib_tuple_int, MP.ib_tuple_str, MP.ib_tuple_tuple, MP.ib_tuple_list, MP.ib_tuple_dict, MP.ib_tuple_set, MP.ib_list_bool, MP.ib_list_int, MP.ib_list_str, MP.ib_list_tuple, MP.ib_list_list, MP.ib_list_dict, MP.ib_list_set, MP.ib_dict_bool, MP.ib_dict_int, MP.ib_dict_str, MP.ib_dict_tuple, MP.ib_dict_list, MP.ib_dict_dict, MP.ib_dict_set, MP.ib_set_bool, MP.ib_set_int, MP.ib_set_str, MP.ib_set_tuple, MP.ib_set_list, MP.ib_set_dict, MP.ib_set_set, Bool.not_true, Bool.not_false, List.any_cons, List.any_nil, Bool.or_false, Bool.or_true, Bool.true_or, Bool.false_or, Bool.and_true, Bool.true_and, Bool.and_false, Bool.false_and, if_true, if_false, ite_true, ite_false, and_true, true_and, Bool.false_eq_true, List.getElem?_cons_zero, List.getElem?_cons_succ, List.set_cons_zero, List.set_cons_succ, List.length_cons, List.length_nil, List.cons_append, List.nil_append]
  by_cases c : r3 = 0
  · rw [if_pos (decide_eq_true c)]
    refine ⟨by rw [sizeLine_eq]; decide, p, 2, n + 796, rfl, by decide, by decide, P3.app _, fun r4 h4 r40 r41 P4 E4 l4 => ?_⟩
    have lp := P3.lt
    have q4 : h4[h3.length]? = some (.lst [.str "*"]) := E4.lst (by omega) (by rw [List.getElem?_concat_length])
    have E4 := (E3.trans (.app _)).trans E4
    simp only [MP.pSeq, MP.pIfS, MP.pRet, MP.pRetN, MP.pNext, MP.pAsg, MP.pDrop, MP.pBrk, MP.pCt, MP.pVar, MP.pC, MP.pOp, MP.pUn, MP.pNil, MP.pCons, MP.pCB, MP.pCall, MP.pTup, MP.pTmp, MP.pNew, MP.pCT, MP.pIf, MP.pB, MP.pT, MP.pAnd, MP.pOr, MP.pNot, MP.pAndV, MP.pOrV, MP.pNotV, MP.pChain, MP.pG, MP.pGs, MP.pIxT, MP.pSlice, MP.pPart, MP.pNoPart, MP.pMtT, MP.pJoinT, MP.pAsgS, MP.pAug, MP.body, MP.gd, MP.e_add_ii, MP.e_add_ss, MP.e_add_tt, MP.e_add_rr, MP.e_sub, MP.e_mul_ii, MP.e_mul_si, MP.e_mul_ri, MP.e_iadd_ii, MP.e_iadd_ss, MP.e_pow, MP.e_fdiv, MP.e_mod, MP.e_neg, MP.e_lt, MP.e_le, MP.e_gt, MP.e_ge, MP.e_eq_ii, MP.e_ne_ii, MP.e_eq_ss, MP.e_ne_ss, MP.e_eq_bb, MP.e_ne_bb, MP.e_isN, MP.e_notN, MP.e_ix_s, MP.e_ix_t, MP.e_ix_f, MP.e_ix_r, MP.e_ixT, MP.e_set, MP.e_len_s, MP.e_len_t, MP.e_len_f, MP.e_len_r, MP.e_lenT, MP.e_int_i, MP.e_int_b, MP.e_abs, MP.e_max, MP.e_min, MP.e_tupI, MP.e_lstI, MP.e_allI, MP.e_anyI, MP.e_onI_t, MP.e_onI_f, MP.e_onI_r, MP.e_onL_r, MP.e_isi_n, MP.e_isi_b, MP.e_isi_i, MP.e_isi_s, MP.e_isi_t, MP.e_isi_f, MP.e_isiT_n, MP.e_isiT_b, MP.e_isiT_i, MP.e_isiT_s, MP.e_isiT_t, MP.e_isiT_f, MP.e_app, MP.e_split, MP.e_joinI, MP.e_join_r, MP.e_cut_s, MP.e_cut_t, MP.e_cut_f, MP.e_cut_r, MP.tr_b, MP.tr_i, MP.tr_s, MP.tr_n, MP.tr_t, MP.tr_r, MP.x_n, MP.x_b, MP.x_i, MP.x_s, MP.x_t, MP.x_f, MP.x_r, MP.atI_0, MP.atI_1, MP.atI_2, MP.atI_3, MP.atI_m1, MP.ixN_c0, MP.ixN_c1, MP.ixN_c2, MP.e_in_ss, MP.ib_NoneType_bool, MP.ib_NoneType_int, MP.ib_NoneType_str, MP.ib_NoneType_tuple, MP.ib_NoneType_list, MP.ib_NoneType_dict, MP.ib_NoneType_set, MP.ib_bool_bool, MP.ib_bool_int, MP.ib_bool_str, MP.ib_bool_tuple, MP.ib_bool_list, MP.ib_bool_dict, MP.ib_bool_set, MP.ib_int_bool, MP.ib_int_int, MP.ib_int_str, MP.ib_int_tuple, MP.ib_int_list, MP.ib_int_dict, MP.ib_int_set, MP.ib_str_bool, MP.ib_str_int, MP.ib_str_str, MP.ib_str_tuple, MP.ib_str_list, MP.ib_str_dict, MP.ib_str_set, MP.ib_tuple_bool, MP.ib_tuple_int, MP.ib_tuple_str, MP.ib_tuple_tuple, MP.ib_tuple_list, MP.ib_tuple_dict, MP.ib_tuple_set, MP.ib_list_bool, MP.ib_list_int, MP.ib_list_str, MP.ib_list_tuple, MP.ib_list_list, MP.ib_list_dict, MP.ib_list_set, MP.ib_dict_bool, MP.ib_dict_int, MP.ib_dict_str, MP.ib_dict_tuple, MP.ib_dict_list, MP.ib_dict_dict, MP.ib_dict_set, MP.ib_set_bool, MP.ib_set_int, MP.ib_set_str, MP.ib_set_tuple, MP.ib_set_list, MP.ib_set_dict, MP.ib_set_set, Bool.not_true, Bool.not_false, List.any_cons, List.any_nil, Bool.or_false, Bool.or_true, Bool.true_or, Bool.false_or, Bool.and_true, Bool.true_and, Bool.and_false, Bool.false_and, if_true, if_false, ite_true, ite_false, and_true, true_and, Bool.false_eq_true, List.getElem?_cons_zero, List.getElem?_cons_succ, List.set_cons_zero, List.set_cons_succ, List.length_cons, List.length_nil, List.cons_append, List.nil_append, q4]
    obtain ⟨st, est, lst, mst⟩ := stars r4 r40 r41
    rw [est]
    refine ⟨by omega, by omega, by rw [sizeLine_eq]; omega, ?_⟩
    have hmin : ∃ L : Nat, L ≤ 11 ∧ (if (11 : Int) < (M : Int) then (11 : Int) else (M : Int)) = (L : Int) := by
      by_cases c2 : (11 : Int) < (M : Int)
      · exact ⟨11, by decide, by rw [if_pos c2]; rfl⟩
      · exact ⟨M, by omega, by rw [if_neg c2]⟩
    obtain ⟨L, hL, eL⟩ := hmin
    refine pRng1_of (n := L) (fun Q q => ?_) (by omega) (lc_draw (P := ShS 50) (w := 24) (n := n) (p := p) (fun v h1 h2 z _ => z) (by omega) (fun _ => trivial) ((P4.app _).le (by omega)) (fun j h5 m R _ P5 E5 k5 => ?_) ?_)
    · refine ⟨rfl, ?_⟩
      show Q (.int (if (11 : Int) < (M : Int) then (11 : Int) else (M : Int))) _
      rw [eL]
      exact q
    · exact ⟨rfl, rfl, p, m, rfl, P5, fun s h6 ls P6 E6 => k5 _ _ ⟨s, rfl, by omega⟩ P6 E6⟩
    · intro ys h5 ly my P5 E5
      obtain ⟨ss, rfl, ms⟩ := shS_list my
      rw [List.length_map] at ly
      have l45 := E5.len
      rw [List.length_append] at l45
      have l45' : h4.length + 1 ≤ h5.length := l45
      have q5 : h5[h4.length]? = some (.lst (st.map .str)) := E5.lst (by have := P4.lt; omega) (by rw [List.getElem?_concat_length])
      have E5 := (E4.trans (.app _)).trans E5
      rw [List.getElem?_append_left (by omega), q5, List.getElem?_concat_length]
      refine ⟨by rw [List.length_map, List.length_map, sizeLine_eq]; omega, ?_⟩
      refine k _ (st ++ ss) _ ?_ ?_ ?_ (by rw [List.length_append]; omega) (fun s hs => (List.mem_append.mp hs).elim (mst s) (ms s)) ((P5.app _).app _) ((E5.trans (.app _)).trans (.app _))
      · rw [List.getElem?_concat_length, List.map_append]
      · have := P5.lt
        rw [List.length_append]
        omega
      · have := E5.len
        rw [List.length_append]
        omega
  · rw [if_neg (by simpa using c)]
    refine pRng1_of (n := M) (fun Q q => ⟨rfl, q⟩) (by omega) (lc_draw (P := ShS 50) (w := 60) (n := n) (p := p) (fun v h1 h2 z _ => z) (by omega) (fun _ => trivial) (P3.le (by omega)) (fun j h5 m R _ P5 E5 k5 => ?_) ?_)
    · exact ⟨rfl, rfl, p, m, rfl, P5, fun s h6 ls P6 E6 => k5 _ _ ⟨s, rfl, ls⟩ P6 E6⟩
    · intro ys h5 ly my P5 E5
      obtain ⟨ss, rfl, ms⟩ := shS_list my
      rw [List.length_map] at ly
      have E5 := E3.trans E5
      refine k _ ss _ (by rw [List.getElem?_concat_length]) (by have := P5.lt; omega) E5.len (by omega) ms (P5.app _) (E5.trans (.app _))


/-! ### the pot -/
def sp_pot : PSp := fun vs h Q _ => ∃ (ns : List Int) (k : Nat), vs = [.fl (ns.map .int), .int k] ∧ ns.length ≤ 1000 ∧ k ≤ 1000 ∧ ∀ p t, Pot (h ++ t) p 900000000 → Q (.ref p) (h ++ t)
theorem p33 : powOk 10 33 := ⟨by decide, 4, by decide, by decide⟩
theorem p18 : powOk 10 18 := ⟨by decide, 4, by decide, by decide⟩
theorem pure__law_pot (vs : List PV) (h : PHeap) (Q : PQ) (Ex : PXQ) (_ : vs.length = 2) (hh : sp_pot vs h Q Ex) : t__law_pot (body Q Ex) (pstart 5 vs) h := by
  obtain ⟨ns, k, rfl, ln, lk, q⟩ := hh
  show t__law_pot (body Q Ex) [some (.fl (ns.map .int)), some (.int k), none, none, none] h
  unfold t__law_pot
  have main : ∀ cell : Int, pSeq (pAsg (pC (.int 1)) (.nm 3)) (pSeq (pFor (pIter (pVar 0)) (.nm 4) (pAsg (pOp MP.rMod (pCB rIntP (pCons (pOp MP.rAdd (pOp MP.rMul (pVar 3) (pC (.int 131))) (pVar 4)) (pNil))) (pOp MP.rAdd (pOp MP.rPow (pC (.int 10)) (pC (.int 33))) (pC (.int 61)))) (.nm 3))) (pRet (pNew (pTmp (pCons (pCB MP.rMax2 (pCons (pC (.int 0)) (pCons (pOp MP.rSub (pVar 2) (pOp MP.rPow (pC (.int 10)) (pC (.int 18)))) (pNil)))) (pCons (pOp MP.rMod (pCB rIntP (pCons (pOp MP.rAdd (pOp MP.rAdd (pOp MP.rMul (pVar 3) (pC (.int 977))) (pCB MP.rAbs (pCons (pVar 2) (pNil)))) (pOp MP.rMul (pC (.int 13)) (pVar 1))) (pNil))) (pOp MP.rAdd (pOp MP.rPow (pC (.int 10)) (pC (.int 33))) (pC (.int 61)))) (pCons (pC (.int 0)) (pNil)))))))) (body Q Ex) [some (.fl (ns.map .int)), some (.int k), some (.int cell), none, none] h := by
    intro cell
    refine seq_asg ⟨rfl, ?_⟩
    refine forGo_inv (fun _ τ h' => h' = h ∧ ∃ (mix : Int) (o : Option PV), τ = [some (.fl (ns.map .int)), some (.int k), some (.int cell), some (.int mix), o]) _ (fun _ _ _ _ => trivial) (fun τ h' z => ?_) (fun j x τ h' N ej z nn => ?_) _ _ ⟨rfl, 1, none, rfl⟩
    · obtain ⟨rfl, mix, o, rfl⟩ := z
      simp only [MP.pSeq, MP.pIfS, MP.pRet, MP.pRetN, MP.pNext, MP.pAsg, MP.pDrop, MP.pBrk, MP.pCt, MP.pVar, MP.pC, MP.pOp, MP.pUn, MP.pNil, MP.pCons, MP.pCB, MP.pCall, MP.pTup, MP.pTmp, MP.pNew, MP.pCT, MP.pIf, MP.pB, MP.pT, MP.pAnd, MP.pOr, MP.pNot, MP.pAndV, MP.pOrV, MP.pNotV, MP.pChain, MP.pG, MP.pGs, MP.pIxT, MP.pSlice, MP.pPart, MP.pNoPart, MP.pMtT, MP.pJoinT, MP.pAsgS, MP.pAug, MP.body, MP.gd, MP.e_add_ii, MP.e_add_ss, MP.e_add_tt, MP.e_add_rr, MP.e_sub, MP.e_mul_ii, MP.e_mul_si, MP.e_mul_ri, MP.e_iadd_ii, MP.e_iadd_ss, MP.e_pow, MP.e_fdiv, MP.e_mod, MP.e_neg, MP.e_lt, MP.e_le, MP.e_gt, MP.e_ge, MP.e_eq_ii, MP.e_ne_ii, MP.e_eq_ss, MP.e_ne_ss, MP.e_eq_bb, MP.e_ne_bb, MP.e_isN, MP.e_notN, MP.e_ix_s, MP.e_ix_t, MP.e_ix_f, MP.e_ix_r, MP.e_ixT, MP.e_set, MP.e_len_s, MP.e_len_t, MP.e_len_f, MP.e_len_r, MP.e_lenT, MP.e_int_i, MP.e_int_b, MP.e_abs, MP.e_max, MP.e_min, MP.e_tupI, MP.e_lstI, MP.e_allI, MP.e_anyI, MP.e_onI_t, MP.e_onI_f, MP.e_onI_r, MP.e_onL_r, MP.e_isi_n, MP.e_isi_b, MP.e_isi_i, MP.e_isi_s, MP.e_isi_t, MP.e_isi_f, MP.e_isiT_n, MP.e_isiT_b, MP.e_isiT_i, MP.e_isiT_s, MP.e_isiT_t, MP.e_isiT_f, MP.e_app, MP.e_split, MP.e_joinI, MP.e_join_r, MP.e_cut_s, MP.e_cut_t, MP.e_cut_f, MP.e_cut_r, MP.tr_b, MP.tr_i, MP.tr_s, MP.tr_n, MP.tr_t, MP.tr_r, MP.x_n, MP.x_b, MP.x_i, MP.x_s, MP.x_t, MP.x_f, MP.x_r, MP.atI_0, MP.atI_1, MP.atI_2, MP.atI_3, MP.atI_m1, MP.ixN_c0, MP.ixN_c1, MP.ixN_c2, MP.e_in_ss, MP.ib_NoneType_bool, MP.ib_NoneType_int, MP.ib_NoneType_str, MP.ib_NoneType_tuple, MP.ib_NoneType_list, MP.ib_NoneType_dict, MP.ib_NoneType_set, MP.ib_bool_bool, MP.ib_bool_int, MP.ib_bool_str, MP.ib_bool_tuple, MP.ib_bool_list, MP.ib_bool_dict, MP.ib_bool_set, MP.ib_int_bool, MP.ib_int_int, MP.ib_int_str, MP.ib_int_tuple, MP.ib_int_list, MP.ib_int_dict, MP.ib_int_set, MP.ib_str_bool, MP.ib_str_int, MP.ib_str_str, MP.ib_str_tuple, MP.ib_str_list, MP.ib_str_dict, MP.ib_str_set, MP.ib_tuple_bool, MP.ib_tuple_int, MP.ib_tuple_str, MP.ib_tuple_tuple, MP.ib_tuple_list, MP.ib_tuple_dict, MP.ib_tuple_set, MP.ib_list_bool, MP.ib_list_int, MP.ib_list_str, MP.ib_list_tuple, MP.ib_list_list, MP.ib_list_dict, MP.ib_list_set, MP.ib_dict_bool, MP.ib_dict_int, MP.ib_dict_str, MP.ib_dict_tuple, MP.ib_dict_list, MP.ib_dict_dict, MP.ib_dict_set, MP.ib_set_bool, MP.ib_set_int, MP.ib_set_str, MP.ib_set_tuple, MP.ib_set_list, MP.ib_set_dict, MP.ib_set_set, Bool.not_true, Bool.not_false, List.any_cons, List.any_nil, Bool.or_false, Bool.or_true, Bool.true_or, Bool.false_or, Bool.and_true, Bool.true_and, Bool.and_false, Bool.false_and, if_true, if_false, ite_true, ite_false, and_true, true_and, Bool.false_eq_true, List.getElem?_cons_zero, List.getElem?_cons_succ, List.set_cons_zero, List.set_cons_succ, List.length_cons, List.length_nil, List.cons_append, List.nil_append]
      refine ⟨p18, mulOk_r (by decide), mulOk_l (by decide), p33, by decide, by rw [sizeLine_eq]; decide, ?_⟩
      refine q _ _ ⟨_, _, _, by rw [List.getElem?_concat_length], ?_, Int.emod_nonneg _ (by decide), ?_, Int.le_refl 0, by decide⟩
      · split <;> omega
      · exact Int.lt_trans (Int.emod_lt_of_pos _ (by decide)) (by decide)
    · obtain ⟨rfl, mix, o, rfl⟩ := z
      rw [List.getElem?_map] at ej
      obtain ⟨i, _, rfl⟩ := Option.map_eq_some_iff.mp ej
      refine ⟨_, rfl, ?_⟩
      simp only [MP.pSeq, MP.pIfS, MP.pRet, MP.pRetN, MP.pNext, MP.pAsg, MP.pDrop, MP.pBrk, MP.pCt, MP.pVar, MP.pC, MP.pOp, MP.pUn, MP.pNil, MP.pCons, MP.pCB, MP.pCall, MP.pTup, MP.pTmp, MP.pNew, MP.pCT, MP.pIf, MP.pB, MP.pT, MP.pAnd, MP.pOr, MP.pNot, MP.pAndV, MP.pOrV, MP.pNotV, MP.pChain, MP.pG, MP.pGs, MP.pIxT, MP.pSlice, MP.pPart, MP.pNoPart, MP.pMtT, MP.pJoinT, MP.pAsgS, MP.pAug, MP.body, MP.gd, MP.e_add_ii, MP.e_add_ss, MP.e_add_tt, MP.e_add_rr, MP.e_sub, MP.e_mul_ii, MP.e_mul_si, MP.e_mul_ri, MP.e_iadd_ii, MP.e_iadd_ss, MP.e_pow, MP.e_fdiv, MP.e_mod, MP.e_neg, MP.e_lt, MP.e_le, MP.e_gt, MP.e_ge, MP.e_eq_ii, MP.e_ne_ii, MP.e_eq_ss, MP.e_ne_ss, MP.e_eq_bb, MP.e_ne_bb, MP.e_isN, MP.e_notN, MP.e_ix_s, MP.e_ix_t, MP.e_ix_f, MP.e_ix_r, MP.e_ixT, MP.e_set, MP.e_len_s, MP.e_len_t, MP.e_len_f, MP.e_len_r, MP.e_lenT, MP.e_int_i, MP.e_int_b, MP.e_abs, MP.e_max, MP.e_min, MP.e_tupI, MP.e_lstI, MP.e_allI, MP.e_anyI, MP.e_onI_t, MP.e_onI_f, MP.e_onI_r, MP.e_onL_r, MP.e_isi_n, MP.e_isi_b, MP.e_isi_i, MP.e_isi_s, MP.e_isi_t, MP.e_isi_f, MP.e_isiT_n, MP.e_isiT_b, MP.e_isiT_i, MP.e_isiT_s, MP.e_isiT_t, MP.e_isiT_f, MP.e_app, MP.e_split, MP.e_joinI, MP.e_join_r, MP.e_cut_s, MP.e_cut_t, MP.e_cut_f, MP.e_cut_r, MP.tr_b, MP.tr_i, MP.tr_s, MP.tr_n, MP.tr_t, MP.tr_r, MP.x_n, MP.x_b, MP.x_i, MP.x_s, MP.x_t, MP.x_f, MP.x_r, MP.atI_0, MP.atI_1, MP.atI_2, MP.atI_3, MP.atI_m1, MP.ixN_c0, MP.ixN_c1, MP.ixN_c2, MP.e_in_ss, MP.ib_NoneType_bool, MP.ib_NoneType_int, MP.ib_NoneType_str, MP.ib_NoneType_tuple, MP.ib_NoneType_list, MP.ib_NoneType_dict, MP.ib_NoneType_set, MP.ib_bool_bool, MP.ib_bool_int, MP.ib_bool_str, MP.ib_bool_tuple, MP.ib_bool_list, MP.ib_bool_dict, MP.ib_bool_set, MP.ib_int_bool, MP.ib_int_int, MP.ib_int_str, MP.ib_int_tuple, MP.ib_int_list, MP.ib_int_dict, MP.ib_int_set, MP.ib_str_bool, MP.ib_str_int, MP.ib_str_str, MP.ib_str_tuple, MP.ib_str_list, MP.ib_str_dict, MP.ib_str_set, MP.ib_tuple_bool, MP.ib_tuple_int, MP.ib_tuple_str, MP.ib_tuple_tuple, MP.ib_tuple_list, MP.ib_tuple_dict, MP.ib_tuple_set, MP.ib_list_bool, MP.ib_list_int, MP.ib_list_str, MP.ib_list_tuple, MP.ib_list_list, MP.ib_list_dict, MP.ib_list_set, MP.ib_dict_bool, MP.ib_dict_int, MP.ib_dict_str, MP.ib_dict_tuple, MP.ib_dict_list, MP.ib_dict_dict, MP.ib_dict_set, MP.ib_set_bool, MP.ib_set_int, MP.ib_set_str, MP.ib_set_tuple, MP.ib_set_list, MP.ib_set_dict, MP.ib_set_set, Bool.not_true, Bool.not_false, List.any_cons, List.any_nil, Bool.or_false, Bool.or_true, Bool.true_or, Bool.false_or, Bool.and_true, Bool.true_and, Bool.and_false, Bool.false_and, if_true, if_false, ite_true, ite_false, and_true, true_and, Bool.false_eq_true, List.getElem?_cons_zero, List.getElem?_cons_succ, List.set_cons_zero, List.set_cons_succ, List.length_cons, List.length_nil, List.cons_append, List.nil_append]
      exact ⟨mulOk_r (by decide), p33, by decide, nn _ _ ⟨rfl, _, _, rfl⟩⟩
  refine seq_asg ?_
  simp only [MP.pSeq, MP.pIfS, MP.pRet, MP.pRetN, MP.pNext, MP.pAsg, MP.pDrop, MP.pBrk, MP.pCt, MP.pVar, MP.pC, MP.pOp, MP.pUn, MP.pNil, MP.pCons, MP.pCB, MP.pCall, MP.pTup, MP.pTmp, MP.pNew, MP.pCT, MP.pIf, MP.pB, MP.pT, MP.pAnd, MP.pOr, MP.pNot, MP.pAndV, MP.pOrV, MP.pNotV, MP.pChain, MP.pG, MP.pGs, MP.pIxT, MP.pSlice, MP.pPart, MP.pNoPart, MP.pMtT, MP.pJoinT, MP.pAsgS, MP.pAug, MP.body, MP.gd, MP.e_add_ii, MP.e_add_ss, MP.e_add_tt, MP.e_add_rr, MP.e_sub, MP.e_mul_ii, MP.e_mul_si, MP.e_mul_ri, MP.e_iadd_ii, MP.e_iadd_ss, MP.e_pow, MP.e_fdiv, MP.e_mod, MP.e_neg, MP.e_lt, MP.e_le, MP.e_gt, MP.e_ge, MP.e_eq_ii, MP.e_ne_ii, MP.e_eq_ss, MP.e_ne_ss, MP.e_eq_bb, MP.e_ne_bb, MP.e_isN, MP.e_notN, MP.e_ix_s, MP.e_ix_t, MP.e_ix_f, MP.e_ix_r, MP.e_ixT, MP.e_set, MP.e_len_s, MP.e_len_t, MP.e_len_f, MP.e_len_r, MP.e_lenT, MP.e_int_i, MP.e_int_b, MP.e_abs, MP.e_max, MP.e_min, MP.e_tupI, MP.e_lstI, MP.e_allI, MP.e_anyI, MP.e_onI_t, MP.e_onI_f, MP.e_onI_r, MP.e_onL_r, MP.e_isi_n, MP.e_isi_b, MP.e_isi_i, MP.e_isi_s, MP.e_isi_t, MP.e_isi_f, MP.e_isiT_n, MP.e_isiT_b, MP.e_isiT_i, MP.e_isiT_s, MP.e_isiT_t, MP.e_isiT_f, MP.e_app, MP.e_split, MP.e_joinI, MP.e_join_r, MP.e_cut_s, MP.e_cut_t, MP.e_cut_f, MP.e_cut_r, MP.tr_b, MP.tr_i, MP.tr_s, MP.tr_n, MP.tr_t, MP.tr_r, MP.x_n, MP.x_b, MP.x_i, MP.x_s, MP.x_t, MP.x_f, MP.x_r, MP.atI_0, MP.atI_1, MP.atI_2, MP.atI_3, MP.atI_m1, MP.ixN_c0, MP.ixN_c1, MP.ixN_c2, MP.e_in_ss, MP.ib_NoneType_bool, MP.ib_NoneType_int, MP.ib_NoneType_str, MP.ib_NoneType_tuple, MP.ib_NoneType_list, MP.ib_NoneType_dict, MP.ib_NoneType_set, MP.ib_bool_bool, MP.ib_bool_int, MP.ib_bool_str, MP.ib_bool_tuple, MP.ib_bool_list, MP.ib_bool_dict, MP.ib_bool_set, MP.ib_int_bool, MP.ib_int_int, MP.ib_int_str, MP.ib_int_tuple, MP.ib_int_list, MP.ib_int_dict, MP.ib_int_set, MP.ib_str_bool, MP.ib_str_int, MP.ib_str_str, MP.ib_str_tuple, MP.ib_str_list, MP.ib_str_dict, MP.ib_str_set, MP.ib_tuple_bool, MP.ib_tuple_int, MP.ib_tuple_str, MP.ib_tuple_tuple, MP.ib_tuple_list, MP.ib_tuple_dict, MP.ib_tuple_set, MP.ib_list_bool, MP.ib_list_int, MP.ib_list_str, MP.ib_list_tuple, MP.ib_list_list, MP.ib_list_dict, MP.ib_list_set, MP.ib_dict_bool, MP.ib_dict_int, MP.ib_dict_str, MP.ib_dict_tuple, MP.ib_dict_list, MP.ib_dict_dict, MP.ib_dict_set, MP.ib_set_bool, MP.ib_set_int, MP.ib_set_str, MP.ib_set_tuple, MP.ib_set_list, MP.ib_set_dict, MP.ib_set_set, Bool.not_true, Bool.not_false, List.any_cons, List.any_nil, Bool.or_false, Bool.or_true, Bool.true_or, Bool.false_or, Bool.and_true, Bool.true_and, Bool.and_false, Bool.false_and, if_true, if_false, ite_true, ite_false, and_true, true_and, Bool.false_eq_true, List.getElem?_cons_zero, List.getElem?_cons_succ, List.set_cons_zero, List.set_cons_succ, List.length_cons, List.length_nil, List.cons_append, List.nil_append]
  refine ⟨mulOk_l (by decide), ?_⟩
  by_cases c : k < ns.length
  · rw [if_pos (decide_eq_true (by rw [List.length_map]; omega)), atI_nat, List.getElem?_map, List.getElem?_eq_getElem c]
    exact main _
  · rw [if_neg (by rw [List.length_map]; simp; omega)]
    exact main _


/-! ### the law's parts -/
def sp_part (m : Nat) : PSp := fun vs h Q _ => ∃ p n, vs = [.ref p] ∧ Pot h p (n + m) ∧ ∀ h', Pot h' p n → Ev p h h' → Q (.bl true) h'
theorem Rd8.rd {p : Nat} {v : PV} {h : PHeap} (r : Rd8 p v h) : ∃ d, MP.rd h 8 v = some d := by
  obtain ⟨d, e⟩ := r
  exact ⟨d, rd_hid e⟩
theorem rd_bl {h : PHeap} {b : Bool} {f : Nat} : rd h f (.bl b) = some (.bool b) := by cases f <;> rfl
theorem rd8_str {p : Nat} {h : PHeap} {s : Str} : Rd8 p (.str s) h := ⟨.str s, rfl⟩
theorem rng_len (lo : Int) (n : Nat) : (rngOf lo n).length = n := by unfold rngOf; simp
theorem pure__law_labels_right (vs : List PV) (h : PHeap) (Q : PQ) (Ex : PXQ) (_ : vs.length = 1) (hh : sp_part 400 vs h Q Ex) : t__law_labels_right sp_any sp_draw sp_odd (sp_same 18) sp_is_label sp_is_label (body Q Ex) (pstart 3 vs) h := by
  obtain ⟨p, n, rfl, P, k⟩ := hh
  show t__law_labels_right sp_any sp_draw sp_odd (sp_same 18) sp_is_label sp_is_label (body Q Ex) [some (.ref p), none, none] h
  unfold t__law_labels_right
  refine seq_for (pRng1_of (n := 5) (fun Q q => q) (by decide) ?_)
  refine forGo_inv (fun j τ h' => ∃ a b, τ = [some (.ref p), a, b] ∧ j ≤ 5 ∧ Pot h' p (n + 80 * (5 - j)) ∧ Ev p h h') _ (fun _ _ _ _ => trivial) (fun τ h' z => ?_) (fun j x τ h' N ej z nn => ?_) _ _ ⟨none, none, rfl, by decide, P, .refl⟩
  · obtain ⟨a, b, rfl, hj, P1, E1⟩ := z
    rw [rng_len] at P1
    exact k _ P1 E1
  · obtain ⟨a, b, rfl, hj, P1, E1⟩ := z
    have hj : j < 5 := by
      have := (List.getElem?_eq_some_iff.mp ej).1
      rwa [rng_len] at this
    refine ⟨_, rfl, ?_⟩
    have after : ∀ (v : PV) (h2 : PHeap) (a : Option PV), Rd8 p v h2 → Pot h2 p (n + 80 * (5 - (j + 1))) → Ev p h h2 → 
        pSeq (pIfS (pNot (pT (pCall (gd 2 (sp_same 18)) (pCons (pCall (gd 1 sp_is_label) (pCons (pVar 2) (pNil))) (pCons (pCall (gd 1 sp_is_label) (pCons (pVar 2) (pNil))) (pNil)))))) (pRet (pC (.bl false))) (pNext)) (pIfS (pNot (pT (pCall (gd 2 (sp_same 18)) (pCons (pCallK (gd 1 sp_is_label) 0 1 [0] pNil (pCons (pVar 2) (pNil))) (pCons (pCall (gd 1 sp_is_label) (pCons (pVar 2) (pNil))) (pNil)))))) (pRet (pC (.bl false))) (pNext)) { (body Q Ex) with nx := N, ct := N, bk := (body Q Ex).nx } [some (.ref p), a, some v] h2 := by
      intro v h2 a rv P2 E2
      obtain ⟨d, r⟩ := rv.rd
      have hx := rd_notExc r
      have ht := rd_ty r
      refine ⟨hx, rfl, v, rfl, ht, hx, rfl, v, rfl, ht, rfl, _, _, .bool (isLab v), rfl, rd_bl, rd_bl, ?_⟩
      refine ⟨hx, rfl, rfl, rfl, v, rfl, ht, hx, rfl, v, rfl, ht, rfl, _, _, .bool (isLab v), rfl, rd_bl, rd_bl, ?_⟩
      exact nn _ _ ⟨_, _, rfl, hj, P2, E2⟩
    have ew : n + 80 * (5 - j) = n + 80 * (5 - (j + 1)) + 19 + 1 + 60 := by omega
    rw [ew] at P1
    refine seq_asg ⟨rfl, rfl, p, _, rfl, P1, fun s h2 ls P2 E2 => ?_⟩
    refine seq_if ⟨rfl, rfl, p, 5, _, rfl, by decide, by decide, P2, fun r h3 r0 r1 P3 E3 l3 => ?_⟩
    have E3 := (E1.trans E2).trans E3
    simp only [e_eq_ii, pC]
    by_cases c : r = 4
    · rw [if_pos (decide_eq_true c)]
      exact ⟨rfl, rfl, p, _, rfl, P3.le (by omega), fun v h4 rv _ P4 E4 => after v h4 _ rv (P4.le (Nat.le_refl _)) (E3.trans E4)⟩
    · rw [if_neg (by simpa using c)]
      exact after (.str s) h3 _ rd8_str (P3.le (by omega)) E3


def sp_shown : PSp := fun vs h Q _ => ∃ v, vs = [v] ∧ Rb h v ∧ (∀ ss : List Str, isNam v = true → v = .tup (ss.map .str) → Q (.tup [.str "text", .str (shown ss)]) h) ∧ (isNam v = false → ∃ d, rd h 16 v = some d ∧ ∀ v' t, rd (h ++ t) 16 v' = some d → Anew h v v' (h ++ t) → Q (.tup [.str "refused", v']) (h ++ t))
theorem size2 : 2 ≤ sizeLine := by rw [sizeLine_eq]; decide
theorem pure__law_shown (vs : List PV) (h : PHeap) (Q : PQ) (Ex : PXQ) (_ : vs.length = 1) (hh : sp_shown vs h Q Ex) : t__law_shown sp_show_name (body Q Ex) (pstart 3 vs) h := by
  obtain ⟨v, rfl, hr, k1, k2⟩ := hh
  have hx := hr.nx
  show t__law_shown sp_show_name (body Q Ex) [some v, none, none] h
  unfold t__law_shown
  refine seq_asg ⟨hx, rfl, v, rfl, hr, fun ss e es => ?_, fun e => ?_⟩
  · exact ⟨size2, rfl, k1 ss e es⟩
  · obtain ⟨d, r, q⟩ := k2 e
    refine ⟨d, r, fun v' t r' a => ⟨by decide, ?_⟩⟩
    unfold exAs
    rw [if_pos (by decide)]
    exact ⟨by decide, size2, rfl, q v' t r' a⟩
def sp_kept : PSp := fun vs h Q _ => ∃ n0 xs d, vs = [.ref n0, .tup [.str "refused", .ref n0]] ∧ h[n0]? = some (.lst xs) ∧ rd h 16 (.ref n0) = some d ∧ isNam (.ref n0) = false ∧ ∀ t, Q (.bl true) (h ++ t)
theorem set_app {h t : PHeap} {n : Nat} {c : Cell} (l : h.length ≤ n) : (h ++ t).set n c = h ++ t.set (n - h.length) c := by
  rw [List.set_append_right _ _ l]
theorem pure__law_kept_apart (vs : List PV) (h : PHeap) (Q : PQ) (Ex : PXQ) (_ : vs.length = 2) (hh : sp_kept vs h Q Ex) : t__law_kept_apart sp_shown (body Q Ex) (pstart 5 vs) h := by
  obtain ⟨n0, xs, d, rfl, en, r, hn, k⟩ := hh
  show t__law_kept_apart sp_shown (body Q Ex) [some (.ref n0), some (.tup [.str "refused", .ref n0]), none, none, none] h
  unfold t__law_kept_apart
  obtain ⟨xs', ds, en', rfl, lx, ea⟩ := rd_ref r
  rw [en] at en'
  cases en'
  refine seq_asg ⟨rfl, ?_⟩
  show onItems MP.rLstI [.ref n0] h _
  rw [e_onI_r, en]
  have r1 : rd (h ++ [Cell.lst xs]) 16 (.ref n0) = some (.list ds) := rd_app _ r
  have rc : rd (h ++ [Cell.lst xs]) 16 (.ref h.length) = some (.list ds) := rd_ref_of (by rw [List.getElem?_concat_length]) (by omega) (allD_mono (fun x d z => rd_app _ z) ea)
  refine seq_asg ⟨rfl, rfl, .ref n0, rfl, ⟨_, r1⟩, fun ss e es => (by cases es), fun _ => ⟨_, r1, fun v' t r' a => ?_⟩⟩
  obtain ⟨n, rfl, ln⟩ := a n0 rfl
  obtain ⟨ys, ds', en2, e2, ly, ea2⟩ := rd_ref r'
  cases e2
  refine seq_asg ⟨rfl, ?_⟩
  have hl : ys.length < sizeLine := by
    rw [sizeLine_eq]
    have := allD_len ea
    have := allD_len ea2
    omega
  refine ⟨rfl, ?_, ?_⟩
  · show tyOf _ (.ref n) = _
    rw [ty_r, en2]
  simp only [MP.pCons, MP.pC, MP.pNil]
  rw [e_app, en2]
  refine ⟨hl, ?_⟩
  rw [set_app ln]
  generalize t.set (n - (h ++ [Cell.lst xs]).length) (.lst (ys ++ [.str "z"])) = t2
  have r3 : rd (h ++ [Cell.lst xs] ++ t2) 16 (.ref n0) = some (.list ds) := rd_app _ r1
  have rc3 : rd (h ++ [Cell.lst xs] ++ t2) 16 (.ref h.length) = some (.list ds) := rd_app _ rc
  refine ⟨rfl, rfl, ?_⟩
  show rEqP (.ref n0) (.ref h.length) (h ++ [Cell.lst xs] ++ t2) _
  rw [e_eq_rd (by decide) (by decide) r3 rc3]
  refine ⟨rfl, rfl, .ref n0, rfl, ⟨_, r3⟩, fun ss e es => (by cases es), fun _ => ⟨_, r3, fun v' t3 r4 a => ⟨rfl, ?_⟩⟩⟩
  show rEqP (.tup [.str "refused", v']) (.tup [.str "refused", .ref n0]) (h ++ [Cell.lst xs] ++ t2 ++ t3) _
  rw [e_eq_rd (by decide) (by decide) (rd_pair rd_str' r4) (rd_pair rd_str' (rd_app t3 r3))]
  rw [List.append_assoc, List.append_assoc]
  exact k _


def sp_read : PSp := fun vs h Q _ => ∃ s, vs = [.str s] ∧ s.length ≤ 10000 ∧ ∀ (t : PHeap) (q : Nat), h.length ≤ q → (h ++ t)[q]? = some (.lst ((readN s).elim [] fun ss => [.tup (ss.map .str)])) → Q (.ref q) (h ++ t)
theorem cut_len1 (s : Str) (l : 1 ≤ s.length) : L2.cutS s none (some ((s.length : Int) - 1)) = L2.cutS s none (some (-1)) := by
  refine ext_tl ?_
  rw [tl_cutS, tl_cutS, cut_to_m1, show ((s.length : Int) - 1) = ((s.length - 1 : Nat) : Int) by omega, cut_to, len_tl]
theorem pure__law_read (vs : List PV) (h : PHeap) (Q : PQ) (Ex : PXQ) (_ : vs.length = 1) (hh : sp_read vs h Q Ex) : t__law_read sp_is_name (body Q Ex) (pstart 2 vs) h := by
  obtain ⟨s, rfl, l, k⟩ := hh
  show t__law_read sp_is_name (body Q Ex) [some (.str s), none] h
  unfold t__law_read
  simp only [MP.pSeq, MP.pIfS, MP.pRet, MP.pRetN, MP.pNext, MP.pAsg, MP.pDrop, MP.pBrk, MP.pCt, MP.pVar, MP.pC, MP.pOp, MP.pUn, MP.pNil, MP.pCons, MP.pCB, MP.pCall, MP.pTup, MP.pTmp, MP.pNew, MP.pCT, MP.pIf, MP.pB, MP.pT, MP.pAnd, MP.pOr, MP.pNot, MP.pAndV, MP.pOrV, MP.pNotV, MP.pChain, MP.pG, MP.pGs, MP.pIxT, MP.pSlice, MP.pPart, MP.pNoPart, MP.pMtT, MP.pJoinT, MP.pAsgS, MP.pAug, MP.body, MP.gd, MP.e_add_ii, MP.e_add_ss, MP.e_add_tt, MP.e_add_rr, MP.e_sub, MP.e_mul_ii, MP.e_mul_si, MP.e_mul_ri, MP.e_iadd_ii, MP.e_iadd_ss, MP.e_pow, MP.e_fdiv, MP.e_mod, MP.e_neg, MP.e_lt, MP.e_le, MP.e_gt, MP.e_ge, MP.e_eq_ii, MP.e_ne_ii, MP.e_eq_ss, MP.e_ne_ss, MP.e_eq_bb, MP.e_ne_bb, MP.e_isN, MP.e_notN, MP.e_ix_s, MP.e_ix_t, MP.e_ix_f, MP.e_ix_r, MP.e_ixT, MP.e_set, MP.e_len_s, MP.e_len_t, MP.e_len_f, MP.e_len_r, MP.e_lenT, MP.e_int_i, MP.e_int_b, MP.e_abs, MP.e_max, MP.e_min, MP.e_tupI, MP.e_lstI, MP.e_allI, MP.e_anyI, MP.e_onI_t, MP.e_onI_f, MP.e_onI_r, MP.e_onL_r, MP.e_isi_n, MP.e_isi_b, MP.e_isi_i, MP.e_isi_s, MP.e_isi_t, MP.e_isi_f, MP.e_isiT_n, MP.e_isiT_b, MP.e_isiT_i, MP.e_isiT_s, MP.e_isiT_t, MP.e_isiT_f, MP.e_app, MP.e_split, MP.e_joinI, MP.e_join_r, MP.e_cut_s, MP.e_cut_t, MP.e_cut_f, MP.e_cut_r, MP.tr_b, MP.tr_i, MP.tr_s, MP.tr_n, MP.tr_t, MP.tr_r, MP.x_n, MP.x_b, MP.x_i, MP.x_s, MP.x_t, MP.x_f, MP.x_r, MP.atI_0, MP.atI_1, MP.atI_2, MP.atI_3, MP.atI_m1, MP.ixN_c0, MP.ixN_c1, MP.ixN_c2, MP.e_in_ss, MP.ib_NoneType_bool, MP.ib_NoneType_int, MP.ib_NoneType_str, MP.ib_NoneType_tuple, MP.ib_NoneType_list, MP.ib_NoneType_dict, MP.ib_NoneType_set, MP.ib_bool_bool, MP.ib_bool_int, MP.ib_bool_str, MP.ib_bool_tuple, MP.ib_bool_list, MP.ib_bool_dict, MP.ib_bool_set, MP.ib_int_bool, MP.ib_int_int, MP.ib_int_str, MP.ib_int_tuple, MP.ib_int_list, MP.ib_int_dict, MP.ib_int_set, MP.ib_str_bool, MP.ib_str_int, MP.ib_str_str, MP.ib_str_tuple, MP.ib_str_list, MP.ib_str_dict, MP.ib_str_set, MP.ib_tuple_bool, MP.ib_tuple_int, MP.ib_tuple_str, MP.ib_tuple_tuple, MP.ib_tuple_list, MP.ib_tuple_dict, MP.ib_tuple_set, MP.ib_list_bool, MP.ib_list_int, MP.ib_list_str, MP.ib_list_tuple, MP.ib_list_list, MP.ib_list_dict, MP.ib_list_set, MP.ib_dict_bool, MP.ib_dict_int, MP.ib_dict_str, MP.ib_dict_tuple, MP.ib_dict_list, MP.ib_dict_dict, MP.ib_dict_set, MP.ib_set_bool, MP.ib_set_int, MP.ib_set_str, MP.ib_set_tuple, MP.ib_set_list, MP.ib_set_dict, MP.ib_set_set, Bool.not_true, Bool.not_false, List.any_cons, List.any_nil, Bool.or_false, Bool.or_true, Bool.true_or, Bool.false_or, Bool.and_true, Bool.true_and, Bool.and_false, Bool.false_and, if_true, if_false, ite_true, ite_false, and_true, true_and, Bool.false_eq_true, List.getElem?_cons_zero, List.getElem?_cons_succ, List.set_cons_zero, List.set_cons_succ, List.length_cons, List.length_nil, List.cons_append, List.nil_append]
  unfold readN at k
  by_cases h1 : s = "."
  · rw [if_pos (by simpa using h1)]
    refine ⟨by rw [sizeLine_eq]; decide, by rw [sizeLine_eq]; decide, k _ _ (Nat.le_refl _) ?_⟩
    rw [List.getElem?_concat_length, if_pos h1]
    rfl
  · rw [if_neg (by simpa using h1)]
    rw [if_neg h1] at k
    cases e0 : (s == Str.ofString "") with
    | true =>
      have e1 : s = "" := by simpa using e0
      rw [if_pos rfl]
      refine ⟨by rw [sizeLine_eq]; decide, k _ _ (Nat.le_refl _) ?_⟩
      rw [List.getElem?_concat_length, e1]
      rfl
    | false =>
      rw [if_neg (by decide)]
      have hl : 1 ≤ s.length := by
        rw [len_tl]
        cases e : tl s with
        | nil =>
          have : s = "" := ext_tl e
          rw [this] at e0
          revert e0
          decide
        | cons c r => simp
      obtain ⟨z, ez⟩ : ∃ z, (tl s).getLast? = some z := by
        cases e : tl s with
        | nil => rw [len_tl, e] at hl; cases hl
        | cons c r => exact ⟨_, List.getLast?_cons⟩
      have ea : L2.atI s.cps.toList ((s.length : Int) - 1) = some z := by
        rw [atI_pos (by omega), ← ez, List.getLast?_eq_getElem?, show ((s.length : Int) - 1).toNat = s.length - 1 by omega, len_tl]
      rw [ea, cut_len1 s hl]
      dsimp only
      rw [show ((⟨#[z]⟩ : Str) == Str.ofString ".") = (z == 46) from one_eq z 46]
      rw [ez, Option.some_beq_some] at k
      have lc := len_cutS s none (some (-1))
      have ls := split_len (a := L2.cutS s none (some (-1))) dot1 dot2
      cases h2 : (z == 46) with
      | false =>
        rw [h2, if_neg (by decide)] at k
        refine ⟨by rw [sizeLine_eq]; decide, k _ _ (Nat.le_refl _) ?_⟩
        rw [List.getElem?_concat_length]
        rfl
      | true =>
        rw [h2, if_pos rfl] at k
        refine ⟨rfl, dot1, dot2, by rw [sizeLine_eq]; omega, ?_⟩
        rw [List.getElem?_concat_length]
        refine ⟨_, rfl, ⟨_, rd_strs (by omega)⟩, ?_⟩
        cases h3 : isNam (.tup ((Txt.split (L2.cutS s none (some (-1))) ".").map .str)) with
        | true =>
          rw [if_pos h3] at k
          refine ⟨size1, ?_⟩
          rw [List.append_assoc]
          refine k _ _ (by rw [List.length_append]; omega) ?_
          rw [← List.append_assoc, List.getElem?_concat_length]
          rfl
        | false =>
          rw [if_neg (by rw [h3]; decide)] at k
          refine ⟨by rw [sizeLine_eq]; decide, ?_⟩
          rw [List.append_assoc]
          refine k _ _ (by rw [List.length_append]; omega) ?_
          rw [← List.append_assoc, List.getElem?_concat_length]
          rfl
def toldV (s : Str) : PV := (readN s).elim (.tup [.str "refused", .str s]) fun ss => .tup [.str "name", .tup (ss.map .str)]
def sp_told : PSp := fun vs h Q _ => ∃ s, vs = [.str s] ∧ s.length ≤ 10000 ∧ ∀ t, Q (toldV s) (h ++ t)
theorem pure__law_told (vs : List PV) (h : PHeap) (Q : PQ) (Ex : PXQ) (_ : vs.length = 1) (hh : sp_told vs h Q Ex) : t__law_told sp_name_of (body Q Ex) (pstart 3 vs) h := by
  obtain ⟨s, rfl, l, k⟩ := hh
  unfold toldV at k
  show t__law_told sp_name_of (body Q Ex) [some (.str s), none, none] h
  unfold t__law_told
  refine seq_asg ⟨rfl, rfl, s, rfl, l, fun ss t e => ?_, fun t e => ⟨by decide, ?_⟩⟩
  · rw [e] at k
    exact ⟨size2, rfl, k t⟩
  · rw [e] at k
    unfold exAs
    rw [if_pos (by decide)]
    exact ⟨by decide, size2, rfl, k t⟩
def sp_base : PSp := fun vs h Q _ => ∃ s, vs = [.str s] ∧ s.length ≤ 10000 ∧ readN s = none ∧ ∀ t, Q (.bl true) (h ++ t)
theorem pure__law_is_base (vs : List PV) (h : PHeap) (Q : PQ) (Ex : PXQ) (_ : vs.length = 1) (hh : sp_base vs h Q Ex) : t__law_is_base sp_name_of (body Q Ex) (pstart 3 vs) h := by
  obtain ⟨s, rfl, l, hn, k⟩ := hh
  show t__law_is_base sp_name_of (body Q Ex) [some (.str s), none, none] h
  unfold t__law_is_base
  refine seq_asg ⟨rfl, rfl, s, rfl, l, fun ss t e => ?_, fun t e => ⟨by decide, ?_⟩⟩
  · rw [hn] at e
    cases e
  · unfold exAs
    rw [if_pos (by decide)]
    have c1 : catches "Unreadable" "Unreadable" = true := by decide
    have c2 : catches "Unreadable" "InvalidName" = false := by decide
    refine ⟨by decide, ?_⟩
    dsimp only
    rw [if_pos rfl]
    refine ⟨by decide, ?_⟩
    dsimp only
    rw [if_pos c1]
    refine ⟨by decide, ?_⟩
    dsimp only
    rw [c2]
    exact ⟨rfl, k t⟩
end L_k01
set_option maxHeartbeats 4000000
namespace L_k01
open PySem MP TL
def nr0 : PTS := pAsg (pCall (gd 1 sp_some) (pCons (pVar 0) (pNil))) (.nm 2)
def nr1 : PTS := pAsg (pCB (onItems MP.rTupI) (pCons (pVar 2) (pNil))) (.nm 3)
def nr2 : PTS := pIfS (pB (pOp rEqP (pCall (gd 2 sp_draw) (pCons (pVar 0) (pCons (pC (.int 5)) (pNil)))) (pC (.int 4)))) (pAsg (pIxT MP.rIxT (pTmp (pCons (pCB (onItems MP.rLstI) (pCons (pVar 2) (pNil))) (pCons (pCall (gd 1 sp_odd) (pCons (pVar 0) (pNil))) (pNil)))) (pCall (gd 2 sp_draw) (pCons (pVar 0) (pCons (pC (.int 2)) (pNil))))) (.nm 3)) (pNext)
def nr3 : PTS := pAsg (pCall (gd 1 sp_is_name) (pCons (pVar 3) (pNil))) (.nm 4)
def nr4 : PTS := pIfS (pNot (pT (pCall (gd 2 (sp_same 18)) (pCons (pCall (gd 1 sp_is_name) (pCons (pVar 3) (pNil))) (pCons (pVar 4) (pNil)))))) (pRet (pC (.bl false))) (pNext)
def nr5 : PTS := pIfS (pNot (pT (pCall (gd 2 (sp_same 18)) (pCons (pCall (gd 1 sp_is_asked) (pCons (pVar 3) (pNil))) (pCons (pAndV (pVar 4) (pOp rNeP (pSlice (pVar 3) (pNoPart) (pPart (pC (.int 1)))) (pTup (pCons (pC (.str "*")) (pNil))))) (pNil)))))) (pRet (pC (.bl false))) (pNext)
def nr6 : PTS := pIfS (pB (pOp rNeP (pNew (pTmp (pCons (pCallK (gd 1 sp_is_name) 0 1 [0] pNil (pCons (pVar 3) (pNil))) (pCons (pCallK (gd 1 sp_is_asked) 0 1 [0] pNil (pCons (pVar 3) (pNil))) (pNil))))) (pNew (pTmp (pCons (pVar 4) (pCons (pAndV (pVar 4) (pOp rNeP (pSlice (pVar 3) (pNoPart) (pPart (pC (.int 1)))) (pTup (pCons (pC (.str "*")) (pNil))))) (pNil))))))) (pRet (pC (.bl false))) (pNext)
def nr7 : PTS := pAsg (pTup (pCons (pC (.str "refused")) (pCons (pVar 3) (pNil)))) (.nm 5)
def nr8 : PTS := pIfS (pT (pVar 4)) (pSeq (pAsg (pTup (pCons (pC (.str "text")) (pCons (pJoinT (pC (.str "")) (pLc (pIter (pVar 2)) (.nm 6) (pYes) (pOp MP.rAdd (pVar 6) (pC (.str "."))) [6])) (pNil)))) (.nm 5)) (pIfS (pB (pOp rEqP (pVar 2) (pNew (pTmp (pNil))))) (pAsg (pTup (pCons (pC (.str "text")) (pCons (pC (.str ".")) (pNil)))) (.nm 5)) (pNext))) (pNext)
def nr9 : PTS := pIfS (pAnd (pT (pUn (MP.rIsiT ["tuple", "list"]) (pVar 3))) (pNot (pT (pCall (gd 2 (sp_same 18)) (pCons (pCall (gd 1 sp_shown) (pCons (pVar 3) (pNil))) (pCons (pVar 5) (pNil))))))) (pRet (pC (.bl false))) (pNext)
def nr10 : PTS := pIfS (pB (pOp rNeP (pCall (gd 1 sp_shown) (pCons (pVar 3) (pNil))) (pVar 5))) (pRet (pC (.bl false))) (pNext)
def nr11 : PTS := pIfS (pAnd (pNot (pT (pVar 4))) (pAnd (pT (pUn (MP.rIsi "list") (pVar 3))) (pNot (pT (pCall (gd 2 sp_kept) (pCons (pVar 3) (pCons (pVar 5) (pNil)))))))) (pRet (pC (.bl false))) (pNext)
def nr12 : PTS := pIfS (pAnd (pT (pVar 4)) (pOr (pNot (pT (pCall (gd 2 (sp_same 18)) (pCons (pCall (gd 1 sp_name_of) (pCons (pOp MP.rIx (pVar 5) (pC (.int 1))) (pNil))) (pCons (pVar 3) (pNil)))))) (pB (pOp rNeP (pCallK (gd 1 sp_show_name) 0 1 [0] pNil (pCons (pVar 3) (pNil))) (pOp MP.rIx (pVar 5) (pC (.int 1))))))) (pRet (pC (.bl false))) (pNext)
def nr13 : PTS := pIfS (pAnd (pT (pVar 4)) (pNot (pT (pCall (gd 2 (sp_same 18)) (pCons (pCallK (gd 1 sp_name_of) 0 1 [0] pNil (pCons (pOp MP.rIx (pVar 5) (pC (.int 1))) (pNil))) (pCons (pVar 3) (pNil))))))) (pRet (pC (.bl false))) (pNext)
def nrB : PTS := pSeq nr9 (pSeq nr10 (pSeq nr11 (pSeq nr12 (nr13))))
def nrA : PTS := pSeq nr3 (pSeq nr4 (pSeq nr5 (pSeq nr6 (pSeq nr7 (pSeq nr8 (nrB))))))
theorem nr_eq : t__law_names_right sp_some sp_is_name sp_draw (sp_same 18) sp_shown sp_is_name sp_is_asked sp_kept sp_odd sp_show_name sp_name_of = pSeq (pFor (pRng1 (pC (.int 5))) (.nm 1) (pSeq nr0 (pSeq nr1 (pSeq nr2 nrA)))) (pRet (pC (.bl true))) := rfl

theorem shown_len {ss : List Str} {b : Nat} (m : ∀ s ∈ ss, s.length ≤ b) : (shown ss).length ≤ ss.length * (b + 1) + 1 := by
  unfold shown
  by_cases e : ss = []
  · rw [if_pos e]
    show 1 ≤ _
    omega
  · rw [if_neg e]
    have := (joined_len (ys := ss.map (· ++ ("." : Str))) (b := b + 1) fun y hy => by
      obtain ⟨s, hs, rfl⟩ := List.mem_map.mp hy
      rw [len_app]
      have := m s hs
      show s.length + 1 ≤ b + 1
      omega).1
    rw [List.length_map] at this
    omega
theorem tup_inj {ss ss' : List Str} (e : PV.tup (ss.map .str) = .tup (ss'.map .str)) : ss' = ss := ((List.map_inj_right (fun _ _ z => PV.str.inj z)).mp (PV.tup.inj e)).symm
/-- the last tests, v good -/
theorem nrB_good {D : PD} {h : PHeap} {a0 a1 a2 a6 : Option PV} {ss : List Str} (l : ss.length ≤ 12) (m : ∀ s ∈ ss, s.length ≤ 50) (e : isNam (.tup (ss.map .str)) = true)
    (k : ∀ t : PHeap, D.nx [a0, a1, a2, some (.tup (ss.map .str)), some (.bl true), some (.tup [.str "text", .str (shown ss)]), a6] (h ++ t)) :
    nrB D [a0, a1, a2, some (.tup (ss.map .str)), some (.bl true), some (.tup [.str "text", .str (shown ss)]), a6] h := by
  have lx : (ss.map PV.str).length ≤ 100000 := by rw [List.length_map]; omega
  have rb : ∀ h : PHeap, Rb h (.tup (ss.map .str)) := fun h => ⟨_, rd_strs (by omega)⟩
  have rp : ∀ (h : PHeap) (f : Nat), rd h (f + 2) (.tup [.str "text", .str (shown ss)]) = some (.tuple [.str "text", .str (shown ss)]) := fun h f => rd_pair rd_str' rd_str'
  have rv : ∀ (h : PHeap), rd h 17 (.tup (ss.map .str)) = some (.tuple (ss.map .str)) := fun h => rd_strs (by omega)
  have ls : (shown ss).length ≤ 10000 := by
    have := shown_len m
    have : ss.length * (50 + 1) ≤ 12 * 51 := Nat.mul_le_mul_right _ l
    omega
  have hr := shown_read e
  have nb : isNam (.tup (ss.map .str)) = false → False := fun z => by rw [e] at z; cases z
  have rd_ : ∀ {ss'}, readN (shown ss) = some ss' → ss' = ss := fun z => by rw [hr] at z; cases z; rfl
  unfold nrB
  refine seq_if ?_
  simp only [MP.pSeq, MP.pIfS, MP.pRet, MP.pRetN, MP.pNext, MP.pAsg, MP.pDrop, MP.pBrk, MP.pCt, MP.pVar, MP.pC, MP.pOp, MP.pUn, MP.pNil, MP.pCons, MP.pCB, MP.pCall, MP.pTup, MP.pTmp, MP.pNew, MP.pCT, MP.pIf, MP.pB, MP.pT, MP.pAnd, MP.pOr, MP.pNot, MP.pAndV, MP.pOrV, MP.pNotV, MP.pChain, MP.pG, MP.pGs, MP.pIxT, MP.pSlice, MP.pPart, MP.pNoPart, MP.pMtT, MP.pJoinT, MP.pAsgS, MP.pAug, MP.body, MP.gd, MP.e_add_ii, MP.e_add_ss, MP.e_add_tt, MP.e_add_rr, MP.e_sub, MP.e_mul_ii, MP.e_mul_si, MP.e_mul_ri, MP.e_iadd_ii, MP.e_iadd_ss, MP.e_pow, MP.e_fdiv, MP.e_mod, MP.e_neg, MP.e_lt, MP.e_le, MP.e_gt, MP.e_ge, MP.e_eq_ii, MP.e_ne_ii, MP.e_eq_ss, MP.e_ne_ss, MP.e_eq_bb, MP.e_ne_bb, MP.e_isN, MP.e_notN, MP.e_ix_s, MP.e_ix_t, MP.e_ix_f, MP.e_ix_r, MP.e_ixT, MP.e_set, MP.e_len_s, MP.e_len_t, MP.e_len_f, MP.e_len_r, MP.e_lenT, MP.e_int_i, MP.e_int_b, MP.e_abs, MP.e_max, MP.e_min, MP.e_tupI, MP.e_lstI, MP.e_allI, MP.e_anyI, MP.e_onI_t, MP.e_onI_f, MP.e_onI_r, MP.e_onL_r, MP.e_isi_n, MP.e_isi_b, MP.e_isi_i, MP.e_isi_s, MP.e_isi_t, MP.e_isi_f, MP.e_isiT_n, MP.e_isiT_b, MP.e_isiT_i, MP.e_isiT_s, MP.e_isiT_t, MP.e_isiT_f, MP.e_app, MP.e_split, MP.e_joinI, MP.e_join_r, MP.e_cut_s, MP.e_cut_t, MP.e_cut_f, MP.e_cut_r, MP.tr_b, MP.tr_i, MP.tr_s, MP.tr_n, MP.tr_t, MP.tr_r, MP.x_n, MP.x_b, MP.x_i, MP.x_s, MP.x_t, MP.x_f, MP.x_r, MP.atI_0, MP.atI_1, MP.atI_2, MP.atI_3, MP.atI_m1, MP.ixN_c0, MP.ixN_c1, MP.ixN_c2, MP.e_in_ss, MP.ib_NoneType_bool, MP.ib_NoneType_int, MP.ib_NoneType_str, MP.ib_NoneType_tuple, MP.ib_NoneType_list, MP.ib_NoneType_dict, MP.ib_NoneType_set, MP.ib_bool_bool, MP.ib_bool_int, MP.ib_bool_str, MP.ib_bool_tuple, MP.ib_bool_list, MP.ib_bool_dict, MP.ib_bool_set, MP.ib_int_bool, MP.ib_int_int, MP.ib_int_str, MP.ib_int_tuple, MP.ib_int_list, MP.ib_int_dict, MP.ib_int_set, MP.ib_str_bool, MP.ib_str_int, MP.ib_str_str, MP.ib_str_tuple, MP.ib_str_list, MP.ib_str_dict, MP.ib_str_set, MP.ib_tuple_bool, MP.ib_tuple_int, MP.ib_tuple_str, MP.ib_tuple_tuple, MP.ib_tuple_list, MP.ib_tuple_dict, MP.ib_tuple_set, MP.ib_list_bool, MP.ib_list_int, MP.ib_list_str, MP.ib_list_tuple, MP.ib_list_list, MP.ib_list_dict, MP.ib_list_set, MP.ib_dict_bool, MP.ib_dict_int, MP.ib_dict_str, MP.ib_dict_tuple, MP.ib_dict_list, MP.ib_dict_dict, MP.ib_dict_set, MP.ib_set_bool, MP.ib_set_int, MP.ib_set_str, MP.ib_set_tuple, MP.ib_set_list, MP.ib_set_dict, MP.ib_set_set, Bool.not_true, Bool.not_false, List.any_cons, List.any_nil, Bool.or_false, Bool.or_true, Bool.true_or, Bool.false_or, Bool.and_true, Bool.true_and, Bool.and_false, Bool.false_and, if_true, if_false, ite_true, ite_false, and_true, true_and, Bool.false_eq_true, List.getElem?_cons_zero, List.getElem?_cons_succ, List.set_cons_zero, List.set_cons_succ, List.length_cons, List.length_nil, List.cons_append, List.nil_append]
  refine ⟨_, rfl, rb h, fun ss' e' es => ?_, fun z => (nb z).elim⟩
  cases tup_inj es
  refine ⟨_, _, _, rfl, rp h 15, rp h 15, ?_⟩
  simp only [nr10, MP.pSeq, MP.pIfS, MP.pRet, MP.pRetN, MP.pNext, MP.pAsg, MP.pDrop, MP.pBrk, MP.pCt, MP.pVar, MP.pC, MP.pOp, MP.pUn, MP.pNil, MP.pCons, MP.pCB, MP.pCall, MP.pTup, MP.pTmp, MP.pNew, MP.pCT, MP.pIf, MP.pB, MP.pT, MP.pAnd, MP.pOr, MP.pNot, MP.pAndV, MP.pOrV, MP.pNotV, MP.pChain, MP.pG, MP.pGs, MP.pIxT, MP.pSlice, MP.pPart, MP.pNoPart, MP.pMtT, MP.pJoinT, MP.pAsgS, MP.pAug, MP.body, MP.gd, MP.e_add_ii, MP.e_add_ss, MP.e_add_tt, MP.e_add_rr, MP.e_sub, MP.e_mul_ii, MP.e_mul_si, MP.e_mul_ri, MP.e_iadd_ii, MP.e_iadd_ss, MP.e_pow, MP.e_fdiv, MP.e_mod, MP.e_neg, MP.e_lt, MP.e_le, MP.e_gt, MP.e_ge, MP.e_eq_ii, MP.e_ne_ii, MP.e_eq_ss, MP.e_ne_ss, MP.e_eq_bb, MP.e_ne_bb, MP.e_isN, MP.e_notN, MP.e_ix_s, MP.e_ix_t, MP.e_ix_f, MP.e_ix_r, MP.e_ixT, MP.e_set, MP.e_len_s, MP.e_len_t, MP.e_len_f, MP.e_len_r, MP.e_lenT, MP.e_int_i, MP.e_int_b, MP.e_abs, MP.e_max, MP.e_min, MP.e_tupI, MP.e_lstI, MP.e_allI, MP.e_anyI, MP.e_onI_t, MP.e_onI_f, MP.e_onI_r, MP.e_onL_r, MP.e_isi_n, MP.e_isi_b, MP.e_isi_i, MP.e_isi_s, MP.e_isi_t, MP.e_isi_f, MP.e_isiT_n, MP.e_isiT_b, MP.e_isiT_i, MP.e_isiT_s, MP.e_isiT_t, MP.e_isiT_f, MP.e_app, MP.e_split, MP.e_joinI, MP.e_join_r, MP.e_cut_s, MP.e_cut_t, MP.e_cut_f, MP.e_cut_r, MP.tr_b, MP.tr_i, MP.tr_s, MP.tr_n, MP.tr_t, MP.tr_r, MP.x_n, MP.x_b, MP.x_i, MP.x_s, MP.x_t, MP.x_f, MP.x_r, MP.atI_0, MP.atI_1, MP.atI_2, MP.atI_3, MP.atI_m1, MP.ixN_c0, MP.ixN_c1, MP.ixN_c2, MP.e_in_ss, MP.ib_NoneType_bool, MP.ib_NoneType_int, MP.ib_NoneType_str, MP.ib_NoneType_tuple, MP.ib_NoneType_list, MP.ib_NoneType_dict, MP.ib_NoneType_set, MP.ib_bool_bool, MP.ib_bool_int, MP.ib_bool_str, MP.ib_bool_tuple, MP.ib_bool_list, MP.ib_bool_dict, MP.ib_bool_set, MP.ib_int_bool, MP.ib_int_int, MP.ib_int_str, MP.ib_int_tuple, MP.ib_int_list, MP.ib_int_dict, MP.ib_int_set, MP.ib_str_bool, MP.ib_str_int, MP.ib_str_str, MP.ib_str_tuple, MP.ib_str_list, MP.ib_str_dict, MP.ib_str_set, MP.ib_tuple_bool, MP.ib_tuple_int, MP.ib_tuple_str, MP.ib_tuple_tuple, MP.ib_tuple_list, MP.ib_tuple_dict, MP.ib_tuple_set, MP.ib_list_bool, MP.ib_list_int, MP.ib_list_str, MP.ib_list_tuple, MP.ib_list_list, MP.ib_list_dict, MP.ib_list_set, MP.ib_dict_bool, MP.ib_dict_int, MP.ib_dict_str, MP.ib_dict_tuple, MP.ib_dict_list, MP.ib_dict_dict, MP.ib_dict_set, MP.ib_set_bool, MP.ib_set_int, MP.ib_set_str, MP.ib_set_tuple, MP.ib_set_list, MP.ib_set_dict, MP.ib_set_set, Bool.not_true, Bool.not_false, List.any_cons, List.any_nil, Bool.or_false, Bool.or_true, Bool.true_or, Bool.false_or, Bool.and_true, Bool.true_and, Bool.and_false, Bool.false_and, if_true, if_false, ite_true, ite_false, and_true, true_and, Bool.false_eq_true, List.getElem?_cons_zero, List.getElem?_cons_succ, List.set_cons_zero, List.set_cons_succ, List.length_cons, List.length_nil, List.cons_append, List.nil_append]
  refine ⟨_, rfl, rb h, fun ss' e' es => ?_, fun z => (nb z).elim⟩
  cases tup_inj es
  rw [e_ne_rd (by decide) (by decide) (rp h 14) (rp h 14)]
  simp only [nr11, nr12, MP.pSeq, MP.pIfS, MP.pRet, MP.pRetN, MP.pNext, MP.pAsg, MP.pDrop, MP.pBrk, MP.pCt, MP.pVar, MP.pC, MP.pOp, MP.pUn, MP.pNil, MP.pCons, MP.pCB, MP.pCall, MP.pTup, MP.pTmp, MP.pNew, MP.pCT, MP.pIf, MP.pB, MP.pT, MP.pAnd, MP.pOr, MP.pNot, MP.pAndV, MP.pOrV, MP.pNotV, MP.pChain, MP.pG, MP.pGs, MP.pIxT, MP.pSlice, MP.pPart, MP.pNoPart, MP.pMtT, MP.pJoinT, MP.pAsgS, MP.pAug, MP.body, MP.gd, MP.e_add_ii, MP.e_add_ss, MP.e_add_tt, MP.e_add_rr, MP.e_sub, MP.e_mul_ii, MP.e_mul_si, MP.e_mul_ri, MP.e_iadd_ii, MP.e_iadd_ss, MP.e_pow, MP.e_fdiv, MP.e_mod, MP.e_neg, MP.e_lt, MP.e_le, MP.e_gt, MP.e_ge, MP.e_eq_ii, MP.e_ne_ii, MP.e_eq_ss, MP.e_ne_ss, MP.e_eq_bb, MP.e_ne_bb, MP.e_isN, MP.e_notN, MP.e_ix_s, MP.e_ix_t, MP.e_ix_f, MP.e_ix_r, MP.e_ixT, MP.e_set, MP.e_len_s, MP.e_len_t, MP.e_len_f, MP.e_len_r, MP.e_lenT, MP.e_int_i, MP.e_int_b, MP.e_abs, MP.e_max, MP.e_min, MP.e_tupI, MP.e_lstI, MP.e_allI, MP.e_anyI, MP.e_onI_t, MP.e_onI_f, MP.e_onI_r, MP.e_onL_r, MP.e_isi_n, MP.e_isi_b, MP.e_isi_i, MP.e_isi_s, MP.e_isi_t, MP.e_isi_f, MP.e_isiT_n, MP.e_isiT_b, MP.e_isiT_i, MP.e_isiT_s, MP.e_isiT_t, MP.e_isiT_f, MP.e_app, MP.e_split, MP.e_joinI, MP.e_join_r, MP.e_cut_s, MP.e_cut_t, MP.e_cut_f, MP.e_cut_r, MP.tr_b, MP.tr_i, MP.tr_s, MP.tr_n, MP.tr_t, MP.tr_r, MP.x_n, MP.x_b, MP.x_i, MP.x_s, MP.x_t, MP.x_f, MP.x_r, MP.atI_0, MP.atI_1, MP.atI_2, MP.atI_3, MP.atI_m1, MP.ixN_c0, MP.ixN_c1, MP.ixN_c2, MP.e_in_ss, MP.ib_NoneType_bool, MP.ib_NoneType_int, MP.ib_NoneType_str, MP.ib_NoneType_tuple, MP.ib_NoneType_list, MP.ib_NoneType_dict, MP.ib_NoneType_set, MP.ib_bool_bool, MP.ib_bool_int, MP.ib_bool_str, MP.ib_bool_tuple, MP.ib_bool_list, MP.ib_bool_dict, MP.ib_bool_set, MP.ib_int_bool, MP.ib_int_int, MP.ib_int_str, MP.ib_int_tuple, MP.ib_int_list, MP.ib_int_dict, MP.ib_int_set, MP.ib_str_bool, MP.ib_str_int, MP.ib_str_str, MP.ib_str_tuple, MP.ib_str_list, MP.ib_str_dict, MP.ib_str_set, MP.ib_tuple_bool, MP.ib_tuple_int, MP.ib_tuple_str, MP.ib_tuple_tuple, MP.ib_tuple_list, MP.ib_tuple_dict, MP.ib_tuple_set, MP.ib_list_bool, MP.ib_list_int, MP.ib_list_str, MP.ib_list_tuple, MP.ib_list_list, MP.ib_list_dict, MP.ib_list_set, MP.ib_dict_bool, MP.ib_dict_int, MP.ib_dict_str, MP.ib_dict_tuple, MP.ib_dict_list, MP.ib_dict_dict, MP.ib_dict_set, MP.ib_set_bool, MP.ib_set_int, MP.ib_set_str, MP.ib_set_tuple, MP.ib_set_list, MP.ib_set_dict, MP.ib_set_set, Bool.not_true, Bool.not_false, List.any_cons, List.any_nil, Bool.or_false, Bool.or_true, Bool.true_or, Bool.false_or, Bool.and_true, Bool.true_and, Bool.and_false, Bool.false_and, if_true, if_false, ite_true, ite_false, and_true, true_and, Bool.false_eq_true, List.getElem?_cons_zero, List.getElem?_cons_succ, List.set_cons_zero, List.set_cons_succ, List.length_cons, List.length_nil, List.cons_append, List.nil_append]
  refine ⟨_, rfl, ls, fun ss' t er => ?_, fun t er => (by rw [hr] at er; cases er)⟩
  cases rd_ er
  refine ⟨_, _, _, rfl, rv _, rv _, ?_⟩
  simp only [MP.pSeq, MP.pIfS, MP.pRet, MP.pRetN, MP.pNext, MP.pAsg, MP.pDrop, MP.pBrk, MP.pCt, MP.pVar, MP.pC, MP.pOp, MP.pUn, MP.pNil, MP.pCons, MP.pCB, MP.pCall, MP.pTup, MP.pTmp, MP.pNew, MP.pCT, MP.pIf, MP.pB, MP.pT, MP.pAnd, MP.pOr, MP.pNot, MP.pAndV, MP.pOrV, MP.pNotV, MP.pChain, MP.pG, MP.pGs, MP.pIxT, MP.pSlice, MP.pPart, MP.pNoPart, MP.pMtT, MP.pJoinT, MP.pAsgS, MP.pAug, MP.body, MP.gd, MP.e_add_ii, MP.e_add_ss, MP.e_add_tt, MP.e_add_rr, MP.e_sub, MP.e_mul_ii, MP.e_mul_si, MP.e_mul_ri, MP.e_iadd_ii, MP.e_iadd_ss, MP.e_pow, MP.e_fdiv, MP.e_mod, MP.e_neg, MP.e_lt, MP.e_le, MP.e_gt, MP.e_ge, MP.e_eq_ii, MP.e_ne_ii, MP.e_eq_ss, MP.e_ne_ss, MP.e_eq_bb, MP.e_ne_bb, MP.e_isN, MP.e_notN, MP.e_ix_s, MP.e_ix_t, MP.e_ix_f, MP.e_ix_r, MP.e_ixT, MP.e_set, MP.e_len_s, MP.e_len_t, MP.e_len_f, MP.e_len_r, MP.e_lenT, MP.e_int_i, MP.e_int_b, MP.e_abs, MP.e_max, MP.e_min, MP.e_tupI, MP.e_lstI, MP.e_allI, MP.e_anyI, MP.e_onI_t, MP.e_onI_f, MP.e_onI_r, MP.e_onL_r, MP.e_isi_n, MP.e_isi_b, MP.e_isi_i, MP.e_isi_s, MP.e_isi_t, MP.e_isi_f, MP.e_isiT_n, MP.e_isiT_b, MP.e_isiT_i, MP.e_isiT_s, MP.e_isiT_t, MP.e_isiT_f, MP.e_app, MP.e_split, MP.e_joinI, MP.e_join_r, MP.e_cut_s, MP.e_cut_t, MP.e_cut_f, MP.e_cut_r, MP.tr_b, MP.tr_i, MP.tr_s, MP.tr_n, MP.tr_t, MP.tr_r, MP.x_n, MP.x_b, MP.x_i, MP.x_s, MP.x_t, MP.x_f, MP.x_r, MP.atI_0, MP.atI_1, MP.atI_2, MP.atI_3, MP.atI_m1, MP.ixN_c0, MP.ixN_c1, MP.ixN_c2, MP.e_in_ss, MP.ib_NoneType_bool, MP.ib_NoneType_int, MP.ib_NoneType_str, MP.ib_NoneType_tuple, MP.ib_NoneType_list, MP.ib_NoneType_dict, MP.ib_NoneType_set, MP.ib_bool_bool, MP.ib_bool_int, MP.ib_bool_str, MP.ib_bool_tuple, MP.ib_bool_list, MP.ib_bool_dict, MP.ib_bool_set, MP.ib_int_bool, MP.ib_int_int, MP.ib_int_str, MP.ib_int_tuple, MP.ib_int_list, MP.ib_int_dict, MP.ib_int_set, MP.ib_str_bool, MP.ib_str_int, MP.ib_str_str, MP.ib_str_tuple, MP.ib_str_list, MP.ib_str_dict, MP.ib_str_set, MP.ib_tuple_bool, MP.ib_tuple_int, MP.ib_tuple_str, MP.ib_tuple_tuple, MP.ib_tuple_list, MP.ib_tuple_dict, MP.ib_tuple_set, MP.ib_list_bool, MP.ib_list_int, MP.ib_list_str, MP.ib_list_tuple, MP.ib_list_list, MP.ib_list_dict, MP.ib_list_set, MP.ib_dict_bool, MP.ib_dict_int, MP.ib_dict_str, MP.ib_dict_tuple, MP.ib_dict_list, MP.ib_dict_dict, MP.ib_dict_set, MP.ib_set_bool, MP.ib_set_int, MP.ib_set_str, MP.ib_set_tuple, MP.ib_set_list, MP.ib_set_dict, MP.ib_set_set, Bool.not_true, Bool.not_false, List.any_cons, List.any_nil, Bool.or_false, Bool.or_true, Bool.true_or, Bool.false_or, Bool.and_true, Bool.true_and, Bool.and_false, Bool.false_and, if_true, if_false, ite_true, ite_false, and_true, true_and, Bool.false_eq_true, List.getElem?_cons_zero, List.getElem?_cons_succ, List.set_cons_zero, List.set_cons_succ, List.length_cons, List.length_nil, List.cons_append, List.nil_append, pCallK, pick]
  refine ⟨rfl, _, rfl, rb _, fun ss' e' es => ?_, fun z => (nb z).elim⟩
  cases tup_inj es
  simp only [nr13, MP.pSeq, MP.pIfS, MP.pRet, MP.pRetN, MP.pNext, MP.pAsg, MP.pDrop, MP.pBrk, MP.pCt, MP.pVar, MP.pC, MP.pOp, MP.pUn, MP.pNil, MP.pCons, MP.pCB, MP.pCall, MP.pTup, MP.pTmp, MP.pNew, MP.pCT, MP.pIf, MP.pB, MP.pT, MP.pAnd, MP.pOr, MP.pNot, MP.pAndV, MP.pOrV, MP.pNotV, MP.pChain, MP.pG, MP.pGs, MP.pIxT, MP.pSlice, MP.pPart, MP.pNoPart, MP.pMtT, MP.pJoinT, MP.pAsgS, MP.pAug, MP.body, MP.gd, MP.e_add_ii, MP.e_add_ss, MP.e_add_tt, MP.e_add_rr, MP.e_sub, MP.e_mul_ii, MP.e_mul_si, MP.e_mul_ri, MP.e_iadd_ii, MP.e_iadd_ss, MP.e_pow, MP.e_fdiv, MP.e_mod, MP.e_neg, MP.e_lt, MP.e_le, MP.e_gt, MP.e_ge, MP.e_eq_ii, MP.e_ne_ii, MP.e_eq_ss, MP.e_ne_ss, MP.e_eq_bb, MP.e_ne_bb, MP.e_isN, MP.e_notN, MP.e_ix_s, MP.e_ix_t, MP.e_ix_f, MP.e_ix_r, MP.e_ixT, MP.e_set, MP.e_len_s, MP.e_len_t, MP.e_len_f, MP.e_len_r, MP.e_lenT, MP.e_int_i, MP.e_int_b, MP.e_abs, MP.e_max, MP.e_min, MP.e_tupI, MP.e_lstI, MP.e_allI, MP.e_anyI, MP.e_onI_t, MP.e_onI_f, MP.e_onI_r, MP.e_onL_r, MP.e_isi_n, MP.e_isi_b, MP.e_isi_i, MP.e_isi_s, MP.e_isi_t, MP.e_isi_f, MP.e_isiT_n, MP.e_isiT_b, MP.e_isiT_i, MP.e_isiT_s, MP.e_isiT_t, MP.e_isiT_f, MP.e_app, MP.e_split, MP.e_joinI, MP.e_join_r, MP.e_cut_s, MP.e_cut_t, MP.e_cut_f, MP.e_cut_r, MP.tr_b, MP.tr_i, MP.tr_s, MP.tr_n, MP.tr_t, MP.tr_r, MP.x_n, MP.x_b, MP.x_i, MP.x_s, MP.x_t, MP.x_f, MP.x_r, MP.atI_0, MP.atI_1, MP.atI_2, MP.atI_3, MP.atI_m1, MP.ixN_c0, MP.ixN_c1, MP.ixN_c2, MP.e_in_ss, MP.ib_NoneType_bool, MP.ib_NoneType_int, MP.ib_NoneType_str, MP.ib_NoneType_tuple, MP.ib_NoneType_list, MP.ib_NoneType_dict, MP.ib_NoneType_set, MP.ib_bool_bool, MP.ib_bool_int, MP.ib_bool_str, MP.ib_bool_tuple, MP.ib_bool_list, MP.ib_bool_dict, MP.ib_bool_set, MP.ib_int_bool, MP.ib_int_int, MP.ib_int_str, MP.ib_int_tuple, MP.ib_int_list, MP.ib_int_dict, MP.ib_int_set, MP.ib_str_bool, MP.ib_str_int, MP.ib_str_str, MP.ib_str_tuple, MP.ib_str_list, MP.ib_str_dict, MP.ib_str_set, MP.ib_tuple_bool, MP.ib_tuple_int, MP.ib_tuple_str, MP.ib_tuple_tuple, MP.ib_tuple_list, MP.ib_tuple_dict, MP.ib_tuple_set, MP.ib_list_bool, MP.ib_list_int, MP.ib_list_str, MP.ib_list_tuple, MP.ib_list_list, MP.ib_list_dict, MP.ib_list_set, MP.ib_dict_bool, MP.ib_dict_int, MP.ib_dict_str, MP.ib_dict_tuple, MP.ib_dict_list, MP.ib_dict_dict, MP.ib_dict_set, MP.ib_set_bool, MP.ib_set_int, MP.ib_set_str, MP.ib_set_tuple, MP.ib_set_list, MP.ib_set_dict, MP.ib_set_set, Bool.not_true, Bool.not_false, List.any_cons, List.any_nil, Bool.or_false, Bool.or_true, Bool.true_or, Bool.false_or, Bool.and_true, Bool.true_and, Bool.and_false, Bool.false_and, if_true, if_false, ite_true, ite_false, and_true, true_and, Bool.false_eq_true, List.getElem?_cons_zero, List.getElem?_cons_succ, List.set_cons_zero, List.set_cons_succ, List.length_cons, List.length_nil, List.cons_append, List.nil_append, beq_self_eq_true, pCallK, pick]
  refine ⟨rfl, _, rfl, ls, fun ss' t' er => ?_, fun t er => (by rw [hr] at er; cases er)⟩
  cases rd_ er
  refine ⟨_, _, _, rfl, rv _, rv _, ?_⟩
  simp only [MP.pSeq, MP.pIfS, MP.pRet, MP.pRetN, MP.pNext, MP.pAsg, MP.pDrop, MP.pBrk, MP.pCt, MP.pVar, MP.pC, MP.pOp, MP.pUn, MP.pNil, MP.pCons, MP.pCB, MP.pCall, MP.pTup, MP.pTmp, MP.pNew, MP.pCT, MP.pIf, MP.pB, MP.pT, MP.pAnd, MP.pOr, MP.pNot, MP.pAndV, MP.pOrV, MP.pNotV, MP.pChain, MP.pG, MP.pGs, MP.pIxT, MP.pSlice, MP.pPart, MP.pNoPart, MP.pMtT, MP.pJoinT, MP.pAsgS, MP.pAug, MP.body, MP.gd, MP.e_add_ii, MP.e_add_ss, MP.e_add_tt, MP.e_add_rr, MP.e_sub, MP.e_mul_ii, MP.e_mul_si, MP.e_mul_ri, MP.e_iadd_ii, MP.e_iadd_ss, MP.e_pow, MP.e_fdiv, MP.e_mod, MP.e_neg, MP.e_lt, MP.e_le, MP.e_gt, MP.e_ge, MP.e_eq_ii, MP.e_ne_ii, MP.e_eq_ss, MP.e_ne_ss, MP.e_eq_bb, MP.e_ne_bb, MP.e_isN, MP.e_notN, MP.e_ix_s, MP.e_ix_t, MP.e_ix_f, MP.e_ix_r, MP.e_ixT, MP.e_set, MP.e_len_s, MP.e_len_t, MP.e_len_f, MP.e_len_r, MP.e_lenT, MP.e_int_i, MP.e_int_b, MP.e_abs, MP.e_max, MP.e_min, MP.e_tupI, MP.e_lstI, MP.e_allI, MP.e_anyI, MP.e_onI_t, MP.e_onI_f, MP.e_onI_r, MP.e_onL_r, MP.e_isi_n, MP.e_isi_b, MP.e_isi_i, MP.e_isi_s, MP.e_isi_t, MP.e_isi_f, MP.e_isiT_n, MP.e_isiT_b, MP.e_isiT_i, MP.e_isiT_s, MP.e_isiT_t, MP.e_isiT_f, MP.e_app, MP.e_split, MP.e_joinI, MP.e_join_r, MP.e_cut_s, MP.e_cut_t, MP.e_cut_f, MP.e_cut_r, MP.tr_b, MP.tr_i, MP.tr_s, MP.tr_n, MP.tr_t, MP.tr_r, MP.x_n, MP.x_b, MP.x_i, MP.x_s, MP.x_t, MP.x_f, MP.x_r, MP.atI_0, MP.atI_1, MP.atI_2, MP.atI_3, MP.atI_m1, MP.ixN_c0, MP.ixN_c1, MP.ixN_c2, MP.e_in_ss, MP.ib_NoneType_bool, MP.ib_NoneType_int, MP.ib_NoneType_str, MP.ib_NoneType_tuple, MP.ib_NoneType_list, MP.ib_NoneType_dict, MP.ib_NoneType_set, MP.ib_bool_bool, MP.ib_bool_int, MP.ib_bool_str, MP.ib_bool_tuple, MP.ib_bool_list, MP.ib_bool_dict, MP.ib_bool_set, MP.ib_int_bool, MP.ib_int_int, MP.ib_int_str, MP.ib_int_tuple, MP.ib_int_list, MP.ib_int_dict, MP.ib_int_set, MP.ib_str_bool, MP.ib_str_int, MP.ib_str_str, MP.ib_str_tuple, MP.ib_str_list, MP.ib_str_dict, MP.ib_str_set, MP.ib_tuple_bool, MP.ib_tuple_int, MP.ib_tuple_str, MP.ib_tuple_tuple, MP.ib_tuple_list, MP.ib_tuple_dict, MP.ib_tuple_set, MP.ib_list_bool, MP.ib_list_int, MP.ib_list_str, MP.ib_list_tuple, MP.ib_list_list, MP.ib_list_dict, MP.ib_list_set, MP.ib_dict_bool, MP.ib_dict_int, MP.ib_dict_str, MP.ib_dict_tuple, MP.ib_dict_list, MP.ib_dict_dict, MP.ib_dict_set, MP.ib_set_bool, MP.ib_set_int, MP.ib_set_str, MP.ib_set_tuple, MP.ib_set_list, MP.ib_set_dict, MP.ib_set_set, Bool.not_true, Bool.not_false, List.any_cons, List.any_nil, Bool.or_false, Bool.or_true, Bool.true_or, Bool.false_or, Bool.and_true, Bool.true_and, Bool.and_false, Bool.false_and, if_true, if_false, ite_true, ite_false, and_true, true_and, Bool.false_eq_true, List.getElem?_cons_zero, List.getElem?_cons_succ, List.set_cons_zero, List.set_cons_succ, List.length_cons, List.length_nil, List.cons_append, List.nil_append]
  rw [List.append_assoc]
  exact k _


/-- the last tests, v bad -/
theorem nrB_bad {D : PD} {h : PHeap} {a0 a1 a2 a6 : Option PV} {v : PV} {d : PyData} (r : rd h 8 v = some d) (nn : NoN v)
    (k : ∀ t : PHeap, D.nx [a0, a1, a2, some v, some (.bl false), some (.tup [.str "refused", v]), a6] (h ++ t)) :
    nrB D [a0, a1, a2, some v, some (.bl false), some (.tup [.str "refused", v]), a6] h := by
  have hx := rd_notExc r
  have r16 : ∀ t : PHeap, rd (h ++ t) 16 v = some d := fun t => rd_app t (rd_le (by decide) r)
  have rb : ∀ t : PHeap, Rb (h ++ t) v := fun t => ⟨d, r16 t⟩
  have rb0 : Rb h v := ⟨d, rd_le (by decide) r⟩
  have ty : ∀ t : PHeap, tyOf (h ++ t) v = some (kindD d) := fun t => rd_kind (r16 t)
  have ty0 : tyOf h v = some (kindD d) := rd_kind r
  have ng : isNam v = true → False := fun z => by rw [nn.1] at z; cases z
  have step2 : ∀ t : PHeap, pSeq nr10 (pSeq nr11 (pSeq nr12 nr13)) D [a0, a1, a2, some v, some (.bl false), some (.tup [.str "refused", v]), a6] (h ++ t) := fun t => by
    refine seq_if ?_
    simp only [MP.pSeq, MP.pIfS, MP.pRet, MP.pRetN, MP.pNext, MP.pAsg, MP.pDrop, MP.pBrk, MP.pCt, MP.pVar, MP.pC, MP.pOp, MP.pUn, MP.pNil, MP.pCons, MP.pCB, MP.pCall, MP.pTup, MP.pTmp, MP.pNew, MP.pCT, MP.pIf, MP.pB, MP.pT, MP.pAnd, MP.pOr, MP.pNot, MP.pAndV, MP.pOrV, MP.pNotV, MP.pChain, MP.pG, MP.pGs, MP.pIxT, MP.pSlice, MP.pPart, MP.pNoPart, MP.pMtT, MP.pJoinT, MP.pAsgS, MP.pAug, MP.body, MP.gd, MP.e_add_ii, MP.e_add_ss, MP.e_add_tt, MP.e_add_rr, MP.e_sub, MP.e_mul_ii, MP.e_mul_si, MP.e_mul_ri, MP.e_iadd_ii, MP.e_iadd_ss, MP.e_pow, MP.e_fdiv, MP.e_mod, MP.e_neg, MP.e_lt, MP.e_le, MP.e_gt, MP.e_ge, MP.e_eq_ii, MP.e_ne_ii, MP.e_eq_ss, MP.e_ne_ss, MP.e_eq_bb, MP.e_ne_bb, MP.e_isN, MP.e_notN, MP.e_ix_s, MP.e_ix_t, MP.e_ix_f, MP.e_ix_r, MP.e_ixT, MP.e_set, MP.e_len_s, MP.e_len_t, MP.e_len_f, MP.e_len_r, MP.e_lenT, MP.e_int_i, MP.e_int_b, MP.e_abs, MP.e_max, MP.e_min, MP.e_tupI, MP.e_lstI, MP.e_allI, MP.e_anyI, MP.e_onI_t, MP.e_onI_f, MP.e_onI_r, MP.e_onL_r, MP.e_isi_n, MP.e_isi_b, MP.e_isi_i, MP.e_isi_s, MP.e_isi_t, MP.e_isi_f, MP.e_isiT_n, MP.e_isiT_b, MP.e_isiT_i, MP.e_isiT_s, MP.e_isiT_t, MP.e_isiT_f, MP.e_app, MP.e_split, MP.e_joinI, MP.e_join_r, MP.e_cut_s, MP.e_cut_t, MP.e_cut_f, MP.e_cut_r, MP.tr_b, MP.tr_i, MP.tr_s, MP.tr_n, MP.tr_t, MP.tr_r, MP.x_n, MP.x_b, MP.x_i, MP.x_s, MP.x_t, MP.x_f, MP.x_r, MP.atI_0, MP.atI_1, MP.atI_2, MP.atI_3, MP.atI_m1, MP.ixN_c0, MP.ixN_c1, MP.ixN_c2, MP.e_in_ss, MP.ib_NoneType_bool, MP.ib_NoneType_int, MP.ib_NoneType_str, MP.ib_NoneType_tuple, MP.ib_NoneType_list, MP.ib_NoneType_dict, MP.ib_NoneType_set, MP.ib_bool_bool, MP.ib_bool_int, MP.ib_bool_str, MP.ib_bool_tuple, MP.ib_bool_list, MP.ib_bool_dict, MP.ib_bool_set, MP.ib_int_bool, MP.ib_int_int, MP.ib_int_str, MP.ib_int_tuple, MP.ib_int_list, MP.ib_int_dict, MP.ib_int_set, MP.ib_str_bool, MP.ib_str_int, MP.ib_str_str, MP.ib_str_tuple, MP.ib_str_list, MP.ib_str_dict, MP.ib_str_set, MP.ib_tuple_bool, MP.ib_tuple_int, MP.ib_tuple_str, MP.ib_tuple_tuple, MP.ib_tuple_list, MP.ib_tuple_dict, MP.ib_tuple_set, MP.ib_list_bool, MP.ib_list_int, MP.ib_list_str, MP.ib_list_tuple, MP.ib_list_list, MP.ib_list_dict, MP.ib_list_set, MP.ib_dict_bool, MP.ib_dict_int, MP.ib_dict_str, MP.ib_dict_tuple, MP.ib_dict_list, MP.ib_dict_dict, MP.ib_dict_set, MP.ib_set_bool, MP.ib_set_int, MP.ib_set_str, MP.ib_set_tuple, MP.ib_set_list, MP.ib_set_dict, MP.ib_set_set, Bool.not_true, Bool.not_false, List.any_cons, List.any_nil, Bool.or_false, Bool.or_true, Bool.true_or, Bool.false_or, Bool.and_true, Bool.true_and, Bool.and_false, Bool.false_and, if_true, if_false, ite_true, ite_false, and_true, true_and, Bool.false_eq_true, List.getElem?_cons_zero, List.getElem?_cons_succ, List.set_cons_zero, List.set_cons_succ, List.length_cons, List.length_nil, List.cons_append, List.nil_append]
    refine ⟨hx, v, rfl, rb t, fun ss e es => (ng e).elim, fun _ => ⟨d, r16 t, fun v' t2 r' a => ?_⟩⟩
    have e1 : rd (h ++ t ++ t2) 17 (.tup [.str "refused", v]) = some (.tuple [.str "refused", d]) := rd_pair rd_str' (rd_app t2 (r16 t))
    dsimp only
    rw [e_ne_rd (by decide) (by decide) (rd_pair rd_str' r') e1]
    have ty2 : tyOf (h ++ t ++ t2) v = some (kindD d) := by rw [List.append_assoc]; exact ty _
    simp only [nr11, nr12, nr13, MP.pSeq, MP.pIfS, MP.pRet, MP.pRetN, MP.pNext, MP.pAsg, MP.pDrop, MP.pBrk, MP.pCt, MP.pVar, MP.pC, MP.pOp, MP.pUn, MP.pNil, MP.pCons, MP.pCB, MP.pCall, MP.pTup, MP.pTmp, MP.pNew, MP.pCT, MP.pIf, MP.pB, MP.pT, MP.pAnd, MP.pOr, MP.pNot, MP.pAndV, MP.pOrV, MP.pNotV, MP.pChain, MP.pG, MP.pGs, MP.pIxT, MP.pSlice, MP.pPart, MP.pNoPart, MP.pMtT, MP.pJoinT, MP.pAsgS, MP.pAug, MP.body, MP.gd, MP.e_add_ii, MP.e_add_ss, MP.e_add_tt, MP.e_add_rr, MP.e_sub, MP.e_mul_ii, MP.e_mul_si, MP.e_mul_ri, MP.e_iadd_ii, MP.e_iadd_ss, MP.e_pow, MP.e_fdiv, MP.e_mod, MP.e_neg, MP.e_lt, MP.e_le, MP.e_gt, MP.e_ge, MP.e_eq_ii, MP.e_ne_ii, MP.e_eq_ss, MP.e_ne_ss, MP.e_eq_bb, MP.e_ne_bb, MP.e_isN, MP.e_notN, MP.e_ix_s, MP.e_ix_t, MP.e_ix_f, MP.e_ix_r, MP.e_ixT, MP.e_set, MP.e_len_s, MP.e_len_t, MP.e_len_f, MP.e_len_r, MP.e_lenT, MP.e_int_i, MP.e_int_b, MP.e_abs, MP.e_max, MP.e_min, MP.e_tupI, MP.e_lstI, MP.e_allI, MP.e_anyI, MP.e_onI_t, MP.e_onI_f, MP.e_onI_r, MP.e_onL_r, MP.e_isi_n, MP.e_isi_b, MP.e_isi_i, MP.e_isi_s, MP.e_isi_t, MP.e_isi_f, MP.e_isiT_n, MP.e_isiT_b, MP.e_isiT_i, MP.e_isiT_s, MP.e_isiT_t, MP.e_isiT_f, MP.e_app, MP.e_split, MP.e_joinI, MP.e_join_r, MP.e_cut_s, MP.e_cut_t, MP.e_cut_f, MP.e_cut_r, MP.tr_b, MP.tr_i, MP.tr_s, MP.tr_n, MP.tr_t, MP.tr_r, MP.x_n, MP.x_b, MP.x_i, MP.x_s, MP.x_t, MP.x_f, MP.x_r, MP.atI_0, MP.atI_1, MP.atI_2, MP.atI_3, MP.atI_m1, MP.ixN_c0, MP.ixN_c1, MP.ixN_c2, MP.e_in_ss, MP.ib_NoneType_bool, MP.ib_NoneType_int, MP.ib_NoneType_str, MP.ib_NoneType_tuple, MP.ib_NoneType_list, MP.ib_NoneType_dict, MP.ib_NoneType_set, MP.ib_bool_bool, MP.ib_bool_int, MP.ib_bool_str, MP.ib_bool_tuple, MP.ib_bool_list, MP.ib_bool_dict, MP.ib_bool_set, MP.ib_int_bool, MP.ib_int_int, MP.ib_int_str, MP.ib_int_tuple, MP.ib_int_list, MP.ib_int_dict, MP.ib_int_set, MP.ib_str_bool, MP.ib_str_int, MP.ib_str_str, MP.ib_str_tuple, MP.ib_str_list, MP.ib_str_dict, MP.ib_str_set, MP.ib_tuple_bool, MP.ib_tuple_int, MP.ib_tuple_str, MP.ib_tuple_tuple, MP.ib_tuple_list, MP.ib_tuple_dict, MP.ib_tuple_set, MP.ib_list_bool, MP.ib_list_int, MP.ib_list_str, MP.ib_list_tuple, MP.ib_list_list, MP.ib_list_dict, MP.ib_list_set, MP.ib_dict_bool, MP.ib_dict_int, MP.ib_dict_str, MP.ib_dict_tuple, MP.ib_dict_list, MP.ib_dict_dict, MP.ib_dict_set, MP.ib_set_bool, MP.ib_set_int, MP.ib_set_str, MP.ib_set_tuple, MP.ib_set_list, MP.ib_set_dict, MP.ib_set_set, Bool.not_true, Bool.not_false, List.any_cons, List.any_nil, Bool.or_false, Bool.or_true, Bool.true_or, Bool.false_or, Bool.and_true, Bool.true_and, Bool.and_false, Bool.false_and, if_true, if_false, ite_true, ite_false, and_true, true_and, Bool.false_eq_true, List.getElem?_cons_zero, List.getElem?_cons_succ, List.set_cons_zero, List.set_cons_succ, List.length_cons, List.length_nil, List.cons_append, List.nil_append, hx, e_isi ty2]
    cases hl : isiB (kindD d) "list" with
    | false =>
      rw [if_neg (by decide), List.append_assoc]
      exact k _
    | true =>
      rw [if_pos rfl]
      have hd : ∃ ds, d = .list ds := by
        cases d with
        | list ds => exact ⟨ds, rfl⟩
        | _ => exact absurd hl (by simp only [kindD]; decide)
      obtain ⟨ds, rfl⟩ := hd
      cases v with
      | ref n0 =>
        obtain ⟨xs, ds', en, e2, lx, ea⟩ := rd_ref (rd_app t2 (r16 t))
        refine ⟨n0, xs, _, rfl, en, rd_app t2 (r16 t), rfl, fun t3 => ?_⟩
        simp only [MP.pSeq, MP.pIfS, MP.pRet, MP.pRetN, MP.pNext, MP.pAsg, MP.pDrop, MP.pBrk, MP.pCt, MP.pVar, MP.pC, MP.pOp, MP.pUn, MP.pNil, MP.pCons, MP.pCB, MP.pCall, MP.pTup, MP.pTmp, MP.pNew, MP.pCT, MP.pIf, MP.pB, MP.pT, MP.pAnd, MP.pOr, MP.pNot, MP.pAndV, MP.pOrV, MP.pNotV, MP.pChain, MP.pG, MP.pGs, MP.pIxT, MP.pSlice, MP.pPart, MP.pNoPart, MP.pMtT, MP.pJoinT, MP.pAsgS, MP.pAug, MP.body, MP.gd, MP.e_add_ii, MP.e_add_ss, MP.e_add_tt, MP.e_add_rr, MP.e_sub, MP.e_mul_ii, MP.e_mul_si, MP.e_mul_ri, MP.e_iadd_ii, MP.e_iadd_ss, MP.e_pow, MP.e_fdiv, MP.e_mod, MP.e_neg, MP.e_lt, MP.e_le, MP.e_gt, MP.e_ge, MP.e_eq_ii, MP.e_ne_ii, MP.e_eq_ss, MP.e_ne_ss, MP.e_eq_bb, MP.e_ne_bb, MP.e_isN, MP.e_notN, MP.e_ix_s, MP.e_ix_t, MP.e_ix_f, MP.e_ix_r, MP.e_ixT, MP.e_set, MP.e_len_s, MP.e_len_t, MP.e_len_f, MP.e_len_r, MP.e_lenT, MP.e_int_i, MP.e_int_b, MP.e_abs, MP.e_max, MP.e_min, MP.e_tupI, MP.e_lstI, MP.e_allI, MP.e_anyI, MP.e_onI_t, MP.e_onI_f, MP.e_onI_r, MP.e_onL_r, MP.e_isi_n, MP.e_isi_b, MP.e_isi_i, MP.e_isi_s, MP.e_isi_t, MP.e_isi_f, MP.e_isiT_n, MP.e_isiT_b, MP.e_isiT_i, MP.e_isiT_s, MP.e_isiT_t, MP.e_isiT_f, MP.e_app, MP.e_split, MP.e_joinI, MP.e_join_r, MP.e_cut_s, MP.e_cut_t, MP.e_cut_f, MP.e_cut_r, MP.tr_b, MP.tr_i, MP.tr_s, MP.tr_n, MP.tr_t, MP.tr_r, MP.x_n, MP.x_b, MP.x_i, MP.x_s, MP.x_t, MP.x_f, MP.x_r, MP.atI_0, MP.atI_1, MP.atI_2, MP.atI_3, MP.atI_m1, MP.ixN_c0, MP.ixN_c1, MP.ixN_c2, MP.e_in_ss, MP.ib_NoneType_bool, MP.ib_NoneType_int, MP.ib_NoneType_str, MP.ib_NoneType_tuple, MP.ib_NoneType_list, MP.ib_NoneType_dict, MP.ib_NoneType_set, MP.ib_bool_bool, MP.ib_bool_int, MP.ib_bool_str, MP.ib_bool_tuple, MP.ib_bool_list, MP.ib_bool_dict, MP.ib_bool_set, MP.ib_int_bool, MP.ib_int_int, MP.ib_int_str, MP.ib_int_tuple, MP.ib_int_list, MP.ib_int_dict, MP.ib_int_set, MP.ib_str_bool, MP.ib_str_int, MP.ib_str_str, MP.ib_str_tuple, MP.ib_str_list, MP.ib_str_dict, MP.ib_str_set, MP.ib_tuple_bool, MP.ib_tuple_int, MP.ib_tuple_str, MP.ib_tuple_tuple, MP.ib_tuple_list, MP.ib_tuple_dict, MP.ib_tuple_set, MP.ib_list_bool, MP.ib_list_int, MP.ib_list_str, MP.ib_list_tuple, MP.ib_list_list, MP.ib_list_dict, MP.ib_list_set, MP.ib_dict_bool, MP.ib_dict_int, MP.ib_dict_str, MP.ib_dict_tuple, MP.ib_dict_list, MP.ib_dict_dict, MP.ib_dict_set, MP.ib_set_bool, MP.ib_set_int, MP.ib_set_str, MP.ib_set_tuple, MP.ib_set_list, MP.ib_set_dict, MP.ib_set_set, Bool.not_true, Bool.not_false, List.any_cons, List.any_nil, Bool.or_false, Bool.or_true, Bool.true_or, Bool.false_or, Bool.and_true, Bool.true_and, Bool.and_false, Bool.false_and, if_true, if_false, ite_true, ite_false, and_true, true_and, Bool.false_eq_true, List.getElem?_cons_zero, List.getElem?_cons_succ, List.set_cons_zero, List.set_cons_succ, List.length_cons, List.length_nil, List.cons_append, List.nil_append]
        rw [List.append_assoc, List.append_assoc]
        exact k _
      | fl xs => cases nn.2
      | tup xs => obtain ⟨ds', e, _⟩ := rd_tup r; cases e
      | non => cases r
      | bl b => cases r
      | int b => cases r
      | str b => cases r
      | exc c x => cases hx
  unfold nrB
  refine seq_if ?_
  simp only [MP.pAnd, MP.pT, MP.pUn]
  refine ⟨hx, ?_⟩
  dsimp only
  rw [e_isiT ty0]
  dsimp only [truth]
  have st0 := step2 []
  rw [List.append_nil] at st0
  cases hb : (["tuple", "list"].any (isiB (kindD d))) with
  | false =>
    rw [if_neg (by decide), if_neg (by decide)]
    exact st0
  | true =>
    rw [if_pos rfl]
    refine ⟨hx, rfl, v, rfl, rb0, fun ss e es => (ng e).elim, fun _ => ⟨d, rd_le (by decide) r, fun v' t r' a => ?_⟩⟩
    refine ⟨rfl, rfl, _, _, .tuple [.str "refused", d], rfl, rd_pair rd_str' r', rd_pair rd_str' (r16 t), ?_⟩
    exact step2 t


theorem ne_lists {h : PHeap} {xs ys : List PV} {ds : List PyData} {Q : PQ} (l : xs.length ≤ 100000) (l' : ys.length ≤ 100000) (e : ∀ h : PHeap, allD (rd h 3) xs = some ds) (e' : ∀ h : PHeap, allD (rd h 3) ys = some ds) (k : Q (.bl false) (h ++ [.lst xs] ++ [.lst ys])) :
    rNeP (.ref h.length) (.ref (h ++ [Cell.lst xs]).length) (h ++ [.lst xs] ++ [.lst ys]) Q := by
  rw [e_ne_rd (f := 4) (g := 4) (d := .list ds) (by decide) (by decide) (rd_ref_of (xs := xs) (by rw [List.getElem?_append_left (by simp), List.getElem?_concat_length]) l (e _)) (rd_ref_of (xs := ys) (by rw [List.getElem?_concat_length]) l' (e' _))]
  exact k
theorem allD_bb {h : PHeap} {a b : Bool} : allD (rd h 3) [.bl a, .bl b] = some [.bool a, .bool b] := rfl
theorem nrA_bad {D : PD} {h : PHeap} {a0 a1 a2 a4 a5 a6 : Option PV} {v : PV} {d : PyData} (r : rd h 8 v = some d) (nn : NoN v) (k : ∀ (t : PHeap) τ3 τ4 τ5, D.nx [a0, a1, a2, τ3, τ4, τ5, a6] (h ++ t)) :
    nrA D [a0, a1, a2, some v, a4, a5, a6] h := by
  have hx := rd_notExc r
  have rb : Rb h v := ⟨d, rd_le (by decide) r⟩
  have rb2 : ∀ t, Rb (h ++ t) v := fun t => rb.app t
  have hk : isAsk v = false := by unfold isAsk; rw [nn.1]; rfl
  unfold nrA
  refine seq_asg ⟨hx, rfl, v, rfl, rb, ?_⟩
  rw [nn.1]
  refine seq_if ?_
  simp only [MP.pSeq, MP.pIfS, MP.pRet, MP.pRetN, MP.pNext, MP.pAsg, MP.pDrop, MP.pBrk, MP.pCt, MP.pVar, MP.pC, MP.pOp, MP.pUn, MP.pNil, MP.pCons, MP.pCB, MP.pCall, MP.pTup, MP.pTmp, MP.pNew, MP.pCT, MP.pIf, MP.pB, MP.pT, MP.pAnd, MP.pOr, MP.pNot, MP.pAndV, MP.pOrV, MP.pNotV, MP.pChain, MP.pG, MP.pGs, MP.pIxT, MP.pSlice, MP.pPart, MP.pNoPart, MP.pMtT, MP.pJoinT, MP.pAsgS, MP.pAug, MP.body, MP.gd, MP.e_add_ii, MP.e_add_ss, MP.e_add_tt, MP.e_add_rr, MP.e_sub, MP.e_mul_ii, MP.e_mul_si, MP.e_mul_ri, MP.e_iadd_ii, MP.e_iadd_ss, MP.e_pow, MP.e_fdiv, MP.e_mod, MP.e_neg, MP.e_lt, MP.e_le, MP.e_gt, MP.e_ge, MP.e_eq_ii, MP.e_ne_ii, MP.e_eq_ss, MP.e_ne_ss, MP.e_eq_bb, MP.e_ne_bb, MP.e_isN, MP.e_notN, MP.e_ix_s, MP.e_ix_t, MP.e_ix_f, MP.e_ix_r, MP.e_ixT, MP.e_set, MP.e_len_s, MP.e_len_t, MP.e_len_f, MP.e_len_r, MP.e_lenT, MP.e_int_i, MP.e_int_b, MP.e_abs, MP.e_max, MP.e_min, MP.e_tupI, MP.e_lstI, MP.e_allI, MP.e_anyI, MP.e_onI_t, MP.e_onI_f, MP.e_onI_r, MP.e_onL_r, MP.e_isi_n, MP.e_isi_b, MP.e_isi_i, MP.e_isi_s, MP.e_isi_t, MP.e_isi_f, MP.e_isiT_n, MP.e_isiT_b, MP.e_isiT_i, MP.e_isiT_s, MP.e_isiT_t, MP.e_isiT_f, MP.e_app, MP.e_split, MP.e_joinI, MP.e_join_r, MP.e_cut_s, MP.e_cut_t, MP.e_cut_f, MP.e_cut_r, MP.tr_b, MP.tr_i, MP.tr_s, MP.tr_n, MP.tr_t, MP.tr_r, MP.x_n, MP.x_b, MP.x_i, MP.x_s, MP.x_t, MP.x_f, MP.x_r, MP.atI_0, MP.atI_1, MP.atI_2, MP.atI_3, MP.atI_m1, MP.ixN_c0, MP.ixN_c1, MP.ixN_c2, MP.e_in_ss, MP.ib_NoneType_bool, MP.ib_NoneType_int, MP.ib_NoneType_str, MP.ib_NoneType_tuple, MP.ib_NoneType_list, MP.ib_NoneType_dict, MP.ib_NoneType_set, MP.ib_bool_bool, MP.ib_bool_int, MP.ib_bool_str, MP.ib_bool_tuple, MP.ib_bool_list, MP.ib_bool_dict, MP.ib_bool_set, MP.ib_int_bool, MP.ib_int_int, MP.ib_int_str, MP.ib_int_tuple, MP.ib_int_list, MP.ib_int_dict, MP.ib_int_set, MP.ib_str_bool, MP.ib_str_int, MP.ib_str_str, MP.ib_str_tuple, MP.ib_str_list, MP.ib_str_dict, MP.ib_str_set, MP.ib_tuple_bool, MP.ib_tuple_int, MP.ib_tuple_str, MP.ib_tuple_tuple, MP.ib_tuple_list, MP.ib_tuple_dict, MP.ib_tuple_set, MP.ib_list_bool, MP.ib_list_int, MP.ib_list_str, MP.ib_list_tuple, MP.ib_list_list, MP.ib_list_dict, MP.ib_list_set, MP.ib_dict_bool, MP.ib_dict_int, MP.ib_dict_str, MP.ib_dict_tuple, MP.ib_dict_list, MP.ib_dict_dict, MP.ib_dict_set, MP.ib_set_bool, MP.ib_set_int, MP.ib_set_str, MP.ib_set_tuple, MP.ib_set_list, MP.ib_set_dict, MP.ib_set_set, Bool.not_true, Bool.not_false, List.any_cons, List.any_nil, Bool.or_false, Bool.or_true, Bool.true_or, Bool.false_or, Bool.and_true, Bool.true_and, Bool.and_false, Bool.false_and, if_true, if_false, ite_true, ite_false, and_true, true_and, Bool.false_eq_true, List.getElem?_cons_zero, List.getElem?_cons_succ, List.set_cons_zero, List.set_cons_succ, List.length_cons, List.length_nil, List.cons_append, List.nil_append]
  refine ⟨hx, v, rfl, rb, _, _, .bool (isNam v), rfl, rd_bl, by rw [nn.1]; exact rd_bl, ?_⟩
  simp only [nr5, MP.pSeq, MP.pIfS, MP.pRet, MP.pRetN, MP.pNext, MP.pAsg, MP.pDrop, MP.pBrk, MP.pCt, MP.pVar, MP.pC, MP.pOp, MP.pUn, MP.pNil, MP.pCons, MP.pCB, MP.pCall, MP.pTup, MP.pTmp, MP.pNew, MP.pCT, MP.pIf, MP.pB, MP.pT, MP.pAnd, MP.pOr, MP.pNot, MP.pAndV, MP.pOrV, MP.pNotV, MP.pChain, MP.pG, MP.pGs, MP.pIxT, MP.pSlice, MP.pPart, MP.pNoPart, MP.pMtT, MP.pJoinT, MP.pAsgS, MP.pAug, MP.body, MP.gd, MP.e_add_ii, MP.e_add_ss, MP.e_add_tt, MP.e_add_rr, MP.e_sub, MP.e_mul_ii, MP.e_mul_si, MP.e_mul_ri, MP.e_iadd_ii, MP.e_iadd_ss, MP.e_pow, MP.e_fdiv, MP.e_mod, MP.e_neg, MP.e_lt, MP.e_le, MP.e_gt, MP.e_ge, MP.e_eq_ii, MP.e_ne_ii, MP.e_eq_ss, MP.e_ne_ss, MP.e_eq_bb, MP.e_ne_bb, MP.e_isN, MP.e_notN, MP.e_ix_s, MP.e_ix_t, MP.e_ix_f, MP.e_ix_r, MP.e_ixT, MP.e_set, MP.e_len_s, MP.e_len_t, MP.e_len_f, MP.e_len_r, MP.e_lenT, MP.e_int_i, MP.e_int_b, MP.e_abs, MP.e_max, MP.e_min, MP.e_tupI, MP.e_lstI, MP.e_allI, MP.e_anyI, MP.e_onI_t, MP.e_onI_f, MP.e_onI_r, MP.e_onL_r, MP.e_isi_n, MP.e_isi_b, MP.e_isi_i, MP.e_isi_s, MP.e_isi_t, MP.e_isi_f, MP.e_isiT_n, MP.e_isiT_b, MP.e_isiT_i, MP.e_isiT_s, MP.e_isiT_t, MP.e_isiT_f, MP.e_app, MP.e_split, MP.e_joinI, MP.e_join_r, MP.e_cut_s, MP.e_cut_t, MP.e_cut_f, MP.e_cut_r, MP.tr_b, MP.tr_i, MP.tr_s, MP.tr_n, MP.tr_t, MP.tr_r, MP.x_n, MP.x_b, MP.x_i, MP.x_s, MP.x_t, MP.x_f, MP.x_r, MP.atI_0, MP.atI_1, MP.atI_2, MP.atI_3, MP.atI_m1, MP.ixN_c0, MP.ixN_c1, MP.ixN_c2, MP.e_in_ss, MP.ib_NoneType_bool, MP.ib_NoneType_int, MP.ib_NoneType_str, MP.ib_NoneType_tuple, MP.ib_NoneType_list, MP.ib_NoneType_dict, MP.ib_NoneType_set, MP.ib_bool_bool, MP.ib_bool_int, MP.ib_bool_str, MP.ib_bool_tuple, MP.ib_bool_list, MP.ib_bool_dict, MP.ib_bool_set, MP.ib_int_bool, MP.ib_int_int, MP.ib_int_str, MP.ib_int_tuple, MP.ib_int_list, MP.ib_int_dict, MP.ib_int_set, MP.ib_str_bool, MP.ib_str_int, MP.ib_str_str, MP.ib_str_tuple, MP.ib_str_list, MP.ib_str_dict, MP.ib_str_set, MP.ib_tuple_bool, MP.ib_tuple_int, MP.ib_tuple_str, MP.ib_tuple_tuple, MP.ib_tuple_list, MP.ib_tuple_dict, MP.ib_tuple_set, MP.ib_list_bool, MP.ib_list_int, MP.ib_list_str, MP.ib_list_tuple, MP.ib_list_list, MP.ib_list_dict, MP.ib_list_set, MP.ib_dict_bool, MP.ib_dict_int, MP.ib_dict_str, MP.ib_dict_tuple, MP.ib_dict_list, MP.ib_dict_dict, MP.ib_dict_set, MP.ib_set_bool, MP.ib_set_int, MP.ib_set_str, MP.ib_set_tuple, MP.ib_set_list, MP.ib_set_dict, MP.ib_set_set, Bool.not_true, Bool.not_false, List.any_cons, List.any_nil, Bool.or_false, Bool.or_true, Bool.true_or, Bool.false_or, Bool.and_true, Bool.true_and, Bool.and_false, Bool.false_and, if_true, if_false, ite_true, ite_false, and_true, true_and, Bool.false_eq_true, List.getElem?_cons_zero, List.getElem?_cons_succ, List.set_cons_zero, List.set_cons_succ, List.length_cons, List.length_nil, List.cons_append, List.nil_append]
  refine ⟨hx, v, rfl, rb, _, _, .bool (isAsk v), rfl, rd_bl, by rw [hk]; exact rd_bl, ?_⟩
  simp only [nr6, MP.pSeq, MP.pIfS, MP.pRet, MP.pRetN, MP.pNext, MP.pAsg, MP.pDrop, MP.pBrk, MP.pCt, MP.pVar, MP.pC, MP.pOp, MP.pUn, MP.pNil, MP.pCons, MP.pCB, MP.pCall, MP.pTup, MP.pTmp, MP.pNew, MP.pCT, MP.pIf, MP.pB, MP.pT, MP.pAnd, MP.pOr, MP.pNot, MP.pAndV, MP.pOrV, MP.pNotV, MP.pChain, MP.pG, MP.pGs, MP.pIxT, MP.pSlice, MP.pPart, MP.pNoPart, MP.pMtT, MP.pJoinT, MP.pAsgS, MP.pAug, MP.body, MP.gd, MP.e_add_ii, MP.e_add_ss, MP.e_add_tt, MP.e_add_rr, MP.e_sub, MP.e_mul_ii, MP.e_mul_si, MP.e_mul_ri, MP.e_iadd_ii, MP.e_iadd_ss, MP.e_pow, MP.e_fdiv, MP.e_mod, MP.e_neg, MP.e_lt, MP.e_le, MP.e_gt, MP.e_ge, MP.e_eq_ii, MP.e_ne_ii, MP.e_eq_ss, MP.e_ne_ss, MP.e_eq_bb, MP.e_ne_bb, MP.e_isN, MP.e_notN, MP.e_ix_s, MP.e_ix_t, MP.e_ix_f, MP.e_ix_r, MP.e_ixT, MP.e_set, MP.e_len_s, MP.e_len_t, MP.e_len_f, MP.e_len_r, MP.e_lenT, MP.e_int_i, MP.e_int_b, MP.e_abs, MP.e_max, MP.e_min, MP.e_tupI, MP.e_lstI, MP.e_allI, MP.e_anyI, MP.e_onI_t, MP.e_onI_f, MP.e_onI_r, MP.e_onL_r, MP.e_isi_n, MP.e_isi_b, MP.e_isi_i, MP.e_isi_s, MP.e_isi_t, MP.e_isi_f, MP.e_isiT_n, MP.e_isiT_b, MP.e_isiT_i, MP.e_isiT_s, MP.e_isiT_t, MP.e_isiT_f, MP.e_app, MP.e_split, MP.e_joinI, MP.e_join_r, MP.e_cut_s, MP.e_cut_t, MP.e_cut_f, MP.e_cut_r, MP.tr_b, MP.tr_i, MP.tr_s, MP.tr_n, MP.tr_t, MP.tr_r, MP.x_n, MP.x_b, MP.x_i, MP.x_s, MP.x_t, MP.x_f, MP.x_r, MP.atI_0, MP.atI_1, MP.atI_2, MP.atI_3, MP.atI_m1, MP.ixN_c0, MP.ixN_c1, MP.ixN_c2, MP.e_in_ss, MP.ib_NoneType_bool, MP.ib_NoneType_int, MP.ib_NoneType_str, MP.ib_NoneType_tuple, MP.ib_NoneType_list, MP.ib_NoneType_dict, MP.ib_NoneType_set, MP.ib_bool_bool, MP.ib_bool_int, MP.ib_bool_str, MP.ib_bool_tuple, MP.ib_bool_list, MP.ib_bool_dict, MP.ib_bool_set, MP.ib_int_bool, MP.ib_int_int, MP.ib_int_str, MP.ib_int_tuple, MP.ib_int_list, MP.ib_int_dict, MP.ib_int_set, MP.ib_str_bool, MP.ib_str_int, MP.ib_str_str, MP.ib_str_tuple, MP.ib_str_list, MP.ib_str_dict, MP.ib_str_set, MP.ib_tuple_bool, MP.ib_tuple_int, MP.ib_tuple_str, MP.ib_tuple_tuple, MP.ib_tuple_list, MP.ib_tuple_dict, MP.ib_tuple_set, MP.ib_list_bool, MP.ib_list_int, MP.ib_list_str, MP.ib_list_tuple, MP.ib_list_list, MP.ib_list_dict, MP.ib_list_set, MP.ib_dict_bool, MP.ib_dict_int, MP.ib_dict_str, MP.ib_dict_tuple, MP.ib_dict_list, MP.ib_dict_dict, MP.ib_dict_set, MP.ib_set_bool, MP.ib_set_int, MP.ib_set_str, MP.ib_set_tuple, MP.ib_set_list, MP.ib_set_dict, MP.ib_set_set, Bool.not_true, Bool.not_false, List.any_cons, List.any_nil, Bool.or_false, Bool.or_true, Bool.true_or, Bool.false_or, Bool.and_true, Bool.true_and, Bool.and_false, Bool.false_and, if_true, if_false, ite_true, ite_false, and_true, true_and, Bool.false_eq_true, List.getElem?_cons_zero, List.getElem?_cons_succ, List.set_cons_zero, List.set_cons_succ, List.length_cons, List.length_nil, List.cons_append, List.nil_append, pCallK, pick]
  refine ⟨hx, rfl, v, rfl, rb, hx, rfl, v, rfl, rb, size2, size2, ?_⟩
  rw [nn.1, hk]
  refine ne_lists (by simp) (by simp) (fun _ => allD_bb) (fun _ => allD_bb) ?_
  simp only [nr7, nr8, MP.pSeq, MP.pIfS, MP.pRet, MP.pRetN, MP.pNext, MP.pAsg, MP.pDrop, MP.pBrk, MP.pCt, MP.pVar, MP.pC, MP.pOp, MP.pUn, MP.pNil, MP.pCons, MP.pCB, MP.pCall, MP.pTup, MP.pTmp, MP.pNew, MP.pCT, MP.pIf, MP.pB, MP.pT, MP.pAnd, MP.pOr, MP.pNot, MP.pAndV, MP.pOrV, MP.pNotV, MP.pChain, MP.pG, MP.pGs, MP.pIxT, MP.pSlice, MP.pPart, MP.pNoPart, MP.pMtT, MP.pJoinT, MP.pAsgS, MP.pAug, MP.body, MP.gd, MP.e_add_ii, MP.e_add_ss, MP.e_add_tt, MP.e_add_rr, MP.e_sub, MP.e_mul_ii, MP.e_mul_si, MP.e_mul_ri, MP.e_iadd_ii, MP.e_iadd_ss, MP.e_pow, MP.e_fdiv, MP.e_mod, MP.e_neg, MP.e_lt, MP.e_le, MP.e_gt, MP.e_ge, MP.e_eq_ii, MP.e_ne_ii, MP.e_eq_ss, MP.e_ne_ss, MP.e_eq_bb, MP.e_ne_bb, MP.e_isN, MP.e_notN, MP.e_ix_s, MP.e_ix_t, MP.e_ix_f, MP.e_ix_r, MP.e_ixT, MP.e_set, MP.e_len_s, MP.e_len_t, MP.e_len_f, MP.e_len_r, MP.e_lenT, MP.e_int_i, MP.e_int_b, MP.e_abs, MP.e_max, MP.e_min, MP.e_tupI, MP.e_lstI, MP.e_allI, MP.e_anyI, MP.e_onI_t, MP.e_onI_f, MP.e_onI_r, MP.e_onL_r, MP.e_isi_n, MP.e_isi_b, MP.e_isi_i, MP.e_isi_s, MP.e_isi_t, MP.e_isi_f, MP.e_isiT_n, MP.e_isiT_b, MP.e_isiT_i, MP.e_isiT_s, MP.e_isiT_t, MP.e_isiT_f, MP.e_app, MP.e_split, MP.e_joinI, MP.e_join_r, MP.e_cut_s, MP.e_cut_t, MP.e_cut_f, MP.e_cut_r, MP.tr_b, MP.tr_i, MP.tr_s, MP.tr_n, MP.tr_t, MP.tr_r, MP.x_n, MP.x_b, MP.x_i, MP.x_s, MP.x_t, MP.x_f, MP.x_r, MP.atI_0, MP.atI_1, MP.atI_2, MP.atI_3, MP.atI_m1, MP.ixN_c0, MP.ixN_c1, MP.ixN_c2, MP.e_in_ss, MP.ib_NoneType_bool, MP.ib_NoneType_int, MP.ib_NoneType_str, MP.ib_NoneType_tuple, MP.ib_NoneType_list, MP.ib_NoneType_dict, MP.ib_NoneType_set, MP.ib_bool_bool, MP.ib_bool_int, MP.ib_bool_str, MP.ib_bool_tuple, MP.ib_bool_list, MP.ib_bool_dict, MP.ib_bool_set, MP.ib_int_bool, MP.ib_int_int, MP.ib_int_str, MP.ib_int_tuple, MP.ib_int_list, MP.ib_int_dict, MP.ib_int_set, MP.ib_str_bool, MP.ib_str_int, MP.ib_str_str, MP.ib_str_tuple, MP.ib_str_list, MP.ib_str_dict, MP.ib_str_set, MP.ib_tuple_bool, MP.ib_tuple_int, MP.ib_tuple_str, MP.ib_tuple_tuple, MP.ib_tuple_list, MP.ib_tuple_dict, MP.ib_tuple_set, MP.ib_list_bool, MP.ib_list_int, MP.ib_list_str, MP.ib_list_tuple, MP.ib_list_list, MP.ib_list_dict, MP.ib_list_set, MP.ib_dict_bool, MP.ib_dict_int, MP.ib_dict_str, MP.ib_dict_tuple, MP.ib_dict_list, MP.ib_dict_dict, MP.ib_dict_set, MP.ib_set_bool, MP.ib_set_int, MP.ib_set_str, MP.ib_set_tuple, MP.ib_set_list, MP.ib_set_dict, MP.ib_set_set, Bool.not_true, Bool.not_false, List.any_cons, List.any_nil, Bool.or_false, Bool.or_true, Bool.true_or, Bool.false_or, Bool.and_true, Bool.true_and, Bool.and_false, Bool.false_and, if_true, if_false, ite_true, ite_false, and_true, true_and, Bool.false_eq_true, List.getElem?_cons_zero, List.getElem?_cons_succ, List.set_cons_zero, List.set_cons_succ, List.length_cons, List.length_nil, List.cons_append, List.nil_append]
  refine ⟨hx, size2, ?_⟩
  rw [List.append_assoc]
  exact nrB_bad (rd_app _ r) nn fun t => by rw [List.append_assoc]; exact k _ _ _ _
theorem nrA_good {D : PD} {h : PHeap} {a0 a1 a4 a5 a6 : Option PV} {q : Nat} {ss : List Str} (eq : h[q]? = some (.lst (ss.map .str))) (l : ss.length ≤ 12) (m : ∀ s ∈ ss, s.length ≤ 50) (e : isNam (.tup (ss.map .str)) = true) (k : ∀ (t : PHeap) τ3 τ4 τ5 τ6, D.nx [a0, a1, some (.ref q), τ3, τ4, τ5, τ6] (h ++ t)) :
    nrA D [a0, a1, some (.ref q), some (.tup (ss.map .str)), a4, a5, a6] h := by
  have rb : ∀ h : PHeap, Rb h (.tup (ss.map .str)) := fun h => ⟨_, rd_strs (by omega)⟩
  have hk : isAsk (.tup (ss.map .str)) = !star1 (.tup (ss.map .str)) := by unfold isAsk; rw [e]; rfl
  unfold nrA
  refine seq_asg ⟨rfl, rfl, _, rfl, rb h, ?_⟩
  rw [e]
  refine seq_if ?_
  simp only [MP.pSeq, MP.pIfS, MP.pRet, MP.pRetN, MP.pNext, MP.pAsg, MP.pDrop, MP.pBrk, MP.pCt, MP.pVar, MP.pC, MP.pOp, MP.pUn, MP.pNil, MP.pCons, MP.pCB, MP.pCall, MP.pTup, MP.pTmp, MP.pNew, MP.pCT, MP.pIf, MP.pB, MP.pT, MP.pAnd, MP.pOr, MP.pNot, MP.pAndV, MP.pOrV, MP.pNotV, MP.pChain, MP.pG, MP.pGs, MP.pIxT, MP.pSlice, MP.pPart, MP.pNoPart, MP.pMtT, MP.pJoinT, MP.pAsgS, MP.pAug, MP.body, MP.gd, MP.e_add_ii, MP.e_add_ss, MP.e_add_tt, MP.e_add_rr, MP.e_sub, MP.e_mul_ii, MP.e_mul_si, MP.e_mul_ri, MP.e_iadd_ii, MP.e_iadd_ss, MP.e_pow, MP.e_fdiv, MP.e_mod, MP.e_neg, MP.e_lt, MP.e_le, MP.e_gt, MP.e_ge, MP.e_eq_ii, MP.e_ne_ii, MP.e_eq_ss, MP.e_ne_ss, MP.e_eq_bb, MP.e_ne_bb, MP.e_isN, MP.e_notN, MP.e_ix_s, MP.e_ix_t, MP.e_ix_f, MP.e_ix_r, MP.e_ixT, MP.e_set, MP.e_len_s, MP.e_len_t, MP.e_len_f, MP.e_len_r, MP.e_lenT, MP.e_int_i, MP.e_int_b, MP.e_abs, MP.e_max, MP.e_min, MP.e_tupI, MP.e_lstI, MP.e_allI, MP.e_anyI, MP.e_onI_t, MP.e_onI_f, MP.e_onI_r, MP.e_onL_r, MP.e_isi_n, MP.e_isi_b, MP.e_isi_i, MP.e_isi_s, MP.e_isi_t, MP.e_isi_f, MP.e_isiT_n, MP.e_isiT_b, MP.e_isiT_i, MP.e_isiT_s, MP.e_isiT_t, MP.e_isiT_f, MP.e_app, MP.e_split, MP.e_joinI, MP.e_join_r, MP.e_cut_s, MP.e_cut_t, MP.e_cut_f, MP.e_cut_r, MP.tr_b, MP.tr_i, MP.tr_s, MP.tr_n, MP.tr_t, MP.tr_r, MP.x_n, MP.x_b, MP.x_i, MP.x_s, MP.x_t, MP.x_f, MP.x_r, MP.atI_0, MP.atI_1, MP.atI_2, MP.atI_3, MP.atI_m1, MP.ixN_c0, MP.ixN_c1, MP.ixN_c2, MP.e_in_ss, MP.ib_NoneType_bool, MP.ib_NoneType_int, MP.ib_NoneType_str, MP.ib_NoneType_tuple, MP.ib_NoneType_list, MP.ib_NoneType_dict, MP.ib_NoneType_set, MP.ib_bool_bool, MP.ib_bool_int, MP.ib_bool_str, MP.ib_bool_tuple, MP.ib_bool_list, MP.ib_bool_dict, MP.ib_bool_set, MP.ib_int_bool, MP.ib_int_int, MP.ib_int_str, MP.ib_int_tuple, MP.ib_int_list, MP.ib_int_dict, MP.ib_int_set, MP.ib_str_bool, MP.ib_str_int, MP.ib_str_str, MP.ib_str_tuple, MP.ib_str_list, MP.ib_str_dict, MP.ib_str_set, MP.ib_tuple_bool, MP.ib_tuple_int, MP.ib_tuple_str, MP.ib_tuple_tuple, MP.ib_tuple_list, MP.ib_tuple_dict, MP.ib_tuple_set, MP.ib_list_bool, MP.ib_list_int, MP.ib_list_str, MP.ib_list_tuple, MP.ib_list_list, MP.ib_list_dict, MP.ib_list_set, MP.ib_dict_bool, MP.ib_dict_int, MP.ib_dict_str, MP.ib_dict_tuple, MP.ib_dict_list, MP.ib_dict_dict, MP.ib_dict_set, MP.ib_set_bool, MP.ib_set_int, MP.ib_set_str, MP.ib_set_tuple, MP.ib_set_list, MP.ib_set_dict, MP.ib_set_set, Bool.not_true, Bool.not_false, List.any_cons, List.any_nil, Bool.or_false, Bool.or_true, Bool.true_or, Bool.false_or, Bool.and_true, Bool.true_and, Bool.and_false, Bool.false_and, if_true, if_false, ite_true, ite_false, and_true, true_and, Bool.false_eq_true, List.getElem?_cons_zero, List.getElem?_cons_succ, List.set_cons_zero, List.set_cons_succ, List.length_cons, List.length_nil, List.cons_append, List.nil_append]
  refine ⟨_, rfl, rb h, _, _, .bool true, rfl, by rw [e]; exact rd_bl, rd_bl, ?_⟩
  simp only [nr5, MP.pSeq, MP.pIfS, MP.pRet, MP.pRetN, MP.pNext, MP.pAsg, MP.pDrop, MP.pBrk, MP.pCt, MP.pVar, MP.pC, MP.pOp, MP.pUn, MP.pNil, MP.pCons, MP.pCB, MP.pCall, MP.pTup, MP.pTmp, MP.pNew, MP.pCT, MP.pIf, MP.pB, MP.pT, MP.pAnd, MP.pOr, MP.pNot, MP.pAndV, MP.pOrV, MP.pNotV, MP.pChain, MP.pG, MP.pGs, MP.pIxT, MP.pSlice, MP.pPart, MP.pNoPart, MP.pMtT, MP.pJoinT, MP.pAsgS, MP.pAug, MP.body, MP.gd, MP.e_add_ii, MP.e_add_ss, MP.e_add_tt, MP.e_add_rr, MP.e_sub, MP.e_mul_ii, MP.e_mul_si, MP.e_mul_ri, MP.e_iadd_ii, MP.e_iadd_ss, MP.e_pow, MP.e_fdiv, MP.e_mod, MP.e_neg, MP.e_lt, MP.e_le, MP.e_gt, MP.e_ge, MP.e_eq_ii, MP.e_ne_ii, MP.e_eq_ss, MP.e_ne_ss, MP.e_eq_bb, MP.e_ne_bb, MP.e_isN, MP.e_notN, MP.e_ix_s, MP.e_ix_t, MP.e_ix_f, MP.e_ix_r, MP.e_ixT, MP.e_set, MP.e_len_s, MP.e_len_t, MP.e_len_f, MP.e_len_r, MP.e_lenT, MP.e_int_i, MP.e_int_b, MP.e_abs, MP.e_max, MP.e_min, MP.e_tupI, MP.e_lstI, MP.e_allI, MP.e_anyI, MP.e_onI_t, MP.e_onI_f, MP.e_onI_r, MP.e_onL_r, MP.e_isi_n, MP.e_isi_b, MP.e_isi_i, MP.e_isi_s, MP.e_isi_t, MP.e_isi_f, MP.e_isiT_n, MP.e_isiT_b, MP.e_isiT_i, MP.e_isiT_s, MP.e_isiT_t, MP.e_isiT_f, MP.e_app, MP.e_split, MP.e_joinI, MP.e_join_r, MP.e_cut_s, MP.e_cut_t, MP.e_cut_f, MP.e_cut_r, MP.tr_b, MP.tr_i, MP.tr_s, MP.tr_n, MP.tr_t, MP.tr_r, MP.x_n, MP.x_b, MP.x_i, MP.x_s, MP.x_t, MP.x_f, MP.x_r, MP.atI_0, MP.atI_1, MP.atI_2, MP.atI_3, MP.atI_m1, MP.ixN_c0, MP.ixN_c1, MP.ixN_c2, MP.e_in_ss, MP.ib_NoneType_bool, MP.ib_NoneType_int, MP.ib_NoneType_str, MP.ib_NoneType_tuple, MP.ib_NoneType_list, MP.ib_NoneType_dict, MP.ib_NoneType_set, MP.ib_bool_bool, MP.ib_bool_int, MP.ib_bool_str, MP.ib_bool_tuple, MP.ib_bool_list, MP.ib_bool_dict, MP.ib_bool_set, MP.ib_int_bool, MP.ib_int_int, MP.ib_int_str, MP.ib_int_tuple, MP.ib_int_list, MP.ib_int_dict, MP.ib_int_set, MP.ib_str_bool, MP.ib_str_int, MP.ib_str_str, MP.ib_str_tuple, MP.ib_str_list, MP.ib_str_dict, MP.ib_str_set, MP.ib_tuple_bool, MP.ib_tuple_int, MP.ib_tuple_str, MP.ib_tuple_tuple, MP.ib_tuple_list, MP.ib_tuple_dict, MP.ib_tuple_set, MP.ib_list_bool, MP.ib_list_int, MP.ib_list_str, MP.ib_list_tuple, MP.ib_list_list, MP.ib_list_dict, MP.ib_list_set, MP.ib_dict_bool, MP.ib_dict_int, MP.ib_dict_str, MP.ib_dict_tuple, MP.ib_dict_list, MP.ib_dict_dict, MP.ib_dict_set, MP.ib_set_bool, MP.ib_set_int, MP.ib_set_str, MP.ib_set_tuple, MP.ib_set_list, MP.ib_set_dict, MP.ib_set_set, Bool.not_true, Bool.not_false, List.any_cons, List.any_nil, Bool.or_false, Bool.or_true, Bool.true_or, Bool.false_or, Bool.and_true, Bool.true_and, Bool.and_false, Bool.false_and, if_true, if_false, ite_true, ite_false, and_true, true_and, Bool.false_eq_true, List.getElem?_cons_zero, List.getElem?_cons_succ, List.set_cons_zero, List.set_cons_succ, List.length_cons, List.length_nil, List.cons_append, List.nil_append]
  refine ⟨_, rfl, rb h, size1, ne_star (by omega) ⟨_, _, .bool (isAsk (.tup (ss.map .str))), rfl, rd_bl, by rw [hk]; exact rd_bl, ?_⟩⟩
  simp only [nr6, MP.pSeq, MP.pIfS, MP.pRet, MP.pRetN, MP.pNext, MP.pAsg, MP.pDrop, MP.pBrk, MP.pCt, MP.pVar, MP.pC, MP.pOp, MP.pUn, MP.pNil, MP.pCons, MP.pCB, MP.pCall, MP.pTup, MP.pTmp, MP.pNew, MP.pCT, MP.pIf, MP.pB, MP.pT, MP.pAnd, MP.pOr, MP.pNot, MP.pAndV, MP.pOrV, MP.pNotV, MP.pChain, MP.pG, MP.pGs, MP.pIxT, MP.pSlice, MP.pPart, MP.pNoPart, MP.pMtT, MP.pJoinT, MP.pAsgS, MP.pAug, MP.body, MP.gd, MP.e_add_ii, MP.e_add_ss, MP.e_add_tt, MP.e_add_rr, MP.e_sub, MP.e_mul_ii, MP.e_mul_si, MP.e_mul_ri, MP.e_iadd_ii, MP.e_iadd_ss, MP.e_pow, MP.e_fdiv, MP.e_mod, MP.e_neg, MP.e_lt, MP.e_le, MP.e_gt, MP.e_ge, MP.e_eq_ii, MP.e_ne_ii, MP.e_eq_ss, MP.e_ne_ss, MP.e_eq_bb, MP.e_ne_bb, MP.e_isN, MP.e_notN, MP.e_ix_s, MP.e_ix_t, MP.e_ix_f, MP.e_ix_r, MP.e_ixT, MP.e_set, MP.e_len_s, MP.e_len_t, MP.e_len_f, MP.e_len_r, MP.e_lenT, MP.e_int_i, MP.e_int_b, MP.e_abs, MP.e_max, MP.e_min, MP.e_tupI, MP.e_lstI, MP.e_allI, MP.e_anyI, MP.e_onI_t, MP.e_onI_f, MP.e_onI_r, MP.e_onL_r, MP.e_isi_n, MP.e_isi_b, MP.e_isi_i, MP.e_isi_s, MP.e_isi_t, MP.e_isi_f, MP.e_isiT_n, MP.e_isiT_b, MP.e_isiT_i, MP.e_isiT_s, MP.e_isiT_t, MP.e_isiT_f, MP.e_app, MP.e_split, MP.e_joinI, MP.e_join_r, MP.e_cut_s, MP.e_cut_t, MP.e_cut_f, MP.e_cut_r, MP.tr_b, MP.tr_i, MP.tr_s, MP.tr_n, MP.tr_t, MP.tr_r, MP.x_n, MP.x_b, MP.x_i, MP.x_s, MP.x_t, MP.x_f, MP.x_r, MP.atI_0, MP.atI_1, MP.atI_2, MP.atI_3, MP.atI_m1, MP.ixN_c0, MP.ixN_c1, MP.ixN_c2, MP.e_in_ss, MP.ib_NoneType_bool, MP.ib_NoneType_int, MP.ib_NoneType_str, MP.ib_NoneType_tuple, MP.ib_NoneType_list, MP.ib_NoneType_dict, MP.ib_NoneType_set, MP.ib_bool_bool, MP.ib_bool_int, MP.ib_bool_str, MP.ib_bool_tuple, MP.ib_bool_list, MP.ib_bool_dict, MP.ib_bool_set, MP.ib_int_bool, MP.ib_int_int, MP.ib_int_str, MP.ib_int_tuple, MP.ib_int_list, MP.ib_int_dict, MP.ib_int_set, MP.ib_str_bool, MP.ib_str_int, MP.ib_str_str, MP.ib_str_tuple, MP.ib_str_list, MP.ib_str_dict, MP.ib_str_set, MP.ib_tuple_bool, MP.ib_tuple_int, MP.ib_tuple_str, MP.ib_tuple_tuple, MP.ib_tuple_list, MP.ib_tuple_dict, MP.ib_tuple_set, MP.ib_list_bool, MP.ib_list_int, MP.ib_list_str, MP.ib_list_tuple, MP.ib_list_list, MP.ib_list_dict, MP.ib_list_set, MP.ib_dict_bool, MP.ib_dict_int, MP.ib_dict_str, MP.ib_dict_tuple, MP.ib_dict_list, MP.ib_dict_dict, MP.ib_dict_set, MP.ib_set_bool, MP.ib_set_int, MP.ib_set_str, MP.ib_set_tuple, MP.ib_set_list, MP.ib_set_dict, MP.ib_set_set, Bool.not_true, Bool.not_false, List.any_cons, List.any_nil, Bool.or_false, Bool.or_true, Bool.true_or, Bool.false_or, Bool.and_true, Bool.true_and, Bool.and_false, Bool.false_and, if_true, if_false, ite_true, ite_false, and_true, true_and, Bool.false_eq_true, List.getElem?_cons_zero, List.getElem?_cons_succ, List.set_cons_zero, List.set_cons_succ, List.length_cons, List.length_nil, List.cons_append, List.nil_append, pCallK, pick]
  refine ⟨rfl, _, rfl, rb h, rfl, _, rfl, rb h, size2, size1, ne_star (by omega) ⟨size2, ?_⟩⟩
  rw [e, hk]
  refine ne_lists (by simp) (by simp) (fun _ => allD_bb) (fun _ => allD_bb) ?_
  simp only [nr7, nr8, MP.pSeq, MP.pIfS, MP.pRet, MP.pRetN, MP.pNext, MP.pAsg, MP.pDrop, MP.pBrk, MP.pCt, MP.pVar, MP.pC, MP.pOp, MP.pUn, MP.pNil, MP.pCons, MP.pCB, MP.pCall, MP.pTup, MP.pTmp, MP.pNew, MP.pCT, MP.pIf, MP.pB, MP.pT, MP.pAnd, MP.pOr, MP.pNot, MP.pAndV, MP.pOrV, MP.pNotV, MP.pChain, MP.pG, MP.pGs, MP.pIxT, MP.pSlice, MP.pPart, MP.pNoPart, MP.pMtT, MP.pJoinT, MP.pAsgS, MP.pAug, MP.body, MP.gd, MP.e_add_ii, MP.e_add_ss, MP.e_add_tt, MP.e_add_rr, MP.e_sub, MP.e_mul_ii, MP.e_mul_si, MP.e_mul_ri, MP.e_iadd_ii, MP.e_iadd_ss, MP.e_pow, MP.e_fdiv, MP.e_mod, MP.e_neg, MP.e_lt, MP.e_le, MP.e_gt, MP.e_ge, MP.e_eq_ii, MP.e_ne_ii, MP.e_eq_ss, MP.e_ne_ss, MP.e_eq_bb, MP.e_ne_bb, MP.e_isN, MP.e_notN, MP.e_ix_s, MP.e_ix_t, MP.e_ix_f, MP.e_ix_r, MP.e_ixT, MP.e_set, MP.e_len_s, MP.e_len_t, MP.e_len_f, MP.e_len_r, MP.e_lenT, MP.e_int_i, MP.e_int_b, MP.e_abs, MP.e_max, MP.e_min, MP.e_tupI, MP.e_lstI, MP.e_allI, MP.e_anyI, MP.e_onI_t, MP.e_onI_f, MP.e_onI_r, MP.e_onL_r, MP.e_isi_n, MP.e_isi_b, MP.e_isi_i, MP.e_isi_s, MP.e_isi_t, MP.e_isi_f, MP.e_isiT_n, MP.e_isiT_b, MP.e_isiT_i, MP.e_isiT_s, MP.e_isiT_t, MP.e_isiT_f, MP.e_app, MP.e_split, MP.e_joinI, MP.e_join_r, MP.e_cut_s, MP.e_cut_t, MP.e_cut_f, MP.e_cut_r, MP.tr_b, MP.tr_i, MP.tr_s, MP.tr_n, MP.tr_t, MP.tr_r, MP.x_n, MP.x_b, MP.x_i, MP.x_s, MP.x_t, MP.x_f, MP.x_r, MP.atI_0, MP.atI_1, MP.atI_2, MP.atI_3, MP.atI_m1, MP.ixN_c0, MP.ixN_c1, MP.ixN_c2, MP.e_in_ss, MP.ib_NoneType_bool, MP.ib_NoneType_int, MP.ib_NoneType_str, MP.ib_NoneType_tuple, MP.ib_NoneType_list, MP.ib_NoneType_dict, MP.ib_NoneType_set, MP.ib_bool_bool, MP.ib_bool_int, MP.ib_bool_str, MP.ib_bool_tuple, MP.ib_bool_list, MP.ib_bool_dict, MP.ib_bool_set, MP.ib_int_bool, MP.ib_int_int, MP.ib_int_str, MP.ib_int_tuple, MP.ib_int_list, MP.ib_int_dict, MP.ib_int_set, MP.ib_str_bool, MP.ib_str_int, MP.ib_str_str, MP.ib_str_tuple, MP.ib_str_list, MP.ib_str_dict, MP.ib_str_set, MP.ib_tuple_bool, MP.ib_tuple_int, MP.ib_tuple_str, MP.ib_tuple_tuple, MP.ib_tuple_list, MP.ib_tuple_dict, MP.ib_tuple_set, MP.ib_list_bool, MP.ib_list_int, MP.ib_list_str, MP.ib_list_tuple, MP.ib_list_list, MP.ib_list_dict, MP.ib_list_set, MP.ib_dict_bool, MP.ib_dict_int, MP.ib_dict_str, MP.ib_dict_tuple, MP.ib_dict_list, MP.ib_dict_dict, MP.ib_dict_set, MP.ib_set_bool, MP.ib_set_int, MP.ib_set_str, MP.ib_set_tuple, MP.ib_set_list, MP.ib_set_dict, MP.ib_set_set, Bool.not_true, Bool.not_false, List.any_cons, List.any_nil, Bool.or_false, Bool.or_true, Bool.true_or, Bool.false_or, Bool.and_true, Bool.true_and, Bool.and_false, Bool.false_and, if_true, if_false, ite_true, ite_false, and_true, true_and, Bool.false_eq_true, List.getElem?_cons_zero, List.getElem?_cons_succ, List.set_cons_zero, List.set_cons_succ, List.length_cons, List.length_nil, List.cons_append, List.nil_append]
  refine ⟨size2, ?_⟩
  have q2 : (h ++ [Cell.lst [PV.bl true, .bl (!star1 (.tup (ss.map .str)))]] ++ [Cell.lst [PV.bl true, .bl (!star1 (.tup (ss.map .str)))]])[q]? = some (.lst (ss.map .str)) := by
    have lq := (List.getElem?_eq_some_iff.mp eq).1
    rw [List.append_assoc, List.getElem?_append_left lq]
    exact eq
  have P3 : ∀ t τ3 τ4 τ5 τ6, D.nx [a0, a1, some (.ref q), τ3, τ4, τ5, τ6] (h ++ [Cell.lst [PV.bl true, .bl (!star1 (.tup (ss.map .str)))]] ++ [Cell.lst [PV.bl true, .bl (!star1 (.tup (ss.map .str)))]] ++ t) := fun t => by
    rw [List.append_assoc, List.append_assoc]
    exact k _
  generalize (h ++ [Cell.lst [PV.bl true, .bl (!star1 (.tup (ss.map .str)))]] ++ [Cell.lst [PV.bl true, .bl (!star1 (.tup (ss.map .str)))]]) = H at q2 P3 ⊢
  have fin : nrB D [a0, a1, some (.ref q), some (.tup (ss.map .str)), some (.bl true), some (.tup [.str "text", .str (shown ss)]), a6] (H ++ [Cell.lst []]) :=
    nrB_good l m e fun t => by rw [List.append_assoc]; exact P3 _ _ _ _ _
  have r1 : rd (H ++ [Cell.lst []]) 64 (.ref q) = some (.list (ss.map .str)) := rd_ref_of (xs := ss.map .str) (by rw [List.getElem?_append_left (List.getElem?_eq_some_iff.mp q2).1]; exact q2) (by rw [List.length_map]; omega) (allD_strs ss)
  have r2 : rd (H ++ [Cell.lst []]) 64 (.ref H.length) = some (.list []) := rd_ref_of (xs := []) (by rw [List.getElem?_concat_length]) (by decide) rfl
  refine ⟨rfl, ?_⟩
  dsimp only
  rw [q2]
  refine join_dots (b := 50) q2 (by omega) (by omega) m (fun _ => rfl) ⟨size2, Nat.zero_le _, ?_⟩
  rw [e_eq r1 r2]
  by_cases hn : ss = []
  · subst hn
    exact ⟨size2, fin⟩
  · have hz : PyData.eqv (.list (ss.map .str)) (.list []) = false := by
      have := eqvAll_strs ss []
      rw [List.map_nil] at this
      simp [PyData.eqv, this, hn]
    rw [hz]
    dsimp only
    rw [if_neg (by decide)]
    have hs : shown ss = Txt.join "" (ss.map (· ++ ".")) := by unfold shown; rw [if_neg hn]
    rw [hs] at fin
    exact fin
theorem pure__law_names_right (vs : List PV) (h : PHeap) (Q : PQ) (Ex : PXQ) (_ : vs.length = 1) (hh : sp_part 5000 vs h Q Ex) : t__law_names_right sp_some sp_is_name sp_draw (sp_same 18) sp_shown sp_is_name sp_is_asked sp_kept sp_odd sp_show_name sp_name_of (body Q Ex) (pstart 7 vs) h := by
  obtain ⟨p, n, rfl, P, k⟩ := hh
  rw [nr_eq]
  show pSeq _ _ (body Q Ex) [some (.ref p), none, none, none, none, none, none] h
  refine seq_for (pRng1_of (n := 5) (fun Q q => q) (by decide) ?_)
  refine forGo_inv (fun j τ h' => ∃ a b c d e f, τ = [some (.ref p), a, b, c, d, e, f] ∧ j ≤ 5 ∧ Pot h' p (n + 1000 * (5 - j)) ∧ Ev p h h') _ (fun _ _ _ _ => trivial) (fun τ h' z => ?_) (fun j x τ h' N ej z nn => ?_) _ _ ⟨none, none, none, none, none, none, rfl, by decide, P, .refl⟩
  · obtain ⟨a, b, c, d, e, f, rfl, hj, P1, E1⟩ := z
    rw [rng_len] at P1
    exact k _ P1 E1
  · obtain ⟨a1, a2, a3, a4, a5, a6, rfl, hj, P1, E1⟩ := z
    have hj : j < 5 := by
      have := (List.getElem?_eq_some_iff.mp ej).1
      rwa [rng_len] at this
    refine ⟨_, rfl, ?_⟩
    have ew : n + 1000 * (5 - j) = n + 1000 * (5 - (j + 1)) + 197 + 1 + 1 + 1 + 800 := by omega
    rw [ew] at P1
    refine seq_asg ⟨rfl, rfl, p, _, rfl, P1, fun q ss h2 eq nq hq lss mss P2 E2 => ?_⟩
    have E2 := E1.trans E2
    refine seq_asg ⟨rfl, ?_⟩
    show onItems MP.rTupI [.ref q] h2 _
    rw [e_onI_r, eq]
    have after : ∀ (v : PV) (h3 : PHeap), (v = .tup (ss.map .str) ∨ Rd8 p v h3 ∧ NoN v) → h3[q]? = some (.lst (ss.map .str)) → Pot h3 p (n + 1000 * (5 - (j + 1))) → Ev p h h3 →
        nrA { (body Q Ex) with nx := N, ct := N, bk := (body Q Ex).nx } [some (.ref p), some x, some (.ref q), some v, a4, a5, a6] h3 := by
      intro v h3 hv q3 P3 E3
      have bad : ∀ d, rd h3 8 v = some d → NoN v → nrA { (body Q Ex) with nx := N, ct := N, bk := (body Q Ex).nx } [some (.ref p), some x, some (.ref q), some v, a4, a5, a6] h3 := fun d r nv => nrA_bad r nv fun t τ3 τ4 τ5 => nn _ _ ⟨_, _, _, _, _, _, rfl, hj, P3.app t, E3.trans (.app t)⟩
      rcases hv with rfl | ⟨⟨d, r⟩, nv⟩
      · cases e : isNam (.tup (ss.map .str)) with
        | true => exact nrA_good q3 lss mss e fun t τ3 τ4 τ5 τ6 => nn _ _ ⟨_, _, _, _, _, _, rfl, hj, P3.app t, E3.trans (.app t)⟩
        | false => exact bad _ (rd_strs (by omega)) ⟨e, rfl⟩
      · exact bad d (rd_hid r) nv
    refine seq_if ⟨rfl, rfl, p, 5, _, rfl, by decide, by decide, P2, fun r h3 r0 r1 P3 E3 l3 => ?_⟩
    have q3 := E3.lst nq eq
    have E3 := E2.trans E3
    simp only [e_eq_ii, MP.pC]
    by_cases c : r = 4
    · rw [if_pos (decide_eq_true c)]
      refine ⟨rfl, ?_⟩
      dsimp only
      show onItems MP.rLstI [.ref q] h3 _
      rw [e_onI_r, q3]
      refine ⟨rfl, rfl, p, _, rfl, P3.app _, fun v h4 rv nv P4 E4 => ⟨size2, rfl, rfl, p, 2, _, rfl, by decide, by decide, P4.le (by omega : n + 1000 * (5 - (j + 1)) + 197 ≤ _), fun r2 h5 r20 r21 P5 E5 l5 => ?_⟩⟩
      have lp := P3.lt
      have E45 := E4.trans E5
      have q5 : h5[h3.length]? = some (.lst (ss.map .str)) := E45.lst (by omega) (by rw [List.getElem?_concat_length])
      have q6 : h5[q]? = some (.lst (ss.map .str)) := ((Ev.app _).trans E45).lst nq q3
      have E6 := (E3.trans (.app _)).trans E45
      have hr : r2 = 0 ∨ r2 = 1 := by omega
      rcases hr with rfl | rfl
      · refine after (.ref h3.length) h5 (.inr ⟨⟨.list (ss.map .str), rd_ref_of (xs := ss.map .str) ?_ (by rw [List.length_map]; omega) (allD_strs ss)⟩, rfl, rfl⟩) q6 (P5.le (by omega)) E6
        unfold hid
        rw [List.getElem?_set_ne (by omega)]
        exact q5
      · exact after v h5 (.inr ⟨rv.ev E5, nv⟩) q6 (P5.le (by omega)) E6
    · rw [if_neg (by simpa using c)]
      exact after _ h3 (.inl rfl) q3 (P3.le (by omega)) E3
end L_k01
set_option maxHeartbeats 4000000
namespace L_k01
open PySem MP TL
def tr0 : PTS := pAsg (pJoinT (pC (.str "")) (pLc (pIter (pSlice (pCall (gd 1 sp_some) (pCons (pVar 0) (pNil))) (pNoPart) (pPart (pC (.int 11))))) (.nm 7) (pYes) (pOp MP.rAdd (pVar 7) (pC (.str "."))) [7])) (.nm 2)
def tr1 : PTS := pAsg (pCall (gd 2 sp_draw) (pCons (pVar 0) (pCons (pC (.int 6)) (pNil)))) (.nm 3)
def tr2 : PTS := pAsg (pCall (gd 2 sp_draw) (pCons (pVar 0) (pCons (pOp MP.rAdd (pCB MP.rLen (pCons (pVar 2) (pNil))) (pC (.int 1))) (pNil)))) (.nm 4)
def tr3 : PTS := pIfS (pB (pOp rEqP (pVar 3) (pC (.int 3)))) (pAsg (pOp MP.rAdd (pOp MP.rAdd (pSlice (pVar 2) (pNoPart) (pPart (pVar 4))) (pC (.str "."))) (pSlice (pVar 2) (pPart (pVar 4)) (pNoPart))) (.nm 2)) (pNext)
def tr4 : PTS := pIfS (pB (pOp rEqP (pVar 3) (pC (.int 4)))) (pAsg (pOp MP.rAdd (pSlice (pVar 2) (pNoPart) (pPart (pVar 4))) (pSlice (pVar 2) (pPart (pOp MP.rAdd (pVar 4) (pC (.int 1)))) (pNoPart))) (.nm 2)) (pNext)
def tr5 : PTS := pIfS (pB (pOp rEqP (pVar 3) (pC (.int 5)))) (pSeq (pAsg (pNew (pTmp (pCons (pC (.str "")) (pCons (pC (.str ".")) (pCons (pC (.str "..")) (pCons (pC (.str "*.")) (pCons (pC (.str "*")) (pCons (pC (.str "a")) (pCons (pC (.str ".a.")) (pCons (pC (.str "a..")) (pCons (pC (.str "*.*.")) (pCons (pC (.str "a.*.")) (pCons (pC (.str " .")) (pCons (pC (.str "a.\n")) (pCons (pC (.str "\n")) (pCons (pC (.str "-.")) (pNil))))))))))))))))) (.nm 6)) (pAsg (pOp MP.rIx (pVar 6) (pCall (gd 2 sp_draw) (pCons (pVar 0) (pCons (pC (.int 14)) (pNil))))) (.nm 2))) (pNext)
def tr6 : PTS := pAsg (pCall (gd 1 sp_read) (pCons (pVar 2) (pNil))) (.nm 5)
def tr7 : PTS := pIfS (pB (pOp rEqP (pVar 5) (pNew (pTmp (pNil))))) (pIfS (pOr (pB (pOp rNeP (pCall (gd 1 sp_told) (pCons (pVar 2) (pNil))) (pTup (pCons (pC (.str "refused")) (pCons (pVar 2) (pNil)))))) (pNot (pT (pCall (gd 1 sp_base) (pCons (pVar 2) (pNil)))))) (pRet (pC (.bl false))) (pNext)) (pIfS (pOr (pNot (pT (pCall (gd 2 (sp_same 18)) (pCons (pCall (gd 1 sp_told) (pCons (pVar 2) (pNil))) (pCons (pTup (pCons (pC (.str "name")) (pCons (pOp MP.rIx (pVar 5) (pC (.int 0))) (pNil)))) (pNil)))))) (pB (pOp rNeP (pCall (gd 1 sp_show_name) (pCons (pOp MP.rIx (pVar 5) (pC (.int 0))) (pNil))) (pVar 2)))) (pRet (pC (.bl false))) (pNext))
theorem tr_eq : t__law_texts_right sp_draw sp_read sp_told sp_base (sp_same 18) sp_show_name sp_some = pSeq (pFor (pRng1 (pC (.int 6))) (.nm 1) (pSeq tr0 (pSeq tr1 (pSeq tr2 (pSeq tr3 (pSeq tr4 (pSeq tr5 (pSeq tr6 tr7)))))))) (pRet (pC (.bl true))) := rfl
theorem read_len {s : Str} {ss : List Str} (e : readN s = some ss) : ss.length ≤ s.length + 1 := by
  unfold readN at e
  by_cases h1 : s = "."
  · rw [if_pos h1] at e; cases e; simp
  · rw [if_neg h1] at e
    have lc := len_cutS s none (some (-1))
    have ls := split_len (a := L2.cutS s none (some (-1))) dot1 dot2
    cases h2 : ((tl s).getLast? == some 46) with
    | false => rw [h2] at e; cases e
    | true =>
      rw [h2, if_pos rfl] at e
      split at e
      · cases e
        omega
      · cases e
theorem tr67 {D : PD} {h : PHeap} {a0 a1 a3 a4 a5 a6 a7 : Option PV} {s : Str} (ls : s.length ≤ 10000) (k : ∀ (t : PHeap) τ5, D.nx [a0, a1, some (.str s), a3, a4, τ5, a6, a7] (h ++ t)) :
    pSeq tr6 tr7 D [a0, a1, some (.str s), a3, a4, a5, a6, a7] h := by
  refine seq_asg ⟨rfl, rfl, s, rfl, ls, fun t q hq e => ?_⟩
  have k2 : ∀ (t2 : PHeap) τ5, D.nx [a0, a1, some (.str s), a3, a4, τ5, a6, a7] (h ++ t ++ t2) := fun t2 τ5 => by rw [List.append_assoc]; exact k _ _
  generalize h ++ t = H at e k2 ⊢
  simp only [tr7, MP.pSeq, MP.pIfS, MP.pRet, MP.pRetN, MP.pNext, MP.pAsg, MP.pDrop, MP.pBrk, MP.pCt, MP.pVar, MP.pC, MP.pOp, MP.pUn, MP.pNil, MP.pCons, MP.pCB, MP.pCall, MP.pTup, MP.pTmp, MP.pNew, MP.pCT, MP.pIf, MP.pB, MP.pT, MP.pAnd, MP.pOr, MP.pNot, MP.pAndV, MP.pOrV, MP.pNotV, MP.pChain, MP.pG, MP.pGs, MP.pIxT, MP.pSlice, MP.pPart, MP.pNoPart, MP.pMtT, MP.pJoinT, MP.pAsgS, MP.pAug, MP.body, MP.gd, MP.e_add_ii, MP.e_add_ss, MP.e_add_tt, MP.e_add_rr, MP.e_sub, MP.e_mul_ii, MP.e_mul_si, MP.e_mul_ri, MP.e_iadd_ii, MP.e_iadd_ss, MP.e_pow, MP.e_fdiv, MP.e_mod, MP.e_neg, MP.e_lt, MP.e_le, MP.e_gt, MP.e_ge, MP.e_eq_ii, MP.e_ne_ii, MP.e_eq_ss, MP.e_ne_ss, MP.e_eq_bb, MP.e_ne_bb, MP.e_isN, MP.e_notN, MP.e_ix_s, MP.e_ix_t, MP.e_ix_f, MP.e_ix_r, MP.e_ixT, MP.e_set, MP.e_len_s, MP.e_len_t, MP.e_len_f, MP.e_len_r, MP.e_lenT, MP.e_int_i, MP.e_int_b, MP.e_abs, MP.e_max, MP.e_min, MP.e_tupI, MP.e_lstI, MP.e_allI, MP.e_anyI, MP.e_onI_t, MP.e_onI_f, MP.e_onI_r, MP.e_onL_r, MP.e_isi_n, MP.e_isi_b, MP.e_isi_i, MP.e_isi_s, MP.e_isi_t, MP.e_isi_f, MP.e_isiT_n, MP.e_isiT_b, MP.e_isiT_i, MP.e_isiT_s, MP.e_isiT_t, MP.e_isiT_f, MP.e_app, MP.e_split, MP.e_joinI, MP.e_join_r, MP.e_cut_s, MP.e_cut_t, MP.e_cut_f, MP.e_cut_r, MP.tr_b, MP.tr_i, MP.tr_s, MP.tr_n, MP.tr_t, MP.tr_r, MP.x_n, MP.x_b, MP.x_i, MP.x_s, MP.x_t, MP.x_f, MP.x_r, MP.atI_0, MP.atI_1, MP.atI_2, MP.atI_3, MP.atI_m1, MP.ixN_c0, MP.ixN_c1, MP.ixN_c2, MP.e_in_ss, MP.ib_NoneType_bool, MP.ib_NoneType_int, MP.ib_NoneType_str, MP.ib_NoneType_tuple, MP.ib_NoneType_list, MP.ib_NoneType_dict, MP.ib_NoneType_set, MP.ib_bool_bool, MP.ib_bool_int, MP.ib_bool_str, MP.ib_bool_tuple, MP.ib_bool_list, MP.ib_bool_dict, MP.ib_bool_set, MP.ib_int_bool, MP.ib_int_int, MP.ib_int_str, MP.ib_int_tuple, MP.ib_int_list, MP.ib_int_dict, MP.ib_int_set, MP.ib_str_bool, MP.ib_str_int, MP.ib_str_str, MP.ib_str_tuple, MP.ib_str_list, MP.ib_str_dict, MP.ib_str_set, MP.ib_tuple_bool, MP.ib_tuple_int, MP.ib_tuple_str, MP.ib_tuple_tuple, MP.ib_tuple_list, MP.ib_tuple_dict, MP.ib_tuple_set, MP.ib_list_bool, MP.ib_list_int, MP.ib_list_str, MP.ib_list_tuple, MP.ib_list_list, MP.ib_list_dict, MP.ib_list_set, MP.ib_dict_bool, MP.ib_dict_int, MP.ib_dict_str, MP.ib_dict_tuple, MP.ib_dict_list, MP.ib_dict_dict, MP.ib_dict_set, MP.ib_set_bool, MP.ib_set_int, MP.ib_set_str, MP.ib_set_tuple, MP.ib_set_list, MP.ib_set_dict, MP.ib_set_set, Bool.not_true, Bool.not_false, List.any_cons, List.any_nil, Bool.or_false, Bool.or_true, Bool.true_or, Bool.false_or, Bool.and_true, Bool.true_and, Bool.and_false, Bool.false_and, if_true, if_false, ite_true, ite_false, and_true, true_and, Bool.false_eq_true, List.getElem?_cons_zero, List.getElem?_cons_succ, List.set_cons_zero, List.set_cons_succ, List.length_cons, List.length_nil, List.cons_append, List.nil_append]
  refine ⟨Nat.zero_le _, ?_⟩
  have r2 : rd (H ++ [Cell.lst []]) 64 (.ref H.length) = some (.list []) := rd_ref_of (xs := []) (by rw [List.getElem?_concat_length]) (by decide) rfl
  have e1 : (H ++ [Cell.lst []])[q]? = some (.lst ((readN s).elim [] fun ss => [.tup (ss.map .str)])) := by
    rw [List.getElem?_append_left (List.getElem?_eq_some_iff.mp e).1]
    exact e
  cases hr : readN s with
  | none =>
    rw [hr] at e1
    have r1 : rd (H ++ [Cell.lst []]) 64 (.ref q) = some (.list []) := rd_ref_of (xs := []) e1 (by decide) rfl
    rw [e_eq r1 r2]
    simp only [MP.pSeq, MP.pIfS, MP.pRet, MP.pRetN, MP.pNext, MP.pAsg, MP.pDrop, MP.pBrk, MP.pCt, MP.pVar, MP.pC, MP.pOp, MP.pUn, MP.pNil, MP.pCons, MP.pCB, MP.pCall, MP.pTup, MP.pTmp, MP.pNew, MP.pCT, MP.pIf, MP.pB, MP.pT, MP.pAnd, MP.pOr, MP.pNot, MP.pAndV, MP.pOrV, MP.pNotV, MP.pChain, MP.pG, MP.pGs, MP.pIxT, MP.pSlice, MP.pPart, MP.pNoPart, MP.pMtT, MP.pJoinT, MP.pAsgS, MP.pAug, MP.body, MP.gd, MP.e_add_ii, MP.e_add_ss, MP.e_add_tt, MP.e_add_rr, MP.e_sub, MP.e_mul_ii, MP.e_mul_si, MP.e_mul_ri, MP.e_iadd_ii, MP.e_iadd_ss, MP.e_pow, MP.e_fdiv, MP.e_mod, MP.e_neg, MP.e_lt, MP.e_le, MP.e_gt, MP.e_ge, MP.e_eq_ii, MP.e_ne_ii, MP.e_eq_ss, MP.e_ne_ss, MP.e_eq_bb, MP.e_ne_bb, MP.e_isN, MP.e_notN, MP.e_ix_s, MP.e_ix_t, MP.e_ix_f, MP.e_ix_r, MP.e_ixT, MP.e_set, MP.e_len_s, MP.e_len_t, MP.e_len_f, MP.e_len_r, MP.e_lenT, MP.e_int_i, MP.e_int_b, MP.e_abs, MP.e_max, MP.e_min, MP.e_tupI, MP.e_lstI, MP.e_allI, MP.e_anyI, MP.e_onI_t, MP.e_onI_f, MP.e_onI_r, MP.e_onL_r, MP.e_isi_n, MP.e_isi_b, MP.e_isi_i, MP.e_isi_s, MP.e_isi_t, MP.e_isi_f, MP.e_isiT_n, MP.e_isiT_b, MP.e_isiT_i, MP.e_isiT_s, MP.e_isiT_t, MP.e_isiT_f, MP.e_app, MP.e_split, MP.e_joinI, MP.e_join_r, MP.e_cut_s, MP.e_cut_t, MP.e_cut_f, MP.e_cut_r, MP.tr_b, MP.tr_i, MP.tr_s, MP.tr_n, MP.tr_t, MP.tr_r, MP.x_n, MP.x_b, MP.x_i, MP.x_s, MP.x_t, MP.x_f, MP.x_r, MP.atI_0, MP.atI_1, MP.atI_2, MP.atI_3, MP.atI_m1, MP.ixN_c0, MP.ixN_c1, MP.ixN_c2, MP.e_in_ss, MP.ib_NoneType_bool, MP.ib_NoneType_int, MP.ib_NoneType_str, MP.ib_NoneType_tuple, MP.ib_NoneType_list, MP.ib_NoneType_dict, MP.ib_NoneType_set, MP.ib_bool_bool, MP.ib_bool_int, MP.ib_bool_str, MP.ib_bool_tuple, MP.ib_bool_list, MP.ib_bool_dict, MP.ib_bool_set, MP.ib_int_bool, MP.ib_int_int, MP.ib_int_str, MP.ib_int_tuple, MP.ib_int_list, MP.ib_int_dict, MP.ib_int_set, MP.ib_str_bool, MP.ib_str_int, MP.ib_str_str, MP.ib_str_tuple, MP.ib_str_list, MP.ib_str_dict, MP.ib_str_set, MP.ib_tuple_bool, MP.ib_tuple_int, MP.ib_tuple_str, MP.ib_tuple_tuple, MP.ib_tuple_list, MP.ib_tuple_dict, MP.ib_tuple_set, MP.ib_list_bool, MP.ib_list_int, MP.ib_list_str, MP.ib_list_tuple, MP.ib_list_list, MP.ib_list_dict, MP.ib_list_set, MP.ib_dict_bool, MP.ib_dict_int, MP.ib_dict_str, MP.ib_dict_tuple, MP.ib_dict_list, MP.ib_dict_dict, MP.ib_dict_set, MP.ib_set_bool, MP.ib_set_int, MP.ib_set_str, MP.ib_set_tuple, MP.ib_set_list, MP.ib_set_dict, MP.ib_set_set, Bool.not_true, Bool.not_false, List.any_cons, List.any_nil, Bool.or_false, Bool.or_true, Bool.true_or, Bool.false_or, Bool.and_true, Bool.true_and, Bool.and_false, Bool.false_and, if_true, if_false, ite_true, ite_false, and_true, true_and, Bool.false_eq_true, List.getElem?_cons_zero, List.getElem?_cons_succ, List.set_cons_zero, List.set_cons_succ, List.length_cons, List.length_nil, List.cons_append, List.nil_append, PyData.eqv, PyData.eqvAll]
    refine ⟨s, rfl, ls, fun t3 => ?_⟩
    have et : toldV s = .tup [.str "refused", .str s] := by unfold toldV; rw [hr]; rfl
    rw [et]
    refine ⟨size2, ?_⟩
    rw [e_ne_rd (f := 2) (g := 2) (by decide) (by decide) (rd_pair rd_str' rd_str') (rd_pair rd_str' rd_str')]
    simp only [MP.pSeq, MP.pIfS, MP.pRet, MP.pRetN, MP.pNext, MP.pAsg, MP.pDrop, MP.pBrk, MP.pCt, MP.pVar, MP.pC, MP.pOp, MP.pUn, MP.pNil, MP.pCons, MP.pCB, MP.pCall, MP.pTup, MP.pTmp, MP.pNew, MP.pCT, MP.pIf, MP.pB, MP.pT, MP.pAnd, MP.pOr, MP.pNot, MP.pAndV, MP.pOrV, MP.pNotV, MP.pChain, MP.pG, MP.pGs, MP.pIxT, MP.pSlice, MP.pPart, MP.pNoPart, MP.pMtT, MP.pJoinT, MP.pAsgS, MP.pAug, MP.body, MP.gd, MP.e_add_ii, MP.e_add_ss, MP.e_add_tt, MP.e_add_rr, MP.e_sub, MP.e_mul_ii, MP.e_mul_si, MP.e_mul_ri, MP.e_iadd_ii, MP.e_iadd_ss, MP.e_pow, MP.e_fdiv, MP.e_mod, MP.e_neg, MP.e_lt, MP.e_le, MP.e_gt, MP.e_ge, MP.e_eq_ii, MP.e_ne_ii, MP.e_eq_ss, MP.e_ne_ss, MP.e_eq_bb, MP.e_ne_bb, MP.e_isN, MP.e_notN, MP.e_ix_s, MP.e_ix_t, MP.e_ix_f, MP.e_ix_r, MP.e_ixT, MP.e_set, MP.e_len_s, MP.e_len_t, MP.e_len_f, MP.e_len_r, MP.e_lenT, MP.e_int_i, MP.e_int_b, MP.e_abs, MP.e_max, MP.e_min, MP.e_tupI, MP.e_lstI, MP.e_allI, MP.e_anyI, MP.e_onI_t, MP.e_onI_f, MP.e_onI_r, MP.e_onL_r, MP.e_isi_n, MP.e_isi_b, MP.e_isi_i, MP.e_isi_s, MP.e_isi_t, MP.e_isi_f, MP.e_isiT_n, MP.e_isiT_b, MP.e_isiT_i, MP.e_isiT_s, MP.e_isiT_t, MP.e_isiT_f, MP.e_app, MP.e_split, MP.e_joinI, MP.e_join_r, MP.e_cut_s, MP.e_cut_t, MP.e_cut_f, MP.e_cut_r, MP.tr_b, MP.tr_i, MP.tr_s, MP.tr_n, MP.tr_t, MP.tr_r, MP.x_n, MP.x_b, MP.x_i, MP.x_s, MP.x_t, MP.x_f, MP.x_r, MP.atI_0, MP.atI_1, MP.atI_2, MP.atI_3, MP.atI_m1, MP.ixN_c0, MP.ixN_c1, MP.ixN_c2, MP.e_in_ss, MP.ib_NoneType_bool, MP.ib_NoneType_int, MP.ib_NoneType_str, MP.ib_NoneType_tuple, MP.ib_NoneType_list, MP.ib_NoneType_dict, MP.ib_NoneType_set, MP.ib_bool_bool, MP.ib_bool_int, MP.ib_bool_str, MP.ib_bool_tuple, MP.ib_bool_list, MP.ib_bool_dict, MP.ib_bool_set, MP.ib_int_bool, MP.ib_int_int, MP.ib_int_str, MP.ib_int_tuple, MP.ib_int_list, MP.ib_int_dict, MP.ib_int_set, MP.ib_str_bool, MP.ib_str_int, MP.ib_str_str, MP.ib_str_tuple, MP.ib_str_list, MP.ib_str_dict, MP.ib_str_set, MP.ib_tuple_bool, MP.ib_tuple_int, MP.ib_tuple_str, MP.ib_tuple_tuple, MP.ib_tuple_list, MP.ib_tuple_dict, MP.ib_tuple_set, MP.ib_list_bool, MP.ib_list_int, MP.ib_list_str, MP.ib_list_tuple, MP.ib_list_list, MP.ib_list_dict, MP.ib_list_set, MP.ib_dict_bool, MP.ib_dict_int, MP.ib_dict_str, MP.ib_dict_tuple, MP.ib_dict_list, MP.ib_dict_dict, MP.ib_dict_set, MP.ib_set_bool, MP.ib_set_int, MP.ib_set_str, MP.ib_set_tuple, MP.ib_set_list, MP.ib_set_dict, MP.ib_set_set, Bool.not_true, Bool.not_false, List.any_cons, List.any_nil, Bool.or_false, Bool.or_true, Bool.true_or, Bool.false_or, Bool.and_true, Bool.true_and, Bool.and_false, Bool.false_and, if_true, if_false, ite_true, ite_false, and_true, true_and, Bool.false_eq_true, List.getElem?_cons_zero, List.getElem?_cons_succ, List.set_cons_zero, List.set_cons_succ, List.length_cons, List.length_nil, List.cons_append, List.nil_append]
    refine ⟨s, rfl, ls, hr, fun t4 => ?_⟩
    simp only [MP.pSeq, MP.pIfS, MP.pRet, MP.pRetN, MP.pNext, MP.pAsg, MP.pDrop, MP.pBrk, MP.pCt, MP.pVar, MP.pC, MP.pOp, MP.pUn, MP.pNil, MP.pCons, MP.pCB, MP.pCall, MP.pTup, MP.pTmp, MP.pNew, MP.pCT, MP.pIf, MP.pB, MP.pT, MP.pAnd, MP.pOr, MP.pNot, MP.pAndV, MP.pOrV, MP.pNotV, MP.pChain, MP.pG, MP.pGs, MP.pIxT, MP.pSlice, MP.pPart, MP.pNoPart, MP.pMtT, MP.pJoinT, MP.pAsgS, MP.pAug, MP.body, MP.gd, MP.e_add_ii, MP.e_add_ss, MP.e_add_tt, MP.e_add_rr, MP.e_sub, MP.e_mul_ii, MP.e_mul_si, MP.e_mul_ri, MP.e_iadd_ii, MP.e_iadd_ss, MP.e_pow, MP.e_fdiv, MP.e_mod, MP.e_neg, MP.e_lt, MP.e_le, MP.e_gt, MP.e_ge, MP.e_eq_ii, MP.e_ne_ii, MP.e_eq_ss, MP.e_ne_ss, MP.e_eq_bb, MP.e_ne_bb, MP.e_isN, MP.e_notN, MP.e_ix_s, MP.e_ix_t, MP.e_ix_f, MP.e_ix_r, MP.e_ixT, MP.e_set, MP.e_len_s, MP.e_len_t, MP.e_len_f, MP.e_len_r, MP.e_lenT, MP.e_int_i, MP.e_int_b, MP.e_abs, MP.e_max, MP.e_min, MP.e_tupI, MP.e_lstI, MP.e_allI, MP.e_anyI, MP.e_onI_t, MP.e_onI_f, MP.e_onI_r, MP.e_onL_r, MP.e_isi_n, MP.e_isi_b, MP.e_isi_i, MP.e_isi_s, MP.e_isi_t, MP.e_isi_f, MP.e_isiT_n, MP.e_isiT_b, MP.e_isiT_i, MP.e_isiT_s, MP.e_isiT_t, MP.e_isiT_f, MP.e_app, MP.e_split, MP.e_joinI, MP.e_join_r, MP.e_cut_s, MP.e_cut_t, MP.e_cut_f, MP.e_cut_r, MP.tr_b, MP.tr_i, MP.tr_s, MP.tr_n, MP.tr_t, MP.tr_r, MP.x_n, MP.x_b, MP.x_i, MP.x_s, MP.x_t, MP.x_f, MP.x_r, MP.atI_0, MP.atI_1, MP.atI_2, MP.atI_3, MP.atI_m1, MP.ixN_c0, MP.ixN_c1, MP.ixN_c2, MP.e_in_ss, MP.ib_NoneType_bool, MP.ib_NoneType_int, MP.ib_NoneType_str, MP.ib_NoneType_tuple, MP.ib_NoneType_list, MP.ib_NoneType_dict, MP.ib_NoneType_set, MP.ib_bool_bool, MP.ib_bool_int, MP.ib_bool_str, MP.ib_bool_tuple, MP.ib_bool_list, MP.ib_bool_dict, MP.ib_bool_set, MP.ib_int_bool, MP.ib_int_int, MP.ib_int_str, MP.ib_int_tuple, MP.ib_int_list, MP.ib_int_dict, MP.ib_int_set, MP.ib_str_bool, MP.ib_str_int, MP.ib_str_str, MP.ib_str_tuple, MP.ib_str_list, MP.ib_str_dict, MP.ib_str_set, MP.ib_tuple_bool, MP.ib_tuple_int, MP.ib_tuple_str, MP.ib_tuple_tuple, MP.ib_tuple_list, MP.ib_tuple_dict, MP.ib_tuple_set, MP.ib_list_bool, MP.ib_list_int, MP.ib_list_str, MP.ib_list_tuple, MP.ib_list_list, MP.ib_list_dict, MP.ib_list_set, MP.ib_dict_bool, MP.ib_dict_int, MP.ib_dict_str, MP.ib_dict_tuple, MP.ib_dict_list, MP.ib_dict_dict, MP.ib_dict_set, MP.ib_set_bool, MP.ib_set_int, MP.ib_set_str, MP.ib_set_tuple, MP.ib_set_list, MP.ib_set_dict, MP.ib_set_set, Bool.not_true, Bool.not_false, List.any_cons, List.any_nil, Bool.or_false, Bool.or_true, Bool.true_or, Bool.false_or, Bool.and_true, Bool.true_and, Bool.and_false, Bool.false_and, if_true, if_false, ite_true, ite_false, and_true, true_and, Bool.false_eq_true, List.getElem?_cons_zero, List.getElem?_cons_succ, List.set_cons_zero, List.set_cons_succ, List.length_cons, List.length_nil, List.cons_append, List.nil_append]
    rw [List.append_assoc, List.append_assoc]
    exact k2 _ _
  | some ss =>
    rw [hr] at e1
    have ll := read_len hr
    have en := read_nam hr
    have es := read_shown hr
    have r1 : rd (H ++ [Cell.lst []]) 64 (.ref q) = some (.list [.tuple (ss.map .str)]) := rd_ref_of (xs := [.tup (ss.map .str)]) e1 (by simp) (by simp only [allD]; rw [rd_strs (by omega)])
    rw [e_eq r1 r2]
    have hz : PyData.eqv (.list [.tuple (ss.map .str)]) (.list []) = false := by simp [PyData.eqv, PyData.eqvAll]
    rw [hz]
    simp only [MP.pSeq, MP.pIfS, MP.pRet, MP.pRetN, MP.pNext, MP.pAsg, MP.pDrop, MP.pBrk, MP.pCt, MP.pVar, MP.pC, MP.pOp, MP.pUn, MP.pNil, MP.pCons, MP.pCB, MP.pCall, MP.pTup, MP.pTmp, MP.pNew, MP.pCT, MP.pIf, MP.pB, MP.pT, MP.pAnd, MP.pOr, MP.pNot, MP.pAndV, MP.pOrV, MP.pNotV, MP.pChain, MP.pG, MP.pGs, MP.pIxT, MP.pSlice, MP.pPart, MP.pNoPart, MP.pMtT, MP.pJoinT, MP.pAsgS, MP.pAug, MP.body, MP.gd, MP.e_add_ii, MP.e_add_ss, MP.e_add_tt, MP.e_add_rr, MP.e_sub, MP.e_mul_ii, MP.e_mul_si, MP.e_mul_ri, MP.e_iadd_ii, MP.e_iadd_ss, MP.e_pow, MP.e_fdiv, MP.e_mod, MP.e_neg, MP.e_lt, MP.e_le, MP.e_gt, MP.e_ge, MP.e_eq_ii, MP.e_ne_ii, MP.e_eq_ss, MP.e_ne_ss, MP.e_eq_bb, MP.e_ne_bb, MP.e_isN, MP.e_notN, MP.e_ix_s, MP.e_ix_t, MP.e_ix_f, MP.e_ix_r, MP.e_ixT, MP.e_set, MP.e_len_s, MP.e_len_t, MP.e_len_f, MP.e_len_r, MP.e_lenT, MP.e_int_i, MP.e_int_b, MP.e_abs, MP.e_max, MP.e_min, MP.e_tupI, MP.e_lstI, MP.e_allI, MP.e_anyI, MP.e_onI_t, MP.e_onI_f, MP.e_onI_r, MP.e_onL_r, MP.e_isi_n, MP.e_isi_b, MP.e_isi_i, MP.e_isi_s, MP.e_isi_t, MP.e_isi_f, MP.e_isiT_n, MP.e_isiT_b, MP.e_isiT_i, MP.e_isiT_s, MP.e_isiT_t, MP.e_isiT_f, MP.e_app, MP.e_split, MP.e_joinI, MP.e_join_r, MP.e_cut_s, MP.e_cut_t, MP.e_cut_f, MP.e_cut_r, MP.tr_b, MP.tr_i, MP.tr_s, MP.tr_n, MP.tr_t, MP.tr_r, MP.x_n, MP.x_b, MP.x_i, MP.x_s, MP.x_t, MP.x_f, MP.x_r, MP.atI_0, MP.atI_1, MP.atI_2, MP.atI_3, MP.atI_m1, MP.ixN_c0, MP.ixN_c1, MP.ixN_c2, MP.e_in_ss, MP.ib_NoneType_bool, MP.ib_NoneType_int, MP.ib_NoneType_str, MP.ib_NoneType_tuple, MP.ib_NoneType_list, MP.ib_NoneType_dict, MP.ib_NoneType_set, MP.ib_bool_bool, MP.ib_bool_int, MP.ib_bool_str, MP.ib_bool_tuple, MP.ib_bool_list, MP.ib_bool_dict, MP.ib_bool_set, MP.ib_int_bool, MP.ib_int_int, MP.ib_int_str, MP.ib_int_tuple, MP.ib_int_list, MP.ib_int_dict, MP.ib_int_set, MP.ib_str_bool, MP.ib_str_int, MP.ib_str_str, MP.ib_str_tuple, MP.ib_str_list, MP.ib_str_dict, MP.ib_str_set, MP.ib_tuple_bool, MP.ib_tuple_int, MP.ib_tuple_str, MP.ib_tuple_tuple, MP.ib_tuple_list, MP.ib_tuple_dict, MP.ib_tuple_set, MP.ib_list_bool, MP.ib_list_int, MP.ib_list_str, MP.ib_list_tuple, MP.ib_list_list, MP.ib_list_dict, MP.ib_list_set, MP.ib_dict_bool, MP.ib_dict_int, MP.ib_dict_str, MP.ib_dict_tuple, MP.ib_dict_list, MP.ib_dict_dict, MP.ib_dict_set, MP.ib_set_bool, MP.ib_set_int, MP.ib_set_str, MP.ib_set_tuple, MP.ib_set_list, MP.ib_set_dict, MP.ib_set_set, Bool.not_true, Bool.not_false, List.any_cons, List.any_nil, Bool.or_false, Bool.or_true, Bool.true_or, Bool.false_or, Bool.and_true, Bool.true_and, Bool.and_false, Bool.false_and, if_true, if_false, ite_true, ite_false, and_true, true_and, Bool.false_eq_true, List.getElem?_cons_zero, List.getElem?_cons_succ, List.set_cons_zero, List.set_cons_succ, List.length_cons, List.length_nil, List.cons_append, List.nil_append]
    refine ⟨s, rfl, ls, fun t3 => ?_⟩
    have et : toldV s = .tup [.str "name", .tup (ss.map .str)] := by unfold toldV; rw [hr]; rfl
    have e3 : (H ++ [Cell.lst []] ++ t3)[q]? = some (.lst [.tup (ss.map .str)]) := by
      rw [List.getElem?_append_left (List.getElem?_eq_some_iff.mp e1).1]
      exact e1
    rw [et]
    simp only [MP.pSeq, MP.pIfS, MP.pRet, MP.pRetN, MP.pNext, MP.pAsg, MP.pDrop, MP.pBrk, MP.pCt, MP.pVar, MP.pC, MP.pOp, MP.pUn, MP.pNil, MP.pCons, MP.pCB, MP.pCall, MP.pTup, MP.pTmp, MP.pNew, MP.pCT, MP.pIf, MP.pB, MP.pT, MP.pAnd, MP.pOr, MP.pNot, MP.pAndV, MP.pOrV, MP.pNotV, MP.pChain, MP.pG, MP.pGs, MP.pIxT, MP.pSlice, MP.pPart, MP.pNoPart, MP.pMtT, MP.pJoinT, MP.pAsgS, MP.pAug, MP.body, MP.gd, MP.e_add_ii, MP.e_add_ss, MP.e_add_tt, MP.e_add_rr, MP.e_sub, MP.e_mul_ii, MP.e_mul_si, MP.e_mul_ri, MP.e_iadd_ii, MP.e_iadd_ss, MP.e_pow, MP.e_fdiv, MP.e_mod, MP.e_neg, MP.e_lt, MP.e_le, MP.e_gt, MP.e_ge, MP.e_eq_ii, MP.e_ne_ii, MP.e_eq_ss, MP.e_ne_ss, MP.e_eq_bb, MP.e_ne_bb, MP.e_isN, MP.e_notN, MP.e_ix_s, MP.e_ix_t, MP.e_ix_f, MP.e_ix_r, MP.e_ixT, MP.e_set, MP.e_len_s, MP.e_len_t, MP.e_len_f, MP.e_len_r, MP.e_lenT, MP.e_int_i, MP.e_int_b, MP.e_abs, MP.e_max, MP.e_min, MP.e_tupI, MP.e_lstI, MP.e_allI, MP.e_anyI, MP.e_onI_t, MP.e_onI_f, MP.e_onI_r, MP.e_onL_r, MP.e_isi_n, MP.e_isi_b, MP.e_isi_i, MP.e_isi_s, MP.e_isi_t, MP.e_isi_f, MP.e_isiT_n, MP.e_isiT_b, MP.e_isiT_i, MP.e_isiT_s, MP.e_isiT_t, MP.e_isiT_f, MP.e_app, MP.e_split, MP.e_joinI, MP.e_join_r, MP.e_cut_s, MP.e_cut_t, MP.e_cut_f, MP.e_cut_r, MP.tr_b, MP.tr_i, MP.tr_s, MP.tr_n, MP.tr_t, MP.tr_r, MP.x_n, MP.x_b, MP.x_i, MP.x_s, MP.x_t, MP.x_f, MP.x_r, MP.atI_0, MP.atI_1, MP.atI_2, MP.atI_3, MP.atI_m1, MP.ixN_c0, MP.ixN_c1, MP.ixN_c2, MP.e_in_ss, MP.ib_NoneType_bool, MP.ib_NoneType_int, MP.ib_NoneType_str, MP.ib_NoneType_tuple, MP.ib_NoneType_list, MP.ib_NoneType_dict, MP.ib_NoneType_set, MP.ib_bool_bool, MP.ib_bool_int, MP.ib_bool_str, MP.ib_bool_tuple, MP.ib_bool_list, MP.ib_bool_dict, MP.ib_bool_set, MP.ib_int_bool, MP.ib_int_int, MP.ib_int_str, MP.ib_int_tuple, MP.ib_int_list, MP.ib_int_dict, MP.ib_int_set, MP.ib_str_bool, MP.ib_str_int, MP.ib_str_str, MP.ib_str_tuple, MP.ib_str_list, MP.ib_str_dict, MP.ib_str_set, MP.ib_tuple_bool, MP.ib_tuple_int, MP.ib_tuple_str, MP.ib_tuple_tuple, MP.ib_tuple_list, MP.ib_tuple_dict, MP.ib_tuple_set, MP.ib_list_bool, MP.ib_list_int, MP.ib_list_str, MP.ib_list_tuple, MP.ib_list_list, MP.ib_list_dict, MP.ib_list_set, MP.ib_dict_bool, MP.ib_dict_int, MP.ib_dict_str, MP.ib_dict_tuple, MP.ib_dict_list, MP.ib_dict_dict, MP.ib_dict_set, MP.ib_set_bool, MP.ib_set_int, MP.ib_set_str, MP.ib_set_tuple, MP.ib_set_list, MP.ib_set_dict, MP.ib_set_set, Bool.not_true, Bool.not_false, List.any_cons, List.any_nil, Bool.or_false, Bool.or_true, Bool.true_or, Bool.false_or, Bool.and_true, Bool.true_and, Bool.and_false, Bool.false_and, if_true, if_false, ite_true, ite_false, and_true, true_and, Bool.false_eq_true, List.getElem?_cons_zero, List.getElem?_cons_succ, List.set_cons_zero, List.set_cons_succ, List.length_cons, List.length_nil, List.cons_append, List.nil_append, e3]
    refine ⟨size2, _, _, .tuple [.str "name", .tuple (ss.map .str)], rfl, rd_pair rd_str' (rd_strs (by omega)), rd_pair rd_str' (rd_strs (by omega)), ?_⟩
    simp only [MP.pSeq, MP.pIfS, MP.pRet, MP.pRetN, MP.pNext, MP.pAsg, MP.pDrop, MP.pBrk, MP.pCt, MP.pVar, MP.pC, MP.pOp, MP.pUn, MP.pNil, MP.pCons, MP.pCB, MP.pCall, MP.pTup, MP.pTmp, MP.pNew, MP.pCT, MP.pIf, MP.pB, MP.pT, MP.pAnd, MP.pOr, MP.pNot, MP.pAndV, MP.pOrV, MP.pNotV, MP.pChain, MP.pG, MP.pGs, MP.pIxT, MP.pSlice, MP.pPart, MP.pNoPart, MP.pMtT, MP.pJoinT, MP.pAsgS, MP.pAug, MP.body, MP.gd, MP.e_add_ii, MP.e_add_ss, MP.e_add_tt, MP.e_add_rr, MP.e_sub, MP.e_mul_ii, MP.e_mul_si, MP.e_mul_ri, MP.e_iadd_ii, MP.e_iadd_ss, MP.e_pow, MP.e_fdiv, MP.e_mod, MP.e_neg, MP.e_lt, MP.e_le, MP.e_gt, MP.e_ge, MP.e_eq_ii, MP.e_ne_ii, MP.e_eq_ss, MP.e_ne_ss, MP.e_eq_bb, MP.e_ne_bb, MP.e_isN, MP.e_notN, MP.e_ix_s, MP.e_ix_t, MP.e_ix_f, MP.e_ix_r, MP.e_ixT, MP.e_set, MP.e_len_s, MP.e_len_t, MP.e_len_f, MP.e_len_r, MP.e_lenT, MP.e_int_i, MP.e_int_b, MP.e_abs, MP.e_max, MP.e_min, MP.e_tupI, MP.e_lstI, MP.e_allI, MP.e_anyI, MP.e_onI_t, MP.e_onI_f, MP.e_onI_r, MP.e_onL_r, MP.e_isi_n, MP.e_isi_b, MP.e_isi_i, MP.e_isi_s, MP.e_isi_t, MP.e_isi_f, MP.e_isiT_n, MP.e_isiT_b, MP.e_isiT_i, MP.e_isiT_s, MP.e_isiT_t, MP.e_isiT_f, MP.e_app, MP.e_split, MP.e_joinI, MP.e_join_r, MP.e_cut_s, MP.e_cut_t, MP.e_cut_f, MP.e_cut_r, MP.tr_b, MP.tr_i, MP.tr_s, MP.tr_n, MP.tr_t, MP.tr_r, MP.x_n, MP.x_b, MP.x_i, MP.x_s, MP.x_t, MP.x_f, MP.x_r, MP.atI_0, MP.atI_1, MP.atI_2, MP.atI_3, MP.atI_m1, MP.ixN_c0, MP.ixN_c1, MP.ixN_c2, MP.e_in_ss, MP.ib_NoneType_bool, MP.ib_NoneType_int, MP.ib_NoneType_str, MP.ib_NoneType_tuple, MP.ib_NoneType_list, MP.ib_NoneType_dict, MP.ib_NoneType_set, MP.ib_bool_bool, MP.ib_bool_int, MP.ib_bool_str, MP.ib_bool_tuple, MP.ib_bool_list, MP.ib_bool_dict, MP.ib_bool_set, MP.ib_int_bool, MP.ib_int_int, MP.ib_int_str, MP.ib_int_tuple, MP.ib_int_list, MP.ib_int_dict, MP.ib_int_set, MP.ib_str_bool, MP.ib_str_int, MP.ib_str_str, MP.ib_str_tuple, MP.ib_str_list, MP.ib_str_dict, MP.ib_str_set, MP.ib_tuple_bool, MP.ib_tuple_int, MP.ib_tuple_str, MP.ib_tuple_tuple, MP.ib_tuple_list, MP.ib_tuple_dict, MP.ib_tuple_set, MP.ib_list_bool, MP.ib_list_int, MP.ib_list_str, MP.ib_list_tuple, MP.ib_list_list, MP.ib_list_dict, MP.ib_list_set, MP.ib_dict_bool, MP.ib_dict_int, MP.ib_dict_str, MP.ib_dict_tuple, MP.ib_dict_list, MP.ib_dict_dict, MP.ib_dict_set, MP.ib_set_bool, MP.ib_set_int, MP.ib_set_str, MP.ib_set_tuple, MP.ib_set_list, MP.ib_set_dict, MP.ib_set_set, Bool.not_true, Bool.not_false, List.any_cons, List.any_nil, Bool.or_false, Bool.or_true, Bool.true_or, Bool.false_or, Bool.and_true, Bool.true_and, Bool.and_false, Bool.false_and, if_true, if_false, ite_true, ite_false, and_true, true_and, Bool.false_eq_true, List.getElem?_cons_zero, List.getElem?_cons_succ, List.set_cons_zero, List.set_cons_succ, List.length_cons, List.length_nil, List.cons_append, List.nil_append, e3]
    refine ⟨_, rfl, ⟨_, rd_strs (by omega)⟩, fun ss' e' es' => ?_, fun z => (by rw [en] at z; cases z)⟩
    cases tup_inj es'
    rw [es]
    simp only [MP.pSeq, MP.pIfS, MP.pRet, MP.pRetN, MP.pNext, MP.pAsg, MP.pDrop, MP.pBrk, MP.pCt, MP.pVar, MP.pC, MP.pOp, MP.pUn, MP.pNil, MP.pCons, MP.pCB, MP.pCall, MP.pTup, MP.pTmp, MP.pNew, MP.pCT, MP.pIf, MP.pB, MP.pT, MP.pAnd, MP.pOr, MP.pNot, MP.pAndV, MP.pOrV, MP.pNotV, MP.pChain, MP.pG, MP.pGs, MP.pIxT, MP.pSlice, MP.pPart, MP.pNoPart, MP.pMtT, MP.pJoinT, MP.pAsgS, MP.pAug, MP.body, MP.gd, MP.e_add_ii, MP.e_add_ss, MP.e_add_tt, MP.e_add_rr, MP.e_sub, MP.e_mul_ii, MP.e_mul_si, MP.e_mul_ri, MP.e_iadd_ii, MP.e_iadd_ss, MP.e_pow, MP.e_fdiv, MP.e_mod, MP.e_neg, MP.e_lt, MP.e_le, MP.e_gt, MP.e_ge, MP.e_eq_ii, MP.e_ne_ii, MP.e_eq_ss, MP.e_ne_ss, MP.e_eq_bb, MP.e_ne_bb, MP.e_isN, MP.e_notN, MP.e_ix_s, MP.e_ix_t, MP.e_ix_f, MP.e_ix_r, MP.e_ixT, MP.e_set, MP.e_len_s, MP.e_len_t, MP.e_len_f, MP.e_len_r, MP.e_lenT, MP.e_int_i, MP.e_int_b, MP.e_abs, MP.e_max, MP.e_min, MP.e_tupI, MP.e_lstI, MP.e_allI, MP.e_anyI, MP.e_onI_t, MP.e_onI_f, MP.e_onI_r, MP.e_onL_r, MP.e_isi_n, MP.e_isi_b, MP.e_isi_i, MP.e_isi_s, MP.e_isi_t, MP.e_isi_f, MP.e_isiT_n, MP.e_isiT_b, MP.e_isiT_i, MP.e_isiT_s, MP.e_isiT_t, MP.e_isiT_f, MP.e_app, MP.e_split, MP.e_joinI, MP.e_join_r, MP.e_cut_s, MP.e_cut_t, MP.e_cut_f, MP.e_cut_r, MP.tr_b, MP.tr_i, MP.tr_s, MP.tr_n, MP.tr_t, MP.tr_r, MP.x_n, MP.x_b, MP.x_i, MP.x_s, MP.x_t, MP.x_f, MP.x_r, MP.atI_0, MP.atI_1, MP.atI_2, MP.atI_3, MP.atI_m1, MP.ixN_c0, MP.ixN_c1, MP.ixN_c2, MP.e_in_ss, MP.ib_NoneType_bool, MP.ib_NoneType_int, MP.ib_NoneType_str, MP.ib_NoneType_tuple, MP.ib_NoneType_list, MP.ib_NoneType_dict, MP.ib_NoneType_set, MP.ib_bool_bool, MP.ib_bool_int, MP.ib_bool_str, MP.ib_bool_tuple, MP.ib_bool_list, MP.ib_bool_dict, MP.ib_bool_set, MP.ib_int_bool, MP.ib_int_int, MP.ib_int_str, MP.ib_int_tuple, MP.ib_int_list, MP.ib_int_dict, MP.ib_int_set, MP.ib_str_bool, MP.ib_str_int, MP.ib_str_str, MP.ib_str_tuple, MP.ib_str_list, MP.ib_str_dict, MP.ib_str_set, MP.ib_tuple_bool, MP.ib_tuple_int, MP.ib_tuple_str, MP.ib_tuple_tuple, MP.ib_tuple_list, MP.ib_tuple_dict, MP.ib_tuple_set, MP.ib_list_bool, MP.ib_list_int, MP.ib_list_str, MP.ib_list_tuple, MP.ib_list_list, MP.ib_list_dict, MP.ib_list_set, MP.ib_dict_bool, MP.ib_dict_int, MP.ib_dict_str, MP.ib_dict_tuple, MP.ib_dict_list, MP.ib_dict_dict, MP.ib_dict_set, MP.ib_set_bool, MP.ib_set_int, MP.ib_set_str, MP.ib_set_tuple, MP.ib_set_list, MP.ib_set_dict, MP.ib_set_set, Bool.not_true, Bool.not_false, List.any_cons, List.any_nil, Bool.or_false, Bool.or_true, Bool.true_or, Bool.false_or, Bool.and_true, Bool.true_and, Bool.and_false, Bool.false_and, if_true, if_false, ite_true, ite_false, and_true, true_and, Bool.false_eq_true, List.getElem?_cons_zero, List.getElem?_cons_succ, List.set_cons_zero, List.set_cons_succ, List.length_cons, List.length_nil, List.cons_append, List.nil_append, beq_self_eq_true]
    rw [List.append_assoc]
    exact k2 _ _
theorem cut_le {s : Str} {lo hi : Option Int} : (L2.cutS s lo hi).length ≤ s.length := len_cutS s lo hi
def fourteen : List Str := ["", ".", "..", "*.", "*", "a", ".a.", "a..", "*.*.", "a.*.", " .", "a.\n", "\n", "-."]
theorem fourteen_ok : (fourteen.all fun s => decide (s.length ≤ 10)) = true := by decide +kernel
theorem at_strs {L : List Str} {r : Int} {b : Nat} (h0 : 0 ≤ r) (h1 : r < (L.length : Nat)) (hb : (L.all fun s => decide (s.length ≤ b)) = true) : ∃ s, L2.atI (L.map PV.str) r = some (.str s) ∧ s.length ≤ b := by
  have l : r.toNat < L.length := by omega
  refine ⟨L[r.toNat], ?_, of_decide_eq_true (List.all_eq_true.mp hb _ (List.getElem_mem l))⟩
  rw [atI_pos h0, List.getElem?_map, List.getElem?_eq_getElem l]
  rfl
theorem tr5_ok {p n : Nat} {D : PD} {h : PHeap} {a1 a4 a5 a6 a7 : Option PV} {s : Str} (ls : s.length ≤ 10000) (P : Pot h p (n + 1)) (r : Int) (k : ∀ (s : Str) (h' : PHeap) τ6, s.length ≤ 10000 → Pot h' p n → Ev p h h' → D.nx [some (.ref p), a1, some (.str s), some (.int r), a4, a5, τ6, a7] h') :
    tr5 D [some (.ref p), a1, some (.str s), some (.int r), a4, a5, a6, a7] h := by
  unfold tr5
  refine ⟨rfl, ?_⟩
  simp only [e_eq_ii, MP.pC]
  by_cases c : r = 5
  · rw [if_pos (decide_eq_true c)]
    refine seq_asg ⟨by rw [sizeLine_eq]; decide, rfl, rfl, rfl, p, 14, n, rfl, by decide, by decide, P.app _, fun r2 h2 r20 r21 P2 E2 l2 => ?_⟩
    have lp := P.lt
    have q2 := E2.lst (i := h.length) (by omega) (List.getElem?_concat_length ..)
    simp only [e_ix_r]
    rw [q2]
    obtain ⟨s', es, l'⟩ := at_strs (L := fourteen) (b := 10) r20 r21 fourteen_ok
    have es : L2.atI [PV.str "", .str ".", .str "..", .str "*.", .str "*", .str "a", .str ".a.", .str "a..", .str "*.*.", .str "a.*.", .str " .", .str "a.\n", .str "\n", .str "-."] r2 = some (.str s') := es
    dsimp only
    rw [es]
    exact k s' h2 _ (by omega) P2 ((Ev.app _).trans E2)
  · rw [if_neg (by simpa using c)]
    exact k s h _ ls (P.le (by omega)) .refl


theorem tr3_ok {D : PD} {h : PHeap} {a0 a1 a5 a6 a7 : Option PV} {s : Str} {r r4 : Int} (ls : s.length ≤ 1000) (k : ∀ s : Str, s.length ≤ 2500 → D.nx [a0, a1, some (.str s), some (.int r), some (.int r4), a5, a6, a7] h) : tr3 D [a0, a1, some (.str s), some (.int r), some (.int r4), a5, a6, a7] h := by
  unfold tr3
  refine ⟨rfl, ?_⟩
  simp only [e_eq_ii, MP.pC]
  have c1 := cut_le (s := s) (lo := none) (hi := some r4)
  have c2 := cut_le (s := s) (lo := some r4) (hi := none)
  have ld : (Str.ofString ".").length = 1 := rfl
  by_cases c : r = 3
  · rw [if_pos (decide_eq_true c)]
    simp only [MP.pSeq, MP.pIfS, MP.pRet, MP.pRetN, MP.pNext, MP.pAsg, MP.pDrop, MP.pBrk, MP.pCt, MP.pVar, MP.pC, MP.pOp, MP.pUn, MP.pNil, MP.pCons, MP.pCB, MP.pCall, MP.pTup, MP.pTmp, MP.pNew, MP.pCT, MP.pIf, MP.pB, MP.pT, MP.pAnd, MP.pOr, MP.pNot, MP.pAndV, MP.pOrV, MP.pNotV, MP.pChain, MP.pG, MP.pGs, MP.pIxT, MP.pSlice, MP.pPart, MP.pNoPart, MP.pMtT, MP.pJoinT, MP.pAsgS, MP.pAug, MP.body, MP.gd, MP.e_add_ii, MP.e_add_ss, MP.e_add_tt, MP.e_add_rr, MP.e_sub, MP.e_mul_ii, MP.e_mul_si, MP.e_mul_ri, MP.e_iadd_ii, MP.e_iadd_ss, MP.e_pow, MP.e_fdiv, MP.e_mod, MP.e_neg, MP.e_lt, MP.e_le, MP.e_gt, MP.e_ge, MP.e_eq_ii, MP.e_ne_ii, MP.e_eq_ss, MP.e_ne_ss, MP.e_eq_bb, MP.e_ne_bb, MP.e_isN, MP.e_notN, MP.e_ix_s, MP.e_ix_t, MP.e_ix_f, MP.e_ix_r, MP.e_ixT, MP.e_set, MP.e_len_s, MP.e_len_t, MP.e_len_f, MP.e_len_r, MP.e_lenT, MP.e_int_i, MP.e_int_b, MP.e_abs, MP.e_max, MP.e_min, MP.e_tupI, MP.e_lstI, MP.e_allI, MP.e_anyI, MP.e_onI_t, MP.e_onI_f, MP.e_onI_r, MP.e_onL_r, MP.e_isi_n, MP.e_isi_b, MP.e_isi_i, MP.e_isi_s, MP.e_isi_t, MP.e_isi_f, MP.e_isiT_n, MP.e_isiT_b, MP.e_isiT_i, MP.e_isiT_s, MP.e_isiT_t, MP.e_isiT_f, MP.e_app, MP.e_split, MP.e_joinI, MP.e_join_r, MP.e_cut_s, MP.e_cut_t, MP.e_cut_f, MP.e_cut_r, MP.tr_b, MP.tr_i, MP.tr_s, MP.tr_n, MP.tr_t, MP.tr_r, MP.x_n, MP.x_b, MP.x_i, MP.x_s, MP.x_t, MP.x_f, MP.x_r, MP.atI_0, MP.atI_1, MP.atI_2, MP.atI_3, MP.atI_m1, MP.ixN_c0, MP.ixN_c1, MP.ixN_c2, MP.e_in_ss, MP.ib_NoneType_bool, MP.ib_NoneType_int, MP.ib_NoneType_str, MP.ib_NoneType_tuple, MP.ib_NoneType_list, MP.ib_NoneType_dict, MP.ib_NoneType_set, MP.ib_bool_bool, MP.ib_bool_int, MP.ib_bool_str, MP.ib_bool_tuple, MP.ib_bool_list, MP.ib_bool_dict, MP.ib_bool_set, MP.ib_int_bool, MP.ib_int_int, MP.ib_int_str, MP.ib_int_tuple, MP.ib_int_list, MP.ib_int_dict, MP.ib_int_set, MP.ib_str_bool, MP.ib_str_int, MP.ib_str_str, MP.ib_str_tuple, MP.ib_str_list, MP.ib_str_dict, MP.ib_str_set, MP.ib_tuple_bool, MP.ib_tuple_int, MP.ib_tuple_str, MP.ib_tuple_tuple, MP.ib_tuple_list, MP.ib_tuple_dict, MP.ib_tuple_set, MP.ib_list_bool, MP.ib_list_int, MP.ib_list_str, MP.ib_list_tuple, MP.ib_list_list, MP.ib_list_dict, MP.ib_list_set, MP.ib_dict_bool, MP.ib_dict_int, MP.ib_dict_str, MP.ib_dict_tuple, MP.ib_dict_list, MP.ib_dict_dict, MP.ib_dict_set, MP.ib_set_bool, MP.ib_set_int, MP.ib_set_str, MP.ib_set_tuple, MP.ib_set_list, MP.ib_set_dict, MP.ib_set_set, Bool.not_true, Bool.not_false, List.any_cons, List.any_nil, Bool.or_false, Bool.or_true, Bool.true_or, Bool.false_or, Bool.and_true, Bool.true_and, Bool.and_false, Bool.false_and, if_true, if_false, ite_true, ite_false, and_true, true_and, Bool.false_eq_true, List.getElem?_cons_zero, List.getElem?_cons_succ, List.set_cons_zero, List.set_cons_succ, List.length_cons, List.length_nil, List.cons_append, List.nil_append]
    refine ⟨by rw [sizeLine_eq, ld]; omega, by rw [len_app, sizeLine_eq, ld]; omega, k _ ?_⟩
    rw [len_app, len_app, ld]
    omega
  · rw [if_neg (by simpa using c)]
    exact k s (by omega)
theorem tr4_ok {D : PD} {h : PHeap} {a0 a1 a5 a6 a7 : Option PV} {s : Str} {r r4 : Int} (ls : s.length ≤ 2500) (k : ∀ s : Str, s.length ≤ 5000 → D.nx [a0, a1, some (.str s), some (.int r), some (.int r4), a5, a6, a7] h) : tr4 D [a0, a1, some (.str s), some (.int r), some (.int r4), a5, a6, a7] h := by
  unfold tr4
  refine ⟨rfl, ?_⟩
  simp only [e_eq_ii, MP.pC]
  have c1 := cut_le (s := s) (lo := none) (hi := some r4)
  have c2 := cut_le (s := s) (lo := some (r4 + 1)) (hi := none)
  by_cases c : r = 4
  · rw [if_pos (decide_eq_true c)]
    simp only [MP.pSeq, MP.pIfS, MP.pRet, MP.pRetN, MP.pNext, MP.pAsg, MP.pDrop, MP.pBrk, MP.pCt, MP.pVar, MP.pC, MP.pOp, MP.pUn, MP.pNil, MP.pCons, MP.pCB, MP.pCall, MP.pTup, MP.pTmp, MP.pNew, MP.pCT, MP.pIf, MP.pB, MP.pT, MP.pAnd, MP.pOr, MP.pNot, MP.pAndV, MP.pOrV, MP.pNotV, MP.pChain, MP.pG, MP.pGs, MP.pIxT, MP.pSlice, MP.pPart, MP.pNoPart, MP.pMtT, MP.pJoinT, MP.pAsgS, MP.pAug, MP.body, MP.gd, MP.e_add_ii, MP.e_add_ss, MP.e_add_tt, MP.e_add_rr, MP.e_sub, MP.e_mul_ii, MP.e_mul_si, MP.e_mul_ri, MP.e_iadd_ii, MP.e_iadd_ss, MP.e_pow, MP.e_fdiv, MP.e_mod, MP.e_neg, MP.e_lt, MP.e_le, MP.e_gt, MP.e_ge, MP.e_eq_ii, MP.e_ne_ii, MP.e_eq_ss, MP.e_ne_ss, MP.e_eq_bb, MP.e_ne_bb, MP.e_isN, MP.e_notN, MP.e_ix_s, MP.e_ix_t, MP.e_ix_f, MP.e_ix_r, MP.e_ixT, MP.e_set, MP.e_len_s, MP.e_len_t, MP.e_len_f, MP.e_len_r, MP.e_lenT, MP.e_int_i, MP.e_int_b, MP.e_abs, MP.e_max, MP.e_min, MP.e_tupI, MP.e_lstI, MP.e_allI, MP.e_anyI, MP.e_onI_t, MP.e_onI_f, MP.e_onI_r, MP.e_onL_r, MP.e_isi_n, MP.e_isi_b, MP.e_isi_i, MP.e_isi_s, MP.e_isi_t, MP.e_isi_f, MP.e_isiT_n, MP.e_isiT_b, MP.e_isiT_i, MP.e_isiT_s, MP.e_isiT_t, MP.e_isiT_f, MP.e_app, MP.e_split, MP.e_joinI, MP.e_join_r, MP.e_cut_s, MP.e_cut_t, MP.e_cut_f, MP.e_cut_r, MP.tr_b, MP.tr_i, MP.tr_s, MP.tr_n, MP.tr_t, MP.tr_r, MP.x_n, MP.x_b, MP.x_i, MP.x_s, MP.x_t, MP.x_f, MP.x_r, MP.atI_0, MP.atI_1, MP.atI_2, MP.atI_3, MP.atI_m1, MP.ixN_c0, MP.ixN_c1, MP.ixN_c2, MP.e_in_ss, MP.ib_NoneType_bool, MP.ib_NoneType_int, MP.ib_NoneType_str, MP.ib_NoneType_tuple, MP.ib_NoneType_list, MP.ib_NoneType_dict, MP.ib_NoneType_set, MP.ib_bool_bool, MP.ib_bool_int, MP.ib_bool_str, MP.ib_bool_tuple, MP.ib_bool_list, MP.ib_bool_dict, MP.ib_bool_set, MP.ib_int_bool, MP.ib_int_int, MP.ib_int_str, MP.ib_int_tuple, MP.ib_int_list, MP.ib_int_dict, MP.ib_int_set, MP.ib_str_bool, MP.ib_str_int, MP.ib_str_str, MP.ib_str_tuple, MP.ib_str_list, MP.ib_str_dict, MP.ib_str_set, MP.ib_tuple_bool, MP.ib_tuple_int, MP.ib_tuple_str, MP.ib_tuple_tuple, MP.ib_tuple_list, MP.ib_tuple_dict, MP.ib_tuple_set, MP.ib_list_bool, MP.ib_list_int, MP.ib_list_str, MP.ib_list_tuple, MP.ib_list_list, MP.ib_list_dict, MP.ib_list_set, MP.ib_dict_bool, MP.ib_dict_int, MP.ib_dict_str, MP.ib_dict_tuple, MP.ib_dict_list, MP.ib_dict_dict, MP.ib_dict_set, MP.ib_set_bool, MP.ib_set_int, MP.ib_set_str, MP.ib_set_tuple, MP.ib_set_list, MP.ib_set_dict, MP.ib_set_set, Bool.not_true, Bool.not_false, List.any_cons, List.any_nil, Bool.or_false, Bool.or_true, Bool.true_or, Bool.false_or, Bool.and_true, Bool.true_and, Bool.and_false, Bool.false_and, if_true, if_false, ite_true, ite_false, and_true, true_and, Bool.false_eq_true, List.getElem?_cons_zero, List.getElem?_cons_succ, List.set_cons_zero, List.set_cons_succ, List.length_cons, List.length_nil, List.cons_append, List.nil_append]
    refine ⟨by rw [sizeLine_eq]; omega, k _ ?_⟩
    rw [len_app]
    omega
  · rw [if_neg (by simpa using c)]
    exact k s (by omega)
theorem pure__law_texts_right (vs : List PV) (h : PHeap) (Q : PQ) (Ex : PXQ) (_ : vs.length = 1) (hh : sp_part 7000 vs h Q Ex) : t__law_texts_right sp_draw sp_read sp_told sp_base (sp_same 18) sp_show_name sp_some (body Q Ex) (pstart 8 vs) h := by
  obtain ⟨p, n, rfl, P, k⟩ := hh
  rw [tr_eq]
  show pSeq _ _ (body Q Ex) [some (.ref p), none, none, none, none, none, none, none] h
  refine seq_for (pRng1_of (n := 6) (fun Q q => q) (by decide) ?_)
  refine forGo_inv (fun j τ h' => ∃ a b c d e f g, τ = [some (.ref p), a, b, c, d, e, f, g] ∧ j ≤ 6 ∧ Pot h' p (n + 1000 * (6 - j)) ∧ Ev p h h') _ (fun _ _ _ _ => trivial) (fun τ h' z => ?_) (fun j x τ h' N ej z nn => ?_) _ _ ⟨none, none, none, none, none, none, none, rfl, by decide, P.le (by omega), .refl⟩
  · obtain ⟨a, b, c, d, e, f, g, rfl, hj, P1, E1⟩ := z
    rw [rng_len] at P1
    exact k _ P1 E1
  · obtain ⟨a1, a2, a3, a4, a5, a6, a7, rfl, hj, P1, E1⟩ := z
    have hj : j < 6 := by
      have := (List.getElem?_eq_some_iff.mp ej).1
      rwa [rng_len] at this
    refine ⟨_, rfl, ?_⟩
    have ew : n + 1000 * (6 - j) = n + 1000 * (6 - (j + 1)) + 197 + 1 + 1 + 1 + 800 := by omega
    rw [ew] at P1
    refine seq_asg ⟨rfl, rfl, p, _, rfl, P1, fun q ss h2 eq nq hq lss mss P2 E2 => ?_⟩
    have E2 := E1.trans E2
    dsimp only [MP.pNoPart, MP.pPart, MP.pC]
    rw [e_cut_r, eq]
    dsimp only
    rw [List.getElem?_concat_length]
    dsimp only
    have ec : cut (ss.map PV.str) none (some 11) = (ss.take 11).map .str := by
      rw [show (some (11 : Int)) = some ((11 : Nat) : Int) from rfl, cut_to, List.map_take]
    rw [ec]
    have lt : (ss.take 11).length ≤ 12 := by rw [List.length_take]; omega
    have mt : ∀ s ∈ ss.take 11, s.length ≤ 50 := fun s hs => mss s (List.mem_of_mem_take hs)
    refine join_dots (b := 50) (List.getElem?_concat_length ..) (by omega) (by omega) mt (fun _ => rfl) ?_
    have P2 := P2.app [Cell.lst ((ss.take 11).map .str)]
    have E2 := E2.trans (.app [Cell.lst ((ss.take 11).map .str)])
    generalize h2 ++ [Cell.lst ((ss.take 11).map .str)] = H at P2 E2 ⊢
    have l0 : (Txt.join "" ((ss.take 11).map (· ++ ("." : Str)))).length ≤ 1000 := by
      have := (joined_len (ys := (ss.take 11).map (· ++ ("." : Str))) (b := 51) fun y hy => by
        obtain ⟨s, hs, rfl⟩ := List.mem_map.mp hy
        rw [len_app]
        have := mt s hs
        show s.length + 1 ≤ 51
        omega).1
      rw [List.length_map] at this
      have : (ss.take 11).length * 51 ≤ 12 * 51 := Nat.mul_le_mul_right _ lt
      omega
    generalize Txt.join "" ((ss.take 11).map (· ++ ("." : Str))) = s0 at l0 ⊢
    refine seq_asg ⟨rfl, rfl, p, 6, _, rfl, by decide, by decide, P2, fun r3 h3 r30 r31 P3 E3 l3 => ?_⟩
    have E3 := E2.trans E3
    refine seq_asg ⟨rfl, rfl, rfl, p, _, _, rfl, by omega, by omega, P3, fun r4 h4 r40 r41 P4 E4 l4 => ?_⟩
    have E4 := E3.trans E4
    refine tr3_ok l0 fun s1 l1' => tr4_ok l1' fun s2 l2' => tr5_ok (by omega) P4 r3 fun s3 h5 τ6 l3' P5 E5 => tr67 l3' fun t τ5 => ?_
    exact nn _ _ ⟨_, _, _, _, _, _, _, rfl, hj, (P5.le (by omega)).app t, (E4.trans E5).trans (.app t)⟩
/-! ### the law -/
def sp_law : PSp := fun vs h Q _ => ∃ ns : List Int, vs = [.fl (ns.map .int)] ∧ ns.length ≤ 63 ∧ ∀ h', Q (.bl true) h'
theorem pure_law (vs : List PV) (h : PHeap) (Q : PQ) (Ex : PXQ) (_ : vs.length = 1) (hh : sp_law vs h Q Ex) : t_law sp_pot (sp_part 400) (sp_part 5000) (sp_part 7000) (body Q Ex) (pstart 3 vs) h := by
  obtain ⟨ns, rfl, ln, k⟩ := hh
  show t_law sp_pot (sp_part 400) (sp_part 5000) (sp_part 7000) (body Q Ex) [some (.fl (ns.map .int)), none, none] h
  unfold t_law
  have hL : ∃ L : Nat, L ≤ 5 ∧ (if (if ((ns.map PV.int).length : Int) < 5 then ((ns.map PV.int).length : Int) else 5) > 1 then (if ((ns.map PV.int).length : Int) < 5 then ((ns.map PV.int).length : Int) else 5) else (1 : Int)) = (L : Int) := by
    rw [List.length_map]
    by_cases c : (ns.length : Int) < 5
    · rw [if_pos c]
      by_cases c2 : (ns.length : Int) > 1
      · exact ⟨ns.length, by omega, by rw [if_pos c2]⟩
      · exact ⟨1, by decide, by rw [if_neg c2]; rfl⟩
    · rw [if_neg c]
      exact ⟨5, by decide, rfl⟩
  obtain ⟨L, hL, eL⟩ := hL
  refine seq_for (pRng1_of (n := L) (fun Q q => ⟨rfl, ?_⟩) (by omega) ?_)
  · show Q (.int (if (if ((ns.map PV.int).length : Int) < 5 then ((ns.map PV.int).length : Int) else 5) > 1 then (if ((ns.map PV.int).length : Int) < 5 then ((ns.map PV.int).length : Int) else 5) else (1 : Int))) h
    rw [eL]
    exact q
  refine forGo_inv (fun j τ h' => ∃ a b, τ = [some (.fl (ns.map .int)), a, b]) _ (fun _ _ _ _ => trivial) (fun τ h' z => ?_) (fun j x τ h' N ej z nn => ?_) _ _ ⟨none, none, rfl⟩
  · obtain ⟨a, b, rfl⟩ := z
    exact k _
  · obtain ⟨a, b, rfl⟩ := z
    have hj : j < L := by
      have := (List.getElem?_eq_some_iff.mp ej).1
      rwa [rng_len] at this
    have ex : x = .int (0 + (j : Nat)) := by
      unfold rngOf at ej
      rw [List.getElem?_map, List.getElem?_range hj] at ej
      exact (Option.some.inj ej).symm
    subst ex
    refine ⟨_, rfl, ?_⟩
    rw [Int.zero_add]
    refine seq_asg ⟨rfl, rfl, rfl, ns, j, rfl, by omega, by omega, fun p t P => ?_⟩
    refine ⟨rfl, rfl, p, 899999000, rfl, P.le (by omega), fun h2 P2 E2 => ?_⟩
    refine ⟨rfl, rfl, p, 899990000, rfl, P2.le (by omega), fun h3 P3 E3 => ?_⟩
    refine ⟨rfl, rfl, p, 899980000, rfl, P3.le (by omega), fun h4 P4 E4 => ?_⟩
    exact nn _ _ ⟨_, _, rfl⟩
end L_k01
set_option maxHeartbeats 0
/-! Printed by gen.py: the head. -/
namespace L_k01
open PySem PySem.Spec PyProof.Rows L2 TL MP
abbrev R : PySem.W.OpenRow := PySem.W.OpenLaw.row PySem.Challenge.rw_rootward_k01_labels_and_names
abbrev hk : PySem.W.Hook := hookM 6 fb fn
def ob (s : PySem.W.SharedT) : He.AlD := obsMG 6 fb fn (HandSHeadRun.getT s)
theorem ob_eq (s : PySem.W.SharedT) : ob s = hk.obs s.abs := obsMG_eq (HandSHeadRun.getT_eq s)
def loose : List PySem.Str := (["TreeError", "InvalidName", "Unreadable", "SIGNS", "LONGEST", "rebuilt", "is_label", "is_name", "is_asked", "need_name", "name_of", "show_name", "_law_pot", "_law_take", "_law_same", "_law_label", "_law_odd", "_law_is_label", "_law_is_name", "_law_any_label", "_law_some_labels", "_law_labels_right", "_law_shown", "_law_kept_apart", "_law_names_right"] : List Str) ++ (["_law_read", "_law_told", "_law_is_base", "_law_texts_right"] : List Str)
theorem run (w : World) : HandSHeadRun.RunEq R (PySem.W.view R.prog [32]) hk ob 6000 loose w := by
  intro os
  kernel_rfl
end L_k01

open PySem PySem.W PySem.Calls PyProof.Rows
/-- the head: what is left is the law's own promise -/
theorem L_k01.head {sp : MP.PSp} (ok : ∀ (w : World) (K : PySem.W.Frag) (mg : PySem.Str → Option Value) (base : Heap), L_k01.HX K mg base → MP.Ok (PySem.Challenge.rw_rootward_k01_labels_and_names).prog w K mg base "law" L_k01.s_law [PySem.Str.ofString "_law_script"] 23 sp)
    (pure : ∀ ns : List Int, ns.length ≤ 63 → sp [.fl (ns.map MP.PV.int)] [] (fun v _ => v = .bl true) MP.F0) : PySem.Challenge.rw_rootward_k01_labels_and_names.Holds := by
  w_on; o_law
  refine HandSHeadRun.head_any (r := OpenLaw.row PySem.Challenge.rw_rootward_k01_labels_and_names) (q := view (OpenLaw.row PySem.Challenge.rw_rootward_k01_labels_and_names).prog [32]) (H := L_k01.hk) (ob := L_k01.ob) (M := 6000) (loose := L_k01.loose) (d := HandSHeadRun.topDef (OpenLaw.row PySem.Challenge.rw_rootward_k01_labels_and_names).prog 32) (kwd := []) L_k01.ob_eq
    (by kernel_rfl) (fun s => by kernel_rfl) L_k01.run (by kernel_rfl) (by kernel_rfl) (by kernel_rfl) (by rfl) (by first | assumption | decide +kernel) (by decide +kernel) ⟨rfl, rfl, rfl, rfl, rfl, by decide +kernel⟩ ?hw ?hc
  case hw => w_witness2
  case hc =>
    refine L2.walk_ofM (l := PySem.Challenge.rw_rootward_k01_labels_and_names) (n := 63) (k := 23) (x := PySem.Str.ofString "_law_script") rfl (by decide) (by kernel_rfl) ⟨rfl, by decide, by decide⟩ ?F
    case F =>
      intro w mg fa h Y G hmg
      obtain ⟨K, X, c⟩ := Y
      have E : L_k01.HX K mg h := ⟨c, X, G⟩
      have hnm : (HandSHeadRun.topDef (OpenLaw.row PySem.Challenge.rw_rootward_k01_labels_and_names).prog 32).name = "law" := by kernel_rfl
      rw [hnm] at hmg
      have e := hmg.symm.trans E.g_law
      obtain rfl : fa = He.ga K "law" := by cases e; rfl
      obtain ⟨fd, F⟩ := E.d_law
      have hb : ∀ (s : Shared) (u : Value), BindsTo s fd ⟨[u], []⟩ [(PySem.Str.ofString "_law_script", u)] := fun s u => by
        obtain ⟨oc, od, dV, kV, doc, pm, an, cdv, ct, osl, rfl, _, _, hD, _⟩ := F.ex
        rcases hD with ⟨_, rfl⟩ | ⟨e, _⟩
        · exact BindsTo.of_eq rfl
        · exact absurd rfl e
      obtain ⟨fd2, sp2, h1, h2, h3⟩ := MP.law_end (P := (PySem.Challenge.rw_rootward_k01_labels_and_names).prog) (w := w) (mg := mg) (x := PySem.Str.ofString "_law_script") (k := 23) (n := 63) (by decide) F hb (fun base X' G' => ok w K mg base ⟨c, X', G'⟩) pure
      exact ⟨K, fd2, sp2, X, h1, h2, h3⟩
set_option maxHeartbeats 8000000
/-! Printed by gen.py: the join. -/
namespace L_k01
open PySem PySem.Spec PyProof.Rows MP TL
theorem ok_all {P : Program} {w : World} {K : PySem.W.Frag} {mg : Str → Option Value} {base : Heap} (E : HX K mg base) : Ok P w K mg base "law" s_law ["_law_script"] 23 sp_law := by
  have O_rebuilt : Ok P w K mg base "rebuilt" s_rebuilt ["value"] 17 (sp_rebuilt 17) := ok_rec (b := 0) E.d_rebuilt rfl (fun f kk hk H => ok_rebuilt E hk H (pure_rebuilt f)) 17
  have O_is_label := ok_is_label (P := P) (w := w) E  pure_is_label
  have O_is_name := ok_is_name (P := P) (w := w) E O_is_label pure_is_name
  have O_is_asked := ok_is_asked (P := P) (w := w) E O_is_name pure_is_asked
  have O_need_name := ok_need_name (P := P) (w := w) E O_is_name O_rebuilt pure_need_name
  have O_name_of := ok_name_of (P := P) (w := w) E O_is_name O_rebuilt pure_name_of
  have O_show_name := ok_show_name (P := P) (w := w) E O_need_name pure_show_name
  have O__law_pot := ok__law_pot (P := P) (w := w) E  pure__law_pot
  have O__law_take := ok__law_take (P := P) (w := w) E  pure__law_take
  have O__law_same : Ok P w K mg base "_law_same" s__law_same ["_law_told_here", "_law_due"] 18 (sp_same 18) := ok_rec (b := 0) E.d__law_same rfl (fun f kk hk H => ok__law_same E hk H (pure__law_same f)) 18
  have O__law_label := ok__law_label (P := P) (w := w) E O__law_take pure__law_label
  have O__law_odd := ok__law_odd (P := P) (w := w) E O__law_take pure__law_odd
  have O__law_is_label := ok__law_is_label (P := P) (w := w) E  pure__law_is_label
  have O__law_is_name := ok__law_is_name (P := P) (w := w) E O__law_is_label pure__law_is_name
  have O__law_any_label := ok__law_any_label (P := P) (w := w) E O__law_take O__law_label pure__law_any_label
  have O__law_some_labels := ok__law_some_labels (P := P) (w := w) E O__law_take O__law_any_label O__law_label pure__law_some_labels
  have O__law_labels_right := ok__law_labels_right (P := P) (w := w) E O__law_any_label O__law_take O__law_odd O__law_same O_is_label O__law_is_label pure__law_labels_right
  have O__law_shown := ok__law_shown (P := P) (w := w) E O_show_name pure__law_shown
  have O__law_kept_apart := ok__law_kept_apart (P := P) (w := w) E O__law_shown pure__law_kept_apart
  have O__law_names_right := ok__law_names_right (P := P) (w := w) E O__law_some_labels O__law_is_name O__law_take O__law_same O__law_shown O_is_name O_is_asked O__law_kept_apart O__law_odd O_show_name O_name_of pure__law_names_right
  have O__law_read := ok__law_read (P := P) (w := w) E O__law_is_name pure__law_read
  have O__law_told := ok__law_told (P := P) (w := w) E O_name_of pure__law_told
  have O__law_is_base := ok__law_is_base (P := P) (w := w) E O_name_of pure__law_is_base
  have O__law_texts_right := ok__law_texts_right (P := P) (w := w) E O__law_take O__law_read O__law_told O__law_is_base O__law_same O_show_name O__law_some_labels pure__law_texts_right
  have O_law := ok_law (P := P) (w := w) E O__law_pot O__law_labels_right O__law_names_right O__law_texts_right pure_law
  exact O_law
end L_k01
theorem PySem.Challenge.cw_rootward_k01_labels_and_names_holds : PySem.Challenge.rw_rootward_k01_labels_and_names.Holds := by
  exact L_k01.head (sp := L_k01.sp_law) (fun w K mg base E => L_k01.ok_all E) fun ns l => ⟨ns, rfl, l, fun _ => rfl⟩
