import PyProof.Rows.All
import Wide.All
import OpenK.AllK
import Wide.FinOn
import HandS.ForMost
import HandS.Exc
import HandS.Wide
import HandS.WideBits
import HandS.IsInst
import HandS.TupAny
import HandS.TupMul
import HandS.Deep
import HandS.Style
import HandS.Flow
import HandS.NoneIn
import HandS.Conv
import HandS.ForExc
import HandS.Defaults
import HandS.ExcField
import HandS.ExcIs
import HandS.Head0
import HandS.Head1
import HandS.Head2
import HandS.HeadEnd
import HandS.HeadHook1
import HandS.HeadHook2
import KE.KStateDown
import Lean
import HandS.CallSlots
import KE.KExcIs
import HandS.TupLe
import PyProof.Rows.SeqMore
import PyProof.Rows.ListMulArg
import PySem.Challenge.RW_rootward_k25_steps_on_the_circle
set_option Elab.async false
set_option linter.all false
set_option maxRecDepth 100000
set_option maxHeartbeats 4000000
/-! MP0: a small pure layer over the hand layer: values PV (tuples by value), a heap of cells by number, readings as predicate transformers. -/
namespace MP
open PySem

inductive PV where
  | non | bl (b : Bool) | int (i : Int) | str (s : Str) | tup (xs : List PV) | fl (xs : List PV) | ref (n : Nat) | exc (c : Str) (v : PV)
inductive Cell where
  | lst (xs : List PV) | dct (kvs : List (PV × PV)) | set (xs : List PV) | ins (c : Str) (fs : List (Str × PV))
abbrev PHeap := List Cell
abbrev PSt := List (Option PV)
abbrev PQ := PV → PHeap → Prop
abbrev PXQ := Str → PV → PHeap → Prop
abbrev PTE := PSt → PHeap → PQ → PXQ → Prop
abbrev PTT := PSt → PHeap → (Bool → PHeap → Prop) → PXQ → Prop
abbrev PTA := PSt → PHeap → (List PV → PHeap → Prop) → PXQ → Prop
abbrev PSp := List PV → PHeap → PQ → PXQ → Prop
structure PD where
  nx : PSt → PHeap → Prop
  rt : PV → PHeap → Prop
  bk : PSt → PHeap → Prop
  ct : PSt → PHeap → Prop
  ex : Str → PV → PSt → PHeap → Prop
abbrev PTS := PD → PSt → PHeap → Prop
abbrev POp := PV → PV → PHeap → PQ → Prop
abbrev PUn := PV → PHeap → PQ → Prop
abbrev PCb := List PV → PHeap → PQ → Prop

/-! ### what may be a text -/
def okS (s : Str) : Prop := s.length ≤ sizeLine ∧ PySem.PyData.strOk s = true

/-! ### data read off -/
def allD (g : PV → Option PyData) : List PV → Option (List PyData)
  | [] => some []
  | x :: xs => match g x, allD g xs with
    | some d, some ds => some (d :: ds)
    | _, _ => none
/-- read off, if it is no longer than a line -/
def rdL (g : PV → Option PyData) (xs : List PV) : Option (List PyData) := if xs.length ≤ 100000 then allD g xs else none
theorem rdL_ok {g : PV → Option PyData} {xs : List PV} {ds : List PyData} (e : rdL g xs = some ds) : xs.length ≤ 100000 ∧ allD g xs = some ds := by
  unfold rdL at e
  split at e
  · rename_i l
    exact ⟨l, e⟩
  · cases e
theorem rdL_of {g : PV → Option PyData} {xs : List PV} {ds : List PyData} (l : xs.length ≤ 100000) (e : allD g xs = some ds) : rdL g xs = some ds := by
  unfold rdL
  rw [if_pos l]
  exact e
def rd (h : PHeap) : Nat → PV → Option PyData
  | _, .non => some .none
  | _, .bl b => some (.bool b)
  | _, .int i => some (.int i)
  | _, .str s => some (.str s)
  | f + 1, .tup xs => (rdL (rd h f) xs).map .tuple
  | f + 1, .fl xs => (rdL (rd h f) xs).map .list
  | f + 1, .ref n => match h[n]? with
    | some (.lst xs) => (rdL (rd h f) xs).map .list
    | _ => none
  | _, _ => none

/-! ### expressions -/
def isExc : PV → Bool
  | .exc _ _ => true
  | _ => false
def pVar (i : Nat) : PTE := fun τ h Q _ => match τ[i]? with
  | some (some v) => isExc v = false ∧ Q v h
  | _ => False
def pC (v : PV) : PTE := fun _ h Q _ => Q v h
def pOp (r : POp) (a b : PTE) : PTE := fun τ h Q E => a τ h (fun x h1 => b τ h1 (fun y h2 => r x y h2 Q) E) E
def pUn (r : PUn) (a : PTE) : PTE := fun τ h Q E => a τ h (fun x h1 => r x h1 Q) E
def pNil : PTA := fun _ h Q _ => Q [] h
def pCons (a : PTE) (t : PTA) : PTA := fun τ h Q E => a τ h (fun x h1 => t τ h1 (fun xs h2 => Q (x :: xs) h2) E) E
def pCB (r : PCb) (t : PTA) : PTE := fun τ h Q E => t τ h (fun vs h1 => r vs h1 Q) E
def pCall (sp : PSp) (t : PTA) : PTE := fun τ h Q E => t τ h (fun vs h1 => sp vs h1 Q E) E
def pTup (t : PTA) : PTE := fun τ h Q E => t τ h (fun vs h1 => vs.length ≤ sizeLine ∧ Q (.tup vs) h1) E
/-- a list that nobody keeps: its items alone -/
def pTmp (t : PTA) : PTA := fun τ h Q E => t τ h (fun vs h1 => vs.length ≤ sizeLine ∧ Q vs h1) E
/-- a temporary list, kept from here on -/
def pNew (t : PTA) : PTE := fun τ h Q E => t τ h (fun vs h1 => Q (.ref h1.length) (h1 ++ [.lst vs])) E
/-- a call of a built-in upon a temporary list -/
def pCT (r : PCb) (t : PTA) : PTE := fun τ h Q E => t τ h (fun vs h1 => r vs h1 Q) E
/-- a temporary list at an index -/
def pIxT (r : List PV → PV → PHeap → PQ → Prop) (t : PTA) (b : PTE) : PTE := fun τ h Q E => t τ h (fun vs h1 => b τ h1 (fun y h2 => r vs y h2 Q) E) E
def pIf (t : PTT) (a b : PTE) : PTE := fun τ h Q E => t τ h (fun c h1 => if c = true then a τ h1 Q E else b τ h1 Q E) E

/-! ### tests -/
def truth (h : PHeap) : PV → Option Bool
  | .non => some false
  | .bl b => some b
  | .int i => some (i != 0)
  | .str s => some ((s.length : Int) != 0)
  | .tup xs => some !xs.isEmpty
  | .fl xs => some !xs.isEmpty
  | .ref n => match h[n]? with
    | some (.lst xs) => some !xs.isEmpty
    | _ => none
  | _ => none
/-- a value that is True or False, as a test -/
def pB (a : PTE) : PTT := fun τ h Q E => a τ h (fun x h1 => match x with
  | .bl b => Q b h1
  | _ => False) E
def pT (a : PTE) : PTT := fun τ h Q E => a τ h (fun x h1 => match truth h1 x with
  | some b => Q b h1
  | none => False) E
def pAnd (t u : PTT) : PTT := fun τ h Q E => t τ h (fun c h1 => if c = true then u τ h1 Q E else Q false h1) E
def pOr (t u : PTT) : PTT := fun τ h Q E => t τ h (fun c h1 => if c = true then Q true h1 else u τ h1 Q E) E
def pNot (t : PTT) : PTT := fun τ h Q E => t τ h (fun c h1 => Q (!c) h1) E
/-- and, or, not as values, all but the last True or False -/
def pAndV (a b : PTE) : PTE := fun τ h Q E => a τ h (fun x h1 => match x with
  | .bl c => if c = true then b τ h1 Q E else Q (.bl false) h1
  | _ => False) E
def pOrV (a b : PTE) : PTE := fun τ h Q E => a τ h (fun x h1 => match x with
  | .bl c => if c = true then Q (.bl true) h1 else b τ h1 Q E
  | _ => False) E
def pNotV (a : PTE) : PTE := fun τ h Q E => a τ h (fun x h1 => match x with
  | .bl c => Q (.bl (!c)) h1
  | _ => False) E
def pChain (r r' : POp) (a b c : PTE) : PTE := fun τ h Q E => a τ h (fun x h1 => b τ h1 (fun y h2 => r x y h2 fun z h3 => match z with
  | .bl k => if k = true then c τ h3 (fun w h4 => r' y w h4 Q) E else Q (.bl false) h3
  | _ => False) E) E

/-! ### targets -/
inductive Tg where
  | nm (i : Nat) | tp (ts : List Tg)
mutual
def pG : Tg → PV → PSt → Option PSt
  | .nm i, v, τ => some (τ.set i (some v))
  | .tp ts, .tup xs, τ => if xs.length = ts.length then pGs ts xs τ else none
  | .tp _, _, _ => none
def pGs : List Tg → List PV → PSt → Option PSt
  | [], _, τ => some τ
  | _ :: _, [], _ => none
  | t :: ts, v :: vs, τ => match pG t v τ with
    | some τ' => pGs ts vs τ'
    | none => none
end

/-! ### what is walked -/
abbrev PTI := PSt → PHeap → (List PV → (PHeap → Prop) → PHeap → Prop) → PXQ → Prop
def charsOf (s : Str) : List PV := s.cps.toList.map fun c => .str ⟨#[c]⟩
def pIter (a : PTE) : PTI := fun τ h R E => a τ h (fun x h1 => match x with
  | .tup xs => R xs (fun _ => True) h1
  | .fl xs => R xs (fun _ => True) h1
  | .str s => R (charsOf s) (fun _ => True) h1
  | .ref n => match h1[n]? with
    | some (.lst xs) => R xs (fun h2 => h2[n]? = some (.lst xs)) h1
    | _ => False
  | _ => False) E
/-- over a temporary list -/
def pIterT (t : PTA) : PTI := fun τ h R E => t τ h (fun xs h1 => R xs (fun _ => True) h1) E
def rngOf (lo : Int) (n : Nat) : List PV := (List.range n).map fun i => .int (lo + (i : Nat))
def pRng1 (a : PTE) : PTI := fun τ h R E => a τ h (fun x h1 => match x with
  | .int j => -(2 ^ 62) ≤ j ∧ j < 2 ^ 62 ∧ R (rngOf 0 j.toNat) (fun _ => True) h1
  | _ => False) E
def pRng2 (a b : PTE) : PTI := fun τ h R E => a τ h (fun x h1 => b τ h1 (fun y h2 => match x, y with
  | .int i, .int j => (-(2 ^ 62) ≤ i ∧ i < 2 ^ 62 ∧ -(2 ^ 62) ≤ j ∧ j < 2 ^ 62) ∧ R (rngOf i (j - i).toNat) (fun _ => True) h2
  | _, _ => False) E) E

/-! ### statements -/
def pNext : PTS := fun D τ h => D.nx τ h
def pSeq (t u : PTS) : PTS := fun D τ h => t { D with nx := u D } τ h
def pDrop (a : PTE) : PTS := fun D τ h => a τ h (fun _ h1 => D.nx τ h1) (fun c v h1 => D.ex c v τ h1)
def pRet (a : PTE) : PTS := fun D τ h => a τ h D.rt (fun c v h1 => D.ex c v τ h1)
def pRetN : PTS := fun D _ h => D.rt .non h
def pBrk : PTS := fun D τ h => D.bk τ h
def pCt : PTS := fun D τ h => D.ct τ h
def pIfS (c : PTT) (t u : PTS) : PTS := fun D τ h => c τ h (fun b h1 => if b = true then t D τ h1 else u D τ h1) (fun c v h1 => D.ex c v τ h1)
def pAsg (a : PTE) (g : Tg) : PTS := fun D τ h => a τ h (fun x h1 => match pG g x τ with
  | some τ' => D.nx τ' h1
  | none => False) (fun c v h1 => D.ex c v τ h1)
abbrev PSetR := PV → PV → PV → PHeap → (PHeap → Prop) → Prop
/-- o[i] = e: e, o, i -/
def pAsgS (a o i : PTE) (r : PSetR) : PTS := fun D τ h => a τ h (fun x h1 => o τ h1 (fun y h2 => i τ h2 (fun z h3 => r y z x h3 fun h4 => D.nx τ h4) (fun c v h' => D.ex c v τ h')) (fun c v h' => D.ex c v τ h')) (fun c v h' => D.ex c v τ h')
/-- name op= e -/
def pAug (i : Nat) (r : POp) (a : PTE) : PTS := fun D τ h => match τ[i]? with
  | some (some x) => isExc x = false ∧ a τ h (fun y h1 => r x y h1 fun z h2 => D.nx (τ.set i (some z)) h2) (fun c v h' => D.ex c v τ h')
  | _ => False
def forGo (g : Tg) (body : PTS) (D : PD) (ok : PHeap → Prop) : List PV → PSt → PHeap → Prop
  | [], τ, h => ok h ∧ D.nx τ h
  | x :: xs, τ, h => ok h ∧ match pG g x τ with
    | some τ' => body { D with nx := forGo g body D ok xs, ct := forGo g body D ok xs, bk := D.nx } τ' h
    | none => False
def pFor (s : PTI) (g : Tg) (body : PTS) : PTS := fun D τ h => s τ h (fun xs ok h1 => forGo g body D ok xs τ h1) (fun c v h' => D.ex c v τ h')
def pWhile (c : PTT) (body : PTS) : PTS := fun D τ h => ∃ W : Nat → PSt → PHeap → Prop, (∃ m, W m τ h) ∧ ∀ m τ h, W m τ h →
  c τ h (fun b h1 => if b = true then ∃ N : PSt → PHeap → Prop, (∀ τ' h', N τ' h' → ∃ m', m' < m ∧ W m' τ' h') ∧ body { D with nx := N, ct := N, bk := D.nx } τ h1 else D.nx τ h1) (fun c v h' => D.ex c v τ h')
def pRaise (c : Str) (a : PTE) : PTS := fun D τ h => a τ h (fun x h1 => D.ex c x τ h1) (fun c v h' => D.ex c v τ h')
/-- an except clause of the class cls takes an error of the class c -/
def catches (c cls : Str) : Bool := decide (c = cls) || decide (cls = ("TreeError" : Str))
def PD.out (D : PD) (i : Nat) : PD := { nx := fun t2 h2 => D.nx (t2.set i none) h2, rt := D.rt, bk := fun t2 h2 => D.bk (t2.set i none) h2, ct := fun t2 h2 => D.ct (t2.set i none) h2, ex := fun _ _ _ _ => False }
def exAs (cls : Str) (i : Nat) (su : PTS) (D : PD) (c : Str) (v : PV) (τ : PSt) (h : PHeap) : Prop := if catches c cls = true then su (D.out i) (τ.set i (some (.exc c v))) h else D.ex c v τ h
def pTryAs (tb : PTS) (cls : Str) (i : Nat) (su : PTS) : PTS := fun D τ h => tb { D with ex := exAs cls i su D } τ h

/-! ### comprehensions -/
def pwipe (τ : PSt) : List Nat → PSt
  | [] => τ
  | i :: is => (pwipe τ is).set i none
def F0 : PXQ := fun _ _ _ => False
def pYes : PTT := fun _ h Q _ => Q true h
def lcGo (g : Tg) (tt : PTT) (te : PTE) (ok : PHeap → Prop) (τ0 : PSt) : List PV → List PV → PHeap → (List PV → PHeap → Prop) → Prop
  | [], acc, h, Q => ok h ∧ Q acc h
  | x :: xs, acc, h, Q => ok h ∧ match pG g x τ0 with
    | some τ' => tt τ' h (fun b h1 => if b = true then te τ' h1 (fun y h2 => acc.length < sizeLine ∧ lcGo g tt te ok τ0 xs (acc ++ [y]) h2 Q) F0 else lcGo g tt te ok τ0 xs acc h1 Q) F0
    | none => False
/-- [te for g in s if tt], own slots vs: a temporary list -/
def pLc (s : PTI) (g : Tg) (tt : PTT) (te : PTE) (vs : List Nat) : PTA := fun τ h Q E => s τ h (fun xs ok h1 => lcGo g tt te ok (pwipe τ vs) xs [] h1 Q) E

/-! ### operators -/
def lstOf (h : PHeap) : PV → Option (List PV)
  | .fl xs => some xs
  | .ref n => match h[n]? with
    | some (.lst xs) => some xs
    | _ => none
  | _ => none
def rAdd : POp := fun x y h Q => match x, y with
  | .int i, .int j => Q (.int (i + j)) h
  | .str a, .str b => a.length + b.length ≤ sizeLine ∧ Q (.str (a ++ b)) h
  | .tup xs, .tup ys => xs.length + ys.length ≤ sizeLine ∧ Q (.tup (xs ++ ys)) h
  | .ref m, .ref n => match h[m]?, h[n]? with
    | some (.lst xs), some (.lst ys) => xs.length + ys.length ≤ sizeLine ∧ Q (.ref h.length) (h ++ [.lst (xs ++ ys)])
    | _, _ => False
  | _, _ => False
def rSub : POp := fun x y h Q => match x, y with
  | .int i, .int j => Q (.int (i - j)) h
  | _, _ => False
/-- small enough a product -/
def mulOk (i j : Int) : Prop := i.natAbs < 2 ^ 64 ∨ j.natAbs < 2 ^ 64 ∨ ∃ a b : Nat, i.natAbs < 2 ^ a ∧ j.natAbs < 2 ^ b ∧ a + b ≤ 134217728
def powOk (i j : Int) : Prop := 0 ≤ j ∧ ∃ a : Nat, i.natAbs < 2 ^ a ∧ (a : Int) * j ≤ 134217728
def strRep (s : Str) (k : Nat) : Str := ⟨(List.replicate k s.cps.toList).flatten.toArray⟩
def rMul : POp := fun x y h Q => match x, y with
  | .int i, .int j => mulOk i j ∧ Q (.int (i * j)) h
  | .ref m, .int k => match h[m]? with
    | some (.lst xs) => -(2 ^ 63) ≤ k ∧ k < 2 ^ 63 ∧ xs.length * k.toNat ≤ sizeLine ∧ Q (.ref h.length) (h ++ [.lst (List.replicate k.toNat xs).flatten])
    | _ => False
  | .str a, .int k => (PySem.MulOk a k ∧ okS (Txt.mul a k)) ∧ Q (.str (Txt.mul a k)) h
  | _, _ => False
def rIAdd : POp := fun x y h Q => match x, y with
  | .int i, .int j => Q (.int (i + j)) h
  | .str a, .str b => a.length + b.length ≤ sizeLine ∧ Q (.str (a ++ b)) h
  | _, _ => False
def rPow : POp := fun x y h Q => match x, y with
  | .int i, .int j => powOk i j ∧ Q (.int (i ^ j.toNat)) h
  | _, _ => False
def rFdiv : POp := fun x y h Q => match x, y with
  | .int i, .int j => (0 < j ∧ j.natAbs.log2 < 9000) ∧ Q (.int (i / j)) h
  | _, _ => False
def rMod : POp := fun x y h Q => match x, y with
  | .int i, .int j => 0 < j ∧ Q (.int (i % j)) h
  | _, _ => False
def rNeg : PUn := fun x h Q => match x with
  | .int i => Q (.int (-i)) h
  | _ => False
/-! ### comparisons -/
def cmpI (p : Int → Int → Bool) (q : Str → Str → Bool) : POp := fun x y h Q => match x, y with
  | .int i, .int j => Q (.bl (p i j)) h
  | .str a, .str b => Q (.bl (q a b)) h
  | _, _ => False
def rLt : POp := cmpI (fun i j => decide (i < j)) (fun a b => decide (a.cps.toList < b.cps.toList))
def rLe : POp := cmpI (fun i j => decide (i ≤ j)) (fun a b => !decide (b.cps.toList < a.cps.toList))
def rGt : POp := cmpI (fun i j => decide (j < i)) (fun a b => decide (b.cps.toList < a.cps.toList))
def rGe : POp := cmpI (fun i j => decide (j ≤ i)) (fun a b => !decide (a.cps.toList < b.cps.toList))
def rEqP : POp := fun x y h Q => match rd h 64 x, rd h 64 y with
  | some d, some e => Q (.bl (PyData.eqv d e)) h
  | _, _ => False
def rNeP : POp := fun x y h Q => match rd h 64 x, rd h 64 y with
  | some d, some e => Q (.bl (!PyData.eqv d e)) h
  | _, _ => False
def isNon : PV → Bool
  | .non => true
  | _ => false
def rIsN : PUn := fun x h Q => Q (.bl (isNon x)) h
def rNotN : PUn := fun x h Q => Q (.bl (!isNon x)) h
def strIn (a b : Str) : Bool := !(Builtin.Str.occurrences b a 0 b.length 1).isEmpty
/-- the items of what is searched -/
def itemsOf (h : PHeap) : PV → Option (List PV)
  | .tup xs => some xs
  | .fl xs => some xs
  | .ref n => match h[n]? with
    | some (.lst xs) => some xs
    | _ => none
  | _ => none
def inP (h : PHeap) (x y : PV) : Option Bool := match x, y with
  | .str a, .str b => some (strIn a b)
  | x, y => match itemsOf h y with
    | some ys => match rd h 64 x, allD (rd h 63) ys with
      | some d, some ds => some (ds.any fun z => PyData.eqv z d)
      | _, _ => none
    | none => none
def rInP : POp := fun x y h Q => match inP h x y with
  | some b => Q (.bl b) h
  | none => False
def rNotInP : POp := fun x y h Q => match inP h x y with
  | some b => Q (.bl (!b)) h
  | none => False

/-! ### subscripts -/
def rIx : POp := fun x y h Q => match y with
  | .int i => match x with
    | .str s => match L2.atI s.cps.toList i with
      | some c => Q (.str ⟨#[c]⟩) h
      | none => False
    | x => match itemsOf h x with
      | some xs => match L2.atI xs i with
        | some v => Q v h
        | none => False
      | none => False
  | _ => False
def rIxT (xs : List PV) (y : PV) (h : PHeap) (Q : PQ) : Prop := match y with
  | .int i => match L2.atI xs i with
    | some v => Q v h
    | none => False
  | _ => False
abbrev PTO := PSt → PHeap → (Option Int → PHeap → Prop) → PXQ → Prop
def pNoPart : PTO := fun _ h Q _ => Q none h
def pPart (a : PTE) : PTO := fun τ h Q E => a τ h (fun x h1 => match x with
  | .int i => Q (some i) h1
  | _ => False) E
def cut {α : Type} (xs : List α) (lo hi : Option Int) : List α := (xs.drop (HT.sIx xs.length 0 lo)).take (HT.sIx xs.length xs.length hi - HT.sIx xs.length 0 lo)
def rCut (x : PV) (lo hi : Option Int) (h : PHeap) (Q : PQ) : Prop := match x with
  | .str s => Q (.str (L2.cutS s lo hi)) h
  | .tup xs => Q (.tup (cut xs lo hi)) h
  | .fl xs => Q (.ref h.length) (h ++ [.lst (cut xs lo hi)])
  | .ref n => match h[n]? with
    | some (.lst xs) => Q (.ref h.length) (h ++ [.lst (cut xs lo hi)])
    | _ => False
  | _ => False
def pSlice (a : PTE) (lo hi : PTO) : PTE := fun τ h Q E => a τ h (fun x h1 => lo τ h1 (fun l h2 => hi τ h2 (fun u h3 => rCut x l u h3 Q) E) E) E
def rSetP : PSetR := fun o i v h Q => match o, i with
  | .ref n, .int k => match h[n]? with
    | some (.lst xs) => match L2.ixN xs.length k with
      | some j => Q (h.set n (.lst (xs.set j v)))
      | none => False
    | _ => False
  | _, _ => False

/-! ### built-ins -/
def rLen : PCb := fun vs h Q => match vs with
  | [.str s] => Q (.int s.length) h
  | [.tup xs] => Q (.int xs.length) h
  | [.fl xs] => Q (.int xs.length) h
  | [.ref n] => match h[n]? with
    | some (.lst xs) => Q (.int xs.length) h
    | _ => False
  | _ => False
def rLenT : PCb := fun vs h Q => Q (.int vs.length) h
def rIntP : PCb := fun vs h Q => match vs with
  | [.int i] => Q (.int i) h
  | [.bl b] => Q (.int (if b then 1 else 0)) h
  | _ => False
def rAbs : PCb := fun vs h Q => match vs with
  | [.int i] => Q (.int (if i < 0 then -i else i)) h
  | _ => False
def rMax2 : PCb := fun vs h Q => match vs with
  | [.int i, .int j] => Q (.int (if j > i then j else i)) h
  | _ => False
def rMin2 : PCb := fun vs h Q => match vs with
  | [.int i, .int j] => Q (.int (if j < i then j else i)) h
  | _ => False
def bls : List PV → Option (List Bool)
  | [] => some []
  | .bl b :: xs => (bls xs).map (b :: ·)
  | _ :: _ => none
def sts : List PV → Option (List Str)
  | [] => some []
  | .str s :: xs => (sts xs).map (s :: ·)
  | _ :: _ => none
def its : List PV → Option (List Int)
  | [] => some []
  | .int i :: xs => (its xs).map (i :: ·)
  | _ :: _ => none
/-- upon the items of a list -/
def rAllI : PCb := fun vs h Q => match bls vs with
  | some bs => Q (.bl (bs.all id)) h
  | none => False
def rAnyI : PCb := fun vs h Q => match bls vs with
  | some bs => Q (.bl (bs.any id)) h
  | none => False
def rSumI : PCb := fun vs h Q => match its vs with
  | some ns => Q (.int ns.sum) h
  | none => False
def rTupI : PCb := fun vs h Q => Q (.tup vs) h
def rLstI : PCb := fun vs h Q => Q (.ref h.length) (h ++ [.lst vs])
/-- a built-in upon a list (or tuple) that stands -/
def onItems (r : PCb) : PCb := fun vs h Q => match vs with
  | [x] => match itemsOf h x with
    | some xs => r xs h Q
    | none => False
  | _ => False
def onList (r : PCb) : PCb := fun vs h Q => match vs with
  | [x] => match lstOf h x with
    | some xs => r xs h Q
    | none => False
  | _ => False
def joinLen (a : Str) (ys : List Str) : Nat := (ys.map (·.length)).sum + ys.length * a.length
def rJoinI (a : Str) : PCb := fun vs h Q => match sts vs with
  | some ys => joinLen a ys ≤ 16777216 ∧ Q (.str (Txt.join a ys)) h
  | none => False
/-! ### kinds -/
def tyOf (h : PHeap) : PV → Option String
  | .non => some "NoneType"
  | .bl _ => some "bool"
  | .int _ => some "int"
  | .str _ => some "str"
  | .tup _ => some "tuple"
  | .fl _ => some "list"
  | .ref n => match h[n]? with
    | some (.lst _) => some "list"
    | some (.dct _) => some "dict"
    | some (.set _) => some "set"
    | _ => none
  | _ => none
def isiB (a b : String) : Bool := a == b || (a == "bool" && b == "int")
def rIsi (T : String) : PUn := fun x h Q => match tyOf h x with
  | some t => Q (.bl (isiB t T)) h
  | none => False
def rIsiT (Ts : List String) : PUn := fun x h Q => match tyOf h x with
  | some t => Q (.bl (Ts.any (isiB t))) h
  | none => False
/-- of a caught error: its class among these -/
def rValue : PUn := fun x h Q => match x with
  | .exc _ v => Q v h
  | _ => False

/-! ### methods -/
abbrev PMt := PV → List PV → PHeap → PQ → Prop
def pMt (r : PMt) (o : PTE) (t : PTA) : PTE := fun τ h Q E => o τ h (fun x h1 => t τ h1 (fun vs h2 => r x vs h2 Q) E) E
def rAppend : PMt := fun x vs h Q => match x, vs with
  | .ref n, [y] => match h[n]? with
    | some (.lst xs) => xs.length < sizeLine ∧ Q .non (h.set n (.lst (xs ++ [y])))
    | _ => False
  | _, _ => False
def rSplit : PMt := fun x vs h Q => match x, vs with
  | .str a, [.str b] => (b.length == 0) = false ∧ b.cps.all (· < 256) = true ∧ a.length + 2 ≤ sizeLine ∧ Q (.ref h.length) (h ++ [.lst ((Txt.split a b).map .str)])
  | _, _ => False

/-! ### a def -/
def pstart (N : Nat) (vs : List PV) : PSt := vs.map some ++ List.replicate (N - vs.length) none
/-- what a def's body is run for -/
def body (Q : PQ) (E : PXQ) : PD := { nx := fun _ h => Q .non h, rt := Q, bk := fun _ _ => False, ct := fun _ _ => False, ex := fun c v _ h => E c v h }
end MP
set_option maxHeartbeats 4000000
/-! MP1: how the pure layer lies in the hand layer's heap; the lift of a pure reading. -/
namespace MP
open PySem PySem.Spec PyProof.Rows L2

abbrev St := L2.St
structure LG where
  K : PySem.W.Frag
  mg : Str → Option Value
abbrev XA := Option (Nat × Addr × Value × Option Addr)

/-- a list that nobody writes -/
def FzL (K : PySem.W.Frag) (H : Hp) (a : Addr) (vs : List V) : Prop := (∃ o, H a = some (.frz o (.lst vs))) ∨
  ∃ (o : Obj) (its : Array Value) (n : Nat), K.lookup a = some o ∧ o.cls = .type "list" ∧ o.dict = none ∧ o.data = .seq its n ∧ its.size ≤ sizeLine ∧ Vals vs its.toList
theorem FzL.seq {K : PySem.W.Frag} {H : Hp} {a : Addr} {vs : List V} (h : FzL K H a vs) : SqL K H a vs := by
  rcases h with ⟨o, h⟩ | h
  · exact .inl (.inr ⟨o, h⟩)
  · exact .inr h

mutual
inductive RV (G : LG) (ρ : List Addr) (H : Hp) : PV → V → Prop
  | non : RV G ρ H .non .non
  | bl (b : Bool) : RV G ρ H (.bl b) (.bl b)
  | int (i : Int) : RV G ρ H (.int i) (.int i)
  | str {s : Str} : okS s → RV G ρ H (.str s) (.str s)
  | tup {xs : List PV} {a : Addr} {vs : List V} : SqT G.K H a vs → vs.length ≤ sizeLine → RVs G ρ H xs vs → RV G ρ H (.tup xs) (.ref a)
  | fl {xs : List PV} {a : Addr} {vs : List V} : FzL G.K H a vs → vs.length ≤ sizeLine → RVs G ρ H xs vs → RV G ρ H (.fl xs) (.ref a)
  | ref {n : Nat} {a : Addr} : ρ[n]? = some a → RV G ρ H (.ref n) (.ref a)
inductive RVs (G : LG) (ρ : List Addr) (H : Hp) : List PV → List V → Prop
  | nil : RVs G ρ H [] []
  | cons {x : PV} {v : V} {xs : List PV} {vs : List V} : RV G ρ H x v → RVs G ρ H xs vs → RVs G ρ H (x :: xs) (v :: vs)
end

def isCellHO : HO → Bool
  | .lst _ => true
  | .dK _ => true
  | .dT _ => true
  | .set _ _ => true
  | .ins _ _ _ => true
  | .ext _ => true
  | _ => false
def RF (G : LG) (ρ : List Addr) (H : Hp) (fs : List (Str × PV)) (gs : List (Str × V)) : Prop := fs.map (·.1) = gs.map (·.1) ∧ RVs G ρ H (fs.map (·.2)) (gs.map (·.2))
def RC (G : LG) (ρ : List Addr) (H : Hp) (a : Addr) : Cell → Prop
  | .lst xs => ∃ vs, H a = some (.lst vs) ∧ vs.length ≤ sizeLine ∧ RVs G ρ H xs vs
  | .ins c fs => ∃ C dx gs, G.mg c = some (.ref C) ∧ H a = some (.ins C dx gs) ∧ RF G ρ H fs gs
  | _ => False
structure Rel (G : LG) (ρ : List Addr) (H : Hp) (h : PHeap) : Prop where
  len : ρ.length = h.length
  nd : ρ.Nodup
  cell : ∀ (n : Nat) (a : Addr) (c : Cell), ρ[n]? = some a → h[n]? = some c → RC G ρ H a c
structure Ext (ρ : List Addr) (H : Hp) (ρ' : List Addr) (H' : Hp) : Prop where
  pre : ∃ t, ρ' = ρ ++ t
  keep : ∀ a o, H a = some o → a ∉ ρ → H' a = some o ∧ a ∉ ρ'
def Trk (ρ : List Addr) (H : Hp) : Prop := ∀ a ∈ ρ, ∃ o, H a = some o ∧ isCellHO o = true
/-- what a slot holds: a value, or the error that the suite holds -/
def RO (G : LG) (xa : XA) (ρ : List Addr) (H : Hp) (i : Nat) : PV → V → Prop
  | .exc c x, v => ∃ a C dd u, v = .ref a ∧ xa = some (i, a, .ref C, some dd) ∧ G.mg c = some (.ref C) ∧ H dd = some (.xd [(("value" : Str), u)]) ∧ RV G ρ H x u
  | x, v => RV G ρ H x v
def RS (G : LG) (xa : XA) (ρ : List Addr) (H : Hp) (τ : PSt) (σ : St) : Prop := τ.length = σ.length ∧ ∀ (i : Nat) (x : PV), τ[i]? = some (some x) → ∃ v, σ[i]? = some (some v) ∧ RO G xa ρ H i x v

section
variable {G : LG} {ρ ρ' ρ'' : List Addr} {H H' H'' : Hp} {h h' : PHeap} {τ : PSt} {σ : St}
theorem RC.trk {a : Addr} {c : Cell} (x : RC G ρ H a c) : ∃ o, H a = some o ∧ isCellHO o = true := by
  cases c with
  | lst xs => obtain ⟨vs, e, _⟩ := x; exact ⟨_, e, rfl⟩
  | ins c fs => obtain ⟨C, dx, gs, _, e, _⟩ := x; exact ⟨_, e, rfl⟩
  | _ => exact False.elim x
theorem Rel.trk (R : Rel G ρ H h) : Trk ρ H := fun a ha => by
  obtain ⟨n, hn, e⟩ := List.getElem_of_mem ha
  have hn' : n < h.length := by rw [← R.len]; exact hn
  exact (R.cell n a h[n] (by rw [List.getElem?_eq_getElem hn, e]) (List.getElem?_eq_getElem hn')).trk
theorem Ext.refl : Ext ρ H ρ H := ⟨⟨[], (List.append_nil _).symm⟩, fun _ _ e n => ⟨e, n⟩⟩
theorem Ext.trans (a : Ext ρ H ρ' H') (b : Ext ρ' H' ρ'' H'') : Ext ρ H ρ'' H'' := by
  obtain ⟨t, e⟩ := a.pre
  obtain ⟨u, e'⟩ := b.pre
  refine ⟨⟨t ++ u, by rw [e', e, List.append_assoc]⟩, fun c o e n => ?_⟩
  obtain ⟨e1, n1⟩ := a.keep c o e n
  exact b.keep c o e1 n1
theorem Ext.get (E : Ext ρ H ρ' H') {n : Nat} {a : Addr} (e : ρ[n]? = some a) : ρ'[n]? = some a := by
  obtain ⟨t, rfl⟩ := E.pre
  rw [List.getElem?_append_left (List.getElem?_eq_some_iff.mp e).1]
  exact e
theorem not_cell {a : Addr} {o : HO} (T : Trk ρ H) (e : H a = some o) (n : isCellHO o = false) : a ∉ ρ := fun ha => by
  obtain ⟨o', e', c⟩ := T a ha
  rw [e] at e'
  cases e'
  rw [n] at c
  cases c
theorem SqT.ext {K : PySem.W.Frag} {a : Addr} {vs : List V} (T : Trk ρ H) (E : Ext ρ H ρ' H') (x : SqT K H a vs) : SqT K H' a vs := by
  rcases x with (x | ⟨o, x⟩) | x
  · exact .inl (.inl (E.keep _ _ x (not_cell T x rfl)).1)
  · exact .inl (.inr ⟨o, (E.keep _ _ x (not_cell T x rfl)).1⟩)
  · exact .inr x
theorem FzL.ext {K : PySem.W.Frag} {a : Addr} {vs : List V} (T : Trk ρ H) (E : Ext ρ H ρ' H') (x : FzL K H a vs) : FzL K H' a vs := by
  rcases x with ⟨o, x⟩ | x
  · exact .inl ⟨o, (E.keep _ _ x (not_cell T x rfl)).1⟩
  · exact .inr x
mutual
theorem RV.mono (T : Trk ρ H) (E : Ext ρ H ρ' H') : ∀ {x : PV} {v : V}, RV G ρ H x v → RV G ρ' H' x v
  | _, _, .non => .non
  | _, _, .bl b => .bl b
  | _, _, .int i => .int i
  | _, _, .str o => .str o
  | _, _, .tup a l r => .tup (SqT.ext T E a) l (RVs.mono T E r)
  | _, _, .fl a l r => .fl (FzL.ext T E a) l (RVs.mono T E r)
  | _, _, .ref e => .ref (E.get e)
theorem RVs.mono (T : Trk ρ H) (E : Ext ρ H ρ' H') : ∀ {xs : List PV} {vs : List V}, RVs G ρ H xs vs → RVs G ρ' H' xs vs
  | _, _, .nil => .nil
  | _, _, .cons r rs => .cons (RV.mono T E r) (RVs.mono T E rs)
end
theorem RV.ro {xa : XA} {i : Nat} {x : PV} {v : V} (r : RV G ρ H x v) : RO G xa ρ H i x v := by
  cases r with
  | non => exact .non
  | bl b => exact .bl b
  | int i => exact .int i
  | str o => exact .str o
  | tup a l r => exact .tup a l r
  | fl a l r => exact .fl a l r
  | ref e => exact .ref e
theorem RO.mono {xa : XA} {i : Nat} {x : PV} {v : V} (T : Trk ρ H) (E : Ext ρ H ρ' H') (r : RO G xa ρ H i x v) : RO G xa ρ' H' i x v := by
  cases x with
  | exc c x =>
    obtain ⟨a, C, dd, u, e1, e2, e3, e4, r⟩ := r
    exact ⟨a, C, dd, u, e1, e2, e3, (E.keep _ _ e4 (not_cell T e4 rfl)).1, r.mono T E⟩
  | _ => exact RV.mono T E r
theorem RS.mono {xa : XA} (T : Trk ρ H) (E : Ext ρ H ρ' H') (s : RS G xa ρ H τ σ) : RS G xa ρ' H' τ σ := ⟨s.1, fun i x e => by
  obtain ⟨v, e', r⟩ := s.2 i x e
  exact ⟨v, e', r.mono T E⟩⟩
theorem RS.setO {xa : XA} {i : Nat} {x : PV} {v : V} (s : RS G xa ρ H τ σ) (r : RO G xa ρ H i x v) : RS G xa ρ H (τ.set i (some x)) (σ.set i (some v)) := by
  refine ⟨by rw [List.length_set, List.length_set]; exact s.1, fun j y e => ?_⟩
  by_cases hj : i = j
  · subst hj
    have hi : i < τ.length := by
      have z := (List.getElem?_eq_some_iff.mp e).1
      rwa [List.length_set] at z
    rw [List.getElem?_set_self hi] at e
    cases e
    exact ⟨v, List.getElem?_set_self (by rw [← s.1]; exact hi), r⟩
  · rw [List.getElem?_set_ne hj] at e
    obtain ⟨u, e', r'⟩ := s.2 j y e
    exact ⟨u, by rw [List.getElem?_set_ne hj]; exact e', r'⟩
theorem RS.set {xa : XA} {i : Nat} {x : PV} {v : V} (s : RS G xa ρ H τ σ) (r : RV G ρ H x v) : RS G xa ρ H (τ.set i (some x)) (σ.set i (some v)) := s.setO r.ro
theorem RS.unset {xa : XA} {i : Nat} {o : Option V} (s : RS G xa ρ H τ σ) : RS G xa ρ H (τ.set i none) (σ.set i o) := by
  refine ⟨by rw [List.length_set, List.length_set]; exact s.1, fun j y e => ?_⟩
  by_cases hj : i = j
  · subst hj
    have hi : i < τ.length := by
      have z := (List.getElem?_eq_some_iff.mp e).1
      rwa [List.length_set] at z
    rw [List.getElem?_set_self hi] at e
    cases e
  · rw [List.getElem?_set_ne hj] at e
    obtain ⟨u, e', r'⟩ := s.2 j y e
    exact ⟨u, by rw [List.getElem?_set_ne hj]; exact e', r'⟩
theorem RVs.length : ∀ {xs : List PV} {vs : List V}, RVs G ρ H xs vs → xs.length = vs.length
  | _, _, .nil => rfl
  | _, _, .cons _ r => congrArg (· + 1) (RVs.length r)
theorem RVs.get : ∀ {xs : List PV} {vs : List V} {i : Nat} {x : PV}, RVs G ρ H xs vs → xs[i]? = some x → ∃ v, vs[i]? = some v ∧ RV G ρ H x v
  | _, _, _, _, .nil, e => by simp at e
  | _, _, 0, _, .cons r _, e => by simp at e; subst e; exact ⟨_, rfl, r⟩
  | _, _, i + 1, x, .cons _ t, e => by
    obtain ⟨v, e', r⟩ := RVs.get (i := i) t (by simpa using e)
    exact ⟨v, by simpa using e', r⟩
theorem RVs.get' : ∀ {xs : List PV} {vs : List V} {i : Nat} {v : V}, RVs G ρ H xs vs → vs[i]? = some v → ∃ x, xs[i]? = some x ∧ RV G ρ H x v
  | _, _, _, _, .nil, e => by simp at e
  | _, _, 0, _, .cons r _, e => by simp at e; subst e; exact ⟨_, rfl, r⟩
  | _, _, i + 1, x, .cons _ t, e => by
    obtain ⟨v, e', r⟩ := RVs.get' (i := i) t (by simpa using e)
    exact ⟨v, by simpa using e', r⟩
theorem RVs.append : ∀ {xs ys : List PV} {vs us : List V}, RVs G ρ H xs vs → RVs G ρ H ys us → RVs G ρ H (xs ++ ys) (vs ++ us)
  | _, _, _, _, .nil, s => s
  | _, _, _, _, .cons r t, s => .cons r (RVs.append t s)
theorem RVs.take : ∀ {xs : List PV} {vs : List V} (n : Nat), RVs G ρ H xs vs → RVs G ρ H (xs.take n) (vs.take n)
  | _, _, 0, _ => .nil
  | _, _, _ + 1, .nil => .nil
  | _, _, n + 1, .cons r t => .cons r (RVs.take n t)
theorem RVs.drop : ∀ {xs : List PV} {vs : List V} (n : Nat), RVs G ρ H xs vs → RVs G ρ H (xs.drop n) (vs.drop n)
  | _, _, 0, r => r
  | _, _, _ + 1, .nil => .nil
  | _, _, n + 1, .cons _ t => RVs.drop n t
theorem RVs.set {x : PV} {v : V} (r : RV G ρ H x v) : ∀ {xs : List PV} {vs : List V} (i : Nat), RVs G ρ H xs vs → RVs G ρ H (xs.set i x) (vs.set i v)
  | _, _, _, .nil => .nil
  | _, _, 0, .cons _ t => .cons r t
  | _, _, i + 1, .cons q t => .cons q (RVs.set r i t)
theorem RVs.flat {xs : List PV} {vs : List V} (r : RVs G ρ H xs vs) : ∀ k : Nat, RVs G ρ H (List.replicate k xs).flatten (List.replicate k vs).flatten
  | 0 => .nil
  | k + 1 => by
    rw [List.replicate_succ, List.replicate_succ, List.flatten_cons, List.flatten_cons]
    exact r.append (RVs.flat r k)
theorem cut_eq (vs : List V) (lo hi : Option Int) : cut vs lo hi = cutV vs lo hi := rfl
theorem RVs.cut {xs : List PV} {vs : List V} (r : RVs G ρ H xs vs) (lo hi : Option Int) : RVs G ρ H (cut xs lo hi) (cut vs lo hi) := by
  unfold MP.cut
  rw [r.length]
  exact (r.drop _).take _
theorem Ext.fresh {p : Addr} (R : Rel G ρ' H' h') (E : Ext ρ H ρ' H') (hp : H' p = none) : H p = none := by
  cases e : H p with
  | none => rfl
  | some o =>
    by_cases hm : p ∈ ρ
    · obtain ⟨t, et⟩ := E.pre
      obtain ⟨o', e', _⟩ := R.trk p (by rw [et]; exact List.mem_append_left _ hm)
      rw [hp] at e'
      cases e'
    · have z := (E.keep p o e hm).1
      rw [hp] at z
      cases z
/-! ### what stays though a list that is no cell is written -/
structure Keep (ρ : List Addr) (H : Hp) (ρ' : List Addr) (H' : Hp) : Prop where
  pre : ∀ (n : Nat) (a : Addr), ρ[n]? = some a → ρ'[n]? = some a
  im : ∀ a o, H a = some o → isCellHO o = false → H' a = some o
mutual
theorem RV.keep (K : Keep ρ H ρ' H') : ∀ {x : PV} {v : V}, RV G ρ H x v → RV G ρ' H' x v
  | _, _, .non => .non
  | _, _, .bl b => .bl b
  | _, _, .int i => .int i
  | _, _, .str o => .str o
  | _, _, .tup a l r => .tup (match a with
    | .inl (.inl z) => .inl (.inl (K.im _ _ z rfl))
    | .inl (.inr ⟨o, z⟩) => .inl (.inr ⟨o, K.im _ _ z rfl⟩)
    | .inr z => .inr z) l (RVs.keep K r)
  | _, _, .fl a l r => .fl (match a with
    | .inl ⟨o, z⟩ => .inl ⟨o, K.im _ _ z rfl⟩
    | .inr z => .inr z) l (RVs.keep K r)
  | _, _, .ref e => .ref (K.pre _ _ e)
theorem RVs.keep (K : Keep ρ H ρ' H') : ∀ {xs : List PV} {vs : List V}, RVs G ρ H xs vs → RVs G ρ' H' xs vs
  | _, _, .nil => .nil
  | _, _, .cons r rs => .cons (RV.keep K r) (RVs.keep K rs)
end
/-- a list that is no cell is written -/
theorem Rel.other {D : Addr} {o : HO} {vs : List V} (R : Rel G ρ H h) (nD : D ∉ ρ) (hD : H D = some (.lst vs)) : Keep ρ H ρ (upd H D o) ∧ Rel G ρ (upd H D o) h := by
  have K : Keep ρ H ρ (upd H D o) := ⟨fun _ _ e => e, fun a o' e c => by
    rw [upd_ne (fun z => by subst z; rw [hD] at e; cases e; cases c)]; exact e⟩
  refine ⟨K, R.len, R.nd, fun n a c e1 e2 => ?_⟩
  have x := R.cell n a c e1 e2
  have ne : a ≠ D := fun z => nD (by rw [← z]; exact List.mem_of_getElem? e1)
  cases c with
  | lst xs => obtain ⟨vs, e, l, r⟩ := x; exact ⟨vs, by rw [upd_ne ne]; exact e, l, r.keep K⟩
  | ins c fs => obtain ⟨C, dx, gs, m, e, r⟩ := x; exact ⟨C, dx, gs, m, by rw [upd_ne ne]; exact e, r.1, r.2.keep K⟩
  | _ => exact x
theorem Ext.other {D : Addr} {o : HO} (E : Ext ρ H ρ' H') (fD : H D = none) : Ext ρ H ρ' (upd H' D o) := ⟨E.pre, fun a o' e n => by
  rw [upd_ne (ne_of_none e fD)]
  exact E.keep a o' e n⟩
/-! ### what is laid, what is changed -/
/-- something is tracked that the pure heap does not see -/
theorem Rel.skip {p : Addr} {o : HO} (R : Rel G ρ H h) (hp : H p = none) : Ext ρ H ρ (upd H p o) ∧ Rel G ρ (upd H p o) h ∧ (∀ {xa : XA} {τ : PSt} {σ : St}, RS G xa ρ H τ σ → RS G xa ρ (upd H p o) τ σ) := by
  have np : p ∉ ρ := fun hm => by
    obtain ⟨o', e, _⟩ := R.trk p hm
    rw [hp] at e
    cases e
  have E : Ext ρ H ρ (upd H p o) := ⟨⟨[], (List.append_nil _).symm⟩, fun a o' e n => ⟨by rw [upd_ne (ne_of_none e hp)]; exact e, n⟩⟩
  have K : ∀ {a : Addr} {o' : HO}, H a = some o' → upd H p o a = some o' := fun {a o'} e => by rw [upd_ne (ne_of_none e hp)]; exact e
  refine ⟨E, ⟨R.len, R.nd, fun n a c e1 e2 => ?_⟩, fun s => s.mono R.trk E⟩
  have x := R.cell n a c e1 e2
  cases c with
  | lst xs => obtain ⟨vs, e, l, r⟩ := x; exact ⟨vs, K e, l, r.mono R.trk E⟩
  | ins c fs => obtain ⟨C, dx, gs, m, e, r⟩ := x; exact ⟨C, dx, gs, m, K e, r.1, r.2.mono R.trk E⟩
  | _ => exact x
/-- what is tracked already becomes a cell -/
theorem Rel.adopt {p : Addr} {o : HO} {c : Cell} (R : Rel G ρ H h) (hp : H p = some o) (ho : isCellHO o = true) (np : p ∉ ρ) (hc : ∀ (ρ' : List Addr), (∀ {x : PV} {v : V}, RV G ρ H x v → RV G ρ' H x v) → (∀ {xs : List PV} {vs : List V}, RVs G ρ H xs vs → RVs G ρ' H xs vs) → RC G ρ' H p c) :
    (∀ a o, H a = some o → a ∉ ρ → a ≠ p → a ∉ ρ ++ [p]) ∧ Rel G (ρ ++ [p]) H (h ++ [c]) ∧ (∀ {x : PV} {v : V}, RV G ρ H x v → RV G (ρ ++ [p]) H x v) := by
  have gt : ∀ {n : Nat} {a : Addr}, ρ[n]? = some a → (ρ ++ [p])[n]? = some a := fun {n a} e => by
    rw [List.getElem?_append_left (List.getElem?_eq_some_iff.mp e).1]; exact e
  have M : ∀ {x : PV} {v : V}, RV G ρ H x v → RV G (ρ ++ [p]) H x v := fun {x v} r => by
    refine RV.rec (motive_1 := fun x v _ => RV G (ρ ++ [p]) H x v) (motive_2 := fun xs vs _ => RVs G (ρ ++ [p]) H xs vs) .non .bl .int .str (fun a l _ ih => .tup a l ih) (fun a l _ ih => .fl a l ih) (fun e => .ref (gt e)) .nil (fun _ _ i1 i2 => .cons i1 i2) r
  have Ms : ∀ {xs : List PV} {vs : List V}, RVs G ρ H xs vs → RVs G (ρ ++ [p]) H xs vs := fun {xs vs} r => by
    induction r using RVs.rec (motive_1 := fun x v _ => True) with
    | nil => exact .nil
    | cons r _ _ ih => exact .cons (M r) ih
    | _ => trivial
  refine ⟨fun a o e n ne hm => ?_, ⟨by rw [List.length_append, List.length_append, R.len]; rfl, ?_, fun n a c' e1 e2 => ?_⟩, M⟩
  · rcases List.mem_append.mp hm with z | z
    · exact n z
    · exact ne (List.mem_singleton.mp z)
  · rw [List.nodup_append]
    refine ⟨R.nd, by simp, fun a ha b hb => ?_⟩
    rw [List.mem_singleton.mp hb]
    rintro rfl
    exact np ha
  · by_cases hn : n < ρ.length
    · rw [List.getElem?_append_left hn] at e1
      rw [List.getElem?_append_left (by rw [← R.len]; exact hn)] at e2
      have x := R.cell n a c' e1 e2
      cases c' with
      | lst xs => obtain ⟨vs, e, l, r⟩ := x; exact ⟨vs, e, l, Ms r⟩
      | ins c fs => obtain ⟨C, dx, gs, m, e, r⟩ := x; exact ⟨C, dx, gs, m, e, r.1, Ms r.2⟩
      | _ => exact x
    · have hn' : ρ.length ≤ n := Nat.le_of_not_lt hn
      rw [List.getElem?_append_right hn'] at e1
      rw [List.getElem?_append_right (by rw [← R.len]; exact hn'), ← R.len] at e2
      have hz : n - ρ.length = 0 := by
        have z := (List.getElem?_eq_some_iff.mp e1).1
        simp at z
        omega
      rw [hz] at e1 e2
      cases e1
      cases e2
      exact hc _ M Ms
/-- a new list -/
theorem Rel.new {p : Addr} {xs : List PV} {vs : List V} (R : Rel G ρ H h) (hp : H p = none) (l : vs.length ≤ sizeLine) (r : RVs G ρ H xs vs) :
    Ext ρ H (ρ ++ [p]) (upd H p (.lst vs)) ∧ Rel G (ρ ++ [p]) (upd H p (.lst vs)) (h ++ [.lst xs]) ∧ RV G (ρ ++ [p]) (upd H p (.lst vs)) (.ref h.length) (.ref p) := by
  have np : p ∉ ρ := fun hm => by
    obtain ⟨o', e, _⟩ := R.trk p hm
    rw [hp] at e
    cases e
  obtain ⟨E, R1, _⟩ := R.skip (o := .lst vs) hp
  obtain ⟨a1, a2, a3⟩ := R1.adopt (p := p) (o := .lst vs) (c := .lst xs) upd_same rfl np (fun ρ' M Ms => ⟨vs, upd_same, l, Ms (r.mono R.trk E)⟩)
  refine ⟨⟨⟨[p], rfl⟩, fun a o e n => ?_⟩, a2, .ref ?_⟩
  · have ne := ne_of_none e hp
    exact ⟨(E.keep a o e n).1, a1 a o (E.keep a o e n).1 n ne⟩
  · rw [← R.len, List.getElem?_append_right (Nat.le_refl _), Nat.sub_self]
    rfl
/-- a tuple is made -/
theorem Rel.newT {p : Addr} {xs : List PV} {vs : List V} (R : Rel G ρ H h) (hp : H p = none) (l : vs.length ≤ sizeLine) (r : RVs G ρ H xs vs) :
    Ext ρ H ρ (upd H p (.tup vs)) ∧ Rel G ρ (upd H p (.tup vs)) h ∧ RV G ρ (upd H p (.tup vs)) (.tup xs) (.ref p) := by
  obtain ⟨E, R1, _⟩ := R.skip (o := .tup vs) hp
  exact ⟨E, R1, .tup (.of upd_same) l (r.mono R.trk E)⟩
/-- a list cell is read -/
theorem Rel.lst {n : Nat} {xs : List PV} (R : Rel G ρ H h) (e : h[n]? = some (.lst xs)) : ∃ a vs, ρ[n]? = some a ∧ H a = some (.lst vs) ∧ vs.length ≤ sizeLine ∧ RVs G ρ H xs vs := by
  have hn : n < ρ.length := by rw [R.len]; exact (List.getElem?_eq_some_iff.mp e).1
  obtain ⟨vs, e1, l, r⟩ := R.cell n ρ[n] _ (List.getElem?_eq_getElem hn) e
  exact ⟨ρ[n], vs, List.getElem?_eq_getElem hn, e1, l, r⟩
/-- a list cell is written -/
theorem Rel.set {n : Nat} {a : Addr} {o : HO} {xs : List PV} {vs : List V} (R : Rel G ρ H h) (ea : ρ[n]? = some a) (eo : H a = some o) (l : vs.length ≤ sizeLine) (r : RVs G ρ H xs vs) :
    Ext ρ H ρ (upd H a (.lst vs)) ∧ Rel G ρ (upd H a (.lst vs)) (h.set n (.lst xs)) ∧ (∀ {x : PV} {v : V}, RV G ρ H x v → RV G ρ (upd H a (.lst vs)) x v) := by
  have ha : a ∈ ρ := List.mem_of_getElem? ea
  have E : Ext ρ H ρ (upd H a (.lst vs)) := ⟨⟨[], (List.append_nil _).symm⟩, fun b o e n => ⟨by
    rw [upd_ne (fun z => n (by rw [z]; exact ha))]; exact e, n⟩⟩
  refine ⟨E, ⟨by rw [List.length_set]; exact R.len, R.nd, fun m b c e1 e2 => ?_⟩, fun q => q.mono R.trk E⟩
  by_cases hm : n = m
  · subst hm
    rw [ea] at e1
    cases e1
    have hn : n < h.length := by
      have z := (List.getElem?_eq_some_iff.mp e2).1
      rwa [List.length_set] at z
    rw [List.getElem?_set_self hn] at e2
    cases e2
    exact ⟨vs, upd_same, l, r.mono R.trk E⟩
  · rw [List.getElem?_set_ne hm] at e2
    have nb : b ≠ a := fun z => by
      subst z
      obtain ⟨h1, e1'⟩ := List.getElem?_eq_some_iff.mp e1
      obtain ⟨h2, e2'⟩ := List.getElem?_eq_some_iff.mp ea
      exact hm ((List.getElem_inj R.nd).mp (e2'.trans e1'.symm))
    have x := R.cell m b c e1 e2
    cases c with
    | lst xs => obtain ⟨vs, e, l, r⟩ := x; exact ⟨vs, by rw [upd_ne nb]; exact e, l, r.mono R.trk E⟩
    | ins c fs => obtain ⟨C, dx, gs, m, e, r⟩ := x; exact ⟨C, dx, gs, m, by rw [upd_ne nb]; exact e, r.1, r.2.mono R.trk E⟩
    | _ => exact x
end

/-! ### the lifts -/
section
variable (G : LG) (xa : XA) (W : WX)
/-- what an error is -/
def RX (ρ : List Addr) (H : Hp) (c : Str) (x : PV) (cls : Value) (d : Option Addr) : Prop := ∃ C dd u, G.mg c = some (.ref C) ∧ cls = .ref C ∧ d = some dd ∧ H dd = some (.xd [(("value" : Str), u)]) ∧ RV G ρ H x u
def XC (ρ : List Addr) (H : Hp) (σ : St) (E : PXQ) : Prop := ∀ ρ' H' h' c x cls d, Ext ρ H ρ' H' → Rel G ρ' H' h' → RX G ρ' H' c x cls d → E c x h' → W cls d σ H'
def lE (t : PTE) : TE := fun σ H Q => ∃ ρ τ h Qp Ep, Rel G ρ H h ∧ RS G xa ρ H τ σ ∧ t τ h Qp Ep ∧ (∀ ρ' H' h' x v, Ext ρ H ρ' H' → Rel G ρ' H' h' → RV G ρ' H' x v → Qp x h' → Q v H') ∧ XC G W ρ H σ Ep
def lT (t : PTT) : TT := fun σ H Q => ∃ ρ τ h Qp Ep, Rel G ρ H h ∧ RS G xa ρ H τ σ ∧ t τ h Qp Ep ∧ (∀ ρ' H' h' b, Ext ρ H ρ' H' → Rel G ρ' H' h' → Qp b h' → Q b H') ∧ XC G W ρ H σ Ep
def lA (t : PTA) : TA := fun σ H Q => ∃ ρ τ h Qp Ep, Rel G ρ H h ∧ RS G xa ρ H τ σ ∧ t τ h Qp Ep ∧ (∀ ρ' H' h' xs vs, Ext ρ H ρ' H' → Rel G ρ' H' h' → RVs G ρ' H' xs vs → Qp xs h' → Q vs H') ∧ XC G W ρ H σ Ep
/-- a temporary list -/
def lL (t : PTA) : TE := fun σ H Q => ∃ ρ τ h Qp Ep, Rel G ρ H h ∧ RS G xa ρ H τ σ ∧ t τ h Qp Ep ∧ (∀ ρ' H' h' xs D vs, Ext ρ H ρ' H' → Rel G ρ' H' h' → RVs G ρ' H' xs vs → vs.length ≤ sizeLine → H' D = some (.lst vs) → D ∉ ρ' → H D = none → Qp xs h' → Q (.ref D) H') ∧ XC G W ρ H σ Ep
def lO (t : PTO) : TO := fun σ H Q => ∃ ρ τ h Qp Ep, Rel G ρ H h ∧ RS G xa ρ H τ σ ∧ t τ h Qp Ep ∧ (∀ ρ' H' h' o, Ext ρ H ρ' H' → Rel G ρ' H' h' → Qp o h' → Q o H') ∧ XC G W ρ H σ Ep
structure Conts (ρ : List Addr) (H : Hp) (Dp : PD) (D : Ends) : Prop where
  nx : ∀ ρ' H' h' τ' σ', Ext ρ H ρ' H' → Rel G ρ' H' h' → RS G xa ρ' H' τ' σ' → Dp.nx τ' h' → D.nx σ' H'
  rt : ∀ ρ' H' h' x v, Ext ρ H ρ' H' → Rel G ρ' H' h' → RV G ρ' H' x v → Dp.rt x h' → D.rt v H'
  bk : ∀ ρ' H' h' τ' σ', Ext ρ H ρ' H' → Rel G ρ' H' h' → RS G xa ρ' H' τ' σ' → Dp.bk τ' h' → D.bk σ' H'
  ct : ∀ ρ' H' h' τ' σ', Ext ρ H ρ' H' → Rel G ρ' H' h' → RS G xa ρ' H' τ' σ' → Dp.ct τ' h' → D.ct σ' H'
  ex : ∀ ρ' H' h' τ' σ' c x cls d, Ext ρ H ρ' H' → Rel G ρ' H' h' → RS G xa ρ' H' τ' σ' → RX G ρ' H' c x cls d → Dp.ex c x τ' h' → W cls d σ' H'
def lS (t : PTS) : TS := fun D σ H => ∃ ρ τ h Dp, Rel G ρ H h ∧ RS G xa ρ H τ σ ∧ t Dp τ h ∧ Conts G xa W ρ H Dp D
/-- a def's promise -/
def lSp (sp : PSp) : Sp := fun vs H Q E => ∃ ρ h ps Qp Ep, Rel G ρ H h ∧ RVs G ρ H ps vs ∧ sp ps h Qp Ep ∧ (∀ ρ' H' h' x v, Ext ρ H ρ' H' → Rel G ρ' H' h' → RV G ρ' H' x v → Qp x h' → Q v H') ∧
  (∀ ρ' H' h' c x cls d, Ext ρ H ρ' H' → Rel G ρ' H' h' → RX G ρ' H' c x cls d → Ep c x h' → E cls d H')
/-- operators, by values -/
def lR (r : POp) : R2 := fun u v H Q => ∃ ρ h x y Qp, Rel G ρ H h ∧ RV G ρ H x u ∧ RV G ρ H y v ∧ r x y h Qp ∧ ∀ ρ' H' h' z w, Ext ρ H ρ' H' → Rel G ρ' H' h' → RV G ρ' H' z w → Qp z h' → Q w H'
def lU (r : PUn) : V → Hp → VK → Prop := fun u H Q => ∃ ρ h x Qp, Rel G ρ H h ∧ RV G ρ H x u ∧ r x h Qp ∧ ∀ ρ' H' h' z w, Ext ρ H ρ' H' → Rel G ρ' H' h' → RV G ρ' H' z w → Qp z h' → Q w H'
def lC (r : PCb) : List V → Hp → VK → Prop := fun vs H Q => ∃ ρ h xs Qp, Rel G ρ H h ∧ RVs G ρ H xs vs ∧ r xs h Qp ∧ ∀ ρ' H' h' z w, Ext ρ H ρ' H' → Rel G ρ' H' h' → RV G ρ' H' z w → Qp z h' → Q w H'
/-- a built-in upon a temporary list -/
def lCT (r : PCb) : List V → Hp → VK → Prop := fun vs H Q => ∃ ρ h xs D us Qp, vs = [.ref D] ∧ Rel G ρ H h ∧ RVs G ρ H xs us ∧ us.length ≤ sizeLine ∧ H D = some (.lst us) ∧ D ∉ ρ ∧ r xs h Qp ∧ ∀ ρ' H' h' z w, Ext ρ H ρ' H' → Rel G ρ' H' h' → RV G ρ' H' z w → Qp z h' → Q w H'
end
section
variable {G : LG} {xa : XA} {W : WX} {ρ ρ' : List Addr} {H H' : Hp} {σ : St}
theorem XC.mono {E : PXQ} (x : XC G W ρ H σ E) (e : Ext ρ H ρ' H') : XC G W ρ' H' σ E := fun ρ2 H2 h2 c y cls d e2 => x ρ2 H2 h2 c y cls d (e.trans e2)
theorem Conts.mono {Dp : PD} {D : Ends} (k : Conts G xa W ρ H Dp D) (e : Ext ρ H ρ' H') : Conts G xa W ρ' H' Dp D :=
  ⟨fun a b c d f e2 => k.nx a b c d f (e.trans e2), fun a b c d f e2 => k.rt a b c d f (e.trans e2), fun a b c d f e2 => k.bk a b c d f (e.trans e2), fun a b c d f e2 => k.ct a b c d f (e.trans e2), fun a b c d f g i j l e2 => k.ex a b c d f g i j l (e.trans e2)⟩
theorem Conts.xc {Dp : PD} {D : Ends} {h : PHeap} {τ : PSt} (k : Conts G xa W ρ H Dp D) (R : Rel G ρ H h) (s : RS G xa ρ H τ σ) : XC G W ρ H σ (fun c v h' => Dp.ex c v τ h') := fun ρ' H' h' c x cls d e R' rx q => k.ex ρ' H' h' τ σ c x cls d e R' (s.mono R.trk e) rx q
/-- readings that follow -/
theorem PE_imp {X : Cx} {e : Expr} {t t' : TE} (p : PE X e t) (f : ∀ σ H Q, t' σ H Q → t σ H Q) : PE X e t' := ⟨fun pins s σ H Q I h => p.run pins s σ H Q I (f σ H Q h)⟩
theorem PT_imp {X : Cx} {e : Expr} {t t' : TT} (p : PT X e t) (f : ∀ σ H Q, t' σ H Q → t σ H Q) : PT X e t' := ⟨fun pins s σ H Q I h => p.run pins s σ H Q I (f σ H Q h)⟩
theorem PW_imp {X : Cx} {e : Expr} {t t' : TT} (p : PW X e t) (f : ∀ σ H Q, t' σ H Q → t σ H Q) : PW X e t' := ⟨fun w pins s σ H Q I h => p.run w pins s σ H Q I (f σ H Q h)⟩
theorem PA_imp {X : Cx} {e : List Expr} {t t' : TA} (p : PA X e t) (f : ∀ σ H Q, t' σ H Q → t σ H Q) : PA X e t' := ⟨fun pos pins s σ H Q I h => p.run pos pins s σ H Q I (f σ H Q h)⟩
theorem PK_imp {X : Cx} {e : List Keyword} {t t' : TA} (p : PK X e t) (f : ∀ σ H Q, t' σ H Q → t σ H Q) : PK X e t' := ⟨fun pos pins s σ H Q I h => p.run pos pins s σ H Q I (f σ H Q h)⟩
theorem PS_imp {X : Cx} {e : Stmt} {t t' : TS} (p : PS X e t) (f : ∀ D σ H, t' D σ H → t D σ H) : PS X e t' := ⟨fun pins s σ H D I h => p.run pins s σ H D I (f D σ H h)⟩
theorem PSs_imp {X : Cx} {e : List Stmt} {t t' : TS} (p : PSs X e t) (f : ∀ D σ H, t' D σ H → t D σ H) : PSs X e t' := ⟨fun pins s σ H D I h => p.run pins s σ H D I (f D σ H h)⟩
theorem PO_imp {X : Cx} {e : Option Expr} {t t' : TO} (p : PO X e t) (f : ∀ σ H Q, t' σ H Q → t σ H Q) : PO X e t' := ⟨fun pins s σ H Q I h => p.run pins s σ H Q I (f σ H Q h)⟩
end
end MP
set_option maxHeartbeats 4000000
/-! MP2: expressions, tests, arguments: the rules. -/
namespace MP
open PySem PySem.Spec PyProof.Rows L2

abbrev gX (X : Cx) : LG := ⟨X.K, X.mg⟩

section
variable {X : Cx} {xa : Option (Nat × Addr × Value × Option Addr)} {W : WX} {a b c : Expr} {ta tb tc : PTE} {pos : Pos}
theorem le_var (i : Nat) {x : Str} (h : PE X (.Name x pos) (tVar i)) : PE X (.Name x pos) (lE (gX X) xa W (pVar i)) := by
  refine PE_imp h fun σ H Q hq => ?_
  obtain ⟨ρ, τ, h, Qp, Ep, R, S, hp, k, _⟩ := hq
  unfold pVar at hp
  split at hp
  · rename_i v e
    obtain ⟨nv, hp⟩ := hp
    obtain ⟨u, e', r⟩ := S.2 i v e
    refine ⟨u, e', k ρ H h v u .refl R ?_ hp⟩
    cases v with
    | exc c x => cases nv
    | _ => exact r
  · exact hp.elim
theorem le_c {e : Expr} {v : V} {x : PV} (h : PE X e (tC v)) (r : ∀ ρ H, RV (gX X) ρ H x v) : PE X e (lE (gX X) xa W (pC x)) := by
  refine PE_imp h fun σ H Q hq => ?_
  obtain ⟨ρ, τ, h, Qp, Ep, R, S, hp, k, _⟩ := hq
  exact k ρ H h x v .refl R (r ρ H) hp
theorem le_int {i j} : PE X (.Constant (.int i) j pos) (lE (gX X) xa W (pC (.int i))) := le_c pe_int fun _ _ => .int i
theorem le_bl {i j} : PE X (.Constant (.bool i) j pos) (lE (gX X) xa W (pC (.bl i))) := le_c pe_bl fun _ _ => .bl i
theorem le_non {j} : PE X (.Constant .none j pos) (lE (gX X) xa W (pC .non)) := le_c pe_non fun _ _ => .non
theorem le_str {s j} (o : okS s) : PE X (.Constant (.str s) j pos) (lE (gX X) xa W (pC (.str s))) := le_c pe_str fun _ _ => .str o
/-- a module's constant that is an int, a text -/
theorem le_gint {x : Str} {i : Int} (hg : Gl X x) (hm : ∃ t, X.mg x = some (.int i t)) (hd : (x == ("__debug__" : Str)) = false := by decide) : PE X (.Name x pos) (lE (gX X) xa W (pC (.int i))) := by
  obtain ⟨t, e⟩ := hm
  exact le_c (pe_glob (v := .int i) hg e ⟨t, rfl⟩ hd) fun _ _ => .int i
theorem le_gstr {x s : Str} (hg : Gl X x) (hm : ∃ t, X.mg x = some (.str s t)) (o : okS s) (hd : (x == ("__debug__" : Str)) = false := by decide) : PE X (.Name x pos) (lE (gX X) xa W (pC (.str s))) := by
  obtain ⟨t, e⟩ := hm
  exact le_c (pe_glob (v := .str s) hg e ⟨t, rfl⟩ hd) fun _ _ => .str o
/-- two in a row -/
theorem lR_of {r : POp} {σ : St} {H : Hp} {Q : VK} (h : lE (gX X) xa W (pOp r ta tb) σ H Q) : tOp (lR (gX X) r) (lE (gX X) xa W ta) (lE (gX X) xa W tb) σ H Q := by
  obtain ⟨ρ, τ, h, Qp, Ep, R, S, hp, k, kx⟩ := h
  refine ⟨ρ, τ, h, _, Ep, R, S, hp, fun ρ1 H1 h1 x v E1 R1 r1 q1 => ?_, kx⟩
  refine ⟨ρ1, τ, h1, _, Ep, R1, S.mono R.trk E1, q1, fun ρ2 H2 h2 y u E2 R2 r2 q2 => ?_, kx.mono E1⟩
  exact ⟨ρ2, h2, x, y, Qp, R2, r1.mono R1.trk E2, r2, q2, fun ρ3 H3 h3 z w E3 R3 r3 q3 => k ρ3 H3 h3 z w (E1.trans (E2.trans E3)) R3 r3 q3⟩
theorem le_op {op : Operator} {r : POp} (ho : OpR X (binaryOp op) (lR (gX X) r)) (ha : PE X a (lE (gX X) xa W ta)) (hb : PE X b (lE (gX X) xa W tb)) : PE X (.BinOp a op b pos) (lE (gX X) xa W (pOp r ta tb)) :=
  PE_imp (pe_op ho ha hb) fun _ _ _ h => lR_of h
theorem lU_of {r : PUn} {σ : St} {H : Hp} {Q : VK} (h : lE (gX X) xa W (pUn r ta) σ H Q) : tUn (lU (gX X) r) (lE (gX X) xa W ta) σ H Q := by
  obtain ⟨ρ, τ, h, Qp, Ep, R, S, hp, k, kx⟩ := h
  refine ⟨ρ, τ, h, _, Ep, R, S, hp, fun ρ1 H1 h1 x v E1 R1 r1 q1 => ?_, kx⟩
  exact ⟨ρ1, h1, x, Qp, R1, r1, q1, fun ρ3 H3 h3 z w E3 R3 r3 q3 => k ρ3 H3 h3 z w (E1.trans E3) R3 r3 q3⟩
theorem le_un {op : UnaryOp} {r : PUn} (ho : UnR X (unaryOp op) (lU (gX X) r)) (ha : PE X a (lE (gX X) xa W ta)) : PE X (.UnaryOp op a pos) (lE (gX X) xa W (pUn r ta)) :=
  PE_imp (pe_un ho ha) fun _ _ _ h => lU_of h
theorem le_cmp {op : CmpOp} {r : POp} (ho : OpR X (compareOp op) (lR (gX X) r)) (ha : PE X a (lE (gX X) xa W ta)) (hb : PE X b (lE (gX X) xa W tb)) (hm : behindInMarks op b = false) : PE X (.Compare a [op] [b] pos) (lE (gX X) xa W (pOp r ta tb)) :=
  PE_imp (pe_cmpR ho ha hb hm) fun _ _ _ h => lR_of h
/-- a value that is True or False as a test -/
theorem lB_of {t : PTE} {σ : St} {H : Hp} {Q : Bool → Hp → Prop} {te : TE} (f : ∀ σ H Q, lE (gX X) xa W t σ H Q → te σ H Q) (h : lT (gX X) xa W (pB t) σ H Q) : te σ H fun x H' => ∃ k, x = .bl k ∧ Q k H' := by
  obtain ⟨ρ, τ, h, Qp, Ep, R, S, hp, k, kx⟩ := h
  refine f σ H _ ⟨ρ, τ, h, _, Ep, R, S, hp, fun ρ1 H1 h1 x v E1 R1 r1 q1 => ?_, kx⟩
  cases r1 with
  | bl b => exact ⟨b, rfl, k ρ1 H1 h1 b E1 R1 q1⟩
  | _ => exact False.elim q1
theorem lt_cmp {op : CmpOp} {r : POp} (ho : OpR X (compareOp op) (lR (gX X) r)) (ha : PE X a (lE (gX X) xa W ta)) (hb : PE X b (lE (gX X) xa W tb)) (hm : behindInMarks op b = false) : PT X (.Compare a [op] [b] pos) (lT (gX X) xa W (pB (pOp r ta tb))) :=
  PT_imp (pt_cmpR ho ha hb hm) fun σ H Q h => lB_of (te := tOp (lR (gX X) r) (lE (gX X) xa W ta) (lE (gX X) xa W tb)) (fun _ _ _ h => lR_of h) h
/-- is None -/
theorem le_isN {j pos'} (ha : PE X a (lE (gX X) xa W ta)) : PE X (.Compare a [.Is] [.Constant .none j pos'] pos) (lE (gX X) xa W (pUn rIsN ta)) := by
  refine PE_imp (pe_cmp (pc_isN ha) rfl) fun σ H Q h => ?_
  obtain ⟨ρ, τ, h, Qp, Ep, R, S, hp, k, kx⟩ := h
  refine ⟨ρ, τ, h, _, Ep, R, S, hp, fun ρ1 H1 h1 x v E1 R1 r1 q1 => ?_, kx⟩
  have e : decide (v = .non) = isNon x := by cases r1 <;> simp [isNon]
  show Q (.bl (decide (v = .non))) H1
  rw [e]
  exact k ρ1 H1 h1 _ _ E1 R1 (.bl _) q1
theorem le_notN {j pos'} (ha : PE X a (lE (gX X) xa W ta)) : PE X (.Compare a [.IsNot] [.Constant .none j pos'] pos) (lE (gX X) xa W (pUn rNotN ta)) := by
  refine PE_imp (pe_cmp (pc_notN ha) rfl) fun σ H Q h => ?_
  obtain ⟨ρ, τ, h, Qp, Ep, R, S, hp, k, kx⟩ := h
  refine ⟨ρ, τ, h, _, Ep, R, S, hp, fun ρ1 H1 h1 x v E1 R1 r1 q1 => ?_, kx⟩
  have e : decide (v = .non) = isNon x := by cases r1 <;> simp [isNon]
  show Q (.bl (!decide (v = .non))) H1
  rw [e]
  exact k ρ1 H1 h1 _ _ E1 R1 (.bl _) q1
theorem isN_of {σ : St} {H : Hp} {Q : VK} (h : lE (gX X) xa W (pUn rIsN ta) σ H Q) : tIsN (lE (gX X) xa W ta) σ H Q := by
  obtain ⟨ρ, τ, h, Qp, Ep, R, S, hp, k, kx⟩ := h
  refine ⟨ρ, τ, h, _, Ep, R, S, hp, fun ρ1 H1 h1 x v E1 R1 r1 q1 => ?_, kx⟩
  have e : decide (v = .non) = isNon x := by cases r1 <;> simp [isNon]
  show Q (.bl (decide (v = .non))) H1
  rw [e]
  exact k ρ1 H1 h1 _ _ E1 R1 (.bl _) q1
theorem notN_of {σ : St} {H : Hp} {Q : VK} (h : lE (gX X) xa W (pUn rNotN ta) σ H Q) : tNotN (lE (gX X) xa W ta) σ H Q := by
  obtain ⟨ρ, τ, h, Qp, Ep, R, S, hp, k, kx⟩ := h
  refine ⟨ρ, τ, h, _, Ep, R, S, hp, fun ρ1 H1 h1 x v E1 R1 r1 q1 => ?_, kx⟩
  have e : decide (v = .non) = isNon x := by cases r1 <;> simp [isNon]
  show Q (.bl (!decide (v = .non))) H1
  rw [e]
  exact k ρ1 H1 h1 _ _ E1 R1 (.bl _) q1
theorem lt_isN {j pos'} (ha : PE X a (lE (gX X) xa W ta)) : PT X (.Compare a [.Is] [.Constant .none j pos'] pos) (lT (gX X) xa W (pB (pUn rIsN ta))) :=
  PT_imp (pt_cmp (pc_isN ha)) fun σ H Q h => lB_of (te := tIsN (lE (gX X) xa W ta)) (fun _ _ _ h => isN_of h) h
theorem lt_notN {j pos'} (ha : PE X a (lE (gX X) xa W ta)) : PT X (.Compare a [.IsNot] [.Constant .none j pos'] pos) (lT (gX X) xa W (pB (pUn rNotN ta))) :=
  PT_imp (pt_cmp (pc_notN ha)) fun σ H Q h => lB_of (te := tNotN (lE (gX X) xa W ta)) (fun _ _ _ h => notN_of h) h
/-- any value, that must be True or False, as a test -/
theorem lt_val {e : Expr} {t : PTE} (h : PE X e (lE (gX X) xa W t)) (he : ∀ whole, isTrue e X.env whole = (do let v ← whole; standAt e.pos; holding [v] (truthy v)) := by intro _; rfl) : PT X e (lT (gX X) xa W (pB t)) :=
  PT_imp (pt_val h he) fun σ H Q h => lB_of (te := lE (gX X) xa W t) (fun _ _ _ h => h) h
theorem truth_ok {G : LG} {ρ : List Addr} {H : Hp} {h : PHeap} {x : PV} {v : V} {b : Bool} (R : Rel G ρ H h) (r : RV G ρ H x v) (e : truth h x = some b) : TruV G.K v H b := by
  cases r with
  | non => cases e; rfl
  | bl c => cases e; rfl
  | int i => cases e; rfl
  | str o => cases e; exact ⟨o.1, rfl⟩
  | @tup xs a vs q l rs =>
    cases e
    refine .inr (.inl ⟨vs, q, ?_⟩)
    cases rs <;> rfl
  | @fl xs a vs q l rs =>
    cases e
    refine .inl ⟨vs, q.seq, ?_⟩
    cases rs <;> rfl
  | @ref n a ea =>
    have e' : (match h[n]? with
      | some (.lst xs) => some !xs.isEmpty
      | _ => none) = some b := e
    split at e'
    · rename_i xs en
      cases e'
      obtain ⟨a', vs, ea', ev, l, rs⟩ := R.lst en
      rw [ea] at ea'
      cases ea'
      refine .inl ⟨vs, .of ev, ?_⟩
      cases rs <;> rfl
    · cases e'
theorem lt_truth {t : PTE} (h : PE X a (lE (gX X) xa W t)) (he : ∀ whole, isTrue a X.env whole = (do let v ← whole; standAt a.pos; holding [v] (truthy v)) := by intro _; rfl) : PT X a (lT (gX X) xa W (pT t)) := by
  refine PT_imp (pt_truth h he) fun σ H Q h => ?_
  obtain ⟨ρ, τ, h, Qp, Ep, R, S, hp, k, kx⟩ := h
  refine ⟨ρ, τ, h, _, Ep, R, S, hp, fun ρ1 H1 h1 x v E1 R1 r1 q1 => ?_, kx⟩
  split at q1
  · rename_i b e
    exact ⟨b, truth_ok R1 r1 e, k ρ1 H1 h1 b E1 R1 q1⟩
  · exact q1.elim
/-! ### and, or, not -/
variable {tA tB' : PTT} {rest : List Expr}
theorem lw_and1 (ha : PT X a (lT (gX X) xa W tA)) : PW X (.BoolOp .And [a] pos) (lT (gX X) xa W tA) := pw_and1 ha
theorem lw_or1 (ha : PT X a (lT (gX X) xa W tA)) : PW X (.BoolOp .Or [a] pos) (lT (gX X) xa W tA) := pw_or1 ha
theorem lw_and (ha : PT X a (lT (gX X) xa W tA)) (hb : PW X (.BoolOp .And (b :: rest) pos) (lT (gX X) xa W tB')) : PW X (.BoolOp .And (a :: b :: rest) pos) (lT (gX X) xa W (pAnd tA tB')) := by
  refine PW_imp (pw_and ha hb) fun σ H Q h => ?_
  obtain ⟨ρ, τ, h, Qp, Ep, R, S, hp, k, kx⟩ := h
  refine ⟨ρ, τ, h, _, Ep, R, S, hp, fun ρ1 H1 h1 c E1 R1 q1 => ?_, kx⟩
  cases c with
  | true =>
    rw [if_pos rfl] at q1 ⊢
    exact ⟨ρ1, τ, h1, Qp, Ep, R1, S.mono R.trk E1, q1, fun ρ2 H2 h2 d E2 R2 q2 => k ρ2 H2 h2 d (E1.trans E2) R2 q2, kx.mono E1⟩
  | false =>
    rw [if_neg Bool.false_ne_true] at q1 ⊢
    exact k ρ1 H1 h1 false E1 R1 q1
theorem lw_or (ha : PT X a (lT (gX X) xa W tA)) (hb : PW X (.BoolOp .Or (b :: rest) pos) (lT (gX X) xa W tB')) : PW X (.BoolOp .Or (a :: b :: rest) pos) (lT (gX X) xa W (pOr tA tB')) := by
  refine PW_imp (pw_or ha hb) fun σ H Q h => ?_
  obtain ⟨ρ, τ, h, Qp, Ep, R, S, hp, k, kx⟩ := h
  refine ⟨ρ, τ, h, _, Ep, R, S, hp, fun ρ1 H1 h1 c E1 R1 q1 => ?_, kx⟩
  cases c with
  | false =>
    rw [if_neg Bool.false_ne_true] at q1 ⊢
    exact ⟨ρ1, τ, h1, Qp, Ep, R1, S.mono R.trk E1, q1, fun ρ2 H2 h2 d E2 R2 q2 => k ρ2 H2 h2 d (E1.trans E2) R2 q2, kx.mono E1⟩
  | true =>
    rw [if_pos rfl] at q1 ⊢
    exact k ρ1 H1 h1 true E1 R1 q1
theorem lt_not (ha : PT X a (lT (gX X) xa W tA)) : PT X (.UnaryOp .Not a pos) (lT (gX X) xa W (pNot tA)) := by
  refine PT_imp (pt_not ha) fun σ H Q h => ?_
  obtain ⟨ρ, τ, h, Qp, Ep, R, S, hp, k, kx⟩ := h
  exact ⟨ρ, τ, h, _, Ep, R, S, hp, fun ρ1 H1 h1 c E1 R1 q1 => k ρ1 H1 h1 (!c) E1 R1 q1, kx⟩
theorem le_one {op} {t : PTE} (h : PE X a (lE (gX X) xa W t)) : PE X (.BoolOp op [a] pos) (lE (gX X) xa W t) := pe_one h
theorem le_and (ha : PE X a (lE (gX X) xa W ta)) (hb : PE X (.BoolOp .And (b :: rest) pos) (lE (gX X) xa W tb)) : PE X (.BoolOp .And (a :: b :: rest) pos) (lE (gX X) xa W (pAndV ta tb)) := by
  refine PE_imp (pe_and ha hb) fun σ H Q h => ?_
  obtain ⟨ρ, τ, h, Qp, Ep, R, S, hp, k, kx⟩ := h
  refine ⟨ρ, τ, h, _, Ep, R, S, hp, fun ρ1 H1 h1 x v E1 R1 r1 q1 => ?_, kx⟩
  cases r1 with
  | bl c =>
    refine ⟨c, rfl, ?_⟩
    cases c with
    | true => exact ⟨ρ1, τ, h1, Qp, Ep, R1, S.mono R.trk E1, q1, fun ρ2 H2 h2 d w E2 R2 r2 q2 => k ρ2 H2 h2 d w (E1.trans E2) R2 r2 q2, kx.mono E1⟩
    | false => exact k ρ1 H1 h1 _ _ E1 R1 (.bl false) q1
  | _ => exact False.elim q1
theorem le_or (ha : PE X a (lE (gX X) xa W ta)) (hb : PE X (.BoolOp .Or (b :: rest) pos) (lE (gX X) xa W tb)) : PE X (.BoolOp .Or (a :: b :: rest) pos) (lE (gX X) xa W (pOrV ta tb)) := by
  refine PE_imp (pe_or ha hb) fun σ H Q h => ?_
  obtain ⟨ρ, τ, h, Qp, Ep, R, S, hp, k, kx⟩ := h
  refine ⟨ρ, τ, h, _, Ep, R, S, hp, fun ρ1 H1 h1 x v E1 R1 r1 q1 => ?_, kx⟩
  cases r1 with
  | bl c =>
    refine ⟨c, rfl, ?_⟩
    cases c with
    | false => exact ⟨ρ1, τ, h1, Qp, Ep, R1, S.mono R.trk E1, q1, fun ρ2 H2 h2 d w E2 R2 r2 q2 => k ρ2 H2 h2 d w (E1.trans E2) R2 r2 q2, kx.mono E1⟩
    | true => exact k ρ1 H1 h1 _ _ E1 R1 (.bl true) q1
  | _ => exact False.elim q1
theorem le_not (ha : PE X a (lE (gX X) xa W ta)) : PE X (.UnaryOp .Not a pos) (lE (gX X) xa W (pNotV ta)) := by
  refine PE_imp (pe_not ha) fun σ H Q h => ?_
  obtain ⟨ρ, τ, h, Qp, Ep, R, S, hp, k, kx⟩ := h
  refine ⟨ρ, τ, h, _, Ep, R, S, hp, fun ρ1 H1 h1 x v E1 R1 r1 q1 => ?_, kx⟩
  cases r1 with
  | bl c => exact ⟨c, rfl, k ρ1 H1 h1 _ _ E1 R1 (.bl _) q1⟩
  | _ => exact False.elim q1
theorem le_if (hc : PT X c (lT (gX X) xa W tA)) (ha : PE X a (lE (gX X) xa W ta)) (hb : PE X b (lE (gX X) xa W tb)) : PE X (.IfExp c a b pos) (lE (gX X) xa W (pIf tA ta tb)) := by
  refine PE_imp (pe_ifExp hc ha hb) fun σ H Q h => ?_
  obtain ⟨ρ, τ, h, Qp, Ep, R, S, hp, k, kx⟩ := h
  refine ⟨ρ, τ, h, _, Ep, R, S, hp, fun ρ1 H1 h1 c E1 R1 q1 => ?_, kx⟩
  cases c with
  | true =>
    rw [if_pos rfl] at q1 ⊢
    exact ⟨ρ1, τ, h1, Qp, Ep, R1, S.mono R.trk E1, q1, fun ρ2 H2 h2 d w E2 R2 r2 q2 => k ρ2 H2 h2 d w (E1.trans E2) R2 r2 q2, kx.mono E1⟩
  | false =>
    rw [if_neg Bool.false_ne_true] at q1 ⊢
    exact ⟨ρ1, τ, h1, Qp, Ep, R1, S.mono R.trk E1, q1, fun ρ2 H2 h2 d w E2 R2 r2 q2 => k ρ2 H2 h2 d w (E1.trans E2) R2 r2 q2, kx.mono E1⟩
/-! ### chains -/
theorem lch_of {r r' : POp} {σ : St} {H : Hp} {Q : VK} (h : lE (gX X) xa W (pChain r r' ta tb tc) σ H Q) : tChain (lR (gX X) r) (lR (gX X) r') (lE (gX X) xa W ta) (lE (gX X) xa W tb) (lE (gX X) xa W tc) σ H Q := by
  obtain ⟨ρ, τ, h, Qp, Ep, R, S, hp, k, kx⟩ := h
  refine ⟨ρ, τ, h, _, Ep, R, S, hp, fun ρ1 H1 h1 x v E1 R1 r1 q1 => ?_, kx⟩
  have S1 := S.mono R.trk E1
  refine ⟨ρ1, τ, h1, _, Ep, R1, S1, q1, fun ρ2 H2 h2 y u E2 R2 r2 q2 => ?_, kx.mono E1⟩
  have S2 := S1.mono R1.trk E2
  refine ⟨ρ2, h2, x, y, _, R2, r1.mono R1.trk E2, r2, q2, fun ρ3 H3 h3 z w E3 R3 r3 q3 => ?_⟩
  cases r3 with
  | bl kk =>
    refine ⟨kk, rfl, ?_⟩
    cases kk with
    | true =>
      have q3' : tc τ h3 (fun w h4 => r' y w h4 Qp) Ep := q3
      refine iteT ⟨ρ3, τ, h3, _, Ep, R3, S2.mono R2.trk E3, q3', fun ρ4 H4 h4 w' u' E4 R4 r4 q4 => ?_, kx.mono (E1.trans (E2.trans E3))⟩
      exact ⟨ρ4, h4, y, w', Qp, R4, r2.mono R2.trk (E3.trans E4), r4, q4, fun ρ5 H5 h5 z' w5 E5 R5 r5 q5 => k ρ5 H5 h5 z' w5 (E1.trans (E2.trans (E3.trans (E4.trans E5)))) R5 r5 q5⟩
    | false => exact iteF (k ρ3 H3 h3 _ _ (E1.trans (E2.trans E3)) R3 (.bl false) q3)
  | _ => exact False.elim q3
theorem le_chain {op op' : CmpOp} {r r' : POp} (ho : OpR X (compareOp op) (lR (gX X) r)) (ho' : OpR X (compareOp op') (lR (gX X) r')) (ha : PE X a (lE (gX X) xa W ta)) (hb : PE X b (lE (gX X) xa W tb)) (hc : PE X c (lE (gX X) xa W tc))
    (hm : lastMarks [op, op'] [b, c] = false := by with_unfolding_all rfl) : PE X (.Compare a [op, op'] [b, c] pos) (lE (gX X) xa W (pChain r r' ta tb tc)) :=
  PE_imp (pe_chain ho ho' ha hb hc hm) fun _ _ _ h => lch_of h
theorem lt_chain {op op' : CmpOp} {r r' : POp} (ho : OpR X (compareOp op) (lR (gX X) r)) (ho' : OpR X (compareOp op') (lR (gX X) r')) (ha : PE X a (lE (gX X) xa W ta)) (hb : PE X b (lE (gX X) xa W tb)) (hc : PE X c (lE (gX X) xa W tc))
    (hm : lastMarks [op, op'] [b, c] = false := by with_unfolding_all rfl) : PT X (.Compare a [op, op'] [b, c] pos) (lT (gX X) xa W (pB (pChain r r' ta tb tc))) :=
  PT_imp (pt_chain ho ho' ha hb hc hm) fun σ H Q h => lB_of (te := tChain (lR (gX X) r) (lR (gX X) r') (lE (gX X) xa W ta) (lE (gX X) xa W tb) (lE (gX X) xa W tc)) (fun _ _ _ h => lch_of h) h
/-! ### arguments, displays -/
variable {es : List Expr} {e : Expr} {te : PTE} {t : PTA}
theorem la_nil : PA X [] (lA (gX X) xa W pNil) := by
  refine PA_imp pa_nil fun σ H Q h => ?_
  obtain ⟨ρ, τ, h, Qp, Ep, R, S, hp, k, kx⟩ := h
  exact k ρ H h [] [] .refl R .nil hp
theorem lcons_of {σ : St} {H : Hp} {Q : List V → Hp → Prop} (h : lA (gX X) xa W (pCons te t) σ H Q) : tCons (lE (gX X) xa W te) (lA (gX X) xa W t) σ H Q := by
  obtain ⟨ρ, τ, h, Qp, Ep, R, S, hp, k, kx⟩ := h
  refine ⟨ρ, τ, h, _, Ep, R, S, hp, fun ρ1 H1 h1 x v E1 R1 r1 q1 => ?_, kx⟩
  refine ⟨ρ1, τ, h1, _, Ep, R1, S.mono R.trk E1, q1, fun ρ2 H2 h2 xs vs E2 R2 r2 q2 => ?_, kx.mono E1⟩
  exact k ρ2 H2 h2 (x :: xs) (v :: vs) (E1.trans E2) R2 (.cons (r1.mono R1.trk E2) r2) q2
theorem la_cons (ha : PE X e (lE (gX X) xa W te)) (hr : PA X es (lA (gX X) xa W t)) (hs : starEach (e :: es) X.env = (false, eval e X.env) :: starEach es X.env := by rfl) : PA X (e :: es) (lA (gX X) xa W (pCons te t)) :=
  PA_imp (pa_cons ha hr hs) fun _ _ _ h => lcons_of h
theorem lk_nil : PK X [] (lA (gX X) xa W pNil) := by
  refine PK_imp pk_nil fun σ H Q h => ?_
  obtain ⟨ρ, τ, h, Qp, Ep, R, S, hp, k, kx⟩ := h
  exact k ρ H h [] [] .refl R .nil hp
theorem lk_cons {kpos : Pos} {kws : List Keyword} (ha : PE X e (lE (gX X) xa W te)) (hr : PK X kws (lA (gX X) xa W t)) {n : Str} : PK X (⟨some n, e, kpos⟩ :: kws) (lA (gX X) xa W (pCons te t)) :=
  PK_imp (pk_cons ha hr) fun _ _ _ h => lcons_of h
theorem le_tup {x1} (h : PA X es (lA (gX X) xa W t)) : PE X (.Tuple es x1 pos) (lE (gX X) xa W (pTup t)) := by
  refine PE_imp (pe_tup h) fun σ H Q h => ?_
  obtain ⟨ρ, τ, h, Qp, Ep, R, S, hp, k, kx⟩ := h
  refine ⟨ρ, τ, h, _, Ep, R, S, hp, fun ρ1 H1 h1 xs vs E1 R1 r1 q1 => ?_, kx⟩
  obtain ⟨z, q⟩ := q1
  have l : vs.length ≤ sizeLine := by rw [← r1.length]; exact z
  refine ⟨l, fun p hp => ?_⟩
  obtain ⟨E2, R2, r2⟩ := R1.newT hp l r1
  exact k ρ1 _ h1 _ _ (E1.trans E2) R2 r2 q
/-- a display that nobody keeps -/
theorem ll_lst (h : PA X es (lA (gX X) xa W t)) : PE X (.List es pos) (lL (gX X) xa W (pTmp t)) := by
  refine PE_imp (pe_lst h) fun σ H Q h => ?_
  obtain ⟨ρ, τ, h, Qp, Ep, R, S, hp, k, kx⟩ := h
  refine ⟨ρ, τ, h, _, Ep, R, S, hp, fun ρ1 H1 h1 xs vs E1 R1 r1 q1 => ?_, kx⟩
  obtain ⟨z, q⟩ := q1
  have l : vs.length ≤ sizeLine := by rw [← r1.length]; exact z
  refine ⟨l, fun p hp => ?_⟩
  obtain ⟨E2, R2, _⟩ := R1.skip (o := .lst vs) hp
  refine k ρ1 _ h1 xs p vs (E1.trans E2) R2 (r1.mono R1.trk E2) l upd_same (fun hm => ?_) (E1.fresh R1 hp) q
  obtain ⟨o', e, _⟩ := R1.trk p hm
  rw [hp] at e
  cases e
/-- a temporary list is kept -/
theorem le_new (h : PE X e (lL (gX X) xa W t)) : PE X e (lE (gX X) xa W (pNew t)) := by
  refine PE_imp h fun σ H Q h => ?_
  obtain ⟨ρ, τ, h, Qp, Ep, R, S, hp, k, kx⟩ := h
  refine ⟨ρ, τ, h, _, Ep, R, S, hp, fun ρ1 H1 h1 xs D vs E1 R1 r1 l hD nD fD q1 => ?_, kx⟩
  obtain ⟨a1, a2, a3⟩ := R1.adopt (p := D) (o := .lst vs) (c := .lst xs) hD rfl nD (fun ρ' M Ms => ⟨vs, hD, l, Ms r1⟩)
  obtain ⟨t', et⟩ := E1.pre
  refine k (ρ1 ++ [D]) H1 _ _ _ ⟨⟨t' ++ [D], by rw [et, List.append_assoc]⟩, fun a o ea na => ?_⟩ a2 (.ref ?_) q1
  · obtain ⟨e1, n1⟩ := E1.keep a o ea na
    exact ⟨e1, a1 a o e1 n1 (ne_of_none ea fD)⟩
  · rw [← R1.len, List.getElem?_append_right (Nat.le_refl _), Nat.sub_self]
    rfl
end
end MP
set_option maxHeartbeats 4000000
/-! MP3: operators, comparisons, subscripts, built-ins, methods by values. -/
namespace MP
open PySem PySem.Spec PyProof.Rows L2 TL

/-! ### texts that may be -/
theorem okS_append {a b : Str} (ha : okS a) (hb : okS b) (l : a.length + b.length ≤ sizeLine) : okS (a ++ b) := by
  have e : tl (a ++ b) = tl a ++ tl b := tl_append a b
  refine ⟨by rw [len_tl, e, List.length_append, ← len_tl, ← len_tl]; exact l, ?_⟩
  have ha2 := ha.2
  have hb2 := hb.2
  unfold PySem.PyData.strOk at ha2 hb2 ⊢
  rw [← Array.all_toList] at ha2 hb2 ⊢
  have e' : (a ++ b).cps.toList = a.cps.toList ++ b.cps.toList := e
  rw [e', List.all_append, ha2, hb2]
  rfl
theorem okS_sub {a b : Str} (ha : okS a) (l : b.length ≤ a.length) (m : ∀ c ∈ b.cps.toList, c ∈ a.cps.toList) : okS b := by
  refine ⟨Nat.le_trans l ha.1, ?_⟩
  have ha2 := ha.2
  unfold PySem.PyData.strOk at ha2 ⊢
  rw [← Array.all_toList] at ha2 ⊢
  rw [List.all_eq_true] at ha2 ⊢
  exact fun c hc => ha2 c (m c hc)
theorem okS_cut {a : Str} (ha : okS a) (lo hi : Option Int) : okS (cutS a lo hi) := by
  refine okS_sub ha (cutS_length a lo hi) fun c hc => ?_
  unfold cutS at hc
  exact List.mem_of_mem_drop (List.mem_of_mem_take hc)
theorem okS_one {a : Str} (ha : okS a) {c : Nat} (h : c ∈ a.cps.toList) : okS ⟨#[c]⟩ := by
  refine okS_sub ha ?_ fun d hd => ?_
  · show (#[c] : Array Nat).size ≤ a.cps.size
    have : 0 < a.cps.toList.length := List.length_pos_of_mem h
    simp at this ⊢
    omega
  · have : d = c := by simpa using hd
    rw [this]; exact h

section
variable {X : Cx} {xa : Option (Nat × Addr × Value × Option Addr)}
theorem mo_add : OpR X (binaryOp .Add) (lR (gX X) rAdd) := by
  intro pins s σ H u v uu vv Q I ru rv hh
  obtain ⟨ρ, h, x, y, Qp, R, r1, r2, hp, k⟩ := hh
  cases r1 with
  | int i =>
    cases r2 with
    | int j => exact L2.op_add pins s σ H _ _ _ _ Q I ru rv ⟨i, j, rfl, rfl, k ρ H h _ _ .refl R (.int _) hp⟩
    | _ => exact False.elim hp
  | @str a oa =>
    cases r2 with
    | @str b ob =>
      obtain ⟨l, q⟩ := (show a.length + b.length ≤ sizeLine ∧ Qp (.str (a ++ b)) h from hp)
      exact L2.op_add_str pins s σ H _ _ _ _ Q I ru rv ⟨a, b, rfl, rfl, l, k ρ H h _ _ .refl R (.str (okS_append oa ob l)) q⟩
    | _ => exact False.elim hp
  | @tup xs a vs q l rs =>
    cases r2 with
    | @tup ys b us q' l' rs' =>
      obtain ⟨z, qq⟩ := (show xs.length + ys.length ≤ sizeLine ∧ Qp (.tup (xs ++ ys)) h from hp)
      have e1 := rs.length
      have e2 := rs'.length
      have zz : vs.length + us.length ≤ sizeLine := by omega
      refine L2.op_catA pins s σ H _ _ _ _ Q I ru rv ⟨a, b, vs, us, rfl, rfl, q, q', zz, fun e => ?_, fun _ e => ?_, fun _ _ p hp => ?_⟩
      · subst e
        cases rs
        exact k ρ H h _ _ .refl R (.tup q' l' rs') qq
      · subst e
        cases rs'
        rw [List.append_nil] at qq
        exact k ρ H h _ _ .refl R (.tup q l rs) qq
      · obtain ⟨E2, R2, r3⟩ := R.newT (vs := vs ++ us) hp (by rw [List.length_append]; exact zz) (rs.append rs')
        exact k ρ _ h _ _ E2 R2 r3 qq
    | _ => exact False.elim hp
  | @ref m a ea =>
    cases r2 with
    | @ref n b eb =>
      dsimp only [rAdd] at hp
      split at hp
      · rename_i xs ys e1 e2
        obtain ⟨z, qq⟩ := hp
        obtain ⟨a', vs, ea', ev, l, rs⟩ := R.lst e1
        obtain ⟨b', us, eb', eu, l', rs'⟩ := R.lst e2
        rw [ea] at ea'; cases ea'
        rw [eb] at eb'; cases eb'
        have q1 := rs.length
        have q2 := rs'.length
        have zz : vs.length + us.length ≤ sizeLine := by omega
        refine L2.op_cat pins s σ H _ _ _ _ Q I ru rv ⟨a, b, vs, us, rfl, rfl, ev, eu, zz, fun p hp => ?_⟩
        obtain ⟨E2, R2, r3⟩ := R.new (vs := vs ++ us) hp (by rw [List.length_append]; exact zz) (rs.append rs')
        exact k _ _ _ _ _ E2 R2 r3 qq
      · exact hp.elim
    | _ => exact False.elim hp
  | _ => exact False.elim hp
theorem mo_sub : OpR X (binaryOp .Sub) (lR (gX X) rSub) := by
  intro pins s σ H u v uu vv Q I ru rv hh
  obtain ⟨ρ, h, x, y, Qp, R, r1, r2, hp, k⟩ := hh
  cases r1 with
  | int i =>
    cases r2 with
    | int j => exact L2.op_sub pins s σ H _ _ _ _ Q I ru rv ⟨i, j, rfl, rfl, k ρ H h _ _ .refl R (.int _) hp⟩
    | _ => exact False.elim hp
  | _ => exact False.elim hp
theorem mulOk.ok {i j : Int} (h : mulOk i j) : IntMulOk i j := by
  rcases h with h | h | ⟨a, b, ha, hb, l⟩
  · exact .of_left (intBits_le_64 (by omega) (by omega))
  · exact .of_right (intBits_le_64 (by omega) (by omega))
  · exact (mulx_ok ha hb l).ok
theorem op_mulP : OpR X (binaryOp .Mult) (rI mulOk fun i j => .int (i * j)) := opI fun _ _ _ _ _ _ _ hc q => mul_int q hc.ok
theorem op_powP : OpR X (binaryOp .Pow) (rI powOk fun i j => .int (i ^ j.toNat)) := opI fun i j _ _ _ _ _ hc q => by
  obtain ⟨h0, a, ha, hl⟩ := hc
  refine pow_int h0 ?_ q
  have z := PyProof.Rows.intBits_le ha
  have z2 : (Builtin.Int.intBits i : Int) * j ≤ (a : Int) * j := Int.mul_le_mul_of_nonneg_right (by omega) h0
  have e : (2 : Int) ^ 27 = 134217728 := by decide
  rw [e]
  omega
theorem mo_mul : OpR X (binaryOp .Mult) (lR (gX X) rMul) := by
  intro pins s σ H u v uu vv Q I ru rv hh
  obtain ⟨ρ, h, x, y, Qp, R, r1, r2, hp, k⟩ := hh
  cases r1 with
  | @str a oa =>
    cases r2 with
    | int j =>
      obtain ⟨⟨c, o⟩, q⟩ := (show (PySem.MulOk a j ∧ okS (Txt.mul a j)) ∧ Qp (.str (Txt.mul a j)) h from hp)
      obtain ⟨t, rfl⟩ := ru
      obtain ⟨t2, rfl⟩ := rv
      exact PySem.SB.mul c fun t' tk => ⟨.str _, H, I.tok tk, ⟨t', rfl⟩, k ρ H h _ _ .refl R (.str o) q⟩
    | _ => exact False.elim hp
  | int i =>
    cases r2 with
    | int j =>
      obtain ⟨c, q⟩ := (show mulOk i j ∧ Qp (.int (i * j)) h from hp)
      exact op_mulP pins s σ H _ _ _ _ Q I ru rv ⟨i, j, rfl, rfl, c, k ρ H h _ _ .refl R (.int _) q⟩
    | _ => exact False.elim hp
  | @ref m a ea =>
    cases r2 with
    | int j =>
      dsimp only [rMul] at hp
      split at hp
      · rename_i xs e1
        obtain ⟨h1, h2, z, qq⟩ := hp
        obtain ⟨a', vs, ea', ev, l, rs⟩ := R.lst e1
        rw [ea] at ea'; cases ea'
        have q1 := rs.length
        rw [q1] at z
        refine L2.op_rep pins s σ H _ _ _ _ Q I ru rv ⟨a, j, vs, rfl, rfl, ev, h1, h2, z, fun p hp => ?_⟩
        obtain ⟨E2, R2, r3⟩ := R.new (vs := (List.replicate j.toNat vs).flatten) hp (by
          rw [List.length_flatten, List.map_replicate, List.sum_replicate_nat]; rw [Nat.mul_comm]; exact z) (rs.flat j.toNat)
        exact k _ _ _ _ _ E2 R2 r3 qq
      · exact hp.elim
    | _ => exact False.elim hp
  | _ => exact False.elim hp
theorem mo_pow : OpR X (binaryOp .Pow) (lR (gX X) rPow) := by
  intro pins s σ H u v uu vv Q I ru rv hh
  obtain ⟨ρ, h, x, y, Qp, R, r1, r2, hp, k⟩ := hh
  cases r1 with
  | int i =>
    cases r2 with
    | int j =>
      obtain ⟨c, q⟩ := (show powOk i j ∧ Qp (.int (i ^ j.toNat)) h from hp)
      exact op_powP pins s σ H _ _ _ _ Q I ru rv ⟨i, j, rfl, rfl, c, k ρ H h _ _ .refl R (.int _) q⟩
    | _ => exact False.elim hp
  | _ => exact False.elim hp
theorem mo_fdiv : OpR X (binaryOp .FloorDiv) (lR (gX X) rFdiv) := by
  intro pins s σ H u v uu vv Q I ru rv hh
  obtain ⟨ρ, h, x, y, Qp, R, r1, r2, hp, k⟩ := hh
  cases r1 with
  | int i =>
    cases r2 with
    | int j =>
      obtain ⟨c, q⟩ := (show (0 < j ∧ j.natAbs.log2 < 9000) ∧ Qp (.int (i / j)) h from hp)
      exact op_fdivW pins s σ H _ _ _ _ Q I ru rv ⟨i, j, rfl, rfl, c, k ρ H h _ _ .refl R (.int _) q⟩
    | _ => exact False.elim hp
  | _ => exact False.elim hp
theorem mo_mod : OpR X (binaryOp .Mod) (lR (gX X) rMod) := by
  intro pins s σ H u v uu vv Q I ru rv hh
  obtain ⟨ρ, h, x, y, Qp, R, r1, r2, hp, k⟩ := hh
  cases r1 with
  | int i =>
    cases r2 with
    | int j =>
      obtain ⟨c, q⟩ := (show 0 < j ∧ Qp (.int (i % j)) h from hp)
      exact L2.op_mod pins s σ H _ _ _ _ Q I ru rv ⟨i, j, rfl, rfl, c, k ρ H h _ _ .refl R (.int _) q⟩
    | _ => exact False.elim hp
  | _ => exact False.elim hp
theorem mo_neg : UnR X (unaryOp .USub) (lU (gX X) rNeg) := by
  intro pins s σ H u uu Q I ru hh
  obtain ⟨ρ, h, x, Qp, R, r1, hp, k⟩ := hh
  cases r1 with
  | int i => exact L2.un_neg pins s σ H _ _ Q I ru ⟨i, rfl, k ρ H h _ _ .refl R (.int _) hp⟩
  | _ => exact False.elim hp
/-! ### comparisons -/
theorem mo_cmp {op : CmpOp} {p : Int → Int → Bool} {q : Str → Str → Bool} (hi : OpR X (compareOp op) (rI0 fun i j => .bl (p i j))) (hs : OpR X (compareOp op) (fun x y H Q => ∃ i j, x = .str i ∧ y = .str j ∧ Q (.bl (q i j)) H)) :
    OpR X (compareOp op) (lR (gX X) (cmpI p q)) := by
  intro pins s σ H u v uu vv Q I ru rv hh
  obtain ⟨ρ, h, x, y, Qp, R, r1, r2, hp, k⟩ := hh
  cases r1 with
  | int i =>
    cases r2 with
    | int j => exact hi pins s σ H _ _ _ _ Q I ru rv ⟨i, j, rfl, rfl, k ρ H h _ _ .refl R (.bl _) hp⟩
    | _ => exact False.elim hp
  | @str a oa =>
    cases r2 with
    | @str b ob => exact hs pins s σ H _ _ _ _ Q I ru rv ⟨a, b, rfl, rfl, k ρ H h _ _ .refl R (.bl _) hp⟩
    | _ => exact False.elim hp
  | _ => exact False.elim hp
theorem mo_lt : OpR X (compareOp .Lt) (lR (gX X) rLt) := mo_cmp L2.op_lt L2.op_lt_str
theorem mo_le : OpR X (compareOp .LtE) (lR (gX X) rLe) := mo_cmp L2.op_le L2.op_le_str
theorem mo_gt : OpR X (compareOp .Gt) (lR (gX X) rGt) := mo_cmp L2.op_gt L2.op_gt_str
theorem mo_ge : OpR X (compareOp .GtE) (lR (gX X) rGe) := mo_cmp L2.op_ge L2.op_ge_str
/-! ### data -/
theorem allD_dp {G : LG} {ρ : List Addr} {H : Hp} {g : PV → Option PyData} (ih : ∀ x v d, RV G ρ H x v → g x = some d → Dp G.K H v d) : ∀ {xs : List PV} {vs : List V} {ds : List PyData}, RVs G ρ H xs vs → allD g xs = some ds → DpAll G.K H vs ds
  | _, _, _, .nil, e => by cases e; exact .nil
  | x :: xs, v :: vs, ds, .cons r rs, e => by
    have e' : (match g x, allD g xs with
      | some d, some ds => some (d :: ds)
      | _, _ => none) = some ds := e
    split at e'
    · rename_i d ds' e1 e2
      cases e'
      exact .cons (ih x v d r e1) (allD_dp ih rs e2)
    · cases e'
theorem rd_dp {G : LG} {ρ : List Addr} {H : Hp} {h : PHeap} (R : Rel G ρ H h) : ∀ (f : Nat) (x : PV) (v : V) (d : PyData), RV G ρ H x v → rd h f x = some d → Dp G.K H v d := by
  intro f
  induction f with
  | zero =>
    intro x v d r e
    cases r with
    | non => cases e; exact .non
    | bl b => cases e; exact .bl b
    | int i => cases e; exact .int i
    | str o => cases e; exact .str _
    | _ => cases e
  | succ f ih =>
    intro x v d r e
    cases r with
    | non => cases e; exact .non
    | bl b => cases e; exact .bl b
    | int i => cases e; exact .int i
    | str o => cases e; exact .str _
    | @tup xs a vs q l rs =>
      have e' : (rdL (rd h f) xs).map PyData.tuple = some d := e
      obtain ⟨ds, e1, e2⟩ := Option.map_eq_some_iff.mp e'
      subst e2
      exact .tup q (allD_dp ih rs (rdL_ok e1).2)
    | @fl xs a vs q l rs =>
      have e' : (rdL (rd h f) xs).map PyData.list = some d := e
      obtain ⟨ds, e1, e2⟩ := Option.map_eq_some_iff.mp e'
      subst e2
      exact .lst q.seq (allD_dp ih rs (rdL_ok e1).2)
    | @ref n a ea =>
      have e' : (match h[n]? with
        | some (.lst xs) => (rdL (rd h f) xs).map PyData.list
        | _ => none) = some d := e
      split at e'
      · rename_i xs en
        obtain ⟨a', vs, ea', ev, l, rs⟩ := R.lst en
        rw [ea] at ea'; cases ea'
        obtain ⟨ds, e1, e2⟩ := Option.map_eq_some_iff.mp e'
        subst e2
        exact .lst (.of ev) (allD_dp ih rs (rdL_ok e1).2)
      · cases e'
theorem allD_shaped {G : LG} {ρ : List Addr} {H : Hp} {g : PV → Option PyData} {k : Nat} (ih : ∀ x v d, RV G ρ H x v → g x = some d → d.canLay0 = true ∧ d.depth ≤ k) : ∀ {xs : List PV} {vs : List V} {ds : List PyData}, RVs G ρ H xs vs → allD g xs = some ds → PyData.canLayAll0 ds = true ∧ PyData.depthAll ds ≤ k
  | _, _, _, .nil, e => by cases e; exact ⟨rfl, by simp [PyData.depthAll]⟩
  | x :: xs, v :: vs, ds, .cons r rs, e => by
    have e' : (match g x, allD g xs with
      | some d, some ds => some (d :: ds)
      | _, _ => none) = some ds := e
    split at e'
    · rename_i d ds' e1 e2
      cases e'
      obtain ⟨a1, a2⟩ := ih x v d r e1
      obtain ⟨b1, b2⟩ := allD_shaped ih rs e2
      refine ⟨?_, ?_⟩
      · show (d.canLay0 && PyData.canLayAll0 ds') = true
        rw [a1, b1]
        rfl
      · simp only [PyData.depthAll]
        omega
    · cases e'
theorem rd_shaped {G : LG} {ρ : List Addr} {H : Hp} {h : PHeap} (R : Rel G ρ H h) : ∀ (f : Nat) (x : PV) (v : V) (d : PyData), RV G ρ H x v → rd h f x = some d → d.canLay0 = true ∧ d.depth ≤ f := by
  intro f
  induction f with
  | zero =>
    intro x v d r e
    cases r with
    | non => cases e; exact ⟨rfl, by simp [PyData.depth]⟩
    | bl b => cases e; exact ⟨rfl, by simp [PyData.depth]⟩
    | int i => cases e; exact ⟨rfl, by simp [PyData.depth]⟩
    | str o => cases e; exact ⟨o.2, by simp [PyData.depth]⟩
    | _ => cases e
  | succ f ih =>
    intro x v d r e
    cases r with
    | non => cases e; exact ⟨rfl, by simp [PyData.depth]⟩
    | bl b => cases e; exact ⟨rfl, by simp [PyData.depth]⟩
    | int i => cases e; exact ⟨rfl, by simp [PyData.depth]⟩
    | str o => cases e; exact ⟨o.2, by simp [PyData.depth]⟩
    | @tup xs a vs q l rs =>
      have e' : (rdL (rd h f) xs).map PyData.tuple = some d := e
      obtain ⟨ds, e1, e2⟩ := Option.map_eq_some_iff.mp e'
      subst e2
      obtain ⟨z1, z2⟩ := allD_shaped ih rs (rdL_ok e1).2
      exact ⟨z1, by simp only [PyData.depth]; omega⟩
    | @fl xs a vs q l rs =>
      have e' : (rdL (rd h f) xs).map PyData.list = some d := e
      obtain ⟨ds, e1, e2⟩ := Option.map_eq_some_iff.mp e'
      subst e2
      obtain ⟨z1, z2⟩ := allD_shaped ih rs (rdL_ok e1).2
      exact ⟨z1, by simp only [PyData.depth]; omega⟩
    | @ref n a ea =>
      have e' : (match h[n]? with
        | some (.lst xs) => (rdL (rd h f) xs).map PyData.list
        | _ => none) = some d := e
      split at e'
      · rename_i xs en
        obtain ⟨a', vs, ea', ev, l, rs⟩ := R.lst en
        obtain ⟨ds, e1, e2⟩ := Option.map_eq_some_iff.mp e'
        subst e2
        obtain ⟨z1, z2⟩ := allD_shaped ih rs (rdL_ok e1).2
        exact ⟨z1, by simp only [PyData.depth]; omega⟩
      · cases e'
theorem shaped_of {d : PyData} (h : d.canLay0 = true ∧ d.depth ≤ 64) : SeqAt.shaped d = true := by
  unfold SeqAt.shaped
  rw [h.1, decide_eq_true h.2]
  rfl
theorem mo_eq (hu : X.A.units + 64 < cLine) : OpR X (compareOp .Eq) (lR (gX X) rEqP) := by
  intro pins s σ H u v uu vv Q I ru rv hh
  obtain ⟨ρ, h, x, y, Qp, R, r1, r2, hp, k⟩ := hh
  dsimp only [rEqP] at hp
  split at hp
  · rename_i d e e1 e2
    exact L2.op_eqD hu pins s σ H _ _ _ _ Q I ru rv ⟨d, e, rd_dp R 64 x u d r1 e1, rd_dp R 64 y v e r2 e2, shaped_of (rd_shaped R 64 x u d r1 e1), shaped_of (rd_shaped R 64 y v e r2 e2), k ρ H h _ _ .refl R (.bl _) hp⟩
  · exact hp.elim
theorem mo_ne (hu : X.A.units + 64 < cLine) : OpR X (compareOp .NotEq) (lR (gX X) rNeP) := by
  intro pins s σ H u v uu vv Q I ru rv hh
  obtain ⟨ρ, h, x, y, Qp, R, r1, r2, hp, k⟩ := hh
  dsimp only [rNeP] at hp
  split at hp
  · rename_i d e e1 e2
    exact L2.op_neD hu pins s σ H _ _ _ _ Q I ru rv ⟨d, e, rd_dp R 64 x u d r1 e1, rd_dp R 64 y v e r2 e2, shaped_of (rd_shaped R 64 x u d r1 e1), shaped_of (rd_shaped R 64 y v e r2 e2), k ρ H h _ _ .refl R (.bl _) hp⟩
  · exact hp.elim
/-- in: a text in a text, or any data in a list or a tuple -/
theorem itemsOf_sq {G : LG} {ρ : List Addr} {H : Hp} {h : PHeap} {y : PV} {v : V} {ys : List PV} (R : Rel G ρ H h) (r : RV G ρ H y v) (e : itemsOf h y = some ys) :
    ∃ b us, v = .ref b ∧ (SqL G.K H b us ∨ SqT G.K H b us) ∧ us.length ≤ sizeLine ∧ RVs G ρ H ys us := by
  cases r with
  | @tup xs a vs q l rs => cases e; exact ⟨a, vs, rfl, .inr q, l, rs⟩
  | @fl xs a vs q l rs => cases e; exact ⟨a, vs, rfl, .inl q.seq, l, rs⟩
  | @ref n a ea =>
    have e' : (match h[n]? with
      | some (.lst xs) => some xs
      | _ => none) = some ys := e
    split at e'
    · rename_i xs en
      cases e'
      obtain ⟨a', vs, ea', ev, l, rs⟩ := R.lst en
      rw [ea] at ea'; cases ea'
      exact ⟨a, vs, rfl, .inl (.of ev), l, rs⟩
    · cases e'
  | _ => cases e
theorem lstOf_sq {G : LG} {ρ : List Addr} {H : Hp} {h : PHeap} {y : PV} {v : V} {ys : List PV} (R : Rel G ρ H h) (r : RV G ρ H y v) (e : lstOf h y = some ys) :
    ∃ b us, v = .ref b ∧ SqL G.K H b us ∧ us.length ≤ sizeLine ∧ RVs G ρ H ys us := by
  cases r with
  | @fl xs a vs q l rs => cases e; exact ⟨a, vs, rfl, q.seq, l, rs⟩
  | @ref n a ea =>
    have e' : (match h[n]? with
      | some (.lst xs) => some xs
      | _ => none) = some ys := e
    split at e'
    · rename_i xs en
      cases e'
      obtain ⟨a', vs, ea', ev, l, rs⟩ := R.lst en
      rw [ea] at ea'; cases ea'
      exact ⟨a, vs, rfl, .of ev, l, rs⟩
    · cases e'
  | _ => cases e
theorem op_inDT (hu : X.A.units + 65 < cLine) : OpR X (compareOp .In) (fun x y H Q => ∃ d ds, Dp X.K H x d ∧ Dp X.K H y (.tuple ds) ∧ SeqAt.shaped d = true ∧ SeqAt.shaped (.tuple ds) = true ∧ Q (.bl (ds.any fun z => PyData.eqv z d)) H) := by
  intro pins s σ H x y v u Q I rx ry h
  obtain ⟨d, ds, hd, he, sd, se, q⟩ := h
  obtain ⟨as, r1⟩ := Dp.reads I d x v hd rx
  obtain ⟨bs, r2⟩ := Dp.reads I (.tuple ds) y u he ry
  exact SeqAt.in_tuple_reads r2 r1 (SeqAt.canLay_of_shaped se) (SeqAt.canLay_of_shaped sd) (room_in_shaped sd hu) ⟨.bl _, H, I, rfl, q⟩
theorem op_notInDT (hu : X.A.units + 65 < cLine) : OpR X (compareOp .NotIn) (fun x y H Q => ∃ d ds, Dp X.K H x d ∧ Dp X.K H y (.tuple ds) ∧ SeqAt.shaped d = true ∧ SeqAt.shaped (.tuple ds) = true ∧ Q (.bl (!ds.any fun z => PyData.eqv z d)) H) := by
  intro pins s σ H x y v u Q I rx ry h
  obtain ⟨d, ds, hd, he, sd, se, q⟩ := h
  obtain ⟨as, r1⟩ := Dp.reads I d x v hd rx
  obtain ⟨bs, r2⟩ := Dp.reads I (.tuple ds) y u he ry
  exact SeqAt.notIn_tuple_reads r2 r1 (SeqAt.canLay_of_shaped se) (SeqAt.canLay_of_shaped sd) (room_in_shaped sd hu) ⟨.bl _, H, I, rfl, q⟩
end
end MP
set_option maxHeartbeats 4000000
/-! MP4: in, subscripts, slices, built-ins, kinds, methods. -/
namespace MP
open PySem PySem.Spec PyProof.Rows L2 TL

section
variable {X : Cx} {xa : Option (Nat × Addr × Value × Option Addr)}
theorem shaped_list {ds : List PyData} (h : PyData.canLayAll0 ds = true ∧ PyData.depthAll ds ≤ 63) : SeqAt.shaped (.list ds) = true := shaped_of ⟨h.1, by simp only [PyData.depth]; omega⟩
theorem shaped_tup {ds : List PyData} (h : PyData.canLayAll0 ds = true ∧ PyData.depthAll ds ≤ 63) : SeqAt.shaped (.tuple ds) = true := shaped_of ⟨h.1, by simp only [PyData.depth]; omega⟩
theorem in_core {neg : Bool} {op : CmpOp} (f : Bool → Bool) (hs : OpR X (compareOp op) (fun x y H Q => ∃ i j, x = .str i ∧ y = .str j ∧ Q (.bl (f (strIn i j))) H))
    (hl : OpR X (compareOp op) (fun x y H Q => ∃ d ds, Dp X.K H x d ∧ Dp X.K H y (.list ds) ∧ SeqAt.shaped d = true ∧ SeqAt.shaped (.list ds) = true ∧ Q (.bl (f (ds.any fun z => PyData.eqv z d))) H))
    (ht : OpR X (compareOp op) (fun x y H Q => ∃ d ds, Dp X.K H x d ∧ Dp X.K H y (.tuple ds) ∧ SeqAt.shaped d = true ∧ SeqAt.shaped (.tuple ds) = true ∧ Q (.bl (f (ds.any fun z => PyData.eqv z d))) H)) :
    OpR X (compareOp op) (lR (gX X) fun x y h Q => match inP h x y with
      | some b => Q (.bl (f b)) h
      | none => False) := by
  intro pins s σ H u v uu vv Q I ru rv hh
  obtain ⟨ρ, h, x, y, Qp, R, r1, r2, hp, k⟩ := hh
  have seq : ∀ (ys : List PV), itemsOf h y = some ys → (∀ (b : Bool), (match rd h 64 x, allD (rd h 63) ys with
      | some d, some ds => some (ds.any fun z => PyData.eqv z d)
      | _, _ => none) = some b → Qp (.bl (f b)) h → wpAny (model X.prog X.w) X.A (compareOp op uu vv) (EP X pins σ Q) X.xe s) := by
    intro ys ey b eb q
    split at eb
    · rename_i d ds e1 e2
      cases eb
      have k1 := rd_dp R 64 x u d r1 e1
      have k2 := rd_shaped R 64 x u d r1 e1
      cases r2 with
      | @tup xs a vs qq l rs =>
        cases ey
        exact ht pins s σ H _ _ _ _ Q I ru rv ⟨d, ds, k1, .tup qq (allD_dp (rd_dp R 63) rs e2), shaped_of k2, shaped_tup (allD_shaped (rd_shaped R 63) rs e2), k ρ H h _ _ .refl R (.bl _) q⟩
      | @fl xs a vs qq l rs =>
        cases ey
        exact hl pins s σ H _ _ _ _ Q I ru rv ⟨d, ds, k1, .lst qq.seq (allD_dp (rd_dp R 63) rs e2), shaped_of k2, shaped_list (allD_shaped (rd_shaped R 63) rs e2), k ρ H h _ _ .refl R (.bl _) q⟩
      | @ref n a ea =>
        have e' : (match h[n]? with
          | some (.lst xs) => some xs
          | _ => none) = some ys := ey
        split at e'
        · rename_i xs en
          cases e'
          obtain ⟨a', vs, ea', ev, l, rs⟩ := R.lst en
          rw [ea] at ea'; cases ea'
          exact hl pins s σ H _ _ _ _ Q I ru rv ⟨d, ds, k1, .lst (.of ev) (allD_dp (rd_dp R 63) rs e2), shaped_of k2, shaped_list (allD_shaped (rd_shaped R 63) rs e2), k ρ H h _ _ .refl R (.bl _) q⟩
        · cases e'
      | _ => cases ey
    · cases eb
  split at hp
  · rename_i b eb
    unfold inP at eb
    split at eb
    · rename_i a c
      cases eb
      cases r1
      cases r2
      exact hs pins s σ H _ _ _ _ Q I ru rv ⟨_, _, rfl, rfl, k ρ H h _ _ .refl R (.bl _) hp⟩
    · split at eb
      · rename_i ys ey
        exact seq ys ey b eb hp
      · cases eb
  · exact hp.elim
theorem mo_in (hu : X.A.units + 65 < cLine) : OpR X (compareOp .In) (lR (gX X) rInP) := in_core (neg := false) (fun b => b) L2.op_in_str (op_inD hu) (op_inDT hu)
theorem mo_notIn (hu : X.A.units + 65 < cLine) : OpR X (compareOp .NotIn) (lR (gX X) rNotInP) := in_core (neg := true) (fun b => !b) L2.op_notin_str (op_notInD hu) (op_notInDT hu)
/-! ### subscripts -/
theorem atI_rv {G : LG} {ρ : List Addr} {H : Hp} {xs : List PV} {vs : List V} {i : Int} {x : PV} (r : RVs G ρ H xs vs) (e : atI xs i = some x) : ∃ v, atI vs i = some v ∧ RV G ρ H x v := by
  unfold atI at e ⊢
  obtain ⟨j, e1, e2⟩ := Option.bind_eq_some_iff.mp e
  rw [r.length] at e1
  obtain ⟨v, e3, r'⟩ := r.get e2
  exact ⟨v, by rw [e1]; exact e3, r'⟩
theorem atI_mem {α : Type} {xs : List α} {i : Int} {x : α} (e : atI xs i = some x) : x ∈ xs := by
  unfold atI at e
  obtain ⟨j, _, e2⟩ := Option.bind_eq_some_iff.mp e
  exact List.mem_of_getElem? e2
theorem mi_ix : IxR X (lR (gX X) rIx) := by
  intro vl sl pins s σ H u v uu vv Q I ru rv hh hsub
  obtain ⟨ρ, h, x, y, Qp, R, r1, r2, hp, k⟩ := hh
  cases r2 with
  | int i =>
    have seq : ∀ xs, itemsOf h x = some xs → (match atI xs i with
        | some v => Qp v h
        | none => False) → wpAny (model X.prog X.w) X.A (subscriptTail vl sl uu vv) (EP X pins σ Q) X.xe s := fun xs ex q => by
      split at q
      · rename_i z ez
        obtain ⟨b, us, e1, sq, l, rs⟩ := itemsOf_sq R r1 ex
        obtain ⟨w', e2, r'⟩ := atI_rv rs ez
        subst e1
        rcases sq with sq | sq
        · exact ix_list vl sl pins s σ H _ _ _ _ Q I ru rv ⟨b, us, i, w', rfl, rfl, sq, e2, k ρ H h _ _ .refl R r' q⟩ hsub
        · exact ix_tup vl sl pins s σ H _ _ _ _ Q I ru rv ⟨b, us, i, w', rfl, rfl, sq, e2, k ρ H h _ _ .refl R r' q⟩ hsub
      · exact q.elim
    dsimp only [rIx] at hp
    split at hp
    · rename_i a
      cases r1 with
      | @str _ oa =>
        split at hp
        · rename_i c ec
          exact ix_str vl sl pins s σ H _ _ _ _ Q I ru rv ⟨a, i, c, rfl, rfl, oa.1, ec, k ρ H h _ _ .refl R (.str (okS_one oa (atI_mem ec))) hp⟩ hsub
        · exact hp.elim
    · split at hp
      · rename_i xs ex
        exact seq xs ex hp
      · exact hp.elim
  | _ => exact False.elim hp
variable {W : WX} {a b e : Expr} {ta tb te : PTE} {t tl' : PTA} {pos : Pos}
theorem le_ix (ha : PE X a (lE (gX X) xa W ta)) (hb : PE X b (lE (gX X) xa W tb)) (hs : PlainIx b) : PE X (.Subscript a b pos) (lE (gX X) xa W (pOp rIx ta tb)) :=
  PE_imp (pe_ix mi_ix ha hb hs) fun _ _ _ h => lR_of h
/-- a temporary list at an index -/
def lIxT (G : LG) : R2 := fun u v H Q => ∃ ρ h D us xs y Qp, u = .ref D ∧ Rel G ρ H h ∧ RVs G ρ H xs us ∧ H D = some (.lst us) ∧ RV G ρ H y v ∧ rIxT xs y h Qp ∧ ∀ ρ' H' h' z w, Ext ρ H ρ' H' → Rel G ρ' H' h' → RV G ρ' H' z w → Qp z h' → Q w H'
theorem mi_ixT : IxR X (lIxT (gX X)) := by
  intro vl sl pins s σ H u v uu vv Q I ru rv hh hsub
  obtain ⟨ρ, h, D, us, xs, y, Qp, e0, R, rs, hD, r2, hp, k⟩ := hh
  subst e0
  cases r2 with
  | int i =>
    dsimp only [rIxT] at hp
    split at hp
    · rename_i z ez
      obtain ⟨w', e2, r'⟩ := atI_rv rs ez
      exact ix_list vl sl pins s σ H _ _ _ _ Q I ru rv ⟨D, us, i, w', rfl, rfl, .of hD, e2, k ρ H h _ _ .refl R r' hp⟩ hsub
    · exact hp.elim
  | _ => exact False.elim hp
theorem le_ixT (ha : PE X a (lL (gX X) xa W t)) (hb : PE X b (lE (gX X) xa W tb)) (hs : PlainIx b) : PE X (.Subscript a b pos) (lE (gX X) xa W (pIxT rIxT t tb)) := by
  refine PE_imp (pe_ix mi_ixT ha hb hs) fun σ H Q h => ?_
  obtain ⟨ρ, τ, h, Qp, Ep, R, S, hp, k, kx⟩ := h
  refine ⟨ρ, τ, h, _, Ep, R, S, hp, fun ρ1 H1 h1 xs D vs E1 R1 r1 l hD nD fD q1 => ?_, kx⟩
  refine ⟨ρ1, τ, h1, _, Ep, R1, S.mono R.trk E1, q1, fun ρ2 H2 h2 y u E2 R2 r2 q2 => ?_, kx.mono E1⟩
  exact ⟨ρ2, h2, D, vs, xs, y, Qp, rfl, R2, r1.mono R1.trk E2, (E2.keep _ _ hD nD).1, r2, q2, fun ρ3 H3 h3 z w E3 R3 r3 q3 => k ρ3 H3 h3 z w (E1.trans (E2.trans E3)) R3 r3 q3⟩
/-! ### slices -/
variable {lo hi : Option Expr} {tlo thi : PTO} {p2 : Pos}
theorem lo_none : PO X none (lO (gX X) xa W pNoPart) := by
  refine PO_imp po_none fun σ H Q h => ?_
  obtain ⟨ρ, τ, h, Qp, Ep, R, S, hp, k, kx⟩ := h
  exact k ρ H h none .refl R hp
theorem lo_some (h : PE X e (lE (gX X) xa W te)) : PO X (some e) (lO (gX X) xa W (pPart te)) := by
  refine PO_imp (po_some h) fun σ H Q h => ?_
  obtain ⟨ρ, τ, h, Qp, Ep, R, S, hp, k, kx⟩ := h
  refine ⟨ρ, τ, h, _, Ep, R, S, hp, fun ρ1 H1 h1 x v E1 R1 r1 q1 => ?_, kx⟩
  cases r1 with
  | int i => exact ⟨i, rfl, k ρ1 H1 h1 (some i) E1 R1 q1⟩
  | _ => exact False.elim q1
def lSl (G : LG) : V → Option Int → Option Int → Hp → VK → Prop := fun u lo hi H Q => ∃ ρ h x Qp, Rel G ρ H h ∧ RV G ρ H x u ∧ rCut x lo hi h Qp ∧ ∀ ρ' H' h' z w, Ext ρ H ρ' H' → Rel G ρ' H' h' → RV G ρ' H' z w → Qp z h' → Q w H'
theorem cut_len {vs : List V} (lo hi : Option Int) (l : vs.length ≤ sizeLine) : (cut vs lo hi).length ≤ sizeLine := Nat.le_trans (cutV_length vs lo hi) l
theorem ms_cut : SlR X (lSl (gX X)) := by
  intro pins s σ H u v vl vu lo hi sl Q I ru hs pl pu hh
  obtain ⟨ρ, h, x, Qp, R, r1, hp, k⟩ := hh
  cases r1 with
  | @str a oa => exact sl_str pins s σ H _ v vl vu lo hi sl Q I ru hs pl pu ⟨a, rfl, oa.1, k ρ H h _ _ .refl R (.str (okS_cut oa lo hi)) hp⟩
  | @tup xs a vs q l rs =>
    refine sl_tupA pins s σ H _ v vl vu lo hi sl Q I ru hs pl pu ⟨a, vs, rfl, q, fun hw => ?_, fun _ p np => ?_⟩
    · have e : cut xs lo hi = xs := by
        unfold cut
        rw [rs.length, hw.1, hw.2, List.drop_zero, Nat.sub_zero, ← rs.length, List.take_length]
      have hp' : Qp (.tup (cut xs lo hi)) h := hp
      rw [e] at hp'
      exact k ρ H h _ _ .refl R (.tup q l rs) hp'
    · obtain ⟨E2, R2, r3⟩ := R.newT (vs := cut vs lo hi) np (cut_len lo hi l) (rs.cut lo hi)
      exact k ρ _ h _ _ E2 R2 r3 hp
  | @fl xs a vs q l rs =>
    refine sl_list pins s σ H _ v vl vu lo hi sl Q I ru hs pl pu ⟨a, vs, rfl, q.seq, fun p np => ?_⟩
    obtain ⟨E2, R2, r3⟩ := R.new (vs := cut vs lo hi) np (cut_len lo hi l) (rs.cut lo hi)
    exact k _ _ _ _ _ E2 R2 r3 hp
  | @ref n a ea =>
    dsimp only [rCut] at hp
    split at hp
    · rename_i xs en
      obtain ⟨a', vs, ea', ev, l, rs⟩ := R.lst en
      rw [ea] at ea'; cases ea'
      refine sl_list pins s σ H _ v vl vu lo hi sl Q I ru hs pl pu ⟨a, vs, rfl, .of ev, fun p np => ?_⟩
      obtain ⟨E2, R2, r3⟩ := R.new (vs := cut vs lo hi) np (cut_len lo hi l) (rs.cut lo hi)
      exact k _ _ _ _ _ E2 R2 r3 hp
    · exact hp.elim
  | _ => exact False.elim hp
theorem le_slice (he : PE X e (lE (gX X) xa W te)) (hl : PO X lo (lO (gX X) xa W tlo)) (hu : PO X hi (lO (gX X) xa W thi)) : PE X (.Subscript e (.Slice lo hi none p2) pos) (lE (gX X) xa W (pSlice te tlo thi)) := by
  refine PE_imp (pe_slice ms_cut he hl hu) fun σ H Q h => ?_
  obtain ⟨ρ, τ, h, Qp, Ep, R, S, hp, k, kx⟩ := h
  refine ⟨ρ, τ, h, _, Ep, R, S, hp, fun ρ1 H1 h1 x v E1 R1 r1 q1 => ?_, kx⟩
  have S1 := S.mono R.trk E1
  refine ⟨ρ1, τ, h1, _, Ep, R1, S1, q1, fun ρ2 H2 h2 l E2 R2 q2 => ?_, kx.mono E1⟩
  refine ⟨ρ2, τ, h2, _, Ep, R2, S1.mono R1.trk E2, q2, fun ρ3 H3 h3 u E3 R3 q3 => ?_, kx.mono (E1.trans E2)⟩
  exact ⟨ρ3, h3, x, Qp, R3, r1.mono R1.trk (E2.trans E3), q3, fun ρ4 H4 h4 z w E4 R4 r4 q4 => k ρ4 H4 h4 z w (E1.trans (E2.trans (E3.trans E4))) R4 r4 q4⟩
/-! ### calls of built-ins -/
variable {es : List Expr} {r : PCb} {x : Str} {p : Pos} {id T : String}
theorem lCB_of {σ : St} {H : Hp} {Q : VK} (h : lE (gX X) xa W (pCB r t) σ H Q) : tCB (lC (gX X) r) (lA (gX X) xa W t) σ H Q := by
  obtain ⟨ρ, τ, h, Qp, Ep, R, S, hp, k, kx⟩ := h
  refine ⟨ρ, τ, h, _, Ep, R, S, hp, fun ρ1 H1 h1 xs vs E1 R1 r1 q1 => ?_, kx⟩
  exact ⟨ρ1, h1, xs, Qp, R1, r1, q1, fun ρ3 H3 h3 z w E3 R3 r3 q3 => k ρ3 H3 h3 z w (E1.trans E3) R3 r3 q3⟩
theorem lCT_of {σ : St} {H : Hp} {Q : VK} (h : lE (gX X) xa W (pCT r t) σ H Q) : tCB (lCT (gX X) r) (tCons (lL (gX X) xa W t) tNil) σ H Q := by
  obtain ⟨ρ, τ, h, Qp, Ep, R, S, hp, k, kx⟩ := h
  refine ⟨ρ, τ, h, _, Ep, R, S, hp, fun ρ1 H1 h1 xs D vs E1 R1 r1 l hD nD fD q1 => ?_, kx⟩
  exact ⟨ρ1, h1, xs, D, vs, Qp, rfl, R1, r1, l, hD, nD, q1, fun ρ3 H3 h3 z w E3 R3 r3 q3 => k ρ3 H3 h3 z w (E1.trans E3) R3 r3 q3⟩
/-- f(e, ..), a built-in function -/
theorem le_callB (hc : CallR X (.builtin id) (lC (gX X) r)) (hg : Gl X x) (hm : X.mg x = none) (hv : bootBuiltins x = some (.builtin id)) (ha : PA X (e :: es) (lA (gX X) xa W t)) (hn : x ≠ "__name__" := by decide) (hdb : (x == ("__debug__" : Str)) = false := by decide)
    (he : starEach (e :: es) X.env = (false, eval e X.env) :: starEach es X.env := by rfl) (hpl : (backTo pos (starEach es X.env)).any (·.1) = false := by rfl) : PE X (.Call (.Name x p) (e :: es) [] pos) (lE (gX X) xa W (pCB r t)) :=
  PE_imp (pe_callB hc hg hm hv ha hn hdb he hpl) fun _ _ _ h => lCB_of h
theorem le_callTy (hc : CallR X (.type T) (lC (gX X) r)) (hg : Gl X x) (hm : X.mg x = none) (hv : bootBuiltins x = some (.type T)) (ha : PA X (e :: es) (lA (gX X) xa W t)) (hn : x ≠ "__name__" := by decide) (hdb : (x == ("__debug__" : Str)) = false := by decide)
    (he : starEach (e :: es) X.env = (false, eval e X.env) :: starEach es X.env := by rfl) (hpl : (backTo pos (starEach es X.env)).any (·.1) = false := by rfl) : PE X (.Call (.Name x p) (e :: es) [] pos) (lE (gX X) xa W (pCB r t)) :=
  PE_imp (pe_callTy hc hg hm hv ha hn hdb he hpl) fun _ _ _ h => lCB_of h
/-- f([..]) -/
theorem le_callBT (hc : CallR X (.builtin id) (lCT (gX X) r)) (hg : Gl X x) (hm : X.mg x = none) (hv : bootBuiltins x = some (.builtin id)) (ha : PE X e (lL (gX X) xa W t)) (hn : x ≠ "__name__" := by decide) (hdb : (x == ("__debug__" : Str)) = false := by decide)
    (he : starEach [e] X.env = (false, eval e X.env) :: starEach [] X.env := by rfl) : PE X (.Call (.Name x p) [e] [] pos) (lE (gX X) xa W (pCT r t)) :=
  PE_imp (pe_callB hc hg hm hv (pa_cons ha pa_nil he) hn hdb he rfl) fun _ _ _ h => lCT_of h
theorem le_callTyT (hc : CallR X (.type T) (lCT (gX X) r)) (hg : Gl X x) (hm : X.mg x = none) (hv : bootBuiltins x = some (.type T)) (ha : PE X e (lL (gX X) xa W t)) (hn : x ≠ "__name__" := by decide) (hdb : (x == ("__debug__" : Str)) = false := by decide)
    (he : starEach [e] X.env = (false, eval e X.env) :: starEach [] X.env := by rfl) : PE X (.Call (.Name x p) [e] [] pos) (lE (gX X) xa W (pCT r t)) :=
  PE_imp (pe_callTy hc hg hm hv (pa_cons ha pa_nil he) hn hdb he rfl) fun _ _ _ h => lCT_of h
theorem one_rv {G : LG} {ρ : List Addr} {H : Hp} {x : PV} {vs : List V} (r : RVs G ρ H [x] vs) : ∃ v, vs = [v] ∧ RV G ρ H x v := by
  cases r with
  | cons r rs => cases rs; exact ⟨_, rfl, r⟩
theorem two_rv {G : LG} {ρ : List Addr} {H : Hp} {x y : PV} {vs : List V} (r : RVs G ρ H [x, y] vs) : ∃ v u, vs = [v, u] ∧ RV G ρ H x v ∧ RV G ρ H y u := by
  cases r with
  | cons r rs =>
    cases rs with
    | cons r' rs => cases rs; exact ⟨_, _, rfl, r, r'⟩
theorem mc_len : CallR X (.builtin "len") (lC (gX X) rLen) := by
  intro pins s σ H vs us Q I rr hh
  obtain ⟨ρ, h, xs, Qp, R, r1, hp, k⟩ := hh
  unfold rLen at hp
  split at hp
  · obtain ⟨v, e, r⟩ := one_rv r1
    subst e
    cases r with
    | @str a oa => exact L2.call_len pins s σ H _ us Q I rr ⟨_, _, rfl, ⟨oa.1, rfl⟩, k ρ H h _ _ .refl R (.int _) hp⟩
  · obtain ⟨v, e, r⟩ := one_rv r1
    subst e
    cases r with
    | @tup xs a vs q l rs => exact L2.call_len pins s σ H _ us Q I rr ⟨_, _, rfl, .inr ⟨vs, q, rfl⟩, k ρ H h _ _ .refl R (by rw [rs.length]; exact .int _) hp⟩
  · obtain ⟨v, e, r⟩ := one_rv r1
    subst e
    cases r with
    | @fl xs a vs q l rs => exact L2.call_len pins s σ H _ us Q I rr ⟨_, _, rfl, .inl ⟨vs, q.seq, rfl⟩, k ρ H h _ _ .refl R (by rw [rs.length]; exact .int _) hp⟩
  · obtain ⟨v, e, r⟩ := one_rv r1
    subst e
    cases r with
    | @ref n a ea =>
      split at hp
      · rename_i xs en
        obtain ⟨a', vs, ea', ev, l, rs⟩ := R.lst en
        rw [ea] at ea'; cases ea'
        exact L2.call_len pins s σ H _ us Q I rr ⟨_, _, rfl, .inl ⟨vs, .of ev, rfl⟩, k ρ H h _ _ .refl R (by rw [rs.length]; exact .int _) hp⟩
      · exact hp.elim
  · exact hp.elim
theorem mc_int : CallR X (.type "int") (lC (gX X) rIntP) := by
  intro pins s σ H vs us Q I rr hh
  obtain ⟨ρ, h, xs, Qp, R, r1, hp, k⟩ := hh
  unfold rIntP at hp
  split at hp
  · obtain ⟨v, e, r⟩ := one_rv r1
    subst e
    cases r with
    | int i => exact L2.call_int1 pins s σ H _ us Q I rr (.inl ⟨_, rfl, k ρ H h _ _ .refl R (.int _) hp⟩)
  · obtain ⟨v, e, r⟩ := one_rv r1
    subst e
    cases r with
    | bl i => exact L2.call_int1 pins s σ H _ us Q I rr (.inr ⟨_, rfl, k ρ H h _ _ .refl R (.int _) hp⟩)
  · exact hp.elim
theorem mc_abs : CallR X (.builtin "abs") (lC (gX X) rAbs) := by
  intro pins s σ H vs us Q I rr hh
  obtain ⟨ρ, h, xs, Qp, R, r1, hp, k⟩ := hh
  unfold rAbs at hp
  split at hp
  · obtain ⟨v, e, r⟩ := one_rv r1
    subst e
    cases r with
    | int i => exact L2.call_abs pins s σ H _ us Q I rr ⟨_, rfl, k ρ H h _ _ .refl R (.int _) hp⟩
  · exact hp.elim
theorem mc_max2 (hc : X.calm = true) : CallR X (.builtin "max") (lC (gX X) rMax2) := by
  intro pins s σ H vs us Q I rr hh
  obtain ⟨ρ, h, xs, Qp, R, r1, hp, k⟩ := hh
  unfold rMax2 at hp
  split at hp
  · obtain ⟨v, u, e, r, r'⟩ := two_rv r1
    subst e
    cases r with
    | int i =>
      cases r' with
      | int j => exact L2.call_max2 hc pins s σ H _ us Q I rr ⟨_, _, rfl, k ρ H h _ _ .refl R (.int _) hp⟩
  · exact hp.elim
theorem mc_min2 (hc : X.calm = true) : CallR X (.builtin "min") (lC (gX X) rMin2) := by
  intro pins s σ H vs us Q I rr hh
  obtain ⟨ρ, h, xs, Qp, R, r1, hp, k⟩ := hh
  unfold rMin2 at hp
  split at hp
  · obtain ⟨v, u, e, r, r'⟩ := two_rv r1
    subst e
    cases r with
    | int i =>
      cases r' with
      | int j => exact L2.call_min2 hc pins s σ H _ us Q I rr ⟨_, _, rfl, k ρ H h _ _ .refl R (.int _) hp⟩
  · exact hp.elim
/-! ### upon the items of a list -/
theorem bls_vs {G : LG} {ρ : List Addr} {H : Hp} : ∀ {xs : List PV} {vs : List V} {bs : List Bool}, RVs G ρ H xs vs → bls xs = some bs → vs = bs.map V.bl
  | _, _, _, .nil, e => by cases e; rfl
  | x :: xs, v :: vs, bs, .cons r rs, e => by
    cases r with
    | bl b =>
      have e' : (bls xs).map (b :: ·) = some bs := e
      obtain ⟨cs, e1, e2⟩ := Option.map_eq_some_iff.mp e'
      subst e2
      rw [bls_vs rs e1]
      rfl
    | _ => cases e
theorem sts_vs {G : LG} {ρ : List Addr} {H : Hp} : ∀ {xs : List PV} {vs : List V} {bs : List Str}, RVs G ρ H xs vs → sts xs = some bs → vs = bs.map V.str ∧ ∀ b ∈ bs, okS b
  | _, _, _, .nil, e => by cases e; exact ⟨rfl, fun _ z => nomatch z⟩
  | x :: xs, v :: vs, bs, .cons r rs, e => by
    cases r with
    | @str b ob =>
      have e' : (sts xs).map (b :: ·) = some bs := e
      obtain ⟨cs, e1, e2⟩ := Option.map_eq_some_iff.mp e'
      subst e2
      obtain ⟨q1, q2⟩ := sts_vs rs e1
      refine ⟨by rw [q1]; rfl, fun c hc => ?_⟩
      rcases List.mem_cons.mp hc with z | z
      · rw [z]; exact ob
      · exact q2 c z
    | _ => cases e
theorem its_vs {G : LG} {ρ : List Addr} {H : Hp} : ∀ {xs : List PV} {vs : List V} {bs : List Int}, RVs G ρ H xs vs → its xs = some bs → vs = bs.map V.int
  | _, _, _, .nil, e => by cases e; rfl
  | x :: xs, v :: vs, bs, .cons r rs, e => by
    cases r with
    | int b =>
      have e' : (its xs).map (b :: ·) = some bs := e
      obtain ⟨cs, e1, e2⟩ := Option.map_eq_some_iff.mp e'
      subst e2
      rw [its_vs rs e1]
      rfl
    | _ => cases e
/-- what a built-in asks of a list at D with these items -/
def ItR (X : Cx) (f : Value) (r : PCb) : Prop := ∀ (pins : List (Addr × Obj)) (s : Shared) (σ : St) (H : Hp) (D : Addr) (vs : List V) (Q : VK) (ρ : List Addr) (h : PHeap) (xs : List PV) (Qp : PQ), Inv X pins σ H s → SqL X.K H D vs → vs.length ≤ sizeLine →
  Rel (gX X) ρ H h → RVs (gX X) ρ H xs vs → r xs h Qp → (∀ ρ' H' h' z w, Ext ρ H ρ' H' → Rel (gX X) ρ' H' h' → RV (gX X) ρ' H' z w → Qp z h' → Q w H') → wpAny (model X.prog X.w) X.A (call f [.ref D]) (EP X pins σ Q) X.xe s
theorem ItR.tmp {f : Value} (h : ItR X f r) : CallR X f (lCT (gX X) r) := by
  intro pins s σ H vs us Q I rr hh
  obtain ⟨ρ, h', xs, D, ws, Qp, e, R, r1, l, hD, nD, hp, k⟩ := hh
  subst e
  rw [Vals.ref1 rr]
  exact h pins s σ H D ws Q ρ h' xs Qp I (.of hD) l R r1 hp k
theorem ItR.lst {f : Value} (h : ItR X f r) : CallR X f (lC (gX X) (onList r)) := by
  intro pins s σ H vs us Q I rr hh
  obtain ⟨ρ, h', xs, Qp, R, r1, hp, k⟩ := hh
  unfold onList at hp
  split at hp
  · obtain ⟨v, e, r'⟩ := one_rv r1
    subst e
    split at hp
    · rename_i ys ey
      obtain ⟨b, ws, e1, sq, l, rs⟩ := lstOf_sq R r' ey
      subst e1
      rw [Vals.ref1 rr]
      exact h pins s σ H b ws Q ρ h' ys Qp I sq l R rs hp k
    · exact hp.elim
  · exact hp.elim
theorem it_all (hc : X.calm = true) : ItR X (.builtin "all") rAllI := by
  intro pins s σ H D vs Q ρ h xs Qp I sq l R rs hp k
  unfold rAllI at hp
  split at hp
  · rename_i bs eb
    have ev := bls_vs rs eb
    subst ev
    exact L2.cr_all hc pins s σ H [.ref D] [.ref D] Q I (.cons rfl .nil) ⟨D, bs, rfl, sq, k ρ H h _ _ .refl R (.bl _) hp⟩
  · exact hp.elim
theorem it_any (hc : X.calm = true) : ItR X (.builtin "any") rAnyI := by
  intro pins s σ H D vs Q ρ h xs Qp I sq l R rs hp k
  unfold rAnyI at hp
  split at hp
  · rename_i bs eb
    have ev := bls_vs rs eb
    subst ev
    exact L2.cr_any hc pins s σ H [.ref D] [.ref D] Q I (.cons rfl .nil) ⟨D, bs, rfl, sq, k ρ H h _ _ .refl R (.bl _) hp⟩
  · exact hp.elim
theorem it_sum (hc : X.calm = true) : ItR X (.builtin "sum") rSumI := by
  intro pins s σ H D vs Q ρ h xs Qp I sq l R rs hp k
  unfold rSumI at hp
  split at hp
  · rename_i bs eb
    have ev := its_vs rs eb
    subst ev
    exact L2.cr_sum hc pins s σ H [.ref D] [.ref D] Q I (.cons rfl .nil) ⟨D, bs, rfl, sq, k ρ H h _ _ .refl R (.int _) hp⟩
  · exact hp.elim
theorem it_len : ItR X (.builtin "len") rLenT := by
  intro pins s σ H D vs Q ρ h xs Qp I sq l R rs hp k
  exact L2.call_len pins s σ H [.ref D] [.ref D] Q I (.cons rfl .nil) ⟨_, _, rfl, .inl ⟨vs, sq, rfl⟩, k ρ H h _ _ .refl R (by rw [← rs.length]; exact .int _) hp⟩
theorem it_tuple : ItR X (.type "tuple") rTupI := by
  intro pins s σ H D vs Q ρ h xs Qp I sq l R rs hp k
  refine L2.call_tuple_of pins s σ H [.ref D] [.ref D] Q I (.cons rfl .nil) ⟨D, vs, rfl, .inl ⟨sq, fun p np => ?_⟩⟩
  obtain ⟨E2, R2, r3⟩ := R.newT np l rs
  exact k ρ _ h _ _ E2 R2 r3 hp
theorem it_list : ItR X (.type "list") rLstI := by
  intro pins s σ H D vs Q ρ h xs Qp I sq l R rs hp k
  refine L2.call_list_of pins s σ H [.ref D] [.ref D] Q I (.cons rfl .nil) ⟨D, vs, rfl, .inl sq, fun p np => ?_⟩
  obtain ⟨E2, R2, r3⟩ := R.new np l rs
  exact k _ _ _ _ _ E2 R2 r3 hp
/-- list(x), tuple(x) upon a list or a tuple -/
theorem mc_list : CallR X (.type "list") (lC (gX X) (onItems rLstI)) := by
  intro pins s σ H vs us Q I rr hh
  obtain ⟨ρ, h', xs, Qp, R, r1, hp, k⟩ := hh
  unfold onItems at hp
  split at hp
  · obtain ⟨v, e, r'⟩ := one_rv r1
    subst e
    split at hp
    · rename_i ys ey
      obtain ⟨b, ws, e1, sq, l, rs⟩ := itemsOf_sq R r' ey
      subst e1
      refine L2.call_list_of pins s σ H _ us Q I rr ⟨b, ws, rfl, sq, fun p np => ?_⟩
      obtain ⟨E2, R2, r3⟩ := R.new np l rs
      exact k _ _ _ _ _ E2 R2 r3 hp
    · exact hp.elim
  · exact hp.elim
theorem mc_tuple : CallR X (.type "tuple") (lC (gX X) (onItems rTupI)) := by
  intro pins s σ H vs us Q I rr hh
  obtain ⟨ρ, h', xs, Qp, R, r1, hp, k⟩ := hh
  unfold onItems at hp
  split at hp
  · obtain ⟨v, e, r'⟩ := one_rv r1
    subst e
    split at hp
    · rename_i ys ey
      obtain ⟨b, ws, e1, sq, l, rs⟩ := itemsOf_sq R r' ey
      subst e1
      rcases sq with sq | sq
      · refine L2.call_tuple_of pins s σ H _ us Q I rr ⟨b, ws, rfl, .inl ⟨sq, fun p np => ?_⟩⟩
        obtain ⟨E2, R2, r3⟩ := R.newT np l rs
        exact k ρ _ h' _ _ E2 R2 r3 hp
      · exact L2.call_tuple_of pins s σ H _ us Q I rr ⟨b, ws, rfl, .inr ⟨sq, k ρ H h' _ _ .refl R (.tup sq l rs) hp⟩⟩
    · exact hp.elim
  · exact hp.elim
/-! ### kinds -/
def kinds : List String := ["NoneType", "bool", "int", "str", "tuple", "list", "dict", "set"]
theorem kit_all : (kinds.all fun a => kinds.all fun b => decide (kitB a b = some (isiB a b))) = true := by decide +kernel
theorem kit_in {a b : String} (ha : a ∈ kinds) (hb : b ∈ kinds) : kitB a b = some (isiB a b) := by
  have q := List.all_eq_true.mp kit_all a ha
  exact of_decide_eq_true (List.all_eq_true.mp q b hb)
theorem tyOf_ok {G : LG} {ρ : List Addr} {H : Hp} {h : PHeap} {x : PV} {v : V} {t : String} (R : Rel G ρ H h) (r : RV G ρ H x v) (e : tyOf h x = some t) : t ∈ kinds ∧ TyX G.K H v (.type t) := by
  cases r with
  | non => cases e; exact ⟨by decide, .base .non⟩
  | bl b => cases e; exact ⟨by decide, .base (.bl b)⟩
  | int i => cases e; exact ⟨by decide, .base (.int i)⟩
  | str o => cases e; exact ⟨by decide, .base (.str _)⟩
  | @tup xs a vs q l rs =>
    cases e
    refine ⟨by decide, ?_⟩
    rcases q with (q | ⟨o, q⟩) | ⟨o, its, n, q, c, _⟩
    · exact .base (.tup q)
    · exact .fTuple q
    · exact .kTuple q c
  | @fl xs a vs q l rs =>
    cases e
    refine ⟨by decide, ?_⟩
    rcases q with ⟨o, q⟩ | ⟨o, its, n, q, c, _⟩
    · exact .base (.frz q)
    · exact .kList q c
  | @ref n a ea =>
    have e' : (match h[n]? with
      | some (.lst _) => some "list"
      | some (.dct _) => some "dict"
      | some (.set _) => some "set"
      | _ => none) = some t := e
    have hn : n < ρ.length := (List.getElem?_eq_some_iff.mp ea).1
    split at e'
    · rename_i xs en
      cases e'
      obtain ⟨a', vs, ea', ev, l, rs⟩ := R.lst en
      rw [ea] at ea'; cases ea'
      exact ⟨by decide, .base (.lst ev)⟩
    · rename_i kvs en
      exact (R.cell n a _ ea en).elim
    · rename_i kvs en
      exact (R.cell n a _ ea en).elim
    · cases e'
/-- isinstance(e, T) -/
theorem le_isi {T : String} {pT : Pos} {Tn : Str} (ha : PE X e (lE (gX X) xa W te)) (hT : T ∈ kinds) (hg : Gl X "isinstance") (hm : X.mg "isinstance" = none) (hgT : Gl X Tn) (hmT : X.mg Tn = none) (hvT : bootBuiltins Tn = some (.type T))
    (hnT : Tn ≠ "__name__" := by decide) (hdT : (Tn == ("__debug__" : Str)) = false := by decide)
    (hs : starEach [e, .Name Tn pT] X.env = (false, eval e X.env) :: starEach [.Name Tn pT] X.env := by rfl) (hs2 : starEach [Expr.Name Tn pT] X.env = (false, eval (.Name Tn pT) X.env) :: starEach [] X.env := by rfl)
    (hpl : (backTo pos (starEach [Expr.Name Tn pT] X.env)).any (·.1) = false := by rfl) :
    PE X (.Call (.Name "isinstance" p) [e, .Name Tn pT] [] pos) (lE (gX X) xa W (pUn (rIsi T) te)) := by
  refine PE_imp (pe_callB call_isi hg hm (by decide +kernel) (pa_cons ha (pa_cons (pe_bltn (v := .ty T) hgT hmT hvT rfl hnT hdT) pa_nil hs2) hs) (by decide) (by decide) hs hpl) fun σ H Q h => ?_
  obtain ⟨ρ, τ, h, Qp, Ep, R, S, hp, k, kx⟩ := h
  refine ⟨ρ, τ, h, _, Ep, R, S, hp, fun ρ1 H1 h1 x v E1 R1 r1 q1 => ?_, kx⟩
  unfold rIsi at q1
  split at q1
  · rename_i t et
    obtain ⟨m, ty⟩ := tyOf_ok R1 r1 et
    exact ⟨v, .ty T, .type t, .type T, isiB t T, rfl, .ty T, ty, kit_ty (kit_in m hT), k ρ1 H1 h1 _ _ E1 R1 (.bl _) q1⟩
  · exact q1.elim
theorem kitAny_ok {K : PySem.W.Frag} {t : String} (m : t ∈ kinds) : ∀ {Ts : List String}, (∀ T ∈ Ts, T ∈ kinds) → PySem.W.kitAny K (.type t) (Ts.map Value.type) = some (Ts.any (isiB t))
  | [], _ => kitAny_nil
  | T :: Ts, h => by
    refine kitAny_cons (b := isiB t T) (kit_ty (kit_in m (h T List.mem_cons_self))) (fun e => ?_) fun e => ?_
    · rw [List.any_cons, e, Bool.false_or]
      exact kitAny_ok m fun T' h' => h T' (List.mem_cons_of_mem _ h')
    · rw [List.any_cons, e, Bool.true_or]
/-- isinstance(e, (T, U)) -/
theorem le_isi2 {T U : String} {pT pU pt : Pos} {kt} {Tn Un : Str} (ha : PE X e (lE (gX X) xa W te)) (hT : T ∈ kinds) (hU : U ∈ kinds) (hg : Gl X "isinstance") (hm : X.mg "isinstance" = none) (hgT : Gl X Tn) (hmT : X.mg Tn = none) (hvT : bootBuiltins Tn = some (.type T)) (hgU : Gl X Un) (hmU : X.mg Un = none) (hvU : bootBuiltins Un = some (.type U))
    (hnT : Tn ≠ "__name__" := by decide) (hdT : (Tn == ("__debug__" : Str)) = false := by decide) (hnU : Un ≠ "__name__" := by decide) (hdU : (Un == ("__debug__" : Str)) = false := by decide)
    (hs : starEach [e, .Tuple [.Name Tn pT, .Name Un pU] kt pt] X.env = (false, eval e X.env) :: starEach [.Tuple [.Name Tn pT, .Name Un pU] kt pt] X.env := by rfl) (hs2 : starEach [Expr.Tuple [.Name Tn pT, .Name Un pU] kt pt] X.env = (false, eval (.Tuple [.Name Tn pT, .Name Un pU] kt pt) X.env) :: starEach [] X.env := by rfl)
    (hs3 : starEach [Expr.Name Tn pT, Expr.Name Un pU] X.env = (false, eval (.Name Tn pT) X.env) :: starEach [Expr.Name Un pU] X.env := by rfl) (hs4 : starEach [Expr.Name Un pU] X.env = (false, eval (.Name Un pU) X.env) :: starEach [] X.env := by rfl)
    (hpl : (backTo pos (starEach [Expr.Tuple [.Name Tn pT, .Name Un pU] kt pt] X.env)).any (·.1) = false := by rfl) :
    PE X (.Call (.Name "isinstance" p) [e, .Tuple [.Name Tn pT, .Name Un pU] kt pt] [] pos) (lE (gX X) xa W (pUn (rIsiT [T, U]) te)) := by
  refine PE_imp (pe_callB call_isiT hg hm (by decide +kernel) (pa_cons ha (pa_cons (pe_tup (pa_cons (pe_bltn (v := .ty T) hgT hmT hvT rfl hnT hdT) (pa_cons (pe_bltn (v := .ty U) hgU hmU hvU rfl hnU hdU) pa_nil hs4) hs3)) pa_nil hs2) hs) (by decide) (by decide) hs hpl) fun σ H Q h => ?_
  obtain ⟨ρ, τ, h, Qp, Ep, R, S, hp, k, kx⟩ := h
  refine ⟨ρ, τ, h, _, Ep, R, S, hp, fun ρ1 H1 h1 x v E1 R1 r1 q1 => ?_, kx⟩
  unfold rIsiT at q1
  split at q1
  · rename_i t et
    refine ⟨by show 2 ≤ sizeLine; rw [sizeLine_eq]; decide, fun tp np => ?_⟩
    obtain ⟨E2, R2, _⟩ := R1.skip (o := .tup [.ty T, .ty U]) np
    obtain ⟨m, ty⟩ := tyOf_ok R2 (r1.mono R1.trk E2) et
    exact ⟨v, tp, _, .type t, [.type T, .type U], _, rfl, upd_same, .cons (.ty T) (.cons (.ty U) .nil), ty, kitAny_ok m (Ts := [T, U]) (fun z hz => by
      rcases List.mem_cons.mp hz with e | e
      · rw [e]; exact hT
      · rw [List.mem_singleton.mp e]; exact hU), k ρ1 _ h1 _ _ (E1.trans E2) R2 (.bl _) q1⟩
  · exact q1.elim
/-! ### methods -/
def lM (G : LG) (r : PMt) : V → List V → Hp → VK → Prop := fun u vs H Q => ∃ ρ h x xs Qp, Rel G ρ H h ∧ RV G ρ H x u ∧ RVs G ρ H xs vs ∧ r x xs h Qp ∧ ∀ ρ' H' h' z w, Ext ρ H ρ' H' → Rel G ρ' H' h' → RV G ρ' H' z w → Qp z h' → Q w H'
/-- o.m(e, ..) of a text, a list -/
def PMtTy (T : String) (h : PHeap) (x : PV) : Prop := tyOf h x = some T
theorem tyV_of {G : LG} {ρ : List Addr} {H : Hp} {h : PHeap} {x : PV} {v : V} (R : Rel G ρ H h) (r : RV G ρ H x v) (T : String) (hT : T = "str" ∨ T = "list") (e : tyOf h x = some T) : tyV G.K T v H := by
  cases r with
  | @str a oa => cases e; exact rfl
  | @tup xs a vs q l rs => cases e; exact absurd hT (by decide)
  | @fl xs a vs q l rs => cases e; exact .inl ⟨rfl, vs, q.seq⟩
  | @ref n a ea =>
    have e' : (match h[n]? with
      | some (.lst _) => some "list"
      | some (.dct _) => some "dict"
      | some (.set _) => some "set"
      | _ => none) = some T := e
    split at e'
    · rename_i xs en
      cases e'
      obtain ⟨a', vs, ea', ev, l, rs⟩ := R.lst en
      rw [ea] at ea'; cases ea'
      exact .inl ⟨rfl, vs, .of ev⟩
    · rename_i kvs en
      exact (R.cell n a _ ea en).elim
    · rename_i kvs en
      exact (R.cell n a _ ea en).elim
    · cases e'
  | non => cases e; exact absurd hT (by decide)
  | bl b => cases e; exact absurd hT (by decide)
  | int i => cases e; exact absurd hT (by decide)
end
end MP
set_option maxHeartbeats 4000000
/-! MP5: methods, what is walked, comprehensions, statements. -/
namespace MP
open PySem PySem.Spec PyProof.Rows L2 TL

section
variable {X : Cx} {xa : Option (Nat × Addr × Value × Option Addr)} {W : WX} {o e a b c : Expr} {es : List Expr} {to te ta tb : PTE} {t : PTA} {pos apos cpos : Pos}
/-! ### methods -/
/-- a receiver whose kind is seen ahead of the arguments -/
def pMtT (T : String) (r : PMt) (o : PTE) (t : PTA) : PTE := fun τ h Q E => o τ h (fun x h1 => tyOf h1 x = some T ∧ t τ h1 (fun vs h2 => r x vs h2 Q) E) E
theorem le_bm {T id : String} {name : Str} {r : PMt} (hT : T = "str" ∨ T = "list") (pa : PlainAttrs T) (slot : Slot T name id) (hty : typeOf (.builtin id) = pure (.type "method_descriptor")) (hm : MtR X id (lM (gX X) r)) (ho : PE X o (lE (gX X) xa W to)) (ha : PA X (e :: es) (lA (gX X) xa W t))
    (hbase : attributeBase o name X.env (eval o X.env) = eval o X.env := by rfl)
    (hfew : ((backTo cpos (starEach (e :: es) X.env)).all (fun x => !x.1) && (backToKw cpos (keywordEach [] X.env)).all (fun x => x.1.isSome)
      && decide ((e :: es).length + ([] : List Keyword).length + (if ([] : List Keyword).isEmpty then 0 else 1) < 30)) = true := by rfl)
    (hline : (apos.endLine == cpos.line) = true := by rfl) (hs : starEach (e :: es) X.env = (false, eval e X.env) :: starEach es X.env := by rfl) (hplain : (backTo cpos (starEach es X.env)).any (·.1) = false := by rfl) :
    PE X (.Call (.Attribute o name apos) (e :: es) [] cpos) (lE (gX X) xa W (pMtT T r to t)) := by
  refine PE_imp (pe_bm pa slot hty hm ho ha hbase hfew hline hs hplain) fun σ H Q h => ?_
  obtain ⟨ρ, τ, h, Qp, Ep, R, S, hp, k, kx⟩ := h
  refine ⟨ρ, τ, h, _, Ep, R, S, hp, fun ρ1 H1 h1 x v E1 R1 r1 q1 => ?_, kx⟩
  have S1 := S.mono R.trk E1
  refine ⟨tyV_of R1 r1 T hT q1.1, ρ1, τ, h1, _, Ep, R1, S1, q1.2, fun ρ2 H2 h2 xs vs E2 R2 r2 q2 => ?_, kx.mono E1⟩
  exact ⟨ρ2, h2, x, xs, Qp, R2, r1.mono R1.trk E2, r2, q2, fun ρ3 H3 h3 z w E3 R3 r3 q3 => k ρ3 H3 h3 z w (E1.trans (E2.trans E3)) R3 r3 q3⟩
theorem mm_append : MtR X "list.append" (lM (gX X) rAppend) := by
  intro pins s σ H u vs uu us Q I ru rr hh
  obtain ⟨ρ, h, x, xs, Qp, R, r1, r2, hp, k⟩ := hh
  unfold rAppend at hp
  split at hp
  · rename_i n y
    obtain ⟨v, e, r'⟩ := one_rv r2
    subst e
    cases r1 with
    | @ref _ a ea =>
      split at hp
      · rename_i ys en
        obtain ⟨z, q⟩ := hp
        obtain ⟨a', ws, ea', ev, l, rs⟩ := R.lst en
        rw [ea] at ea'; cases ea'
        have l' : (ws ++ [v]).length ≤ sizeLine := by
          have := rs.length
          rw [List.length_append, List.length_singleton]
          omega
        obtain ⟨E2, R2, M⟩ := R.set ea ev l' (rs.append (.cons r' .nil))
        have hz : ws.length < sizeLine := by rw [← rs.length]; exact z
        exact mt_append pins s σ H _ _ uu us Q I ru rr ⟨a, ws, v, rfl, rfl, ev, hz, k _ _ _ _ _ E2 R2 .non q⟩
      · exact hp.elim
  · exact hp.elim
theorem vals_sts {ρ : List Addr} {H : Hp} {G : LG} : ∀ {l : List Str}, (∀ p ∈ l, okS p) → RVs G ρ H (l.map PV.str) (l.map V.str)
  | [], _ => .nil
  | s :: l, h => .cons (.str (h s List.mem_cons_self)) (vals_sts fun p hp => h p (List.mem_cons_of_mem _ hp))
theorem spl_mem (S : List Nat) : ∀ (l : List Nat) (k : Nat) (acc : List Nat), ∀ p ∈ spl S k acc l, ∀ c ∈ p, c ∈ acc ∨ c ∈ l
  | [], k, acc, p, hp, c, hc => by
    rw [spl_nil] at hp
    rw [List.mem_singleton.mp hp] at hc
    exact .inl hc
  | d :: r, k + 1, acc, p, hp, c, hc => (spl_mem S r k acc p hp c hc).imp id (List.mem_cons_of_mem _)
  | d :: r, 0, acc, p, hp, c, hc => by
    by_cases e : pre S (d :: r) = true
    · rw [spl_hit e] at hp
      rcases List.mem_cons.mp hp with z | z
      · rw [z] at hc; exact .inl hc
      · rcases spl_mem S r _ [] p z c hc with z | z
        · cases z
        · exact .inr (List.mem_cons_of_mem _ z)
    · rw [spl_miss (by simpa using e)] at hp
      rcases spl_mem S r 0 _ p hp c hc with z | z
      · rcases List.mem_append.mp z with z | z
        · exact .inl z
        · rw [List.mem_singleton.mp z]; exact .inr List.mem_cons_self
      · exact .inr (List.mem_cons_of_mem _ z)
theorem spl_size (S : List Nat) : ∀ (l : List Nat) (k : Nat) (acc : List Nat), ∀ p ∈ spl S k acc l, p.length ≤ acc.length + l.length
  | [], k, acc, p, hp => by
    rw [spl_nil] at hp
    rw [List.mem_singleton.mp hp]
    simp
  | d :: r, k + 1, acc, p, hp => Nat.le_trans (spl_size S r k acc p hp) (by simp only [List.length_cons]; omega)
  | d :: r, 0, acc, p, hp => by
    by_cases e : pre S (d :: r) = true
    · rw [spl_hit e] at hp
      rcases List.mem_cons.mp hp with z | z
      · rw [z]; omega
      · have := spl_size S r _ [] p z
        simp at this ⊢
        omega
    · rw [spl_miss (by simpa using e)] at hp
      have := spl_size S r 0 _ p hp
      simp at this ⊢
      omega
theorem spl_len (S : List Nat) : ∀ (l : List Nat) (k : Nat) (acc : List Nat), (spl S k acc l).length ≤ l.length + 1
  | [], k, acc => by rw [spl_nil]; simp
  | d :: r, k + 1, acc => Nat.le_trans (spl_len S r k acc) (by simp)
  | d :: r, 0, acc => by
    by_cases e : pre S (d :: r) = true
    · rw [spl_hit e]
      have := spl_len S r (S.length - 1) []
      simp only [List.length_cons]
      omega
    · rw [spl_miss (by simpa using e)]
      exact Nat.le_trans (spl_len S r 0 _) (by simp)
theorem split_ok {a b : Str} (oa : okS a) (q1 : (b.length == 0) = false) (q2 : b.cps.all (· < 256) = true) (q3 : a.length + 2 ≤ sizeLine) : (Txt.split a b).length ≤ sizeLine ∧ ∀ p ∈ Txt.split a b, okS p := by
  have hne : tl b ≠ [] := fun e => by
    rw [len_tl, e] at q1
    cases q1
  have e := split_spl a b hne (kind_ok q2)
  have l0 := spl_len (tl b) (tl a) 0 []
  rw [← e, List.length_map, ← len_tl] at l0
  have e3 : ∀ p ∈ Txt.split a b, (∀ c ∈ tl p, c ∈ tl a) := fun p hp c hc => by
    have z := spl_mem (tl b) (tl a) 0 [] (tl p) (by rw [← e]; exact List.mem_map_of_mem hp) c hc
    rcases z with z | z
    · cases z
    · exact z
  refine ⟨by omega, fun p hp => okS_sub oa ?_ (e3 p hp)⟩
  have := spl_size (tl b) (tl a) 0 [] (tl p) (by rw [← e]; exact List.mem_map_of_mem hp)
  rw [len_tl, len_tl]
  simpa using this
theorem mm_split : MtR X "str.split" (lM (gX X) rSplit) := by
  intro pins s σ H u vs uu us Q I ru rr hh
  obtain ⟨ρ, h, x, xs, Qp, R, r1, r2, hp, k⟩ := hh
  unfold rSplit at hp
  split at hp
  · rename_i a b
    obtain ⟨v, e, r'⟩ := one_rv r2
    subst e
    cases r1
    cases r'
    rename_i oa ob
    obtain ⟨q1, q0, q2, q⟩ := hp
    obtain ⟨q3, q4⟩ := split_ok oa q1 q0 q2
    refine mt_split pins s σ H _ _ uu us Q I ru rr ⟨a, b, rfl, rfl, q1, q2, fun p np => ?_⟩
    obtain ⟨E2, R2, r3⟩ := R.new (xs := (Txt.split a b).map PV.str) (vs := (Txt.split a b).map V.str) np (by rw [List.length_map]; exact q3) (vals_sts q4)
    exact k _ _ _ _ _ E2 R2 r3 q
  · exact hp.elim
/-! ### join -/
theorem sum_le_joined (a : Str) : ∀ ys : List Str, (Str.join a ys).length ≤ joinLen a ys := by
  intro ys
  rw [len_tl, tl_join]
  unfold joinLen
  have : ∀ (S : List Nat) (l : List (List Nat)), (joinL S l).length ≤ (l.map List.length).sum + l.length * S.length := by
    intro S l
    induction l with
    | nil => simp [joinL]
    | cons p r ih =>
      cases r with
      | nil => simp [joinL]
      | cons q r =>
        simp only [joinL, List.length_append, List.map_cons, List.sum_cons, List.length_cons] at ih ⊢
        have e : (r.length + 1 + 1) * S.length = (r.length + 1) * S.length + S.length := Nat.succ_mul _ _
        omega
  have z := this (tl a) (ys.map tl)
  rw [List.map_map, List.length_map, ← len_tl] at z
  have e : ys.map (List.length ∘ tl) = ys.map (·.length) := List.map_congr_left fun y _ => (len_tl y).symm
  rw [e] at z
  exact z
theorem mem_joinL {c : Nat} {S : List Nat} : ∀ {l : List (List Nat)}, c ∈ joinL S l → c ∈ S ∨ ∃ p ∈ l, c ∈ p
  | [], h => by simp [joinL] at h
  | [p], h => .inr ⟨p, List.mem_cons_self, by simpa [joinL] using h⟩
  | p :: q :: r, h => by
    have h' : c ∈ p ++ (S ++ joinL S (q :: r)) ∨ c ∈ p ++ S ++ joinL S (q :: r) := by
      first
        | (left; simpa [joinL] using h)
        | (right; simpa [joinL] using h)
    have h2 : c ∈ p ∨ c ∈ S ∨ c ∈ joinL S (q :: r) := by
      rcases h' with h' | h'
      · rcases List.mem_append.mp h' with z | z
        · exact .inl z
        · rcases List.mem_append.mp z with z | z
          · exact .inr (.inl z)
          · exact .inr (.inr z)
      · rcases List.mem_append.mp h' with z | z
        · rcases List.mem_append.mp z with z | z
          · exact .inl z
          · exact .inr (.inl z)
        · exact .inr (.inr z)
    rcases h2 with z | z | z
    · exact .inr ⟨p, List.mem_cons_self, z⟩
    · exact .inl z
    · rcases mem_joinL z with z | ⟨p', hp, z⟩
      · exact .inl z
      · exact .inr ⟨p', List.mem_cons_of_mem _ hp, z⟩
theorem okS_all {s : Str} : okS s ↔ s.length ≤ sizeLine ∧ ∀ c ∈ tl s, c < 0x110000 := by
  unfold okS
  refine and_congr_right fun _ => ?_
  unfold PySem.PyData.strOk
  rw [← Array.all_toList, List.all_eq_true]
  exact ⟨fun h c hc => of_decide_eq_true (h c hc), fun h c hc => decide_eq_true (h c hc)⟩
theorem okS_join {a : Str} {ys : List Str} (ha : okS a) (hy : ∀ y ∈ ys, okS y) (l : joinLen a ys ≤ 16777216) : okS (Txt.join a ys) := by
  rw [join_eq]
  refine okS_all.mpr ⟨Nat.le_trans (sum_le_joined a ys) (by rw [sizeLine_eq]; exact l), fun c hc => ?_⟩
  rw [tl_join] at hc
  rcases mem_joinL hc with z | ⟨p, hp, z⟩
  · exact (okS_all.mp ha).2 c z
  · obtain ⟨y, hy', rfl⟩ := List.mem_map.mp hp
    exact (okS_all.mp (hy y hy')).2 c z
/-- s.join(a temporary list) -/
def pJoinT (o : PTE) (t : PTA) : PTE := fun τ h Q E => o τ h (fun x h1 => match x with
  | .str a => t τ h1 (fun vs h2 => rJoinI a vs h2 Q) E
  | _ => False) E
def lJT (G : LG) : V → List V → Hp → VK → Prop := fun u vs H Q => ∃ ρ h a xs D us Qp, u = .str a ∧ okS a ∧ vs = [.ref D] ∧ Rel G ρ H h ∧ RVs G ρ H xs us ∧ H D = some (.lst us) ∧ rJoinI a xs h Qp ∧ ∀ ρ' H' h' z w, Ext ρ H ρ' H' → Rel G ρ' H' h' → RV G ρ' H' z w → Qp z h' → Q w H'
theorem mm_joinT : MtR X "str.join" (lJT (gX X)) := by
  intro pins s σ H u vs uu us Q I ru rr hh
  obtain ⟨ρ, h, a, xs, D, ws, Qp, e1, oa, e2, R, rs, hD, hp, k⟩ := hh
  subst e1 e2
  unfold rJoinI at hp
  split at hp
  · rename_i ys ey
    obtain ⟨l, q⟩ := hp
    obtain ⟨ew, oy⟩ := sts_vs rs ey
    subst ew
    exact mt_join pins s σ H _ _ uu us Q I ru rr ⟨a, D, ys, rfl, rfl, .inl (.of hD), l, k ρ H h _ _ .refl R (.str (okS_join oa oy l)) q⟩
  · exact hp.elim
theorem le_joinT (ho : PE X o (lE (gX X) xa W to)) (he : PE X e (lL (gX X) xa W t)) (hs : starEach [e] X.env = [(false, eval e X.env)] := by rfl) (hbase : attributeBase o "join" X.env (eval o X.env) = eval o X.env := by rfl) (hline : (apos.endLine == pos.line) = true := by rfl) :
    PE X (.Call (.Attribute o "join" apos) [e] [] pos) (lE (gX X) xa W (pJoinT to t)) := by
  refine PE_imp (pe_m1 (te := lL (gX X) xa W t) F.slot_str_join F.type_str_join (mm_joinT) ho he hs hbase hline) fun σ H Q h => ?_
  obtain ⟨ρ, τ, h, Qp, Ep, R, S, hp, k, kx⟩ := h
  refine ⟨ρ, τ, h, _, Ep, R, S, hp, fun ρ1 H1 h1 x v E1 R1 r1 q1 => ?_, kx⟩
  cases r1 with
  | @str a oa =>
    have S1 := S.mono R.trk E1
    refine ⟨⟨a, rfl⟩, ρ1, τ, h1, _, Ep, R1, S1, q1, fun ρ2 H2 h2 xs D vs E2 R2 r2 l hD nD fD q2 => ?_, kx.mono E1⟩
    exact ⟨ρ2, h2, a, xs, D, vs, Qp, rfl, oa, rfl, R2, r2, hD, q2, fun ρ3 H3 h3 z w E3 R3 r3 q3 => k ρ3 H3 h3 z w (E1.trans (E2.trans E3)) R3 r3 q3⟩
  | _ => exact False.elim q1
/-! ### targets -/
/-- the target's own slots -/
def Tg.slots : Tg → List Nat
  | .nm i => [i]
  | .tp ts => slotsL ts
where slotsL : List Tg → List Nat
  | [] => []
  | t :: ts => t.slots ++ slotsL ts
def lG (G : LG) (xa : XA) (g : Tg) : TG := fun v σ H Q => ∃ ρ τ h x τ', Rel G ρ H h ∧ RS G xa ρ H τ σ ∧ RV G ρ H x v ∧ pG g x τ = some τ' ∧ ∀ σ', RS G xa ρ H τ' σ' → (∀ vs : List Nat, (∀ i ∈ g.slots, i ∈ vs) → wipe σ' vs = wipe σ vs) → Q σ' H
def lGs (G : LG) (xa : XA) (gs : List Tg) : TGs := fun vs σ H Q => ∃ ρ τ h xs τ', Rel G ρ H h ∧ RS G xa ρ H τ σ ∧ RVs G ρ H xs vs ∧ xs.length = gs.length ∧ pGs gs xs τ = some τ' ∧ ∀ σ', RS G xa ρ H τ' σ' → (∀ vs : List Nat, (∀ i ∈ Tg.slots.slotsL gs, i ∈ vs) → wipe σ' vs = wipe σ vs) → Q σ' H
theorem PG_imp {e : Expr} {t t' : TG} (p : PG X e t) (f : ∀ v σ H Q, t' v σ H Q → t v σ H Q) : PG X e t' := ⟨fun pins s σ H v u Q I r h => p.run pins s σ H v u Q I r (f v σ H Q h)⟩
theorem PGs_imp {e : List Expr} {t t' : TGs} (p : PGs X e t) (f : ∀ v σ H Q, t' v σ H Q → t v σ H Q) : PGs X e t' := ⟨fun pins s σ H v u Q I r h => p.run pins s σ H v u Q I r (f v σ H Q h)⟩
theorem wipe_at (σ : St) (j : Nat) : ∀ vs : List Nat, (wipe σ vs)[j]? = if j ∈ vs then (σ[j]?).map fun _ => none else σ[j]?
  | [] => by rw [if_neg (by simp)]; rfl
  | i :: is => by
    show ((wipe σ is).set i none)[j]? = _
    by_cases hj : i = j
    · subst hj
      rw [if_pos List.mem_cons_self]
      by_cases hl : i < σ.length
      · rw [List.getElem?_set_self (by rw [wipe_length]; exact hl), List.getElem?_eq_getElem hl]
        rfl
      · rw [List.getElem?_eq_none (by rw [List.length_set, wipe_length]; exact Nat.le_of_not_lt hl), List.getElem?_eq_none (Nat.le_of_not_lt hl)]
        rfl
    · rw [List.getElem?_set_ne hj, wipe_at σ j is]
      by_cases hm : j ∈ is
      · rw [if_pos hm, if_pos (List.mem_cons_of_mem _ hm)]
      · rw [if_neg hm, if_neg (fun z => (List.mem_cons.mp z).elim (fun e => hj e.symm) hm)]
theorem wipe_set {σ : St} {i : Nat} {o : Option V} {vs : List Nat} (h : i ∈ vs) : wipe (σ.set i o) vs = wipe σ vs := by
  apply List.ext_getElem?
  intro j
  rw [wipe_at, wipe_at]
  by_cases hj : i = j
  · subst hj
    rw [if_pos h, if_pos h]
    by_cases hl : i < σ.length
    · rw [List.getElem?_set_self hl, List.getElem?_eq_getElem hl]
      rfl
    · rw [List.getElem?_eq_none (by rw [List.length_set]; exact Nat.le_of_not_lt hl), List.getElem?_eq_none (Nat.le_of_not_lt hl)]
  · rw [List.getElem?_set_ne hj]
theorem lg_name {i : Nat} {e : Expr} (h : PG X e (gName i)) : PG X e (lG (gX X) xa (.nm i)) := by
  refine PG_imp h fun v σ H Q hh => ?_
  obtain ⟨ρ, τ, h, x, τ', R, S, r, e, k⟩ := hh
  cases e
  exact k _ (S.set r) fun vs hv => wipe_set (hv i List.mem_cons_self)
theorem lgs_nil : PGs X [] (lGs (gX X) xa []) := by
  refine PGs_imp pgs_nil fun v σ H Q hh => ?_
  obtain ⟨ρ, τ, h, xs, τ', R, S, r, l, e, k⟩ := hh
  cases e
  have : xs = [] := List.length_eq_zero_iff.mp l
  subst this
  cases r
  exact ⟨rfl, k _ S fun _ _ => rfl⟩
theorem lgs_cons {e : Expr} {es : List Expr} {g : Tg} {gs : List Tg} (h1 : PG X e (lG (gX X) xa g)) (h2 : PGs X es (lGs (gX X) xa gs))
    (hs : (assignEach (e :: es) X.env).map (·.2) = assign e X.env :: (assignEach es X.env).map (·.2) := by rfl) : PGs X (e :: es) (lGs (gX X) xa (g :: gs)) := by
  refine PGs_imp (pgs_cons h1 h2 hs) fun v σ H Q hh => ?_
  obtain ⟨ρ, τ, h, xs, τ', R, S, r, l, e, k⟩ := hh
  cases r with
  | nil => cases l
  | @cons x v xs vs r rs =>
    have e' : (match pG g x τ with
      | some τ1 => pGs gs xs τ1
      | none => none) = some τ' := e
    split at e'
    · rename_i τ1 e1
      refine ⟨v, vs, rfl, ρ, τ, h, x, τ1, R, S, r, e1, fun σ1 S1 w1 => ?_⟩
      refine ⟨ρ, τ1, h, xs, τ', R, S1, rs, by simpa using l, e', fun σ2 S2 w2 => k σ2 S2 fun ws hw => ?_⟩
      rw [w2 ws fun i hi => hw i (List.mem_append_right _ hi)]
      exact w1 ws fun i hi => hw i (List.mem_append_left _ hi)
    · cases e'
theorem lg_tup {es : List Expr} {k : Nat} {gs : List Tg} (hc : X.calm = true) (h : PGs X es (lGs (gX X) xa gs)) (hn : (assignEach es X.env).length = gs.length := by rfl) (hst : (assignEach es X.env).findIdx? (·.1) = none := by rfl) :
    PG X (.Tuple es k pos) (lG (gX X) xa (.tp gs)) := by
  refine PG_imp (pg_tup (n := gs.length) hc h hn hst) fun v σ H Q hh => ?_
  obtain ⟨ρ, τ, h, x, τ', R, S, r, e, k⟩ := hh
  cases r with
  | @tup xs a vs q l rs =>
    have e' : (if xs.length = gs.length then pGs gs xs τ else none) = some τ' := by simpa [pG] using e
    split at e'
    · rename_i hl
      exact ⟨a, vs, rfl, q, by rw [← rs.length]; exact hl, ρ, τ, h, xs, τ', R, S, rs, hl, e', fun σ' S' w' => k σ' S' w'⟩
    · cases e'
  | _ => simp [pG] at e
end
end MP
set_option maxHeartbeats 4000000
/-! MP6: what is walked, comprehensions, statements. -/
namespace MP
open PySem PySem.Spec PyProof.Rows L2 TL

/-- an iterator of the hand layer gives out these items, while ok -/
def Sim (G : LG) (J : It) (xs : List PV) (ok : PHeap → Prop) (ρ0 : List Addr) (H0 : Hp) : Prop := ∀ (i : Nat) (ρ : List Addr) (H : Hp) (h : PHeap), Ext ρ0 H0 ρ H → Rel G ρ H h → ok h →
  (∀ x, xs[i]? = some x → J.go i H ∧ ∀ v H', J.yld i H v H' → Ext ρ H ρ H' ∧ Rel G ρ H' h ∧ RV G ρ H' x v) ∧ (xs.length ≤ i → J.stop i H)
def lI (G : LG) (xa : XA) (W : WX) (t : PTI) : TI := fun σ H R => ∃ ρ τ h Rp Ep, Rel G ρ H h ∧ RS G xa ρ H τ σ ∧ t τ h Rp Ep ∧ (∀ ρ' H' h' xs ok J, Ext ρ H ρ' H' → Rel G ρ' H' h' → Sim G J xs ok ρ' H' → Rp xs ok h' → R J H') ∧ XC G W ρ H σ Ep
theorem PI_imp {X : Cx} {tg e : Expr} {t t' : TI} (p : PI X tg e t) (f : ∀ σ H R, t' σ H R → t σ H R) : PI X tg e t' := ⟨fun pins s σ H R I h => p.run pins s σ H R I (f σ H R h)⟩
section
variable {G : LG} {ρ : List Addr} {H : Hp} {h : PHeap}
theorem sim_tup {a : Addr} {xs : List PV} {vs : List V} (T : Trk ρ H) (q : SqT G.K H a vs) (r : RVs G ρ H xs vs) : Sim G (Itt G.K a) xs (fun _ => True) ρ H := by
  intro i ρ' H' h' E R _
  have q' := SqT.ext T E q
  have r' := r.mono T E
  refine ⟨fun x ex => ?_, fun hl => ⟨vs, q', by rw [← r.length]; exact hl⟩⟩
  obtain ⟨v, ev, rv⟩ := r'.get ex
  refine ⟨⟨vs, v, q', ev⟩, fun u H2 y => ?_⟩
  obtain ⟨e, y⟩ := y
  subst e
  have z := y vs q'
  rw [ev] at z
  cases z
  exact ⟨.refl, R, rv⟩
theorem sim_fl {a : Addr} {xs : List PV} {vs : List V} (T : Trk ρ H) (q : FzL G.K H a vs) (r : RVs G ρ H xs vs) : Sim G (Itl G.K a) xs (fun _ => True) ρ H := by
  intro i ρ' H' h' E R _
  have q' := (FzL.ext T E q).seq
  have r' := r.mono T E
  refine ⟨fun x ex => ?_, fun hl => ⟨vs, q', by rw [← r.length]; exact hl⟩⟩
  obtain ⟨v, ev, rv⟩ := r'.get ex
  refine ⟨⟨vs, v, q', ev⟩, fun u H2 y => ?_⟩
  obtain ⟨e, y⟩ := y
  subst e
  have z := y vs q'
  rw [ev] at z
  cases z
  exact ⟨.refl, R, rv⟩
theorem sim_tmp {a : Addr} {xs : List PV} {vs : List V} (T : Trk ρ H) (q : H a = some (.lst vs)) (na : a ∉ ρ) (r : RVs G ρ H xs vs) : Sim G (Itl G.K a) xs (fun _ => True) ρ H := by
  intro i ρ' H' h' E R _
  have q' : SqL G.K H' a vs := .of (E.keep _ _ q na).1
  have r' := r.mono T E
  refine ⟨fun x ex => ?_, fun hl => ⟨vs, q', by rw [← r.length]; exact hl⟩⟩
  obtain ⟨v, ev, rv⟩ := r'.get ex
  refine ⟨⟨vs, v, q', ev⟩, fun u H2 y => ?_⟩
  obtain ⟨e, y⟩ := y
  subst e
  have z := y vs q'
  rw [ev] at z
  cases z
  exact ⟨.refl, R, rv⟩
theorem sim_ref {n : Nat} {a : Addr} {xs : List PV} (ea : ρ[n]? = some a) : Sim G (Itl G.K a) xs (fun h => h[n]? = some (.lst xs)) ρ H := by
  intro i ρ' H' h' E R en
  obtain ⟨a', vs, ea', ev, l, rs⟩ := R.lst en
  rw [E.get ea] at ea'; cases ea'
  refine ⟨fun x ex => ?_, fun hl => ⟨vs, .of ev, by rw [← rs.length]; exact hl⟩⟩
  obtain ⟨v, ev', rv⟩ := rs.get ex
  refine ⟨⟨vs, v, .of ev, ev'⟩, fun u H2 y => ?_⟩
  obtain ⟨e, y⟩ := y
  subst e
  have z := y vs (.of ev)
  rw [ev'] at z
  cases z
  exact ⟨.refl, R, rv⟩
theorem sim_rng (lo : Int) (n : Nat) : Sim G (Itr lo n) (rngOf lo n) (fun _ => True) ρ H := by
  intro i ρ' H' h' E R _
  refine ⟨fun x ex => ?_, fun hl => by unfold rngOf at hl; rw [List.length_map, List.length_range] at hl; exact hl⟩
  unfold rngOf at ex
  rw [List.getElem?_map] at ex
  obtain ⟨j, ej, e2⟩ := Option.map_eq_some_iff.mp ex
  obtain ⟨hj, e3⟩ := List.getElem?_eq_some_iff.mp ej
  rw [List.getElem_range] at e3
  rw [List.length_range] at hj
  subst e3
  refine ⟨hj, fun v H2 y => ?_⟩
  obtain ⟨e, y⟩ := y
  subst e y e2
  exact ⟨.refl, R, .int _⟩
theorem sim_str {s : Str} (o : okS s) : Sim G (Its s) (charsOf s) (fun _ => True) ρ H := by
  intro i ρ' H' h' E R _
  refine ⟨fun x ex => ?_, fun hl => by unfold charsOf at hl; rw [List.length_map, Array.length_toList] at hl; exact hl⟩
  unfold charsOf at ex
  rw [List.getElem?_map] at ex
  obtain ⟨c, ec, e2⟩ := Option.map_eq_some_iff.mp ex
  have ec' : s.cps[i]? = some c := by simpa using ec
  refine ⟨(Array.getElem?_eq_some_iff.mp ec').1, fun v H2 y => ?_⟩
  obtain ⟨e, c', ec2, y⟩ := y
  subst e y e2
  rw [ec'] at ec2
  cases ec2
  exact ⟨.refl, R, .str (okS_one o (List.mem_of_getElem? ec))⟩
end
section
variable {X : Cx} {xa : Option (Nat × Addr × Value × Option Addr)} {W : WX} {tg l : Expr} {tl : PTE} {t : PTA}
/-- over a list, a tuple, a text -/
def iAny (K : PySem.W.Frag) (te : TE) : TI := fun σ H R => te σ H fun x H1 => (∃ a, x = .ref a ∧ (∃ xs, SqL K H1 a xs) ∧ R (Itl K a) H1) ∨ (∃ a, x = .ref a ∧ (∃ xs, SqT K H1 a xs) ∧ R (Itt K a) H1) ∨ (∃ z, x = .str z ∧ R (Its z) H1)
theorem pi_any {te : TE} (hl : PE X l te) : PI X tg l (iAny X.K te) := by
  refine ⟨fun pins s σ H R I h => ?_⟩
  refine thn (hl.run pins s σ H _ I h) fun v s1 ⟨x, H1, I1, r1, q1⟩ => ?_
  rcases q1 with ⟨a, e, ⟨xs, hq⟩, q⟩ | ⟨a, e, ⟨xs, hq⟩, q⟩ | ⟨z, e, q⟩
  · subst e
    cases r1
    obtain ⟨its, rv, p, hz⟩ := I1.list hq
    refine wpAny_pyIter_list p.isList ?_
    refine ⟨s1.heap.objs.size, [s1.heap.objs.size], _, _, H1, rfl, I1.kept (t' := s1.toks) fun b o e => Heap.get?_push_of_some _ e, turn_list a _, ⟨_, Heap.get?_push_size _ rfl, rfl, rfl⟩, fun b hb => ?_, q⟩
    have e : b = s1.heap.objs.size := by simpa using hb
    subst e
    exact I1.fpOk (Nat.le_refl _) (I1.hok.fresh (Nat.le_refl _))
  · subst e
    cases r1
    obtain ⟨its, rv, p, hz⟩ := I1.tuple hq
    refine wpAny_pyIter_tuple (show s1.heap.IsTuple a its.toArray from p) ?_
    refine ⟨s1.heap.objs.size, [s1.heap.objs.size], _, _, H1, rfl, I1.kept (t' := s1.toks) fun b o e => Heap.get?_push_of_some _ e, turn_tuple a _, ⟨_, Heap.get?_push_size _ rfl, rfl, rfl⟩, fun b hb => ?_, q⟩
    have e : b = s1.heap.objs.size := by simpa using hb
    subst e
    exact I1.fpOk (Nat.le_refl _) (I1.hok.fresh (Nat.le_refl _))
  · subst e
    obtain ⟨t, rfl⟩ := r1
    cases ha : z.cps.all (· < 128)
    · exact wpAny_pyIter_wide ha (pi_one (tk := s1.toks) I1 _ (turn_str _ z t "str_iterator" (.inr rfl)) ⟨_, Heap.get?_push_size _ rfl, rfl, rfl⟩ q)
    · exact wpAny_pyIter_ascii ha (pi_one (tk := s1.toks) I1 _ (turn_str _ z t "str_ascii_iterator" (.inl rfl)) ⟨_, Heap.get?_push_size _ rfl, rfl, rfl⟩ q)
theorem li_any (hl : PE X l (lE (gX X) xa W tl)) : PI X tg l (lI (gX X) xa W (pIter tl)) := by
  refine PI_imp (pi_any hl) fun σ H R0 h => ?_
  obtain ⟨ρ, τ, h, Rp, Ep, R, S, hp, k, kx⟩ := h
  refine ⟨ρ, τ, h, _, Ep, R, S, hp, fun ρ1 H1 h1 x v E1 R1 r1 q1 => ?_, kx⟩
  cases r1 with
  | @tup xs a vs q l rs => exact .inr (.inl ⟨a, rfl, ⟨vs, q⟩, k ρ1 H1 h1 xs _ _ E1 R1 (sim_tup R1.trk q rs) q1⟩)
  | @fl xs a vs q l rs => exact .inl ⟨a, rfl, ⟨vs, q.seq⟩, k ρ1 H1 h1 xs _ _ E1 R1 (sim_fl R1.trk q rs) q1⟩
  | @str s o => exact .inr (.inr ⟨s, rfl, k ρ1 H1 h1 _ _ _ E1 R1 (sim_str o) q1⟩)
  | @ref n a ea =>
    have q1' : (match h1[n]? with
      | some (.lst xs) => Rp xs (fun h2 => h2[n]? = some (.lst xs)) h1
      | _ => False) := q1
    split at q1'
    · rename_i xs en
      obtain ⟨a', vs, ea', ev, l, rs⟩ := R1.lst en
      rw [ea] at ea'; cases ea'
      exact .inl ⟨a, rfl, ⟨vs, .of ev⟩, k ρ1 H1 h1 xs _ _ E1 R1 (sim_ref ea) q1'⟩
    · exact q1'.elim
  | _ => exact False.elim q1
theorem li_tmp (hl : PE X l (lL (gX X) xa W t)) : PI X tg l (lI (gX X) xa W (pIterT t)) := by
  refine PI_imp (pi_list hl) fun σ H R0 h => ?_
  obtain ⟨ρ, τ, h, Rp, Ep, R, S, hp, k, kx⟩ := h
  refine ⟨ρ, τ, h, _, Ep, R, S, hp, fun ρ1 H1 h1 xs D vs E1 R1 r1 l hD nD fD q1 => ?_, kx⟩
  exact ⟨D, rfl, ⟨vs, .of hD⟩, k ρ1 H1 h1 xs _ _ E1 R1 (sim_tmp R1.trk hD nD r1) q1⟩
theorem li_rng1 {a : Expr} {ta : PTE} {p pos : Pos} (hg : Gl X "range") (hm : X.mg "range" = none) (ha : PE X a (lE (gX X) xa W ta)) (hs : starEach [a] X.env = [(false, eval a X.env)] := by rfl) : PI X tg (.Call (.Name "range" p) [a] [] pos) (lI (gX X) xa W (pRng1 ta)) := by
  refine PI_imp (pi_range1 hg hm (pa_cons ha pa_nil hs) hs) fun σ H R0 h => ?_
  obtain ⟨ρ, τ, h, Rp, Ep, R, S, hp, k, kx⟩ := h
  refine ⟨ρ, τ, h, _, Ep, R, S, hp, fun ρ1 H1 h1 x v E1 R1 r1 q1 => ?_, kx⟩
  cases r1 with
  | int j =>
    obtain ⟨b1, b2, q⟩ := q1
    exact ⟨j, rfl, b1, b2, k ρ1 H1 h1 _ _ _ E1 R1 (sim_rng 0 j.toNat) q⟩
  | _ => exact False.elim q1
theorem li_rng2 {a b : Expr} {ta tb : PTE} {p pos : Pos} (hg : Gl X "range") (hm : X.mg "range" = none) (ha : PE X a (lE (gX X) xa W ta)) (hb : PE X b (lE (gX X) xa W tb))
    (hs : starEach [a, b] X.env = [(false, eval a X.env), (false, eval b X.env)] := by rfl) (hs2 : starEach [b] X.env = [(false, eval b X.env)] := by rfl) : PI X tg (.Call (.Name "range" p) [a, b] [] pos) (lI (gX X) xa W (pRng2 ta tb)) := by
  refine PI_imp (pi_range2 hg hm (pa_cons ha (pa_cons hb pa_nil hs2) (by rw [hs, hs2])) hs hs2) fun σ H R0 h => ?_
  obtain ⟨ρ, τ, h, Rp, Ep, R, S, hp, k, kx⟩ := h
  refine ⟨ρ, τ, h, _, Ep, R, S, hp, fun ρ1 H1 h1 x v E1 R1 r1 q1 => ?_, kx⟩
  refine ⟨ρ1, τ, h1, _, Ep, R1, S.mono R.trk E1, q1, fun ρ2 H2 h2 y u E2 R2 r2 q2 => ?_, kx.mono E1⟩
  cases r1 with
  | int i =>
    cases r2 with
    | int j =>
      obtain ⟨b1, q⟩ := q2
      exact ⟨i, j, rfl, b1, k ρ2 H2 h2 _ _ _ (E1.trans E2) R2 (sim_rng i (j - i).toNat) q⟩
    | _ => exact False.elim q2
  | _ => exact False.elim q2
/-! ### comprehensions -/
theorem drop_cons {α : Type} {xs : List α} {i : Nat} {x : α} (e : xs[i]? = some x) : xs.drop i = x :: xs.drop (i + 1) := by
  obtain ⟨hi, e'⟩ := List.getElem?_eq_some_iff.mp e
  rw [List.drop_eq_getElem_cons hi, e']
theorem RS.wipe {G : LG} {xa : XA} {ρ : List Addr} {H : Hp} {τ : PSt} {σ : St} (s : RS G xa ρ H τ σ) : ∀ vs : List Nat, RS G xa ρ H (pwipe τ vs) (L2.wipe σ vs)
  | [] => s
  | _ :: vs => RS.unset (RS.wipe s vs)
variable {elt iter : Expr} {ifs : List Expr} {scope : Scope} {own : List (Str × Nat)} {pos : Pos} {ti : PTI} {g : Tg} {tt : PTT} {te : PTE}
abbrev W0 : WX := fun _ _ _ _ => False
theorem lLc_of {σ : St} {H : Hp} {Q : VK} (hgs : ∀ i ∈ g.slots, i ∈ own.map (·.2)) (h : lL (gX X) xa W (pLc ti g tt te (own.map (·.2))) σ H Q) :
    tLc (lI (gX X) xa W ti) (lG (gX X) xa g) (lT (gX X) xa W0 tt) (lE (gX X) xa W0 te) (own.map (·.2)) σ H Q := by
  obtain ⟨ρ, τ, h, Qp, Ep, R, S, hp, k, kx⟩ := h
  refine ⟨ρ, τ, h, _, Ep, R, S, hp, fun ρ1 H1 h1 xs ok J E1 R1 sim q1 => ?_, kx⟩
  intro D hD
  have S1 : RS (gX X) xa ρ1 H1 τ σ := S.mono R.trk E1
  have fD : H D = none := E1.fresh R1 hD
  have nD : D ∉ ρ1 := fun hm => by
    obtain ⟨o', e, _⟩ := R1.trk D hm
    rw [hD] at e
    cases e
  refine ⟨fun i m H2 => m = xs.length - i ∧ i ≤ xs.length ∧ ∃ ρ2 h2 acc vs, Ext ρ1 H1 ρ2 H2 ∧ Rel (gX X) ρ2 H2 h2 ∧ H2 D = some (.lst vs) ∧ D ∉ ρ2 ∧ RVs (gX X) ρ2 H2 acc vs ∧ vs.length ≤ sizeLine ∧ lcGo g tt te ok (pwipe τ (own.map (·.2))) (xs.drop i) acc h2 Qp, ?_, ?_⟩
  · obtain ⟨E2, R2, _⟩ := R1.skip (o := .lst []) hD
    exact ⟨xs.length, by simp, Nat.zero_le _, ρ1, h1, [], [], E2, R2, upd_same, nD, .nil, Nat.zero_le _, q1⟩
  · rintro i m H2 ⟨rfl, hi, ρ2, h2, acc, vs, E2, R2, hD2, nD2, r2, l2, q2⟩
    by_cases hlt : i < xs.length
    · have ex : xs[i]? = some xs[i] := List.getElem?_eq_getElem hlt
      rw [drop_cons ex] at q2
      obtain ⟨hok, q2⟩ := q2
      obtain ⟨hgo, hy⟩ := (sim i ρ2 H2 h2 E2 R2 hok).1 _ ex
      refine .inr ⟨hgo, fun H' => ∃ ρ2 h2 acc vs, Ext ρ1 H1 ρ2 H' ∧ Rel (gX X) ρ2 H' h2 ∧ H' D = some (.lst vs) ∧ D ∉ ρ2 ∧ RVs (gX X) ρ2 H' acc vs ∧ vs.length ≤ sizeLine ∧ lcGo g tt te ok (pwipe τ (own.map (·.2))) (xs.drop (i + 1)) acc h2 Qp,
        fun H' nx => ⟨xs.length - (i + 1), by omega, rfl, hlt, nx⟩, fun v H' y => ?_⟩
      obtain ⟨E3, R3, r3⟩ := hy v H' y
      split at q2
      · rename_i τ' eg
        refine ⟨ρ2, pwipe τ (own.map (·.2)), h2, xs[i], τ', R3, (S1.mono R1.trk (E2.trans E3)).wipe _, r3, eg, fun σ2 S2 w2 => ⟨?_, ?_⟩⟩
        · rw [w2 _ hgs]
          apply List.ext_getElem?
          intro j
          rw [wipe_at, wipe_at]
          by_cases hj : j ∈ own.map (·.2)
          · rw [if_pos hj, if_pos hj]
            cases σ[j]? <;> rfl
          · rw [if_neg hj]
        · refine ⟨ρ2, τ', h2, _, F0, R3, S2, q2, fun ρ4 H4 h4 b E4 R4 q4 => ?_, fun _ _ _ _ _ _ _ _ _ _ z => z⟩
          have hD3 := E3.keep D _ hD2 nD2
          have hD4 := E4.keep D _ hD3.1 hD3.2
          cases b with
          | true =>
            rw [if_pos rfl] at q4
            refine iteT ⟨ρ4, τ', h4, _, F0, R4, S2.mono R3.trk E4, q4, fun ρ5 H5 h5 y u E5 R5 r5 q5 => ?_, fun _ _ _ _ _ _ _ _ _ _ z => z⟩
            obtain ⟨z, q5⟩ := q5
            have hD5 := E5.keep D _ hD4.1 hD4.2
            have len : vs.length < sizeLine := by rw [← r2.length]; exact z
            obtain ⟨K6, R6⟩ := R5.other (o := .lst (vs ++ [u])) hD5.2 hD5.1
            refine ⟨vs, hD5.1, len, ρ5, h5, acc ++ [y], vs ++ [u], (E2.trans (E3.trans (E4.trans E5))).other hD, R6, upd_same, hD5.2, ?_, by rw [List.length_append, List.length_singleton]; omega, q5⟩
            exact (((r2.mono R2.trk (E3.trans (E4.trans E5))).append (.cons r5 .nil))).keep K6
          | false =>
            rw [if_neg Bool.false_ne_true] at q4
            exact iteF ⟨ρ4, h4, acc, vs, E2.trans (E3.trans E4), R4, hD4.1, hD4.2, r2.mono R2.trk (E3.trans E4), l2, q4⟩
      · exact q2.elim
    · have e : i = xs.length := by omega
      subst e
      rw [List.drop_length] at q2
      obtain ⟨hok, q2⟩ := q2
      exact .inl ⟨(sim _ ρ2 H2 h2 E2 R2 hok).2 (Nat.le_refl _), k ρ2 H2 h2 acc D vs (E1.trans E2) R2 r2 l2 hD2 nD2 fD q2⟩
theorem ll_lc (hc : X.calm = true) (hN : X.N.Nodup) (hi : PI X tg iter (lI (gX X) xa W ti)) (ok : BlkOk X.N X.env.scope scope own) (hgs : ∀ i ∈ g.slots, i ∈ own.map (·.2))
    (hg : ∀ (s : Shared) (H : Hp) (C : Addr) (cl : List (Str × Addr)) (fp : List Addr), PG (X.blk s H scope (compEnvC scope cl C X.env) fp) tg (lG (gX X) xa g)) (ht : ∀ (s : Shared) (H : Hp) (C : Addr) (cl : List (Str × Addr)) (fp : List Addr), PTs (X.blk s H scope (compEnvC scope cl C X.env) fp) ifs (lT (gX X) xa W0 tt))
    (he : ∀ (s : Shared) (H : Hp) (C : Addr) (cl : List (Str × Addr)) (fp : List Addr), PE (X.blk s H scope (compEnvC scope cl C X.env) fp) elt (lE (gX X) xa W0 te)) (hs : ∀ x, foldedSetIterable iter X.env x = pure x := by intro _; rfl) :
    PE X (.ListComp elt [⟨tg, iter, ifs, 0⟩] scope pos) (lL (gX X) xa W (pLc ti g tt te (own.map (·.2)))) :=
  PE_imp (pe_lc hc hN hi ok hg ht he hs) fun _ _ _ h => lLc_of hgs h
theorem lts_nil : PTs X [] (lT (gX X) xa W pYes) := by
  refine ⟨fun pins s σ H Q I hw => pts_nil.run pins s σ H Q I ?_⟩
  obtain ⟨ρ, τ, h, Qp, Ep, R, S, hp, k, kx⟩ := hw
  exact k ρ H h true .refl R hp
theorem lts_one {c : Expr} (h : PT X c (lT (gX X) xa W tt)) : PTs X [c] (lT (gX X) xa W tt) := pts_one h
end
end MP
set_option maxHeartbeats 4000000
/-! MP7: statements. -/
namespace MP
open PySem PySem.Spec PyProof.Rows L2 TL

section
variable {X : Cx} {xa : Option (Nat × Addr × Value × Option Addr)} {W : WX} {st : Stmt} {rest : List Stmt} {t u : PTS} {e a b c : Expr} {te ta tb : PTE} {tc : PTT} {pos : Pos}
theorem lss_nil : PSs X [] (lS (gX X) xa W pNext) := by
  refine PSs_imp pss_nil fun D σ H h => ?_
  obtain ⟨ρ, τ, h, Dp, R, S, hp, k⟩ := h
  exact k.nx ρ H h τ σ .refl R S hp
theorem lss_one (h1 : PS X st (lS (gX X) xa W t)) : PSs X [st] (lS (gX X) xa W t) := pss_one h1
theorem lss_cons (h1 : PS X st (lS (gX X) xa W t)) (h2 : PSs X rest (lS (gX X) xa W u)) : PSs X (st :: rest) (lS (gX X) xa W (pSeq t u)) := by
  refine PSs_imp (pss_cons h1 h2) fun D σ H h => ?_
  obtain ⟨ρ, τ, h, Dp, R, S, hp, k⟩ := h
  refine ⟨ρ, τ, h, { Dp with nx := u Dp }, R, S, hp, ⟨fun ρ' H' h' τ' σ' E R' S' q => ?_, k.rt, k.bk, k.ct, k.ex⟩⟩
  exact ⟨ρ', τ', h', Dp, R', S', q, k.mono E⟩
theorem ls_pass : PS X (.Pass pos) (lS (gX X) xa W pNext) := by
  refine PS_imp ps_pass fun D σ H h => ?_
  obtain ⟨ρ, τ, h, Dp, R, S, hp, k⟩ := h
  exact k.nx ρ H h τ σ .refl R S hp
theorem ls_break : PS X (.Break pos) (lS (gX X) xa W pBrk) := by
  refine PS_imp ps_break fun D σ H h => ?_
  obtain ⟨ρ, τ, h, Dp, R, S, hp, k⟩ := h
  exact k.bk ρ H h τ σ .refl R S hp
theorem ls_continue : PS X (.Continue pos) (lS (gX X) xa W pCt) := by
  refine PS_imp ps_continue fun D σ H h => ?_
  obtain ⟨ρ, τ, h, Dp, R, S, hp, k⟩ := h
  exact k.ct ρ H h τ σ .refl R S hp
/-- from a statement's end to an expression's -/
theorem eE {t' : PTE} {D : Ends} {σ : St} {H : Hp} {ρ : List Addr} {τ : PSt} {h : PHeap} {Dp : PD} {Qp : PQ} {Q : VK} (R : Rel (gX X) ρ H h) (S : RS (gX X) xa ρ H τ σ) (hp : t' τ h Qp (fun c v h1 => Dp.ex c v τ h1)) (k : Conts (gX X) xa W ρ H Dp D)
    (kQ : ∀ ρ' H' h' x v, Ext ρ H ρ' H' → Rel (gX X) ρ' H' h' → RV (gX X) ρ' H' x v → Qp x h' → Q v H') : lE (gX X) xa W t' σ H Q := ⟨ρ, τ, h, Qp, _, R, S, hp, kQ, k.xc R S⟩
theorem ls_expr (he : PE X e (lE (gX X) xa W te)) (hs : swapsWith e none pos.line X.env = pure false := by rfl) : PS X (.Expr e pos) (lS (gX X) xa W (pDrop te)) := by
  refine PS_imp (ps_expr he hs) fun D σ H h => ?_
  obtain ⟨ρ, τ, h, Dp, R, S, hp, k⟩ := h
  exact eE R S hp k fun ρ' H' h' x v E R' r q => k.nx ρ' H' h' τ σ E R' (S.mono R.trk E) q
theorem ls_ret (he : PE X e (lE (gX X) xa W te)) : PS X (.Return (some e) pos) (lS (gX X) xa W (pRet te)) := by
  refine PS_imp (ps_ret he) fun D σ H h => ?_
  obtain ⟨ρ, τ, h, Dp, R, S, hp, k⟩ := h
  exact eE R S hp k fun ρ' H' h' x v E R' r q => k.rt ρ' H' h' x v E R' r q
theorem ls_retN : PS X (.Return none pos) (lS (gX X) xa W pRetN) := by
  refine PS_imp ps_retN fun D σ H h => ?_
  obtain ⟨ρ, τ, h, Dp, R, S, hp, k⟩ := h
  exact k.rt ρ H h .non .non .refl R .non hp
theorem ls_if {x y : List Stmt} (hc : PT X c (lT (gX X) xa W tc)) (ha : PSs X x (lS (gX X) xa W t)) (hb : PSs X y (lS (gX X) xa W u)) : PS X (.If c x y pos) (lS (gX X) xa W (pIfS tc t u)) := by
  refine PS_imp (ps_if hc ha hb) fun D σ H h => ?_
  obtain ⟨ρ, τ, h, Dp, R, S, hp, k⟩ := h
  refine ⟨ρ, τ, h, _, _, R, S, hp, fun ρ' H' h' b E R' q => ?_, k.xc R S⟩
  have S' := S.mono R.trk E
  cases b with
  | true =>
    rw [if_pos rfl] at q
    exact iteT ⟨ρ', τ, h', Dp, R', S', q, k.mono E⟩
  | false =>
    rw [if_neg Bool.false_ne_true] at q
    exact iteF ⟨ρ', τ, h', Dp, R', S', q, k.mono E⟩
/-! ### assignments -/
theorem asg_of {g : Tg} {D : Ends} {σ : St} {H : Hp} (h : lS (gX X) xa W (pAsg te g) D σ H) : tAsg (lE (gX X) xa W te) (lG (gX X) xa g) D σ H := by
  obtain ⟨ρ, τ, h, Dp, R, S, hp, k⟩ := h
  refine eE R S hp k fun ρ' H' h' x v E R' r q => ?_
  split at q
  · rename_i τ' eg
    exact ⟨ρ', τ, h', x, τ', R', S.mono R.trk E, r, eg, fun σ' S' _ => k.nx ρ' H' h' τ' σ' E R' S' q⟩
  · exact q.elim
theorem ls_asg {tg : Expr} {g : Tg} (he : PE X e (lE (gX X) xa W te)) (hg : PG X tg (lG (gX X) xa g)) (hs : swapsWithSole [tg] e pos.line X.env = pure false := by rfl) (hw : swappedStores [tg] e X.env = pure none := by rfl)
    (h1 : (assignEach [tg] X.env).map (·.2) = [assign tg X.env] := by rfl) : PS X (.Assign [tg] e pos) (lS (gX X) xa W (pAsg te g)) :=
  PS_imp (ps_asg he hg hs hw h1) fun _ _ _ h => asg_of h
theorem ls_set {i : Nat} {x : Str} {pos' : Pos} (hN : X.N.Nodup) (hi : X.N[i]? = some x) (hx : Loc X.env.scope x) (he : PE X e (lE (gX X) xa W te)) (hs : swapsWith e (some (.Name x pos')) pos.line X.env = pure false := by rfl) (hf : X.fn x = true ∨ X.env.scope.names.lookup x = some .local := by first | exact .inl rfl | exact .inr rfl | assumption) :
    PS X (.Assign [.Name x pos'] e pos) (lS (gX X) xa W (pAsg te (.nm i))) := by
  refine PS_imp (ps_set hN hi hx he hs hf) fun D σ H h => ?_
  obtain ⟨ρ, τ, h, Dp, R, S, hp, k⟩ := h
  refine eE R S hp k fun ρ' H' h' x v E R' r q => ?_
  exact k.nx ρ' H' h' _ _ E R' ((S.mono R.trk E).set r) q
/-- y = [.. for ..]: the list is kept -/
theorem ls_setLc {i : Nat} {y : Str} {py : Pos} {elt tg iter : Expr} {ifs : List Expr} {scope : Scope} {own : List (Str × Nat)} {lpos spos : Pos} {ti : PTI} {g : Tg} {tt : PTT} (hc : X.calm = true) (hN : X.N.Nodup) (hy : X.N[i]? = some y) (hyl : X.env.scope.names.lookup y = some .local)
    (hsw : swapsWith (.ListComp elt [⟨tg, iter, ifs, 0⟩] scope lpos) (some (.Name y py)) spos.line X.env = pure true) (hi : PI X tg iter (lI (gX X) xa W ti)) (ok : BlkOk X.N X.env.scope scope own) (hgs : ∀ i ∈ g.slots, i ∈ own.map (·.2))
    (hg : ∀ (s : Shared) (H : Hp) (C : Addr) (cl : List (Str × Addr)) (fp : List Addr), PG (X.blk s H scope (compEnvC scope cl C X.env) fp) tg (lG (gX X) xa g)) (ht : ∀ (s : Shared) (H : Hp) (C : Addr) (cl : List (Str × Addr)) (fp : List Addr), PTs (X.blk s H scope (compEnvC scope cl C X.env) fp) ifs (lT (gX X) xa W0 tt))
    (he : ∀ (s : Shared) (H : Hp) (C : Addr) (cl : List (Str × Addr)) (fp : List Addr), PE (X.blk s H scope (compEnvC scope cl C X.env) fp) elt (lE (gX X) xa W0 te)) (hs : ∀ x, foldedSetIterable iter X.env x = pure x := by intro _; rfl) :
    PS X (.Assign [.Name y py] (.ListComp elt [⟨tg, iter, ifs, 0⟩] scope lpos) spos) (lS (gX X) xa W (pAsg (pNew (pLc ti g tt te (own.map (·.2)))) (.nm i))) := by
  refine PS_imp (ps_setLc hc hN hy hyl hsw hi ok hg ht he hs) fun D σ H h => ?_
  obtain ⟨ρ, τ, h, Dp, R, S, hp, k⟩ := h
  refine lLc_of hgs ⟨ρ, τ, h, _, _, R, S, hp, fun ρ1 H1 h1 xs D' vs E1 R1 r1 l hD nD fD q1 => ?_, k.xc R S⟩
  obtain ⟨a1, a2, a3⟩ := R1.adopt (p := D') (o := .lst vs) (c := .lst xs) hD rfl nD (fun ρ' M Ms => ⟨vs, hD, l, Ms r1⟩)
  obtain ⟨t', et⟩ := E1.pre
  have E2 : Ext ρ H (ρ1 ++ [D']) H1 := ⟨⟨t' ++ [D'], by rw [et, List.append_assoc]⟩, fun a o ea na => by
    obtain ⟨e1, n1⟩ := E1.keep a o ea na
    exact ⟨e1, a1 a o e1 n1 (ne_of_none ea fD)⟩⟩
  have q2 : Dp.nx (τ.set i (some (.ref h1.length))) (h1 ++ [.lst xs]) := q1
  refine k.nx (ρ1 ++ [D']) H1 _ _ _ E2 a2 ((S.mono R.trk E2).set (.ref ?_)) q2
  rw [← R1.len, List.getElem?_append_right (Nat.le_refl _), Nat.sub_self]
  rfl
/-- o[i] = e -/
theorem mset : PSet X (fun o i v H Q => ∃ ρ h x y z Qp, Rel (gX X) ρ H h ∧ RV (gX X) ρ H x o ∧ RV (gX X) ρ H y i ∧ RV (gX X) ρ H z v ∧ rSetP x y z h Qp ∧ ∀ ρ' H' h', Ext ρ H ρ' H' → Rel (gX X) ρ' H' h' → Qp h' → Q H') := by
  intro pins s σ H o i v ov iv uu Q I ro ri rv hh
  obtain ⟨ρ, h, x, y, z, Qp, R, r1, r2, r3, hp, k⟩ := hh
  cases r1 with
  | @ref n a ea =>
    cases r2 with
    | int kk =>
      dsimp only [rSetP] at hp
      split at hp
      · rename_i xs en
        obtain ⟨a', vs, ea', ev, l, rs⟩ := R.lst en
        rw [ea] at ea'; cases ea'
        split at hp
        · rename_i j ej
          rw [rs.length] at ej
          obtain ⟨E2, R2, M⟩ := R.set (vs := vs.set j v) ea ev (by rw [List.length_set]; exact l) (RVs.set r3 j rs)
          exact set_list pins s σ H _ _ _ ov iv uu Q I ro ri rv ⟨a, vs, kk, j, rfl, rfl, ev, ej, k _ _ _ E2 R2 hp⟩
        · exact hp.elim
      · exact hp.elim
    | _ => exact False.elim hp
  | _ => exact False.elim hp
theorem ls_setS {o i : Expr} {to ti : PTE} {tpos : Pos} (he : PE X e (lE (gX X) xa W te)) (ho : PE X o (lE (gX X) xa W to)) (hi : PE X i (lE (gX X) xa W ti))
    (ha : ∀ v, assign (.Subscript o i tpos) X.env v = (do
      let ov ← holding [v] (eval o X.env)
      let iv ← holding [v, ov] (eval i X.env)
      standAt tpos
      holding [v, ov, iv] (setItem ov iv v)
      release [v, ov, iv] []) := by intro _; rfl)
    (hs : swapsWithSole [.Subscript o i tpos] e pos.line X.env = pure false := by rfl) (hw : swappedStores [.Subscript o i tpos] e X.env = pure none := by rfl)
    (h1 : (assignEach [.Subscript o i tpos] X.env).map (·.2) = [assign (.Subscript o i tpos) X.env] := by rfl) : PS X (.Assign [.Subscript o i tpos] e pos) (lS (gX X) xa W (pAsgS te to ti rSetP)) := by
  refine PS_imp (ps_asg he (pg_sub ho hi (mset) ha) hs hw h1) fun D σ H h => ?_
  obtain ⟨ρ, τ, h, Dp, R, S, hp, k⟩ := h
  refine eE R S hp k fun ρ1 H1 h1 x v E1 R1 r1 q1 => ?_
  have S1 := S.mono R.trk E1
  refine eE R1 S1 q1 (k.mono E1) fun ρ2 H2 h2 y u E2 R2 r2 q2 => ?_
  have S2 := S1.mono R1.trk E2
  refine eE R2 S2 q2 (k.mono (E1.trans E2)) fun ρ3 H3 h3 z w E3 R3 r3 q3 => ?_
  have S3 := S2.mono R2.trk E3
  refine ⟨ρ3, h3, y, z, x, _, R3, r2.mono R2.trk E3, r3, r1.mono R1.trk (E2.trans E3), q3, fun ρ4 H4 h4 E4 R4 q4 => ?_⟩
  exact k.nx ρ4 H4 h4 τ σ (E1.trans (E2.trans (E3.trans E4))) R4 (S3.mono R3.trk E4) q4
/-- name op= e -/
theorem ls_aug {i : Nat} {x : Str} {op : Operator} {r : POp} {pos' : Pos} (hN : X.N.Nodup) (hi : X.N[i]? = some x) (hx : Loc X.env.scope x) (he : PE X e (lE (gX X) xa W te)) (ho : OpR X (inplaceOp op) (lR (gX X) r)) (hf : X.fn x = true ∨ X.env.scope.names.lookup x = some .local := by first | exact .inl rfl | exact .inr rfl | assumption) :
    PS X (.AugAssign (.Name x pos') op e pos) (lS (gX X) xa W (pAug i r te)) := by
  refine PS_imp (ps_aug (ti := lR (gX X) r) hN hi hx he ho hf) fun D σ H h => ?_
  obtain ⟨ρ, τ, h, Dp, R, S, hp, k⟩ := h
  unfold pAug at hp
  split at hp
  · rename_i y ey
    obtain ⟨ny, hp⟩ := hp
    obtain ⟨v, ev, rv0⟩ := S.2 i y ey
    have rv : RV (gX X) ρ H y v := by
      cases y with
      | exc c x => cases ny
      | _ => exact rv0
    refine ⟨v, ev, eE R S hp k fun ρ1 H1 h1 z u E1 R1 r1 q1 => ?_⟩
    refine ⟨ρ1, h1, y, z, _, R1, rv.mono R.trk E1, r1, q1, fun ρ2 H2 h2 z' w E2 R2 r2 q2 => ?_⟩
    exact k.nx ρ2 H2 h2 _ _ (E1.trans E2) R2 ((S.mono R.trk (E1.trans E2)).set r2) q2
  · exact hp.elim
theorem mi_add : OpR X (inplaceOp .Add) (lR (gX X) rIAdd) := by
  intro pins s σ H u v uu vv Q I ru rv hh
  obtain ⟨ρ, h, x, y, Qp, R, r1, r2, hp, k⟩ := hh
  cases r1 with
  | int i =>
    cases r2 with
    | int j => exact L2.iop_add pins s σ H _ _ _ _ Q I ru rv ⟨i, j, rfl, rfl, k ρ H h _ _ .refl R (.int _) hp⟩
    | _ => exact False.elim hp
  | @str a oa =>
    cases r2 with
    | @str b ob =>
      obtain ⟨l, q⟩ := (show a.length + b.length ≤ sizeLine ∧ Qp (.str (a ++ b)) h from hp)
      exact L2.iop_add_str pins s σ H _ _ _ _ Q I ru rv ⟨a, b, rfl, rfl, l, k ρ H h _ _ .refl R (.str (okS_append oa ob l)) q⟩
    | _ => exact False.elim hp
  | _ => exact False.elim hp
theorem mi_sub : OpR X (inplaceOp .Sub) (lR (gX X) rSub) := by
  intro pins s σ H u v uu vv Q I ru rv hh
  obtain ⟨ρ, h, x, y, Qp, R, r1, r2, hp, k⟩ := hh
  cases r1 with
  | int i =>
    cases r2 with
    | int j => exact L2.iop_sub pins s σ H _ _ _ _ Q I ru rv ⟨i, j, rfl, rfl, k ρ H h _ _ .refl R (.int _) hp⟩
    | _ => exact False.elim hp
  | _ => exact False.elim hp
/-! ### for, while -/
theorem ls_for {tg iter : Expr} {sts : List Stmt} {ti : PTI} {g : Tg} (hp : PassesOwn (model X.prog X.w) X.A X.env X.xe) (hc : X.calm = true) (hi : PI X tg iter (lI (gX X) xa W ti)) (hg : PG X tg (lG (gX X) xa g)) (hb : PSs X sts (lS (gX X) xa W t))
    (hs : ∀ x, foldedSetIterable iter X.env x = pure x := by intro _; rfl) : PS X (.For tg iter sts [] pos) (lS (gX X) xa W (pFor ti g t)) := by
  refine PS_imp (ps_for hp hc hi hg hb hs) fun D σ H h => ?_
  obtain ⟨ρ, τ, h, Dp, R, S, hp, k⟩ := h
  refine ⟨ρ, τ, h, _, _, R, S, hp, fun ρ1 H1 h1 xs ok J E1 R1 sim q1 => ?_, k.xc R S⟩
  refine ⟨fun i m σ2 H2 => m = xs.length - i ∧ i ≤ xs.length ∧ ∃ ρ2 τ2 h2, Ext ρ1 H1 ρ2 H2 ∧ Rel (gX X) ρ2 H2 h2 ∧ RS (gX X) xa ρ2 H2 τ2 σ2 ∧ forGo g t Dp ok (xs.drop i) τ2 h2,
    ⟨xs.length, by simp, Nat.zero_le _, ρ1, τ, h1, .refl, R1, S.mono R.trk E1, q1⟩, ?_⟩
  rintro i m σ2 H2 ⟨rfl, hi, ρ2, τ2, h2, E2, R2, S2, q2⟩
  by_cases hlt : i < xs.length
  · have ex : xs[i]? = some xs[i] := List.getElem?_eq_getElem hlt
    rw [drop_cons ex] at q2
    obtain ⟨hok, q2⟩ := q2
    obtain ⟨hgo, hy⟩ := (sim i ρ2 H2 h2 E2 R2 hok).1 _ ex
    refine .inr ⟨hgo, fun σ3 H3 => ∃ ρ3 τ3 h3, Ext ρ1 H1 ρ3 H3 ∧ Rel (gX X) ρ3 H3 h3 ∧ RS (gX X) xa ρ3 H3 τ3 σ3 ∧ forGo g t Dp ok (xs.drop (i + 1)) τ3 h3,
      fun σ3 H3 nx => ⟨xs.length - (i + 1), by omega, rfl, hlt, nx⟩, fun v H' y => ?_⟩
    obtain ⟨E3, R3, r3⟩ := hy v H' y
    split at q2
    · rename_i τ' eg
      refine ⟨ρ2, τ2, h2, xs[i], τ', R3, S2.mono R2.trk E3, r3, eg, fun σ4 S4 _ => ?_⟩
      have E23 := E2.trans E3
      refine ⟨ρ2, τ', h2, _, R3, S4, q2, ⟨fun ρ5 H5 h5 τ5 σ5 E5 R5 S5 q5 => ⟨ρ5, τ5, h5, E23.trans E5, R5, S5, q5⟩, fun ρ5 H5 h5 x v E5 R5 r5 q5 => k.rt ρ5 H5 h5 x v (E1.trans (E23.trans E5)) R5 r5 q5,
        fun ρ5 H5 h5 τ5 σ5 E5 R5 S5 q5 => k.nx ρ5 H5 h5 τ5 σ5 (E1.trans (E23.trans E5)) R5 S5 q5, fun ρ5 H5 h5 τ5 σ5 E5 R5 S5 q5 => ⟨ρ5, τ5, h5, E23.trans E5, R5, S5, q5⟩,
        fun ρ5 H5 h5 τ5 σ5 c x cls d E5 R5 S5 rx q5 => k.ex ρ5 H5 h5 τ5 σ5 c x cls d (E1.trans (E23.trans E5)) R5 S5 rx q5⟩⟩
    · exact q2.elim
  · have e : i = xs.length := by omega
    subst e
    rw [List.drop_length] at q2
    obtain ⟨hok, q2⟩ := q2
    exact .inl ⟨(sim _ ρ2 H2 h2 E2 R2 hok).2 (Nat.le_refl _), k.nx ρ2 H2 h2 τ2 σ2 (E1.trans E2) R2 S2 q2⟩
theorem ls_while {sts : List Stmt} (hp : PassesOwn (model X.prog X.w) X.A X.env X.xe) (hc : PT X c (lT (gX X) xa W tc)) (hb : PSs X sts (lS (gX X) xa W t)) : PS X (.While c sts [] pos) (lS (gX X) xa W (pWhile tc t)) := by
  refine PS_imp (ps_while hp hc hb) fun D σ H h => ?_
  obtain ⟨ρ, τ, h, Dp, R, S, ⟨Wp, ⟨m0, w0⟩, turn⟩, k⟩ := h
  refine ⟨fun m σ2 H2 => ∃ ρ2 τ2 h2, Ext ρ H ρ2 H2 ∧ Rel (gX X) ρ2 H2 h2 ∧ RS (gX X) xa ρ2 H2 τ2 σ2 ∧ Wp m τ2 h2, ⟨m0, ρ, τ, h, .refl, R, S, w0⟩, ?_⟩
  rintro m σ2 H2 ⟨ρ2, τ2, h2, E2, R2, S2, w2⟩
  refine ⟨ρ2, τ2, h2, _, _, R2, S2, turn m τ2 h2 w2, fun ρ3 H3 h3 b E3 R3 q3 => ?_, (k.mono E2).xc R2 S2⟩
  have S3 := S2.mono R2.trk E3
  cases b with
  | true =>
    rw [if_pos rfl] at q3
    obtain ⟨Np, hN, q3⟩ := q3
    refine iteT ⟨fun σ4 H4 => ∃ ρ4 τ4 h4, Ext ρ H ρ4 H4 ∧ Rel (gX X) ρ4 H4 h4 ∧ RS (gX X) xa ρ4 H4 τ4 σ4 ∧ Np τ4 h4, ?_, ?_⟩
    · rintro σ4 H4 ⟨ρ4, τ4, h4, E4, R4, S4, n4⟩
      obtain ⟨m', hm, w4⟩ := hN τ4 h4 n4
      exact ⟨m', hm, ρ4, τ4, h4, E4, R4, S4, w4⟩
    · have E23 := E2.trans E3
      exact ⟨ρ3, τ2, h3, _, R3, S3, q3, ⟨fun ρ5 H5 h5 τ5 σ5 E5 R5 S5 q5 => ⟨ρ5, τ5, h5, E23.trans E5, R5, S5, q5⟩, fun ρ5 H5 h5 x v E5 R5 r5 q5 => k.rt ρ5 H5 h5 x v (E23.trans E5) R5 r5 q5,
        fun ρ5 H5 h5 τ5 σ5 E5 R5 S5 q5 => k.nx ρ5 H5 h5 τ5 σ5 (E23.trans E5) R5 S5 q5, fun ρ5 H5 h5 τ5 σ5 E5 R5 S5 q5 => ⟨ρ5, τ5, h5, E23.trans E5, R5, S5, q5⟩,
        fun ρ5 H5 h5 τ5 σ5 c x cls d E5 R5 S5 rx q5 => k.ex ρ5 H5 h5 τ5 σ5 c x cls d (E23.trans E5) R5 S5 rx q5⟩⟩
  | false =>
    rw [if_neg Bool.false_ne_true] at q3
    exact iteF (k.nx ρ3 H3 h3 τ2 σ2 (E2.trans E3) R3 S3 q3)
end
end MP
set_option maxHeartbeats 4000000
/-! MP8: errors made, raised, caught; defs called. (The block TErr follows the worked proof 42_own_error_by_import, turned to a class that inherits its __init__.) -/
namespace PySem
namespace TErr
open PySem.W PySem.Calls PyProof.Rows PySem.HandSPX
/-- the text of __init__ -/
def iA (p1 p2 : Pos) : Arguments := { posonlyargs := [], args := [{ arg := "self", annotation := none, pos := p1 }, { arg := "value", annotation := none, pos := p2 }], vararg := none, kwonlyargs := [], kw_defaults := [], kwarg := none, defaults := [] }
def iB (q1 q2 q3 q4 : Pos) : List Stmt := [.Assign [.Attribute (.Name "self" q1) "value" q2] (.Name "value" q3) q4]
def iS : Scope := { kind := .function, names := [(PySem.Str.ofString "self", .local), (PySem.Str.ofString "value", .local)], isGenerator := false, isCoroutine := false, more := [] }
/-- what the written part says of the error class at C, and of its __init__, at fI -/
structure LowTxt (K : Frag) (C fI : Addr) : Prop where
  cls : ∃ nm q N bs bm sn sub ab col dd k0 k1 k2 k3 k5, K.lookup C = some (excClassObj nm q C N bs bm true sn sub ab col dd k0 k1 k2 k3 k5 "ValueError.__new__") ∧ refsVE bm = true
  sa : findIn K (.ref C) "__setattr__" = some (some (.builtin "object.__setattr__"))
  ga : findIn K (.ref C) "__getattribute__" = some (some (.builtin "BaseException.__getattribute__"))
  gg : findIn K (.ref C) "__getattr__" = some none
  noN : findIn K (.ref C) "value" = some none
  iC : findIn K (.ref C) "__init__" = some (some (.ref fI))
  tC : typeIn K (.ref fI) = some (.type "function")
  kC : keepIn K (.ref C) = true
  exC : subIn K (.ref C) (.type "BaseException") = some true
  tyC : typeIn K (.ref C) = some (.type "type")
  hdC : hasDictIn K C = true
  fn : ∃ (oc : Value) (od : Option Addr) (kV doc pm : Value) (an : Option Addr) (cdv ct : Value) (osl : Array (Option Value)) (p1 p2 q1 q2 q3 q4 : Pos),
    K.lookup fI = some ⟨oc, od, .func (fnOf "__init__" "TreeError.__init__" (iA p1 p2) (iB q1 q2 q3 q4) iS .none kV doc pm an cdv ct), osl⟩ ∧ codeIn K cdv "TreeError.__init__" = true
theorem one_size (v : Value) : [v].length ≤ sizeLine := by
  rw [sizeLine_eq]
  exact (by decide : 1 ≤ 16777216)
theorem ldC {M : Model} {s : Shared} {name : Str} {scope : Scope} {L a : Addr} {cd : Value} {m : Str → Option Value} {x : Str} {pos : Pos} {v : Value} {Q : Value → Shared → Prop} {A : Around} {E : Value → Shared → Prop} (hn : s.heap.Ns L m) (hv : m x = some v) (h : Q v s)
    (hk : scope.kind = .function := by rfl) (hl : (envOfC name scope L a cd).kindOf x = some .local := by rfl) (hd : (x == ("__debug__" : Str)) = false := by decide) :
    wpAny M A (eval (.Name x pos) (envOfC name scope L a cd)) Q E s := wpAny_Name (wpAny_loadName_local hk hl hn hv h) hd
/-- what __init__ leaves of a fresh exception at x -/
structure InitEnd (h h' : Heap) (x C dx t1 : Addr) (v : Value) : Prop where
  keep : ∀ b o, b ≠ x → h.get? b = some o → h'.get? b = some o
  obj : h'.get? x = some { cls := .ref C, dict := some dx, data := .fields #[.ref t1, .none, .none, .none, .bool false, .none] }
  dbig : h.objs.size ≤ dx
  dne : dx ≠ x
  ns : h'.Ns1 dx (fun y => if y = "value" then some v else none)
/-- a made error -/
structure OwnMade (h h' : Heap) (e C d : Addr) (v : Value) : Prop where
  keep : ∀ b o, h.get? b = some o → h'.get? b = some o
  new : h.objs.size ≤ e
  obj : ∃ oe vs, h'.get? e = some oe ∧ oe.cls = .ref C ∧ oe.dict = some d ∧ oe.data = .fields vs ∧ vs[1]? = some .none
  dbig : h.objs.size ≤ d
  dne : d ≠ e
  ns : h'.Ns1 d (fun y => if y = "value" then some v else none)
section
variable {prog : Program} {w : World} {A : Around} {E : Value → Shared → Prop} {R : Result → Shared → Prop} {s : Shared} {K : Frag} {C fI : Addr}
theorem low_init (T : LowTxt K C fI) {x t0 : Addr} {v : Value} (X : K.In s.heap) (hlim : s.heap.NoLimit) (hx : s.heap.get? x = some (excO C t0)) (hnx : K.lookup x = none) (hroom : A.depth < recursionLimit)
    (hq : ∀ h' tk dx, InitEnd s.heap h' x C dx t0 v → R (.ok (.ret .none)) { s with heap := h', toks := tk }) {kw : List (Str × Value)} {us : List Value} (hkw : (us = [v] ∧ kw = []) ∨ (us = [] ∧ kw = [(("value" : Str), v)])) :
    codeAny (model prog w) A (.call (.ref fI) ⟨.ref x :: us, kw⟩) R s := by
  obtain ⟨oc, od, kV, doc, pm, an, cdv, ct, osl, p1, p2, q1, q2, q3, q4, ho, hcd⟩ := T.fn
  obtain ⟨nm, q, N, bs, bm, sn, sub, ab, col, dd, k0, k1, k2, k3, k5, hC, hbm⟩ := T.cls
  have hcl : clsIn K C = some { name := nm, bases := bs, mro := .ref C :: bm, ns := N, qualname := q, hasDict := true, slotNames := sn, subclasses := sub, abstract := ab, collection := col, hasDel := false } := by unfold clsIn; rw [hC] <;> rfl
  have bnd : BindsTo s (fnOf "__init__" "TreeError.__init__" (iA p1 p2) (iB q1 q2 q3 q4) iS .none kV doc pm an cdv ct) ⟨.ref x :: us, kw⟩ [("self", .ref x), ("value", v)] := by
    rcases hkw with ⟨rfl, rfl⟩ | ⟨rfl, rfl⟩
    · exact BindsTo.of_eq (by first | rfl | with_unfolding_all rfl)
    · exact BindsTo.of_eq (by first | rfl | with_unfolding_all rfl)
  refine Att.call_fn (binds := [("self", .ref x), ("value", v)]) X hlim ho hcd hroom bnd (by first | rfl | decide | with_unfolding_all rfl) (fun s₁ IC => ?_) rfl rfl rfl
  obtain ⟨h₁, tk₁, rfl⟩ := IC.toInCall.same
  have k : ∀ b o, s.heap.get? b = some o → h₁.get? b = some o := IC.toInCall.keep
  have hn := IC.toInCall.ns
  have X₁ : K.In h₁ := X.keeps k
  have hx₁ := k _ _ hx
  show wpAny _ _ (execs _ _) _ _ _
  refine wpAny_execs_cons (plainObj_wpAny_Assign_Attribute ?_)
  refine ldC (v := v) hn (by first | rfl | with_unfolding_all rfl | kernel_rfl) (ldC (v := .ref x) hn (by first | rfl | with_unfolding_all rfl | kernel_rfl) ?_)
  refine set_plain X₁ (ox := excO C t0) (od := none) ⟨hx₁, rfl, rfl, trivial⟩ T.sa ?_
  refine exc_osa X₁ hx₁ hcl (show refsVE (.ref C :: bm) = true from hbm) rfl T.noN (fun h₃ tk₃ dx k₃ dn dne hx₃ hn₃ => ?_)
  show wpAny _ _ (execs _ _) _ _ _
  have z : s.heap.objs.size < h₁.objs.size := hn.lt
  exact wpAny_execs_nil (hq h₃ tk₃ dx ⟨fun b o hb e => k₃ b o hb (k b o e), hx₃, Nat.le_of_lt (Nat.lt_of_lt_of_le z dn), dne, hn₃⟩)
theorem low_made (T : LowTxt K C fI) {v : Value} (X : K.In s.heap) (hlim : s.heap.NoLimit) (hroom : A.depth + 1 < recursionLimit)
    (hq : ∀ h' tk e d, OwnMade s.heap h' e C d v → R (.ok (.ret (.ref e))) { s with heap := h', toks := tk }) :
    codeAny (model prog w) A (.call (.ref C) ⟨[v], []⟩) R s := by
  obtain ⟨nm, q, N, bs, bm, sn, sub, ab, col, dd, k0, k1, k2, k3, k5, hC, hbm⟩ := T.cls
  obtain ⟨hp, g, dr, tk, os⟩ := s
  have k : ∀ b o, hp.get? b = some o → ((hp.push (kdv_tup [v])).push (excO C hp.objs.size)).get? b = some o := fun b o e => Heap.get?_push_of_some _ (Heap.get?_push_of_some _ e)
  have hget : ((hp.push (kdv_tup [v])).push (excO C hp.objs.size)).get? (hp.objs.size + 1) = some (excO C hp.objs.size) := by heap_get
  have hnx : K.lookup (hp.objs.size + 1) = none := by
    cases e : K.lookup (hp.objs.size + 1) with
    | none => rfl
    | some o =>
      have z : hp.get? (hp.objs.size + 1) = some o := X _ _ e
      exact absurd (Nat.lt_of_succ_lt (Heap.lt_size z)) (Nat.lt_irrefl _)
  refine call_own F.excBase_ValueError (fun X => refsVE_contains X bm hbm) (X _ _ hC) (looks_findIn X T.iC) (fun self => bind_fn X self T.tC) (one_size v) ?_
  refine low_init (s := ⟨(hp.push (kdv_tup [v])).push (excO C hp.objs.size), g, dr, tk, os⟩) T (X.keeps k) (hlim.keeps k) hget hnx ?_ (fun h' tk' dx ⟨k', hx, dn, dne, hns⟩ => ?_) (.inl ⟨rfl, rfl⟩)
  · show A.depth + 1 < recursionLimit
    exact hroom
  · have old : ∀ b o, hp.get? b = some o → h'.get? b = some o := fun b o e => k' b o (Nat.ne_of_lt (Nat.lt_succ_of_lt (Heap.lt_size e))) (k b o e)
    have z : hp.objs.size + 1 + 1 ≤ dx := by
      first
        | (simpa only [Heap.size_push] using dn)
        | exact dn
        | (have q := dn; rw [Heap.size_push, Heap.size_push] at q; exact q)
    exact ⟨rfl, hq h' tk' (hp.objs.size + 1) dx ⟨old, Nat.le_succ _, ⟨_, _, hx, rfl, rfl, rfl, rfl⟩, Nat.le_trans (Nat.le_trans (Nat.le_succ _) (Nat.le_succ _)) z, dne, hns⟩⟩
end
end TErr
end PySem
namespace MP
open PySem PySem.Spec PyProof.Rows L2 TL
theorem relO_val {v : V} {v' : Value} (r : RelV v v') (f : Str) : RelO (List.lookup f [(("value" : Str), v)]) (if f = "value" then some v' else none) := by
  by_cases hw : f = "value"
  · subst hw
    rw [if_pos rfl]
    have q : List.lookup ("value" : Str) [(("value" : Str), v)] = some v := by simp [List.lookup]
    rw [q]
    exact r
  · rw [if_neg hw]
    have qw : (f == ("value" : Str)) = false := by simpa using hw
    have q2 : List.lookup f [(("value" : Str), v)] = none := by simp [List.lookup, qw]
    rw [q2]
    trivial
section
variable {X : Cx} {C fI : Addr}
/-- E(e), E the error class at C -/
def tMkErr (C : Addr) (ta : TA) : St → Hp → XK → Prop := fun σ H Q => ta σ H fun vs H1 => ∃ v, vs = [v] ∧ ∀ d, H1 d = none → Q (.ref C) (some d) (upd H1 d (.xd [(("value" : Str), v)]))
theorem pmk_err {a : Expr} {x : Str} {ta : TA} {p pos : Pos} {k : Nat} (T : PySem.TErr.LowTxt X.K C fI) (hC : X.mg x = some (.ref C)) (hr : Room k X.A) (ha : PA X [a] ta) (hg : Gl X x) (hdb : (x == ("__debug__" : Str)) = false := by decide)
    (he : starEach (a :: []) X.env = (false, eval a X.env) :: starEach [] X.env := by rfl) (hpl : (backTo pos (starEach [] X.env)).any (·.1) = false := by rfl) :
    PMk X (.Call (.Name x p) [a] [] pos) (tMkErr C ta) := by
  intro pins s σ H Q I h
  refine wpAny_Call_Name_kw (ld_glob I hg hC ?_ hdb)
  refine PySem.W.callWith_K (h₀ := X.base) I.ok.mod.kin T.kC (thn (ha.run pos pins s σ H _ I h) fun us s1 hh => ?_) he hpl
  obtain ⟨vs, H1, I1, r1, v, ev, q1⟩ := hh
  subst ev
  refine ⟨I1.kIn, ?_⟩
  cases r1 with
  | cons rv rn =>
    rename_i v' us'
    cases rn
    show wpAny _ _ (call (.ref C) [v']) _ _ _
    have hlim := I1.nolimit
    obtain ⟨hp, g, dr, tk, os⟩ := s1
    refine wpAny_call (PySem.TErr.low_made T I1.kIn hlim (by have := hr.dp; omega) fun h' tk' e d M => ?_)
    show MkP X pins σ Q (.ref e) ⟨h', g, dr, tk', os⟩
    obtain ⟨oe, fv, hoe, hc, hd, hdat, h1⟩ := M.obj
    have hns := M.ns
    obtain ⟨G', g1, g2⟩ := restrict h' fun b => decide (b ≠ e)
    have gk : ∀ b, b ≠ e → G'.get? b = h'.get? b := fun b hb => g1 b (decide_eq_true hb)
    have ge : G'.get? e = none := g2 e (by simp)
    have old : ∀ b o, hp.get? b = some o → G'.get? b = some o := fun b o q => (gk b (Nat.ne_of_lt (Nat.lt_of_lt_of_le (Heap.lt_size q) M.new))).trans (M.keep b o q)
    have ob : ObjOk X.prog X.w (upd H1 d (.xd [(("value" : Str), v)])) G' d (.xd [(("value" : Str), v)]) :=
      ⟨_, hns.at (fun o q => (gk d M.dne).trans q), fun f => relO_val rv f⟩
    have J : Inv X pins σ (upd H1 d (.xd [(("value" : Str), v)])) ⟨G', g, dr, tk', os⟩ := I1.laid (t' := tk') old M.dbig ob
    refine ⟨e, oe, fv, ⟨G', g, dr, tk', os⟩, _, .ref C, some d, rfl, J, fun b o q => ?_, ge, hoe, ⟨hc, hd⟩, hdat, h1, ?_, rfl, I1.bare, raises_own T.exC T.tyC, q1 d (I1.hok.fresh M.dbig)⟩
    · by_cases hb : b = e
      · have q' : G'.get? b = some o := q
        rw [hb, ge] at q'; cases q'
      · exact (gk b hb).symm.trans q
    · rw [upd_ne (Ne.symm M.dne)]
      exact I1.hok.fresh M.new
/-- raise E(e) -/
theorem ls_raise {xa : Option (Nat × Addr × Value × Option Addr)} {a : Expr} {x : Str} {te : PTE} {W : WX} {p pos pos2 : Pos} {k : Nat} (hc : X.calm = true) (T : PySem.TErr.LowTxt X.K C fI) (hC : X.mg x = some (.ref C)) (hr : Room k X.A) (tk : Takes X W) (ha : PE X a (lE (gX X) xa W te)) (hg : Gl X x) (hdb : (x == ("__debug__" : Str)) = false := by decide)
    (he : starEach (a :: []) X.env = (false, eval a X.env) :: starEach [] X.env := by rfl) (hpl : (backTo pos (starEach [] X.env)).any (·.1) = false := by rfl) :
    PS X (.Raise (some (.Call (.Name x p) [a] [] pos)) none pos2) (lS (gX X) xa W (pRaise x te)) := by
  refine PS_imp (ps_raise hc tk (pmk_err T hC hr (pa_cons ha pa_nil he) hg hdb he hpl)) fun D σ H h => ?_
  obtain ⟨ρ, τ, h, Dp, R, S, hp, kk⟩ := h
  refine eE R S hp kk fun ρ1 H1 h1 x1 v E1 R1 r1 q1 => ⟨v, rfl, fun d hd => ?_⟩
  obtain ⟨E2, R2, _⟩ := R1.skip (o := .xd [(("value" : Str), v)]) hd
  exact kk.ex ρ1 _ h1 τ σ x x1 _ _ (E1.trans E2) R2 ((S.mono R.trk E1).mono R1.trk E2) ⟨C, d, v, hC, rfl, rfl, upd_same, r1.mono R1.trk E2⟩ q1
end
/-! ### caught errors -/
structure ErrTab (K : PySem.W.Frag) (mg : Str → Option Value) (es : List Str) : Prop where
  low : ∀ c ∈ es, ∃ C fI, mg c = some (.ref C) ∧ PySem.TErr.LowTxt K C fI
  exm : ∀ c ∈ es, ∀ c' ∈ es, ∀ C C' : Addr, mg c = some (.ref C) → mg c' = some (.ref C') → PySem.W.exmOne K (.ref C) (.ref C') = some (catches c c')
/-- what an except clause does with an error: its class is one of the table's -/
def exAsT (es : List Str) (cls : Str) (i : Nat) (su : PTS) (D : PD) (c : Str) (v : PV) (τ : PSt) (h : PHeap) : Prop := c ∈ es ∧ exAs cls i su D c v τ h
def pTryT (es : List Str) (tb : PTS) (cls : Str) (i : Nat) (su : PTS) : PTS := fun D τ h => tb { D with ex := exAsT es cls i su D } τ h
theorem RS.up {G : LG} {xa : XA} {ρ : List Addr} {H : Hp} {τ : PSt} {σ : St} (s : RS G none ρ H τ σ) : RS G xa ρ H τ σ := ⟨s.1, fun i x e => by
  obtain ⟨v, e', r⟩ := s.2 i x e
  refine ⟨v, e', ?_⟩
  cases x with
  | exc c x =>
    obtain ⟨a, C, dd, u, e1, e2, _⟩ := r
    cases e2
  | _ => exact r⟩
theorem RS.down {G : LG} {ρ : List Addr} {H : Hp} {τ : PSt} {σ : St} {i : Nat} {z : Addr × Value × Option Addr} {o : Option V} (s : RS G (some (i, z)) ρ H τ σ) : RS G none ρ H (τ.set i none) (σ.set i o) := by
  have s2 := s.unset (i := i) (o := o)
  refine ⟨s2.1, fun j x e => ?_⟩
  obtain ⟨v, e', r⟩ := s2.2 j x e
  refine ⟨v, e', ?_⟩
  cases x with
  | exc c x =>
    obtain ⟨a, C, dd, u, e1, e2, _⟩ := r
    have ej : i = j := by
      have q := Option.some.inj e2
      exact congrArg (fun z : Nat × Addr × Value × Option Addr => z.1) q
    subst ej
    have hl : i < τ.length := by
      have z := (List.getElem?_eq_some_iff.mp e).1
      rwa [List.length_set] at z
    rw [List.getElem?_set_self hl] at e
    cases e
  | _ => exact r
section
variable {X : Cx}
theorem ls_tryAs {es : List Str} {x n : Str} {C : Addr} {i : Nat} {sb suite : List Stmt} {b₀ : Stmt} {np pos pos' : Pos} {tb : PTS} {su : PTS} {W : WX}
    (T : ErrTab X.K X.mg es) (hx : x ∈ es) (hC : X.mg x = some (.ref C)) (hs : X.stack = X.env :: X.outer) (hf : X.env.frame = some X.env.locals) (hN : X.N.Nodup) (hi : X.N[i]? = some n) (hln : X.env.kindOf n = some .local) (hc : Names X x (.ref C)) (tk : Takes X W)
    (hb : ∀ (W : WX) (pn : List (Addr × Obj)) (xe : Value → Shared → Prop), Takes (X.tr pn xe) W → PassesOwn (model X.prog X.w) X.A X.env xe → PSs (X.tr pn xe) sb (lS (gX X) none W tb))
    (hsu : ∀ (a : Addr) (oe : Obj) (cls : Value) (d : Option Addr) (pn : List (Addr × Obj)), Zc cls d oe → (∃ vs, oe.data = .fields vs) → PSs (X.suite a ((a, oe) :: pn)) (b₀ :: suite) (lS (gX X) (some (i, a, cls, d)) W0 su)) :
    PS X (.Try sb [.ExceptHandler (some (.Name x np)) (some n) (b₀ :: suite) pos'] [] [] pos) (lS (gX X) none W (pTryT es tb x i su)) := by
  refine PS_imp (ps_try_as (i := i) (tb := fun W => lS (gX X) none W tb) (ts := fun a cls d => lS (gX X) (some (i, a, cls, d)) W0 su) (Wout := W) hs hf hN hi hln hc tk hb hsu) fun D σ H h => ?_
  obtain ⟨ρ, τ, h, Dp, R, S, hp, k⟩ := h
  refine ⟨ρ, τ, h, _, R, S, hp, ⟨k.nx, k.rt, k.bk, k.ct, fun ρ1 H1 h1 τ1 σ1 c v cls d E1 R1 S1 rx q1 => ?_⟩⟩
  obtain ⟨hm, q1⟩ := q1
  obtain ⟨Cc, dd, u, hmc, rfl, rfl, hd, rv⟩ := rx
  refine ⟨catches c x, T.exm c hm x hx Cc C hmc hC, fun e a ha => ?_, fun e => ?_⟩
  · have q2 : su (Dp.out i) (τ1.set i (some (.exc c v))) h1 := by
      have q2 := q1
      unfold exAs at q2
      rw [e, if_pos rfl] at q2
      exact q2
    refine ⟨ρ1, _, h1, _, R1, S1.up.setO (xa := some (i, a, .ref Cc, some dd)) (x := .exc c v) (v := .ref a) ⟨a, Cc, dd, u, rfl, rfl, hmc, hd, rv⟩, q2, ⟨fun ρ2 H2 h2 τ2 σ2 E2 R2 S2 q3 => ?_, fun ρ2 H2 h2 y w E2 R2 r2 q3 => ?_, fun ρ2 H2 h2 τ2 σ2 E2 R2 S2 q3 => ?_, fun ρ2 H2 h2 τ2 σ2 E2 R2 S2 q3 => ?_, fun _ _ _ _ _ _ _ _ _ _ _ _ _ z => z⟩⟩
    · exact k.nx ρ2 H2 h2 _ _ (E1.trans E2) R2 S2.down q3
    · exact k.rt ρ2 H2 h2 y w (E1.trans E2) R2 r2 q3
    · exact k.bk ρ2 H2 h2 _ _ (E1.trans E2) R2 S2.down q3
    · exact k.ct ρ2 H2 h2 _ _ (E1.trans E2) R2 S2.down q3
  · have q2 := q1
    unfold exAs at q2
    rw [e, if_neg Bool.false_ne_true] at q2
    exact k.ex ρ1 H1 h1 τ1 σ1 c v _ _ E1 R1 S1 ⟨Cc, dd, u, hmc, rfl, rfl, hd, rv⟩ q2
/-- the value of the error that the suite holds (in slot i) -/
def pErrVal (es : List Str) (i : Nat) : PTE := fun τ h Q _ => match τ[i]? with
  | some (some (.exc c v)) => c ∈ es ∧ Q v h
  | _ => False
theorem xfC_of {K : PySem.W.Frag} {C fI : Addr} (T : PySem.TErr.LowTxt K C fI) : XfC K C := ⟨T.ga, T.gg, T.exC, T.hdC⟩
theorem le_errVal {es : List Str} {n : Str} {a : Addr} {oe : Obj} {cls : Value} {d : Option Addr} {pn : List (Addr × Obj)} {i : Nat} {W : WX} {pos pos' : Pos} (T : ErrTab X.K X.mg es)
    (hz : Zc cls d oe) (hf : ∃ vs, oe.data = .fields vs) (hv : PE (X.suite a ((a, oe) :: pn)) (.Name n pos') (tVar i)) (hb : attributeBase (.Name n pos') "value" X.env (eval (.Name n pos') X.env) = eval (.Name n pos') X.env := by rfl) :
    PE (X.suite a ((a, oe) :: pn)) (.Attribute (.Name n pos') "value" pos) (lE (gX X) (some (i, a, cls, d)) W (pErrVal es i)) := by
  refine ⟨fun pins s σ H Q I h => ?_⟩
  obtain ⟨ρ, τ, h, Qp, Ep, R, S, hp, k, kx⟩ := h
  unfold pErrVal at hp
  split at hp
  · rename_i c v e
    obtain ⟨hm, q⟩ := hp
    obtain ⟨w', ew, r⟩ := S.2 i _ e
    obtain ⟨a', C, dd, u, e1, e2, e3, e4, rv⟩ := r
    subst e1
    cases e2
    obtain ⟨C', fI, m', low⟩ := T.low c hm
    have m'' : X.mg c = some (.ref C) := e3
    rw [m''] at m'
    cases m'
    exact (pe_xf (xfC_of low) low.noN hz hf hv hb).run pins s σ H Q I ⟨_, ew, rfl, rfl, dd, _, u, rfl, e4, by simp [List.lookup], k ρ H h v u .refl R rv q⟩
  · exact hp.elim
end
/-! ### calls -/
section
variable {X : Cx} {xa : XA} {W : WX} {k : Nat} {f : Addr} {fd : FuncData} {ps : List Str} {sp : PSp} {x : Str} {p pos : Pos} {e : Expr} {es : List Expr} {t : PTA}
theorem call_of {σ : St} {H : Hp} {Q : VK} {dp : List PV} {dvs : List V} (hd : ∀ ρ H, RVs (gX X) ρ H dp dvs) (h : lE (gX X) xa W (pCall (fun vs => sp (vs ++ dp)) t) σ H Q) : tCallSD (lSp (gX X) sp) dvs (fun σ cls d H => W cls d σ H) (lA (gX X) xa W t) σ H Q := by
  obtain ⟨ρ, τ, h, Qp, Ep, R, S, hp, kk, kx⟩ := h
  refine ⟨ρ, τ, h, _, Ep, R, S, hp, fun ρ1 H1 h1 xs vs E1 R1 r1 q1 => ?_, kx⟩
  exact ⟨ρ1, h1, xs ++ dp, Qp, Ep, R1, r1.append (hd ρ1 H1), q1, fun ρ2 H2 h2 y w E2 R2 r2 q2 => kk ρ2 H2 h2 y w (E1.trans E2) R2 r2 q2, fun ρ2 H2 h2 c y cls d E2 R2 r2 q2 => kx ρ2 H2 h2 c y cls d (E1.trans E2) R2 r2 q2⟩
theorem wpass {W : WX} (tk : Takes X W) (σ : St) : PassesAt (L2.CX X.prog X.w) X σ (fun cls d H => W cls d σ H) := fun _ _ _ e s' I c => tk e s' (XE.of_call I (fun _ _ _ h => h) c)
/-- f(e, ..) -/
theorem le_call (F : FnOk X.prog X.w X.K X.mg X.base (L2.CX X.prog X.w) k f fd ps (lSp (gX X) sp)) (hr : Room k X.A) (hg : Gl X x) (hm : X.mg x = some (.ref f)) (hk : PySem.W.keepIn X.K (.ref f) = true) (hb : Binds X.K fd ps []) (tk : Takes X W)
    (ha : PA X (e :: es) (lA (gX X) xa W t)) (hdb : (x == ("__debug__" : Str)) = false := by decide) (he : starEach (e :: es) X.env = (false, eval e X.env) :: starEach es X.env := by rfl) (hpl : (backTo pos (starEach es X.env)).any (·.1) = false := by rfl) :
    PE X (.Call (.Name x p) (e :: es) [] pos) (lE (gX X) xa W (pCall sp t)) :=
  PE_imp (pe_callSD F hr hg hm hk hb .nil (fun σ => wpass tk σ) ha hdb he hpl) fun σ H Q h => call_of (dp := []) (fun _ _ => .nil) (by
    have e : (fun vs : List PV => sp (vs ++ [])) = sp := by funext vs; rw [List.append_nil]
    rw [e]
    exact h)
/-- f() -/
theorem le_call0 (F : FnOk X.prog X.w X.K X.mg X.base (L2.CX X.prog X.w) k f fd ps (lSp (gX X) sp)) (hr : Room k X.A) (hg : Gl X x) (hm : X.mg x = some (.ref f)) (hk : PySem.W.keepIn X.K (.ref f) = true) (hb : Binds X.K fd ps []) (tk : Takes X W)
    (hdb : (x == ("__debug__" : Str)) = false := by decide) : PE X (.Call (.Name x p) [] [] pos) (lE (gX X) xa W (pCall sp pNil)) := by
  refine ⟨fun pins s σ H Q I h => ?_⟩
  obtain ⟨ρ, τ, h, Qp, Ep, R, S, hp, kk, kx⟩ := h
  refine wpAny_Call_Name_kw (ld_glob I hg hm ?_ hdb)
  exact PySem.W.callWith_K0 I.kIn hk (run_fnSD (us := []) (dvs := []) (E := fun σ cls d H => W cls d σ H) F hr hb .nil (wpass tk σ) I .nil ⟨ρ, h, [], Qp, Ep, R, .nil, hp, fun ρ2 H2 h2 y w E2 R2 r2 q2 => kk ρ2 H2 h2 y w E2 R2 r2 q2, fun ρ2 H2 h2 c y cls d E2 R2 r2 q2 => kx ρ2 H2 h2 c y cls d E2 R2 r2 q2⟩)
/-! keywords -/
def pick {α : Type} (p : List Nat) (xs : List α) : List α := p.filterMap fun i => xs[i]?
theorem pick_rv {G : LG} {ρ : List Addr} {H : Hp} {xs : List PV} {vs : List V} (r : RVs G ρ H xs vs) : ∀ p : List Nat, RVs G ρ H (pick p xs) (pick p vs)
  | [] => .nil
  | i :: p => by
    unfold pick
    rw [List.filterMap_cons, List.filterMap_cons]
    cases e : xs[i]? with
    | none =>
      have e2 : vs[i]? = none := List.getElem?_eq_none (by rw [← r.length]; exact List.getElem?_eq_none_iff.mp e)
      rw [e2]
      exact pick_rv r p
    | some x =>
      obtain ⟨v, ev, rv⟩ := r.get e
      rw [ev]
      exact .cons rv (pick_rv r p)
theorem pick_vals {vs : List V} {us : List Value} (r : Vals vs us) : ∀ p : List Nat, Vals (pick p vs) (pick p us)
  | [] => .nil
  | i :: p => by
    unfold pick
    rw [List.filterMap_cons, List.filterMap_cons]
    cases e : vs[i]? with
    | none =>
      rw [r.none_of e]
      exact pick_vals r p
    | some x =>
      obtain ⟨v, ev, rv⟩ := r.get e
      rw [ev]
      exact .cons rv (pick_vals r p)
/-- how a call with keywords binds: perm names, parameter by parameter, the place among the values as they are written -/
def KwBinds (K : PySem.W.Frag) (fd : FuncData) (ps ks : List Str) (n : Nat) (perm : List Nat) : Prop :=
  ∀ (s : Shared) (us ws : List Value), K.In s.heap → us.length = n → ws.length = ks.length → BindsTo s fd ⟨us, ks.zip ws⟩ (ps.zip (pick perm (us ++ ws)))
theorem FunD.kwb {K : PySem.W.Frag} {fd : FuncData} {xn qual : Str} {params : Arguments} {body : List Stmt} {scope : Scope} {kws : List (Str × V)} (F : FunD K xn qual params body scope [] kws f fd) {ks : List Str} {n : Nat} {perm : List Nat}
    (h : ∀ (kV doc pm : Value) (an : Option Addr) (cdv ct : Value) (us ws : List Value), us.length = n → ws.length = ks.length → bindArgs (PySem.W.fnOf xn qual params body scope .none kV doc pm an cdv ct) ⟨us, ks.zip ws⟩ = pure (ps.zip (pick perm (us ++ ws)))) : KwBinds K fd ps ks n perm := by
  obtain ⟨oc, od, dV, kV, doc, pm, an, cdv, ct, osl, rfl, lk, hcd, hD, hK⟩ := F.ex
  rcases hD with ⟨_, rfl⟩ | ⟨e, _⟩
  · exact fun s us ws _ h1 h2 => .of_eq (h kV doc pm an cdv ct us ws h1 h2)
  · exact absurd rfl e
def pCallK (sp : PSp) (n m : Nat) (perm : List Nat) (t tk : PTA) : PTE := fun τ h Q E => t τ h (fun vs h1 => tk τ h1 (fun zs h2 => vs.length = n ∧ zs.length = m ∧ sp (pick perm (vs ++ zs)) h2 Q E) E) E
variable {ks : List Str} {n : Nat} {perm : List Nat} {kws : List Keyword} {tk' : PTA}
theorem run_fnKS {pins : List (Addr × Obj)} {σ : St} {H : Hp} {s : Shared} {Q : VK} {us ws : List Value} {vs zs : List V} {sp : Sp} {E : XK} (F : FnOk X.prog X.w X.K X.mg X.base (L2.CX X.prog X.w) k f fd ps sp) (hr : Room k X.A) (hb : KwBinds X.K fd ps ks n perm) (hx : PassesAt (L2.CX X.prog X.w) X σ E)
    (I : Inv X pins σ H s) (r : Vals vs us) (rz : Vals zs ws) (l1 : vs.length = n) (l2 : zs.length = ks.length) (h : sp (pick perm (vs ++ zs)) H Q E) : wpAny (model X.prog X.w) X.A (call (.ref f) us (ks.zip ws)) (EP X pins σ Q) X.xe s := by
  refine wpAny_call (codeAny_mono (F.run X.A X.stack s H ⟨us, ks.zip ws⟩ (pick perm (us ++ ws)) (pick perm (vs ++ zs)) Q E hr I.env0 (hb s us ws I.kIn (r.length.symm.trans l1) (rz.length.symm.trans l2)) (pick_vals (r.append rz) perm) h) fun r s' hq => ?_)
  cases r with
  | error e => exact hx pins H s e s' I hq
  | ok fl =>
    cases fl with
    | ret u => exact I.after hq
    | next => exact False.elim hq
    | brk => exact False.elim hq
    | cont => exact False.elim hq
theorem le_callK (F : FnOk X.prog X.w X.K X.mg X.base (L2.CX X.prog X.w) k f fd ps (lSp (gX X) sp)) (hr : Room k X.A) (hg : Gl X x) (hm : X.mg x = some (.ref f)) (hk : PySem.W.keepIn X.K (.ref f) = true) (hb : KwBinds X.K fd ps ks n perm) (tk : Takes X W)
    (ha : PA X (e :: es) (lA (gX X) xa W t)) (hkw : PK X kws (lA (gX X) xa W tk')) (hall : (backToKw pos (keywordEach kws X.env)).all (·.1.isSome) = true := by rfl) (hks : (backToKw pos (keywordEach kws X.env)).filterMap (·.1) = ks := by rfl)
    (hdb : (x == ("__debug__" : Str)) = false := by decide) (he : starEach (e :: es) X.env = (false, eval e X.env) :: starEach es X.env := by rfl)
    (hpl : ((backTo pos (starEach (e :: es) X.env)).any (·.1) || (backToKw pos (keywordEach kws X.env)).any (·.1.isNone)) = false := by rfl) :
    PE X (.Call (.Name x p) (e :: es) kws pos) (lE (gX X) xa W (pCallK sp n ks.length perm t tk')) := by
  refine ⟨fun pins s σ H Q I h => ?_⟩
  obtain ⟨ρ, τ, h, Qp, Ep, R, S, hp, kk, kx⟩ := h
  refine wpAny_Call_Name_kw (ld_glob I hg hm ?_ hdb)
  refine PySem.W.callWith_KW (h₀ := X.base) I.ok.mod.kin hk hall (thn (ha.run pos pins s σ H (fun vs H1 => lA (gX X) xa W tk' σ H1 fun zs H2 => vs.length = n ∧ zs.length = ks.length ∧ lSp (gX X) sp (pick perm (vs ++ zs)) H2 Q (fun cls d H => W cls d σ H)) I ?_) fun us s1 ⟨vs, H1, I1, r, q⟩ => ?_) hpl he
  · refine ⟨ρ, τ, h, _, Ep, R, S, hp, fun ρ1 H1 h1 xs vs E1 R1 r1 q1 => ?_, kx⟩
    refine ⟨ρ1, τ, h1, _, Ep, R1, S.mono R.trk E1, q1, fun ρ2 H2 h2 ys us E2 R2 r2 q2 => ?_, kx.mono E1⟩
    obtain ⟨l1, l2, q2⟩ := q2
    exact ⟨by rw [← r1.length]; exact l1, by rw [← r2.length]; exact l2, ρ2, h2, _, Qp, Ep, R2, pick_rv ((r1.mono R1.trk E2).append r2) perm, q2, fun ρ3 H3 h3 y w E3 R3 r3 q3 => kk ρ3 H3 h3 y w (E1.trans (E2.trans E3)) R3 r3 q3, fun ρ3 H3 h3 c y cls d E3 R3 r3 q3 => kx ρ3 H3 h3 c y cls d (E1.trans (E2.trans E3)) R3 r3 q3⟩
  · refine thn (hkw.run pos pins s1 σ H1 _ I1 q) fun ws s2 ⟨zs, H2, I2, rz, l1, l2, q2⟩ => ⟨I2.kIn, ?_⟩
    rw [hks]
    exact run_fnKS F hr hb (wpass tk σ) I2 r rz l1 l2 q2
theorem le_callK0 (F : FnOk X.prog X.w X.K X.mg X.base (L2.CX X.prog X.w) k f fd ps (lSp (gX X) sp)) (hr : Room k X.A) (hg : Gl X x) (hm : X.mg x = some (.ref f)) (hk : PySem.W.keepIn X.K (.ref f) = true) (hb : KwBinds X.K fd ps ks 0 perm) (tk : Takes X W)
    (hkw : PK X kws (lA (gX X) xa W tk')) (hall : (backToKw pos (keywordEach kws X.env)).all (·.1.isSome) = true := by rfl) (hks : (backToKw pos (keywordEach kws X.env)).filterMap (·.1) = ks := by rfl)
    (hdb : (x == ("__debug__" : Str)) = false := by decide)
    (hpl : ((backTo pos (starEach [] X.env)).any (·.1) || (backToKw pos (keywordEach kws X.env)).any (·.1.isNone)) = false := by rfl) :
    PE X (.Call (.Name x p) [] kws pos) (lE (gX X) xa W (pCallK sp 0 ks.length perm pNil tk')) := by
  refine ⟨fun pins s σ H Q I h => ?_⟩
  obtain ⟨ρ, τ, h, Qp, Ep, R, S, hp, kk, kx⟩ := h
  refine wpAny_Call_Name_kw (ld_glob I hg hm ?_ hdb)
  refine PySem.W.callWith_KW0 (h₀ := X.base) I.ok.mod.kin hk hall (thn (hkw.run pos pins s σ H (fun zs H2 => zs.length = ks.length ∧ lSp (gX X) sp (pick perm ([] ++ zs)) H2 Q (fun cls d H => W cls d σ H)) I ?_) fun ws s2 ⟨zs, H2, I2, rz, l2, q2⟩ => ⟨I2.kIn, ?_⟩) hpl
  · refine ⟨ρ, τ, h, _, Ep, R, S, hp, fun ρ2 H2 h2 ys us E2 R2 r2 q2 => ?_, kx⟩
    obtain ⟨_, l2, q2⟩ := q2
    exact ⟨by rw [← r2.length]; exact l2, ρ2, h2, _, Qp, Ep, R2, pick_rv (xs := [] ++ ys) (vs := [] ++ us) r2 perm, q2, fun ρ3 H3 h3 y w E3 R3 r3 q3 => kk ρ3 H3 h3 y w (E2.trans E3) R3 r3 q3, fun ρ3 H3 h3 c y cls d E3 R3 r3 q3 => kx ρ3 H3 h3 c y cls d (E2.trans E3) R3 r3 q3⟩
  · rw [hks]
    exact run_fnKS F hr hb (wpass tk σ) I2 .nil rz rfl l2 q2
end
/-! ### a def -/
theorem rs_start {G : LG} {ρ : List Addr} {H : Hp} {N : List Str} {xs : List PV} {vs : List V} (r : RVs G ρ H xs vs) : RS G none ρ H (pstart N.length xs) (L2.start N vs) := by
  unfold pstart L2.start
  refine ⟨by rw [List.length_append, List.length_append, List.length_map, List.length_map, List.length_replicate, List.length_replicate, r.length], fun i x e => ?_⟩
  by_cases hi : i < xs.length
  · rw [List.getElem?_append_left (by rw [List.length_map]; exact hi), List.getElem?_map] at e
    obtain ⟨y, ey, e2⟩ := Option.map_eq_some_iff.mp e
    cases e2
    obtain ⟨v, ev, rv⟩ := r.get ey
    exact ⟨v, by rw [List.getElem?_append_left (by rw [List.length_map, ← r.length]; exact hi), List.getElem?_map, ev]; rfl, rv.ro⟩
  · rw [List.getElem?_append_right (by rw [List.length_map]; exact Nat.le_of_not_lt hi), List.getElem?_replicate] at e
    split at e <;> cases e
/-- a def keeps its promise: its derivation d, and the pure theorem pure -/
theorem ok_def {P : Program} {w : World} {K : PySem.W.Frag} {mg : Str → Option Value} {base : Heap} {x qual : Str} {params : Arguments} {sts : List Stmt} {scope : Scope} {dvs : List V} {kws : List (Str × V)} {f : Addr} {fd : FuncData} {N ps : List Str} {k : Nat} {sp : PSp} {t : PTS}
    (F : FunD K x qual params sts scope dvs kws f fd) (S : FnScope N ps scope) (len : ∀ vs h Q E, sp vs h Q E → vs.length = ps.length)
    (d : ∀ (cdv : Value) (A : Around) (outer : List Env) (s : Shared) (H : Hp) (E : XK), Room k (A.deeper (envOfC qual scope s.heap.objs.size f cdv)) → PSs (cxOf (L2.CX P w) P w K mg base N qual scope f cdv A outer s H E) sts (lS ⟨K, mg⟩ none (fun cls d _ H => E cls d H) t))
    (pure : ∀ vs h Q E, sp vs h Q E → t (body Q E) (pstart N.length vs) h) : FnOk P w K mg base (L2.CX P w) (k + 1) f fd ps (lSp ⟨K, mg⟩ sp) := by
  refine F.ok S (fun vs H Q E h => ?_) fun cdv A outer s H vs Q E hr h => ⟨_, d cdv A outer s H E hr, ?_⟩
  · obtain ⟨ρ, h, xs, Qp, Ep, R, r, hp, _⟩ := h
    rw [← r.length]
    exact len _ _ _ _ hp
  · obtain ⟨ρ, h, xs, Qp, Ep, R, r, hp, k1, k2⟩ := h
    exact ⟨ρ, _, h, body Qp Ep, R, rs_start r, pure xs h Qp Ep hp, ⟨fun ρ' H' h' τ' σ' E' R' S' q => k1 ρ' H' h' _ _ E' R' .non q, fun ρ' H' h' y v E' R' r' q => k1 ρ' H' h' y v E' R' r' q, fun _ _ _ _ _ _ _ _ z => z.elim, fun _ _ _ _ _ _ _ _ z => z.elim, fun ρ' H' h' τ' σ' c y cls d E' R' S' rx q => k2 ρ' H' h' c y cls d E' R' rx q⟩⟩
end MP
set_option maxHeartbeats 4000000
/-! MP9: the head's facts; short words for derivations. -/
namespace MP
open PySem PySem.Spec PyProof.Rows L2 TL

/-! ### a hook with any facts -/
def obsM (fb : PySem.W.Frag → Bool) (fn : List He.DefD) (K : PySem.W.Frag) : He.AlD := (fb K && fn.all fun d => d.ok K, fn.map fun d => He.fnW K d.at_)
def SaysM (fb : PySem.W.Frag → Bool) (fn : List He.DefD) (K : PySem.W.Frag) : Prop := obsM fb fn K = He.valD fn
def obsMG (n : Nat) (fb : PySem.W.Frag → Bool) (fn : List He.DefD) (g : Addr → Option Obj) : He.AlD := obsM fb fn (He.frG g (He.asD g n))
def hookM (n : Nat) (fb : PySem.W.Frag → Bool) (fn : List He.DefD) : PySem.W.Hook where
  α := He.AlD
  obs := fun s => obsMG n fb fn s.heap.get?
  val := fun _ => He.valD fn
  says := fun _ h => ∃ K : PySem.W.Frag, K.In h ∧ SaysM fb fn K
  of := fun _ _ e => ⟨_, He.frG_in, e⟩
  keeps := fun _ _ _ ⟨K, hK, c⟩ k => ⟨K, PySem.W.Frag.In.keeps hK k, c⟩
theorem obsMG_eq {n : Nat} {fb : PySem.W.Frag → Bool} {fn : List He.DefD} {g : Addr → Option Obj} {s : Shared} (h : ∀ a, g a = s.heap.get? a) : obsMG n fb fn g = (hookM n fb fn).obs s := by
  have e : g = s.heap.get? := funext h
  rw [e] <;> rfl
section
variable {fbb : PySem.W.Frag → Bool} {fn : List He.DefD} {K : PySem.W.Frag}
theorem SaysM.fb (c : SaysM fbb fn K) : fbb K = true := (He.ba (show (fbb K && fn.all fun d => d.ok K) = true from congrArg (fun z : He.AlD => z.1) c)).1
theorem SaysM.def_ (c : SaysM fbb fn K) (i : Nat) {d : He.DefD} (h : fn[i]? = some d := by rfl) : ∃ fd, FunD K d.name d.qual d.params d.body d.scope (d.dvs K) (d.kws K) (He.fAd K d.at_) fd := by
  have c2 := (He.ba (show (fbb K && fn.all fun d => d.ok K) = true from congrArg (fun z : He.AlD => z.1) c)).2
  have e : fn.map (fun d => He.fnW K d.at_) = fn.map He.DefD.val := congrArg (fun z : He.AlD => z.2) c
  have e2 : (fn.map fun d => He.fnW K d.at_)[i]? = (fn.map He.DefD.val)[i]? := by rw [e]
  rw [List.getElem?_map, List.getElem?_map, h] at e2
  exact He.DefD.funD (Option.some.inj e2) (List.all_eq_true.mp c2 d (List.mem_of_getElem? h))
end
/-! ### errors -/
def clsB (K : PySem.W.Frag) (C : Addr) : Bool := match K.lookup C with
  | some ⟨.type t, _, .cls ⟨_, _, .ref C' :: bm, _, _, true, _, _, _, _, false⟩, ⟨[_, _, _, _, some (.builtin n), _]⟩⟩ => decide (t = "type") && (decide (C' = C) && (decide (n = "ValueError.__new__") && PySem.HandSPX.refsVE bm))
  | _ => false
theorem clsB_ok {K : PySem.W.Frag} {C : Addr} (h : clsB K C = true) : ∃ nm q N bs bm sn sub ab col dd k0 k1 k2 k3 k5, K.lookup C = some (excClassObj nm q C N bs bm true sn sub ab col dd k0 k1 k2 k3 k5 "ValueError.__new__") ∧ PySem.HandSPX.refsVE bm = true := by
  unfold clsB at h
  split at h
  · rename_i e
    obtain ⟨h1, h⟩ := He.ba h
    obtain ⟨h2, h⟩ := He.ba h
    obtain ⟨h3, h4⟩ := He.ba h
    have e1 := of_decide_eq_true h1
    have e2 := of_decide_eq_true h2
    have e3 := of_decide_eq_true h3
    subst e1 e2 e3
    exact ⟨_, _, _, _, _, _, _, _, _, _, _, _, _, _, _, e, h4⟩
  · cases h
def initAd (K : PySem.W.Frag) : Addr := He.fAd K ("TreeError", some "__init__")
def lowB (K : PySem.W.Frag) (c : Str) : Bool := He.eqO (PySem.W.nsIn K mainGlobals c) (some (some (.ref (He.ga K c)))) && (clsB K (He.ga K c) && (He.eqO (PySem.W.findIn K (.ref (He.ga K c)) "__setattr__") (some (some (.builtin "object.__setattr__"))) && (He.eqO (PySem.W.findIn K (.ref (He.ga K c)) "__getattribute__") (some (some (.builtin "BaseException.__getattribute__"))) &&
  (He.eqO (PySem.W.findIn K (.ref (He.ga K c)) "__getattr__") (some none) && (He.eqO (PySem.W.findIn K (.ref (He.ga K c)) "value") (some none) && (He.eqO (PySem.W.findIn K (.ref (He.ga K c)) "__init__") (some (some (.ref (initAd K)))) && (decide (PySem.W.typeIn K (.ref (initAd K)) = some (.type "function")) &&
  (PySem.W.keepIn K (.ref (He.ga K c)) && (decide (PySem.W.subIn K (.ref (He.ga K c)) (.type "BaseException") = some true) && (decide (PySem.W.typeIn K (.ref (He.ga K c)) = some (.type "type")) && PySem.W.hasDictIn K (He.ga K c)))))))))))
/-- the __init__ of the base class, as the text has it -/
structure InitTxt (K : PySem.W.Frag) : Prop where
  fn : ∃ (oc : Value) (od : Option Addr) (kV doc pm : Value) (an : Option Addr) (cdv ct : Value) (osl : Array (Option Value)) (p1 p2 q1 q2 q3 q4 : Pos),
    K.lookup (initAd K) = some ⟨oc, od, .func (PySem.W.fnOf "__init__" "TreeError.__init__" (PySem.TErr.iA p1 p2) (PySem.TErr.iB q1 q2 q3 q4) PySem.TErr.iS .none kV doc pm an cdv ct), osl⟩ ∧ PySem.W.codeIn K cdv "TreeError.__init__" = true
theorem initTxt_of {K : PySem.W.Frag} {p1 p2 q1 q2 q3 q4 : Pos} {fd : FuncData} (F : FunD K "__init__" "TreeError.__init__" (PySem.TErr.iA p1 p2) (PySem.TErr.iB q1 q2 q3 q4) PySem.TErr.iS [] [] (initAd K) fd) : InitTxt K := by
  obtain ⟨oc, od, dV, kV, doc, pm, an, cdv, ct, osl, rfl, lk, hcd, hD, hK⟩ := F.ex
  rcases hD with ⟨_, rfl⟩ | ⟨e, _⟩
  · exact ⟨_, _, _, _, _, _, _, _, _, _, _, _, _, _, _, lk, hcd⟩
  · exact absurd rfl e
theorem low_ok {K : PySem.W.Frag} {c : Str} (I : InitTxt K) (h : lowB K c = true) : PySem.TErr.LowTxt K (He.ga K c) (initAd K) := by
  obtain ⟨h0, h⟩ := He.ba h
  obtain ⟨h1, h⟩ := He.ba h
  obtain ⟨h2, h⟩ := He.ba h
  obtain ⟨h3, h⟩ := He.ba h
  obtain ⟨h4, h⟩ := He.ba h
  obtain ⟨h5, h⟩ := He.ba h
  obtain ⟨h6, h⟩ := He.ba h
  obtain ⟨h7, h⟩ := He.ba h
  obtain ⟨h8, h⟩ := He.ba h
  obtain ⟨h9, h⟩ := He.ba h
  obtain ⟨h10, h11⟩ := He.ba h
  exact ⟨clsB_ok h1, He.eqO_ok h2, He.eqO_ok h3, He.eqO_ok h4, He.eqO_ok h5, He.eqO_ok h6, of_decide_eq_true h7, h8, of_decide_eq_true h9, of_decide_eq_true h10, h11, I.fn⟩
def errB (es : List Str) (K : PySem.W.Frag) : Bool := (es.all fun c => lowB K c) && (es.all fun c => es.all fun c' => decide (PySem.W.exmOne K (.ref (He.ga K c)) (.ref (He.ga K c')) = some (catches c c')))
theorem err_mg {K : PySem.W.Frag} {h : Heap} {mg : Str → Option Value} {es : List Str} (X : K.In h) (G : h.Ns mainGlobals mg) (e : errB es K = true) {c : Str} (hc : c ∈ es) : mg c = some (.ref (He.ga K c)) := by
  have q := List.all_eq_true.mp (He.ba e).1 c hc
  exact PySem.W.mg_of X G (He.eqO_ok (He.ba q).1)
theorem errTab_of {K : PySem.W.Frag} {h : Heap} {mg : Str → Option Value} {es : List Str} (X : K.In h) (G : h.Ns mainGlobals mg) (I : InitTxt K) (e : errB es K = true) : ErrTab K mg es := by
  refine ⟨fun c hc => ⟨He.ga K c, initAd K, err_mg X G e hc, low_ok I (List.all_eq_true.mp (He.ba e).1 c hc)⟩, fun c hc c' hc' C C' hC hC' => ?_⟩
  rw [err_mg X G e hc] at hC
  rw [err_mg X G e hc'] at hC'
  cases hC
  cases hC'
  exact of_decide_eq_true (List.all_eq_true.mp (List.all_eq_true.mp (He.ba e).2 c hc) c' hc')
/-! ### short words -/
def okB (s : Str) : Bool := decide (s.length ≤ 16777216) && PySem.PyData.strOk s
theorem okS_b {s : Str} (h : okB s = true) : okS s := by
  obtain ⟨h1, h2⟩ := He.ba h
  exact ⟨by rw [sizeLine_eq]; exact of_decide_eq_true h1, h2⟩
theorem Room.u65 {k : Nat} {A : Around} (r : Room k A) : A.units + 65 < cLine := by have := r.un; omega
/-- a promise with its number of arguments -/
def gd (n : Nat) (sp : PSp) : PSp := fun vs h Q E => vs.length = n ∧ sp vs h Q E
/-- what stands: the facts, over the base -/
structure HE (fb : PySem.W.Frag → Bool) (fn : List He.DefD) (K : PySem.W.Frag) (mg : Str → Option Value) (base : Heap) : Prop where
  c : SaysM fb fn K
  X : K.In base
  G : base.Ns mainGlobals mg
/-- a def keeps a promise -/
def Ok (P : Program) (w : World) (K : PySem.W.Frag) (mg : Str → Option Value) (base : Heap) (name : Str) (st : Stmt) (ps : List Str) (k : Nat) (sp : PSp) : Prop :=
  ∃ fd : FuncData, FunD K name name (defArgs st) (defBody st) (defScope st) [] [] (He.ga K name) fd ∧ FnOk P w K mg base (L2.CX P w) k (He.ga K name) fd ps (lSp ⟨K, mg⟩ (gd ps.length sp))
theorem ok_mk {P : Program} {w : World} {K : PySem.W.Frag} {mg : Str → Option Value} {base : Heap} {name : Str} {st : Stmt} {N ps : List Str} {k : Nat} {sp : PSp} {t : PTS} {fd : FuncData} (F : FunD K name name (defArgs st) (defBody st) (defScope st) [] [] (He.ga K name) fd) (S : FnScope N ps (defScope st))
    (d : ∀ (cdv : Value) (A : Around) (outer : List Env) (s : Shared) (H : Hp) (E : XK), Room k (A.deeper (envOfC name (defScope st) s.heap.objs.size (He.ga K name) cdv)) → PSs (cxOf (L2.CX P w) P w K mg base N name (defScope st) (He.ga K name) cdv A outer s H E) (defBody st) (lS ⟨K, mg⟩ none (fun cls d _ H => E cls d H) t))
    (pure : ∀ vs h Q E, vs.length = ps.length → sp vs h Q E → t (body Q E) (pstart N.length vs) h) : Ok P w K mg base name st ps (k + 1) sp :=
  ⟨fd, F, ok_def F S (fun _ _ _ _ h => h.1) d fun vs h Q E hh => pure vs h Q E hh.1 hh.2⟩
theorem le_call' {X : Cx} {xa : XA} {W : WX} {k : Nat} {f : Addr} {fd : FuncData} {ps : List Str} {sp : PSp} {x : Str} {p pos : Pos} {e : Expr} {es : List Expr} {t : PTA} (O : FnOk X.prog X.w X.K X.mg X.base (L2.CX X.prog X.w) k f fd ps (lSp (gX X) sp)) {name : Str} {st : Stmt} (F : FunD X.K name name (defArgs st) (defBody st) (defScope st) [] [] f fd) (hr : Room k X.A) (hm : X.mg x = some (.ref f)) (hb : Binds X.K fd ps []) (tk : Takes X W)
    (ha : PA X (e :: es) (lA (gX X) xa W t)) (hg : Gl X x := by rfl) (hdb : (x == ("__debug__" : Str)) = false := by decide) (he : starEach (e :: es) X.env = (false, eval e X.env) :: starEach es X.env := by rfl) (hpl : (backTo pos (starEach es X.env)).any (·.1) = false := by rfl) :
    PE X (.Call (.Name x p) (e :: es) [] pos) (lE (gX X) xa W (pCall sp t)) := le_call O hr hg hm F.kp hb tk ha hdb he hpl
end MP
set_option maxHeartbeats 4000000
/-! MP10: more rules. -/
namespace MP
open PySem PySem.Spec PyProof.Rows L2 TL

/-- s.join(a list or tuple that stands) -/
def rJoin : PMt := fun x vs h Q => match x with
  | .str a => match vs with
    | [y] => match itemsOf h y with
      | some xs => rJoinI a xs h Q
      | none => False
    | _ => False
  | _ => False
section
variable {X : Cx} {xa : Option (Nat × Addr × Value × Option Addr)} {W : WX} {e : Expr} {pos p : Pos}
theorem mm_join : MtR X "str.join" (lM (gX X) rJoin) := by
  intro pins s σ H u vs uu us Q I ru rr hh
  obtain ⟨ρ, h, x, xs, Qp, R, r1, r2, hp, k⟩ := hh
  unfold rJoin at hp
  split at hp
  · rename_i a
    split at hp
    · rename_i y
      obtain ⟨v, e, r'⟩ := one_rv r2
      subst e
      split at hp
      · rename_i ys ey
        obtain ⟨b, ws, e1, sq, l, rs⟩ := itemsOf_sq R r' ey
        subst e1
        cases r1 with
        | str oa =>
          unfold rJoinI at hp
          split at hp
          · rename_i zs ez
            obtain ⟨lz, q⟩ := hp
            obtain ⟨ew, oy⟩ := sts_vs rs ez
            subst ew
            exact mt_join pins s σ H _ _ uu us Q I ru rr ⟨a, b, zs, rfl, rfl, sq, lz, k ρ H h _ _ .refl R (.str (okS_join oa oy lz)) q⟩
          · exact hp.elim
      · exact hp.elim
    · exact hp.elim
  · exact hp.elim
/-- a module's tuple of plain constants -/
def dvP : He.Dv → Option PV
  | .non => some .non
  | .bl b => some (.bl b)
  | .int i => some (.int i)
  | .str s => some (.str s)
  | _ => none
def dvPs : List He.Dv → Option (List PV)
  | [] => some []
  | d :: ds => match dvP d, dvPs ds with
    | some x, some xs => some (x :: xs)
    | _, _ => none
def dvOk : He.Dv → Bool
  | .str s => okB s
  | _ => true
theorem dvPs_rv {G : LG} {ρ : List Addr} {H : Hp} : ∀ {ds : List He.Dv} {xs : List PV}, dvPs ds = some xs → ds.all dvOk = true → RVs G ρ H xs (ds.map (He.Dv.v G.K))
  | [], _, e, _ => by cases e; exact .nil
  | d :: ds, xs, e, o => by
    have e' : (match dvP d, dvPs ds with
      | some x, some xs => some (x :: xs)
      | _, _ => none) = some xs := e
    rw [List.all_cons] at o
    obtain ⟨o1, o2⟩ := He.ba o
    split at e'
    · rename_i y ys e1 e2
      cases e'
      refine .cons ?_ (dvPs_rv e2 o2)
      cases d with
      | non => cases e1; exact .non
      | bl b => cases e1; exact .bl b
      | int i => cases e1; exact .int i
      | str s => cases e1; exact .str (okS_b o1)
      | _ => cases e1
    · cases e'
theorem le_gtup {x : Str} {ds : List He.Dv} {xs : List PV} (hg : Gl X x) (hm : X.mg x = some (.ref (He.ga X.K x)) ∧ He.tupB X.K x ds = true) (hd : dvPs ds = some xs := by rfl) (ho : (decide (ds.length ≤ 16777216) && ds.all dvOk) = true := by decide +kernel) (hdb : (x == ("__debug__" : Str)) = false := by decide) :
    PE X (.Name x pos) (lE (gX X) xa W (pC (.tup xs))) := by
  obtain ⟨m, t⟩ := hm
  obtain ⟨h1, h2⟩ := He.ba ho
  refine le_c (pe_glob (v := .ref (He.ga X.K x)) hg m rfl hdb) fun ρ H => .tup (He.tupB_ok t H) ?_ (dvPs_rv hd h2)
  rw [List.length_map, sizeLine_eq]
  exact of_decide_eq_true h1

/-! ### isinstance of the error that the suite holds -/
structure IsC (K : PySem.W.Frag) (D : Addr) : Prop where
  hc : (PySem.W.clsIn K D).isSome = true
  ha : PySem.W.findIn K (.ref D) "__class__" = some (some (.builtin "object.__class__"))
  hn : PySem.W.specialIn K (.builtin "object.__class__") "__get__" = some (some (.builtin "getset_descriptor.__get__"))
  ht : PySem.W.takesIn K (.builtin "object.__class__") = some true
  hm : PySem.W.mroIn K D (.type "object") = some true
structure IsTab (K : PySem.W.Frag) (mg : Str → Option Value) (es : List Str) : Prop where
  cl : ∀ c ∈ es, ∀ C : Addr, mg c = some (.ref C) → IsC K C
  is : ∀ c ∈ es, ∀ c' ∈ es, ∀ C C' : Addr, mg c = some (.ref C) → mg c' = some (.ref C') → PySem.W.kitOne K (.ref C) (.ref C') = some (catches c c')
  ve : ∀ c ∈ es, ∀ C : Addr, mg c = some (.ref C) → PySem.W.kitOne K (.ref C) (.type "ValueError") = some true
def isB (es : List Str) (K : PySem.W.Frag) : Bool := (es.all fun c => (PySem.W.clsIn K (He.ga K c)).isSome && (He.eqO (PySem.W.findIn K (.ref (He.ga K c)) "__class__") (some (some (.builtin "object.__class__"))) && (He.eqO (PySem.W.specialIn K (.builtin "object.__class__") "__get__") (some (some (.builtin "getset_descriptor.__get__"))) && (decide (PySem.W.takesIn K (.builtin "object.__class__") = some true) && (decide (PySem.W.mroIn K (He.ga K c) (.type "object") = some true) && decide (PySem.W.kitOne K (.ref (He.ga K c)) (.type "ValueError") = some true))))))
  && (es.all fun c => es.all fun c' => decide (PySem.W.kitOne K (.ref (He.ga K c)) (.ref (He.ga K c')) = some (catches c c')))
theorem isTab_of {K : PySem.W.Frag} {h : Heap} {mg : Str → Option Value} {es : List Str} (X : K.In h) (G : h.Ns mainGlobals mg) (e : errB es K = true) (i : isB es K = true) : IsTab K mg es := by
  obtain ⟨i1, i2⟩ := He.ba i
  have q : ∀ c ∈ es, ∀ C : Addr, mg c = some (.ref C) → C = He.ga K c := fun c hc C hC => by
    rw [err_mg X G e hc] at hC
    cases hC
    rfl
  refine ⟨fun c hc C hC => ?_, fun c hc c' hc' C C' hC hC' => ?_, fun c hc C hC => ?_⟩
  · cases q c hc C hC
    have z := List.all_eq_true.mp i1 c hc
    obtain ⟨z1, z⟩ := He.ba z
    obtain ⟨z2, z⟩ := He.ba z
    obtain ⟨z3, z⟩ := He.ba z
    obtain ⟨z4, z⟩ := He.ba z
    obtain ⟨z5, z6⟩ := He.ba z
    exact ⟨z1, He.eqO_ok z2, He.eqO_ok z3, of_decide_eq_true z4, of_decide_eq_true z5⟩
  · cases q c hc C hC
    cases q c' hc' C' hC'
    exact of_decide_eq_true (List.all_eq_true.mp (List.all_eq_true.mp i2 c hc) c' hc')
  · cases q c hc C hC
    have z := List.all_eq_true.mp i1 c hc
    obtain ⟨z1, z⟩ := He.ba z
    obtain ⟨z2, z⟩ := He.ba z
    obtain ⟨z3, z⟩ := He.ba z
    obtain ⟨z4, z⟩ := He.ba z
    obtain ⟨z5, z6⟩ := He.ba z
    exact of_decide_eq_true z6
def pErrIs (es : List Str) (i : Nat) (f : Str → Bool) : PTE := fun τ h Q _ => match τ[i]? with
  | some (some (.exc c _)) => c ∈ es ∧ Q (.bl (f c)) h
  | _ => False
theorem call_isE2 {a : Addr} {oe : Obj} {pn : List (Addr × Obj)} {D dd : Addr} (hz : Zc (.ref D) (some dd) oe) (hf : ∃ vs, oe.data = .fields vs) (xf : XfC X.K D) (C : IsC X.K D) : CallR (X.suite a ((a, oe) :: pn)) (.builtin "isinstance") (fun xs H Q => ∃ (fs : List (Str × V)) (c : V) (cv : Value) (b : Bool), xs = [.ref a, c] ∧ H dd = some (.xd fs) ∧ (∀ u, RelV c u → u = cv) ∧ PySem.W.kitOne X.K (.ref D) cv = some b ∧ Q (.bl b) H) := by
  intro pins s σ H xs us Q I r h
  obtain ⟨fs, c, cv, b, rfl, ea, hcv, e, q⟩ := h
  cases r with
  | cons rx rr =>
    cases rr with
    | cons rt rr =>
      cases rr
      cases rx
      have ec := hcv _ rt
      subst ec
      obtain ⟨hget, _⟩ := I.pin (a, oe) (List.mem_append.mpr (.inl List.mem_cons_self))
      obtain ⟨vs, hv⟩ := hf
      have hx : ObjOk X.prog X.w H s.heap dd (.xd fs) := I.hok dd _ ea
      obtain ⟨mA, hns, hr⟩ := hx
      obtain ⟨od, ho, hl⟩ := lookIn_ns hns
      have J : PySem.W.InstAt s.heap a oe D (some od) := ⟨hget, hz.1, by unfold PySem.W.notCls; rw [hv] <;> rfl, by rw [hz.2]; exact ho⟩
      exact PySem.W.kia_one (PySem.W.kitx_exc C.hc xf.ga xf.gg xf.exC C.ha C.hn C.ht C.hm) I.kIn J e (fun z => nomatch z) fun tk => ⟨.bl b, H, I.kept (t' := tk) fun _ _ z => z, rfl, q⟩
theorem le_errIsG {es : List Str} {n cn : Str} {a : Addr} {oe : Obj} {cls : Value} {d : Option Addr} {pn : List (Addr × Obj)} {i : Nat} {pos' pc : Pos} {f : Str → Bool} {cw : V} {cv : Value} (T : ErrTab X.K X.mg es) (TI : IsTab X.K X.mg es)
    (hz : Zc cls d oe) (hf : ∃ vs, oe.data = .fields vs) (hv : PE (X.suite a ((a, oe) :: pn)) (.Name n pos') (tVar i)) (hg : Gl X "isinstance") (hm : X.mg "isinstance" = none)
    (hcw : PE (X.suite a ((a, oe) :: pn)) (.Name cn pc) (tC cw)) (hcv : ∀ u, RelV cw u → u = cv) (hk : ∀ c ∈ es, ∀ C : Addr, X.mg c = some (.ref C) → PySem.W.kitOne X.K (.ref C) cv = some (f c))
    (hs : starEach [.Name n pos', .Name cn pc] X.env = (false, eval (.Name n pos') X.env) :: starEach [.Name cn pc] X.env := by rfl) (hs2 : starEach [Expr.Name cn pc] X.env = (false, eval (.Name cn pc) X.env) :: starEach [] X.env := by rfl)
    (hpl : (backTo pos (starEach [Expr.Name cn pc] X.env)).any (·.1) = false := by rfl) :
    PE (X.suite a ((a, oe) :: pn)) (.Call (.Name "isinstance" p) [.Name n pos', .Name cn pc] [] pos) (lE (gX X) (some (i, a, cls, d)) W (pErrIs es i f)) := by
  refine ⟨fun pins s σ H Q I h => ?_⟩
  obtain ⟨ρ, τ, h, Qp, Ep, R, S, hp, k, kx⟩ := h
  unfold pErrIs at hp
  split at hp
  · rename_i c v e
    obtain ⟨hm', q⟩ := hp
    obtain ⟨w', ew, r⟩ := S.2 i _ e
    obtain ⟨a', C, dd, u, e1, e2, e3, e4, rv⟩ := r
    subst e1
    cases e2
    obtain ⟨C', fI, m', low⟩ := T.low c hm'
    have m'' : X.mg c = some (.ref C) := e3
    rw [m''] at m'
    cases m'
    refine (pe_callB (call_isE2 hz hf (xfC_of low) (TI.cl c hm' C m'')) hg hm (by decide +kernel) (pa_cons hv (pa_cons hcw pa_nil hs2) hs) (by decide) (by decide) hs hpl).run pins s σ H Q I ?_
    exact ⟨_, ew, _, cw, cv, f c, rfl, e4, hcv, hk c hm' C m'', k ρ H h _ _ .refl R (.bl _) q⟩
  · exact hp.elim
/-- isinstance(e, c), c an own error class -/
theorem le_errIs {es : List Str} {n cn : Str} {a : Addr} {oe : Obj} {cls : Value} {d : Option Addr} {pn : List (Addr × Obj)} {i : Nat} {pos' pc : Pos} {D : Addr} (T : ErrTab X.K X.mg es) (TI : IsTab X.K X.mg es)
    (hz : Zc cls d oe) (hf : ∃ vs, oe.data = .fields vs) (hv : PE (X.suite a ((a, oe) :: pn)) (.Name n pos') (tVar i)) (hg : Gl X "isinstance") (hm : X.mg "isinstance" = none)
    (hgc : Gl X cn) (hmc : X.mg cn = some (.ref D)) (hin : cn ∈ es) (hdb : (cn == ("__debug__" : Str)) = false := by decide)
    (hs : starEach [.Name n pos', .Name cn pc] X.env = (false, eval (.Name n pos') X.env) :: starEach [.Name cn pc] X.env := by rfl) (hs2 : starEach [Expr.Name cn pc] X.env = (false, eval (.Name cn pc) X.env) :: starEach [] X.env := by rfl)
    (hpl : (backTo pos (starEach [Expr.Name cn pc] X.env)).any (·.1) = false := by rfl) :
    PE (X.suite a ((a, oe) :: pn)) (.Call (.Name "isinstance" p) [.Name n pos', .Name cn pc] [] pos) (lE (gX X) (some (i, a, cls, d)) W (pErrIs es i fun c => catches c cn)) :=
  le_errIsG T TI hz hf hv hg hm (pe_glob (v := .ref D) (u := .ref D) hgc hmc rfl hdb) (fun u r => r) (fun c hc C hC => TI.is c hc cn hin C D hC hmc) hs hs2 hpl
/-- isinstance(e, ValueError) -/
theorem le_errVE {es : List Str} {n : Str} {a : Addr} {oe : Obj} {cls : Value} {d : Option Addr} {pn : List (Addr × Obj)} {i : Nat} {pos' pc : Pos} (T : ErrTab X.K X.mg es) (TI : IsTab X.K X.mg es)
    (hz : Zc cls d oe) (hf : ∃ vs, oe.data = .fields vs) (hv : PE (X.suite a ((a, oe) :: pn)) (.Name n pos') (tVar i)) (hg : Gl X "isinstance") (hm : X.mg "isinstance" = none)
    (hgc : Gl X "ValueError") (hmc : X.mg "ValueError" = none)
    (hs : starEach [.Name n pos', .Name "ValueError" pc] X.env = (false, eval (.Name n pos') X.env) :: starEach [.Name "ValueError" pc] X.env := by rfl) (hs2 : starEach [Expr.Name "ValueError" pc] X.env = (false, eval (.Name "ValueError" pc) X.env) :: starEach [] X.env := by rfl)
    (hpl : (backTo pos (starEach [Expr.Name "ValueError" pc] X.env)).any (·.1) = false := by rfl) :
    PE (X.suite a ((a, oe) :: pn)) (.Call (.Name "isinstance" p) [.Name n pos', .Name "ValueError" pc] [] pos) (lE (gX X) (some (i, a, cls, d)) W (pErrIs es i fun _ => true)) :=
  le_errIsG T TI hz hf hv hg hm (pe_bltn (v := .ty "ValueError") hgc hmc (by decide +kernel) rfl) (fun u r => r) (fun c hc C hC => TI.ve c hc C hC) hs hs2 hpl
end
end MP
set_option maxHeartbeats 4000000
/-! MP11: the end: from the promise of law to the statement. -/
namespace L2
open PySem PySem.Spec PyProof.Rows
/-- a law's end where what may be let out is known per world -/
theorem walk_ofM {l : PySem.W.OpenLaw} {n k : Nat} {q : Program} {loose : List Str} {XP : (Str → Option Value) → Heap → Prop} {YP : World → Heap → Prop} {d : DefRec} {x : Str}
    (hn : l.most = some n) (hn2 : n ≤ sizeLine) (hdf : d.params.defaults = []) (hr : Room k callerA)
    (F : ∀ (w : World) (mg : Str → Option Value) (fa : Addr) (h : Heap), YP w h → h.Ns mainGlobals mg → mg d.name = some (.ref fa) →
      ∃ (K : PySem.W.Frag) (fd : FuncData) (sp : Sp), K.In h ∧ (∀ (s : Shared) (u : Value), BindsTo s fd ⟨[u], []⟩ [(x, u)]) ∧
        (∀ (H : Hp) (a : Addr) (ns : List Int), ns.length ≤ n → Only H → SqL K H a (ns.map V.int) → sp [.ref a] H (fun v _ => v = .bl true) fun _ _ _ => False) ∧
        ∀ base : Heap, K.In base → base.Ns mainGlobals mg → FnOk l.prog w K mg base (CX l.prog w) k fa fd [x] sp) :
    PySem.W.WalkO q loose XP YP l.row.toRowW d [] (fun f vs => PySem.call f vs) := by
  refine Att.attach_call hn hdf fun w s₀ s₁ mg mb fa o pm cd doc a vs ns G Y ho hd hcd hmg hobj hints hlen hg => ?_
  obtain ⟨K, fd, sp, KX, hb, hsp, hF⟩ := F w mg fa _ Y G.T.g hmg
  refine law_call KX G.T.g G.T.b G.T.builtins G.T.nolimit hg hobj hints (Nat.le_trans hlen hn2) hr hF hb (fun H hO hS => hsp H a ns hlen hO hS) fun H e s' c => ?_
  obtain ⟨_, _, _, _, _, _, _, _, _, _, _, _, z⟩ := c
  exact z
end L2
namespace MP
open PySem PySem.Spec PyProof.Rows L2 TL
theorem funD_uniq {K : PySem.W.Frag} {x q x' q' : Str} {p p' : Arguments} {b b' : List Stmt} {s s' : Scope} {d d' : List V} {k k' : List (Str × V)} {f : Addr} {fd fd' : FuncData} (F : FunD K x q p b s d k f fd) (F' : FunD K x' q' p' b' s' d' k' f fd') : fd = fd' := by
  obtain ⟨_, _, _, _, _, _, _, _, _, _, _, l1, _⟩ := F.ex
  obtain ⟨_, _, _, _, _, _, _, _, _, _, _, l2, _⟩ := F'.ex
  have e := l1.symm.trans l2
  simp only [Option.some.injEq, Obj.mk.injEq, Data.func.injEq] at e
  exact e.2.2.1
theorem ints_rv {G : LG} {ρ : List Addr} {H : Hp} : ∀ ns : List Int, RVs G ρ H (ns.map PV.int) (ns.map V.int)
  | [] => .nil
  | n :: ns => .cons (.int n) (ints_rv ns)
/-- the law's promise at the head -/
theorem sp_end {K : PySem.W.Frag} {mg : Str → Option Value} {sp : PSp} {H : Hp} {a : Addr} {ns : List Int} (hl : ns.length ≤ 16777216) (hO : Only H) (hS : SqL K H a (ns.map V.int)) (h : sp [.fl (ns.map PV.int)] [] (fun v _ => v = .bl true) F0) :
    lSp ⟨K, mg⟩ (gd 1 sp) [.ref a] H (fun v _ => v = .bl true) fun _ _ _ => False := by
  refine ⟨[], [], [.fl (ns.map PV.int)], _, _, ⟨rfl, List.nodup_nil, fun n a c e _ => by cases e⟩, .cons (.fl ?_ ?_ (ints_rv ns)) .nil, ⟨rfl, h⟩, fun ρ' H' h' x v _ _ r q => ?_, fun _ _ _ _ _ _ _ _ _ _ z => z⟩
  · rcases hS with (e | ⟨o, e⟩) | e
    · rcases hO a with z | ⟨o, xs, z⟩
      · rw [z] at e; cases e
      · rw [z] at e; cases e
    · exact .inl ⟨o, e⟩
    · exact .inr e
  · rw [List.length_map, sizeLine_eq]; exact hl
  · have q' : x = .bl true := q
    subst q'
    cases r
    rfl
/-- what is asked of a law whose def keeps its promise -/
theorem law_end {P : Program} {w : World} {K : PySem.W.Frag} {mg : Str → Option Value} {st : Stmt} {x : Str} {k n : Nat} {sp : PSp} {fd : FuncData} (hn : n ≤ 16777216) (F : FunD K "law" "law" (defArgs st) (defBody st) (defScope st) [] [] (He.ga K "law") fd)
    (hb : ∀ (s : Shared) (u : Value), BindsTo s fd ⟨[u], []⟩ [(x, u)])
    (ok : ∀ base : Heap, K.In base → base.Ns mainGlobals mg → Ok P w K mg base "law" st [x] k sp) (pure : ∀ ns : List Int, ns.length ≤ n → sp [.fl (ns.map PV.int)] [] (fun v _ => v = .bl true) F0) :
    ∃ (fd : FuncData) (sp : L2.Sp), (∀ (s : Shared) (u : Value), BindsTo s fd ⟨[u], []⟩ [(x, u)]) ∧
      (∀ (H : L2.Hp) (a : Addr) (ns : List Int), ns.length ≤ n → L2.Only H → L2.SqL K H a (ns.map L2.V.int) → sp [.ref a] H (fun v _ => v = .bl true) fun _ _ _ => False) ∧
      ∀ base : Heap, K.In base → base.Ns mainGlobals mg → L2.FnOk P w K mg base (L2.CX P w) k (He.ga K "law") fd [x] sp :=
  ⟨fd, lSp ⟨K, mg⟩ (gd 1 sp), hb, fun H a ns hl hO hS => sp_end (Nat.le_trans hl hn) hO hS (pure ns hl), fun base X G => by
    obtain ⟨fd', F', O⟩ := ok base X G
    cases funD_uniq F F'
    exact O⟩
end MP
set_option maxHeartbeats 4000000
/-! MP12: tools for the plain part: reading of data, the pot, loops. -/
namespace MP
open PySem L2 TL

/-! ### data read off -/
theorem allD_mono {g g' : PV → Option PyData} (m : ∀ x d, g x = some d → g' x = some d) : ∀ {xs : List PV} {ds : List PyData}, allD g xs = some ds → allD g' xs = some ds
  | [], _, e => e
  | x :: xs, ds, e => by
    unfold allD at e ⊢
    split at e
    · rename_i d ds' e1 e2
      rw [m x d e1, allD_mono m e2]
      exact e
    · cases e
theorem rdL_mono {g g' : PV → Option PyData} (m : ∀ x d, g x = some d → g' x = some d) {xs : List PV} {ds : List PyData} (e : rdL g xs = some ds) : rdL g' xs = some ds := by
  obtain ⟨l, e⟩ := rdL_ok e
  exact rdL_of l (allD_mono m e)
theorem rd_mono {h h' : PHeap} (m : ∀ (i : Nat) (xs : List PV), h[i]? = some (.lst xs) → h'[i]? = some (.lst xs)) : ∀ (f g : Nat), f ≤ g → ∀ (v : PV) (d : PyData), rd h f v = some d → rd h' g v = some d := by
  intro f
  induction f with
  | zero =>
    intro g _ v d e
    cases v with
    | non => cases g <;> exact e
    | bl b => cases g <;> exact e
    | int b => cases g <;> exact e
    | str b => cases g <;> exact e
    | _ => cases e
  | succ f ih =>
    intro g hg v d e
    obtain ⟨g, rfl⟩ : ∃ k, g = k + 1 := ⟨g - 1, by omega⟩
    have ih' := fun x d => ih g (by omega) x d
    cases v with
    | tup xs =>
      have e' : (rdL (rd h f) xs).map PyData.tuple = some d := e
      obtain ⟨ds, e1, e2⟩ := Option.map_eq_some_iff.mp e'
      show (rdL (rd h' g) xs).map PyData.tuple = some d
      rw [rdL_mono ih' e1]
      exact congrArg some e2
    | fl xs =>
      have e' : (rdL (rd h f) xs).map PyData.list = some d := e
      obtain ⟨ds, e1, e2⟩ := Option.map_eq_some_iff.mp e'
      show (rdL (rd h' g) xs).map PyData.list = some d
      rw [rdL_mono ih' e1]
      exact congrArg some e2
    | ref n =>
      have e' : (match h[n]? with
        | some (.lst xs) => (rdL (rd h f) xs).map PyData.list
        | _ => none) = some d := e
      show (match h'[n]? with
        | some (.lst xs) => (rdL (rd h' g) xs).map PyData.list
        | _ => none) = some d
      split at e'
      · rename_i xs en
        obtain ⟨ds, e1, e2⟩ := Option.map_eq_some_iff.mp e'
        rw [m n xs en]
        show (rdL (rd h' g) xs).map PyData.list = some d
        rw [rdL_mono ih' e1]
        exact congrArg some e2
      · cases e'
    | non => exact e
    | bl b => exact e
    | int b => exact e
    | str b => exact e
    | exc c v => cases e
theorem rd_le {h : PHeap} {f g : Nat} (l : f ≤ g) {v : PV} {d : PyData} (e : rd h f v = some d) : rd h g v = some d := rd_mono (fun _ _ z => z) f g l v d e
theorem rd_app {h : PHeap} (t : PHeap) {f : Nat} {v : PV} {d : PyData} (e : rd h f v = some d) : rd (h ++ t) f v = some d := rd_mono (fun i xs z => by
  rw [List.getElem?_append_left (List.getElem?_eq_some_iff.mp z).1]; exact z) f f (Nat.le_refl _) v d e
theorem rd_notExc {h : PHeap} {f : Nat} {v : PV} {d : PyData} (e : rd h f v = some d) : isExc v = false := by
  cases v with
  | exc c x => cases f <;> cases e
  | _ => rfl
theorem allD_len {g : PV → Option PyData} : ∀ {xs : List PV} {ds : List PyData}, allD g xs = some ds → xs.length = ds.length
  | [], _, e => by cases e; rfl
  | x :: xs, ds, e => by
    unfold allD at e
    split at e
    · rename_i d ds' e1 e2
      cases e
      simp [allD_len e2]
    · cases e
theorem allD_get {g : PV → Option PyData} : ∀ {xs : List PV} {ds : List PyData}, allD g xs = some ds → ∀ (i : Nat) (x : PV), xs[i]? = some x → ∃ d, ds[i]? = some d ∧ g x = some d
  | x :: xs, ds, e, i, y, ey => by
    unfold allD at e
    split at e
    · rename_i d ds' e1 e2
      cases e
      cases i with
      | zero => cases ey; exact ⟨d, rfl, e1⟩
      | succ i => exact allD_get e2 i y ey
    · cases e
  | [], _, _, i, y, ey => by cases ey
theorem allD_mem {g : PV → Option PyData} {xs : List PV} {ds : List PyData} (e : allD g xs = some ds) {x : PV} (hx : x ∈ xs) : ∃ d, d ∈ ds ∧ g x = some d := by
  obtain ⟨i, hi⟩ := List.getElem?_of_mem hx
  obtain ⟨d, e1, e2⟩ := allD_get e i x hi
  exact ⟨d, List.mem_of_getElem? e1, e2⟩
/-- texts read as themselves -/
theorem allD_strs {h : PHeap} {f : Nat} : ∀ ss : List Str, allD (rd h f) (ss.map .str) = some (ss.map .str)
  | [] => rfl
  | s :: ss => by
    have e : rd h f (.str s) = some (.str s) := by cases f <;> rfl
    show (match rd h f (.str s), allD (rd h f) (ss.map .str) with
      | some d, some ds => some (d :: ds)
      | _, _ => none) = _
    rw [e, allD_strs ss]
    rfl
/-- what is read has no dict: it is like itself -/
theorem eqvAll_refl' : ∀ {ds : List PyData}, (∀ d ∈ ds, PyData.eqv d d = true) → PyData.eqvAll ds ds = true
  | [], _ => by rfl
  | d :: ds, m => by
    have e1 := m d List.mem_cons_self
    have e2 := eqvAll_refl' fun x hx => m x (List.mem_cons_of_mem _ hx)
    simp [PyData.eqvAll, e1, e2]
theorem rd_eqv {h : PHeap} : ∀ (f : Nat) (v : PV) (d : PyData), rd h f v = some d → PyData.eqv d d = true := by
  have one : ∀ (f : Nat) (g : PV → Option PyData), (∀ x d, g x = some d → PyData.eqv d d = true) → ∀ xs ds, allD g xs = some ds → PyData.eqvAll ds ds = true := by
    intro f g ih xs ds e
    refine eqvAll_refl' fun d hd => ?_
    obtain ⟨i, hi⟩ := List.getElem?_of_mem hd
    have hi2 : i < xs.length := by rw [allD_len e]; exact (List.getElem?_eq_some_iff.mp hi).1
    obtain ⟨d', e1, e2⟩ := allD_get e i xs[i] (List.getElem?_eq_getElem hi2)
    rw [hi] at e1
    cases e1
    exact ih _ _ e2
  intro f
  induction f with
  | zero =>
    intro v d e
    cases v with
    | non => cases e; rfl
    | bl b => cases e; simp [PyData.eqv]
    | int b => cases e; simp [PyData.eqv]
    | str b => cases e; simp [PyData.eqv]
    | _ => cases e
  | succ f ih =>
    intro v d e
    cases v with
    | tup xs =>
      have e' : (rdL (rd h f) xs).map PyData.tuple = some d := e
      obtain ⟨ds, e1, rfl⟩ := Option.map_eq_some_iff.mp e'
      have := one f _ ih xs ds (rdL_ok e1).2
      simpa [PyData.eqv] using this
    | fl xs =>
      have e' : (rdL (rd h f) xs).map PyData.list = some d := e
      obtain ⟨ds, e1, rfl⟩ := Option.map_eq_some_iff.mp e'
      have := one f _ ih xs ds (rdL_ok e1).2
      simpa [PyData.eqv] using this
    | ref n =>
      have e' : (match h[n]? with
        | some (.lst xs) => (rdL (rd h f) xs).map PyData.list
        | _ => none) = some d := e
      split at e'
      · rename_i xs en
        obtain ⟨ds, e1, rfl⟩ := Option.map_eq_some_iff.mp e'
        have := one f _ ih xs ds (rdL_ok e1).2
        simpa [PyData.eqv] using this
      · cases e'
    | non => cases e; rfl
    | bl b => cases e; simp [PyData.eqv]
    | int b => cases e; simp [PyData.eqv]
    | str b => cases e; simp [PyData.eqv]
    | exc c v => cases e
/-! ### the pot, and a heap that goes on -/
def hid (p : Nat) (h : PHeap) : PHeap := h.set p (.dct [])
structure Ev (p : Nat) (h h' : PHeap) : Prop where
  len : h.length ≤ h'.length
  same : ∀ i, i ≠ p → i < h.length → h'[i]? = h[i]?
theorem Ev.refl {p : Nat} {h : PHeap} : Ev p h h := ⟨Nat.le_refl _, fun _ _ _ => rfl⟩
theorem Ev.trans {p : Nat} {h h' h'' : PHeap} (a : Ev p h h') (b : Ev p h' h'') : Ev p h h'' := ⟨Nat.le_trans a.len b.len, fun i n l => (b.same i n (Nat.lt_of_lt_of_le l a.len)).trans (a.same i n l)⟩
theorem Ev.app {p : Nat} {h : PHeap} (t : PHeap) : Ev p h (h ++ t) := ⟨by simp, fun i _ l => List.getElem?_append_left l⟩
theorem Ev.put {p : Nat} {h : PHeap} (c : Cell) : Ev p h (h.set p c) := ⟨by simp, fun i n _ => List.getElem?_set_ne (Ne.symm n)⟩
theorem rd_hid {p : Nat} {h : PHeap} {f : Nat} {v : PV} {d : PyData} (e : rd (hid p h) f v = some d) : rd h f v = some d := rd_mono (fun i xs z => by
  unfold hid at z
  by_cases hp : p = i
  · subst hp
    have l := (List.getElem?_eq_some_iff.mp z).1
    rw [List.length_set] at l
    rw [List.getElem?_set_self l] at z
    cases z
  · rwa [List.getElem?_set_ne hp] at z) f f (Nat.le_refl _) v d e
theorem Ev.lst {p : Nat} {h h' : PHeap} (E : Ev p h h') {i : Nat} {xs : List PV} (n : i ≠ p) (e : h[i]? = some (.lst xs)) : h'[i]? = some (.lst xs) := by
  rw [E.same i n (List.getElem?_eq_some_iff.mp e).1]
  exact e
theorem Ev.rd {p : Nat} {h h' : PHeap} (E : Ev p h h') {f : Nat} {v : PV} {d : PyData} (e : rd (hid p h) f v = some d) : rd (hid p h') f v = some d := rd_mono (fun i xs z => by
  unfold hid at z ⊢
  by_cases hp : p = i
  · subst hp
    have l := (List.getElem?_eq_some_iff.mp z).1
    rw [List.length_set] at l
    rw [List.getElem?_set_self l] at z
    cases z
  · rw [List.getElem?_set_ne hp] at z ⊢
    exact E.lst (Ne.symm hp) z) f f (Nat.le_refl _) v d e
def Pot1 (h : PHeap) (p n : Nat) : Prop := ∃ a b c : Int, h[p]? = some (.lst [.int a, .int b, .int c]) ∧ 0 ≤ a ∧ 0 ≤ b ∧ b < 10 ^ 40 ∧ 0 ≤ c ∧ c + n ≤ 10 ^ 9
theorem Pot1.lt {h : PHeap} {p n : Nat} (P : Pot1 h p n) : p < h.length := by
  obtain ⟨a, b, c, e, _⟩ := P
  exact (List.getElem?_eq_some_iff.mp e).1
theorem Pot1.app {h : PHeap} {p n : Nat} (P : Pot1 h p n) (t : PHeap) : Pot1 (h ++ t) p n := by
  have l := P.lt
  obtain ⟨a, b, c, e, r⟩ := P
  exact ⟨a, b, c, by rw [List.getElem?_append_left l]; exact e, r⟩
theorem Pot1.le {h : PHeap} {p n m : Nat} (P : Pot1 h p n) (l : m ≤ n) : Pot1 h p m := by
  obtain ⟨a, b, c, e, r1, r2, r3, r4, r5⟩ := P
  exact ⟨a, b, c, e, r1, r2, r3, r4, by omega⟩
/-- one more number drawn, below m -/
def sp_draw : PSp := fun vs h Q _ => ∃ (p : Nat) (m : Int) (n : Nat), vs = [.ref p, .int m] ∧ 0 < m ∧ m < 2 ^ 64 ∧ Pot1 h p (n + 1) ∧ ∀ r h', 0 ≤ r → r < m → Pot1 h' p n → Ev p h h' → h'.length = h.length → Q (.int r) h'
/-! ### loops -/
/-- a walk with its invariant -/
theorem forGo_inv {g : Tg} {b : PTS} {D : PD} {ok : PHeap → Prop} (I : Nat → PSt → PHeap → Prop) (xs : List PV) (hok : ∀ k τ h, I k τ h → ok h) (end_ : ∀ τ h, I xs.length τ h → D.nx τ h)
    (step : ∀ (k : Nat) (x : PV) (τ : PSt) (h : PHeap) (N : PSt → PHeap → Prop), xs[k]? = some x → I k τ h → (∀ τ' h', I (k + 1) τ' h' → N τ' h') → ∃ τ', pG g x τ = some τ' ∧ b { D with nx := N, ct := N, bk := D.nx } τ' h) :
    ∀ (τ : PSt) (h : PHeap), I 0 τ h → forGo g b D ok xs τ h := by
  have go : ∀ (ys : List PV) (k : Nat), k ≤ xs.length → xs.drop k = ys → ∀ τ h, I k τ h → forGo g b D ok ys τ h := by
    intro ys
    induction ys with
    | nil =>
      intro k hk e τ h i
      have l : k = xs.length := by
        have := congrArg List.length e
        simp at this
        omega
      subst l
      exact ⟨hok _ _ _ i, end_ _ _ i⟩
    | cons y ys ih =>
      intro k hk e τ h i
      have ek : xs[k]? = some y := by
        have := congrArg (fun l : List PV => l[0]?) e
        simpa using this
      have e2 : xs.drop (k + 1) = ys := by
        have := congrArg (List.drop 1) e
        simpa [List.drop_drop, Nat.add_comm] using this
      obtain ⟨τ', e3, q⟩ := step k y τ h (forGo g b D ok ys) ek i (fun τ' h' i' => ih (k + 1) (List.getElem?_eq_some_iff.mp ek).1 e2 τ' h' i')
      refine ⟨hok _ _ _ i, ?_⟩
      rw [e3]
      exact q
  exact fun τ h i => go xs 0 (Nat.zero_le _) (by simp) τ h i
/-- a comprehension with its invariant -/
theorem lcGo_inv {g : Tg} {tt : PTT} {te : PTE} {ok : PHeap → Prop} {τ0 : PSt} {Q : List PV → PHeap → Prop} (I : Nat → List PV → PHeap → Prop) (xs : List PV) (hok : ∀ k acc h, I k acc h → ok h) (end_ : ∀ acc h, I xs.length acc h → Q acc h)
    (step : ∀ (k : Nat) (x : PV) (acc : List PV) (h : PHeap) (N : List PV → PHeap → Prop), xs[k]? = some x → I k acc h → (∀ acc' h', I (k + 1) acc' h' → N acc' h') → ∃ τ', pG g x τ0 = some τ' ∧
      tt τ' h (fun b h1 => if b = true then te τ' h1 (fun y h2 => acc.length < sizeLine ∧ N (acc ++ [y]) h2) F0 else N acc h1) F0) :
    ∀ (h : PHeap), I 0 [] h → lcGo g tt te ok τ0 xs [] h Q := by
  have go : ∀ (ys : List PV) (k : Nat), k ≤ xs.length → xs.drop k = ys → ∀ acc h, I k acc h → lcGo g tt te ok τ0 ys acc h Q := by
    intro ys
    induction ys with
    | nil =>
      intro k hk e acc h i
      have l : k = xs.length := by
        have := congrArg List.length e
        simp at this
        omega
      subst l
      exact ⟨hok _ _ _ i, end_ _ _ i⟩
    | cons y ys ih =>
      intro k hk e acc h i
      have ek : xs[k]? = some y := by
        have := congrArg (fun l : List PV => l[0]?) e
        simpa using this
      have e2 : xs.drop (k + 1) = ys := by
        have := congrArg (List.drop 1) e
        simpa [List.drop_drop, Nat.add_comm] using this
      obtain ⟨τ', e3, q⟩ := step k y acc h (fun acc' h' => lcGo g tt te ok τ0 ys acc' h' Q) ek i (fun acc' h' i' => ih (k + 1) (List.getElem?_eq_some_iff.mp ek).1 e2 acc' h' i')
      refine ⟨hok _ _ _ i, ?_⟩
      rw [e3]
      exact q
  exact fun h i => go xs 0 (Nat.zero_le _) (by simp) [] h i
/-- a comprehension whose items are each a value, nothing written -/
theorem lcGo_map {g : Tg} {te : PTE} {ok : PHeap → Prop} {τ0 : PSt} {Q : List PV → PHeap → Prop} (f : PV → PV) {xs : List PV} {h : PHeap} (hl : xs.length ≤ sizeLine) (hok : ok h)
    (step : ∀ x ∈ xs, ∃ τ', pG g x τ0 = some τ' ∧ ∀ Q : PQ, Q (f x) h → te τ' h Q F0) (q : Q (xs.map f) h) : lcGo g pYes te ok τ0 xs [] h Q := by
  refine lcGo_inv (fun k acc h' => h' = h ∧ acc = (xs.take k).map f) xs (fun k acc h' i => by rw [i.1]; exact hok) (fun acc h' i => ?_) (fun k x acc h' N ek i n => ?_) h ⟨rfl, by simp⟩
  · obtain ⟨rfl, rfl⟩ := i
    rw [List.take_length]
    exact q
  · obtain ⟨rfl, rfl⟩ := i
    obtain ⟨τ', e, s⟩ := step x (List.mem_of_getElem? ek)
    refine ⟨τ', e, ?_⟩
    have lk := (List.getElem?_eq_some_iff.mp ek).1
    unfold pYes
    dsimp only
    rw [if_pos rfl]
    refine s _ ⟨by rw [List.length_map, List.length_take]; omega, n _ _ ⟨rfl, ?_⟩⟩
    have e2 : xs.take (k + 1) = xs.take k ++ [x] := by
      rw [List.take_add_one, ek]
      rfl
    rw [e2, List.map_append]
    rfl
/-! ### readings upon known kinds -/
section
variable {h : PHeap} {Q : PQ} {i j : Int} {a b : Str} {xs ys : List PV} {n m : Nat} {x y v : PV} {bo bp : Bool}
theorem e_add_ii : MP.rAdd (.int i) (.int j) h Q = Q (.int (i + j)) h := rfl
theorem e_add_ss : MP.rAdd (.str a) (.str b) h Q = (a.length + b.length ≤ sizeLine ∧ Q (.str (a ++ b)) h) := rfl
theorem e_add_tt : MP.rAdd (.tup xs) (.tup ys) h Q = (xs.length + ys.length ≤ sizeLine ∧ Q (.tup (xs ++ ys)) h) := rfl
theorem e_add_rr : MP.rAdd (.ref m) (.ref n) h Q = (match h[m]?, h[n]? with
    | some (.lst xs), some (.lst ys) => xs.length + ys.length ≤ sizeLine ∧ Q (.ref h.length) (h ++ [.lst (xs ++ ys)])
    | _, _ => False) := rfl
theorem e_sub : MP.rSub (.int i) (.int j) h Q = Q (.int (i - j)) h := rfl
theorem e_mul_ii : MP.rMul (.int i) (.int j) h Q = (mulOk i j ∧ Q (.int (i * j)) h) := rfl
theorem e_mul_si : MP.rMul (.str a) (.int j) h Q = ((PySem.MulOk a j ∧ okS (Txt.mul a j)) ∧ Q (.str (Txt.mul a j)) h) := rfl
theorem e_mul_ri : MP.rMul (.ref m) (.int j) h Q = (match h[m]? with
    | some (.lst xs) => -(2 ^ 63) ≤ j ∧ j < 2 ^ 63 ∧ xs.length * j.toNat ≤ sizeLine ∧ Q (.ref h.length) (h ++ [.lst (List.replicate j.toNat xs).flatten])
    | _ => False) := rfl
theorem e_iadd_ii : MP.rIAdd (.int i) (.int j) h Q = Q (.int (i + j)) h := rfl
theorem e_iadd_ss : MP.rIAdd (.str a) (.str b) h Q = (a.length + b.length ≤ sizeLine ∧ Q (.str (a ++ b)) h) := rfl
theorem e_pow : MP.rPow (.int i) (.int j) h Q = (powOk i j ∧ Q (.int (i ^ j.toNat)) h) := rfl
theorem e_fdiv : MP.rFdiv (.int i) (.int j) h Q = ((0 < j ∧ j.natAbs.log2 < 9000) ∧ Q (.int (i / j)) h) := rfl
theorem e_mod : MP.rMod (.int i) (.int j) h Q = (0 < j ∧ Q (.int (i % j)) h) := rfl
theorem e_neg : MP.rNeg (.int i) h Q = Q (.int (-i)) h := rfl
theorem e_lt : MP.rLt (.int i) (.int j) h Q = Q (.bl (decide (i < j))) h := rfl
theorem e_le : MP.rLe (.int i) (.int j) h Q = Q (.bl (decide (i ≤ j))) h := rfl
theorem e_gt : MP.rGt (.int i) (.int j) h Q = Q (.bl (decide (j < i))) h := rfl
theorem e_ge : MP.rGe (.int i) (.int j) h Q = Q (.bl (decide (j ≤ i))) h := rfl
theorem e_eq {d e : PyData} (hx : rd h 64 x = some d) (hy : rd h 64 y = some e) : rEqP x y h Q = Q (.bl (PyData.eqv d e)) h := by unfold rEqP; rw [hx, hy]
theorem e_ne {d e : PyData} (hx : rd h 64 x = some d) (hy : rd h 64 y = some e) : rNeP x y h Q = Q (.bl (!PyData.eqv d e)) h := by unfold rNeP; rw [hx, hy]
theorem eqv_ii : PyData.eqv (.int i) (.int j) = (i == j) := by simp [PyData.eqv]
theorem eqv_ss : PyData.eqv (.str a) (.str b) = (a == b) := by simp [PyData.eqv]
theorem eqv_bb : PyData.eqv (.bool bo) (.bool bp) = (bo == bp) := by simp [PyData.eqv]
theorem e_eq_ii : rEqP (.int i) (.int j) h Q = Q (.bl (decide (i = j))) h := by rw [e_eq (d := .int i) (e := .int j) rfl rfl, eqv_ii]; rfl
theorem e_ne_ii : rNeP (.int i) (.int j) h Q = Q (.bl (!decide (i = j))) h := by rw [e_ne (d := .int i) (e := .int j) rfl rfl, eqv_ii]; rfl
theorem e_eq_ss : rEqP (.str a) (.str b) h Q = Q (.bl (a == b)) h := by rw [e_eq (d := .str a) (e := .str b) rfl rfl, eqv_ss]
theorem e_ne_ss : rNeP (.str a) (.str b) h Q = Q (.bl (!(a == b))) h := by rw [e_ne (d := .str a) (e := .str b) rfl rfl, eqv_ss]
theorem e_eq_bb : rEqP (.bl bo) (.bl bp) h Q = Q (.bl (bo == bp)) h := by rw [e_eq (d := .bool bo) (e := .bool bp) rfl rfl, eqv_bb]
theorem e_ne_bb : rNeP (.bl bo) (.bl bp) h Q = Q (.bl (!(bo == bp))) h := by rw [e_ne (d := .bool bo) (e := .bool bp) rfl rfl, eqv_bb]
theorem e_isN : rIsN v h Q = Q (.bl (isNon v)) h := rfl
theorem e_notN : rNotN v h Q = Q (.bl (!isNon v)) h := rfl
theorem e_ix_s : MP.rIx (.str a) (.int i) h Q = (match L2.atI a.cps.toList i with
      | some c => Q (.str ⟨#[c]⟩) h
      | none => False) := rfl
theorem e_ix_t : MP.rIx (.tup xs) (.int i) h Q = (match L2.atI xs i with
        | some v => Q v h
        | none => False) := rfl
theorem e_ix_f : MP.rIx (.fl xs) (.int i) h Q = (match L2.atI xs i with
        | some v => Q v h
        | none => False) := rfl
theorem e_ix_r : MP.rIx (.ref n) (.int i) h Q = (match h[n]? with
    | some (.lst xs) => (match L2.atI xs i with
      | some v => Q v h
      | none => False)
    | _ => False) := by
  show (match itemsOf h (.ref n) with
    | some xs => (match L2.atI xs i with
      | some v => Q v h
      | none => False)
    | none => False) = _
  unfold itemsOf
  dsimp only
  cases h[n]? with
  | none => rfl
  | some c => cases c <;> rfl
theorem e_ixT : MP.rIxT xs (.int i) h Q = (match L2.atI xs i with
        | some v => Q v h
        | none => False) := rfl
theorem e_set : rSetP (.ref n) (.int i) v h Q' = (match h[n]? with
    | some (.lst xs) => match L2.ixN xs.length i with
      | some j => Q' (h.set n (.lst (xs.set j v)))
      | none => False
    | _ => False) := rfl
theorem e_len_s : MP.rLen [.str a] h Q = Q (.int a.length) h := rfl
theorem e_len_t : MP.rLen [.tup xs] h Q = Q (.int xs.length) h := rfl
theorem e_len_f : MP.rLen [.fl xs] h Q = Q (.int xs.length) h := rfl
theorem e_len_r : MP.rLen [.ref n] h Q = (match h[n]? with
    | some (.lst xs) => Q (.int xs.length) h
    | _ => False) := rfl
theorem e_lenT : MP.rLenT xs h Q = Q (.int xs.length) h := rfl
theorem e_int_i : rIntP [.int i] h Q = Q (.int i) h := rfl
theorem e_int_b : rIntP [.bl bo] h Q = Q (.int (if bo then 1 else 0)) h := rfl
theorem e_abs : MP.rAbs [.int i] h Q = Q (.int (if i < 0 then -i else i)) h := rfl
theorem e_max : MP.rMax2 [.int i, .int j] h Q = Q (.int (if j > i then j else i)) h := rfl
theorem e_min : MP.rMin2 [.int i, .int j] h Q = Q (.int (if j < i then j else i)) h := rfl
theorem e_tupI : MP.rTupI xs h Q = Q (.tup xs) h := rfl
theorem e_lstI : MP.rLstI xs h Q = Q (.ref h.length) (h ++ [.lst xs]) := rfl
theorem bls_map {α : Type} (f : α → Bool) : ∀ l : List α, bls (l.map fun c => PV.bl (f c)) = some (l.map f)
  | [] => rfl
  | x :: l => by simp [bls, bls_map f l]
theorem sts_map {α : Type} (f : α → Str) : ∀ l : List α, sts (l.map fun c => PV.str (f c)) = some (l.map f)
  | [] => rfl
  | x :: l => by simp [sts, sts_map f l]
theorem e_allI {l : List Bool} : MP.rAllI (l.map .bl) h Q = Q (.bl (l.all id)) h := by
  have e := bls_map (fun b : Bool => b) l
  unfold MP.rAllI
  rw [show l.map PV.bl = l.map fun c => PV.bl c from rfl, e]
  simp
theorem e_anyI {l : List Bool} : MP.rAnyI (l.map .bl) h Q = Q (.bl (l.any id)) h := by
  have e := bls_map (fun b : Bool => b) l
  unfold MP.rAnyI
  rw [show l.map PV.bl = l.map fun c => PV.bl c from rfl, e]
  simp
theorem e_onI_t {r : PCb} : onItems r [.tup xs] h Q = r xs h Q := rfl
theorem e_onI_f {r : PCb} : onItems r [.fl xs] h Q = r xs h Q := rfl
theorem e_onI_r {r : PCb} : onItems r [.ref n] h Q = (match h[n]? with
    | some (.lst xs) => r xs h Q
    | _ => False) := by
  unfold onItems itemsOf
  dsimp only
  cases h[n]? with
  | none => rfl
  | some c => cases c <;> rfl
theorem e_onL_r {r : PCb} : onList r [.ref n] h Q = (match h[n]? with
    | some (.lst xs) => r xs h Q
    | _ => False) := by
  unfold onList lstOf
  dsimp only
  cases h[n]? with
  | none => rfl
  | some c => cases c <;> rfl
theorem e_isi {T t : String} (e : tyOf h v = some t) : MP.rIsi T v h Q = Q (.bl (isiB t T)) h := by unfold MP.rIsi; rw [e]
theorem e_isiT {T : List String} {t : String} (e : tyOf h v = some t) : MP.rIsiT T v h Q = Q (.bl (T.any (isiB t))) h := by unfold MP.rIsiT; rw [e]
theorem e_isi_n {T : String} : MP.rIsi T .non h Q = Q (.bl (isiB "NoneType" T)) h := rfl
theorem e_isi_b {T : String} : MP.rIsi T (.bl bo) h Q = Q (.bl (isiB "bool" T)) h := rfl
theorem e_isi_i {T : String} : MP.rIsi T (.int i) h Q = Q (.bl (isiB "int" T)) h := rfl
theorem e_isi_s {T : String} : MP.rIsi T (.str a) h Q = Q (.bl (isiB "str" T)) h := rfl
theorem e_isi_t {T : String} : MP.rIsi T (.tup xs) h Q = Q (.bl (isiB "tuple" T)) h := rfl
theorem e_isi_f {T : String} : MP.rIsi T (.fl xs) h Q = Q (.bl (isiB "list" T)) h := rfl
theorem e_isiT_n {T : List String} : MP.rIsiT T .non h Q = Q (.bl (T.any (isiB "NoneType"))) h := rfl
theorem e_isiT_b {T : List String} : MP.rIsiT T (.bl bo) h Q = Q (.bl (T.any (isiB "bool"))) h := rfl
theorem e_isiT_i {T : List String} : MP.rIsiT T (.int i) h Q = Q (.bl (T.any (isiB "int"))) h := rfl
theorem e_isiT_s {T : List String} : MP.rIsiT T (.str a) h Q = Q (.bl (T.any (isiB "str"))) h := rfl
theorem e_isiT_t {T : List String} : MP.rIsiT T (.tup xs) h Q = Q (.bl (T.any (isiB "tuple"))) h := rfl
theorem e_isiT_f {T : List String} : MP.rIsiT T (.fl xs) h Q = Q (.bl (T.any (isiB "list"))) h := rfl
theorem e_app : MP.rAppend (.ref n) [v] h Q = (match h[n]? with
    | some (.lst xs) => xs.length < sizeLine ∧ Q .non (h.set n (.lst (xs ++ [v])))
    | _ => False) := rfl
theorem e_split : rSplit (.str a) [.str b] h Q = ((b.length == 0) = false ∧ b.cps.all (· < 256) = true ∧ a.length + 2 ≤ sizeLine ∧ Q (.ref h.length) (h ++ [.lst ((Txt.split a b).map .str)])) := rfl
theorem e_joinI {l : List Str} : rJoinI a (l.map .str) h Q = (joinLen a l ≤ 16777216 ∧ Q (.str (Txt.join a l)) h) := by
  have e := sts_map (fun b : Str => b) l
  unfold rJoinI
  rw [show l.map PV.str = l.map fun c => PV.str c from rfl, e]
  simp
theorem e_join_r : rJoin (.str a) [.ref n] h Q = (match h[n]? with
    | some (.lst xs) => rJoinI a xs h Q
    | _ => False) := by
  unfold rJoin itemsOf
  dsimp only
  cases h[n]? with
  | none => rfl
  | some c => cases c <;> rfl
theorem e_cut_s {lo hi : Option Int} : rCut (.str a) lo hi h Q = Q (.str (L2.cutS a lo hi)) h := rfl
theorem e_cut_t {lo hi : Option Int} : rCut (.tup xs) lo hi h Q = Q (.tup (cut xs lo hi)) h := rfl
theorem e_cut_f {lo hi : Option Int} : rCut (.fl xs) lo hi h Q = Q (.ref h.length) (h ++ [.lst (cut xs lo hi)]) := rfl
theorem e_cut_r {lo hi : Option Int} : rCut (.ref n) lo hi h Q = (match h[n]? with
    | some (.lst xs) => Q (.ref h.length) (h ++ [.lst (cut xs lo hi)])
    | _ => False) := rfl
theorem tr_b : truth h (.bl bo) = some bo := rfl
theorem tr_i : truth h (.int i) = some (i != 0) := rfl
theorem tr_s : truth h (.str a) = some ((a.length : Int) != 0) := rfl
theorem tr_n : truth h .non = some false := rfl
theorem tr_t : truth h (.tup xs) = some !xs.isEmpty := rfl
theorem tr_r : truth h (.ref n) = (match h[n]? with
    | some (.lst xs) => some !xs.isEmpty
    | _ => none) := rfl
theorem ty_r : tyOf h (.ref n) = (match h[n]? with
    | some (.lst _) => some "list"
    | some (.dct _) => some "dict"
    | some (.set _) => some "set"
    | _ => none) := rfl
theorem x_n : isExc .non = false := rfl
theorem x_b : isExc (.bl bo) = false := rfl
theorem x_i : isExc (.int i) = false := rfl
theorem x_s : isExc (.str a) = false := rfl
theorem x_t : isExc (.tup xs) = false := rfl
theorem x_f : isExc (.fl xs) = false := rfl
theorem x_r : isExc (.ref n) = false := rfl
end
section
variable {α : Type} {xs : List α}
theorem atI_nat (k : Nat) : L2.atI xs (k : Int) = xs[k]? := by
  unfold L2.atI L2.ixN
  rw [if_pos (Int.natCast_nonneg k)]
  by_cases l : (k : Int) < (xs.length : Int)
  · rw [if_pos l]
    simp
  · rw [if_neg l]
    simp
    omega
theorem atI_pos {i : Int} (l : 0 ≤ i) : L2.atI xs i = xs[i.toNat]? := by
  have e := atI_nat (xs := xs) i.toNat
  rw [Int.toNat_of_nonneg l] at e
  exact e
theorem atI_0 : L2.atI xs 0 = xs[0]? := atI_nat 0
theorem atI_1 : L2.atI xs 1 = xs[1]? := atI_nat 1
theorem atI_2 : L2.atI xs 2 = xs[2]? := atI_nat 2
theorem atI_3 : L2.atI xs 3 = xs[3]? := atI_nat 3
theorem atI_m1 : L2.atI xs (-1) = xs.getLast? := by
  unfold L2.atI L2.ixN
  rw [if_neg (by decide)]
  cases xs with
  | nil => simp
  | cons x xs =>
    have l : -(((x :: xs).length : Nat) : Int) ≤ -1 := by simp; omega
    rw [if_pos l]
    have e : (-1 + (((x :: xs).length : Nat) : Int)).toNat = xs.length := by simp; omega
    rw [e]
    simp [List.getLast?_eq_getElem?]
theorem ixN_nat {n k : Nat} (l : k < n) : L2.ixN n (k : Int) = some k := by
  unfold L2.ixN
  rw [if_pos (Int.natCast_nonneg k), if_pos (by omega)]
  simp
theorem ixN_0 {n : Nat} (l : 0 < n) : L2.ixN n 0 = some 0 := ixN_nat l
theorem ixN_m1 {n : Nat} (l : 0 < n) : L2.ixN n (-1) = some (n - 1) := by
  unfold L2.ixN
  rw [if_neg (by decide), if_pos (by omega)]
  congr 1
  omega
end
theorem ixN_c0 {n : Nat} : L2.ixN (n + 1) 0 = some 0 := ixN_0 (Nat.succ_pos n)
theorem ixN_c1 {n : Nat} : L2.ixN (n + 1 + 1) 1 = some 1 := ixN_nat (n := n + 1 + 1) (k := 1) (by omega)
theorem ixN_c2 {n : Nat} : L2.ixN (n + 1 + 1 + 1) 2 = some 2 := ixN_nat (n := n + 1 + 1 + 1) (k := 2) (by omega)
/-! ### bounds -/
theorem mulOk_l {i j : Int} (h : i.natAbs < 2 ^ 64) : mulOk i j := .inl h
theorem mulOk_r {i j : Int} (h : j.natAbs < 2 ^ 64) : mulOk i j := .inr (.inl h)
theorem log2_lt {m : Int} (h0 : 0 < m) (h : m < 2 ^ 64) : m.natAbs.log2 < 9000 := by
  have e : m.natAbs ≠ 0 := by omega
  have l : m.natAbs < 2 ^ 64 := by omega
  have := (Nat.log2_lt e).mpr l
  omega
theorem pow_cube {x : Int} (h0 : 0 ≤ x) (h : x < 2 ^ 200) : powOk x 3 := ⟨by decide, 200, by omega, by decide⟩
/-! ### texts -/
theorem strIn_one (c : Nat) (b : Str) : strIn ⟨#[c]⟩ b = decide (c ∈ tl b) := PySem.StrLaws.found_one b c
theorem e_in_ss {h : PHeap} {Q : PQ} {a b : Str} : rInP (.str a) (.str b) h Q = Q (.bl (strIn a b)) h := rfl
theorem one_eq (c d : Nat) : ((⟨#[c]⟩ : Str) == (⟨#[d]⟩ : Str)) = (c == d) := by
  by_cases e : c = d
  · subst e; simp
  · have e2 : ((⟨#[c]⟩ : Str)) ≠ ⟨#[d]⟩ := fun z => e (by cases z; rfl)
    rw [beq_eq_false_iff_ne.mpr e2, beq_eq_false_iff_ne.mpr e]
theorem str_eq_tl (a b : Str) : (a == b) = (tl a == tl b) := by
  by_cases e : a = b
  · subst e; simp
  · have e2 : tl a ≠ tl b := fun z => e (ext_tl z)
    rw [beq_eq_false_iff_ne.mpr e, beq_eq_false_iff_ne.mpr e2]
/-- a walk over a text's signs, each a value -/
theorem lc_chars {i : Nat} {te : PTE} {ok : PHeap → Prop} {τ0 : PSt} {Q : List PV → PHeap → Prop} (f : Nat → PV) {s : Str} {h : PHeap} (hl : s.length ≤ sizeLine) (hok : ok h)
    (step : ∀ c ∈ tl s, ∀ Q : PQ, Q (f c) h → te (τ0.set i (some (.str ⟨#[c]⟩))) h Q F0) (q : Q ((tl s).map f) h) : lcGo (.nm i) pYes te ok τ0 (charsOf s) [] h Q := by
  refine lcGo_map (fun x => match x with
    | .str ⟨a⟩ => f (a.toList.headD 0)
    | _ => .non) (by unfold charsOf; rw [List.length_map]; rwa [len_tl] at hl) hok (fun x hx => ?_) ?_
  · obtain ⟨c, hc, rfl⟩ := List.mem_map.mp hx
    exact ⟨_, rfl, fun Q q => step c hc Q q⟩
  · unfold charsOf
    rw [List.map_map]
    exact q
/-- all of a text's signs -/
theorem all_chars {h : PHeap} {Q : PQ} {f : Nat → Bool} {l : List Nat} : MP.rAllI (l.map fun c => .bl (f c)) h Q = Q (.bl (l.all f)) h := by
  unfold MP.rAllI
  rw [bls_map]
  simp
theorem all_vals {α : Type} {h : PHeap} {Q : PQ} {f : α → Bool} {l : List α} : MP.rAllI (l.map fun c => .bl (f c)) h Q = Q (.bl (l.all f)) h := by
  unfold MP.rAllI
  rw [bls_map]
  simp
theorem ty_notExc {h : PHeap} {v : PV} (e : (tyOf h v).isSome = true) : isExc v = false := by
  cases v with
  | exc c x => cases e
  | _ => rfl
/-- a cell is no plain value -/
theorem ty_ref {h : PHeap} {n : Nat} (e : (tyOf h (.ref n)).isSome = true) : ∃ t, tyOf h (.ref n) = some t ∧ (t = "list" ∨ t = "dict" ∨ t = "set") := by
  obtain ⟨t, et⟩ := Option.isSome_iff_exists.mp e
  refine ⟨t, et, ?_⟩
  rw [ty_r] at et
  split at et <;> cases et <;> simp
theorem rd_ty {h : PHeap} {f : Nat} {v : PV} {d : PyData} (e : rd h f v = some d) : (tyOf h v).isSome = true := by
  cases v with
  | exc c x => cases f <;> cases e
  | ref n =>
    cases f with
    | zero => cases e
    | succ f =>
      have e' : (match h[n]? with
        | some (.lst xs) => (rdL (rd h f) xs).map PyData.list
        | _ => none) = some d := e
      rw [ty_r]
      split at e'
      · rename_i xs en
        rw [en]; rfl
      · cases e'
  | _ => rfl
theorem ib_NoneType_bool : isiB "NoneType" "bool" = false := by decide
theorem ib_NoneType_int : isiB "NoneType" "int" = false := by decide
theorem ib_NoneType_str : isiB "NoneType" "str" = false := by decide
theorem ib_NoneType_tuple : isiB "NoneType" "tuple" = false := by decide
theorem ib_NoneType_list : isiB "NoneType" "list" = false := by decide
theorem ib_NoneType_dict : isiB "NoneType" "dict" = false := by decide
theorem ib_NoneType_set : isiB "NoneType" "set" = false := by decide
theorem ib_bool_bool : isiB "bool" "bool" = true := by decide
theorem ib_bool_int : isiB "bool" "int" = true := by decide
theorem ib_bool_str : isiB "bool" "str" = false := by decide
theorem ib_bool_tuple : isiB "bool" "tuple" = false := by decide
theorem ib_bool_list : isiB "bool" "list" = false := by decide
theorem ib_bool_dict : isiB "bool" "dict" = false := by decide
theorem ib_bool_set : isiB "bool" "set" = false := by decide
theorem ib_int_bool : isiB "int" "bool" = false := by decide
theorem ib_int_int : isiB "int" "int" = true := by decide
theorem ib_int_str : isiB "int" "str" = false := by decide
theorem ib_int_tuple : isiB "int" "tuple" = false := by decide
theorem ib_int_list : isiB "int" "list" = false := by decide
theorem ib_int_dict : isiB "int" "dict" = false := by decide
theorem ib_int_set : isiB "int" "set" = false := by decide
theorem ib_str_bool : isiB "str" "bool" = false := by decide
theorem ib_str_int : isiB "str" "int" = false := by decide
theorem ib_str_str : isiB "str" "str" = true := by decide
theorem ib_str_tuple : isiB "str" "tuple" = false := by decide
theorem ib_str_list : isiB "str" "list" = false := by decide
theorem ib_str_dict : isiB "str" "dict" = false := by decide
theorem ib_str_set : isiB "str" "set" = false := by decide
theorem ib_tuple_bool : isiB "tuple" "bool" = false := by decide
theorem ib_tuple_int : isiB "tuple" "int" = false := by decide
theorem ib_tuple_str : isiB "tuple" "str" = false := by decide
theorem ib_tuple_tuple : isiB "tuple" "tuple" = true := by decide
theorem ib_tuple_list : isiB "tuple" "list" = false := by decide
theorem ib_tuple_dict : isiB "tuple" "dict" = false := by decide
theorem ib_tuple_set : isiB "tuple" "set" = false := by decide
theorem ib_list_bool : isiB "list" "bool" = false := by decide
theorem ib_list_int : isiB "list" "int" = false := by decide
theorem ib_list_str : isiB "list" "str" = false := by decide
theorem ib_list_tuple : isiB "list" "tuple" = false := by decide
theorem ib_list_list : isiB "list" "list" = true := by decide
theorem ib_list_dict : isiB "list" "dict" = false := by decide
theorem ib_list_set : isiB "list" "set" = false := by decide
theorem ib_dict_bool : isiB "dict" "bool" = false := by decide
theorem ib_dict_int : isiB "dict" "int" = false := by decide
theorem ib_dict_str : isiB "dict" "str" = false := by decide
theorem ib_dict_tuple : isiB "dict" "tuple" = false := by decide
theorem ib_dict_list : isiB "dict" "list" = false := by decide
theorem ib_dict_dict : isiB "dict" "dict" = true := by decide
theorem ib_dict_set : isiB "dict" "set" = false := by decide
theorem ib_set_bool : isiB "set" "bool" = false := by decide
theorem ib_set_int : isiB "set" "int" = false := by decide
theorem ib_set_str : isiB "set" "str" = false := by decide
theorem ib_set_tuple : isiB "set" "tuple" = false := by decide
theorem ib_set_list : isiB "set" "list" = false := by decide
theorem ib_set_dict : isiB "set" "dict" = false := by decide
theorem ib_set_set : isiB "set" "set" = true := by decide
/-! ### what can be read -/
def Rb (h : PHeap) (v : PV) : Prop := ∃ d, rd h 16 v = some d
theorem Rb.ty {h : PHeap} {v : PV} (r : Rb h v) : (tyOf h v).isSome = true := by
  obtain ⟨d, e⟩ := r
  exact rd_ty e
theorem Rb.nx {h : PHeap} {v : PV} (r : Rb h v) : isExc v = false := ty_notExc r.ty
theorem Rb.app {h : PHeap} {v : PV} (r : Rb h v) (t : PHeap) : Rb (h ++ t) v := by
  obtain ⟨d, e⟩ := r
  exact ⟨d, rd_app t e⟩
theorem rd_tup {h : PHeap} {f : Nat} {xs : List PV} {d : PyData} (e : rd h (f + 1) (.tup xs) = some d) : ∃ ds, d = .tuple ds ∧ xs.length ≤ 100000 ∧ allD (rd h f) xs = some ds := by
  have e' : (rdL (rd h f) xs).map PyData.tuple = some d := e
  obtain ⟨ds, e1, rfl⟩ := Option.map_eq_some_iff.mp e'
  obtain ⟨l, e1⟩ := rdL_ok e1
  exact ⟨ds, rfl, l, e1⟩
theorem rd_tup_of {h : PHeap} {f : Nat} {xs : List PV} {ds : List PyData} (l : xs.length ≤ 100000) (e : allD (rd h f) xs = some ds) : rd h (f + 1) (.tup xs) = some (.tuple ds) := by
  show (rdL (rd h f) xs).map PyData.tuple = _
  rw [rdL_of l e]
  rfl
theorem rd_ref {h : PHeap} {f n : Nat} {d : PyData} (e : rd h (f + 1) (.ref n) = some d) : ∃ xs ds, h[n]? = some (.lst xs) ∧ d = .list ds ∧ xs.length ≤ 100000 ∧ allD (rd h f) xs = some ds := by
  have e' : (match h[n]? with
    | some (.lst xs) => (rdL (rd h f) xs).map PyData.list
    | _ => none) = some d := e
  split at e'
  · rename_i xs en
    obtain ⟨ds, e1, rfl⟩ := Option.map_eq_some_iff.mp e'
    obtain ⟨l, e1⟩ := rdL_ok e1
    exact ⟨xs, ds, en, rfl, l, e1⟩
  · cases e'
theorem rd_ref_of {h : PHeap} {f n : Nat} {xs : List PV} {ds : List PyData} (en : h[n]? = some (.lst xs)) (l : xs.length ≤ 100000) (e : allD (rd h f) xs = some ds) : rd h (f + 1) (.ref n) = some (.list ds) := by
  show (match h[n]? with
    | some (.lst xs) => (rdL (rd h f) xs).map PyData.list
    | _ => none) = _
  rw [en]
  show (rdL (rd h f) xs).map PyData.list = _
  rw [rdL_of l e]
  rfl
theorem Rb.tup {h : PHeap} {xs : List PV} (r : Rb h (.tup xs)) : xs.length ≤ 100000 ∧ ∀ x ∈ xs, Rb h x := by
  obtain ⟨d, e⟩ := r
  obtain ⟨ds, rfl, l, e⟩ := rd_tup e
  refine ⟨l, fun x hx => ?_⟩
  obtain ⟨d, _, e2⟩ := allD_mem e hx
  exact ⟨d, rd_le (by decide) e2⟩
/-! ### parts -/
theorem cut_from {α : Type} (xs : List α) (k : Nat) : cut xs (some (k : Int)) none = xs.drop k := by
  unfold cut
  rw [HT.sIx_nat, HT.sIx_none]
  by_cases l : k ≤ xs.length
  · rw [Nat.min_eq_left l, List.take_of_length_le (by simp)]
  · rw [Nat.min_eq_right (by omega), List.drop_of_length_le (Nat.le_refl _), List.drop_of_length_le (by omega), List.take_nil]
theorem cut_to {α : Type} (xs : List α) (k : Nat) : cut xs none (some (k : Int)) = xs.take k := by
  unfold cut
  rw [HT.sIx_nat, HT.sIx_none, List.drop_zero, Nat.sub_zero]
  by_cases l : k ≤ xs.length
  · rw [Nat.min_eq_left l]
  · rw [Nat.min_eq_right (by omega), List.take_of_length_le (Nat.le_refl _), List.take_of_length_le (by omega)]
theorem sIx_m1 (n d : Nat) : HT.sIx n d (some (-1)) = n - 1 := by
  show (if (-1 : Int) < 0 then ((-1 : Int) + (n : Int)).toNat else min (-1 : Int).toNat n) = n - 1
  rw [if_pos (by decide)]
  omega
theorem cut_to_m1 {α : Type} (xs : List α) : cut xs none (some (-1)) = xs.take (xs.length - 1) := by
  unfold cut
  rw [sIx_m1, HT.sIx_none, List.drop_zero, Nat.sub_zero]
theorem cut_from_m1 {α : Type} (xs : List α) : cut xs (some (-1)) none = xs.drop (xs.length - 1) := by
  unfold cut
  rw [sIx_m1, HT.sIx_none, List.take_of_length_le (by simp)]
theorem tl_cutS (s : Str) (lo hi : Option Int) : tl (L2.cutS s lo hi) = cut (tl s) lo hi := by
  unfold L2.cutS cut
  try rw [len_tl]
theorem cut_1 {α : Type} (xs : List α) : cut xs (some 1) none = xs.drop 1 := cut_from xs 1
theorem cut_t1 {α : Type} (xs : List α) : cut xs none (some 1) = xs.take 1 := cut_to xs 1
/-! ### a text among texts -/
theorem any_strs (ss : List Str) (a : Str) : ((ss.map PyData.str).any fun z => PyData.eqv z (.str a)) = ss.any (· == a) := by
  rw [List.any_map]
  have e : ((fun z => PyData.eqv z (.str a)) ∘ PyData.str) = fun b : Str => b == a := by
    funext b
    exact eqv_ss
  rw [e]
theorem e_in_st {h : PHeap} {Q : PQ} {a : Str} (ss : List Str) : rInP (.str a) (.tup (ss.map .str)) h Q = Q (.bl (ss.any (· == a))) h := by
  unfold rInP inP itemsOf
  dsimp only
  rw [allD_strs, show rd h 64 (.str a) = some (.str a) from rfl]
  dsimp only
  rw [any_strs]
theorem e_notin_st {h : PHeap} {Q : PQ} {a : Str} (ss : List Str) : rNotInP (.str a) (.tup (ss.map .str)) h Q = Q (.bl (!ss.any (· == a))) h := by
  unfold rNotInP inP itemsOf
  dsimp only
  rw [allD_strs, show rd h 64 (.str a) = some (.str a) from rfl]
  dsimp only
  rw [any_strs]
/-- a walk over a range, each a value -/
theorem lc_rng {i : Nat} {te : PTE} {ok : PHeap → Prop} {τ0 : PSt} {Q : List PV → PHeap → Prop} (f : Nat → PV) {lo : Int} {n : Nat} {h : PHeap} (hl : n ≤ sizeLine) (hok : ok h)
    (step : ∀ k, k < n → ∀ Q : PQ, Q (f k) h → te (τ0.set i (some (.int (lo + (k : Nat))))) h Q F0) (q : Q ((List.range n).map f) h) : lcGo (.nm i) pYes te ok τ0 (rngOf lo n) [] h Q := by
  refine lcGo_map (fun x => match x with
    | .int j => f (j - lo).toNat
    | _ => .non) (by unfold rngOf; simpa using hl) hok (fun x hx => ?_) ?_
  · unfold rngOf at hx
    obtain ⟨k, hk, rfl⟩ := List.mem_map.mp hx
    refine ⟨_, rfl, fun Q q => step k (List.mem_range.mp hk) Q ?_⟩
    have e : (lo + (k : Nat) - lo).toNat = k := by omega
    have q' : Q (f (lo + (k : Nat) - lo).toNat) h := q
    rw [e] at q'
    exact q'
  · unfold rngOf
    rw [List.map_map]
    have e : ((fun x => match x with
      | PV.int j => f (j - lo).toNat
      | _ => .non) ∘ fun i : Nat => PV.int (lo + i)) = f := by
      funext k
      show f (lo + (k : Nat) - lo).toNat = f k
      congr 1
      omega
    rw [e]
    exact q
/-- a walk over items that stay, each a value -/
theorem lc_items {i : Nat} {te : PTE} {ok : PHeap → Prop} {τ0 : PSt} {Q : List PV → PHeap → Prop} (f : PV → PV) {xs : List PV} {h : PHeap} (hl : xs.length ≤ 100000) (hok : ok h)
    (step : ∀ x ∈ xs, ∀ Q : PQ, Q (f x) h → te (τ0.set i (some x)) h Q F0) (q : Q (xs.map f) h) : lcGo (.nm i) pYes te ok τ0 xs [] h Q :=
  lcGo_map f (by rw [sizeLine_eq]; omega) hok (fun x hx => ⟨_, rfl, fun Q q => step x hx Q q⟩) q
/-! ### promises of defs that call themselves -/
def spNo : PSp := fun _ _ _ _ => False
section
variable {P : Program} {w : World} {K : PySem.W.Frag} {mg : Str → Option Value} {base : Heap} {name : Str} {st : Stmt} {ps : List Str} {k : Nat} {sp sp' : PSp}
theorem ok_no (E : ∃ fd, FunD K name name (defArgs st) (defBody st) (defScope st) [] [] (He.ga K name) fd) : Ok P w K mg base name st ps k spNo := by
  obtain ⟨fd, F⟩ := E
  refine ⟨fd, F, ⟨fun vs H Q E h => ?_, fun A outer s H args us vs Q E hr he hb hv h => ?_⟩⟩
  · obtain ⟨_, _, _, _, _, _, _, ⟨_, z⟩, _⟩ := h
    exact z.elim
  · obtain ⟨_, _, _, _, _, _, _, ⟨_, z⟩, _⟩ := h
    exact z.elim
theorem Ok.imp (O : Ok P w K mg base name st ps k sp) (f : ∀ vs h Q E, vs.length = ps.length → sp' vs h Q E → sp vs h Q E) : Ok P w K mg base name st ps k sp' := by
  obtain ⟨fd, F, O⟩ := O
  refine ⟨fd, F, O.imp fun vs H Q E h => ?_⟩
  obtain ⟨ρ, h, xs, Qp, Ep, R, r, ⟨l, z⟩, k1, k2⟩ := h
  exact ⟨ρ, h, xs, Qp, Ep, R, r, ⟨l, f _ _ _ _ l z⟩, k1, k2⟩
theorem Ok.mono {j : Nat} (O : Ok P w K mg base name st ps j sp) (l : j ≤ k) : Ok P w K mg base name st ps k sp := by
  obtain ⟨fd, F, O⟩ := O
  exact ⟨fd, F, O.mono l⟩
theorem ok_rec {spf : Nat → PSp} {b : Nat} (E : ∃ fd, FunD K name name (defArgs st) (defBody st) (defScope st) [] [] (He.ga K name) fd) (h0 : spf 0 = spNo)
    (step : ∀ (f kk : Nat), b ≤ kk → Ok P w K mg base name st ps kk (spf f) → Ok P w K mg base name st ps (kk + 1) (spf (f + 1))) : ∀ f : Nat, Ok P w K mg base name st ps (b + f) (spf f)
  | 0 => by rw [h0]; exact ok_no E
  | f + 1 => step f (b + f) (Nat.le_add_right _ _) (ok_rec E h0 step f)
end
/-! ### sequences, by what is read -/
def seqD : PyData → Option (List PyData)
  | .tuple ds => some ds
  | .list ds => some ds
  | _ => none
def kindD : PyData → String
  | .none => "NoneType"
  | .bool _ => "bool"
  | .int _ => "int"
  | .str _ => "str"
  | .list _ => "list"
  | .tuple _ => "tuple"
  | .dict _ => "dict"
theorem rd_kind {h : PHeap} {f : Nat} {v : PV} {d : PyData} (e : rd h f v = some d) : tyOf h v = some (kindD d) := by
  cases f with
  | zero =>
    cases v with
    | non => cases e; rfl
    | bl b => cases e; rfl
    | int b => cases e; rfl
    | str b => cases e; rfl
    | _ => cases e
  | succ f =>
    cases v with
    | non => cases e; rfl
    | bl b => cases e; rfl
    | int b => cases e; rfl
    | str b => cases e; rfl
    | tup xs =>
      obtain ⟨ds, rfl, _⟩ := rd_tup e
      rfl
    | fl xs =>
      have e' : (rdL (rd h f) xs).map PyData.list = some d := e
      obtain ⟨ds, e1, rfl⟩ := Option.map_eq_some_iff.mp e'
      rfl
    | ref n =>
      obtain ⟨xs, ds, en, rfl, _⟩ := rd_ref e
      rw [ty_r, en]
      rfl
    | exc c v => cases e
theorem rd_items {h : PHeap} {f : Nat} {v : PV} {d : PyData} {ds : List PyData} (e : rd h f v = some d) (s : seqD d = some ds) : ∃ g xs, f = g + 1 ∧ itemsOf h v = some xs ∧ xs.length ≤ 100000 ∧ allD (rd h g) xs = some ds := by
  cases f with
  | zero =>
    cases v with
    | non => cases e; cases s
    | bl b => cases e; cases s
    | int b => cases e; cases s
    | str b => cases e; cases s
    | _ => cases e
  | succ f =>
    refine ⟨f, ?_⟩
    cases v with
    | non => cases e; cases s
    | bl b => cases e; cases s
    | int b => cases e; cases s
    | str b => cases e; cases s
    | tup xs =>
      obtain ⟨ds', rfl, l, e1⟩ := rd_tup e
      cases s
      exact ⟨xs, rfl, rfl, l, e1⟩
    | fl xs =>
      have e' : (rdL (rd h f) xs).map PyData.list = some d := e
      obtain ⟨ds', e1, rfl⟩ := Option.map_eq_some_iff.mp e'
      cases s
      obtain ⟨l, e1⟩ := rdL_ok e1
      exact ⟨xs, rfl, rfl, l, e1⟩
    | ref n =>
      obtain ⟨xs, ds', en, rfl, l, e1⟩ := rd_ref e
      cases s
      refine ⟨xs, rfl, ?_, l, e1⟩
      unfold itemsOf
      dsimp only
      rw [en]
    | exc c v => cases e
/-- what is no sequence is the value itself -/
def scal : PyData → Option PV
  | .none => some .non
  | .bool b => some (.bl b)
  | .int i => some (.int i)
  | .str s => some (.str s)
  | _ => none
theorem rd_scal {h : PHeap} {f : Nat} {v x : PV} {d : PyData} (e : rd h f v = some d) (s : scal d = some x) : v = x := by
  cases f with
  | zero =>
    cases v with
    | non => cases e; cases s; rfl
    | bl b => cases e; cases s; rfl
    | int b => cases e; cases s; rfl
    | str b => cases e; cases s; rfl
    | _ => cases e
  | succ f =>
    cases v with
    | non => cases e; cases s; rfl
    | bl b => cases e; cases s; rfl
    | int b => cases e; cases s; rfl
    | str b => cases e; cases s; rfl
    | tup xs =>
      obtain ⟨ds', rfl, l, e1⟩ := rd_tup e
      cases s
    | fl xs =>
      have e' : (rdL (rd h f) xs).map PyData.list = some d := e
      obtain ⟨ds', e1, rfl⟩ := Option.map_eq_some_iff.mp e'
      cases s
    | ref n =>
      obtain ⟨xs, ds', en, rfl, l, e1⟩ := rd_ref e
      cases s
    | exc c v => cases e
section
variable {h : PHeap} {v : PV} {xs : List PV} {Q : PQ} {i : Int}
theorem e_len_it (e : itemsOf h v = some xs) : MP.rLen [v] h Q = Q (.int xs.length) h := by
  cases v with
  | tup ys => cases e; rfl
  | fl ys => cases e; rfl
  | ref n =>
    unfold itemsOf at e
    dsimp only at e
    rw [e_len_r]
    split at e
    · rename_i ys en
      cases e
      first
        | rw [en]
        | rfl
    · cases e
  | _ => cases e
theorem e_ix_it (e : itemsOf h v = some xs) : MP.rIx v (.int i) h Q = (match L2.atI xs i with
      | some v => Q v h
      | none => False) := by
  cases v with
  | tup ys => cases e; rfl
  | fl ys => cases e; rfl
  | ref n =>
    unfold itemsOf at e
    dsimp only at e
    rw [e_ix_r]
    split at e
    · rename_i ys en
      cases e
      first
        | rw [en]
        | rfl
    · cases e
  | _ => cases e
theorem it_nx (e : itemsOf h v = some xs) : isExc v = false := by
  cases v with
  | exc c x => cases e
  | _ => rfl
/-- what is read of both is the same, so is it of equal texts -/
theorem e_eq_rd {x y : PV} {f g : Nat} {d : PyData} (hf : f ≤ 64) (hg : g ≤ 64) (hx : rd h f x = some d) (hy : rd h g y = some d) : rEqP x y h Q = Q (.bl true) h := by
  rw [e_eq (rd_le hf hx) (rd_le hg hy), rd_eqv f x d hx]
theorem e_ne_rd {x y : PV} {f g : Nat} {d : PyData} (hf : f ≤ 64) (hg : g ≤ 64) (hx : rd h f x = some d) (hy : rd h g y = some d) : rNeP x y h Q = Q (.bl false) h := by
  rw [e_ne (rd_le hf hx) (rd_le hg hy), rd_eqv f x d hx]
  rfl
theorem eqvAll_strs : ∀ (as bs : List Str), PyData.eqvAll (as.map .str) (bs.map .str) = (as == bs)
  | [], [] => by simp [PyData.eqvAll]
  | [], b :: bs => by simp [PyData.eqvAll]
  | a :: as, [] => by simp [PyData.eqvAll]
  | a :: as, b :: bs => by
    have := eqvAll_strs as bs
    simp [PyData.eqvAll, eqv_ss, this]
theorem rd_strs {as : List Str} (l : as.length ≤ 100000) {f : Nat} : rd h (f + 1) (.tup (as.map .str)) = some (.tuple (as.map .str)) := rd_tup_of (by simpa using l) (allD_strs as)
theorem e_ne_tt {as bs : List Str} (l1 : as.length ≤ 100000) (l2 : bs.length ≤ 100000) : rNeP (.tup (as.map .str)) (.tup (bs.map .str)) h Q = Q (.bl (!(as == bs))) h := by
  rw [e_ne (rd_strs l1) (rd_strs l2)]
  simp [PyData.eqv, eqvAll_strs]
theorem e_eq_tt {as bs : List Str} (l1 : as.length ≤ 100000) (l2 : bs.length ≤ 100000) : rEqP (.tup (as.map .str)) (.tup (bs.map .str)) h Q = Q (.bl (as == bs)) h := by
  rw [e_eq (rd_strs l1) (rd_strs l2)]
  simp [PyData.eqv, eqvAll_strs]
end
theorem allD_snoc {g : PV → Option PyData} {x : PV} {d : PyData} : ∀ {xs : List PV} {ds : List PyData}, allD g xs = some ds → g x = some d → allD g (xs ++ [x]) = some (ds ++ [d])
  | [], ds, e, ex => by
    cases e
    show (match g x, allD g [] with
      | some d, some ds => some (d :: ds)
      | _, _ => none) = _
    rw [ex]
    rfl
  | y :: ys, ds, e, ex => by
    have e' : (match g y, allD g ys with
      | some d, some ds => some (d :: ds)
      | _, _ => none) = some ds := e
    split at e'
    · rename_i d' ds' e1 e2
      cases e'
      show (match g y, allD g (ys ++ [x]) with
        | some d, some ds => some (d :: ds)
        | _, _ => none) = _
      rw [e1, allD_snoc e2 ex]
      rfl
    · cases e'
/-! ### cut at a sign, put together again -/
theorem split_len {a b : Str} (q1 : (b.length == 0) = false) (q2 : b.cps.all (· < 256) = true) : (Txt.split a b).length ≤ a.length + 1 := by
  have hne : tl b ≠ [] := fun e => by
    rw [len_tl, e] at q1
    cases q1
  have e := split_spl a b hne (kind_ok q2)
  have l0 := spl_len (tl b) (tl a) 0 []
  rw [← e, List.length_map, ← len_tl] at l0
  exact l0
theorem spl_ne (S : List Nat) : ∀ (l : List Nat) (k : Nat) (acc : List Nat), spl S k acc l ≠ []
  | [], k, acc => by rw [spl_nil]; simp
  | d :: r, k + 1, acc => spl_ne S r k acc
  | d :: r, 0, acc => by
    by_cases e : pre S (d :: r) = true
    · rw [spl_hit e]; simp
    · rw [spl_miss (by simpa using e)]
      exact spl_ne S r 0 _
theorem joinL_cons (S p : List Nat) : ∀ {r : List (List Nat)}, r ≠ [] → joinL S (p :: r) = p ++ (S ++ joinL S r)
  | q :: r, _ => by
    first
      | rfl
      | simp [joinL]
theorem join_spl (c : Nat) : ∀ (l acc : List Nat), joinL [c] (spl [c] 0 acc l) = acc ++ l
  | [], acc => by rw [spl_nil]; simp [joinL]
  | d :: r, acc => by
    by_cases e : pre [c] (d :: r) = true
    · rw [spl_hit e, joinL_cons _ _ (spl_ne _ _ _ _)]
      have ed : d = c := by
        unfold pre at e
        simpa using e
      subst ed
      show acc ++ ([d] ++ joinL [d] (spl [d] 0 [] r)) = acc ++ (d :: r)
      rw [join_spl d r []]
      rfl
    · rw [spl_miss (by simpa using e), join_spl c r]
      simp
theorem joinL_nil : ∀ ls : List (List Nat), joinL [] ls = ls.flatten
  | [] => rfl
  | [p] => by simp [joinL]
  | p :: q :: r => by
    rw [joinL_cons _ _ (by simp), joinL_nil (q :: r)]
    simp
/-- each with a sign behind it, put together -/
theorem flat_dots (c : Nat) : ∀ {ls : List (List Nat)}, ls ≠ [] → (ls.map (· ++ [c])).flatten = joinL [c] ls ++ [c]
  | [p], _ => by simp [joinL]
  | p :: q :: r, _ => by
    rw [joinL_cons _ _ (by simp), List.map_cons, List.flatten_cons, flat_dots c (ls := q :: r) (by simp)]
    simp
theorem last_is {l : List Nat} {c : Nat} : (l.drop (l.length - 1) == [c]) = (l.getLast? == some c) := by
  cases h : l.getLast? with
  | none =>
    have e : l = [] := List.getLast?_eq_none_iff.mp h
    subst e
    rfl
  | some x =>
    obtain ⟨ys, rfl⟩ := List.getLast?_eq_some_iff.mp h
    simp
theorem cut_last (s : Str) (c : Nat) : (L2.cutS s (some (-1)) none == (⟨#[c]⟩ : Str)) = ((tl s).getLast? == some c) := by
  rw [str_eq_tl, tl_cutS, cut_from_m1]
  exact last_is
theorem tl_cut_m1 (s : Str) : tl (L2.cutS s none (some (-1))) = (tl s).dropLast := by
  rw [tl_cutS, cut_to_m1, List.dropLast_eq_take]
theorem len_cutS (s : Str) (lo hi : Option Int) : (L2.cutS s lo hi).length ≤ s.length := by
  rw [len_tl, tl_cutS, len_tl]
  unfold cut
  rw [List.length_take, List.length_drop]
  omega
/-- what range(n) walks -/
theorem pRng1_of {a : PTE} {n : Nat} {τ : PSt} {h : PHeap} {R : List PV → (PHeap → Prop) → PHeap → Prop} {E : PXQ} (ha : ∀ Q : PQ, Q (.int n) h → a τ h Q E) (hn : n < 2 ^ 62) (k : R (rngOf 0 n) (fun _ => True) h) : pRng1 a τ h R E := by
  unfold pRng1
  refine ha _ ⟨by omega, by omega, ?_⟩
  rw [Int.toNat_natCast]
  exact k
/-! ### draws in a row -/
theorem lc_draw {i p w n L : Nat} {P : PV → PHeap → Prop} {te : PTE} {ok : PHeap → Prop} {τ0 : PSt} {h : PHeap} {Q : List PV → PHeap → Prop} {lo : Int} (mono : ∀ v h1 h2, P v h1 → Ev p h1 h2 → P v h2) (hL : L ≤ 100000) (hok : ∀ h', ok h') (pot : Pot1 h p (n + w * L))
    (step : ∀ (k : Nat) (h1 : PHeap) (m : Nat) (R : PQ), k < L → Pot1 h1 p (m + w) → Ev p h h1 → (∀ y h2, P y h2 → Pot1 h2 p m → Ev p h1 h2 → R y h2) → te (τ0.set i (some (.int (lo + (k : Nat))))) h1 R F0)
    (q : ∀ ys h', ys.length = L → (∀ y ∈ ys, P y h') → Pot1 h' p n → Ev p h h' → Q ys h') : lcGo (.nm i) pYes te ok τ0 (rngOf lo L) [] h Q := by
  have hlen : (rngOf lo L).length = L := by unfold rngOf; simp
  refine lcGo_inv (fun k acc h' => k ≤ L ∧ acc.length = k ∧ (∀ y ∈ acc, P y h') ∧ Pot1 h' p (n + w * (L - k)) ∧ Ev p h h') (rngOf lo L) (fun k acc h' _ => hok h') (fun acc h' z => ?_) (fun k x acc h' N ek z nn => ?_) h ⟨Nat.zero_le _, rfl, fun y hy => (by cases hy), pot, .refl⟩
  · obtain ⟨z0, z1, z2, z3, z4⟩ := z
    rw [hlen] at z1 z3
    rw [Nat.sub_self, Nat.mul_zero, Nat.add_zero] at z3
    exact q acc h' z1 z2 z3 z4
  · obtain ⟨z0, z1, z2, z3, z4⟩ := z
    have hk : k < L := by
      have := (List.getElem?_eq_some_iff.mp ek).1
      rw [hlen] at this
      exact this
    have ex : x = .int (lo + (k : Nat)) := by
      unfold rngOf at ek
      rw [List.getElem?_map, List.getElem?_range hk] at ek
      exact (Option.some.inj ek).symm
    subst ex
    refine ⟨_, rfl, ?_⟩
    unfold pYes
    dsimp only
    rw [if_pos rfl]
    have e : n + w * (L - k) = n + w * (L - (k + 1)) + w := by
      have : L - k = (L - (k + 1)) + 1 := by omega
      rw [this, Nat.mul_add, Nat.mul_one]
      omega
    rw [e] at z3
    refine step k h' _ _ hk z3 z4 fun y h2 py p2 e2 => ⟨by rw [z1, sizeLine_eq]; omega, nn _ _ ⟨hk, by rw [List.length_append, z1]; rfl, fun y' hy' => ?_, p2, z4.trans e2⟩⟩
    rcases List.mem_append.mp hy' with a | a
    · exact mono y' h' h2 (z2 y' a) e2
    · rw [List.mem_singleton.mp a]
      exact py
/-- values that are short texts -/
def ShS (b : Nat) (v : PV) (_ : PHeap) : Prop := ∃ s : Str, v = .str s ∧ s.length ≤ b
theorem shS_list {b : Nat} {h : PHeap} : ∀ {ys : List PV}, (∀ y ∈ ys, ShS b y h) → ∃ ss : List Str, ys = ss.map .str ∧ ∀ s ∈ ss, s.length ≤ b
  | [], _ => ⟨[], rfl, fun s hs => by cases hs⟩
  | y :: ys, m => by
    obtain ⟨s, rfl, ls⟩ := m y List.mem_cons_self
    obtain ⟨ss, rfl, l⟩ := shS_list fun y' hy => m y' (List.mem_cons_of_mem _ hy)
    exact ⟨s :: ss, rfl, fun s' hs' => by
      rcases List.mem_cons.mp hs' with e | e
      · rw [e]; exact ls
      · exact l s' e⟩
theorem rng_draw {τ : PSt} {i : Nat} {m : Int} {n : Nat} {sp : PSp} {h : PHeap} {Q : PQ} {E : PXQ} {p : Nat} (hs : sp = sp_draw) (hτ : τ[i]? = some (some (.ref p))) (m0 : 0 < m) (m1 : m < 2 ^ 64) (P : Pot1 h p (n + 1)) (k : ∀ r h', 0 ≤ r → r < m → Pot1 h' p n → Ev p h h' → h'.length = h.length → Q (.int r) h') :
    pCall (gd 2 sp) (pCons (pVar i) (pCons (pC (.int m)) pNil)) τ h Q E := by
  subst hs
  unfold pCall pCons pVar pC pNil
  dsimp only
  rw [hτ]
  exact ⟨rfl, rfl, p, m, n, rfl, m0, m1, P, k⟩
theorem hid_app {p : Nat} {h : PHeap} (l : p < h.length) (t : PHeap) : hid p (h ++ t) = hid p h ++ t := by
  unfold hid
  exact List.set_append_left _ _ l
theorem get_app {h t : PHeap} (k : Nat) : (h ++ t)[h.length + k]? = t[k]? := by
  rw [List.getElem?_append_right (by omega)]
  congr 1
  omega
theorem Ev.get {p : Nat} {h h' : PHeap} (E : Ev p h h') {i : Nat} (n : i ≠ p) (l : i < h.length) : h'[i]? = h[i]? := E.same i n l
theorem Pot1.set {h : PHeap} {p n q : Nat} {c : Cell} (P : Pot1 h p n) (nq : q ≠ p) : Pot1 (h.set q c) p n := by
  obtain ⟨a, b, d, e, r⟩ := P
  exact ⟨a, b, d, by rw [List.getElem?_set_ne nq]; exact e, r⟩
theorem Ev.setNew {p q : Nat} {h h' : PHeap} {c : Cell} (E : Ev p h h') (l : h.length ≤ q) : Ev p h (h'.set q c) := ⟨by rw [List.length_set]; exact E.len, fun i n hi => by rw [List.getElem?_set_ne (by omega)]; exact E.same i n hi⟩
theorem map_set_str (ss : List Str) (i : Nat) (a : Str) : (ss.map PV.str).set i (.str a) = (ss.set i a).map .str := by rw [List.map_set]
theorem mem_set_le {ss : List Str} {b i : Nat} {a : Str} (h : ∀ s ∈ ss, s.length ≤ b) (ha : a.length ≤ b) : ∀ s ∈ ss.set i a, s.length ≤ b := fun s hs => by
  rcases List.mem_or_eq_of_mem_set hs with e | e
  · exact h s e
  · rw [e]; exact ha
/-! ### values made -/
def Mk (k p : Nat) (e : PTE) (τ : PSt) : Prop := ∀ (h : PHeap) (Q : PQ) (E : PXQ), p < h.length → (∀ v t, (∃ d, rd (hid p (h ++ t)) k v = some d) → Q v (h ++ t)) → e τ h Q E
def MkA (k p : Nat) (a : PTA) (n : Nat) (τ : PSt) : Prop := ∀ (h : PHeap) (Q : List PV → PHeap → Prop) (E : PXQ), p < h.length → (∀ vs t, vs.length = n → (∀ v ∈ vs, ∃ d, rd (hid p (h ++ t)) k v = some d) → Q vs (h ++ t)) → a τ h Q E
section
variable {k p n : Nat} {τ : PSt} {e : PTE} {a : PTA}
theorem app_nil {h : PHeap} : h ++ [] = h := List.append_nil h
theorem mk_non : Mk k p (pC .non) τ := fun h Q E _ q => by
  have := q .non [] ⟨.none, by cases k <;> rfl⟩
  rwa [app_nil] at this
theorem mk_bl {b : Bool} : Mk k p (pC (.bl b)) τ := fun h Q E _ q => by
  have := q (.bl b) [] ⟨.bool b, by cases k <;> rfl⟩
  rwa [app_nil] at this
theorem mk_int {i : Int} : Mk k p (pC (.int i)) τ := fun h Q E _ q => by
  have := q (.int i) [] ⟨.int i, by cases k <;> rfl⟩
  rwa [app_nil] at this
theorem mk_neg {i : Int} : Mk k p (pUn MP.rNeg (pC (.int i))) τ := fun h Q E _ q => by
  have := q (.int (-i)) [] ⟨.int (-i), by cases k <;> rfl⟩
  rwa [app_nil] at this
theorem mk_str {s : Str} : Mk k p (pC (.str s)) τ := fun h Q E _ q => by
  have := q (.str s) [] ⟨.str s, by cases k <;> rfl⟩
  rwa [app_nil] at this
theorem mk_mul {s : Str} {i : Int} (c : PySem.MulOk s i ∧ okS (Txt.mul s i)) : Mk k p (pOp MP.rMul (pC (.str s)) (pC (.int i))) τ := fun h Q E _ q => by
  have := q (.str (Txt.mul s i)) [] ⟨.str (Txt.mul s i), by cases k <;> rfl⟩
  rw [app_nil] at this
  exact ⟨c, this⟩
theorem mka_nil : MkA k p pNil 0 τ := fun h Q E _ q => by
  have := q [] [] rfl (fun v hv => absurd hv List.not_mem_nil)
  rwa [app_nil] at this
theorem rdh_app {h t : PHeap} (l : p < h.length) {v : PV} {d : PyData} (e : rd (hid p h) k v = some d) : rd (hid p (h ++ t)) k v = some d := by
  rw [hid_app l]
  exact rd_app t e
theorem mka_cons (x : Mk k p e τ) (y : MkA k p a n τ) : MkA k p (pCons e a) (n + 1) τ := fun h Q E l q => by
  refine x h _ E l fun v t ⟨d, r⟩ => y (h ++ t) _ E (by rw [List.length_append]; omega) fun vs t' lv m => ?_
  have := q (v :: vs) (t ++ t') (by rw [List.length_cons, lv]) (fun v' hv => by
    rw [← List.append_assoc]
    rcases List.mem_cons.mp hv with z | z
    · rw [z]; exact ⟨d, rdh_app (by rw [List.length_append]; omega) r⟩
    · exact m v' z)
  rwa [← List.append_assoc] at this
theorem allD_of {g : PV → Option PyData} : ∀ {vs : List PV}, (∀ v ∈ vs, ∃ d, g v = some d) → ∃ ds, allD g vs = some ds
  | [], _ => ⟨[], rfl⟩
  | v :: vs, m => by
    obtain ⟨d, e⟩ := m v List.mem_cons_self
    obtain ⟨ds, es⟩ := allD_of fun v' hv => m v' (List.mem_cons_of_mem _ hv)
    refine ⟨d :: ds, ?_⟩
    show (match g v, allD g vs with
      | some d, some ds => some (d :: ds)
      | _, _ => none) = _
    rw [e, es]
theorem mk_tup (y : MkA k p a n τ) (hn : n ≤ 100000 := by decide) : Mk (k + 1) p (pTup a) τ := fun h Q E l q => by
  refine y h _ E l fun vs t lv m => ⟨by rw [lv, sizeLine_eq]; omega, q _ t ?_⟩
  obtain ⟨ds, e⟩ := allD_of m
  exact ⟨_, rd_tup_of (by rw [lv]; exact hn) e⟩
theorem mk_new (y : MkA k p a n τ) (hn : n ≤ 100000 := by decide) : Mk (k + 1) p (pNew (pTmp a)) τ := fun h Q E l q => by
  refine y h _ E l fun vs t lv m => ⟨by rw [lv, sizeLine_eq]; omega, ?_⟩
  obtain ⟨ds, e⟩ := allD_of m
  have := q (.ref (h ++ t).length) (t ++ [.lst vs]) ⟨_, by
    rw [← List.append_assoc, hid_app (by rw [List.length_append]; omega)]
    refine rd_ref_of (xs := vs) ?_ (by rw [lv]; exact hn) (allD_mono (fun x d z => rd_app _ z) e)
    have e2 : (hid p (h ++ t)).length = (h ++ t).length := by unfold hid; rw [List.length_set]
    rw [← e2, List.getElem?_concat_length]⟩
  rwa [← List.append_assoc] at this
theorem mk_up {j : Nat} (x : Mk j p e τ) (l : j ≤ k := by decide) : Mk k p e τ := fun h Q E hp q => x h Q E hp fun v t ⟨d, r⟩ => q v t ⟨d, rd_le l r⟩
theorem mka_up {j : Nat} (x : MkA j p a n τ) (l : j ≤ k := by decide) : MkA k p a n τ := fun h Q E hp q => x h Q E hp fun vs t lv m => q vs t lv fun v hv => by
  obtain ⟨d, r⟩ := m v hv
  exact ⟨d, rd_le l r⟩
end
/-! ### one step at a time -/
section
variable {τ : PSt} {h : PHeap} {Q : PQ} {E : PXQ} {D : PD} {a b : PTE} {t : PTA} {i : Nat} {u : PTS}
theorem seq_asg (k : a τ h (fun x h1 => u D (τ.set i (some x)) h1) (fun c v h1 => D.ex c v τ h1)) : pSeq (pAsg a (.nm i)) u D τ h := k
theorem st_ret (k : a τ h D.rt (fun c v h1 => D.ex c v τ h1)) : pRet a D τ h := k
theorem new_of (k : t τ h (fun vs h1 => vs.length ≤ sizeLine ∧ Q (.ref h1.length) (h1 ++ [.lst vs])) E) : pNew (pTmp t) τ h Q E := k
theorem op_of {r : POp} (k : a τ h (fun x h1 => b τ h1 (fun y h2 => r x y h2 Q) E) E) : pOp r a b τ h Q E := k
theorem var_of {v : PV} (e : τ[i]? = some (some v)) (x : isExc v = false) (k : Q v h) : pVar i τ h Q E := by
  unfold pVar
  rw [e]
  exact ⟨x, k⟩
end
theorem seq_for {s : PTI} {g : Tg} {b u : PTS} {D : PD} {τ : PSt} {h : PHeap} (k : s τ h (fun xs ok h1 => forGo g b { D with nx := u D } ok xs τ h1) (fun c v h' => D.ex c v τ h')) : pSeq (pFor s g b) u D τ h := k
theorem seq_if {c : PTT} {a b u : PTS} {D : PD} {τ : PSt} {h : PHeap} (k : c τ h (fun x h1 => if x = true then a { D with nx := u D } τ h1 else b { D with nx := u D } τ h1) (fun c v h1 => D.ex c v τ h1)) : pSeq (pIfS c a b) u D τ h := k
theorem rd_pair {h : PHeap} {f : Nat} {a b : PV} {da db : PyData} (ea : rd h f a = some da) (eb : rd h f b = some db) : rd h (f + 1) (.tup [a, b]) = some (.tuple [da, db]) := by
  refine rd_tup_of (show 2 ≤ 100000 by decide) ?_
  simp only [allD, ea, eb]
theorem rd_str' {h : PHeap} {f : Nat} {s : Str} : rd h f (.str s) = some (.str s) := by cases f <;> rfl
end MP
set_option maxHeartbeats 4000000
/-! MP13: sequences turned round. -/
namespace MP.Rev
open PySem PySem.Spec PyProof.Rows Builtin
section
variable {prog : Program} {w : World} {A : Around} {E : Value → Shared → Prop} {s : Shared}
theorem applied_rev {sl : Addr} {vl vu vs : Value} {n : Nat} {Q : Int × Int × Nat → Shared → Prop} (hs : s.heap.IsSliceOf sl vl vu vs) (pl : IsPart vl none) (pu : IsPart vu none) (ps : IsPart vs (some (-1)))
    (h : Q ((n : Int) - 1, -1, n) s) : wpAny (model prog w) A (Builtin.Slice.sliceApplied (.ref sl) (pure (n : Int))) Q E s := by
  obtain ⟨os, hos, hcs, hds⟩ := id hs
  unfold Builtin.Slice.sliceApplied Builtin.Slice.sliceFields
  refine wpAny_bind (wpAny_bind (wpAny_field hos hds (x := vl) rfl (wpAny_bind (wpAny_field hos hds (x := vu) rfl (wpAny_bind (wpAny_field hos hds (x := vs) rfl (wpAny_pure ?_)))))))
  refine wpAny_bind (HT.slicePart_ ps ?_)
  show wpAny _ _ (if ((-1 : Int) == 0) = true then _ else _) _ _ s
  rw [if_neg (by decide)]
  refine wpAny_bind (HT.slicePart_ pl (wpAny_bind (HT.slicePart_ pu (wpAny_bind (wpAny_pure ?_)))))
  show wpAny _ _ (match Builtin.Slice.sliceAdjust none none (-1) (n : Int) with | (lo, hi) => pure (lo, (-1 : Int), Builtin.Slice.slicePlaces lo hi (-1))) _ _ s
  have e1 : Builtin.Slice.sliceAdjust none none (-1) (n : Int) = ((n : Int) - 1, -1) := by
    unfold Builtin.Slice.sliceAdjust
    simp
  have e2 : Builtin.Slice.slicePlaces ((n : Int) - 1) (-1) (-1) = n := by
    unfold Builtin.Slice.slicePlaces
    rw [if_neg (by decide)]
    by_cases c : (n : Int) - 1 > -1
    · rw [if_pos c]
      simp
      try omega
    · rw [if_neg c]
      simp at c ⊢
      try omega
  rw [e1]
  show wpAny _ _ (pure ((n : Int) - 1, (-1 : Int), Builtin.Slice.slicePlaces ((n : Int) - 1) (-1) (-1))) _ _ s
  rw [e2]
  exact wpAny_pure h
theorem range_fm {α : Type} : ∀ l : List α, (List.range l.length).filterMap (fun m => l[m]?) = l
  | [] => rfl
  | x :: l => by
    rw [List.length_cons, List.range_succ_eq_map, List.filterMap_cons]
    show x :: ((List.range l.length).map Nat.succ).filterMap (fun m => (x :: l)[m]?) = x :: l
    rw [List.filterMap_map]
    have e : ((fun m => (x :: l)[m]?) ∘ Nat.succ) = fun m => l[m]? := by
      funext m
      show (x :: l)[m + 1]? = l[m]?
      rw [List.getElem?_cons_succ]
    rw [e, range_fm l]
theorem fm_congr {α β : Type} {f g : α → Option β} : ∀ {l : List α}, (∀ x ∈ l, f x = g x) → l.filterMap f = l.filterMap g
  | [], _ => rfl
  | x :: l, m => by
    rw [List.filterMap_cons, List.filterMap_cons, m x List.mem_cons_self, fm_congr fun y hy => m y (List.mem_cons_of_mem _ hy)]
theorem pick_rev (xs : Array Value) : ((List.range xs.size).filterMap fun (m : Nat) => xs[(((xs.size : Nat) : Int) - 1 + (m : Int) * -1).toNat]?).toArray = xs.toList.reverse.toArray := by
  congr 1
  have e0 := range_fm xs.toList.reverse
  rw [List.length_reverse, Array.length_toList] at e0
  rw [← e0]
  refine fm_congr fun m hm => ?_
  have hl := List.mem_range.mp hm
  rw [List.getElem?_reverse (by rw [Array.length_toList]; exact hl), Array.getElem?_toList, Array.length_toList]
  congr 1
  omega
theorem get_rev {t sl : Addr} {items : Array Value} {vl vu vs : Value} {Q : Value → Shared → Prop} (ht : IsTup s.heap t items) (hs : s.heap.IsSliceOf sl vl vu vs) (pl : IsPart vl none) (pu : IsPart vu none) (ps : IsPart vs (some (-1)))
    (h : Q (.ref s.heap.objs.size) { s with heap := s.heap.push { cls := .type "tuple", data := .seq items.toList.reverse.toArray } })
    (hsz : items.size ≤ sizeLine) : wpAny (model prog w) A (getItem (.ref t) (.ref sl)) Q E s := by
  have htake : sizeOk (.seq items.toList.reverse.toArray) := by
    show items.toList.reverse.toArray.size ≤ sizeLine
    rw [List.size_toArray, List.length_reverse, Array.length_toList]
    exact hsz
  obtain ⟨os, hos, hcs, hds⟩ := id hs
  have hTs : s.TypeIs (.ref sl) "slice" := ⟨os, hos, hcs⟩
  unfold getItem
  try with_reducible refine wpAny_holding ?_
  first | refine wpAny_bind (wpAny_pure ?_) | skip
  refine wpAny_bind (wpAny_sequenceKey ht.typeIs (by decide) ?_)
  refine wpAny_bind (wpAny_callSpecial?_slot (name := Str.ofString "__getitem__") ht.typeIs PyProof.Rows.slot_tuple_getitem
    (wpAny_call_entry PyProof.Rows.slot_tuple_getitem ht.typeIs entry_tuple_getitem ?_ (args_tuple_getitem _ _)))
  show wpAny _ _ (Builtin.Tuple.tupleItemsOf (.ref t) >>= _) _ _ s
  refine wpAny_bind (tupleItemsOf_ ht ?_)
  refine wpAny_bind (wpAny_typeOf hTs ?_)
  rw [if_pos (by decide)]
  refine wpAny_bind (applied_rev hs pl pu ps ?_)
  have hno : ¬ ((((items.size : Nat) : Int) - 1 == 0 && (-1 : Int) == 1 && items.size == items.size) = true) := by
    intro q
    rw [Bool.and_eq_true, Bool.and_eq_true] at q
    exact absurd q.1.2 (by decide)
  show wpAny _ _ (if (((items.size : Nat) : Int) - 1 == 0 && (-1 : Int) == 1 && items.size == items.size) = true then _ else _) _ _ s
  rw [if_neg hno, pick_rev]
  first
    | exact wpAny_bind (m := Builtin.Tuple.tupleExact _) (wpAny_newObj_type (wpAny_pure ⟨_, rfl, wpAny_pure h⟩) htake)
    | exact wpAny_bind (m := Builtin.Tuple.tupleExact _) (wpAny_newObj_type (wpAny_bind (wpAny_pure (wpAny_pure ⟨_, rfl, wpAny_pure h⟩))) htake)
    | exact wpAny_bind (wpAny_bind (m := Builtin.Tuple.tupleExact _) (wpAny_newObj_type (wpAny_pure (wpAny_pure ⟨_, rfl, wpAny_pure h⟩)) htake))
    | exact wpAny_bind (wpAny_bind (m := Builtin.Tuple.tupleExact _) (wpAny_newObj_type (wpAny_pure ⟨_, rfl, wpAny_pure h⟩) htake))
end
end MP.Rev
namespace MP
open PySem PySem.Spec PyProof.Rows L2 TL
/-- x[::-1] of a list or a tuple -/
def rRev : PUn := fun x h Q => match x with
  | .tup xs => Q (.tup xs.reverse) h
  | .fl xs => Q (.ref h.length) (h ++ [.lst xs.reverse])
  | .ref n => match h[n]? with
    | some (.lst xs) => Q (.ref h.length) (h ++ [.lst xs.reverse])
    | _ => False
  | _ => False
def tRevA (K : PySem.W.Frag) (te : TE) : TE := fun σ H Q => te σ H fun x H1 => ∃ a xs, x = .ref a ∧ ((SqL K H1 a xs ∧ ∀ p, H1 p = none → Q (.ref p) (upd H1 p (.lst xs.reverse))) ∨ (SqT K H1 a xs ∧ ∀ p, H1 p = none → Q (.ref p) (upd H1 p (.tup xs.reverse))))
section
variable {X : Cx} {xa : Option (Nat × Addr × Value × Option Addr)} {W : WX}
theorem pe_revA {e : Expr} {te : TE} {k : Nat} {p1 p2 p3 pos : Pos} (he : PE X e te) : PE X (.Subscript e (.Slice none none (some (.UnaryOp .USub (.Constant (.int 1) k p1) p2)) p3) pos) (tRevA X.K te) := by
  refine ⟨fun pins s σ H Q I h => ?_⟩
  refine Subscript_ (thn (he.run pins s σ H _ I h) fun v s1 ⟨x, H1, I1, r1, q1⟩ => ?_)
  obtain ⟨a, xs, ex, q⟩ := q1
  subst ex
  cases r1
  have hst : PO X (some (.UnaryOp .USub (.Constant (.int 1) k p1) p2)) (tPart (tUn (rU fun i => .int (-i)) (tC (.int 1)))) := po_some (pe_un un_neg pe_int)
  refine wpAny_Slice (thn (po_none.run pins s1 σ H1 (fun o H2 => o = none ∧ H2 = H1) I1 ⟨rfl, rfl⟩) fun vl s2 ⟨l, H2, I2, pl, el, e2⟩ => ?_)
  subst el e2
  refine thn (po_none.run pins s2 σ H2 (fun o H3 => o = none ∧ H3 = H2) I2 ⟨rfl, rfl⟩) fun vu s3 ⟨u, H3, I3, pu, eu, e3⟩ => ?_
  subst eu e3
  refine thn (hst.run pins s3 σ H3 (fun o H4 => o = some (-1) ∧ H4 = H3) I3 ⟨1, rfl, -1, rfl, rfl, rfl⟩) fun vs s4 ⟨o, H4, I4, ps, eo, e4⟩ => ?_
  subst eo e4
  have I5 : Inv X pins σ H4 { s4 with heap := s4.heap.push { cls := .type "slice", data := .fields #[vl, vu, vs] } } := I4.kept (t' := s4.toks) fun b ob q => Heap.get?_push_of_some _ q
  show wpAny (model X.prog X.w) X.A (subscriptTail e (.Slice none none (some (.UnaryOp .USub (.Constant (.int 1) k p1) p2)) p3) (.ref a) (.ref s4.heap.objs.size)) (EP X pins σ Q) X.xe { s4 with heap := s4.heap.push { cls := .type "slice", data := .fields #[vl, vu, vs] } }
  rcases q with ⟨hx, q⟩ | ⟨hx, q⟩
  · obtain ⟨its, r, ht, hz⟩ := I5.list hx
    have hlen := r.length
    refine tail_any (ops := [.ref a, .ref s4.heap.objs.size]) ht.isList.typeIs (PySem.slot_list_getitem.lookup) ?_ (by with_unfolding_all rfl)
    refine wpAny_getItem_list_slice ht.isList (Heap.IsSliceOf.new _ vl vu vs) pl pu ps (by decide) ?_ (by rw [List.size_toArray]; omega)
    rw [PySem.W.krv_pick]
    refine ⟨.ref _, _, I5.laid (t' := s4.toks) (o := .lst xs.reverse) (fun b ob q => Heap.get?_push_of_some _ q) (Nat.le_refl _) ?_, rfl, q _ (I5.hok.fresh (Nat.le_refl _))⟩
    exact ⟨by rw [List.length_reverse]; exact hz, _, 0, r.reverse, Heap.get?_push_size _ rfl⟩
  · obtain ⟨its, r, ht, hz⟩ := I5.tuple hx
    have hlen : its.toArray.size = xs.length := by rw [List.size_toArray]; exact r.length.symm
    refine tail_any (ops := [.ref a, .ref s4.heap.objs.size]) ht.typeIs (PyProof.Rows.slot_tuple_getitem.lookup) ?_ (by with_unfolding_all rfl)
    refine Rev.get_rev ht (Heap.IsSliceOf.new _ vl vu vs) pl pu ps ?_ (by rw [hlen]; exact hz)
    refine ⟨.ref _, _, I5.laid (t' := s4.toks) (o := .tup xs.reverse) (fun b ob q => Heap.get?_push_of_some _ q) (Nat.le_refl _) ?_, rfl, q _ (I5.hok.fresh (Nat.le_refl _))⟩
    exact ⟨by rw [List.length_reverse]; exact hz, _, r.reverse, IsTup.new _ _⟩
theorem RVs.rev {G : LG} {ρ : List Addr} {H : Hp} : ∀ {xs : List PV} {vs : List V}, RVs G ρ H xs vs → RVs G ρ H xs.reverse vs.reverse
  | _, _, .nil => .nil
  | _, _, .cons r rs => by
    rw [List.reverse_cons, List.reverse_cons]
    exact (RVs.rev rs).append (.cons r .nil)
theorem le_rev {e : Expr} {te : PTE} {k : Nat} {p1 p2 p3 pos : Pos} (he : PE X e (lE (gX X) xa W te)) : PE X (.Subscript e (.Slice none none (some (.UnaryOp .USub (.Constant (.int 1) k p1) p2)) p3) pos) (lE (gX X) xa W (pUn rRev te)) := by
  refine PE_imp (pe_revA he) fun σ H Q h => ?_
  obtain ⟨ρ, τ, h, Qp, Ep, R, S, hp, kk, kx⟩ := h
  refine ⟨ρ, τ, h, _, Ep, R, S, hp, fun ρ1 H1 h1 x v E1 R1 r1 q1 => ?_, kx⟩
  cases r1 with
  | @tup xs a vs q l rs =>
    have q1' : Qp (.tup xs.reverse) h1 := q1
    refine ⟨a, vs, rfl, .inr ⟨q, fun p np => ?_⟩⟩
    obtain ⟨E2, R2, r3⟩ := R1.newT np (vs := vs.reverse) (by rw [List.length_reverse]; exact l) rs.rev
    exact kk _ _ _ _ _ (E1.trans E2) R2 r3 q1'
  | @fl xs a vs q l rs =>
    have q1' : Qp (.ref h1.length) (h1 ++ [.lst xs.reverse]) := q1
    refine ⟨a, vs, rfl, .inl ⟨q.seq, fun p np => ?_⟩⟩
    obtain ⟨E2, R2, r3⟩ := R1.new np (vs := vs.reverse) (by rw [List.length_reverse]; exact l) rs.rev
    exact kk _ _ _ _ _ (E1.trans E2) R2 r3 q1'
  | @ref n a ea =>
    have q1' : (match h1[n]? with
      | some (.lst xs) => Qp (.ref h1.length) (h1 ++ [.lst xs.reverse])
      | _ => False) := q1
    split at q1'
    · rename_i xs en
      obtain ⟨a', vs, ea', ev, l, rs⟩ := R1.lst en
      rw [ea] at ea'; cases ea'
      refine ⟨a, vs, rfl, .inl ⟨.of ev, fun p np => ?_⟩⟩
      obtain ⟨E2, R2, r3⟩ := R1.new np (vs := vs.reverse) (by rw [List.length_reverse]; exact l) rs.rev
      exact kk _ _ _ _ _ (E1.trans E2) R2 r3 q1'
    · exact q1'.elim
  | _ => exact False.elim q1
end
end MP
set_option maxHeartbeats 4000000
/-! MP14: str, ord, divmod. -/
namespace MP
open PySem PySem.Spec PyProof.Rows L2 TL
/-- str(i), i no less than 0 -/
def rStrI : PCb := fun vs h Q => match vs with
  | [.int i] => (0 ≤ i ∧ i < 10 ^ 300) ∧ Q (.str (Str.ofString (toString i))) h
  | _ => False
def rOrd : PCb := fun vs h Q => match vs with
  | [.str s] => s.length = 1 ∧ Q (.int ((tl s).headD 0 : Nat)) h
  | _ => False
def rDivmod : PCb := fun vs h Q => match vs with
  | [.int i, .int j] => (0 < j ∧ j < 1073741824) ∧ Q (.tup [.int (i / j), .int (i % j)]) h
  | _ => False
theorem numL_ok {n : Nat} (h : n < 10 ^ 300) : okS (Str.ofString (toString ((n : Nat) : Int))) := by
  refine okS_all.mpr ⟨?_, fun c hc => ?_⟩
  · rw [len_tl, tl_num]
    have := numL_len (n := n) (k := 300) (by decide) h
    rw [sizeLine_eq]
    omega
  · rw [tl_num] at hc
    have := numL_digits n c hc
    omega
section
variable {X : Cx}
theorem mc_ord : CallR X (.builtin "ord") (lC (gX X) rOrd) := by
  intro pins s σ H vs us Q I rr hh
  obtain ⟨ρ, h, xs, Qp, R, r1, hp, k⟩ := hh
  unfold rOrd at hp
  split at hp
  · rename_i a
    obtain ⟨v, e, r⟩ := one_rv r1
    subst e
    cases r with
    | str oa =>
      obtain ⟨hl, q⟩ := hp
      refine L2.call_ord pins s σ H _ us Q I rr ⟨a, rfl, hl, ?_⟩
      have e : a.cps.getD 0 0 = (tl a).headD 0 := by
        clear hl q k oa rr
        obtain ⟨⟨l'⟩⟩ := a
        cases l' <;> rfl
      rw [e]
      exact k ρ H h _ _ .refl R (.int _) q
  · exact hp.elim
theorem mc_str : CallR X (.type "str") (lC (gX X) rStrI) := by
  intro pins s σ H vs us Q I rr hh
  obtain ⟨ρ, h, xs, Qp, R, r1, hp, k⟩ := hh
  unfold rStrI at hp
  split at hp
  · rename_i i
    obtain ⟨v, e, r⟩ := one_rv r1
    subst e
    cases r with
    | int i =>
      obtain ⟨⟨h0, h1⟩, q⟩ := hp
      obtain ⟨n, rfl⟩ : ∃ n : Nat, i = n := ⟨i.toNat, by omega⟩
      have hn : n < 10 ^ 300 := by
        have : ((n : Nat) : Int) < ((10 ^ 300 : Nat) : Int) := by simpa using h1
        exact Int.ofNat_lt.mp this
      have hlog : (n : Int).natAbs.log2 < 1920 := by
        rw [Int.natAbs_natCast]
        by_cases z : n = 0
        · subst z; decide
        · have : n < 2 ^ 1000 := Nat.lt_of_lt_of_le hn (by decide)
          have := (Nat.log2_lt z).mpr this
          omega
      exact L2.call_str_int pins s σ H _ us Q I rr ⟨_, rfl, hlog, k ρ H h _ _ .refl R (.str (numL_ok hn)) q⟩
  · exact hp.elim
theorem mc_divmod : CallR X (.builtin "divmod") (lC (gX X) rDivmod) := by
  intro pins s σ H vs us Q I rr hh
  obtain ⟨ρ, h, xs, Qp, R, r1, hp, k⟩ := hh
  unfold rDivmod at hp
  split at hp
  · rename_i i j
    obtain ⟨v, u, e, ra, rb⟩ := two_rv r1
    subst e
    cases ra
    cases rb
    obtain ⟨⟨h0, h1⟩, q⟩ := hp
    refine L2.call_divmod pins s σ H _ us Q I rr ⟨i, j, rfl, ⟨h0, h1⟩, fun p np => ?_⟩
    obtain ⟨E2, R2, r3⟩ := R.newT (xs := [.int (i / j), .int (i % j)]) (vs := [.int (i / j), .int (i % j)]) np (by rw [sizeLine_eq]; show 2 ≤ 16777216; decide) (.cons (.int _) (.cons (.int _) .nil))
    exact k _ _ _ _ _ E2 R2 r3 q
  · exact hp.elim
end
section
variable {h : PHeap} {Q : PQ} {i j : Int} {a : Str}
theorem e_str_i : rStrI [.int i] h Q = ((0 ≤ i ∧ i < 10 ^ 300) ∧ Q (.str (Str.ofString (toString i))) h) := rfl
theorem e_ord : rOrd [.str a] h Q = (a.length = 1 ∧ Q (.int ((tl a).headD 0 : Nat)) h) := rfl
theorem e_divmod : rDivmod [.int i, .int j] h Q = ((0 < j ∧ j < 1073741824) ∧ Q (.tup [.int (i / j), .int (i % j)]) h) := rfl
theorem e_rev_t {xs : List PV} : rRev (.tup xs) h Q = Q (.tup xs.reverse) h := rfl
theorem e_rev_r {n : Nat} : rRev (.ref n) h Q = (match h[n]? with
    | some (.lst xs) => Q (.ref h.length) (h ++ [.lst xs.reverse])
    | _ => False) := rfl
end
end MP
set_option maxHeartbeats 4000000
/-! MP15: the order of tuples, by what is read. -/
namespace MP
open PySem PySem.Spec PyProof.Rows L2 TL
def ordL (g : PyData → PyData → Option Bool) (z : Bool) : List PyData → List PyData → Option Bool
  | x :: xs, y :: ys => match ordL g z xs ys with
    | some b => if PyData.eqv x y = true then some b else g x y
    | none => none
  | _, _ => some z
/-- an order of data: of ints, of texts, of lengths -/
def ordD (pi : Int → Int → Bool) (ps : List Nat → List Nat → Bool) (pl : Nat → Nat → Bool) : Nat → PyData → PyData → Option Bool
  | _, .int i, .int j => some (pi i j)
  | _, .str a, .str b => some (ps (tl a) (tl b))
  | f + 1, .tuple xs, .tuple ys => ordL (ordD pi ps pl f) (pl xs.length ys.length) xs ys
  | _, _, _ => none
theorem ordL_lex {g : PyData → PyData → Option Bool} {z : Bool} {X Y : List PyData} : ∀ (n i : Nat) (b : Bool), n = min (X.length - i) (Y.length - i) → ordL g z (X.drop i) (Y.drop i) = some b →
    Ob.lexAt (fun j => PyData.eqv (X.getD j .none) (Y.getD j .none)) (fun j => (g (X.getD j .none) (Y.getD j .none)).getD false) z i n = b ∧
    ∀ j, i ≤ j → j < X.length → j < Y.length → PyData.eqv (X.getD j .none) (Y.getD j .none) = false → ∃ c, g (X.getD j .none) (Y.getD j .none) = some c := by
  intro n
  induction n with
  | zero =>
    intro i b hn e
    refine ⟨?_, fun j h0 h1 h2 _ => absurd hn (by omega)⟩
    rw [Ob.lexAt_zero]
    have : X.drop i = [] ∨ Y.drop i = [] := by
      by_cases c : X.length ≤ i
      · exact .inl (List.drop_eq_nil_of_le c)
      · exact .inr (List.drop_eq_nil_of_le (by omega))
    rcases this with q | q
    · rw [q] at e
      generalize Y.drop i = l at e
      cases l <;> exact Option.some.inj e
    · rw [q] at e
      generalize X.drop i = l at e
      cases l <;> exact Option.some.inj e
  | succ n ih =>
    intro i b hn e
    have hx : i < X.length := by omega
    have hy : i < Y.length := by omega
    rw [List.drop_eq_getElem_cons hx, List.drop_eq_getElem_cons hy] at e
    unfold ordL at e
    cases er : ordL g z (X.drop (i + 1)) (Y.drop (i + 1)) with
    | none => rw [er] at e; cases e
    | some b' =>
      rw [er] at e
      obtain ⟨i1, i2⟩ := ih (i + 1) b' (by omega) er
      have gx : X.getD i .none = X[i] := by rw [List.getD_eq_getElem?_getD, List.getElem?_eq_getElem hx]; rfl
      have gy : Y.getD i .none = Y[i] := by rw [List.getD_eq_getElem?_getD, List.getElem?_eq_getElem hy]; rfl
      have e' : (if PyData.eqv X[i] Y[i] = true then some b' else g X[i] Y[i]) = some b := e
      rw [Ob.lexAt_succ]
      rw [gx, gy]
      refine ⟨?_, fun j h0 h1 h2 hj => ?_⟩
      · by_cases c : PyData.eqv X[i] Y[i] = true
        · rw [if_pos c] at e' ⊢
          rw [i1]
          exact Option.some.inj e'
        · rw [if_neg c] at e' ⊢
          rw [e']
          rfl
      · by_cases c : j = i
        · subst c
          rw [gx, gy] at hj ⊢
          rw [hj, if_neg (by decide)] at e'
          exact ⟨b, e'⟩
        · exact i2 j (by omega) h1 h2 hj
/-- an operator that orders ints, texts, tuples so -/
structure OrdOp (op : CmpOp) (pi : Int → Int → Bool) (ps : List Nat → List Nat → Bool) (pl : Nat → Nat → Bool) : Prop where
  int : ∀ (A : Around) (s : Shared) (a b : Int) (t u : Tok), Ob.RcOp op A s (.int a t) (.int b u) (pi a b)
  str : ∀ (A : Around) (s : Shared) (a b : Str) (t u : Tok), Ob.RcOp op A s (.str a t) (.str b u) (ps (tl a) (tl b))
  tup : ∀ (A : Around) (s : Shared) (l b : Addr) (items items2 : Array Value) (e r : Nat → Bool), s.heap.IsTuple l items → s.heap.IsTuple b items2 → A.units < cLine →
    (∀ j (h1 : j < items.size) (h2 : j < items2.size), SeqAt.EqAt A.in1 s items[j] items2[j] (e j)) →
    (∀ j (h1 : j < items.size) (h2 : j < items2.size), e j = false → Ob.RcOp op A.in1 s items[j] items2[j] (r j)) →
    Ob.RcOp op A s (.ref l) (.ref b) (Ob.lexAt e r (pl items.size items2.size) 0 (min items.size items2.size))
theorem ord_lt : OrdOp .Lt (fun i j => decide (i < j)) (fun a b => decide (a < b)) (fun m n => decide (m < n)) where
  int := fun A s a b t u => Ob.RcOp.lt_int a b t u
  str := fun A s a b t u => fun prog w E Q h => PyProof.Rows.lt_str h
  tup := fun A s l b items items2 e r h1 h2 hu he hr => Ob.RcOp.tuples_lt h1 h2 hu he hr
theorem getD_at {ds : List PyData} {j : Nat} (h : j < ds.length) : ds.getD j .none = ds[j] := by
  rw [List.getD_eq_getElem?_getD, List.getElem?_eq_getElem h]
  rfl
theorem reads_len {h : Heap} : ∀ {vs : List Value} {ds : List PyData} {as : List Addr}, ReadsAll h vs ds as → vs.length = ds.length
  | _, _, _, .nil => rfl
  | _, _, _, .cons _ rs => by rw [List.length_cons, List.length_cons, reads_len rs]
theorem reads_at {h : Heap} : ∀ {vs : List Value} {ds : List PyData} {as : List Addr}, ReadsAll h vs ds as → ∀ (j : Nat) (h1 : j < vs.length) (h2 : j < ds.length), ∃ bs, Reads h vs[j] ds[j] bs
  | _ :: _, _ :: _, _, .cons r rs, 0, _, _ => ⟨_, r⟩
  | _ :: _, _ :: _, _, .cons r rs, j + 1, h1, h2 => reads_at rs j (Nat.lt_of_succ_lt_succ h1) (Nat.lt_of_succ_lt_succ h2)
theorem lay_at : ∀ {ds : List PyData}, PyData.canLayAll0 ds = true → ∀ (j : Nat) (h2 : j < ds.length), ds[j].canLay0 = true
  | d :: ds, e, 0, _ => (He.ba (show (d.canLay0 && PyData.canLayAll0 ds) = true from e)).1
  | d :: ds, e, j + 1, h2 => lay_at (He.ba (show (d.canLay0 && PyData.canLayAll0 ds) = true from e)).2 j (Nat.lt_of_succ_lt_succ h2)
theorem dep_at : ∀ {ds : List PyData} (j : Nat) (h2 : j < ds.length), ds[j].depth ≤ PyData.depthAll ds
  | d :: ds, 0, _ => by
    show d.depth ≤ _
    simp only [PyData.depthAll]
    omega
  | d :: ds, j + 1, h2 => by
    have := dep_at (ds := ds) j (Nat.lt_of_succ_lt_succ h2)
    simp only [PyData.depthAll]
    have e : (d :: ds)[j + 1] = ds[j]'(Nat.lt_of_succ_lt_succ h2) := rfl
    rw [e]
    omega
theorem rc_ord {op : CmpOp} {pi : Int → Int → Bool} {ps : List Nat → List Nat → Bool} {pl : Nat → Nat → Bool} (O : OrdOp op pi ps pl) : ∀ (f : Nat) (A : Around) (s : Shared) (u v : Value) (d e : PyData) (as bs : List Addr) (b : Bool),
    Reads s.heap u d as → Reads s.heap v e bs → d.canLay0 = true → e.canLay0 = true → d.depth ≤ f → e.depth ≤ f → A.units + f < cLine → ordD pi ps pl f d e = some b → Ob.RcOp op A s u v b := by
  intro f
  induction f with
  | zero =>
    intro A s u v d e as bs b r1 r2 l1 l2 d1 d2 hu h
    cases d <;> cases e <;> first | cases h | skip
    · cases r1; cases r2; exact O.int A s _ _ _ _
    · cases r1; cases r2; exact O.str A s _ _ _ _
  | succ f ih =>
    intro A s u v d e as bs b r1 r2 l1 l2 d1 d2 hu h
    cases d <;> cases e <;> first | cases h | skip
    · cases r1; cases r2; exact O.int A s _ _ _ _
    · cases r1; cases r2; exact O.str A s _ _ _ _
    · rename_i xs ys
      have d1' : PyData.depthAll xs ≤ f := by simp only [PyData.depth] at d1; omega
      have d2' : PyData.depthAll ys ≤ f := by simp only [PyData.depth] at d2; omega
      have h' : ordL (ordD pi ps pl f) (pl xs.length ys.length) (xs.drop 0) (ys.drop 0) = some b := h
      obtain ⟨e1, e2⟩ := ordL_lex (min xs.length ys.length) 0 b (by simp) h'
      cases r1 with
      | @tuple l o vs n _ as₁ h1 h2 h3 h4 =>
        cases r2 with
        | @tuple l' o' vs' n' _ bs₁ k1 k2 k3 k4 =>
          have n1 : vs.size = xs.length := by simpa using reads_len h4
          have n2 : vs'.size = ys.length := by simpa using reads_len k4
          have at_ : ∀ j (j1 : j < vs.size) (j2 : j < vs'.size), (∃ as, Reads s.heap vs[j] (xs.getD j .none) as) ∧ (∃ bs, Reads s.heap vs'[j] (ys.getD j .none) bs) ∧ (xs.getD j .none).canLay0 = true ∧ (ys.getD j .none).canLay0 = true ∧ (xs.getD j .none).depth ≤ f ∧ (ys.getD j .none).depth ≤ f := fun j j1 j2 => by
            have q1 : j < xs.length := by omega
            have q2 : j < ys.length := by omega
            rw [getD_at q1, getD_at q2]
            refine ⟨?_, ?_, lay_at l1 j q1, lay_at l2 j q2, Nat.le_trans (dep_at j q1) d1', Nat.le_trans (dep_at j q2) d2'⟩
            · have := reads_at h4 j (by simpa using j1) q1
              simpa using this
            · have := reads_at k4 j (by simpa using j2) q2
              simpa using this
          have R := O.tup A s l l' vs vs' (fun j => PyData.eqv (xs.getD j .none) (ys.getD j .none)) (fun j => (ordD pi ps pl f (xs.getD j .none) (ys.getD j .none)).getD false) ⟨_, h1, h2, _, h3⟩ ⟨_, k1, k2, _, k3⟩ (by omega) (fun j j1 j2 => by
            obtain ⟨⟨_, a1⟩, ⟨_, a2⟩, b1, b2, c1, c2⟩ := at_ j j1 j2
            exact SeqAt.eqAt_reads _ _ _ _ _ _ _ _ a1 a2 b1 b2 (by
              show A.units + 1 + _ < cLine
              omega)) (fun j j1 j2 hj => by
            obtain ⟨⟨_, a1⟩, ⟨_, a2⟩, b1, b2, c1, c2⟩ := at_ j j1 j2
            obtain ⟨c, ec⟩ := e2 j (Nat.zero_le _) (by omega) (by omega) hj
            rw [ec]
            exact ih A.in1 s _ _ _ _ _ _ c a1 a2 b1 b2 c1 c2 (by
              show A.units + 1 + f < cLine
              omega) ec)
          rw [n1, n2, e1] at R
          exact R
/-- an order of ints, texts, tuples of such -/
def rOrdD (pi : Int → Int → Bool) (ps : List Nat → List Nat → Bool) (pl : Nat → Nat → Bool) : POp := fun x y h Q => match rd h 64 x, rd h 64 y with
  | some d, some e => match ordD pi ps pl 64 d e with
    | some b => Q (.bl b) h
    | none => False
  | _, _ => False
def rLtD : POp := rOrdD (fun i j => decide (i < j)) (fun a b => decide (a < b)) (fun m n => decide (m < n))
section
variable {X : Cx}
theorem mo_ordD {op : CmpOp} {pi : Int → Int → Bool} {ps : List Nat → List Nat → Bool} {pl : Nat → Nat → Bool} (O : OrdOp op pi ps pl) (hc : ∀ a b : Value, compareOp op a b = richCompare op a b) (hu : X.A.units + 64 < cLine) : OpR X (compareOp op) (lR (gX X) (rOrdD pi ps pl)) := by
  intro pins s σ H u v uu vv Q I ru rv hh
  obtain ⟨ρ, h, x, y, Qp, R, r1, r2, hp, k⟩ := hh
  dsimp only [rOrdD] at hp
  split at hp
  · rename_i d e e1 e2
    split at hp
    · rename_i b eb
      obtain ⟨as, q1⟩ := L2.Dp.reads I d u uu (rd_dp R 64 x u d r1 e1) ru
      obtain ⟨bs, q2⟩ := L2.Dp.reads I e v vv (rd_dp R 64 y v e r2 e2) rv
      obtain ⟨l1, d1⟩ := rd_shaped R 64 x u d r1 e1
      obtain ⟨l2, d2⟩ := rd_shaped R 64 y v e r2 e2
      rw [hc]
      exact rc_ord O 64 X.A s uu vv d e as bs b q1 q2 l1 l2 d1 d2 hu eb _ _ _ _ ⟨.bl b, H, I, rfl, k ρ H h _ _ .refl R (.bl _) hp⟩
    · exact hp.elim
  · exact hp.elim
theorem mo_ltD (hu : X.A.units + 64 < cLine) : OpR X (compareOp .Lt) (lR (gX X) rLtD) := mo_ordD ord_lt (fun _ _ => rfl) hu
end
end MP
set_option maxHeartbeats 4000000
/-! MP16: lists that are written no more: a list cell becomes a value (fl); what a def made and hands back is taken by value, the rest is forgotten. -/
namespace MP
open PySem PySem.Spec PyProof.Rows L2 TL

/-! ### locks -/
/-- H'': the lists at as are locked -/
structure Lk (as : List Addr) (H H' : Hp) : Prop where
  off : ∀ a, a ∉ as → H' a = H a
  on : ∀ a ∈ as, ∀ vs, H a = some (.lst vs) → ∃ o, H' a = some (.frz o (.lst vs))
  other : ∀ a o, H a = some o → isCellHO o = false → H' a = some o
  none : ∀ a, H a = .none → H' a = .none
theorem Lk.nil {H : Hp} : Lk [] H H := ⟨fun _ _ => rfl, fun a z => absurd z List.not_mem_nil, fun _ _ e _ => e, fun _ e => e⟩
theorem hok_lock {P : Program} {w : World} {H : Hp} {h : Heap} {d : Addr} {vs : List V} (X : HOk P w H h) (e : H d = some (.lst vs)) : ∃ od, HOk P w (upd H d (.frz od (.lst vs))) h := by
  have x := X d _ e
  have x0 := x
  obtain ⟨z, its, n, r, eo⟩ := x0
  refine ⟨{ cls := .type "list", data := .seq its.toArray n }, fun b o q => ?_⟩
  have keep : ∀ c xs, H c = some (HO.tup xs) → upd H d (.frz { cls := .type "list", data := .seq its.toArray n } (.lst vs)) c = some (HO.tup xs) := fun c xs q => by
    rw [upd_ne (fun z => by rw [z, e] at q; cases q)]; exact q
  have keepo : ∀ c a', H c = some (HO.own a') → upd H d (.frz { cls := .type "list", data := .seq its.toArray n } (.lst vs)) c = some (HO.own a') := fun c a' q => by
    rw [upd_ne (fun z => by rw [z, e] at q; cases q)]; exact q
  by_cases hb : b = d
  · subst hb
    rw [upd_same] at q
    cases q
    exact ⟨eo, x.stay (fun c v _ q => q) (fun c q => keepo c _ q) (fun c xs q => keep c xs q)⟩
  · rw [upd_ne hb] at q
    exact (X b o q).stay (fun c v _ q => q) (fun c q => keepo c _ q) (fun c xs q => keep c xs q)
theorem Lk.cons {d : Addr} {as : List Addr} {H H1 : Hp} {vs : List V} {od : Obj} (e : H d = some (.lst vs)) (L : Lk as (upd H d (.frz od (.lst vs))) H1) : Lk (d :: as) H H1 := by
  have fz : H1 d = some (.frz od (.lst vs)) := L.other d _ upd_same rfl
  refine ⟨fun a na => ?_, fun a ha us q => ?_, fun a o q c => ?_, fun a q => ?_⟩
  · have ne : a ≠ d := fun z => na (by rw [z]; exact List.mem_cons_self)
    rw [L.off a (fun z => na (List.mem_cons_of_mem _ z)), upd_ne ne]
  · by_cases hd : a = d
    · subst hd
      rw [e] at q
      cases q
      exact ⟨_, fz⟩
    · rcases List.mem_cons.mp ha with z | z
      · exact absurd z hd
      · exact L.on a z us (by rw [upd_ne hd]; exact q)
  · have ne : a ≠ d := fun z => by rw [z, e] at q; cases q; cases c
    exact L.other a o (by rw [upd_ne ne]; exact q) c
  · have ne : a ≠ d := fun z => by rw [z, e] at q; cases q
    exact L.none a (by rw [upd_ne ne]; exact q)
theorem Lk.skip {d : Addr} {as : List Addr} {H H1 : Hp} (e : ∀ vs, H d ≠ some (.lst vs)) (L : Lk as H H1) : Lk as H H1 ∧ (d ∉ as → H1 d = H d) := ⟨L, fun n => L.off d n⟩
theorem hok_locks {P : Program} {w : World} {h : Heap} : ∀ (as : List Addr) (H : Hp), HOk P w H h → ∃ H', HOk P w H' h ∧ Lk as H H'
  | [], H, X => ⟨H, X, .nil⟩
  | d :: as, H, X => by
    by_cases hd : ∃ vs, H d = some (.lst vs)
    · obtain ⟨vs, e⟩ := hd
      obtain ⟨od, X1⟩ := hok_lock X e
      obtain ⟨H', X2, L⟩ := hok_locks as _ X1
      exact ⟨H', X2, L.cons e⟩
    · obtain ⟨H', X2, L⟩ := hok_locks as H X
      refine ⟨H', X2, fun a na => L.off a (fun z => na (List.mem_cons_of_mem _ z)), fun a ha us q => ?_, L.other, L.none⟩
      rcases List.mem_cons.mp ha with z | z
      · rw [z] at q; exact absurd ⟨us, q⟩ hd
      · exact L.on a z us q
section
variable {X : Cx} {pins : List (Addr × Obj)} {σ : St} {s : Shared}
theorem inv_locks : ∀ (as : List Addr) (H : Hp), Inv X pins σ H s → ∃ H', Inv X pins σ H' s ∧ Lk as H H'
  | [], H, I => ⟨H, I, .nil⟩
  | d :: as, H, I => by
    by_cases hd : ∃ vs, H d = some (.lst vs)
    · obtain ⟨vs, e⟩ := hd
      obtain ⟨od, I1⟩ := I.lock e trivial
      obtain ⟨H', I2, L⟩ := inv_locks as _ I1
      exact ⟨H', I2, L.cons e⟩
    · obtain ⟨H', I2, L⟩ := inv_locks as H I
      refine ⟨H', I2, fun a na => L.off a (fun z => na (List.mem_cons_of_mem _ z)), fun a ha us q => ?_, L.other, L.none⟩
      rcases List.mem_cons.mp ha with z | z
      · rw [z] at q; exact absurd ⟨us, q⟩ hd
      · exact L.on a z us q
end
/-- wanted of a value and a heap, some lists locked -/
def LQ (Q : VK) : VK := fun v H => ∃ as, ∀ H', Lk as H H' → Q v H'
theorem ep_lq {X : Cx} {pins : List (Addr × Obj)} {σ : St} {Q : VK} {u : Value} {s : Shared} (h : EP X pins σ (LQ Q) u s) : EP X pins σ Q u s := by
  obtain ⟨v, H, I, r, as, q⟩ := h
  obtain ⟨H', I', L⟩ := inv_locks as H I
  exact ⟨v, H', I', r, q H' L⟩
theorem lq_new {Q : VK} {p : Addr} {H : Hp} {vs : List V} {v : V} (h : ∀ o, Q v (upd H p (.frz o (.lst vs)))) : LQ Q v (upd H p (.lst vs)) := by
  refine ⟨[p], fun H' L => ?_⟩
  obtain ⟨o, e⟩ := L.on p List.mem_cons_self vs upd_same
  have e2 : H' = upd H p (.frz o (.lst vs)) := by
    funext a
    by_cases ha : a = p
    · subst ha; rw [e, upd_same]
    · rw [L.off a (fun z => ha (List.mem_singleton.mp z)), upd_ne ha, upd_ne ha]
  rw [e2]
  exact h o
theorem lq_id {Q : VK} {v : V} {H : Hp} (h : Q v H) : LQ Q v H := ⟨[], fun H' L => by
  have e : H' = H := by funext a; exact L.off a List.not_mem_nil
  rw [e]; exact h⟩
/-! ### what is kept over locks -/
section
variable {G : LG} {ρ : List Addr} {H H' : Hp} {h : PHeap}
theorem SqT.lk {K : PySem.W.Frag} {as : List Addr} {a : Addr} {vs : List V} (L : Lk as H H') (x : SqT K H a vs) : SqT K H' a vs := by
  rcases x with (x | ⟨o, x⟩) | x
  · exact .inl (.inl (L.other _ _ x rfl))
  · exact .inl (.inr ⟨o, L.other _ _ x rfl⟩)
  · exact .inr x
theorem FzL.lk {K : PySem.W.Frag} {as : List Addr} {a : Addr} {vs : List V} (L : Lk as H H') (x : FzL K H a vs) : FzL K H' a vs := by
  rcases x with ⟨o, x⟩ | x
  · exact .inl ⟨o, L.other _ _ x rfl⟩
  · exact .inr x
/-- a new list by value -/
theorem Rel.newF {p : Addr} {xs : List PV} {vs : List V} {o : Obj} (R : Rel G ρ H h) (hp : H p = none) (l : vs.length ≤ sizeLine) (r : RVs G ρ H xs vs) :
    Ext ρ H ρ (upd H p (.frz o (.lst vs))) ∧ Rel G ρ (upd H p (.frz o (.lst vs))) h ∧ RV G ρ (upd H p (.frz o (.lst vs))) (.fl xs) (.ref p) := by
  obtain ⟨E, R1, _⟩ := R.skip (o := .frz o (.lst vs)) hp
  exact ⟨E, R1, .fl (.inl ⟨o, upd_same⟩) l (r.mono R.trk E)⟩
end
/-! ### by value -/
mutual
/-- x with the list cells from n on taken by value -/
inductive Fz (n : Nat) (h : PHeap) : PV → PV → Prop
  | non : Fz n h .non .non
  | bl (b : Bool) : Fz n h (.bl b) (.bl b)
  | int (i : Int) : Fz n h (.int i) (.int i)
  | str (s : Str) : Fz n h (.str s) (.str s)
  | tup {xs ys : List PV} : Fzs n h xs ys → Fz n h (.tup xs) (.tup ys)
  | fl {xs ys : List PV} : Fzs n h xs ys → Fz n h (.fl xs) (.fl ys)
  | old {m : Nat} : m < n → Fz n h (.ref m) (.ref m)
  | new {m : Nat} {xs ys : List PV} : n ≤ m → h[m]? = some (.lst xs) → Fzs n h xs ys → Fz n h (.ref m) (.fl ys)
inductive Fzs (n : Nat) (h : PHeap) : List PV → List PV → Prop
  | nil : Fzs n h [] []
  | cons {x y : PV} {xs ys : List PV} : Fz n h x y → Fzs n h xs ys → Fzs n h (x :: xs) (y :: ys)
end
theorem Fzs.length {n : Nat} {h : PHeap} : ∀ {xs ys : List PV}, Fzs n h xs ys → xs.length = ys.length
  | _, _, .nil => rfl
  | _, _, .cons _ t => congrArg (· + 1) (Fzs.length t)
/-- a cell that stays has nothing new in it -/
def CellOld (n : Nat) (h : PHeap) : Cell → Prop
  | .lst xs => Fzs n h xs xs
  | .ins _ fs => Fzs n h (fs.map (·.2)) (fs.map (·.2))
  | _ => True
/-- the old cells stay, or have nothing new in them -/
def Clo (h h' : PHeap) : Prop := h.length ≤ h'.length ∧ ∀ i c, i < h.length → h'[i]? = some c → h[i]? = some c ∨ CellOld h.length h' c
section
variable {G : LG} {ρ ρ' : List Addr} {H H1 H2 : Hp} {h h1 : PHeap}
theorem Rel.notTail {n m : Nat} {a : Addr} (R : Rel G ρ H h) (e : ρ[m]? = some a) (l : m < n) : a ∉ ρ.drop n := fun hm => by
  obtain ⟨k, hk⟩ := List.getElem?_of_mem hm
  rw [List.getElem?_drop] at hk
  obtain ⟨l1, e1⟩ := List.getElem?_eq_some_iff.mp e
  obtain ⟨l2, e2⟩ := List.getElem?_eq_some_iff.mp hk
  have := (List.getElem_inj R.nd).mp (e1.trans e2.symm)
  omega
mutual
theorem Fz.rv {n : Nat} (R : Rel G ρ H1 h1) (L : Lk (ρ.drop n) H1 H2) : ∀ {x y : PV} {v : V}, Fz n h1 x y → RV G ρ H1 x v → RV G (ρ.take n) H2 y v
  | _, _, _, .non, .non => .non
  | _, _, _, .bl _, .bl b => .bl b
  | _, _, _, .int _, .int b => .int b
  | _, _, _, .str _, .str b => .str b
  | _, _, _, .tup f, .tup q l r => .tup (SqT.lk L q) l (Fzs.rv R L f r)
  | _, _, _, .fl f, .fl q l r => .fl (FzL.lk L q) l (Fzs.rv R L f r)
  | _, _, _, .old hm, .ref e => .ref (by rw [List.getElem?_take]; rw [if_pos hm]; exact e)
  | _, _, _, .new hm e f, .ref (a := a) ea => by
    obtain ⟨a', vs, ea', ev, l, rs⟩ := R.lst e
    rw [ea] at ea'
    cases ea'
    obtain ⟨o, eo⟩ := L.on a (List.mem_of_getElem? (i := _ - n) (by rw [List.getElem?_drop]; rw [Nat.add_sub_cancel' hm]; exact ea)) vs ev
    exact .fl (.inl ⟨o, eo⟩) l (Fzs.rv R L f rs)
theorem Fzs.rv {n : Nat} (R : Rel G ρ H1 h1) (L : Lk (ρ.drop n) H1 H2) : ∀ {xs ys : List PV} {vs : List V}, Fzs n h1 xs ys → RVs G ρ H1 xs vs → RVs G (ρ.take n) H2 ys vs
  | _, _, _, .nil, .nil => .nil
  | _, _, _, .cons f fs, .cons r rs => .cons (Fz.rv R L f r) (Fzs.rv R L fs rs)
end
mutual
/-- what was related ahead has only old cells in it -/
theorem RV.fz {n : Nat} {h' : PHeap} (hn : ρ.length = n) : ∀ {x : PV} {v : V}, RV G ρ H x v → Fz n h' x x
  | _, _, .non => .non
  | _, _, .bl b => .bl b
  | _, _, .int i => .int i
  | _, _, .str (s := s) _ => .str s
  | _, _, .tup _ _ r => .tup (RVs.fz hn r)
  | _, _, .fl _ _ r => .fl (RVs.fz hn r)
  | _, _, .ref e => .old (by rw [← hn]; exact (List.getElem?_eq_some_iff.mp e).1)
theorem RVs.fz {n : Nat} {h' : PHeap} (hn : ρ.length = n) : ∀ {xs : List PV} {vs : List V}, RVs G ρ H xs vs → Fzs n h' xs xs
  | _, _, .nil => .nil
  | _, _, .cons r rs => .cons (RV.fz hn r) (RVs.fz hn rs)
end
theorem RC.fz {n : Nat} {h' : PHeap} {a : Addr} {c : Cell} (hn : ρ.length = n) (x : RC G ρ H a c) : CellOld n h' c := by
  cases c with
  | lst xs => obtain ⟨vs, _, _, r⟩ := x; exact RVs.fz hn r
  | ins c fs => obtain ⟨C, dx, gs, _, _, r⟩ := x; exact RVs.fz hn r.2
  | _ => trivial
/-- the tail is forgotten -/
theorem Rel.cutBack (R0 : Rel G ρ H h) (R : Rel G ρ' H1 h1) (E : Ext ρ H ρ' H1) (C : Clo h h1) (L : Lk (ρ'.drop h.length) H1 H2) :
    Rel G ρ H2 (h1.take h.length) ∧ Ext ρ H ρ H2 ∧ ∀ {x y : PV} {v : V}, Fz h.length h1 x y → RV G ρ' H1 x v → RV G ρ H2 y v := by
  obtain ⟨t, et⟩ := E.pre
  have e2 : ρ'.take h.length = ρ := by rw [et, ← R0.len, List.take_left]
  have e3 : ρ'.drop h.length = t := by rw [et, ← R0.len, List.drop_left]
  have FR := @Fz.rv G ρ' H1 H2 h1 h.length R L
  have FRs := @Fzs.rv G ρ' H1 H2 h1 h.length R L
  rw [e2] at FR FRs
  refine ⟨⟨?_, R0.nd, fun n a c e4 e5 => ?_⟩, ⟨⟨[], (List.append_nil _).symm⟩, fun a o q na => ?_⟩, fun {x y v} => FR⟩
  · rw [List.length_take, R0.len]
    have := C.1
    omega
  · have ln : n < h.length := by rw [← R0.len]; exact (List.getElem?_eq_some_iff.mp e4).1
    rw [List.getElem?_take, if_pos ln] at e5
    have e6 : ρ'[n]? = some a := by rw [et, List.getElem?_append_left (by rw [R0.len]; exact ln)]; exact e4
    have x := R.cell n a c e6 e5
    have old : CellOld h.length h1 c := by
      rcases C.2 n c ln e5 with z | z
      · exact (R0.cell n a c e4 z).fz R0.len
      · exact z
    have na := R.notTail e6 ln
    have e7 := L.off a na
    cases c with
    | lst xs => obtain ⟨vs, e, l, r⟩ := x; exact ⟨vs, by rw [e7]; exact e, l, FRs old r⟩
    | ins c fs => obtain ⟨C', dx, gs, m, e, r⟩ := x; exact ⟨C', dx, gs, m, by rw [e7]; exact e, r.1, FRs old r.2⟩
    | _ => exact x
  · obtain ⟨q1, n1⟩ := E.keep a o q na
    refine ⟨?_, na⟩
    rw [L.off a (fun z => n1 (List.mem_of_mem_drop z))]
    exact q1
end
/-! ### a promise, what is handed back by value -/
def frz (sp : PSp) : PSp := fun vs h Q E => sp vs h (fun x h1 => ∃ y, Fz h.length h1 x y ∧ Clo h h1 ∧ Q y (h1.take h.length)) (fun c x h1 => ∃ y, Fz h.length h1 x y ∧ Clo h h1 ∧ E c y (h1.take h.length))
def bodyF (h0 : PHeap) (Q : PQ) (E : PXQ) : PD := { nx := fun _ h => Clo h0 h ∧ Q .non (h.take h0.length), rt := fun x h1 => ∃ y, Fz h0.length h1 x y ∧ Clo h0 h1 ∧ Q y (h1.take h0.length), bk := fun _ _ => False, ct := fun _ _ => False, ex := fun c x _ h1 => ∃ y, Fz h0.length h1 x y ∧ Clo h0 h1 ∧ E c y (h1.take h0.length) }
def LX (E : XK) : XK := fun cls d H => ∃ as, ∀ H', Lk as H H' → E cls d H'
theorem ce_lq {outer : List Env} {P : Program} {w : World} {H : Hp} {s s' : Shared} {Q : VK} {u : Value} (h : CE outer P w H s (LQ Q) u s') (hz : ∀ (as : List Addr) (H1 : Hp), True := by intros; trivial) : CE outer P w H s Q u s' := by
  obtain ⟨v, H1, os, bare, un, hok, r, as, q⟩ := h
  obtain ⟨H2, hok2, L⟩ := hok_locks as H1 hok
  refine ⟨v, H2, os, bare, ⟨un.keep, un.slot, fun b o e n hb => L.none b (un.free b o e n hb), un.there, fun b xs e => L.other b _ (un.tups b xs e) rfl, fun b o u e => L.other b _ (un.frzs b o u e) rfl, fun b ps e => ?_⟩, hok2, r, q H2 L⟩
  obtain ⟨m, e2⟩ := un.tbls b ps e
  exact ⟨m, L.other b _ e2 rfl⟩
theorem cx_lx {P : Program} {w : World} {outer : List Env} {H : Hp} {s s' : Shared} {E : XK} {u : Value} (h : L2.CX P w outer H s (LX E) u s') : L2.CX P w outer H s E u s' := by
  obtain ⟨a, B, H1, cls, d, e, fl, hok, ub, na, os, ag, as, q⟩ := h
  obtain ⟨H2, hok2, L⟩ := hok_locks as H1 hok
  refine ⟨a, B, H2, cls, d, e, fl, hok2, ⟨ub.keep, ub.slot, fun b o e n => L.none b (ub.free b o e n), ub.there, fun b xs e => L.other b _ (ub.tups b xs e) rfl, fun b o u e => L.other b _ (ub.frzs b o u e) rfl, fun b ps e => ?_⟩, L.none a na, os, ag, q H2 L⟩
  obtain ⟨m, e2⟩ := ub.tbls b ps e
  exact ⟨m, L.other b _ e2 rfl⟩
theorem fnOk_frz {P : Program} {w : World} {K : PySem.W.Frag} {mg : Str → Option Value} {base : Heap} {k n : Nat} {f : Addr} {fd : FuncData} {ps : List Str} {sp : PSp} (F : FnOk P w K mg base (L2.CX P w) k f fd ps (lSp ⟨K, mg⟩ (gd n sp))) : FnOk P w K mg base (L2.CX P w) k f fd ps (lSp ⟨K, mg⟩ (gd n (frz sp))) := by
  have key : ∀ vs H Q E, lSp ⟨K, mg⟩ (gd n (frz sp)) vs H Q E → lSp ⟨K, mg⟩ (gd n sp) vs H (LQ Q) (LX E) := fun vs H Q E hh => by
    obtain ⟨ρ, h, xs, Qp, Ep, R, rs, ⟨hl, hp⟩, k1, k2⟩ := hh
    refine ⟨ρ, h, xs, _, _, R, rs, ⟨hl, hp⟩, fun ρ1 H1 h1 x v E1 R1 r1 q1 => ?_, fun ρ1 H1 h1 c x cls d E1 R1 r1 q1 => ?_⟩
    · obtain ⟨y, fz, cl, q⟩ := q1
      refine ⟨ρ1.drop h.length, fun H2 L => ?_⟩
      obtain ⟨R2, E2, M⟩ := R.cutBack R1 E1 cl L
      exact k1 ρ H2 _ y v E2 R2 (M fz r1) q
    · obtain ⟨y, fz, cl, q⟩ := q1
      refine ⟨ρ1.drop h.length, fun H2 L => ?_⟩
      obtain ⟨R2, E2, M⟩ := R.cutBack R1 E1 cl L
      obtain ⟨C, dd, u, m, e1, e2, e3, rv⟩ := r1
      exact k2 ρ H2 _ c y cls d E2 R2 ⟨C, dd, u, m, e1, e2, L.other dd _ e3 rfl, M fz rv⟩ q
  refine ⟨fun vs H Q E hh => F.len vs H _ _ (key vs H Q E hh), fun A outer s H args us vs Q E hr e0 hb r hh => ?_⟩
  refine codeAny_mono (F.run A outer s H args us vs (LQ Q) (LX E) hr e0 hb r (key vs H Q E hh)) fun r s' hq => ?_
  cases r with
  | error e => exact cx_lx hq
  | ok fl =>
    cases fl with
    | ret u => exact ce_lq hq
    | next => exact False.elim hq
    | brk => exact False.elim hq
    | cont => exact False.elim hq
/-- a def keeps a promise; what it hands back is taken by value -/
theorem ok_frz {P : Program} {w : World} {K : PySem.W.Frag} {mg : Str → Option Value} {base : Heap} {name : Str} {st : Stmt} {ps : List Str} {k : Nat} {sp : PSp} (O : Ok P w K mg base name st ps k sp) : Ok P w K mg base name st ps k (frz sp) := by
  obtain ⟨fd, F, O⟩ := O
  exact ⟨fd, F, fnOk_frz O⟩
end MP
set_option maxHeartbeats 4000000
/-! MP17: operators whose lists are values; a tuple times an int. -/
namespace L2
open PySem PySem.Spec PyProof.Rows
theorem tuple_mulOne (l : Addr) (items : Array Value) (n : Nat) (sl : Array (Option Value)) (dd : Option Addr) (x : Int) (u : Tok) (c0 : (decide (x < -(2 ^ 63)) || decide (x ≥ 2 ^ 63)) = false) (c1 : (items.isEmpty || x == 1) = true) :
    Meets (Builtin.«tuple.__mul__» ⟨[.ref l, .int x u], []⟩) (fun _ R s => s.heap.get? l = some { cls := .type "tuple", dict := dd, data := .seq items n, slots := sl } ∧ R (.ok (.ret (Value.ref l))) s) :=
  .of_wp fun prog w A R s h => by
    obtain ⟨hp, g, d, tk, os⟩ := s
    obtain ⟨hl, h⟩ := h
    have f1 := AutoSeq1.idx_int
    have f2 := AutoSeq1.sub_tuple_tuple
    wp_walk using wpAny_loadPart' hl
    repeat (first
      | (refine wpAny_ite_false (decide_eq_false (by rw [c0]; exact Bool.false_ne_true)) ?_; wp_walk using wpAny_loadPart' hl)
      | (refine wpAny_ite_true (decide_eq_true c1) ?_; wp_walk using wpAny_loadPart' hl))
    exact ⟨_, rfl, h⟩
theorem tuple_mulNone (l : Addr) (items : Array Value) (n : Nat) (sl : Array (Option Value)) (dd : Option Addr) (x : Int) (u : Tok) (c0 : (decide (x < -(2 ^ 63)) || decide (x ≥ 2 ^ 63)) = false) (c1 : (items.isEmpty || x == 1) = false) (c2 : (decide (x ≤ 0) || items.isEmpty) = true) :
    Meets (Builtin.«tuple.__mul__» ⟨[.ref l, .int x u], []⟩) (fun _ R s => s.heap.get? l = some { cls := .type "tuple", dict := dd, data := .seq items n, slots := sl } ∧ R (.ok (.ret (Value.ref s.heap.objs.size))) { s with heap := s.heap.push { cls := Value.type "tuple", data := Data.seq #[] }, toks := s.toks }) :=
  .of_wp fun prog w A R s h => by
    obtain ⟨hp, g, d, tk, os⟩ := s
    obtain ⟨hl, h⟩ := h
    have f1 := AutoSeq1.idx_int
    have f2 := AutoSeq1.sub_tuple_tuple
    wp_walk using wpAny_loadPart' hl
    repeat (first
      | (refine wpAny_ite_false (decide_eq_false (by rw [c0]; exact Bool.false_ne_true)) ?_; wp_walk using wpAny_loadPart' hl)
      | (refine wpAny_ite_false (decide_eq_false (by rw [c1]; exact Bool.false_ne_true)) ?_; wp_walk using wpAny_loadPart' hl)
      | (refine wpAny_ite_true (decide_eq_true c2) ?_; wp_walk using wpAny_loadPart' hl))
    exact ⟨_, rfl, h⟩
/-- t * k, any tuple -/
def rRepA (K : PySem.W.Frag) : R2 := fun x y H Q => ∃ l k xs, x = .ref l ∧ y = .int k ∧ SqT K H l xs ∧ -1000 ≤ k ∧ k ≤ 1000 ∧ xs.length ≤ 1000 ∧ ((xs = [] ∨ k = 1) → Q (.ref l) H) ∧ (¬ (xs = [] ∨ k = 1) → ∀ p, H p = none → Q (.ref p) (upd H p (.tup (List.replicate k.toNat xs).flatten)))
section
variable {X : Cx}
theorem op_repA : OpR X (binaryOp .Mult) (rRepA X.K) := by
  intro pins s σ H x y v u Q I rx ry h
  obtain ⟨l, k, xs, rfl, rfl, hT, h0, h1, hz, q1, q2⟩ := h
  by_cases big : xs ≠ [] ∧ 2 ≤ k
  · exact op_repT pins s σ H _ _ v u Q I rx ry ⟨l, k, xs, rfl, rfl, hT, big.1, big.2, h1, hz, q2 (by
      rintro (e | e)
      · exact big.1 e
      · omega)⟩
  · cases rx
    obtain ⟨t, rfl⟩ := ry
    obtain ⟨its, r, ⟨⟨cls, dd, data, sl⟩, ho, hc, n, hd⟩, hs⟩ := I.tuple hT
    simp only at hc hd
    subst hc hd
    have hle : its.length = xs.length := r.length.symm
    have c0 : (decide (k < -(2 ^ 63)) || decide (k ≥ 2 ^ 63)) = false := by
      rw [decide_eq_false (by omega), decide_eq_false (by omega)] <;> rfl
    have emp : its.toArray.isEmpty = true ↔ xs = [] := by
      constructor
      · intro e
        have : its = [] := by simpa using e
        rw [this] at hle
        exact List.eq_nil_of_length_eq_zero hle.symm
      · intro e
        rw [e] at hle
        have : its = [] := List.eq_nil_of_length_eq_zero hle
        rw [this]
        rfl
    by_cases c1 : xs = [] ∨ k = 1
    · have d1 : (its.toArray.isEmpty || k == 1) = true := by
        rw [Bool.or_eq_true]
        rcases c1 with e | e
        · exact .inl (emp.mpr e)
        · exact .inr (by simpa using e)
      refine wpAny_binaryOp_repeat_ref (T := "tuple") (U := "int") (by decide) ⟨_, ho, rfl⟩ (fun s' => typeIs_int s' k t) noFill_tuple_mul F.fills_int_mul F.slot_int_rmul repeat_tuple F.slot_int_index.lookup
        (call_meets F.slot_int_rmul (typeIs_int s k t) F.entry_int_rmul (F.args_int_rmul_2 _ _) (int_rmul_tuple k t l its.toArray n dd sl)
          ⟨ho, rfl, ⟨_, ho, rfl⟩, call_meets F.slot_tuple_mul ⟨_, ho, rfl⟩ F.entry_tuple_mul (F.args_tuple_mul_2 _ _) (tuple_mulOne l its.toArray n sl dd k t c0 d1) ⟨ho, ?_⟩⟩)
      exact ⟨.ref l, H, I, rfl, q1 c1⟩
    · have k0 : k ≤ 0 := by
        apply Classical.byContradiction
        intro z
        exact big ⟨fun e => c1 (.inl e), by
          have : k ≠ 1 := fun e => c1 (.inr e)
          omega⟩
      have d1 : (its.toArray.isEmpty || k == 1) = false := by
        rw [Bool.or_eq_false_iff]
        refine ⟨?_, beq_eq_false_iff_ne.mpr fun e => c1 (.inr e)⟩
        cases e : its.toArray.isEmpty with
        | false => rfl
        | true => exact absurd (.inl (emp.mp e)) c1
      have d2 : (decide (k ≤ 0) || its.toArray.isEmpty) = true := by rw [decide_eq_true k0]; rfl
      refine wpAny_binaryOp_repeat_ref (T := "tuple") (U := "int") (by decide) ⟨_, ho, rfl⟩ (fun s' => typeIs_int s' k t) noFill_tuple_mul F.fills_int_mul F.slot_int_rmul repeat_tuple F.slot_int_index.lookup
        (call_meets F.slot_int_rmul (typeIs_int s k t) F.entry_int_rmul (F.args_int_rmul_2 _ _) (int_rmul_tuple k t l its.toArray n dd sl)
          ⟨ho, rfl, ⟨_, ho, rfl⟩, call_meets F.slot_tuple_mul ⟨_, ho, rfl⟩ F.entry_tuple_mul (F.args_tuple_mul_2 _ _) (tuple_mulNone l its.toArray n sl dd k t c0 d1 d2) ⟨ho, ?_⟩⟩)
      have e0 : (List.replicate k.toNat xs).flatten = [] := by
        rw [Int.toNat_of_nonpos k0]
        rfl
      have q := q2 c1 s.heap.objs.size (I.hok.fresh (Nat.le_refl _))
      rw [e0] at q
      exact ⟨.ref _, _, I.laid (t' := s.toks) (o := .tup []) (fun b ob q => Heap.get?_push_of_some _ q) (Nat.le_refl _) ⟨Nat.zero_le _, [], .nil, IsTup.new _ _⟩, rfl, q⟩
/-- list + list, locked ones, too -/
def rCatS (K : PySem.W.Frag) : R2 := fun x y H Q => ∃ l b xs zs, x = .ref l ∧ y = .ref b ∧ SqL K H l xs ∧ SqL K H b zs ∧ xs.length + zs.length ≤ sizeLine ∧ ∀ p, H p = none → Q (.ref p) (upd H p (.lst (xs ++ zs)))
theorem op_catS : OpR X (binaryOp .Add) (rCatS X.K) := by
  intro pins s σ H x y v u Q I rx ry h
  obtain ⟨l, b, xs, zs, rfl, rfl, hH, hB, hz, q⟩ := h
  cases rx
  cases ry
  obtain ⟨its, r, ⟨⟨cls, dd, data, sl⟩, n, ho, hc, hdd, hd⟩, _⟩ := I.list hH
  obtain ⟨its2, r2, ⟨⟨cls2, dd2, data2, sl2⟩, n2, ho2, hc2, hdd2, hd2⟩, _⟩ := I.list hB
  simp only at hc hd hc2 hd2
  subst hc hd hc2 hd2
  have e1 := r.length
  have e2 := r2.length
  refine concat_meets ⟨_, ho, rfl⟩ ⟨_, ho2, rfl⟩ noFill_list_add seq_list_add PySem.F.slot_list_add PySem.F.entry_list_add (PySem.F.args_list_add_2 _ _) (list_addW l b its.toArray its2.toArray n n2 dd dd2 sl sl2 (by rw [List.size_toArray, List.size_toArray]; omega)) ⟨ho, ho2, ?_⟩
  have ea : its.toArray ++ its2.toArray = (its ++ its2).toArray := by simp
  rw [ea]
  exact ⟨.ref _, _, I.lnew (t' := s.toks) (r.append r2) (by rw [List.length_append]; omega), rfl, q _ I.fresh⟩
/-- list * int, a locked one, too -/
def rRepS (K : PySem.W.Frag) : R2 := fun x y H Q => ∃ l k xs, x = .ref l ∧ y = .int k ∧ SqL K H l xs ∧ -(2 ^ 63) ≤ k ∧ k < 2 ^ 63 ∧ xs.length * k.toNat ≤ 16777216 ∧ ∀ p, H p = none → Q (.ref p) (upd H p (.lst (List.replicate k.toNat xs).flatten))
theorem op_repS : OpR X (binaryOp .Mult) (rRepS X.K) := by
  intro pins s σ H x y v u Q I rx ry h
  obtain ⟨l, k, xs, rfl, rfl, hH, h1, h2, hz, q⟩ := h
  cases rx
  obtain ⟨t, rfl⟩ := ry
  obtain ⟨its, r, ⟨⟨cls, d, data, sl⟩, n, ho, hc, hdd, hd⟩, _⟩ := I.list hH
  simp only at hc hd
  subst hc hd
  have hl := r.length
  have hsz : its.length * k.toNat ≤ 2 ^ 24 := by rw [← hl]; exact hz
  have hsz' : its.toArray.size * k.toNat ≤ 2 ^ 24 := by simpa using hsz
  refine wpAny_binaryOp_repeat_ref (T := "list") (U := "int") (by decide) ⟨_, ho, rfl⟩ (fun s' => typeIs_int s' k t) noFill_list_mul F.fills_int_mul F.slot_int_rmul repeat_list F.slot_int_index.lookup
    (call_meets F.slot_int_rmul (typeIs_int s k t) F.entry_int_rmul (F.args_int_rmul_2 _ _) (lm_int_rmul_list_any k t l its.toArray n d sl)
      ⟨ho, rfl, ⟨_, ho, rfl⟩, call_meets F.slot_list_mul ⟨_, ho, rfl⟩ F.entry_list_mul (F.args_list_mul_2 _ _)
        (lm_list_mul_any l its.toArray n d sl k t (by simp [Builtin.List.listFitsIndex]; omega) (by omega) (by simp [Builtin.List.listTooLong, sizeLine]; omega)) ⟨ho, ?_⟩⟩)
  rw [listMul_foldl_if]
  exact ⟨.ref _, _, I.lnew (t' := s.toks) (r.rep k.toNat) (by rw [PyProof.Rows.lm_len_rep_flat, Nat.mul_comm, sizeLine_eq]; exact hz), rfl, q _ I.fresh⟩
end
end L2
namespace MP
open PySem PySem.Spec PyProof.Rows L2 TL
theorem wp_lq {X : Cx} {pins : List (Addr × Obj)} {σ : St} {Q : VK} {t : Sem Value} {s : Shared} (h : wpAny (model X.prog X.w) X.A t (EP X pins σ (LQ Q)) X.xe s) : wpAny (model X.prog X.w) X.A t (EP X pins σ Q) X.xe s := thn h fun _ _ q => ep_lq q
theorem pe_lq {X : Cx} {e : Expr} {t : TE} (h : PE X e t) : PE X e (fun σ H Q => t σ H (LQ Q)) := ⟨fun pins s σ H Q I q => wp_lq (h.run pins s σ H _ I q)⟩
theorem lq_at {Q : VK} {D : Addr} {H : Hp} {vs : List V} {v : V} (e : H D = some (.lst vs)) (h : ∀ o, Q v (upd H D (.frz o (.lst vs)))) : LQ Q v H := by
  refine ⟨[D], fun H' L => ?_⟩
  obtain ⟨o, e1⟩ := L.on D List.mem_cons_self vs e
  have e2 : H' = upd H D (.frz o (.lst vs)) := by
    funext a
    by_cases ha : a = D
    · subst ha; rw [e1, upd_same]
    · rw [L.off a (fun z => ha (List.mem_singleton.mp z)), upd_ne ha]
  rw [e2]
  exact h o
/-- a temporary list, as a value -/
def pFz (t : PTA) : PTE := fun τ h Q E => t τ h (fun vs h1 => Q (.fl vs) h1) E
section
variable {X : Cx} {xa : Option (Nat × Addr × Value × Option Addr)} {W : WX} {e : Expr} {t : PTA}
theorem le_fz (h : PE X e (lL (gX X) xa W t)) : PE X e (lE (gX X) xa W (pFz t)) := by
  refine PE_imp (pe_lq h) fun σ H Q hh => ?_
  obtain ⟨ρ, τ, h, Qp, Ep, R, S, hp, k, kx⟩ := hh
  refine ⟨ρ, τ, h, _, Ep, R, S, hp, fun ρ1 H1 h1 xs D vs E1 R1 r1 l hD nD fD q1 => ?_, kx⟩
  refine lq_at hD fun o => ?_
  obtain ⟨K2, R2⟩ := R1.other (o := .frz o (.lst vs)) nD hD
  exact k ρ1 _ h1 (.fl xs) (.ref D) (E1.other fD) R2 (.fl (.inl ⟨o, upd_same⟩) l (r1.keep K2)) q1
/-! ### + -/
theorem lstOf_sqV {G : LG} {ρ : List Addr} {H : Hp} {h : PHeap} {x : PV} {u : V} {xs : List PV} (R : Rel G ρ H h) (r : RV G ρ H x u) (e : lstOf h x = some xs) : ∃ a vs, u = .ref a ∧ SqL G.K H a vs ∧ vs.length ≤ sizeLine ∧ RVs G ρ H xs vs := by
  cases r with
  | @fl xs' a vs q l rs => cases e; exact ⟨a, vs, rfl, q.seq, l, rs⟩
  | @ref n a ea =>
    have e' : (match h[n]? with
      | some (.lst xs) => some xs
      | _ => none) = some xs := e
    split at e'
    · rename_i ys en
      cases e'
      obtain ⟨a', vs, ea', ev, l, rs⟩ := R.lst en
      rw [ea] at ea'; cases ea'
      exact ⟨a, vs, rfl, .of ev, l, rs⟩
    · cases e'
  | _ => cases e
def rAddV : POp := fun x y h Q => match lstOf h x, lstOf h y with
  | some xs, some ys => xs.length + ys.length ≤ sizeLine ∧ Q (.fl (xs ++ ys)) h
  | _, _ => MP.rAdd x y h Q
theorem mo_addV : OpR X (binaryOp .Add) (lR (gX X) rAddV) := by
  intro pins s σ H u v uu vv Q I ru rv hh
  obtain ⟨ρ, h, x, y, Qp, R, r1, r2, hp, k⟩ := hh
  unfold rAddV at hp
  split at hp
  · rename_i xs ys e1 e2
    obtain ⟨z, q⟩ := hp
    obtain ⟨a, vs, rfl, s1, l1, rs⟩ := lstOf_sqV R r1 e1
    obtain ⟨b, us, rfl, s2, l2, rs'⟩ := lstOf_sqV R r2 e2
    have q1 := rs.length
    have q2 := rs'.length
    have zz : vs.length + us.length ≤ sizeLine := by omega
    refine wp_lq (L2.op_catS pins s σ H _ _ _ _ _ I ru rv ⟨a, b, vs, us, rfl, rfl, s1, s2, zz, fun p hp => lq_new fun o => ?_⟩)
    obtain ⟨E2, R2, r3⟩ := R.newF (o := o) (vs := vs ++ us) hp (by rw [List.length_append]; exact zz) (rs.append rs')
    exact k _ _ _ _ _ E2 R2 r3 q
  · exact mo_add pins s σ H u v uu vv Q I ru rv ⟨ρ, h, x, y, Qp, R, r1, r2, hp, k⟩
/-! ### a tuple times an int -/
def rMulV : POp := fun x y h Q => match x, y with
  | .tup xs, .int k => (-1000 ≤ k ∧ k ≤ 1000 ∧ xs.length ≤ 1000) ∧ Q (.tup (List.replicate k.toNat xs).flatten) h
  | .int k, .tup xs => False
  | .fl xs, .int k => (-(2 ^ 63) ≤ k ∧ k < 2 ^ 63 ∧ xs.length * k.toNat ≤ 16777216) ∧ Q (.fl (List.replicate k.toNat xs).flatten) h
  | _, _ => MP.rMul x y h Q
theorem flat_one {α : Type} {xs : List α} {k : Int} (c : xs = [] ∨ k = 1) : (List.replicate k.toNat xs).flatten = xs := by
  rcases c with e | e
  · subst e
    induction k.toNat with
    | zero => rfl
    | succ n ih => rw [List.replicate_succ, List.flatten_cons, ih]; rfl
  · subst e
    simp
theorem mo_mulV : OpR X (binaryOp .Mult) (lR (gX X) rMulV) := by
  intro pins s σ H u v uu vv Q I ru rv hh
  obtain ⟨ρ, h, x, y, Qp, R, r1, r2, hp, k⟩ := hh
  unfold rMulV at hp
  split at hp
  · rename_i xs j
    obtain ⟨⟨z0, z1, z2⟩, q⟩ := hp
    cases r1 with
    | @tup _ a vs sq l rs =>
      cases r2 with
      | int _ =>
        have e1 := rs.length
        refine L2.op_repA pins s σ H _ _ _ _ Q I ru rv ⟨a, j, vs, rfl, rfl, sq, z0, z1, by omega, fun c => ?_, fun _ p hp => ?_⟩
        · have c' : xs = [] ∨ j = 1 := by
            rcases c with e | e
            · left
              subst e
              cases rs
              rfl
            · exact .inr e
          rw [flat_one c'] at q
          exact k ρ H h _ _ .refl R (.tup sq l rs) q
        · have hl : (List.replicate j.toNat vs).flatten.length ≤ sizeLine := by
            rw [PyProof.Rows.lm_len_rep_flat, sizeLine_eq]
            have a1 : j.toNat * vs.length ≤ 1000 * 1000 := Nat.mul_le_mul (by omega) (by omega)
            omega
          obtain ⟨E2, R2, r3⟩ := R.newT (vs := (List.replicate j.toNat vs).flatten) hp hl (rs.flat j.toNat)
          exact k ρ _ h _ _ E2 R2 r3 q
  · exact hp.elim
  · rename_i xs j
    obtain ⟨⟨z0, z1, z2⟩, q⟩ := hp
    cases r1 with
    | @fl _ a vs sq l rs =>
      cases r2 with
      | int _ =>
        have e1 := rs.length
        have z3 : vs.length * j.toNat ≤ 16777216 := by rw [← e1]; exact z2
        refine wp_lq (L2.op_repS pins s σ H _ _ _ _ (LQ Q) I ru rv ⟨a, j, vs, rfl, rfl, sq.seq, z0, z1, z3, fun p hp => lq_new fun o => ?_⟩)
        obtain ⟨E2, R2, r3⟩ := R.newF (o := o) (vs := (List.replicate j.toNat vs).flatten) hp (by rw [PyProof.Rows.lm_len_rep_flat, sizeLine_eq, Nat.mul_comm]; exact z3) (rs.flat j.toNat)
        exact k ρ _ h _ _ E2 R2 r3 q
  · exact mo_mul pins s σ H u v uu vv Q I ru rv ⟨ρ, h, x, y, Qp, R, r1, r2, hp, k⟩
/-! ### slices -/
def rCutV (x : PV) (lo hi : Option Int) (h : PHeap) (Q : PQ) : Prop := match lstOf h x with
  | some xs => Q (.fl (cut xs lo hi)) h
  | none => rCut x lo hi h Q
def pSliceV (a : PTE) (lo hi : PTO) : PTE := fun τ h Q E => a τ h (fun x h1 => lo τ h1 (fun l h2 => hi τ h2 (fun u h3 => rCutV x l u h3 Q) E) E) E
def lSlV (G : LG) : V → Option Int → Option Int → Hp → VK → Prop := fun u lo hi H Q => ∃ ρ h x Qp, Rel G ρ H h ∧ RV G ρ H x u ∧ rCutV x lo hi h Qp ∧ ∀ ρ' H' h' z w, Ext ρ H ρ' H' → Rel G ρ' H' h' → RV G ρ' H' z w → Qp z h' → Q w H'
theorem ms_cutV : SlR X (lSlV (gX X)) := by
  intro pins s σ H u v vl vu lo hi sl Q I ru hs pl pu hh
  obtain ⟨ρ, h, x, Qp, R, r1, hp, k⟩ := hh
  unfold rCutV at hp
  split at hp
  · rename_i xs e1
    obtain ⟨a, vs, rfl, s1, l1, rs⟩ := lstOf_sqV R r1 e1
    obtain ⟨T, id, t1, t2, wp⟩ := sl_list pins s σ H _ v vl vu lo hi sl (LQ Q) I ru hs pl pu ⟨a, vs, rfl, s1, fun p np => lq_new fun o => by
      obtain ⟨E2, R2, r3⟩ := R.newF (o := o) (vs := cut vs lo hi) np (cut_len lo hi l1) (rs.cut lo hi)
      exact k _ _ _ _ _ E2 R2 r3 hp⟩
    exact ⟨T, id, t1, t2, wp_lq wp⟩
  · exact ms_cut pins s σ H u v vl vu lo hi sl Q I ru hs pl pu ⟨ρ, h, x, Qp, R, r1, hp, k⟩
theorem le_sliceV {lo hi : Option Expr} {tlo thi : PTO} {p2 pos : Pos} {te : PTE} (he : PE X e (lE (gX X) xa W te)) (hl : PO X lo (lO (gX X) xa W tlo)) (hu : PO X hi (lO (gX X) xa W thi)) : PE X (.Subscript e (.Slice lo hi none p2) pos) (lE (gX X) xa W (pSliceV te tlo thi)) := by
  refine PE_imp (pe_slice ms_cutV he hl hu) fun σ H Q h => ?_
  obtain ⟨ρ, τ, h, Qp, Ep, R, S, hp, k, kx⟩ := h
  refine ⟨ρ, τ, h, _, Ep, R, S, hp, fun ρ1 H1 h1 x v E1 R1 r1 q1 => ?_, kx⟩
  have S1 := S.mono R.trk E1
  refine ⟨ρ1, τ, h1, _, Ep, R1, S1, q1, fun ρ2 H2 h2 l E2 R2 q2 => ?_, kx.mono E1⟩
  refine ⟨ρ2, τ, h2, _, Ep, R2, S1.mono R1.trk E2, q2, fun ρ3 H3 h3 u E3 R3 q3 => ?_, kx.mono (E1.trans E2)⟩
  exact ⟨ρ3, h3, x, Qp, R3, r1.mono R1.trk (E2.trans E3), q3, fun ρ4 H4 h4 z w E4 R4 r4 q4 => k ρ4 H4 h4 z w (E1.trans (E2.trans (E3.trans E4))) R4 r4 q4⟩
/-! ### x[::-1] -/
def rRevV : PUn := fun x h Q => match lstOf h x with
  | some xs => Q (.fl xs.reverse) h
  | none => rRev x h Q
theorem le_revV {te : PTE} {k : Nat} {p1 p2 p3 pos : Pos} (he : PE X e (lE (gX X) xa W te)) : PE X (.Subscript e (.Slice none none (some (.UnaryOp .USub (.Constant (.int 1) k p1) p2)) p3) pos) (lE (gX X) xa W (pUn rRevV te)) := by
  refine PE_imp (pe_lq (pe_revA he)) fun σ H Q h => ?_
  obtain ⟨ρ, τ, h, Qp, Ep, R, S, hp, kk, kx⟩ := h
  refine ⟨ρ, τ, h, _, Ep, R, S, hp, fun ρ1 H1 h1 x v E1 R1 r1 q1 => ?_, kx⟩
  unfold rRevV at q1
  split at q1
  · rename_i xs e1
    obtain ⟨a, vs, rfl, s1, l1, rs⟩ := lstOf_sqV R1 r1 e1
    refine ⟨a, vs, rfl, .inl ⟨s1, fun p np => lq_new fun o => ?_⟩⟩
    obtain ⟨E2, R2, r3⟩ := R1.newF (o := o) np (vs := vs.reverse) (by rw [List.length_reverse]; exact l1) rs.rev
    exact kk _ _ _ _ _ (E1.trans E2) R2 r3 q1
  · rename_i e1
    cases r1 with
    | @tup xs a vs q l rs =>
      have q1' : Qp (.tup xs.reverse) h1 := q1
      refine ⟨a, vs, rfl, .inr ⟨q, fun p np => ?_⟩⟩
      obtain ⟨E2, R2, r3⟩ := R1.newT np (vs := vs.reverse) (by rw [List.length_reverse]; exact l) rs.rev
      exact lq_id (kk _ _ _ _ _ (E1.trans E2) R2 r3 q1')
    | @fl xs a vs q l rs => cases e1
    | @ref n a ea =>
      have q1' : (match h1[n]? with
        | some (.lst xs) => Qp (.ref h1.length) (h1 ++ [.lst xs.reverse])
        | _ => False) := q1
      have e1' : (match h1[n]? with
        | some (.lst xs) => some xs
        | _ => none) = none := e1
      split at q1'
      · rename_i en
        rw [en] at e1'
        cases e1'
      · exact q1'.elim
    | _ => exact False.elim q1
/-! ### list(x), texts in parts -/
def rLstV : PCb := fun vs h Q => Q (.fl vs) h
theorem it_listV : ItR X (.type "list") rLstV := by
  intro pins s σ H D vs Q ρ h xs Qp I sq l R rs hp k
  refine wp_lq (L2.call_list_of pins s σ H [.ref D] [.ref D] (LQ Q) I (.cons rfl .nil) ⟨D, vs, rfl, .inl sq, fun p np => lq_new fun o => ?_⟩)
  obtain ⟨E2, R2, r3⟩ := R.newF (o := o) np l rs
  exact k _ _ _ _ _ E2 R2 r3 hp
theorem mc_listV : CallR X (.type "list") (lC (gX X) (onItems rLstV)) := by
  intro pins s σ H vs us Q I rr hh
  obtain ⟨ρ, h', xs, Qp, R, r1, hp, k⟩ := hh
  unfold onItems at hp
  split at hp
  · obtain ⟨v, e, r'⟩ := one_rv r1
    subst e
    split at hp
    · rename_i ys ey
      obtain ⟨b, ws, e1, sq, l, rs⟩ := itemsOf_sq R r' ey
      subst e1
      refine wp_lq (L2.call_list_of pins s σ H _ us (LQ Q) I rr ⟨b, ws, rfl, sq, fun p np => lq_new fun o => ?_⟩)
      obtain ⟨E2, R2, r3⟩ := R.newF (o := o) np l rs
      exact k _ _ _ _ _ E2 R2 r3 hp
    · exact hp.elim
  · exact hp.elim
def rSplitV : PMt := fun x vs h Q => match x, vs with
  | .str a, [.str b] => (b.length == 0) = false ∧ b.cps.all (· < 256) = true ∧ a.length + 2 ≤ sizeLine ∧ Q (.fl ((Txt.split a b).map .str)) h
  | _, _ => False
theorem mm_splitV : MtR X "str.split" (lM (gX X) rSplitV) := by
  intro pins s σ H u vs uu us Q I ru rr hh
  obtain ⟨ρ, h, x, xs, Qp, R, r1, r2, hp, k⟩ := hh
  unfold rSplitV at hp
  split at hp
  · rename_i a b
    obtain ⟨v, e, r'⟩ := one_rv r2
    subst e
    cases r1
    cases r'
    rename_i oa ob
    obtain ⟨q1, q0, q2, q⟩ := hp
    obtain ⟨q3, q4⟩ := split_ok oa q1 q0 q2
    refine wp_lq (mt_split pins s σ H _ _ uu us (LQ Q) I ru rr ⟨a, b, rfl, rfl, q1, q2, fun p np => lq_new fun o => ?_⟩)
    obtain ⟨E2, R2, r3⟩ := R.newF (o := o) (xs := (Txt.split a b).map PV.str) (vs := (Txt.split a b).map V.str) np (by rw [List.length_map]; exact q3) (vals_sts q4)
    exact k _ _ _ _ _ E2 R2 r3 q
  · exact hp.elim
end
/-! ### y = [.. for ..], as a value -/
theorem ps_lqn {X : Cx} {st : Stmt} {t : TS} (h : PS X st t) : PS X st (fun D σ H => t { D with nx := fun σ' H' => ∃ as, ∀ H'', Lk as H' H'' → D.nx σ' H'' } σ H) := by
  refine ⟨fun pins s σ H D I q => thn (h.run pins s σ H _ I q) fun f s' z => ?_⟩
  cases f with
  | next =>
    obtain ⟨σ', H', I', as, q'⟩ := z
    obtain ⟨H'', I'', L⟩ := inv_locks as H' I'
    exact ⟨σ', H'', I'', q' H'' L⟩
  | brk => exact z
  | cont => exact z
  | ret v => exact z
section
variable {X : Cx} {xa : Option (Nat × Addr × Value × Option Addr)} {W : WX} {te : PTE}
theorem ls_setLcV {i : Nat} {y : Str} {py : Pos} {elt tg iter : Expr} {ifs : List Expr} {scope : Scope} {own : List (Str × Nat)} {lpos spos : Pos} {ti : PTI} {g : Tg} {tt : PTT} (hc : X.calm = true) (hN : X.N.Nodup) (hy : X.N[i]? = some y) (hyl : X.env.scope.names.lookup y = some .local)
    (hsw : swapsWith (.ListComp elt [⟨tg, iter, ifs, 0⟩] scope lpos) (some (.Name y py)) spos.line X.env = pure true) (hi : PI X tg iter (lI (gX X) xa W ti)) (ok : BlkOk X.N X.env.scope scope own) (hgs : ∀ i ∈ g.slots, i ∈ own.map (·.2))
    (hg : ∀ (s : Shared) (H : Hp) (C : Addr) (cl : List (Str × Addr)) (fp : List Addr), PG (X.blk s H scope (compEnvC scope cl C X.env) fp) tg (lG (gX X) xa g)) (ht : ∀ (s : Shared) (H : Hp) (C : Addr) (cl : List (Str × Addr)) (fp : List Addr), PTs (X.blk s H scope (compEnvC scope cl C X.env) fp) ifs (lT (gX X) xa W0 tt))
    (he : ∀ (s : Shared) (H : Hp) (C : Addr) (cl : List (Str × Addr)) (fp : List Addr), PE (X.blk s H scope (compEnvC scope cl C X.env) fp) elt (lE (gX X) xa W0 te)) (hs : ∀ x, foldedSetIterable iter X.env x = pure x := by intro _; rfl) :
    PS X (.Assign [.Name y py] (.ListComp elt [⟨tg, iter, ifs, 0⟩] scope lpos) spos) (lS (gX X) xa W (pAsg (pFz (pLc ti g tt te (own.map (·.2)))) (.nm i))) := by
  refine PS_imp (ps_lqn (ps_setLc hc hN hy hyl hsw hi ok hg ht he hs)) fun D σ H h => ?_
  obtain ⟨ρ, τ, h, Dp, R, S, hp, k⟩ := h
  refine lLc_of hgs ⟨ρ, τ, h, _, _, R, S, hp, fun ρ1 H1 h1 xs D' vs E1 R1 r1 l hD nD fD q1 => ?_, k.xc R S⟩
  refine ⟨[D'], fun H2 L => ?_⟩
  obtain ⟨o, e1⟩ := L.on D' List.mem_cons_self vs hD
  have e2 : H2 = upd H1 D' (.frz o (.lst vs)) := by
    funext a
    by_cases ha : a = D'
    · subst ha; rw [e1, upd_same]
    · rw [L.off a (fun z => ha (List.mem_singleton.mp z)), upd_ne ha]
  rw [e2]
  obtain ⟨K2, R2⟩ := R1.other (o := .frz o (.lst vs)) nD hD
  have E2 : Ext ρ H ρ1 (upd H1 D' (.frz o (.lst vs))) := E1.other fD
  have q2 : Dp.nx (τ.set i (some (.fl xs))) h1 := q1
  exact k.nx ρ1 _ _ _ _ E2 R2 ((S.mono R.trk E2).set (.fl (.inl ⟨o, upd_same⟩) l (r1.keep K2))) q2
end
/-! ### a, b = x, y -/
def pPar (i j : Nat) (t : PTA) : PTS := fun D τ h => t τ h (fun vs h1 => match vs with
  | [v, w] => D.nx ((τ.set i (some v)).set j (some w)) h1
  | _ => False) (fun c v h' => D.ex c v τ h')
def pPar3 (i j l : Nat) (t : PTA) : PTS := fun D τ h => t τ h (fun vs h1 => match vs with
  | [v, w, u] => D.nx (((τ.set i (some v)).set j (some w)).set l (some u)) h1
  | _ => False) (fun c v h' => D.ex c v τ h')
section
variable {X : Cx} {xa : Option (Nat × Addr × Value × Option Addr)} {W : WX} {t : PTA}
theorem ls_par {i j : Nat} {x y : Str} {a b : Expr} {px py pt pos : Pos} {kt k2 pt2} (hc : X.calm = true) (hN : X.N.Nodup) (hi : X.N[i]? = some x) (hj : X.N[j]? = some y) (hij : i ≠ j)
    (hx : X.env.scope.names.lookup x = some .local) (hy : X.env.scope.names.lookup y = some .local) (ha : PA X [a, b] (lA (gX X) xa W t))
    (hw : swappedStores [.Tuple [.Name x px, .Name y py] kt pt] (.Tuple [a, b] k2 pt2) X.env = pure (some [x, y]))
    (hs : swapsWithSole [.Tuple [.Name x px, .Name y py] kt pt] (.Tuple [a, b] k2 pt2) pos.line X.env = pure false := by rfl) :
    PS X (.Assign [.Tuple [.Name x px, .Name y py] kt pt] (.Tuple [a, b] k2 pt2) pos) (lS (gX X) xa W (pPar i j t)) := by
  refine PS_imp (ps_par hc hN hi hj hij hx hy ha hw hs) fun D σ H h => ?_
  obtain ⟨ρ, τ, h, Dp, R, S, hp, k⟩ := h
  refine ⟨ρ, τ, h, _, _, R, S, hp, fun ρ' H' h' xs vs E R' rs q => ?_, k.xc R S⟩
  split at q
  · rename_i v w
    obtain ⟨u1, u2, rfl, r1, r2⟩ := two_rv rs
    exact ⟨u1, u2, rfl, k.nx ρ' H' h' _ _ E R' (((S.mono R.trk E).set r1).set r2) q⟩
  · exact q.elim
theorem ls_par3 {i j l : Nat} {x y z : Str} {a b c : Expr} {px py pz pt pos : Pos} {kt k2 pt2} (hc : X.calm = true) (hN : X.N.Nodup) (hi : X.N[i]? = some x) (hj : X.N[j]? = some y) (hl : X.N[l]? = some z) (hij : i ≠ j) (hil : i ≠ l) (hjl : j ≠ l)
    (hx : X.env.scope.names.lookup x = some .local) (hy : X.env.scope.names.lookup y = some .local) (hz : X.env.scope.names.lookup z = some .local) (ha : PA X [a, b, c] (lA (gX X) xa W t))
    (hw : swappedStores [.Tuple [.Name x px, .Name y py, .Name z pz] kt pt] (.Tuple [a, b, c] k2 pt2) X.env = pure (some [x, y, z]))
    (hs : swapsWithSole [.Tuple [.Name x px, .Name y py, .Name z pz] kt pt] (.Tuple [a, b, c] k2 pt2) pos.line X.env = pure false := by rfl) :
    PS X (.Assign [.Tuple [.Name x px, .Name y py, .Name z pz] kt pt] (.Tuple [a, b, c] k2 pt2) pos) (lS (gX X) xa W (pPar3 i j l t)) := by
  refine PS_imp (ps_par3 hc hN hi hj hl hij hil hjl hx hy hz ha hw hs) fun D σ H h => ?_
  obtain ⟨ρ, τ, h, Dp, R, S, hp, k⟩ := h
  refine ⟨ρ, τ, h, _, _, R, S, hp, fun ρ' H' h' xs vs E R' rs q => ?_, k.xc R S⟩
  split at q
  · rename_i v w u
    cases rs with
    | cons r1 rs =>
      obtain ⟨u2, u3, rfl, r2, r3⟩ := two_rv rs
      exact ⟨_, u2, u3, rfl, k.nx ρ' H' h' _ _ E R' ((((S.mono R.trk E).set r1).set r2).set r3) q⟩
  · exact q.elim
end
/-! ### a def whose new lists are handed back by value -/
def fzQ (h0 : PHeap) (Q : PQ) : PQ := fun x h1 => ∃ y, Fz h0.length h1 x y ∧ Clo h0 h1 ∧ Q y (h1.take h0.length)
def fzX (h0 : PHeap) (E : PXQ) : PXQ := fun c x h1 => ∃ y, Fz h0.length h1 x y ∧ Clo h0 h1 ∧ E c y (h1.take h0.length)
theorem okz {P : Program} {w : World} {K : PySem.W.Frag} {mg : Str → Option Value} {base : Heap} {name : Str} {st : Stmt} {ps : List Str} {k N : Nat} {sp : PSp} {t : PTS}
    (ok : ∀ sp' : PSp, (∀ vs h Q Ex, vs.length = ps.length → sp' vs h Q Ex → t (body Q Ex) (pstart N vs) h) → Ok P w K mg base name st ps k sp')
    (pure : ∀ vs h Q Ex, vs.length = ps.length → sp vs h Q Ex → t (body (fzQ h Q) (fzX h Ex)) (pstart N vs) h) : Ok P w K mg base name st ps k sp :=
  Ok.imp (ok_frz (ok (fun vs h Q Ex => t (body Q Ex) (pstart N vs) h) fun _ _ _ _ _ z => z)) fun vs h Q Ex l z => pure vs h Q Ex l z
end MP
set_option maxHeartbeats 4000000
/-! MP18: tools for the plain part where lists are values: the pot, what draws give, readings by value. -/
namespace MP
open PySem L2 TL
/-! ### the pot: a cell from which numbers are drawn; what it holds is the law's own affair -/
class PotK where
  ok : Nat → List PV → Prop
  le : ∀ {n m : Nat} {xs : List PV}, ok n xs → m ≤ n → ok m xs
  old : ∀ {n : Nat} {xs : List PV}, ok n xs → ∀ (N : Nat) (h : PHeap), Fzs N h xs xs
variable [PotK]
def Pot (h : PHeap) (p n : Nat) : Prop := ∃ xs, h[p]? = some (.lst xs) ∧ PotK.ok n xs
theorem Pot.lt {h : PHeap} {p n : Nat} (P : Pot h p n) : p < h.length := by
  obtain ⟨xs, e, _⟩ := P
  exact (List.getElem?_eq_some_iff.mp e).1
theorem Pot.app {h : PHeap} {p n : Nat} (P : Pot h p n) (t : PHeap) : Pot (h ++ t) p n := by
  have l := P.lt
  obtain ⟨xs, e, r⟩ := P
  exact ⟨xs, by rw [List.getElem?_append_left l]; exact e, r⟩
theorem Pot.le {h : PHeap} {p n m : Nat} (P : Pot h p n) (l : m ≤ n) : Pot h p m := by
  obtain ⟨xs, e, r⟩ := P
  exact ⟨xs, e, PotK.le r l⟩
theorem Pot.set {h : PHeap} {p n q : Nat} {c : Cell} (P : Pot h p n) (nq : q ≠ p) : Pot (h.set q c) p n := by
  obtain ⟨xs, e, r⟩ := P
  exact ⟨xs, by rw [List.getElem?_set_ne nq]; exact e, r⟩

/-! ### the pot alone is changed -/
def Pe (p : Nat) (h h' : PHeap) : Prop := ∃ c, h' = h.set p c
section
variable {p : Nat} {h h' h'' t : PHeap}
theorem Pe.refl (l : p < h.length) : Pe p h h := ⟨h[p], by
  apply List.ext_getElem?
  intro i
  by_cases e : p = i
  · subst e; rw [List.getElem?_set_self l, List.getElem?_eq_getElem l]
  · rw [List.getElem?_set_ne e]⟩
theorem Pe.trans (a : Pe p h h') (b : Pe p h' h'') : Pe p h h'' := by
  obtain ⟨c, rfl⟩ := a
  obtain ⟨d, rfl⟩ := b
  exact ⟨d, by rw [List.set_set]⟩
theorem Pe.len (a : Pe p h h') : h'.length = h.length := by
  obtain ⟨c, rfl⟩ := a
  rw [List.length_set]
theorem Pe.get (a : Pe p h h') {i : Nat} (n : i ≠ p) : h'[i]? = h[i]? := by
  obtain ⟨c, rfl⟩ := a
  rw [List.getElem?_set_ne (Ne.symm n)]
theorem Pe.app (l : p < h.length) (a : Pe p h h') (t : PHeap) : Pe p (h ++ t) (h' ++ t) := by
  obtain ⟨c, rfl⟩ := a
  exact ⟨c, by rw [List.set_append_left _ _ l]⟩
theorem Pe.un (l : p < h.length) (a : Pe p (h ++ t) h'') : ∃ h', h'' = h' ++ t ∧ Pe p h h' := by
  obtain ⟨c, rfl⟩ := a
  exact ⟨h.set p c, by rw [List.set_append_left _ _ l], c, rfl⟩
theorem Pe.put (c : Cell) : Pe p h (h.set p c) := ⟨c, rfl⟩
theorem Pot.un {n : Nat} (P : Pot (h ++ t) p n) (l : p < h.length) : Pot h p n := by
  obtain ⟨xs, e, r⟩ := P
  exact ⟨xs, by rw [List.getElem?_append_left l] at e; exact e, r⟩
end
/-- one more number drawn, below m -/
def sp_dr : PSp := fun vs h Q _ => ∃ (p : Nat) (m : Int) (n : Nat), vs = [.ref p, .int m] ∧ 0 < m ∧ m < 10 ^ 45 ∧ Pot h p (n + 1) ∧ ∀ r h', 0 ≤ r → r < m → Pot h' p n → Pe p h h' → Q (.int r) h'
/-- w draws at most; what comes is so -/
def spG (w : Nat) (pre : List PV → Prop) (T : List PV → PV → Prop) : PSp := fun vs h Q _ => ∃ p n rest, vs = .ref p :: rest ∧ pre rest ∧ Pot h p (n + w) ∧ ∀ v h', T rest v → Pot h' p n → Pe p h h' → Q v h'
/-- a value, whatever stands -/
def Pv (e : PTE) (τ : PSt) (v : PV) : Prop := ∀ (h : PHeap) (Q : PQ) (E : PXQ), Q v h → e τ h Q E
def PvA (a : PTA) (τ : PSt) (vs : List PV) : Prop := ∀ (h : PHeap) (Q : List PV → PHeap → Prop) (E : PXQ), Q vs h → a τ h Q E
/-- draws w times at most, and gives such a value -/
def Ge (p w : Nat) (e : PTE) (τ : PSt) (T : PV → Prop) : Prop := ∀ (h : PHeap) (n : Nat) (Q : PQ) (E : PXQ), Pot h p (n + w) → (∀ v h', T v → Pot h' p n → Pe p h h' → Q v h') → e τ h Q E
def GeA (p w : Nat) (a : PTA) (τ : PSt) (U : List PV → Prop) : Prop := ∀ (h : PHeap) (n : Nat) (Q : List PV → PHeap → Prop) (E : PXQ), Pot h p (n + w) → (∀ vs h', U vs → Pot h' p n → Pe p h h' → Q vs h') → a τ h Q E
def InI (a b : Int) (v : PV) : Prop := ∃ i, v = .int i ∧ a ≤ i ∧ i < b
def InS (n : Nat) (v : PV) : Prop := ∃ s : Str, v = .str s ∧ s.length ≤ n
section
variable {p w w' : Nat} {e b : PTE} {a t : PTA} {τ : PSt} {T T' : PV → Prop} {U U' : List PV → Prop} {v : PV} {i : Nat}
theorem pv_c : Pv (pC v) τ v := fun _ _ _ q => q
theorem pv_var (hτ : τ[i]? = some (some v)) (x : isExc v = false) : Pv (pVar i) τ v := fun h Q E q => by
  unfold pVar
  rw [hτ]
  exact ⟨x, q⟩
theorem pva_nil : PvA pNil τ [] := fun _ _ _ q => q
theorem pva_cons {vs : List PV} (x : Pv e τ v) (y : PvA a τ vs) : PvA (pCons e a) τ (v :: vs) := fun h Q E q => x h _ E (y h _ E q)
theorem pv_tup {vs : List PV} (y : PvA a τ vs) (hl : vs.length ≤ 100000 := by simp) : Pv (pTup a) τ (.tup vs) := fun h Q E q => y h _ E ⟨by rw [sizeLine_eq]; omega, q⟩
theorem pva_tmp {vs : List PV} (y : PvA a τ vs) (hl : vs.length ≤ 100000 := by simp) : PvA (pTmp a) τ vs := fun h Q E q => y h _ E ⟨by rw [sizeLine_eq]; omega, q⟩
theorem pv_fz {vs : List PV} (y : PvA a τ vs) : Pv (pFz a) τ (.fl vs) := fun h Q E q => y h _ E q
theorem pv_neg {k : Int} (x : Pv e τ (.int k)) : Pv (pUn MP.rNeg e) τ (.int (-k)) := fun h Q E q => x h _ E q
theorem pv_add {k j : Int} (x : Pv e τ (.int k)) (y : Pv b τ (.int j)) : Pv (pOp MP.rAdd e b) τ (.int (k + j)) := fun h Q E q => x h _ E (y h _ E q)
theorem pv_sub {k j : Int} (x : Pv e τ (.int k)) (y : Pv b τ (.int j)) : Pv (pOp MP.rSub e b) τ (.int (k - j)) := fun h Q E q => x h _ E (y h _ E q)
theorem pv_pow {k j : Int} (x : Pv e τ (.int k)) (y : Pv b τ (.int j)) (c : powOk k j) : Pv (pOp MP.rPow e b) τ (.int (k ^ j.toNat)) := fun h Q E q => x h _ E (y h _ E ⟨c, q⟩)
theorem pv_mulS {s : Str} {j : Int} (x : Pv e τ (.str s)) (y : Pv b τ (.int j)) (c : PySem.MulOk s j ∧ okS (Txt.mul s j)) : Pv (pOp MP.rMul e b) τ (.str (Txt.mul s j)) := fun h Q E q => x h _ E (y h _ E ⟨c, q⟩)
theorem pv_lenF {xs : List PV} (x : Pv e τ (.fl xs)) : Pv (pCB MP.rLen (pCons e pNil)) τ (.int xs.length) := fun h Q E q => x h _ E q
theorem pv_lenT {xs : List PV} (x : Pv e τ (.tup xs)) : Pv (pCB MP.rLen (pCons e pNil)) τ (.int xs.length) := fun h Q E q => x h _ E q
theorem pv_lenS {s : Str} (x : Pv e τ (.str s)) : Pv (pCB MP.rLen (pCons e pNil)) τ (.int s.length) := fun h Q E q => x h _ E q
theorem pv_cong {u : PV} (x : Pv e τ u) (hu : u = v) : Pv e τ v := hu ▸ x
/-! draws -/
theorem ge_up (g : Ge p w e τ T) (l : w ≤ w') : Ge p w' e τ T := fun h n Q E P k => g h (n + (w' - w)) Q E (P.le (by omega)) fun v h' tv P' e' => k v h' tv (P'.le (by omega)) e'
theorem gea_up (g : GeA p w a τ U) (l : w ≤ w') : GeA p w' a τ U := fun h n Q E P k => g h (n + (w' - w)) Q E (P.le (by omega)) fun v h' tv P' e' => k v h' tv (P'.le (by omega)) e'
theorem ge_imp (g : Ge p w e τ T) (m : ∀ v, T v → T' v) : Ge p w e τ T' := fun h n Q E P k => g h n Q E P fun v h' tv => k v h' (m v tv)
theorem gea_imp (g : GeA p w a τ U) (m : ∀ v, U v → U' v) : GeA p w a τ U' := fun h n Q E P k => g h n Q E P fun v h' tv => k v h' (m v tv)
theorem ge_pv (x : Pv e τ v) (tv : T v) : Ge p 0 e τ T := fun h n Q E P k => x h Q E (k v h tv P (.refl P.lt))
theorem gea_pv {vs : List PV} (x : PvA a τ vs) (tv : U vs) : GeA p 0 a τ U := fun h n Q E P k => x h Q E (k vs h tv P (.refl P.lt))
theorem ge_draw {sp : PSp} {m : Int} (hτ : τ[i]? = some (some (.ref p))) (hm : Pv e τ (.int m)) (m0 : 0 < m) (m1 : m < 10 ^ 45) (hs : sp = sp_dr := by rfl) : Ge p 1 (pCall (gd 2 sp) (pCons (pVar i) (pCons e pNil))) τ (InI 0 m) := by
  subst hs
  intro h n Q E P k
  refine (pv_var hτ rfl : Pv (pVar i) τ (.ref p)) h (fun x h1 => pCons e pNil τ h1 (fun xs h2 => gd 2 sp_dr (x :: xs) h2 Q E) E) E ?_
  refine hm h (fun y h2 => gd 2 sp_dr [.ref p, y] h2 Q E) E ?_
  exact ⟨rfl, p, m, n, rfl, m0, m1, P, fun r h' r0 r1 P' e' => k _ h' ⟨r, rfl, r0, r1⟩ P' e'⟩
theorem gea_nil : GeA p 0 pNil τ (fun vs => vs = []) := gea_pv pva_nil rfl
theorem gea_cons (x : Ge p w e τ T) (y : GeA p w' a τ U) : GeA p (w + w') (pCons e a) τ (fun vs => ∃ v us, vs = v :: us ∧ T v ∧ U us) := fun h n Q E P k =>
  x h (n + w') _ E (P.le (by omega)) fun v h1 tv P1 e1 => y h1 n _ E P1 fun us h2 uu P2 e2 => k _ h2 ⟨v, us, rfl, tv, uu⟩ P2 (e1.trans e2)
theorem gea_tmp (y : GeA p w a τ U) (hl : ∀ vs, U vs → vs.length ≤ 100000) : GeA p w (pTmp a) τ U := fun h n Q E P k => y h n _ E P fun vs h1 uu P1 e1 => ⟨by have := hl vs uu; rw [sizeLine_eq]; omega, k vs h1 uu P1 e1⟩
theorem ge_tup (y : GeA p w a τ U) (hl : ∀ vs, U vs → vs.length ≤ 100000) : Ge p w (pTup a) τ (fun v => ∃ vs, v = .tup vs ∧ U vs) := fun h n Q E P k => y h n _ E P fun vs h1 uu P1 e1 => ⟨by have := hl vs uu; rw [sizeLine_eq]; omega, k _ h1 ⟨vs, rfl, uu⟩ P1 e1⟩
theorem ge_fz (y : GeA p w a τ U) : Ge p w (pFz a) τ (fun v => ∃ vs, v = .fl vs ∧ U vs) := fun h n Q E P k => y h n _ E P fun vs h1 uu P1 e1 => k _ h1 ⟨vs, rfl, uu⟩ P1 e1
theorem ge_tupI (y : GeA p w a τ U) : Ge p w (pCT MP.rTupI a) τ (fun v => ∃ vs, v = .tup vs ∧ U vs) := fun h n Q E P k => y h n _ E P fun vs h1 uu P1 e1 => k _ h1 ⟨vs, rfl, uu⟩ P1 e1
/-- [..][index] -/
theorem ge_ixT {n : Nat} (x : GeA p w a τ (fun vs => vs.length = n ∧ ∀ v ∈ vs, T v)) (y : Ge p w' b τ (InI 0 n)) : Ge p (w + w') (pIxT MP.rIxT a b) τ T := fun h m Q E P k =>
  x h (m + w') _ E (P.le (by omega)) fun vs h1 ⟨lv, mv⟩ P1 e1 => y h1 m _ E P1 fun v h2 ⟨j, ev, j0, j1⟩ P2 e2 => by
    subst ev
    show (match L2.atI vs j with
      | some v => _
      | none => False)
    have hj : j.toNat < vs.length := by omega
    rw [atI_pos j0, List.getElem?_eq_getElem hj]
    exact k _ h2 (mv _ (List.getElem_mem hj)) P2 (e1.trans e2)
/-- a list or a tuple by value, its items so -/
def Itm (n : Nat) (T : PV → Prop) (v : PV) : Prop := ∃ xs, (v = .fl xs ∨ v = .tup xs) ∧ xs.length = n ∧ ∀ x ∈ xs, T x
theorem ge_ix {n : Nat} (x : Ge p w e τ (Itm n T)) (y : Ge p w' b τ (InI 0 n)) : Ge p (w + w') (pOp MP.rIx e b) τ T := fun h m Q E P k =>
  x h (m + w') _ E (P.le (by omega)) fun vs h1 ⟨xs, ex, lv, mv⟩ P1 e1 => y h1 m _ E P1 fun v h2 ⟨j, ev, j0, j1⟩ P2 e2 => by
    subst ev
    have key : (match L2.atI xs j with
      | some v => Q v h2
      | none => False) := by
      have hj : j.toNat < xs.length := by omega
      rw [atI_pos j0, List.getElem?_eq_getElem hj]
      exact k _ h2 (mv _ (List.getElem_mem hj)) P2 (e1.trans e2)
    rcases ex with ex | ex
    · subst ex; exact key
    · subst ex; exact key
/-- a sign of a text -/
def SgO (s : Str) (v : PV) : Prop := ∃ c, v = .str ⟨#[c]⟩ ∧ c ∈ tl s
theorem ge_ixS {s : Str} (x : Pv e τ (.str s)) (y : Ge p w' b τ (InI 0 s.length)) : Ge p w' (pOp MP.rIx e b) τ (SgO s) := fun h m Q E P k =>
  x h _ E (y h m _ E P fun v h2 ⟨j, ev, j0, j1⟩ P2 e2 => by
    subst ev
    show (match L2.atI s.cps.toList j with
      | some c => Q (.str ⟨#[c]⟩) h2
      | none => False)
    have hj : j.toNat < s.cps.toList.length := by
      have : s.length = s.cps.toList.length := rfl
      omega
    rw [atI_pos j0, List.getElem?_eq_getElem hj]
    exact k _ h2 ⟨_, rfl, List.getElem_mem hj⟩ P2 e2)
/-- a call that draws -/
theorem ge_call {sp : PSp} {k : Nat} {pre : List PV → Prop} {T2 : List PV → PV → Prop} (hτ : τ[i]? = some (some (.ref p))) (x : GeA p w' a τ U) (hp : ∀ rest, U rest → rest.length + 1 = k ∧ pre rest) (hs : sp = spG w pre T2 := by rfl) :
    Ge p (w' + w) (pCall (gd k sp) (pCons (pVar i) a)) τ (fun v => ∃ rest, U rest ∧ T2 rest v) := by
  subst hs
  intro h n Q E P kk
  refine (pv_var hτ rfl : Pv (pVar i) τ (.ref p)) h (fun v h1 => a τ h1 (fun xs h2 => gd k (spG w pre T2) (v :: xs) h2 Q E) E) E ?_
  refine x h (n + w) _ E (P.le (by omega)) fun rest h1 ur P1 e1 => ?_
  obtain ⟨l, pr⟩ := hp rest ur
  exact ⟨l, p, n, rest, rfl, pr, P1, fun v h' tv P' e' => kk v h' ⟨rest, ur, tv⟩ P' (e1.trans e')⟩
theorem ge_call1 {sp : PSp} {T2 : List PV → PV → Prop} (hτ : τ[i]? = some (some (.ref p))) (hs : sp = spG w (fun r => r = []) T2 := by rfl) : Ge p w (pCall (gd 1 sp) (pCons (pVar i) pNil)) τ (T2 []) :=
  ge_up (ge_imp (ge_call hτ gea_nil (fun r e => ⟨by rw [e]; rfl, e⟩) hs) fun v ⟨r, e, z⟩ => e ▸ z) (by omega)
/-- [.. for i in range(..)], each drawing w times at most -/
theorem gea_lc {is : List Nat} {l : PTE} {L : Nat} (hL : L ≤ 100000) (x : Ge p w' l τ (fun v => ∃ k : Nat, v = .int k ∧ k ≤ L)) (st : ∀ k : Nat, k < L → Ge p w e ((pwipe τ is).set i (some (.int k))) T) :
    GeA p (w' + w * L) (pLc (pRng1 l) (.nm i) pYes e is) τ (fun vs => vs.length ≤ L ∧ ∀ v ∈ vs, T v) := by
  intro h n Q E P kk
  refine x h (n + w * L) _ E (P.le (by omega)) fun v h1 ⟨k, ev, lk⟩ P1 e1 => ?_
  subst ev
  refine ⟨by omega, by omega, ?_⟩
  rw [Int.toNat_natCast]
  have hlen : (rngOf 0 k).length = k := by unfold rngOf; simp
  refine lcGo_inv (fun j acc h' => j ≤ k ∧ acc.length = j ∧ (∀ y ∈ acc, T y) ∧ Pot h' p (n + w * (L - j)) ∧ Pe p h h') (rngOf 0 k) (fun _ _ _ _ => trivial) (fun acc h' z => ?_) (fun j x acc h' N ek z nn => ?_) h1 ⟨Nat.zero_le _, rfl, fun y hy => (by cases hy), P1, e1⟩
  · obtain ⟨z0, z1, z2, z3, z4⟩ := z
    rw [hlen] at z1
    exact kk acc h' ⟨by omega, z2⟩ (z3.le (by omega)) z4
  · obtain ⟨z0, z1, z2, z3, z4⟩ := z
    have hk : j < k := by
      have := (List.getElem?_eq_some_iff.mp ek).1
      rw [hlen] at this
      exact this
    have ex : x = .int (j : Nat) := by
      unfold rngOf at ek
      rw [List.getElem?_map, List.getElem?_range hk] at ek
      have := (Option.some.inj ek).symm
      simpa using this
    subst ex
    refine ⟨_, rfl, ?_⟩
    unfold pYes
    dsimp only
    rw [if_pos rfl]
    have eq : n + w * (L - j) = n + w * (L - (j + 1)) + w := by
      have : L - j = (L - (j + 1)) + 1 := by omega
      rw [this, Nat.mul_add, Nat.mul_one]
      omega
    rw [eq] at z3
    refine st j (by omega) h' _ _ _ z3 fun y h2 ty P2 e2 => ⟨by rw [z1, sizeLine_eq]; omega, nn _ _ ⟨hk, by rw [List.length_append, z1]; rfl, fun y' hy' => ?_, P2, z4.trans e2⟩⟩
    rcases List.mem_append.mp hy' with a | a
    · exact z2 y' a
    · rw [List.mem_singleton.mp a]
      exact ty
/-- exactly L turns -/
theorem gea_lcN {is : List Nat} {l : PTE} {L : Nat} (hL : L ≤ 100000) (x : Pv l τ (.int L)) (st : ∀ k : Nat, k < L → Ge p w e ((pwipe τ is).set i (some (.int k))) T) :
    GeA p (w * L) (pLc (pRng1 l) (.nm i) pYes e is) τ (fun vs => vs.length = L ∧ ∀ v ∈ vs, T v) := by
  intro h n Q E P kk
  refine x h _ E ⟨by omega, by omega, ?_⟩
  rw [Int.toNat_natCast]
  have hlen : (rngOf 0 L).length = L := by unfold rngOf; simp
  refine lcGo_inv (fun j acc h' => j ≤ L ∧ acc.length = j ∧ (∀ y ∈ acc, T y) ∧ Pot h' p (n + w * (L - j)) ∧ Pe p h h') (rngOf 0 L) (fun _ _ _ _ => trivial) (fun acc h' z => ?_) (fun j x acc h' N ek z nn => ?_) h ⟨Nat.zero_le _, rfl, fun y hy => (by cases hy), P, .refl P.lt⟩
  · obtain ⟨z0, z1, z2, z3, z4⟩ := z
    rw [hlen] at z1
    exact kk acc h' ⟨z1, z2⟩ (z3.le (by omega)) z4
  · obtain ⟨z0, z1, z2, z3, z4⟩ := z
    have hk : j < L := by
      have := (List.getElem?_eq_some_iff.mp ek).1
      rw [hlen] at this
      exact this
    have ex : x = .int (j : Nat) := by
      unfold rngOf at ek
      rw [List.getElem?_map, List.getElem?_range hk] at ek
      have := (Option.some.inj ek).symm
      simpa using this
    subst ex
    refine ⟨_, rfl, ?_⟩
    unfold pYes
    dsimp only
    rw [if_pos rfl]
    have eq : n + w * (L - j) = n + w * (L - (j + 1)) + w := by
      have : L - j = (L - (j + 1)) + 1 := by omega
      rw [this, Nat.mul_add, Nat.mul_one]
      omega
    rw [eq] at z3
    refine st j hk h' _ _ _ z3 fun y h2 ty P2 e2 => ⟨by rw [z1, sizeLine_eq]; omega, nn _ _ ⟨hk, by rw [List.length_append, z1]; rfl, fun y' hy' => ?_, P2, z4.trans e2⟩⟩
    rcases List.mem_append.mp hy' with a | a
    · exact z2 y' a
    · rw [List.mem_singleton.mp a]
      exact ty
end
/-! ### readings of operators by value -/
section
variable {h : PHeap} {Q : PQ} {i j : Int} {a b : Str} {xs ys : List PV} {n m : Nat} {x y v : PV}
theorem e_addV_ii : rAddV (.int i) (.int j) h Q = Q (.int (i + j)) h := rfl
theorem e_addV_ss : rAddV (.str a) (.str b) h Q = (a.length + b.length ≤ sizeLine ∧ Q (.str (a ++ b)) h) := rfl
theorem e_addV_tt : rAddV (.tup xs) (.tup ys) h Q = (xs.length + ys.length ≤ sizeLine ∧ Q (.tup (xs ++ ys)) h) := rfl
theorem e_addV_ff : rAddV (.fl xs) (.fl ys) h Q = (xs.length + ys.length ≤ sizeLine ∧ Q (.fl (xs ++ ys)) h) := rfl
theorem e_mulV_ii : rMulV (.int i) (.int j) h Q = (mulOk i j ∧ Q (.int (i * j)) h) := rfl
theorem e_mulV_si : rMulV (.str a) (.int j) h Q = ((PySem.MulOk a j ∧ okS (Txt.mul a j)) ∧ Q (.str (Txt.mul a j)) h) := rfl
theorem e_mulV_ti : rMulV (.tup xs) (.int j) h Q = ((-1000 ≤ j ∧ j ≤ 1000 ∧ xs.length ≤ 1000) ∧ Q (.tup (List.replicate j.toNat xs).flatten) h) := rfl
theorem e_mulV_fi : rMulV (.fl xs) (.int j) h Q = ((-(2 ^ 63) ≤ j ∧ j < 2 ^ 63 ∧ xs.length * j.toNat ≤ 16777216) ∧ Q (.fl (List.replicate j.toNat xs).flatten) h) := rfl
theorem e_cutV_s {lo hi : Option Int} : rCutV (.str a) lo hi h Q = Q (.str (L2.cutS a lo hi)) h := rfl
theorem e_cutV_t {lo hi : Option Int} : rCutV (.tup xs) lo hi h Q = Q (.tup (cut xs lo hi)) h := rfl
theorem e_cutV_f {lo hi : Option Int} : rCutV (.fl xs) lo hi h Q = Q (.fl (cut xs lo hi)) h := rfl
theorem e_revV_t : rRevV (.tup xs) h Q = Q (.tup xs.reverse) h := rfl
theorem e_revV_f : rRevV (.fl xs) h Q = Q (.fl xs.reverse) h := rfl
theorem e_lstV : rLstV xs h Q = Q (.fl xs) h := rfl
theorem e_splitV : rSplitV (.str a) [.str b] h Q = ((b.length == 0) = false ∧ b.cps.all (· < 256) = true ∧ a.length + 2 ≤ sizeLine ∧ Q (.fl ((Txt.split a b).map .str)) h) := rfl
theorem e_onL_f {r : PCb} : onList r [.fl xs] h Q = r xs h Q := rfl
theorem tr_f : truth h (.fl xs) = some !xs.isEmpty := rfl
end
/-! ### values that can be read, whatever stands -/
def R0 (f : Nat) (v : PV) : Prop := ∃ d, rd [] f v = some d
theorem R0.rd {f : Nat} {v : PV} (r : R0 f v) (h : PHeap) {g : Nat} (l : f ≤ g := by decide) : ∃ d, MP.rd [] f v = some d ∧ MP.rd h g v = some d := by
  obtain ⟨d, e⟩ := r
  exact ⟨d, e, rd_mono (fun i xs z => by cases z) f g l v d e⟩
theorem rd0 {f g : Nat} {v : PV} {d : PyData} (e : rd [] f v = some d) (h : PHeap) (l : f ≤ g := by decide) : rd h g v = some d := rd_mono (fun i xs z => by cases z) f g l v d e
theorem R0.rb {f : Nat} {v : PV} (r : R0 f v) (h : PHeap) (l : f ≤ 16 := by decide) : Rb h v := by
  obtain ⟨d, _, e⟩ := r.rd h (g := 16) l
  exact ⟨d, e⟩
theorem R0.up {f g : Nat} {v : PV} (r : R0 f v) (l : f ≤ g := by decide) : R0 g v := by
  obtain ⟨d, e⟩ := r
  exact ⟨d, rd_le l e⟩
theorem R0.nx {f : Nat} {v : PV} (r : R0 f v) : isExc v = false := by
  obtain ⟨d, e⟩ := r
  exact rd_notExc e
theorem R0.ty {f : Nat} {v : PV} (r : R0 f v) (h : PHeap) : (tyOf h v).isSome = true := by
  obtain ⟨d, _, e⟩ := r.rd h (Nat.le_refl f)
  exact rd_ty e
theorem r0_int {f : Nat} {i : Int} : R0 f (.int i) := ⟨.int i, by cases f <;> rfl⟩
theorem r0_str {f : Nat} {s : Str} : R0 f (.str s) := ⟨.str s, by cases f <;> rfl⟩
theorem r0_bl {f : Nat} {b : Bool} : R0 f (.bl b) := ⟨.bool b, by cases f <;> rfl⟩
theorem r0_non {f : Nat} : R0 f .non := ⟨.none, by cases f <;> rfl⟩
theorem r0_tup {f : Nat} {xs : List PV} (l : xs.length ≤ 100000) (m : ∀ x ∈ xs, R0 f x) : R0 (f + 1) (.tup xs) := by
  obtain ⟨ds, e⟩ := allD_of m
  exact ⟨_, rd_tup_of l e⟩
theorem r0_fl {f : Nat} {xs : List PV} (l : xs.length ≤ 100000) (m : ∀ x ∈ xs, R0 f x) : R0 (f + 1) (.fl xs) := by
  obtain ⟨ds, e⟩ := allD_of m
  refine ⟨.list ds, ?_⟩
  show (rdL (MP.rd [] f) xs).map PyData.list = _
  rw [rdL_of l e]
  rfl
theorem r0_tupI {f : Nat} {xs : List PV} (r : R0 (f + 1) (.tup xs)) : xs.length ≤ 100000 ∧ ∀ x ∈ xs, R0 f x := by
  obtain ⟨d, e⟩ := r
  obtain ⟨ds, _, l, e2⟩ := rd_tup e
  exact ⟨l, fun x hx => by
    obtain ⟨d, _, q⟩ := allD_mem e2 hx
    exact ⟨d, q⟩⟩
theorem r0_flI {f : Nat} {xs : List PV} (r : R0 (f + 1) (.fl xs)) : xs.length ≤ 100000 ∧ ∀ x ∈ xs, R0 f x := by
  obtain ⟨d, e⟩ := r
  have e' : (rdL (MP.rd [] f) xs).map PyData.list = some d := e
  obtain ⟨ds, e1, _⟩ := Option.map_eq_some_iff.mp e'
  obtain ⟨l, e1⟩ := rdL_ok e1
  exact ⟨l, fun x hx => by
    obtain ⟨d, _, q⟩ := allD_mem e1 hx
    exact ⟨d, q⟩⟩
theorem r0_ref {f n : Nat} : ¬ R0 f (.ref n) := by
  rintro ⟨d, e⟩
  cases f <;> cases e
theorem r0_exc {f : Nat} {c : Str} {v : PV} : ¬ R0 f (.exc c v) := by
  rintro ⟨d, e⟩
  cases f <;> cases e
theorem fz_r0 {n : Nat} {h : PHeap} : ∀ {f : Nat} {v : PV}, R0 f v → Fz n h v v := by
  intro f
  induction f with
  | zero =>
    intro v r
    cases v with
    | non => exact .non
    | bl b => exact .bl b
    | int i => exact .int i
    | str s => exact .str s
    | tup xs => obtain ⟨d, e⟩ := r; cases e
    | fl xs => obtain ⟨d, e⟩ := r; cases e
    | ref n => exact absurd r r0_ref
    | exc c v => exact absurd r r0_exc
  | succ f ih =>
    have all : ∀ xs : List PV, (∀ x ∈ xs, R0 f x) → Fzs n h xs xs := by
      intro xs
      induction xs with
      | nil => intro _; exact .nil
      | cons x xs ihx => intro m; exact .cons (ih (m x List.mem_cons_self)) (ihx fun y hy => m y (List.mem_cons_of_mem _ hy))
    intro v r
    cases v with
    | non => exact .non
    | bl b => exact .bl b
    | int i => exact .int i
    | str s => exact .str s
    | tup xs => exact .tup (all xs (r0_tupI r).2)
    | fl xs => exact .fl (all xs (r0_flI r).2)
    | ref n => exact absurd r r0_ref
    | exc c v => exact absurd r r0_exc
theorem fzs_r0 {n : Nat} {h : PHeap} {f : Nat} : ∀ {xs : List PV}, (∀ x ∈ xs, R0 f x) → Fzs n h xs xs
  | [], _ => .nil
  | x :: xs, m => .cons (fz_r0 (m x List.mem_cons_self)) (fzs_r0 fun y hy => m y (List.mem_cons_of_mem _ hy))
/-- the pot alone is changed, behind it lie new cells -/
theorem clo_pot {p n : Nat} {h h' t : PHeap} (e : Pe p h h') (P : Pot h' p n) : Clo h (h' ++ t) := by
  refine ⟨by rw [List.length_append, e.len]; omega, fun i c l ec => ?_⟩
  rw [List.getElem?_append_left (by rw [e.len]; exact l)] at ec
  by_cases hp : i = p
  · subst hp
    right
    obtain ⟨xs, e2, r⟩ := P
    rw [e2] at ec
    cases ec
    exact PotK.old r _ _
  · left
    rw [e.get hp] at ec
    exact ec
/-- the end of a def that made cells: what it hands back is a value -/
theorem fzQ_pot {p n f : Nat} {h h' t : PHeap} {Q : PQ} {x y : PV} (e : Pe p h h') (P : Pot h' p n) (z : Fz h.length (h' ++ t) x y) (k : Q y h') : fzQ h Q x (h' ++ t) := by
  refine ⟨y, z, clo_pot e P, ?_⟩
  rw [← e.len, List.take_left]
  exact k
theorem fzQ_id {f : Nat} {h t : PHeap} {Q : PQ} {x y : PV} (z : Fz h.length (h ++ t) x y) (k : Q y h) : fzQ h Q x (h ++ t) := by
  refine ⟨y, z, ⟨by rw [List.length_append]; omega, fun i c l ec => ?_⟩, ?_⟩
  · rw [List.getElem?_append_left l] at ec
    exact .inl ec
  · rw [List.take_left]
    exact k
end MP
set_option maxHeartbeats 4000000
/-! MP18b: small general lemmas (first written for k04's words). -/
namespace MP
open PySem L2 TL
variable [PotK]
theorem pC_of {v : PV} {τ : PSt} {h : PHeap} {Q : PQ} {E : PXQ} (k : Q v h) : pC v τ h Q E := k
theorem cutto_of {v : PV} {i : Int} {τ : PSt} {h : PHeap} {Q : PQ} {E : PXQ} (k : rCutV v none (some i) h Q) : pNoPart τ h (fun l h2 => pPart (pC (.int i)) τ h2 (fun u h3 => rCutV v l u h3 Q) E) E := k
theorem cutfrom_of {v : PV} {i : Int} {τ : PSt} {h : PHeap} {Q : PQ} {E : PXQ} (k : rCutV v (some i) none h Q) : pPart (pC (.int i)) τ h (fun l h2 => pNoPart τ h2 (fun u h3 => rCutV v l u h3 Q) E) E := k
theorem fz_of {t : PTA} {τ : PSt} {h : PHeap} {Q : PQ} {E : PXQ} (k : t τ h (fun vs h1 => Q (.fl vs) h1) E) : pFz t τ h Q E := k
/-- a comprehension that keeps some of its items -/
theorem lc_filt {i : Nat} {tt : PTT} {te : PTE} {ok : PHeap → Prop} {τ0 : PSt} {Q : List PV → PHeap → Prop} (f : PV → Bool) {xs : List PV} {h : PHeap} (hl : xs.length ≤ 100000) (hok : ok h)
    (ht : ∀ x ∈ xs, ∀ Q : Bool → PHeap → Prop, Q (f x) h → tt (τ0.set i (some x)) h Q F0) (he : ∀ x ∈ xs, ∀ Q : PQ, Q x h → te (τ0.set i (some x)) h Q F0) (q : Q (xs.filter f) h) : lcGo (.nm i) tt te ok τ0 xs [] h Q := by
  refine lcGo_inv (fun k acc h' => h' = h ∧ acc = (xs.take k).filter f) xs (fun k acc h' z => by rw [z.1]; exact hok) (fun acc h' z => ?_) (fun k x acc h' N ek z n => ?_) h ⟨rfl, by simp⟩
  · obtain ⟨rfl, rfl⟩ := z
    rw [List.take_length]
    exact q
  · obtain ⟨rfl, rfl⟩ := z
    have hx := List.mem_of_getElem? ek
    have lk := (List.getElem?_eq_some_iff.mp ek).1
    have e2 : xs.take (k + 1) = xs.take k ++ [x] := by
      rw [List.take_add_one, ek]
      rfl
    refine ⟨_, rfl, ht x hx _ ?_⟩
    cases hf : f x with
    | true =>
      rw [if_pos rfl]
      refine he x hx _ ⟨?_, n _ _ ⟨rfl, by rw [e2, List.filter_append, List.filter_cons, hf]; rfl⟩⟩
      have := List.length_filter_le f (xs.take k)
      rw [List.length_take] at this
      rw [sizeLine_eq]
      omega
    | false =>
      rw [if_neg Bool.false_ne_true]
      exact n _ _ ⟨rfl, by rw [e2, List.filter_append, List.filter_cons, hf]; simp⟩
theorem any_strs' (ss : List Str) (a : Str) (l : ss.length ≤ 100000) {h : PHeap} {y : PV} (e : itemsOf h y = some (ss.map .str)) : inP h (.str a) y = some (ss.any (· == a)) := by
  have ny : ∀ b, y ≠ .str b := fun b z => by subst z; cases e
  unfold inP
  split
  · rename_i b c
    exact absurd rfl (ny _)
  · rw [e]
    show (match rd h 64 (.str a), allD (rd h 63) (ss.map .str) with
      | some d, some ds => some (ds.any fun z => PyData.eqv z d)
      | _, _ => none) = _
    rw [allD_strs, rd_str', ← any_strs]
theorem e_notin_sl {ss : List Str} {a : Str} (l : ss.length ≤ 100000) {h : PHeap} {Q : PQ} {y : PV} (e : itemsOf h y = some (ss.map .str)) : rNotInP (.str a) y h Q = Q (.bl (!ss.any (· == a))) h := by
  unfold rNotInP
  rw [any_strs' ss a l e]
theorem e_in_sl {ss : List Str} {a : Str} (l : ss.length ≤ 100000) {h : PHeap} {Q : PQ} {y : PV} (e : itemsOf h y = some (ss.map .str)) : rInP (.str a) y h Q = Q (.bl (ss.any (· == a))) h := by
  unfold rInP
  rw [any_strs' ss a l e]
/-- of unlike things more than there are of others, one is none of these -/
theorem pigeon {α : Type} [DecidableEq α] : ∀ (f L : List α), L.Nodup → f.length < L.length → ∃ x, x ∈ L ∧ x ∉ f
  | [], L, _, h => by
    cases L with
    | nil => cases h
    | cons x L => exact ⟨x, List.mem_cons_self, List.not_mem_nil⟩
  | a :: f, L, nd, h => by
    have l1 : L.length - 1 ≤ (L.erase a).length := by
      rw [List.length_erase]
      split <;> omega
    obtain ⟨x, hx, nx⟩ := pigeon f (L.erase a) (nd.erase a) (by simp only [List.length_cons] at h; omega)
    refine ⟨x, List.mem_of_mem_erase hx, fun hm => ?_⟩
    rcases List.mem_cons.mp hm with e | e
    · subst e
      exact absurd hx nd.not_mem_erase
    · exact nx e
theorem fzs_strs {n : Nat} {h : PHeap} : ∀ ss : List Str, Fzs n h (ss.map .str) (ss.map .str)
  | [] => .nil
  | s :: ss => .cons (.str s) (fzs_strs ss)
theorem e_ne_nil {h : PHeap} {Q : PQ} {q : Nat} {ss : List Str} (e : h[q]? = some (.lst (ss.map .str))) (l : ss.length ≤ 100000) : rNeP (.ref q) (.fl []) h Q = Q (.bl (!ss.isEmpty)) h := by
  rw [e_ne (rd_ref_of e (by simpa using l) (allD_strs ss)) (show rd h 64 (.fl []) = some (.list []) from rfl)]
  cases ss with
  | nil => rfl
  | cons s ss => simp [PyData.eqv, PyData.eqvAll]
end MP
set_option maxHeartbeats 4000000
/-! MP19: values of expressions and tests, whatever stands: rules by construct. -/
namespace MP
open PySem L2 TL
variable [PotK]
/-- a test's outcome, whatever stands -/
def Tv (t : PTT) (τ : PSt) (b : Bool) : Prop := ∀ (h : PHeap) (Q : Bool → PHeap → Prop) (E : PXQ), Q b h → t τ h Q E
/-- a promise gives this value, whatever stands -/
def Pf (sp : PSp) (vs : List PV) (v : PV) : Prop := ∀ (h : PHeap) (Q : PQ) (E : PXQ), Q v h → sp vs h Q E
section
variable {e f e2 : PTE} {a : PTA} {t t2 : PTT} {τ : PSt} {u v w : PV} {b b1 b2 : Bool} {i : Nat} {h : PHeap} {Q : PQ} {E : PXQ} {D : PD} {s s2 : PTS} {sp : PSp}
theorem pv_run (x : Pv e τ v) (k : Q v h) : e τ h Q E := x h Q E k
theorem tv_run {Q : Bool → PHeap → Prop} (x : Tv t τ b) (k : Q b h) : t τ h Q E := x h Q E k
theorem pv_op {r : POp} (x : Pv e τ u) (y : Pv f τ v) (z : ∀ h Q, r u v h Q = Q w h) : Pv (pOp r e f) τ w := fun h Q E q => x h _ E (y h _ E (by rw [z]; exact q))
theorem pv_un {r : PUn} (x : Pv e τ u) (z : ∀ h Q, r u h Q = Q w h) : Pv (pUn r e) τ w := fun h Q E q => x h _ E (by rw [z]; exact q)
theorem pv_cb {r : PCb} {vs : List PV} (x : PvA a τ vs) (z : ∀ h Q, r vs h Q = Q w h) : Pv (pCB r a) τ w := fun h Q E q => x h _ E (by rw [z]; exact q)
theorem pv_ct {r : PCb} {vs : List PV} (x : PvA a τ vs) (z : ∀ h Q, r vs h Q = Q w h) : Pv (pCT r a) τ w := fun h Q E q => x h _ E (by rw [z]; exact q)
theorem pv_op' {r : POp} (x : Pv e τ u) (y : Pv f τ v) (z : ∀ h Q, Q w h → r u v h Q) : Pv (pOp r e f) τ w := fun h Q E q => x h _ E (y h _ E (z _ _ q))
theorem pv_un' {r : PUn} (x : Pv e τ u) (z : ∀ h Q, Q w h → r u h Q) : Pv (pUn r e) τ w := fun h Q E q => x h _ E (z _ _ q)
theorem pv_cb' {r : PCb} {vs : List PV} (x : PvA a τ vs) (z : ∀ h Q, Q w h → r vs h Q) : Pv (pCB r a) τ w := fun h Q E q => x h _ E (z _ _ q)
theorem pv_call {n : Nat} {vs : List PV} (x : PvA a τ vs) (l : vs.length = n) (z : Pf sp vs w) : Pv (pCall (gd n sp) a) τ w := fun h Q E q => x h _ E ⟨l, z h Q E q⟩
theorem pv_call1 (x : Pv e τ v) (z : Pf sp [v] w) : Pv (pCall (gd 1 sp) (pCons e pNil)) τ w := pv_call (pva_cons x pva_nil) rfl z
theorem pv_call2 (x : Pv e τ v) (y : Pv f τ u) (z : Pf sp [v, u] w) : Pv (pCall (gd 2 sp) (pCons e (pCons f pNil))) τ w := pv_call (pva_cons x (pva_cons y pva_nil)) rfl z
theorem pv_call3 (x : Pv e τ v) (y : Pv f τ u) {y3 : PV} (x3 : Pv e2 τ y3) (z : Pf sp [v, u, y3] w) : Pv (pCall (gd 3 sp) (pCons e (pCons f (pCons e2 pNil)))) τ w := pv_call (pva_cons x (pva_cons y (pva_cons x3 pva_nil))) rfl z
theorem pv_and (x : Pv e τ (.bl b1)) (y : b1 = true → Pv f τ (.bl b2)) : Pv (pAndV e f) τ (.bl (b1 && b2)) := fun h Q E q => x h _ E (by
  cases b1 with
  | true => exact y rfl h Q E q
  | false => exact q)
theorem pv_or (x : Pv e τ (.bl b1)) (y : b1 = false → Pv f τ (.bl b2)) : Pv (pOrV e f) τ (.bl (b1 || b2)) := fun h Q E q => x h _ E (by
  cases b1 with
  | false => exact y rfl h Q E q
  | true => exact q)
theorem pv_notV (x : Pv e τ (.bl b)) : Pv (pNotV e) τ (.bl (!b)) := fun h Q E q => x h _ E q
theorem pv_if (x : Tv t τ b) (y : b = true → Pv e τ v) (z : b = false → Pv f τ v) : Pv (pIf t e f) τ v := fun h Q E q => x h _ E (by
  cases b with
  | true => exact y rfl h Q E q
  | false => exact z rfl h Q E q)
theorem pv_ixT {n : Int} {vs : List PV} (x : PvA a τ vs) (y : Pv f τ (.int n)) (z : L2.atI vs n = some w) : Pv (pIxT MP.rIxT a f) τ w := fun h Q E q => x h _ E (y h _ E (by rw [e_ixT, z]; exact q))
theorem pv_ix {n : Int} {vs : List PV} (x : Pv e τ v) (hv : v = .tup vs ∨ v = .fl vs) (y : Pv f τ (.int n)) (z : L2.atI vs n = some w) : Pv (pOp MP.rIx e f) τ w := fun h Q E q => x h _ E (y h _ E (by
  rcases hv with rfl | rfl
  · rw [e_ix_t, z]; exact q
  · rw [e_ix_f, z]; exact q))
theorem pv_ixS {n : Int} {s : Str} {c : Nat} (x : Pv e τ (.str s)) (y : Pv f τ (.int n)) (z : L2.atI (tl s) n = some c) : Pv (pOp MP.rIx e f) τ (.str ⟨#[c]⟩) := fun h Q E q => x h _ E (y h _ E (by
  have z' : L2.atI s.cps.toList n = some c := z
  rw [e_ix_s, z']; exact q))
theorem pv_cutV {lo hi : Option Int} {pl ph : PTO} (x : Pv e τ u) (hl : ∀ (h : PHeap) (Q : Option Int → PHeap → Prop) (E : PXQ), Q lo h → pl τ h Q E) (hh : ∀ (h : PHeap) (Q : Option Int → PHeap → Prop) (E : PXQ), Q hi h → ph τ h Q E) (z : ∀ h Q, rCutV u lo hi h Q = Q w h) : Pv (pSliceV e pl ph) τ w :=
  fun h Q E q => x h _ E (hl h _ E (hh h _ E (by rw [z]; exact q)))
theorem po_no : ∀ (h : PHeap) (Q : Option Int → PHeap → Prop) (E : PXQ), Q none h → pNoPart τ h Q E := fun _ _ _ q => q
theorem po_at {n : Int} (x : Pv e τ (.int n)) : ∀ (h : PHeap) (Q : Option Int → PHeap → Prop) (E : PXQ), Q (some n) h → pPart e τ h Q E := fun h Q E q => x h _ E q
/-! chains of ints -/
theorem pv_chain {r r' : POp} {g : PTE} {x3 : PV} (x : Pv e τ u) (y : Pv f τ v) (z : Pv g τ x3) (z1 : ∀ h Q, r u v h Q = Q (.bl b1) h) (z2 : ∀ h Q, r' v x3 h Q = Q (.bl b2) h) : Pv (pChain r r' e f g) τ (.bl (b1 && b2)) := fun h Q E q => x h _ E (y h _ E (by
  rw [z1]
  cases b1 with
  | true => exact z h _ E (by rw [z2]; exact q)
  | false => exact q))
/-! tests -/
theorem tv_b (x : Pv e τ (.bl b)) : Tv (pB e) τ b := fun h Q E q => x h _ E q
theorem tv_t (x : Pv e τ (.bl b)) : Tv (pT e) τ b := fun h Q E q => x h _ E q
theorem tv_not (x : Tv t τ b) : Tv (pNot t) τ (!b) := fun h Q E q => x h _ E q
theorem tv_and (x : Tv t τ b1) (y : b1 = true → Tv t2 τ b2) : Tv (pAnd t t2) τ (b1 && b2) := fun h Q E q => x h _ E (by
  cases b1 with
  | true => exact y rfl h Q E q
  | false => exact q)
theorem tv_or (x : Tv t τ b1) (y : b1 = false → Tv t2 τ b2) : Tv (pOr t t2) τ (b1 || b2) := fun h Q E q => x h _ E (by
  cases b1 with
  | false => exact y rfl h Q E q
  | true => exact q)
theorem tv_cong (x : Tv t τ b1) (e : b1 = b) : Tv t τ b := e ▸ x
/-! statements -/
theorem sq_asg (x : Pv e τ v) (k : s D (τ.set i (some v)) h) : pSeq (pAsg e (.nm i)) s D τ h := x h _ _ k
theorem sq_ifT {s1 : PTS} (x : Tv t τ true) (k : s1 { D with nx := s D } τ h) : pSeq (pIfS t s1 s2) s D τ h := x h _ _ k
theorem sq_ifF {s1 : PTS} (x : Tv t τ false) (k : s D τ h) : pSeq (pIfS t s1 pNext) s D τ h := x h _ _ k
theorem sq_ifF' {s1 : PTS} (x : Tv t τ false) (k : s2 { D with nx := s D } τ h) : pSeq (pIfS t s1 s2) s D τ h := x h _ _ k
theorem st_ifT {s1 : PTS} (x : Tv t τ true) (k : s1 D τ h) : pIfS t s1 s2 D τ h := x h _ _ k
theorem st_ifF {s1 : PTS} (x : Tv t τ false) (k : s2 D τ h) : pIfS t s1 s2 D τ h := x h _ _ k
theorem st_asg (x : Pv e τ v) (k : D.nx (τ.set i (some v)) h) : pAsg e (.nm i) D τ h := x h _ _ k
theorem st_rt (x : Pv e τ v) (k : D.rt v h) : pRet e D τ h := x h _ _ k
theorem sq_drop (x : Pv e τ v) (k : s D τ h) : pSeq (pDrop e) s D τ h := x h _ _ k
theorem st_raise {c : Str} (x : Pv e τ v) (k : D.ex c v τ h) : pRaise c e D τ h := x h _ _ k
/-- a draw in a statement -/
theorem sq_asgG {p w n : Nat} {T : PV → Prop} (g : Ge p w e τ T) (P : Pot h p (n + w)) (k : ∀ v h', T v → Pot h' p n → Pe p h h' → s D (τ.set i (some v)) h') : pSeq (pAsg e (.nm i)) s D τ h := g h n _ _ P k
theorem st_rtG {p w n : Nat} {T : PV → Prop} (g : Ge p w e τ T) (P : Pot h p (n + w)) (k : ∀ v h', T v → Pot h' p n → Pe p h h' → D.rt v h') : pRet e D τ h := g h n _ _ P k
/-! all -/
theorem pv_allV {is : List Nat} {xs : List PV} {g : PV → Bool} (x : Pv e τ (.tup xs) ∨ Pv e τ (.fl xs)) (hl : xs.length ≤ 100000) (st : ∀ y ∈ xs, Pv f ((pwipe τ is).set i (some y)) (.bl (g y))) : Pv (pCT MP.rAllI (pLc (pIter e) (.nm i) pYes f is)) τ (.bl (xs.all g)) := fun h Q E q => by
  have fin : ∀ ok : PHeap → Prop, ok h → lcGo (.nm i) pYes f ok (pwipe τ is) xs [] h (fun vs h1 => MP.rAllI vs h1 Q) := fun ok hok => by
    refine lc_items (fun y => .bl (g y)) hl hok (fun y hy Q' q' => st y hy h Q' _ q') ?_
    rw [all_vals]
    exact q
  rcases x with x | x
  · exact x h _ E (fin _ trivial)
  · exact x h _ E (fin _ trivial)
theorem pv_allS {is : List Nat} {s : Str} {g : Nat → Bool} (x : Pv e τ (.str s)) (hl : s.length ≤ sizeLine) (st : ∀ c ∈ tl s, Pv f ((pwipe τ is).set i (some (.str ⟨#[c]⟩))) (.bl (g c))) : Pv (pCT MP.rAllI (pLc (pIter e) (.nm i) pYes f is)) τ (.bl ((tl s).all g)) := fun h Q E q => by
  refine x h _ E (lc_chars (fun c => .bl (g c)) hl trivial (fun c hc Q' q' => st c hc h Q' _ q') ?_)
  rw [all_vals]
  exact q
theorem pv_allR {is : List Nat} {n : Nat} {g : Nat → Bool} (x : Pv e τ (.int n)) (hn : n ≤ 100000) (st : ∀ k, k < n → Pv f ((pwipe τ is).set i (some (.int k))) (.bl (g k))) : Pv (pCT MP.rAllI (pLc (pRng1 e) (.nm i) pYes f is)) τ (.bl ((List.range n).all g)) := fun h Q E q => by
  refine x h _ E ⟨by omega, by omega, ?_⟩
  rw [Int.toNat_natCast]
  refine lc_rng (fun k => .bl (g k)) (by rw [sizeLine_eq]; omega) trivial (fun k hk Q' q' => ?_) ?_
  · rw [show (0 : Int) + (k : Nat) = (k : Nat) by omega]
    exact st k hk h Q' _ q'
  · rw [all_vals]
    exact q
/-- all over range(lo, hi) -/
theorem pv_allR2 {is : List Nat} {lo n : Nat} {g : Nat → Bool} (x : Pv e τ (.int lo)) (y : Pv e2 τ (.int (lo + n : Nat))) (hn : lo + n ≤ 100000) (st : ∀ k, k < n → Pv f ((pwipe τ is).set i (some (.int (lo + k : Nat)))) (.bl (g k))) : Pv (pCT MP.rAllI (pLc (pRng2 e e2) (.nm i) pYes f is)) τ (.bl ((List.range n).all g)) := fun h Q E q => by
  refine x h _ E (y h _ E ⟨⟨by omega, by omega, by omega, by omega⟩, ?_⟩)
  rw [show (((lo + n : Nat) : Int) - (lo : Nat)).toNat = n by omega]
  refine lc_rng (fun k => .bl (g k)) (by rw [sizeLine_eq]; omega) trivial (fun k hk Q' q' => ?_) ?_
  · rw [show ((lo : Nat) : Int) + (k : Nat) = ((lo + k : Nat) : Int) by omega]
    exact st k hk h Q' _ q'
  · rw [all_vals]
    exact q
/-- a comprehension of values -/
theorem pva_map {is : List Nat} {xs : List PV} {g : PV → PV} (x : Pv e τ (.tup xs) ∨ Pv e τ (.fl xs)) (hl : xs.length ≤ 100000) (st : ∀ y ∈ xs, Pv f ((pwipe τ is).set i (some y)) (g y)) : PvA (pLc (pIter e) (.nm i) pYes f is) τ (xs.map g) := fun h Q E q => by
  have fin : ∀ ok : PHeap → Prop, ok h → lcGo (.nm i) pYes f ok (pwipe τ is) xs [] h Q := fun ok hok => lc_items g hl hok (fun y hy Q' q' => st y hy h Q' _ q') q
  rcases x with x | x
  · exact x h _ E (fin _ trivial)
  · exact x h _ E (fin _ trivial)
/-! the same -/
theorem eqv_same {h : PHeap} {f1 f2 : Nat} {x y : PV} {d : PyData} (hx : rd h f1 x = some d) (hy : rd h f2 y = some d) (l1 : f1 ≤ 64) (l2 : f2 ≤ 64) : rEqP x y h Q = Q (.bl true) h := e_eq_rd l1 l2 hx hy
end
end MP
set_option maxHeartbeats 4000000
/-! MP20: repr; general lemmas of the plain part (first written for k04). -/
namespace MP
open PySem PySem.Spec PyProof.Rows L2 TL
section
/-- repr of an int no less than 0, of True, False, None -/
def reprOf : PV → Str
  | .int i => Str.ofString (toString i)
  | .bl b => if b then Str.ofString "True" else Str.ofString "False"
  | _ => Str.ofString "None"
def reprOk : PV → Prop
  | .int i => 0 ≤ i ∧ i < 10 ^ 300
  | .bl _ => True
  | .non => True
  | _ => False
def rRepr : PCb := fun vs h Q => match vs with
  | [v] => reprOk v ∧ Q (.str (reprOf v)) h
  | _ => False
theorem e_repr {v : PV} {h : PHeap} {Q : PQ} : rRepr [v] h Q = (reprOk v ∧ Q (.str (reprOf v)) h) := rfl
/-- is True, is False: of truth values -/
def rIsB : POp := fun x y h Q => match x, y with
  | .bl a, .bl b => Q (.bl (a == b)) h
  | _, _ => False
def rIsNotB : POp := fun x y h Q => match x, y with
  | .bl a, .bl b => Q (.bl (!(a == b))) h
  | _, _ => False
theorem bool_beq (a b : Bool) : (Value.bool a == Value.bool b) = (a == b) := by cases a <;> cases b <;> rfl
theorem mo_isB {X : Cx} : OpR X (compareOp .Is) (lR (gX X) rIsB) := by
  intro pins s σ H x y v u Q I rx ry hh
  obtain ⟨ρ, h, a, b, Qp, R, r1, r2, hp, k⟩ := hh
  unfold rIsB at hp
  split at hp
  · rename_i a b
    cases r1
    cases r2
    cases rx
    cases ry
    exact wpAny_is_plain (by cases a <;> cases b <;> rfl) (fin_bl I (k ρ H h _ _ .refl R (.bl _) hp) (bool_beq a b).symm)
  · exact hp.elim
theorem mo_isNotB {X : Cx} : OpR X (compareOp .IsNot) (lR (gX X) rIsNotB) := by
  intro pins s σ H x y v u Q I rx ry hh
  obtain ⟨ρ, h, a, b, Qp, R, r1, r2, hp, k⟩ := hh
  unfold rIsNotB at hp
  split at hp
  · rename_i a b
    cases r1
    cases r2
    cases rx
    cases ry
    exact wpAny_isNot_plain (by cases a <;> cases b <;> rfl) (fin_bl I (k ρ H h _ _ .refl R (.bl _) hp) (by rw [bool_beq a b]))
  · exact hp.elim
theorem mc_repr {X : Cx} : CallR X (.builtin "repr") (lC (gX X) rRepr) := by
  intro pins s σ H vs us Q I rr hh
  obtain ⟨ρ, h, xs, Qp, R, r1, hp, k⟩ := hh
  unfold rRepr at hp
  split at hp
  · rename_i x
    obtain ⟨v, e, r⟩ := one_rv r1
    subst e
    obtain ⟨o, q⟩ := hp
    obtain ⟨u, rfl, ru⟩ := vals1 rr
    cases r with
    | int i =>
      obtain ⟨h0, h1⟩ := o
      obtain ⟨n, rfl⟩ : ∃ n : Nat, i = n := ⟨i.toNat, by omega⟩
      have hn : n < 10 ^ 300 := by
        have : ((n : Nat) : Int) < ((10 ^ 300 : Nat) : Int) := by simpa using h1
        exact Int.ofNat_lt.mp this
      have hlog : (n : Int).natAbs.log2 < 1920 := by
        rw [Int.natAbs_natCast]
        by_cases z : n = 0
        · subst z; decide
        · have : n < 2 ^ 1000 := Nat.lt_of_lt_of_le hn (by decide)
          have := (Nat.log2_lt z).mpr this
          omega
      obtain ⟨t, rfl⟩ := ru
      exact PySem.P.repr_of_int hlog ⟨.str _, H, I.tok _, ⟨_, rfl⟩, k ρ H h _ _ .refl R (.str (numL_ok hn)) q⟩
    | bl b =>
      cases ru
      exact PySem.P.repr_of_bool ⟨.str _, H, I.tok _, ⟨_, rfl⟩, k ρ H h _ _ .refl R (.str (by cases b <;> exact okS_b (by decide +kernel))) q⟩
    | non =>
      cases ru
      exact PySem.P.repr_of_none ⟨.str _, H, I.tok _, ⟨_, rfl⟩, k ρ H h _ _ .refl R (.str (okS_b (by decide +kernel))) q⟩
    | _ => exact o.elim
  · exact hp.elim

end
variable [PotK]
section
section
variable {p w w' n : Nat} {e b : PTE} {a : PTA} {τ : PSt} {T : PV → Prop} {i : Nat}
theorem gea_nil' : GeA p 0 pNil τ (fun vs => vs.length = 0 ∧ ∀ v ∈ vs, T v) := gea_pv pva_nil ⟨rfl, fun v hv => absurd hv List.not_mem_nil⟩
theorem gea_cons' (x : Ge p w e τ T) (y : GeA p w' a τ (fun vs => vs.length = n ∧ ∀ v ∈ vs, T v)) : GeA p (w + w') (pCons e a) τ (fun vs => vs.length = n + 1 ∧ ∀ v ∈ vs, T v) :=
  gea_imp (gea_cons x y) fun vs ⟨v, us, e, tv, l, m⟩ => by
    subst e
    refine ⟨by rw [List.length_cons, l], fun u hu => ?_⟩
    rcases List.mem_cons.mp hu with z | z
    · rw [z]; exact tv
    · exact m u z
theorem gea_tmp' (y : GeA p w a τ (fun vs => vs.length = n ∧ ∀ v ∈ vs, T v)) (hn : n ≤ 100000 := by decide) : GeA p w (pTmp a) τ (fun vs => vs.length = n ∧ ∀ v ∈ vs, T v) := gea_tmp y fun vs h => by rw [h.1]; exact hn
theorem inI_up {m k : Int} {v : PV} (h : InI 0 m v) (l : m ≤ k) : InI 0 k v := by
  obtain ⟨i, e, h0, h1⟩ := h
  exact ⟨i, e, h0, by omega⟩
theorem pv_addF {f : PTE} {xs ys : List PV} (x : Pv e τ (.fl xs)) (y : Pv f τ (.fl ys)) (l : xs.length + ys.length ≤ 100000) : Pv (pOp rAddV e f) τ (.fl (xs ++ ys)) := fun h Q E q => x h _ E (y h _ E ⟨by rw [sizeLine_eq]; omega, q⟩)
theorem pv_addT {f : PTE} {xs ys : List PV} (x : Pv e τ (.tup xs)) (y : Pv f τ (.tup ys)) (l : xs.length + ys.length ≤ 100000) : Pv (pOp rAddV e f) τ (.tup (xs ++ ys)) := fun h Q E q => x h _ E (y h _ E ⟨by rw [sizeLine_eq]; omega, q⟩)
theorem ge_pick {xs : List PV} {d : Nat} (x : Pv e τ (.fl xs)) (hx : xs.all (fun v => (rd [] d v).isSome) = true) (y : Ge p w b τ (InI 0 xs.length)) : Ge p w (pOp MP.rIx e b) τ (fun v => v ∈ xs ∧ R0 d v) := fun h n Q E P k =>
  x h _ E (y h n _ E P fun v h2 ⟨j, ev, j0, j1⟩ P2 e2 => by
    subst ev
    show MP.rIx (.fl xs) (.int j) h2 Q
    have hj : j.toNat < xs.length := by omega
    rw [e_ix_f, atI_pos j0, List.getElem?_eq_getElem hj]
    refine k _ h2 ⟨List.getElem_mem hj, ?_⟩ P2 e2
    exact Option.isSome_iff_exists.mp (List.all_eq_true.mp hx _ (List.getElem_mem hj)))
end
end
section
theorem new_run {a : PTA} {τ : PSt} {vs : List PV} {h : PHeap} {Q : PQ} {E : PXQ} (x : PvA a τ vs) (l : vs.length ≤ 100000) (k : Q (.ref h.length) (h ++ [.lst vs])) : pNew (pTmp a) τ h Q E := x h _ E ⟨by rw [sizeLine_eq]; omega, k⟩
theorem ge_addT {p w w' : Nat} {e f : PTE} {τ : PSt} {U V : List PV → Prop} (x : Ge p w e τ (fun v => ∃ xs, v = .tup xs ∧ U xs)) (y : Ge p w' f τ (fun v => ∃ xs, v = .tup xs ∧ V xs)) (l : ∀ xs ys, U xs → V ys → xs.length + ys.length ≤ 100000) : Ge p (w + w') (pOp rAddV e f) τ (fun v => ∃ xs ys, v = .tup (xs ++ ys) ∧ U xs ∧ V ys) := fun h n Q E P k =>
  x h (n + w') _ E (P.le (by omega)) fun v h1 ⟨xs, e1, ux⟩ P1 E1 => y h1 n _ E P1 fun u h2 ⟨ys, e2, vy⟩ P2 E2 => by
    subst e1 e2
    have := l xs ys ux vy
    show rAddV (.tup xs) (.tup ys) h2 Q
    rw [e_addV_tt]
    exact ⟨by rw [sizeLine_eq]; omega, k _ h2 ⟨xs, ys, rfl, ux, vy⟩ P2 (E1.trans E2)⟩
/-- a list that is being made gets one more item -/
theorem st_append {p w n i : Nat} {e : PTE} {τ : PSt} {T : PV → Prop} {h : PHeap} {xs : List PV} {D : PD} (hτ : τ[i]? = some (some (.ref h.length))) (g : Ge p w e τ T) (P : Pot h p (n + w)) (lx : xs.length ≤ 100000)
    (k : ∀ v h', T v → Pot h' p n → Pe p h h' → D.nx τ (h' ++ [.lst (xs ++ [v])])) : pDrop (pMtT "list" MP.rAppend (pVar i) (pCons e pNil)) D τ (h ++ [.lst xs]) := by
  have lp := P.lt
  refine (pv_var hτ rfl : Pv (pVar i) τ (.ref h.length)) (h ++ [.lst xs]) (fun x h1 => tyOf h1 x = some "list" ∧ pCons e pNil τ h1 (fun vs h2 => MP.rAppend x vs h2 (fun _ h1 => D.nx τ h1)) (fun c v h1 => D.ex c v τ h1)) (fun c v h1 => D.ex c v τ h1) ⟨by rw [ty_r, List.getElem?_concat_length], ?_⟩
  refine g _ n _ _ (P.app _) fun v h3 tv P3 F3 => ?_
  obtain ⟨h', rfl, E3⟩ := F3.un lp
  have P3 := P3.un (by rw [E3.len]; exact lp)
  have l3 : h.length = h'.length := E3.len.symm
  have key : MP.rAppend (.ref h.length) [v] (h' ++ [.lst xs]) fun _ h1 => D.nx τ h1 := by
    rw [l3, e_app, List.getElem?_concat_length]
    refine ⟨by rw [sizeLine_eq]; omega, ?_⟩
    rw [List.set_append_right _ _ (Nat.le_refl _), Nat.sub_self]
    exact k v h' tv P3 E3
  exact key
end
section
theorem pv_callK0 {k m : Nat} {perm : List Nat} {sp : PSp} {tk : PTA} {τ : PSt} {zs : List PV} {w : PV} (y : PvA tk τ zs) (l2 : zs.length = m) (l3 : (pick perm zs).length = k) (z : Pf sp (pick perm zs) w) : Pv (pCallK (gd k sp) 0 m perm pNil tk) τ w := fun h Q E q => y h _ E ⟨rfl, l2, l3, z h Q E q⟩
theorem and_run {t t2 : PTT} {τ : PSt} {h : PHeap} {Q : Bool → PHeap → Prop} {E : PXQ} (x : Tv t τ true) (k : t2 τ h Q E) : pAnd t t2 τ h Q E := x h _ E k
theorem eqI_run {e : PTE} {τ : PSt} {h : PHeap} {Q : Bool → PHeap → Prop} {E : PXQ} {p w n : Nat} {a b m : Int} (g : Ge p w e τ (InI a b)) (P : Pot h p (n + w)) (k : ∀ i h', a ≤ i → i < b → Pot h' p n → Pe p h h' → Q (decide (i = m)) h') : pB (pOp rEqP e (pC (.int m))) τ h Q E := by
  refine g h n _ _ P fun v h' hv P' e' => ?_
  obtain ⟨i, rfl, h0, h1⟩ := hv
  have : rEqP (.int i) (.int m) h' (fun x h1 => match x with
    | .bl b => Q b h1
    | _ => False) := by
    rw [e_eq_ii]
    exact k i h' h0 h1 P' e'
  exact this
theorem ge_add1 {e : PTE} {τ : PSt} {p w : Nat} {a b c : Int} (g : Ge p w e τ (InI a b)) : Ge p w (pOp MP.rAdd (pC (.int c)) e) τ (InI (c + a) (c + b)) := fun h n Q E P k => by
  refine g h n (fun y h2 => MP.rAdd (.int c) y h2 Q) E P fun v h' hv P' e' => ?_
  obtain ⟨i, rfl, h0, h1⟩ := hv
  exact k _ h' ⟨c + i, rfl, by omega, by omega⟩ P' e'
theorem sq_par {i j : Nat} {t : PTA} {u : PTS} {D : PD} {τ : PSt} {h : PHeap} {p w n : Nat} {U : List PV → Prop} (g : GeA p w t τ U) (P : Pot h p (n + w)) (k : ∀ a b h', U [a, b] → Pot h' p n → Pe p h h' → u D ((τ.set i (some a)).set j (some b)) h') (l : ∀ vs, U vs → vs.length = 2) : pSeq (pPar i j t) u D τ h := by
  refine g h n _ _ P fun vs h' uv P' e' => ?_
  have := l vs uv
  match vs, this with
  | [a, b], _ => exact k a b h' uv P' e'
end
section
/-- an item of a list that is being made is put anew -/
theorem st_setCell {p w n i q : Nat} {e o : PTE} {τ : PSt} {T : PV → Prop} {h : PHeap} {xs : List PV} {D : PD} {j : Nat} {u : PTS} (g : ∀ h', h'[q]? = some (.lst xs) → ∀ n' Q E, Pot h' p (n' + w) → (∀ v h'', T v → Pot h'' p n' → Pe p h' h'' → Q v h'') → e τ h' Q E) (hτ : τ[i]? = some (some (.ref q))) (hq : h[q]? = some (.lst xs)) (nq : q ≠ p) (ho : Pv o τ (.int j)) (hj : j < xs.length) (P : Pot h p (n + w))
    (k : ∀ v h', T v → Pot h' p n → Pe p h h' → u D τ (h'.set q (.lst (xs.set j v)))) : pSeq (pAsgS e (pVar i) o rSetP) u D τ h := by
  refine g h hq n _ _ P fun v h' tv P' e' => ?_
  refine pv_var hτ rfl h' (fun y h2 => o τ h2 (fun z h3 => rSetP y z v h3 fun h4 => u D τ h4) (fun c v h' => D.ex c v τ h')) _ ?_
  refine ho h' (fun z h3 => rSetP (.ref q) z v h3 fun h4 => u D τ h4) _ ?_
  rw [e_set, e'.get nq, hq]
  dsimp only
  rw [ixN_nat hj]
  exact k v h' tv P' e'
end
section
theorem notT_run {e : PTE} {τ : PSt} {h : PHeap} {Q : Bool → PHeap → Prop} {E : PXQ} {p w n : Nat} (g : Ge p w e τ (fun v => v = .bl true)) (P : Pot h p (n + w)) (k : ∀ h', Pot h' p n → Pe p h h' → Q false h') : pNot (pT e) τ h Q E := by
  refine g h n _ _ P fun v h' hv P' e' => ?_
  subst hv
  exact k h' P' e'
theorem or_run {t u : PTT} {τ : PSt} {h : PHeap} {Q : Bool → PHeap → Prop} {E : PXQ} (k : t τ h (fun c h1 => if c = true then Q true h1 else u τ h1 Q E) E) : pOr t u τ h Q E := k
theorem e_ne_same {x : PV} {f : Nat} (r : R0 f x) (l : f ≤ 64) (h : PHeap) (Q : PQ) : rNeP x x h Q = Q (.bl false) h := by
  obtain ⟨d, _, e⟩ := r.rd h (Nat.le_refl f)
  exact e_ne_rd l l e e
end
end MP
set_option maxHeartbeats 4000000
/-! MP21: values of expressions at a heap (that read cells), loops over items, cells written. -/
namespace MP
open PySem L2 TL
variable [PotK]
/-- at this heap the expression gives this value and changes nothing -/
def Ph (h : PHeap) (e : PTE) (τ : PSt) (v : PV) : Prop := ∀ (Q : PQ) (E : PXQ), Q v h → e τ h Q E
def PhA (h : PHeap) (a : PTA) (τ : PSt) (vs : List PV) : Prop := ∀ (Q : List PV → PHeap → Prop) (E : PXQ), Q vs h → a τ h Q E
def Th (h : PHeap) (t : PTT) (τ : PSt) (b : Bool) : Prop := ∀ (Q : Bool → PHeap → Prop) (E : PXQ), Q b h → t τ h Q E
section
variable {h : PHeap} {e f e2 : PTE} {a : PTA} {t t2 : PTT} {τ : PSt} {u v w : PV} {b b1 b2 : Bool} {i n : Nat} {Q : PQ} {E : PXQ} {D : PD} {s s1 s2 : PTS} {sp : PSp} {xs : List PV}
theorem ph (x : Pv e τ v) : Ph h e τ v := fun Q E q => x h Q E q
theorem pha (x : PvA a τ xs) : PhA h a τ xs := fun Q E q => x h Q E q
theorem th (x : Tv t τ b) : Th h t τ b := fun Q E q => x h Q E q
theorem ph_c : Ph h (pC v) τ v := fun _ _ q => q
theorem ph_var (hτ : τ[i]? = some (some v)) (x : isExc v = false) : Ph h (pVar i) τ v := ph (pv_var hτ x)
theorem pha_nil : PhA h pNil τ [] := fun _ _ q => q
theorem pha_cons (x : Ph h e τ v) (y : PhA h a τ xs) : PhA h (pCons e a) τ (v :: xs) := fun Q E q => x _ E (y _ E q)
theorem ph_op {r : POp} (x : Ph h e τ u) (y : Ph h f τ v) (z : ∀ Q, Q w h → r u v h Q) : Ph h (pOp r e f) τ w := fun Q E q => x _ E (y _ E (z _ q))
theorem ph_un {r : PUn} (x : Ph h e τ u) (z : ∀ Q, Q w h → r u h Q) : Ph h (pUn r e) τ w := fun Q E q => x _ E (z _ q)
theorem ph_cb {r : PCb} (x : PhA h a τ xs) (z : ∀ Q, Q w h → r xs h Q) : Ph h (pCB r a) τ w := fun Q E q => x _ E (z _ q)
theorem ph_call {n : Nat} (x : PhA h a τ xs) (l : xs.length = n) (z : ∀ Q E, Q w h → sp xs h Q E) : Ph h (pCall (gd n sp) a) τ w := fun Q E q => x _ E ⟨l, z Q E q⟩
theorem ph_ixc {j : Int} (x : Ph h e τ (.ref n)) (c : h[n]? = some (.lst xs)) (y : Ph h f τ (.int j)) (z : L2.atI xs j = some w) : Ph h (pOp MP.rIx e f) τ w := ph_op x y fun Q q => by
  rw [e_ix_r, c]
  dsimp only
  rw [z]
  exact q
theorem ph_lenI (x : Ph h e τ v) (c : itemsOf h v = some xs) (z : tyOf h v = some "list") : Ph h (pCB MP.rLen (pCons e pNil)) τ (.int xs.length) := fun Q E q => x _ E (by
  cases v with
  | fl ys => cases c; exact q
  | ref m =>
    have c' : (match h[m]? with
      | some (.lst xs) => some xs
      | _ => none) = some xs := c
    show MP.rLen [.ref m] h Q
    rw [e_len_r]
    split at c'
    · rename_i ys e; (try rw [e]); cases c'; exact q
    · cases c'
  | tup ys => simp [tyOf] at z
  | _ => cases c)
theorem th_b (x : Ph h e τ (.bl b)) : Th h (pB e) τ b := fun Q E q => x _ E q
theorem th_t (x : Ph h e τ (.bl b)) : Th h (pT e) τ b := fun Q E q => x _ E q
theorem th_not (x : Th h t τ b) : Th h (pNot t) τ (!b) := fun Q E q => x _ E q
theorem th_and (x : Th h t τ b1) (y : b1 = true → Th h t2 τ b2) : Th h (pAnd t t2) τ (b1 && b2) := fun Q E q => x _ E (by
  cases b1 with
  | true => exact y rfl Q E q
  | false => exact q)
theorem th_or (x : Th h t τ b1) (y : b1 = false → Th h t2 τ b2) : Th h (pOr t t2) τ (b1 || b2) := fun Q E q => x _ E (by
  cases b1 with
  | false => exact y rfl Q E q
  | true => exact q)
theorem th_cong (x : Th h t τ b1) (e : b1 = b) : Th h t τ b := e ▸ x
theorem ph_cong (x : Ph h e τ u) (hu : u = v) : Ph h e τ v := hu ▸ x
theorem hq_asg (x : Ph h e τ v) (k : s D (τ.set i (some v)) h) : pSeq (pAsg e (.nm i)) s D τ h := x _ _ k
theorem hq_ifT (x : Th h t τ true) (k : s1 { D with nx := s D } τ h) : pSeq (pIfS t s1 s2) s D τ h := x _ _ k
theorem hq_ifF (x : Th h t τ false) (k : s D τ h) : pSeq (pIfS t s1 pNext) s D τ h := x _ _ k
theorem ht_ifT (x : Th h t τ true) (k : s1 D τ h) : pIfS t s1 s2 D τ h := x _ _ k
theorem ht_ifF (x : Th h t τ false) (k : s2 D τ h) : pIfS t s1 s2 D τ h := x _ _ k
theorem ht_asg (x : Ph h e τ v) (k : D.nx (τ.set i (some v)) h) : pAsg e (.nm i) D τ h := x _ _ k
theorem ht_rt (x : Ph h e τ v) (k : D.rt v h) : pRet e D τ h := x _ _ k
/-- what is walked: the items of a list, a tuple, a cell -/
theorem iter_run {R : List PV → (PHeap → Prop) → PHeap → Prop} (hτ : τ[i]? = some (some v)) (c : itemsOf h v = some xs) (k : ∀ ok : PHeap → Prop, (∀ h', (∀ m, v = .ref m → h'[m]? = h[m]?) → ok h') → R xs ok h) : pIter (pVar i) τ h R E := by
  refine pv_var hτ (it_nx c) h (fun x h1 => match x with
    | .tup xs => R xs (fun _ => True) h1
    | .fl xs => R xs (fun _ => True) h1
    | .str s => R (charsOf s) (fun _ => True) h1
    | .ref n => match h1[n]? with
      | some (.lst xs) => R xs (fun h2 => h2[n]? = some (.lst xs)) h1
      | _ => False
    | _ => False) E ?_
  cases v with
  | tup ys => cases c; exact k _ fun _ _ => trivial
  | fl ys => cases c; exact k _ fun _ _ => trivial
  | ref m =>
    have c' : (match h[m]? with
      | some (.lst xs) => some xs
      | _ => none) = some xs := c
    dsimp only
    split at c'
    · rename_i ys e
      cases c'
      exact k _ fun h' z => by rw [z m rfl]; exact e
    · cases c'
  | _ => cases c
/-- a loop over items -/
theorem sq_forI {g : Tg} {b : PTS} (hτ : τ[i]? = some (some v)) (c : itemsOf h v = some xs) (k : ∀ ok : PHeap → Prop, (∀ h', (∀ m, v = .ref m → h'[m]? = h[m]?) → ok h') → forGo g b { D with nx := s D } ok xs τ h) : pSeq (pFor (pIter (pVar i)) g b) s D τ h := iter_run (R := fun xs ok h1 => forGo g b { D with nx := s D } ok xs τ h1) (E := fun c v h' => D.ex c v τ h') hτ c k
/-- all over the items -/
theorem ph_allI {is : List Nat} {j : Nat} {g : PV → Bool} (hτ : τ[j]? = some (some v)) (c : itemsOf h v = some xs) (hl : xs.length ≤ 100000) (st : ∀ y ∈ xs, Ph h f ((pwipe τ is).set i (some y)) (.bl (g y))) : Ph h (pCT MP.rAllI (pLc (pIter (pVar j)) (.nm i) pYes f is)) τ (.bl (xs.all g)) := fun Q E q => by
  refine iter_run (R := fun xs ok h1 => lcGo (.nm i) pYes f ok (pwipe τ is) xs [] h1 fun vs h2 => MP.rAllI vs h2 Q) (E := E) hτ c fun ok hok => ?_
  refine lc_items (fun y => .bl (g y)) hl (hok h fun _ _ => rfl) (fun y hy Q' q' => st y hy Q' _ q') ?_
  rw [all_vals]
  exact q
/-- all over range(lo, hi) -/
theorem ph_allR2 {is : List Nat} {lo n : Nat} {g : Nat → Bool} (x : Pv e τ (.int lo)) (y : Pv e2 τ (.int (lo + n : Nat))) (hn : lo + n ≤ 100000) (st : ∀ k, k < n → Ph h f ((pwipe τ is).set i (some (.int (lo + k : Nat)))) (.bl (g k))) : Ph h (pCT MP.rAllI (pLc (pRng2 e e2) (.nm i) pYes f is)) τ (.bl ((List.range n).all g)) := fun Q E q => by
  refine x h _ E (y h _ E ⟨⟨by omega, by omega, by omega, by omega⟩, ?_⟩)
  rw [show (((lo + n : Nat) : Int) - (lo : Nat)).toNat = n by omega]
  refine lc_rng (fun k => .bl (g k)) (by rw [sizeLine_eq]; omega) trivial (fun k hk Q' q' => ?_) ?_
  · rw [show ((lo : Nat) : Int) + (k : Nat) = ((lo + k : Nat) : Int) by omega]
    exact st k hk Q' _ q'
  · rw [all_vals]
    exact q
/-- a comprehension over range(n) -/
theorem pha_lcR {is : List Nat} {n : Nat} {g : Nat → PV} (x : Pv e τ (.int n)) (hn : n ≤ 100000) (st : ∀ k, k < n → Ph h f ((pwipe τ is).set i (some (.int k))) (g k)) : PhA h (pLc (pRng1 e) (.nm i) pYes f is) τ ((List.range n).map g) := fun Q E q => by
  refine x h _ E ⟨by omega, by omega, ?_⟩
  rw [Int.toNat_natCast]
  refine lc_rng g (by rw [sizeLine_eq]; omega) trivial (fun k hk Q' q' => ?_) q
  rw [show (0 : Int) + (k : Nat) = (k : Nat) by omega]
  exact st k hk Q' _ q'
/-- a cell gets one more item -/
theorem ht_append (hτ : τ[i]? = some (some (.ref n))) (c : h[n]? = some (.lst xs)) (x : Ph h e τ v) (l : xs.length ≤ 100000) (k : D.nx τ (h.set n (.lst (xs ++ [v])))) : pDrop (pMtT "list" MP.rAppend (pVar i) (pCons e pNil)) D τ h := by
  refine (pv_var hτ rfl : Pv (pVar i) τ (.ref n)) h (fun x h1 => tyOf h1 x = some "list" ∧ pCons e pNil τ h1 (fun vs h2 => MP.rAppend x vs h2 (fun _ h1 => D.nx τ h1)) (fun c v h1 => D.ex c v τ h1)) (fun c v h1 => D.ex c v τ h1) ⟨by rw [ty_r, c], ?_⟩
  refine x _ _ ?_
  show MP.rAppend (.ref n) [v] h fun _ h1 => D.nx τ h1
  rw [e_app, c]
  exact ⟨by rw [sizeLine_eq]; omega, k⟩
/-- an item of a cell is put anew -/
theorem hq_set {o : PTE} {j : Nat} (x : Ph h e τ v) (hτ : τ[i]? = some (some (.ref n))) (c : h[n]? = some (.lst xs)) (y : Ph h o τ (.int j)) (hj : j < xs.length) (k : s D τ (h.set n (.lst (xs.set j v)))) : pSeq (pAsgS e (pVar i) o rSetP) s D τ h := by
  refine x _ _ ?_
  refine pv_var hτ rfl h (fun y h2 => o τ h2 (fun z h3 => rSetP y z v h3 fun h4 => s D τ h4) (fun c v h' => D.ex c v τ h')) _ ?_
  refine y (fun z h3 => rSetP (.ref n) z v h3 fun h4 => s D τ h4) _ ?_
  rw [e_set, c]
  dsimp only
  rw [ixN_nat hj]
  exact k
/-- a new cell -/
theorem hq_new (x : PhA h a τ xs) (k : s D (τ.set i (some (.ref h.length))) (h ++ [.lst xs])) : pSeq (pAsg (pNew a) (.nm i)) s D τ h := x _ _ k
theorem pha_tmp (x : PhA h a τ xs) (l : xs.length ≤ 100000 := by simp) : PhA h (pTmp a) τ xs := fun Q E q => x _ E ⟨by rw [sizeLine_eq]; omega, q⟩
end
/-- a loop over range(n) -/
theorem sq_forR [PotK] {l : PTE} {g : Tg} {b s : PTS} {D : PD} {τ : PSt} {h : PHeap} {n : Nat} (x : Pv l τ (.int n)) (ln : n ≤ 100000) (k : forGo g b { D with nx := s D } (fun _ => True) (rngOf 0 n) τ h) : pSeq (pFor (pRng1 l) g b) s D τ h := by
  refine x h _ _ ⟨by omega, by omega, ?_⟩
  rw [Int.toNat_natCast]
  exact k
theorem rng_len (lo : Int) (n : Nat) : (rngOf lo n).length = n := by unfold rngOf; simp
theorem rng_at {lo : Int} {n j : Nat} {x : PV} (e : (rngOf lo n)[j]? = some x) : j < n ∧ x = .int (lo + (j : Nat)) := by
  have hj : j < n := by
    have := (List.getElem?_eq_some_iff.mp e).1
    rw [rng_len] at this
    exact this
  unfold rngOf at e
  rw [List.getElem?_map, List.getElem?_range hj] at e
  exact ⟨hj, (Option.some.inj e).symm⟩
theorem slice_to [PotK] {e f : PTE} {τ : PSt} {h : PHeap} {Q : PQ} {E : PXQ} {u : PV} {j : Int} (x : Pv e τ u) (y : Pv f τ (.int j)) (k : rCut u none (some j) h Q) : pSlice e pNoPart (pPart f) τ h Q E := x h _ _ (y h _ _ k)
theorem its_ints : ∀ ns : List Int, its (ns.map PV.int) = some ns
  | [] => rfl
  | i :: r => by show (its (r.map PV.int)).map (i :: ·) = _; rw [its_ints r]; rfl
end MP
set_option maxHeartbeats 8000000
/-! Printed by gen.py: the readings of the defs. -/
namespace L_k25
open PySem MP
def es : List Str := (["TreeError", "InvalidNumber", "InvalidSerial"] : List Str)
/-- slots: 0 value, 1 part -/
def t_anew (sp_anew : PSp) : PTS :=
  pSeq (pIfS (pT (pUn (rIsi "list") (pVar 0))) (pRet (pFz (pLc (pIter (pVar 0)) (.nm 1) (pYes) (pCall (gd 1 sp_anew) (pCons (pVar 1) (pNil))) [1]))) (pNext)) (pSeq (pIfS (pT (pUn (rIsi "tuple") (pVar 0))) (pRet (pCT rTupI (pLc (pIter (pVar 0)) (.nm 1) (pYes) (pCall (gd 1 sp_anew) (pCons (pVar 1) (pNil))) [1]))) (pNext)) (pRet (pVar 0)))
/-- slots: 0 value -/
def t_is_integer : PTS :=
  pRet (pAndV (pUn (rIsi "int") (pVar 0)) (pNotV (pUn (rIsi "bool") (pVar 0))))
/-- slots: 0 value -/
def t_is_serial (sp_is_integer : PSp) : PTS :=
  pRet (pAndV (pCall (gd 1 sp_is_integer) (pCons (pVar 0) (pNil))) (pChain rLe rLt (pC (.int 0)) (pVar 0) (pC (.int 4294967296))))
/-- slots: 0 value -/
def t_need_serial (sp_is_serial sp_anew : PSp) : PTS :=
  pIfS (pNot (pT (pCall (gd 1 sp_is_serial) (pCons (pVar 0) (pNil))))) (pRaise "InvalidSerial" (pCall (gd 1 sp_anew) (pCons (pVar 0) (pNil)))) (pNext)
/-- slots: 0 one, 1 other -/
def t_newer (sp_need_serial : PSp) : PTS :=
  pSeq (pDrop (pCall (gd 1 sp_need_serial) (pCons (pVar 0) (pNil)))) (pSeq (pDrop (pCall (gd 1 sp_need_serial) (pCons (pVar 1) (pNil)))) (pRet (pChain rLe rLe (pC (.int 1)) (pOp rMod (pOp rSub (pVar 0) (pVar 1)) (pC (.int 4294967296))) (pC (.int 2147483647)))))
/-- slots: 0 missed -/
def t_need_missed : PTS :=
  pIfS (pOr (pB (pOp rLt (pVar 0) (pC (.int 0)))) (pB (pOp rGt (pVar 0) (pC (.int 1000))))) (pRaise "InvalidNumber" (pVar 0)) (pNext)
/-- slots: 0 one, 1 other, 2 missed, 3 far, 4 wide -/
def t_fewest_steps (sp_need_serial sp_need_missed : PSp) : PTS :=
  pSeq (pDrop (pCall (gd 1 sp_need_serial) (pCons (pVar 0) (pNil)))) (pSeq (pDrop (pCall (gd 1 sp_need_serial) (pCons (pVar 1) (pNil)))) (pSeq (pDrop (pCall (gd 1 sp_need_missed) (pCons (pVar 2) (pNil)))) (pSeq (pAsg (pOp rMod (pOp rSub (pVar 1) (pVar 0)) (pC (.int 4294967296))) (.nm 3)) (pSeq (pAsg (pOp rAdd (pVar 2) (pC (.int 1))) (.nm 4)) (pSeq (pIfS (pB (pOp rEqP (pVar 3) (pC (.int 0)))) (pRet (pC (.int 0))) (pNext)) (pSeq (pIfS (pB (pOp rLe (pVar 3) (pC (.int 2147483647)))) (pRet (pC (.int 1))) (pNext)) (pSeq (pIfS (pB (pOp rLe (pVar 3) (pOp rMul (pC (.int 2)) (pC (.int 2147483647))))) (pRet (pOp rAdd (pVar 4) (pCB rMax2 (pCons (pC (.int 1)) (pCons (pOp rAdd (pOp rSub (pVar 3) (pOp rMul (pC (.int 2)) (pC (.int 2147483647)))) (pVar 4)) (pNil)))))) (pNext)) (pRet (pOp rAdd (pOp rMul (pC (.int 2)) (pVar 4)) (pC (.int 1)))))))))))
/-- slots: 0 one, 1 other, 2 missed, 3 count, 4 wide, 5 great, 6 far, 7 gaps, 8 over, 9 at, 10 way, 11 place, 12 gap, 13 less -/
def t_steps (sp_fewest_steps : PSp) : PTS :=
  pSeq (pAsg (pCall (gd 3 sp_fewest_steps) (pCons (pVar 0) (pCons (pVar 1) (pCons (pVar 2) (pNil))))) (.nm 3)) (pSeq (pIfS (pB (pOp rLt (pVar 3) (pC (.int 2)))) (pRet (pSlice (pFz (pTmp (pCons (pVar 1) (pNil)))) (pNoPart) (pPart (pVar 3)))) (pNext)) (pSeq (pAsg (pOp rAdd (pVar 2) (pC (.int 1))) (.nm 4)) (pSeq (pAsg (pOp rSub (pC (.int 2147483647)) (pVar 2)) (.nm 5)) (pSeq (pAsg (pOp rMod (pOp rSub (pVar 1) (pVar 0)) (pC (.int 4294967296))) (.nm 6)) (pSeq (pAsg (pNew (pLc (pRng1 (pVar 3)) (.nm 9) (pYes) (pIf (pB (pOp rEqP (pOp rMod (pVar 9) (pVar 4)) (pC (.int 0)))) (pVar 5) (pC (.int 1))) [9])) (.nm 7)) (pSeq (pAsg (pOp rSub (pCB (onList rSumI) (pCons (pVar 7) (pNil))) (pVar 6)) (.nm 8)) (pSeq (pFor (pRng1 (pVar 3)) (.nm 9) (pSeq (pAsg (pCB rMin2 (pCons (pVar 8) (pCons (pOp rSub (pOp rIx (pVar 7) (pVar 9)) (pC (.int 1))) (pNil)))) (.nm 13)) (pSeq (pAsgS (pOp rSub (pOp rIx (pVar 7) (pVar 9)) (pVar 13)) (pVar 7) (pVar 9) rSetP) (pAsg (pOp rSub (pVar 8) (pVar 13)) (.nm 8))))) (pSeq (pAsg (pNew (pTmp (pNil))) (.nm 10)) (pSeq (pAsg (pVar 0) (.nm 11)) (pSeq (pFor (pIter (pVar 7)) (.nm 12) (pSeq (pAsg (pOp rMod (pOp rAddV (pVar 11) (pVar 12)) (pC (.int 4294967296))) (.nm 11)) (pDrop (pMtT "list" rAppend (pVar 10) (pCons (pVar 11) (pNil)))))) (pRet (pVar 10))))))))))))
/-- slots: 0 serial, 1 steps -/
def t_further (sp_need_serial sp_steps : PSp) : PTS :=
  pSeq (pDrop (pCall (gd 1 sp_need_serial) (pCons (pVar 0) (pNil)))) (pSeq (pIfS (pB (pOp rLt (pVar 1) (pC (.int 0)))) (pRaise "InvalidNumber" (pVar 1)) (pNext)) (pRet (pOp rMod (pOp rAddV (pVar 0) (pVar 1)) (pC (.int 4294967296)))))
/-- slots: 0 serials, 1 serial, 2 other -/
def t_newest (sp_need_serial sp_newer : PSp) : PTS :=
  pSeq (pFor (pIter (pVar 0)) (.nm 1) (pDrop (pCall (gd 1 sp_need_serial) (pCons (pVar 1) (pNil))))) (pSeq (pFor (pIter (pVar 0)) (.nm 1) (pIfS (pT (pCT rAllI (pLc (pIter (pVar 0)) (.nm 2) (pYes) (pOrV (pOp rEqP (pVar 1) (pVar 2)) (pCall (gd 2 sp_newer) (pCons (pVar 1) (pCons (pVar 2) (pNil))))) [2]))) (pRet (pVar 1)) (pNext))) (pRet (pC .non)))
/-- slots: 0 one, 1 other, 2 missed, 3 value, 4 count, 5 places, 6 last, 7 serial, 8 gap, 9 at -/
def t_judge_steps (sp_fewest_steps sp_is_serial : PSp) : PTS :=
  pSeq (pAsg (pCall (gd 3 sp_fewest_steps) (pCons (pVar 0) (pCons (pVar 1) (pCons (pVar 2) (pNil))))) (.nm 4)) (pSeq (pIfS (pOr (pNot (pT (pUn (rIsi "list") (pVar 3)))) (pB (pOp rNeP (pCB rLen (pCons (pVar 3) (pNil))) (pVar 4)))) (pRet (pC (.bl false))) (pNext)) (pSeq (pIfS (pNot (pT (pCT rAllI (pLc (pIter (pVar 3)) (.nm 7) (pYes) (pCall (gd 1 sp_is_serial) (pCons (pVar 7) (pNil))) [7])))) (pRet (pC (.bl false))) (pNext)) (pSeq (pAsg (pNew (pTmp (pCons (pC (.int 0)) (pNil)))) (.nm 5)) (pSeq (pAsg (pVar 0) (.nm 6)) (pSeq (pFor (pIter (pVar 3)) (.nm 7) (pSeq (pAsg (pOp rMod (pOp rSub (pVar 7) (pVar 6)) (pC (.int 4294967296))) (.nm 8)) (pSeq (pIfS (pOr (pB (pOp rLt (pVar 8) (pC (.int 1)))) (pB (pOp rGt (pVar 8) (pC (.int 2147483647))))) (pRet (pC (.bl false))) (pNext)) (pSeq (pDrop (pMtT "list" rAppend (pVar 5) (pCons (pOp rAddV (pOp rIx (pVar 5) (pUn rNeg (pC (.int 1)))) (pVar 8)) (pNil)))) (pAsg (pVar 7) (.nm 6)))))) (pSeq (pIfS (pB (pOp rNeP (pVar 6) (pVar 1))) (pRet (pC (.bl false))) (pNext)) (pRet (pCT rAllI (pLc (pRng2 (pC (.int 1)) (pOp rAdd (pVar 4) (pC (.int 1)))) (.nm 9) (pYes) (pOp rLe (pOp rSub (pOp rIx (pVar 5) (pVar 9)) (pOp rIx (pVar 5) (pCB rMax2 (pCons (pC (.int 0)) (pCons (pOp rSub (pOp rSub (pVar 9) (pVar 2)) (pC (.int 1))) (pNil)))))) (pC (.int 2147483647))) [9])))))))))
/-- slots: 0 _law_script, 1 _law_mixed, 2 _law_cell -/
def t__law_deck : PTS :=
  pSeq (pAsg (pC (.int 17)) (.nm 1)) (pSeq (pFor (pIter (pVar 0)) (.nm 2) (pAsg (pOp rMod (pCB rIntP (pCons (pOp rAdd (pOp rMulV (pVar 1) (pC (.int 30011))) (pCB rAbs (pCons (pVar 2) (pNil)))) (pNil))) (pOp rAdd (pOp rPow (pC (.int 10)) (pC (.int 24))) (pC (.int 7)))) (.nm 1))) (pRet (pNew (pTmp (pCons (pCB (onItems rLstV) (pCons (pVar 0) (pNil))) (pCons (pC (.int 0)) (pCons (pC (.int 0)) (pCons (pVar 1) (pCons (pC (.int 0)) (pNil))))))))))
/-- slots: 0 _law_deck_here, 1 _law_size, 2 _law_stir, 3 _law_cell, 4 _law_digit -/
def t__law_draw : PTS :=
  pSeq (pIfS (pAnd (pB (pOp rEqP (pOp rIx (pVar 0) (pC (.int 2))) (pC (.int 0)))) (pB (pOp rLt (pOp rIx (pVar 0) (pC (.int 1))) (pCB rLen (pCons (pOp rIx (pVar 0) (pC (.int 0))) (pNil)))))) (pSeq (pAsg (pCB rAbs (pCons (pOp rIx (pOp rIx (pVar 0) (pC (.int 0))) (pOp rIx (pVar 0) (pC (.int 1)))) (pNil))) (.nm 3)) (pSeq (pAsgS (pOp rAdd (pOp rIx (pVar 0) (pC (.int 1))) (pC (.int 1))) (pVar 0) (pC (.int 1)) rSetP) (pIfS (pB (pOp rGe (pVar 3) (pOp rPow (pC (.int 10)) (pC (.int 18))))) (pAsgS (pOp rSub (pVar 3) (pOp rPow (pC (.int 10)) (pC (.int 18)))) (pVar 0) (pC (.int 2)) rSetP) (pAsgS (pOp rAdd (pOp rAdd (pOp rIx (pVar 0) (pC (.int 3))) (pOp rMul (pC (.int 7)) (pVar 3))) (pC (.int 1))) (pVar 0) (pC (.int 3)) rSetP)))) (pNext)) (pSeq (pIfS (pB (pOp rGt (pOp rIx (pVar 0) (pC (.int 2))) (pC (.int 0)))) (pSeq (pAsg (pOp rMod (pCB rIntP (pCons (pOp rIx (pVar 0) (pC (.int 2))) (pNil))) (pVar 1)) (.nm 4)) (pSeq (pAsgS (pOp rFdiv (pOp rIx (pVar 0) (pC (.int 2))) (pVar 1)) (pVar 0) (pC (.int 2)) rSetP) (pRet (pVar 4)))) (pNext)) (pSeq (pAsgS (pOp rAdd (pOp rIx (pVar 0) (pC (.int 4))) (pC (.int 1))) (pVar 0) (pC (.int 4)) rSetP) (pSeq (pAsg (pOp rMod (pCB rIntP (pCons (pOp rPow (pOp rAdd (pOp rIx (pVar 0) (pC (.int 3))) (pOp rMul (pC (.int 40487)) (pOp rIx (pVar 0) (pC (.int 4))))) (pC (.int 3))) (pNil))) (pOp rAdd (pOp rPow (pC (.int 10)) (pC (.int 33))) (pC (.int 61)))) (.nm 2)) (pSeq (pAsgS (pOp rMod (pCB rIntP (pCons (pOp rAddV (pOp rAddV (pOp rMulV (pVar 2) (pC (.int 65539))) (pOp rIx (pVar 0) (pC (.int 3)))) (pOp rIx (pVar 0) (pC (.int 4)))) (pNil))) (pOp rAdd (pOp rPow (pC (.int 10)) (pC (.int 31))) (pC (.int 33)))) (pVar 0) (pC (.int 3)) rSetP) (pRet (pOp rMod (pOp rFdiv (pOp rMod (pCB rIntP (pCons (pOp rPow (pOp rIx (pVar 0) (pC (.int 3))) (pC (.int 3))) (pNil))) (pOp rAdd (pOp rPow (pC (.int 10)) (pC (.int 34))) (pC (.int 193)))) (pC (.int 4099))) (pVar 1)))))))
/-- slots: 0 _law_one, 1 _law_other -/
def t__law_way : PTS :=
  pRet (pOp rMod (pCB rIntP (pCons (pOp rSub (pVar 0) (pVar 1)) (pNil))) (pOp rPow (pC (.int 2)) (pC (.int 32))))
/-- slots: 0 _law_one, 1 _law_other -/
def t__law_is_newer (sp__law_way : PSp) : PTS :=
  pRet (pChain rLe rLt (pC (.int 1)) (pCall (gd 2 sp__law_way) (pCons (pVar 0) (pCons (pVar 1) (pNil)))) (pOp rPow (pC (.int 2)) (pC (.int 31))))
/-- slots: 0 _law_deck_here, 1 _law_one, 2 _law_far, 3 _law_missed -/
def t__law_serials (sp__law_draw : PSp) : PTS :=
  pSeq (pAsg (pIxT rIxT (pTmp (pCons (pC (.int 0)) (pCons (pOp rSub (pOp rPow (pC (.int 2)) (pC (.int 32))) (pC (.int 1))) (pCons (pCall (gd 2 sp__law_draw) (pCons (pVar 0) (pCons (pOp rPow (pC (.int 2)) (pC (.int 32))) (pNil)))) (pCons (pCall (gd 2 sp__law_draw) (pCons (pVar 0) (pCons (pC (.int 10)) (pNil)))) (pNil)))))) (pCall (gd 2 sp__law_draw) (pCons (pVar 0) (pCons (pC (.int 4)) (pNil))))) (.nm 1)) (pSeq (pAsg (pIxT rIxT (pTmp (pCons (pC (.int 0)) (pCons (pC (.int 1)) (pCons (pOp rSub (pOp rPow (pC (.int 2)) (pC (.int 31))) (pC (.int 1))) (pCons (pOp rPow (pC (.int 2)) (pC (.int 31))) (pCons (pOp rSub (pOp rPow (pC (.int 2)) (pC (.int 32))) (pC (.int 2))) (pCons (pOp rSub (pOp rPow (pC (.int 2)) (pC (.int 32))) (pC (.int 1))) (pNil)))))))) (pCall (gd 2 sp__law_draw) (pCons (pVar 0) (pCons (pC (.int 6)) (pNil))))) (.nm 2)) (pSeq (pIfS (pB (pOp rEqP (pCall (gd 2 sp__law_draw) (pCons (pVar 0) (pCons (pC (.int 2)) (pNil)))) (pC (.int 0)))) (pAsg (pCall (gd 2 sp__law_draw) (pCons (pVar 0) (pCons (pOp rPow (pC (.int 2)) (pC (.int 32))) (pNil)))) (.nm 2)) (pIfS (pB (pOp rEqP (pCall (gd 2 sp__law_draw) (pCons (pVar 0) (pCons (pC (.int 2)) (pNil)))) (pC (.int 0)))) (pAsg (pOp rSub (pOp rAddV (pVar 2) (pCall (gd 2 sp__law_draw) (pCons (pVar 0) (pCons (pC (.int 9)) (pNil))))) (pC (.int 4))) (.nm 2)) (pNext))) (pSeq (pAsg (pFz (pTmp (pCons (pCall (gd 2 sp__law_draw) (pCons (pVar 0) (pCons (pC (.int 3)) (pNil)))) (pCons (pCall (gd 2 sp__law_draw) (pCons (pVar 0) (pCons (pC (.int 12)) (pNil)))) (pCons (pOp rAdd (pC (.int 999)) (pCall (gd 2 sp__law_draw) (pCons (pVar 0) (pCons (pC (.int 2)) (pNil))))) (pCons (pCall (gd 2 sp__law_draw) (pCons (pVar 0) (pCons (pC (.int 1001)) (pNil)))) (pNil))))))) (.nm 3)) (pRet (pTup (pCons (pVar 1) (pCons (pOp rMod (pCB rIntP (pCons (pOp rAddV (pVar 1) (pVar 2)) (pNil))) (pOp rPow (pC (.int 2)) (pC (.int 32)))) (pCons (pOp rIx (pVar 3) (pCall (gd 2 sp__law_draw) (pCons (pVar 0) (pCons (pC (.int 4)) (pNil))))) (pNil)))))))))
/-- slots: 0 _law_count, 1 _law_wide, 2 _law_rows, 3 _law_rest -/
def t__law_longest : PTS :=
  pSeq (pIfS (pB (pOp rLe (pVar 0) (pVar 1))) (pRet (pOp rMul (pOp rSub (pOp rPow (pC (.int 2)) (pC (.int 31))) (pC (.int 1))) (pCB rIntP (pCons (pOp rGt (pVar 0) (pC (.int 0))) (pNil))))) (pNext)) (pSeq (pAsg (pOp rFdiv (pVar 0) (pVar 1)) (.nm 2)) (pSeq (pAsg (pOp rMod (pCB rIntP (pCons (pVar 0) (pNil))) (pVar 1)) (.nm 3)) (pRet (pOp rAdd (pOp rMulV (pVar 2) (pOp rSub (pOp rPow (pC (.int 2)) (pC (.int 31))) (pC (.int 1)))) (pOp rMul (pCB rIntP (pCons (pOp rGt (pVar 3) (pC (.int 0))) (pNil))) (pOp rAdd (pOp rSub (pOp rSub (pOp rPow (pC (.int 2)) (pC (.int 31))) (pC (.int 1))) (pVar 1)) (pVar 3)))))))
/-- slots: 0 _law_one, 1 _law_other, 2 _law_missed, 3 _law_far, 4 _law_count -/
def t__law_fewest (sp__law_way sp__law_longest : PSp) : PTS :=
  pSeq (pAsg (pCall (gd 2 sp__law_way) (pCons (pVar 1) (pCons (pVar 0) (pNil)))) (.nm 3)) (pSeq (pAsg (pC (.int 0)) (.nm 4)) (pSeq (pWhile (pAnd (pB (pOp rLt (pVar 4) (pC (.int 2100)))) (pB (pOp rLt (pCall (gd 2 sp__law_longest) (pCons (pVar 4) (pCons (pOp rAdd (pVar 2) (pC (.int 1))) (pNil)))) (pVar 3)))) (pAsg (pOp rAdd (pVar 4) (pC (.int 1))) (.nm 4))) (pRet (pVar 4))))
/-- slots: 0 _law_one, 1 _law_other, 2 _law_missed, 3 _law_value, 4 _law_ahead, 5 _law_last, 6 _law_serial -/
def t__law_is_way (sp__law_is_newer sp__law_way : PSp) : PTS :=
  pSeq (pAsg (pNew (pTmp (pCons (pC (.int 0)) (pNil)))) (.nm 4)) (pSeq (pAsg (pVar 0) (.nm 5)) (pSeq (pFor (pIter (pVar 3)) (.nm 6) (pSeq (pIfS (pNot (pT (pCall (gd 2 sp__law_is_newer) (pCons (pVar 6) (pCons (pVar 5) (pNil)))))) (pRet (pC (.bl false))) (pNext)) (pSeq (pDrop (pMtT "list" rAppend (pVar 4) (pCons (pOp rAddV (pOp rIx (pVar 4) (pUn rNeg (pC (.int 1)))) (pCall (gd 2 sp__law_way) (pCons (pVar 6) (pCons (pVar 5) (pNil))))) (pNil)))) (pSeq (pIfS (pB (pOp rGe (pOp rSub (pOp rIx (pVar 4) (pUn rNeg (pC (.int 1)))) (pOp rIx (pVar 4) (pCB rMax2 (pCons (pC (.int 0)) (pCons (pOp rSub (pOp rSub (pCB rLen (pCons (pVar 4) (pNil))) (pC (.int 2))) (pVar 2)) (pNil)))))) (pOp rPow (pC (.int 2)) (pC (.int 31))))) (pRet (pC (.bl false))) (pNext)) (pAsg (pVar 6) (.nm 5)))))) (pRet (pOp rEqP (pVar 5) (pVar 1)))))
/-- slots: 0 _law_way_here, 1 _law_first, 2 _law_second, 3 _law_third, 4 _law_found, 5 e -/
def t__law_error (sp_newer sp_further sp_newest sp_fewest_steps sp_steps sp_judge_steps : PSp) : PTS :=
  pSeq (pAsg (pC .non) (.nm 4)) (pSeq (pTryT es (pIfS (pB (pOp rEqP (pVar 0) (pC (.int 0)))) (pDrop (pCall (gd 2 sp_newer) (pCons (pVar 1) (pCons (pVar 2) (pNil))))) (pIfS (pB (pOp rEqP (pVar 0) (pC (.int 1)))) (pDrop (pCall (gd 2 sp_further) (pCons (pVar 1) (pCons (pVar 3) (pNil))))) (pIfS (pB (pOp rEqP (pVar 0) (pC (.int 2)))) (pDrop (pCall (gd 1 sp_newest) (pCons (pFz (pTmp (pCons (pVar 2) (pCons (pVar 1) (pCons (pVar 2) (pNil)))))) (pNil)))) (pIfS (pB (pOp rEqP (pVar 0) (pC (.int 3)))) (pDrop (pCall (gd 3 sp_fewest_steps) (pCons (pVar 1) (pCons (pVar 2) (pCons (pVar 3) (pNil)))))) (pIfS (pB (pOp rEqP (pVar 0) (pC (.int 4)))) (pDrop (pCall (gd 3 sp_steps) (pCons (pVar 1) (pCons (pVar 2) (pCons (pVar 3) (pNil)))))) (pDrop (pCall (gd 4 sp_judge_steps) (pCons (pVar 1) (pCons (pVar 2) (pCons (pVar 3) (pCons (pFz (pTmp (pNil))) (pNil)))))))))))) "TreeError" 5 (pAsg (pTup (pCons (pErrIs es 5 (fun c => catches c "InvalidSerial")) (pCons (pErrIs es 5 (fun c => catches c "InvalidNumber")) (pCons (pErrVal es 5) (pNil))))) (.nm 4))) (pRet (pVar 4)))
/-- slots: 0 _law_deck_here, 1 _law_one, 2 _law_other, 3 _law_bad, 4 _law_worse, 5 _law_number, 6 _law_way_here, 7 _law_due, 8 _law_missed -/
def t__law_errors_right (sp__law_draw sp__law_error : PSp) : PTS :=
  pSeq (pAsg (pIxT rIxT (pTmp (pCons (pUn rNeg (pC (.int 1))) (pCons (pOp rPow (pC (.int 2)) (pC (.int 32))) (pCons (pUn rNeg (pOp rPow (pC (.int 2)) (pC (.int 40)))) (pCons (pOp rAdd (pOp rAdd (pOp rPow (pC (.int 2)) (pC (.int 32))) (pC (.int 1))) (pCall (gd 2 sp__law_draw) (pCons (pVar 0) (pCons (pOp rPow (pC (.int 2)) (pC (.int 40))) (pNil))))) (pNil)))))) (pCall (gd 2 sp__law_draw) (pCons (pVar 0) (pCons (pC (.int 4)) (pNil))))) (.nm 3)) (pSeq (pAsg (pIxT rIxT (pTmp (pCons (pUn rNeg (pC (.int 2))) (pCons (pOp rPow (pC (.int 2)) (pC (.int 33))) (pNil)))) (pCall (gd 2 sp__law_draw) (pCons (pVar 0) (pCons (pC (.int 2)) (pNil))))) (.nm 4)) (pSeq (pAsg (pIxT rIxT (pTmp (pCons (pUn rNeg (pC (.int 1))) (pCons (pOp rSub (pUn rNeg (pC (.int 1))) (pCall (gd 2 sp__law_draw) (pCons (pVar 0) (pCons (pOp rPow (pC (.int 10)) (pC (.int 20))) (pNil))))) (pNil)))) (pCall (gd 2 sp__law_draw) (pCons (pVar 0) (pCons (pC (.int 2)) (pNil))))) (.nm 5)) (pSeq (pFor (pRng1 (pC (.int 6))) (.nm 6) (pSeq (pIfS (pB (pOp rNeP (pCall (gd 4 sp__law_error) (pCons (pVar 6) (pCons (pVar 3) (pCons (pVar 2) (pCons (pC (.int 0)) (pNil)))))) (pTup (pCons (pC (.bl true)) (pCons (pC (.bl false)) (pCons (pVar 3) (pNil))))))) (pRet (pC (.bl false))) (pNext)) (pSeq (pIfS (pAnd (pB (pOp rNeP (pVar 6) (pC (.int 1)))) (pB (pOp rNeP (pCall (gd 4 sp__law_error) (pCons (pVar 6) (pCons (pVar 1) (pCons (pVar 3) (pCons (pC (.int 0)) (pNil)))))) (pTup (pCons (pC (.bl true)) (pCons (pC (.bl false)) (pCons (pVar 3) (pNil)))))))) (pRet (pC (.bl false))) (pNext)) (pSeq (pAsg (pIf (pB (pOp rNeP (pVar 6) (pC (.int 2)))) (pVar 3) (pVar 4)) (.nm 7)) (pSeq (pIfS (pB (pOp rNeP (pCall (gd 4 sp__law_error) (pCons (pVar 6) (pCons (pVar 3) (pCons (pVar 4) (pCons (pVar 5) (pNil)))))) (pTup (pCons (pC (.bl true)) (pCons (pC (.bl false)) (pCons (pVar 7) (pNil))))))) (pRet (pC (.bl false))) (pNext)) (pIfS (pB (pUn rNotN (pCall (gd 4 sp__law_error) (pCons (pVar 6) (pCons (pVar 1) (pCons (pVar 2) (pCons (pC (.int 0)) (pNil)))))))) (pRet (pC (.bl false))) (pNext))))))) (pSeq (pIfS (pOr (pB (pOp rNeP (pCall (gd 4 sp__law_error) (pCons (pC (.int 1)) (pCons (pVar 1) (pCons (pVar 2) (pCons (pVar 5) (pNil)))))) (pTup (pCons (pC (.bl false)) (pCons (pC (.bl true)) (pCons (pVar 5) (pNil))))))) (pB (pUn rNotN (pCall (gd 4 sp__law_error) (pCons (pC (.int 1)) (pCons (pVar 1) (pCons (pVar 2) (pCons (pOp rPow (pC (.int 10)) (pC (.int 20))) (pNil))))))))) (pRet (pC (.bl false))) (pNext)) (pSeq (pFor (pRng2 (pC (.int 3)) (pC (.int 6))) (.nm 6) (pSeq (pFor (pIter (pTup (pCons (pVar 5) (pCons (pC (.int 1001)) (pCons (pOp rSub (pC (.int 1001)) (pVar 5)) (pNil)))))) (.nm 8) (pIfS (pB (pOp rNeP (pCall (gd 4 sp__law_error) (pCons (pVar 6) (pCons (pVar 1) (pCons (pVar 2) (pCons (pVar 8) (pNil)))))) (pTup (pCons (pC (.bl false)) (pCons (pC (.bl true)) (pCons (pVar 8) (pNil))))))) (pRet (pC (.bl false))) (pNext))) (pIfS (pB (pUn rNotN (pCall (gd 4 sp__law_error) (pCons (pVar 6) (pCons (pVar 1) (pCons (pVar 2) (pCons (pC (.int 1000)) (pNil)))))))) (pRet (pC (.bl false))) (pNext)))) (pRet (pC (.bl true))))))))
/-- slots: 0 _law_deck_here, 1 _law_one, 2 _law_other, 3 _law_count, 4 _law_found, 5 _law_some, 6 _law_row, 7 _law_best, 8 _law_copy, 9 _law_turn, 10 _law_serial, 11 _law_two -/
def t__law_circle_right (sp_further sp__law_draw sp_newer sp__law_is_newer sp_newest : PSp) : PTS :=
  pSeq (pIfS (pB (pOp rNeP (pCB rRepr (pCons (pCall (gd 2 sp_newer) (pCons (pVar 1) (pCons (pVar 2) (pNil)))) (pNil))) (pCB rRepr (pCons (pCall (gd 2 sp__law_is_newer) (pCons (pVar 1) (pCons (pVar 2) (pNil)))) (pNil))))) (pRet (pC (.bl false))) (pNext)) (pSeq (pIfS (pB (pOp rNeP (pCB rRepr (pCons (pCallK (gd 2 sp_newer) 0 2 [1, 0] pNil (pCons (pVar 1) (pCons (pVar 2) (pNil)))) (pNil))) (pCB rRepr (pCons (pCall (gd 2 sp__law_is_newer) (pCons (pVar 2) (pCons (pVar 1) (pNil)))) (pNil))))) (pRet (pC (.bl false))) (pNext)) (pSeq (pAsg (pIxT rIxT (pTmp (pCons (pCall (gd 2 sp__law_draw) (pCons (pVar 0) (pCons (pC (.int 5)) (pNil)))) (pCons (pCall (gd 2 sp__law_draw) (pCons (pVar 0) (pCons (pOp rPow (pC (.int 2)) (pC (.int 32))) (pNil)))) (pCons (pCall (gd 2 sp__law_draw) (pCons (pVar 0) (pCons (pOp rPow (pC (.int 10)) (pC (.int 40))) (pNil)))) (pNil))))) (pCall (gd 2 sp__law_draw) (pCons (pVar 0) (pCons (pC (.int 3)) (pNil))))) (.nm 3)) (pSeq (pAsg (pCall (gd 2 sp_further) (pCons (pVar 1) (pCons (pVar 3) (pNil)))) (.nm 4)) (pSeq (pIfS (pOr (pB (pOp rNeP (pCB rRepr (pCons (pVar 4) (pNil))) (pCB rRepr (pCons (pOp rMod (pCB rIntP (pCons (pOp rAddV (pVar 1) (pVar 3)) (pNil))) (pOp rPow (pC (.int 2)) (pC (.int 32)))) (pNil))))) (pB (pOp rNeP (pCallK (gd 2 sp_further) 0 2 [1, 0] pNil (pCons (pVar 3) (pCons (pVar 1) (pNil)))) (pVar 4)))) (pRet (pC (.bl false))) (pNext)) (pSeq (pAsg (pFz (pTmp (pCons (pVar 1) (pCons (pVar 2) (pCons (pVar 4) (pCons (pOp rMod (pCB rIntP (pCons (pOp rAdd (pVar 1) (pOp rPow (pC (.int 2)) (pC (.int 31)))) (pNil))) (pOp rPow (pC (.int 2)) (pC (.int 32)))) (pCons (pCall (gd 2 sp__law_draw) (pCons (pVar 0) (pCons (pOp rPow (pC (.int 2)) (pC (.int 32))) (pNil)))) (pNil)))))))) (.nm 5)) (pSeq (pAsg (pFz (pLc (pRng1 (pCall (gd 2 sp__law_draw) (pCons (pVar 0) (pCons (pC (.int 8)) (pNil))))) (.nm 9) (pYes) (pOp rIx (pVar 5) (pCall (gd 2 sp__law_draw) (pCons (pVar 0) (pCons (pC (.int 5)) (pNil))))) [9])) (.nm 6)) (pSeq (pAsg (pFz (pLc (pIter (pVar 6)) (.nm 10) (pT (pCT rAllI (pLc (pIter (pVar 6)) (.nm 11) (pYes) (pOrV (pOp rEqP (pVar 10) (pVar 11)) (pCall (gd 2 sp__law_is_newer) (pCons (pVar 10) (pCons (pVar 11) (pNil))))) [11]))) (pVar 10) [10])) (.nm 7)) (pSeq (pAsg (pCB (onItems rLstV) (pCons (pVar 6) (pNil))) (.nm 8)) (pRet (pAndV (pOp rEqP (pCB rRepr (pCons (pCall (gd 1 sp_newest) (pCons (pVar 6) (pNil))) (pNil))) (pCB rRepr (pCons (pOp rIx (pOp rAddV (pVar 7) (pFz (pTmp (pCons (pC .non) (pNil))))) (pC (.int 0))) (pNil)))) (pAndV (pOp rEqP (pCallK (gd 1 sp_newest) 0 1 [0] pNil (pCons (pVar 6) (pNil))) (pCall (gd 1 sp_newest) (pCons (pVar 6) (pNil)))) (pOp rEqP (pVar 6) (pVar 8)))))))))))))
/-- slots: 0 _law_deck_here, 1 _law_one, 2 _law_other, 3 _law_way_here, 4 _law_found, 5 _law_at, 6 _law_by -/
def t__law_spoilt (sp__law_draw : PSp) : PTS :=
  pSeq (pAsg (pNew (pTmp (pCons (pOp rAddV (pVar 3) (pFz (pTmp (pCons (pVar 2) (pNil))))) (pCons (pSliceV (pVar 3) (pPart (pC (.int 1))) (pNoPart)) (pCons (pSliceV (pVar 3) (pNoPart) (pPart (pUn rNeg (pC (.int 1))))) (pCons (pOp rAddV (pFz (pTmp (pCons (pVar 1) (pNil)))) (pVar 3)) (pCons (pFz (pTmp (pCons (pVar 1) (pCons (pVar 2) (pNil))))) (pCons (pUn rRevV (pVar 3)) (pNil))))))))) (.nm 4)) (pSeq (pIfS (pB (pOp rNeP (pVar 3) (pFz (pTmp (pNil))))) (pSeq (pAsg (pCall (gd 2 sp__law_draw) (pCons (pVar 0) (pCons (pCB rLen (pCons (pVar 3) (pNil))) (pNil)))) (.nm 5)) (pSeq (pAsg (pIxT rIxT (pTmp (pCons (pC (.int 1)) (pCons (pUn rNeg (pC (.int 1))) (pCons (pOp rPow (pC (.int 2)) (pC (.int 31))) (pCons (pCall (gd 2 sp__law_draw) (pCons (pVar 0) (pCons (pOp rPow (pC (.int 2)) (pC (.int 32))) (pNil)))) (pNil)))))) (pCall (gd 2 sp__law_draw) (pCons (pVar 0) (pCons (pC (.int 4)) (pNil))))) (.nm 6)) (pSeq (pDrop (pMtT "list" rAppend (pVar 4) (pCons (pOp rAddV (pOp rAddV (pSliceV (pVar 3) (pNoPart) (pPart (pVar 5))) (pFz (pTmp (pCons (pOp rMod (pCB rIntP (pCons (pOp rAddV (pOp rIx (pVar 3) (pVar 5)) (pVar 6)) (pNil))) (pOp rPow (pC (.int 2)) (pC (.int 32)))) (pNil))))) (pSliceV (pVar 3) (pPart (pOp rAdd (pVar 5) (pC (.int 1)))) (pNoPart))) (pNil)))) (pSeq (pDrop (pMtT "list" rAppend (pVar 4) (pCons (pOp rAddV (pOp rAddV (pSliceV (pVar 3) (pNoPart) (pPart (pVar 5))) (pFz (pTmp (pCons (pOp rIx (pVar 3) (pVar 5)) (pCons (pOp rMod (pCB rIntP (pCons (pOp rAdd (pOp rIx (pVar 3) (pVar 5)) (pC (.int 1))) (pNil))) (pOp rPow (pC (.int 2)) (pC (.int 32)))) (pNil)))))) (pSliceV (pVar 3) (pPart (pOp rAdd (pVar 5) (pC (.int 1)))) (pNoPart))) (pNil)))) (pDrop (pMtT "list" rAppend (pVar 4) (pCons (pOp rAddV (pSliceV (pVar 3) (pNoPart) (pPart (pVar 5))) (pSliceV (pVar 3) (pPart (pOp rAdd (pVar 5) (pC (.int 1)))) (pNoPart))) (pNil)))))))) (pNext)) (pRet (pVar 4)))
/-- slots: 0 _law_deck_here, 1 _law_one, 2 _law_other, 3 _law_missed, 4 _law_due, 5 _law_found, 6 _law_way_here, 7 _law_spoilt_here, 8 _law_beyond, 9 _law_at, 10 _law_thing, 11 _law_good, 12 _law_by, 13 _law_serial -/
def t__law_steps_right (sp__law_fewest sp_fewest_steps sp_steps sp__law_spoilt sp_judge_steps sp__law_is_way : PSp) : PTS :=
  pSeq (pAsg (pCall (gd 3 sp__law_fewest) (pCons (pVar 1) (pCons (pVar 2) (pCons (pVar 3) (pNil))))) (.nm 4)) (pSeq (pAsg (pCall (gd 3 sp_fewest_steps) (pCons (pVar 1) (pCons (pVar 2) (pCons (pVar 3) (pNil))))) (.nm 5)) (pSeq (pAsg (pCall (gd 3 sp_steps) (pCons (pVar 1) (pCons (pVar 2) (pCons (pVar 3) (pNil))))) (.nm 6)) (pSeq (pIfS (pOr (pB (pOp rNeP (pCB rRepr (pCons (pVar 5) (pNil))) (pCB rRepr (pCons (pVar 4) (pNil))))) (pOr (pNot (pT (pUn (rIsi "list") (pVar 6)))) (pB (pOp rNeP (pCB rLen (pCons (pVar 6) (pNil))) (pVar 4))))) (pRet (pC (.bl false))) (pNext)) (pSeq (pIfS (pNot (pT (pCT rAllI (pLc (pIter (pVar 6)) (.nm 13) (pYes) (pAndV (pUn (rIsi "int") (pVar 13)) (pNotV (pUn (rIsi "bool") (pVar 13)))) [13])))) (pRet (pC (.bl false))) (pNext)) (pSeq (pIfS (pOr (pNot (pT (pCT rAllI (pLc (pIter (pVar 6)) (.nm 13) (pYes) (pChain rLe rLt (pC (.int 0)) (pVar 13) (pOp rPow (pC (.int 2)) (pC (.int 32)))) [13])))) (pNot (pT (pCall (gd 4 sp__law_is_way) (pCons (pVar 1) (pCons (pVar 2) (pCons (pVar 3) (pCons (pVar 6) (pNil))))))))) (pRet (pC (.bl false))) (pNext)) (pSeq (pIfS (pB (pOp rIsNotB (pCall (gd 4 sp_judge_steps) (pCons (pVar 1) (pCons (pVar 2) (pCons (pVar 3) (pCons (pVar 6) (pNil)))))) (pC (.bl true)))) (pRet (pC (.bl false))) (pNext)) (pSeq (pIfS (pB (pOp rIsNotB (pCallK (gd 4 sp_judge_steps) 0 4 [3, 2, 1, 0] pNil (pCons (pCB (onItems rLstV) (pCons (pVar 6) (pNil))) (pCons (pVar 3) (pCons (pVar 2) (pCons (pVar 1) (pNil)))))) (pC (.bl true)))) (pRet (pC (.bl false))) (pNext)) (pSeq (pFor (pIter (pCall (gd 4 sp__law_spoilt) (pCons (pVar 0) (pCons (pVar 1) (pCons (pVar 2) (pCons (pVar 6) (pNil))))))) (.nm 7) (pSeq (pAsg (pAndV (pOp rEqP (pCB rLen (pCons (pVar 7) (pNil))) (pVar 4)) (pCall (gd 4 sp__law_is_way) (pCons (pVar 1) (pCons (pVar 2) (pCons (pVar 3) (pCons (pVar 7) (pNil))))))) (.nm 11)) (pIfS (pB (pOp rNeP (pCB rRepr (pCons (pCall (gd 4 sp_judge_steps) (pCons (pVar 1) (pCons (pVar 2) (pCons (pVar 3) (pCons (pVar 7) (pNil)))))) (pNil))) (pCB rRepr (pCons (pVar 11) (pNil))))) (pRet (pC (.bl false))) (pNext)))) (pSeq (pAsg (pNew (pTmp (pNil))) (.nm 8)) (pSeq (pFor (pRng1 (pCB rMin2 (pCons (pC (.int 3)) (pCons (pCB rLen (pCons (pVar 6) (pNil))) (pNil))))) (.nm 9) (pFor (pIter (pTup (pCons (pOp rPow (pC (.int 2)) (pC (.int 32))) (pCons (pUn rNeg (pOp rPow (pC (.int 2)) (pC (.int 32)))) (pNil))))) (.nm 12) (pSeq (pDrop (pMtT "list" rAppend (pVar 8) (pCons (pOp rAddV (pOp rAddV (pSliceV (pVar 6) (pNoPart) (pPart (pVar 9))) (pFz (pTmp (pCons (pOp rAddV (pOp rIx (pVar 6) (pVar 9)) (pVar 12)) (pNil))))) (pSliceV (pVar 6) (pPart (pOp rAdd (pVar 9) (pC (.int 1)))) (pNoPart))) (pNil)))) (pDrop (pMtT "list" rAppend (pVar 8) (pCons (pOp rAddV (pOp rAddV (pSliceV (pVar 6) (pNoPart) (pPart (pOp rSub (pUn rNeg (pC (.int 1))) (pVar 9)))) (pFz (pTmp (pCons (pOp rAddV (pOp rIx (pVar 6) (pOp rSub (pUn rNeg (pC (.int 1))) (pVar 9))) (pVar 12)) (pNil))))) (pSliceV (pVar 6) (pPart (pOp rSub (pCB rLen (pCons (pVar 6) (pNil))) (pVar 9))) (pNoPart))) (pNil))))))) (pSeq (pFor (pIter (pOp rAddV (pFz (pTmp (pCons (pC .non) (pCons (pC (.str "way")) (pCons (pCB (onItems rTupI) (pCons (pVar 6) (pNil))) (pCons (pOp rAddV (pVar 6) (pFz (pTmp (pCons (pC .non) (pNil))))) (pCons (pOp rAddV (pSliceV (pVar 6) (pNoPart) (pPart (pUn rNeg (pC (.int 1))))) (pFz (pTmp (pCons (pC (.bl true)) (pNil))))) (pCons (pFz (pTmp (pCons (pVar 6) (pNil)))) (pCons (pC (.int 7)) (pNil)))))))))) (pVar 8))) (.nm 10) (pIfS (pB (pOp rIsNotB (pCall (gd 4 sp_judge_steps) (pCons (pVar 1) (pCons (pVar 2) (pCons (pVar 3) (pCons (pVar 10) (pNil)))))) (pC (.bl false)))) (pRet (pC (.bl false))) (pNext))) (pSeq (pDrop (pMtT "list" rAppend (pVar 6) (pCons (pC (.int 7)) (pNil)))) (pSeq (pIfS (pB (pOp rNeP (pCallK (gd 3 sp_fewest_steps) 0 3 [2, 1, 0] pNil (pCons (pVar 3) (pCons (pVar 2) (pCons (pVar 1) (pNil))))) (pVar 4))) (pRet (pC (.bl false))) (pNext)) (pRet (pOp rEqP (pCB rLen (pCons (pCallK (gd 3 sp_steps) 0 3 [2, 0, 1] pNil (pCons (pVar 2) (pCons (pVar 3) (pCons (pVar 1) (pNil))))) (pNil))) (pVar 4))))))))))))))))
/-- slots: 0 _law_script, 1 _law_deck_here, 2 _law_turn, 3 _law_one, 4 _law_other, 5 _law_missed -/
def t_law (sp__law_deck sp__law_serials sp__law_errors_right sp__law_circle_right sp__law_steps_right : PSp) : PTS :=
  pSeq (pAsg (pCall (gd 1 sp__law_deck) (pCons (pVar 0) (pNil))) (.nm 1)) (pSeq (pFor (pRng1 (pCB rMax2 (pCons (pC (.int 1)) (pCons (pCB rMin2 (pCons (pC (.int 3)) (pCons (pOp rFdiv (pCB rLen (pCons (pVar 0) (pNil))) (pC (.int 12))) (pNil)))) (pNil))))) (.nm 2) (pSeq (pAsg (pCall (gd 1 sp__law_serials) (pCons (pVar 1) (pNil))) (.tp [(.nm 3), (.nm 4), (.nm 5)])) (pSeq (pIfS (pOr (pNot (pT (pCall (gd 3 sp__law_circle_right) (pCons (pVar 1) (pCons (pVar 3) (pCons (pVar 4) (pNil))))))) (pNot (pT (pCall (gd 4 sp__law_steps_right) (pCons (pVar 1) (pCons (pVar 3) (pCons (pVar 4) (pCons (pVar 5) (pNil))))))))) (pRet (pC (.bl false))) (pNext)) (pIfS (pNot (pT (pCall (gd 3 sp__law_errors_right) (pCons (pVar 1) (pCons (pVar 3) (pCons (pVar 4) (pNil))))))) (pRet (pC (.bl false))) (pNext))))) (pRet (pC (.bl true))))
end L_k25
set_option maxHeartbeats 8000000
/-! Printed by tails.py: the rests of the readings. -/
namespace L_k25
open PySem MP
def u_law_draw_0_t_2 : PTS := pIfS (pB (pOp rGe (pVar 3) (pOp rPow (pC (.int 10)) (pC (.int 18))))) (pAsgS (pOp rSub (pVar 3) (pOp rPow (pC (.int 10)) (pC (.int 18)))) (pVar 0) (pC (.int 2)) rSetP) (pAsgS (pOp rAdd (pOp rAdd (pOp rIx (pVar 0) (pC (.int 3))) (pOp rMul (pC (.int 7)) (pVar 3))) (pC (.int 1))) (pVar 0) (pC (.int 3)) rSetP)
def u_law_draw_0_t_1 : PTS := pSeq (pAsgS (pOp rAdd (pOp rIx (pVar 0) (pC (.int 1))) (pC (.int 1))) (pVar 0) (pC (.int 1)) rSetP) u_law_draw_0_t_2
def u_law_draw_0_t_0 : PTS := pSeq (pAsg (pCB rAbs (pCons (pOp rIx (pOp rIx (pVar 0) (pC (.int 0))) (pOp rIx (pVar 0) (pC (.int 1)))) (pNil))) (.nm 3)) u_law_draw_0_t_1
def u_law_draw_1_t_2 : PTS := pRet (pVar 4)
def u_law_draw_1_t_1 : PTS := pSeq (pAsgS (pOp rFdiv (pOp rIx (pVar 0) (pC (.int 2))) (pVar 1)) (pVar 0) (pC (.int 2)) rSetP) u_law_draw_1_t_2
def u_law_draw_1_t_0 : PTS := pSeq (pAsg (pOp rMod (pCB rIntP (pCons (pOp rIx (pVar 0) (pC (.int 2))) (pNil))) (pVar 1)) (.nm 4)) u_law_draw_1_t_1
def u_law_draw_5 : PTS := pRet (pOp rMod (pOp rFdiv (pOp rMod (pCB rIntP (pCons (pOp rPow (pOp rIx (pVar 0) (pC (.int 3))) (pC (.int 3))) (pNil))) (pOp rAdd (pOp rPow (pC (.int 10)) (pC (.int 34))) (pC (.int 193)))) (pC (.int 4099))) (pVar 1))
def u_law_draw_4 : PTS := pSeq (pAsgS (pOp rMod (pCB rIntP (pCons (pOp rAddV (pOp rAddV (pOp rMulV (pVar 2) (pC (.int 65539))) (pOp rIx (pVar 0) (pC (.int 3)))) (pOp rIx (pVar 0) (pC (.int 4)))) (pNil))) (pOp rAdd (pOp rPow (pC (.int 10)) (pC (.int 31))) (pC (.int 33)))) (pVar 0) (pC (.int 3)) rSetP) u_law_draw_5
def u_law_draw_3 : PTS := pSeq (pAsg (pOp rMod (pCB rIntP (pCons (pOp rPow (pOp rAdd (pOp rIx (pVar 0) (pC (.int 3))) (pOp rMul (pC (.int 40487)) (pOp rIx (pVar 0) (pC (.int 4))))) (pC (.int 3))) (pNil))) (pOp rAdd (pOp rPow (pC (.int 10)) (pC (.int 33))) (pC (.int 61)))) (.nm 2)) u_law_draw_4
def u_law_draw_2 : PTS := pSeq (pAsgS (pOp rAdd (pOp rIx (pVar 0) (pC (.int 4))) (pC (.int 1))) (pVar 0) (pC (.int 4)) rSetP) u_law_draw_3
def u_law_draw_1 : PTS := pSeq (pIfS (pB (pOp rGt (pOp rIx (pVar 0) (pC (.int 2))) (pC (.int 0)))) u_law_draw_1_t_0 (pNext)) u_law_draw_2
def u_law_draw_0 : PTS := pSeq (pIfS (pAnd (pB (pOp rEqP (pOp rIx (pVar 0) (pC (.int 2))) (pC (.int 0)))) (pB (pOp rLt (pOp rIx (pVar 0) (pC (.int 1))) (pCB rLen (pCons (pOp rIx (pVar 0) (pC (.int 0))) (pNil)))))) u_law_draw_0_t_0 (pNext)) u_law_draw_1
theorem u_law_draw_eq : t__law_draw = u_law_draw_0 := rfl
def u_fewest_steps_8 (sp_need_serial sp_need_missed : PSp) : PTS := pRet (pOp rAdd (pOp rMul (pC (.int 2)) (pVar 4)) (pC (.int 1)))
def u_fewest_steps_7 (sp_need_serial sp_need_missed : PSp) : PTS := pSeq (pIfS (pB (pOp rLe (pVar 3) (pOp rMul (pC (.int 2)) (pC (.int 2147483647))))) (pRet (pOp rAdd (pVar 4) (pCB rMax2 (pCons (pC (.int 1)) (pCons (pOp rAdd (pOp rSub (pVar 3) (pOp rMul (pC (.int 2)) (pC (.int 2147483647)))) (pVar 4)) (pNil)))))) (pNext)) (u_fewest_steps_8 sp_need_serial sp_need_missed)
def u_fewest_steps_6 (sp_need_serial sp_need_missed : PSp) : PTS := pSeq (pIfS (pB (pOp rLe (pVar 3) (pC (.int 2147483647)))) (pRet (pC (.int 1))) (pNext)) (u_fewest_steps_7 sp_need_serial sp_need_missed)
def u_fewest_steps_5 (sp_need_serial sp_need_missed : PSp) : PTS := pSeq (pIfS (pB (pOp rEqP (pVar 3) (pC (.int 0)))) (pRet (pC (.int 0))) (pNext)) (u_fewest_steps_6 sp_need_serial sp_need_missed)
def u_fewest_steps_4 (sp_need_serial sp_need_missed : PSp) : PTS := pSeq (pAsg (pOp rAdd (pVar 2) (pC (.int 1))) (.nm 4)) (u_fewest_steps_5 sp_need_serial sp_need_missed)
def u_fewest_steps_3 (sp_need_serial sp_need_missed : PSp) : PTS := pSeq (pAsg (pOp rMod (pOp rSub (pVar 1) (pVar 0)) (pC (.int 4294967296))) (.nm 3)) (u_fewest_steps_4 sp_need_serial sp_need_missed)
def u_fewest_steps_2 (sp_need_serial sp_need_missed : PSp) : PTS := pSeq (pDrop (pCall (gd 1 sp_need_missed) (pCons (pVar 2) (pNil)))) (u_fewest_steps_3 sp_need_serial sp_need_missed)
def u_fewest_steps_1 (sp_need_serial sp_need_missed : PSp) : PTS := pSeq (pDrop (pCall (gd 1 sp_need_serial) (pCons (pVar 1) (pNil)))) (u_fewest_steps_2 sp_need_serial sp_need_missed)
def u_fewest_steps_0 (sp_need_serial sp_need_missed : PSp) : PTS := pSeq (pDrop (pCall (gd 1 sp_need_serial) (pCons (pVar 0) (pNil)))) (u_fewest_steps_1 sp_need_serial sp_need_missed)
theorem u_fewest_steps_eq (sp_need_serial sp_need_missed : PSp) : t_fewest_steps sp_need_serial sp_need_missed = u_fewest_steps_0 sp_need_serial sp_need_missed := rfl
def u_steps_7_b_2 (sp_fewest_steps : PSp) : PTS := pAsg (pOp rSub (pVar 8) (pVar 13)) (.nm 8)
def u_steps_7_b_1 (sp_fewest_steps : PSp) : PTS := pSeq (pAsgS (pOp rSub (pOp rIx (pVar 7) (pVar 9)) (pVar 13)) (pVar 7) (pVar 9) rSetP) (u_steps_7_b_2 sp_fewest_steps)
def u_steps_7_b_0 (sp_fewest_steps : PSp) : PTS := pSeq (pAsg (pCB rMin2 (pCons (pVar 8) (pCons (pOp rSub (pOp rIx (pVar 7) (pVar 9)) (pC (.int 1))) (pNil)))) (.nm 13)) (u_steps_7_b_1 sp_fewest_steps)
def u_steps_10_b_1 (sp_fewest_steps : PSp) : PTS := pDrop (pMtT "list" rAppend (pVar 10) (pCons (pVar 11) (pNil)))
def u_steps_10_b_0 (sp_fewest_steps : PSp) : PTS := pSeq (pAsg (pOp rMod (pOp rAddV (pVar 11) (pVar 12)) (pC (.int 4294967296))) (.nm 11)) (u_steps_10_b_1 sp_fewest_steps)
def u_steps_11 (sp_fewest_steps : PSp) : PTS := pRet (pVar 10)
def u_steps_10 (sp_fewest_steps : PSp) : PTS := pSeq (pFor (pIter (pVar 7)) (.nm 12) (u_steps_10_b_0 sp_fewest_steps)) (u_steps_11 sp_fewest_steps)
def u_steps_9 (sp_fewest_steps : PSp) : PTS := pSeq (pAsg (pVar 0) (.nm 11)) (u_steps_10 sp_fewest_steps)
def u_steps_8 (sp_fewest_steps : PSp) : PTS := pSeq (pAsg (pNew (pTmp (pNil))) (.nm 10)) (u_steps_9 sp_fewest_steps)
def u_steps_7 (sp_fewest_steps : PSp) : PTS := pSeq (pFor (pRng1 (pVar 3)) (.nm 9) (u_steps_7_b_0 sp_fewest_steps)) (u_steps_8 sp_fewest_steps)
def u_steps_6 (sp_fewest_steps : PSp) : PTS := pSeq (pAsg (pOp rSub (pCB (onList rSumI) (pCons (pVar 7) (pNil))) (pVar 6)) (.nm 8)) (u_steps_7 sp_fewest_steps)
def u_steps_5 (sp_fewest_steps : PSp) : PTS := pSeq (pAsg (pNew (pLc (pRng1 (pVar 3)) (.nm 9) (pYes) (pIf (pB (pOp rEqP (pOp rMod (pVar 9) (pVar 4)) (pC (.int 0)))) (pVar 5) (pC (.int 1))) [9])) (.nm 7)) (u_steps_6 sp_fewest_steps)
def u_steps_4 (sp_fewest_steps : PSp) : PTS := pSeq (pAsg (pOp rMod (pOp rSub (pVar 1) (pVar 0)) (pC (.int 4294967296))) (.nm 6)) (u_steps_5 sp_fewest_steps)
def u_steps_3 (sp_fewest_steps : PSp) : PTS := pSeq (pAsg (pOp rSub (pC (.int 2147483647)) (pVar 2)) (.nm 5)) (u_steps_4 sp_fewest_steps)
def u_steps_2 (sp_fewest_steps : PSp) : PTS := pSeq (pAsg (pOp rAdd (pVar 2) (pC (.int 1))) (.nm 4)) (u_steps_3 sp_fewest_steps)
def u_steps_1 (sp_fewest_steps : PSp) : PTS := pSeq (pIfS (pB (pOp rLt (pVar 3) (pC (.int 2)))) (pRet (pSlice (pFz (pTmp (pCons (pVar 1) (pNil)))) (pNoPart) (pPart (pVar 3)))) (pNext)) (u_steps_2 sp_fewest_steps)
def u_steps_0 (sp_fewest_steps : PSp) : PTS := pSeq (pAsg (pCall (gd 3 sp_fewest_steps) (pCons (pVar 0) (pCons (pVar 1) (pCons (pVar 2) (pNil))))) (.nm 3)) (u_steps_1 sp_fewest_steps)
theorem u_steps_eq (sp_fewest_steps : PSp) : t_steps sp_fewest_steps = u_steps_0 sp_fewest_steps := rfl
def u_newest_1_b_0 (sp_need_serial sp_newer : PSp) : PTS := pIfS (pT (pCT rAllI (pLc (pIter (pVar 0)) (.nm 2) (pYes) (pOrV (pOp rEqP (pVar 1) (pVar 2)) (pCall (gd 2 sp_newer) (pCons (pVar 1) (pCons (pVar 2) (pNil))))) [2]))) (pRet (pVar 1)) (pNext)
def u_newest_2 (sp_need_serial sp_newer : PSp) : PTS := pRet (pC .non)
def u_newest_1 (sp_need_serial sp_newer : PSp) : PTS := pSeq (pFor (pIter (pVar 0)) (.nm 1) (u_newest_1_b_0 sp_need_serial sp_newer)) (u_newest_2 sp_need_serial sp_newer)
def u_newest_0 (sp_need_serial sp_newer : PSp) : PTS := pSeq (pFor (pIter (pVar 0)) (.nm 1) (pDrop (pCall (gd 1 sp_need_serial) (pCons (pVar 1) (pNil))))) (u_newest_1 sp_need_serial sp_newer)
theorem u_newest_eq (sp_need_serial sp_newer : PSp) : t_newest sp_need_serial sp_newer = u_newest_0 sp_need_serial sp_newer := rfl
def u_judge_steps_5_b_3 (sp_fewest_steps sp_is_serial : PSp) : PTS := pAsg (pVar 7) (.nm 6)
def u_judge_steps_5_b_2 (sp_fewest_steps sp_is_serial : PSp) : PTS := pSeq (pDrop (pMtT "list" rAppend (pVar 5) (pCons (pOp rAddV (pOp rIx (pVar 5) (pUn rNeg (pC (.int 1)))) (pVar 8)) (pNil)))) (u_judge_steps_5_b_3 sp_fewest_steps sp_is_serial)
def u_judge_steps_5_b_1 (sp_fewest_steps sp_is_serial : PSp) : PTS := pSeq (pIfS (pOr (pB (pOp rLt (pVar 8) (pC (.int 1)))) (pB (pOp rGt (pVar 8) (pC (.int 2147483647))))) (pRet (pC (.bl false))) (pNext)) (u_judge_steps_5_b_2 sp_fewest_steps sp_is_serial)
def u_judge_steps_5_b_0 (sp_fewest_steps sp_is_serial : PSp) : PTS := pSeq (pAsg (pOp rMod (pOp rSub (pVar 7) (pVar 6)) (pC (.int 4294967296))) (.nm 8)) (u_judge_steps_5_b_1 sp_fewest_steps sp_is_serial)
def u_judge_steps_7 (sp_fewest_steps sp_is_serial : PSp) : PTS := pRet (pCT rAllI (pLc (pRng2 (pC (.int 1)) (pOp rAdd (pVar 4) (pC (.int 1)))) (.nm 9) (pYes) (pOp rLe (pOp rSub (pOp rIx (pVar 5) (pVar 9)) (pOp rIx (pVar 5) (pCB rMax2 (pCons (pC (.int 0)) (pCons (pOp rSub (pOp rSub (pVar 9) (pVar 2)) (pC (.int 1))) (pNil)))))) (pC (.int 2147483647))) [9]))
def u_judge_steps_6 (sp_fewest_steps sp_is_serial : PSp) : PTS := pSeq (pIfS (pB (pOp rNeP (pVar 6) (pVar 1))) (pRet (pC (.bl false))) (pNext)) (u_judge_steps_7 sp_fewest_steps sp_is_serial)
def u_judge_steps_5 (sp_fewest_steps sp_is_serial : PSp) : PTS := pSeq (pFor (pIter (pVar 3)) (.nm 7) (u_judge_steps_5_b_0 sp_fewest_steps sp_is_serial)) (u_judge_steps_6 sp_fewest_steps sp_is_serial)
def u_judge_steps_4 (sp_fewest_steps sp_is_serial : PSp) : PTS := pSeq (pAsg (pVar 0) (.nm 6)) (u_judge_steps_5 sp_fewest_steps sp_is_serial)
def u_judge_steps_3 (sp_fewest_steps sp_is_serial : PSp) : PTS := pSeq (pAsg (pNew (pTmp (pCons (pC (.int 0)) (pNil)))) (.nm 5)) (u_judge_steps_4 sp_fewest_steps sp_is_serial)
def u_judge_steps_2 (sp_fewest_steps sp_is_serial : PSp) : PTS := pSeq (pIfS (pNot (pT (pCT rAllI (pLc (pIter (pVar 3)) (.nm 7) (pYes) (pCall (gd 1 sp_is_serial) (pCons (pVar 7) (pNil))) [7])))) (pRet (pC (.bl false))) (pNext)) (u_judge_steps_3 sp_fewest_steps sp_is_serial)
def u_judge_steps_1 (sp_fewest_steps sp_is_serial : PSp) : PTS := pSeq (pIfS (pOr (pNot (pT (pUn (rIsi "list") (pVar 3)))) (pB (pOp rNeP (pCB rLen (pCons (pVar 3) (pNil))) (pVar 4)))) (pRet (pC (.bl false))) (pNext)) (u_judge_steps_2 sp_fewest_steps sp_is_serial)
def u_judge_steps_0 (sp_fewest_steps sp_is_serial : PSp) : PTS := pSeq (pAsg (pCall (gd 3 sp_fewest_steps) (pCons (pVar 0) (pCons (pVar 1) (pCons (pVar 2) (pNil))))) (.nm 4)) (u_judge_steps_1 sp_fewest_steps sp_is_serial)
theorem u_judge_steps_eq (sp_fewest_steps sp_is_serial : PSp) : t_judge_steps sp_fewest_steps sp_is_serial = u_judge_steps_0 sp_fewest_steps sp_is_serial := rfl
def u_law_serials_2_e_0 (sp__law_draw : PSp) : PTS := pIfS (pB (pOp rEqP (pCall (gd 2 sp__law_draw) (pCons (pVar 0) (pCons (pC (.int 2)) (pNil)))) (pC (.int 0)))) (pAsg (pOp rSub (pOp rAddV (pVar 2) (pCall (gd 2 sp__law_draw) (pCons (pVar 0) (pCons (pC (.int 9)) (pNil))))) (pC (.int 4))) (.nm 2)) (pNext)
def u_law_serials_4 (sp__law_draw : PSp) : PTS := pRet (pTup (pCons (pVar 1) (pCons (pOp rMod (pCB rIntP (pCons (pOp rAddV (pVar 1) (pVar 2)) (pNil))) (pOp rPow (pC (.int 2)) (pC (.int 32)))) (pCons (pOp rIx (pVar 3) (pCall (gd 2 sp__law_draw) (pCons (pVar 0) (pCons (pC (.int 4)) (pNil))))) (pNil)))))
def u_law_serials_3 (sp__law_draw : PSp) : PTS := pSeq (pAsg (pFz (pTmp (pCons (pCall (gd 2 sp__law_draw) (pCons (pVar 0) (pCons (pC (.int 3)) (pNil)))) (pCons (pCall (gd 2 sp__law_draw) (pCons (pVar 0) (pCons (pC (.int 12)) (pNil)))) (pCons (pOp rAdd (pC (.int 999)) (pCall (gd 2 sp__law_draw) (pCons (pVar 0) (pCons (pC (.int 2)) (pNil))))) (pCons (pCall (gd 2 sp__law_draw) (pCons (pVar 0) (pCons (pC (.int 1001)) (pNil)))) (pNil))))))) (.nm 3)) (u_law_serials_4 sp__law_draw)
def u_law_serials_2 (sp__law_draw : PSp) : PTS := pSeq (pIfS (pB (pOp rEqP (pCall (gd 2 sp__law_draw) (pCons (pVar 0) (pCons (pC (.int 2)) (pNil)))) (pC (.int 0)))) (pAsg (pCall (gd 2 sp__law_draw) (pCons (pVar 0) (pCons (pOp rPow (pC (.int 2)) (pC (.int 32))) (pNil)))) (.nm 2)) (u_law_serials_2_e_0 sp__law_draw)) (u_law_serials_3 sp__law_draw)
def u_law_serials_1 (sp__law_draw : PSp) : PTS := pSeq (pAsg (pIxT rIxT (pTmp (pCons (pC (.int 0)) (pCons (pC (.int 1)) (pCons (pOp rSub (pOp rPow (pC (.int 2)) (pC (.int 31))) (pC (.int 1))) (pCons (pOp rPow (pC (.int 2)) (pC (.int 31))) (pCons (pOp rSub (pOp rPow (pC (.int 2)) (pC (.int 32))) (pC (.int 2))) (pCons (pOp rSub (pOp rPow (pC (.int 2)) (pC (.int 32))) (pC (.int 1))) (pNil)))))))) (pCall (gd 2 sp__law_draw) (pCons (pVar 0) (pCons (pC (.int 6)) (pNil))))) (.nm 2)) (u_law_serials_2 sp__law_draw)
def u_law_serials_0 (sp__law_draw : PSp) : PTS := pSeq (pAsg (pIxT rIxT (pTmp (pCons (pC (.int 0)) (pCons (pOp rSub (pOp rPow (pC (.int 2)) (pC (.int 32))) (pC (.int 1))) (pCons (pCall (gd 2 sp__law_draw) (pCons (pVar 0) (pCons (pOp rPow (pC (.int 2)) (pC (.int 32))) (pNil)))) (pCons (pCall (gd 2 sp__law_draw) (pCons (pVar 0) (pCons (pC (.int 10)) (pNil)))) (pNil)))))) (pCall (gd 2 sp__law_draw) (pCons (pVar 0) (pCons (pC (.int 4)) (pNil))))) (.nm 1)) (u_law_serials_1 sp__law_draw)
theorem u_law_serials_eq (sp__law_draw : PSp) : t__law_serials sp__law_draw = u_law_serials_0 sp__law_draw := rfl
def u_law_fewest_3 (sp__law_way sp__law_longest : PSp) : PTS := pRet (pVar 4)
def u_law_fewest_2 (sp__law_way sp__law_longest : PSp) : PTS := pSeq (pWhile (pAnd (pB (pOp rLt (pVar 4) (pC (.int 2100)))) (pB (pOp rLt (pCall (gd 2 sp__law_longest) (pCons (pVar 4) (pCons (pOp rAdd (pVar 2) (pC (.int 1))) (pNil)))) (pVar 3)))) (pAsg (pOp rAdd (pVar 4) (pC (.int 1))) (.nm 4))) (u_law_fewest_3 sp__law_way sp__law_longest)
def u_law_fewest_1 (sp__law_way sp__law_longest : PSp) : PTS := pSeq (pAsg (pC (.int 0)) (.nm 4)) (u_law_fewest_2 sp__law_way sp__law_longest)
def u_law_fewest_0 (sp__law_way sp__law_longest : PSp) : PTS := pSeq (pAsg (pCall (gd 2 sp__law_way) (pCons (pVar 1) (pCons (pVar 0) (pNil)))) (.nm 3)) (u_law_fewest_1 sp__law_way sp__law_longest)
theorem u_law_fewest_eq (sp__law_way sp__law_longest : PSp) : t__law_fewest sp__law_way sp__law_longest = u_law_fewest_0 sp__law_way sp__law_longest := rfl
def u_law_is_way_2_b_3 (sp__law_is_newer sp__law_way : PSp) : PTS := pAsg (pVar 6) (.nm 5)
def u_law_is_way_2_b_2 (sp__law_is_newer sp__law_way : PSp) : PTS := pSeq (pIfS (pB (pOp rGe (pOp rSub (pOp rIx (pVar 4) (pUn rNeg (pC (.int 1)))) (pOp rIx (pVar 4) (pCB rMax2 (pCons (pC (.int 0)) (pCons (pOp rSub (pOp rSub (pCB rLen (pCons (pVar 4) (pNil))) (pC (.int 2))) (pVar 2)) (pNil)))))) (pOp rPow (pC (.int 2)) (pC (.int 31))))) (pRet (pC (.bl false))) (pNext)) (u_law_is_way_2_b_3 sp__law_is_newer sp__law_way)
def u_law_is_way_2_b_1 (sp__law_is_newer sp__law_way : PSp) : PTS := pSeq (pDrop (pMtT "list" rAppend (pVar 4) (pCons (pOp rAddV (pOp rIx (pVar 4) (pUn rNeg (pC (.int 1)))) (pCall (gd 2 sp__law_way) (pCons (pVar 6) (pCons (pVar 5) (pNil))))) (pNil)))) (u_law_is_way_2_b_2 sp__law_is_newer sp__law_way)
def u_law_is_way_2_b_0 (sp__law_is_newer sp__law_way : PSp) : PTS := pSeq (pIfS (pNot (pT (pCall (gd 2 sp__law_is_newer) (pCons (pVar 6) (pCons (pVar 5) (pNil)))))) (pRet (pC (.bl false))) (pNext)) (u_law_is_way_2_b_1 sp__law_is_newer sp__law_way)
def u_law_is_way_3 (sp__law_is_newer sp__law_way : PSp) : PTS := pRet (pOp rEqP (pVar 5) (pVar 1))
def u_law_is_way_2 (sp__law_is_newer sp__law_way : PSp) : PTS := pSeq (pFor (pIter (pVar 3)) (.nm 6) (u_law_is_way_2_b_0 sp__law_is_newer sp__law_way)) (u_law_is_way_3 sp__law_is_newer sp__law_way)
def u_law_is_way_1 (sp__law_is_newer sp__law_way : PSp) : PTS := pSeq (pAsg (pVar 0) (.nm 5)) (u_law_is_way_2 sp__law_is_newer sp__law_way)
def u_law_is_way_0 (sp__law_is_newer sp__law_way : PSp) : PTS := pSeq (pAsg (pNew (pTmp (pCons (pC (.int 0)) (pNil)))) (.nm 4)) (u_law_is_way_1 sp__law_is_newer sp__law_way)
theorem u_law_is_way_eq (sp__law_is_newer sp__law_way : PSp) : t__law_is_way sp__law_is_newer sp__law_way = u_law_is_way_0 sp__law_is_newer sp__law_way := rfl
def u_law_error_2 (sp_newer sp_further sp_newest sp_fewest_steps sp_steps sp_judge_steps : PSp) : PTS := pRet (pVar 4)
def u_law_error_1 (sp_newer sp_further sp_newest sp_fewest_steps sp_steps sp_judge_steps : PSp) : PTS := pSeq (pTryT es (pIfS (pB (pOp rEqP (pVar 0) (pC (.int 0)))) (pDrop (pCall (gd 2 sp_newer) (pCons (pVar 1) (pCons (pVar 2) (pNil))))) (pIfS (pB (pOp rEqP (pVar 0) (pC (.int 1)))) (pDrop (pCall (gd 2 sp_further) (pCons (pVar 1) (pCons (pVar 3) (pNil))))) (pIfS (pB (pOp rEqP (pVar 0) (pC (.int 2)))) (pDrop (pCall (gd 1 sp_newest) (pCons (pFz (pTmp (pCons (pVar 2) (pCons (pVar 1) (pCons (pVar 2) (pNil)))))) (pNil)))) (pIfS (pB (pOp rEqP (pVar 0) (pC (.int 3)))) (pDrop (pCall (gd 3 sp_fewest_steps) (pCons (pVar 1) (pCons (pVar 2) (pCons (pVar 3) (pNil)))))) (pIfS (pB (pOp rEqP (pVar 0) (pC (.int 4)))) (pDrop (pCall (gd 3 sp_steps) (pCons (pVar 1) (pCons (pVar 2) (pCons (pVar 3) (pNil)))))) (pDrop (pCall (gd 4 sp_judge_steps) (pCons (pVar 1) (pCons (pVar 2) (pCons (pVar 3) (pCons (pFz (pTmp (pNil))) (pNil)))))))))))) "TreeError" 5 (pAsg (pTup (pCons (pErrIs es 5 (fun c => catches c "InvalidSerial")) (pCons (pErrIs es 5 (fun c => catches c "InvalidNumber")) (pCons (pErrVal es 5) (pNil))))) (.nm 4))) (u_law_error_2 sp_newer sp_further sp_newest sp_fewest_steps sp_steps sp_judge_steps)
def u_law_error_0 (sp_newer sp_further sp_newest sp_fewest_steps sp_steps sp_judge_steps : PSp) : PTS := pSeq (pAsg (pC .non) (.nm 4)) (u_law_error_1 sp_newer sp_further sp_newest sp_fewest_steps sp_steps sp_judge_steps)
theorem u_law_error_eq (sp_newer sp_further sp_newest sp_fewest_steps sp_steps sp_judge_steps : PSp) : t__law_error sp_newer sp_further sp_newest sp_fewest_steps sp_steps sp_judge_steps = u_law_error_0 sp_newer sp_further sp_newest sp_fewest_steps sp_steps sp_judge_steps := rfl
def u_law_errors_right_3_b_4 (sp__law_draw sp__law_error : PSp) : PTS := pIfS (pB (pUn rNotN (pCall (gd 4 sp__law_error) (pCons (pVar 6) (pCons (pVar 1) (pCons (pVar 2) (pCons (pC (.int 0)) (pNil)))))))) (pRet (pC (.bl false))) (pNext)
def u_law_errors_right_3_b_3 (sp__law_draw sp__law_error : PSp) : PTS := pSeq (pIfS (pB (pOp rNeP (pCall (gd 4 sp__law_error) (pCons (pVar 6) (pCons (pVar 3) (pCons (pVar 4) (pCons (pVar 5) (pNil)))))) (pTup (pCons (pC (.bl true)) (pCons (pC (.bl false)) (pCons (pVar 7) (pNil))))))) (pRet (pC (.bl false))) (pNext)) (u_law_errors_right_3_b_4 sp__law_draw sp__law_error)
def u_law_errors_right_3_b_2 (sp__law_draw sp__law_error : PSp) : PTS := pSeq (pAsg (pIf (pB (pOp rNeP (pVar 6) (pC (.int 2)))) (pVar 3) (pVar 4)) (.nm 7)) (u_law_errors_right_3_b_3 sp__law_draw sp__law_error)
def u_law_errors_right_3_b_1 (sp__law_draw sp__law_error : PSp) : PTS := pSeq (pIfS (pAnd (pB (pOp rNeP (pVar 6) (pC (.int 1)))) (pB (pOp rNeP (pCall (gd 4 sp__law_error) (pCons (pVar 6) (pCons (pVar 1) (pCons (pVar 3) (pCons (pC (.int 0)) (pNil)))))) (pTup (pCons (pC (.bl true)) (pCons (pC (.bl false)) (pCons (pVar 3) (pNil)))))))) (pRet (pC (.bl false))) (pNext)) (u_law_errors_right_3_b_2 sp__law_draw sp__law_error)
def u_law_errors_right_3_b_0 (sp__law_draw sp__law_error : PSp) : PTS := pSeq (pIfS (pB (pOp rNeP (pCall (gd 4 sp__law_error) (pCons (pVar 6) (pCons (pVar 3) (pCons (pVar 2) (pCons (pC (.int 0)) (pNil)))))) (pTup (pCons (pC (.bl true)) (pCons (pC (.bl false)) (pCons (pVar 3) (pNil))))))) (pRet (pC (.bl false))) (pNext)) (u_law_errors_right_3_b_1 sp__law_draw sp__law_error)
def u_law_errors_right_5_b_0_b_0 (sp__law_draw sp__law_error : PSp) : PTS := pIfS (pB (pOp rNeP (pCall (gd 4 sp__law_error) (pCons (pVar 6) (pCons (pVar 1) (pCons (pVar 2) (pCons (pVar 8) (pNil)))))) (pTup (pCons (pC (.bl false)) (pCons (pC (.bl true)) (pCons (pVar 8) (pNil))))))) (pRet (pC (.bl false))) (pNext)
def u_law_errors_right_5_b_1 (sp__law_draw sp__law_error : PSp) : PTS := pIfS (pB (pUn rNotN (pCall (gd 4 sp__law_error) (pCons (pVar 6) (pCons (pVar 1) (pCons (pVar 2) (pCons (pC (.int 1000)) (pNil)))))))) (pRet (pC (.bl false))) (pNext)
def u_law_errors_right_5_b_0 (sp__law_draw sp__law_error : PSp) : PTS := pSeq (pFor (pIter (pTup (pCons (pVar 5) (pCons (pC (.int 1001)) (pCons (pOp rSub (pC (.int 1001)) (pVar 5)) (pNil)))))) (.nm 8) (u_law_errors_right_5_b_0_b_0 sp__law_draw sp__law_error)) (u_law_errors_right_5_b_1 sp__law_draw sp__law_error)
def u_law_errors_right_6 (sp__law_draw sp__law_error : PSp) : PTS := pRet (pC (.bl true))
def u_law_errors_right_5 (sp__law_draw sp__law_error : PSp) : PTS := pSeq (pFor (pRng2 (pC (.int 3)) (pC (.int 6))) (.nm 6) (u_law_errors_right_5_b_0 sp__law_draw sp__law_error)) (u_law_errors_right_6 sp__law_draw sp__law_error)
def u_law_errors_right_4 (sp__law_draw sp__law_error : PSp) : PTS := pSeq (pIfS (pOr (pB (pOp rNeP (pCall (gd 4 sp__law_error) (pCons (pC (.int 1)) (pCons (pVar 1) (pCons (pVar 2) (pCons (pVar 5) (pNil)))))) (pTup (pCons (pC (.bl false)) (pCons (pC (.bl true)) (pCons (pVar 5) (pNil))))))) (pB (pUn rNotN (pCall (gd 4 sp__law_error) (pCons (pC (.int 1)) (pCons (pVar 1) (pCons (pVar 2) (pCons (pOp rPow (pC (.int 10)) (pC (.int 20))) (pNil))))))))) (pRet (pC (.bl false))) (pNext)) (u_law_errors_right_5 sp__law_draw sp__law_error)
def u_law_errors_right_3 (sp__law_draw sp__law_error : PSp) : PTS := pSeq (pFor (pRng1 (pC (.int 6))) (.nm 6) (u_law_errors_right_3_b_0 sp__law_draw sp__law_error)) (u_law_errors_right_4 sp__law_draw sp__law_error)
def u_law_errors_right_2 (sp__law_draw sp__law_error : PSp) : PTS := pSeq (pAsg (pIxT rIxT (pTmp (pCons (pUn rNeg (pC (.int 1))) (pCons (pOp rSub (pUn rNeg (pC (.int 1))) (pCall (gd 2 sp__law_draw) (pCons (pVar 0) (pCons (pOp rPow (pC (.int 10)) (pC (.int 20))) (pNil))))) (pNil)))) (pCall (gd 2 sp__law_draw) (pCons (pVar 0) (pCons (pC (.int 2)) (pNil))))) (.nm 5)) (u_law_errors_right_3 sp__law_draw sp__law_error)
def u_law_errors_right_1 (sp__law_draw sp__law_error : PSp) : PTS := pSeq (pAsg (pIxT rIxT (pTmp (pCons (pUn rNeg (pC (.int 2))) (pCons (pOp rPow (pC (.int 2)) (pC (.int 33))) (pNil)))) (pCall (gd 2 sp__law_draw) (pCons (pVar 0) (pCons (pC (.int 2)) (pNil))))) (.nm 4)) (u_law_errors_right_2 sp__law_draw sp__law_error)
def u_law_errors_right_0 (sp__law_draw sp__law_error : PSp) : PTS := pSeq (pAsg (pIxT rIxT (pTmp (pCons (pUn rNeg (pC (.int 1))) (pCons (pOp rPow (pC (.int 2)) (pC (.int 32))) (pCons (pUn rNeg (pOp rPow (pC (.int 2)) (pC (.int 40)))) (pCons (pOp rAdd (pOp rAdd (pOp rPow (pC (.int 2)) (pC (.int 32))) (pC (.int 1))) (pCall (gd 2 sp__law_draw) (pCons (pVar 0) (pCons (pOp rPow (pC (.int 2)) (pC (.int 40))) (pNil))))) (pNil)))))) (pCall (gd 2 sp__law_draw) (pCons (pVar 0) (pCons (pC (.int 4)) (pNil))))) (.nm 3)) (u_law_errors_right_1 sp__law_draw sp__law_error)
theorem u_law_errors_right_eq (sp__law_draw sp__law_error : PSp) : t__law_errors_right sp__law_draw sp__law_error = u_law_errors_right_0 sp__law_draw sp__law_error := rfl
def u_law_circle_right_9 (sp_further sp__law_draw sp_newer sp__law_is_newer sp_newest : PSp) : PTS := pRet (pAndV (pOp rEqP (pCB rRepr (pCons (pCall (gd 1 sp_newest) (pCons (pVar 6) (pNil))) (pNil))) (pCB rRepr (pCons (pOp rIx (pOp rAddV (pVar 7) (pFz (pTmp (pCons (pC .non) (pNil))))) (pC (.int 0))) (pNil)))) (pAndV (pOp rEqP (pCallK (gd 1 sp_newest) 0 1 [0] pNil (pCons (pVar 6) (pNil))) (pCall (gd 1 sp_newest) (pCons (pVar 6) (pNil)))) (pOp rEqP (pVar 6) (pVar 8))))
def u_law_circle_right_8 (sp_further sp__law_draw sp_newer sp__law_is_newer sp_newest : PSp) : PTS := pSeq (pAsg (pCB (onItems rLstV) (pCons (pVar 6) (pNil))) (.nm 8)) (u_law_circle_right_9 sp_further sp__law_draw sp_newer sp__law_is_newer sp_newest)
def u_law_circle_right_7 (sp_further sp__law_draw sp_newer sp__law_is_newer sp_newest : PSp) : PTS := pSeq (pAsg (pFz (pLc (pIter (pVar 6)) (.nm 10) (pT (pCT rAllI (pLc (pIter (pVar 6)) (.nm 11) (pYes) (pOrV (pOp rEqP (pVar 10) (pVar 11)) (pCall (gd 2 sp__law_is_newer) (pCons (pVar 10) (pCons (pVar 11) (pNil))))) [11]))) (pVar 10) [10])) (.nm 7)) (u_law_circle_right_8 sp_further sp__law_draw sp_newer sp__law_is_newer sp_newest)
def u_law_circle_right_6 (sp_further sp__law_draw sp_newer sp__law_is_newer sp_newest : PSp) : PTS := pSeq (pAsg (pFz (pLc (pRng1 (pCall (gd 2 sp__law_draw) (pCons (pVar 0) (pCons (pC (.int 8)) (pNil))))) (.nm 9) (pYes) (pOp rIx (pVar 5) (pCall (gd 2 sp__law_draw) (pCons (pVar 0) (pCons (pC (.int 5)) (pNil))))) [9])) (.nm 6)) (u_law_circle_right_7 sp_further sp__law_draw sp_newer sp__law_is_newer sp_newest)
def u_law_circle_right_5 (sp_further sp__law_draw sp_newer sp__law_is_newer sp_newest : PSp) : PTS := pSeq (pAsg (pFz (pTmp (pCons (pVar 1) (pCons (pVar 2) (pCons (pVar 4) (pCons (pOp rMod (pCB rIntP (pCons (pOp rAdd (pVar 1) (pOp rPow (pC (.int 2)) (pC (.int 31)))) (pNil))) (pOp rPow (pC (.int 2)) (pC (.int 32)))) (pCons (pCall (gd 2 sp__law_draw) (pCons (pVar 0) (pCons (pOp rPow (pC (.int 2)) (pC (.int 32))) (pNil)))) (pNil)))))))) (.nm 5)) (u_law_circle_right_6 sp_further sp__law_draw sp_newer sp__law_is_newer sp_newest)
def u_law_circle_right_4 (sp_further sp__law_draw sp_newer sp__law_is_newer sp_newest : PSp) : PTS := pSeq (pIfS (pOr (pB (pOp rNeP (pCB rRepr (pCons (pVar 4) (pNil))) (pCB rRepr (pCons (pOp rMod (pCB rIntP (pCons (pOp rAddV (pVar 1) (pVar 3)) (pNil))) (pOp rPow (pC (.int 2)) (pC (.int 32)))) (pNil))))) (pB (pOp rNeP (pCallK (gd 2 sp_further) 0 2 [1, 0] pNil (pCons (pVar 3) (pCons (pVar 1) (pNil)))) (pVar 4)))) (pRet (pC (.bl false))) (pNext)) (u_law_circle_right_5 sp_further sp__law_draw sp_newer sp__law_is_newer sp_newest)
def u_law_circle_right_3 (sp_further sp__law_draw sp_newer sp__law_is_newer sp_newest : PSp) : PTS := pSeq (pAsg (pCall (gd 2 sp_further) (pCons (pVar 1) (pCons (pVar 3) (pNil)))) (.nm 4)) (u_law_circle_right_4 sp_further sp__law_draw sp_newer sp__law_is_newer sp_newest)
def u_law_circle_right_2 (sp_further sp__law_draw sp_newer sp__law_is_newer sp_newest : PSp) : PTS := pSeq (pAsg (pIxT rIxT (pTmp (pCons (pCall (gd 2 sp__law_draw) (pCons (pVar 0) (pCons (pC (.int 5)) (pNil)))) (pCons (pCall (gd 2 sp__law_draw) (pCons (pVar 0) (pCons (pOp rPow (pC (.int 2)) (pC (.int 32))) (pNil)))) (pCons (pCall (gd 2 sp__law_draw) (pCons (pVar 0) (pCons (pOp rPow (pC (.int 10)) (pC (.int 40))) (pNil)))) (pNil))))) (pCall (gd 2 sp__law_draw) (pCons (pVar 0) (pCons (pC (.int 3)) (pNil))))) (.nm 3)) (u_law_circle_right_3 sp_further sp__law_draw sp_newer sp__law_is_newer sp_newest)
def u_law_circle_right_1 (sp_further sp__law_draw sp_newer sp__law_is_newer sp_newest : PSp) : PTS := pSeq (pIfS (pB (pOp rNeP (pCB rRepr (pCons (pCallK (gd 2 sp_newer) 0 2 [1, 0] pNil (pCons (pVar 1) (pCons (pVar 2) (pNil)))) (pNil))) (pCB rRepr (pCons (pCall (gd 2 sp__law_is_newer) (pCons (pVar 2) (pCons (pVar 1) (pNil)))) (pNil))))) (pRet (pC (.bl false))) (pNext)) (u_law_circle_right_2 sp_further sp__law_draw sp_newer sp__law_is_newer sp_newest)
def u_law_circle_right_0 (sp_further sp__law_draw sp_newer sp__law_is_newer sp_newest : PSp) : PTS := pSeq (pIfS (pB (pOp rNeP (pCB rRepr (pCons (pCall (gd 2 sp_newer) (pCons (pVar 1) (pCons (pVar 2) (pNil)))) (pNil))) (pCB rRepr (pCons (pCall (gd 2 sp__law_is_newer) (pCons (pVar 1) (pCons (pVar 2) (pNil)))) (pNil))))) (pRet (pC (.bl false))) (pNext)) (u_law_circle_right_1 sp_further sp__law_draw sp_newer sp__law_is_newer sp_newest)
theorem u_law_circle_right_eq (sp_further sp__law_draw sp_newer sp__law_is_newer sp_newest : PSp) : t__law_circle_right sp_further sp__law_draw sp_newer sp__law_is_newer sp_newest = u_law_circle_right_0 sp_further sp__law_draw sp_newer sp__law_is_newer sp_newest := rfl
def u_law_spoilt_1_t_4 (sp__law_draw : PSp) : PTS := pDrop (pMtT "list" rAppend (pVar 4) (pCons (pOp rAddV (pSliceV (pVar 3) (pNoPart) (pPart (pVar 5))) (pSliceV (pVar 3) (pPart (pOp rAdd (pVar 5) (pC (.int 1)))) (pNoPart))) (pNil)))
def u_law_spoilt_1_t_3 (sp__law_draw : PSp) : PTS := pSeq (pDrop (pMtT "list" rAppend (pVar 4) (pCons (pOp rAddV (pOp rAddV (pSliceV (pVar 3) (pNoPart) (pPart (pVar 5))) (pFz (pTmp (pCons (pOp rIx (pVar 3) (pVar 5)) (pCons (pOp rMod (pCB rIntP (pCons (pOp rAdd (pOp rIx (pVar 3) (pVar 5)) (pC (.int 1))) (pNil))) (pOp rPow (pC (.int 2)) (pC (.int 32)))) (pNil)))))) (pSliceV (pVar 3) (pPart (pOp rAdd (pVar 5) (pC (.int 1)))) (pNoPart))) (pNil)))) (u_law_spoilt_1_t_4 sp__law_draw)
def u_law_spoilt_1_t_2 (sp__law_draw : PSp) : PTS := pSeq (pDrop (pMtT "list" rAppend (pVar 4) (pCons (pOp rAddV (pOp rAddV (pSliceV (pVar 3) (pNoPart) (pPart (pVar 5))) (pFz (pTmp (pCons (pOp rMod (pCB rIntP (pCons (pOp rAddV (pOp rIx (pVar 3) (pVar 5)) (pVar 6)) (pNil))) (pOp rPow (pC (.int 2)) (pC (.int 32)))) (pNil))))) (pSliceV (pVar 3) (pPart (pOp rAdd (pVar 5) (pC (.int 1)))) (pNoPart))) (pNil)))) (u_law_spoilt_1_t_3 sp__law_draw)
def u_law_spoilt_1_t_1 (sp__law_draw : PSp) : PTS := pSeq (pAsg (pIxT rIxT (pTmp (pCons (pC (.int 1)) (pCons (pUn rNeg (pC (.int 1))) (pCons (pOp rPow (pC (.int 2)) (pC (.int 31))) (pCons (pCall (gd 2 sp__law_draw) (pCons (pVar 0) (pCons (pOp rPow (pC (.int 2)) (pC (.int 32))) (pNil)))) (pNil)))))) (pCall (gd 2 sp__law_draw) (pCons (pVar 0) (pCons (pC (.int 4)) (pNil))))) (.nm 6)) (u_law_spoilt_1_t_2 sp__law_draw)
def u_law_spoilt_1_t_0 (sp__law_draw : PSp) : PTS := pSeq (pAsg (pCall (gd 2 sp__law_draw) (pCons (pVar 0) (pCons (pCB rLen (pCons (pVar 3) (pNil))) (pNil)))) (.nm 5)) (u_law_spoilt_1_t_1 sp__law_draw)
def u_law_spoilt_2 (sp__law_draw : PSp) : PTS := pRet (pVar 4)
def u_law_spoilt_1 (sp__law_draw : PSp) : PTS := pSeq (pIfS (pB (pOp rNeP (pVar 3) (pFz (pTmp (pNil))))) (u_law_spoilt_1_t_0 sp__law_draw) (pNext)) (u_law_spoilt_2 sp__law_draw)
def u_law_spoilt_0 (sp__law_draw : PSp) : PTS := pSeq (pAsg (pNew (pTmp (pCons (pOp rAddV (pVar 3) (pFz (pTmp (pCons (pVar 2) (pNil))))) (pCons (pSliceV (pVar 3) (pPart (pC (.int 1))) (pNoPart)) (pCons (pSliceV (pVar 3) (pNoPart) (pPart (pUn rNeg (pC (.int 1))))) (pCons (pOp rAddV (pFz (pTmp (pCons (pVar 1) (pNil)))) (pVar 3)) (pCons (pFz (pTmp (pCons (pVar 1) (pCons (pVar 2) (pNil))))) (pCons (pUn rRevV (pVar 3)) (pNil))))))))) (.nm 4)) (u_law_spoilt_1 sp__law_draw)
theorem u_law_spoilt_eq (sp__law_draw : PSp) : t__law_spoilt sp__law_draw = u_law_spoilt_0 sp__law_draw := rfl
def u_law_steps_right_8_b_1 (sp__law_fewest sp_fewest_steps sp_steps sp__law_spoilt sp_judge_steps sp__law_is_way : PSp) : PTS := pIfS (pB (pOp rNeP (pCB rRepr (pCons (pCall (gd 4 sp_judge_steps) (pCons (pVar 1) (pCons (pVar 2) (pCons (pVar 3) (pCons (pVar 7) (pNil)))))) (pNil))) (pCB rRepr (pCons (pVar 11) (pNil))))) (pRet (pC (.bl false))) (pNext)
def u_law_steps_right_8_b_0 (sp__law_fewest sp_fewest_steps sp_steps sp__law_spoilt sp_judge_steps sp__law_is_way : PSp) : PTS := pSeq (pAsg (pAndV (pOp rEqP (pCB rLen (pCons (pVar 7) (pNil))) (pVar 4)) (pCall (gd 4 sp__law_is_way) (pCons (pVar 1) (pCons (pVar 2) (pCons (pVar 3) (pCons (pVar 7) (pNil))))))) (.nm 11)) (u_law_steps_right_8_b_1 sp__law_fewest sp_fewest_steps sp_steps sp__law_spoilt sp_judge_steps sp__law_is_way)
def u_law_steps_right_10_b_0_b_1 (sp__law_fewest sp_fewest_steps sp_steps sp__law_spoilt sp_judge_steps sp__law_is_way : PSp) : PTS := pDrop (pMtT "list" rAppend (pVar 8) (pCons (pOp rAddV (pOp rAddV (pSliceV (pVar 6) (pNoPart) (pPart (pOp rSub (pUn rNeg (pC (.int 1))) (pVar 9)))) (pFz (pTmp (pCons (pOp rAddV (pOp rIx (pVar 6) (pOp rSub (pUn rNeg (pC (.int 1))) (pVar 9))) (pVar 12)) (pNil))))) (pSliceV (pVar 6) (pPart (pOp rSub (pCB rLen (pCons (pVar 6) (pNil))) (pVar 9))) (pNoPart))) (pNil)))
def u_law_steps_right_10_b_0_b_0 (sp__law_fewest sp_fewest_steps sp_steps sp__law_spoilt sp_judge_steps sp__law_is_way : PSp) : PTS := pSeq (pDrop (pMtT "list" rAppend (pVar 8) (pCons (pOp rAddV (pOp rAddV (pSliceV (pVar 6) (pNoPart) (pPart (pVar 9))) (pFz (pTmp (pCons (pOp rAddV (pOp rIx (pVar 6) (pVar 9)) (pVar 12)) (pNil))))) (pSliceV (pVar 6) (pPart (pOp rAdd (pVar 9) (pC (.int 1)))) (pNoPart))) (pNil)))) (u_law_steps_right_10_b_0_b_1 sp__law_fewest sp_fewest_steps sp_steps sp__law_spoilt sp_judge_steps sp__law_is_way)
def u_law_steps_right_10_b_0 (sp__law_fewest sp_fewest_steps sp_steps sp__law_spoilt sp_judge_steps sp__law_is_way : PSp) : PTS := pFor (pIter (pTup (pCons (pOp rPow (pC (.int 2)) (pC (.int 32))) (pCons (pUn rNeg (pOp rPow (pC (.int 2)) (pC (.int 32)))) (pNil))))) (.nm 12) (u_law_steps_right_10_b_0_b_0 sp__law_fewest sp_fewest_steps sp_steps sp__law_spoilt sp_judge_steps sp__law_is_way)
def u_law_steps_right_11_b_0 (sp__law_fewest sp_fewest_steps sp_steps sp__law_spoilt sp_judge_steps sp__law_is_way : PSp) : PTS := pIfS (pB (pOp rIsNotB (pCall (gd 4 sp_judge_steps) (pCons (pVar 1) (pCons (pVar 2) (pCons (pVar 3) (pCons (pVar 10) (pNil)))))) (pC (.bl false)))) (pRet (pC (.bl false))) (pNext)
def u_law_steps_right_14 (sp__law_fewest sp_fewest_steps sp_steps sp__law_spoilt sp_judge_steps sp__law_is_way : PSp) : PTS := pRet (pOp rEqP (pCB rLen (pCons (pCallK (gd 3 sp_steps) 0 3 [2, 0, 1] pNil (pCons (pVar 2) (pCons (pVar 3) (pCons (pVar 1) (pNil))))) (pNil))) (pVar 4))
def u_law_steps_right_13 (sp__law_fewest sp_fewest_steps sp_steps sp__law_spoilt sp_judge_steps sp__law_is_way : PSp) : PTS := pSeq (pIfS (pB (pOp rNeP (pCallK (gd 3 sp_fewest_steps) 0 3 [2, 1, 0] pNil (pCons (pVar 3) (pCons (pVar 2) (pCons (pVar 1) (pNil))))) (pVar 4))) (pRet (pC (.bl false))) (pNext)) (u_law_steps_right_14 sp__law_fewest sp_fewest_steps sp_steps sp__law_spoilt sp_judge_steps sp__law_is_way)
def u_law_steps_right_12 (sp__law_fewest sp_fewest_steps sp_steps sp__law_spoilt sp_judge_steps sp__law_is_way : PSp) : PTS := pSeq (pDrop (pMtT "list" rAppend (pVar 6) (pCons (pC (.int 7)) (pNil)))) (u_law_steps_right_13 sp__law_fewest sp_fewest_steps sp_steps sp__law_spoilt sp_judge_steps sp__law_is_way)
def u_law_steps_right_11 (sp__law_fewest sp_fewest_steps sp_steps sp__law_spoilt sp_judge_steps sp__law_is_way : PSp) : PTS := pSeq (pFor (pIter (pOp rAddV (pFz (pTmp (pCons (pC .non) (pCons (pC (.str "way")) (pCons (pCB (onItems rTupI) (pCons (pVar 6) (pNil))) (pCons (pOp rAddV (pVar 6) (pFz (pTmp (pCons (pC .non) (pNil))))) (pCons (pOp rAddV (pSliceV (pVar 6) (pNoPart) (pPart (pUn rNeg (pC (.int 1))))) (pFz (pTmp (pCons (pC (.bl true)) (pNil))))) (pCons (pFz (pTmp (pCons (pVar 6) (pNil)))) (pCons (pC (.int 7)) (pNil)))))))))) (pVar 8))) (.nm 10) (u_law_steps_right_11_b_0 sp__law_fewest sp_fewest_steps sp_steps sp__law_spoilt sp_judge_steps sp__law_is_way)) (u_law_steps_right_12 sp__law_fewest sp_fewest_steps sp_steps sp__law_spoilt sp_judge_steps sp__law_is_way)
def u_law_steps_right_10 (sp__law_fewest sp_fewest_steps sp_steps sp__law_spoilt sp_judge_steps sp__law_is_way : PSp) : PTS := pSeq (pFor (pRng1 (pCB rMin2 (pCons (pC (.int 3)) (pCons (pCB rLen (pCons (pVar 6) (pNil))) (pNil))))) (.nm 9) (u_law_steps_right_10_b_0 sp__law_fewest sp_fewest_steps sp_steps sp__law_spoilt sp_judge_steps sp__law_is_way)) (u_law_steps_right_11 sp__law_fewest sp_fewest_steps sp_steps sp__law_spoilt sp_judge_steps sp__law_is_way)
def u_law_steps_right_9 (sp__law_fewest sp_fewest_steps sp_steps sp__law_spoilt sp_judge_steps sp__law_is_way : PSp) : PTS := pSeq (pAsg (pNew (pTmp (pNil))) (.nm 8)) (u_law_steps_right_10 sp__law_fewest sp_fewest_steps sp_steps sp__law_spoilt sp_judge_steps sp__law_is_way)
def u_law_steps_right_8 (sp__law_fewest sp_fewest_steps sp_steps sp__law_spoilt sp_judge_steps sp__law_is_way : PSp) : PTS := pSeq (pFor (pIter (pCall (gd 4 sp__law_spoilt) (pCons (pVar 0) (pCons (pVar 1) (pCons (pVar 2) (pCons (pVar 6) (pNil))))))) (.nm 7) (u_law_steps_right_8_b_0 sp__law_fewest sp_fewest_steps sp_steps sp__law_spoilt sp_judge_steps sp__law_is_way)) (u_law_steps_right_9 sp__law_fewest sp_fewest_steps sp_steps sp__law_spoilt sp_judge_steps sp__law_is_way)
def u_law_steps_right_7 (sp__law_fewest sp_fewest_steps sp_steps sp__law_spoilt sp_judge_steps sp__law_is_way : PSp) : PTS := pSeq (pIfS (pB (pOp rIsNotB (pCallK (gd 4 sp_judge_steps) 0 4 [3, 2, 1, 0] pNil (pCons (pCB (onItems rLstV) (pCons (pVar 6) (pNil))) (pCons (pVar 3) (pCons (pVar 2) (pCons (pVar 1) (pNil)))))) (pC (.bl true)))) (pRet (pC (.bl false))) (pNext)) (u_law_steps_right_8 sp__law_fewest sp_fewest_steps sp_steps sp__law_spoilt sp_judge_steps sp__law_is_way)
def u_law_steps_right_6 (sp__law_fewest sp_fewest_steps sp_steps sp__law_spoilt sp_judge_steps sp__law_is_way : PSp) : PTS := pSeq (pIfS (pB (pOp rIsNotB (pCall (gd 4 sp_judge_steps) (pCons (pVar 1) (pCons (pVar 2) (pCons (pVar 3) (pCons (pVar 6) (pNil)))))) (pC (.bl true)))) (pRet (pC (.bl false))) (pNext)) (u_law_steps_right_7 sp__law_fewest sp_fewest_steps sp_steps sp__law_spoilt sp_judge_steps sp__law_is_way)
def u_law_steps_right_5 (sp__law_fewest sp_fewest_steps sp_steps sp__law_spoilt sp_judge_steps sp__law_is_way : PSp) : PTS := pSeq (pIfS (pOr (pNot (pT (pCT rAllI (pLc (pIter (pVar 6)) (.nm 13) (pYes) (pChain rLe rLt (pC (.int 0)) (pVar 13) (pOp rPow (pC (.int 2)) (pC (.int 32)))) [13])))) (pNot (pT (pCall (gd 4 sp__law_is_way) (pCons (pVar 1) (pCons (pVar 2) (pCons (pVar 3) (pCons (pVar 6) (pNil))))))))) (pRet (pC (.bl false))) (pNext)) (u_law_steps_right_6 sp__law_fewest sp_fewest_steps sp_steps sp__law_spoilt sp_judge_steps sp__law_is_way)
def u_law_steps_right_4 (sp__law_fewest sp_fewest_steps sp_steps sp__law_spoilt sp_judge_steps sp__law_is_way : PSp) : PTS := pSeq (pIfS (pNot (pT (pCT rAllI (pLc (pIter (pVar 6)) (.nm 13) (pYes) (pAndV (pUn (rIsi "int") (pVar 13)) (pNotV (pUn (rIsi "bool") (pVar 13)))) [13])))) (pRet (pC (.bl false))) (pNext)) (u_law_steps_right_5 sp__law_fewest sp_fewest_steps sp_steps sp__law_spoilt sp_judge_steps sp__law_is_way)
def u_law_steps_right_3 (sp__law_fewest sp_fewest_steps sp_steps sp__law_spoilt sp_judge_steps sp__law_is_way : PSp) : PTS := pSeq (pIfS (pOr (pB (pOp rNeP (pCB rRepr (pCons (pVar 5) (pNil))) (pCB rRepr (pCons (pVar 4) (pNil))))) (pOr (pNot (pT (pUn (rIsi "list") (pVar 6)))) (pB (pOp rNeP (pCB rLen (pCons (pVar 6) (pNil))) (pVar 4))))) (pRet (pC (.bl false))) (pNext)) (u_law_steps_right_4 sp__law_fewest sp_fewest_steps sp_steps sp__law_spoilt sp_judge_steps sp__law_is_way)
def u_law_steps_right_2 (sp__law_fewest sp_fewest_steps sp_steps sp__law_spoilt sp_judge_steps sp__law_is_way : PSp) : PTS := pSeq (pAsg (pCall (gd 3 sp_steps) (pCons (pVar 1) (pCons (pVar 2) (pCons (pVar 3) (pNil))))) (.nm 6)) (u_law_steps_right_3 sp__law_fewest sp_fewest_steps sp_steps sp__law_spoilt sp_judge_steps sp__law_is_way)
def u_law_steps_right_1 (sp__law_fewest sp_fewest_steps sp_steps sp__law_spoilt sp_judge_steps sp__law_is_way : PSp) : PTS := pSeq (pAsg (pCall (gd 3 sp_fewest_steps) (pCons (pVar 1) (pCons (pVar 2) (pCons (pVar 3) (pNil))))) (.nm 5)) (u_law_steps_right_2 sp__law_fewest sp_fewest_steps sp_steps sp__law_spoilt sp_judge_steps sp__law_is_way)
def u_law_steps_right_0 (sp__law_fewest sp_fewest_steps sp_steps sp__law_spoilt sp_judge_steps sp__law_is_way : PSp) : PTS := pSeq (pAsg (pCall (gd 3 sp__law_fewest) (pCons (pVar 1) (pCons (pVar 2) (pCons (pVar 3) (pNil))))) (.nm 4)) (u_law_steps_right_1 sp__law_fewest sp_fewest_steps sp_steps sp__law_spoilt sp_judge_steps sp__law_is_way)
theorem u_law_steps_right_eq (sp__law_fewest sp_fewest_steps sp_steps sp__law_spoilt sp_judge_steps sp__law_is_way : PSp) : t__law_steps_right sp__law_fewest sp_fewest_steps sp_steps sp__law_spoilt sp_judge_steps sp__law_is_way = u_law_steps_right_0 sp__law_fewest sp_fewest_steps sp_steps sp__law_spoilt sp_judge_steps sp__law_is_way := rfl
def u_law_1_b_2 (sp__law_deck sp__law_serials sp__law_errors_right sp__law_circle_right sp__law_steps_right : PSp) : PTS := pIfS (pNot (pT (pCall (gd 3 sp__law_errors_right) (pCons (pVar 1) (pCons (pVar 3) (pCons (pVar 4) (pNil))))))) (pRet (pC (.bl false))) (pNext)
def u_law_1_b_1 (sp__law_deck sp__law_serials sp__law_errors_right sp__law_circle_right sp__law_steps_right : PSp) : PTS := pSeq (pIfS (pOr (pNot (pT (pCall (gd 3 sp__law_circle_right) (pCons (pVar 1) (pCons (pVar 3) (pCons (pVar 4) (pNil))))))) (pNot (pT (pCall (gd 4 sp__law_steps_right) (pCons (pVar 1) (pCons (pVar 3) (pCons (pVar 4) (pCons (pVar 5) (pNil))))))))) (pRet (pC (.bl false))) (pNext)) (u_law_1_b_2 sp__law_deck sp__law_serials sp__law_errors_right sp__law_circle_right sp__law_steps_right)
def u_law_1_b_0 (sp__law_deck sp__law_serials sp__law_errors_right sp__law_circle_right sp__law_steps_right : PSp) : PTS := pSeq (pAsg (pCall (gd 1 sp__law_serials) (pCons (pVar 1) (pNil))) (.tp [(.nm 3), (.nm 4), (.nm 5)])) (u_law_1_b_1 sp__law_deck sp__law_serials sp__law_errors_right sp__law_circle_right sp__law_steps_right)
def u_law_2 (sp__law_deck sp__law_serials sp__law_errors_right sp__law_circle_right sp__law_steps_right : PSp) : PTS := pRet (pC (.bl true))
def u_law_1 (sp__law_deck sp__law_serials sp__law_errors_right sp__law_circle_right sp__law_steps_right : PSp) : PTS := pSeq (pFor (pRng1 (pCB rMax2 (pCons (pC (.int 1)) (pCons (pCB rMin2 (pCons (pC (.int 3)) (pCons (pOp rFdiv (pCB rLen (pCons (pVar 0) (pNil))) (pC (.int 12))) (pNil)))) (pNil))))) (.nm 2) (u_law_1_b_0 sp__law_deck sp__law_serials sp__law_errors_right sp__law_circle_right sp__law_steps_right)) (u_law_2 sp__law_deck sp__law_serials sp__law_errors_right sp__law_circle_right sp__law_steps_right)
def u_law_0 (sp__law_deck sp__law_serials sp__law_errors_right sp__law_circle_right sp__law_steps_right : PSp) : PTS := pSeq (pAsg (pCall (gd 1 sp__law_deck) (pCons (pVar 0) (pNil))) (.nm 1)) (u_law_1 sp__law_deck sp__law_serials sp__law_errors_right sp__law_circle_right sp__law_steps_right)
theorem u_law_eq (sp__law_deck sp__law_serials sp__law_errors_right sp__law_circle_right sp__law_steps_right : PSp) : t_law sp__law_deck sp__law_serials sp__law_errors_right sp__law_circle_right sp__law_steps_right = u_law_0 sp__law_deck sp__law_serials sp__law_errors_right sp__law_circle_right sp__law_steps_right := rfl
end L_k25
set_option maxHeartbeats 8000000
/-! Printed by gen.py: the facts of the text, the derivations. -/
namespace L_k25
open PySem PySem.Spec PyProof.Rows L2 TL MP
def top (i : Nat) : Stmt := PySem.Challenge.pw_rootward_k25_steps_on_the_circle.main.body.getD i (.Pass ⟨0, 0, 0, 0⟩)
abbrev s_anew : Stmt := top 5
def dd_anew : He.DefD := ⟨("anew", none), "anew", "anew", defArgs s_anew, defBody s_anew, defScope s_anew, [], []⟩
abbrev s_is_integer : Stmt := top 6
def dd_is_integer : He.DefD := ⟨("is_integer", none), "is_integer", "is_integer", defArgs s_is_integer, defBody s_is_integer, defScope s_is_integer, [], []⟩
abbrev s_is_serial : Stmt := top 11
def dd_is_serial : He.DefD := ⟨("is_serial", none), "is_serial", "is_serial", defArgs s_is_serial, defBody s_is_serial, defScope s_is_serial, [], []⟩
abbrev s_need_serial : Stmt := top 12
def dd_need_serial : He.DefD := ⟨("need_serial", none), "need_serial", "need_serial", defArgs s_need_serial, defBody s_need_serial, defScope s_need_serial, [], []⟩
abbrev s_newer : Stmt := top 13
def dd_newer : He.DefD := ⟨("newer", none), "newer", "newer", defArgs s_newer, defBody s_newer, defScope s_newer, [], []⟩
abbrev s_further : Stmt := top 14
def dd_further : He.DefD := ⟨("further", none), "further", "further", defArgs s_further, defBody s_further, defScope s_further, [], []⟩
abbrev s_newest : Stmt := top 15
def dd_newest : He.DefD := ⟨("newest", none), "newest", "newest", defArgs s_newest, defBody s_newest, defScope s_newest, [], []⟩
abbrev s_need_missed : Stmt := top 16
def dd_need_missed : He.DefD := ⟨("need_missed", none), "need_missed", "need_missed", defArgs s_need_missed, defBody s_need_missed, defScope s_need_missed, [], []⟩
abbrev s_fewest_steps : Stmt := top 17
def dd_fewest_steps : He.DefD := ⟨("fewest_steps", none), "fewest_steps", "fewest_steps", defArgs s_fewest_steps, defBody s_fewest_steps, defScope s_fewest_steps, [], []⟩
abbrev s_steps : Stmt := top 18
def dd_steps : He.DefD := ⟨("steps", none), "steps", "steps", defArgs s_steps, defBody s_steps, defScope s_steps, [], []⟩
abbrev s_judge_steps : Stmt := top 19
def dd_judge_steps : He.DefD := ⟨("judge_steps", none), "judge_steps", "judge_steps", defArgs s_judge_steps, defBody s_judge_steps, defScope s_judge_steps, [], []⟩
abbrev s__law_deck : Stmt := top 21
def dd__law_deck : He.DefD := ⟨("_law_deck", none), "_law_deck", "_law_deck", defArgs s__law_deck, defBody s__law_deck, defScope s__law_deck, [], []⟩
abbrev s__law_draw : Stmt := top 22
def dd__law_draw : He.DefD := ⟨("_law_draw", none), "_law_draw", "_law_draw", defArgs s__law_draw, defBody s__law_draw, defScope s__law_draw, [], []⟩
abbrev s__law_way : Stmt := top 23
def dd__law_way : He.DefD := ⟨("_law_way", none), "_law_way", "_law_way", defArgs s__law_way, defBody s__law_way, defScope s__law_way, [], []⟩
abbrev s__law_is_newer : Stmt := top 24
def dd__law_is_newer : He.DefD := ⟨("_law_is_newer", none), "_law_is_newer", "_law_is_newer", defArgs s__law_is_newer, defBody s__law_is_newer, defScope s__law_is_newer, [], []⟩
abbrev s__law_serials : Stmt := top 25
def dd__law_serials : He.DefD := ⟨("_law_serials", none), "_law_serials", "_law_serials", defArgs s__law_serials, defBody s__law_serials, defScope s__law_serials, [], []⟩
abbrev s__law_longest : Stmt := top 26
def dd__law_longest : He.DefD := ⟨("_law_longest", none), "_law_longest", "_law_longest", defArgs s__law_longest, defBody s__law_longest, defScope s__law_longest, [], []⟩
abbrev s__law_fewest : Stmt := top 27
def dd__law_fewest : He.DefD := ⟨("_law_fewest", none), "_law_fewest", "_law_fewest", defArgs s__law_fewest, defBody s__law_fewest, defScope s__law_fewest, [], []⟩
abbrev s__law_is_way : Stmt := top 28
def dd__law_is_way : He.DefD := ⟨("_law_is_way", none), "_law_is_way", "_law_is_way", defArgs s__law_is_way, defBody s__law_is_way, defScope s__law_is_way, [], []⟩
abbrev s__law_error : Stmt := top 29
def dd__law_error : He.DefD := ⟨("_law_error", none), "_law_error", "_law_error", defArgs s__law_error, defBody s__law_error, defScope s__law_error, [], []⟩
abbrev s__law_errors_right : Stmt := top 30
def dd__law_errors_right : He.DefD := ⟨("_law_errors_right", none), "_law_errors_right", "_law_errors_right", defArgs s__law_errors_right, defBody s__law_errors_right, defScope s__law_errors_right, [], []⟩
abbrev s__law_circle_right : Stmt := top 31
def dd__law_circle_right : He.DefD := ⟨("_law_circle_right", none), "_law_circle_right", "_law_circle_right", defArgs s__law_circle_right, defBody s__law_circle_right, defScope s__law_circle_right, [], []⟩
abbrev s__law_spoilt : Stmt := top 32
def dd__law_spoilt : He.DefD := ⟨("_law_spoilt", none), "_law_spoilt", "_law_spoilt", defArgs s__law_spoilt, defBody s__law_spoilt, defScope s__law_spoilt, [], []⟩
abbrev s__law_steps_right : Stmt := top 33
def dd__law_steps_right : He.DefD := ⟨("_law_steps_right", none), "_law_steps_right", "_law_steps_right", defArgs s__law_steps_right, defBody s__law_steps_right, defScope s__law_steps_right, [], []⟩
abbrev s_law : Stmt := top 34
def dd_law : He.DefD := ⟨("law", none), "law", "law", defArgs s_law, defBody s_law, defScope s_law, [], []⟩
abbrev s_TreeInit : Stmt := inClass (top 1) 0
def dd_TreeInit : He.DefD := ⟨("TreeError", some "__init__"), "__init__", "TreeError.__init__", defArgs s_TreeInit, defBody s_TreeInit, defScope s_TreeInit, [], []⟩
def fn : List He.DefD := ([dd_anew, dd_is_integer, dd_is_serial, dd_need_serial, dd_newer, dd_further, dd_newest, dd_need_missed, dd_fewest_steps, dd_steps, dd_judge_steps, dd__law_deck, dd__law_draw, dd__law_way, dd__law_is_newer, dd__law_serials, dd__law_longest, dd__law_fewest, dd__law_is_way, dd__law_error, dd__law_errors_right, dd__law_circle_right, dd__law_spoilt, dd__law_steps_right, dd_law] : List He.DefD) ++ ([dd_TreeInit] : List He.DefD)
def globs : List Str := (["anew", "is_integer", "is_serial", "need_serial", "newer", "further", "newest", "need_missed", "fewest_steps", "steps", "judge_steps", "_law_deck", "_law_draw", "_law_way", "_law_is_newer", "_law_serials", "_law_longest", "_law_fewest", "_law_is_way", "_law_error", "_law_errors_right", "_law_circle_right", "_law_spoilt", "_law_steps_right", "law"] : List Str)
def frees : List Str := (["isinstance", "list", "tuple", "int", "bool", "max", "range", "sum", "min", "all", "len", "abs", "repr"] : List Str)
def cints : List (Str × Int) := ([("CIRCLE", 4294967296), ("HALF", 2147483647), ("MOST_MISSED", 1000)] : List (Str × Int))
def cstrs : List (Str × Str) := ([] : List (Str × Str))
def ctups : List (Str × List He.Dv) := ([] : List (Str × List He.Dv))
def fb (K : PySem.W.Frag) : Bool := (errB es K && isB es K) && ((globs.all fun x => (He.Fa.glo x).ok K) && ((frees.all fun x => (He.Fa.free x).ok K) && ((cints.all fun p => (He.Fa.int p.1 p.2).ok K) && ((cstrs.all fun p => (He.Fa.str p.1 p.2).ok K) && (ctups.all fun p => (He.Fa.glo p.1).ok K && He.tupB K p.1 p.2)))))
/-- what stands -/
structure HX (K : PySem.W.Frag) (mg : Str → Option Value) (base : Heap) : Prop where
  c : SaysM fb fn K
  X : K.In base
  G : base.Ns mainGlobals mg
section
variable {P : Program} {w : World} {K : PySem.W.Frag} {mg : Str → Option Value} {base : Heap}
theorem HX.p1 (E : HX K mg base) : (errB es K && isB es K) = true ∧ (globs.all fun x => (He.Fa.glo x).ok K) = true ∧ (frees.all fun x => (He.Fa.free x).ok K) = true ∧ (cints.all fun p => (He.Fa.int p.1 p.2).ok K) = true ∧ (cstrs.all fun p => (He.Fa.str p.1 p.2).ok K) = true ∧ (ctups.all fun p => (He.Fa.glo p.1).ok K && He.tupB K p.1 p.2) = true := by
  have h : fb K = true := E.c.fb
  obtain ⟨h1, h⟩ := He.ba h
  obtain ⟨h2, h⟩ := He.ba h
  obtain ⟨h3, h⟩ := He.ba h
  obtain ⟨h4, h⟩ := He.ba h
  obtain ⟨h5, h6⟩ := He.ba h
  exact ⟨h1, h2, h3, h4, h5, h6⟩
theorem HX.e (E : HX K mg base) : errB es K = true := (He.ba E.p1.1).1
theorem HX.glo (E : HX K mg base) {x : Str} (h : x ∈ globs) : mg x = some (.ref (He.ga K x)) := He.glo_ok E.X E.G (List.all_eq_true.mp E.p1.2.1 x h)
theorem HX.free (E : HX K mg base) {x : Str} (h : x ∈ frees) : mg x = none := He.free_ok E.X E.G (List.all_eq_true.mp E.p1.2.2.1 x h)
theorem HX.cint (E : HX K mg base) {x : Str} {i : Int} (h : (x, i) ∈ cints) : ∃ t, mg x = some (.int i t) := He.int_ok E.X E.G (List.all_eq_true.mp E.p1.2.2.2.1 (x, i) h)
theorem HX.cstr (E : HX K mg base) {x z : Str} (h : (x, z) ∈ cstrs) : ∃ t, mg x = some (.str z t) := He.str_ok E.X E.G (List.all_eq_true.mp E.p1.2.2.2.2.1 (x, z) h)
theorem HX.ctup (E : HX K mg base) {x : Str} {vs : List He.Dv} (h : (x, vs) ∈ ctups) : mg x = some (.ref (He.ga K x)) ∧ He.tupB K x vs = true := by
  obtain ⟨h1, h2⟩ := He.ba (List.all_eq_true.mp E.p1.2.2.2.2.2 (x, vs) h)
  exact ⟨He.glo_ok E.X E.G h1, h2⟩
theorem HX.g_anew (E : HX K mg base) : mg "anew" = some (.ref (He.ga K "anew")) := E.glo (by decide)
theorem HX.g_is_integer (E : HX K mg base) : mg "is_integer" = some (.ref (He.ga K "is_integer")) := E.glo (by decide)
theorem HX.g_is_serial (E : HX K mg base) : mg "is_serial" = some (.ref (He.ga K "is_serial")) := E.glo (by decide)
theorem HX.g_need_serial (E : HX K mg base) : mg "need_serial" = some (.ref (He.ga K "need_serial")) := E.glo (by decide)
theorem HX.g_newer (E : HX K mg base) : mg "newer" = some (.ref (He.ga K "newer")) := E.glo (by decide)
theorem HX.g_further (E : HX K mg base) : mg "further" = some (.ref (He.ga K "further")) := E.glo (by decide)
theorem HX.g_newest (E : HX K mg base) : mg "newest" = some (.ref (He.ga K "newest")) := E.glo (by decide)
theorem HX.g_need_missed (E : HX K mg base) : mg "need_missed" = some (.ref (He.ga K "need_missed")) := E.glo (by decide)
theorem HX.g_fewest_steps (E : HX K mg base) : mg "fewest_steps" = some (.ref (He.ga K "fewest_steps")) := E.glo (by decide)
theorem HX.g_steps (E : HX K mg base) : mg "steps" = some (.ref (He.ga K "steps")) := E.glo (by decide)
theorem HX.g_judge_steps (E : HX K mg base) : mg "judge_steps" = some (.ref (He.ga K "judge_steps")) := E.glo (by decide)
theorem HX.g__law_deck (E : HX K mg base) : mg "_law_deck" = some (.ref (He.ga K "_law_deck")) := E.glo (by decide)
theorem HX.g__law_draw (E : HX K mg base) : mg "_law_draw" = some (.ref (He.ga K "_law_draw")) := E.glo (by decide)
theorem HX.g__law_way (E : HX K mg base) : mg "_law_way" = some (.ref (He.ga K "_law_way")) := E.glo (by decide)
theorem HX.g__law_is_newer (E : HX K mg base) : mg "_law_is_newer" = some (.ref (He.ga K "_law_is_newer")) := E.glo (by decide)
theorem HX.g__law_serials (E : HX K mg base) : mg "_law_serials" = some (.ref (He.ga K "_law_serials")) := E.glo (by decide)
theorem HX.g__law_longest (E : HX K mg base) : mg "_law_longest" = some (.ref (He.ga K "_law_longest")) := E.glo (by decide)
theorem HX.g__law_fewest (E : HX K mg base) : mg "_law_fewest" = some (.ref (He.ga K "_law_fewest")) := E.glo (by decide)
theorem HX.g__law_is_way (E : HX K mg base) : mg "_law_is_way" = some (.ref (He.ga K "_law_is_way")) := E.glo (by decide)
theorem HX.g__law_error (E : HX K mg base) : mg "_law_error" = some (.ref (He.ga K "_law_error")) := E.glo (by decide)
theorem HX.g__law_errors_right (E : HX K mg base) : mg "_law_errors_right" = some (.ref (He.ga K "_law_errors_right")) := E.glo (by decide)
theorem HX.g__law_circle_right (E : HX K mg base) : mg "_law_circle_right" = some (.ref (He.ga K "_law_circle_right")) := E.glo (by decide)
theorem HX.g__law_spoilt (E : HX K mg base) : mg "_law_spoilt" = some (.ref (He.ga K "_law_spoilt")) := E.glo (by decide)
theorem HX.g__law_steps_right (E : HX K mg base) : mg "_law_steps_right" = some (.ref (He.ga K "_law_steps_right")) := E.glo (by decide)
theorem HX.g_law (E : HX K mg base) : mg "law" = some (.ref (He.ga K "law")) := E.glo (by decide)
theorem HX.f_isinstance (E : HX K mg base) : mg "isinstance" = none := E.free (by decide)
theorem HX.f_list (E : HX K mg base) : mg "list" = none := E.free (by decide)
theorem HX.f_tuple (E : HX K mg base) : mg "tuple" = none := E.free (by decide)
theorem HX.f_int (E : HX K mg base) : mg "int" = none := E.free (by decide)
theorem HX.f_bool (E : HX K mg base) : mg "bool" = none := E.free (by decide)
theorem HX.f_max (E : HX K mg base) : mg "max" = none := E.free (by decide)
theorem HX.f_range (E : HX K mg base) : mg "range" = none := E.free (by decide)
theorem HX.f_sum (E : HX K mg base) : mg "sum" = none := E.free (by decide)
theorem HX.f_min (E : HX K mg base) : mg "min" = none := E.free (by decide)
theorem HX.f_all (E : HX K mg base) : mg "all" = none := E.free (by decide)
theorem HX.f_len (E : HX K mg base) : mg "len" = none := E.free (by decide)
theorem HX.f_abs (E : HX K mg base) : mg "abs" = none := E.free (by decide)
theorem HX.f_repr (E : HX K mg base) : mg "repr" = none := E.free (by decide)
theorem HX.c_CIRCLE (E : HX K mg base) : ∃ t, mg "CIRCLE" = some (.int 4294967296 t) := E.cint (by decide)
theorem HX.c_HALF (E : HX K mg base) : ∃ t, mg "HALF" = some (.int 2147483647 t) := E.cint (by decide)
theorem HX.c_MOST_MISSED (E : HX K mg base) : ∃ t, mg "MOST_MISSED" = some (.int 1000 t) := E.cint (by decide)
theorem HX.d_anew (E : HX K mg base) : ∃ fd, FunD K "anew" "anew" (defArgs s_anew) (defBody s_anew) (defScope s_anew) [] [] (He.ga K "anew") fd := E.c.def_ 0 (d := dd_anew) rfl
theorem HX.d_is_integer (E : HX K mg base) : ∃ fd, FunD K "is_integer" "is_integer" (defArgs s_is_integer) (defBody s_is_integer) (defScope s_is_integer) [] [] (He.ga K "is_integer") fd := E.c.def_ 1 (d := dd_is_integer) rfl
theorem HX.d_is_serial (E : HX K mg base) : ∃ fd, FunD K "is_serial" "is_serial" (defArgs s_is_serial) (defBody s_is_serial) (defScope s_is_serial) [] [] (He.ga K "is_serial") fd := E.c.def_ 2 (d := dd_is_serial) rfl
theorem HX.d_need_serial (E : HX K mg base) : ∃ fd, FunD K "need_serial" "need_serial" (defArgs s_need_serial) (defBody s_need_serial) (defScope s_need_serial) [] [] (He.ga K "need_serial") fd := E.c.def_ 3 (d := dd_need_serial) rfl
theorem HX.d_newer (E : HX K mg base) : ∃ fd, FunD K "newer" "newer" (defArgs s_newer) (defBody s_newer) (defScope s_newer) [] [] (He.ga K "newer") fd := E.c.def_ 4 (d := dd_newer) rfl
theorem HX.d_further (E : HX K mg base) : ∃ fd, FunD K "further" "further" (defArgs s_further) (defBody s_further) (defScope s_further) [] [] (He.ga K "further") fd := E.c.def_ 5 (d := dd_further) rfl
theorem HX.d_newest (E : HX K mg base) : ∃ fd, FunD K "newest" "newest" (defArgs s_newest) (defBody s_newest) (defScope s_newest) [] [] (He.ga K "newest") fd := E.c.def_ 6 (d := dd_newest) rfl
theorem HX.d_need_missed (E : HX K mg base) : ∃ fd, FunD K "need_missed" "need_missed" (defArgs s_need_missed) (defBody s_need_missed) (defScope s_need_missed) [] [] (He.ga K "need_missed") fd := E.c.def_ 7 (d := dd_need_missed) rfl
theorem HX.d_fewest_steps (E : HX K mg base) : ∃ fd, FunD K "fewest_steps" "fewest_steps" (defArgs s_fewest_steps) (defBody s_fewest_steps) (defScope s_fewest_steps) [] [] (He.ga K "fewest_steps") fd := E.c.def_ 8 (d := dd_fewest_steps) rfl
theorem HX.d_steps (E : HX K mg base) : ∃ fd, FunD K "steps" "steps" (defArgs s_steps) (defBody s_steps) (defScope s_steps) [] [] (He.ga K "steps") fd := E.c.def_ 9 (d := dd_steps) rfl
theorem HX.d_judge_steps (E : HX K mg base) : ∃ fd, FunD K "judge_steps" "judge_steps" (defArgs s_judge_steps) (defBody s_judge_steps) (defScope s_judge_steps) [] [] (He.ga K "judge_steps") fd := E.c.def_ 10 (d := dd_judge_steps) rfl
theorem HX.d__law_deck (E : HX K mg base) : ∃ fd, FunD K "_law_deck" "_law_deck" (defArgs s__law_deck) (defBody s__law_deck) (defScope s__law_deck) [] [] (He.ga K "_law_deck") fd := E.c.def_ 11 (d := dd__law_deck) rfl
theorem HX.d__law_draw (E : HX K mg base) : ∃ fd, FunD K "_law_draw" "_law_draw" (defArgs s__law_draw) (defBody s__law_draw) (defScope s__law_draw) [] [] (He.ga K "_law_draw") fd := E.c.def_ 12 (d := dd__law_draw) rfl
theorem HX.d__law_way (E : HX K mg base) : ∃ fd, FunD K "_law_way" "_law_way" (defArgs s__law_way) (defBody s__law_way) (defScope s__law_way) [] [] (He.ga K "_law_way") fd := E.c.def_ 13 (d := dd__law_way) rfl
theorem HX.d__law_is_newer (E : HX K mg base) : ∃ fd, FunD K "_law_is_newer" "_law_is_newer" (defArgs s__law_is_newer) (defBody s__law_is_newer) (defScope s__law_is_newer) [] [] (He.ga K "_law_is_newer") fd := E.c.def_ 14 (d := dd__law_is_newer) rfl
theorem HX.d__law_serials (E : HX K mg base) : ∃ fd, FunD K "_law_serials" "_law_serials" (defArgs s__law_serials) (defBody s__law_serials) (defScope s__law_serials) [] [] (He.ga K "_law_serials") fd := E.c.def_ 15 (d := dd__law_serials) rfl
theorem HX.d__law_longest (E : HX K mg base) : ∃ fd, FunD K "_law_longest" "_law_longest" (defArgs s__law_longest) (defBody s__law_longest) (defScope s__law_longest) [] [] (He.ga K "_law_longest") fd := E.c.def_ 16 (d := dd__law_longest) rfl
theorem HX.d__law_fewest (E : HX K mg base) : ∃ fd, FunD K "_law_fewest" "_law_fewest" (defArgs s__law_fewest) (defBody s__law_fewest) (defScope s__law_fewest) [] [] (He.ga K "_law_fewest") fd := E.c.def_ 17 (d := dd__law_fewest) rfl
theorem HX.d__law_is_way (E : HX K mg base) : ∃ fd, FunD K "_law_is_way" "_law_is_way" (defArgs s__law_is_way) (defBody s__law_is_way) (defScope s__law_is_way) [] [] (He.ga K "_law_is_way") fd := E.c.def_ 18 (d := dd__law_is_way) rfl
theorem HX.d__law_error (E : HX K mg base) : ∃ fd, FunD K "_law_error" "_law_error" (defArgs s__law_error) (defBody s__law_error) (defScope s__law_error) [] [] (He.ga K "_law_error") fd := E.c.def_ 19 (d := dd__law_error) rfl
theorem HX.d__law_errors_right (E : HX K mg base) : ∃ fd, FunD K "_law_errors_right" "_law_errors_right" (defArgs s__law_errors_right) (defBody s__law_errors_right) (defScope s__law_errors_right) [] [] (He.ga K "_law_errors_right") fd := E.c.def_ 20 (d := dd__law_errors_right) rfl
theorem HX.d__law_circle_right (E : HX K mg base) : ∃ fd, FunD K "_law_circle_right" "_law_circle_right" (defArgs s__law_circle_right) (defBody s__law_circle_right) (defScope s__law_circle_right) [] [] (He.ga K "_law_circle_right") fd := E.c.def_ 21 (d := dd__law_circle_right) rfl
theorem HX.d__law_spoilt (E : HX K mg base) : ∃ fd, FunD K "_law_spoilt" "_law_spoilt" (defArgs s__law_spoilt) (defBody s__law_spoilt) (defScope s__law_spoilt) [] [] (He.ga K "_law_spoilt") fd := E.c.def_ 22 (d := dd__law_spoilt) rfl
theorem HX.d__law_steps_right (E : HX K mg base) : ∃ fd, FunD K "_law_steps_right" "_law_steps_right" (defArgs s__law_steps_right) (defBody s__law_steps_right) (defScope s__law_steps_right) [] [] (He.ga K "_law_steps_right") fd := E.c.def_ 23 (d := dd__law_steps_right) rfl
theorem HX.d_law (E : HX K mg base) : ∃ fd, FunD K "law" "law" (defArgs s_law) (defBody s_law) (defScope s_law) [] [] (He.ga K "law") fd := E.c.def_ 24 (d := dd_law) rfl
theorem HX.I (E : HX K mg base) : InitTxt K := by
  obtain ⟨fd, F⟩ := E.c.def_ 25 (d := dd_TreeInit) rfl
  exact initTxt_of F
theorem HX.T (E : HX K mg base) : ErrTab K mg es := errTab_of E.X E.G E.I E.e
theorem HX.TI (E : HX K mg base) : IsTab K mg es := isTab_of E.X E.G E.e (He.ba E.p1.1).2
theorem sc_anew : FnScope ["value", "part"] ["value"] (defScope s_anew) := ⟨rfl, rfl, rfl, by decide +kernel, rfl, by decide +kernel, by decide +kernel⟩
theorem ok_anew (E : HX K mg base) {sp sp_anew : PSp} {kk : Nat} (hk : 0 ≤ kk) (H_anew : Ok P w K mg base "anew" s_anew ["value"] kk sp_anew)
    (pure : ∀ vs h Q Ex, vs.length = 1 → sp vs h Q Ex → t_anew sp_anew (body Q Ex) (pstart 2 vs) h) : Ok P w K mg base "anew" s_anew ["value"] (kk + 1) sp := by
  obtain ⟨fd_anew, F_anew, O_anew⟩ := H_anew
  have g_anew : mg "anew" = some (.ref (He.ga K "anew")) := E.g_anew
  have b_anew : Binds K fd_anew ["value"] [] := F_anew.bindsN (fun _ _ _ _ _ _ us hl => match us, hl with | [_], _ => rfl)
  have l_anew : kk ≤ kk := Nat.le_refl _
  obtain ⟨fd, F⟩ := E.d_anew
  refine ok_mk (k := kk) F sc_anew (fun cdv A outer s H Ex hr => ?_) pure
  have S := sc_anew
  have tk := takes_of (X := cxOf (L2.CX P w) P w K mg base ["value", "part"] "anew" (defScope s_anew) (He.ga K "anew") cdv A outer s H Ex) (E := Ex) rfl rfl rfl rfl
  exact (lss_cons (ls_if (lt_truth (le_isi (T := "list") (le_var 0 (pv 0)) (by decide) rfl E.f_isinstance rfl E.f_list (by decide +kernel))) (lss_one (ls_ret (le_fz (ll_lc (own := ([("part", 1)] : List (Str × Nat))) rfl S.nd (li_any (le_var 0 (pv 0))) (blkOk_by (by rfl)) (by decide) (fun _ _ _ _ _ => (lg_name (pg_name (i := 1) S.nd rfl (by first | exact Or.inl rfl | exact Or.inr rfl)))) (fun _ _ _ _ _ => lts_nil) (fun _ _ _ _ _ => (le_call O_anew (hr.mono l_anew) rfl g_anew F_anew.kp b_anew takes0 (la_cons (le_var 1 (pv 1)) la_nil))))))) lss_nil)
  (lss_cons (ls_if (lt_truth (le_isi (T := "tuple") (le_var 0 (pv 0)) (by decide) rfl E.f_isinstance rfl E.f_tuple (by decide +kernel))) (lss_one (ls_ret (le_callTyT (ItR.tmp it_tuple) rfl E.f_tuple (by decide +kernel) (ll_lc (own := ([("part", 1)] : List (Str × Nat))) rfl S.nd (li_any (le_var 0 (pv 0))) (blkOk_by (by rfl)) (by decide) (fun _ _ _ _ _ => (lg_name (pg_name (i := 1) S.nd rfl (by first | exact Or.inl rfl | exact Or.inr rfl)))) (fun _ _ _ _ _ => lts_nil) (fun _ _ _ _ _ => (le_call O_anew (hr.mono l_anew) rfl g_anew F_anew.kp b_anew takes0 (la_cons (le_var 1 (pv 1)) la_nil))))))) lss_nil)
  (lss_one (ls_ret (le_var 0 (pv 0))))))
theorem sc_is_integer : FnScope ["value"] ["value"] (defScope s_is_integer) := ⟨rfl, rfl, rfl, by decide +kernel, rfl, by decide +kernel, by decide +kernel⟩
theorem ok_is_integer (E : HX K mg base) {sp : PSp}
    (pure : ∀ vs h Q Ex, vs.length = 1 → sp vs h Q Ex → t_is_integer (body Q Ex) (pstart 1 vs) h) : Ok P w K mg base "is_integer" s_is_integer ["value"] (1) sp := by
  obtain ⟨fd, F⟩ := E.d_is_integer
  refine ok_mk (k := 0) F sc_is_integer (fun cdv A outer s H Ex hr => ?_) pure
  have S := sc_is_integer
  have tk := takes_of (X := cxOf (L2.CX P w) P w K mg base ["value"] "is_integer" (defScope s_is_integer) (He.ga K "is_integer") cdv A outer s H Ex) (E := Ex) rfl rfl rfl rfl
  exact (lss_one (ls_ret (le_and (le_isi (T := "int") (le_var 0 (pv 0)) (by decide) rfl E.f_isinstance rfl E.f_int (by decide +kernel)) (le_one (le_not (le_isi (T := "bool") (le_var 0 (pv 0)) (by decide) rfl E.f_isinstance rfl E.f_bool (by decide +kernel)))))))
theorem sc_is_serial : FnScope ["value"] ["value"] (defScope s_is_serial) := ⟨rfl, rfl, rfl, by decide +kernel, rfl, by decide +kernel, by decide +kernel⟩
theorem ok_is_serial (E : HX K mg base) {sp sp_is_integer : PSp} (H_is_integer : Ok P w K mg base "is_integer" s_is_integer ["value"] 1 sp_is_integer)
    (pure : ∀ vs h Q Ex, vs.length = 1 → sp vs h Q Ex → t_is_serial sp_is_integer (body Q Ex) (pstart 1 vs) h) : Ok P w K mg base "is_serial" s_is_serial ["value"] (2) sp := by
  obtain ⟨fd_is_integer, F_is_integer, O_is_integer⟩ := H_is_integer
  have g_is_integer : mg "is_integer" = some (.ref (He.ga K "is_integer")) := E.g_is_integer
  have b_is_integer : Binds K fd_is_integer ["value"] [] := F_is_integer.bindsN (fun _ _ _ _ _ _ us hl => match us, hl with | [_], _ => rfl)
  have l_is_integer : 1 ≤ 1 := by decide
  obtain ⟨fd, F⟩ := E.d_is_serial
  refine ok_mk (k := 1) F sc_is_serial (fun cdv A outer s H Ex hr => ?_) pure
  have S := sc_is_serial
  have tk := takes_of (X := cxOf (L2.CX P w) P w K mg base ["value"] "is_serial" (defScope s_is_serial) (He.ga K "is_serial") cdv A outer s H Ex) (E := Ex) rfl rfl rfl rfl
  exact (lss_one (ls_ret (le_and (le_call O_is_integer (hr.mono l_is_integer) rfl g_is_integer F_is_integer.kp b_is_integer tk (la_cons (le_var 0 (pv 0)) la_nil)) (le_one (le_chain mo_le mo_lt le_int (le_var 0 (pv 0)) (le_gint rfl E.c_CIRCLE))))))
theorem sc_need_serial : FnScope ["value"] ["value"] (defScope s_need_serial) := ⟨rfl, rfl, rfl, by decide +kernel, rfl, by decide +kernel, by decide +kernel⟩
theorem ok_need_serial (E : HX K mg base) {sp sp_is_serial sp_anew : PSp} (H_is_serial : Ok P w K mg base "is_serial" s_is_serial ["value"] 2 sp_is_serial) (H_anew : Ok P w K mg base "anew" s_anew ["value"] 17 sp_anew)
    (pure : ∀ vs h Q Ex, vs.length = 1 → sp vs h Q Ex → t_need_serial sp_is_serial sp_anew (body Q Ex) (pstart 1 vs) h) : Ok P w K mg base "need_serial" s_need_serial ["value"] (18) sp := by
  obtain ⟨fd_is_serial, F_is_serial, O_is_serial⟩ := H_is_serial
  have g_is_serial : mg "is_serial" = some (.ref (He.ga K "is_serial")) := E.g_is_serial
  have b_is_serial : Binds K fd_is_serial ["value"] [] := F_is_serial.bindsN (fun _ _ _ _ _ _ us hl => match us, hl with | [_], _ => rfl)
  have l_is_serial : 2 ≤ 17 := by decide
  obtain ⟨fd_anew, F_anew, O_anew⟩ := H_anew
  have g_anew : mg "anew" = some (.ref (He.ga K "anew")) := E.g_anew
  have b_anew : Binds K fd_anew ["value"] [] := F_anew.bindsN (fun _ _ _ _ _ _ us hl => match us, hl with | [_], _ => rfl)
  have l_anew : 17 ≤ 17 := by decide
  obtain ⟨fd, F⟩ := E.d_need_serial
  refine ok_mk (k := 17) F sc_need_serial (fun cdv A outer s H Ex hr => ?_) pure
  have S := sc_need_serial
  have tk := takes_of (X := cxOf (L2.CX P w) P w K mg base ["value"] "need_serial" (defScope s_need_serial) (He.ga K "need_serial") cdv A outer s H Ex) (E := Ex) rfl rfl rfl rfl
  exact (lss_one (ls_if (lt_not (lt_truth (le_call O_is_serial (hr.mono l_is_serial) rfl g_is_serial F_is_serial.kp b_is_serial tk (la_cons (le_var 0 (pv 0)) la_nil)))) (lss_one (ls_raise rfl (low_ok E.I (List.all_eq_true.mp (He.ba E.e).1 "InvalidSerial" (by decide))) (err_mg E.X E.G E.e (c := "InvalidSerial") (by decide)) hr tk (le_call O_anew (hr.mono l_anew) rfl g_anew F_anew.kp b_anew tk (la_cons (le_var 0 (pv 0)) la_nil)) rfl)) lss_nil))
theorem sc_newer : FnScope ["one", "other"] ["one", "other"] (defScope s_newer) := ⟨rfl, rfl, rfl, by decide +kernel, rfl, by decide +kernel, by decide +kernel⟩
theorem ok_newer (E : HX K mg base) {sp sp_need_serial : PSp} (H_need_serial : Ok P w K mg base "need_serial" s_need_serial ["value"] 18 sp_need_serial)
    (pure : ∀ vs h Q Ex, vs.length = 2 → sp vs h Q Ex → t_newer sp_need_serial (body Q Ex) (pstart 2 vs) h) : Ok P w K mg base "newer" s_newer ["one", "other"] (19) sp := by
  obtain ⟨fd_need_serial, F_need_serial, O_need_serial⟩ := H_need_serial
  have g_need_serial : mg "need_serial" = some (.ref (He.ga K "need_serial")) := E.g_need_serial
  have b_need_serial : Binds K fd_need_serial ["value"] [] := F_need_serial.bindsN (fun _ _ _ _ _ _ us hl => match us, hl with | [_], _ => rfl)
  have l_need_serial : 18 ≤ 18 := by decide
  obtain ⟨fd, F⟩ := E.d_newer
  refine ok_mk (k := 18) F sc_newer (fun cdv A outer s H Ex hr => ?_) pure
  have S := sc_newer
  have tk := takes_of (X := cxOf (L2.CX P w) P w K mg base ["one", "other"] "newer" (defScope s_newer) (He.ga K "newer") cdv A outer s H Ex) (E := Ex) rfl rfl rfl rfl
  exact (lss_cons (ls_expr (le_call O_need_serial (hr.mono l_need_serial) rfl g_need_serial F_need_serial.kp b_need_serial tk (la_cons (le_var 0 (pv 0)) la_nil)))
  (lss_cons (ls_expr (le_call O_need_serial (hr.mono l_need_serial) rfl g_need_serial F_need_serial.kp b_need_serial tk (la_cons (le_var 1 (pv 1)) la_nil)))
  (lss_one (ls_ret (le_chain mo_le mo_le le_int (le_op mo_mod (le_op mo_sub (le_var 0 (pv 0)) (le_var 1 (pv 1))) (le_gint rfl E.c_CIRCLE)) (le_gint rfl E.c_HALF))))))
theorem sc_need_missed : FnScope ["missed"] ["missed"] (defScope s_need_missed) := ⟨rfl, rfl, rfl, by decide +kernel, rfl, by decide +kernel, by decide +kernel⟩
theorem ok_need_missed (E : HX K mg base) {sp : PSp}
    (pure : ∀ vs h Q Ex, vs.length = 1 → sp vs h Q Ex → t_need_missed (body Q Ex) (pstart 1 vs) h) : Ok P w K mg base "need_missed" s_need_missed ["missed"] (1) sp := by
  obtain ⟨fd, F⟩ := E.d_need_missed
  refine ok_mk (k := 0) F sc_need_missed (fun cdv A outer s H Ex hr => ?_) pure
  have S := sc_need_missed
  have tk := takes_of (X := cxOf (L2.CX P w) P w K mg base ["missed"] "need_missed" (defScope s_need_missed) (He.ga K "need_missed") cdv A outer s H Ex) (E := Ex) rfl rfl rfl rfl
  exact (lss_one (ls_if (PW.pt (lw_or (lt_cmp mo_lt (le_var 0 (pv 0)) le_int (nomark _)) (lw_or1 (lt_cmp mo_gt (le_var 0 (pv 0)) (le_gint rfl E.c_MOST_MISSED) (nomark _))))) (lss_one (ls_raise rfl (low_ok E.I (List.all_eq_true.mp (He.ba E.e).1 "InvalidNumber" (by decide))) (err_mg E.X E.G E.e (c := "InvalidNumber") (by decide)) hr tk (le_var 0 (pv 0)) rfl)) lss_nil))
theorem sc_fewest_steps : FnScope ["one", "other", "missed", "far", "wide"] ["one", "other", "missed"] (defScope s_fewest_steps) := ⟨rfl, rfl, rfl, by decide +kernel, rfl, by decide +kernel, by decide +kernel⟩
theorem ok_fewest_steps (E : HX K mg base) {sp sp_need_serial sp_need_missed : PSp} (H_need_serial : Ok P w K mg base "need_serial" s_need_serial ["value"] 18 sp_need_serial) (H_need_missed : Ok P w K mg base "need_missed" s_need_missed ["missed"] 1 sp_need_missed)
    (pure : ∀ vs h Q Ex, vs.length = 3 → sp vs h Q Ex → t_fewest_steps sp_need_serial sp_need_missed (body Q Ex) (pstart 5 vs) h) : Ok P w K mg base "fewest_steps" s_fewest_steps ["one", "other", "missed"] (19) sp := by
  obtain ⟨fd_need_serial, F_need_serial, O_need_serial⟩ := H_need_serial
  have g_need_serial : mg "need_serial" = some (.ref (He.ga K "need_serial")) := E.g_need_serial
  have b_need_serial : Binds K fd_need_serial ["value"] [] := F_need_serial.bindsN (fun _ _ _ _ _ _ us hl => match us, hl with | [_], _ => rfl)
  have l_need_serial : 18 ≤ 18 := by decide
  obtain ⟨fd_need_missed, F_need_missed, O_need_missed⟩ := H_need_missed
  have g_need_missed : mg "need_missed" = some (.ref (He.ga K "need_missed")) := E.g_need_missed
  have b_need_missed : Binds K fd_need_missed ["missed"] [] := F_need_missed.bindsN (fun _ _ _ _ _ _ us hl => match us, hl with | [_], _ => rfl)
  have l_need_missed : 1 ≤ 18 := by decide
  obtain ⟨fd, F⟩ := E.d_fewest_steps
  refine ok_mk (k := 18) F sc_fewest_steps (fun cdv A outer s H Ex hr => ?_) pure
  have S := sc_fewest_steps
  have tk := takes_of (X := cxOf (L2.CX P w) P w K mg base ["one", "other", "missed", "far", "wide"] "fewest_steps" (defScope s_fewest_steps) (He.ga K "fewest_steps") cdv A outer s H Ex) (E := Ex) rfl rfl rfl rfl
  exact (lss_cons (ls_expr (le_call O_need_serial (hr.mono l_need_serial) rfl g_need_serial F_need_serial.kp b_need_serial tk (la_cons (le_var 0 (pv 0)) la_nil)))
  (lss_cons (ls_expr (le_call O_need_serial (hr.mono l_need_serial) rfl g_need_serial F_need_serial.kp b_need_serial tk (la_cons (le_var 1 (pv 1)) la_nil)))
  (lss_cons (ls_expr (le_call O_need_missed (hr.mono l_need_missed) rfl g_need_missed F_need_missed.kp b_need_missed tk (la_cons (le_var 2 (pv 2)) la_nil)))
  (lss_cons (ls_set (i := 3) S.nd rfl (by first | exact Or.inl rfl | exact Or.inr rfl) (le_op mo_mod (le_op mo_sub (le_var 1 (pv 1)) (le_var 0 (pv 0))) (le_gint rfl E.c_CIRCLE)))
  (lss_cons (ls_set (i := 4) S.nd rfl (by first | exact Or.inl rfl | exact Or.inr rfl) (le_op mo_add (le_var 2 (pv 2)) le_int))
  (lss_cons (ls_if (lt_cmp (mo_eq hr.units) (le_var 3 (pv 3)) le_int (nomark _)) (lss_one (ls_ret le_int)) lss_nil)
  (lss_cons (ls_if (lt_cmp mo_le (le_var 3 (pv 3)) (le_gint rfl E.c_HALF) (nomark _)) (lss_one (ls_ret le_int)) lss_nil)
  (lss_cons (ls_if (lt_cmp mo_le (le_var 3 (pv 3)) (le_op mo_mul le_int (le_gint rfl E.c_HALF)) (nomark _)) (lss_one (ls_ret (le_op mo_add (le_var 4 (pv 4)) (le_callB (mc_max2 rfl) rfl E.f_max (by decide +kernel) (la_cons le_int (la_cons (le_op mo_add (le_op mo_sub (le_var 3 (pv 3)) (le_op mo_mul le_int (le_gint rfl E.c_HALF))) (le_var 4 (pv 4))) la_nil)))))) lss_nil)
  (lss_one (ls_ret (le_op mo_add (le_op mo_mul le_int (le_var 4 (pv 4))) le_int)))))))))))
theorem sc_steps : FnScope ["one", "other", "missed", "count", "wide", "great", "far", "gaps", "over", "at", "way", "place", "gap", "less"] ["one", "other", "missed"] (defScope s_steps) := ⟨rfl, rfl, rfl, by decide +kernel, rfl, by decide +kernel, by decide +kernel⟩
theorem ok_steps (E : HX K mg base) {sp sp_fewest_steps : PSp} (H_fewest_steps : Ok P w K mg base "fewest_steps" s_fewest_steps ["one", "other", "missed"] 19 sp_fewest_steps)
    (pure : ∀ vs h Q Ex, vs.length = 3 → sp vs h Q Ex → t_steps sp_fewest_steps (body Q Ex) (pstart 14 vs) h) : Ok P w K mg base "steps" s_steps ["one", "other", "missed"] (20) sp := by
  obtain ⟨fd_fewest_steps, F_fewest_steps, O_fewest_steps⟩ := H_fewest_steps
  have g_fewest_steps : mg "fewest_steps" = some (.ref (He.ga K "fewest_steps")) := E.g_fewest_steps
  have b_fewest_steps : Binds K fd_fewest_steps ["one", "other", "missed"] [] := F_fewest_steps.bindsN (fun _ _ _ _ _ _ us hl => match us, hl with | [_, _, _], _ => rfl)
  have l_fewest_steps : 19 ≤ 19 := by decide
  obtain ⟨fd, F⟩ := E.d_steps
  refine ok_mk (k := 19) F sc_steps (fun cdv A outer s H Ex hr => ?_) pure
  have S := sc_steps
  have tk := takes_of (X := cxOf (L2.CX P w) P w K mg base ["one", "other", "missed", "count", "wide", "great", "far", "gaps", "over", "at", "way", "place", "gap", "less"] "steps" (defScope s_steps) (He.ga K "steps") cdv A outer s H Ex) (E := Ex) rfl rfl rfl rfl
  exact (lss_cons (ls_set (i := 3) S.nd rfl (by first | exact Or.inl rfl | exact Or.inr rfl) (le_call O_fewest_steps (hr.mono l_fewest_steps) rfl g_fewest_steps F_fewest_steps.kp b_fewest_steps tk (la_cons (le_var 0 (pv 0)) (la_cons (le_var 1 (pv 1)) (la_cons (le_var 2 (pv 2)) la_nil)))))
  (lss_cons (ls_if (lt_cmp mo_lt (le_var 3 (pv 3)) le_int (nomark _)) (lss_one (ls_ret (le_slice (le_fz (ll_lst (la_cons (le_var 1 (pv 1)) la_nil))) lo_none (lo_some (le_var 3 (pv 3)))))) lss_nil)
  (lss_cons (ls_set (i := 4) S.nd rfl (by first | exact Or.inl rfl | exact Or.inr rfl) (le_op mo_add (le_var 2 (pv 2)) le_int))
  (lss_cons (ls_set (i := 5) S.nd rfl (by first | exact Or.inl rfl | exact Or.inr rfl) (le_op mo_sub (le_gint rfl E.c_HALF) (le_var 2 (pv 2))))
  (lss_cons (ls_set (i := 6) S.nd rfl (by first | exact Or.inl rfl | exact Or.inr rfl) (le_op mo_mod (le_op mo_sub (le_var 1 (pv 1)) (le_var 0 (pv 0))) (le_gint rfl E.c_CIRCLE)))
  (lss_cons (ls_setLc (i := 7) (own := ([("at", 9)] : List (Str × Nat))) rfl S.nd rfl rfl (sw_true rfl rfl rfl (by decide +kernel)) (li_rng1 rfl E.f_range (le_var 3 (pv 3))) (blkOk_by (by rfl)) (by decide) (fun _ _ _ _ _ => (lg_name (pg_name (i := 9) S.nd rfl (by first | exact Or.inl rfl | exact Or.inr rfl)))) (fun _ _ _ _ _ => lts_nil) (fun _ _ _ _ _ => (le_if (lt_cmp (mo_eq hr.units) (le_op mo_mod (le_var 9 (pv 9)) (le_var 4 (pv 4))) le_int (nomark _)) (le_var 5 (pv 5)) le_int)))
  (lss_cons (ls_set (i := 8) S.nd rfl (by first | exact Or.inl rfl | exact Or.inr rfl) (le_op mo_sub (le_callB (ItR.lst (it_sum rfl)) rfl E.f_sum (by decide +kernel) (la_cons (le_var 7 (pv 7)) la_nil)) (le_var 6 (pv 6))))
  (lss_cons (ls_for (passes_of rfl) rfl (li_rng1 rfl E.f_range (le_var 3 (pv 3))) (lg_name (pg_name (i := 9) S.nd rfl (by first | exact Or.inl rfl | exact Or.inr rfl))) (lss_cons (ls_set (i := 13) S.nd rfl (by first | exact Or.inl rfl | exact Or.inr rfl) (le_callB (mc_min2 rfl) rfl E.f_min (by decide +kernel) (la_cons (le_var 8 (pv 8)) (la_cons (le_op mo_sub (le_ix (le_var 7 (pv 7)) (le_var 9 (pv 9)) (fun _ _ => rfl)) le_int) la_nil))))
  (lss_cons (ls_setS (le_op mo_sub (le_ix (le_var 7 (pv 7)) (le_var 9 (pv 9)) (fun _ _ => rfl)) (le_var 13 (pv 13))) (le_var 7 (pv 7)) (le_var 9 (pv 9)))
  (lss_one (ls_set (i := 8) S.nd rfl (by first | exact Or.inl rfl | exact Or.inr rfl) (le_op mo_sub (le_var 8 (pv 8)) (le_var 13 (pv 13))))))))
  (lss_cons (ls_set (i := 10) S.nd rfl (by first | exact Or.inl rfl | exact Or.inr rfl) (le_new (ll_lst la_nil)))
  (lss_cons (ls_set (i := 11) S.nd rfl (by first | exact Or.inl rfl | exact Or.inr rfl) (le_var 0 (pv 0)))
  (lss_cons (ls_for (passes_of rfl) rfl (li_any (le_var 7 (pv 7))) (lg_name (pg_name (i := 12) S.nd rfl (by first | exact Or.inl rfl | exact Or.inr rfl))) (lss_cons (ls_set (i := 11) S.nd rfl (by first | exact Or.inl rfl | exact Or.inr rfl) (le_op mo_mod (le_op mo_addV (le_var 11 (pv 11)) (le_var 12 (pv 12))) (le_gint rfl E.c_CIRCLE)))
  (lss_one (ls_expr (le_bm (.inr rfl) PySem.F.plainAttrs_list PySem.F.slot_list_append PySem.F.type_list_append mm_append (le_var 10 (pv 10)) (la_cons (le_var 11 (pv 11)) la_nil))))))
  (lss_one (ls_ret (le_var 10 (pv 10)))))))))))))))
theorem sc_further : FnScope ["serial", "steps"] ["serial", "steps"] (defScope s_further) := ⟨rfl, rfl, rfl, by decide +kernel, rfl, by decide +kernel, by decide +kernel⟩
theorem ok_further (E : HX K mg base) {sp sp_need_serial sp_steps : PSp} (H_need_serial : Ok P w K mg base "need_serial" s_need_serial ["value"] 18 sp_need_serial) (H_steps : Ok P w K mg base "steps" s_steps ["one", "other", "missed"] 20 sp_steps)
    (pure : ∀ vs h Q Ex, vs.length = 2 → sp vs h Q Ex → t_further sp_need_serial sp_steps (body Q Ex) (pstart 2 vs) h) : Ok P w K mg base "further" s_further ["serial", "steps"] (21) sp := by
  obtain ⟨fd_need_serial, F_need_serial, O_need_serial⟩ := H_need_serial
  have g_need_serial : mg "need_serial" = some (.ref (He.ga K "need_serial")) := E.g_need_serial
  have b_need_serial : Binds K fd_need_serial ["value"] [] := F_need_serial.bindsN (fun _ _ _ _ _ _ us hl => match us, hl with | [_], _ => rfl)
  have l_need_serial : 18 ≤ 20 := by decide
  obtain ⟨fd_steps, F_steps, O_steps⟩ := H_steps
  have g_steps : mg "steps" = some (.ref (He.ga K "steps")) := E.g_steps
  have b_steps : Binds K fd_steps ["one", "other", "missed"] [] := F_steps.bindsN (fun _ _ _ _ _ _ us hl => match us, hl with | [_, _, _], _ => rfl)
  have l_steps : 20 ≤ 20 := by decide
  obtain ⟨fd, F⟩ := E.d_further
  refine ok_mk (k := 20) F sc_further (fun cdv A outer s H Ex hr => ?_) pure
  have S := sc_further
  have tk := takes_of (X := cxOf (L2.CX P w) P w K mg base ["serial", "steps"] "further" (defScope s_further) (He.ga K "further") cdv A outer s H Ex) (E := Ex) rfl rfl rfl rfl
  exact (lss_cons (ls_expr (le_call O_need_serial (hr.mono l_need_serial) rfl g_need_serial F_need_serial.kp b_need_serial tk (la_cons (le_var 0 (pv 0)) la_nil)))
  (lss_cons (ls_if (lt_cmp mo_lt (le_var 1 (pv 1)) le_int (nomark _)) (lss_one (ls_raise rfl (low_ok E.I (List.all_eq_true.mp (He.ba E.e).1 "InvalidNumber" (by decide))) (err_mg E.X E.G E.e (c := "InvalidNumber") (by decide)) hr tk (le_var 1 (pv 1)) rfl)) lss_nil)
  (lss_one (ls_ret (le_op mo_mod (le_op mo_addV (le_var 0 (pv 0)) (le_var 1 (pv 1))) (le_gint rfl E.c_CIRCLE))))))
theorem sc_newest : FnScope ["serials", "serial", "other"] ["serials"] (defScope s_newest) := ⟨rfl, rfl, rfl, by decide +kernel, rfl, by decide +kernel, by decide +kernel⟩
theorem ok_newest (E : HX K mg base) {sp sp_need_serial sp_newer : PSp} (H_need_serial : Ok P w K mg base "need_serial" s_need_serial ["value"] 18 sp_need_serial) (H_newer : Ok P w K mg base "newer" s_newer ["one", "other"] 19 sp_newer)
    (pure : ∀ vs h Q Ex, vs.length = 1 → sp vs h Q Ex → t_newest sp_need_serial sp_newer (body Q Ex) (pstart 3 vs) h) : Ok P w K mg base "newest" s_newest ["serials"] (20) sp := by
  obtain ⟨fd_need_serial, F_need_serial, O_need_serial⟩ := H_need_serial
  have g_need_serial : mg "need_serial" = some (.ref (He.ga K "need_serial")) := E.g_need_serial
  have b_need_serial : Binds K fd_need_serial ["value"] [] := F_need_serial.bindsN (fun _ _ _ _ _ _ us hl => match us, hl with | [_], _ => rfl)
  have l_need_serial : 18 ≤ 19 := by decide
  obtain ⟨fd_newer, F_newer, O_newer⟩ := H_newer
  have g_newer : mg "newer" = some (.ref (He.ga K "newer")) := E.g_newer
  have b_newer : Binds K fd_newer ["one", "other"] [] := F_newer.bindsN (fun _ _ _ _ _ _ us hl => match us, hl with | [_, _], _ => rfl)
  have l_newer : 19 ≤ 19 := by decide
  obtain ⟨fd, F⟩ := E.d_newest
  refine ok_mk (k := 19) F sc_newest (fun cdv A outer s H Ex hr => ?_) pure
  have S := sc_newest
  have tk := takes_of (X := cxOf (L2.CX P w) P w K mg base ["serials", "serial", "other"] "newest" (defScope s_newest) (He.ga K "newest") cdv A outer s H Ex) (E := Ex) rfl rfl rfl rfl
  exact (lss_cons (ls_for (passes_of rfl) rfl (li_any (le_var 0 (pv 0))) (lg_name (pg_name (i := 1) S.nd rfl (by first | exact Or.inl rfl | exact Or.inr rfl))) (lss_one (ls_expr (le_call O_need_serial (hr.mono l_need_serial) rfl g_need_serial F_need_serial.kp b_need_serial tk (la_cons (le_var 1 (pv 1)) la_nil)))))
  (lss_cons (ls_for (passes_of rfl) rfl (li_any (le_var 0 (pv 0))) (lg_name (pg_name (i := 1) S.nd rfl (by first | exact Or.inl rfl | exact Or.inr rfl))) (lss_one (ls_if (lt_truth (le_callBT (ItR.tmp (it_all rfl)) rfl E.f_all (by decide +kernel) (ll_lc (own := ([("other", 2)] : List (Str × Nat))) rfl S.nd (li_any (le_var 0 (pv 0))) (blkOk_by (by rfl)) (by decide) (fun _ _ _ _ _ => (lg_name (pg_name (i := 2) S.nd rfl (by first | exact Or.inl rfl | exact Or.inr rfl)))) (fun _ _ _ _ _ => lts_nil) (fun _ _ _ _ _ => (le_or (le_cmp (mo_eq hr.units) (le_var 1 (pv 1)) (le_var 2 (pv 2)) (nomark _)) (le_one (le_call O_newer (hr.mono l_newer) rfl g_newer F_newer.kp b_newer takes0 (la_cons (le_var 1 (pv 1)) (la_cons (le_var 2 (pv 2)) la_nil))))))))) (lss_one (ls_ret (le_var 1 (pv 1)))) lss_nil)))
  (lss_one (ls_ret le_non))))
theorem sc_judge_steps : FnScope ["one", "other", "missed", "value", "count", "places", "last", "serial", "gap", "at"] ["one", "other", "missed", "value"] (defScope s_judge_steps) := ⟨rfl, rfl, rfl, by decide +kernel, rfl, by decide +kernel, by decide +kernel⟩
theorem ok_judge_steps (E : HX K mg base) {sp sp_fewest_steps sp_is_serial : PSp} (H_fewest_steps : Ok P w K mg base "fewest_steps" s_fewest_steps ["one", "other", "missed"] 19 sp_fewest_steps) (H_is_serial : Ok P w K mg base "is_serial" s_is_serial ["value"] 2 sp_is_serial)
    (pure : ∀ vs h Q Ex, vs.length = 4 → sp vs h Q Ex → t_judge_steps sp_fewest_steps sp_is_serial (body Q Ex) (pstart 10 vs) h) : Ok P w K mg base "judge_steps" s_judge_steps ["one", "other", "missed", "value"] (20) sp := by
  obtain ⟨fd_fewest_steps, F_fewest_steps, O_fewest_steps⟩ := H_fewest_steps
  have g_fewest_steps : mg "fewest_steps" = some (.ref (He.ga K "fewest_steps")) := E.g_fewest_steps
  have b_fewest_steps : Binds K fd_fewest_steps ["one", "other", "missed"] [] := F_fewest_steps.bindsN (fun _ _ _ _ _ _ us hl => match us, hl with | [_, _, _], _ => rfl)
  have l_fewest_steps : 19 ≤ 19 := by decide
  obtain ⟨fd_is_serial, F_is_serial, O_is_serial⟩ := H_is_serial
  have g_is_serial : mg "is_serial" = some (.ref (He.ga K "is_serial")) := E.g_is_serial
  have b_is_serial : Binds K fd_is_serial ["value"] [] := F_is_serial.bindsN (fun _ _ _ _ _ _ us hl => match us, hl with | [_], _ => rfl)
  have l_is_serial : 2 ≤ 19 := by decide
  obtain ⟨fd, F⟩ := E.d_judge_steps
  refine ok_mk (k := 19) F sc_judge_steps (fun cdv A outer s H Ex hr => ?_) pure
  have S := sc_judge_steps
  have tk := takes_of (X := cxOf (L2.CX P w) P w K mg base ["one", "other", "missed", "value", "count", "places", "last", "serial", "gap", "at"] "judge_steps" (defScope s_judge_steps) (He.ga K "judge_steps") cdv A outer s H Ex) (E := Ex) rfl rfl rfl rfl
  exact (lss_cons (ls_set (i := 4) S.nd rfl (by first | exact Or.inl rfl | exact Or.inr rfl) (le_call O_fewest_steps (hr.mono l_fewest_steps) rfl g_fewest_steps F_fewest_steps.kp b_fewest_steps tk (la_cons (le_var 0 (pv 0)) (la_cons (le_var 1 (pv 1)) (la_cons (le_var 2 (pv 2)) la_nil)))))
  (lss_cons (ls_if (PW.pt (lw_or (lt_not (lt_truth (le_isi (T := "list") (le_var 3 (pv 3)) (by decide) rfl E.f_isinstance rfl E.f_list (by decide +kernel)))) (lw_or1 (lt_cmp (mo_ne hr.units) (le_callB mc_len rfl E.f_len (by decide +kernel) (la_cons (le_var 3 (pv 3)) la_nil)) (le_var 4 (pv 4)) (nomark _))))) (lss_one (ls_ret le_bl)) lss_nil)
  (lss_cons (ls_if (lt_not (lt_truth (le_callBT (ItR.tmp (it_all rfl)) rfl E.f_all (by decide +kernel) (ll_lc (own := ([("serial", 7)] : List (Str × Nat))) rfl S.nd (li_any (le_var 3 (pv 3))) (blkOk_by (by rfl)) (by decide) (fun _ _ _ _ _ => (lg_name (pg_name (i := 7) S.nd rfl (by first | exact Or.inl rfl | exact Or.inr rfl)))) (fun _ _ _ _ _ => lts_nil) (fun _ _ _ _ _ => (le_call O_is_serial (hr.mono l_is_serial) rfl g_is_serial F_is_serial.kp b_is_serial takes0 (la_cons (le_var 7 (pv 7)) la_nil))))))) (lss_one (ls_ret le_bl)) lss_nil)
  (lss_cons (ls_set (i := 5) S.nd rfl (by first | exact Or.inl rfl | exact Or.inr rfl) (le_new (ll_lst (la_cons le_int la_nil))))
  (lss_cons (ls_set (i := 6) S.nd rfl (by first | exact Or.inl rfl | exact Or.inr rfl) (le_var 0 (pv 0)))
  (lss_cons (ls_for (passes_of rfl) rfl (li_any (le_var 3 (pv 3))) (lg_name (pg_name (i := 7) S.nd rfl (by first | exact Or.inl rfl | exact Or.inr rfl))) (lss_cons (ls_set (i := 8) S.nd rfl (by first | exact Or.inl rfl | exact Or.inr rfl) (le_op mo_mod (le_op mo_sub (le_var 7 (pv 7)) (le_var 6 (pv 6))) (le_gint rfl E.c_CIRCLE)))
  (lss_cons (ls_if (PW.pt (lw_or (lt_cmp mo_lt (le_var 8 (pv 8)) le_int (nomark _)) (lw_or1 (lt_cmp mo_gt (le_var 8 (pv 8)) (le_gint rfl E.c_HALF) (nomark _))))) (lss_one (ls_ret le_bl)) lss_nil)
  (lss_cons (ls_expr (le_bm (.inr rfl) PySem.F.plainAttrs_list PySem.F.slot_list_append PySem.F.type_list_append mm_append (le_var 5 (pv 5)) (la_cons (le_op mo_addV (le_ix (le_var 5 (pv 5)) (le_un mo_neg le_int) (fun _ _ => rfl)) (le_var 8 (pv 8))) la_nil)))
  (lss_one (ls_set (i := 6) S.nd rfl (by first | exact Or.inl rfl | exact Or.inr rfl) (le_var 7 (pv 7))))))))
  (lss_cons (ls_if (lt_cmp (mo_ne hr.units) (le_var 6 (pv 6)) (le_var 1 (pv 1)) (nomark _)) (lss_one (ls_ret le_bl)) lss_nil)
  (lss_one (ls_ret (le_callBT (ItR.tmp (it_all rfl)) rfl E.f_all (by decide +kernel) (ll_lc (own := ([("at", 9)] : List (Str × Nat))) rfl S.nd (li_rng2 rfl E.f_range le_int (le_op mo_add (le_var 4 (pv 4)) le_int)) (blkOk_by (by rfl)) (by decide) (fun _ _ _ _ _ => (lg_name (pg_name (i := 9) S.nd rfl (by first | exact Or.inl rfl | exact Or.inr rfl)))) (fun _ _ _ _ _ => lts_nil) (fun _ _ _ _ _ => (le_cmp mo_le (le_op mo_sub (le_ix (le_var 5 (pv 5)) (le_var 9 (pv 9)) (fun _ _ => rfl)) (le_ix (le_var 5 (pv 5)) (le_callB (mc_max2 rfl) rfl E.f_max (by decide +kernel) (la_cons le_int (la_cons (le_op mo_sub (le_op mo_sub (le_var 9 (pv 9)) (le_var 2 (pv 2))) le_int) la_nil))) (fun _ _ => rfl))) (le_gint rfl E.c_HALF) (nomark _))))))))))))))
theorem sc__law_deck : FnScope ["_law_script", "_law_mixed", "_law_cell"] ["_law_script"] (defScope s__law_deck) := ⟨rfl, rfl, rfl, by decide +kernel, rfl, by decide +kernel, by decide +kernel⟩
theorem ok__law_deck (E : HX K mg base) {sp : PSp}
    (pure : ∀ vs h Q Ex, vs.length = 1 → sp vs h Q Ex → t__law_deck (body Q Ex) (pstart 3 vs) h) : Ok P w K mg base "_law_deck" s__law_deck ["_law_script"] (1) sp := by
  obtain ⟨fd, F⟩ := E.d__law_deck
  refine ok_mk (k := 0) F sc__law_deck (fun cdv A outer s H Ex hr => ?_) pure
  have S := sc__law_deck
  have tk := takes_of (X := cxOf (L2.CX P w) P w K mg base ["_law_script", "_law_mixed", "_law_cell"] "_law_deck" (defScope s__law_deck) (He.ga K "_law_deck") cdv A outer s H Ex) (E := Ex) rfl rfl rfl rfl
  exact (lss_cons (ls_set (i := 1) S.nd rfl (by first | exact Or.inl rfl | exact Or.inr rfl) le_int)
  (lss_cons (ls_for (passes_of rfl) rfl (li_any (le_var 0 (pv 0))) (lg_name (pg_name (i := 2) S.nd rfl (by first | exact Or.inl rfl | exact Or.inr rfl))) (lss_one (ls_set (i := 1) S.nd rfl (by first | exact Or.inl rfl | exact Or.inr rfl) (le_op mo_mod (le_callTy mc_int rfl E.f_int (by decide +kernel) (la_cons (le_op mo_add (le_op mo_mulV (le_var 1 (pv 1)) le_int) (le_callB mc_abs rfl E.f_abs (by decide +kernel) (la_cons (le_var 2 (pv 2)) la_nil))) la_nil)) (le_op mo_add (le_op mo_pow le_int le_int) le_int)))))
  (lss_one (ls_ret (le_new (ll_lst (la_cons (le_callTy mc_listV rfl E.f_list (by decide +kernel) (la_cons (le_var 0 (pv 0)) la_nil)) (la_cons le_int (la_cons le_int (la_cons (le_var 1 (pv 1)) (la_cons le_int la_nil)))))))))))
theorem sc__law_draw : FnScope ["_law_deck_here", "_law_size", "_law_stir", "_law_cell", "_law_digit"] ["_law_deck_here", "_law_size"] (defScope s__law_draw) := ⟨rfl, rfl, rfl, by decide +kernel, rfl, by decide +kernel, by decide +kernel⟩
theorem ok__law_draw (E : HX K mg base) {sp : PSp}
    (pure : ∀ vs h Q Ex, vs.length = 2 → sp vs h Q Ex → t__law_draw (body Q Ex) (pstart 5 vs) h) : Ok P w K mg base "_law_draw" s__law_draw ["_law_deck_here", "_law_size"] (1) sp := by
  obtain ⟨fd, F⟩ := E.d__law_draw
  refine ok_mk (k := 0) F sc__law_draw (fun cdv A outer s H Ex hr => ?_) pure
  have S := sc__law_draw
  have tk := takes_of (X := cxOf (L2.CX P w) P w K mg base ["_law_deck_here", "_law_size", "_law_stir", "_law_cell", "_law_digit"] "_law_draw" (defScope s__law_draw) (He.ga K "_law_draw") cdv A outer s H Ex) (E := Ex) rfl rfl rfl rfl
  exact (lss_cons (ls_if (PW.pt (lw_and (lt_cmp (mo_eq hr.units) (le_ix (le_var 0 (pv 0)) le_int (fun _ _ => rfl)) le_int (nomark _)) (lw_and1 (lt_cmp mo_lt (le_ix (le_var 0 (pv 0)) le_int (fun _ _ => rfl)) (le_callB mc_len rfl E.f_len (by decide +kernel) (la_cons (le_ix (le_var 0 (pv 0)) le_int (fun _ _ => rfl)) la_nil)) (nomark _))))) (lss_cons (ls_set (i := 3) S.nd rfl (by first | exact Or.inl rfl | exact Or.inr rfl) (le_callB mc_abs rfl E.f_abs (by decide +kernel) (la_cons (le_ix (le_ix (le_var 0 (pv 0)) le_int (fun _ _ => rfl)) (le_ix (le_var 0 (pv 0)) le_int (fun _ _ => rfl)) (fun _ _ => rfl)) la_nil)))
  (lss_cons (ls_setS (le_op mo_add (le_ix (le_var 0 (pv 0)) le_int (fun _ _ => rfl)) le_int) (le_var 0 (pv 0)) le_int)
  (lss_one (ls_if (lt_cmp mo_ge (le_var 3 (pv 3)) (le_op mo_pow le_int le_int) (nomark _)) (lss_one (ls_setS (le_op mo_sub (le_var 3 (pv 3)) (le_op mo_pow le_int le_int)) (le_var 0 (pv 0)) le_int)) (lss_one (ls_setS (le_op mo_add (le_op mo_add (le_ix (le_var 0 (pv 0)) le_int (fun _ _ => rfl)) (le_op mo_mul le_int (le_var 3 (pv 3)))) le_int) (le_var 0 (pv 0)) le_int)))))) lss_nil)
  (lss_cons (ls_if (lt_cmp mo_gt (le_ix (le_var 0 (pv 0)) le_int (fun _ _ => rfl)) le_int (nomark _)) (lss_cons (ls_set (i := 4) S.nd rfl (by first | exact Or.inl rfl | exact Or.inr rfl) (le_op mo_mod (le_callTy mc_int rfl E.f_int (by decide +kernel) (la_cons (le_ix (le_var 0 (pv 0)) le_int (fun _ _ => rfl)) la_nil)) (le_var 1 (pv 1))))
  (lss_cons (ls_setS (le_op mo_fdiv (le_ix (le_var 0 (pv 0)) le_int (fun _ _ => rfl)) (le_var 1 (pv 1))) (le_var 0 (pv 0)) le_int)
  (lss_one (ls_ret (le_var 4 (pv 4)))))) lss_nil)
  (lss_cons (ls_setS (le_op mo_add (le_ix (le_var 0 (pv 0)) le_int (fun _ _ => rfl)) le_int) (le_var 0 (pv 0)) le_int)
  (lss_cons (ls_set (i := 2) S.nd rfl (by first | exact Or.inl rfl | exact Or.inr rfl) (le_op mo_mod (le_callTy mc_int rfl E.f_int (by decide +kernel) (la_cons (le_op mo_pow (le_op mo_add (le_ix (le_var 0 (pv 0)) le_int (fun _ _ => rfl)) (le_op mo_mul le_int (le_ix (le_var 0 (pv 0)) le_int (fun _ _ => rfl)))) le_int) la_nil)) (le_op mo_add (le_op mo_pow le_int le_int) le_int)))
  (lss_cons (ls_setS (le_op mo_mod (le_callTy mc_int rfl E.f_int (by decide +kernel) (la_cons (le_op mo_addV (le_op mo_addV (le_op mo_mulV (le_var 2 (pv 2)) le_int) (le_ix (le_var 0 (pv 0)) le_int (fun _ _ => rfl))) (le_ix (le_var 0 (pv 0)) le_int (fun _ _ => rfl))) la_nil)) (le_op mo_add (le_op mo_pow le_int le_int) le_int)) (le_var 0 (pv 0)) le_int)
  (lss_one (ls_ret (le_op mo_mod (le_op mo_fdiv (le_op mo_mod (le_callTy mc_int rfl E.f_int (by decide +kernel) (la_cons (le_op mo_pow (le_ix (le_var 0 (pv 0)) le_int (fun _ _ => rfl)) le_int) la_nil)) (le_op mo_add (le_op mo_pow le_int le_int) le_int)) le_int) (le_var 1 (pv 1))))))))))
theorem sc__law_way : FnScope ["_law_one", "_law_other"] ["_law_one", "_law_other"] (defScope s__law_way) := ⟨rfl, rfl, rfl, by decide +kernel, rfl, by decide +kernel, by decide +kernel⟩
theorem ok__law_way (E : HX K mg base) {sp : PSp}
    (pure : ∀ vs h Q Ex, vs.length = 2 → sp vs h Q Ex → t__law_way (body Q Ex) (pstart 2 vs) h) : Ok P w K mg base "_law_way" s__law_way ["_law_one", "_law_other"] (1) sp := by
  obtain ⟨fd, F⟩ := E.d__law_way
  refine ok_mk (k := 0) F sc__law_way (fun cdv A outer s H Ex hr => ?_) pure
  have S := sc__law_way
  have tk := takes_of (X := cxOf (L2.CX P w) P w K mg base ["_law_one", "_law_other"] "_law_way" (defScope s__law_way) (He.ga K "_law_way") cdv A outer s H Ex) (E := Ex) rfl rfl rfl rfl
  exact (lss_one (ls_ret (le_op mo_mod (le_callTy mc_int rfl E.f_int (by decide +kernel) (la_cons (le_op mo_sub (le_var 0 (pv 0)) (le_var 1 (pv 1))) la_nil)) (le_op mo_pow le_int le_int))))
theorem sc__law_is_newer : FnScope ["_law_one", "_law_other"] ["_law_one", "_law_other"] (defScope s__law_is_newer) := ⟨rfl, rfl, rfl, by decide +kernel, rfl, by decide +kernel, by decide +kernel⟩
theorem ok__law_is_newer (E : HX K mg base) {sp sp__law_way : PSp} (H__law_way : Ok P w K mg base "_law_way" s__law_way ["_law_one", "_law_other"] 1 sp__law_way)
    (pure : ∀ vs h Q Ex, vs.length = 2 → sp vs h Q Ex → t__law_is_newer sp__law_way (body Q Ex) (pstart 2 vs) h) : Ok P w K mg base "_law_is_newer" s__law_is_newer ["_law_one", "_law_other"] (2) sp := by
  obtain ⟨fd__law_way, F__law_way, O__law_way⟩ := H__law_way
  have g__law_way : mg "_law_way" = some (.ref (He.ga K "_law_way")) := E.g__law_way
  have b__law_way : Binds K fd__law_way ["_law_one", "_law_other"] [] := F__law_way.bindsN (fun _ _ _ _ _ _ us hl => match us, hl with | [_, _], _ => rfl)
  have l__law_way : 1 ≤ 1 := by decide
  obtain ⟨fd, F⟩ := E.d__law_is_newer
  refine ok_mk (k := 1) F sc__law_is_newer (fun cdv A outer s H Ex hr => ?_) pure
  have S := sc__law_is_newer
  have tk := takes_of (X := cxOf (L2.CX P w) P w K mg base ["_law_one", "_law_other"] "_law_is_newer" (defScope s__law_is_newer) (He.ga K "_law_is_newer") cdv A outer s H Ex) (E := Ex) rfl rfl rfl rfl
  exact (lss_one (ls_ret (le_chain mo_le mo_lt le_int (le_call O__law_way (hr.mono l__law_way) rfl g__law_way F__law_way.kp b__law_way tk (la_cons (le_var 0 (pv 0)) (la_cons (le_var 1 (pv 1)) la_nil))) (le_op mo_pow le_int le_int))))
theorem sc__law_serials : FnScope ["_law_deck_here", "_law_one", "_law_far", "_law_missed"] ["_law_deck_here"] (defScope s__law_serials) := ⟨rfl, rfl, rfl, by decide +kernel, rfl, by decide +kernel, by decide +kernel⟩
theorem ok__law_serials (E : HX K mg base) {sp sp__law_draw : PSp} (H__law_draw : Ok P w K mg base "_law_draw" s__law_draw ["_law_deck_here", "_law_size"] 1 sp__law_draw)
    (pure : ∀ vs h Q Ex, vs.length = 1 → sp vs h Q Ex → t__law_serials sp__law_draw (body Q Ex) (pstart 4 vs) h) : Ok P w K mg base "_law_serials" s__law_serials ["_law_deck_here"] (2) sp := by
  obtain ⟨fd__law_draw, F__law_draw, O__law_draw⟩ := H__law_draw
  have g__law_draw : mg "_law_draw" = some (.ref (He.ga K "_law_draw")) := E.g__law_draw
  have b__law_draw : Binds K fd__law_draw ["_law_deck_here", "_law_size"] [] := F__law_draw.bindsN (fun _ _ _ _ _ _ us hl => match us, hl with | [_, _], _ => rfl)
  have l__law_draw : 1 ≤ 1 := by decide
  obtain ⟨fd, F⟩ := E.d__law_serials
  refine ok_mk (k := 1) F sc__law_serials (fun cdv A outer s H Ex hr => ?_) pure
  have S := sc__law_serials
  have tk := takes_of (X := cxOf (L2.CX P w) P w K mg base ["_law_deck_here", "_law_one", "_law_far", "_law_missed"] "_law_serials" (defScope s__law_serials) (He.ga K "_law_serials") cdv A outer s H Ex) (E := Ex) rfl rfl rfl rfl
  exact (lss_cons (ls_set (i := 1) S.nd rfl (by first | exact Or.inl rfl | exact Or.inr rfl) (le_ixT (ll_lst (la_cons le_int (la_cons (le_op mo_sub (le_op mo_pow le_int le_int) le_int) (la_cons (le_call O__law_draw (hr.mono l__law_draw) rfl g__law_draw F__law_draw.kp b__law_draw tk (la_cons (le_var 0 (pv 0)) (la_cons (le_op mo_pow le_int le_int) la_nil))) (la_cons (le_call O__law_draw (hr.mono l__law_draw) rfl g__law_draw F__law_draw.kp b__law_draw tk (la_cons (le_var 0 (pv 0)) (la_cons le_int la_nil))) la_nil))))) (le_call O__law_draw (hr.mono l__law_draw) rfl g__law_draw F__law_draw.kp b__law_draw tk (la_cons (le_var 0 (pv 0)) (la_cons le_int la_nil))) (fun _ _ => rfl)))
  (lss_cons (ls_set (i := 2) S.nd rfl (by first | exact Or.inl rfl | exact Or.inr rfl) (le_ixT (ll_lst (la_cons le_int (la_cons le_int (la_cons (le_op mo_sub (le_op mo_pow le_int le_int) le_int) (la_cons (le_op mo_pow le_int le_int) (la_cons (le_op mo_sub (le_op mo_pow le_int le_int) le_int) (la_cons (le_op mo_sub (le_op mo_pow le_int le_int) le_int) la_nil))))))) (le_call O__law_draw (hr.mono l__law_draw) rfl g__law_draw F__law_draw.kp b__law_draw tk (la_cons (le_var 0 (pv 0)) (la_cons le_int la_nil))) (fun _ _ => rfl)))
  (lss_cons (ls_if (lt_cmp (mo_eq hr.units) (le_call O__law_draw (hr.mono l__law_draw) rfl g__law_draw F__law_draw.kp b__law_draw tk (la_cons (le_var 0 (pv 0)) (la_cons le_int la_nil))) le_int (nomark _)) (lss_one (ls_set (i := 2) S.nd rfl (by first | exact Or.inl rfl | exact Or.inr rfl) (le_call O__law_draw (hr.mono l__law_draw) rfl g__law_draw F__law_draw.kp b__law_draw tk (la_cons (le_var 0 (pv 0)) (la_cons (le_op mo_pow le_int le_int) la_nil))))) (lss_one (ls_if (lt_cmp (mo_eq hr.units) (le_call O__law_draw (hr.mono l__law_draw) rfl g__law_draw F__law_draw.kp b__law_draw tk (la_cons (le_var 0 (pv 0)) (la_cons le_int la_nil))) le_int (nomark _)) (lss_one (ls_set (i := 2) S.nd rfl (by first | exact Or.inl rfl | exact Or.inr rfl) (le_op mo_sub (le_op mo_addV (le_var 2 (pv 2)) (le_call O__law_draw (hr.mono l__law_draw) rfl g__law_draw F__law_draw.kp b__law_draw tk (la_cons (le_var 0 (pv 0)) (la_cons le_int la_nil)))) le_int))) lss_nil)))
  (lss_cons (ls_set (i := 3) S.nd rfl (by first | exact Or.inl rfl | exact Or.inr rfl) (le_fz (ll_lst (la_cons (le_call O__law_draw (hr.mono l__law_draw) rfl g__law_draw F__law_draw.kp b__law_draw tk (la_cons (le_var 0 (pv 0)) (la_cons le_int la_nil))) (la_cons (le_call O__law_draw (hr.mono l__law_draw) rfl g__law_draw F__law_draw.kp b__law_draw tk (la_cons (le_var 0 (pv 0)) (la_cons le_int la_nil))) (la_cons (le_op mo_add le_int (le_call O__law_draw (hr.mono l__law_draw) rfl g__law_draw F__law_draw.kp b__law_draw tk (la_cons (le_var 0 (pv 0)) (la_cons le_int la_nil)))) (la_cons (le_call O__law_draw (hr.mono l__law_draw) rfl g__law_draw F__law_draw.kp b__law_draw tk (la_cons (le_var 0 (pv 0)) (la_cons le_int la_nil))) la_nil)))))))
  (lss_one (ls_ret (le_tup (la_cons (le_var 1 (pv 1)) (la_cons (le_op mo_mod (le_callTy mc_int rfl E.f_int (by decide +kernel) (la_cons (le_op mo_addV (le_var 1 (pv 1)) (le_var 2 (pv 2))) la_nil)) (le_op mo_pow le_int le_int)) (la_cons (le_ix (le_var 3 (pv 3)) (le_call O__law_draw (hr.mono l__law_draw) rfl g__law_draw F__law_draw.kp b__law_draw tk (la_cons (le_var 0 (pv 0)) (la_cons le_int la_nil))) (fun _ _ => rfl)) la_nil))))))))))
theorem sc__law_longest : FnScope ["_law_count", "_law_wide", "_law_rows", "_law_rest"] ["_law_count", "_law_wide"] (defScope s__law_longest) := ⟨rfl, rfl, rfl, by decide +kernel, rfl, by decide +kernel, by decide +kernel⟩
theorem ok__law_longest (E : HX K mg base) {sp : PSp}
    (pure : ∀ vs h Q Ex, vs.length = 2 → sp vs h Q Ex → t__law_longest (body Q Ex) (pstart 4 vs) h) : Ok P w K mg base "_law_longest" s__law_longest ["_law_count", "_law_wide"] (1) sp := by
  obtain ⟨fd, F⟩ := E.d__law_longest
  refine ok_mk (k := 0) F sc__law_longest (fun cdv A outer s H Ex hr => ?_) pure
  have S := sc__law_longest
  have tk := takes_of (X := cxOf (L2.CX P w) P w K mg base ["_law_count", "_law_wide", "_law_rows", "_law_rest"] "_law_longest" (defScope s__law_longest) (He.ga K "_law_longest") cdv A outer s H Ex) (E := Ex) rfl rfl rfl rfl
  exact (lss_cons (ls_if (lt_cmp mo_le (le_var 0 (pv 0)) (le_var 1 (pv 1)) (nomark _)) (lss_one (ls_ret (le_op mo_mul (le_op mo_sub (le_op mo_pow le_int le_int) le_int) (le_callTy mc_int rfl E.f_int (by decide +kernel) (la_cons (le_cmp mo_gt (le_var 0 (pv 0)) le_int (nomark _)) la_nil))))) lss_nil)
  (lss_cons (ls_set (i := 2) S.nd rfl (by first | exact Or.inl rfl | exact Or.inr rfl) (le_op mo_fdiv (le_var 0 (pv 0)) (le_var 1 (pv 1))))
  (lss_cons (ls_set (i := 3) S.nd rfl (by first | exact Or.inl rfl | exact Or.inr rfl) (le_op mo_mod (le_callTy mc_int rfl E.f_int (by decide +kernel) (la_cons (le_var 0 (pv 0)) la_nil)) (le_var 1 (pv 1))))
  (lss_one (ls_ret (le_op mo_add (le_op mo_mulV (le_var 2 (pv 2)) (le_op mo_sub (le_op mo_pow le_int le_int) le_int)) (le_op mo_mul (le_callTy mc_int rfl E.f_int (by decide +kernel) (la_cons (le_cmp mo_gt (le_var 3 (pv 3)) le_int (nomark _)) la_nil)) (le_op mo_add (le_op mo_sub (le_op mo_sub (le_op mo_pow le_int le_int) le_int) (le_var 1 (pv 1))) (le_var 3 (pv 3))))))))))
theorem sc__law_fewest : FnScope ["_law_one", "_law_other", "_law_missed", "_law_far", "_law_count"] ["_law_one", "_law_other", "_law_missed"] (defScope s__law_fewest) := ⟨rfl, rfl, rfl, by decide +kernel, rfl, by decide +kernel, by decide +kernel⟩
theorem ok__law_fewest (E : HX K mg base) {sp sp__law_way sp__law_longest : PSp} (H__law_way : Ok P w K mg base "_law_way" s__law_way ["_law_one", "_law_other"] 1 sp__law_way) (H__law_longest : Ok P w K mg base "_law_longest" s__law_longest ["_law_count", "_law_wide"] 1 sp__law_longest)
    (pure : ∀ vs h Q Ex, vs.length = 3 → sp vs h Q Ex → t__law_fewest sp__law_way sp__law_longest (body Q Ex) (pstart 5 vs) h) : Ok P w K mg base "_law_fewest" s__law_fewest ["_law_one", "_law_other", "_law_missed"] (2) sp := by
  obtain ⟨fd__law_way, F__law_way, O__law_way⟩ := H__law_way
  have g__law_way : mg "_law_way" = some (.ref (He.ga K "_law_way")) := E.g__law_way
  have b__law_way : Binds K fd__law_way ["_law_one", "_law_other"] [] := F__law_way.bindsN (fun _ _ _ _ _ _ us hl => match us, hl with | [_, _], _ => rfl)
  have l__law_way : 1 ≤ 1 := by decide
  obtain ⟨fd__law_longest, F__law_longest, O__law_longest⟩ := H__law_longest
  have g__law_longest : mg "_law_longest" = some (.ref (He.ga K "_law_longest")) := E.g__law_longest
  have b__law_longest : Binds K fd__law_longest ["_law_count", "_law_wide"] [] := F__law_longest.bindsN (fun _ _ _ _ _ _ us hl => match us, hl with | [_, _], _ => rfl)
  have l__law_longest : 1 ≤ 1 := by decide
  obtain ⟨fd, F⟩ := E.d__law_fewest
  refine ok_mk (k := 1) F sc__law_fewest (fun cdv A outer s H Ex hr => ?_) pure
  have S := sc__law_fewest
  have tk := takes_of (X := cxOf (L2.CX P w) P w K mg base ["_law_one", "_law_other", "_law_missed", "_law_far", "_law_count"] "_law_fewest" (defScope s__law_fewest) (He.ga K "_law_fewest") cdv A outer s H Ex) (E := Ex) rfl rfl rfl rfl
  exact (lss_cons (ls_set (i := 3) S.nd rfl (by first | exact Or.inl rfl | exact Or.inr rfl) (le_call O__law_way (hr.mono l__law_way) rfl g__law_way F__law_way.kp b__law_way tk (la_cons (le_var 1 (pv 1)) (la_cons (le_var 0 (pv 0)) la_nil))))
  (lss_cons (ls_set (i := 4) S.nd rfl (by first | exact Or.inl rfl | exact Or.inr rfl) le_int)
  (lss_cons (ls_while (passes_of rfl) (PW.pt (lw_and (lt_cmp mo_lt (le_var 4 (pv 4)) le_int (nomark _)) (lw_and1 (lt_cmp mo_lt (le_call O__law_longest (hr.mono l__law_longest) rfl g__law_longest F__law_longest.kp b__law_longest tk (la_cons (le_var 4 (pv 4)) (la_cons (le_op mo_add (le_var 2 (pv 2)) le_int) la_nil))) (le_var 3 (pv 3)) (nomark _))))) (lss_one (ls_set (i := 4) S.nd rfl (by first | exact Or.inl rfl | exact Or.inr rfl) (le_op mo_add (le_var 4 (pv 4)) le_int))))
  (lss_one (ls_ret (le_var 4 (pv 4)))))))
theorem sc__law_is_way : FnScope ["_law_one", "_law_other", "_law_missed", "_law_value", "_law_ahead", "_law_last", "_law_serial"] ["_law_one", "_law_other", "_law_missed", "_law_value"] (defScope s__law_is_way) := ⟨rfl, rfl, rfl, by decide +kernel, rfl, by decide +kernel, by decide +kernel⟩
theorem ok__law_is_way (E : HX K mg base) {sp sp__law_is_newer sp__law_way : PSp} (H__law_is_newer : Ok P w K mg base "_law_is_newer" s__law_is_newer ["_law_one", "_law_other"] 2 sp__law_is_newer) (H__law_way : Ok P w K mg base "_law_way" s__law_way ["_law_one", "_law_other"] 1 sp__law_way)
    (pure : ∀ vs h Q Ex, vs.length = 4 → sp vs h Q Ex → t__law_is_way sp__law_is_newer sp__law_way (body Q Ex) (pstart 7 vs) h) : Ok P w K mg base "_law_is_way" s__law_is_way ["_law_one", "_law_other", "_law_missed", "_law_value"] (3) sp := by
  obtain ⟨fd__law_is_newer, F__law_is_newer, O__law_is_newer⟩ := H__law_is_newer
  have g__law_is_newer : mg "_law_is_newer" = some (.ref (He.ga K "_law_is_newer")) := E.g__law_is_newer
  have b__law_is_newer : Binds K fd__law_is_newer ["_law_one", "_law_other"] [] := F__law_is_newer.bindsN (fun _ _ _ _ _ _ us hl => match us, hl with | [_, _], _ => rfl)
  have l__law_is_newer : 2 ≤ 2 := by decide
  obtain ⟨fd__law_way, F__law_way, O__law_way⟩ := H__law_way
  have g__law_way : mg "_law_way" = some (.ref (He.ga K "_law_way")) := E.g__law_way
  have b__law_way : Binds K fd__law_way ["_law_one", "_law_other"] [] := F__law_way.bindsN (fun _ _ _ _ _ _ us hl => match us, hl with | [_, _], _ => rfl)
  have l__law_way : 1 ≤ 2 := by decide
  obtain ⟨fd, F⟩ := E.d__law_is_way
  refine ok_mk (k := 2) F sc__law_is_way (fun cdv A outer s H Ex hr => ?_) pure
  have S := sc__law_is_way
  have tk := takes_of (X := cxOf (L2.CX P w) P w K mg base ["_law_one", "_law_other", "_law_missed", "_law_value", "_law_ahead", "_law_last", "_law_serial"] "_law_is_way" (defScope s__law_is_way) (He.ga K "_law_is_way") cdv A outer s H Ex) (E := Ex) rfl rfl rfl rfl
  exact (lss_cons (ls_set (i := 4) S.nd rfl (by first | exact Or.inl rfl | exact Or.inr rfl) (le_new (ll_lst (la_cons le_int la_nil))))
  (lss_cons (ls_set (i := 5) S.nd rfl (by first | exact Or.inl rfl | exact Or.inr rfl) (le_var 0 (pv 0)))
  (lss_cons (ls_for (passes_of rfl) rfl (li_any (le_var 3 (pv 3))) (lg_name (pg_name (i := 6) S.nd rfl (by first | exact Or.inl rfl | exact Or.inr rfl))) (lss_cons (ls_if (lt_not (lt_truth (le_call O__law_is_newer (hr.mono l__law_is_newer) rfl g__law_is_newer F__law_is_newer.kp b__law_is_newer tk (la_cons (le_var 6 (pv 6)) (la_cons (le_var 5 (pv 5)) la_nil))))) (lss_one (ls_ret le_bl)) lss_nil)
  (lss_cons (ls_expr (le_bm (.inr rfl) PySem.F.plainAttrs_list PySem.F.slot_list_append PySem.F.type_list_append mm_append (le_var 4 (pv 4)) (la_cons (le_op mo_addV (le_ix (le_var 4 (pv 4)) (le_un mo_neg le_int) (fun _ _ => rfl)) (le_call O__law_way (hr.mono l__law_way) rfl g__law_way F__law_way.kp b__law_way tk (la_cons (le_var 6 (pv 6)) (la_cons (le_var 5 (pv 5)) la_nil)))) la_nil)))
  (lss_cons (ls_if (lt_cmp mo_ge (le_op mo_sub (le_ix (le_var 4 (pv 4)) (le_un mo_neg le_int) (fun _ _ => rfl)) (le_ix (le_var 4 (pv 4)) (le_callB (mc_max2 rfl) rfl E.f_max (by decide +kernel) (la_cons le_int (la_cons (le_op mo_sub (le_op mo_sub (le_callB mc_len rfl E.f_len (by decide +kernel) (la_cons (le_var 4 (pv 4)) la_nil)) le_int) (le_var 2 (pv 2))) la_nil))) (fun _ _ => rfl))) (le_op mo_pow le_int le_int) (nomark _)) (lss_one (ls_ret le_bl)) lss_nil)
  (lss_one (ls_set (i := 5) S.nd rfl (by first | exact Or.inl rfl | exact Or.inr rfl) (le_var 6 (pv 6))))))))
  (lss_one (ls_ret (le_cmp (mo_eq hr.units) (le_var 5 (pv 5)) (le_var 1 (pv 1)) (nomark _)))))))
theorem sc__law_error : FnScope ["_law_way_here", "_law_first", "_law_second", "_law_third", "_law_found", "e"] ["_law_way_here", "_law_first", "_law_second", "_law_third"] (defScope s__law_error) := ⟨rfl, rfl, rfl, by decide +kernel, rfl, by decide +kernel, by decide +kernel⟩
theorem ok__law_error (E : HX K mg base) {sp sp_newer sp_further sp_newest sp_fewest_steps sp_steps sp_judge_steps : PSp} (H_newer : Ok P w K mg base "newer" s_newer ["one", "other"] 19 sp_newer) (H_further : Ok P w K mg base "further" s_further ["serial", "steps"] 21 sp_further) (H_newest : Ok P w K mg base "newest" s_newest ["serials"] 20 sp_newest) (H_fewest_steps : Ok P w K mg base "fewest_steps" s_fewest_steps ["one", "other", "missed"] 19 sp_fewest_steps) (H_steps : Ok P w K mg base "steps" s_steps ["one", "other", "missed"] 20 sp_steps) (H_judge_steps : Ok P w K mg base "judge_steps" s_judge_steps ["one", "other", "missed", "value"] 20 sp_judge_steps)
    (pure : ∀ vs h Q Ex, vs.length = 4 → sp vs h Q Ex → t__law_error sp_newer sp_further sp_newest sp_fewest_steps sp_steps sp_judge_steps (body Q Ex) (pstart 6 vs) h) : Ok P w K mg base "_law_error" s__law_error ["_law_way_here", "_law_first", "_law_second", "_law_third"] (22) sp := by
  obtain ⟨fd_newer, F_newer, O_newer⟩ := H_newer
  have g_newer : mg "newer" = some (.ref (He.ga K "newer")) := E.g_newer
  have b_newer : Binds K fd_newer ["one", "other"] [] := F_newer.bindsN (fun _ _ _ _ _ _ us hl => match us, hl with | [_, _], _ => rfl)
  have l_newer : 19 ≤ 21 := by decide
  obtain ⟨fd_further, F_further, O_further⟩ := H_further
  have g_further : mg "further" = some (.ref (He.ga K "further")) := E.g_further
  have b_further : Binds K fd_further ["serial", "steps"] [] := F_further.bindsN (fun _ _ _ _ _ _ us hl => match us, hl with | [_, _], _ => rfl)
  have l_further : 21 ≤ 21 := by decide
  obtain ⟨fd_newest, F_newest, O_newest⟩ := H_newest
  have g_newest : mg "newest" = some (.ref (He.ga K "newest")) := E.g_newest
  have b_newest : Binds K fd_newest ["serials"] [] := F_newest.bindsN (fun _ _ _ _ _ _ us hl => match us, hl with | [_], _ => rfl)
  have l_newest : 20 ≤ 21 := by decide
  obtain ⟨fd_fewest_steps, F_fewest_steps, O_fewest_steps⟩ := H_fewest_steps
  have g_fewest_steps : mg "fewest_steps" = some (.ref (He.ga K "fewest_steps")) := E.g_fewest_steps
  have b_fewest_steps : Binds K fd_fewest_steps ["one", "other", "missed"] [] := F_fewest_steps.bindsN (fun _ _ _ _ _ _ us hl => match us, hl with | [_, _, _], _ => rfl)
  have l_fewest_steps : 19 ≤ 21 := by decide
  obtain ⟨fd_steps, F_steps, O_steps⟩ := H_steps
  have g_steps : mg "steps" = some (.ref (He.ga K "steps")) := E.g_steps
  have b_steps : Binds K fd_steps ["one", "other", "missed"] [] := F_steps.bindsN (fun _ _ _ _ _ _ us hl => match us, hl with | [_, _, _], _ => rfl)
  have l_steps : 20 ≤ 21 := by decide
  obtain ⟨fd_judge_steps, F_judge_steps, O_judge_steps⟩ := H_judge_steps
  have g_judge_steps : mg "judge_steps" = some (.ref (He.ga K "judge_steps")) := E.g_judge_steps
  have b_judge_steps : Binds K fd_judge_steps ["one", "other", "missed", "value"] [] := F_judge_steps.bindsN (fun _ _ _ _ _ _ us hl => match us, hl with | [_, _, _, _], _ => rfl)
  have l_judge_steps : 20 ≤ 21 := by decide
  obtain ⟨fd, F⟩ := E.d__law_error
  refine ok_mk (k := 21) F sc__law_error (fun cdv A outer s H Ex hr => ?_) pure
  have S := sc__law_error
  have tk := takes_of (X := cxOf (L2.CX P w) P w K mg base ["_law_way_here", "_law_first", "_law_second", "_law_third", "_law_found", "e"] "_law_error" (defScope s__law_error) (He.ga K "_law_error") cdv A outer s H Ex) (E := Ex) rfl rfl rfl rfl
  exact (lss_cons (ls_set (i := 4) S.nd rfl (by first | exact Or.inl rfl | exact Or.inr rfl) le_non)
  (lss_cons (ls_tryAs (i := 5) E.T (by decide) (err_mg E.X E.G E.e (c := "TreeError") (by decide)) rfl rfl S.nd rfl rfl ⟨rfl, by decide, Or.inl (err_mg E.X E.G E.e (c := "TreeError") (by decide))⟩ tk (fun W pn xe tk' hp' => (lss_one (ls_if (lt_cmp (mo_eq hr.units) (le_var 0 (pv 0)) le_int (nomark _)) (lss_one (ls_expr (le_call O_newer (hr.mono l_newer) rfl g_newer F_newer.kp b_newer tk' (la_cons (le_var 1 (pv 1)) (la_cons (le_var 2 (pv 2)) la_nil))))) (lss_one (ls_if (lt_cmp (mo_eq hr.units) (le_var 0 (pv 0)) le_int (nomark _)) (lss_one (ls_expr (le_call O_further (hr.mono l_further) rfl g_further F_further.kp b_further tk' (la_cons (le_var 1 (pv 1)) (la_cons (le_var 3 (pv 3)) la_nil))))) (lss_one (ls_if (lt_cmp (mo_eq hr.units) (le_var 0 (pv 0)) le_int (nomark _)) (lss_one (ls_expr (le_call O_newest (hr.mono l_newest) rfl g_newest F_newest.kp b_newest tk' (la_cons (le_fz (ll_lst (la_cons (le_var 2 (pv 2)) (la_cons (le_var 1 (pv 1)) (la_cons (le_var 2 (pv 2)) la_nil))))) la_nil)))) (lss_one (ls_if (lt_cmp (mo_eq hr.units) (le_var 0 (pv 0)) le_int (nomark _)) (lss_one (ls_expr (le_call O_fewest_steps (hr.mono l_fewest_steps) rfl g_fewest_steps F_fewest_steps.kp b_fewest_steps tk' (la_cons (le_var 1 (pv 1)) (la_cons (le_var 2 (pv 2)) (la_cons (le_var 3 (pv 3)) la_nil)))))) (lss_one (ls_if (lt_cmp (mo_eq hr.units) (le_var 0 (pv 0)) le_int (nomark _)) (lss_one (ls_expr (le_call O_steps (hr.mono l_steps) rfl g_steps F_steps.kp b_steps tk' (la_cons (le_var 1 (pv 1)) (la_cons (le_var 2 (pv 2)) (la_cons (le_var 3 (pv 3)) la_nil)))))) (lss_one (ls_expr (le_call O_judge_steps (hr.mono l_judge_steps) rfl g_judge_steps F_judge_steps.kp b_judge_steps tk' (la_cons (le_var 1 (pv 1)) (la_cons (le_var 2 (pv 2)) (la_cons (le_var 3 (pv 3)) (la_cons (le_fz (ll_lst la_nil)) la_nil)))))))))))))))))) (fun a oe cls d pn hz hf => (lss_one (ls_set (i := 4) S.nd rfl (by first | exact Or.inl rfl | exact Or.inr rfl) (le_tup (la_cons (le_errIs E.T E.TI hz hf (pv 5) rfl E.f_isinstance rfl (err_mg E.X E.G E.e (c := "InvalidSerial") (by decide)) (by decide)) (la_cons (le_errIs E.T E.TI hz hf (pv 5) rfl E.f_isinstance rfl (err_mg E.X E.G E.e (c := "InvalidNumber") (by decide)) (by decide)) (la_cons (le_errVal E.T hz hf (pv 5)) la_nil))))))))
  (lss_one (ls_ret (le_var 4 (pv 4))))))
theorem sc__law_errors_right : FnScope ["_law_deck_here", "_law_one", "_law_other", "_law_bad", "_law_worse", "_law_number", "_law_way_here", "_law_due", "_law_missed"] ["_law_deck_here", "_law_one", "_law_other"] (defScope s__law_errors_right) := ⟨rfl, rfl, rfl, by decide +kernel, rfl, by decide +kernel, by decide +kernel⟩
theorem ok__law_errors_right (E : HX K mg base) {sp sp__law_draw sp__law_error : PSp} (H__law_draw : Ok P w K mg base "_law_draw" s__law_draw ["_law_deck_here", "_law_size"] 1 sp__law_draw) (H__law_error : Ok P w K mg base "_law_error" s__law_error ["_law_way_here", "_law_first", "_law_second", "_law_third"] 22 sp__law_error)
    (pure : ∀ vs h Q Ex, vs.length = 3 → sp vs h Q Ex → t__law_errors_right sp__law_draw sp__law_error (body Q Ex) (pstart 9 vs) h) : Ok P w K mg base "_law_errors_right" s__law_errors_right ["_law_deck_here", "_law_one", "_law_other"] (23) sp := by
  obtain ⟨fd__law_draw, F__law_draw, O__law_draw⟩ := H__law_draw
  have g__law_draw : mg "_law_draw" = some (.ref (He.ga K "_law_draw")) := E.g__law_draw
  have b__law_draw : Binds K fd__law_draw ["_law_deck_here", "_law_size"] [] := F__law_draw.bindsN (fun _ _ _ _ _ _ us hl => match us, hl with | [_, _], _ => rfl)
  have l__law_draw : 1 ≤ 22 := by decide
  obtain ⟨fd__law_error, F__law_error, O__law_error⟩ := H__law_error
  have g__law_error : mg "_law_error" = some (.ref (He.ga K "_law_error")) := E.g__law_error
  have b__law_error : Binds K fd__law_error ["_law_way_here", "_law_first", "_law_second", "_law_third"] [] := F__law_error.bindsN (fun _ _ _ _ _ _ us hl => match us, hl with | [_, _, _, _], _ => rfl)
  have l__law_error : 22 ≤ 22 := by decide
  obtain ⟨fd, F⟩ := E.d__law_errors_right
  refine ok_mk (k := 22) F sc__law_errors_right (fun cdv A outer s H Ex hr => ?_) pure
  have S := sc__law_errors_right
  have tk := takes_of (X := cxOf (L2.CX P w) P w K mg base ["_law_deck_here", "_law_one", "_law_other", "_law_bad", "_law_worse", "_law_number", "_law_way_here", "_law_due", "_law_missed"] "_law_errors_right" (defScope s__law_errors_right) (He.ga K "_law_errors_right") cdv A outer s H Ex) (E := Ex) rfl rfl rfl rfl
  exact (lss_cons (ls_set (i := 3) S.nd rfl (by first | exact Or.inl rfl | exact Or.inr rfl) (le_ixT (ll_lst (la_cons (le_un mo_neg le_int) (la_cons (le_op mo_pow le_int le_int) (la_cons (le_un mo_neg (le_op mo_pow le_int le_int)) (la_cons (le_op mo_add (le_op mo_add (le_op mo_pow le_int le_int) le_int) (le_call O__law_draw (hr.mono l__law_draw) rfl g__law_draw F__law_draw.kp b__law_draw tk (la_cons (le_var 0 (pv 0)) (la_cons (le_op mo_pow le_int le_int) la_nil)))) la_nil))))) (le_call O__law_draw (hr.mono l__law_draw) rfl g__law_draw F__law_draw.kp b__law_draw tk (la_cons (le_var 0 (pv 0)) (la_cons le_int la_nil))) (fun _ _ => rfl)))
  (lss_cons (ls_set (i := 4) S.nd rfl (by first | exact Or.inl rfl | exact Or.inr rfl) (le_ixT (ll_lst (la_cons (le_un mo_neg le_int) (la_cons (le_op mo_pow le_int le_int) la_nil))) (le_call O__law_draw (hr.mono l__law_draw) rfl g__law_draw F__law_draw.kp b__law_draw tk (la_cons (le_var 0 (pv 0)) (la_cons le_int la_nil))) (fun _ _ => rfl)))
  (lss_cons (ls_set (i := 5) S.nd rfl (by first | exact Or.inl rfl | exact Or.inr rfl) (le_ixT (ll_lst (la_cons (le_un mo_neg le_int) (la_cons (le_op mo_sub (le_un mo_neg le_int) (le_call O__law_draw (hr.mono l__law_draw) rfl g__law_draw F__law_draw.kp b__law_draw tk (la_cons (le_var 0 (pv 0)) (la_cons (le_op mo_pow le_int le_int) la_nil)))) la_nil))) (le_call O__law_draw (hr.mono l__law_draw) rfl g__law_draw F__law_draw.kp b__law_draw tk (la_cons (le_var 0 (pv 0)) (la_cons le_int la_nil))) (fun _ _ => rfl)))
  (lss_cons (ls_for (passes_of rfl) rfl (li_rng1 rfl E.f_range le_int) (lg_name (pg_name (i := 6) S.nd rfl (by first | exact Or.inl rfl | exact Or.inr rfl))) (lss_cons (ls_if (lt_cmp (mo_ne hr.units) (le_call O__law_error (hr.mono l__law_error) rfl g__law_error F__law_error.kp b__law_error tk (la_cons (le_var 6 (pv 6)) (la_cons (le_var 3 (pv 3)) (la_cons (le_var 2 (pv 2)) (la_cons le_int la_nil))))) (le_tup (la_cons le_bl (la_cons le_bl (la_cons (le_var 3 (pv 3)) la_nil)))) (nomark _)) (lss_one (ls_ret le_bl)) lss_nil)
  (lss_cons (ls_if (PW.pt (lw_and (lt_cmp (mo_ne hr.units) (le_var 6 (pv 6)) le_int (nomark _)) (lw_and1 (lt_cmp (mo_ne hr.units) (le_call O__law_error (hr.mono l__law_error) rfl g__law_error F__law_error.kp b__law_error tk (la_cons (le_var 6 (pv 6)) (la_cons (le_var 1 (pv 1)) (la_cons (le_var 3 (pv 3)) (la_cons le_int la_nil))))) (le_tup (la_cons le_bl (la_cons le_bl (la_cons (le_var 3 (pv 3)) la_nil)))) (nomark _))))) (lss_one (ls_ret le_bl)) lss_nil)
  (lss_cons (ls_set (i := 7) S.nd rfl (by first | exact Or.inl rfl | exact Or.inr rfl) (le_if (lt_cmp (mo_ne hr.units) (le_var 6 (pv 6)) le_int (nomark _)) (le_var 3 (pv 3)) (le_var 4 (pv 4))))
  (lss_cons (ls_if (lt_cmp (mo_ne hr.units) (le_call O__law_error (hr.mono l__law_error) rfl g__law_error F__law_error.kp b__law_error tk (la_cons (le_var 6 (pv 6)) (la_cons (le_var 3 (pv 3)) (la_cons (le_var 4 (pv 4)) (la_cons (le_var 5 (pv 5)) la_nil))))) (le_tup (la_cons le_bl (la_cons le_bl (la_cons (le_var 7 (pv 7)) la_nil)))) (nomark _)) (lss_one (ls_ret le_bl)) lss_nil)
  (lss_one (ls_if (lt_notN (le_call O__law_error (hr.mono l__law_error) rfl g__law_error F__law_error.kp b__law_error tk (la_cons (le_var 6 (pv 6)) (la_cons (le_var 1 (pv 1)) (la_cons (le_var 2 (pv 2)) (la_cons le_int la_nil)))))) (lss_one (ls_ret le_bl)) lss_nil)))))))
  (lss_cons (ls_if (PW.pt (lw_or (lt_cmp (mo_ne hr.units) (le_call O__law_error (hr.mono l__law_error) rfl g__law_error F__law_error.kp b__law_error tk (la_cons le_int (la_cons (le_var 1 (pv 1)) (la_cons (le_var 2 (pv 2)) (la_cons (le_var 5 (pv 5)) la_nil))))) (le_tup (la_cons le_bl (la_cons le_bl (la_cons (le_var 5 (pv 5)) la_nil)))) (nomark _)) (lw_or1 (lt_notN (le_call O__law_error (hr.mono l__law_error) rfl g__law_error F__law_error.kp b__law_error tk (la_cons le_int (la_cons (le_var 1 (pv 1)) (la_cons (le_var 2 (pv 2)) (la_cons (le_op mo_pow le_int le_int) la_nil))))))))) (lss_one (ls_ret le_bl)) lss_nil)
  (lss_cons (ls_for (passes_of rfl) rfl (li_rng2 rfl E.f_range le_int le_int) (lg_name (pg_name (i := 6) S.nd rfl (by first | exact Or.inl rfl | exact Or.inr rfl))) (lss_cons (ls_for (passes_of rfl) rfl (li_any (le_tup (la_cons (le_var 5 (pv 5)) (la_cons le_int (la_cons (le_op mo_sub le_int (le_var 5 (pv 5))) la_nil))))) (lg_name (pg_name (i := 8) S.nd rfl (by first | exact Or.inl rfl | exact Or.inr rfl))) (lss_one (ls_if (lt_cmp (mo_ne hr.units) (le_call O__law_error (hr.mono l__law_error) rfl g__law_error F__law_error.kp b__law_error tk (la_cons (le_var 6 (pv 6)) (la_cons (le_var 1 (pv 1)) (la_cons (le_var 2 (pv 2)) (la_cons (le_var 8 (pv 8)) la_nil))))) (le_tup (la_cons le_bl (la_cons le_bl (la_cons (le_var 8 (pv 8)) la_nil)))) (nomark _)) (lss_one (ls_ret le_bl)) lss_nil)))
  (lss_one (ls_if (lt_notN (le_call O__law_error (hr.mono l__law_error) rfl g__law_error F__law_error.kp b__law_error tk (la_cons (le_var 6 (pv 6)) (la_cons (le_var 1 (pv 1)) (la_cons (le_var 2 (pv 2)) (la_cons le_int la_nil)))))) (lss_one (ls_ret le_bl)) lss_nil))))
  (lss_one (ls_ret le_bl))))))))
theorem sc__law_circle_right : FnScope ["_law_deck_here", "_law_one", "_law_other", "_law_count", "_law_found", "_law_some", "_law_row", "_law_best", "_law_copy", "_law_turn", "_law_serial", "_law_two"] ["_law_deck_here", "_law_one", "_law_other"] (defScope s__law_circle_right) := ⟨rfl, rfl, rfl, by decide +kernel, rfl, by decide +kernel, by decide +kernel⟩
theorem ok__law_circle_right (E : HX K mg base) {sp sp_further sp__law_draw sp_newer sp__law_is_newer sp_newest : PSp} (H_further : Ok P w K mg base "further" s_further ["serial", "steps"] 21 sp_further) (H__law_draw : Ok P w K mg base "_law_draw" s__law_draw ["_law_deck_here", "_law_size"] 1 sp__law_draw) (H_newer : Ok P w K mg base "newer" s_newer ["one", "other"] 19 sp_newer) (H__law_is_newer : Ok P w K mg base "_law_is_newer" s__law_is_newer ["_law_one", "_law_other"] 2 sp__law_is_newer) (H_newest : Ok P w K mg base "newest" s_newest ["serials"] 20 sp_newest)
    (pure : ∀ vs h Q Ex, vs.length = 3 → sp vs h Q Ex → t__law_circle_right sp_further sp__law_draw sp_newer sp__law_is_newer sp_newest (body Q Ex) (pstart 12 vs) h) : Ok P w K mg base "_law_circle_right" s__law_circle_right ["_law_deck_here", "_law_one", "_law_other"] (22) sp := by
  obtain ⟨fd_further, F_further, O_further⟩ := H_further
  have g_further : mg "further" = some (.ref (He.ga K "further")) := E.g_further
  have b_further : Binds K fd_further ["serial", "steps"] [] := F_further.bindsN (fun _ _ _ _ _ _ us hl => match us, hl with | [_, _], _ => rfl)
  have l_further : 21 ≤ 21 := by decide
  obtain ⟨fd__law_draw, F__law_draw, O__law_draw⟩ := H__law_draw
  have g__law_draw : mg "_law_draw" = some (.ref (He.ga K "_law_draw")) := E.g__law_draw
  have b__law_draw : Binds K fd__law_draw ["_law_deck_here", "_law_size"] [] := F__law_draw.bindsN (fun _ _ _ _ _ _ us hl => match us, hl with | [_, _], _ => rfl)
  have l__law_draw : 1 ≤ 21 := by decide
  obtain ⟨fd_newer, F_newer, O_newer⟩ := H_newer
  have g_newer : mg "newer" = some (.ref (He.ga K "newer")) := E.g_newer
  have b_newer : Binds K fd_newer ["one", "other"] [] := F_newer.bindsN (fun _ _ _ _ _ _ us hl => match us, hl with | [_, _], _ => rfl)
  have l_newer : 19 ≤ 21 := by decide
  obtain ⟨fd__law_is_newer, F__law_is_newer, O__law_is_newer⟩ := H__law_is_newer
  have g__law_is_newer : mg "_law_is_newer" = some (.ref (He.ga K "_law_is_newer")) := E.g__law_is_newer
  have b__law_is_newer : Binds K fd__law_is_newer ["_law_one", "_law_other"] [] := F__law_is_newer.bindsN (fun _ _ _ _ _ _ us hl => match us, hl with | [_, _], _ => rfl)
  have l__law_is_newer : 2 ≤ 21 := by decide
  obtain ⟨fd_newest, F_newest, O_newest⟩ := H_newest
  have g_newest : mg "newest" = some (.ref (He.ga K "newest")) := E.g_newest
  have b_newest : Binds K fd_newest ["serials"] [] := F_newest.bindsN (fun _ _ _ _ _ _ us hl => match us, hl with | [_], _ => rfl)
  have l_newest : 20 ≤ 21 := by decide
  have kb_newer_other_one : KwBinds K fd_newer ["one", "other"] ["other", "one"] 0 [1, 0] := FunD.kwb F_newer (fun _ _ _ _ _ _ us ws hu hw => match us, ws, hu, hw with | [], [_, _], _, _ => rfl)
  have kb_further_steps_serial : KwBinds K fd_further ["serial", "steps"] ["steps", "serial"] 0 [1, 0] := FunD.kwb F_further (fun _ _ _ _ _ _ us ws hu hw => match us, ws, hu, hw with | [], [_, _], _, _ => rfl)
  have kb_newest_serials : KwBinds K fd_newest ["serials"] ["serials"] 0 [0] := FunD.kwb F_newest (fun _ _ _ _ _ _ us ws hu hw => match us, ws, hu, hw with | [], [_], _, _ => rfl)
  obtain ⟨fd, F⟩ := E.d__law_circle_right
  refine ok_mk (k := 21) F sc__law_circle_right (fun cdv A outer s H Ex hr => ?_) pure
  have S := sc__law_circle_right
  have tk := takes_of (X := cxOf (L2.CX P w) P w K mg base ["_law_deck_here", "_law_one", "_law_other", "_law_count", "_law_found", "_law_some", "_law_row", "_law_best", "_law_copy", "_law_turn", "_law_serial", "_law_two"] "_law_circle_right" (defScope s__law_circle_right) (He.ga K "_law_circle_right") cdv A outer s H Ex) (E := Ex) rfl rfl rfl rfl
  exact (lss_cons (ls_if (lt_cmp (mo_ne hr.units) (le_callB mc_repr rfl E.f_repr (by decide +kernel) (la_cons (le_call O_newer (hr.mono l_newer) rfl g_newer F_newer.kp b_newer tk (la_cons (le_var 1 (pv 1)) (la_cons (le_var 2 (pv 2)) la_nil))) la_nil)) (le_callB mc_repr rfl E.f_repr (by decide +kernel) (la_cons (le_call O__law_is_newer (hr.mono l__law_is_newer) rfl g__law_is_newer F__law_is_newer.kp b__law_is_newer tk (la_cons (le_var 1 (pv 1)) (la_cons (le_var 2 (pv 2)) la_nil))) la_nil)) (nomark _)) (lss_one (ls_ret le_bl)) lss_nil)
  (lss_cons (ls_if (lt_cmp (mo_ne hr.units) (le_callB mc_repr rfl E.f_repr (by decide +kernel) (la_cons (le_callK0 (ks := ["other", "one"]) (perm := [1, 0]) O_newer (hr.mono l_newer) rfl g_newer F_newer.kp kb_newer_other_one tk (lk_cons (le_var 1 (pv 1)) (lk_cons (le_var 2 (pv 2)) lk_nil))) la_nil)) (le_callB mc_repr rfl E.f_repr (by decide +kernel) (la_cons (le_call O__law_is_newer (hr.mono l__law_is_newer) rfl g__law_is_newer F__law_is_newer.kp b__law_is_newer tk (la_cons (le_var 2 (pv 2)) (la_cons (le_var 1 (pv 1)) la_nil))) la_nil)) (nomark _)) (lss_one (ls_ret le_bl)) lss_nil)
  (lss_cons (ls_set (i := 3) S.nd rfl (by first | exact Or.inl rfl | exact Or.inr rfl) (le_ixT (ll_lst (la_cons (le_call O__law_draw (hr.mono l__law_draw) rfl g__law_draw F__law_draw.kp b__law_draw tk (la_cons (le_var 0 (pv 0)) (la_cons le_int la_nil))) (la_cons (le_call O__law_draw (hr.mono l__law_draw) rfl g__law_draw F__law_draw.kp b__law_draw tk (la_cons (le_var 0 (pv 0)) (la_cons (le_op mo_pow le_int le_int) la_nil))) (la_cons (le_call O__law_draw (hr.mono l__law_draw) rfl g__law_draw F__law_draw.kp b__law_draw tk (la_cons (le_var 0 (pv 0)) (la_cons (le_op mo_pow le_int le_int) la_nil))) la_nil)))) (le_call O__law_draw (hr.mono l__law_draw) rfl g__law_draw F__law_draw.kp b__law_draw tk (la_cons (le_var 0 (pv 0)) (la_cons le_int la_nil))) (fun _ _ => rfl)))
  (lss_cons (ls_set (i := 4) S.nd rfl (by first | exact Or.inl rfl | exact Or.inr rfl) (le_call O_further (hr.mono l_further) rfl g_further F_further.kp b_further tk (la_cons (le_var 1 (pv 1)) (la_cons (le_var 3 (pv 3)) la_nil))))
  (lss_cons (ls_if (PW.pt (lw_or (lt_cmp (mo_ne hr.units) (le_callB mc_repr rfl E.f_repr (by decide +kernel) (la_cons (le_var 4 (pv 4)) la_nil)) (le_callB mc_repr rfl E.f_repr (by decide +kernel) (la_cons (le_op mo_mod (le_callTy mc_int rfl E.f_int (by decide +kernel) (la_cons (le_op mo_addV (le_var 1 (pv 1)) (le_var 3 (pv 3))) la_nil)) (le_op mo_pow le_int le_int)) la_nil)) (nomark _)) (lw_or1 (lt_cmp (mo_ne hr.units) (le_callK0 (ks := ["steps", "serial"]) (perm := [1, 0]) O_further (hr.mono l_further) rfl g_further F_further.kp kb_further_steps_serial tk (lk_cons (le_var 3 (pv 3)) (lk_cons (le_var 1 (pv 1)) lk_nil))) (le_var 4 (pv 4)) (nomark _))))) (lss_one (ls_ret le_bl)) lss_nil)
  (lss_cons (ls_set (i := 5) S.nd rfl (by first | exact Or.inl rfl | exact Or.inr rfl) (le_fz (ll_lst (la_cons (le_var 1 (pv 1)) (la_cons (le_var 2 (pv 2)) (la_cons (le_var 4 (pv 4)) (la_cons (le_op mo_mod (le_callTy mc_int rfl E.f_int (by decide +kernel) (la_cons (le_op mo_add (le_var 1 (pv 1)) (le_op mo_pow le_int le_int)) la_nil)) (le_op mo_pow le_int le_int)) (la_cons (le_call O__law_draw (hr.mono l__law_draw) rfl g__law_draw F__law_draw.kp b__law_draw tk (la_cons (le_var 0 (pv 0)) (la_cons (le_op mo_pow le_int le_int) la_nil))) la_nil))))))))
  (lss_cons (ls_set (i := 6) S.nd rfl (by first | exact Or.inl rfl | exact Or.inr rfl) (le_fz (ll_lc (own := ([("_law_turn", 9)] : List (Str × Nat))) rfl S.nd (li_rng1 rfl E.f_range (le_call O__law_draw (hr.mono l__law_draw) rfl g__law_draw F__law_draw.kp b__law_draw tk (la_cons (le_var 0 (pv 0)) (la_cons le_int la_nil)))) (blkOk_by (by rfl)) (by decide) (fun _ _ _ _ _ => (lg_name (pg_name (i := 9) S.nd rfl (by first | exact Or.inl rfl | exact Or.inr rfl)))) (fun _ _ _ _ _ => lts_nil) (fun _ _ _ _ _ => (le_ix (le_var 5 (pv 5)) (le_call O__law_draw (hr.mono l__law_draw) rfl g__law_draw F__law_draw.kp b__law_draw takes0 (la_cons (le_var 0 (pv 0)) (la_cons le_int la_nil))) (fun _ _ => rfl))))))
  (lss_cons (ls_setLcV (i := 7) (own := ([("_law_serial", 10)] : List (Str × Nat))) rfl S.nd rfl rfl (sw_true rfl rfl rfl (by decide +kernel)) (li_any (le_var 6 (pv 6))) (blkOk_by (by rfl)) (by decide) (fun _ _ _ _ _ => (lg_name (pg_name (i := 10) S.nd rfl (by first | exact Or.inl rfl | exact Or.inr rfl)))) (fun _ _ _ _ _ => (lts_one (lt_truth (le_callBT (ItR.tmp (it_all rfl)) rfl E.f_all (by decide +kernel) (ll_lc (own := ([("_law_two", 11)] : List (Str × Nat))) rfl S.nd (li_any (le_var 6 (pv 6))) (blkOk_by (by rfl)) (by decide) (fun _ _ _ _ _ => (lg_name (pg_name (i := 11) S.nd rfl (by first | exact Or.inl rfl | exact Or.inr rfl)))) (fun _ _ _ _ _ => lts_nil) (fun _ _ _ _ _ => (le_or (le_cmp (mo_eq hr.units) (le_var 10 (pv 10)) (le_var 11 (pv 11)) (nomark _)) (le_one (le_call O__law_is_newer (hr.mono l__law_is_newer) rfl g__law_is_newer F__law_is_newer.kp b__law_is_newer takes0 (la_cons (le_var 10 (pv 10)) (la_cons (le_var 11 (pv 11)) la_nil))))))))))) (fun _ _ _ _ _ => (le_var 10 (pv 10))))
  (lss_cons (ls_set (i := 8) S.nd rfl (by first | exact Or.inl rfl | exact Or.inr rfl) (le_callTy mc_listV rfl E.f_list (by decide +kernel) (la_cons (le_var 6 (pv 6)) la_nil)))
  (lss_one (ls_ret (le_and (le_cmp (mo_eq hr.units) (le_callB mc_repr rfl E.f_repr (by decide +kernel) (la_cons (le_call O_newest (hr.mono l_newest) rfl g_newest F_newest.kp b_newest tk (la_cons (le_var 6 (pv 6)) la_nil)) la_nil)) (le_callB mc_repr rfl E.f_repr (by decide +kernel) (la_cons (le_ix (le_op mo_addV (le_var 7 (pv 7)) (le_fz (ll_lst (la_cons le_non la_nil)))) le_int (fun _ _ => rfl)) la_nil)) (nomark _)) (le_and (le_cmp (mo_eq hr.units) (le_callK0 (ks := ["serials"]) (perm := [0]) O_newest (hr.mono l_newest) rfl g_newest F_newest.kp kb_newest_serials tk (lk_cons (le_var 6 (pv 6)) lk_nil)) (le_call O_newest (hr.mono l_newest) rfl g_newest F_newest.kp b_newest tk (la_cons (le_var 6 (pv 6)) la_nil)) (nomark _)) (le_one (le_cmp (mo_eq hr.units) (le_var 6 (pv 6)) (le_var 8 (pv 8)) (nomark _))))))))))))))))
theorem sc__law_spoilt : FnScope ["_law_deck_here", "_law_one", "_law_other", "_law_way_here", "_law_found", "_law_at", "_law_by"] ["_law_deck_here", "_law_one", "_law_other", "_law_way_here"] (defScope s__law_spoilt) := ⟨rfl, rfl, rfl, by decide +kernel, rfl, by decide +kernel, by decide +kernel⟩
theorem ok__law_spoilt (E : HX K mg base) {sp sp__law_draw : PSp} (H__law_draw : Ok P w K mg base "_law_draw" s__law_draw ["_law_deck_here", "_law_size"] 1 sp__law_draw)
    (pure : ∀ vs h Q Ex, vs.length = 4 → sp vs h Q Ex → t__law_spoilt sp__law_draw (body Q Ex) (pstart 7 vs) h) : Ok P w K mg base "_law_spoilt" s__law_spoilt ["_law_deck_here", "_law_one", "_law_other", "_law_way_here"] (2) sp := by
  obtain ⟨fd__law_draw, F__law_draw, O__law_draw⟩ := H__law_draw
  have g__law_draw : mg "_law_draw" = some (.ref (He.ga K "_law_draw")) := E.g__law_draw
  have b__law_draw : Binds K fd__law_draw ["_law_deck_here", "_law_size"] [] := F__law_draw.bindsN (fun _ _ _ _ _ _ us hl => match us, hl with | [_, _], _ => rfl)
  have l__law_draw : 1 ≤ 1 := by decide
  obtain ⟨fd, F⟩ := E.d__law_spoilt
  refine ok_mk (k := 1) F sc__law_spoilt (fun cdv A outer s H Ex hr => ?_) pure
  have S := sc__law_spoilt
  have tk := takes_of (X := cxOf (L2.CX P w) P w K mg base ["_law_deck_here", "_law_one", "_law_other", "_law_way_here", "_law_found", "_law_at", "_law_by"] "_law_spoilt" (defScope s__law_spoilt) (He.ga K "_law_spoilt") cdv A outer s H Ex) (E := Ex) rfl rfl rfl rfl
  exact (lss_cons (ls_set (i := 4) S.nd rfl (by first | exact Or.inl rfl | exact Or.inr rfl) (le_new (ll_lst (la_cons (le_op mo_addV (le_var 3 (pv 3)) (le_fz (ll_lst (la_cons (le_var 2 (pv 2)) la_nil)))) (la_cons (le_sliceV (le_var 3 (pv 3)) (lo_some le_int) lo_none) (la_cons (le_sliceV (le_var 3 (pv 3)) lo_none (lo_some (le_un mo_neg le_int))) (la_cons (le_op mo_addV (le_fz (ll_lst (la_cons (le_var 1 (pv 1)) la_nil))) (le_var 3 (pv 3))) (la_cons (le_fz (ll_lst (la_cons (le_var 1 (pv 1)) (la_cons (le_var 2 (pv 2)) la_nil)))) (la_cons (le_revV (le_var 3 (pv 3))) la_nil)))))))))
  (lss_cons (ls_if (lt_cmp (mo_ne hr.units) (le_var 3 (pv 3)) (le_fz (ll_lst la_nil)) (nomark _)) (lss_cons (ls_set (i := 5) S.nd rfl (by first | exact Or.inl rfl | exact Or.inr rfl) (le_call O__law_draw (hr.mono l__law_draw) rfl g__law_draw F__law_draw.kp b__law_draw tk (la_cons (le_var 0 (pv 0)) (la_cons (le_callB mc_len rfl E.f_len (by decide +kernel) (la_cons (le_var 3 (pv 3)) la_nil)) la_nil))))
  (lss_cons (ls_set (i := 6) S.nd rfl (by first | exact Or.inl rfl | exact Or.inr rfl) (le_ixT (ll_lst (la_cons le_int (la_cons (le_un mo_neg le_int) (la_cons (le_op mo_pow le_int le_int) (la_cons (le_call O__law_draw (hr.mono l__law_draw) rfl g__law_draw F__law_draw.kp b__law_draw tk (la_cons (le_var 0 (pv 0)) (la_cons (le_op mo_pow le_int le_int) la_nil))) la_nil))))) (le_call O__law_draw (hr.mono l__law_draw) rfl g__law_draw F__law_draw.kp b__law_draw tk (la_cons (le_var 0 (pv 0)) (la_cons le_int la_nil))) (fun _ _ => rfl)))
  (lss_cons (ls_expr (le_bm (.inr rfl) PySem.F.plainAttrs_list PySem.F.slot_list_append PySem.F.type_list_append mm_append (le_var 4 (pv 4)) (la_cons (le_op mo_addV (le_op mo_addV (le_sliceV (le_var 3 (pv 3)) lo_none (lo_some (le_var 5 (pv 5)))) (le_fz (ll_lst (la_cons (le_op mo_mod (le_callTy mc_int rfl E.f_int (by decide +kernel) (la_cons (le_op mo_addV (le_ix (le_var 3 (pv 3)) (le_var 5 (pv 5)) (fun _ _ => rfl)) (le_var 6 (pv 6))) la_nil)) (le_op mo_pow le_int le_int)) la_nil)))) (le_sliceV (le_var 3 (pv 3)) (lo_some (le_op mo_add (le_var 5 (pv 5)) le_int)) lo_none)) la_nil)))
  (lss_cons (ls_expr (le_bm (.inr rfl) PySem.F.plainAttrs_list PySem.F.slot_list_append PySem.F.type_list_append mm_append (le_var 4 (pv 4)) (la_cons (le_op mo_addV (le_op mo_addV (le_sliceV (le_var 3 (pv 3)) lo_none (lo_some (le_var 5 (pv 5)))) (le_fz (ll_lst (la_cons (le_ix (le_var 3 (pv 3)) (le_var 5 (pv 5)) (fun _ _ => rfl)) (la_cons (le_op mo_mod (le_callTy mc_int rfl E.f_int (by decide +kernel) (la_cons (le_op mo_add (le_ix (le_var 3 (pv 3)) (le_var 5 (pv 5)) (fun _ _ => rfl)) le_int) la_nil)) (le_op mo_pow le_int le_int)) la_nil))))) (le_sliceV (le_var 3 (pv 3)) (lo_some (le_op mo_add (le_var 5 (pv 5)) le_int)) lo_none)) la_nil)))
  (lss_one (ls_expr (le_bm (.inr rfl) PySem.F.plainAttrs_list PySem.F.slot_list_append PySem.F.type_list_append mm_append (le_var 4 (pv 4)) (la_cons (le_op mo_addV (le_sliceV (le_var 3 (pv 3)) lo_none (lo_some (le_var 5 (pv 5)))) (le_sliceV (le_var 3 (pv 3)) (lo_some (le_op mo_add (le_var 5 (pv 5)) le_int)) lo_none)) la_nil)))))))) lss_nil)
  (lss_one (ls_ret (le_var 4 (pv 4))))))
theorem sc__law_steps_right : FnScope ["_law_deck_here", "_law_one", "_law_other", "_law_missed", "_law_due", "_law_found", "_law_way_here", "_law_spoilt_here", "_law_beyond", "_law_at", "_law_thing", "_law_good", "_law_by", "_law_serial"] ["_law_deck_here", "_law_one", "_law_other", "_law_missed"] (defScope s__law_steps_right) := ⟨rfl, rfl, rfl, by decide +kernel, rfl, by decide +kernel, by decide +kernel⟩
theorem ok__law_steps_right (E : HX K mg base) {sp sp__law_fewest sp_fewest_steps sp_steps sp__law_spoilt sp_judge_steps sp__law_is_way : PSp} (H__law_fewest : Ok P w K mg base "_law_fewest" s__law_fewest ["_law_one", "_law_other", "_law_missed"] 2 sp__law_fewest) (H_fewest_steps : Ok P w K mg base "fewest_steps" s_fewest_steps ["one", "other", "missed"] 19 sp_fewest_steps) (H_steps : Ok P w K mg base "steps" s_steps ["one", "other", "missed"] 20 sp_steps) (H__law_spoilt : Ok P w K mg base "_law_spoilt" s__law_spoilt ["_law_deck_here", "_law_one", "_law_other", "_law_way_here"] 2 sp__law_spoilt) (H_judge_steps : Ok P w K mg base "judge_steps" s_judge_steps ["one", "other", "missed", "value"] 20 sp_judge_steps) (H__law_is_way : Ok P w K mg base "_law_is_way" s__law_is_way ["_law_one", "_law_other", "_law_missed", "_law_value"] 3 sp__law_is_way)
    (pure : ∀ vs h Q Ex, vs.length = 4 → sp vs h Q Ex → t__law_steps_right sp__law_fewest sp_fewest_steps sp_steps sp__law_spoilt sp_judge_steps sp__law_is_way (body Q Ex) (pstart 14 vs) h) : Ok P w K mg base "_law_steps_right" s__law_steps_right ["_law_deck_here", "_law_one", "_law_other", "_law_missed"] (21) sp := by
  obtain ⟨fd__law_fewest, F__law_fewest, O__law_fewest⟩ := H__law_fewest
  have g__law_fewest : mg "_law_fewest" = some (.ref (He.ga K "_law_fewest")) := E.g__law_fewest
  have b__law_fewest : Binds K fd__law_fewest ["_law_one", "_law_other", "_law_missed"] [] := F__law_fewest.bindsN (fun _ _ _ _ _ _ us hl => match us, hl with | [_, _, _], _ => rfl)
  have l__law_fewest : 2 ≤ 20 := by decide
  obtain ⟨fd_fewest_steps, F_fewest_steps, O_fewest_steps⟩ := H_fewest_steps
  have g_fewest_steps : mg "fewest_steps" = some (.ref (He.ga K "fewest_steps")) := E.g_fewest_steps
  have b_fewest_steps : Binds K fd_fewest_steps ["one", "other", "missed"] [] := F_fewest_steps.bindsN (fun _ _ _ _ _ _ us hl => match us, hl with | [_, _, _], _ => rfl)
  have l_fewest_steps : 19 ≤ 20 := by decide
  obtain ⟨fd_steps, F_steps, O_steps⟩ := H_steps
  have g_steps : mg "steps" = some (.ref (He.ga K "steps")) := E.g_steps
  have b_steps : Binds K fd_steps ["one", "other", "missed"] [] := F_steps.bindsN (fun _ _ _ _ _ _ us hl => match us, hl with | [_, _, _], _ => rfl)
  have l_steps : 20 ≤ 20 := by decide
  obtain ⟨fd__law_spoilt, F__law_spoilt, O__law_spoilt⟩ := H__law_spoilt
  have g__law_spoilt : mg "_law_spoilt" = some (.ref (He.ga K "_law_spoilt")) := E.g__law_spoilt
  have b__law_spoilt : Binds K fd__law_spoilt ["_law_deck_here", "_law_one", "_law_other", "_law_way_here"] [] := F__law_spoilt.bindsN (fun _ _ _ _ _ _ us hl => match us, hl with | [_, _, _, _], _ => rfl)
  have l__law_spoilt : 2 ≤ 20 := by decide
  obtain ⟨fd_judge_steps, F_judge_steps, O_judge_steps⟩ := H_judge_steps
  have g_judge_steps : mg "judge_steps" = some (.ref (He.ga K "judge_steps")) := E.g_judge_steps
  have b_judge_steps : Binds K fd_judge_steps ["one", "other", "missed", "value"] [] := F_judge_steps.bindsN (fun _ _ _ _ _ _ us hl => match us, hl with | [_, _, _, _], _ => rfl)
  have l_judge_steps : 20 ≤ 20 := by decide
  obtain ⟨fd__law_is_way, F__law_is_way, O__law_is_way⟩ := H__law_is_way
  have g__law_is_way : mg "_law_is_way" = some (.ref (He.ga K "_law_is_way")) := E.g__law_is_way
  have b__law_is_way : Binds K fd__law_is_way ["_law_one", "_law_other", "_law_missed", "_law_value"] [] := F__law_is_way.bindsN (fun _ _ _ _ _ _ us hl => match us, hl with | [_, _, _, _], _ => rfl)
  have l__law_is_way : 3 ≤ 20 := by decide
  have kb_judge_steps_value_missed_other_one : KwBinds K fd_judge_steps ["one", "other", "missed", "value"] ["value", "missed", "other", "one"] 0 [3, 2, 1, 0] := FunD.kwb F_judge_steps (fun _ _ _ _ _ _ us ws hu hw => match us, ws, hu, hw with | [], [_, _, _, _], _, _ => rfl)
  have kb_fewest_steps_missed_other_one : KwBinds K fd_fewest_steps ["one", "other", "missed"] ["missed", "other", "one"] 0 [2, 1, 0] := FunD.kwb F_fewest_steps (fun _ _ _ _ _ _ us ws hu hw => match us, ws, hu, hw with | [], [_, _, _], _, _ => rfl)
  have kb_steps_other_missed_one : KwBinds K fd_steps ["one", "other", "missed"] ["other", "missed", "one"] 0 [2, 0, 1] := FunD.kwb F_steps (fun _ _ _ _ _ _ us ws hu hw => match us, ws, hu, hw with | [], [_, _, _], _, _ => rfl)
  obtain ⟨fd, F⟩ := E.d__law_steps_right
  refine ok_mk (k := 20) F sc__law_steps_right (fun cdv A outer s H Ex hr => ?_) pure
  have S := sc__law_steps_right
  have tk := takes_of (X := cxOf (L2.CX P w) P w K mg base ["_law_deck_here", "_law_one", "_law_other", "_law_missed", "_law_due", "_law_found", "_law_way_here", "_law_spoilt_here", "_law_beyond", "_law_at", "_law_thing", "_law_good", "_law_by", "_law_serial"] "_law_steps_right" (defScope s__law_steps_right) (He.ga K "_law_steps_right") cdv A outer s H Ex) (E := Ex) rfl rfl rfl rfl
  exact (lss_cons (ls_set (i := 4) S.nd rfl (by first | exact Or.inl rfl | exact Or.inr rfl) (le_call O__law_fewest (hr.mono l__law_fewest) rfl g__law_fewest F__law_fewest.kp b__law_fewest tk (la_cons (le_var 1 (pv 1)) (la_cons (le_var 2 (pv 2)) (la_cons (le_var 3 (pv 3)) la_nil)))))
  (lss_cons (ls_set (i := 5) S.nd rfl (by first | exact Or.inl rfl | exact Or.inr rfl) (le_call O_fewest_steps (hr.mono l_fewest_steps) rfl g_fewest_steps F_fewest_steps.kp b_fewest_steps tk (la_cons (le_var 1 (pv 1)) (la_cons (le_var 2 (pv 2)) (la_cons (le_var 3 (pv 3)) la_nil)))))
  (lss_cons (ls_set (i := 6) S.nd rfl (by first | exact Or.inl rfl | exact Or.inr rfl) (le_call O_steps (hr.mono l_steps) rfl g_steps F_steps.kp b_steps tk (la_cons (le_var 1 (pv 1)) (la_cons (le_var 2 (pv 2)) (la_cons (le_var 3 (pv 3)) la_nil)))))
  (lss_cons (ls_if (PW.pt (lw_or (lt_cmp (mo_ne hr.units) (le_callB mc_repr rfl E.f_repr (by decide +kernel) (la_cons (le_var 5 (pv 5)) la_nil)) (le_callB mc_repr rfl E.f_repr (by decide +kernel) (la_cons (le_var 4 (pv 4)) la_nil)) (nomark _)) (lw_or (lt_not (lt_truth (le_isi (T := "list") (le_var 6 (pv 6)) (by decide) rfl E.f_isinstance rfl E.f_list (by decide +kernel)))) (lw_or1 (lt_cmp (mo_ne hr.units) (le_callB mc_len rfl E.f_len (by decide +kernel) (la_cons (le_var 6 (pv 6)) la_nil)) (le_var 4 (pv 4)) (nomark _)))))) (lss_one (ls_ret le_bl)) lss_nil)
  (lss_cons (ls_if (lt_not (lt_truth (le_callBT (ItR.tmp (it_all rfl)) rfl E.f_all (by decide +kernel) (ll_lc (own := ([("_law_serial", 13)] : List (Str × Nat))) rfl S.nd (li_any (le_var 6 (pv 6))) (blkOk_by (by rfl)) (by decide) (fun _ _ _ _ _ => (lg_name (pg_name (i := 13) S.nd rfl (by first | exact Or.inl rfl | exact Or.inr rfl)))) (fun _ _ _ _ _ => lts_nil) (fun _ _ _ _ _ => (le_and (le_isi (T := "int") (le_var 13 (pv 13)) (by decide) rfl E.f_isinstance rfl E.f_int (by decide +kernel)) (le_one (le_not (le_isi (T := "bool") (le_var 13 (pv 13)) (by decide) rfl E.f_isinstance rfl E.f_bool (by decide +kernel)))))))))) (lss_one (ls_ret le_bl)) lss_nil)
  (lss_cons (ls_if (PW.pt (lw_or (lt_not (lt_truth (le_callBT (ItR.tmp (it_all rfl)) rfl E.f_all (by decide +kernel) (ll_lc (own := ([("_law_serial", 13)] : List (Str × Nat))) rfl S.nd (li_any (le_var 6 (pv 6))) (blkOk_by (by rfl)) (by decide) (fun _ _ _ _ _ => (lg_name (pg_name (i := 13) S.nd rfl (by first | exact Or.inl rfl | exact Or.inr rfl)))) (fun _ _ _ _ _ => lts_nil) (fun _ _ _ _ _ => (le_chain mo_le mo_lt le_int (le_var 13 (pv 13)) (le_op mo_pow le_int le_int))))))) (lw_or1 (lt_not (lt_truth (le_call O__law_is_way (hr.mono l__law_is_way) rfl g__law_is_way F__law_is_way.kp b__law_is_way tk (la_cons (le_var 1 (pv 1)) (la_cons (le_var 2 (pv 2)) (la_cons (le_var 3 (pv 3)) (la_cons (le_var 6 (pv 6)) la_nil)))))))))) (lss_one (ls_ret le_bl)) lss_nil)
  (lss_cons (ls_if (lt_cmp mo_isNotB (le_call O_judge_steps (hr.mono l_judge_steps) rfl g_judge_steps F_judge_steps.kp b_judge_steps tk (la_cons (le_var 1 (pv 1)) (la_cons (le_var 2 (pv 2)) (la_cons (le_var 3 (pv 3)) (la_cons (le_var 6 (pv 6)) la_nil))))) le_bl (nomark _)) (lss_one (ls_ret le_bl)) lss_nil)
  (lss_cons (ls_if (lt_cmp mo_isNotB (le_callK0 (ks := ["value", "missed", "other", "one"]) (perm := [3, 2, 1, 0]) O_judge_steps (hr.mono l_judge_steps) rfl g_judge_steps F_judge_steps.kp kb_judge_steps_value_missed_other_one tk (lk_cons (by exact (le_callTy mc_listV rfl E.f_list (by decide +kernel) (la_cons (le_var 6 (pv 6)) la_nil))) (lk_cons (le_var 3 (pv 3)) (lk_cons (le_var 2 (pv 2)) (lk_cons (le_var 1 (pv 1)) lk_nil))))) le_bl (nomark _)) (lss_one (ls_ret le_bl)) lss_nil)
  (lss_cons (ls_for (passes_of rfl) rfl (li_any (le_call O__law_spoilt (hr.mono l__law_spoilt) rfl g__law_spoilt F__law_spoilt.kp b__law_spoilt tk (la_cons (le_var 0 (pv 0)) (la_cons (le_var 1 (pv 1)) (la_cons (le_var 2 (pv 2)) (la_cons (le_var 6 (pv 6)) la_nil)))))) (lg_name (pg_name (i := 7) S.nd rfl (by first | exact Or.inl rfl | exact Or.inr rfl))) (lss_cons (ls_set (i := 11) S.nd rfl (by first | exact Or.inl rfl | exact Or.inr rfl) (le_and (le_cmp (mo_eq hr.units) (le_callB mc_len rfl E.f_len (by decide +kernel) (la_cons (le_var 7 (pv 7)) la_nil)) (le_var 4 (pv 4)) (nomark _)) (le_one (le_call O__law_is_way (hr.mono l__law_is_way) rfl g__law_is_way F__law_is_way.kp b__law_is_way tk (la_cons (le_var 1 (pv 1)) (la_cons (le_var 2 (pv 2)) (la_cons (le_var 3 (pv 3)) (la_cons (le_var 7 (pv 7)) la_nil))))))))
  (lss_one (ls_if (lt_cmp (mo_ne hr.units) (le_callB mc_repr rfl E.f_repr (by decide +kernel) (la_cons (le_call O_judge_steps (hr.mono l_judge_steps) rfl g_judge_steps F_judge_steps.kp b_judge_steps tk (la_cons (le_var 1 (pv 1)) (la_cons (le_var 2 (pv 2)) (la_cons (le_var 3 (pv 3)) (la_cons (le_var 7 (pv 7)) la_nil))))) la_nil)) (le_callB mc_repr rfl E.f_repr (by decide +kernel) (la_cons (le_var 11 (pv 11)) la_nil)) (nomark _)) (lss_one (ls_ret le_bl)) lss_nil))))
  (lss_cons (ls_set (i := 8) S.nd rfl (by first | exact Or.inl rfl | exact Or.inr rfl) (le_new (ll_lst la_nil)))
  (lss_cons (ls_for (passes_of rfl) rfl (li_rng1 rfl E.f_range (le_callB (mc_min2 rfl) rfl E.f_min (by decide +kernel) (la_cons le_int (la_cons (le_callB mc_len rfl E.f_len (by decide +kernel) (la_cons (le_var 6 (pv 6)) la_nil)) la_nil)))) (lg_name (pg_name (i := 9) S.nd rfl (by first | exact Or.inl rfl | exact Or.inr rfl))) (lss_one (ls_for (passes_of rfl) rfl (li_any (le_tup (la_cons (le_op mo_pow le_int le_int) (la_cons (le_un mo_neg (le_op mo_pow le_int le_int)) la_nil)))) (lg_name (pg_name (i := 12) S.nd rfl (by first | exact Or.inl rfl | exact Or.inr rfl))) (lss_cons (ls_expr (le_bm (.inr rfl) PySem.F.plainAttrs_list PySem.F.slot_list_append PySem.F.type_list_append mm_append (le_var 8 (pv 8)) (la_cons (le_op mo_addV (le_op mo_addV (le_sliceV (le_var 6 (pv 6)) lo_none (lo_some (le_var 9 (pv 9)))) (le_fz (ll_lst (la_cons (le_op mo_addV (le_ix (le_var 6 (pv 6)) (le_var 9 (pv 9)) (fun _ _ => rfl)) (le_var 12 (pv 12))) la_nil)))) (le_sliceV (le_var 6 (pv 6)) (lo_some (le_op mo_add (le_var 9 (pv 9)) le_int)) lo_none)) la_nil)))
  (lss_one (ls_expr (le_bm (.inr rfl) PySem.F.plainAttrs_list PySem.F.slot_list_append PySem.F.type_list_append mm_append (le_var 8 (pv 8)) (la_cons (le_op mo_addV (le_op mo_addV (le_sliceV (le_var 6 (pv 6)) lo_none (lo_some (le_op mo_sub (le_un mo_neg le_int) (le_var 9 (pv 9))))) (le_fz (ll_lst (la_cons (le_op mo_addV (le_ix (le_var 6 (pv 6)) (le_op mo_sub (le_un mo_neg le_int) (le_var 9 (pv 9))) (fun _ _ => rfl)) (le_var 12 (pv 12))) la_nil)))) (le_sliceV (le_var 6 (pv 6)) (lo_some (le_op mo_sub (le_callB mc_len rfl E.f_len (by decide +kernel) (la_cons (le_var 6 (pv 6)) la_nil)) (le_var 9 (pv 9)))) lo_none)) la_nil))))))))
  (lss_cons (ls_for (passes_of rfl) rfl (li_any (le_op mo_addV (le_fz (ll_lst (la_cons le_non (la_cons (le_str (okS_b (by decide +kernel))) (la_cons (le_callTy mc_tuple rfl E.f_tuple (by decide +kernel) (la_cons (le_var 6 (pv 6)) la_nil)) (la_cons (le_op mo_addV (le_var 6 (pv 6)) (le_fz (ll_lst (la_cons le_non la_nil)))) (la_cons (le_op mo_addV (le_sliceV (le_var 6 (pv 6)) lo_none (lo_some (le_un mo_neg le_int))) (le_fz (ll_lst (la_cons le_bl la_nil)))) (la_cons (le_fz (ll_lst (la_cons (le_var 6 (pv 6)) la_nil))) (la_cons le_int la_nil))))))))) (le_var 8 (pv 8)))) (lg_name (pg_name (i := 10) S.nd rfl (by first | exact Or.inl rfl | exact Or.inr rfl))) (lss_one (ls_if (lt_cmp mo_isNotB (le_call O_judge_steps (hr.mono l_judge_steps) rfl g_judge_steps F_judge_steps.kp b_judge_steps tk (la_cons (le_var 1 (pv 1)) (la_cons (le_var 2 (pv 2)) (la_cons (le_var 3 (pv 3)) (la_cons (le_var 10 (pv 10)) la_nil))))) le_bl (nomark _)) (lss_one (ls_ret le_bl)) lss_nil)))
  (lss_cons (ls_expr (le_bm (.inr rfl) PySem.F.plainAttrs_list PySem.F.slot_list_append PySem.F.type_list_append mm_append (le_var 6 (pv 6)) (la_cons le_int la_nil)))
  (lss_cons (ls_if (lt_cmp (mo_ne hr.units) (le_callK0 (ks := ["missed", "other", "one"]) (perm := [2, 1, 0]) O_fewest_steps (hr.mono l_fewest_steps) rfl g_fewest_steps F_fewest_steps.kp kb_fewest_steps_missed_other_one tk (lk_cons (le_var 3 (pv 3)) (lk_cons (le_var 2 (pv 2)) (lk_cons (le_var 1 (pv 1)) lk_nil)))) (le_var 4 (pv 4)) (nomark _)) (lss_one (ls_ret le_bl)) lss_nil)
  (lss_one (ls_ret (le_cmp (mo_eq hr.units) (le_callB mc_len rfl E.f_len (by decide +kernel) (la_cons (le_callK0 (ks := ["other", "missed", "one"]) (perm := [2, 0, 1]) O_steps (hr.mono l_steps) rfl g_steps F_steps.kp kb_steps_other_missed_one tk (lk_cons (le_var 2 (pv 2)) (lk_cons (le_var 3 (pv 3)) (lk_cons (le_var 1 (pv 1)) lk_nil)))) la_nil)) (le_var 4 (pv 4)) (nomark _))))))))))))))))))
theorem sc_law : FnScope ["_law_script", "_law_deck_here", "_law_turn", "_law_one", "_law_other", "_law_missed"] ["_law_script"] (defScope s_law) := ⟨rfl, rfl, rfl, by decide +kernel, rfl, by decide +kernel, by decide +kernel⟩
theorem ok_law (E : HX K mg base) {sp sp__law_deck sp__law_serials sp__law_errors_right sp__law_circle_right sp__law_steps_right : PSp} (H__law_deck : Ok P w K mg base "_law_deck" s__law_deck ["_law_script"] 1 sp__law_deck) (H__law_serials : Ok P w K mg base "_law_serials" s__law_serials ["_law_deck_here"] 2 sp__law_serials) (H__law_errors_right : Ok P w K mg base "_law_errors_right" s__law_errors_right ["_law_deck_here", "_law_one", "_law_other"] 23 sp__law_errors_right) (H__law_circle_right : Ok P w K mg base "_law_circle_right" s__law_circle_right ["_law_deck_here", "_law_one", "_law_other"] 22 sp__law_circle_right) (H__law_steps_right : Ok P w K mg base "_law_steps_right" s__law_steps_right ["_law_deck_here", "_law_one", "_law_other", "_law_missed"] 21 sp__law_steps_right)
    (pure : ∀ vs h Q Ex, vs.length = 1 → sp vs h Q Ex → t_law sp__law_deck sp__law_serials sp__law_errors_right sp__law_circle_right sp__law_steps_right (body Q Ex) (pstart 6 vs) h) : Ok P w K mg base "law" s_law ["_law_script"] (24) sp := by
  obtain ⟨fd__law_deck, F__law_deck, O__law_deck⟩ := H__law_deck
  have g__law_deck : mg "_law_deck" = some (.ref (He.ga K "_law_deck")) := E.g__law_deck
  have b__law_deck : Binds K fd__law_deck ["_law_script"] [] := F__law_deck.bindsN (fun _ _ _ _ _ _ us hl => match us, hl with | [_], _ => rfl)
  have l__law_deck : 1 ≤ 23 := by decide
  obtain ⟨fd__law_serials, F__law_serials, O__law_serials⟩ := H__law_serials
  have g__law_serials : mg "_law_serials" = some (.ref (He.ga K "_law_serials")) := E.g__law_serials
  have b__law_serials : Binds K fd__law_serials ["_law_deck_here"] [] := F__law_serials.bindsN (fun _ _ _ _ _ _ us hl => match us, hl with | [_], _ => rfl)
  have l__law_serials : 2 ≤ 23 := by decide
  obtain ⟨fd__law_errors_right, F__law_errors_right, O__law_errors_right⟩ := H__law_errors_right
  have g__law_errors_right : mg "_law_errors_right" = some (.ref (He.ga K "_law_errors_right")) := E.g__law_errors_right
  have b__law_errors_right : Binds K fd__law_errors_right ["_law_deck_here", "_law_one", "_law_other"] [] := F__law_errors_right.bindsN (fun _ _ _ _ _ _ us hl => match us, hl with | [_, _, _], _ => rfl)
  have l__law_errors_right : 23 ≤ 23 := by decide
  obtain ⟨fd__law_circle_right, F__law_circle_right, O__law_circle_right⟩ := H__law_circle_right
  have g__law_circle_right : mg "_law_circle_right" = some (.ref (He.ga K "_law_circle_right")) := E.g__law_circle_right
  have b__law_circle_right : Binds K fd__law_circle_right ["_law_deck_here", "_law_one", "_law_other"] [] := F__law_circle_right.bindsN (fun _ _ _ _ _ _ us hl => match us, hl with | [_, _, _], _ => rfl)
  have l__law_circle_right : 22 ≤ 23 := by decide
  obtain ⟨fd__law_steps_right, F__law_steps_right, O__law_steps_right⟩ := H__law_steps_right
  have g__law_steps_right : mg "_law_steps_right" = some (.ref (He.ga K "_law_steps_right")) := E.g__law_steps_right
  have b__law_steps_right : Binds K fd__law_steps_right ["_law_deck_here", "_law_one", "_law_other", "_law_missed"] [] := F__law_steps_right.bindsN (fun _ _ _ _ _ _ us hl => match us, hl with | [_, _, _, _], _ => rfl)
  have l__law_steps_right : 21 ≤ 23 := by decide
  obtain ⟨fd, F⟩ := E.d_law
  refine ok_mk (k := 23) F sc_law (fun cdv A outer s H Ex hr => ?_) pure
  have S := sc_law
  have tk := takes_of (X := cxOf (L2.CX P w) P w K mg base ["_law_script", "_law_deck_here", "_law_turn", "_law_one", "_law_other", "_law_missed"] "law" (defScope s_law) (He.ga K "law") cdv A outer s H Ex) (E := Ex) rfl rfl rfl rfl
  exact (lss_cons (ls_set (i := 1) S.nd rfl (by first | exact Or.inl rfl | exact Or.inr rfl) (le_call O__law_deck (hr.mono l__law_deck) rfl g__law_deck F__law_deck.kp b__law_deck tk (la_cons (le_var 0 (pv 0)) la_nil)))
  (lss_cons (ls_for (passes_of rfl) rfl (li_rng1 rfl E.f_range (le_callB (mc_max2 rfl) rfl E.f_max (by decide +kernel) (la_cons le_int (la_cons (le_callB (mc_min2 rfl) rfl E.f_min (by decide +kernel) (la_cons le_int (la_cons (le_op mo_fdiv (le_callB mc_len rfl E.f_len (by decide +kernel) (la_cons (le_var 0 (pv 0)) la_nil)) le_int) la_nil))) la_nil)))) (lg_name (pg_name (i := 2) S.nd rfl (by first | exact Or.inl rfl | exact Or.inr rfl))) (lss_cons (ls_asg (le_call O__law_serials (hr.mono l__law_serials) rfl g__law_serials F__law_serials.kp b__law_serials tk (la_cons (le_var 1 (pv 1)) la_nil)) (lg_tup rfl (lgs_cons (lg_name (pg_name (i := 3) S.nd rfl (by first | exact Or.inl rfl | exact Or.inr rfl))) (lgs_cons (lg_name (pg_name (i := 4) S.nd rfl (by first | exact Or.inl rfl | exact Or.inr rfl))) (lgs_cons (lg_name (pg_name (i := 5) S.nd rfl (by first | exact Or.inl rfl | exact Or.inr rfl))) lgs_nil)))))
  (lss_cons (ls_if (PW.pt (lw_or (lt_not (lt_truth (le_call O__law_circle_right (hr.mono l__law_circle_right) rfl g__law_circle_right F__law_circle_right.kp b__law_circle_right tk (la_cons (le_var 1 (pv 1)) (la_cons (le_var 3 (pv 3)) (la_cons (le_var 4 (pv 4)) la_nil)))))) (lw_or1 (lt_not (lt_truth (le_call O__law_steps_right (hr.mono l__law_steps_right) rfl g__law_steps_right F__law_steps_right.kp b__law_steps_right tk (la_cons (le_var 1 (pv 1)) (la_cons (le_var 3 (pv 3)) (la_cons (le_var 4 (pv 4)) (la_cons (le_var 5 (pv 5)) la_nil)))))))))) (lss_one (ls_ret le_bl)) lss_nil)
  (lss_one (ls_if (lt_not (lt_truth (le_call O__law_errors_right (hr.mono l__law_errors_right) rfl g__law_errors_right F__law_errors_right.kp b__law_errors_right tk (la_cons (le_var 1 (pv 1)) (la_cons (le_var 3 (pv 3)) (la_cons (le_var 4 (pv 4)) la_nil)))))) (lss_one (ls_ret le_bl)) lss_nil)))))
  (lss_one (ls_ret le_bl))))
end
end L_k25
set_option maxHeartbeats 4000000
/-! Q_k25: the circle of serials, in plain numbers. -/
namespace L_k25
open PySem MP
def ser (i : Int) : Bool := decide (0 ≤ i) && decide (i < 4294967296)
def way (a b : Int) : Int := (a - b) % 4294967296
def newB (a b : Int) : Bool := decide (1 ≤ way a b) && decide (way a b ≤ 2147483647)
theorem way_lt (a b : Int) : 0 ≤ way a b ∧ way a b < 4294967296 := by unfold way; omega
/-! fewest steps -/
def few (a b : Int) (m : Nat) : Int :=
  if way b a = 0 then 0 else if way b a ≤ 2147483647 then 1 else if way b a ≤ 2 * 2147483647 then (m + 1 : Int) + (if way b a - 2 * 2147483647 + (m + 1 : Int) > 1 then way b a - 2 * 2147483647 + (m + 1 : Int) else 1) else 2 * (m + 1 : Int) + 1
def longF (c wd : Int) : Int := if c ≤ wd then 2147483647 * (if c > 0 then 1 else 0) else (c / wd) * 2147483647 + (if c % wd > 0 then 1 else 0) * (2147483647 - wd + c % wd)
theorem few_le (a b : Int) (m : Nat) (hm : m ≤ 1000) : 0 ≤ few a b m ∧ few a b m ≤ 2003 := by
  have := way_lt b a
  unfold few
  split
  · omega
  · split
    · omega
    · split
      · split <;> omega
      · omega
theorem dm {c wd q r : Int} (h : 0 < wd) (e : c = wd * q + r) (h0 : 0 ≤ r) (h1 : r < wd) : c / wd = q ∧ c % wd = r := (Int.ediv_emod_unique h).mpr ⟨by rw [e]; omega, h0, h1⟩
theorem long_mid {c wd : Int} (h0 : 1 ≤ wd) (h1 : wd < c) (h2 : c ≤ 2 * wd) : longF c wd = 2 * 2147483647 - wd + (c - wd) := by
  unfold longF
  rw [if_neg (by omega)]
  by_cases e : c = 2 * wd
  · obtain ⟨d1, d2⟩ := dm (c := c) (wd := wd) (q := 2) (r := 0) (by omega) (by omega) (by omega) (by omega)
    rw [d1, d2, if_neg (by omega)]
    omega
  · obtain ⟨d1, d2⟩ := dm (c := c) (wd := wd) (q := 1) (r := c - wd) (by omega) (by omega) (by omega) (by omega)
    rw [d1, d2, if_pos (by omega)]
    omega
theorem long_top {wd : Int} (h0 : 1 ≤ wd) (h1 : wd ≤ 1001) : longF (2 * wd + 1) wd = 3 * 2147483647 - wd + 1 := by
  unfold longF
  rw [if_neg (by omega)]
  by_cases e : wd = 1
  · subst e; decide
  · obtain ⟨d1, d2⟩ := dm (c := 2 * wd + 1) (wd := wd) (q := 2) (r := 1) (by omega) (by omega) (by omega) (by omega)
    rw [d1, d2, if_pos (by omega)]
    omega
theorem long_low {c wd : Int} (h : c ≤ wd) (h0 : 0 ≤ c) : longF c wd = if c = 0 then 0 else 2147483647 := by
  unfold longF
  rw [if_pos h]
  by_cases e : c = 0
  · subst e; rfl
  · rw [if_pos (by omega), if_neg e]; rfl
theorem long_lt {a b c : Int} {m : Nat} (hm : m ≤ 1000) (h0 : 0 ≤ c) (h : c < few a b m) : longF c (m + 1 : Int) < way b a := by
  have w := way_lt b a
  unfold few at h
  by_cases z : c ≤ (m + 1 : Int)
  · rw [long_low z h0]
    split at h
    · omega
    · split at h
      · rw [if_pos (by omega)]; omega
      · split <;> omega
  · rw [long_mid (by omega) (by omega) (by
      split at h
      · omega
      · split at h
        · omega
        · split at h
          · split at h <;> omega
          · omega)]
    split at h
    · omega
    · split at h
      · omega
      · split at h
        · split at h <;> omega
        · omega
theorem long_ge {a b : Int} {m : Nat} (hm : m ≤ 1000) : ¬ longF (few a b m) (m + 1 : Int) < way b a := by
  have w := way_lt b a
  unfold few
  split
  · rw [long_low (by omega) (by omega), if_pos rfl]; omega
  · split
    · rw [long_low (by omega) (by omega), if_neg (by omega)]; omega
    · split
      · split
        · rw [long_mid (by omega) (by omega) (by omega)]; omega
        · rw [long_mid (by omega) (by omega) (by omega)]; omega
      · rw [long_top (by omega) (by omega)]; omega
/-! a way -/
def gapsOk : Int → List Int → Bool
  | _, [] => true
  | a, s :: r => newB s a && gapsOk s r
def lastOf : Int → List Int → Int
  | a, [] => a
  | _, s :: r => lastOf s r
/-- the places that a way goes through, the first at p -/
def plF : Int → Int → List Int → List Int
  | p, _, [] => [p]
  | p, a, s :: r => p :: plF (p + way s a) s r
def winOk (m : Nat) (P : List Int) (n : Nat) : Bool := (List.range n).all fun k => decide (P.getD (k + 1) 0 - P.getD (k - m) 0 ≤ 2147483647)
def isWay (a b : Int) (m : Nat) (ws : List Int) : Bool := gapsOk a ws && (winOk m (plF 0 a ws) ws.length && decide (lastOf a ws = b))
theorem plF_len (p a : Int) (ws : List Int) : (plF p a ws).length = ws.length + 1 := by
  induction ws generalizing p a with
  | nil => rfl
  | cons s r ih => show (plF _ _ _).length + 1 = _; rw [ih]; rfl
/-! the way that is made -/
def g0 (m k : Nat) : Int := if k % (m + 1) = 0 then 2147483647 - m else 1
def G (m k : Nat) : Int := k + (((k + m) / (m + 1) : Nat) : Int) * (2147483646 - m)
theorem ceil_step (m k : Nat) : (k + 1 + m) / (m + 1) = (k + m) / (m + 1) + (if k % (m + 1) = 0 then 1 else 0) := by
  have e := Nat.div_add_mod k (m + 1)
  have l := Nat.mod_lt k (Nat.succ_pos m)
  generalize hq : k / (m + 1) = q at e
  generalize hr : k % (m + 1) = r at e l
  by_cases z : r = 0
  · rw [if_pos z]
    have e1 : k + 1 + m = (m + 1) * (q + 1) + 0 := by rw [Nat.mul_add]; omega
    have e2 : k + m = m + (m + 1) * q := by omega
    rw [e1, e2, Nat.add_mul_div_left _ _ (Nat.succ_pos m), Nat.div_eq_of_lt (Nat.lt_succ_self m), Nat.add_zero, Nat.mul_div_cancel_left _ (Nat.succ_pos m)]
    omega
  · rw [if_neg z]
    have e1 : k + 1 + m = r + (m + 1) * (q + 1) := by rw [Nat.mul_add]; omega
    have e2 : k + m = (r - 1) + (m + 1) * (q + 1) := by rw [Nat.mul_add]; omega
    rw [e1, e2, Nat.add_mul_div_left _ _ (Nat.succ_pos m), Nat.add_mul_div_left _ _ (Nat.succ_pos m), Nat.div_eq_of_lt l, Nat.div_eq_of_lt (by omega)]
    rfl
theorem G_succ (m k : Nat) : G m (k + 1) = G m k + g0 m k := by
  unfold G g0
  by_cases z : k % (m + 1) = 0
  · have cs : (k + 1 + m) / (m + 1) = (k + m) / (m + 1) + 1 := by rw [ceil_step, if_pos z]
    rw [cs, if_pos z]
    rw [show (((k + m) / (m + 1) + 1 : Nat) : Int) = (((k + m) / (m + 1) : Nat) : Int) + 1 by omega, Int.add_mul]
    omega
  · have cs : (k + 1 + m) / (m + 1) = (k + m) / (m + 1) := by rw [ceil_step, if_neg z]; rfl
    rw [cs, if_neg z]
    omega
theorem G_zero (m : Nat) : G m 0 = 0 := by
  unfold G
  rw [Nat.zero_add, Nat.div_eq_of_lt (Nat.lt_succ_self m)]
  simp
theorem G_win (m k : Nat) (hm : m ≤ 1000) : G m (k + 1) - G m (k - m) ≤ 2147483647 := by
  by_cases z : m ≤ k
  · unfold G
    rw [show k + 1 + m = k + (m + 1) * 1 by omega, show k - m + m = k by omega, Nat.add_mul_div_left _ _ (Nat.succ_pos m), show ((k / (m + 1) + 1 : Nat) : Int) = ((k / (m + 1) : Nat) : Int) + 1 by omega, Int.add_mul]
    omega
  · rw [show k - m = 0 by omega, G_zero]
    unfold G
    rw [show k + 1 + m = k + (m + 1) * 1 by omega, Nat.add_mul_div_left _ _ (Nat.succ_pos m), Nat.div_eq_of_lt (by omega)]
    omega
theorem G_few (a b : Int) (m : Nat) (hm : m ≤ 1000) (n : Nat) (hn : (n : Int) = few a b m) (h2 : 2 ≤ n) : way b a ≤ G m n ∧ (n : Int) ≤ way b a := by
  have w := way_lt b a
  unfold few at hn
  unfold G
  split at hn
  · omega
  · split at hn
    · omega
    · split at hn
      · have e : ∃ r, n = m + 1 + (r + 1) ∧ r < m + 1 := ⟨n - (m + 2), by split at hn <;> omega, by split at hn <;> omega⟩
        obtain ⟨r, rfl, hr⟩ := e
        rw [show m + 1 + (r + 1) + m = r + (m + 1) * 2 by omega, Nat.add_mul_div_left _ _ (Nat.succ_pos m), Nat.div_eq_of_lt hr]
        split at hn <;> omega
      · rw [show n + m = 0 + (m + 1) * 3 by omega, Nat.add_mul_div_left _ _ (Nat.succ_pos m), Nat.zero_div]
        omega
def red : Int → List Int → List Int
  | _, [] => []
  | o, g :: r => (g - (if g - 1 < o then g - 1 else o)) :: red (o - (if g - 1 < o then g - 1 else o)) r
def walk : Int → List Int → List Int
  | _, [] => []
  | p, g :: r => (p + g) % 4294967296 :: walk ((p + g) % 4294967296) r
theorem red_len (o : Int) (gs : List Int) : (red o gs).length = gs.length := by
  induction gs generalizing o with
  | nil => rfl
  | cons g r ih => show (red _ r).length + 1 = _; rw [ih]; rfl
theorem walk_len (p : Int) (gs : List Int) : (walk p gs).length = gs.length := by
  induction gs generalizing p with
  | nil => rfl
  | cons g r ih => show (walk _ r).length + 1 = _; rw [ih]; rfl
/-- item by item no more, and no less than 1 -/
def Und : List Int → List Int → Prop
  | [], [] => True
  | x :: xs, g :: gs => 1 ≤ x ∧ x ≤ g ∧ Und xs gs
  | _, _ => False
theorem red_und (o : Int) (gs : List Int) (h0 : 0 ≤ o) (h : ∀ g ∈ gs, 1 ≤ g) : Und (red o gs) gs := by
  induction gs generalizing o with
  | nil => trivial
  | cons g r ih =>
    have hg := h g List.mem_cons_self
    refine ⟨by split <;> omega, by split <;> omega, ih _ (by split <;> omega) fun x hx => h x (List.mem_cons_of_mem _ hx)⟩
theorem red_sum (o : Int) (gs : List Int) (h0 : 0 ≤ o) (h : ∀ g ∈ gs, 1 ≤ g) (l : o ≤ gs.sum - gs.length) : (red o gs).sum = gs.sum - o := by
  induction gs generalizing o with
  | nil =>
    have : o ≤ 0 := l
    show (0 : Int) = 0 - o
    omega
  | cons g r ih =>
    have hg := h g List.mem_cons_self
    have l' : o ≤ (g + r.sum) - ((r.length + 1 : Nat) : Int) := by
      rw [List.sum_cons] at l
      exact l
    have lr : (r.length : Int) ≤ r.sum := by
      have hr : ∀ x ∈ r, 1 ≤ x := fun x hx => h x (List.mem_cons_of_mem _ hx)
      clear ih l l' h
      induction r with
      | nil => exact Int.le_refl 0
      | cons y t iht =>
        have a := hr y List.mem_cons_self
        have b := iht fun x hx => hr x (List.mem_cons_of_mem _ hx)
        rw [List.sum_cons, List.length_cons]
        omega
    show ((g - _) :: red _ r).sum = _
    rw [List.sum_cons, List.sum_cons, ih _ (by split <;> omega) (fun x hx => h x (List.mem_cons_of_mem _ hx)) (by split <;> omega)]
    split <;> omega
def gaps0 (m n : Nat) : List Int := (List.range n).map (g0 m)
theorem gaps0_sum (m n : Nat) : (gaps0 m n).sum = G m n := by
  induction n with
  | zero => rw [G_zero]; rfl
  | succ n ih =>
    unfold gaps0 at ih ⊢
    rw [List.range_succ, List.map_append, List.sum_append, ih, G_succ]
    show _ + (g0 m n + 0) = _
    omega
theorem gaps0_ge (m n : Nat) (hm : m ≤ 1000) : ∀ g ∈ gaps0 m n, 1 ≤ g ∧ g ≤ 2147483647 := fun g hg => by
  obtain ⟨k, _, rfl⟩ := List.mem_map.mp hg
  unfold g0
  split <;> omega
/-! sums of the first k -/
theorem und_len : ∀ {xs gs : List Int}, Und xs gs → xs.length = gs.length
  | [], [], _ => rfl
  | _ :: _, _ :: _, h => congrArg (· + 1) (und_len h.2.2)
  | [], _ :: _, h => h.elim
  | _ :: _, [], h => h.elim
/-- what the first k leave of the whole measure grows -/
theorem und_win : ∀ {xs gs : List Int}, Und xs gs → ∀ {j k : Nat}, j ≤ k → (xs.take k).sum - (xs.take j).sum ≤ (gs.take k).sum - (gs.take j).sum
  | [], [], _, j, k, _ => by simp
  | x :: xs, g :: gs, h, j, k, l => by
    obtain ⟨h1, h2, h3⟩ := h
    cases k with
    | zero => rw [show j = 0 by omega]; simp
    | succ k =>
      cases j with
      | zero =>
        have := und_win h3 (Nat.zero_le k)
        simp only [List.take_succ_cons, List.take_zero, List.sum_cons, List.sum_nil] at this ⊢
        omega
      | succ j =>
        have := und_win h3 (j := j) (k := k) (by omega)
        simp only [List.take_succ_cons, List.sum_cons] at this ⊢
        omega
  | [], _ :: _, h, _, _, _ => h.elim
  | _ :: _, [], h, _, _, _ => h.elim
theorem gaps0_take (m n k : Nat) (h : k ≤ n) : ((gaps0 m n).take k).sum = G m k := by
  unfold gaps0
  rw [← List.map_take, List.take_range, Nat.min_eq_left h]
  exact gaps0_sum m k
theorem way_add (p g : Int) (h1 : 1 ≤ g) (h2 : g ≤ 2147483647) : way ((p + g) % 4294967296) p = g := by
  unfold way
  omega
theorem gapsOk_walk : ∀ (gs : List Int) (p : Int), (∀ g ∈ gs, 1 ≤ g ∧ g ≤ 2147483647) → gapsOk p (walk p gs) = true
  | [], _, _ => rfl
  | g :: r, p, h => by
    have hg := h g List.mem_cons_self
    show (newB _ p && gapsOk _ (walk _ r)) = true
    rw [gapsOk_walk r _ fun x hx => h x (List.mem_cons_of_mem _ hx)]
    unfold newB
    rw [way_add p g hg.1 hg.2]
    simp [hg.1, hg.2]
theorem plF_walk : ∀ (gs : List Int) (p q : Int), (∀ g ∈ gs, 1 ≤ g ∧ g ≤ 2147483647) → plF q p (walk p gs) = (List.range (gs.length + 1)).map fun k => q + (gs.take k).sum
  | [], p, q, _ => by show [q] = [q + 0]; rw [Int.add_zero]
  | g :: r, p, q, h => by
    have hg := h g List.mem_cons_self
    show q :: plF (q + way _ p) _ (walk _ r) = _
    rw [way_add p g hg.1 hg.2, plF_walk r _ _ fun x hx => h x (List.mem_cons_of_mem _ hx), List.length_cons, List.range_succ_eq_map (n := r.length + 1), List.map_cons, List.map_map]
    refine congr (congrArg _ (by simp)) (List.map_congr_left fun k _ => ?_)
    show q + g + (r.take k).sum = q + ((g :: r).take (k + 1)).sum
    rw [List.take_succ_cons, List.sum_cons]
    omega
theorem lastOf_walk : ∀ (gs : List Int) (p : Int), lastOf p (walk p gs) % 4294967296 = (p + gs.sum) % 4294967296
  | [], p => by show p % _ = (p + 0) % _; rw [Int.add_zero]
  | g :: r, p => by
    show lastOf _ (walk _ r) % _ = _
    rw [lastOf_walk r, List.sum_cons]
    omega
theorem ser_walk : ∀ (gs : List Int) (p : Int), ∀ s ∈ walk p gs, ser s = true
  | [], _, s, h => by cases h
  | g :: r, p, s, h => by
    rcases List.mem_cons.mp h with e | e
    · rw [e]; unfold ser; simp; omega
    · exact ser_walk r _ s e
theorem ser_last : ∀ (ws : List Int) (p : Int), ser p = true → (∀ s ∈ ws, ser s = true) → ser (lastOf p ws) = true
  | [], _, h, _ => h
  | s :: r, _, _, h => ser_last r s (h s List.mem_cons_self) fun x hx => h x (List.mem_cons_of_mem _ hx)
theorem ser_iff {i : Int} : ser i = true ↔ 0 ≤ i ∧ i < 4294967296 := by unfold ser; simp
theorem und_mem : ∀ {xs gs : List Int}, Und xs gs → ∀ {B : Int}, (∀ g ∈ gs, g ≤ B) → ∀ x ∈ xs, 1 ≤ x ∧ x ≤ B
  | x :: xs, g :: gs, h, B, m, y, hy => by
    obtain ⟨h1, h2, h3⟩ := h
    have := m g List.mem_cons_self
    rcases List.mem_cons.mp hy with e | e
    · rw [e]; omega
    · exact und_mem h3 (fun z hz => m z (List.mem_cons_of_mem _ hz)) y e
  | [], [], _, _, _, y, hy => by cases hy
  | [], _ :: _, h, _, _, _, _ => h.elim
  | _ :: _, [], h, _, _, _, _ => h.elim
/-- what steps hands back is a way -/
theorem made_way {a b : Int} {m n : Nat} (sa : ser a = true) (sb : ser b = true) (hm : m ≤ 1000) (hn : (n : Int) = few a b m) (h2 : 2 ≤ n) :
    (walk a (red ((gaps0 m n).sum - way b a) (gaps0 m n))).length = n ∧ (∀ s ∈ walk a (red ((gaps0 m n).sum - way b a) (gaps0 m n)), ser s = true) ∧ isWay a b m (walk a (red ((gaps0 m n).sum - way b a) (gaps0 m n))) = true := by
  have F := G_few a b m hm n hn h2
  have w := way_lt b a
  have hg := gaps0_ge m n hm
  have len0 : (gaps0 m n).length = n := by unfold gaps0; simp
  have o0 : 0 ≤ (gaps0 m n).sum - way b a := by rw [gaps0_sum]; omega
  have U := red_und _ (gaps0 m n) o0 fun g hg' => (hg g hg').1
  have S := red_sum _ (gaps0 m n) o0 (fun g hg' => (hg g hg').1) (by rw [len0]; omega)
  generalize hr : red ((gaps0 m n).sum - way b a) (gaps0 m n) = gs at U S
  have lg : gs.length = n := by rw [und_len U, len0]
  have mg := und_mem U (B := 2147483647) fun g hg' => (hg g hg').2
  refine ⟨by rw [walk_len, lg], ser_walk _ _, ?_⟩
  unfold isWay
  rw [gapsOk_walk _ _ mg, Bool.true_and, Bool.and_eq_true]
  refine ⟨?_, ?_⟩
  · unfold winOk
    rw [List.all_eq_true]
    intro k hk
    have hk := List.mem_range.mp hk
    rw [walk_len, lg] at hk
    rw [plF_walk _ _ _ mg]
    have e1 : ∀ j, j < n + 1 → ((List.range (gs.length + 1)).map fun k => (0 : Int) + (gs.take k).sum).getD j 0 = (gs.take j).sum := fun j hj => by
      rw [List.getD_eq_getElem?_getD, List.getElem?_map, List.getElem?_range (by omega)]
      show (0 : Int) + _ = _
      omega
    rw [e1 (k + 1) (by omega), e1 (k - m) (by omega)]
    have := und_win U (j := k - m) (k := k + 1) (by omega)
    rw [gaps0_take m n _ (by omega), gaps0_take m n _ (by omega)] at this
    have := G_win m k hm
    simp only [decide_eq_true_eq]
    omega
  · have L := lastOf_walk gs a
    have sl := ser_iff.mp (ser_last _ a sa (ser_walk gs a))
    have sb := ser_iff.mp sb
    have sa := ser_iff.mp sa
    rw [S] at L
    unfold way at L
    simp only [decide_eq_true_eq]
    omega
end L_k25
set_option maxHeartbeats 4000000
/-! P1_k25: the deck. -/
namespace L_k25
open PySem MP TL
/-! ### the deck -/
def deckOk (n : Nat) (xs : List PV) : Prop := ∃ (ns : List Int) (pos rest mixed turn : Int), xs = [.fl (ns.map .int), .int pos, .int rest, .int mixed, .int turn] ∧ ns.length ≤ 63 ∧ 0 ≤ pos ∧ pos ≤ ns.length ∧ 0 ≤ rest ∧ 0 ≤ mixed ∧ mixed + (63 - pos) * 10 ^ 20 < 10 ^ 34 ∧ 0 ≤ turn ∧ turn + n ≤ 10 ^ 9
theorem fzs_ints {n : Nat} {h : PHeap} : ∀ ns : List Int, Fzs n h (ns.map .int) (ns.map .int)
  | [] => .nil
  | i :: r => .cons (.int i) (fzs_ints r)
instance deckK : PotK where
  ok := deckOk
  le := fun ⟨ns, pos, rest, mixed, turn, e, a1, a2, a3, a4, a5, a6, a7, a8⟩ l => ⟨ns, pos, rest, mixed, turn, e, a1, a2, a3, a4, a5, a6, a7, by omega⟩
  old := fun ⟨ns, pos, rest, mixed, turn, e, _⟩ N h => by
    subst e
    exact .cons (.fl (fzs_ints ns)) (.cons (.int _) (.cons (.int _) (.cons (.int _) (.cons (.int _) .nil))))
def sp_deck : PSp := fun vs h Q _ => ∃ ns : List Int, vs = [.fl (ns.map .int)] ∧ ns.length ≤ 63 ∧ ∀ c, Pot (h ++ [c]) h.length 900000000 → Q (.ref h.length) (h ++ [c])
theorem p10 {n : Int} (h : 0 ≤ n) (l : n ≤ 100) : powOk 10 n := ⟨h, 4, by decide, by omega⟩
theorem p2 {n : Int} (h : 0 ≤ n) (l : n ≤ 100) : powOk 2 n := ⟨h, 2, by decide, by omega⟩
theorem lg {m : Int} (h0 : 0 < m) (h : m < 10 ^ 45) : m.natAbs.log2 < 9000 := by
  have : m.natAbs < 2 ^ 200 := by omega
  have := (Nat.log2_lt (by omega)).mpr this
  omega
theorem pure__law_deck (vs : List PV) (h : PHeap) (Q : PQ) (Ex : PXQ) (_ : vs.length = 1) (hh : sp_deck vs h Q Ex) : t__law_deck (body Q Ex) (pstart 3 vs) h := by
  obtain ⟨ns, rfl, ln, q⟩ := hh
  show t__law_deck (body Q Ex) [some (.fl (ns.map .int)), none, none] h
  unfold t__law_deck
  refine seq_asg ⟨rfl, ?_⟩
  refine forGo_inv (fun _ τ h' => h' = h ∧ ∃ (mix : Int) (o : Option PV), τ = [some (.fl (ns.map .int)), some (.int mix), o] ∧ 0 ≤ mix ∧ mix < 10 ^ 30) _ (fun _ _ _ _ => trivial) (fun τ h' z => ?_) (fun j x τ h' N ej z nn => ?_) _ _ ⟨rfl, 17, none, rfl, by decide, by decide⟩
  · obtain ⟨rfl, mix, o, rfl, m0, m1⟩ := z
    simp only [MP.pSeq, MP.pIfS, MP.pRet, MP.pRetN, MP.pNext, MP.pAsg, MP.pDrop, MP.pBrk, MP.pCt, MP.pVar, MP.pC, MP.pOp, MP.pUn, MP.pNil, MP.pCons, MP.pCB, MP.pCall, MP.pTup, MP.pTmp, MP.pNew, MP.pCT, MP.pIf, MP.pB, MP.pT, MP.pAnd, MP.pOr, MP.pNot, MP.pAndV, MP.pOrV, MP.pNotV, MP.pChain, MP.pG, MP.pGs, MP.pIxT, MP.pSlice, MP.pPart, MP.pNoPart, MP.pMtT, MP.pJoinT, MP.pAsgS, MP.pAug, MP.body, MP.gd, MP.pSliceV, MP.pFz, MP.pPar, MP.pPar3, MP.e_add_ii, MP.e_add_ss, MP.e_add_tt, MP.e_add_rr, MP.e_sub, MP.e_mul_ii, MP.e_mul_si, MP.e_mul_ri, MP.e_iadd_ii, MP.e_iadd_ss, MP.e_pow, MP.e_fdiv, MP.e_mod, MP.e_neg, MP.e_lt, MP.e_le, MP.e_gt, MP.e_ge, MP.e_eq_ii, MP.e_ne_ii, MP.e_eq_ss, MP.e_ne_ss, MP.e_eq_bb, MP.e_ne_bb, MP.e_isN, MP.e_notN, MP.e_ix_s, MP.e_ix_t, MP.e_ix_f, MP.e_ix_r, MP.e_ixT, MP.e_set, MP.e_len_s, MP.e_len_t, MP.e_len_f, MP.e_len_r, MP.e_lenT, MP.e_int_i, MP.e_int_b, MP.e_abs, MP.e_max, MP.e_min, MP.e_tupI, MP.e_lstI, MP.e_allI, MP.e_anyI, MP.e_onI_t, MP.e_onI_f, MP.e_onI_r, MP.e_onL_r, MP.e_isi_n, MP.e_isi_b, MP.e_isi_i, MP.e_isi_s, MP.e_isi_t, MP.e_isi_f, MP.e_isiT_n, MP.e_isiT_b, MP.e_isiT_i, MP.e_isiT_s, MP.e_isiT_t, MP.e_isiT_f, MP.e_app, MP.e_split, MP.e_joinI, MP.e_join_r, MP.e_cut_s, MP.e_cut_t, MP.e_cut_f, MP.e_cut_r, MP.tr_b, MP.tr_i, MP.tr_s, MP.tr_n, MP.tr_t, MP.tr_r, MP.x_n, MP.x_b, MP.x_i, MP.x_s, MP.x_t, MP.x_f, MP.x_r, MP.atI_0, MP.atI_1, MP.atI_2, MP.atI_3, MP.atI_m1, MP.ixN_c0, MP.ixN_c1, MP.ixN_c2, MP.e_in_ss, MP.e_addV_ii, MP.e_addV_ss, MP.e_addV_tt, MP.e_addV_ff, MP.e_mulV_ii, MP.e_mulV_si, MP.e_mulV_ti, MP.e_mulV_fi, MP.e_cutV_s, MP.e_cutV_t, MP.e_cutV_f, MP.e_revV_t, MP.e_revV_f, MP.e_lstV, MP.e_splitV, MP.e_onL_f, MP.tr_f, MP.ib_NoneType_bool, MP.ib_NoneType_int, MP.ib_NoneType_str, MP.ib_NoneType_tuple, MP.ib_NoneType_list, MP.ib_NoneType_dict, MP.ib_NoneType_set, MP.ib_bool_bool, MP.ib_bool_int, MP.ib_bool_str, MP.ib_bool_tuple, MP.ib_bool_list, MP.ib_bool_dict, MP.ib_bool_set, MP.ib_int_bool, MP.ib_int_int, MP.ib_int_str, MP.ib_int_tuple, MP.ib_int_list, MP.ib_int_dict, MP.ib_int_set, MP.ib_str_bool, MP.ib_str_int, MP.ib_str_str, MP.ib_str_tuple, MP.ib_str_list, MP.ib_str_dict, MP.ib_str_set, MP.ib_tuple_bool, MP.ib_tuple_int, MP.ib_tuple_str, MP.ib_tuple_tuple, MP.ib_tuple_list, MP.ib_tuple_dict, MP.ib_tuple_set, MP.ib_list_bool, MP.ib_list_int, MP.ib_list_str, MP.ib_list_tuple, MP.ib_list_list, MP.ib_list_dict, MP.ib_list_set, MP.ib_dict_bool, MP.ib_dict_int, MP.ib_dict_str, MP.ib_dict_tuple, MP.ib_dict_list, MP.ib_dict_dict, MP.ib_dict_set, MP.ib_set_bool, MP.ib_set_int, MP.ib_set_str, MP.ib_set_tuple, MP.ib_set_list, MP.ib_set_dict, MP.ib_set_set, Bool.not_true, Bool.not_false, List.any_cons, List.any_nil, Bool.or_false, Bool.or_true, Bool.true_or, Bool.false_or, Bool.and_true, Bool.true_and, Bool.and_false, Bool.false_and, if_true, if_false, ite_true, ite_false, and_true, true_and, Bool.false_eq_true, List.getElem?_cons_zero, List.getElem?_cons_succ, List.set_cons_zero, List.set_cons_succ, List.length_cons, List.length_nil, List.cons_append, List.nil_append]
    refine ⟨by rw [sizeLine_eq]; decide, ?_⟩
    refine q _ ⟨_, by rw [List.getElem?_concat_length], ns, 0, 0, mix, 0, rfl, ln, by omega, by omega, by omega, m0, by omega, by omega, by omega⟩
  · obtain ⟨rfl, mix, o, rfl, m0, m1⟩ := z
    rw [List.getElem?_map] at ej
    obtain ⟨i, _, rfl⟩ := Option.map_eq_some_iff.mp ej
    refine ⟨_, rfl, ?_⟩
    simp only [MP.pSeq, MP.pIfS, MP.pRet, MP.pRetN, MP.pNext, MP.pAsg, MP.pDrop, MP.pBrk, MP.pCt, MP.pVar, MP.pC, MP.pOp, MP.pUn, MP.pNil, MP.pCons, MP.pCB, MP.pCall, MP.pTup, MP.pTmp, MP.pNew, MP.pCT, MP.pIf, MP.pB, MP.pT, MP.pAnd, MP.pOr, MP.pNot, MP.pAndV, MP.pOrV, MP.pNotV, MP.pChain, MP.pG, MP.pGs, MP.pIxT, MP.pSlice, MP.pPart, MP.pNoPart, MP.pMtT, MP.pJoinT, MP.pAsgS, MP.pAug, MP.body, MP.gd, MP.pSliceV, MP.pFz, MP.pPar, MP.pPar3, MP.e_add_ii, MP.e_add_ss, MP.e_add_tt, MP.e_add_rr, MP.e_sub, MP.e_mul_ii, MP.e_mul_si, MP.e_mul_ri, MP.e_iadd_ii, MP.e_iadd_ss, MP.e_pow, MP.e_fdiv, MP.e_mod, MP.e_neg, MP.e_lt, MP.e_le, MP.e_gt, MP.e_ge, MP.e_eq_ii, MP.e_ne_ii, MP.e_eq_ss, MP.e_ne_ss, MP.e_eq_bb, MP.e_ne_bb, MP.e_isN, MP.e_notN, MP.e_ix_s, MP.e_ix_t, MP.e_ix_f, MP.e_ix_r, MP.e_ixT, MP.e_set, MP.e_len_s, MP.e_len_t, MP.e_len_f, MP.e_len_r, MP.e_lenT, MP.e_int_i, MP.e_int_b, MP.e_abs, MP.e_max, MP.e_min, MP.e_tupI, MP.e_lstI, MP.e_allI, MP.e_anyI, MP.e_onI_t, MP.e_onI_f, MP.e_onI_r, MP.e_onL_r, MP.e_isi_n, MP.e_isi_b, MP.e_isi_i, MP.e_isi_s, MP.e_isi_t, MP.e_isi_f, MP.e_isiT_n, MP.e_isiT_b, MP.e_isiT_i, MP.e_isiT_s, MP.e_isiT_t, MP.e_isiT_f, MP.e_app, MP.e_split, MP.e_joinI, MP.e_join_r, MP.e_cut_s, MP.e_cut_t, MP.e_cut_f, MP.e_cut_r, MP.tr_b, MP.tr_i, MP.tr_s, MP.tr_n, MP.tr_t, MP.tr_r, MP.x_n, MP.x_b, MP.x_i, MP.x_s, MP.x_t, MP.x_f, MP.x_r, MP.atI_0, MP.atI_1, MP.atI_2, MP.atI_3, MP.atI_m1, MP.ixN_c0, MP.ixN_c1, MP.ixN_c2, MP.e_in_ss, MP.e_addV_ii, MP.e_addV_ss, MP.e_addV_tt, MP.e_addV_ff, MP.e_mulV_ii, MP.e_mulV_si, MP.e_mulV_ti, MP.e_mulV_fi, MP.e_cutV_s, MP.e_cutV_t, MP.e_cutV_f, MP.e_revV_t, MP.e_revV_f, MP.e_lstV, MP.e_splitV, MP.e_onL_f, MP.tr_f, MP.ib_NoneType_bool, MP.ib_NoneType_int, MP.ib_NoneType_str, MP.ib_NoneType_tuple, MP.ib_NoneType_list, MP.ib_NoneType_dict, MP.ib_NoneType_set, MP.ib_bool_bool, MP.ib_bool_int, MP.ib_bool_str, MP.ib_bool_tuple, MP.ib_bool_list, MP.ib_bool_dict, MP.ib_bool_set, MP.ib_int_bool, MP.ib_int_int, MP.ib_int_str, MP.ib_int_tuple, MP.ib_int_list, MP.ib_int_dict, MP.ib_int_set, MP.ib_str_bool, MP.ib_str_int, MP.ib_str_str, MP.ib_str_tuple, MP.ib_str_list, MP.ib_str_dict, MP.ib_str_set, MP.ib_tuple_bool, MP.ib_tuple_int, MP.ib_tuple_str, MP.ib_tuple_tuple, MP.ib_tuple_list, MP.ib_tuple_dict, MP.ib_tuple_set, MP.ib_list_bool, MP.ib_list_int, MP.ib_list_str, MP.ib_list_tuple, MP.ib_list_list, MP.ib_list_dict, MP.ib_list_set, MP.ib_dict_bool, MP.ib_dict_int, MP.ib_dict_str, MP.ib_dict_tuple, MP.ib_dict_list, MP.ib_dict_dict, MP.ib_dict_set, MP.ib_set_bool, MP.ib_set_int, MP.ib_set_str, MP.ib_set_tuple, MP.ib_set_list, MP.ib_set_dict, MP.ib_set_set, Bool.not_true, Bool.not_false, List.any_cons, List.any_nil, Bool.or_false, Bool.or_true, Bool.true_or, Bool.false_or, Bool.and_true, Bool.true_and, Bool.and_false, Bool.false_and, if_true, if_false, ite_true, ite_false, and_true, true_and, Bool.false_eq_true, List.getElem?_cons_zero, List.getElem?_cons_succ, List.set_cons_zero, List.set_cons_succ, List.length_cons, List.length_nil, List.cons_append, List.nil_append]
    exact ⟨mulOk_r (by decide), p10 (by decide) (by decide), by decide, nn _ _ ⟨rfl, _, _, rfl, Int.emod_nonneg _ (by decide), Int.lt_trans (Int.emod_lt_of_pos _ (by decide)) (by decide)⟩⟩
theorem atI_4 {xs : List PV} : L2.atI xs 4 = xs[4]? := atI_nat 4
theorem ixN_c3 {n : Nat} : L2.ixN (n + 1 + 1 + 1 + 1) 3 = some 3 := ixN_nat (n := n + 1 + 1 + 1 + 1) (k := 3) (by omega)
theorem ixN_c4 {n : Nat} : L2.ixN (n + 1 + 1 + 1 + 1 + 1) 4 = some 4 := ixN_nat (n := n + 1 + 1 + 1 + 1 + 1) (k := 4) (by omega)
/-- the second half of a draw -/
theorem draw_2 {p n : Nat} {m : Int} {h h1 : PHeap} {Q : PQ} {Ex : PXQ} {ns : List Int} {pos rest mixed turn : Int} {o : Option PV} (m0 : 0 < m) (m1 : m < 10 ^ 45) (k : ∀ r h', 0 ≤ r → r < m → Pot h' p n → Pe p h h' → Q (.int r) h') (l : p < h.length)
    (e1 : Pe p h h1) (e2 : h1[p]? = some (.lst [.fl (ns.map .int), .int pos, .int rest, .int mixed, .int turn])) (a1 : ns.length ≤ 63) (b1 : 0 ≤ pos) (b2 : pos ≤ ns.length) (b3 : 0 ≤ rest) (b4 : 0 ≤ mixed) (b5 : mixed + (63 - pos) * 10 ^ 20 < 10 ^ 34) (a7 : 0 ≤ turn) (a8 : turn + (n + 1 : Nat) ≤ 10 ^ 9) :
    u_law_draw_1 (body Q Ex) [some (.ref p), some (.int m), none, o, none] h1 := by
  have l' : p < h1.length := by rw [e1.len]; exact l
  unfold u_law_draw_1 u_law_draw_1_t_0 u_law_draw_1_t_1 u_law_draw_1_t_2
  simp only [MP.pSeq, MP.pIfS, MP.pRet, MP.pRetN, MP.pNext, MP.pAsg, MP.pDrop, MP.pBrk, MP.pCt, MP.pVar, MP.pC, MP.pOp, MP.pUn, MP.pNil, MP.pCons, MP.pCB, MP.pCall, MP.pTup, MP.pTmp, MP.pNew, MP.pCT, MP.pIf, MP.pB, MP.pT, MP.pAnd, MP.pOr, MP.pNot, MP.pAndV, MP.pOrV, MP.pNotV, MP.pChain, MP.pG, MP.pGs, MP.pIxT, MP.pSlice, MP.pPart, MP.pNoPart, MP.pMtT, MP.pJoinT, MP.pAsgS, MP.pAug, MP.body, MP.gd, MP.pSliceV, MP.pFz, MP.pPar, MP.pPar3, MP.e_add_ii, MP.e_add_ss, MP.e_add_tt, MP.e_add_rr, MP.e_sub, MP.e_mul_ii, MP.e_mul_si, MP.e_mul_ri, MP.e_iadd_ii, MP.e_iadd_ss, MP.e_pow, MP.e_fdiv, MP.e_mod, MP.e_neg, MP.e_lt, MP.e_le, MP.e_gt, MP.e_ge, MP.e_eq_ii, MP.e_ne_ii, MP.e_eq_ss, MP.e_ne_ss, MP.e_eq_bb, MP.e_ne_bb, MP.e_isN, MP.e_notN, MP.e_ix_s, MP.e_ix_t, MP.e_ix_f, MP.e_ix_r, MP.e_ixT, MP.e_set, MP.e_len_s, MP.e_len_t, MP.e_len_f, MP.e_len_r, MP.e_lenT, MP.e_int_i, MP.e_int_b, MP.e_abs, MP.e_max, MP.e_min, MP.e_tupI, MP.e_lstI, MP.e_allI, MP.e_anyI, MP.e_onI_t, MP.e_onI_f, MP.e_onI_r, MP.e_onL_r, MP.e_isi_n, MP.e_isi_b, MP.e_isi_i, MP.e_isi_s, MP.e_isi_t, MP.e_isi_f, MP.e_isiT_n, MP.e_isiT_b, MP.e_isiT_i, MP.e_isiT_s, MP.e_isiT_t, MP.e_isiT_f, MP.e_app, MP.e_split, MP.e_joinI, MP.e_join_r, MP.e_cut_s, MP.e_cut_t, MP.e_cut_f, MP.e_cut_r, MP.tr_b, MP.tr_i, MP.tr_s, MP.tr_n, MP.tr_t, MP.tr_r, MP.x_n, MP.x_b, MP.x_i, MP.x_s, MP.x_t, MP.x_f, MP.x_r, MP.atI_0, MP.atI_1, MP.atI_2, MP.atI_3, MP.atI_m1, MP.ixN_c0, MP.ixN_c1, MP.ixN_c2, MP.e_in_ss, MP.e_addV_ii, MP.e_addV_ss, MP.e_addV_tt, MP.e_addV_ff, MP.e_mulV_ii, MP.e_mulV_si, MP.e_mulV_ti, MP.e_mulV_fi, MP.e_cutV_s, MP.e_cutV_t, MP.e_cutV_f, MP.e_revV_t, MP.e_revV_f, MP.e_lstV, MP.e_splitV, MP.e_onL_f, MP.tr_f, MP.ib_NoneType_bool, MP.ib_NoneType_int, MP.ib_NoneType_str, MP.ib_NoneType_tuple, MP.ib_NoneType_list, MP.ib_NoneType_dict, MP.ib_NoneType_set, MP.ib_bool_bool, MP.ib_bool_int, MP.ib_bool_str, MP.ib_bool_tuple, MP.ib_bool_list, MP.ib_bool_dict, MP.ib_bool_set, MP.ib_int_bool, MP.ib_int_int, MP.ib_int_str, MP.ib_int_tuple, MP.ib_int_list, MP.ib_int_dict, MP.ib_int_set, MP.ib_str_bool, MP.ib_str_int, MP.ib_str_str, MP.ib_str_tuple, MP.ib_str_list, MP.ib_str_dict, MP.ib_str_set, MP.ib_tuple_bool, MP.ib_tuple_int, MP.ib_tuple_str, MP.ib_tuple_tuple, MP.ib_tuple_list, MP.ib_tuple_dict, MP.ib_tuple_set, MP.ib_list_bool, MP.ib_list_int, MP.ib_list_str, MP.ib_list_tuple, MP.ib_list_list, MP.ib_list_dict, MP.ib_list_set, MP.ib_dict_bool, MP.ib_dict_int, MP.ib_dict_str, MP.ib_dict_tuple, MP.ib_dict_list, MP.ib_dict_dict, MP.ib_dict_set, MP.ib_set_bool, MP.ib_set_int, MP.ib_set_str, MP.ib_set_tuple, MP.ib_set_list, MP.ib_set_dict, MP.ib_set_set, Bool.not_true, Bool.not_false, List.any_cons, List.any_nil, Bool.or_false, Bool.or_true, Bool.true_or, Bool.false_or, Bool.and_true, Bool.true_and, Bool.and_false, Bool.false_and, if_true, if_false, ite_true, ite_false, and_true, true_and, Bool.false_eq_true, List.getElem?_cons_zero, List.getElem?_cons_succ, List.set_cons_zero, List.set_cons_succ, List.length_cons, List.length_nil, List.cons_append, List.nil_append, e2, List.getElem?_set_self l', List.length_set]
  by_cases c : 0 < rest
  · rw [if_pos (decide_eq_true c)]
    exact ⟨m0, ⟨m0, lg m0 m1⟩, k _ _ (Int.emod_nonneg _ (by omega)) (Int.emod_lt_of_pos _ m0) ⟨_, List.getElem?_set_self l', ns, pos, rest / m, mixed, turn, rfl, a1, b1, b2, Int.ediv_nonneg b3 (by omega), b4, b5, a7, by omega⟩ (e1.trans (.put _))⟩
  · rw [if_neg (by simpa using c)]
    unfold u_law_draw_2 u_law_draw_3 u_law_draw_4 u_law_draw_5
    simp only [MP.pSeq, MP.pIfS, MP.pRet, MP.pRetN, MP.pNext, MP.pAsg, MP.pDrop, MP.pBrk, MP.pCt, MP.pVar, MP.pC, MP.pOp, MP.pUn, MP.pNil, MP.pCons, MP.pCB, MP.pCall, MP.pTup, MP.pTmp, MP.pNew, MP.pCT, MP.pIf, MP.pB, MP.pT, MP.pAnd, MP.pOr, MP.pNot, MP.pAndV, MP.pOrV, MP.pNotV, MP.pChain, MP.pG, MP.pGs, MP.pIxT, MP.pSlice, MP.pPart, MP.pNoPart, MP.pMtT, MP.pJoinT, MP.pAsgS, MP.pAug, MP.body, MP.gd, MP.pSliceV, MP.pFz, MP.pPar, MP.pPar3, MP.e_add_ii, MP.e_add_ss, MP.e_add_tt, MP.e_add_rr, MP.e_sub, MP.e_mul_ii, MP.e_mul_si, MP.e_mul_ri, MP.e_iadd_ii, MP.e_iadd_ss, MP.e_pow, MP.e_fdiv, MP.e_mod, MP.e_neg, MP.e_lt, MP.e_le, MP.e_gt, MP.e_ge, MP.e_eq_ii, MP.e_ne_ii, MP.e_eq_ss, MP.e_ne_ss, MP.e_eq_bb, MP.e_ne_bb, MP.e_isN, MP.e_notN, MP.e_ix_s, MP.e_ix_t, MP.e_ix_f, MP.e_ix_r, MP.e_ixT, MP.e_set, MP.e_len_s, MP.e_len_t, MP.e_len_f, MP.e_len_r, MP.e_lenT, MP.e_int_i, MP.e_int_b, MP.e_abs, MP.e_max, MP.e_min, MP.e_tupI, MP.e_lstI, MP.e_allI, MP.e_anyI, MP.e_onI_t, MP.e_onI_f, MP.e_onI_r, MP.e_onL_r, MP.e_isi_n, MP.e_isi_b, MP.e_isi_i, MP.e_isi_s, MP.e_isi_t, MP.e_isi_f, MP.e_isiT_n, MP.e_isiT_b, MP.e_isiT_i, MP.e_isiT_s, MP.e_isiT_t, MP.e_isiT_f, MP.e_app, MP.e_split, MP.e_joinI, MP.e_join_r, MP.e_cut_s, MP.e_cut_t, MP.e_cut_f, MP.e_cut_r, MP.tr_b, MP.tr_i, MP.tr_s, MP.tr_n, MP.tr_t, MP.tr_r, MP.x_n, MP.x_b, MP.x_i, MP.x_s, MP.x_t, MP.x_f, MP.x_r, MP.atI_0, MP.atI_1, MP.atI_2, MP.atI_3, MP.atI_m1, MP.ixN_c0, MP.ixN_c1, MP.ixN_c2, MP.e_in_ss, MP.e_addV_ii, MP.e_addV_ss, MP.e_addV_tt, MP.e_addV_ff, MP.e_mulV_ii, MP.e_mulV_si, MP.e_mulV_ti, MP.e_mulV_fi, MP.e_cutV_s, MP.e_cutV_t, MP.e_cutV_f, MP.e_revV_t, MP.e_revV_f, MP.e_lstV, MP.e_splitV, MP.e_onL_f, MP.tr_f, MP.ib_NoneType_bool, MP.ib_NoneType_int, MP.ib_NoneType_str, MP.ib_NoneType_tuple, MP.ib_NoneType_list, MP.ib_NoneType_dict, MP.ib_NoneType_set, MP.ib_bool_bool, MP.ib_bool_int, MP.ib_bool_str, MP.ib_bool_tuple, MP.ib_bool_list, MP.ib_bool_dict, MP.ib_bool_set, MP.ib_int_bool, MP.ib_int_int, MP.ib_int_str, MP.ib_int_tuple, MP.ib_int_list, MP.ib_int_dict, MP.ib_int_set, MP.ib_str_bool, MP.ib_str_int, MP.ib_str_str, MP.ib_str_tuple, MP.ib_str_list, MP.ib_str_dict, MP.ib_str_set, MP.ib_tuple_bool, MP.ib_tuple_int, MP.ib_tuple_str, MP.ib_tuple_tuple, MP.ib_tuple_list, MP.ib_tuple_dict, MP.ib_tuple_set, MP.ib_list_bool, MP.ib_list_int, MP.ib_list_str, MP.ib_list_tuple, MP.ib_list_list, MP.ib_list_dict, MP.ib_list_set, MP.ib_dict_bool, MP.ib_dict_int, MP.ib_dict_str, MP.ib_dict_tuple, MP.ib_dict_list, MP.ib_dict_dict, MP.ib_dict_set, MP.ib_set_bool, MP.ib_set_int, MP.ib_set_str, MP.ib_set_tuple, MP.ib_set_list, MP.ib_set_dict, MP.ib_set_set, Bool.not_true, Bool.not_false, List.any_cons, List.any_nil, Bool.or_false, Bool.or_true, Bool.true_or, Bool.false_or, Bool.and_true, Bool.true_and, Bool.and_false, Bool.false_and, if_true, if_false, ite_true, ite_false, and_true, true_and, Bool.false_eq_true, List.getElem?_cons_zero, List.getElem?_cons_succ, List.set_cons_zero, List.set_cons_succ, List.length_cons, List.length_nil, List.cons_append, List.nil_append, e2, List.getElem?_set_self l', List.length_set, List.set_set, atI_4, ixN_c3, ixN_c4]
    refine ⟨mulOk_l (by decide), pow_cube (by omega) (by omega), p10 (by decide) (by decide), by decide, mulOk_r (by decide), p10 (by decide) (by decide), by decide, ?_⟩
    have g0 : 0 ≤ ((mixed + 40487 * (turn + 1)) ^ Int.toNat 3 % (10 ^ Int.toNat 33 + 61) * 65539 + mixed + (turn + 1)) % (10 ^ Int.toNat 31 + 33) := Int.emod_nonneg _ (by decide)
    have g1 : ((mixed + 40487 * (turn + 1)) ^ Int.toNat 3 % (10 ^ Int.toNat 33 + 61) * 65539 + mixed + (turn + 1)) % (10 ^ Int.toNat 31 + 33) < 10 ^ 32 := Int.lt_trans (Int.emod_lt_of_pos _ (by decide)) (by decide)
    generalize ((mixed + 40487 * (turn + 1)) ^ Int.toNat 3 % (10 ^ Int.toNat 33 + 61) * 65539 + mixed + (turn + 1)) % (10 ^ Int.toNat 31 + 33) = mx at g0 g1 ⊢
    refine ⟨pow_cube (by omega) (by omega), p10 (by decide) (by decide), by decide, ⟨by decide, by decide +kernel⟩, m0, ?_⟩
    exact k _ _ (Int.emod_nonneg _ (by omega)) (Int.emod_lt_of_pos _ m0) ⟨_, List.getElem?_set_self l', ns, pos, rest, mx, turn + 1, rfl, a1, b1, b2, b3, g0, by omega, by omega, by omega⟩ (e1.trans (.put _))
theorem pure__law_draw (vs : List PV) (h : PHeap) (Q : PQ) (Ex : PXQ) (_ : vs.length = 2) (hh : sp_dr vs h Q Ex) : t__law_draw (body Q Ex) (pstart 5 vs) h := by
  obtain ⟨p, m, n, rfl, m0, m1, P, k⟩ := hh
  have l := P.lt
  obtain ⟨xs, e, ns, pos, rest, mixed, turn, rfl, a1, a2, a3, a4, a5, a6, a7, a8⟩ := P
  show t__law_draw (body Q Ex) [some (.ref p), some (.int m), none, none, none] h
  rw [u_law_draw_eq]
  unfold u_law_draw_0
  unfold pSeq pIfS
  simp only [MP.pSeq, MP.pIfS, MP.pRet, MP.pRetN, MP.pNext, MP.pAsg, MP.pDrop, MP.pBrk, MP.pCt, MP.pVar, MP.pC, MP.pOp, MP.pUn, MP.pNil, MP.pCons, MP.pCB, MP.pCall, MP.pTup, MP.pTmp, MP.pNew, MP.pCT, MP.pIf, MP.pB, MP.pT, MP.pAnd, MP.pOr, MP.pNot, MP.pAndV, MP.pOrV, MP.pNotV, MP.pChain, MP.pG, MP.pGs, MP.pIxT, MP.pSlice, MP.pPart, MP.pNoPart, MP.pMtT, MP.pJoinT, MP.pAsgS, MP.pAug, MP.body, MP.gd, MP.pSliceV, MP.pFz, MP.pPar, MP.pPar3, MP.e_add_ii, MP.e_add_ss, MP.e_add_tt, MP.e_add_rr, MP.e_sub, MP.e_mul_ii, MP.e_mul_si, MP.e_mul_ri, MP.e_iadd_ii, MP.e_iadd_ss, MP.e_pow, MP.e_fdiv, MP.e_mod, MP.e_neg, MP.e_lt, MP.e_le, MP.e_gt, MP.e_ge, MP.e_eq_ii, MP.e_ne_ii, MP.e_eq_ss, MP.e_ne_ss, MP.e_eq_bb, MP.e_ne_bb, MP.e_isN, MP.e_notN, MP.e_ix_s, MP.e_ix_t, MP.e_ix_f, MP.e_ix_r, MP.e_ixT, MP.e_set, MP.e_len_s, MP.e_len_t, MP.e_len_f, MP.e_len_r, MP.e_lenT, MP.e_int_i, MP.e_int_b, MP.e_abs, MP.e_max, MP.e_min, MP.e_tupI, MP.e_lstI, MP.e_allI, MP.e_anyI, MP.e_onI_t, MP.e_onI_f, MP.e_onI_r, MP.e_onL_r, MP.e_isi_n, MP.e_isi_b, MP.e_isi_i, MP.e_isi_s, MP.e_isi_t, MP.e_isi_f, MP.e_isiT_n, MP.e_isiT_b, MP.e_isiT_i, MP.e_isiT_s, MP.e_isiT_t, MP.e_isiT_f, MP.e_app, MP.e_split, MP.e_joinI, MP.e_join_r, MP.e_cut_s, MP.e_cut_t, MP.e_cut_f, MP.e_cut_r, MP.tr_b, MP.tr_i, MP.tr_s, MP.tr_n, MP.tr_t, MP.tr_r, MP.x_n, MP.x_b, MP.x_i, MP.x_s, MP.x_t, MP.x_f, MP.x_r, MP.atI_0, MP.atI_1, MP.atI_2, MP.atI_3, MP.atI_m1, MP.ixN_c0, MP.ixN_c1, MP.ixN_c2, MP.e_in_ss, MP.e_addV_ii, MP.e_addV_ss, MP.e_addV_tt, MP.e_addV_ff, MP.e_mulV_ii, MP.e_mulV_si, MP.e_mulV_ti, MP.e_mulV_fi, MP.e_cutV_s, MP.e_cutV_t, MP.e_cutV_f, MP.e_revV_t, MP.e_revV_f, MP.e_lstV, MP.e_splitV, MP.e_onL_f, MP.tr_f, MP.ib_NoneType_bool, MP.ib_NoneType_int, MP.ib_NoneType_str, MP.ib_NoneType_tuple, MP.ib_NoneType_list, MP.ib_NoneType_dict, MP.ib_NoneType_set, MP.ib_bool_bool, MP.ib_bool_int, MP.ib_bool_str, MP.ib_bool_tuple, MP.ib_bool_list, MP.ib_bool_dict, MP.ib_bool_set, MP.ib_int_bool, MP.ib_int_int, MP.ib_int_str, MP.ib_int_tuple, MP.ib_int_list, MP.ib_int_dict, MP.ib_int_set, MP.ib_str_bool, MP.ib_str_int, MP.ib_str_str, MP.ib_str_tuple, MP.ib_str_list, MP.ib_str_dict, MP.ib_str_set, MP.ib_tuple_bool, MP.ib_tuple_int, MP.ib_tuple_str, MP.ib_tuple_tuple, MP.ib_tuple_list, MP.ib_tuple_dict, MP.ib_tuple_set, MP.ib_list_bool, MP.ib_list_int, MP.ib_list_str, MP.ib_list_tuple, MP.ib_list_list, MP.ib_list_dict, MP.ib_list_set, MP.ib_dict_bool, MP.ib_dict_int, MP.ib_dict_str, MP.ib_dict_tuple, MP.ib_dict_list, MP.ib_dict_dict, MP.ib_dict_set, MP.ib_set_bool, MP.ib_set_int, MP.ib_set_str, MP.ib_set_tuple, MP.ib_set_list, MP.ib_set_dict, MP.ib_set_set, Bool.not_true, Bool.not_false, List.any_cons, List.any_nil, Bool.or_false, Bool.or_true, Bool.true_or, Bool.false_or, Bool.and_true, Bool.true_and, Bool.and_false, Bool.false_and, if_true, if_false, ite_true, ite_false, and_true, true_and, Bool.false_eq_true, List.getElem?_cons_zero, List.getElem?_cons_succ, List.set_cons_zero, List.set_cons_succ, List.length_cons, List.length_nil, List.cons_append, List.nil_append, e, List.length_map]
  by_cases c : rest = 0 ∧ pos < ns.length
  · obtain ⟨c1, c2⟩ := c
    subst c1
    rw [if_pos (by decide), if_pos (decide_eq_true c2)]
    unfold u_law_draw_0_t_0 u_law_draw_0_t_1 u_law_draw_0_t_2
    simp only [MP.pSeq, MP.pIfS, MP.pRet, MP.pRetN, MP.pNext, MP.pAsg, MP.pDrop, MP.pBrk, MP.pCt, MP.pVar, MP.pC, MP.pOp, MP.pUn, MP.pNil, MP.pCons, MP.pCB, MP.pCall, MP.pTup, MP.pTmp, MP.pNew, MP.pCT, MP.pIf, MP.pB, MP.pT, MP.pAnd, MP.pOr, MP.pNot, MP.pAndV, MP.pOrV, MP.pNotV, MP.pChain, MP.pG, MP.pGs, MP.pIxT, MP.pSlice, MP.pPart, MP.pNoPart, MP.pMtT, MP.pJoinT, MP.pAsgS, MP.pAug, MP.body, MP.gd, MP.pSliceV, MP.pFz, MP.pPar, MP.pPar3, MP.e_add_ii, MP.e_add_ss, MP.e_add_tt, MP.e_add_rr, MP.e_sub, MP.e_mul_ii, MP.e_mul_si, MP.e_mul_ri, MP.e_iadd_ii, MP.e_iadd_ss, MP.e_pow, MP.e_fdiv, MP.e_mod, MP.e_neg, MP.e_lt, MP.e_le, MP.e_gt, MP.e_ge, MP.e_eq_ii, MP.e_ne_ii, MP.e_eq_ss, MP.e_ne_ss, MP.e_eq_bb, MP.e_ne_bb, MP.e_isN, MP.e_notN, MP.e_ix_s, MP.e_ix_t, MP.e_ix_f, MP.e_ix_r, MP.e_ixT, MP.e_set, MP.e_len_s, MP.e_len_t, MP.e_len_f, MP.e_len_r, MP.e_lenT, MP.e_int_i, MP.e_int_b, MP.e_abs, MP.e_max, MP.e_min, MP.e_tupI, MP.e_lstI, MP.e_allI, MP.e_anyI, MP.e_onI_t, MP.e_onI_f, MP.e_onI_r, MP.e_onL_r, MP.e_isi_n, MP.e_isi_b, MP.e_isi_i, MP.e_isi_s, MP.e_isi_t, MP.e_isi_f, MP.e_isiT_n, MP.e_isiT_b, MP.e_isiT_i, MP.e_isiT_s, MP.e_isiT_t, MP.e_isiT_f, MP.e_app, MP.e_split, MP.e_joinI, MP.e_join_r, MP.e_cut_s, MP.e_cut_t, MP.e_cut_f, MP.e_cut_r, MP.tr_b, MP.tr_i, MP.tr_s, MP.tr_n, MP.tr_t, MP.tr_r, MP.x_n, MP.x_b, MP.x_i, MP.x_s, MP.x_t, MP.x_f, MP.x_r, MP.atI_0, MP.atI_1, MP.atI_2, MP.atI_3, MP.atI_m1, MP.ixN_c0, MP.ixN_c1, MP.ixN_c2, MP.e_in_ss, MP.e_addV_ii, MP.e_addV_ss, MP.e_addV_tt, MP.e_addV_ff, MP.e_mulV_ii, MP.e_mulV_si, MP.e_mulV_ti, MP.e_mulV_fi, MP.e_cutV_s, MP.e_cutV_t, MP.e_cutV_f, MP.e_revV_t, MP.e_revV_f, MP.e_lstV, MP.e_splitV, MP.e_onL_f, MP.tr_f, MP.ib_NoneType_bool, MP.ib_NoneType_int, MP.ib_NoneType_str, MP.ib_NoneType_tuple, MP.ib_NoneType_list, MP.ib_NoneType_dict, MP.ib_NoneType_set, MP.ib_bool_bool, MP.ib_bool_int, MP.ib_bool_str, MP.ib_bool_tuple, MP.ib_bool_list, MP.ib_bool_dict, MP.ib_bool_set, MP.ib_int_bool, MP.ib_int_int, MP.ib_int_str, MP.ib_int_tuple, MP.ib_int_list, MP.ib_int_dict, MP.ib_int_set, MP.ib_str_bool, MP.ib_str_int, MP.ib_str_str, MP.ib_str_tuple, MP.ib_str_list, MP.ib_str_dict, MP.ib_str_set, MP.ib_tuple_bool, MP.ib_tuple_int, MP.ib_tuple_str, MP.ib_tuple_tuple, MP.ib_tuple_list, MP.ib_tuple_dict, MP.ib_tuple_set, MP.ib_list_bool, MP.ib_list_int, MP.ib_list_str, MP.ib_list_tuple, MP.ib_list_list, MP.ib_list_dict, MP.ib_list_set, MP.ib_dict_bool, MP.ib_dict_int, MP.ib_dict_str, MP.ib_dict_tuple, MP.ib_dict_list, MP.ib_dict_dict, MP.ib_dict_set, MP.ib_set_bool, MP.ib_set_int, MP.ib_set_str, MP.ib_set_tuple, MP.ib_set_list, MP.ib_set_dict, MP.ib_set_set, Bool.not_true, Bool.not_false, List.any_cons, List.any_nil, Bool.or_false, Bool.or_true, Bool.true_or, Bool.false_or, Bool.and_true, Bool.true_and, Bool.and_false, Bool.false_and, if_true, if_false, ite_true, ite_false, and_true, true_and, Bool.false_eq_true, List.getElem?_cons_zero, List.getElem?_cons_succ, List.set_cons_zero, List.set_cons_succ, List.length_cons, List.length_nil, List.cons_append, List.nil_append, e, List.getElem?_set_self l, List.length_set, List.set_set]
    have e3 : (ns.map PV.int)[pos.toNat]? = some (.int ns[pos.toNat]) := by rw [List.getElem?_map, List.getElem?_eq_getElem (by omega)]; rfl
    rw [atI_pos a2, e3]
    simp only [MP.pSeq, MP.pIfS, MP.pRet, MP.pRetN, MP.pNext, MP.pAsg, MP.pDrop, MP.pBrk, MP.pCt, MP.pVar, MP.pC, MP.pOp, MP.pUn, MP.pNil, MP.pCons, MP.pCB, MP.pCall, MP.pTup, MP.pTmp, MP.pNew, MP.pCT, MP.pIf, MP.pB, MP.pT, MP.pAnd, MP.pOr, MP.pNot, MP.pAndV, MP.pOrV, MP.pNotV, MP.pChain, MP.pG, MP.pGs, MP.pIxT, MP.pSlice, MP.pPart, MP.pNoPart, MP.pMtT, MP.pJoinT, MP.pAsgS, MP.pAug, MP.body, MP.gd, MP.pSliceV, MP.pFz, MP.pPar, MP.pPar3, MP.e_add_ii, MP.e_add_ss, MP.e_add_tt, MP.e_add_rr, MP.e_sub, MP.e_mul_ii, MP.e_mul_si, MP.e_mul_ri, MP.e_iadd_ii, MP.e_iadd_ss, MP.e_pow, MP.e_fdiv, MP.e_mod, MP.e_neg, MP.e_lt, MP.e_le, MP.e_gt, MP.e_ge, MP.e_eq_ii, MP.e_ne_ii, MP.e_eq_ss, MP.e_ne_ss, MP.e_eq_bb, MP.e_ne_bb, MP.e_isN, MP.e_notN, MP.e_ix_s, MP.e_ix_t, MP.e_ix_f, MP.e_ix_r, MP.e_ixT, MP.e_set, MP.e_len_s, MP.e_len_t, MP.e_len_f, MP.e_len_r, MP.e_lenT, MP.e_int_i, MP.e_int_b, MP.e_abs, MP.e_max, MP.e_min, MP.e_tupI, MP.e_lstI, MP.e_allI, MP.e_anyI, MP.e_onI_t, MP.e_onI_f, MP.e_onI_r, MP.e_onL_r, MP.e_isi_n, MP.e_isi_b, MP.e_isi_i, MP.e_isi_s, MP.e_isi_t, MP.e_isi_f, MP.e_isiT_n, MP.e_isiT_b, MP.e_isiT_i, MP.e_isiT_s, MP.e_isiT_t, MP.e_isiT_f, MP.e_app, MP.e_split, MP.e_joinI, MP.e_join_r, MP.e_cut_s, MP.e_cut_t, MP.e_cut_f, MP.e_cut_r, MP.tr_b, MP.tr_i, MP.tr_s, MP.tr_n, MP.tr_t, MP.tr_r, MP.x_n, MP.x_b, MP.x_i, MP.x_s, MP.x_t, MP.x_f, MP.x_r, MP.atI_0, MP.atI_1, MP.atI_2, MP.atI_3, MP.atI_m1, MP.ixN_c0, MP.ixN_c1, MP.ixN_c2, MP.e_in_ss, MP.e_addV_ii, MP.e_addV_ss, MP.e_addV_tt, MP.e_addV_ff, MP.e_mulV_ii, MP.e_mulV_si, MP.e_mulV_ti, MP.e_mulV_fi, MP.e_cutV_s, MP.e_cutV_t, MP.e_cutV_f, MP.e_revV_t, MP.e_revV_f, MP.e_lstV, MP.e_splitV, MP.e_onL_f, MP.tr_f, MP.ib_NoneType_bool, MP.ib_NoneType_int, MP.ib_NoneType_str, MP.ib_NoneType_tuple, MP.ib_NoneType_list, MP.ib_NoneType_dict, MP.ib_NoneType_set, MP.ib_bool_bool, MP.ib_bool_int, MP.ib_bool_str, MP.ib_bool_tuple, MP.ib_bool_list, MP.ib_bool_dict, MP.ib_bool_set, MP.ib_int_bool, MP.ib_int_int, MP.ib_int_str, MP.ib_int_tuple, MP.ib_int_list, MP.ib_int_dict, MP.ib_int_set, MP.ib_str_bool, MP.ib_str_int, MP.ib_str_str, MP.ib_str_tuple, MP.ib_str_list, MP.ib_str_dict, MP.ib_str_set, MP.ib_tuple_bool, MP.ib_tuple_int, MP.ib_tuple_str, MP.ib_tuple_tuple, MP.ib_tuple_list, MP.ib_tuple_dict, MP.ib_tuple_set, MP.ib_list_bool, MP.ib_list_int, MP.ib_list_str, MP.ib_list_tuple, MP.ib_list_list, MP.ib_list_dict, MP.ib_list_set, MP.ib_dict_bool, MP.ib_dict_int, MP.ib_dict_str, MP.ib_dict_tuple, MP.ib_dict_list, MP.ib_dict_dict, MP.ib_dict_set, MP.ib_set_bool, MP.ib_set_int, MP.ib_set_str, MP.ib_set_tuple, MP.ib_set_list, MP.ib_set_dict, MP.ib_set_set, Bool.not_true, Bool.not_false, List.any_cons, List.any_nil, Bool.or_false, Bool.or_true, Bool.true_or, Bool.false_or, Bool.and_true, Bool.true_and, Bool.and_false, Bool.false_and, if_true, if_false, ite_true, ite_false, and_true, true_and, Bool.false_eq_true, List.getElem?_cons_zero, List.getElem?_cons_succ, List.set_cons_zero, List.set_cons_succ, List.length_cons, List.length_nil, List.cons_append, List.nil_append, e, List.getElem?_set_self l, List.length_set, List.set_set]
    generalize ns[pos.toNat] = ce
    have ab : 0 ≤ (if ce < 0 then -ce else ce) := by split <;> omega
    generalize (if ce < 0 then -ce else ce) = ac at ab
    refine ⟨p10 (by decide) (by decide), ?_⟩
    have e18 : (10 : Int) ^ Int.toNat 18 = 1000000000000000000 := by decide
    rw [e18]
    by_cases big : (1000000000000000000 : Int) ≤ ac
    · rw [if_pos (decide_eq_true big)]
      exact ⟨p10 (by decide) (by decide), draw_2 m0 m1 k l (.put _) (List.getElem?_set_self l) a1 (by omega) (by omega) (by omega) a5 (by omega) a7 (by omega)⟩
    · rw [if_neg (by simpa using big)]
      refine ⟨mulOk_l (by decide), ?_⟩
      simp only [MP.pSeq, MP.pIfS, MP.pRet, MP.pRetN, MP.pNext, MP.pAsg, MP.pDrop, MP.pBrk, MP.pCt, MP.pVar, MP.pC, MP.pOp, MP.pUn, MP.pNil, MP.pCons, MP.pCB, MP.pCall, MP.pTup, MP.pTmp, MP.pNew, MP.pCT, MP.pIf, MP.pB, MP.pT, MP.pAnd, MP.pOr, MP.pNot, MP.pAndV, MP.pOrV, MP.pNotV, MP.pChain, MP.pG, MP.pGs, MP.pIxT, MP.pSlice, MP.pPart, MP.pNoPart, MP.pMtT, MP.pJoinT, MP.pAsgS, MP.pAug, MP.body, MP.gd, MP.pSliceV, MP.pFz, MP.pPar, MP.pPar3, MP.e_add_ii, MP.e_add_ss, MP.e_add_tt, MP.e_add_rr, MP.e_sub, MP.e_mul_ii, MP.e_mul_si, MP.e_mul_ri, MP.e_iadd_ii, MP.e_iadd_ss, MP.e_pow, MP.e_fdiv, MP.e_mod, MP.e_neg, MP.e_lt, MP.e_le, MP.e_gt, MP.e_ge, MP.e_eq_ii, MP.e_ne_ii, MP.e_eq_ss, MP.e_ne_ss, MP.e_eq_bb, MP.e_ne_bb, MP.e_isN, MP.e_notN, MP.e_ix_s, MP.e_ix_t, MP.e_ix_f, MP.e_ix_r, MP.e_ixT, MP.e_set, MP.e_len_s, MP.e_len_t, MP.e_len_f, MP.e_len_r, MP.e_lenT, MP.e_int_i, MP.e_int_b, MP.e_abs, MP.e_max, MP.e_min, MP.e_tupI, MP.e_lstI, MP.e_allI, MP.e_anyI, MP.e_onI_t, MP.e_onI_f, MP.e_onI_r, MP.e_onL_r, MP.e_isi_n, MP.e_isi_b, MP.e_isi_i, MP.e_isi_s, MP.e_isi_t, MP.e_isi_f, MP.e_isiT_n, MP.e_isiT_b, MP.e_isiT_i, MP.e_isiT_s, MP.e_isiT_t, MP.e_isiT_f, MP.e_app, MP.e_split, MP.e_joinI, MP.e_join_r, MP.e_cut_s, MP.e_cut_t, MP.e_cut_f, MP.e_cut_r, MP.tr_b, MP.tr_i, MP.tr_s, MP.tr_n, MP.tr_t, MP.tr_r, MP.x_n, MP.x_b, MP.x_i, MP.x_s, MP.x_t, MP.x_f, MP.x_r, MP.atI_0, MP.atI_1, MP.atI_2, MP.atI_3, MP.atI_m1, MP.ixN_c0, MP.ixN_c1, MP.ixN_c2, MP.e_in_ss, MP.e_addV_ii, MP.e_addV_ss, MP.e_addV_tt, MP.e_addV_ff, MP.e_mulV_ii, MP.e_mulV_si, MP.e_mulV_ti, MP.e_mulV_fi, MP.e_cutV_s, MP.e_cutV_t, MP.e_cutV_f, MP.e_revV_t, MP.e_revV_f, MP.e_lstV, MP.e_splitV, MP.e_onL_f, MP.tr_f, MP.ib_NoneType_bool, MP.ib_NoneType_int, MP.ib_NoneType_str, MP.ib_NoneType_tuple, MP.ib_NoneType_list, MP.ib_NoneType_dict, MP.ib_NoneType_set, MP.ib_bool_bool, MP.ib_bool_int, MP.ib_bool_str, MP.ib_bool_tuple, MP.ib_bool_list, MP.ib_bool_dict, MP.ib_bool_set, MP.ib_int_bool, MP.ib_int_int, MP.ib_int_str, MP.ib_int_tuple, MP.ib_int_list, MP.ib_int_dict, MP.ib_int_set, MP.ib_str_bool, MP.ib_str_int, MP.ib_str_str, MP.ib_str_tuple, MP.ib_str_list, MP.ib_str_dict, MP.ib_str_set, MP.ib_tuple_bool, MP.ib_tuple_int, MP.ib_tuple_str, MP.ib_tuple_tuple, MP.ib_tuple_list, MP.ib_tuple_dict, MP.ib_tuple_set, MP.ib_list_bool, MP.ib_list_int, MP.ib_list_str, MP.ib_list_tuple, MP.ib_list_list, MP.ib_list_dict, MP.ib_list_set, MP.ib_dict_bool, MP.ib_dict_int, MP.ib_dict_str, MP.ib_dict_tuple, MP.ib_dict_list, MP.ib_dict_dict, MP.ib_dict_set, MP.ib_set_bool, MP.ib_set_int, MP.ib_set_str, MP.ib_set_tuple, MP.ib_set_list, MP.ib_set_dict, MP.ib_set_set, Bool.not_true, Bool.not_false, List.any_cons, List.any_nil, Bool.or_false, Bool.or_true, Bool.true_or, Bool.false_or, Bool.and_true, Bool.true_and, Bool.and_false, Bool.false_and, if_true, if_false, ite_true, ite_false, and_true, true_and, Bool.false_eq_true, List.getElem?_cons_zero, List.getElem?_cons_succ, List.set_cons_zero, List.set_cons_succ, List.length_cons, List.length_nil, List.cons_append, List.nil_append, ixN_c3]
      exact draw_2 m0 m1 k l (.put _) (List.getElem?_set_self l) a1 (by omega) (by omega) (by omega) (by omega) (by omega) a7 (by omega)
  · have fin : u_law_draw_1 (body Q Ex) [some (.ref p), some (.int m), none, none, none] h := draw_2 m0 m1 k l (.refl l) e a1 a2 a3 a4 a5 a6 a7 (by omega)
    by_cases c1 : rest = 0
    · subst c1
      rw [if_pos (by decide), if_neg (by simp; omega)]
      exact fin
    · rw [if_neg (by simpa using c1)]
      exact fin
end L_k25
set_option maxHeartbeats 4000000
/-! P2_k25: serials, newer, further, fewest steps. -/
namespace L_k25
open PySem MP TL
abbrev Out := Except (Str × PV) PV
def fin (o : Out) (h : PHeap) (Q : PQ) (E : PXQ) : Prop := match o with
  | .ok v => Q v h
  | .error (c, v) => E c v h
theorem call1_run {sp : PSp} {e : PTE} {v : PV} {τ : PSt} {h : PHeap} {Q : PQ} {E : PXQ} (x : Pv e τ v) (k : sp [v] h Q E) : pCall (gd 1 sp) (pCons e pNil) τ h Q E := x h _ E ⟨rfl, k⟩
theorem sq_drop1 {sp : PSp} {e : PTE} {v : PV} {τ : PSt} {h : PHeap} {s : PTS} {D : PD} (x : Pv e τ v) (k : sp [v] h (fun _ h3 => s D τ h3) (fun c x h' => D.ex c x τ h')) : pSeq (pDrop (pCall (gd 1 sp) (pCons e pNil))) s D τ h := x h _ _ ⟨rfl, k⟩
def sp_anew : Nat → PSp
  | 0 => spNo
  | _ + 1 => fun vs h Q _ => ∃ i : Int, vs = [.int i] ∧ Q (.int i) h
theorem pure_anew (f : Nat) (vs : List PV) (h : PHeap) (Q : PQ) (Ex : PXQ) (_ : vs.length = 1) (hh : sp_anew (f + 1) vs h Q Ex) : t_anew (sp_anew f) (body Q Ex) (pstart 2 vs) h := by
  obtain ⟨i, rfl, k⟩ := hh
  show t_anew (sp_anew f) (body Q Ex) [some (.int i), none] h
  unfold t_anew
  simp only [MP.pSeq, MP.pIfS, MP.pRet, MP.pRetN, MP.pNext, MP.pAsg, MP.pDrop, MP.pBrk, MP.pCt, MP.pVar, MP.pC, MP.pOp, MP.pUn, MP.pNil, MP.pCons, MP.pCB, MP.pCall, MP.pTup, MP.pTmp, MP.pNew, MP.pCT, MP.pIf, MP.pB, MP.pT, MP.pAnd, MP.pOr, MP.pNot, MP.pAndV, MP.pOrV, MP.pNotV, MP.pChain, MP.pG, MP.pGs, MP.pIxT, MP.pSlice, MP.pPart, MP.pNoPart, MP.pMtT, MP.pJoinT, MP.pAsgS, MP.pAug, MP.body, MP.gd, MP.pSliceV, MP.pFz, MP.pPar, MP.pPar3, MP.e_add_ii, MP.e_add_ss, MP.e_add_tt, MP.e_add_rr, MP.e_sub, MP.e_mul_ii, MP.e_mul_si, MP.e_mul_ri, MP.e_iadd_ii, MP.e_iadd_ss, MP.e_pow, MP.e_fdiv, MP.e_mod, MP.e_neg, MP.e_lt, MP.e_le, MP.e_gt, MP.e_ge, MP.e_eq_ii, MP.e_ne_ii, MP.e_eq_ss, MP.e_ne_ss, MP.e_eq_bb, MP.e_ne_bb, MP.e_isN, MP.e_notN, MP.e_ix_s, MP.e_ix_t, MP.e_ix_f, MP.e_ix_r, MP.e_ixT, MP.e_set, MP.e_len_s, MP.e_len_t, MP.e_len_f, MP.e_len_r, MP.e_lenT, MP.e_int_i, MP.e_int_b, MP.e_abs, MP.e_max, MP.e_min, MP.e_tupI, MP.e_lstI, MP.e_allI, MP.e_anyI, MP.e_onI_t, MP.e_onI_f, MP.e_onI_r, MP.e_onL_r, MP.e_isi_n, MP.e_isi_b, MP.e_isi_i, MP.e_isi_s, MP.e_isi_t, MP.e_isi_f, MP.e_isiT_n, MP.e_isiT_b, MP.e_isiT_i, MP.e_isiT_s, MP.e_isiT_t, MP.e_isiT_f, MP.e_app, MP.e_split, MP.e_joinI, MP.e_join_r, MP.e_cut_s, MP.e_cut_t, MP.e_cut_f, MP.e_cut_r, MP.tr_b, MP.tr_i, MP.tr_s, MP.tr_n, MP.tr_t, MP.tr_r, MP.x_n, MP.x_b, MP.x_i, MP.x_s, MP.x_t, MP.x_f, MP.x_r, MP.atI_0, MP.atI_1, MP.atI_2, MP.atI_3, MP.atI_m1, MP.ixN_c0, MP.ixN_c1, MP.ixN_c2, MP.e_in_ss, MP.e_addV_ii, MP.e_addV_ss, MP.e_addV_tt, MP.e_addV_ff, MP.e_mulV_ii, MP.e_mulV_si, MP.e_mulV_ti, MP.e_mulV_fi, MP.e_cutV_s, MP.e_cutV_t, MP.e_cutV_f, MP.e_revV_t, MP.e_revV_f, MP.e_lstV, MP.e_splitV, MP.e_onL_f, MP.tr_f, MP.ib_NoneType_bool, MP.ib_NoneType_int, MP.ib_NoneType_str, MP.ib_NoneType_tuple, MP.ib_NoneType_list, MP.ib_NoneType_dict, MP.ib_NoneType_set, MP.ib_bool_bool, MP.ib_bool_int, MP.ib_bool_str, MP.ib_bool_tuple, MP.ib_bool_list, MP.ib_bool_dict, MP.ib_bool_set, MP.ib_int_bool, MP.ib_int_int, MP.ib_int_str, MP.ib_int_tuple, MP.ib_int_list, MP.ib_int_dict, MP.ib_int_set, MP.ib_str_bool, MP.ib_str_int, MP.ib_str_str, MP.ib_str_tuple, MP.ib_str_list, MP.ib_str_dict, MP.ib_str_set, MP.ib_tuple_bool, MP.ib_tuple_int, MP.ib_tuple_str, MP.ib_tuple_tuple, MP.ib_tuple_list, MP.ib_tuple_dict, MP.ib_tuple_set, MP.ib_list_bool, MP.ib_list_int, MP.ib_list_str, MP.ib_list_tuple, MP.ib_list_list, MP.ib_list_dict, MP.ib_list_set, MP.ib_dict_bool, MP.ib_dict_int, MP.ib_dict_str, MP.ib_dict_tuple, MP.ib_dict_list, MP.ib_dict_dict, MP.ib_dict_set, MP.ib_set_bool, MP.ib_set_int, MP.ib_set_str, MP.ib_set_tuple, MP.ib_set_list, MP.ib_set_dict, MP.ib_set_set, Bool.not_true, Bool.not_false, List.any_cons, List.any_nil, Bool.or_false, Bool.or_true, Bool.true_or, Bool.false_or, Bool.and_true, Bool.true_and, Bool.and_false, Bool.false_and, if_true, if_false, ite_true, ite_false, and_true, true_and, Bool.false_eq_true, List.getElem?_cons_zero, List.getElem?_cons_succ, List.set_cons_zero, List.set_cons_succ, List.length_cons, List.length_nil, List.cons_append, List.nil_append]
  exact k
def isIntV : PV → Bool
  | .int _ => true
  | _ => false
def isSerV : PV → Bool
  | .int i => ser i
  | _ => false
def sp_is_integer : PSp := fun vs h Q _ => ∃ v, vs = [v] ∧ (tyOf h v).isSome = true ∧ Q (.bl (isIntV v)) h
theorem pure_is_integer (vs : List PV) (h : PHeap) (Q : PQ) (Ex : PXQ) (_ : vs.length = 1) (hh : sp_is_integer vs h Q Ex) : t_is_integer (body Q Ex) (pstart 1 vs) h := by
  obtain ⟨v, rfl, ht, k⟩ := hh
  have hx := ty_notExc ht
  show t_is_integer (body Q Ex) [some v] h
  unfold t_is_integer
  cases v with
  | ref n =>
    obtain ⟨t, et, ht⟩ := ty_ref ht
    simp only [MP.pSeq, MP.pIfS, MP.pRet, MP.pRetN, MP.pNext, MP.pAsg, MP.pDrop, MP.pBrk, MP.pCt, MP.pVar, MP.pC, MP.pOp, MP.pUn, MP.pNil, MP.pCons, MP.pCB, MP.pCall, MP.pTup, MP.pTmp, MP.pNew, MP.pCT, MP.pIf, MP.pB, MP.pT, MP.pAnd, MP.pOr, MP.pNot, MP.pAndV, MP.pOrV, MP.pNotV, MP.pChain, MP.pG, MP.pGs, MP.pIxT, MP.pSlice, MP.pPart, MP.pNoPart, MP.pMtT, MP.pJoinT, MP.pAsgS, MP.pAug, MP.body, MP.gd, MP.pSliceV, MP.pFz, MP.pPar, MP.pPar3, Bool.not_true, Bool.not_false, List.any_cons, List.any_nil, Bool.or_false, Bool.or_true, Bool.true_or, Bool.false_or, Bool.and_true, Bool.true_and, Bool.and_false, Bool.false_and, if_true, if_false, ite_true, ite_false, and_true, true_and, Bool.false_eq_true, List.getElem?_cons_zero, List.getElem?_cons_succ, List.set_cons_zero, List.set_cons_succ, List.length_cons, List.length_nil, List.cons_append, List.nil_append, e_isi et]
    rcases ht with rfl | rfl | rfl <;> simp only [MP.pSeq, MP.pIfS, MP.pRet, MP.pRetN, MP.pNext, MP.pAsg, MP.pDrop, MP.pBrk, MP.pCt, MP.pVar, MP.pC, MP.pOp, MP.pUn, MP.pNil, MP.pCons, MP.pCB, MP.pCall, MP.pTup, MP.pTmp, MP.pNew, MP.pCT, MP.pIf, MP.pB, MP.pT, MP.pAnd, MP.pOr, MP.pNot, MP.pAndV, MP.pOrV, MP.pNotV, MP.pChain, MP.pG, MP.pGs, MP.pIxT, MP.pSlice, MP.pPart, MP.pNoPart, MP.pMtT, MP.pJoinT, MP.pAsgS, MP.pAug, MP.body, MP.gd, MP.pSliceV, MP.pFz, MP.pPar, MP.pPar3, MP.e_add_ii, MP.e_add_ss, MP.e_add_tt, MP.e_add_rr, MP.e_sub, MP.e_mul_ii, MP.e_mul_si, MP.e_mul_ri, MP.e_iadd_ii, MP.e_iadd_ss, MP.e_pow, MP.e_fdiv, MP.e_mod, MP.e_neg, MP.e_lt, MP.e_le, MP.e_gt, MP.e_ge, MP.e_eq_ii, MP.e_ne_ii, MP.e_eq_ss, MP.e_ne_ss, MP.e_eq_bb, MP.e_ne_bb, MP.e_isN, MP.e_notN, MP.e_ix_s, MP.e_ix_t, MP.e_ix_f, MP.e_ix_r, MP.e_ixT, MP.e_set, MP.e_len_s, MP.e_len_t, MP.e_len_f, MP.e_len_r, MP.e_lenT, MP.e_int_i, MP.e_int_b, MP.e_abs, MP.e_max, MP.e_min, MP.e_tupI, MP.e_lstI, MP.e_allI, MP.e_anyI, MP.e_onI_t, MP.e_onI_f, MP.e_onI_r, MP.e_onL_r, MP.e_isi_n, MP.e_isi_b, MP.e_isi_i, MP.e_isi_s, MP.e_isi_t, MP.e_isi_f, MP.e_isiT_n, MP.e_isiT_b, MP.e_isiT_i, MP.e_isiT_s, MP.e_isiT_t, MP.e_isiT_f, MP.e_app, MP.e_split, MP.e_joinI, MP.e_join_r, MP.e_cut_s, MP.e_cut_t, MP.e_cut_f, MP.e_cut_r, MP.tr_b, MP.tr_i, MP.tr_s, MP.tr_n, MP.tr_t, MP.tr_r, MP.x_n, MP.x_b, MP.x_i, MP.x_s, MP.x_t, MP.x_f, MP.x_r, MP.atI_0, MP.atI_1, MP.atI_2, MP.atI_3, MP.atI_m1, MP.ixN_c0, MP.ixN_c1, MP.ixN_c2, MP.e_in_ss, MP.e_addV_ii, MP.e_addV_ss, MP.e_addV_tt, MP.e_addV_ff, MP.e_mulV_ii, MP.e_mulV_si, MP.e_mulV_ti, MP.e_mulV_fi, MP.e_cutV_s, MP.e_cutV_t, MP.e_cutV_f, MP.e_revV_t, MP.e_revV_f, MP.e_lstV, MP.e_splitV, MP.e_onL_f, MP.tr_f, MP.ib_NoneType_bool, MP.ib_NoneType_int, MP.ib_NoneType_str, MP.ib_NoneType_tuple, MP.ib_NoneType_list, MP.ib_NoneType_dict, MP.ib_NoneType_set, MP.ib_bool_bool, MP.ib_bool_int, MP.ib_bool_str, MP.ib_bool_tuple, MP.ib_bool_list, MP.ib_bool_dict, MP.ib_bool_set, MP.ib_int_bool, MP.ib_int_int, MP.ib_int_str, MP.ib_int_tuple, MP.ib_int_list, MP.ib_int_dict, MP.ib_int_set, MP.ib_str_bool, MP.ib_str_int, MP.ib_str_str, MP.ib_str_tuple, MP.ib_str_list, MP.ib_str_dict, MP.ib_str_set, MP.ib_tuple_bool, MP.ib_tuple_int, MP.ib_tuple_str, MP.ib_tuple_tuple, MP.ib_tuple_list, MP.ib_tuple_dict, MP.ib_tuple_set, MP.ib_list_bool, MP.ib_list_int, MP.ib_list_str, MP.ib_list_tuple, MP.ib_list_list, MP.ib_list_dict, MP.ib_list_set, MP.ib_dict_bool, MP.ib_dict_int, MP.ib_dict_str, MP.ib_dict_tuple, MP.ib_dict_list, MP.ib_dict_dict, MP.ib_dict_set, MP.ib_set_bool, MP.ib_set_int, MP.ib_set_str, MP.ib_set_tuple, MP.ib_set_list, MP.ib_set_dict, MP.ib_set_set, Bool.not_true, Bool.not_false, List.any_cons, List.any_nil, Bool.or_false, Bool.or_true, Bool.true_or, Bool.false_or, Bool.and_true, Bool.true_and, Bool.and_false, Bool.false_and, if_true, if_false, ite_true, ite_false, and_true, true_and, Bool.false_eq_true, List.getElem?_cons_zero, List.getElem?_cons_succ, List.set_cons_zero, List.set_cons_succ, List.length_cons, List.length_nil, List.cons_append, List.nil_append] <;> exact k
  | exc c x => cases hx
  | _ => simp only [MP.pSeq, MP.pIfS, MP.pRet, MP.pRetN, MP.pNext, MP.pAsg, MP.pDrop, MP.pBrk, MP.pCt, MP.pVar, MP.pC, MP.pOp, MP.pUn, MP.pNil, MP.pCons, MP.pCB, MP.pCall, MP.pTup, MP.pTmp, MP.pNew, MP.pCT, MP.pIf, MP.pB, MP.pT, MP.pAnd, MP.pOr, MP.pNot, MP.pAndV, MP.pOrV, MP.pNotV, MP.pChain, MP.pG, MP.pGs, MP.pIxT, MP.pSlice, MP.pPart, MP.pNoPart, MP.pMtT, MP.pJoinT, MP.pAsgS, MP.pAug, MP.body, MP.gd, MP.pSliceV, MP.pFz, MP.pPar, MP.pPar3, MP.e_add_ii, MP.e_add_ss, MP.e_add_tt, MP.e_add_rr, MP.e_sub, MP.e_mul_ii, MP.e_mul_si, MP.e_mul_ri, MP.e_iadd_ii, MP.e_iadd_ss, MP.e_pow, MP.e_fdiv, MP.e_mod, MP.e_neg, MP.e_lt, MP.e_le, MP.e_gt, MP.e_ge, MP.e_eq_ii, MP.e_ne_ii, MP.e_eq_ss, MP.e_ne_ss, MP.e_eq_bb, MP.e_ne_bb, MP.e_isN, MP.e_notN, MP.e_ix_s, MP.e_ix_t, MP.e_ix_f, MP.e_ix_r, MP.e_ixT, MP.e_set, MP.e_len_s, MP.e_len_t, MP.e_len_f, MP.e_len_r, MP.e_lenT, MP.e_int_i, MP.e_int_b, MP.e_abs, MP.e_max, MP.e_min, MP.e_tupI, MP.e_lstI, MP.e_allI, MP.e_anyI, MP.e_onI_t, MP.e_onI_f, MP.e_onI_r, MP.e_onL_r, MP.e_isi_n, MP.e_isi_b, MP.e_isi_i, MP.e_isi_s, MP.e_isi_t, MP.e_isi_f, MP.e_isiT_n, MP.e_isiT_b, MP.e_isiT_i, MP.e_isiT_s, MP.e_isiT_t, MP.e_isiT_f, MP.e_app, MP.e_split, MP.e_joinI, MP.e_join_r, MP.e_cut_s, MP.e_cut_t, MP.e_cut_f, MP.e_cut_r, MP.tr_b, MP.tr_i, MP.tr_s, MP.tr_n, MP.tr_t, MP.tr_r, MP.x_n, MP.x_b, MP.x_i, MP.x_s, MP.x_t, MP.x_f, MP.x_r, MP.atI_0, MP.atI_1, MP.atI_2, MP.atI_3, MP.atI_m1, MP.ixN_c0, MP.ixN_c1, MP.ixN_c2, MP.e_in_ss, MP.e_addV_ii, MP.e_addV_ss, MP.e_addV_tt, MP.e_addV_ff, MP.e_mulV_ii, MP.e_mulV_si, MP.e_mulV_ti, MP.e_mulV_fi, MP.e_cutV_s, MP.e_cutV_t, MP.e_cutV_f, MP.e_revV_t, MP.e_revV_f, MP.e_lstV, MP.e_splitV, MP.e_onL_f, MP.tr_f, MP.ib_NoneType_bool, MP.ib_NoneType_int, MP.ib_NoneType_str, MP.ib_NoneType_tuple, MP.ib_NoneType_list, MP.ib_NoneType_dict, MP.ib_NoneType_set, MP.ib_bool_bool, MP.ib_bool_int, MP.ib_bool_str, MP.ib_bool_tuple, MP.ib_bool_list, MP.ib_bool_dict, MP.ib_bool_set, MP.ib_int_bool, MP.ib_int_int, MP.ib_int_str, MP.ib_int_tuple, MP.ib_int_list, MP.ib_int_dict, MP.ib_int_set, MP.ib_str_bool, MP.ib_str_int, MP.ib_str_str, MP.ib_str_tuple, MP.ib_str_list, MP.ib_str_dict, MP.ib_str_set, MP.ib_tuple_bool, MP.ib_tuple_int, MP.ib_tuple_str, MP.ib_tuple_tuple, MP.ib_tuple_list, MP.ib_tuple_dict, MP.ib_tuple_set, MP.ib_list_bool, MP.ib_list_int, MP.ib_list_str, MP.ib_list_tuple, MP.ib_list_list, MP.ib_list_dict, MP.ib_list_set, MP.ib_dict_bool, MP.ib_dict_int, MP.ib_dict_str, MP.ib_dict_tuple, MP.ib_dict_list, MP.ib_dict_dict, MP.ib_dict_set, MP.ib_set_bool, MP.ib_set_int, MP.ib_set_str, MP.ib_set_tuple, MP.ib_set_list, MP.ib_set_dict, MP.ib_set_set, Bool.not_true, Bool.not_false, List.any_cons, List.any_nil, Bool.or_false, Bool.or_true, Bool.true_or, Bool.false_or, Bool.and_true, Bool.true_and, Bool.and_false, Bool.false_and, if_true, if_false, ite_true, ite_false, and_true, true_and, Bool.false_eq_true, List.getElem?_cons_zero, List.getElem?_cons_succ, List.set_cons_zero, List.set_cons_succ, List.length_cons, List.length_nil, List.cons_append, List.nil_append]; exact k
def sp_is_serial : PSp := fun vs h Q _ => ∃ v, vs = [v] ∧ (tyOf h v).isSome = true ∧ Q (.bl (isSerV v)) h
theorem pure_is_serial (vs : List PV) (h : PHeap) (Q : PQ) (Ex : PXQ) (_ : vs.length = 1) (hh : sp_is_serial vs h Q Ex) : t_is_serial sp_is_integer (body Q Ex) (pstart 1 vs) h := by
  obtain ⟨v, rfl, ht, k⟩ := hh
  have hx := ty_notExc ht
  show t_is_serial sp_is_integer (body Q Ex) [some v] h
  unfold t_is_serial
  refine (call1_run (pv_var rfl hx) ⟨v, rfl, ht, ?_⟩ : pCall (gd 1 sp_is_integer) (pCons (pVar 0) pNil) [some v] h _ _)
  cases v with
  | int i =>
    show pChain MP.rLe MP.rLt (pC (.int 0)) (pVar 0) (pC (.int 4294967296)) [some (.int i)] h Q _
    have k : Q (.bl (decide (0 ≤ i) && decide (i < 4294967296))) h := k
    exact pv_chain pv_c (pv_var rfl rfl) pv_c (fun _ _ => e_le) (fun _ _ => e_lt) h Q _ k
  | exc c x => cases hx
  | _ => exact k
def sp_need_serial : PSp := fun vs h Q E => ∃ i : Int, vs = [.int i] ∧ if ser i = true then Q .non h else E "InvalidSerial" (.int i) h
theorem pure_need_serial (vs : List PV) (h : PHeap) (Q : PQ) (Ex : PXQ) (_ : vs.length = 1) (hh : sp_need_serial vs h Q Ex) : t_need_serial sp_is_serial (sp_anew 17) (body Q Ex) (pstart 1 vs) h := by
  obtain ⟨i, rfl, k⟩ := hh
  show t_need_serial sp_is_serial (sp_anew 17) (body Q Ex) [some (.int i)] h
  unfold t_need_serial
  have T : Tv (pNot (pT (pCall (gd 1 sp_is_serial) (pCons (pVar 0) pNil)))) [some (.int i)] (!ser i) := tv_not (tv_t (pv_call1 (pv_var rfl rfl) fun h Q E q => ⟨_, rfl, rfl, q⟩))
  cases hs : ser i with
  | true =>
    rw [hs] at k T
    exact st_ifF T k
  | false =>
    rw [hs] at k T
    refine st_ifT T (st_raise (v := .int i) (pv_call1 (pv_var rfl rfl) fun h Q E q => ⟨_, rfl, q⟩) k)
/-- a serial is asked for -/
theorem sq_need {a : Nat} {v : Int} {s : PTS} {D : PD} {τ : PSt} {h : PHeap} (e : τ[a]? = some (some (.int v))) (k : if ser v = true then s D τ h else D.ex "InvalidSerial" (.int v) τ h) : pSeq (pDrop (pCall (gd 1 sp_need_serial) (pCons (pVar a) pNil))) s D τ h := by
  refine (pv_var e rfl : Pv (pVar a) τ (.int v)) h (fun x h1 => pNil τ h1 (fun vs h2 => gd 1 sp_need_serial (x :: vs) h2 (fun _ h3 => s D τ h3) (fun c x h' => D.ex c x τ h')) (fun c x h' => D.ex c x τ h')) (fun c x h' => D.ex c x τ h') ⟨rfl, v, rfl, ?_⟩
  exact k
def newO (a b : Int) : Out := if ser a = true then if ser b = true then .ok (.bl (newB a b)) else .error ("InvalidSerial", .int b) else .error ("InvalidSerial", .int a)
def sp_newer : PSp := fun vs h Q E => ∃ a b : Int, vs = [.int a, .int b] ∧ fin (newO a b) h Q E
theorem way_pv {e f : PTE} {τ : PSt} {a b : Int} (x : Pv e τ (.int a)) (y : Pv f τ (.int b)) : Pv (pOp MP.rMod (pOp MP.rSub e f) (pC (.int 4294967296))) τ (.int (way a b)) := pv_op' (pv_op x y fun _ _ => e_sub) pv_c fun _ _ q => ⟨by decide, q⟩
theorem pure_newer (vs : List PV) (h : PHeap) (Q : PQ) (Ex : PXQ) (_ : vs.length = 2) (hh : sp_newer vs h Q Ex) : t_newer sp_need_serial (body Q Ex) (pstart 2 vs) h := by
  obtain ⟨a, b, rfl, k⟩ := hh
  show t_newer sp_need_serial (body Q Ex) [some (.int a), some (.int b)] h
  unfold t_newer
  unfold newO at k
  refine sq_need rfl ?_
  cases ha : ser a with
  | false => rw [ha] at k; exact k
  | true =>
    rw [ha] at k
    refine sq_need rfl ?_
    cases hb : ser b with
    | false => rw [hb] at k; exact k
    | true =>
      rw [hb] at k
      exact st_rt (pv_chain pv_c (way_pv (pv_var rfl rfl) (pv_var rfl rfl)) pv_c (fun _ _ => e_le) fun _ _ => e_le) k
def furO (a n : Int) : Out := if ser a = true then if n < 0 then .error ("InvalidNumber", .int n) else .ok (.int ((a + n) % 4294967296)) else .error ("InvalidSerial", .int a)
def sp_further : PSp := fun vs h Q E => ∃ a n : Int, vs = [.int a, .int n] ∧ fin (furO a n) h Q E
theorem pure_further (spx : PSp) (vs : List PV) (h : PHeap) (Q : PQ) (Ex : PXQ) (_ : vs.length = 2) (hh : sp_further vs h Q Ex) : t_further sp_need_serial spx (body Q Ex) (pstart 2 vs) h := by
  obtain ⟨a, n, rfl, k⟩ := hh
  show t_further sp_need_serial spx (body Q Ex) [some (.int a), some (.int n)] h
  unfold t_further
  unfold furO at k
  refine sq_need rfl ?_
  cases ha : ser a with
  | false => rw [ha] at k; exact k
  | true =>
    rw [ha] at k
    have T : Tv (pB (pOp MP.rLt (pVar 1) (pC (.int 0)))) [some (.int a), some (.int n)] (decide (n < 0)) := tv_b (pv_op (pv_var rfl rfl) pv_c fun _ _ => e_lt)
    by_cases c : n < 0
    · rw [decide_eq_true c] at T
      rw [if_pos rfl, if_pos c] at k
      exact sq_ifT T (st_raise (pv_var rfl rfl) k)
    · rw [decide_eq_false c] at T
      rw [if_pos rfl, if_neg c] at k
      exact sq_ifF T (st_rt (pv_op' (pv_op (pv_var rfl rfl) (pv_var rfl rfl) fun _ _ => e_addV_ii) pv_c fun _ _ q => ⟨by decide, q⟩) k)
def sp_need_missed : PSp := fun vs h Q E => ∃ n : Int, vs = [.int n] ∧ if 0 ≤ n ∧ n ≤ 1000 then Q .non h else E "InvalidNumber" (.int n) h
theorem pure_need_missed (vs : List PV) (h : PHeap) (Q : PQ) (Ex : PXQ) (_ : vs.length = 1) (hh : sp_need_missed vs h Q Ex) : t_need_missed (body Q Ex) (pstart 1 vs) h := by
  obtain ⟨n, rfl, k⟩ := hh
  show t_need_missed (body Q Ex) [some (.int n)] h
  unfold t_need_missed
  have T : Tv (pOr (pB (pOp MP.rLt (pVar 0) (pC (.int 0)))) (pB (pOp MP.rGt (pVar 0) (pC (.int 1000))))) [some (.int n)] (decide (n < 0) || decide (1000 < n)) := tv_or (tv_b (pv_op (pv_var rfl rfl) pv_c fun _ _ => e_lt)) fun _ => tv_b (pv_op (pv_var rfl rfl) pv_c fun _ _ => e_gt)
  by_cases c : 0 ≤ n ∧ n ≤ 1000
  · rw [if_pos c] at k
    exact st_ifF (tv_cong T (by simp; omega)) k
  · rw [if_neg c] at k
    exact st_ifT (tv_cong T (by simp; omega)) (st_raise (pv_var rfl rfl) k)
def fewO (a b n : Int) : Out := if ser a = true then if ser b = true then if 0 ≤ n ∧ n ≤ 1000 then .ok (.int (few a b n.toNat)) else .error ("InvalidNumber", .int n) else .error ("InvalidSerial", .int b) else .error ("InvalidSerial", .int a)
def sp_few : PSp := fun vs h Q E => ∃ a b n : Int, vs = [.int a, .int b, .int n] ∧ fin (fewO a b n) h Q E
theorem pure_fewest_steps (vs : List PV) (h : PHeap) (Q : PQ) (Ex : PXQ) (_ : vs.length = 3) (hh : sp_few vs h Q Ex) : t_fewest_steps sp_need_serial sp_need_missed (body Q Ex) (pstart 5 vs) h := by
  obtain ⟨a, b, n, rfl, k⟩ := hh
  show t_fewest_steps sp_need_serial sp_need_missed (body Q Ex) [some (.int a), some (.int b), some (.int n), none, none] h
  unfold t_fewest_steps
  unfold fewO at k
  refine sq_need rfl ?_
  cases ha : ser a with
  | false => rw [ha] at k; exact k
  | true =>
    rw [ha, if_pos rfl] at k
    refine sq_need rfl ?_
    cases hb : ser b with
    | false => rw [hb] at k; exact k
    | true =>
      rw [hb, if_pos rfl] at k
      refine sq_drop1 (pv_var (v := .int n) rfl rfl) ⟨n, rfl, ?_⟩
      by_cases c : 0 ≤ n ∧ n ≤ 1000
      · rw [if_pos c] at k ⊢
        obtain ⟨m, rfl⟩ : ∃ m : Nat, n = m := ⟨n.toNat, by omega⟩
        rw [Int.toNat_natCast] at k
        refine sq_asg (way_pv (pv_var rfl rfl) (pv_var rfl rfl)) (sq_asg (pv_op (pv_var rfl rfl) pv_c fun _ _ => e_add_ii) ?_)
        unfold few at k
        show pSeq _ _ (body Q Ex) [some (.int a), some (.int b), some (.int m), some (.int (way b a)), some (.int ((m : Int) + 1))] h
        generalize way b a = far at k
        by_cases c0 : far = 0
        · rw [if_pos c0] at k
          exact sq_ifT (tv_b (pv_op (w := .bl true) (pv_var rfl rfl) pv_c fun _ _ => by rw [e_eq_ii, decide_eq_true c0])) (st_rt pv_c k)
        · rw [if_neg c0] at k
          refine sq_ifF (tv_b (pv_op (w := .bl false) (pv_var rfl rfl) pv_c fun _ _ => by rw [e_eq_ii, decide_eq_false c0])) ?_
          by_cases c1 : far ≤ 2147483647
          · rw [if_pos c1] at k
            exact sq_ifT (tv_b (pv_op (w := .bl true) (pv_var rfl rfl) pv_c fun _ _ => by rw [e_le, decide_eq_true c1])) (st_rt pv_c k)
          · rw [if_neg c1] at k
            refine sq_ifF (tv_b (pv_op (w := .bl false) (pv_var rfl rfl) pv_c fun _ _ => by rw [e_le, decide_eq_false c1])) ?_
            have M : Pv (pOp MP.rMul (pC (.int 2)) (pC (.int 2147483647))) [some (.int a), some (.int b), some (.int m), some (.int far), some (.int ((m : Int) + 1))] (.int (2 * 2147483647)) := pv_op' pv_c pv_c fun _ _ q => ⟨mulOk_l (by decide), q⟩
            by_cases c2 : far ≤ 2 * 2147483647
            · rw [if_pos c2] at k
              exact sq_ifT (tv_b (pv_op (w := .bl true) (pv_var rfl rfl) M fun _ _ => by rw [e_le, decide_eq_true c2])) (st_rt (pv_op (pv_var rfl rfl) (pv_cb (pva_cons pv_c (pva_cons (pv_op (pv_op (pv_var rfl rfl) M fun _ _ => e_sub) (pv_var rfl rfl) fun _ _ => e_add_ii) pva_nil)) fun _ _ => e_max) fun _ _ => e_add_ii) k)
            · rw [if_neg c2] at k
              exact sq_ifF (tv_b (pv_op (w := .bl false) (pv_var rfl rfl) M fun _ _ => by rw [e_le, decide_eq_false c2])) (st_rt (pv_op (pv_op' pv_c (pv_var rfl rfl) fun _ _ q => ⟨mulOk_l (by decide), q⟩) pv_c fun _ _ => e_add_ii) k)
      · rw [if_neg c] at k ⊢
        exact k
end L_k25
set_option maxHeartbeats 4000000
/-! P3_k25: newest; the law's own ways. -/
namespace L_k25
open PySem MP TL
def best (xs : List Int) (s : Int) : Bool := xs.all fun o => decide (s = o) || newB s o
def newestV (xs : List Int) : PV := match xs.find? (best xs) with
  | some s => .int s
  | none => .non
def newestO (xs : List Int) : Out := match xs.find? (fun s => !ser s) with
  | some s => .error ("InvalidSerial", .int s)
  | none => .ok (newestV xs)
def sp_newest : PSp := fun vs h Q E => ∃ xs : List Int, vs = [.fl (xs.map .int)] ∧ xs.length ≤ 1000 ∧ fin (newestO xs) h Q E
theorem pf_newer {a b : Int} (sa : ser a = true) (sb : ser b = true) : Pf sp_newer [.int a, .int b] (.bl (newB a b)) := fun h Q E q => ⟨a, b, rfl, by unfold newO; rw [sa, sb]; exact q⟩
theorem newest_1 {L : PV} {D : PD} {h : PHeap} {b : PTS} (hb : b = pDrop (pCall (gd 1 sp_need_serial) (pCons (pVar 1) pNil))) : ∀ (r : List Int) (o : Option PV), (match r.find? (fun s => !ser s) with
    | some s => ∀ o, D.ex "InvalidSerial" (.int s) [some L, o, none] h
    | none => ∀ o, D.nx [some L, o, none] h) → forGo (.nm 1) b D (fun _ => True) (r.map .int) [some L, o, none] h
  | [], o, k => ⟨trivial, k o⟩
  | s :: r, o, k => by
    subst hb
    refine ⟨trivial, ?_⟩
    show pDrop (pCall (gd 1 sp_need_serial) (pCons (pVar 1) pNil)) _ [some L, some (.int s), none] h
    refine call1_run (pv_var rfl rfl) ⟨s, rfl, ?_⟩
    rw [List.find?_cons] at k
    cases hs : ser s with
    | true =>
      rw [hs] at k
      exact newest_1 rfl r _ k
    | false =>
      rw [hs] at k
      exact k _
theorem newest_2 {xs : List Int} (hx : ∀ x ∈ xs, ser x = true) (lx : xs.length ≤ 1000) {D : PD} {h : PHeap} {b : PTS} (hb : b = u_newest_1_b_0 sp_need_serial sp_newer) : ∀ (r : List Int) (o : Option PV), (∀ x ∈ r, x ∈ xs) → (match r.find? (best xs) with
    | some s => D.rt (.int s) h
    | none => ∀ o, D.nx [some (.fl (xs.map .int)), o, none] h) → forGo (.nm 1) b D (fun _ => True) (r.map .int) [some (.fl (xs.map .int)), o, none] h
  | [], o, _, k => ⟨trivial, k o⟩
  | s :: r, o, m, k => by
    subst hb
    refine ⟨trivial, ?_⟩
    show u_newest_1_b_0 sp_need_serial sp_newer _ [some (.fl (xs.map .int)), some (.int s), none] h
    unfold u_newest_1_b_0
    have T : Tv (pT (pCT MP.rAllI (pLc (pIter (pVar 0)) (.nm 2) pYes (pOrV (pOp MP.rEqP (pVar 1) (pVar 2)) (pCall (gd 2 sp_newer) (pCons (pVar 1) (pCons (pVar 2) pNil)))) [2]))) [some (.fl (xs.map .int)), some (.int s), none] (best xs s) := by
      refine tv_cong (tv_t (pv_allV (g := fun y => match y with
        | .int o => decide (s = o) || newB s o
        | _ => false) (.inr (pv_var rfl rfl)) (by rw [List.length_map]; omega) fun y hy => ?_)) ?_
      · obtain ⟨o, ho, rfl⟩ := List.mem_map.mp hy
        exact pv_or (pv_op (pv_var rfl rfl) (pv_var rfl rfl) fun _ _ => e_eq_ii) fun _ => pv_call2 (pv_var rfl rfl) (pv_var rfl rfl) (pf_newer (hx s (m s List.mem_cons_self)) (hx o ho))
      · unfold best
        rw [List.all_map]
        rfl
    rw [List.find?_cons] at k
    cases hs : best xs s with
    | true =>
      rw [hs] at k T
      exact st_ifT T (st_rt (pv_var rfl rfl) k)
    | false =>
      rw [hs] at k T
      exact st_ifF T (newest_2 hx lx rfl r _ (fun x hx => m x (List.mem_cons_of_mem _ hx)) k)
theorem pure_newest (vs : List PV) (h : PHeap) (Q : PQ) (Ex : PXQ) (_ : vs.length = 1) (hh : sp_newest vs h Q Ex) : t_newest sp_need_serial sp_newer (body Q Ex) (pstart 3 vs) h := by
  obtain ⟨xs, rfl, lx, k⟩ := hh
  show t_newest sp_need_serial sp_newer (body Q Ex) [some (.fl (xs.map .int)), none, none] h
  rw [u_newest_eq]
  unfold u_newest_0
  unfold newestO at k
  refine ⟨rfl, newest_1 rfl xs none ?_⟩
  cases hf : xs.find? (fun s => !ser s) with
  | some s => rw [hf] at k; exact fun _ => k
  | none =>
    rw [hf] at k
    intro o
    have hx : ∀ x ∈ xs, ser x = true := fun x hx => by
      have := List.find?_eq_none.mp hf x hx
      simpa using this
    show u_newest_1 sp_need_serial sp_newer (body Q Ex) [some (.fl (xs.map .int)), o, none] h
    unfold u_newest_1
    refine ⟨rfl, newest_2 hx lx rfl xs o (fun _ z => z) ?_⟩
    have k : Q (newestV xs) h := k
    unfold newestV at k
    cases hb : xs.find? (best xs) with
    | some s => rw [hb] at k; exact k
    | none => rw [hb] at k; exact fun _ => k
/-! ### the law's own -/
def sp_way : PSp := fun vs h Q _ => ∃ a b : Int, vs = [.int a, .int b] ∧ Q (.int (way a b)) h
theorem pure__law_way (vs : List PV) (h : PHeap) (Q : PQ) (Ex : PXQ) (_ : vs.length = 2) (hh : sp_way vs h Q Ex) : t__law_way (body Q Ex) (pstart 2 vs) h := by
  obtain ⟨a, b, rfl, k⟩ := hh
  show t__law_way (body Q Ex) [some (.int a), some (.int b)] h
  unfold t__law_way
  simp only [MP.pSeq, MP.pIfS, MP.pRet, MP.pRetN, MP.pNext, MP.pAsg, MP.pDrop, MP.pBrk, MP.pCt, MP.pVar, MP.pC, MP.pOp, MP.pUn, MP.pNil, MP.pCons, MP.pCB, MP.pCall, MP.pTup, MP.pTmp, MP.pNew, MP.pCT, MP.pIf, MP.pB, MP.pT, MP.pAnd, MP.pOr, MP.pNot, MP.pAndV, MP.pOrV, MP.pNotV, MP.pChain, MP.pG, MP.pGs, MP.pIxT, MP.pSlice, MP.pPart, MP.pNoPart, MP.pMtT, MP.pJoinT, MP.pAsgS, MP.pAug, MP.body, MP.gd, MP.pSliceV, MP.pFz, MP.pPar, MP.pPar3, MP.e_add_ii, MP.e_add_ss, MP.e_add_tt, MP.e_add_rr, MP.e_sub, MP.e_mul_ii, MP.e_mul_si, MP.e_mul_ri, MP.e_iadd_ii, MP.e_iadd_ss, MP.e_pow, MP.e_fdiv, MP.e_mod, MP.e_neg, MP.e_lt, MP.e_le, MP.e_gt, MP.e_ge, MP.e_eq_ii, MP.e_ne_ii, MP.e_eq_ss, MP.e_ne_ss, MP.e_eq_bb, MP.e_ne_bb, MP.e_isN, MP.e_notN, MP.e_ix_s, MP.e_ix_t, MP.e_ix_f, MP.e_ix_r, MP.e_ixT, MP.e_set, MP.e_len_s, MP.e_len_t, MP.e_len_f, MP.e_len_r, MP.e_lenT, MP.e_int_i, MP.e_int_b, MP.e_abs, MP.e_max, MP.e_min, MP.e_tupI, MP.e_lstI, MP.e_allI, MP.e_anyI, MP.e_onI_t, MP.e_onI_f, MP.e_onI_r, MP.e_onL_r, MP.e_isi_n, MP.e_isi_b, MP.e_isi_i, MP.e_isi_s, MP.e_isi_t, MP.e_isi_f, MP.e_isiT_n, MP.e_isiT_b, MP.e_isiT_i, MP.e_isiT_s, MP.e_isiT_t, MP.e_isiT_f, MP.e_app, MP.e_split, MP.e_joinI, MP.e_join_r, MP.e_cut_s, MP.e_cut_t, MP.e_cut_f, MP.e_cut_r, MP.tr_b, MP.tr_i, MP.tr_s, MP.tr_n, MP.tr_t, MP.tr_r, MP.x_n, MP.x_b, MP.x_i, MP.x_s, MP.x_t, MP.x_f, MP.x_r, MP.atI_0, MP.atI_1, MP.atI_2, MP.atI_3, MP.atI_m1, MP.ixN_c0, MP.ixN_c1, MP.ixN_c2, MP.e_in_ss, MP.e_addV_ii, MP.e_addV_ss, MP.e_addV_tt, MP.e_addV_ff, MP.e_mulV_ii, MP.e_mulV_si, MP.e_mulV_ti, MP.e_mulV_fi, MP.e_cutV_s, MP.e_cutV_t, MP.e_cutV_f, MP.e_revV_t, MP.e_revV_f, MP.e_lstV, MP.e_splitV, MP.e_onL_f, MP.tr_f, MP.ib_NoneType_bool, MP.ib_NoneType_int, MP.ib_NoneType_str, MP.ib_NoneType_tuple, MP.ib_NoneType_list, MP.ib_NoneType_dict, MP.ib_NoneType_set, MP.ib_bool_bool, MP.ib_bool_int, MP.ib_bool_str, MP.ib_bool_tuple, MP.ib_bool_list, MP.ib_bool_dict, MP.ib_bool_set, MP.ib_int_bool, MP.ib_int_int, MP.ib_int_str, MP.ib_int_tuple, MP.ib_int_list, MP.ib_int_dict, MP.ib_int_set, MP.ib_str_bool, MP.ib_str_int, MP.ib_str_str, MP.ib_str_tuple, MP.ib_str_list, MP.ib_str_dict, MP.ib_str_set, MP.ib_tuple_bool, MP.ib_tuple_int, MP.ib_tuple_str, MP.ib_tuple_tuple, MP.ib_tuple_list, MP.ib_tuple_dict, MP.ib_tuple_set, MP.ib_list_bool, MP.ib_list_int, MP.ib_list_str, MP.ib_list_tuple, MP.ib_list_list, MP.ib_list_dict, MP.ib_list_set, MP.ib_dict_bool, MP.ib_dict_int, MP.ib_dict_str, MP.ib_dict_tuple, MP.ib_dict_list, MP.ib_dict_dict, MP.ib_dict_set, MP.ib_set_bool, MP.ib_set_int, MP.ib_set_str, MP.ib_set_tuple, MP.ib_set_list, MP.ib_set_dict, MP.ib_set_set, Bool.not_true, Bool.not_false, List.any_cons, List.any_nil, Bool.or_false, Bool.or_true, Bool.true_or, Bool.false_or, Bool.and_true, Bool.true_and, Bool.and_false, Bool.false_and, if_true, if_false, ite_true, ite_false, and_true, true_and, Bool.false_eq_true, List.getElem?_cons_zero, List.getElem?_cons_succ, List.set_cons_zero, List.set_cons_succ, List.length_cons, List.length_nil, List.cons_append, List.nil_append]
  exact ⟨p2 (by decide) (by decide), by decide, k⟩
def sp_newerL : PSp := fun vs h Q _ => ∃ a b : Int, vs = [.int a, .int b] ∧ Q (.bl (newB a b)) h
theorem pf_way (a b : Int) : Pf sp_way [.int a, .int b] (.int (way a b)) := fun h Q E q => ⟨a, b, rfl, q⟩
theorem pw {τ : PSt} {n m : Int} (c : powOk 2 n) (e : (2 : Int) ^ n.toNat = m) : Pv (pOp MP.rPow (pC (.int 2)) (pC (.int n))) τ (.int m) := pv_cong (pv_pow pv_c pv_c c) (by rw [e])
theorem pw31 {τ : PSt} : Pv (pOp MP.rPow (pC (.int 2)) (pC (.int 31))) τ (.int 2147483648) := pw (p2 (by decide) (by decide)) (by decide)
theorem pw32 {τ : PSt} : Pv (pOp MP.rPow (pC (.int 2)) (pC (.int 32))) τ (.int 4294967296) := pw (p2 (by decide) (by decide)) (by decide)
theorem pure__law_is_newer (vs : List PV) (h : PHeap) (Q : PQ) (Ex : PXQ) (_ : vs.length = 2) (hh : sp_newerL vs h Q Ex) : t__law_is_newer sp_way (body Q Ex) (pstart 2 vs) h := by
  obtain ⟨a, b, rfl, k⟩ := hh
  show t__law_is_newer sp_way (body Q Ex) [some (.int a), some (.int b)] h
  unfold t__law_is_newer
  refine st_rt (pv_chain (b1 := decide (1 ≤ way a b)) (b2 := decide (way a b < 2147483648)) pv_c (pv_call2 (pv_var rfl rfl) (pv_var rfl rfl) (pf_way a b)) pw31 (fun _ _ => e_le) fun _ _ => e_lt) ?_
  unfold newB at k
  rw [show decide (way a b < 2147483648) = decide (way a b ≤ 2147483647) from by rw [decide_eq_decide]; omega]
  exact k
def sp_longest : PSp := fun vs h Q _ => ∃ c w : Int, vs = [.int c, .int w] ∧ 0 ≤ c ∧ 1 ≤ w ∧ w ≤ 1001 ∧ Q (.int (longF c w)) h
theorem pure__law_longest (vs : List PV) (h : PHeap) (Q : PQ) (Ex : PXQ) (_ : vs.length = 2) (hh : sp_longest vs h Q Ex) : t__law_longest (body Q Ex) (pstart 4 vs) h := by
  obtain ⟨c, w, rfl, c0, w0, w1, k⟩ := hh
  show t__law_longest (body Q Ex) [some (.int c), some (.int w), none, none] h
  unfold t__law_longest
  unfold longF at k
  have H : ∀ τ : PSt, Pv (pOp MP.rSub (pOp MP.rPow (pC (.int 2)) (pC (.int 31))) (pC (.int 1))) τ (.int 2147483647) := fun τ => pv_op pw31 pv_c fun _ _ => e_sub
  by_cases z : c ≤ w
  · rw [if_pos z] at k
    refine sq_ifT (tv_b (pv_op (w := .bl true) (pv_var rfl rfl) (pv_var rfl rfl) fun _ _ => by rw [e_le, decide_eq_true z])) (st_rt (pv_op' (H _) (pv_cb (w := .int (if c > 0 then 1 else 0)) (pva_cons (pv_op (pv_var rfl rfl) pv_c fun _ _ => e_gt) pva_nil) fun _ _ => by rw [e_int_b]; simp) fun _ _ q => ⟨mulOk_l (by decide), q⟩) k)
  · rw [if_neg z] at k
    refine sq_ifF (tv_b (pv_op (w := .bl false) (pv_var rfl rfl) (pv_var rfl rfl) fun _ _ => by rw [e_le, decide_eq_false z])) ?_
    refine sq_asg (pv_op' (w := .int (c / w)) (pv_var rfl rfl) (pv_var rfl rfl) fun _ _ q => ⟨⟨by omega, lg (by omega) (by omega)⟩, q⟩) ?_
    refine sq_asg (pv_op' (w := .int (c % w)) (pv_cb (pva_cons (pv_var rfl rfl) pva_nil) fun _ _ => e_int_i) (pv_var rfl rfl) fun _ _ q => ⟨by omega, q⟩) ?_
    refine st_rt (pv_op (pv_op' (pv_var rfl rfl) (H _) fun _ _ q => ⟨mulOk_r (by decide), q⟩) (pv_op' (pv_cb (w := .int (if c % w > 0 then 1 else 0)) (pva_cons (pv_op (pv_var rfl rfl) pv_c fun _ _ => e_gt) pva_nil) fun _ _ => by rw [e_int_b]; simp) (pv_op (pv_op (H _) (pv_var rfl rfl) fun _ _ => e_sub) (pv_var rfl rfl) fun _ _ => e_add_ii) fun _ _ q => ⟨mulOk_l (by split <;> decide), q⟩) fun _ _ => e_add_ii) k
def sp_fewL : PSp := fun vs h Q _ => ∃ (a b : Int) (m : Nat), vs = [.int a, .int b, .int m] ∧ m ≤ 1000 ∧ Q (.int (few a b m)) h
theorem pure__law_fewest (vs : List PV) (h : PHeap) (Q : PQ) (Ex : PXQ) (_ : vs.length = 3) (hh : sp_fewL vs h Q Ex) : t__law_fewest sp_way sp_longest (body Q Ex) (pstart 5 vs) h := by
  obtain ⟨a, b, m, rfl, hm, k⟩ := hh
  show t__law_fewest sp_way sp_longest (body Q Ex) [some (.int a), some (.int b), some (.int m), none, none] h
  unfold t__law_fewest
  refine sq_asg (pv_call2 (pv_var rfl rfl) (pv_var rfl rfl) (pf_way b a)) (sq_asg pv_c ?_)
  have F := few_le a b m hm
  refine ⟨fun n τ h' => h' = h ∧ ∃ c : Int, τ = [some (.int a), some (.int b), some (.int m), some (.int (way b a)), some (.int c)] ∧ 0 ≤ c ∧ c ≤ few a b m ∧ n = (few a b m - c).toNat, ⟨_, rfl, 0, rfl, by omega, F.1, rfl⟩, ?_⟩
  rintro n τ h' ⟨rfl, c, rfl, c0, c1, rfl⟩
  have T : Tv (pAnd (pB (pOp MP.rLt (pVar 4) (pC (.int 2100)))) (pB (pOp MP.rLt (pCall (gd 2 sp_longest) (pCons (pVar 4) (pCons (pOp MP.rAdd (pVar 2) (pC (.int 1))) pNil))) (pVar 3)))) [some (.int a), some (.int b), some (.int m), some (.int (way b a)), some (.int c)] (decide (c < 2100) && decide (longF c ((m : Int) + 1) < way b a)) :=
    tv_and (tv_b (pv_op (pv_var rfl rfl) pv_c fun _ _ => e_lt)) fun _ => tv_b (pv_op (pv_call2 (pv_var rfl rfl) (pv_op (pv_var rfl rfl) pv_c fun _ _ => e_add_ii) fun h Q E q => ⟨c, (m : Int) + 1, rfl, c0, by omega, by omega, q⟩) (pv_var rfl rfl) fun _ _ => e_lt)
  refine T h' _ _ ?_
  by_cases e : c = few a b m
  · subst e
    rw [decide_eq_false (long_ge hm), Bool.and_false, if_neg (by decide)]
    show pRet (pVar 4) (body Q Ex) [some (.int a), some (.int b), some (.int m), some (.int (way b a)), some (.int (few a b m))] h'
    exact st_rt (pv_var rfl rfl) k
  · rw [decide_eq_true (long_lt hm c0 (by omega)), decide_eq_true (by omega : c < 2100), Bool.and_self, if_pos rfl]
    refine ⟨fun τ'' h'' => h'' = h' ∧ τ'' = [some (.int a), some (.int b), some (.int m), some (.int (way b a)), some (.int (c + 1))], ?_, ?_⟩
    · rintro τ'' h'' ⟨rfl, rfl⟩
      exact ⟨_, by omega, rfl, c + 1, rfl, by omega, by omega, rfl⟩
    · exact st_asg (pv_op (pv_var rfl rfl) pv_c fun _ _ => e_add_ii) ⟨rfl, rfl⟩
end L_k25
set_option maxHeartbeats 4000000
/-! P4_k25: ways told apart. -/
namespace L_k25
open PySem MP TL
/-! ### two ways to look at a way -/
/-- as the law does -/
def goWay (m : Nat) (b : Int) : List Int → Int → Int → List Int → Bool
  | _, _, p, [] => decide (p = b)
  | A, q, p, s :: r => newB s p && (decide ((q + way s p) - (A ++ [q + way s p]).getD (A.length - 1 - m) 0 ≤ 2147483647) && goWay m b (A ++ [q + way s p]) (q + way s p) s r)
theorem plF_head (q p : Int) (r : List Int) : ∃ t, plF q p r = q :: t := by cases r <;> exact ⟨_, rfl⟩
/-- the windows from place j on -/
def winFrom (m : Nat) (P : List Int) (j n : Nat) : Bool := (List.range n).all fun k => decide (P.getD (j + k + 1) 0 - P.getD (j + k - m) 0 ≤ 2147483647)
theorem winFrom_succ (m : Nat) (P : List Int) (j n : Nat) : winFrom m P j (n + 1) = (decide (P.getD (j + 1) 0 - P.getD (j - m) 0 ≤ 2147483647) && winFrom m P (j + 1) n) := by
  unfold winFrom
  rw [List.range_succ_eq_map, List.all_cons, List.all_map]
  congr 1
  refine congrArg (fun f => (List.range n).all f) (funext fun k => ?_)
  show decide (P.getD (j + (k + 1) + 1) 0 - P.getD (j + (k + 1) - m) 0 ≤ _) = _
  rw [show j + (k + 1) = j + 1 + k by omega]
theorem goWay_is (m : Nat) (b : Int) : ∀ (r : List Int) (B : List Int) (q p : Int), goWay m b (B ++ [q]) q p r = (gapsOk p r && (winFrom m (B ++ plF q p r) B.length r.length && decide (lastOf p r = b)))
  | [], B, q, p => by
    show decide (p = b) = (true && (true && decide (p = b)))
    simp
  | s :: r, B, q, p => by
    unfold goWay gapsOk
    rw [goWay_is m b r (B ++ [q]) (q + way s p) s]
    show _ = (_ && (winFrom m (B ++ (q :: plF (q + way s p) s r)) B.length (r.length + 1) && decide (lastOf s r = b)))
    rw [winFrom_succ, show B ++ q :: plF (q + way s p) s r = (B ++ [q]) ++ plF (q + way s p) s r by simp]
    obtain ⟨t, et⟩ := plF_head (q + way s p) s r
    have e1 : ((B ++ [q]) ++ plF (q + way s p) s r).getD (B.length + 1) 0 = q + way s p := by
      rw [et, List.getD_eq_getElem?_getD, List.getElem?_append_right (by simp)]
      simp
    have e2 : ((B ++ [q]) ++ plF (q + way s p) s r).getD (B.length - m) 0 = (B ++ [q] ++ [q + way s p]).getD ((B ++ [q]).length - 1 - m) 0 := by
      have l : B.length - m < (B ++ [q]).length := by rw [List.length_append]; show _ < _ + 1; omega
      rw [List.getD_eq_getElem?_getD, List.getD_eq_getElem?_getD, List.getElem?_append_left l, show (B ++ [q]).length - 1 - m = B.length - m by rw [List.length_append]; show _ + 1 - 1 - m = _; omega, List.getElem?_append_left l]
    rw [e1, e2, show (B ++ [q]).length = B.length + 1 by rw [List.length_append]; rfl]
    cases newB s p <;> cases gapsOk s r <;> simp [Bool.and_assoc]
theorem goWay_way (m : Nat) (a b : Int) (ws : List Int) : goWay m b [0] 0 a ws = isWay a b m ws := by
  have := goWay_is m b ws [] 0 a
  rw [List.nil_append] at this
  rw [this]
  unfold isWay winFrom winOk
  simp
def sp_isWay : PSp := fun vs h Q _ => ∃ (a b : Int) (m : Nat) (v : PV) (ws : List Int), vs = [.int a, .int b, .int m, v] ∧ itemsOf h v = some (ws.map .int) ∧ ws.length ≤ 90000 ∧ Q (.bl (isWay a b m ws)) h
theorem at_last {A : List Int} {q : Int} {B : List Int} (e : A = B ++ [q]) : L2.atI (A.map PV.int) (-1) = some (.int q) := by
  subst e
  rw [atI_m1, List.map_append]
  simp
theorem pf_newerL (a b : Int) : Pf sp_newerL [.int a, .int b] (.bl (newB a b)) := fun h Q E q => ⟨a, b, rfl, q⟩
theorem at_nat {A : List Int} {k : Nat} (l : k < A.length) : L2.atI (A.map PV.int) (k : Int) = some (.int (A.getD k 0)) := by
  rw [atI_nat, List.getElem?_map, List.getD_eq_getElem?_getD, List.getElem?_eq_getElem l]
  rfl
theorem isWay_loop {m : Nat} {a b : Int} {v : PV} {h : PHeap} {Q : PQ} {g : PTS} (hg : g = u_law_is_way_2_b_0 sp_newerL sp_way) {ok : PHeap → Prop} (hok : ∀ x, ok (h ++ [x])) {D : PD} (hrt : D.rt = fzQ h Q) (hnx : ∀ p o x, Q (.bl (decide (p = b))) h → D.nx [some (.int a), some (.int b), some (.int m), some v, some (.ref h.length), some (.int p), o] (h ++ [x])) :
    ∀ (r : List Int) (B : List Int) (q p : Int) (o : Option PV), B.length + r.length ≤ 90000 → Q (.bl (goWay m b (B ++ [q]) q p r)) h → forGo (.nm 6) g D ok (r.map .int) [some (.int a), some (.int b), some (.int m), some v, some (.ref h.length), some (.int p), o] (h ++ [.lst ((B ++ [q]).map .int)])
  | [], B, q, p, o, l, k => ⟨hok _, hnx p o _ k⟩
  | s :: r, B, q, p, o, l, k => by
    subst hg
    refine ⟨hok _, ?_⟩
    show u_law_is_way_2_b_0 sp_newerL sp_way _ [some (.int a), some (.int b), some (.int m), some v, some (.ref h.length), some (.int p), some (.int s)] _
    unfold u_law_is_way_2_b_0 u_law_is_way_2_b_1 u_law_is_way_2_b_2 u_law_is_way_2_b_3
    unfold goWay at k
    have hc : ∀ A : List PV, (h ++ [Cell.lst A])[h.length]? = some (.lst A) := fun A => List.getElem?_concat_length
    have T : Tv (pNot (pT (pCall (gd 2 sp_newerL) (pCons (pVar 6) (pCons (pVar 5) pNil))))) [some (.int a), some (.int b), some (.int m), some v, some (.ref h.length), some (.int p), some (.int s)] (!newB s p) := tv_not (tv_t (pv_call2 (pv_var rfl rfl) (pv_var rfl rfl) (pf_newerL s p)))
    cases hn : newB s p with
    | false =>
      rw [hn] at k T
      refine sq_ifT T (st_rt pv_c ?_)
      show D.rt (.bl false) _
      rw [hrt]
      exact fzQ_id (f := 0) (.bl _) k
    | true =>
      rw [hn] at k T
      refine sq_ifF T ?_
      refine ht_append rfl (hc _) (ph_op (ph_ixc (ph_var rfl rfl) (hc _) (ph (pv_neg pv_c)) (at_last rfl)) (ph (pv_call2 (pv_var rfl rfl) (pv_var rfl rfl) (pf_way s p))) fun Q q => q) (by rw [List.length_map, List.length_append]; show _ + 1 ≤ _; omega) ?_
      rw [List.set_append_right _ _ (Nat.le_refl _), Nat.sub_self, List.set_cons_zero, show (B ++ [q]).map PV.int ++ [PV.int (q + way s p)] = ((B ++ [q]) ++ [q + way s p]).map PV.int by simp]
      have lA : ((B ++ [q]) ++ [q + way s p]).length = B.length + 2 := by simp
      have T2 : Th (h ++ [.lst (((B ++ [q]) ++ [q + way s p]).map .int)]) (pB (pOp MP.rGe (pOp MP.rSub (pOp MP.rIx (pVar 4) (pUn MP.rNeg (pC (.int 1)))) (pOp MP.rIx (pVar 4) (pCB MP.rMax2 (pCons (pC (.int 0)) (pCons (pOp MP.rSub (pOp MP.rSub (pCB MP.rLen (pCons (pVar 4) pNil)) (pC (.int 2))) (pVar 2)) pNil))))) (pOp MP.rPow (pC (.int 2)) (pC (.int 31)))))
          [some (.int a), some (.int b), some (.int m), some v, some (.ref h.length), some (.int p), some (.int s)] (!decide ((q + way s p) - ((B ++ [q]) ++ [q + way s p]).getD ((B ++ [q]).length - 1 - m) 0 ≤ 2147483647)) := by
        refine th_cong (th_b (ph_op (w := .bl (decide ((2147483648 : Int) ≤ (q + way s p) - ((B ++ [q]) ++ [q + way s p]).getD ((B ++ [q]).length - 1 - m) 0))) (ph_op (w := .int ((q + way s p) - ((B ++ [q]) ++ [q + way s p]).getD ((B ++ [q]).length - 1 - m) 0)) (ph_ixc (ph_var rfl rfl) (hc _) (ph (pv_neg pv_c)) (at_last rfl)) (ph_ixc (j := (((B ++ [q]).length - 1 - m : Nat) : Int)) (ph_var rfl rfl) (hc _) (ph_cong (ph_cb (w := .int (if (((((B ++ [q]) ++ [q + way s p]).map PV.int).length : Int) - 2 - m) > 0 then (((((B ++ [q]) ++ [q + way s p]).map PV.int).length : Int) - 2 - m) else 0)) (pha_cons ph_c (pha_cons (ph_op (w := .int ((((((B ++ [q]) ++ [q + way s p]).map PV.int).length : Int) - 2 - m))) (ph_op (w := .int ((((((B ++ [q]) ++ [q + way s p]).map PV.int).length : Int) - 2))) (ph_lenI (ph_var rfl rfl) (by show (match (h ++ [Cell.lst _])[h.length]? with | some (.lst xs) => some xs | _ => none) = _; rw [hc]) (by rw [ty_r, hc])) ph_c fun Q q => q) (ph_var rfl rfl) fun Q q => q) pha_nil)) fun Q q => q) (by rw [List.length_map, lA, show (B ++ [q]).length = B.length + 1 by simp]; congr 1; split <;> omega)) (at_nat (by rw [lA]; simp; omega))) fun Q q => q) (ph pw31) fun Q q => by rw [e_ge]; exact q)) ?_
        rw [← decide_not]
        rw [decide_eq_decide]
        omega
      cases hw : decide ((q + way s p) - ((B ++ [q]) ++ [q + way s p]).getD ((B ++ [q]).length - 1 - m) 0 ≤ 2147483647) with
      | false =>
        rw [hw] at k T2
        refine hq_ifT T2 (st_rt pv_c ?_)
        show D.rt (.bl false) _
        rw [hrt]
        exact fzQ_id (f := 0) (.bl _) k
      | true =>
        rw [hw] at k T2
        refine hq_ifF T2 (st_asg (pv_var rfl rfl) ?_)
        exact isWay_loop rfl hok hrt hnx r (B ++ [q]) (q + way s p) s _ (by rw [List.length_append]; simp at l ⊢; omega) k
theorem pure__law_is_way (vs : List PV) (h : PHeap) (Q : PQ) (Ex : PXQ) (_ : vs.length = 4) (hh : sp_isWay vs h Q Ex) : t__law_is_way sp_newerL sp_way (body (fzQ h Q) (fzX h Ex)) (pstart 7 vs) h := by
  obtain ⟨a, b, m, v, ws, rfl, hv, lw, k⟩ := hh
  show t__law_is_way sp_newerL sp_way (body (fzQ h Q) (fzX h Ex)) [some (.int a), some (.int b), some (.int m), some v, none, none, none] h
  rw [u_law_is_way_eq]
  unfold u_law_is_way_0 u_law_is_way_1 u_law_is_way_2
  refine hq_new (pha_tmp (pha_cons ph_c pha_nil)) (sq_asg (pv_var rfl rfl) ?_)
  have hv' : ∀ x, itemsOf (h ++ [x]) v = some (ws.map .int) := fun x => by
    cases v with
    | ref n =>
      have e : (match h[n]? with
        | some (.lst xs) => some xs
        | _ => none) = some (ws.map PV.int) := hv
      show (match (h ++ [x])[n]? with
        | some (.lst xs) => some xs
        | _ => none) = some (ws.map PV.int)
      have l : n < h.length := by
        rcases Nat.lt_or_ge n h.length with l | l
        · exact l
        · rw [List.getElem?_eq_none l] at e; cases e
      rw [List.getElem?_append_left l]
      exact e
    | _ => exact hv
  refine sq_forI (v := v) rfl (hv' _) fun ok hok => ?_
  refine isWay_loop rfl (fun x => hok _ fun m e => ?_) rfl (fun p o x q => by
    show u_law_is_way_3 sp_newerL sp_way (body (fzQ h Q) (fzX h Ex)) [some (.int a), some (.int b), some (.int m), some v, some (.ref h.length), some (.int p), o] (h ++ [x])
    unfold u_law_is_way_3
    exact st_rt (pv_op (pv_var rfl rfl) (pv_var rfl rfl) fun _ _ => e_eq_ii) (fzQ_id (f := 0) (.bl _) q)) ws [] 0 a none (by simpa using lw) (by rw [List.nil_append, goWay_way]; exact k)
  subst e
  have l : m < h.length := by
    have e : (match h[m]? with
        | some (.lst xs) => some xs
        | _ => none) = some (ws.map PV.int) := hv
    rcases Nat.lt_or_ge m h.length with l | l
    · exact l
    · rw [List.getElem?_eq_none l] at e; cases e
  rw [List.getElem?_append_left l, List.getElem?_append_left l]
end L_k25
set_option maxHeartbeats 4000000
/-! P5_k25: steps. -/
namespace L_k25
open PySem MP TL
def sp_steps : PSp := fun vs h Q E => ∃ a b n : Int, vs = [.int a, .int b, .int n] ∧ match fewO a b n with
  | .error (c, x) => E c x h
  | .ok _ => ∀ (ws : List Int) (t : PHeap) (k : Nat), (ws.length : Int) = few a b n.toNat → (∀ s ∈ ws, ser s = true) → isWay a b n.toNat ws = true → t[k]? = some (.lst (ws.map .int)) → Q (.ref (h.length + k)) (h ++ t)
theorem items_ref {h : PHeap} {n : Nat} {xs : List PV} (e : h[n]? = some (.lst xs)) : itemsOf h (.ref n) = some xs := by
  show (match h[n]? with
    | some (.lst xs) => some xs
    | _ => none) = some xs
  rw [e]
theorem few_run {a b n : Int} {e1 e2 e3 : PTE} {τ : PSt} {h : PHeap} {D : PD} {s : PTS} {i : Nat} (x1 : Pv e1 τ (.int a)) (x2 : Pv e2 τ (.int b)) (x3 : Pv e3 τ (.int n)) (k : match fewO a b n with
    | .error (c, x) => D.ex c x τ h
    | .ok v => s D (τ.set i (some v)) h) : pSeq (pAsg (pCall (gd 3 sp_few) (pCons e1 (pCons e2 (pCons e3 pNil)))) (.nm i)) s D τ h := by
  refine pva_cons x1 (pva_cons x2 (pva_cons x3 pva_nil)) h (fun vs h1 => gd 3 sp_few vs h1 (fun v h2 => s D (τ.set i (some v)) h2) (fun c v h' => D.ex c v τ h')) _ ⟨rfl, a, b, n, rfl, ?_⟩
  unfold fin
  generalize fewO a b n = o at k ⊢
  cases o with
  | error e => exact k
  | ok v => exact k
theorem fewO_ok {a b n : Int} {v : PV} (e : fewO a b n = .ok v) : ser a = true ∧ ser b = true ∧ ∃ m : Nat, n = m ∧ m ≤ 1000 ∧ v = .int (few a b m) := by
  unfold fewO at e
  split at e
  · split at e
    · split at e
      · rename_i h1 h2 h3
        obtain ⟨m, rfl⟩ : ∃ m : Nat, n = m := ⟨n.toNat, by omega⟩
        cases e
        exact ⟨h1, h2, m, rfl, by omega, by rw [Int.toNat_natCast]⟩
      · cases e
    · cases e
  · cases e
theorem steps_red {a b : Int} {m : Nat} {w g f : PV} {h : PHeap} {D : PD} {s : PTS} {n : Nat} {o10 o11 o12 : Option PV} {gs : List Int} {o0 : Int} (hn : gs.length = n) (ln : n ≤ 3000)
    (k : ∀ o o9 o13, s D [some (.int a), some (.int b), some (.int m), some (.int n), some w, some g, some f, some (.ref h.length), some (.int o), o9, o10, o11, o12, o13] (h ++ [.lst ((red o0 gs).map .int)])) :
    pSeq (pFor (pRng1 (pVar 3)) (.nm 9) (u_steps_7_b_0 sp_few)) s D [some (.int a), some (.int b), some (.int m), some (.int n), some w, some g, some f, some (.ref h.length), some (.int o0), none, o10, o11, o12, none] (h ++ [.lst (gs.map .int)]) := by
  have hlen := rng_len 0 n
  refine sq_forR (n := n) (pv_var rfl rfl) (by omega) ?_
  refine forGo_inv (fun j τ h' => ∃ (o : Int) (dn rs : List Int) (o9 o13 : Option PV), dn.length = j ∧ j + rs.length = n ∧ dn ++ red o rs = red o0 gs ∧ h' = h ++ [.lst ((dn ++ rs).map .int)] ∧ τ = [some (.int a), some (.int b), some (.int m), some (.int n), some w, some g, some f, some (.ref h.length), some (.int o), o9, o10, o11, o12, o13]) _ (fun _ _ _ _ => trivial) (fun τ h' z => ?_) (fun j x τ h' N ej z nn => ?_) _ _ ⟨o0, [], gs, none, none, rfl, by simpa using hn, rfl, rfl, rfl⟩
  · obtain ⟨o, dn, rs, o9, o13, z1, z2, z3, rfl, rfl⟩ := z
    rw [hlen] at z2
    have : rs = [] := List.eq_nil_of_length_eq_zero (by omega)
    subst this
    have z3 : dn ++ [] = red o0 gs := z3
    rw [z3]
    exact k o o9 o13
  · obtain ⟨o, dn, rs, o9, o13, z1, z2, z3, rfl, rfl⟩ := z
    obtain ⟨hj, ex⟩ := rng_at ej
    rw [Int.zero_add] at ex
    subst ex
    obtain ⟨gg, r, rfl⟩ : ∃ gg r, rs = gg :: r := by
      cases rs with
      | nil => simp at z2; omega
      | cons gg r => exact ⟨gg, r, rfl⟩
    refine ⟨_, rfl, ?_⟩
    show u_steps_7_b_0 sp_few _ [some (.int a), some (.int b), some (.int m), some (.int n), some w, some g, some f, some (.ref h.length), some (.int o), some (.int j), o10, o11, o12, o13] _
    unfold u_steps_7_b_0 u_steps_7_b_1 u_steps_7_b_2
    have hc : (h ++ [Cell.lst ((dn ++ gg :: r).map .int)])[h.length]? = some (.lst ((dn ++ gg :: r).map .int)) := List.getElem?_concat_length
    have lj : j < (dn ++ gg :: r).length := by rw [List.length_append, z1]; simp
    have ev : (dn ++ gg :: r).getD j 0 = gg := by
      rw [List.getD_eq_getElem?_getD, List.getElem?_append_right (by omega), z1, Nat.sub_self]
      rfl
    have A : ∀ o13', Ph (h ++ [Cell.lst ((dn ++ gg :: r).map .int)]) (pOp MP.rIx (pVar 7) (pVar 9)) [some (.int a), some (.int b), some (.int m), some (.int n), some w, some g, some f, some (.ref h.length), some (.int o), some (.int j), o10, o11, o12, o13'] (.int gg) := fun o13' => ph_ixc (ph_var rfl rfl) hc (ph_var rfl rfl) (by rw [at_nat lj, ev])
    refine hq_asg (v := .int (if gg - 1 < o then gg - 1 else o)) (ph_cb (pha_cons (ph_var rfl rfl) (pha_cons (ph_op (w := .int (gg - 1)) (A _) ph_c fun Q q => q) pha_nil)) fun Q q => q) ?_
    refine hq_set (v := .int (gg - (if gg - 1 < o then gg - 1 else o))) (n := h.length) (j := j) (ph_op (A _) (ph_var rfl rfl) fun Q q => q) rfl hc (ph_var rfl rfl) (by rw [List.length_map]; exact lj) ?_
    refine st_asg (v := .int (o - (if gg - 1 < o then gg - 1 else o))) (pv_op (pv_var rfl rfl) (pv_var rfl rfl) fun _ _ => e_sub) (nn _ _ ?_)
    refine ⟨o - (if gg - 1 < o then gg - 1 else o), dn ++ [gg - (if gg - 1 < o then gg - 1 else o)], r, _, _, by rw [List.length_append, z1]; rfl, by simp at z2; omega, ?_, ?_, rfl⟩
    · rw [← z3]
      show _ = dn ++ (_ :: red _ r)
      simp
    · rw [List.set_append_right _ _ (Nat.le_refl _), Nat.sub_self, List.set_cons_zero]
      congr 3
      rw [← z1, show PV.int (gg - (if gg - 1 < o then gg - 1 else o)) = PV.int (gg - (if gg - 1 < o then gg - 1 else o)) from rfl, List.map_append, List.map_cons, List.set_append_right _ _ (by rw [List.length_map]; exact Nat.le_refl _), List.length_map, Nat.sub_self, List.set_cons_zero]
      simp
theorem steps_walk {a b m n w g f o : PV} {o9 o13 : Option PV} {h : PHeap} {D : PD} {gp : PV} {b' : PTS} (hb : b' = u_steps_10_b_0 sp_few) {ok : PHeap → Prop} (hok : ∀ x, ok (h ++ [x])) :
    ∀ (r : List Int) (acc : List Int) (p : Int) (o12 : Option PV), acc.length + r.length ≤ 3000 →
    (∀ p' o12, D.nx [some a, some b, some m, some n, some w, some g, some f, some gp, some o, o9, some (.ref h.length), some (.int p'), o12, o13] (h ++ [.lst ((acc ++ walk p r).map .int)])) →
    forGo (.nm 12) b' D ok (r.map .int) [some a, some b, some m, some n, some w, some g, some f, some gp, some o, o9, some (.ref h.length), some (.int p), o12, o13] (h ++ [.lst (acc.map .int)])
  | [], acc, p, o12, l, k => ⟨hok _, by
    have k := k p o12
    rw [show acc ++ walk p [] = acc from List.append_nil acc] at k
    exact k⟩
  | s :: r, acc, p, o12, l, k => by
    subst hb
    refine ⟨hok _, ?_⟩
    show u_steps_10_b_0 sp_few _ [some a, some b, some m, some n, some w, some g, some f, some gp, some o, o9, some (.ref h.length), some (.int p), some (.int s), o13] _
    unfold u_steps_10_b_0 u_steps_10_b_1
    refine sq_asg (v := .int ((p + s) % 4294967296)) (pv_op' (pv_op (w := .int (p + s)) (pv_var rfl rfl) (pv_var rfl rfl) fun _ _ => e_addV_ii) pv_c fun _ _ q => ⟨by decide, q⟩) ?_
    refine ht_append (v := .int ((p + s) % 4294967296)) (n := h.length) rfl List.getElem?_concat_length (ph_var rfl rfl) (by rw [List.length_map]; omega) ?_
    rw [List.set_append_right _ _ (Nat.le_refl _), Nat.sub_self, List.set_cons_zero, show acc.map PV.int ++ [PV.int ((p + s) % 4294967296)] = (acc ++ [(p + s) % 4294967296]).map .int by simp]
    refine steps_walk rfl hok r (acc ++ [(p + s) % 4294967296]) _ _ (by simp at l ⊢; omega) fun p' o12' => ?_
    have k := k p' o12'
    rw [show acc ++ walk p (s :: r) = (acc ++ [(p + s) % 4294967296]) ++ walk ((p + s) % 4294967296) r by simp [walk]] at k
    exact k
theorem pure_steps (vs : List PV) (h : PHeap) (Q : PQ) (Ex : PXQ) (_ : vs.length = 3) (hh : sp_steps vs h Q Ex) : t_steps sp_few (body Q Ex) (pstart 14 vs) h := by
  obtain ⟨a, b, n, rfl, k⟩ := hh
  show t_steps sp_few (body Q Ex) [some (.int a), some (.int b), some (.int n), none, none, none, none, none, none, none, none, none, none, none] h
  rw [u_steps_eq]
  unfold u_steps_0
  refine few_run (pv_var rfl rfl) (pv_var rfl rfl) (pv_var rfl rfl) ?_
  cases hf : fewO a b n with
  | error e =>
    obtain ⟨c, x⟩ := e
    rw [hf] at k
    exact k
  | ok v =>
    rw [hf] at k
    obtain ⟨sa, sb, m, rfl, hm, rfl⟩ := fewO_ok hf
    clear hf
    have k : ∀ (ws : List Int) (t : PHeap) (j : Nat), (ws.length : Int) = few a b m → (∀ s ∈ ws, ser s = true) → isWay a b m ws = true → t[j]? = some (.lst (ws.map .int)) → Q (.ref (h.length + j)) (h ++ t) := k
    have F := few_le a b m hm
    show u_steps_1 sp_few (body Q Ex) [some (.int a), some (.int b), some (.int m), some (.int (few a b m)), none, none, none, none, none, none, none, none, none, none] h
    unfold u_steps_1
    by_cases c : few a b m < 2
    · refine sq_ifT (tv_b (pv_op (w := .bl true) (pv_var rfl rfl) pv_c fun _ _ => by rw [e_lt, decide_eq_true c])) ?_
      have go : ∀ ws : List Int, cut [PV.int b] none (some (few a b m)) = ws.map .int → (ws.length : Int) = few a b m → (∀ s ∈ ws, ser s = true) → isWay a b m ws = true → pRet (pSlice (pFz (pTmp (pCons (pVar 1) pNil))) pNoPart (pPart (pVar 3))) { body Q Ex with nx := u_steps_2 sp_few (body Q Ex) } [some (.int a), some (.int b), some (.int m), some (.int (few a b m)), none, none, none, none, none, none, none, none, none, none] h := fun ws ec l ms iw => by
        refine slice_to (u := .fl [.int b]) (j := few a b m) (pv_fz (pva_tmp (pva_cons (pv_var rfl rfl) pva_nil))) (pv_var rfl rfl) ?_
        rw [e_cut_f, ec]
        exact k ws [.lst (ws.map .int)] 0 l ms iw rfl
      have W := way_lt b a
      have sa' := ser_iff.mp sa
      have sb' := ser_iff.mp sb
      by_cases c0 : way b a = 0
      · have e : few a b m = 0 := by unfold few; rw [if_pos c0]
        refine go [] (by rw [e]; rfl) (by rw [e]; rfl) (fun s hs => by cases hs) ?_
        have : a = b := by unfold way at c0; omega
        show (true && (true && decide (a = b))) = true
        rw [decide_eq_true this]
        rfl
      · have e : few a b m = 1 ∧ way b a ≤ 2147483647 := by
          unfold few at c F ⊢
          rw [if_neg c0] at c F ⊢
          split at c
          · rename_i z
            rw [if_pos z]
            exact ⟨rfl, z⟩
          · split at c <;> omega
        refine go [b] (by rw [e.1]; rfl) (by rw [e.1]; rfl) (fun s hs => by rw [List.mem_singleton.mp hs]; exact sb) ?_
        have n1 : newB b a = true := by
          unfold newB
          rw [decide_eq_true (by omega : 1 ≤ way b a), decide_eq_true e.2]
          rfl
        show ((newB b a && true) && (winOk m [0, 0 + way b a] 1 && decide (b = b))) = true
        rw [n1, decide_eq_true rfl]
        unfold winOk
        show ((true && true) && (((decide ((0 + way b a) - [0, 0 + way b a].getD (0 - m) 0 ≤ 2147483647)) && true) && true)) = true
        rw [Nat.zero_sub]
        show ((true && true) && (((decide ((0 + way b a) - 0 ≤ 2147483647)) && true) && true)) = true
        rw [decide_eq_true (by omega)]
        rfl
    · refine sq_ifF (tv_b (pv_op (w := .bl false) (pv_var rfl rfl) pv_c fun _ _ => by rw [e_lt, decide_eq_false c])) ?_
      obtain ⟨n, en⟩ : ∃ n : Nat, (n : Int) = few a b m := ⟨(few a b m).toNat, by omega⟩
      rw [← en] at c F ⊢
      unfold u_steps_2 u_steps_3 u_steps_4
      refine sq_asg (v := .int ((m : Int) + 1)) (pv_op (pv_var rfl rfl) pv_c fun _ _ => e_add_ii) ?_
      refine sq_asg (v := .int (2147483647 - (m : Int))) (pv_op pv_c (pv_var rfl rfl) fun _ _ => e_sub) ?_
      refine sq_asg (way_pv (pv_var rfl rfl) (pv_var rfl rfl)) ?_
      show u_steps_5 sp_few (body Q Ex) [some (.int a), some (.int b), some (.int m), some (.int n), some (.int ((m : Int) + 1)), some (.int (2147483647 - (m : Int))), some (.int (way b a)), none, none, none, none, none, none, none] h
      unfold u_steps_5
      refine hq_new (xs := (gaps0 m n).map .int) (by
        unfold gaps0
        rw [List.map_map]
        refine pha_lcR (pv_var rfl rfl) (by omega) fun j hj => ph (pv_cong (v := .int (g0 m j)) (pv_if (v := .int (g0 m j)) (tv_b (pv_op (w := .bl (decide ((j : Int) % ((m : Int) + 1) = 0))) (pv_op' (w := .int ((j : Int) % ((m : Int) + 1))) (pv_var rfl rfl) (pv_var rfl rfl) fun _ _ q => ⟨by omega, q⟩) pv_c fun _ _ => e_eq_ii)) (fun e => pv_cong (pv_var (v := .int (2147483647 - (m : Int))) rfl rfl) ?_) fun e => pv_cong pv_c ?_) rfl)
        · have e := of_decide_eq_true e
          have ec : ((j % (m + 1) : Nat) : Int) = (j : Int) % ((m : Int) + 1) := Int.natCast_emod j (m + 1)
          unfold g0
          rw [if_pos (by omega)]
        · have e := of_decide_eq_false e
          have ec : ((j % (m + 1) : Nat) : Int) = (j : Int) % ((m : Int) + 1) := Int.natCast_emod j (m + 1)
          unfold g0
          rw [if_neg (by omega)]) ?_
      show u_steps_6 sp_few (body Q Ex) [some (.int a), some (.int b), some (.int m), some (.int n), some (.int ((m : Int) + 1)), some (.int (2147483647 - (m : Int))), some (.int (way b a)), some (.ref h.length), none, none, none, none, none, none] (h ++ [.lst ((gaps0 m n).map .int)])
      unfold u_steps_6 u_steps_7
      refine hq_asg (v := .int ((gaps0 m n).sum - way b a)) (ph_op (w := .int ((gaps0 m n).sum - way b a)) (ph_cb (w := .int (gaps0 m n).sum) (pha_cons (ph_var (v := .ref h.length) rfl rfl) pha_nil) fun Q q => by
        rw [e_onL_r, List.getElem?_concat_length]
        show MP.rSumI _ _ Q
        unfold MP.rSumI
        rw [its_ints]
        exact q) (ph_var rfl rfl) fun Q q => q) ?_
      refine steps_red (by unfold gaps0; simp) (by omega) fun o o9 o13 => ?_
      obtain ⟨w1, w2, w3⟩ := made_way sa sb hm en (by omega)
      generalize hred : red ((gaps0 m n).sum - way b a) (gaps0 m n) = gs at w1 w2 w3 ⊢
      unfold u_steps_8 u_steps_9 u_steps_10
      refine hq_new (pha_tmp pha_nil) (sq_asg (pv_var rfl rfl) ?_)
      have hc : ∀ x, (h ++ [Cell.lst (gs.map .int)] ++ [x])[h.length]? = some (.lst (gs.map .int)) := fun x => by
        rw [List.getElem?_append_left (by simp), List.getElem?_concat_length]
      refine sq_forI (v := .ref h.length) (xs := gs.map .int) rfl (items_ref (hc _)) fun ok hok => ?_
      have lgs : gs.length = n := by rw [← w1, walk_len]
      refine steps_walk (h := h ++ [Cell.lst (gs.map .int)]) rfl (fun x => hok _ fun m e => by cases e; rw [hc, hc]) gs [] a none (by simp; omega) fun p' o12 => ?_
      show u_steps_11 sp_few (body Q Ex) [some (.int a), some (.int b), some (.int m), some (.int n), some (.int ((m : Int) + 1)), some (.int (2147483647 - (m : Int))), some (.int (way b a)), some (.ref h.length), some (.int o), o9, some (.ref (h ++ [Cell.lst (gs.map .int)]).length), some (.int p'), o12, o13] _
      unfold u_steps_11
      refine st_rt (pv_var (v := .ref (h ++ [Cell.lst (gs.map .int)]).length) rfl rfl) ?_
      show Q (.ref (h ++ [Cell.lst (gs.map .int)]).length) (h ++ [Cell.lst (gs.map .int)] ++ [.lst ((walk a gs).map .int)])
      rw [List.length_append, List.append_assoc]
      exact k (walk a gs) [.lst (gs.map .int), .lst ((walk a gs).map .int)] 1 (by rw [w1]; exact en) w2 w3 rfl
end L_k25
set_option maxHeartbeats 4000000
/-! P6_k25: judge_steps. -/
namespace L_k25
open PySem MP TL
def intsOf (xs : List PV) : List Int := xs.map fun v => match v with
  | .int i => i
  | _ => 0
def judgeF (a b : Int) (m : Nat) (xs : List PV) : Bool := decide ((xs.length : Int) = few a b m) && (xs.all isSerV && isWay a b m (intsOf xs))
theorem ints_ser : ∀ xs : List PV, xs.all isSerV = true → xs = (intsOf xs).map .int
  | [], _ => rfl
  | v :: r, h => by
    rw [List.all_cons, Bool.and_eq_true] at h
    have := ints_ser r h.2
    cases v with
    | int i =>
      show _ = PV.int i :: (intsOf r).map .int
      rw [← this]
    | _ => exact (Bool.false_ne_true h.1).elim
def JK (h : PHeap) (a b : Int) (v : PV) (ans : Nat → Bool) : Prop := (∃ t, tyOf h v = some t ∧ isiB t "list" = false ∧ ∀ m, ans m = false) ∨ (∃ xs, itemsOf h v = some xs ∧ tyOf h v = some "list" ∧ xs.length ≤ 80000 ∧ (∀ x ∈ xs, (tyOf h x).isSome = true) ∧ ∀ m, ans m = judgeF a b m xs)
def sp_judge : PSp := fun vs h Q E => ∃ (a b n : Int) (v : PV) (ans : Nat → Bool), vs = [.int a, .int b, .int n, v] ∧ JK h a b v ans ∧ match fewO a b n with
  | .error (c, x) => E c x h
  | .ok _ => Q (.bl (ans n.toNat)) h
theorem fzQ_h {h : PHeap} {Q : PQ} {x y : PV} (z : Fz h.length h x y) (k : Q y h) : fzQ h Q x h := ⟨y, z, ⟨Nat.le_refl _, fun i c l e => .inl e⟩, by rw [List.take_length]; exact k⟩
theorem fzX_h {h : PHeap} {E : PXQ} {c : Str} {x y : PV} (z : Fz h.length h x y) (k : E c y h) : fzX h E c x h := ⟨y, z, ⟨Nat.le_refl _, fun i c l e => .inl e⟩, by rw [List.take_length]; exact k⟩
theorem fewO_err {a b n : Int} {c : Str} {x : PV} (e : fewO a b n = .error (c, x)) : ∃ i : Int, x = .int i := by
  unfold fewO at e
  split at e
  · split at e
    · split at e
      · cases e
      · cases e; exact ⟨_, rfl⟩
    · cases e; exact ⟨_, rfl⟩
  · cases e; exact ⟨_, rfl⟩
theorem judge_loop {a b : Int} {m : Nat} {v c : PV} {o9 : Option PV} {h : PHeap} {Q : PQ} {g : PTS} (hg : g = u_judge_steps_5_b_0 sp_few sp_is_serial) {ok : PHeap → Prop} (hok : ∀ x, ok (h ++ [x])) {D : PD} (hrt : D.rt = fzQ h Q) :
    ∀ (r : List Int) (B : List Int) (q p : Int) (o7 o8 : Option PV), B.length + r.length ≤ 90000 → (if gapsOk p r = true then ∀ o7 o8, D.nx [some (.int a), some (.int b), some (.int m), some v, some c, some (.ref h.length), some (.int (lastOf p r)), o7, o8, o9] (h ++ [.lst ((B ++ plF q p r).map .int)]) else Q (.bl false) h) →
    forGo (.nm 7) g D ok (r.map .int) [some (.int a), some (.int b), some (.int m), some v, some c, some (.ref h.length), some (.int p), o7, o8, o9] (h ++ [.lst ((B ++ [q]).map .int)])
  | [], B, q, p, o7, o8, l, k => ⟨hok _, k o7 o8⟩
  | s :: r, B, q, p, o7, o8, l, k => by
    subst hg
    refine ⟨hok _, ?_⟩
    show u_judge_steps_5_b_0 sp_few sp_is_serial _ [some (.int a), some (.int b), some (.int m), some v, some c, some (.ref h.length), some (.int p), some (.int s), o8, o9] _
    unfold u_judge_steps_5_b_0 u_judge_steps_5_b_1 u_judge_steps_5_b_2 u_judge_steps_5_b_3
    have hc : ∀ A : List PV, (h ++ [Cell.lst A])[h.length]? = some (.lst A) := fun A => List.getElem?_concat_length
    refine sq_asg (way_pv (pv_var rfl rfl) (pv_var rfl rfl)) ?_
    have T : Tv (pOr (pB (pOp MP.rLt (pVar 8) (pC (.int 1)))) (pB (pOp MP.rGt (pVar 8) (pC (.int 2147483647))))) [some (.int a), some (.int b), some (.int m), some v, some c, some (.ref h.length), some (.int p), some (.int s), some (.int (way s p)), o9] (decide (way s p < 1) || decide (2147483647 < way s p)) :=
      tv_or (tv_b (pv_op (pv_var rfl rfl) pv_c fun _ _ => e_lt)) fun _ => tv_b (pv_op (pv_var rfl rfl) pv_c fun _ _ => e_gt)
    have eT : (decide (way s p < 1) || decide (2147483647 < way s p)) = !newB s p := by
      unfold newB
      rw [Bool.not_and, ← decide_not, ← decide_not]
      congr 1
      · rw [decide_eq_decide]; omega
      · rw [decide_eq_decide]; omega
    have T := tv_cong T eT
    unfold gapsOk at k
    cases hn : newB s p with
    | false =>
      rw [hn] at k T
      refine sq_ifT T (st_rt pv_c ?_)
      show D.rt (.bl false) _
      rw [hrt]
      exact fzQ_id (f := 0) (.bl _) k
    | true =>
      rw [hn] at k T
      refine sq_ifF T ?_
      refine ht_append rfl (hc _) (ph_op (w := .int (q + way s p)) (ph_ixc (ph_var rfl rfl) (hc _) (ph (pv_neg pv_c)) (at_last rfl)) (ph_var rfl rfl) fun Q q => q) (by rw [List.length_map, List.length_append]; show _ + 1 ≤ _; omega) ?_
      rw [List.set_append_right _ _ (Nat.le_refl _), Nat.sub_self, List.set_cons_zero, show (B ++ [q]).map PV.int ++ [PV.int (q + way s p)] = ((B ++ [q]) ++ [q + way s p]).map PV.int by simp]
      show pAsg (pVar 7) (.nm 6) _ [some (.int a), some (.int b), some (.int m), some v, some c, some (.ref h.length), some (.int p), some (.int s), some (.int (way s p)), o9] (h ++ [.lst (((B ++ [q]) ++ [q + way s p]).map PV.int)])
      refine st_asg (v := .int s) (pv_var rfl rfl) ?_
      refine judge_loop rfl hok hrt r (B ++ [q]) (q + way s p) s _ _ (by rw [List.length_append]; simp at l ⊢; omega) ?_
      rw [show B ++ [q] ++ plF (q + way s p) s r = B ++ plF q p (s :: r) by rw [List.append_assoc]; rfl]
      exact k
theorem sp_isSer_ph {h : PHeap} {τ : PSt} {i : Nat} {v : PV} (e : τ[i]? = some (some v)) (ht : (tyOf h v).isSome = true) : Ph h (pCall (gd 1 sp_is_serial) (pCons (pVar i) pNil)) τ (.bl (isSerV v)) := ph_call (pha_cons (ph_var e (ty_notExc ht)) pha_nil) rfl fun Q E q => ⟨v, rfl, ht, q⟩
theorem items_app {h : PHeap} {v : PV} {xs : List PV} (hv : itemsOf h v = some xs) : ∀ x, itemsOf (h ++ [x]) v = some xs := fun x => by
  cases v with
  | ref n =>
    have e : (match h[n]? with
      | some (.lst xs) => some xs
      | _ => none) = some xs := hv
    show (match (h ++ [x])[n]? with
      | some (.lst xs) => some xs
      | _ => none) = some xs
    have l : n < h.length := by
      rcases Nat.lt_or_ge n h.length with l | l
      · exact l
      · rw [List.getElem?_eq_none l] at e; cases e
    rw [List.getElem?_append_left l]
    exact e
  | _ => exact hv
theorem items_lt {h : PHeap} {m : Nat} {xs : List PV} (hv : itemsOf h (.ref m) = some xs) : m < h.length := by
  have e : (match h[m]? with
      | some (.lst xs) => some xs
      | _ => none) = some xs := hv
  rcases Nat.lt_or_ge m h.length with l | l
  · exact l
  · rw [List.getElem?_eq_none l] at e; cases e
theorem pure_judge_steps (vs : List PV) (h : PHeap) (Q : PQ) (Ex : PXQ) (_ : vs.length = 4) (hh : sp_judge vs h Q Ex) : t_judge_steps sp_few sp_is_serial (body (fzQ h Q) (fzX h Ex)) (pstart 10 vs) h := by
  obtain ⟨a, b, n, v, ans, rfl, jk, k⟩ := hh
  have hty : (tyOf h v).isSome = true := by
    rcases jk with ⟨t, e, _⟩ | ⟨xs, _, e, _⟩ <;> rw [e] <;> rfl
  have hx := ty_notExc hty
  show t_judge_steps sp_few sp_is_serial (body (fzQ h Q) (fzX h Ex)) [some (.int a), some (.int b), some (.int n), some v, none, none, none, none, none, none] h
  rw [u_judge_steps_eq]
  unfold u_judge_steps_0
  refine few_run (pv_var rfl rfl) (pv_var rfl rfl) (pv_var rfl rfl) ?_
  cases hf : fewO a b n with
  | error e =>
    obtain ⟨c, x⟩ := e
    rw [hf] at k
    obtain ⟨i, rfl⟩ := fewO_err hf
    exact fzX_h (.int i) k
  | ok w =>
    rw [hf] at k
    obtain ⟨sa, sb, m, rfl, hm, rfl⟩ := fewO_ok hf
    clear hf
    have k : Q (.bl (ans m)) h := k
    have F := few_le a b m hm
    show u_judge_steps_1 sp_few sp_is_serial (body (fzQ h Q) (fzX h Ex)) [some (.int a), some (.int b), some (.int m), some v, some (.int (few a b m)), none, none, none, none, none] h
    unfold u_judge_steps_1
    have I : ∀ t, tyOf h v = some t → Th h (pNot (pT (pUn (rIsi "list") (pVar 3)))) [some (.int a), some (.int b), some (.int m), some v, some (.int (few a b m)), none, none, none, none, none] (!isiB t "list") := fun t e => th_not (th_t (ph_un (ph_var rfl hx) fun Q q => by rw [e_isi e]; exact q))
    rcases jk with ⟨t, et, ef, ea⟩ | ⟨xs, ei, et, lx, mx, ea⟩
    · rw [ea] at k
      refine hq_ifT (th_cong (th_or (b2 := true) (I t et) fun e => by rw [ef] at e; cases e) (by rw [ef]; rfl)) (st_rt pv_c ?_)
      exact fzQ_h (.bl _) k
    · rw [ea] at k
      unfold judgeF at k
      have T : Th h (pOr (pNot (pT (pUn (rIsi "list") (pVar 3)))) (pB (pOp MP.rNeP (pCB MP.rLen (pCons (pVar 3) pNil)) (pVar 4)))) [some (.int a), some (.int b), some (.int m), some v, some (.int (few a b m)), none, none, none, none, none] (!decide ((xs.length : Int) = few a b m)) := by
        refine th_cong (th_or (I _ et) fun _ => th_b (ph_op (w := .bl (!decide ((xs.length : Int) = few a b m))) (ph_lenI (ph_var rfl hx) ei et) (ph_var rfl rfl) fun Q q => by rw [e_ne_ii]; exact q)) ?_
        show (!true || _) = _
        rfl
      by_cases c1 : (xs.length : Int) = few a b m
      · rw [decide_eq_true c1] at T k
        refine hq_ifF T ?_
        unfold u_judge_steps_2
        have T2 : Th h (pNot (pT (pCT MP.rAllI (pLc (pIter (pVar 3)) (.nm 7) pYes (pCall (gd 1 sp_is_serial) (pCons (pVar 7) pNil)) [7])))) [some (.int a), some (.int b), some (.int m), some v, some (.int (few a b m)), none, none, none, none, none] (!xs.all isSerV) := th_not (th_t (ph_allI rfl ei (by omega) fun y hy => sp_isSer_ph rfl (mx y hy)))
        cases hs : xs.all isSerV with
        | false =>
          rw [hs] at T2 k
          exact hq_ifT T2 (st_rt pv_c (fzQ_h (.bl _) k))
        | true =>
          rw [hs] at T2 k
          refine hq_ifF T2 ?_
          have ex := ints_ser xs hs
          generalize intsOf xs = ws at ex k
          subst ex
          clear T2 T I hs mx
          have lw : (ws.map PV.int).length = ws.length := List.length_map _
          unfold u_judge_steps_3 u_judge_steps_4 u_judge_steps_5
          refine hq_new (pha_tmp (pha_cons ph_c pha_nil)) (sq_asg (pv_var rfl rfl) ?_)
          refine sq_forI (v := v) rfl (items_app ei _) fun ok hok => ?_
          refine judge_loop (Q := Q) rfl (fun x => hok _ fun j e => ?_) rfl ws [] 0 a none none (by rw [lw] at lx; simp; omega) ?_
          · subst e
            have l := items_lt ei
            rw [List.getElem?_append_left l, List.getElem?_append_left l]
          · unfold isWay at k
            cases hg : gapsOk a ws with
            | false => rw [hg] at k; exact k
            | true =>
              rw [hg] at k
              rw [if_pos rfl]
              intro o7 o8
              show u_judge_steps_6 sp_few sp_is_serial (body (fzQ h Q) (fzX h Ex)) [some (.int a), some (.int b), some (.int m), some v, some (.int (few a b m)), some (.ref h.length), some (.int (lastOf a ws)), o7, o8, none] (h ++ [.lst ((plF 0 a ws).map .int)])
              unfold u_judge_steps_6 u_judge_steps_7
              have T3 : Tv (pB (pOp MP.rNeP (pVar 6) (pVar 1))) [some (.int a), some (.int b), some (.int m), some v, some (.int (few a b m)), some (.ref h.length), some (.int (lastOf a ws)), o7, o8, none] (!decide (lastOf a ws = b)) := tv_b (pv_op (pv_var rfl rfl) (pv_var rfl rfl) fun _ _ => e_ne_ii)
              cases hl : decide (lastOf a ws = b) with
              | false =>
                rw [hl, Bool.and_false] at k
                rw [hl] at T3
                exact sq_ifT T3 (st_rt pv_c (fzQ_id (f := 0) (.bl _) k))
              | true =>
                rw [hl, Bool.and_true] at k
                rw [hl] at T3
                refine sq_ifF T3 ?_
                have hc : (h ++ [Cell.lst ((plF 0 a ws).map .int)])[h.length]? = some (.lst ((plF 0 a ws).map .int)) := List.getElem?_concat_length
                have lp := plF_len 0 a ws
                refine ht_rt (ph_allR2 (lo := 1) (n := ws.length) (g := fun k => decide ((plF 0 a ws).getD (k + 1) 0 - (plF 0 a ws).getD (k - m) 0 ≤ 2147483647)) pv_c (pv_cong (pv_op (pv_var rfl rfl) pv_c fun _ _ => e_add_ii) (by congr 1; rw [← c1, lw]; omega)) (by rw [lw] at lx; omega) fun j hj => ?_) (fzQ_id (f := 0) (.bl _) k)
                refine ph_op (ph_op (w := .int ((plF 0 a ws).getD (j + 1) 0 - (plF 0 a ws).getD (j - m) 0)) (ph_ixc (w := .int ((plF 0 a ws).getD (j + 1) 0)) (ph_var rfl rfl) hc (ph_var (v := .int (1 + j : Nat)) rfl rfl) (by rw [Nat.add_comm 1 j]; exact at_nat (by omega))) (ph_ixc (j := ((j - m : Nat) : Int)) (ph_var rfl rfl) hc (ph_cong (ph_cb (w := .int (if (((1 + j : Nat) : Int) - m - 1) > 0 then (((1 + j : Nat) : Int) - m - 1) else 0)) (pha_cons ph_c (pha_cons (ph_op (w := .int (((1 + j : Nat) : Int) - m - 1)) (ph_op (w := .int (((1 + j : Nat) : Int) - m)) (ph_var rfl rfl) (ph_var rfl rfl) fun Q q => q) ph_c fun Q q => q) pha_nil)) fun Q q => q) (by congr 1; split <;> omega)) (at_nat (by omega))) fun Q q => q) ph_c fun Q q => by rw [e_le]; exact q
      · rw [decide_eq_false c1] at T k
        exact hq_ifT T (st_rt pv_c (fzQ_h (.bl _) k))
end L_k25
set_option maxHeartbeats 4000000
/-! P7_k25: errors. -/
namespace L_k25
open PySem MP TL
def errO (w a b n : Int) : Out := if w = 0 then newO a b else if w = 1 then furO a n else if w = 2 then newestO [b, a, b] else fewO a b n
def errT (c : Str) (x : PV) : PV := .tup [.bl (catches c "InvalidSerial"), .bl (catches c "InvalidNumber"), x]
def errR (o : Out) : PV := match o with
  | .ok _ => .non
  | .error (c, x) => errT c x
def sp_error : PSp := fun vs h Q _ => ∃ w a b n : Int, vs = [.int w, .int a, .int b, .int n] ∧ 0 ≤ w ∧ w ≤ 5 ∧ Q (errR (errO w a b n)) h
def Fine (o : Out) : Prop := ∀ c x, o = .error (c, x) → c ∈ es ∧ ∃ i : Int, x = .int i
theorem m_s : ("InvalidSerial" : Str) ∈ es := by decide +kernel
theorem m_n : ("InvalidNumber" : Str) ∈ es := by decide +kernel
theorem fine_s (i : Int) : Fine (.error ("InvalidSerial", .int i)) := fun c x e => by cases e; exact ⟨m_s, i, rfl⟩
theorem fine_n (i : Int) : Fine (.error ("InvalidNumber", .int i)) := fun c x e => by cases e; exact ⟨m_n, i, rfl⟩
theorem fine_ok (v : PV) : Fine (.ok v) := fun c x e => by cases e
theorem fine_new (a b : Int) : Fine (newO a b) := by
  unfold newO
  split
  · split
    · exact fine_ok _
    · exact fine_s _
  · exact fine_s _
theorem fine_fur (a b : Int) : Fine (furO a b) := by
  unfold furO
  split
  · split
    · exact fine_n _
    · exact fine_ok _
  · exact fine_s _
theorem fine_few (a b n : Int) : Fine (fewO a b n) := by
  unfold fewO
  split
  · split
    · split
      · exact fine_ok _
      · exact fine_n _
    · exact fine_s _
  · exact fine_s _
theorem fine_newest (xs : List Int) : Fine (newestO xs) := by
  unfold newestO
  split
  · exact fine_s _
  · exact fine_ok _
theorem pure__law_error (vs : List PV) (h : PHeap) (Q : PQ) (Ex : PXQ) (_ : vs.length = 4) (hh : sp_error vs h Q Ex) : t__law_error sp_newer sp_further sp_newest sp_few sp_steps sp_judge (body (fzQ h Q) (fzX h Ex)) (pstart 6 vs) h := by
  obtain ⟨w, a, b, n, rfl, w0, w5, k⟩ := hh
  show t__law_error sp_newer sp_further sp_newest sp_few sp_steps sp_judge (body (fzQ h Q) (fzX h Ex)) [some (.int w), some (.int a), some (.int b), some (.int n), none, none] h
  unfold t__law_error
  refine sq_asg pv_c ?_
  show pSeq (pTryT es _ "TreeError" 5 _) (pRet (pVar 4)) (body (fzQ h Q) (fzX h Ex)) [some (.int w), some (.int a), some (.int b), some (.int n), some .non, none] h
  -- what comes behind the try
  have ok_end : ∀ t, errR (errO w a b n) = .non → pRet (pVar 4) (body (fzQ h Q) (fzX h Ex)) [some (.int w), some (.int a), some (.int b), some (.int n), some .non, none] (h ++ t) := fun t e => by
    rw [e] at k
    exact st_rt (pv_var rfl rfl) (fzQ_id (f := 0) .non k)
  have ex_end : ∀ c x, c ∈ es → (∃ i : Int, x = .int i) → errR (errO w a b n) = errT c x → exAsT es "TreeError" 5 (pAsg (pTup (pCons (pErrIs es 5 (fun c => catches c "InvalidSerial")) (pCons (pErrIs es 5 (fun c => catches c "InvalidNumber")) (pCons (pErrVal es 5) (pNil))))) (.nm 4)) { body (fzQ h Q) (fzX h Ex) with nx := pRet (pVar 4) (body (fzQ h Q) (fzX h Ex)) } c x [some (.int w), some (.int a), some (.int b), some (.int n), some .non, none] h := fun c x mc ⟨i, ex⟩ e => by
    subst ex
    refine ⟨mc, ?_⟩
    unfold exAs
    rw [if_pos (by unfold catches; simp)]
    refine ⟨mc, mc, mc, by rw [sizeLine_eq]; show 3 ≤ 16777216; decide, ?_⟩
    show pRet (pVar 4) (body (fzQ h Q) (fzX h Ex)) [some (.int w), some (.int a), some (.int b), some (.int n), some (errT c (.int i)), none] h
    rw [e] at k
    refine st_rt (pv_var rfl rfl) (fzQ_h ?_ k)
    exact .tup (.cons (.bl _) (.cons (.bl _) (.cons (.int _) .nil)))
  have run : ∀ o : Out, Fine o → errO w a b n = o → fin o h (fun _ h3 => pRet (pVar 4) (body (fzQ h Q) (fzX h Ex)) [some (.int w), some (.int a), some (.int b), some (.int n), some .non, none] h3) (fun c x h' => exAsT es "TreeError" 5 (pAsg (pTup (pCons (pErrIs es 5 (fun c => catches c "InvalidSerial")) (pCons (pErrIs es 5 (fun c => catches c "InvalidNumber")) (pCons (pErrVal es 5) (pNil))))) (.nm 4)) { body (fzQ h Q) (fzX h Ex) with nx := pRet (pVar 4) (body (fzQ h Q) (fzX h Ex)) } c x [some (.int w), some (.int a), some (.int b), some (.int n), some .non, none] h') := fun o f e => by
    cases o with
    | ok v =>
      have := ok_end [] (by rw [e]; rfl)
      rw [List.append_nil] at this
      exact this
    | error z =>
      obtain ⟨c, x⟩ := z
      obtain ⟨mc, mx⟩ := f c x rfl
      exact ex_end c x mc mx (by rw [e]; rfl)
  have T : ∀ j : Int, Tv (pB (pOp MP.rEqP (pVar 0) (pC (.int j)))) [some (.int w), some (.int a), some (.int b), some (.int n), some .non, none] (decide (w = j)) := fun j => tv_b (pv_op (pv_var rfl rfl) pv_c fun _ _ => e_eq_ii)
  unfold pSeq pTryT
  have V : ∀ (i : Nat) (v : PV), [some (PV.int w), some (.int a), some (.int b), some (.int n), some .non, none][i]? = some (some v) → isExc v = false → Pv (pVar i) [some (.int w), some (.int a), some (.int b), some (.int n), some .non, none] v := fun i v e x => pv_var e x
  have A1 := pva_cons (V 1 (.int a) rfl rfl) (pva_cons (V 2 (.int b) rfl rfl) (pva_cons (V 3 (.int n) rfl rfl) pva_nil))
  by_cases c0 : w = 0
  · refine st_ifT (tv_cong (T 0) (decide_eq_true c0)) ?_
    exact pva_cons (V 1 (.int a) rfl rfl) (pva_cons (V 2 (.int b) rfl rfl) pva_nil) h (fun vs h1 => gd 2 sp_newer vs h1 _ _) _ ⟨rfl, a, b, rfl, run _ (fine_new a b) (by unfold errO; rw [if_pos c0])⟩
  refine st_ifF (tv_cong (T 0) (decide_eq_false c0)) ?_
  by_cases c1 : w = 1
  · refine st_ifT (tv_cong (T 1) (decide_eq_true c1)) ?_
    exact pva_cons (V 1 (.int a) rfl rfl) (pva_cons (V 3 (.int n) rfl rfl) pva_nil) h (fun vs h1 => gd 2 sp_further vs h1 _ _) _ ⟨rfl, a, n, rfl, run _ (fine_fur a n) (by unfold errO; rw [if_neg c0, if_pos c1])⟩
  refine st_ifF (tv_cong (T 1) (decide_eq_false c1)) ?_
  by_cases c2 : w = 2
  · refine st_ifT (tv_cong (T 2) (decide_eq_true c2)) ?_
    exact pva_cons (pv_fz (pva_tmp (pva_cons (V 2 (.int b) rfl rfl) (pva_cons (V 1 (.int a) rfl rfl) (pva_cons (V 2 (.int b) rfl rfl) pva_nil))))) pva_nil h (fun vs h1 => gd 1 sp_newest vs h1 _ _) _ ⟨rfl, [b, a, b], rfl, by show 3 ≤ 1000; decide, run _ (fine_newest _) (by unfold errO; rw [if_neg c0, if_neg c1, if_pos c2])⟩
  refine st_ifF (tv_cong (T 2) (decide_eq_false c2)) ?_
  have e3 : errO w a b n = fewO a b n := by unfold errO; rw [if_neg c0, if_neg c1, if_neg c2]
  by_cases c3 : w = 3
  · refine st_ifT (tv_cong (T 3) (decide_eq_true c3)) ?_
    exact A1 h (fun vs h1 => gd 3 sp_few vs h1 _ _) _ ⟨rfl, a, b, n, rfl, run _ (fine_few a b n) e3⟩
  refine st_ifF (tv_cong (T 3) (decide_eq_false c3)) ?_
  by_cases c4 : w = 4
  · refine st_ifT (tv_cong (T 4) (decide_eq_true c4)) ?_
    refine A1 h (fun vs h1 => gd 3 sp_steps vs h1 _ _) _ ⟨rfl, a, b, n, rfl, ?_⟩
    have R := run _ (fine_few a b n) e3
    cases hf : fewO a b n with
    | error z => rw [hf] at R; exact R
    | ok v =>
      intro ws t j _ _ _ _
      exact ok_end t (by rw [e3, hf]; rfl)
  refine st_ifF (tv_cong (T 4) (decide_eq_false c4)) ?_
  refine pva_cons (V 1 (.int a) rfl rfl) (pva_cons (V 2 (.int b) rfl rfl) (pva_cons (V 3 (.int n) rfl rfl) (pva_cons (pv_fz (pva_tmp pva_nil)) pva_nil))) h (fun vs h1 => gd 4 sp_judge vs h1 _ _) _ ⟨rfl, a, b, n, .fl [], fun m => judgeF a b m [], rfl, .inr ⟨[], rfl, rfl, by decide, fun x hx => by (cases hx), fun _ => rfl⟩, ?_⟩
  have R := run _ (fine_few a b n) e3
  cases hf : fewO a b n with
  | error z => rw [hf] at R; exact R
  | ok v => rw [hf] at R; exact R
/-! ### errors as they are due -/
theorem pf_error {w a b n : Int} {v : PV} (w0 : 0 ≤ w) (w5 : w ≤ 5) (e : errR (errO w a b n) = v) : Pf sp_error [.int w, .int a, .int b, .int n] v := fun h Q E q => ⟨w, a, b, n, rfl, w0, w5, by rw [e]; exact q⟩
def TF (i : Int) : PV := .tup [.bl true, .bl false, .int i]
def FT (i : Int) : PV := .tup [.bl false, .bl true, .int i]
theorem errT_s (i : Int) : errR (.error ("InvalidSerial", .int i)) = TF i := by
  show errT _ _ = _
  unfold errT TF
  rw [show catches "InvalidSerial" "InvalidSerial" = true by decide +kernel, show catches "InvalidSerial" "InvalidNumber" = false by decide +kernel]
theorem errT_n (i : Int) : errR (.error ("InvalidNumber", .int i)) = FT i := by
  show errT _ _ = _
  unfold errT FT
  rw [show catches "InvalidNumber" "InvalidSerial" = false by decide +kernel, show catches "InvalidNumber" "InvalidNumber" = true by decide +kernel]
theorem due_1 {w x b : Int} (hx : ser x = false) (hb : ser b = true) (n : Int) : errR (errO w x b n) = TF x := by
  unfold errO newO furO newestO fewO
  simp only [hx, hb, Bool.false_eq_true, if_false, List.find?_cons, Bool.not_true, Bool.not_false]
  split
  · exact errT_s x
  · split
    · exact errT_s x
    · split <;> exact errT_s x
theorem due_2 {w a x n : Int} (ha : ser a = true) (hx : ser x = false) (h1 : w ≠ 1) : errR (errO w a x n) = TF x := by
  unfold errO newO furO newestO fewO
  simp only [hx, ha, Bool.false_eq_true, if_true, if_false, List.find?_cons, Bool.not_true, Bool.not_false, if_neg h1]
  split
  · exact errT_s x
  · split <;> exact errT_s x
theorem due_3 {w x y n : Int} (hx : ser x = false) (hy : ser y = false) : errR (errO w x y n) = TF (if w = 2 then y else x) := by
  unfold errO newO furO newestO fewO
  simp only [hx, hy, Bool.false_eq_true, if_false, List.find?_cons, Bool.not_false]
  by_cases c0 : w = 0
  · rw [if_pos c0, if_neg (by omega)]; exact errT_s x
  · by_cases c1 : w = 1
    · rw [if_neg c0, if_pos c1, if_neg (by omega)]; exact errT_s x
    · by_cases c2 : w = 2
      · rw [if_neg c0, if_neg c1, if_pos c2, if_pos c2]; exact errT_s y
      · rw [if_neg c0, if_neg c1, if_neg c2, if_neg c2]; exact errT_s x
theorem due_4 {w a b n : Int} (ha : ser a = true) (hb : ser b = true) (hn : 0 ≤ n) (hn2 : w = 1 ∨ n ≤ 1000) : errR (errO w a b n) = .non := by
  unfold errO newO furO newestO fewO
  simp only [ha, hb, if_true, List.find?_cons, Bool.not_true, List.find?_nil]
  by_cases c0 : w = 0
  · rw [if_pos c0]; rfl
  · by_cases c1 : w = 1
    · rw [if_neg c0, if_pos c1, if_neg (by omega)]; rfl
    · by_cases c2 : w = 2
      · rw [if_neg c0, if_neg c1, if_pos c2]; rfl
      · rw [if_neg c0, if_neg c1, if_neg c2, if_pos (by omega)]; rfl
theorem due_5 {a b n : Int} (ha : ser a = true) (hn : n < 0) : errR (errO 1 a b n) = FT n := by
  unfold errO furO
  rw [if_neg (by decide), if_pos rfl, if_pos ha, if_pos hn]
  exact errT_n n
theorem due_6 {w a b n : Int} (hw : 3 ≤ w) (ha : ser a = true) (hb : ser b = true) (hn : ¬(0 ≤ n ∧ n ≤ 1000)) : errR (errO w a b n) = FT n := by
  unfold errO fewO
  rw [if_neg (by omega), if_neg (by omega), if_neg (by omega), if_pos ha, if_pos hb, if_neg hn]
  exact errT_n n
theorem r0_TF (i : Int) : R0 1 (TF i) := ⟨_, rfl⟩
theorem r0_FT (i : Int) : R0 1 (FT i) := ⟨_, rfl⟩
end L_k25
set_option maxHeartbeats 4000000
/-! P8_k25: serials drawn, errors as they are due. -/
namespace L_k25
open PySem MP TL
theorem sq_ifG {p w n : Nat} {e : PTE} {a b m : Int} {s1 s2 s : PTS} {D : PD} {τ : PSt} {h : PHeap} (g : Ge p w e τ (InI a b)) (P : Pot h p (n + w)) (k1 : ∀ h', Pot h' p n → Pe p h h' → s1 { D with nx := s D } τ h') (k2 : ∀ h', Pot h' p n → Pe p h h' → s2 { D with nx := s D } τ h') : pSeq (pIfS (pB (pOp MP.rEqP e (pC (.int m)))) s1 s2) s D τ h := by
  refine eqI_run g P fun i h' _ _ P' e' => ?_
  cases decide (i = m) with
  | true => exact k1 h' P' e'
  | false => exact k2 h' P' e'
theorem st_ifG {p w n : Nat} {e : PTE} {a b m : Int} {s1 s2 : PTS} {D : PD} {τ : PSt} {h : PHeap} (g : Ge p w e τ (InI a b)) (P : Pot h p (n + w)) (k1 : ∀ h', Pot h' p n → Pe p h h' → s1 D τ h') (k2 : ∀ h', Pot h' p n → Pe p h h' → s2 D τ h') : pIfS (pB (pOp MP.rEqP e (pC (.int m)))) s1 s2 D τ h := by
  refine eqI_run g P fun i h' _ _ P' e' => ?_
  cases decide (i = m) with
  | true => exact k1 h' P' e'
  | false => exact k2 h' P' e'
theorem st_asgG {p w n i : Nat} {e : PTE} {T : PV → Prop} {D : PD} {τ : PSt} {h : PHeap} (g : Ge p w e τ T) (P : Pot h p (n + w)) (k : ∀ v h', T v → Pot h' p n → Pe p h h' → D.nx (τ.set i (some v)) h') : pAsg e (.nm i) D τ h := g h n _ _ P k
def AnyI (v : PV) : Prop := ∃ i : Int, v = .int i
/-- an int and an int drawn -/
theorem ge_opI {p w : Nat} {e f : PTE} {τ : PSt} {r : POp} {F : Int → Int → Int} (hr : ∀ i j h Q, r (.int i) (.int j) h Q = Q (.int (F i j)) h) {a b c : Int} {T : PV → Prop} (x : Pv e τ (.int c)) (g : Ge p w f τ (InI a b)) (ht : ∀ j, a ≤ j → j < b → T (.int (F c j))) : Ge p w (pOp r e f) τ T := fun h n Q E P k => x h _ E (by
  refine g h n (fun y h2 => r (.int c) y h2 Q) E P fun v h' hv P' e' => ?_
  obtain ⟨j, rfl, j0, j1⟩ := hv
  show r (.int c) (.int j) h' Q
  rw [hr]
  exact k _ h' (ht j j0 j1) P' e')
theorem ge_opR {p w : Nat} {e f : PTE} {τ : PSt} {r : POp} {F : Int → Int → Int} (hr : ∀ i j h Q, r (.int i) (.int j) h Q = Q (.int (F i j)) h) {T : PV → Prop} {c : Int} (g : Ge p w e τ AnyI) (x : Pv f τ (.int c)) (ht : ∀ j, T (.int (F j c))) : Ge p w (pOp r e f) τ T := fun h n Q E P k => by
  refine g h n _ E P fun v h' hv P' e' => ?_
  obtain ⟨j, rfl⟩ := hv
  refine x h' _ E ?_
  show r (.int j) (.int c) h' Q
  rw [hr]
  exact k _ h' (ht j) P' e'
theorem dr {p i : Nat} {τ : PSt} {e : PTE} {m : Int} (hτ : τ[i]? = some (some (.ref p))) (hm : Pv e τ (.int m)) (m0 : 0 < m) (m1 : m < 10 ^ 45) : Ge p 1 (pCall (gd 2 sp_dr) (pCons (pVar i) (pCons e pNil))) τ (InI 0 m) := ge_draw hτ hm m0 m1
theorem drc {p i : Nat} {τ : PSt} {m : Int} (hτ : τ[i]? = some (some (.ref p))) (m0 : 0 < m) (m1 : m < 10 ^ 45) : Ge p 1 (pCall (gd 2 sp_dr) (pCons (pVar i) (pCons (pC (.int m)) pNil))) τ (InI 0 m) := ge_draw hτ pv_c m0 m1
theorem inI_of {a b i : Int} (h0 : a ≤ i) (h1 : i < b) : InI a b (.int i) := ⟨i, rfl, h0, h1⟩
def sp_serials : PSp := spG 12 (fun r => r = []) (fun _ v => ∃ (a b : Int) (m : Nat), v = .tup [.int a, .int b, .int m] ∧ ser a = true ∧ ser b = true ∧ m ≤ 1000)
theorem serials_end {p n : Nat} {h h0 : PHeap} {Q : PQ} {Ex : PXQ} {a f : Int} {sp : PSp} (hs : sp = sp_dr) (sa : ser a = true) (P : Pot h p (n + 5)) (e0 : Pe p h0 h) (k : ∀ v h', (∃ (a b : Int) (m : Nat), v = .tup [.int a, .int b, .int m] ∧ ser a = true ∧ ser b = true ∧ m ≤ 1000) → Pot h' p n → Pe p h0 h' → Q v h') :
    u_law_serials_3 sp (body Q Ex) [some (.ref p), some (.int a), some (.int f), none] h := by
  subst hs
  unfold u_law_serials_3 u_law_serials_4
  have up : ∀ {m : Int} {v : PV}, InI 0 m v → m ≤ 1001 → InI 0 1001 v := fun h l => inI_up h l
  refine sq_asgG (w := 4) (n := n + 1) (T := fun v => ∃ vs, v = .fl vs ∧ (vs.length = 4 ∧ ∀ x ∈ vs, InI 0 1001 x)) (ge_up (ge_fz (gea_tmp' (gea_cons' (ge_imp (drc rfl (by decide) (by decide)) fun v z => up z (by decide)) (gea_cons' (ge_imp (drc rfl (by decide) (by decide)) fun v z => up z (by decide)) (gea_cons' (ge_opI (F := fun i j => i + j) (fun _ _ _ _ => e_add_ii) pv_c (drc rfl (by decide) (by decide)) fun j j0 j1 => inI_of (by omega) (by omega)) (gea_cons' (drc rfl (by decide) (by decide)) gea_nil')))))) (by omega)) P fun v h1 ⟨vs, ev, lv, mv⟩ P1 e1 => ?_
  subst ev
  refine st_rtG (w := 1) (n := n) (T := fun v => ∃ m : Nat, v = .tup [.int a, .int ((a + f) % 4294967296), .int m] ∧ m ≤ 1000) ?_ P1 fun v h2 ⟨m, ev, lm⟩ P2 e2 => ?_
  · refine ge_imp (ge_up (ge_tup (gea_cons (ge_pv (T := fun v => v = .int a) (pv_var rfl rfl) rfl) (gea_cons (ge_pv (T := fun v => v = .int ((a + f) % 4294967296)) (pv_op' (pv_cb (w := .int (a + f)) (pva_cons (pv_op (w := .int (a + f)) (pv_var rfl rfl) (pv_var rfl rfl) fun _ _ => e_addV_ii) pva_nil) fun _ _ => e_int_i) pw32 fun _ _ q => ⟨by decide, q⟩) rfl) (gea_cons (ge_ix (n := 4) (T := InI 0 1001) (ge_pv (T := Itm 4 (InI 0 1001)) (pv_var rfl rfl) ⟨vs, .inl rfl, lv, mv⟩) (drc rfl (by decide) (by decide))) gea_nil))) fun vs ⟨v, us, e, _, v2, us2, e2, _, v3, us3, e3, _, e4⟩ => by subst e e2 e3 e4; show 3 ≤ 100000; decide) (by omega)) fun v ⟨vs, ev, v1, us, e, t1, v2, us2, e2, t2, v3, us3, e3, ⟨i, ei, i0, i1⟩, e4⟩ => by
      subst ev e e2 e3 e4 t1 t2 ei
      have e5 : (i.toNat : Int) = i := by omega
      exact ⟨i.toNat, by rw [e5], by omega⟩
  · subst ev
    exact k _ h2 ⟨a, _, m, rfl, sa, ser_iff.mpr (by omega), lm⟩ P2 ((e0.trans e1).trans e2)
theorem pure__law_serials (vs : List PV) (h : PHeap) (Q : PQ) (Ex : PXQ) (_ : vs.length = 1) (hh : sp_serials vs h Q Ex) : t__law_serials sp_dr (body Q Ex) (pstart 4 vs) h := by
  obtain ⟨p, n, rest, rfl, rfl, P, k⟩ := hh
  show t__law_serials sp_dr (body Q Ex) [some (.ref p), none, none, none] h
  rw [u_law_serials_eq]
  unfold u_law_serials_0
  refine sq_asgG (w := 3) (n := n + 9) (T := InI 0 4294967296) (ge_up (ge_ixT (n := 4) (gea_tmp' (gea_cons' (ge_pv pv_c (inI_of (by decide) (by decide))) (gea_cons' (ge_pv (pv_op (w := .int 4294967295) pw32 pv_c fun _ _ => e_sub) (inI_of (by decide) (by decide))) (gea_cons' (dr rfl pw32 (by decide) (by decide)) (gea_cons' (ge_imp (drc rfl (by decide) (by decide)) fun v z => inI_up z (by decide)) gea_nil'))))) (drc rfl (by decide) (by decide))) (by omega)) P fun v h1 ⟨a, ea, a0, a1⟩ P1 e1 => ?_
  subst ea
  have sa : ser a = true := ser_iff.mpr ⟨a0, a1⟩
  show u_law_serials_1 sp_dr (body Q Ex) [some (.ref p), some (.int a), none, none] h1
  unfold u_law_serials_1
  refine sq_asgG (w := 1) (n := n + 8) (T := AnyI) (ge_up (ge_ixT (n := 6) (gea_tmp' (gea_cons' (ge_pv pv_c ⟨_, rfl⟩) (gea_cons' (ge_pv pv_c ⟨_, rfl⟩) (gea_cons' (ge_pv (pv_op (w := .int 2147483647) pw31 pv_c fun _ _ => e_sub) ⟨_, rfl⟩) (gea_cons' (ge_pv pw31 ⟨_, rfl⟩) (gea_cons' (ge_pv (pv_op (w := .int 4294967294) pw32 pv_c fun _ _ => e_sub) ⟨_, rfl⟩) (gea_cons' (ge_pv (pv_op (w := .int 4294967295) pw32 pv_c fun _ _ => e_sub) ⟨_, rfl⟩) gea_nil'))))))) (drc rfl (by decide) (by decide))) (by omega)) P1 fun v h2 ⟨f, ef⟩ P2 e2 => ?_
  subst ef
  show u_law_serials_2 sp_dr (body Q Ex) [some (.ref p), some (.int a), some (.int f), none] h2
  unfold u_law_serials_2 u_law_serials_2_e_0
  have e12 := e1.trans e2
  refine sq_ifG (w := 1) (n := n + 7) (drc rfl (by decide) (by decide)) P2 (fun h3 P3 e3 => ?_) (fun h3 P3 e3 => ?_)
  · refine st_asgG (w := 1) (n := n + 6) (dr rfl pw32 (by decide) (by decide)) P3 fun v h4 ⟨f2, ef, _, _⟩ P4 e4 => ?_
    subst ef
    exact serials_end rfl sa (P4.le (by omega)) ((e12.trans e3).trans e4) k
  · refine st_ifG (w := 1) (n := n + 6) (drc rfl (by decide) (by decide)) P3 (fun h4 P4 e4 => ?_) (fun h4 P4 e4 => ?_)
    · refine st_asgG (w := 1) (n := n + 5) (T := AnyI) (ge_opR (F := fun i j => i - j) (fun _ _ _ _ => e_sub) (ge_opI (T := AnyI) (F := fun i j => i + j) (fun _ _ _ _ => e_addV_ii) (pv_var (v := .int f) rfl rfl) (drc rfl (by decide) (by decide)) fun j _ _ => ⟨_, rfl⟩) pv_c fun j => ⟨_, rfl⟩) P4 fun v h5 ⟨f2, ef⟩ P5 e5 => ?_
      subst ef
      exact serials_end rfl sa (P5.le (by omega)) (((e12.trans e3).trans e4).trans e5) k
    · exact serials_end rfl sa (P4.le (by omega)) ((e12.trans e3).trans e4) k
/-! ### errors as they are due -/
def sp_errs : PSp := spG 12 (fun r => ∃ a b : Int, r = [.int a, .int b] ∧ ser a = true ∧ ser b = true) (fun _ v => v = .bl true)
def Bad (v : PV) : Prop := ∃ i : Int, v = .int i ∧ ser i = false
theorem bad_of {i : Int} (h : i < 0 ∨ 4294967296 ≤ i) : Bad (.int i) := ⟨i, rfl, by
  cases e : ser i with
  | false => rfl
  | true => have := ser_iff.mp e; omega⟩
def Neg (v : PV) : Prop := ∃ i : Int, v = .int i ∧ i < 0
theorem tv_ne0 {e f : PTE} {τ : PSt} {v : PV} (x : Pv e τ v) (y : Pv f τ v) (r : R0 1 v) : Tv (pB (pOp MP.rNeP e f)) τ false := tv_b (pv_op (w := .bl false) x y fun h Q => e_ne_same r (by decide) h Q)
theorem er {τ : PSt} {e1 e2 e3 e4 : PTE} {w a b n : Int} {v : PV} (x1 : Pv e1 τ (.int w)) (x2 : Pv e2 τ (.int a)) (x3 : Pv e3 τ (.int b)) (x4 : Pv e4 τ (.int n)) (w0 : 0 ≤ w) (w5 : w ≤ 5) (e : errR (errO w a b n) = v) : Pv (pCall (gd 4 sp_error) (pCons e1 (pCons e2 (pCons e3 (pCons e4 pNil))))) τ v := pv_call (pva_cons x1 (pva_cons x2 (pva_cons x3 (pva_cons x4 pva_nil)))) rfl (pf_error w0 w5 e)
theorem pTF {τ : PSt} {e : PTE} {i : Int} (x : Pv e τ (.int i)) : Pv (pTup (pCons (pC (.bl true)) (pCons (pC (.bl false)) (pCons e pNil)))) τ (TF i) := pv_tup (pva_cons pv_c (pva_cons pv_c (pva_cons x pva_nil)))
theorem pFT {τ : PSt} {e : PTE} {i : Int} (x : Pv e τ (.int i)) : Pv (pTup (pCons (pC (.bl false)) (pCons (pC (.bl true)) (pCons e pNil)))) τ (FT i) := pv_tup (pva_cons pv_c (pva_cons pv_c (pva_cons x pva_nil)))
theorem nn_none {τ : PSt} {e : PTE} (x : Pv e τ .non) : Tv (pB (pUn rNotN e)) τ false := tv_b (pv_un (w := .bl false) x fun _ _ => rfl)
theorem sq_forR2 {l u : PTE} {g : Tg} {b s : PTS} {D : PD} {τ : PSt} {h : PHeap} {lo hi : Int} (x : Pv l τ (.int lo)) (y : Pv u τ (.int hi)) (bd : -(2 ^ 62) ≤ lo ∧ lo < 2 ^ 62 ∧ -(2 ^ 62) ≤ hi ∧ hi < 2 ^ 62) (k : forGo g b { D with nx := s D } (fun _ => True) (rngOf lo (hi - lo).toNat) τ h) : pSeq (pFor (pRng2 l u) g b) s D τ h := x h _ _ (y h _ _ ⟨bd, k⟩)
theorem sq_forT {e : PTE} {g : Tg} {b s : PTS} {D : PD} {τ : PSt} {h : PHeap} {xs : List PV} (x : Pv e τ (.tup xs)) (k : forGo g b { D with nx := s D } (fun _ => True) xs τ h) : pSeq (pFor (pIter e) g b) s D τ h := x h _ _ k
theorem sq_forF {e : PTE} {g : Tg} {b s : PTS} {D : PD} {τ : PSt} {h : PHeap} {xs : List PV} (x : Pv e τ (.fl xs)) (k : forGo g b { D with nx := s D } (fun _ => True) xs τ h) : pSeq (pFor (pIter e) g b) s D τ h := x h _ _ k
theorem errs_end {p : Nat} {a b bad worse num : Int} {h : PHeap} {Q : PQ} {Ex : PXQ} (sa : ser a = true) (sb : ser b = true) (hb : ser bad = false) (hw : ser worse = false) (hn : num < 0) (k : Q (.bl true) h) : u_law_errors_right_3 sp_dr sp_error (body Q Ex) [some (.ref p), some (.int a), some (.int b), some (.int bad), some (.int worse), some (.int num), none, none, none] h := by
  unfold u_law_errors_right_3
  refine sq_forR (n := 6) pv_c (by decide) ?_
  refine forGo_inv (fun j τ h' => h' = h ∧ ∃ o6 o7, τ = [some (.ref p), some (.int a), some (.int b), some (.int bad), some (.int worse), some (.int num), o6, o7, none]) _ (fun _ _ _ _ => trivial) (fun τ h' z => ?_) (fun j x τ h' N ej z nn => ?_) _ _ ⟨rfl, none, none, rfl⟩
  · obtain ⟨rfl, o6, o7, rfl⟩ := z
    show u_law_errors_right_4 sp_dr sp_error (body Q Ex) [some (.ref p), some (.int a), some (.int b), some (.int bad), some (.int worse), some (.int num), o6, o7, none] h'
    unfold u_law_errors_right_4
    refine sq_ifF (tv_or (b1 := false) (b2 := false) (tv_ne0 (er pv_c (pv_var rfl rfl) (pv_var rfl rfl) (pv_var rfl rfl) (by decide) (by decide) (due_5 sa hn)) (pFT (pv_var rfl rfl)) (r0_FT _)) fun _ => nn_none (er pv_c (pv_var rfl rfl) (pv_var rfl rfl) (pv_pow pv_c pv_c (p10 (by decide) (by decide))) (by decide) (by decide) (due_4 sa sb (by decide) (.inl rfl)))) ?_
    unfold u_law_errors_right_5
    refine sq_forR2 pv_c pv_c (by decide) ?_
    refine forGo_inv (fun j τ h2 => h2 = h' ∧ ∃ o6 o8, τ = [some (.ref p), some (.int a), some (.int b), some (.int bad), some (.int worse), some (.int num), o6, o7, o8]) _ (fun _ _ _ _ => trivial) (fun τ h2 z => ?_) (fun j x τ h2 N ej z nn => ?_) _ _ ⟨rfl, o6, none, rfl⟩
    · obtain ⟨rfl, o6, o8, rfl⟩ := z
      show u_law_errors_right_6 sp_dr sp_error (body Q Ex) [some (.ref p), some (.int a), some (.int b), some (.int bad), some (.int worse), some (.int num), o6, o7, o8] h2
      unfold u_law_errors_right_6
      exact st_rt pv_c k
    · obtain ⟨rfl, o6, o8, rfl⟩ := z
      obtain ⟨hj, rfl⟩ := rng_at ej
      have hj : j < 3 := hj
      refine ⟨_, rfl, ?_⟩
      show u_law_errors_right_5_b_0 sp_dr sp_error _ [some (.ref p), some (.int a), some (.int b), some (.int bad), some (.int worse), some (.int num), some (.int (3 + (j : Int))), o7, o8] h2
      unfold u_law_errors_right_5_b_0
      refine sq_forT (pv_tup (pva_cons (pv_var (v := .int num) rfl rfl) (pva_cons (pv_c (v := .int 1001)) (pva_cons (pv_op (w := .int (1001 - num)) pv_c (pv_var (v := .int num) rfl rfl) fun _ _ => e_sub) pva_nil)))) ?_
      refine forGo_inv (fun i τ h3 => h3 = h2 ∧ ∃ o8, τ = [some (.ref p), some (.int a), some (.int b), some (.int bad), some (.int worse), some (.int num), some (.int (3 + (j : Int))), o7, o8]) _ (fun _ _ _ _ => trivial) (fun τ h3 z => ?_) (fun i x τ h3 N2 ei z nn2 => ?_) _ _ ⟨rfl, o8, rfl⟩
      · obtain ⟨rfl, o8, rfl⟩ := z
        show u_law_errors_right_5_b_1 sp_dr sp_error _ [some (.ref p), some (.int a), some (.int b), some (.int bad), some (.int worse), some (.int num), some (.int (3 + (j : Int))), o7, o8] h3
        unfold u_law_errors_right_5_b_1
        exact st_ifF (nn_none (er (pv_var rfl rfl) (pv_var rfl rfl) (pv_var rfl rfl) pv_c (by omega) (by omega) (due_4 sa sb (by decide) (.inr (by decide))))) (nn _ _ ⟨rfl, _, _, rfl⟩)
      · obtain ⟨rfl, o8, rfl⟩ := z
        have hx : ∃ y : Int, x = .int y ∧ ¬(0 ≤ y ∧ y ≤ 1000) := by
          have := List.mem_of_getElem? ei
          simp only [List.mem_cons, List.not_mem_nil, or_false] at this
          rcases this with e | e | e
          · exact ⟨_, e, by omega⟩
          · exact ⟨_, e, by omega⟩
          · exact ⟨_, e, by omega⟩
        obtain ⟨y, rfl, hy⟩ := hx
        refine ⟨_, rfl, ?_⟩
        show u_law_errors_right_5_b_0_b_0 sp_dr sp_error _ [some (.ref p), some (.int a), some (.int b), some (.int bad), some (.int worse), some (.int num), some (.int (3 + (j : Int))), o7, some (.int y)] h3
        unfold u_law_errors_right_5_b_0_b_0
        exact st_ifF (tv_ne0 (er (pv_var rfl rfl) (pv_var rfl rfl) (pv_var rfl rfl) (pv_var rfl rfl) (by omega) (by omega) (due_6 (by omega) sa sb hy)) (pFT (pv_var rfl rfl)) (r0_FT _)) (nn2 _ _ ⟨rfl, _, rfl⟩)
  · obtain ⟨rfl, o6, o7, rfl⟩ := z
    obtain ⟨hj, rfl⟩ := rng_at ej
    rw [Int.zero_add] at ej ⊢
    refine ⟨_, rfl, ?_⟩
    show u_law_errors_right_3_b_0 sp_dr sp_error _ [some (.ref p), some (.int a), some (.int b), some (.int bad), some (.int worse), some (.int num), some (.int (j : Int)), o7, none] h'
    unfold u_law_errors_right_3_b_0 u_law_errors_right_3_b_1 u_law_errors_right_3_b_2 u_law_errors_right_3_b_3 u_law_errors_right_3_b_4
    refine sq_ifF (tv_ne0 (er (pv_var rfl rfl) (pv_var rfl rfl) (pv_var rfl rfl) pv_c (by omega) (by omega) (due_1 hb sb 0)) (pTF (pv_var rfl rfl)) (r0_TF _)) ?_
    refine sq_ifF (tv_cong (tv_and (b2 := false) (tv_b (pv_op (w := .bl (!decide ((j : Int) = 1))) (pv_var rfl rfl) pv_c fun _ _ => e_ne_ii)) fun e => tv_ne0 (er (pv_var rfl rfl) (pv_var rfl rfl) (pv_var rfl rfl) pv_c (by omega) (by omega) (due_2 sa hb (by simpa using e))) (pTF (pv_var rfl rfl)) (r0_TF _)) (Bool.and_false _)) ?_
    refine sq_asg (v := .int (if (j : Int) = 2 then worse else bad)) (pv_if (tv_b (pv_op (w := .bl (!decide ((j : Int) = 2))) (pv_var rfl rfl) pv_c fun _ _ => e_ne_ii)) (fun e => pv_cong (pv_var (v := .int bad) rfl rfl) (by rw [if_neg (by simpa using e)])) fun e => pv_cong (pv_var (v := .int worse) rfl rfl) (by rw [if_pos (by simpa using e)])) ?_
    refine sq_ifF (tv_ne0 (er (pv_var rfl rfl) (pv_var rfl rfl) (pv_var rfl rfl) (pv_var rfl rfl) (by omega) (by omega) (due_3 hb hw)) (pTF (pv_var rfl rfl)) (r0_TF _)) ?_
    exact st_ifF (nn_none (er (pv_var rfl rfl) (pv_var rfl rfl) (pv_var rfl rfl) pv_c (by omega) (by omega) (due_4 sa sb (by decide) (.inr (by decide))))) (nn _ _ ⟨rfl, _, _, rfl⟩)
theorem pure__law_errors_right (vs : List PV) (h : PHeap) (Q : PQ) (Ex : PXQ) (_ : vs.length = 3) (hh : sp_errs vs h Q Ex) : t__law_errors_right sp_dr sp_error (body Q Ex) (pstart 9 vs) h := by
  obtain ⟨p, n, rest, rfl, ⟨a, b, rfl, sa, sb⟩, P, k⟩ := hh
  show t__law_errors_right sp_dr sp_error (body Q Ex) [some (.ref p), some (.int a), some (.int b), none, none, none, none, none, none] h
  rw [u_law_errors_right_eq]
  unfold u_law_errors_right_0
  refine sq_asgG (w := 2) (n := n + 10) (T := Bad) (ge_up (ge_ixT (n := 4) (gea_tmp' (gea_cons' (ge_pv (pv_neg pv_c) (bad_of (by decide))) (gea_cons' (ge_pv pw32 (bad_of (by decide))) (gea_cons' (ge_pv (pv_neg (pw (m := 1099511627776) (p2 (by decide) (by decide)) (by decide))) (bad_of (by decide))) (gea_cons' (ge_opI (F := fun i j => i + j) (fun _ _ _ _ => e_add_ii) (pv_op (w := .int 4294967297) pw32 pv_c fun _ _ => e_add_ii) (dr rfl (pw (m := 1099511627776) (p2 (by decide) (by decide)) (by decide)) (by decide) (by decide)) fun j j0 j1 => bad_of (.inr (by omega))) gea_nil'))))) (drc rfl (by decide) (by decide))) (by omega)) P fun v h1 ⟨bad, eb, hb⟩ P1 e1 => ?_
  subst eb
  show u_law_errors_right_1 sp_dr sp_error (body Q Ex) [some (.ref p), some (.int a), some (.int b), some (.int bad), none, none, none, none, none] h1
  unfold u_law_errors_right_1
  refine sq_asgG (w := 1) (n := n + 9) (T := Bad) (ge_up (ge_ixT (n := 2) (gea_tmp' (gea_cons' (ge_pv (pv_neg pv_c) (bad_of (by decide))) (gea_cons' (ge_pv (pw (m := 8589934592) (p2 (by decide) (by decide)) (by decide)) (bad_of (by decide))) gea_nil'))) (drc rfl (by decide) (by decide))) (by omega)) P1 fun v h2 ⟨worse, ew, hw⟩ P2 e2 => ?_
  subst ew
  show u_law_errors_right_2 sp_dr sp_error (body Q Ex) [some (.ref p), some (.int a), some (.int b), some (.int bad), some (.int worse), none, none, none, none] h2
  unfold u_law_errors_right_2
  refine sq_asgG (w := 2) (n := n + 7) (T := Neg) (ge_up (ge_ixT (n := 2) (gea_tmp' (gea_cons' (ge_pv (pv_neg pv_c) ⟨_, rfl, by decide⟩) (gea_cons' (ge_opI (F := fun i j => i - j) (fun _ _ _ _ => e_sub) (pv_neg pv_c) (dr (m := 100000000000000000000) rfl (pv_cong (pv_pow pv_c pv_c (p10 (by decide) (by decide))) (by rw [show (10 : Int) ^ Int.toNat 20 = 100000000000000000000 by decide])) (by decide) (by decide)) fun j j0 j1 => ⟨_, rfl, by omega⟩) gea_nil'))) (drc rfl (by decide) (by decide))) (by omega)) P2 fun v h3 ⟨num, en, hn⟩ P3 e3 => ?_
  subst en
  exact errs_end sa sb hb hw hn (k _ h3 rfl (P3.le (by omega)) ((e1.trans e2).trans e3))
end L_k25
set_option maxHeartbeats 4000000
/-! P9_k25: the circle. -/
namespace L_k25
open PySem MP TL
theorem pv_repr {e : PTE} {τ : PSt} {v : PV} (x : Pv e τ v) (o : reprOk v) : Pv (pCB rRepr (pCons e pNil)) τ (.str (reprOf v)) := pv_cb' (pva_cons x pva_nil) fun _ _ q => ⟨o, q⟩
theorem pv_eqS {e f : PTE} {τ : PSt} {v : PV} {g : Nat} (x : Pv e τ v) (y : Pv f τ v) (r : R0 g v) (l : g ≤ 64 := by decide) : Pv (pOp MP.rEqP e f) τ (.bl true) := pv_op x y fun h Q => by
  obtain ⟨d, _, ed⟩ := r.rd h (Nat.le_refl g)
  exact eqv_same ed ed l l
theorem pva_filt {e f : PTE} {t : PTT} {τ : PSt} {i : Nat} {is : List Nat} {xs : List PV} (g : PV → Bool) (x : Pv e τ (.fl xs)) (hl : xs.length ≤ 100000) (ht : ∀ y ∈ xs, Tv t ((pwipe τ is).set i (some y)) (g y)) (hf : ∀ y ∈ xs, Pv f ((pwipe τ is).set i (some y)) y) : PvA (pLc (pIter e) (.nm i) t f is) τ (xs.filter g) := fun h Q E q => x h _ E (lc_filt g hl trivial (fun y hy Q' q' => ht y hy h Q' _ q') (fun y hy Q' q' => hf y hy h Q' _ q') q)
theorem ser_of {v : PV} (h : InI 0 4294967296 v) : ∃ i : Int, v = .int i ∧ ser i = true := by
  obtain ⟨i, e, h0, h1⟩ := h
  exact ⟨i, e, ser_iff.mpr ⟨h0, h1⟩⟩
theorem sers_of : ∀ {vs : List PV}, (∀ v ∈ vs, InI 0 4294967296 v) → ∃ xs : List Int, vs = xs.map .int ∧ ∀ x ∈ xs, ser x = true
  | [], _ => ⟨[], rfl, fun x hx => by cases hx⟩
  | v :: r, m => by
    obtain ⟨i, e, hi⟩ := ser_of (m v List.mem_cons_self)
    obtain ⟨xs, e2, h2⟩ := sers_of fun z hz => m z (List.mem_cons_of_mem _ hz)
    refine ⟨i :: xs, by rw [e, e2]; rfl, fun d hd => ?_⟩
    rcases List.mem_cons.mp hd with q | q
    · rw [q]; exact hi
    · exact h2 d q
theorem inI_ser {i : Int} (h : ser i = true) : InI 0 4294967296 (.int i) := by
  have := ser_iff.mp h
  exact ⟨i, rfl, this.1, this.2⟩
theorem pf_further {a n : Int} (sa : ser a = true) (hn : 0 ≤ n) : Pf sp_further [.int a, .int n] (.int ((a + n) % 4294967296)) := fun h Q E q => ⟨a, n, rfl, by unfold furO; rw [if_pos sa, if_neg (by omega)]; exact q⟩
theorem pf_newest {xs : List Int} (m : ∀ x ∈ xs, ser x = true) (l : xs.length ≤ 1000) : Pf sp_newest [.fl (xs.map .int)] (newestV xs) := fun h Q E q => ⟨xs, rfl, l, by
  have : xs.find? (fun s => !ser s) = none := List.find?_eq_none.mpr fun x hx => by rw [m x hx]; decide
  unfold newestO
  rw [this]
  exact q⟩
theorem newestV_ok {xs : List Int} (m : ∀ x ∈ xs, ser x = true) : reprOk (newestV xs) ∧ R0 1 (newestV xs) := by
  unfold newestV
  split
  · rename_i s e
    have := ser_iff.mp (m s (List.mem_of_find?_eq_some e))
    exact ⟨⟨this.1, Int.lt_of_lt_of_le this.2 (by decide +kernel)⟩, r0_int⟩
  · exact ⟨trivial, r0_non⟩
def sp_circle : PSp := spG 30 (fun r => ∃ a b : Int, r = [.int a, .int b] ∧ ser a = true ∧ ser b = true) (fun _ v => v = .bl true)
theorem rp {i : Int} (h : ser i = true) : reprOk (.int i) := by
  have := (newestV_ok (xs := [i]) fun x hx => by rw [List.mem_singleton.mp hx]; exact h).1
  unfold newestV best at this
  simpa using this
theorem circle_end {p : Nat} {a b c : Int} {f sm : PV} {xs : List Int} {h : PHeap} {Q : PQ} {Ex : PXQ} (mx : ∀ x ∈ xs, ser x = true) (lx : xs.length ≤ 1000) (k : Q (.bl true) h) : u_law_circle_right_7 sp_further sp_dr sp_newer sp_newerL sp_newest (body Q Ex) [some (.ref p), some (.int a), some (.int b), some (.int c), some f, some sm, some (.fl (xs.map .int)), none, none, none, none, none] h := by
  unfold u_law_circle_right_7 u_law_circle_right_8 u_law_circle_right_9
  have lm : (xs.map PV.int).length ≤ 100000 := by rw [List.length_map]; omega
  have hb : ∀ y ∈ xs.map PV.int, Tv (pT (pCT MP.rAllI (pLc (pIter (pVar 6)) (.nm 11) pYes (pOrV (pOp MP.rEqP (pVar 10) (pVar 11)) (pCall (gd 2 sp_newerL) (pCons (pVar 10) (pCons (pVar 11) pNil)))) [11]))) [some (.ref p), some (.int a), some (.int b), some (.int c), some f, some sm, some (.fl (xs.map .int)), none, none, none, some y, none] (match y with
      | .int s => best xs s
      | _ => false) := fun y hy => by
    obtain ⟨s, hs, rfl⟩ := List.mem_map.mp hy
    refine tv_cong (tv_t (pv_allV (g := fun y => match y with
        | .int o => decide (s = o) || newB s o
        | _ => false) (.inr (pv_var rfl rfl)) lm fun y hy => ?_)) ?_
    · obtain ⟨o, ho, rfl⟩ := List.mem_map.mp hy
      exact pv_or (pv_op (pv_var rfl rfl) (pv_var rfl rfl) fun _ _ => e_eq_ii) fun _ => pv_call2 (pv_var rfl rfl) (pv_var rfl rfl) (pf_newerL s o)
    · show _ = best xs s
      unfold best
      rw [List.all_map]
      rfl
  refine sq_asg (v := .fl ((xs.filter (best xs)).map .int)) (pv_fz ?_) ?_
  · have F := pva_filt (e := pVar 6) (f := pVar 10) (i := 10) (is := [10]) (τ := [some (.ref p), some (.int a), some (.int b), some (.int c), some f, some sm, some (.fl (xs.map .int)), none, none, none, none, none]) (fun y => match y with
      | .int s => best xs s
      | _ => false) (pv_var rfl rfl) lm hb fun y hy => pv_var rfl (by obtain ⟨s, hs, rfl⟩ := List.mem_map.mp hy; rfl)
    rw [List.filter_map] at F
    exact F
  refine sq_asg (v := .fl (xs.map .int)) (pv_cb (pva_cons (pv_var rfl rfl) pva_nil) fun _ _ => by rw [e_onI_f, e_lstV]) ?_
  have N := newestV_ok mx
  have A : Pv (pOp MP.rIx (pOp rAddV (pVar 7) (pFz (pTmp (pCons (pC .non) pNil)))) (pC (.int 0))) [some (.ref p), some (.int a), some (.int b), some (.int c), some f, some sm, some (.fl (xs.map .int)), some (.fl ((xs.filter (best xs)).map .int)), some (.fl (xs.map .int)), none, none, none] (newestV xs) := by
    refine pv_ix (vs := (xs.filter (best xs)).map .int ++ [.non]) (n := 0) (pv_addF (pv_var rfl rfl) (pv_fz (pva_tmp (pva_cons pv_c pva_nil))) (by rw [List.length_map]; have := List.length_filter_le (best xs) xs; show _ + 1 ≤ _; omega)) (.inr rfl) pv_c ?_
    rw [atI_0]
    unfold newestV
    rw [← List.head?_filter]
    cases xs.filter (best xs) <;> rfl
  refine st_rt (v := .bl true) (pv_cong (pv_and (b1 := true) (b2 := true) (pv_eqS (pv_repr (pv_call1 (pv_var rfl rfl) (pf_newest mx lx)) N.1) (pv_repr A N.1) (r0_str (f := 1))) fun _ => pv_cong (pv_and (b1 := true) (b2 := true) (pv_eqS (pv_callK0 (zs := [.fl (xs.map .int)]) (pva_cons (pv_var rfl rfl) pva_nil) rfl rfl (pf_newest mx lx)) (pv_call1 (pv_var rfl rfl) (pf_newest mx lx)) N.2) fun _ => pv_eqS (g := 1) (pv_var rfl rfl) (pv_var rfl rfl) (r0_fl lm fun x hx => by obtain ⟨s, _, rfl⟩ := List.mem_map.mp hx; exact r0_int)) rfl) rfl) k
theorem pure__law_circle_right (vs : List PV) (h : PHeap) (Q : PQ) (Ex : PXQ) (_ : vs.length = 3) (hh : sp_circle vs h Q Ex) : t__law_circle_right sp_further sp_dr sp_newer sp_newerL sp_newest (body Q Ex) (pstart 12 vs) h := by
  obtain ⟨p, n, rest, rfl, ⟨a, b, rfl, sa, sb⟩, P, k⟩ := hh
  show t__law_circle_right sp_further sp_dr sp_newer sp_newerL sp_newest (body Q Ex) [some (.ref p), some (.int a), some (.int b), none, none, none, none, none, none, none, none, none] h
  rw [u_law_circle_right_eq]
  unfold u_law_circle_right_0 u_law_circle_right_1 u_law_circle_right_2
  refine sq_ifF (tv_ne0 (v := .str (reprOf (.bl (newB a b)))) (pv_repr (pv_call2 (pv_var rfl rfl) (pv_var rfl rfl) (pf_newer sa sb)) trivial) (pv_repr (pv_call2 (pv_var rfl rfl) (pv_var rfl rfl) (pf_newerL a b)) trivial) r0_str) ?_
  refine sq_ifF (tv_ne0 (v := .str (reprOf (.bl (newB b a)))) (pv_repr (pv_callK0 (zs := [.int a, .int b]) (pva_cons (pv_var rfl rfl) (pva_cons (pv_var rfl rfl) pva_nil)) rfl rfl (pf_newer sb sa)) trivial) (pv_repr (pv_call2 (pv_var rfl rfl) (pv_var rfl rfl) (pf_newerL b a)) trivial) r0_str) ?_
  refine sq_asgG (w := 4) (n := n + 26) (T := InI 0 (10 ^ 40)) (ge_up (ge_ixT (n := 3) (gea_tmp' (gea_cons' (ge_imp (drc rfl (by decide) (by decide)) fun v z => inI_up z (by decide)) (gea_cons' (ge_imp (dr rfl pw32 (by decide) (by decide)) fun v z => inI_up z (by decide)) (gea_cons' (dr (m := 10 ^ 40) rfl (pv_cong (pv_pow pv_c pv_c (p10 (by decide) (by decide))) rfl) (by decide) (by decide)) gea_nil')))) (drc rfl (by decide) (by decide))) (by omega)) P fun v h1 ⟨c, ec, c0, _⟩ P1 e1 => ?_
  subst ec
  show u_law_circle_right_3 sp_further sp_dr sp_newer sp_newerL sp_newest (body Q Ex) [some (.ref p), some (.int a), some (.int b), some (.int c), none, none, none, none, none, none, none, none] h1
  unfold u_law_circle_right_3 u_law_circle_right_4
  have sf : ser ((a + c) % 4294967296) = true := ser_iff.mpr (by omega)
  refine sq_asg (pv_call2 (pv_var rfl rfl) (pv_var rfl rfl) (pf_further sa c0)) ?_
  refine sq_ifF (tv_or (b1 := false) (b2 := false) (tv_ne0 (v := .str (reprOf (.int ((a + c) % 4294967296)))) (pv_repr (pv_var rfl rfl) (rp sf)) (pv_repr (pv_op' (pv_cb (w := .int (a + c)) (pva_cons (pv_op (w := .int (a + c)) (pv_var rfl rfl) (pv_var rfl rfl) fun _ _ => e_addV_ii) pva_nil) fun _ _ => e_int_i) pw32 fun _ _ q => ⟨by decide, q⟩) (rp sf)) r0_str) fun _ => tv_ne0 (v := .int ((a + c) % 4294967296)) (pv_callK0 (zs := [.int c, .int a]) (pva_cons (pv_var rfl rfl) (pva_cons (pv_var rfl rfl) pva_nil)) rfl rfl (pf_further sa c0)) (pv_var rfl rfl) r0_int) ?_
  show u_law_circle_right_5 sp_further sp_dr sp_newer sp_newerL sp_newest (body Q Ex) [some (.ref p), some (.int a), some (.int b), some (.int c), some (.int ((a + c) % 4294967296)), none, none, none, none, none, none, none] h1
  unfold u_law_circle_right_5
  refine sq_asgG (w := 1) (n := n + 25) (T := fun v => ∃ vs, v = .fl vs ∧ (vs.length = 5 ∧ ∀ x ∈ vs, InI 0 4294967296 x)) (ge_up (ge_fz (gea_tmp' (gea_cons' (ge_pv (pv_var rfl rfl) (inI_ser sa)) (gea_cons' (ge_pv (pv_var rfl rfl) (inI_ser sb)) (gea_cons' (ge_pv (pv_var rfl rfl) (inI_ser sf)) (gea_cons' (ge_pv (v := .int ((a + 2147483648) % 4294967296)) (pv_op' (pv_cb (w := .int (a + 2147483648)) (pva_cons (pv_op (w := .int (a + 2147483648)) (pv_var rfl rfl) pw31 fun _ _ => e_add_ii) pva_nil) fun _ _ => e_int_i) pw32 fun _ _ q => ⟨by decide, q⟩) (inI_of (by omega) (by omega))) (gea_cons' (dr rfl pw32 (by decide) (by decide)) gea_nil'))))))) (by omega)) P1 fun v h2 ⟨vs, ev, lv, mv⟩ P2 e2 => ?_
  subst ev
  show u_law_circle_right_6 sp_further sp_dr sp_newer sp_newerL sp_newest (body Q Ex) [some (.ref p), some (.int a), some (.int b), some (.int c), some (.int ((a + c) % 4294967296)), some (.fl vs), none, none, none, none, none, none] h2
  unfold u_law_circle_right_6
  refine sq_asgG (w := 8) (n := n + 17) (T := fun v => ∃ ws, v = .fl ws ∧ (ws.length ≤ 7 ∧ ∀ x ∈ ws, InI 0 4294967296 x)) (ge_up (ge_fz (gea_lc (L := 7) (w := 1) (w' := 1) (by decide) (ge_imp (drc rfl (by decide) (by decide)) fun v ⟨i, ei, i0, i1⟩ => ⟨i.toNat, by rw [ei]; congr 1; omega, by omega⟩) fun j _ => ge_up (ge_ix (n := 5) (T := InI 0 4294967296) (ge_pv (T := Itm 5 (InI 0 4294967296)) (pv_var rfl rfl) ⟨vs, .inl rfl, lv, mv⟩) (drc rfl (by decide) (by decide))) (by omega))) (by omega)) P2 fun v h3 ⟨ws, ev, lw, mw⟩ P3 e3 => ?_
  subst ev
  obtain ⟨xs, rfl, mx⟩ := sers_of mw
  rw [List.length_map] at lw
  exact circle_end mx (by omega) (k _ h3 rfl (P3.le (by omega)) ((e1.trans e2).trans e3))
end L_k25
set_option maxHeartbeats 4000000
/-! P10_k25: ways spoilt. -/
namespace L_k25
open PySem MP TL
abbrev Sr (x : PV) : Prop := InI 0 4294967296 x
theorem cut_mem {xs : List PV} {lo hi : Option Int} {y : PV} (h : y ∈ cut xs lo hi) : y ∈ xs := by
  unfold cut at h
  exact List.mem_of_mem_drop (List.mem_of_mem_take h)
theorem cut_le {xs : List PV} {lo hi : Option Int} : (cut xs lo hi).length ≤ xs.length := by
  unfold cut
  rw [List.length_take, List.length_drop]
  omega
/-- a list, of so many items at most, each so -/
def PhL (h : PHeap) (e : PTE) (τ : PSt) (T : PV → Prop) (L : Nat) : Prop := ∃ v xs, Ph h e τ v ∧ lstOf h v = some xs ∧ (∀ x ∈ xs, T x) ∧ xs.length ≤ L
def PhF (h : PHeap) (e : PTE) (τ : PSt) (T : PV → Prop) (L : Nat) : Prop := ∃ xs, Ph h e τ (.fl xs) ∧ (∀ x ∈ xs, T x) ∧ xs.length ≤ L
section
variable {h : PHeap} {e f : PTE} {τ : PSt} {T : PV → Prop} {L M : Nat} {a : PTA} {xs : List PV}
theorem PhF.l (x : PhF h e τ T L) : PhL h e τ T L := by
  obtain ⟨xs, x1, x2, x3⟩ := x
  exact ⟨_, xs, x1, rfl, x2, x3⟩
theorem l_add (x : PhL h e τ T L) (y : PhL h f τ T M) (l : L + M ≤ 100000) : PhF h (pOp rAddV e f) τ T (L + M) := by
  obtain ⟨u, xs, x1, x2, x3, x4⟩ := x
  obtain ⟨v, ys, y1, y2, y3, y4⟩ := y
  refine ⟨xs ++ ys, ph_op x1 y1 fun Q q => ?_, fun z hz => ?_, by rw [List.length_append]; omega⟩
  · unfold rAddV
    rw [x2, y2]
    exact ⟨by rw [sizeLine_eq]; omega, q⟩
  · rcases List.mem_append.mp hz with c | c
    · exact x3 z c
    · exact y3 z c
theorem l_cut {lo hi : Option Int} {pl pu : PTO} (x : PhL h e τ T L) (hl : ∀ (Q : Option Int → PHeap → Prop) (E : PXQ), Q lo h → pl τ h Q E) (hh : ∀ (Q : Option Int → PHeap → Prop) (E : PXQ), Q hi h → pu τ h Q E) : PhF h (pSliceV e pl pu) τ T L := by
  obtain ⟨u, xs, x1, x2, x3, x4⟩ := x
  refine ⟨cut xs lo hi, fun Q E q => x1 _ E (hl _ E (hh _ E ?_)), fun z hz => x3 z (cut_mem hz), Nat.le_trans cut_le x4⟩
  unfold rCutV
  rw [x2]
  exact q
theorem l_no : ∀ (Q : Option Int → PHeap → Prop) (E : PXQ), Q none h → pNoPart τ h Q E := fun Q E q => q
theorem l_at {n : Int} (x : Ph h e τ (.int n)) : ∀ (Q : Option Int → PHeap → Prop) (E : PXQ), Q (some n) h → pPart e τ h Q E := fun Q E q => x _ E q
theorem l_rev (x : PhL h e τ T L) : PhF h (pUn rRevV e) τ T L := by
  obtain ⟨u, xs, x1, x2, x3, x4⟩ := x
  refine ⟨xs.reverse, ph_un x1 fun Q q => ?_, fun z hz => x3 z (List.mem_reverse.mp hz), by rw [List.length_reverse]; exact x4⟩
  unfold rRevV
  rw [x2]
  exact q
theorem l_fz (x : PhA h a τ xs) (m : ∀ y ∈ xs, T y) (l : xs.length ≤ L) : PhF h (pFz a) τ T L := ⟨xs, fun Q E q => x _ E q, m, l⟩
theorem l_one {v : PV} (x : Ph h e τ v) (t : T v) : PhF h (pFz (pTmp (pCons e pNil))) τ T 1 := l_fz (pha_tmp (pha_cons x pha_nil) (by show 1 ≤ 100000; decide)) (fun y hy => by rw [List.mem_singleton.mp hy]; exact t) (Nat.le_refl _)
theorem l_two {v w : PV} (x : Ph h e τ v) (y : Ph h f τ w) (t : T v) (s : T w) : PhF h (pFz (pTmp (pCons e (pCons f pNil)))) τ T 2 := l_fz (pha_tmp (pha_cons x (pha_cons y pha_nil)) (by show 2 ≤ 100000; decide)) (fun z hz => by
  rcases List.mem_cons.mp hz with e | e
  · rw [e]; exact t
  · rw [List.mem_singleton.mp e]; exact s) (Nat.le_refl _)
theorem l_var {v : PV} {i : Nat} (e : τ[i]? = some (some v)) (c : lstOf h v = some xs) (m : ∀ y ∈ xs, T y) (l : xs.length ≤ L) : PhL h (pVar i) τ T L := ⟨v, xs, ph_var e (by cases v <;> first | rfl | cases c), c, m, l⟩
theorem l_ix {j : Nat} {v : PV} (x : Ph h e τ v) (c : lstOf h v = some xs) (y : Ph h f τ (.int (j : Int))) (l : j < xs.length) : Ph h (pOp MP.rIx e f) τ xs[j] := ph_op x y fun Q q => by
  cases v with
  | fl ys => cases c; rw [e_ix_f, atI_nat, List.getElem?_eq_getElem l]; exact q
  | ref n =>
    have c' : (match h[n]? with
      | some (.lst xs) => some xs
      | _ => none) = some xs := c
    rw [e_ix_r]
    split at c'
    · rename_i ys e; cases c'; (try rw [e]); (try dsimp only); rw [atI_nat, List.getElem?_eq_getElem l]; exact q
    · cases c'
  | _ => cases c
end
theorem lst_items {h : PHeap} {v : PV} {xs : List PV} (c : lstOf h v = some xs) : itemsOf h v = some xs ∧ tyOf h v = some "list" := by
  cases v with
  | fl ys => exact ⟨c, rfl⟩
  | ref n =>
    have c' : (match h[n]? with
      | some (.lst xs) => some xs
      | _ => none) = some xs := c
    refine ⟨c', ?_⟩
    rw [ty_r]
    split at c'
    · rename_i ys e; rw [e]
    · cases c'
  | _ => cases c
theorem lst_app {h : PHeap} {v : PV} {xs : List PV} (c : lstOf h v = some xs) (t : PHeap) : lstOf (h ++ t) v = some xs := by
  cases v with
  | fl ys => exact c
  | ref n =>
    have c' : (match h[n]? with
      | some (.lst xs) => some xs
      | _ => none) = some xs := c
    show (match (h ++ t)[n]? with
      | some (.lst xs) => some xs
      | _ => none) = some xs
    have l : n < h.length := by
      rcases Nat.lt_or_ge n h.length with l | l
      · exact l
      · rw [List.getElem?_eq_none l] at c'; cases c'
    rw [List.getElem?_append_left l]
    exact c'
  | _ => cases c
theorem lst_pe {h h' : PHeap} {p : Nat} {v : PV} {xs : List PV} (c : lstOf h v = some xs) (np : ∀ m, v = .ref m → m ≠ p) (e : Pe p h h') : lstOf h' v = some xs := by
  cases v with
  | fl ys => exact c
  | ref n =>
    show (match h'[n]? with
      | some (.lst xs) => some xs
      | _ => none) = some xs
    rw [e.get (np n rfl)]
    exact c
  | _ => cases c
theorem rd_ints {h : PHeap} {f : Nat} : ∀ {xs : List PV}, (∀ x ∈ xs, Sr x) → ∃ ds : List PyData, allD (rd h f) xs = some ds ∧ (ds.isEmpty = xs.isEmpty)
  | [], _ => ⟨[], rfl, rfl⟩
  | x :: r, m => by
    obtain ⟨i, e, _⟩ := m x List.mem_cons_self
    obtain ⟨ds, e2, _⟩ := rd_ints (h := h) (f := f) fun z hz => m z (List.mem_cons_of_mem _ hz)
    refine ⟨.int i :: ds, ?_, rfl⟩
    subst e
    have e1 : rd h f (.int i) = some (.int i) := by cases f <;> rfl
    show (match rd h f (.int i), allD (rd h f) r with
      | some d, some ds => some (d :: ds)
      | _, _ => none) = _
    rw [e1, e2]
theorem ne_nil {h : PHeap} {v : PV} {xs : List PV} {Q : PQ} (c : lstOf h v = some xs) (m : ∀ x ∈ xs, Sr x) (l : xs.length ≤ 100000) : rNeP v (.fl []) h Q = Q (.bl (!xs.isEmpty)) h := by
  obtain ⟨ds, e1, e2⟩ := rd_ints (h := h) (f := 63) m
  have ev : rd h 64 v = some (.list ds) := by
    cases v with
    | fl ys =>
      cases c
      show (rdL (rd h 63) xs).map PyData.list = _
      rw [rdL_of l e1]
      rfl
    | ref n =>
      have c' : (match h[n]? with
        | some (.lst xs) => some xs
        | _ => none) = some xs := c
      show (match h[n]? with
        | some (.lst xs) => (rdL (rd h 63) xs).map PyData.list
        | _ => none) = _
      split at c'
      · rename_i ys e; cases c'; rw [rdL_of l e1]; rfl
      · cases c'
    | _ => cases c
  rw [e_ne (e := .list []) ev rfl]
  congr 2
  rw [← e2]
  cases ds with
  | nil => simp [PyData.eqv, PyData.eqvAll]
  | cons d r => simp [PyData.eqv, PyData.eqvAll]
theorem sq_drH {H : PHeap} {e : PTE} {i j p n : Nat} {τ : PSt} {m : Int} {s : PTS} {D : PD} (hτ : τ[i]? = some (some (.ref p))) (hm : Ph H e τ (.int m)) (m0 : 0 < m) (m1 : m < 10 ^ 45) (P : Pot H p (n + 1)) (k : ∀ r h', 0 ≤ r → r < m → Pot h' p n → Pe p H h' → s D (τ.set j (some (.int r))) h') : pSeq (pAsg (pCall (gd 2 sp_dr) (pCons (pVar i) (pCons e pNil))) (.nm j)) s D τ H := by
  refine pv_var hτ rfl H (fun x h1 => pCons e pNil τ h1 (fun xs h2 => gd 2 sp_dr (x :: xs) h2 (fun y h3 => s D (τ.set j (some y)) h3) (fun c v h' => D.ex c v τ h')) (fun c v h' => D.ex c v τ h')) (fun c v h' => D.ex c v τ h') ?_
  exact hm (fun y h2 => gd 2 sp_dr [.ref p, y] h2 (fun y h3 => s D (τ.set j (some y)) h3) (fun c v h' => D.ex c v τ h')) (fun c v h' => D.ex c v τ h') ⟨rfl, p, m, n, rfl, m0, m1, P, k⟩
/-- a list of serials, by value -/
def SL (v : PV) : Prop := ∃ xs, v = .fl xs ∧ (∀ x ∈ xs, Sr x) ∧ xs.length ≤ 20000
theorem PhF.sl {h : PHeap} {e : PTE} {τ : PSt} {L : Nat} (x : PhF h e τ Sr L) (l : L ≤ 20000) : ∃ v, Ph h e τ v ∧ SL v := by
  obtain ⟨xs, x1, x2, x3⟩ := x
  exact ⟨_, x1, xs, rfl, x2, by omega⟩
theorem pha_sl {h : PHeap} {e : PTE} {a : PTA} {τ : PSt} {n : Nat} (x : ∃ v, Ph h e τ v ∧ SL v) (y : ∃ vs, PhA h a τ vs ∧ vs.length = n ∧ ∀ v ∈ vs, SL v) : ∃ vs, PhA h (pCons e a) τ vs ∧ vs.length = n + 1 ∧ ∀ v ∈ vs, SL v := by
  obtain ⟨v, x1, x2⟩ := x
  obtain ⟨vs, y1, y2, y3⟩ := y
  refine ⟨v :: vs, pha_cons x1 y1, by rw [List.length_cons, y2], fun z hz => ?_⟩
  rcases List.mem_cons.mp hz with c | c
  · rw [c]; exact x2
  · exact y3 z c
def sp_spoilt : PSp := fun vs h Q _ => ∃ (p n : Nat) (a b : Int) (v : PV) (xs : List PV), vs = [.ref p, .int a, .int b, v] ∧ ser a = true ∧ ser b = true ∧ lstOf h v = some xs ∧ (∀ m, v = .ref m → m ≠ p) ∧ (∀ x ∈ xs, Sr x) ∧ xs.length ≤ 5000 ∧ Pot h p (n + 3) ∧ ∀ ys h', ys.length ≤ 9 → (∀ y ∈ ys, SL y) → Pot h' p n → Pe p h h' → Q (.fl ys) h'
theorem fz_sl {n : Nat} {h : PHeap} {v : PV} (s : SL v) : Fz n h v v := by
  obtain ⟨xs, rfl, m, l⟩ := s
  exact .fl (fzs_r0 (f := 0) fun x hx => by obtain ⟨i, rfl, _⟩ := m x hx; exact r0_int)
theorem fzs_sl {n : Nat} {h : PHeap} : ∀ {vs : List PV}, (∀ v ∈ vs, SL v) → Fzs n h vs vs
  | [], _ => .nil
  | v :: r, m => .cons (fz_sl (m v List.mem_cons_self)) (fzs_sl fun z hz => m z (List.mem_cons_of_mem _ hz))
theorem spoilt_end {p n : Nat} {a b : Int} {v : PV} {o5 o6 : Option PV} {h h' : PHeap} {Q : PQ} {Ex : PXQ} {ys : List PV} (ly : ys.length ≤ 9) (my : ∀ y ∈ ys, SL y) (P : Pot h' p n) (e : Pe p h h') (k : ∀ ys h', ys.length ≤ 9 → (∀ y ∈ ys, SL y) → Pot h' p n → Pe p h h' → Q (.fl ys) h') :
    u_law_spoilt_2 sp_dr (body (fzQ h Q) (fzX h Ex)) [some (.ref p), some (.int a), some (.int b), some v, some (.ref h.length), o5, o6] (h' ++ [.lst ys]) := by
  unfold u_law_spoilt_2
  refine st_rt (v := .ref h.length) (pv_var rfl rfl) (fzQ_pot (f := 0) e P (.new (Nat.le_refl _) (xs := ys) ?_ (fzs_sl my)) (k ys h' ly my P e))
  rw [← e.len, List.getElem?_concat_length]
/-- one more is put to what was found -/
theorem spoilt_app {p : Nat} {a b : Int} {v : PV} {o5 o6 : Option PV} {h h' : PHeap} {ys : List PV} {e : PTE} {D : PD} (l : h'.length = h.length) (ly : ys.length ≤ 100) (x : ∃ w, Ph (h' ++ [.lst ys]) e [some (.ref p), some (.int a), some (.int b), some v, some (.ref h.length), o5, o6] w ∧ SL w)
    (k : ∀ w, SL w → D.nx [some (.ref p), some (.int a), some (.int b), some v, some (.ref h.length), o5, o6] (h' ++ [.lst (ys ++ [w])])) : pDrop (pMtT "list" MP.rAppend (pVar 4) (pCons e pNil)) D [some (.ref p), some (.int a), some (.int b), some v, some (.ref h.length), o5, o6] (h' ++ [.lst ys]) := by
  obtain ⟨w, x1, x2⟩ := x
  refine ht_append (n := h.length) (v := w) rfl (by rw [← l, List.getElem?_concat_length]) x1 (by omega) ?_
  rw [List.set_append_right _ _ (by omega), l, Nat.sub_self, List.set_cons_zero]
  exact k w x2
theorem pure__law_spoilt (vs : List PV) (h : PHeap) (Q : PQ) (Ex : PXQ) (_ : vs.length = 4) (hh : sp_spoilt vs h Q Ex) : t__law_spoilt sp_dr (body (fzQ h Q) (fzX h Ex)) (pstart 7 vs) h := by
  obtain ⟨p, n, a, b, v, xs, rfl, sa, sb, hv, np, mx, lx, P, k⟩ := hh
  show t__law_spoilt sp_dr (body (fzQ h Q) (fzX h Ex)) [some (.ref p), some (.int a), some (.int b), some v, none, none, none] h
  rw [u_law_spoilt_eq]
  unfold u_law_spoilt_0
  have lp := P.lt
  have V := l_var (h := h) (τ := [some (.ref p), some (.int a), some (.int b), some v, none, none, none]) (i := 3) rfl hv mx lx
  obtain ⟨vs, x1, x2, x3⟩ := pha_sl ((l_add V (l_one (ph_var (i := 2) rfl rfl) (inI_ser sb)).l (by decide)).sl (by decide)) (pha_sl ((l_cut V (l_at ph_c) l_no).sl (by decide)) (pha_sl ((l_cut V l_no (l_at (ph (pv_neg pv_c)))).sl (by decide)) (pha_sl ((l_add (l_one (ph_var (i := 1) rfl rfl) (inI_ser sa)).l V (by decide)).sl (by decide)) (pha_sl ((l_two (ph_var (i := 1) rfl rfl) (ph_var (i := 2) rfl rfl) (inI_ser sa) (inI_ser sb)).sl (by decide)) (pha_sl ((l_rev V).sl (by decide)) ⟨[], pha_nil, rfl, fun v hv => absurd hv List.not_mem_nil⟩)))))
  have x2 : vs.length = 6 := x2
  refine hq_new (pha_tmp x1 (by omega)) ?_
  show u_law_spoilt_1 sp_dr (body (fzQ h Q) (fzX h Ex)) [some (.ref p), some (.int a), some (.int b), some v, some (.ref h.length), none, none] (h ++ [.lst vs])
  unfold u_law_spoilt_1
  have hx : isExc v = false := by cases v <;> first | rfl | cases hv
  have T : Th (h ++ [.lst vs]) (pB (pOp MP.rNeP (pVar 3) (pFz (pTmp pNil)))) [some (.ref p), some (.int a), some (.int b), some v, some (.ref h.length), none, none] (!xs.isEmpty) := th_b (ph_op (ph_var rfl hx) (ph (pv_fz (pva_tmp pva_nil))) fun Q q => by rw [ne_nil (lst_app hv _) mx (by omega)]; exact q)
  cases hxs : xs.isEmpty with
  | true =>
    rw [hxs] at T
    exact hq_ifF T (spoilt_end (by omega) x3 (P.le (by omega)) (.refl lp) k)
  | false =>
    rw [hxs] at T
    refine hq_ifT T ?_
    unfold u_law_spoilt_1_t_0 u_law_spoilt_1_t_1
    have l0 : 0 < xs.length := by cases xs with
      | nil => cases hxs
      | cons x r => exact Nat.succ_pos _
    have big : (xs.length : Int) < 10 ^ 45 := by omega
    refine sq_drH (n := n + 2) rfl (ph_lenI (ph_var rfl hx) (lst_items (lst_app hv _)).1 (lst_items (lst_app hv _)).2) (by omega) big ((P.le (by omega)).app _) fun r h1 r0 r1 P1 e1 => ?_
    obtain ⟨h1, rfl, E1⟩ := e1.un lp
    have lp1 : p < h1.length := by rw [E1.len]; exact lp
    have P1 := P1.un lp1
    obtain ⟨j, rfl⟩ : ∃ j : Nat, r = j := ⟨r.toNat, by omega⟩
    have hj : j < xs.length := by omega
    refine sq_asgG (w := 2) (n := n) (T := AnyI) (ge_up (ge_ixT (n := 4) (gea_tmp' (gea_cons' (ge_pv pv_c ⟨_, rfl⟩) (gea_cons' (ge_pv (pv_neg pv_c) ⟨_, rfl⟩) (gea_cons' (ge_pv pw31 ⟨_, rfl⟩) (gea_cons' (ge_imp (dr rfl pw32 (by decide) (by decide)) fun v ⟨i, e, _⟩ => ⟨i, e⟩) gea_nil'))))) (drc rfl (by decide) (by decide))) (by omega)) (P1.app _) fun w h2 ⟨y, ey⟩ P2 e2 => ?_
    subst ey
    obtain ⟨h2, rfl, E2⟩ := e2.un lp1
    have e12 := E1.trans E2
    have lp2 : p < h2.length := by rw [e12.len]; exact lp
    have P2 := P2.un lp2
    have hv2 : ∀ t, lstOf (h2 ++ t) v = some xs := fun t => lst_app (lst_pe hv np e12) t
    obtain ⟨i, ei, i0, i1⟩ := mx _ (List.getElem_mem hj)
    show u_law_spoilt_1_t_2 sp_dr _ [some (.ref p), some (.int a), some (.int b), some v, some (.ref h.length), some (.int j), some (.int y)] (h2 ++ [.lst vs])
    unfold u_law_spoilt_1_t_2 u_law_spoilt_1_t_3 u_law_spoilt_1_t_4
    have VV : ∀ ys, PhL (h2 ++ [.lst ys]) (pVar 3) [some (.ref p), some (.int a), some (.int b), some v, some (.ref h.length), some (.int j), some (.int y)] Sr 5000 := fun ys => l_var rfl (hv2 _) mx lx
    have IX : ∀ ys, Ph (h2 ++ [.lst ys]) (pOp MP.rIx (pVar 3) (pVar 5)) [some (.ref p), some (.int a), some (.int b), some v, some (.ref h.length), some (.int j), some (.int y)] (.int i) := fun ys => ph_cong (l_ix (ph_var rfl hx) (hv2 _) (ph_var rfl rfl) hj) ei
    have LO : ∀ ys, PhL (h2 ++ [.lst ys]) (pSliceV (pVar 3) pNoPart (pPart (pVar 5))) [some (.ref p), some (.int a), some (.int b), some v, some (.ref h.length), some (.int j), some (.int y)] Sr 5000 := fun ys => (l_cut (VV ys) l_no (l_at (ph_var (v := .int j) rfl rfl))).l
    have HI : ∀ ys, PhL (h2 ++ [.lst ys]) (pSliceV (pVar 3) (pPart (pOp MP.rAdd (pVar 5) (pC (.int 1)))) pNoPart) [some (.ref p), some (.int a), some (.int b), some v, some (.ref h.length), some (.int j), some (.int y)] Sr 5000 := fun ys => (l_cut (VV ys) (l_at (ph (pv_op (w := .int ((j : Int) + 1)) (pv_var rfl rfl) pv_c fun _ _ => e_add_ii))) l_no).l
    refine spoilt_app e12.len (by omega) ((l_add (l_add (LO _) (l_one (v := .int ((i + y) % 4294967296)) (ph_op (ph_cb (w := .int (i + y)) (pha_cons (ph_op (w := .int (i + y)) (IX _) (ph_var rfl rfl) fun Q q => by rw [e_addV_ii]; exact q) pha_nil) fun Q q => q) (ph pw32) fun Q q => ⟨by decide, q⟩) (inI_of (by omega) (by omega))).l (by decide)).l (HI _) (by decide)).sl (by decide)) fun w1 s1 => ?_
    refine spoilt_app (e := pOp rAddV (pOp rAddV (pSliceV (pVar 3) pNoPart (pPart (pVar 5))) _) _) e12.len (by rw [List.length_append]; show _ + 1 ≤ _; omega) ((l_add (l_add (LO _) (l_two (v := .int i) (w := .int ((i + 1) % 4294967296)) (IX _) (ph_op (ph_cb (w := .int (i + 1)) (pha_cons (ph_op (w := .int (i + 1)) (IX _) ph_c fun Q q => q) pha_nil) fun Q q => q) (ph pw32) fun Q q => ⟨by decide, q⟩) (inI_of i0 i1) (inI_of (by omega) (by omega))).l (by decide)).l (HI _) (by decide)).sl (by decide)) fun w2 s2 => ?_
    refine spoilt_app (e := pOp rAddV (pSliceV (pVar 3) pNoPart (pPart (pVar 5))) _) e12.len (by rw [List.length_append, List.length_append]; show _ + 1 + 1 ≤ _; omega) ((l_add (LO _) (HI _) (by decide)).sl (by decide)) fun w3 s3 => ?_
    show u_law_spoilt_2 sp_dr (body (fzQ h Q) (fzX h Ex)) [some (.ref p), some (.int a), some (.int b), some v, some (.ref h.length), some (.int j), some (.int y)] (h2 ++ [.lst (vs ++ [w1] ++ [w2] ++ [w3])])
    refine spoilt_end (by rw [List.length_append, List.length_append, List.length_append]; show _ + 1 + 1 + 1 ≤ _; omega) (fun z hz => ?_) P2 e12 k
    simp only [List.mem_append, List.mem_singleton] at hz
    rcases hz with ((hz | hz) | hz) | hz
    · exact x3 z hz
    · rw [hz]; exact s1
    · rw [hz]; exact s2
    · rw [hz]; exact s3
end L_k25
set_option maxHeartbeats 4000000
/-! P11_k25: steps are right. -/
namespace L_k25
open PySem MP TL
theorem atI_neg {α : Type} {xs : List α} {j : Nat} (l : j < xs.length) : L2.atI xs (-1 - (j : Int)) = some (xs[xs.length - 1 - j]'(by omega)) := by
  unfold L2.atI L2.ixN
  rw [if_neg (by omega), if_pos (by omega)]
  have e : (-1 - (j : Int) + (xs.length : Int)).toNat = xs.length - 1 - j := by omega
  rw [e]
  simp
theorem ph_callK0 {k m : Nat} {perm : List Nat} {sp : PSp} {tk : PTA} {τ : PSt} {zs : List PV} {w : PV} {h : PHeap} (y : PhA h tk τ zs) (l2 : zs.length = m) (l3 : (pick perm zs).length = k) (z : ∀ Q E, Q w h → sp (pick perm zs) h Q E) : Ph h (pCallK (gd k sp) 0 m perm pNil tk) τ w := fun Q E q => y _ E ⟨rfl, l2, l3, z Q E q⟩
theorem l_ixN {h : PHeap} {e f : PTE} {τ : PSt} {xs : List PV} {j : Nat} {v : PV} (x : Ph h e τ v) (c : lstOf h v = some xs) (y : Ph h f τ (.int (-1 - (j : Int)))) (l : j < xs.length) : Ph h (pOp MP.rIx e f) τ (xs[xs.length - 1 - j]'(by omega)) := ph_op x y fun Q q => by
  cases v with
  | fl ys => cases c; rw [e_ix_f, atI_neg l]; exact q
  | ref n =>
    have c' : (match h[n]? with
      | some (.lst xs) => some xs
      | _ => none) = some xs := c
    rw [e_ix_r]
    split at c'
    · rename_i ys e; cases c'; (try rw [e]); (try dsimp only); rw [atI_neg l]; exact q
    · cases c'
  | _ => cases c
/-- a list of ints with one that is no serial -/
def PhB (h : PHeap) (e : PTE) (τ : PSt) (L : Nat) : Prop := ∃ xs, Ph h e τ (.fl xs) ∧ (∀ x ∈ xs, AnyI x) ∧ xs.length ≤ L ∧ xs.all isSerV = false
section
variable {h : PHeap} {e f : PTE} {τ : PSt} {L M : Nat}
theorem b_one {i : Int} (x : Ph h e τ (.int i)) (b : ser i = false) : PhB h (pFz (pTmp (pCons e pNil))) τ 1 := ⟨[.int i], fun Q E q => x _ E ⟨by rw [sizeLine_eq]; show 1 ≤ 16777216; decide, q⟩, fun z hz => by rw [List.mem_singleton.mp hz]; exact ⟨i, rfl⟩, Nat.le_refl _, by show (ser i && true) = false; rw [b]; rfl⟩
theorem b_R (x : PhL h e τ AnyI L) (y : PhB h f τ M) (l : L + M ≤ 100000) : PhB h (pOp rAddV e f) τ (L + M) := by
  obtain ⟨u, xs, x1, x2, x3, x4⟩ := x
  obtain ⟨ys, y1, y3, y4, y5⟩ := y
  refine ⟨xs ++ ys, ph_op x1 y1 fun Q q => ?_, fun z hz => ?_, by rw [List.length_append]; omega, by rw [List.all_append, y5, Bool.and_false]⟩
  · unfold rAddV
    rw [x2]
    exact ⟨by rw [sizeLine_eq]; omega, q⟩
  · rcases List.mem_append.mp hz with c | c
    · exact x3 z c
    · exact y3 z c
theorem b_L (y : PhB h f τ M) (x : PhL h e τ AnyI L) (l : M + L ≤ 100000) : PhB h (pOp rAddV f e) τ (M + L) := by
  obtain ⟨u, xs, x1, x2, x3, x4⟩ := x
  obtain ⟨ys, y1, y3, y4, y5⟩ := y
  refine ⟨ys ++ xs, ph_op y1 x1 fun Q q => ?_, fun z hz => ?_, by rw [List.length_append]; omega, by rw [List.all_append, y5, Bool.false_and]⟩
  · unfold rAddV
    rw [x2]
    exact ⟨by rw [sizeLine_eq]; omega, q⟩
  · rcases List.mem_append.mp hz with c | c
    · exact y3 z c
    · exact x3 z c
end
/-- what judge_steps says no to -/
def No (h : PHeap) (z : PV) : Prop := (∃ t, tyOf h z = some t ∧ isiB t "list" = false) ∨ (∃ xs, z = .fl xs ∧ xs.length ≤ 80000 ∧ (∀ x ∈ xs, (tyOf h x).isSome = true) ∧ xs.all isSerV = false)
theorem No.jk {h : PHeap} {z : PV} (n : No h z) (a b : Int) : JK h a b z (fun _ => false) := by
  rcases n with ⟨t, e, f⟩ | ⟨xs, rfl, l, m, s⟩
  · exact .inl ⟨t, e, f, fun _ => rfl⟩
  · exact .inr ⟨xs, rfl, rfl, l, m, fun m => by unfold judgeF; rw [s, Bool.false_and, Bool.and_false]⟩
/-- lists that say no whatever stands -/
def NB (z : PV) : Prop := ∃ xs, z = .fl xs ∧ xs.length ≤ 80000 ∧ (∀ x ∈ xs, AnyI x) ∧ xs.all isSerV = false
theorem NB.no {z : PV} (n : NB z) (h : PHeap) : No h z := by
  obtain ⟨xs, e, l, m, s⟩ := n
  exact .inr ⟨xs, e, l, fun x hx => by obtain ⟨i, rfl⟩ := m x hx; rfl, s⟩
theorem NB.nx {z : PV} (n : NB z) : isExc z = false := by
  obtain ⟨xs, rfl, _⟩ := n
  rfl
theorem PhB.nb {h : PHeap} {e : PTE} {τ : PSt} {L : Nat} (x : PhB h e τ L) (l : L ≤ 80000) : ∃ v, Ph h e τ v ∧ NB v := by
  obtain ⟨xs, x1, x2, x3, x4⟩ := x
  exact ⟨_, x1, xs, rfl, by omega, x2, x4⟩
theorem PhL.any {h : PHeap} {e : PTE} {τ : PSt} {L : Nat} (x : PhL h e τ Sr L) : PhL h e τ AnyI L := by
  obtain ⟨u, xs, x1, x2, x3, x4⟩ := x
  exact ⟨u, xs, x1, x2, fun z hz => by obtain ⟨i, e, _⟩ := x3 z hz; exact ⟨i, e⟩, x4⟩
theorem fewO_is {a b : Int} {m : Nat} (sa : ser a = true) (sb : ser b = true) (hm : m ≤ 1000) : fewO a b m = .ok (.int (few a b m)) := by
  unfold fewO
  rw [if_pos sa, if_pos sb, if_pos (by omega), Int.toNat_natCast]
theorem pf_few {a b : Int} {m : Nat} (sa : ser a = true) (sb : ser b = true) (hm : m ≤ 1000) : Pf sp_few [.int a, .int b, .int m] (.int (few a b m)) := fun h Q E q => ⟨a, b, m, rfl, by rw [fewO_is sa sb hm]; exact q⟩
theorem judge_sp {a b : Int} {m : Nat} {h : PHeap} {v : PV} {ans : Nat → Bool} (sa : ser a = true) (sb : ser b = true) (hm : m ≤ 1000) (j : JK h a b v ans) (Q : PQ) (E : PXQ) (q : Q (.bl (ans m)) h) : sp_judge [.int a, .int b, .int m, v] h Q E := ⟨a, b, m, v, ans, rfl, j, by rw [fewO_is sa sb hm]; show Q (.bl (ans (m : Int).toNat)) h; rw [Int.toNat_natCast]; exact q⟩
theorem steps_sp {a b : Int} {m : Nat} {h : PHeap} (sa : ser a = true) (sb : ser b = true) (hm : m ≤ 1000) (Q : PQ) (E : PXQ) (k : ∀ (ws : List Int) (t : PHeap) (j : Nat), (ws.length : Int) = few a b m → (∀ s ∈ ws, ser s = true) → isWay a b m ws = true → t[j]? = some (.lst (ws.map .int)) → Q (.ref (h.length + j)) (h ++ t)) : sp_steps [.int a, .int b, .int m] h Q E := ⟨a, b, m, rfl, by rw [fewO_is sa sb hm]; intro ws t j; rw [Int.toNat_natCast]; exact k ws t j⟩
theorem ints_map (ws : List Int) : intsOf (ws.map .int) = ws := by
  unfold intsOf
  rw [List.map_map]
  exact List.map_id' ws
theorem all_ser {xs : List PV} (m : ∀ x ∈ xs, Sr x) : xs.all isSerV = true := List.all_eq_true.mpr fun x hx => by
  obtain ⟨i, rfl, h0, h1⟩ := m x hx
  exact ser_iff.mpr ⟨h0, h1⟩
theorem sr_ints {ws : List Int} (m : ∀ s ∈ ws, ser s = true) : ∀ x ∈ ws.map PV.int, Sr x := fun x hx => by
  obtain ⟨s, hs, rfl⟩ := List.mem_map.mp hx
  exact inI_ser (m s hs)
theorem lst_ref {h : PHeap} {n : Nat} {xs : List PV} (e : h[n]? = some (.lst xs)) : lstOf h (.ref n) = some xs := by
  show (match h[n]? with
    | some (.lst xs) => some xs
    | _ => none) = some xs
  rw [e]
theorem sr_ty {h : PHeap} {x : PV} (s : Sr x) : (tyOf h x).isSome = true := by
  obtain ⟨i, rfl, _⟩ := s
  rfl
/-- a list that judge_steps reads -/
theorem jk_list {h : PHeap} {v : PV} {xs : List PV} (a b : Int) (c : lstOf h v = some xs) (l : xs.length ≤ 80000) (m : ∀ x ∈ xs, Sr x) : JK h a b v (fun m => judgeF a b m xs) := .inr ⟨xs, (lst_items c).1, (lst_items c).2, l, fun x hx => sr_ty (m x hx), fun _ => rfl⟩
def sp_stepsR : PSp := spG 5 (fun r => ∃ (a b : Int) (m : Nat), r = [.int a, .int b, .int m] ∧ ser a = true ∧ ser b = true ∧ m ≤ 1000) (fun _ v => v = .bl true)
end L_k25
set_option maxHeartbeats 4000000
/-! P12_k25: steps are right, the law's def. -/
namespace L_k25
open PySem MP TL
abbrev S14 (p : Nat) (a b : Int) (m : Nat) (q : Nat) (o7 o8 o9 o10 o11 o12 o13 : Option PV) : PSt := [some (.ref p), some (.int a), some (.int b), some (.int m), some (.int (few a b m)), some (.int (few a b m)), some (.ref q), o7, o8, o9, o10, o11, o12, o13]
theorem sq_forFh {e : PTE} {g : Tg} {b s : PTS} {D : PD} {τ : PSt} {h : PHeap} {xs : List PV} (x : Ph h e τ (.fl xs)) (k : forGo g b { D with nx := s D } (fun _ => True) xs τ h) : pSeq (pFor (pIter e) g b) s D τ h := x _ _ k
theorem st_forTh {e : PTE} {g : Tg} {b : PTS} {D : PD} {τ : PSt} {h : PHeap} {xs : List PV} (x : Ph h e τ (.tup xs)) (k : forGo g b D (fun _ => True) xs τ h) : pFor (pIter e) g b D τ h := x _ _ k
theorem sq_forRh {l : PTE} {g : Tg} {b s : PTS} {D : PD} {τ : PSt} {h : PHeap} {n : Nat} (x : Ph h l τ (.int n)) (ln : n ≤ 100000) (k : forGo g b { D with nx := s D } (fun _ => True) (rngOf 0 n) τ h) : pSeq (pFor (pRng1 l) g b) s D τ h := by
  refine x _ _ ⟨by omega, by omega, ?_⟩
  rw [Int.toNat_natCast]
  exact k
theorem ph_fz {h : PHeap} {a : PTA} {τ : PSt} {xs : List PV} (x : PhA h a τ xs) : Ph h (pFz a) τ (.fl xs) := fun Q E q => x (fun vs h1 => Q (.fl vs) h1) E q
theorem sr_end {p n i : Nat} {a b : Int} {m : Nat} {h h' T : PHeap} {xs : List PV} {Q : PQ} {Ex : PXQ} {o7 o8 o9 o10 o11 o12 o13 : Option PV} (sa : ser a = true) (sb : ser b = true) (hm : m ≤ 1000) (e : Pe p h h') (P : Pot h' p n) (c : T[i]? = some (.lst xs)) (lx : xs.length ≤ 5000) (k : Q (.bl true) h') :
    u_law_steps_right_12 sp_fewL sp_few sp_steps sp_spoilt sp_judge sp_isWay (body (fzQ h Q) (fzX h Ex)) (S14 p a b m (h.length + i) o7 o8 o9 o10 o11 o12 o13) (h' ++ T) := by
  unfold u_law_steps_right_12
  have l := e.len
  have hc : (h' ++ T)[h.length + i]? = some (.lst xs) := by
    rw [List.getElem?_append_right (by omega), l, Nat.add_sub_cancel_left]
    exact c
  refine ht_append (n := h.length + i) (v := .int 7) rfl hc ph_c (by omega) ?_
  rw [List.set_append_right _ _ (by omega)]
  generalize T.set (h.length + i - h'.length) (.lst (xs ++ [.int 7])) = T2
  show u_law_steps_right_13 sp_fewL sp_few sp_steps sp_spoilt sp_judge sp_isWay (body (fzQ h Q) (fzX h Ex)) (S14 p a b m (h.length + i) o7 o8 o9 o10 o11 o12 o13) (h' ++ T2)
  unfold u_law_steps_right_13
  refine sq_ifF (tv_ne0 (v := .int (few a b m)) (pv_callK0 (zs := [.int m, .int b, .int a]) (pva_cons (pv_var rfl rfl) (pva_cons (pv_var rfl rfl) (pva_cons (pv_var rfl rfl) pva_nil))) rfl rfl (pf_few sa sb hm)) (pv_var rfl rfl) r0_int) ?_
  unfold u_law_steps_right_14
  have V : ∀ (j : Nat) (v : PV), (S14 p a b m (h.length + i) o7 o8 o9 o10 o11 o12 o13)[j]? = some (some v) → isExc v = false → Pv (pVar j) (S14 p a b m (h.length + i) o7 o8 o9 o10 o11 o12 o13) v := fun j v e x => pv_var e x
  refine pva_cons (V 2 (.int b) rfl rfl) (pva_cons (V 3 (.int m) rfl rfl) (pva_cons (V 1 (.int a) rfl rfl) pva_nil)) (h' ++ T2) (fun zs h2 => [].length = 0 ∧ zs.length = 3 ∧ gd 3 sp_steps (pick [2, 0, 1] ([] ++ zs)) h2 (fun x h3 => pNil _ h3 (fun vs h4 => MP.rLen (x :: vs) h4 (fun y h5 => pVar 4 _ h5 (fun z h6 => MP.rEqP y z h6 (fun w h7 => fzQ h Q w h7)) _)) _) _) _ ⟨rfl, rfl, rfl, steps_sp sa sb hm _ _ fun ws t j lw _ _ ct => ?_⟩
  show MP.rLen [.ref ((h' ++ T2).length + j)] (h' ++ T2 ++ t) (fun y h5 => pVar 4 (S14 p a b m (h.length + i) o7 o8 o9 o10 o11 o12 o13) h5 (fun z h6 => MP.rEqP y z h6 (fun w h7 => fzQ h Q w h7)) (fun c v h1 => fzX h Ex c v h1))
  rw [e_len_r, List.getElem?_append_right (by omega), Nat.add_sub_cancel_left, ct]
  dsimp only
  refine V 4 (.int (few a b m)) rfl rfl (h' ++ T2 ++ t) (fun z h6 => MP.rEqP (.int ((ws.map PV.int).length : Int)) z h6 (fun w h7 => fzQ h Q w h7)) _ ?_
  rw [e_eq_ii, List.length_map, decide_eq_true lw, List.append_assoc]
  exact fzQ_pot (f := 0) e P (.bl _) k
theorem sr_things {p n i : Nat} {a b : Int} {m : Nat} {h h' T : PHeap} {xs bs : List PV} {r : Nat} {Q : PQ} {Ex : PXQ} {o7 o9 o10 o11 o12 o13 : Option PV} (sa : ser a = true) (sb : ser b = true) (hm : m ≤ 1000) (e : Pe p h h') (P : Pot h' p n) (c : T[i]? = some (.lst xs)) (mx : ∀ x ∈ xs, Sr x) (lx : xs.length ≤ 5000) (cb : (h' ++ T)[r]? = some (.lst bs)) (mb : ∀ z ∈ bs, NB z) (lb : bs.length ≤ 100) (k : Q (.bl true) h') :
    u_law_steps_right_11 sp_fewL sp_few sp_steps sp_spoilt sp_judge sp_isWay (body (fzQ h Q) (fzX h Ex)) (S14 p a b m (h.length + i) o7 (some (.ref r)) o9 o10 o11 o12 o13) (h' ++ T) := by
  unfold u_law_steps_right_11
  have l := e.len
  have hc : (h' ++ T)[h.length + i]? = some (.lst xs) := by
    rw [List.getElem?_append_right (by omega), l, Nat.add_sub_cancel_left]
    exact c
  generalize hH : h' ++ T = H at hc cb ⊢
  have hq := lst_ref hc
  have tyq : tyOf H (.ref (h.length + i)) = some "list" := (lst_items hq).2
  have VL : PhL H (pVar 6) (S14 p a b m (h.length + i) o7 (some (.ref r)) o9 o10 o11 o12 o13) Sr 5000 := l_var rfl hq mx lx
  have W : PhL H (pVar 6) (S14 p a b m (h.length + i) o7 (some (.ref r)) o9 o10 o11 o12 o13) (fun x => (tyOf H x).isSome = true) 5000 := l_var rfl hq (fun x hx => sr_ty (mx x hx)) lx
  -- the two lists with a stranger at the end
  have ext : ∀ (f : PTE) (s : PV), Ph H f (S14 p a b m (h.length + i) o7 (some (.ref r)) o9 o10 o11 o12 o13) s → (tyOf H s).isSome = true → isSerV s = false → ∀ (g : PTE) (ys : List PV), (∃ v, Ph H g (S14 p a b m (h.length + i) o7 (some (.ref r)) o9 o10 o11 o12 o13) v ∧ lstOf H v = some ys) → (∀ y ∈ ys, (tyOf H y).isSome = true) → ys.length ≤ 5000 → ∃ z, Ph H (pOp rAddV g (pFz (pTmp (pCons f pNil)))) (S14 p a b m (h.length + i) o7 (some (.ref r)) o9 o10 o11 o12 o13) z ∧ No H z := fun f s x1 x2 x3 g ys ⟨v, y1, y2⟩ y3 y4 => by
    refine ⟨.fl (ys ++ [s]), ph_op y1 (fun Q E q => x1 _ E ⟨by rw [sizeLine_eq]; show 1 ≤ 16777216; decide, q⟩ : Ph H (pFz (pTmp (pCons f pNil))) _ (.fl [s])) fun Q q => ?_, .inr ⟨_, rfl, by rw [List.length_append]; show _ + 1 ≤ _; omega, fun x hx => ?_, by rw [List.all_append]; show (_ && (isSerV s && true)) = false; rw [x3]; simp⟩⟩
    · unfold rAddV
      rw [y2]
      exact ⟨by rw [sizeLine_eq]; show _ + 1 ≤ _; omega, q⟩
    · rcases List.mem_append.mp hx with d | d
      · exact y3 x d
      · rw [List.mem_singleton.mp d]; exact x2
  obtain ⟨z4, w4, n4⟩ := ext (pC .non) .non ph_c rfl rfl (pVar 6) xs ⟨_, ph_var rfl rfl, hq⟩ (fun x hx => sr_ty (mx x hx)) lx
  obtain ⟨ys, y1, y2, y3⟩ := l_cut VL l_no (l_at (ph (pv_neg (pv_c (v := .int 1)))))
  obtain ⟨z5, w5, n5⟩ := ext (pC (.bl true)) (.bl true) ph_c rfl rfl _ ys ⟨_, y1, rfl⟩ (fun x hx => sr_ty (y2 x hx)) y3
  have lst7 : PhA H (pTmp (pCons (pC .non) (pCons (pC (.str "way")) (pCons (pCB (onItems MP.rTupI) (pCons (pVar 6) pNil)) (pCons (pOp rAddV (pVar 6) (pFz (pTmp (pCons (pC .non) pNil)))) (pCons (pOp rAddV (pSliceV (pVar 6) pNoPart (pPart (pUn MP.rNeg (pC (.int 1))))) (pFz (pTmp (pCons (pC (.bl true)) pNil)))) (pCons (pFz (pTmp (pCons (pVar 6) pNil))) (pCons (pC (.int 7)) pNil)))))))) (S14 p a b m (h.length + i) o7 (some (.ref r)) o9 o10 o11 o12 o13) [.non, .str "way", .tup xs, z4, z5, .fl [.ref (h.length + i)], .int 7] :=
    pha_tmp (pha_cons ph_c (pha_cons ph_c (pha_cons (ph_cb (pha_cons (ph_var rfl rfl) pha_nil) fun Q q => by rw [e_onI_r, hc]; exact q) (pha_cons w4 (pha_cons w5 (pha_cons (ph_fz (pha_tmp (pha_cons (ph_var (v := .ref (h.length + i)) rfl rfl) pha_nil) (by show 1 ≤ 100000; decide))) (pha_cons ph_c pha_nil))))))) (by show 7 ≤ 100000; decide)
  have all7 : ∀ z ∈ ([.non, .str "way", .tup xs, z4, z5, .fl [.ref (h.length + i)], .int 7] : List PV), No H z := fun z hz => by
    simp only [List.mem_cons, List.not_mem_nil, or_false] at hz
    rcases hz with e | e | e | e | e | e | e
    · subst e; exact .inl ⟨_, rfl, by decide⟩
    · subst e; exact .inl ⟨_, rfl, by decide⟩
    · subst e; exact .inl ⟨_, rfl, by decide⟩
    · subst e; exact n4
    · subst e; exact n5
    · subst e; exact .inr ⟨_, rfl, by show 1 ≤ 80000; decide, fun x hx => by rw [List.mem_singleton.mp hx, tyq]; rfl, rfl⟩
    · subst e; exact .inl ⟨_, rfl, by decide⟩
  have A : Ph H (pOp rAddV (pFz (pTmp (pCons (pC .non) (pCons (pC (.str "way")) (pCons (pCB (onItems MP.rTupI) (pCons (pVar 6) pNil)) (pCons (pOp rAddV (pVar 6) (pFz (pTmp (pCons (pC .non) pNil)))) (pCons (pOp rAddV (pSliceV (pVar 6) pNoPart (pPart (pUn MP.rNeg (pC (.int 1))))) (pFz (pTmp (pCons (pC (.bl true)) pNil)))) (pCons (pFz (pTmp (pCons (pVar 6) pNil))) (pCons (pC (.int 7)) pNil))))))))) (pVar 8)) (S14 p a b m (h.length + i) o7 (some (.ref r)) o9 o10 o11 o12 o13) (.fl ([.non, .str "way", .tup xs, z4, z5, .fl [.ref (h.length + i)], .int 7] ++ bs)) :=
    ph_op (ph_fz lst7) (ph_var (v := .ref r) rfl rfl) fun Q q => by
      unfold rAddV
      rw [lst_ref cb]
      exact ⟨by rw [sizeLine_eq]; show 7 + bs.length ≤ 16777216; omega, q⟩
  have allz : ∀ z ∈ ([.non, .str "way", .tup xs, z4, z5, .fl [.ref (h.length + i)], .int 7] ++ bs), No H z := fun z hz => by
    rcases List.mem_append.mp hz with d | d
    · exact all7 z d
    · exact (mb z d).no H
  generalize ([.non, .str "way", .tup xs, z4, z5, .fl [.ref (h.length + i)], .int 7] ++ bs) = zs at A allz
  refine sq_forFh A ?_
  refine forGo_inv (fun j τ h2 => h2 = H ∧ ∃ o10, τ = S14 p a b m (h.length + i) o7 (some (.ref r)) o9 o10 o11 o12 o13) _ (fun _ _ _ _ => trivial) (fun τ h2 z => ?_) (fun j x τ h2 N ej z nn => ?_) _ _ ⟨rfl, o10, rfl⟩
  · obtain ⟨rfl, o10, rfl⟩ := z
    subst hH
    exact sr_end sa sb hm e P c lx k
  · obtain ⟨rfl, o10, rfl⟩ := z
    have nz := allz x (List.mem_of_getElem? ej)
    refine ⟨_, rfl, ?_⟩
    show u_law_steps_right_11_b_0 sp_fewL sp_few sp_steps sp_spoilt sp_judge sp_isWay _ (S14 p a b m (h.length + i) o7 (some (.ref r)) o9 (some x) o11 o12 o13) h2
    unfold u_law_steps_right_11_b_0
    have nx : isExc x = false := by
      rcases nz with ⟨t, et, _⟩ | ⟨_, rfl, _⟩
      · exact ty_notExc (by rw [et]; rfl)
      · rfl
    refine ht_ifF (th_b (ph_op (w := .bl false) (ph_call (sp := sp_judge) (w := .bl false) (pha_cons (ph_var (i := 1) rfl rfl) (pha_cons (ph_var (i := 2) rfl rfl) (pha_cons (ph_var (i := 3) rfl rfl) (pha_cons (ph_var (i := 10) rfl nx) pha_nil)))) rfl fun Q E q => judge_sp sa sb hm (nz.jk a b) Q E q) ph_c fun Q q => q)) (nn _ _ ⟨rfl, _, rfl⟩)
end L_k25
set_option maxHeartbeats 4000000
/-! P13_k25: steps are right, the first half. -/
namespace L_k25
open PySem MP TL
/-- lists beyond the circle -/
theorem sr_beyond {p n i : Nat} {a b : Int} {m : Nat} {h h' T : PHeap} {xs : List PV} {Q : PQ} {Ex : PXQ} {o7 o8 o9 o10 o11 o12 o13 : Option PV} (sa : ser a = true) (sb : ser b = true) (hm : m ≤ 1000) (e : Pe p h h') (P : Pot h' p n) (c : T[i]? = some (.lst xs)) (mx : ∀ x ∈ xs, Sr x) (lx : xs.length ≤ 5000) (k : Q (.bl true) h') :
    u_law_steps_right_9 sp_fewL sp_few sp_steps sp_spoilt sp_judge sp_isWay (body (fzQ h Q) (fzX h Ex)) (S14 p a b m (h.length + i) o7 o8 o9 o10 o11 o12 o13) (h' ++ T) := by
  unfold u_law_steps_right_9
  refine hq_new (pha_tmp pha_nil) ?_
  have l := e.len
  have li := (List.getElem?_eq_some_iff.mp c).1
  generalize hr : (h' ++ T).length = r
  have hc : ∀ x, (h' ++ (T ++ [x]))[h.length + i]? = some (.lst xs) := fun x => by
    rw [List.getElem?_append_right (by omega), l, Nat.add_sub_cancel_left, List.getElem?_append_left li]
    exact c
  have hb : ∀ x, (h' ++ (T ++ [x]))[r]? = some x := fun x => by
    rw [← hr, ← List.append_assoc, List.getElem?_concat_length]
  show u_law_steps_right_10 sp_fewL sp_few sp_steps sp_spoilt sp_judge sp_isWay (body (fzQ h Q) (fzX h Ex)) (S14 p a b m (h.length + i) o7 (some (.ref r)) o9 o10 o11 o12 o13) (h' ++ T ++ [.lst []])
  rw [List.append_assoc]
  unfold u_law_steps_right_10
  obtain ⟨nn, hnn, hn3, hnx⟩ : ∃ nn : Nat, (if (xs.length : Int) < 3 then (xs.length : Int) else 3) = nn ∧ nn ≤ 3 ∧ nn ≤ xs.length := ⟨min xs.length 3, by split <;> omega, by omega, by omega⟩
  have N : Ph (h' ++ (T ++ [.lst []])) (pCB MP.rMin2 (pCons (pC (.int 3)) (pCons (pCB MP.rLen (pCons (pVar 6) pNil)) pNil))) (S14 p a b m (h.length + i) o7 (some (.ref r)) o9 o10 o11 o12 o13) (.int nn) := ph_cong (ph_cb (w := .int (if (xs.length : Int) < 3 then (xs.length : Int) else 3)) (pha_cons ph_c (pha_cons (ph_lenI (ph_var rfl rfl) (lst_items (lst_ref (hc _))).1 (lst_items (lst_ref (hc _))).2) pha_nil)) fun Q q => q) (by rw [hnn])
  refine sq_forRh N (by omega) ?_
  refine forGo_inv (fun j τ h2 => ∃ (bs : List PV) (o9 o12 : Option PV), h2 = h' ++ (T ++ [.lst bs]) ∧ τ = S14 p a b m (h.length + i) o7 (some (.ref r)) o9 o10 o11 o12 o13 ∧ (∀ z ∈ bs, NB z) ∧ bs.length = 4 * j) _ (fun _ _ _ _ => trivial) (fun τ h2 z => ?_) (fun j x τ h2 N ej z nx => ?_) _ _ ⟨[], o9, o12, rfl, rfl, fun z hz => absurd hz List.not_mem_nil, rfl⟩
  · obtain ⟨bs, o9, o12, rfl, rfl, mb, lb⟩ := z
    rw [rng_len] at lb
    exact sr_things sa sb hm e P (by rw [List.getElem?_append_left li]; exact c) mx lx (hb _) mb (by omega) k
  · obtain ⟨bs, o9, o12, rfl, rfl, mb, lb⟩ := z
    obtain ⟨hj, rfl⟩ := rng_at ej
    rw [Int.zero_add]
    refine ⟨_, rfl, ?_⟩
    show u_law_steps_right_10_b_0 sp_fewL sp_few sp_steps sp_spoilt sp_judge sp_isWay _ (S14 p a b m (h.length + i) o7 (some (.ref r)) (some (.int j)) o10 o11 o12 o13) (h' ++ (T ++ [.lst bs]))
    unfold u_law_steps_right_10_b_0
    refine st_forTh (ph (pv_tup (pva_cons pw32 (pva_cons (pv_neg pw32) pva_nil)) (by show 2 ≤ 100000; decide))) ?_
    refine forGo_inv (fun t τ h2 => ∃ (bs : List PV) (o12 : Option PV), h2 = h' ++ (T ++ [.lst bs]) ∧ τ = S14 p a b m (h.length + i) o7 (some (.ref r)) (some (.int j)) o10 o11 o12 o13 ∧ (∀ z ∈ bs, NB z) ∧ bs.length = 4 * j + 2 * t) _ (fun _ _ _ _ => trivial) (fun τ h2 z => ?_) (fun t x τ h2 N2 et z nx2 => ?_) _ _ ⟨bs, o12, rfl, rfl, mb, by omega⟩
    · obtain ⟨bs, o12, rfl, rfl, mb, lb⟩ := z
      exact nx _ _ ⟨bs, _, o12, rfl, rfl, mb, by rw [lb]; show 4 * j + 2 * 2 = 4 * (j + 1); omega⟩
    · obtain ⟨bs, o12, rfl, rfl, mb, lb⟩ := z
      have ht : t < 2 := (List.getElem?_eq_some_iff.mp et).1
      obtain ⟨y, rfl, hy⟩ : ∃ y : Int, x = .int y ∧ (y = 4294967296 ∨ y = -4294967296) := by
        have := List.mem_of_getElem? et
        simp only [List.mem_cons, List.not_mem_nil, or_false] at this
        rcases this with e | e
        · exact ⟨_, e, .inl rfl⟩
        · exact ⟨_, e, .inr rfl⟩
      refine ⟨_, rfl, ?_⟩
      show u_law_steps_right_10_b_0_b_0 sp_fewL sp_few sp_steps sp_spoilt sp_judge sp_isWay _ (S14 p a b m (h.length + i) o7 (some (.ref r)) (some (.int j)) o10 o11 (some (.int y)) o13) (h' ++ (T ++ [.lst bs]))
      unfold u_law_steps_right_10_b_0_b_0 u_law_steps_right_10_b_0_b_1
      have out : ∀ v : PV, Sr v → ∃ i : Int, v = .int i ∧ ser (i + y) = false := fun v ⟨i, ei, i0, i1⟩ => ⟨i, ei, by
        cases es : ser (i + y) with
        | false => rfl
        | true => have := ser_iff.mp es; omega⟩
      have lj : j < xs.length := by omega
      obtain ⟨i1, ei1, b1⟩ := out _ (mx _ (List.getElem_mem lj))
      obtain ⟨i2, ei2, b2⟩ := out _ (mx _ (List.getElem_mem (show xs.length - 1 - j < xs.length by omega)))
      have VV : ∀ ys, PhL (h' ++ (T ++ [.lst ys])) (pVar 6) (S14 p a b m (h.length + i) o7 (some (.ref r)) (some (.int j)) o10 o11 (some (.int y)) o13) Sr 5000 := fun ys => l_var rfl (lst_ref (hc _)) mx lx
      have apnd : ∀ (ys : List PV) (f : PTE) (D : PD), ys.length ≤ 100 → (∃ v, Ph (h' ++ (T ++ [.lst ys])) f (S14 p a b m (h.length + i) o7 (some (.ref r)) (some (.int j)) o10 o11 (some (.int y)) o13) v ∧ NB v) → (∀ v, NB v → D.nx (S14 p a b m (h.length + i) o7 (some (.ref r)) (some (.int j)) o10 o11 (some (.int y)) o13) (h' ++ (T ++ [.lst (ys ++ [v])]))) → pDrop (pMtT "list" MP.rAppend (pVar 8) (pCons f pNil)) D (S14 p a b m (h.length + i) o7 (some (.ref r)) (some (.int j)) o10 o11 (some (.int y)) o13) (h' ++ (T ++ [.lst ys])) := fun ys f D ly ⟨v, v1, v2⟩ k => by
        refine ht_append (n := r) (v := v) rfl (hb _) v1 (by omega) ?_
        have es : (h' ++ (T ++ [Cell.lst ys])).set r (.lst (ys ++ [v])) = h' ++ (T ++ [.lst (ys ++ [v])]) := by
          rw [← hr, ← List.append_assoc, List.set_append_right _ _ (Nat.le_refl _), Nat.sub_self, List.set_cons_zero, List.append_assoc]
        rw [es]
        exact k v v2
      refine apnd bs _ _ (by omega) ((b_L (b_R (l_cut (VV bs) l_no (l_at (ph_var (v := .int j) rfl rfl))).l.any (b_one (i := i1 + y) (ph_op (w := .int (i1 + y)) (ph_cong (l_ix (ph_var rfl rfl) (lst_ref (hc _)) (ph_var rfl rfl) lj) ei1) (ph_var rfl rfl) fun Q q => by rw [e_addV_ii]; exact q) b1) (by decide)) (l_cut (VV bs) (l_at (ph (pv_op (w := .int ((j : Int) + 1)) (pv_var rfl rfl) pv_c fun _ _ => e_add_ii))) l_no).l.any (by decide)).nb (by decide)) fun v1 nb1 => ?_
      refine apnd (bs ++ [v1]) _ _ (by rw [List.length_append]; show _ + 1 ≤ _; omega) ((b_L (b_R (l_cut (VV _) l_no (l_at (ph (pv_op (w := .int (-1 - (j : Int))) (pv_neg pv_c) (pv_var (v := .int j) rfl rfl) fun _ _ => e_sub)))).l.any (b_one (i := i2 + y) (ph_op (w := .int (i2 + y)) (ph_cong (l_ixN (ph_var rfl rfl) (lst_ref (hc _)) (ph (pv_op (w := .int (-1 - (j : Int))) (pv_neg pv_c) (pv_var (v := .int j) rfl rfl) fun _ _ => e_sub)) lj) ei2) (ph_var rfl rfl) fun Q q => by rw [e_addV_ii]; exact q) b2) (by decide)) (l_cut (VV _) (l_at (ph_op (w := .int ((xs.length : Int) - j)) (ph_lenI (ph_var rfl rfl) (lst_items (lst_ref (hc _))).1 (lst_items (lst_ref (hc _))).2) (ph_var (v := .int j) rfl rfl) fun Q q => q)) l_no).l.any (by decide)).nb (by decide)) fun v2 nb2 => ?_
      refine nx2 _ _ ⟨bs ++ [v1] ++ [v2], _, rfl, rfl, fun z hz => ?_, by rw [List.length_append, List.length_append]; show _ + 1 + 1 = _; omega⟩
      simp only [List.mem_append, List.mem_singleton] at hz
      rcases hz with (hz | hz) | hz
      · exact mb z hz
      · rw [hz]; exact nb1
      · rw [hz]; exact nb2
end L_k25
set_option maxHeartbeats 4000000
/-! P_k25: the law's plain part. -/
namespace L_k25
open PySem MP TL
theorem sq_forC {g : Tg} {b s : PTS} {D : PD} {τ : PSt} {h : PHeap} {a : PTA} {vs : List PV} {sp : PSp} {n : Nat} (A : PvA a τ vs) (l : vs.length = n) (k : sp vs h (fun x h1 => pIter (fun _ _ Q _ => Q x h1) τ h1 (fun ys ok h2 => forGo g b { D with nx := s D } ok ys τ h2) (fun c v h' => D.ex c v τ h')) (fun c v h' => D.ex c v τ h')) : pSeq (pFor (pIter (pCall (gd n sp) a)) g b) s D τ h := A h _ _ ⟨l, k⟩
theorem sq_asgC {s : PTS} {D : PD} {τ : PSt} {h : PHeap} {a : PTA} {vs : List PV} {sp : PSp} {n i : Nat} (A : PvA a τ vs) (l : vs.length = n) (k : sp vs h (fun v h1 => s D (τ.set i (some v)) h1) (fun c v h' => D.ex c v τ h')) : pSeq (pAsg (pCall (gd n sp) a) (.nm i)) s D τ h := A h _ _ ⟨l, k⟩
theorem pf_isWay {a b : Int} {m : Nat} {ws : List Int} (l : ws.length ≤ 90000) : Pf sp_isWay [.int a, .int b, .int m, .fl (ws.map .int)] (.bl (isWay a b m ws)) := fun h Q E q => ⟨a, b, m, _, ws, rfl, rfl, l, q⟩
theorem judge_eq {a b : Int} {m : Nat} {ws : List Int} (ms : ∀ s ∈ ws, ser s = true) : judgeF a b m (ws.map .int) = (decide ((ws.length : Int) = few a b m) && isWay a b m ws) := by
  unfold judgeF
  rw [all_ser (sr_ints ms), ints_map, List.length_map, Bool.true_and]
theorem pf_judge {a b : Int} {m : Nat} {ws : List Int} (sa : ser a = true) (sb : ser b = true) (hm : m ≤ 1000) (ms : ∀ s ∈ ws, ser s = true) (l : ws.length ≤ 80000) : Pf sp_judge [.int a, .int b, .int m, .fl (ws.map .int)] (.bl (decide ((ws.length : Int) = few a b m) && isWay a b m ws)) := fun h Q E q => judge_sp sa sb hm (jk_list a b (v := .fl (ws.map .int)) rfl (by rw [List.length_map]; exact l) (sr_ints ms)) Q E (by rw [judge_eq ms]; exact q)
/-- ways spoilt -/
theorem sr_spoilt {p n i : Nat} {a b : Int} {m : Nat} {h T : PHeap} {xs : List PV} {Q : PQ} {Ex : PXQ} {o7 o8 o9 o10 o11 o12 o13 : Option PV} (sa : ser a = true) (sb : ser b = true) (hm : m ≤ 1000) (P : Pot h p (n + 3)) (c : T[i]? = some (.lst xs)) (mx : ∀ x ∈ xs, Sr x) (lx : xs.length ≤ 5000) (k : ∀ h', Pot h' p n → Pe p h h' → Q (.bl true) h') :
    u_law_steps_right_8 sp_fewL sp_few sp_steps sp_spoilt sp_judge sp_isWay (body (fzQ h Q) (fzX h Ex)) (S14 p a b m (h.length + i) o7 o8 o9 o10 o11 o12 o13) (h ++ T) := by
  unfold u_law_steps_right_8
  have lp := P.lt
  have hc : (h ++ T)[h.length + i]? = some (.lst xs) := by
    rw [List.getElem?_append_right (by omega), Nat.add_sub_cancel_left]
    exact c
  refine sq_forC (vs := [.ref p, .int a, .int b, .ref (h.length + i)]) (pva_cons (pv_var rfl rfl) (pva_cons (pv_var rfl rfl) (pva_cons (pv_var rfl rfl) (pva_cons (pv_var rfl rfl) pva_nil)))) rfl ⟨p, n, a, b, _, xs, rfl, sa, sb, lst_ref hc, fun j e => by cases e; omega, mx, lx, P.app T, fun ys h2 ly my P2 e2 => ?_⟩
  obtain ⟨h', rfl, E2⟩ := e2.un lp
  have P2 := P2.un (by rw [E2.len]; exact lp)
  show forGo (.nm 7) (u_law_steps_right_8_b_0 sp_fewL sp_few sp_steps sp_spoilt sp_judge sp_isWay) { body (fzQ h Q) (fzX h Ex) with nx := u_law_steps_right_9 sp_fewL sp_few sp_steps sp_spoilt sp_judge sp_isWay (body (fzQ h Q) (fzX h Ex)) } (fun _ => True) ys (S14 p a b m (h.length + i) o7 o8 o9 o10 o11 o12 o13) (h' ++ T)
  refine forGo_inv (fun j τ h2 => h2 = h' ++ T ∧ ∃ o7 o11, τ = S14 p a b m (h.length + i) o7 o8 o9 o10 o11 o12 o13) _ (fun _ _ _ _ => trivial) (fun τ h2 z => ?_) (fun j x τ h2 N ej z nn => ?_) _ _ ⟨rfl, o7, o11, rfl⟩
  · obtain ⟨rfl, o7, o11, rfl⟩ := z
    exact sr_beyond sa sb hm E2 P2 c mx lx (k h' P2 E2)
  · obtain ⟨rfl, o7, o11, rfl⟩ := z
    obtain ⟨vs, rfl, mv, lv⟩ := my x (List.mem_of_getElem? ej)
    obtain ⟨ws, rfl, ms⟩ := sers_of mv
    rw [List.length_map] at lv
    refine ⟨_, rfl, ?_⟩
    show u_law_steps_right_8_b_0 sp_fewL sp_few sp_steps sp_spoilt sp_judge sp_isWay _ (S14 p a b m (h.length + i) (some (.fl (ws.map .int))) o8 o9 o10 o11 o12 o13) (h' ++ T)
    unfold u_law_steps_right_8_b_0 u_law_steps_right_8_b_1
    refine sq_asg (v := .bl (decide ((ws.length : Int) = few a b m) && isWay a b m ws)) (pv_and (b1 := decide ((ws.length : Int) = few a b m)) (pv_op (pv_lenF (pv_var rfl rfl)) (pv_var rfl rfl) fun _ _ => by rw [e_eq_ii, List.length_map]) fun _ => pv_call (pva_cons (pv_var rfl rfl) (pva_cons (pv_var rfl rfl) (pva_cons (pv_var rfl rfl) (pva_cons (pv_var rfl rfl) pva_nil)))) rfl (pf_isWay (by omega))) ?_
    refine st_ifF (tv_ne0 (v := .str (reprOf (.bl (decide ((ws.length : Int) = few a b m) && isWay a b m ws)))) (pv_repr (pv_call (pva_cons (pv_var rfl rfl) (pva_cons (pv_var rfl rfl) (pva_cons (pv_var rfl rfl) (pva_cons (pv_var rfl rfl) pva_nil)))) rfl (pf_judge sa sb hm ms (by omega))) trivial) (pv_repr (pv_var rfl rfl) trivial) r0_str) (nn _ _ ⟨rfl, _, _, rfl⟩)
theorem pure__law_steps_right (vs : List PV) (h : PHeap) (Q : PQ) (Ex : PXQ) (_ : vs.length = 4) (hh : sp_stepsR vs h Q Ex) : t__law_steps_right sp_fewL sp_few sp_steps sp_spoilt sp_judge sp_isWay (body (fzQ h Q) (fzX h Ex)) (pstart 14 vs) h := by
  obtain ⟨p, n, rest, rfl, ⟨a, b, m, rfl, sa, sb, hm⟩, P, k⟩ := hh
  show t__law_steps_right sp_fewL sp_few sp_steps sp_spoilt sp_judge sp_isWay (body (fzQ h Q) (fzX h Ex)) [some (.ref p), some (.int a), some (.int b), some (.int m), none, none, none, none, none, none, none, none, none, none] h
  rw [u_law_steps_right_eq]
  unfold u_law_steps_right_0 u_law_steps_right_1 u_law_steps_right_2
  refine sq_asg (pv_call3 (pv_var rfl rfl) (pv_var rfl rfl) (pv_var rfl rfl) (fun h Q E q => ⟨a, b, m, rfl, hm, q⟩ : Pf sp_fewL [.int a, .int b, .int m] (.int (few a b m)))) ?_
  refine sq_asg (pv_call3 (pv_var rfl rfl) (pv_var rfl rfl) (pv_var rfl rfl) (pf_few sa sb hm)) ?_
  refine sq_asgC (vs := [.int a, .int b, .int m]) (pva_cons (pv_var rfl rfl) (pva_cons (pv_var rfl rfl) (pva_cons (pv_var rfl rfl) pva_nil))) rfl (steps_sp sa sb hm _ _ fun ws T i lw ms iw c => ?_)
  show u_law_steps_right_3 sp_fewL sp_few sp_steps sp_spoilt sp_judge sp_isWay (body (fzQ h Q) (fzX h Ex)) (S14 p a b m (h.length + i) none none none none none none none) (h ++ T)
  have F := few_le a b m hm
  have hc : (h ++ T)[h.length + i]? = some (.lst (ws.map .int)) := by
    rw [List.getElem?_append_right (by omega), Nat.add_sub_cancel_left]
    exact c
  have hq := lst_ref hc
  have lm : (ws.map PV.int).length ≤ 5000 := by rw [List.length_map]; omega
  have mx := sr_ints ms
  have sF : ser (few a b m) = true := ser_iff.mpr (by omega)
  unfold u_law_steps_right_3
  refine hq_ifF (th_or (b1 := false) (b2 := false) (th (tv_ne0 (v := .str (reprOf (.int (few a b m)))) (pv_repr (pv_var rfl rfl) (rp sF)) (pv_repr (pv_var rfl rfl) (rp sF)) r0_str)) fun _ => th_or (b1 := false) (b2 := false) (th_cong (th_not (th_t (ph_un (w := .bl true) (ph_var (v := .ref (h.length + i)) rfl rfl) fun Q q => by rw [e_isi (lst_items hq).2, ib_list_list]; exact q))) rfl) fun _ => th_b (ph_op (w := .bl false) (ph_lenI (ph_var rfl rfl) (lst_items hq).1 (lst_items hq).2) (ph_var rfl rfl) fun Q q => by rw [e_ne_ii, List.length_map, decide_eq_true lw]; exact q)) ?_
  unfold u_law_steps_right_4
  refine hq_ifF (th_cong (th_not (th_t (ph_allI (g := fun _ => true) (v := .ref (h.length + i)) rfl (lst_items hq).1 (by omega) fun y hy => ?_))) (by simp)) ?_
  · obtain ⟨s, hs, rfl⟩ := List.mem_map.mp hy
    exact ph (pv_cong (pv_and (b1 := true) (b2 := !false) (pv_un (pv_var (v := .int s) rfl rfl) fun _ _ => by rw [e_isi_i, ib_int_int]) fun _ => pv_notV (pv_un (pv_var (v := .int s) rfl rfl) fun _ _ => by rw [e_isi_i, ib_int_bool])) rfl)
  unfold u_law_steps_right_5
  refine hq_ifF (th_or (b1 := false) (b2 := false) (th_cong (th_not (th_t (ph_allI (g := fun _ => true) (v := .ref (h.length + i)) rfl (lst_items hq).1 (by omega) fun y hy => ?_))) (by simp)) fun _ => th_cong (th_not (th_t (ph_call (sp := sp_isWay) (w := .bl true) (pha_cons (ph_var (i := 1) rfl rfl) (pha_cons (ph_var (i := 2) rfl rfl) (pha_cons (ph_var (i := 3) rfl rfl) (pha_cons (ph_var (i := 6) rfl rfl) pha_nil)))) rfl fun Q E q => ⟨a, b, m, _, ws, rfl, (lst_items hq).1, by omega, by rw [iw]; exact q⟩))) rfl) ?_
  · obtain ⟨s, hs, rfl⟩ := List.mem_map.mp hy
    have z := ser_iff.mp (ms s hs)
    exact ph (pv_cong (pv_chain (b1 := decide (0 ≤ s)) (b2 := decide (s < 4294967296)) pv_c (pv_var (v := .int s) rfl rfl) pw32 (fun _ _ => e_le) fun _ _ => e_lt) (by rw [decide_eq_true z.1, decide_eq_true z.2]; rfl))
  have J : judgeF a b m (ws.map .int) = true := by rw [judge_eq ms, iw, decide_eq_true lw]; rfl
  unfold u_law_steps_right_6
  refine hq_ifF (th_b (ph_op (w := .bl false) (ph_call (sp := sp_judge) (w := .bl true) (pha_cons (ph_var (i := 1) rfl rfl) (pha_cons (ph_var (i := 2) rfl rfl) (pha_cons (ph_var (i := 3) rfl rfl) (pha_cons (ph_var (i := 6) rfl rfl) pha_nil)))) rfl fun Q E q => judge_sp sa sb hm (jk_list a b hq (by omega) mx) Q E (by rw [J]; exact q)) ph_c fun Q q => q)) ?_
  unfold u_law_steps_right_7
  refine hq_ifF (th_b (ph_op (w := .bl false) (ph_callK0 (zs := [.fl (ws.map .int), .int m, .int b, .int a]) (w := .bl true) (pha_cons (ph_cb (pha_cons (ph_var (v := .ref (h.length + i)) rfl rfl) pha_nil) fun Q q => by rw [e_onI_r, hc]; exact q) (pha_cons (ph_var rfl rfl) (pha_cons (ph_var rfl rfl) (pha_cons (ph_var rfl rfl) pha_nil)))) rfl rfl fun Q E q => judge_sp sa sb hm (jk_list a b (v := .fl (ws.map .int)) rfl (by omega) mx) Q E (by rw [J]; exact q)) ph_c fun Q q => q)) ?_
  exact sr_spoilt sa sb hm (n := n + 2) (P.le (by omega)) c mx lm fun h' P' e' => k _ h' rfl (P'.le (by omega)) e'
/-! ### the law -/
def sp_law : PSp := fun vs h Q _ => ∃ ns : List Int, vs = [.fl (ns.map .int)] ∧ ns.length ≤ 63 ∧ ∀ h', Q (.bl true) h'
theorem call_ge {sp : PSp} {k w p i : Nat} {τ : PSt} {a : PTA} {vs : List PV} {pre : List PV → Prop} (h0 : τ[i]? = some (some (.ref p))) (A : PvA a τ vs) (l : vs.length + 1 = k) (hp : pre vs) (hs : sp = spG w pre (fun _ v => v = .bl true) := by rfl) : Ge p w (pCall (gd k sp) (pCons (pVar i) a)) τ (fun v => v = .bl true) :=
  ge_up (ge_imp (ge_call h0 (gea_pv (U := fun r => r = vs) A rfl) (fun r e => by subst e; exact ⟨l, hp⟩) hs) fun v ⟨r, _, z⟩ => z) (by omega)
theorem circle_ge {p i : Nat} {τ : PSt} {e f : PTE} {a b : Int} (h0 : τ[i]? = some (some (.ref p))) (x : Pv e τ (.int a)) (y : Pv f τ (.int b)) (sa : ser a = true) (sb : ser b = true) : Ge p 30 (pCall (gd 3 sp_circle) (pCons (pVar i) (pCons e (pCons f pNil)))) τ (fun v => v = .bl true) := call_ge (pre := fun r => ∃ a b : Int, r = [.int a, .int b] ∧ ser a = true ∧ ser b = true) h0 (pva_cons x (pva_cons y pva_nil)) rfl ⟨a, b, rfl, sa, sb⟩ rfl
theorem errs_ge {p i : Nat} {τ : PSt} {e f : PTE} {a b : Int} (h0 : τ[i]? = some (some (.ref p))) (x : Pv e τ (.int a)) (y : Pv f τ (.int b)) (sa : ser a = true) (sb : ser b = true) : Ge p 12 (pCall (gd 3 sp_errs) (pCons (pVar i) (pCons e (pCons f pNil)))) τ (fun v => v = .bl true) := call_ge (pre := fun r => ∃ a b : Int, r = [.int a, .int b] ∧ ser a = true ∧ ser b = true) h0 (pva_cons x (pva_cons y pva_nil)) rfl ⟨a, b, rfl, sa, sb⟩ rfl
theorem steps_ge {p i : Nat} {τ : PSt} {e f g : PTE} {a b : Int} {m : Nat} (h0 : τ[i]? = some (some (.ref p))) (x : Pv e τ (.int a)) (y : Pv f τ (.int b)) (z : Pv g τ (.int m)) (sa : ser a = true) (sb : ser b = true) (hm : m ≤ 1000) : Ge p 5 (pCall (gd 4 sp_stepsR) (pCons (pVar i) (pCons e (pCons f (pCons g pNil))))) τ (fun v => v = .bl true) := call_ge (pre := fun r => ∃ (a b : Int) (m : Nat), r = [.int a, .int b, .int m] ∧ ser a = true ∧ ser b = true ∧ m ≤ 1000) h0 (pva_cons x (pva_cons y (pva_cons z pva_nil))) rfl ⟨a, b, m, rfl, sa, sb, hm⟩ rfl
theorem st_ifN {p w n : Nat} {e : PTE} {s1 s2 : PTS} {D : PD} {τ : PSt} {h : PHeap} (g : Ge p w e τ (fun v => v = .bl true)) (P : Pot h p (n + w)) (k : ∀ h', Pot h' p n → Pe p h h' → s2 D τ h') : pIfS (pNot (pT e)) s1 s2 D τ h := notT_run g P fun h' P' e' => k h' P' e'
theorem pure_law (vs : List PV) (h : PHeap) (Q : PQ) (Ex : PXQ) (_ : vs.length = 1) (hh : sp_law vs h Q Ex) : t_law sp_deck sp_serials sp_errs sp_circle sp_stepsR (body Q Ex) (pstart 6 vs) h := by
  obtain ⟨ns, rfl, ln, k⟩ := hh
  show t_law sp_deck sp_serials sp_errs sp_circle sp_stepsR (body Q Ex) [some (.fl (ns.map .int)), none, none, none, none, none] h
  rw [u_law_eq]
  unfold u_law_0
  refine sq_asgC (vs := [.fl (ns.map .int)]) (pva_cons (pv_var rfl rfl) pva_nil) rfl ⟨ns, rfl, ln, fun c P => ?_⟩
  generalize h.length = p at P
  generalize h ++ [c] = h1 at P
  show u_law_1 sp_deck sp_serials sp_errs sp_circle sp_stepsR (body Q Ex) [some (.fl (ns.map .int)), some (.ref p), none, none, none, none] h1
  unfold u_law_1
  obtain ⟨t, ht, lt⟩ : ∃ t : Nat, (if (if (ns.length : Int) / 12 < 3 then (ns.length : Int) / 12 else 3) > 1 then (if (ns.length : Int) / 12 < 3 then (ns.length : Int) / 12 else 3) else 1) = t ∧ t ≤ 3 := by
    refine ⟨(if (if (ns.length : Int) / 12 < 3 then (ns.length : Int) / 12 else 3) > 1 then (if (ns.length : Int) / 12 < 3 then (ns.length : Int) / 12 else 3) else 1).toNat, ?_, ?_⟩ <;> split <;> split <;> omega
  refine sq_forR (n := t) (pv_cong (pv_cb (w := .int (if (if (ns.length : Int) / 12 < 3 then (ns.length : Int) / 12 else 3) > 1 then (if (ns.length : Int) / 12 < 3 then (ns.length : Int) / 12 else 3) else 1)) (pva_cons pv_c (pva_cons (pv_cb (w := .int (if (ns.length : Int) / 12 < 3 then (ns.length : Int) / 12 else 3)) (pva_cons pv_c (pva_cons (pv_op' (w := .int ((ns.length : Int) / 12)) (pv_lenF (pv_var rfl rfl)) pv_c fun _ _ q => by
    rw [List.length_map]
    exact ⟨⟨by decide, by decide +kernel⟩, q⟩) pva_nil)) fun _ _ => e_min) pva_nil)) fun _ _ => e_max) (by rw [ht])) (by omega) ?_
  refine forGo_inv (fun j τ h2 => ∃ o2 o3 o4 o5, τ = [some (.fl (ns.map .int)), some (.ref p), o2, o3, o4, o5] ∧ Pot h2 p (100 * (3 - j))) _ (fun _ _ _ _ => trivial) (fun τ h2 z => ?_) (fun j x τ h2 N ej z nn => ?_) _ _ ⟨none, none, none, none, rfl, P.le (by omega)⟩
  · obtain ⟨o2, o3, o4, o5, rfl, _⟩ := z
    show u_law_2 sp_deck sp_serials sp_errs sp_circle sp_stepsR (body Q Ex) [some (.fl (ns.map .int)), some (.ref p), o2, o3, o4, o5] h2
    unfold u_law_2
    exact st_rt pv_c (k _)
  · obtain ⟨o2, o3, o4, o5, rfl, P2⟩ := z
    obtain ⟨hj, rfl⟩ := rng_at ej
    rw [Int.zero_add]
    refine ⟨_, rfl, ?_⟩
    show u_law_1_b_0 sp_deck sp_serials sp_errs sp_circle sp_stepsR _ [some (.fl (ns.map .int)), some (.ref p), some (.int j), o3, o4, o5] h2
    unfold u_law_1_b_0
    have e100 : 100 * (3 - j) = 100 * (3 - (j + 1)) + 100 := by omega
    rw [e100] at P2
    refine (ge_call1 (w := 12) (i := 1) rfl rfl : Ge p 12 (pCall (gd 1 sp_serials) (pCons (pVar 1) pNil)) [some (.fl (ns.map .int)), some (.ref p), some (.int j), o3, o4, o5] _) h2 (100 * (3 - (j + 1)) + 88) _ _ P2 fun v h3 ⟨a, b, m, ev, sa, sb, hm⟩ P3 _ => ?_
    subst ev
    show u_law_1_b_1 sp_deck sp_serials sp_errs sp_circle sp_stepsR _ [some (.fl (ns.map .int)), some (.ref p), some (.int j), some (.int a), some (.int b), some (.int m)] h3
    unfold u_law_1_b_1 u_law_1_b_2
    refine seq_if (or_run (notT_run (circle_ge rfl (pv_var rfl rfl) (pv_var rfl rfl) sa sb) (n := 100 * (3 - (j + 1)) + 58) P3 fun h4 P4 _ => ?_))
    rw [if_neg Bool.false_ne_true]
    refine notT_run (steps_ge rfl (pv_var rfl rfl) (pv_var rfl rfl) (pv_var rfl rfl) sa sb hm) (n := 100 * (3 - (j + 1)) + 53) P4 fun h5 P5 _ => ?_
    show pIfS (pNot (pT (pCall (gd 3 sp_errs) (pCons (pVar 1) (pCons (pVar 3) (pCons (pVar 4) pNil)))))) (pRet (pC (.bl false))) pNext _ [some (.fl (ns.map .int)), some (.ref p), some (.int j), some (.int a), some (.int b), some (.int m)] h5
    refine st_ifN (errs_ge rfl (pv_var rfl rfl) (pv_var rfl rfl) sa sb) (n := 100 * (3 - (j + 1)) + 41) P5 fun h6 P6 _ => ?_
    exact nn _ _ ⟨_, _, _, _, rfl, P6.le (by omega)⟩
end L_k25
set_option maxHeartbeats 0
/-! Printed by gen.py: the head. -/
namespace L_k25
open PySem PySem.Spec PyProof.Rows L2 TL MP
abbrev R : PySem.W.OpenRow := PySem.W.OpenLaw.row PySem.Challenge.rw_rootward_k25_steps_on_the_circle
abbrev hk : PySem.W.Hook := hookM 6 fb fn
def ob (s : PySem.W.SharedT) : He.AlD := obsMG 6 fb fn (HandSHeadRun.getT s)
theorem ob_eq (s : PySem.W.SharedT) : ob s = hk.obs s.abs := obsMG_eq (HandSHeadRun.getT_eq s)
def loose : List PySem.Str := (["TreeError", "InvalidNumber", "InvalidSerial", "CIRCLE", "HALF", "MOST_MISSED", "anew", "is_integer", "is_serial", "need_serial", "newer", "further", "newest", "need_missed", "fewest_steps", "steps", "judge_steps", "_law_deck", "_law_draw", "_law_way", "_law_is_newer", "_law_serials", "_law_longest", "_law_fewest", "_law_is_way"] : List Str) ++ (["_law_error", "_law_errors_right", "_law_circle_right", "_law_spoilt", "_law_steps_right"] : List Str)
theorem run (w : World) : HandSHeadRun.RunEq R (PySem.W.view R.prog [34]) hk ob 6000 loose w := by
  intro os
  kernel_rfl
end L_k25

open PySem PySem.W PySem.Calls PyProof.Rows
/-- the head: what is left is the law's own promise -/
theorem L_k25.head {sp : MP.PSp} (ok : ∀ (w : World) (K : PySem.W.Frag) (mg : PySem.Str → Option Value) (base : Heap), L_k25.HX K mg base → MP.Ok (PySem.Challenge.rw_rootward_k25_steps_on_the_circle).prog w K mg base "law" L_k25.s_law [PySem.Str.ofString "_law_script"] 24 sp)
    (pure : ∀ ns : List Int, ns.length ≤ 63 → sp [.fl (ns.map MP.PV.int)] [] (fun v _ => v = .bl true) MP.F0) : PySem.Challenge.rw_rootward_k25_steps_on_the_circle.Holds := by
  w_on; o_law
  refine HandSHeadRun.head_any (r := OpenLaw.row PySem.Challenge.rw_rootward_k25_steps_on_the_circle) (q := view (OpenLaw.row PySem.Challenge.rw_rootward_k25_steps_on_the_circle).prog [34]) (H := L_k25.hk) (ob := L_k25.ob) (M := 6000) (loose := L_k25.loose) (d := HandSHeadRun.topDef (OpenLaw.row PySem.Challenge.rw_rootward_k25_steps_on_the_circle).prog 34) (kwd := []) L_k25.ob_eq
    (by kernel_rfl) (fun s => by kernel_rfl) L_k25.run (by kernel_rfl) (by kernel_rfl) (by kernel_rfl) (by rfl) (by first | assumption | decide +kernel) (by decide +kernel) ⟨rfl, rfl, rfl, rfl, rfl, by decide +kernel⟩ ?hw ?hc
  case hw => w_witness2
  case hc =>
    refine L2.walk_ofM (l := PySem.Challenge.rw_rootward_k25_steps_on_the_circle) (n := 63) (k := 24) (x := PySem.Str.ofString "_law_script") rfl (by decide) (by kernel_rfl) ⟨rfl, by decide, by decide⟩ ?F
    case F =>
      intro w mg fa h Y G hmg
      obtain ⟨K, X, c⟩ := Y
      have E : L_k25.HX K mg h := ⟨c, X, G⟩
      have hnm : (HandSHeadRun.topDef (OpenLaw.row PySem.Challenge.rw_rootward_k25_steps_on_the_circle).prog 34).name = "law" := by kernel_rfl
      rw [hnm] at hmg
      have e := hmg.symm.trans E.g_law
      obtain rfl : fa = He.ga K "law" := by cases e; rfl
      obtain ⟨fd, F⟩ := E.d_law
      have hb : ∀ (s : Shared) (u : Value), BindsTo s fd ⟨[u], []⟩ [(PySem.Str.ofString "_law_script", u)] := fun s u => by
        obtain ⟨oc, od, dV, kV, doc, pm, an, cdv, ct, osl, rfl, _, _, hD, _⟩ := F.ex
        rcases hD with ⟨_, rfl⟩ | ⟨e, _⟩
        · exact BindsTo.of_eq rfl
        · exact absurd rfl e
      obtain ⟨fd2, sp2, h1, h2, h3⟩ := MP.law_end (P := (PySem.Challenge.rw_rootward_k25_steps_on_the_circle).prog) (w := w) (mg := mg) (x := PySem.Str.ofString "_law_script") (k := 24) (n := 63) (by decide) F hb (fun base X' G' => ok w K mg base ⟨c, X', G'⟩) pure
      exact ⟨K, fd2, sp2, X, h1, h2, h3⟩
set_option maxHeartbeats 8000000
/-! Printed by gen.py: the join. -/
namespace L_k25
open PySem PySem.Spec PyProof.Rows MP TL
theorem ok_all {P : Program} {w : World} {K : PySem.W.Frag} {mg : Str → Option Value} {base : Heap} (E : HX K mg base) : Ok P w K mg base "law" s_law ["_law_script"] 24 sp_law := by
  have O_anew : Ok P w K mg base "anew" s_anew ["value"] 17 (sp_anew 17) := ok_rec (b := 0) E.d_anew rfl (fun f kk hk H => ok_anew E hk H (pure_anew f)) 17
  have O_is_integer := ok_is_integer (P := P) (w := w) E  pure_is_integer
  have O_is_serial := ok_is_serial (P := P) (w := w) E O_is_integer pure_is_serial
  have O_need_serial := ok_need_serial (P := P) (w := w) E O_is_serial O_anew pure_need_serial
  have O_newer := ok_newer (P := P) (w := w) E O_need_serial pure_newer
  have O_need_missed := ok_need_missed (P := P) (w := w) E  pure_need_missed
  have O_fewest_steps := ok_fewest_steps (P := P) (w := w) E O_need_serial O_need_missed pure_fewest_steps
  have O_steps := ok_steps (P := P) (w := w) E O_fewest_steps pure_steps
  have O_further := ok_further (P := P) (w := w) E O_need_serial O_steps (pure_further sp_steps)
  have O_newest := ok_newest (P := P) (w := w) E O_need_serial O_newer pure_newest
  have O_judge_steps := okz (fun sp' p => ok_judge_steps (P := P) (w := w) E O_fewest_steps O_is_serial p) pure_judge_steps
  have O__law_deck := ok__law_deck (P := P) (w := w) E  pure__law_deck
  have O__law_draw := ok__law_draw (P := P) (w := w) E  pure__law_draw
  have O__law_way := ok__law_way (P := P) (w := w) E  pure__law_way
  have O__law_is_newer := ok__law_is_newer (P := P) (w := w) E O__law_way pure__law_is_newer
  have O__law_serials := ok__law_serials (P := P) (w := w) E O__law_draw pure__law_serials
  have O__law_longest := ok__law_longest (P := P) (w := w) E  pure__law_longest
  have O__law_fewest := ok__law_fewest (P := P) (w := w) E O__law_way O__law_longest pure__law_fewest
  have O__law_is_way := okz (fun sp' p => ok__law_is_way (P := P) (w := w) E O__law_is_newer O__law_way p) pure__law_is_way
  have O__law_error := okz (fun sp' p => ok__law_error (P := P) (w := w) E O_newer O_further O_newest O_fewest_steps O_steps O_judge_steps p) pure__law_error
  have O__law_errors_right := ok__law_errors_right (P := P) (w := w) E O__law_draw O__law_error pure__law_errors_right
  have O__law_circle_right := ok__law_circle_right (P := P) (w := w) E O_further O__law_draw O_newer O__law_is_newer O_newest pure__law_circle_right
  have O__law_spoilt := okz (fun sp' p => ok__law_spoilt (P := P) (w := w) E O__law_draw p) pure__law_spoilt
  have O__law_steps_right := okz (fun sp' p => ok__law_steps_right (P := P) (w := w) E O__law_fewest O_fewest_steps O_steps O__law_spoilt O_judge_steps O__law_is_way p) pure__law_steps_right
  have O_law := ok_law (P := P) (w := w) E O__law_deck O__law_serials O__law_errors_right O__law_circle_right O__law_steps_right pure_law
  exact O_law
end L_k25
theorem PySem.Challenge.cw_rootward_k25_steps_on_the_circle_holds : PySem.Challenge.rw_rootward_k25_steps_on_the_circle.Holds := by
  exact L_k25.head (sp := L_k25.sp_law) (fun w K mg base E => L_k25.ok_all E) fun ns l => ⟨ns, rfl, l, fun _ => rfl⟩
