import PyProof.Rows.All
import Wide.All
import OpenK.AllK
import Wide.FinOn
import HandS.ForMost
import HandS.ForExc
import HandS.Walk
import HandS.ExcCtx
import HandS.HotCalls
import HandS.ExcIs
import KE.KeyNested
import HandS.TupLe
import HandS.TupAny
import HandS.Deep
import HandS.IsInst
import HandS.List
import HandS.Text
import PyProof.ListStr
import HandS.Set
import HandS.SetFor
import HandS.More
import HandS.SetKeys
import HandS.Dict
import HandS.NoneIn
import HandS.Style
import HandS.Iter
import HandS.Zip0
import HandS.Zip
import PyProof.Draws
import KE.KDictPairs
import KE.KDictDisplayH
import KE.KDictWalk
import HandS.Defaults
import HandS.HeadHook2
import HandS.HeadEnd
import KE.DataMinMax
import KE.SortData
import HandS.Conv
import HandS.Replace
import KE.IntTextLaws
import KE.KItem
import KE.GoesEnum
import HandS.Head2
import PySem.Challenge.RW_letterwheels_k35_whole_thinned_rows
set_option Elab.async false
set_option linter.all false
set_option maxRecDepth 100000
set_option maxHeartbeats 4000000
/-! Den: the pure side. Data, outcomes, slots, what expressions and statements denote. No program, no heap. -/
namespace Den
/-- the program's own errors -/
inductive Err where
  | wheel | wheels | stand | row | slips | text | place | printer | word | nothing | sign
  deriving DecidableEq
/-- data. A text is its code points; dct: a dict by ints and texts, dcn: a dict by tuples; exn: an error caught -/
inductive D where
  | non | bl (b : Bool) | int (i : Int) | str (s : List Nat) | tup (ds : List D) | lst (ds : List D)
  | dct (kvs : List (D × D))
  | dcn (kvs : List (D × D))
  | exn (e : Err)
  /-- the script -/
  | scr (ns : List Int)
namespace D
mutual
def same : D → D → Bool
  | .non, .non => true
  | .bl a, .bl b => a == b
  | .int a, .int b => a == b
  | .str a, .str b => a == b
  | .tup a, .tup b => sameL a b
  | .lst a, .lst b => sameL a b
  | .dct a, .dct b => sameP a b
  | .dcn a, .dcn b => sameP a b
  | .exn a, .exn b => decide (a = b)
  | .scr a, .scr b => a == b
  | _, _ => false
def sameL : List D → List D → Bool
  | [], [] => true
  | x :: xs, y :: ys => same x y && sameL xs ys
  | _, _ => false
def sameP : List (D × D) → List (D × D) → Bool
  | [], [] => true
  | (x, u) :: xs, (y, v) :: ys => same x y && same u v && sameP xs ys
  | _, _ => false
end
mutual
theorem same_self : ∀ a : D, same a a = true
  | .non => rfl
  | .bl a => by simp [same]
  | .int a => by simp [same]
  | .str a => by simp [same]
  | .tup a => by simp [same, sameL_self a]
  | .lst a => by simp [same, sameL_self a]
  | .dct a => by simp [same, sameP_self a]
  | .dcn a => by simp [same, sameP_self a]
  | .exn a => by simp [same]
  | .scr a => by simp [same]
theorem sameL_self : ∀ a : List D, sameL a a = true
  | [] => rfl
  | x :: xs => by simp [sameL, same_self x, sameL_self xs]
theorem sameP_self : ∀ a : List (D × D), sameP a a = true
  | [] => rfl
  | (x, u) :: xs => by simp [sameP, same_self x, same_self u, sameP_self xs]
end
mutual
theorem eq_of_same : ∀ a b : D, same a b = true → a = b
  | .non, b, h => by cases b <;> simp_all [same]
  | .bl a, b, h => by cases b <;> simp_all [same]
  | .int a, b, h => by cases b <;> simp_all [same]
  | .str a, b, h => by cases b <;> simp_all [same]
  | .tup a, b, h => by cases b <;> simp [same] at h; rw [eq_of_sameL a _ h]
  | .lst a, b, h => by cases b <;> simp [same] at h; rw [eq_of_sameL a _ h]
  | .dct a, b, h => by cases b <;> simp [same] at h; rw [eq_of_sameP a _ h]
  | .dcn a, b, h => by cases b <;> simp [same] at h; rw [eq_of_sameP a _ h]
  | .exn a, b, h => by cases b <;> simp_all [same]
  | .scr a, b, h => by cases b <;> simp_all [same]
theorem eq_of_sameL : ∀ a b : List D, sameL a b = true → a = b
  | [], b, h => by cases b <;> simp_all [sameL]
  | x :: xs, b, h => by
    cases b with
    | nil => simp [sameL] at h
    | cons y ys =>
      simp [sameL] at h
      rw [eq_of_same x y h.1, eq_of_sameL xs ys h.2]
theorem eq_of_sameP : ∀ a b : List (D × D), sameP a b = true → a = b
  | [], b, h => by cases b <;> simp_all [sameP]
  | (x, u) :: xs, b, h => by
    cases b with
    | nil => simp [sameP] at h
    | cons y ys =>
      obtain ⟨y, v⟩ := y
      simp [sameP] at h
      rw [eq_of_same x y h.1.1, eq_of_same u v h.1.2, eq_of_sameP xs ys h.2]
end
instance : DecidableEq D := fun a b => if h : same a b = true then isTrue (eq_of_same a b h) else isFalse fun e => h (e ▸ same_self a)

mutual
/-- == -/
def eqv : D → D → Bool
  | .non, .non => true
  | .bl a, .bl b => a == b
  | .bl a, .int j => (if a then 1 else 0) == j
  | .int i, .bl b => i == (if b then 1 else 0)
  | .int i, .int j => i == j
  | .str x, .str y => x == y
  | .lst xs, .lst ys => eqvL xs ys
  | .tup xs, .tup ys => eqvL xs ys
  | _, _ => false
def eqvL : List D → List D → Bool
  | [], [] => true
  | x :: xs, y :: ys => eqv x y && eqvL xs ys
  | _, _ => false
end
mutual
/-- none, bools, ints, texts, tuples and lists of these -/
def plain : D → Bool
  | .non | .bl _ | .int _ | .str _ => true
  | .tup ds => plainL ds
  | .lst ds => plainL ds
  | _ => false
def plainL : List D → Bool
  | [] => true
  | d :: ds => plain d && plainL ds
end
mutual
def depth : D → Nat
  | .tup ds => depthL ds + 1
  | .lst ds => depthL ds + 1
  | _ => 0
def depthL : List D → Nat
  | [] => 0
  | d :: ds => max (depth d) (depthL ds)
end
mutual
/-- ints, texts, None, tuples of these -/
def nk : D → Bool
  | .non | .int _ | .str _ => true
  | .tup ds => nkL ds
  | _ => false
def nkL : List D → Bool
  | [] => true
  | d :: ds => nk d && nkL ds
end
/-- what a dict by tuples takes as a key -/
def keyOk : D → Bool
  | .tup ds => nkL ds && decide (depthL ds ≤ 7)
  | _ => false
/-- a pair (key, value), the key an int or a text -/
def pairKey : D → Bool
  | .tup [.int _, _] => true
  | .tup [.str _, _] => true
  | _ => false
end D
def isPairs (ds : List D) : Bool := ds.all D.pairKey

/-- an outcome: a value, an error that goes out, or what the layer does not speak of -/
inductive Out (α : Type) where
  | ok (a : α) | exc (e : Err) | bad
def Out.bind {α β : Type} : Out α → (α → Out β) → Out β
  | .ok a, f => f a
  | .exc e, _ => .exc e
  | .bad, _ => .bad
@[simp] theorem Out.bind_ok {α β : Type} (a : α) (f : α → Out β) : (Out.ok a).bind f = f a := rfl
@[simp] theorem Out.bind_exc {α β : Type} (e : Err) (f : α → Out β) : (Out.exc e : Out α).bind f = .exc e := rfl
@[simp] theorem Out.bind_bad {α β : Type} (f : α → Out β) : (Out.bad : Out α).bind f = .bad := rfl
/-- what holds of an outcome -/
def OutP {α : Type} (o : Out α) (P : α → Prop) (E : Err → Prop) : Prop := match o with
  | .ok a => P a
  | .exc e => E e
  | .bad => False
@[simp] theorem outP_ok {α : Type} (a : α) (P : α → Prop) (E : Err → Prop) : OutP (.ok a) P E = P a := rfl
@[simp] theorem outP_exc {α : Type} (e : Err) (P : α → Prop) (E : Err → Prop) : OutP (.exc e : Out α) P E = E e := rfl
@[simp] theorem outP_bad {α : Type} (P : α → Prop) (E : Err → Prop) : OutP (.bad : Out α) P E = False := rfl
theorem outP_bind {α β : Type} (o : Out α) (f : α → Out β) (P : β → Prop) (E : Err → Prop) : OutP (o.bind f) P E = OutP o (fun a => OutP (f a) P E) E := by cases o <;> rfl
theorem OutP.imp {α : Type} {o : Out α} {P P' : α → Prop} {E E' : Err → Prop} (h : OutP o P E) (hp : ∀ a, P a → P' a) (he : ∀ e, E e → E' e) : OutP o P' E' := by
  cases o with
  | ok a => exact hp a h
  | exc e => exact he e h
  | bad => exact h

/-! ### operations on data -/
/-- a text, a list, a tuple longer than this the layer does not speak of -/
abbrev LIM : Nat := 1000000
def gAdd : D → D → Out D
  | .int i, .int j => .ok (.int (i + j))
  | .str a, .str b => if a.length + b.length ≤ LIM then .ok (.str (a ++ b)) else .bad
  | .tup a, .tup b => if a.length + b.length ≤ LIM then .ok (.tup (a ++ b)) else .bad
  | .lst a, .lst b => if a.length + b.length ≤ LIM then .ok (.lst (a ++ b)) else .bad
  | _, _ => .bad
def gSub : D → D → Out D
  | .int i, .int j => .ok (.int (i - j))
  | _, _ => .bad
def smallI (i : Int) : Bool := decide (-(2 ^ 64) < i) && decide (i < 2 ^ 64)
def inW (j : Int) : Bool := decide (-(2 ^ 62) ≤ j) && decide (j < 2 ^ 62)
def repL {α : Type} (k : Nat) (l : List α) : List α := (List.replicate k l).flatten
def gMul : D → D → Out D
  | .int i, .int j => if (smallI i || smallI j) = true then .ok (.int (i * j)) else .bad
  | .str a, .int k => if inW k = true ∧ a.length * k.toNat ≤ LIM then .ok (.str (repL k.toNat a)) else .bad
  | .lst a, .int k => if inW k = true ∧ a.length * k.toNat ≤ LIM then .ok (.lst (repL k.toNat a)) else .bad
  | _, _ => .bad
def gMod : D → D → Out D
  | .int i, .int j => if 0 < j then .ok (.int (i % j)) else .bad
  | _, _ => .bad
def gFdiv : D → D → Out D
  | .int i, .int j => if 0 < j ∧ j < 1073741824 then .ok (.int (i / j)) else .bad
  | _, _ => .bad
def gPow : D → D → Out D
  | .int i, .int j => if 0 ≤ j ∧ j ≤ 1000000 ∧ i.natAbs < 2 ^ 64 then .ok (.int (i ^ j.toNat)) else .bad
  | _, _ => .bad
def gNeg : D → Out D
  | .int i => .ok (.int (-i))
  | _ => .bad
def eqS (a b : D) : Out Bool := match a, b with
  | .scr ns, .lst [] => .ok (ns.isEmpty)
  | a, b => if a.plain = true ∧ b.plain = true ∧ min a.depth b.depth ≤ 60 then .ok (a.eqv b) else .bad
def gEq (a b : D) : Out D := (eqS a b).bind fun k => .ok (.bl k)
def gNe (a b : D) : Out D := (eqS a b).bind fun k => .ok (.bl !k)
def gLt : D → D → Out D
  | .int i, .int j => .ok (.bl (decide (i < j)))
  | .str a, .str b => .ok (.bl (decide (a < b)))
  | _, _ => .bad
def gLe : D → D → Out D
  | .int i, .int j => .ok (.bl (decide (i ≤ j)))
  | .str a, .str b => .ok (.bl !(decide (b < a)))
  | _, _ => .bad
def gGt : D → D → Out D
  | .int i, .int j => .ok (.bl (decide (j < i)))
  | _, _ => .bad
def gGe : D → D → Out D
  | .int i, .int j => .ok (.bl (decide (j ≤ i)))
  | _, _ => .bad
def D.isNon : D → Bool
  | .non => true
  | _ => false
def gIs (a b : D) : Out D := match b with
  | .non => .ok (.bl a.isNon)
  | .bl y => match a with
    | .bl x => .ok (.bl (decide (x = y)))
    | _ => .bad
  | _ => .bad
def gIsNot (a b : D) : Out D := match b with
  | .non => .ok (.bl !a.isNon)
  | _ => .bad
/-- xs[i], from the end where i is less than nought -/
def atI {α : Type} (xs : List α) (i : Int) : Option α := if 0 ≤ i then xs[i.toNat]? else if -(xs.length : Int) ≤ i then xs[(i + xs.length).toNat]? else none
def ofO {α : Type} : Option α → Out α
  | some a => .ok a
  | none => .bad
def lookS (kvs : List (D × D)) (k : D) : Option D := (kvs.find? fun p => decide (p.1 = k)).map (·.2)
def gIx : D → D → Out D
  | .lst ds, .int i => ofO (atI ds i)
  | .tup ds, .int i => ofO (atI ds i)
  | .str l, .int i => if l.length ≤ LIM then ofO ((atI l i).map fun c => .str [c]) else .bad
  | .scr ns, .int i => ofO ((atI ns i).map fun n => .int n)
  | _, _ => .bad
def gLen : D → Out D
  | .lst ds => .ok (.int ds.length)
  | .tup ds => .ok (.int ds.length)
  | .str l => if l.length ≤ LIM then .ok (.int l.length) else .bad
  | .scr ns => .ok (.int ns.length)
  | _ => .bad
/-! ### slots -/
/-- what a slot holds: data that stays; a list or dict of this def's own; the one that was handed in to be changed -/
inductive SV where
  | fz (d : D) | ow (d : D) | io (d : D)
abbrev DS := List (Option SV)
/-- an expression's value: data, or what slot i holds -/
inductive R where
  | fz (d : D) | at (i : Nat)
def cont (ρ : DS) (i : Nat) : Out D := match ρ[i]? with
  | some (some (.fz d)) => .ok d
  | some (some (.ow d)) => .ok d
  | some (some (.io d)) => .ok d
  | _ => .bad
def R.get (r : R) (ρ : DS) : Out D := match r with
  | .fz d => .ok d
  | .at i => cont ρ i
/-- .. to be kept: what is a slot's own stays as it is from now on -/
def R.frz (r : R) (ρ : DS) : Out (D × DS) := match r with
  | .fz d => .ok (d, ρ)
  | .at i => match ρ[i]? with
    | some (some (.fz d)) => .ok (d, ρ)
    | some (some (.ow d)) => .ok (d, ρ.set i (some (.fz d)))
    | _ => .bad
abbrev FE := DS → Out (R × DS)
abbrev FT := DS → Out (Bool × DS)
abbrev FA := DS → Out (List D × DS)
abbrev FN := DS → Out (D × DS)

def fC (d : D) : FE := fun ρ => .ok (.fz d, ρ)
def fVar (i : Nat) : FE := fun ρ => match ρ[i]? with
  | some (some (.fz d)) => .ok (.fz d, ρ)
  | some (some (.ow _)) => .ok (.at i, ρ)
  | some (some (.io _)) => .ok (.at i, ρ)
  | _ => .bad
def fOp (g : D → D → Out D) (a b : FE) : FE := fun ρ => (a ρ).bind fun x => (b x.2).bind fun y => (x.1.get y.2).bind fun u => (y.1.get y.2).bind fun v => (g u v).bind fun d => .ok (.fz d, y.2)
def fUn (g : D → Out D) (a : FE) : FE := fun ρ => (a ρ).bind fun x => (x.1.get x.2).bind fun u => (g u).bind fun d => .ok (.fz d, x.2)
/-- a value that is kept -/
def fKeep (a : FE) : FN := fun ρ => (a ρ).bind fun x => x.1.frz x.2
def fOfN (a : FN) : FE := fun ρ => (a ρ).bind fun x => .ok (.fz x.1, x.2)
def aNil : FA := fun ρ => .ok ([], ρ)
def aCons (a : FE) (as : FA) : FA := fun ρ => (a ρ).bind fun x => (x.1.frz x.2).bind fun u => (as u.2).bind fun us => .ok (u.1 :: us.1, us.2)
def fTup (as : FA) : FE := fun ρ => (as ρ).bind fun x => .ok (.fz (.tup x.1), x.2)
def nLst (as : FA) : FN := fun ρ => (as ρ).bind fun x => .ok (.lst x.1, x.2)
def fCall (F : List D → Out D) (as : FA) : FE := fun ρ => (as ρ).bind fun x => (F x.1).bind fun d => .ok (.fz d, x.2)
def setOwn (ρ : DS) (i : Nat) (d : D) : Out DS := match ρ[i]? with
  | some (some (.ow _)) => .ok (ρ.set i (some (.ow d)))
  | some (some (.io _)) => .ok (ρ.set i (some (.io d)))
  | _ => .bad
/-- f(a, slot i, as): a call that changes what slot i holds -/
def fCallIO (F : D → List D → Out (D × D)) (i : Nat) (a : FE) (as : FA) : FE := fun ρ => (fKeep a ρ).bind fun x => (cont x.2 i).bind fun _ => (as x.2).bind fun y => match y.2[i]? with
  | some (some (.ow d)) => (F d (x.1 :: y.1)).bind fun r => .ok (.fz r.1, y.2.set i (some (.ow r.2)))
  | some (some (.io d)) => (F d (x.1 :: y.1)).bind fun r => .ok (.fz r.1, y.2.set i (some (.io r.2)))
  | _ => .bad
def fChain (g h : D → D → Out D) (a b c : FE) : FE := fun ρ => (a ρ).bind fun x => (b x.2).bind fun y => (x.1.get y.2).bind fun u => (y.1.get y.2).bind fun v => (g u v).bind fun d => match d with
  | .bl true => (c y.2).bind fun z => (z.1.get z.2).bind fun w => (y.1.get z.2).bind fun v => (h v w).bind fun e => .ok (.fz e, z.2)
  | .bl false => .ok (.fz (.bl false), y.2)
  | _ => .bad
/-- tests -/
def tVal (a : FE) : FT := fun ρ => (a ρ).bind fun x => (x.1.get x.2).bind fun d => match d with
  | .bl b => .ok (b, x.2)
  | _ => .bad
def tAnd (a b : FT) : FT := fun ρ => (a ρ).bind fun x => match x.1 with
  | true => b x.2
  | false => .ok (false, x.2)
def tOr (a b : FT) : FT := fun ρ => (a ρ).bind fun x => match x.1 with
  | true => .ok (true, x.2)
  | false => b x.2
def tNot (a : FT) : FT := fun ρ => (a ρ).bind fun x => .ok (!x.1, x.2)
/-- .. as values -/
def fAnd (a b : FE) : FE := fun ρ => (a ρ).bind fun x => (x.1.get x.2).bind fun d => match d with
  | .bl true => b x.2
  | .bl false => .ok (.fz (.bl false), x.2)
  | _ => .bad
def fOr (a b : FE) : FE := fun ρ => (a ρ).bind fun x => (x.1.get x.2).bind fun d => match d with
  | .bl true => .ok (.fz (.bl true), x.2)
  | .bl false => b x.2
  | _ => .bad
def fNot (a : FE) : FE := fun ρ => (a ρ).bind fun x => (x.1.get x.2).bind fun d => match d with
  | .bl b => .ok (.fz (.bl !b), x.2)
  | _ => .bad
def fIf (t : FT) (a b : FE) : FE := fun ρ => (t ρ).bind fun x => match x.1 with
  | true => a x.2
  | false => b x.2

/-! ### statements -/
inductive Fl where
  | nx (ρ : DS) | rt (d : D) (ρ : DS) | bk (ρ : DS) | ct (ρ : DS)
abbrev FS := DS → Out Fl
abbrev FG := D → DS → Out DS
def sNext : FS := fun ρ => .ok (.nx ρ)
def sSeq (a b : FS) : FS := fun ρ => (a ρ).bind fun x => match x with
  | .nx ρ' => b ρ'
  | x => .ok x
def sBreak : FS := fun ρ => .ok (.bk ρ)
def sCont : FS := fun ρ => .ok (.ct ρ)
def sExpr (a : FE) : FS := fun ρ => (a ρ).bind fun x => .ok (.nx x.2)
def sRet (a : FE) : FS := fun ρ => (a ρ).bind fun x => (x.1.frz x.2).bind fun u => .ok (.rt u.1 u.2)
def sRetN : FS := fun ρ => .ok (.rt .non ρ)
def sRaise (e : Err) : FS := fun _ => .exc e
def sIf (t : FT) (a b : FS) : FS := fun ρ => (t ρ).bind fun x => match x.1 with
  | true => a x.2
  | false => b x.2
def gName (i : Nat) : FG := fun d ρ => .ok (ρ.set i (some (.fz d)))
def gsNil : List D → DS → Out DS := fun ds ρ => match ds with
  | [] => .ok ρ
  | _ => .bad
def gsCons (g : FG) (gs : List D → DS → Out DS) : List D → DS → Out DS := fun ds ρ => match ds with
  | d :: ds => (g d ρ).bind fun ρ' => gs ds ρ'
  | [] => .bad
def gTup (gs : List D → DS → Out DS) : FG := fun d ρ => match d with
  | .tup ds => gs ds ρ
  | _ => .bad
def sAsg (a : FE) (g : FG) : FS := fun ρ => (a ρ).bind fun x => (x.1.frz x.2).bind fun u => (g u.1 u.2).bind fun ρ' => .ok (.nx ρ')
/-- name = a new list or dict -/
def sNew (a : FN) (i : Nat) : FS := fun ρ => (a ρ).bind fun x => .ok (.nx (x.2.set i (some (.ow x.1))))
def kill (ks : List Nat) (ρ : DS) : DS := ks.foldl (fun ρ i => ρ.set i none) ρ
def sKill (ks : List Nat) : FS := fun ρ => .ok (.nx (kill ks ρ))
/-- a loop over items -/
def forIn (g : FG) (b : FS) : List D → FS
  | [], ρ => .ok (.nx ρ)
  | d :: ds, ρ => (g d ρ).bind fun ρ1 => (b ρ1).bind fun x => match x with
    | .nx ρ2 => forIn g b ds ρ2
    | .ct ρ2 => forIn g b ds ρ2
    | .bk ρ2 => .ok (.nx ρ2)
    | .rt d ρ2 => .ok (.rt d ρ2)
abbrev FI := DS → Out (List D × DS)
def sFor (it : FI) (g : FG) (b : FS) : FS := fun ρ => (it ρ).bind fun x => forIn g b x.1 x.2
def sWhile (t : FT) (b : FS) : Nat → FS
  | 0, _ => .bad
  | n + 1, ρ => (t ρ).bind fun x => match x.1 with
    | false => .ok (.nx x.2)
    | true => (b x.2).bind fun y => match y with
      | .nx ρ2 => sWhile t b n ρ2
      | .ct ρ2 => sWhile t b n ρ2
      | .bk ρ2 => .ok (.nx ρ2)
      | .rt d ρ2 => .ok (.rt d ρ2)
/-- a comprehension's turns: ws the slots of its own names -/
def compIn (ws : List Nat) (g : FG) (t : FT) (e : FE) : List D → DS → Out (List D × DS)
  | [], ρ => .ok ([], ρ)
  | d :: ds, ρ => (g d (kill ws ρ)).bind fun ρ1 => (t ρ1).bind fun x => match x.1 with
    | false => compIn ws g t e ds (kill ws x.2)
    | true => (e x.2).bind fun y => (y.1.frz y.2).bind fun u => (compIn ws g t e ds (kill ws u.2)).bind fun r => .ok (u.1 :: r.1, r.2)
/-- no error goes out -/
def Out.nox {α : Type} : Out α → Out α
  | .exc _ => .bad
  | o => o
@[simp] theorem Out.nox_ok {α : Type} (a : α) : (Out.ok a).nox = .ok a := rfl
@[simp] theorem Out.nox_exc {α : Type} (e : Err) : (Out.exc e : Out α).nox = .bad := rfl
@[simp] theorem Out.nox_bad {α : Type} : (Out.bad : Out α).nox = .bad := rfl
/-- more items than this the layer does not speak of -/
abbrev MANY : Nat := 1000000
def nComp (it : FI) (ws : List Nat) (g : FG) (t : FT) (e : FE) : FN := fun ρ => (it ρ).bind fun x => if x.1.length ≤ MANY then (compIn ws g t e x.1 (kill ws x.2)).nox.bind fun r => .ok (.lst r.1, r.2) else .bad
def tYes : FT := fun ρ => .ok (true, ρ)
/-- try: b except WheelError as slot i: s -/
def sTry (b : FS) (i : Nat) (s : FS) : FS := fun ρ => match b ρ with
  | .exc e => (s ((ρ.map fun _ => none).set i (some (.fz (.exn e))))).bind fun x => match x with
    | .nx ρ' => .ok (.nx (ρ'.set i none))
    | .bk ρ' => .ok (.bk (ρ'.set i none))
    | .ct ρ' => .ok (.ct (ρ'.set i none))
    | .rt d ρ' => .ok (.rt d (ρ'.set i none))
  | o => o
/-! ### what loops walk -/
def rangeL (lo : Int) (n : Nat) : List D := (List.range n).map fun k => .int (lo + (k : Nat))
def rangeC (lo c : Int) (n : Nat) : List D := (List.range n).map fun k => .int (lo + (k : Nat) * c)
def inI (j : Int) : Bool := decide (-(2 ^ 62) ≤ j) && decide (j < 2 ^ 62)
def iRange1 (a : FE) : FI := fun ρ => (a ρ).bind fun x => (x.1.get x.2).bind fun d => match d with
  | .int j => if inI j = true then .ok (rangeL 0 j.toNat, x.2) else .bad
  | _ => .bad
def iRange2 (a b : FE) : FI := fun ρ => (a ρ).bind fun x => (b x.2).bind fun y => (x.1.get y.2).bind fun d => (y.1.get y.2).bind fun e => match d, e with
  | .int i, .int j => if (inI i && inI j) = true then .ok (rangeL i (j - i).toNat, y.2) else .bad
  | _, _ => .bad
/-- the items of a list, a tuple, a text -/
def itemsOf : D → Out (List D)
  | .lst ds => .ok ds
  | .tup ds => .ok ds
  | .str s => .ok (s.map fun c => .str [c])
  | _ => .bad
def iSeq (a : FE) : FI := fun ρ => (fKeep a ρ).bind fun x => (itemsOf x.1).bind fun ds => .ok (ds, x.2)
/-! ### a def's body -/
/-- the slots at the start: the arguments, then n more -/
def start (ds : List D) (n : Nat) : DS := ds.map (fun d => some (.fz d)) ++ List.replicate n none
def runF (b : FS) (n : Nat) (ds : List D) : Out D := (b (start ds n)).bind fun x => match x with
  | .nx _ => .ok .non
  | .rt d _ => .ok d
  | _ => .bad
/-- .. whose argument in place p is changed -/
def startIO (d : D) (t : D) (ds : List D) (n : Nat) : DS := some (.fz d) :: some (.io t) :: (ds.map (fun d => some (.fz d)) ++ List.replicate n none)
def ioAt (ρ : DS) (p : Nat) : Out D := match ρ[p]? with
  | some (some (.io d)) => .ok d
  | _ => .bad
/-- a def whose second argument is changed: that, the others -/
def runIO (b : FS) (n : Nat) (t : D) (ds : List D) : Out (D × D) := match ds with
  | d :: ds => (b (startIO d t ds n)).bind fun x => match x with
    | .nx ρ => (ioAt ρ 1).bind fun t' => .ok (.non, t')
    | .rt d ρ => (ioAt ρ 1).bind fun t' => .ok (d, t')
    | _ => .bad
  | [] => .bad
end Den

/-! DenOps: further operations on data. No program, no heap. -/
namespace Den
inductive Ty where
  | int | bool | str | tuple | list | dict
  deriving DecidableEq
def isTy : Ty → D → Out Bool
  | T, .non => .ok false
  | T, .bl _ => .ok (decide (T = .int ∨ T = .bool))
  | T, .int _ => .ok (decide (T = .int))
  | T, .str _ => .ok (decide (T = .str))
  | T, .tup _ => .ok (decide (T = .tuple))
  | T, .lst _ => .ok (decide (T = .list))
  | T, .dct _ => .ok (decide (T = .dict))
  | _, _ => .bad
def gIsi (T : Ty) (d : D) : Out D := (isTy T d).bind fun b => .ok (.bl b)
/-- x in y -/
def inS (x y : D) : Out Bool := match y with
  | .lst ys => if x.plain = true ∧ D.plainL ys = true ∧ x.depth ≤ 60 then .ok (ys.any fun z => z.eqv x) else .bad
  | .tup ys => if x.plain = true ∧ D.plainL ys = true ∧ x.depth ≤ 60 then .ok (ys.any fun z => z.eqv x) else .bad
  | .str l => match x with
    | .str [c] => .ok (decide (c ∈ l))
    | _ => .bad
  | _ => .bad
def gIn (x y : D) : Out D := (inS x y).bind fun b => .ok (.bl b)
def gNotIn (x y : D) : Out D := (inS x y).bind fun b => .ok (.bl !b)
def blOf : D → Option Bool
  | .bl b => some b
  | _ => none
def intOf : D → Option Int
  | .int i => some i
  | _ => none
def strOf : D → Option (List Nat)
  | .str s => some s
  | _ => none
/-- all of a list's items are of that kind -/
def allOf {α : Type} (f : D → Option α) : List D → Option (List α)
  | [] => some []
  | d :: ds => match f d, allOf f ds with
    | some a, some as => some (a :: as)
    | _, _ => none
def gAll : D → Out D
  | .lst ds => (ofO (allOf blOf ds)).bind fun bs => .ok (.bl (bs.all id))
  | _ => .bad
def gAny : D → Out D
  | .lst ds => (ofO (allOf blOf ds)).bind fun bs => .ok (.bl (bs.any id))
  | _ => .bad
def gSum : D → Out D
  | .lst ds => (ofO (allOf intOf ds)).bind fun ns => .ok (.int ns.sum)
  | _ => .bad
/-- the least of a list, d where it is empty -/
def minI : List Int → Int → Int
  | [], d => d
  | x :: xs, d => xs.foldl (fun a b => if b < a then b else a) x
def gMin : D → Out D
  | .lst ds => (ofO (allOf intOf ds)).bind fun ns => if ns = [] then .bad else .ok (.int (minI ns 0))
  | _ => .bad
def gMin2 : D → D → Out D
  | .int i, .int j => .ok (.int (if j < i then j else i))
  | _, _ => .bad
def gMax2 : D → D → Out D
  | .int i, .int j => .ok (.int (if i < j then j else i))
  | _, _ => .bad
def gAbs : D → Out D
  | .int i => .ok (.int (if i < 0 then -i else i))
  | _ => .bad
def gInt : D → Out D
  | .int i => .ok (.int i)
  | .bl b => .ok (.int (if b then 1 else 0))
  | _ => .bad
/-- tuple(x) -/
def gTuple : D → Out D
  | .lst ds => .ok (.tup ds)
  | .tup ds => .ok (.tup ds)
  | _ => .bad
/-- list(x): a new list -/
def nList (a : FE) : FN := fun ρ => (a ρ).bind fun x => (x.1.get x.2).bind fun d => match d with
  | .lst ds => .ok (.lst ds, x.2)
  | .tup ds => .ok (.lst ds, x.2)
  | .str s => if s.length ≤ LIM then .ok (.lst (s.map fun c => .str [c]), x.2) else .bad
  | _ => .bad
/-- texts put together -/
def joinL (sep : List Nat) : List (List Nat) → List Nat
  | [] => []
  | [s] => s
  | s :: ss => s ++ (sep ++ joinL sep ss)
def joinD (sep : List Nat) (ds : List D) : Out D := (ofO (allOf strOf ds)).bind fun ss => if (ss.map List.length).sum + ss.length * sep.length ≤ LIM then .ok (.str (joinL sep ss)) else .bad
def gJoin : D → List D → Out D
  | .str sep, [.lst ds] => joinD sep ds
  | .str sep, [.tup ds] => joinD sep ds
  | _, _ => .bad
/-- a slice's bound as a place among n -/
def cutIx (n d : Nat) : Option Int → Nat
  | none => d
  | some v => if v < 0 then (v + (n : Int)).toNat else min v.toNat n
def cutL {α : Type} (xs : List α) (lo hi : Option Int) : List α := (xs.drop (cutIx xs.length 0 lo)).take (cutIx xs.length xs.length hi - cutIx xs.length 0 lo)
def slD (d : D) (lo hi : Option Int) : Out D := match d with
  | .lst ds => .ok (.lst (cutL ds lo hi))
  | .tup ds => .ok (.tup (cutL ds lo hi))
  | .str s => if s.length ≤ LIM then .ok (.str (cutL s lo hi)) else .bad
  | _ => .bad
/-- a slice's part -/
abbrev FO := DS → Out (Option Int × DS)
def oNone : FO := fun ρ => .ok (none, ρ)
def oSome (a : FE) : FO := fun ρ => (a ρ).bind fun x => (x.1.get x.2).bind fun d => match d with
  | .int i => .ok (some i, x.2)
  | _ => .bad
def fSl (a : FE) (lo hi : FO) : FE := fun ρ => (a ρ).bind fun x => (lo x.2).bind fun l => (hi l.2).bind fun h => (x.1.get h.2).bind fun d => (slD d l.1 h.1).bind fun e => .ok (.fz e, h.2)
/-- a method that changes what slot i holds: what it holds, the arguments; what is told, what it holds then -/
def fMeth (g : D → List D → Out (D × D)) (i : Nat) (as : FA) : FE := fun ρ => match ρ[i]? with
  | some (some (.ow (.lst _))) => (as ρ).bind fun x => match x.2[i]? with
    | some (some (.ow d)) => (g d x.1).bind fun r => .ok (.fz r.1, x.2.set i (some (.ow r.2)))
    | _ => .bad
  | some (some (.io (.lst _))) => (as ρ).bind fun x => match x.2[i]? with
    | some (some (.io d)) => (g d x.1).bind fun r => .ok (.fz r.1, x.2.set i (some (.io r.2)))
    | _ => .bad
  | _ => .bad
def mAppend : D → List D → Out (D × D)
  | .lst ds, [d] => if ds.length < LIM then .ok (.non, .lst (ds ++ [d])) else .bad
  | _, _ => .bad
def mExtend : D → List D → Out (D × D)
  | .lst ds, [.lst es] => if ds.length + es.length ≤ LIM then .ok (.non, .lst (ds ++ es)) else .bad
  | _, _ => .bad
def mPop : D → List D → Out (D × D)
  | .lst ds, [] => (ofO ds[ds.length - 1]?).bind fun d => .ok (d, .lst ds.dropLast)
  | .lst ds, [.int i] => if inW i = true ∧ 0 ≤ i then (ofO ds[i.toNat]?).bind fun d => .ok (d, .lst (ds.eraseIdx i.toNat)) else .bad
  | _, _ => .bad
def mReverse : D → List D → Out (D × D)
  | .lst ds, [] => .ok (.non, .lst ds.reverse)
  | _, _ => .bad
def tyD (T : String) : D → Bool
  | .str _ => T == "str"
  | .lst _ => T == "list"
  | _ => false
/-- a method that tells of what is there -/
def fTell (ty : D → Bool) (g : D → List D → Out D) (a : FE) (as : FA) : FE := fun ρ => (a ρ).bind fun x => (x.1.get x.2).bind fun d0 => if ty d0 = true then (as x.2).bind fun y => (x.1.get y.2).bind fun d => (g d y.1).bind fun d' => .ok (.fz d', y.2) else .bad
/-- the first place of an equal one -/
def placeOf (x : D) : List D → Option Nat
  | [] => none
  | d :: ds => if d.eqv x = true then some 0 else (placeOf x ds).map (· + 1)
def gIndex : D → List D → Out D
  | .lst ds, [x] => if x.plain = true ∧ D.plainL ds = true ∧ x.depth ≤ 60 ∧ D.depthL ds ≤ 60 then (ofO (placeOf x ds)).bind fun k => .ok (.int k) else .bad
  | _, _ => .bad
def gCount : D → List D → Out D
  | .lst ds, [x] => if x.plain = true ∧ D.plainL ds = true ∧ x.depth ≤ 60 then .ok (.int (ds.countP fun z => z.eqv x)) else .bad
  | _, _ => .bad
end Den
namespace Den
/-! ### dicts by ints and texts -/
def isKey : D → Bool
  | .int _ => true
  | .str _ => true
  | _ => false
/-- in its place, or at the end -/
def putS (kvs : List (D × D)) (k d : D) : List (D × D) := if (kvs.any fun p => decide (p.1 = k)) = true then kvs.map (fun p => if p.1 = k then (p.1, d) else p) else kvs ++ [(k, d)]
/-- k1, v1, k2, v2, .. -/
def pairUp : List D → Option (List (D × D))
  | [] => some []
  | k :: v :: r => (pairUp r).map ((k, v) :: ·)
  | _ => none
def putAll (kvs : List (D × D)) (more : List (D × D)) : List (D × D) := more.foldl (fun acc p => putS acc p.1 p.2) kvs
/-- {k1: v1, ..}: k1, v1, .. -/
def nDict (as : FA) : FN := fun ρ => (as ρ).bind fun x => match pairUp x.1 with
  | some ps => if (ps.all fun p => isKey p.1) = true ∧ ps.length ≤ 15 then .ok (.dct (putAll [] ps), x.2) else .bad
  | none => .bad
def getS (d k : D) : Out (Option D) := match d with
  | .dct kvs => if isKey k = true ∧ (kvs.all fun p => isKey p.1) = true then .ok (lookS kvs k) else .bad
  | _ => .bad
/-- .. where the key may be None -/
def getN (d k : D) : Out (Option D) := match k with
  | .non => (getS d (.int 0)).bind fun _ => .ok none
  | k => getS d k
/-- a.get(k, x) -/
def fGet2 (a k x : FE) : FE := fun ρ => (a ρ).bind fun u => (u.1.get u.2).bind fun d => (getS d (.int 0)).bind fun _ => (k u.2).bind fun v => (x v.2).bind fun w => (w.1.frz w.2).bind fun z => (u.1.get z.2).bind fun d => (v.1.get z.2).bind fun y => (getN d y).bind fun o => .ok (.fz (o.getD z.1), z.2)
def fGet1 (a k : FE) : FE := fun ρ => (a ρ).bind fun u => (u.1.get u.2).bind fun d => (getS d (.int 0)).bind fun _ => (k u.2).bind fun v => (u.1.get v.2).bind fun d => (v.1.get v.2).bind fun y => (getN d y).bind fun o => .ok (.fz (o.getD .non), v.2)
end Den
namespace Den
/-! ### dict(x) of pairs -/
def pairOf : D → Option (D × D)
  | .tup [k, v] => some (k, v)
  | _ => none
def dictOf (ds : List D) : Out D := if isPairs ds = true ∧ ds.length ≤ LIM then match allOf pairOf ds with
  | some ps => .ok (.dct (putAll [] ps))
  | none => .bad
  else .bad
def nDictOf (a : FE) : FN := fun ρ => (a ρ).bind fun x => (x.1.get x.2).bind fun d => match d with
  | .tup ds => (dictOf ds).bind fun r => .ok (r, x.2)
  | .lst ds => (dictOf ds).bind fun r => .ok (r, x.2)
  | _ => .bad
end Den
namespace Den
/-! ### a, b = x, y -/
/-- values for slots -/
abbrev FV := DS → Out (List SV × DS)
def vNil : FV := fun ρ => .ok ([], ρ)
def vKeep (a : FE) (r : FV) : FV := fun ρ => (fKeep a ρ).bind fun x => (r x.2).bind fun y => .ok (.fz x.1 :: y.1, y.2)
def vNew (a : FN) (r : FV) : FV := fun ρ => (a ρ).bind fun x => (r x.2).bind fun y => .ok (.ow x.1 :: y.1, y.2)
def setAll : List Nat → List SV → DS → DS
  | i :: is, v :: vs, ρ => setAll is vs (ρ.set i (some v))
  | _, _, ρ => ρ
def sPar (is : List Nat) (f : FV) : FS := fun ρ => (f ρ).bind fun x => .ok (.nx (setAll is x.1 x.2))
end Den
namespace Den
/-- zip(a, b) -/
def iZip (a b : FE) : FI := fun ρ => (fKeep a ρ).bind fun x => (fKeep b x.2).bind fun y => (itemsOf x.1).bind fun ds => (itemsOf y.1).bind fun es => .ok ((ds.zip es).map fun p => .tup [p.1, p.2], y.2)
/-- enumerate(a) -/
def numbered : Nat → List D → List D
  | _, [] => []
  | k, d :: ds => .tup [.int k, d] :: numbered (k + 1) ds
def iEnumD (a : FE) : FI := fun ρ => (fKeep a ρ).bind fun x => (itemsOf x.1).bind fun ds => .ok (numbered 0 ds, x.2)
end Den

/-! DenSort: what sorted(set(x)) is, plainly. -/
namespace Den
section
variable {α : Type} {lt : α → α → Bool}
/-- x put where it belongs, once -/
def insU (lt : α → α → Bool) (x : α) : List α → List α
  | [] => [x]
  | y :: ys => if lt x y = true then x :: y :: ys else if lt y x = true then y :: insU lt x ys else y :: ys
def sortU (lt : α → α → Bool) : List α → List α
  | [] => []
  | x :: xs => insU lt x (sortU lt xs)
/-- a strict order in which any two are told apart -/
structure Tot (lt : α → α → Bool) : Prop where
  irr : ∀ a, lt a a = false
  tr : ∀ a b c, lt a b = true → lt b c = true → lt a c = true
  tot : ∀ a b, lt a b = false → lt b a = false → a = b
theorem mem_insU (o : Tot lt) {x y : α} : ∀ {l : List α}, y ∈ insU lt x l ↔ y = x ∨ y ∈ l
  | [] => by simp [insU]
  | z :: l => by
    unfold insU
    split
    · simp
    · rename_i h1
      split
      · simp only [List.mem_cons, mem_insU o (l := l)]
        constructor
        · rintro (h | h | h)
          · exact .inr (.inl h)
          · exact .inl h
          · exact .inr (.inr h)
        · rintro (h | h | h)
          · exact .inr (.inl h)
          · exact .inl h
          · exact .inr (.inr h)
      · rename_i h2
        have e : x = z := o.tot x z (by simpa using h1) (by simpa using h2)
        subst e
        simp
theorem insU_pw (o : Tot lt) {x : α} : ∀ {l : List α}, l.Pairwise (fun a b => lt a b = true) → (insU lt x l).Pairwise (fun a b => lt a b = true)
  | [], _ => by simp [insU]
  | z :: l, h => by
    obtain ⟨h1, h2⟩ := List.pairwise_cons.mp h
    unfold insU
    split
    · rename_i hx
      refine List.pairwise_cons.mpr ⟨fun y hy => ?_, h⟩
      rcases List.mem_cons.mp hy with e | e
      · rw [e]; exact hx
      · exact o.tr _ _ _ hx (h1 y e)
    · split
      · rename_i hz
        refine List.pairwise_cons.mpr ⟨fun y hy => ?_, insU_pw o h2⟩
        rcases (mem_insU o).mp hy with e | e
        · rw [e]; exact hz
        · exact h1 y e
      · exact h
theorem sortU_pw (o : Tot lt) : ∀ l : List α, (sortU lt l).Pairwise (fun a b => lt a b = true)
  | [] => List.Pairwise.nil
  | x :: l => insU_pw o (sortU_pw o l)
theorem mem_sortU (o : Tot lt) {y : α} : ∀ {l : List α}, y ∈ sortU lt l ↔ y ∈ l
  | [] => by simp [sortU]
  | x :: l => by rw [sortU, mem_insU o, mem_sortU o (l := l), List.mem_cons]
theorem eq_of_pw (o : Tot lt) : ∀ {l k : List α}, l.Pairwise (fun a b => lt a b = true) → k.Pairwise (fun a b => lt a b = true) → (∀ y, y ∈ l ↔ y ∈ k) → l = k
  | [], [], _, _, _ => rfl
  | [], z :: k, _, _, h => by have := (h z).mpr List.mem_cons_self; cases this
  | x :: l, [], _, _, h => by have := (h x).mp List.mem_cons_self; cases this
  | x :: l, z :: k, h1, h2, h => by
    obtain ⟨a1, a2⟩ := List.pairwise_cons.mp h1
    obtain ⟨b1, b2⟩ := List.pairwise_cons.mp h2
    have e : x = z := by
      rcases List.mem_cons.mp ((h x).mp List.mem_cons_self) with e | e
      · exact e
      · rcases List.mem_cons.mp ((h z).mpr List.mem_cons_self) with e2 | e2
        · exact e2.symm
        · have c := o.tr _ _ _ (a1 z e2) (b1 x e)
          rw [o.irr] at c; cases c
    subst e
    have ne : ∀ y, lt x y = true → y ≠ x := fun y hy e => by subst e; rw [o.irr] at hy; cases hy
    rw [eq_of_pw o a2 b2 fun y => ?_]
    constructor
    · intro hy
      rcases List.mem_cons.mp ((h y).mp (List.mem_cons_of_mem _ hy)) with e | e
      · exact absurd e (ne y (a1 y hy))
      · exact e
    · intro hy
      rcases List.mem_cons.mp ((h y).mpr (List.mem_cons_of_mem _ hy)) with e | e
      · exact absurd e (ne y (b1 y hy))
      · exact e
theorem pw_nodup (o : Tot lt) {l : List α} (h : l.Pairwise (fun a b => lt a b = true)) : l.Nodup :=
  h.imp fun {a b} q e => by subst e; rw [o.irr] at q; cases q
theorem len_of_nodup [DecidableEq α] : ∀ {l k : List α}, l.Nodup → k.Nodup → (∀ y, y ∈ l ↔ y ∈ k) → l.length = k.length
  | [], [], _, _, _ => rfl
  | [], z :: k, _, _, h => by have := (h z).mpr List.mem_cons_self; cases this
  | x :: l, k, h1, h2, h => by
    obtain ⟨a1, a2⟩ := List.nodup_cons.mp h1
    have hx : x ∈ k := (h x).mp List.mem_cons_self
    have e := len_of_nodup a2 (h2.erase x) (l := l) (k := k.erase x) fun y => by
      rw [h2.mem_erase_iff]
      constructor
      · intro hy
        exact ⟨fun e => a1 (e ▸ hy), (h y).mp (List.mem_cons_of_mem _ hy)⟩
      · rintro ⟨n, hy⟩
        rcases List.mem_cons.mp ((h y).mpr hy) with e | e
        · exact absurd e n
        · exact e
    rw [List.length_cons, e, List.length_erase_of_mem hx]
    have := List.length_pos_of_mem hx
    omega
end
def ltI (a b : Int) : Bool := decide (a < b)
theorem totI : Tot ltI := ⟨fun a => by simp [ltI], fun a b c h1 h2 => by simp [ltI] at *; omega, fun a b h1 h2 => by simp [ltI] at *; omega⟩
/-- texts in order, sign by sign -/
def ltS : List Nat → List Nat → Bool
  | _, [] => false
  | [], _ :: _ => true
  | x :: xs, y :: ys => if x < y then true else if y < x then false else ltS xs ys
theorem ltS_irr : ∀ a, ltS a a = false
  | [] => rfl
  | x :: a => by simp [ltS, ltS_irr a]
theorem ltS_tr : ∀ a b c, ltS a b = true → ltS b c = true → ltS a c = true
  | a, [], _, h, _ => by cases a <;> simp [ltS] at h
  | _, b :: bs, [], _, h => by simp [ltS] at h
  | [], _ :: _, _ :: _, _, _ => rfl
  | x :: a, y :: b, z :: c, h1, h2 => by
    unfold ltS at h1 h2 ⊢
    by_cases h3 : x < y
    · by_cases h4 : y < z
      · rw [if_pos (Nat.lt_trans h3 h4)]
      · rw [if_neg h4] at h2
        by_cases h5 : z < y
        · rw [if_pos h5] at h2; cases h2
        · rw [if_pos (by omega)]
    · rw [if_neg h3] at h1
      by_cases h6 : y < x
      · rw [if_pos h6] at h1; cases h1
      · rw [if_neg h6] at h1
        have e : x = y := by omega
        subst e
        by_cases h4 : x < z
        · rw [if_pos h4]
        · rw [if_neg h4] at h2 ⊢
          by_cases h5 : z < x
          · rw [if_pos h5] at h2; cases h2
          · rw [if_neg h5] at h2 ⊢; exact ltS_tr a b c h1 h2
theorem ltS_tot : ∀ a b, ltS a b = false → ltS b a = false → a = b
  | [], [], _, _ => rfl
  | [], _ :: _, h, _ => by cases h
  | _ :: _, [], _, h => by cases h
  | x :: a, y :: b, h1, h2 => by
    unfold ltS at h1 h2
    by_cases h3 : x < y
    · rw [if_pos h3] at h1; cases h1
    · rw [if_neg h3] at h1
      by_cases h4 : y < x
      · rw [if_pos h4] at h2; cases h2
      · rw [if_neg h4] at h1 h2
        rw [if_neg h3] at h2
        rw [ltS_tot a b h1 h2]
        have e : x = y := by omega
        rw [e]
theorem totS : Tot ltS := ⟨ltS_irr, ltS_tr, ltS_tot⟩
def setI : D → Option (List Int)
  | .lst ds => allOf intOf ds
  | .tup ds => allOf intOf ds
  | _ => none
def setS : D → Option (List (List Nat))
  | .str s => some (s.map fun c => [c])
  | .lst ds => allOf strOf ds
  | .tup ds => allOf strOf ds
  | _ => none
/-- len(set(x)) -/
def gLenSet (d : D) : Out D := match setI d with
  | some ns => if ns.length ≤ 4000 then .ok (.int (sortU ltI ns).length) else .bad
  | none => match setS d with
    | some ss => if ss.length ≤ 4000 then .ok (.int (sortU ltS ss).length) else .bad
    | none => .bad
/-- sorted(set(x)) -/
def sortSet (d : D) : Out D := match setI d with
  | some ns => if ns.length ≤ 4000 ∧ (sortU ltI ns).length < 64 then .ok (.lst ((sortU ltI ns).map .int)) else .bad
  | none => match setS d with
    | some ss => if ss.length ≤ 4000 ∧ (sortU ltS ss).length < 64 then .ok (.lst ((sortU ltS ss).map .str)) else .bad
    | none => .bad
def nSortSet (a : FE) : FN := fun ρ => (a ρ).bind fun x => (x.1.get x.2).bind fun d => (sortSet d).bind fun e => .ok (e, x.2)
end Den

/-! DenNP: dicts by tuples, on data. -/
namespace Den
/-- what a dict holds at a key -/
def dGet : D → D → Out (Option D)
  | .dcn kvs, k => if k.keyOk = true then .ok (lookS kvs k) else .bad
  | .dct kvs, k => if isKey k = true ∧ (kvs.all fun p => isKey p.1) = true then .ok (lookS kvs k) else .bad
  | _, _ => .bad
/-- d[k], k in d, k not in d -/
def gIxD (d k : D) : Out D := (dGet d k).bind ofO
def gInD (k d : D) : Out D := (dGet d k).bind fun o => .ok (.bl o.isSome)
def gNotInD (k d : D) : Out D := (dGet d k).bind fun o => .ok (.bl !o.isSome)
def asN : D → Out (List (D × D))
  | .dcn kvs => .ok kvs
  | _ => .bad
/-- a.get(k, x), a a dict by tuples -/
def fNGet2 (a k x : FE) : FE := fun ρ => (a ρ).bind fun u => (u.1.get u.2).bind fun d0 => (asN d0).bind fun _ => (k u.2).bind fun v => (fKeep x v.2).bind fun z => (u.1.get z.2).bind fun d => (asN d).bind fun kvs => (v.1.get z.2).bind fun y => if y.keyOk = true then .ok (.fz ((lookS kvs y).getD z.1), z.2) else .bad
/-- name[k] = v, the name's dict being the def's own -/
def sPutN (i : Nat) (k v : FE) : FS := fun ρ => (fKeep v ρ).bind fun x => (cont x.2 i).bind fun _ => (fKeep k x.2).bind fun y => match y.2[i]? with
  | some (some (.ow (.dcn kvs))) => if y.1.keyOk = true ∧ kvs.length < LIM then .ok (.nx (y.2.set i (some (.ow (.dcn (putS kvs y.1 x.1)))))) else .bad
  | _ => .bad
/-- name.setdefault(k, v) -/
def fSetd (i : Nat) (k v : FE) : FE := fun ρ => match ρ[i]? with
  | some (some (.ow (.dcn _))) => (fKeep k ρ).bind fun y => (fKeep v y.2).bind fun x => match x.2[i]? with
    | some (some (.ow (.dcn kvs))) => if y.1.keyOk = true ∧ kvs.length < LIM then (match lookS kvs y.1 with
      | some d => .ok (.fz d, x.2)
      | none => .ok (.fz x.1, x.2.set i (some (.ow (.dcn (putS kvs y.1 x.1)))))) else .bad
    | _ => .bad
  | _ => .bad
/-- {}, {k: v} -/
def nDictN0 : FN := fun ρ => .ok (.dcn [], ρ)
def nDictN1 (k v : FE) : FN := fun ρ => (fKeep k ρ).bind fun y => (fKeep v y.2).bind fun x => if y.1.keyOk = true then .ok (.dcn [(y.1, x.1)], x.2) else .bad
/-- what for walks: keys, values, items -/
def iKeysD (a : FE) : FI := fun ρ => (fKeep a ρ).bind fun x => match x.1 with
  | .dcn kvs => .ok (kvs.map fun p => p.1, x.2)
  | _ => .bad
def iValsD (a : FE) : FI := fun ρ => (fKeep a ρ).bind fun x => match x.1 with
  | .dcn kvs => .ok (kvs.map fun p => p.2, x.2)
  | _ => .bad
def iItemsD (a : FE) : FI := fun ρ => (fKeep a ρ).bind fun x => match x.1 with
  | .dcn kvs => if (kvs.all fun p => !(isPairs [p.1, p.2])) = true then .ok (kvs.map fun p => .tup [p.1, p.2], x.2) else .bad
  | _ => .bad
theorem dGet_ne : ∀ d k e, dGet d k ≠ .exc e := by
  intro d k e
  unfold dGet
  split <;> first | (split <;> simp) | simp
theorem gIxD_ne : ∀ u v e, gIxD u v ≠ .exc e := by
  intro u v e h
  unfold gIxD at h
  cases h1 : dGet u v with
  | ok o => rw [h1] at h; cases o <;> cases h
  | exc e' => exact dGet_ne _ _ _ h1
  | bad => rw [h1] at h; cases h
theorem gInD_ne : ∀ u v e, gInD u v ≠ .exc e := by
  intro u v e h
  unfold gInD at h
  cases h1 : dGet v u with
  | ok o => rw [h1] at h; cases h
  | exc e' => exact dGet_ne _ _ _ h1
  | bad => rw [h1] at h; cases h
theorem gNotInD_ne : ∀ u v e, gNotInD u v ≠ .exc e := by
  intro u v e h
  unfold gNotInD at h
  cases h1 : dGet v u with
  | ok o => rw [h1] at h; cases h
  | exc e' => exact dGet_ne _ _ _ h1
  | bad => rw [h1] at h; cases h
/-! ### errors caught -/
mutual
/-- no caught error in it -/
def D.noX : D → Bool
  | .non => true
  | .bl _ => true
  | .int _ => true
  | .str _ => true
  | .tup ds => noXL ds
  | _ => false
def D.noXL : List D → Bool
  | [] => true
  | d :: ds => D.noX d && D.noXL ds
end
/-- isinstance of a caught error: g tells of which kinds -/
def gIsX (g : Err → Bool) : D → Out D
  | .exn e => .ok (.bl (g e))
  | _ => .bad
theorem gIsX_ne (g : Err → Bool) : ∀ d e, gIsX g d ≠ .exc e := by
  intro d e h
  cases d <;> cases h
/-- try: b, except .. as n: return h(n) -/
def sTryW (ok : Err → Bool) (b : FS) (h : Err → Out D) : FS := fun ρ => match b ρ with
  | .ok z => .ok z
  | .bad => .bad
  | .exc e => if ok e = true then match h e with
      | .ok d => if d.noX = true then .ok (.rt d (ρ.map fun _ => none)) else .bad
      | _ => .bad
    else .bad
def hdW (F : List D → Out D) : Err → Out D := fun e => F [.exn e]
/-- [f, g, ..][i](args) -/
def fCallIx (Fs : List (List D → Out D)) (fi : FE) (ff : FA) : FE := fun ρ => (fi ρ).bind fun x => (x.1.get x.2).bind fun d => match d with
  | .int i => (ofO (atI Fs i)).bind fun F => (ff x.2).bind fun y => (F y.1).bind fun d => .ok (.fz d, y.2)
  | _ => .bad
end Den

/-! DenLt: min and sorted over data that are alike, on data. -/
namespace Den
mutual
/-- can be compared, place by place: ints, texts, tuples and lists of these -/
def D.alk : D → D → Bool
  | .int _, .int _ => true
  | .str _, .str _ => true
  | .tup a, .tup b => alkL a b
  | .lst a, .lst b => alkL a b
  | _, _ => false
def D.alkL : List D → List D → Bool
  | x :: xs, y :: ys => alk x y && alkL xs ys
  | [], _ => true
  | _ :: _, [] => true
end
mutual
/-- < -/
def D.lt : D → D → Bool
  | .int i, .int j => decide (i < j)
  | .str a, .str b => decide (a < b)
  | .tup a, .tup b => ltL a b
  | .lst a, .lst b => ltL a b
  | _, _ => false
def D.ltL : List D → List D → Bool
  | x :: xs, y :: ys => if eqv x y = true then ltL xs ys else lt x y
  | [], [] => false
  | [], _ :: _ => true
  | _ :: _, [] => false
end
def allAlk (ds : List D) : Bool := D.plainL ds && (ds.all fun a => ds.all fun b => a.alk b) && decide (D.depthL ds ≤ 60)
def minDL (x : D) (xs : List D) : D := xs.foldl (fun a y => if y.lt a = true then y else a) x
/-- min(x), x a list -/
def gMinD : D → Out D
  | .lst (x :: xs) => if allAlk (x :: xs) = true then .ok (minDL x xs) else .bad
  | _ => .bad
def D.tupC : D → Bool
  | .tup (_ :: _) => true
  | _ => false
def D.tupN : D → Bool
  | .tup _ => false
  | _ => true
def sortDL (ds : List D) : List D := ds.mergeSort fun a b => !(b.lt a)
/-- sorted(x), x a list -/
def sortD : D → Out D
  | .lst ds => if allAlk ds = true ∧ (ds.all D.tupC || ds.all D.tupN) = true ∧ ds.length ≤ LIM then .ok (.lst (sortDL ds)) else .bad
  | _ => .bad
def nSortD (a : FE) : FN := fun ρ => (a ρ).bind fun x => (x.1.get x.2).bind fun d => (sortD d).bind fun e => .ok (e, x.2)
/-- list(range(n)) -/
def rgD : D → Out D
  | .int j => if inI j = true ∧ j.toNat ≤ LIM then .ok (.lst (rangeL 0 j.toNat)) else .bad
  | _ => .bad
theorem rgD_int {j : Int} (h : inI j = true ∧ j.toNat ≤ LIM) : rgD (.int j) = .ok (.lst (rangeL 0 j.toNat)) := if_pos h
def nListRg (a : FE) : FN := fun ρ => (a ρ).bind fun x => (x.1.get x.2).bind fun d => (rgD d).bind fun e => .ok (e, x.2)
/-! ### texts -/
/-- s.index(c), s.count(c), c one sign -/
def gSIndex : D → List D → Out D
  | .str l, [.str [c]] => if c ∈ l then .ok (.int (l.idxOf c)) else .bad
  | _, _ => .bad
def gSCount : D → List D → Out D
  | .str l, [.str [c]] => .ok (.int (l.count c))
  | _, _ => .bad
/-- s.split(c) -/
def splitC (c : Nat) : List Nat → List (List Nat)
  | [] => [[]]
  | x :: l => if x = c then [] :: splitC c l else match splitC c l with
    | [] => [[x]]
    | p :: ps => (x :: p) :: ps
def splitD : D → List D → Out D
  | .str l, [.str [c]] => if c < 128 ∧ l.length ≤ LIM then .ok (.lst ((splitC c l).map .str)) else .bad
  | _, _ => .bad
def nSplit (a : FE) (as : FA) : FN := fun ρ => (a ρ).bind fun x => (x.1.get x.2).bind fun d0 => if tyD "str" d0 = true then (as x.2).bind fun y => (x.1.get y.2).bind fun d => (splitD d y.1).bind fun e => .ok (e, y.2) else .bad
/-- s.partition(c) -/
def gPart : D → List D → Out D
  | .str l, [.str [c]] => if l.length ≤ LIM then .ok (.tup [.str (l.takeWhile (· != c)), .str (if c ∈ l then [c] else []), .str ((l.dropWhile (· != c)).drop 1)]) else .bad
  | _, _ => .bad
/-- str(n) -/
def strI (i : Int) : List Nat := (toString i).toList.map Char.toNat
def gStrI : D → Out D
  | .int i => if smallI i = true then .ok (.str (strI i)) else .bad
  | _ => .bad
/-- int(..) of a text of figures, too -/
def figs (l : List Nat) : Bool := !l.isEmpty && (decide (l.length ≤ 4) && l.all fun c => decide (48 ≤ c) && decide (c ≤ 57))
def valI (l : List Nat) : Int := l.foldl (fun (n : Int) (c : Nat) => n * 10 + ((c : Int) - 48)) 0
def gIntX : D → Out D
  | .str l => if figs l = true then .ok (.int (valI l)) else .bad
  | d => gInt d
theorem gSIndex_ne : ∀ d ds e, gSIndex d ds ≠ .exc e := by
  intro d ds e
  unfold gSIndex
  split
  · split <;> simp
  · simp
theorem gSCount_ne : ∀ d ds e, gSCount d ds ≠ .exc e := by
  intro d ds e
  unfold gSCount
  split <;> simp
theorem gPart_ne : ∀ d ds e, gPart d ds ≠ .exc e := by
  intro d ds e
  unfold gPart
  split
  · split <;> simp
  · simp
theorem splitD_ne : ∀ d ds e, splitD d ds ≠ .exc e := by
  intro d ds e
  unfold splitD
  split
  · split <;> simp
  · simp
theorem gStrI_ne : ∀ d e, gStrI d ≠ .exc e := by
  intro d e
  unfold gStrI
  split
  · split <;> simp
  · simp
theorem gIntX_ne : ∀ d e, gIntX d ≠ .exc e := by
  intro d e
  unfold gIntX
  split
  · split <;> simp
  · unfold gInt; split <;> simp
theorem gMinD_ne : ∀ u e, gMinD u ≠ .exc e := by
  intro u e
  unfold gMinD
  split
  · split <;> simp
  · simp
theorem sortD_ne : ∀ u e, sortD u ≠ .exc e := by
  intro u e
  unfold sortD
  split
  · split <;> simp
  · simp
end Den

/-! DenLu: an item of a list put anew, on data. -/
namespace Den
/-- the place that an index means -/
def ixL (n : Nat) (j : Int) : Option Nat := if 0 ≤ j then (if j < n then some j.toNat else none) else if -(n : Int) ≤ j then some (j + n).toNat else none
/-- name[k] = v, the name's list being the def's own -/
def sPutL (i : Nat) (k v : FE) : FS := fun ρ => (fKeep v ρ).bind fun x => (cont x.2 i).bind fun _ => (fKeep k x.2).bind fun y => match y.2[i]? with
  | some (some (.ow (.lst ds))) => match y.1 with
    | .int j => match ixL ds.length j with
      | some n => .ok (.nx (y.2.set i (some (.ow (.lst (ds.set n x.1))))))
      | none => .bad
    | _ => .bad
  | _ => .bad
end Den
namespace Den
/-- enumerate(zip(a, b)) -/
def iEnumZip (a b : FE) : FI := fun ρ => (fKeep a ρ).bind fun x => (fKeep b x.2).bind fun y => (itemsOf x.1).bind fun ds => (itemsOf y.1).bind fun es => .ok (numbered 0 ((ds.zip es).map fun p => .tup [p.1, p.2]), y.2)
end Den

/-! DenEv: the denotations evaluated, from the left, nothing within a continuation. No program. -/
namespace Den
/-- holds f fast: what is in a continuation is not looked at before its turn -/
structure Tag {α β : Type} (f : α → Out β) where
  u : Unit
def bindT {α β : Type} (o : Out α) (f : α → Out β) (_ : Tag f) : Out β := o.bind f
@[simp] theorem bindT_ok {α β : Type} (a : α) (f : α → Out β) (k : Tag f) : bindT (.ok a) f k = f a := id rfl
@[simp] theorem bindT_exc {α β : Type} (e : Err) (f : α → Out β) (k : Tag f) : bindT (.exc e : Out α) f k = .exc e := id rfl
@[simp] theorem bindT_bad {α β : Type} (f : α → Out β) (k : Tag f) : bindT (.bad : Out α) f k = .bad := id rfl
@[simp] theorem at_zero {α : Type} (x : α) (l : List α) : (x :: l)[0]? = some x := id rfl
@[simp] theorem at_succ {α : Type} (x : α) (l : List α) (i : Nat) : (x :: l)[i + 1]? = l[i]? := id rfl
/-! ### expressions -/
section
variable (ρ : DS) (i : Nat) (d : D) (a b c : FE) (as : FA) (g h : D → D → Out D) (u : D → Out D) (t s : FT)
@[simp] theorem fC_ap : fC d ρ = .ok (.fz d, ρ) := id rfl
@[simp] theorem fVar_ap : fVar i ρ = match ρ[i]? with
  | some (some (.fz d)) => .ok (.fz d, ρ)
  | some (some (.ow _)) => .ok (.at i, ρ)
  | some (some (.io _)) => .ok (.at i, ρ)
  | _ => .bad := id rfl
@[simp] theorem get_fz : (R.fz d).get ρ = .ok d := id rfl
@[simp] theorem get_at : (R.at i).get ρ = match ρ[i]? with
  | some (some (.fz d)) => .ok d
  | some (some (.ow d)) => .ok d
  | some (some (.io d)) => .ok d
  | _ => .bad := id rfl
@[simp] theorem frz_fz : (R.fz d).frz ρ = .ok (d, ρ) := id rfl
@[simp] theorem frz_at : (R.at i).frz ρ = match ρ[i]? with
  | some (some (.fz d)) => .ok (d, ρ)
  | some (some (.ow d)) => .ok (d, ρ.set i (some (.fz d)))
  | _ => .bad := id rfl
@[simp] theorem fOp_ap : fOp g a b ρ = bindT (a ρ) (fun x => bindT (b x.2) (fun y => bindT (x.1.get y.2) (fun u => bindT (y.1.get y.2) (fun v => bindT (g u v) (fun d => .ok (.fz d, y.2)) ⟨()⟩) ⟨()⟩) ⟨()⟩) ⟨()⟩) ⟨()⟩ := id rfl
@[simp] theorem fUn_ap : fUn u a ρ = bindT (a ρ) (fun x => bindT (x.1.get x.2) (fun v => bindT (u v) (fun d => .ok (.fz d, x.2)) ⟨()⟩) ⟨()⟩) ⟨()⟩ := id rfl
@[simp] theorem fKeep_ap : fKeep a ρ = bindT (a ρ) (fun x => x.1.frz x.2) ⟨()⟩ := id rfl
@[simp] theorem fOfN_ap (n : FN) : fOfN n ρ = bindT (n ρ) (fun x => .ok (.fz x.1, x.2)) ⟨()⟩ := id rfl
@[simp] theorem aNil_ap : aNil ρ = .ok ([], ρ) := id rfl
@[simp] theorem aCons_ap : aCons a as ρ = bindT (a ρ) (fun x => bindT (x.1.frz x.2) (fun u => bindT (as u.2) (fun us => .ok (u.1 :: us.1, us.2)) ⟨()⟩) ⟨()⟩) ⟨()⟩ := id rfl
@[simp] theorem fTup_ap : fTup as ρ = bindT (as ρ) (fun x => .ok (.fz (.tup x.1), x.2)) ⟨()⟩ := id rfl
@[simp] theorem nLst_ap : nLst as ρ = bindT (as ρ) (fun x => .ok (.lst x.1, x.2)) ⟨()⟩ := id rfl
@[simp] theorem fCall_ap (F : List D → Out D) : fCall F as ρ = bindT (as ρ) (fun x => bindT (F x.1) (fun d => .ok (.fz d, x.2)) ⟨()⟩) ⟨()⟩ := id rfl
@[simp] theorem fCallIO_ap (F : D → List D → Out (D × D)) : fCallIO F i a as ρ = bindT (fKeep a ρ) (fun x => bindT (cont x.2 i) (fun _ => bindT (as x.2) (fun y => match y.2[i]? with
  | some (some (.ow d)) => bindT (F d (x.1 :: y.1)) (fun r => .ok (.fz r.1, y.2.set i (some (.ow r.2)))) ⟨()⟩
  | some (some (.io d)) => bindT (F d (x.1 :: y.1)) (fun r => .ok (.fz r.1, y.2.set i (some (.io r.2)))) ⟨()⟩
  | _ => .bad) ⟨()⟩) ⟨()⟩) ⟨()⟩ := id rfl
@[simp] theorem cont_ap : cont ρ i = match ρ[i]? with
  | some (some (.fz d)) => .ok d
  | some (some (.ow d)) => .ok d
  | some (some (.io d)) => .ok d
  | _ => .bad := id rfl
@[simp] theorem fChain_ap : fChain g h a b c ρ = bindT (a ρ) (fun x => bindT (b x.2) (fun y => bindT (x.1.get y.2) (fun u => bindT (y.1.get y.2) (fun v => bindT (g u v) (fun d => match d with
  | .bl true => bindT (c y.2) (fun z => bindT (z.1.get z.2) (fun w => bindT (y.1.get z.2) (fun v => bindT (h v w) (fun e => .ok (.fz e, z.2)) ⟨()⟩) ⟨()⟩) ⟨()⟩) ⟨()⟩
  | .bl false => .ok (.fz (.bl false), y.2)
  | _ => .bad) ⟨()⟩) ⟨()⟩) ⟨()⟩) ⟨()⟩) ⟨()⟩ := id rfl
@[simp] theorem tVal_ap : tVal a ρ = bindT (a ρ) (fun x => bindT (x.1.get x.2) (fun d => match d with
  | .bl b => .ok (b, x.2)
  | _ => .bad) ⟨()⟩) ⟨()⟩ := id rfl
@[simp] theorem tAnd_ap : tAnd t s ρ = bindT (t ρ) (fun x => match x.1 with
  | true => s x.2
  | false => .ok (false, x.2)) ⟨()⟩ := id rfl
@[simp] theorem tOr_ap : tOr t s ρ = bindT (t ρ) (fun x => match x.1 with
  | true => .ok (true, x.2)
  | false => s x.2) ⟨()⟩ := id rfl
@[simp] theorem tNot_ap : tNot t ρ = bindT (t ρ) (fun x => .ok (!x.1, x.2)) ⟨()⟩ := id rfl
@[simp] theorem tYes_ap : tYes ρ = .ok (true, ρ) := id rfl
@[simp] theorem fAnd_ap : fAnd a b ρ = bindT (a ρ) (fun x => bindT (x.1.get x.2) (fun d => match d with
  | .bl true => b x.2
  | .bl false => .ok (.fz (.bl false), x.2)
  | _ => .bad) ⟨()⟩) ⟨()⟩ := id rfl
@[simp] theorem fOr_ap : fOr a b ρ = bindT (a ρ) (fun x => bindT (x.1.get x.2) (fun d => match d with
  | .bl true => .ok (.fz (.bl true), x.2)
  | .bl false => b x.2
  | _ => .bad) ⟨()⟩) ⟨()⟩ := id rfl
@[simp] theorem fNot_ap : fNot a ρ = bindT (a ρ) (fun x => bindT (x.1.get x.2) (fun d => match d with
  | .bl b => .ok (.fz (.bl !b), x.2)
  | _ => .bad) ⟨()⟩) ⟨()⟩ := id rfl
@[simp] theorem fIf_ap : fIf t a b ρ = bindT (t ρ) (fun x => match x.1 with
  | true => a x.2
  | false => b x.2) ⟨()⟩ := id rfl
@[simp] theorem oNone_ap : oNone ρ = .ok (none, ρ) := id rfl
@[simp] theorem oSome_ap : oSome a ρ = bindT (a ρ) (fun x => bindT (x.1.get x.2) (fun d => match d with
  | .int i => .ok (some i, x.2)
  | _ => .bad) ⟨()⟩) ⟨()⟩ := id rfl
@[simp] theorem fSl_ap (lo hi : FO) : fSl a lo hi ρ = bindT (a ρ) (fun x => bindT (lo x.2) (fun l => bindT (hi l.2) (fun h => bindT (x.1.get h.2) (fun d => bindT (slD d l.1 h.1) (fun e => .ok (.fz e, h.2)) ⟨()⟩) ⟨()⟩) ⟨()⟩) ⟨()⟩) ⟨()⟩ := id rfl
def toL : D → Out D
  | .lst ds => .ok (.lst ds)
  | .tup ds => .ok (.lst ds)
  | .str s => if s.length ≤ 1000000 then .ok (.lst (s.map fun c => .str [c])) else .bad
  | _ => .bad
@[simp] theorem toL_lst (ds : List D) : toL (.lst ds) = .ok (.lst ds) := id rfl
@[simp] theorem toL_tup (ds : List D) : toL (.tup ds) = .ok (.lst ds) := id rfl
@[simp] theorem toL_str (l : List Nat) (h : l.length ≤ 1000000) : toL (.str l) = .ok (.lst (l.map fun c => .str [c])) := if_pos h
@[simp] theorem nList_ap : nList a ρ = bindT (a ρ) (fun x => bindT (x.1.get x.2) (fun d => bindT (toL d) (fun e => .ok (e, x.2)) ⟨()⟩) ⟨()⟩) ⟨()⟩ := by
  unfold nList
  show Out.bind _ _ = Out.bind _ _
  congr 1; funext x
  show Out.bind _ _ = Out.bind _ _
  congr 1; funext d
  show _ = Out.bind _ _
  cases d <;> first | rfl | (simp only [toL]; split <;> rfl)
@[simp] theorem nSortSet_ap : nSortSet a ρ = bindT (a ρ) (fun x => bindT (x.1.get x.2) (fun d => bindT (sortSet d) (fun e => .ok (e, x.2)) ⟨()⟩) ⟨()⟩) ⟨()⟩ := id rfl
@[simp] theorem fMeth_ap (m : D → List D → Out (D × D)) : fMeth m i as ρ = match ρ[i]? with
  | some (some (.ow (.lst _))) => bindT (as ρ) (fun x => match x.2[i]? with
    | some (some (.ow d)) => bindT (m d x.1) (fun r => .ok (.fz r.1, x.2.set i (some (.ow r.2)))) ⟨()⟩
    | _ => .bad) ⟨()⟩
  | some (some (.io (.lst _))) => bindT (as ρ) (fun x => match x.2[i]? with
    | some (some (.io d)) => bindT (m d x.1) (fun r => .ok (.fz r.1, x.2.set i (some (.io r.2)))) ⟨()⟩
    | _ => .bad) ⟨()⟩
  | _ => .bad := id rfl
@[simp] theorem fTell_ap (ty : D → Bool) (m : D → List D → Out D) : fTell ty m a as ρ = bindT (a ρ) (fun x => bindT (x.1.get x.2) (fun d0 => match ty d0 with
  | true => bindT (as x.2) (fun y => bindT (x.1.get y.2) (fun d => bindT (m d y.1) (fun d' => .ok (.fz d', y.2)) ⟨()⟩) ⟨()⟩) ⟨()⟩
  | false => .bad) ⟨()⟩) ⟨()⟩ := by
  unfold fTell
  show Out.bind _ _ = Out.bind _ _
  congr 1; funext x
  show Out.bind _ _ = Out.bind _ _
  congr 1; funext d0
  cases ty d0 <;> rfl
@[simp] theorem fGet2_ap : fGet2 a b c ρ = bindT (a ρ) (fun u => bindT (u.1.get u.2) (fun d => bindT (getS d (.int 0)) (fun _ => bindT (b u.2) (fun v => bindT (c v.2) (fun w => bindT (w.1.frz w.2) (fun z => bindT (u.1.get z.2) (fun d => bindT (v.1.get z.2) (fun y => bindT (getN d y) (fun o => .ok (.fz (o.getD z.1), z.2)) ⟨()⟩) ⟨()⟩) ⟨()⟩) ⟨()⟩) ⟨()⟩) ⟨()⟩) ⟨()⟩) ⟨()⟩) ⟨()⟩ := id rfl
@[simp] theorem fGet1_ap : fGet1 a b ρ = bindT (a ρ) (fun u => bindT (u.1.get u.2) (fun d => bindT (getS d (.int 0)) (fun _ => bindT (b u.2) (fun v => bindT (u.1.get v.2) (fun d => bindT (v.1.get v.2) (fun y => bindT (getN d y) (fun o => .ok (.fz (o.getD .non), v.2)) ⟨()⟩) ⟨()⟩) ⟨()⟩) ⟨()⟩) ⟨()⟩) ⟨()⟩) ⟨()⟩ := id rfl
@[simp] theorem getN_int (d : D) (i : Int) : getN d (.int i) = getS d (.int i) := id rfl
@[simp] theorem getN_str (d : D) (i : List Nat) : getN d (.str i) = getS d (.str i) := id rfl
@[simp] theorem getN_non (d : D) : getN d .non = (getS d (.int 0)).bind fun _ => .ok none := id rfl
@[simp] theorem nDictOf_ap : nDictOf a ρ = bindT (a ρ) (fun x => bindT (x.1.get x.2) (fun d => match d with
  | .tup ds => (dictOf ds).bind fun r => .ok (r, x.2)
  | .lst ds => (dictOf ds).bind fun r => .ok (r, x.2)
  | _ => .bad) ⟨()⟩) ⟨()⟩ := id rfl
@[simp] theorem nDict_ap : nDict as ρ = bindT (as ρ) (fun x => match pairUp x.1 with
  | some ps => if (ps.all fun p => isKey p.1) = true ∧ ps.length ≤ 15 then .ok (.dct (putAll [] ps), x.2) else .bad
  | none => .bad) ⟨()⟩ := id rfl
end
/-! ### statements -/
section
variable (ρ : DS) (i : Nat) (d : D) (a : FE) (s s' : FS) (t : FT) (g : FG)
@[simp] theorem sNext_ap : sNext ρ = .ok (.nx ρ) := id rfl
@[simp] theorem sSeq_ap : sSeq s s' ρ = bindT (s ρ) (fun x => match x with
  | .nx ρ' => s' ρ'
  | .rt d ρ' => .ok (.rt d ρ')
  | .bk ρ' => .ok (.bk ρ')
  | .ct ρ' => .ok (.ct ρ')) ⟨()⟩ := by
  unfold sSeq
  show Out.bind _ _ = Out.bind _ _
  congr 1; funext x
  cases x <;> rfl
@[simp] theorem sBreak_ap : sBreak ρ = .ok (.bk ρ) := id rfl
@[simp] theorem sCont_ap : sCont ρ = .ok (.ct ρ) := id rfl
@[simp] theorem sExpr_ap : sExpr a ρ = bindT (a ρ) (fun x => .ok (.nx x.2)) ⟨()⟩ := id rfl
@[simp] theorem sRet_ap : sRet a ρ = bindT (a ρ) (fun x => bindT (x.1.frz x.2) (fun u => .ok (.rt u.1 u.2)) ⟨()⟩) ⟨()⟩ := id rfl
@[simp] theorem sRetN_ap : sRetN ρ = .ok (.rt .non ρ) := id rfl
@[simp] theorem sRaise_ap (e : Err) : sRaise e ρ = .exc e := id rfl
@[simp] theorem sIf_ap : sIf t s s' ρ = bindT (t ρ) (fun x => match x.1 with
  | true => s x.2
  | false => s' x.2) ⟨()⟩ := id rfl
@[simp] theorem gName_ap : gName i d ρ = .ok (ρ.set i (some (.fz d))) := id rfl
@[simp] theorem gsNil_ap : gsNil [] ρ = .ok ρ := id rfl
@[simp] theorem gsCons_ap (gs : List D → DS → Out DS) (ds : List D) : gsCons g gs (d :: ds) ρ = bindT (g d ρ) (fun ρ' => gs ds ρ') ⟨()⟩ := id rfl
@[simp] theorem gTup_ap (gs : List D → DS → Out DS) (ds : List D) : gTup gs (.tup ds) ρ = gs ds ρ := id rfl
@[simp] theorem sAsg_ap : sAsg a g ρ = bindT (a ρ) (fun x => bindT (x.1.frz x.2) (fun u => bindT (g u.1 u.2) (fun ρ' => .ok (.nx ρ')) ⟨()⟩) ⟨()⟩) ⟨()⟩ := id rfl
@[simp] theorem sNew_ap (n : FN) : sNew n i ρ = bindT (n ρ) (fun x => .ok (.nx (x.2.set i (some (.ow x.1))))) ⟨()⟩ := id rfl
@[simp] theorem sFor_ap (it : FI) : sFor it g s ρ = bindT (it ρ) (fun x => forIn g s x.1 x.2) ⟨()⟩ := id rfl
@[simp] theorem forIn_nil' : forIn g s [] ρ = .ok (.nx ρ) := id rfl
theorem forIn_cons' (ds : List D) : forIn g s (d :: ds) ρ = bindT (g d ρ) (fun ρ1 => bindT (s ρ1) (fun x => match x with
    | .nx ρ2 => forIn g s ds ρ2
    | .ct ρ2 => forIn g s ds ρ2
    | .bk ρ2 => .ok (.nx ρ2)
    | .rt d ρ2 => .ok (.rt d ρ2)) ⟨()⟩) ⟨()⟩ := id rfl
@[simp] theorem iRange1_ap : iRange1 a ρ = bindT (a ρ) (fun x => bindT (x.1.get x.2) (fun d => match d with
  | .int j => if inI j = true then .ok (rangeL 0 j.toNat, x.2) else .bad
  | _ => .bad) ⟨()⟩) ⟨()⟩ := id rfl
@[simp] theorem iRange2_ap (b : FE) : iRange2 a b ρ = bindT (a ρ) (fun x => bindT (b x.2) (fun y => bindT (x.1.get y.2) (fun d => bindT (y.1.get y.2) (fun e => match d, e with
  | .int i, .int j => if (inI i && inI j) = true then .ok (rangeL i (j - i).toNat, y.2) else .bad
  | _, _ => .bad) ⟨()⟩) ⟨()⟩) ⟨()⟩) ⟨()⟩ := id rfl
@[simp] theorem iSeq_ap : iSeq a ρ = bindT (fKeep a ρ) (fun x => bindT (itemsOf x.1) (fun ds => .ok (ds, x.2)) ⟨()⟩) ⟨()⟩ := id rfl
@[simp] theorem items_lst (ds : List D) : itemsOf (.lst ds) = .ok ds := id rfl
@[simp] theorem items_tup (ds : List D) : itemsOf (.tup ds) = .ok ds := id rfl
@[simp] theorem items_str (l : List Nat) : itemsOf (.str l) = .ok (l.map fun c => .str [c]) := id rfl
@[simp] theorem vNil_ap : vNil ρ = .ok ([], ρ) := id rfl
@[simp] theorem vKeep_ap (r : FV) : vKeep a r ρ = bindT (fKeep a ρ) (fun x => bindT (r x.2) (fun y => .ok (.fz x.1 :: y.1, y.2)) ⟨()⟩) ⟨()⟩ := id rfl
@[simp] theorem vNew_ap (n : FN) (r : FV) : vNew n r ρ = bindT (n ρ) (fun x => bindT (r x.2) (fun y => .ok (.ow x.1 :: y.1, y.2)) ⟨()⟩) ⟨()⟩ := id rfl
@[simp] theorem sPar_ap (is : List Nat) (f : FV) : sPar is f ρ = bindT (f ρ) (fun x => .ok (.nx (setAll is x.1 x.2))) ⟨()⟩ := id rfl
@[simp] theorem setAll_nil (vs : List SV) : setAll [] vs ρ = ρ := id rfl
@[simp] theorem setAll_cons (is : List Nat) (v : SV) (vs : List SV) : setAll (i :: is) (v :: vs) ρ = setAll is vs (ρ.set i (some v)) := id rfl
@[simp] theorem runF_ap (b : FS) (n : Nat) (ds : List D) : runF b n ds = bindT (b (start ds n)) (fun x => match x with
  | .nx _ => .ok .non
  | .rt d _ => .ok d
  | .bk _ => .bad
  | .ct _ => .bad) ⟨()⟩ := by
  unfold runF
  show Out.bind _ _ = Out.bind _ _
  congr 1; funext x
  cases x <;> rfl
@[simp] theorem runIO_ap (b : FS) (n : Nat) (td d : D) (ds : List D) : runIO b n td (d :: ds) = bindT (b (startIO d td ds n)) (fun x => match x with
    | .nx ρ => bindT (ioAt ρ 1) (fun t' => .ok (.non, t')) ⟨()⟩
    | .rt d ρ => bindT (ioAt ρ 1) (fun t' => .ok (d, t')) ⟨()⟩
    | .bk _ => .bad
    | .ct _ => .bad) ⟨()⟩ := by
  unfold runIO
  show Out.bind _ _ = Out.bind _ _
  congr 1; funext x
  cases x <;> rfl
@[simp] theorem ioAt_ap (p : Nat) : ioAt ρ p = match ρ[p]? with
  | some (some (.io d)) => .ok d
  | _ => .bad := id rfl
end
/-! ### operations -/
section
variable (i j : Int) (a b : List Nat) (ds es : List D)
@[simp] theorem gAdd_int : gAdd (.int i) (.int j) = .ok (.int (i + j)) := id rfl
@[simp] theorem gSub_int : gSub (.int i) (.int j) = .ok (.int (i - j)) := id rfl
@[simp] theorem gAdd_str (h : a.length + b.length ≤ 1000000) : gAdd (.str a) (.str b) = .ok (.str (a ++ b)) := if_pos h
@[simp] theorem gAdd_tup (h : ds.length + es.length ≤ 1000000) : gAdd (.tup ds) (.tup es) = .ok (.tup (ds ++ es)) := if_pos h
@[simp] theorem gAdd_lst (h : ds.length + es.length ≤ 1000000) : gAdd (.lst ds) (.lst es) = .ok (.lst (ds ++ es)) := if_pos h
theorem gMul_int (h : (-(2 ^ 64) < i ∧ i < 2 ^ 64) ∨ (-(2 ^ 64) < j ∧ j < 2 ^ 64)) : gMul (.int i) (.int j) = .ok (.int (i * j)) := if_pos (by simpa [smallI] using h)
@[simp] theorem gMod_int (h : 0 < j) : gMod (.int i) (.int j) = .ok (.int (i % j)) := if_pos h
theorem gPow_int (h : 0 ≤ j ∧ j ≤ 1000000 ∧ i.natAbs < 2 ^ 64) : gPow (.int i) (.int j) = .ok (.int (i ^ j.toNat)) := if_pos h
@[simp] theorem gLt_t (h : i < j) : gLt (.int i) (.int j) = .ok (.bl true) := by simp [gLt, h]
@[simp] theorem gLt_f (h : ¬ i < j) : gLt (.int i) (.int j) = .ok (.bl false) := by simp [gLt, h]
@[simp] theorem gLe_t (h : i ≤ j) : gLe (.int i) (.int j) = .ok (.bl true) := by simp [gLe, h]
@[simp] theorem gLe_f (h : ¬ i ≤ j) : gLe (.int i) (.int j) = .ok (.bl false) := by simp [gLe, h]
@[simp] theorem gGt_t (h : j < i) : gGt (.int i) (.int j) = .ok (.bl true) := by simp [gGt, h]
@[simp] theorem gGt_f (h : ¬ j < i) : gGt (.int i) (.int j) = .ok (.bl false) := by simp [gGt, h]
@[simp] theorem gGe_t (h : j ≤ i) : gGe (.int i) (.int j) = .ok (.bl true) := by simp [gGe, h]
@[simp] theorem gGe_f (h : ¬ j ≤ i) : gGe (.int i) (.int j) = .ok (.bl false) := by simp [gGe, h]
theorem gEq_int : gEq (.int i) (.int j) = .ok (.bl (i == j)) := by simp [gEq, eqS, D.plain, D.depth, D.eqv]
@[simp] theorem gEq_t (h : i = j) : gEq (.int i) (.int j) = .ok (.bl true) := by rw [gEq_int]; simp [h]
@[simp] theorem gEq_f (h : ¬ i = j) : gEq (.int i) (.int j) = .ok (.bl false) := by rw [gEq_int]; simp [h]
@[simp] theorem gNe_t (h : ¬ i = j) : gNe (.int i) (.int j) = .ok (.bl true) := by simp [gNe, eqS, D.plain, D.depth, D.eqv, h]
@[simp] theorem gNe_f (h : i = j) : gNe (.int i) (.int j) = .ok (.bl false) := by simp [gNe, eqS, D.plain, D.depth, D.eqv, h]
@[simp] theorem gEq_str : gEq (.str a) (.str b) = .ok (.bl (a == b)) := by simp [gEq, eqS, D.plain, D.depth, D.eqv]
@[simp] theorem gNe_str : gNe (.str a) (.str b) = .ok (.bl !(a == b)) := by simp [gNe, eqS, D.plain, D.depth, D.eqv]
@[simp] theorem gLen_lst : gLen (.lst ds) = .ok (.int ds.length) := id rfl
@[simp] theorem gLen_tup : gLen (.tup ds) = .ok (.int ds.length) := id rfl
@[simp] theorem gLen_str (h : a.length ≤ 1000000) : gLen (.str a) = .ok (.int a.length) := if_pos h
@[simp] theorem gLen_scr (ns : List Int) : gLen (.scr ns) = .ok (.int ns.length) := id rfl
@[simp] theorem gIx_lst : gIx (.lst ds) (.int i) = ofO (atI ds i) := id rfl
@[simp] theorem gIx_tup : gIx (.tup ds) (.int i) = ofO (atI ds i) := id rfl
@[simp] theorem gIx_str (h : a.length ≤ 1000000) : gIx (.str a) (.int i) = ofO ((atI a i).map fun c => .str [c]) := if_pos h
@[simp] theorem gIx_scr (ns : List Int) : gIx (.scr ns) (.int i) = ofO ((atI ns i).map fun n => .int n) := id rfl
@[simp] theorem ofO_some {α : Type} (a : α) : ofO (some a) = .ok a := id rfl
@[simp] theorem ofO_none {α : Type} : ofO (none : Option α) = .bad := id rfl
theorem atI_pos {α : Type} (xs : List α) (h : 0 ≤ i) : atI xs i = xs[i.toNat]? := if_pos h
@[simp] theorem atI_zero {α : Type} (xs : List α) : atI xs 0 = xs[0]? := id rfl
@[simp] theorem atI_one {α : Type} (xs : List α) : atI xs 1 = xs[1]? := id rfl
@[simp] theorem atI_two {α : Type} (xs : List α) : atI xs 2 = xs[2]? := id rfl
@[simp] theorem atI_three {α : Type} (xs : List α) : atI xs 3 = xs[3]? := id rfl
@[simp] theorem atI_nat {α : Type} (xs : List α) (k : Nat) : atI xs (k : Int) = xs[k]? := by rw [atI_pos _ _ (by omega)]; simp
@[simp] theorem gTuple_lst : gTuple (.lst ds) = .ok (.tup ds) := id rfl
@[simp] theorem gIsi_ap (T : Ty) (d : D) : gIsi T d = bindT (isTy T d) (fun b => .ok (.bl b)) ⟨()⟩ := id rfl
@[simp] theorem isTy_non (T : Ty) : isTy T .non = .ok false := by cases T <;> rfl
@[simp] theorem isTy_bl (T : Ty) (k : Bool) : isTy T (.bl k) = .ok (decide (T = .int ∨ T = .bool)) := by cases T <;> rfl
@[simp] theorem isTy_int (T : Ty) : isTy T (.int i) = .ok (decide (T = .int)) := by cases T <;> rfl
@[simp] theorem isTy_str (T : Ty) : isTy T (.str a) = .ok (decide (T = .str)) := by cases T <;> rfl
@[simp] theorem isTy_tup (T : Ty) : isTy T (.tup ds) = .ok (decide (T = .tuple)) := by cases T <;> rfl
@[simp] theorem isTy_lst (T : Ty) : isTy T (.lst ds) = .ok (decide (T = .list)) := by cases T <;> rfl
@[simp] theorem mAppend_ap (d : D) (h : ds.length < 1000000) : mAppend (.lst ds) [d] = .ok (.non, .lst (ds ++ [d])) := if_pos h
@[simp] theorem gIn_ch (c : Nat) : gIn (.str [c]) (.str a) = .ok (.bl (decide (c ∈ a))) := id rfl
@[simp] theorem gNotIn_ch (c : Nat) : gNotIn (.str [c]) (.str a) = .ok (.bl !(decide (c ∈ a))) := id rfl
@[simp] theorem slD_str (lo hi : Option Int) (h : a.length ≤ 1000000) : slD (.str a) lo hi = .ok (.str (cutL a lo hi)) := if_pos h
@[simp] theorem slD_tup (lo hi : Option Int) : slD (.tup ds) lo hi = .ok (.tup (cutL ds lo hi)) := id rfl
@[simp] theorem slD_lst (lo hi : Option Int) : slD (.lst ds) lo hi = .ok (.lst (cutL ds lo hi)) := id rfl
theorem gEq_plain {x y : D} (hx : x.plain = true) (hy : y.plain = true) (hd : x.depth ≤ 60) : gEq x y = .ok (.bl (x.eqv y)) := by
  have h : eqS x y = .ok (x.eqv y) := by
    unfold eqS
    split
    · cases hx
    · rw [if_pos ⟨hx, hy, Nat.le_trans (Nat.min_le_left _ _) hd⟩]
  simp [gEq, h]
theorem gNe_plain {x y : D} (hx : x.plain = true) (hy : y.plain = true) (hd : x.depth ≤ 60) : gNe x y = .ok (.bl !(x.eqv y)) := by
  have h : eqS x y = .ok (x.eqv y) := by
    unfold eqS
    split
    · cases hx
    · rw [if_pos ⟨hx, hy, Nat.le_trans (Nat.min_le_left _ _) hd⟩]
  simp [gNe, h]
mutual
theorem eqv_refl : ∀ d : D, d.plain = true → d.eqv d = true
  | .non, _ => rfl
  | .bl b, _ => by simp [D.eqv]
  | .int b, _ => by simp [D.eqv]
  | .str b, _ => by simp [D.eqv]
  | .tup ds, h => eqvL_refl ds h
  | .lst ds, h => eqvL_refl ds h
  | .dct _, h => by cases h
  | .dcn _, h => by cases h
  | .exn _, h => by cases h
  | .scr _, h => by cases h
theorem eqvL_refl : ∀ ds : List D, D.plainL ds = true → D.eqvL ds ds = true
  | [], _ => rfl
  | d :: ds, h => by
    rw [D.plainL, Bool.and_eq_true] at h
    rw [D.eqvL, eqv_refl d h.1, eqvL_refl ds h.2]; rfl
end
end
/-! ### comprehensions -/
/-- each item gives f of it; the slots come back -/
theorem compIn_map {ws : List Nat} {g : FG} {t : FT} {e : FE} {ρ : DS} (f : D → D) (hk : kill ws ρ = ρ) : ∀ {ds : List D}, (∀ d ∈ ds, ∃ ρ1, g d ρ = .ok ρ1 ∧ t ρ1 = .ok (true, ρ1) ∧ e ρ1 = .ok (.fz (f d), ρ1) ∧ kill ws ρ1 = ρ) → compIn ws g t e ds ρ = .ok (ds.map f, ρ)
  | [], _ => rfl
  | d :: ds, h => by
    obtain ⟨ρ1, h1, h2, h3, h4⟩ := h d List.mem_cons_self
    have ih := compIn_map f hk (fun d hd => h d (List.mem_cons_of_mem _ hd)) (ds := ds)
    unfold compIn
    rw [hk, h1]
    simp only [Out.bind_ok, h2, h3, frz_fz, h4, ih, List.map_cons]
theorem nComp_map {it : FI} {ws : List Nat} {g : FG} {t : FT} {e : FE} {ρ ρ' : DS} {ds : List D} (f : D → D) (hi : it ρ = .ok (ds, ρ')) (hl : ds.length ≤ 1000000) (h : ∀ d ∈ ds, ∃ ρ1, g d (kill ws ρ') = .ok ρ1 ∧ t ρ1 = .ok (true, ρ1) ∧ e ρ1 = .ok (.fz (f d), ρ1) ∧ kill ws ρ1 = kill ws ρ')
    (hk : kill ws (kill ws ρ') = kill ws ρ') : nComp it ws g t e ρ = .ok (.lst (ds.map f), kill ws ρ') := by
  unfold nComp
  rw [hi]
  simp only [Out.bind_ok]
  rw [if_pos hl, compIn_map f hk h]
  rfl
theorem compIn_out {i : Nat} {e : FE} {ρ : DS} (hk : ρ.set i none = ρ) : ∀ {ds out : List D}, out.length = ds.length → (∀ (k : Nat) (h1 : k < ds.length) (h2 : k < out.length), e (ρ.set i (some (.fz ds[k]))) = .ok (.fz out[k], ρ.set i (some (.fz ds[k])))) →
    compIn [i] (gName i) tYes e ds ρ = .ok (out, ρ)
  | [], [], _, _ => rfl
  | [], _ :: _, h, _ => by simp at h
  | _ :: _, [], h, _ => by simp at h
  | d :: ds, y :: out, hl, h => by
    have ih := compIn_out hk (ds := ds) (out := out) (by simpa using hl) fun k h1 h2 => h (k + 1) (by simpa using h1) (by simpa using h2)
    have h0 : e (ρ.set i (some (.fz d))) = .ok (.fz y, ρ.set i (some (.fz d))) := h 0 (by simp) (by simp)
    unfold compIn
    have k1 : kill [i] ρ = ρ := hk
    have k2 : kill [i] (ρ.set i (some (.fz d))) = ρ := by
      show (ρ.set i (some (.fz d))).set i none = ρ
      rw [List.set_set]; exact hk
    rw [k1]
    show ((Out.ok (ρ.set i (some (.fz d)))).bind _) = _
    simp only [Out.bind_ok, tYes, h0, frz_fz, k2, ih]
/-- a comprehension of one name and no test whose element leaves the slots as they are: item k gives out k -/
theorem nComp_out {it : FI} {i : Nat} {e : FE} {ρ ρ' : DS} {ds out : List D} (hi : it ρ = .ok (ds, ρ')) (ho : out.length = ds.length) (hl : ds.length ≤ 1000000)
    (h : ∀ (k : Nat) (h1 : k < ds.length) (h2 : k < out.length), e (ρ'.set i (some (.fz ds[k]))) = .ok (.fz out[k], ρ'.set i (some (.fz ds[k])))) : nComp it [i] (gName i) tYes e ρ = .ok (.lst out, ρ'.set i none) := by
  unfold nComp
  rw [hi]
  simp only [Out.bind_ok]
  rw [if_pos hl]
  have z := compIn_out (ρ := ρ'.set i none) (i := i) (e := e) (by rw [List.set_set]) ho fun k h1 h2 => by rw [List.set_set]; exact h k h1 h2
  show ((compIn [i] (gName i) tYes e ds (ρ'.set i none)).nox.bind _) = _
  rw [z]
  rfl
theorem gNe_self {d : D} (h : d.plain = true) (hd : d.depth ≤ 60) : gNe d d = .ok (.bl false) := by rw [gNe_plain h h hd, eqv_refl d h]; rfl
theorem gEq_self {d : D} (h : d.plain = true) (hd : d.depth ≤ 60) : gEq d d = .ok (.bl true) := by rw [gEq_plain h h hd, eqv_refl d h]
theorem plainL_map {α : Type} {f : α → D} (h : ∀ a, (f a).plain = true) : ∀ l : List α, D.plainL (l.map f) = true
  | [] => rfl
  | a :: l => by rw [List.map_cons, D.plainL, h a, plainL_map h l]; rfl
theorem depthL_map {α : Type} {f : α → D} {n : Nat} (h : ∀ a, (f a).depth ≤ n) : ∀ l : List α, D.depthL (l.map f) ≤ n
  | [] => Nat.zero_le _
  | a :: l => by rw [List.map_cons, D.depthL]; exact Nat.max_le.mpr ⟨h a, depthL_map h l⟩
theorem range_get {n k : Nat} (h : k < (rangeL 0 n).length) : (rangeL 0 n)[k] = .int k := by simp [rangeL]
theorem range_len (lo : Int) (n : Nat) : (rangeL lo n).length = n := by simp [rangeL]
theorem rangeL_two : rangeL 0 2 = [.int 0, .int 1] := rfl
@[simp] theorem nSortD_ap (a : FE) (ρ : DS) : nSortD a ρ = bindT (a ρ) (fun x => bindT (x.1.get x.2) (fun d => bindT (sortD d) (fun e => .ok (e, x.2)) ⟨()⟩) ⟨()⟩) ⟨()⟩ := id rfl
@[simp] theorem nSplit_ap (a : FE) (as : FA) (ρ : DS) : nSplit a as ρ = bindT (a ρ) (fun x => bindT (x.1.get x.2) (fun d0 => match tyD "str" d0 with
  | true => bindT (as x.2) (fun y => bindT (x.1.get y.2) (fun d => bindT (splitD d y.1) (fun e => .ok (e, y.2)) ⟨()⟩) ⟨()⟩) ⟨()⟩
  | false => .bad) ⟨()⟩) ⟨()⟩ := by
  unfold nSplit
  show Out.bind _ _ = Out.bind _ _
  congr 1; funext x
  show Out.bind _ _ = Out.bind _ _
  congr 1; funext d0
  cases tyD "str" d0 <;> rfl
@[simp] theorem gIntX_int (i : Int) : gIntX (.int i) = .ok (.int i) := id rfl
@[simp] theorem gIntX_bl (b : Bool) : gIntX (.bl b) = .ok (.int (if b then 1 else 0)) := id rfl
@[simp] theorem gSCount_str (l : List Nat) (c : Nat) : gSCount (.str l) [.str [c]] = .ok (.int (l.count c)) := id rfl
@[simp] theorem nListRg_ap (a : FE) (ρ : DS) : nListRg a ρ = bindT (a ρ) (fun x => bindT (x.1.get x.2) (fun d => bindT (rgD d) (fun e => .ok (e, x.2)) ⟨()⟩) ⟨()⟩) ⟨()⟩ := id rfl
end Den

/-! DenLib: loops and comprehensions, by what one turn does. No program. -/
namespace DenL
open Den
@[simp] theorem sKill_ap (ks : List Nat) (ρ : DS) : sKill ks ρ = .ok (.nx (kill ks ρ)) := id rfl
@[simp] theorem kill_nil (ρ : DS) : kill [] ρ = ρ := id rfl
@[simp] theorem kill_cons (k : Nat) (ks : List Nat) (ρ : DS) : kill (k :: ks) ρ = kill ks (ρ.set k none) := id rfl
/-- one turn of a loop -/
def turn (g : FG) (b : FS) (d : D) (ρ : DS) : Out Fl := bindT (g d ρ) (fun ρ1 => b ρ1) ⟨()⟩
theorem forIn_turn (g : FG) (b : FS) (d : D) (ds : List D) (ρ : DS) : forIn g b (d :: ds) ρ = bindT (turn g b d ρ) (fun x => match x with
    | .nx ρ2 => forIn g b ds ρ2
    | .ct ρ2 => forIn g b ds ρ2
    | .bk ρ2 => .ok (.nx ρ2)
    | .rt d ρ2 => .ok (.rt d ρ2)) ⟨()⟩ := by
  show ((g d ρ).bind _) = ((g d ρ).bind _).bind _
  cases g d ρ <;> rfl
@[simp] theorem turn_ap (g : FG) (b : FS) (d : D) (ρ : DS) : turn g b d ρ = bindT (g d ρ) (fun ρ1 => b ρ1) ⟨()⟩ := id rfl
/-- how a turn ends, by the loop's state: it goes on; the def ends with d; the loop is left -/
inductive Stp (α : Type) where
  | nx (a : α) | rt (d : D) | bk (a : α) | ex (e : Err)
/-- the turn's outcome, if it is so -/
def Stp.is {α : Type} (st : α → DS) (o : Out Fl) : Stp α → Prop
  | .nx a => o = .ok (.nx (st a)) ∨ o = .ok (.ct (st a))
  | .rt d => ∃ ρ, o = .ok (.rt d ρ)
  | .bk a => o = .ok (.bk (st a))
  | .ex e => o = .exc e
def walk {α β : Type} (f : α → β → Stp α) : List β → α → Stp α
  | [], a => .nx a
  | x :: xs, a => match f a x with
    | .nx a' => walk f xs a'
    | .rt d => .rt d
    | .bk a' => .bk a'
    | .ex e => .ex e
/-- the loop's outcome, if it is so -/
def Stp.ends {α : Type} (st : α → DS) (o : Out Fl) : Stp α → Prop
  | .nx a => o = .ok (.nx (st a))
  | .rt d => ∃ ρ, o = .ok (.rt d ρ)
  | .bk a => o = .ok (.nx (st a))
  | .ex e => o = .exc e
theorem forIn_nx {g : FG} {b : FS} {d : D} {ds : List D} {ρ ρ' : DS} (h : turn g b d ρ = .ok (.nx ρ')) : forIn g b (d :: ds) ρ = forIn g b ds ρ' := by rw [forIn_turn, h]; rfl
theorem forIn_rt {g : FG} {b : FS} {d e : D} {ds : List D} {ρ ρ' : DS} (h : turn g b d ρ = .ok (.rt e ρ')) : forIn g b (d :: ds) ρ = .ok (.rt e ρ') := by rw [forIn_turn, h]; rfl
theorem forIn_walk {α β : Type} {g : FG} {b : FS} (st : α → DS) (en : β → D) (f : α → β → Stp α) (I : List β → α → Prop) : ∀ (xs pre : List β) (a : α), I pre a →
    (∀ (pre' : List β) (x : β) (post : List β) (a : α), pre ++ xs = pre' ++ x :: post → I pre' a → Stp.is st (turn g b (en x) (st a)) (f a x) ∧ ∀ a', f a x = .nx a' → I (pre' ++ [x]) a') →
    Stp.ends st (forIn g b (xs.map en) (st a)) (walk f xs a)
  | [], pre, a, _, _ => rfl
  | x :: xs, pre, a, h0, h => by
    have h1 := h pre x xs a rfl h0
    rw [List.map_cons, forIn_turn, walk]
    cases e : f a x with
    | nx a' =>
      have ih := forIn_walk st en f I xs (pre ++ [x]) a' (h1.2 a' e) fun pre' y post c hs hi => h pre' y post c (by rw [← hs]; simp) hi
      rw [e] at h1
      rcases h1.1 with q | q <;> rw [q] <;> exact ih
    | rt d => rw [e] at h1; obtain ⟨ρ, q⟩ := h1.1; rw [q]; exact ⟨ρ, rfl⟩
    | bk a' => rw [e] at h1; have q : _ = _ := h1.1; rw [q]; rfl
    | ex er => rw [e] at h1; have q : _ = _ := h1.1; rw [q]; rfl
/-- a loop that is always walked to its end -/
theorem forIn_fold {α β : Type} {g : FG} {b : FS} (st : α → DS) (en : β → D) (f : α → β → α) (I : List β → α → Prop) : ∀ (xs pre : List β) (a : α), I pre a →
    (∀ (pre' : List β) (x : β) (post : List β) (a : α), pre ++ xs = pre' ++ x :: post → I pre' a → turn g b (en x) (st a) = .ok (.nx (st (f a x))) ∧ I (pre' ++ [x]) (f a x)) →
    forIn g b (xs.map en) (st a) = .ok (.nx (st (xs.foldl f a))) ∧ I (pre ++ xs) (xs.foldl f a)
  | [], pre, a, h0, _ => ⟨rfl, by simpa using h0⟩
  | x :: xs, pre, a, h0, h => by
    have h1 := h pre x xs a rfl h0
    have ih := forIn_fold st en f I xs (pre ++ [x]) (f a x) h1.2 fun pre' y post c hs hi => h pre' y post c (by rw [← hs]; simp) hi
    rw [List.map_cons, forIn_turn, h1.1, List.foldl_cons]
    exact ⟨ih.1, by have := ih.2; simpa using this⟩
/-- .. without an invariant -/
theorem forIn_each {α β : Type} {g : FG} {b : FS} (st : α → DS) (en : β → D) (f : α → β → α) (xs : List β) (a : α) (h : ∀ x ∈ xs, ∀ a, turn g b (en x) (st a) = .ok (.nx (st (f a x)))) :
    forIn g b (xs.map en) (st a) = .ok (.nx (st (xs.foldl f a))) :=
  (forIn_fold st en f (fun _ _ => True) xs [] a trivial fun pre x post a hs _ => ⟨h x (by rw [List.nil_append] at hs; rw [hs]; simp) a, trivial⟩).1
/-! ### comprehensions -/
/-- one turn -/
def cturn (ws : List Nat) (g : FG) (t : FT) (e : FE) (d : D) (ρ : DS) : Out (Option D × DS) := bindT (g d (kill ws ρ)) (fun ρ1 => bindT (t ρ1) (fun x => match x.1 with
    | false => .ok (none, kill ws x.2)
    | true => bindT (e x.2) (fun y => bindT (y.1.frz y.2) (fun u => .ok (some u.1, kill ws u.2)) ⟨()⟩) ⟨()⟩) ⟨()⟩) ⟨()⟩
@[simp] theorem cturn_ap (ws : List Nat) (g : FG) (t : FT) (e : FE) (d : D) (ρ : DS) : cturn ws g t e d ρ = bindT (g d (kill ws ρ)) (fun ρ1 => bindT (t ρ1) (fun x => match x.1 with
    | false => .ok (none, kill ws x.2)
    | true => bindT (e x.2) (fun y => bindT (y.1.frz y.2) (fun u => .ok (some u.1, kill ws u.2)) ⟨()⟩) ⟨()⟩) ⟨()⟩) ⟨()⟩ := id rfl
theorem compIn_turn (ws : List Nat) (g : FG) (t : FT) (e : FE) (d : D) (ds : List D) (ρ : DS) : compIn ws g t e (d :: ds) ρ = (cturn ws g t e d ρ).bind fun x => (compIn ws g t e ds x.2).bind fun r => .ok (match x.1 with
    | some y => y :: r.1
    | none => r.1, r.2) := by
  unfold cturn bindT
  show ((g d (kill ws ρ)).bind _) = _
  cases g d (kill ws ρ) with
  | ok ρ1 =>
    simp only [Out.bind_ok]
    cases t ρ1 with
    | ok x =>
      simp only [Out.bind_ok]
      obtain ⟨k, ρ2⟩ := x
      cases k with
      | false =>
        simp only [Out.bind_ok]
        cases compIn ws g t e ds (kill ws ρ2) <;> rfl
      | true =>
        simp only
        cases e ρ2 with
        | ok y =>
          simp only [Out.bind_ok]
          cases y.1.frz y.2 with
          | ok u =>
            simp only [Out.bind_ok]
          | exc => rfl
          | bad => rfl
        | exc => rfl
        | bad => rfl
    | exc => rfl
    | bad => rfl
  | exc => rfl
  | bad => rfl
theorem compIn_fm {β : Type} {ws : List Nat} {g : FG} {t : FT} {e : FE} {ρ : DS} (en : β → D) (f : β → Option D) : ∀ (xs : List β), (∀ x ∈ xs, cturn ws g t e (en x) ρ = .ok (f x, ρ)) → compIn ws g t e (xs.map en) ρ = .ok (xs.filterMap f, ρ)
  | [], _ => rfl
  | x :: xs, h => by
    rw [List.map_cons, compIn_turn, h x List.mem_cons_self]
    simp only [Out.bind_ok]
    rw [compIn_fm en f xs fun y hy => h y (List.mem_cons_of_mem _ hy)]
    simp only [Out.bind_ok, List.filterMap_cons]
    cases f x <;> rfl
/-- a comprehension whose turns leave the slots as they are -/
theorem nComp_fm {β : Type} {it : FI} {ws : List Nat} {g : FG} {t : FT} {e : FE} {ρ ρ' : DS} {ds : List D} (en : β → D) (f : β → Option D) (xs : List β) (hi : it ρ = .ok (ds, ρ')) (he : ds = xs.map en) (hl : xs.length ≤ 1000000) (hk : kill ws ρ' = ρ')
    (h : ∀ x ∈ xs, cturn ws g t e (en x) ρ' = .ok (f x, ρ')) : nComp it ws g t e ρ = .ok (.lst (xs.filterMap f), ρ') := by
  unfold nComp
  rw [hi]
  simp only [Out.bind_ok]
  rw [if_pos (by rw [he]; simpa using hl), he, hk, compIn_fm en f xs h]
  rfl
theorem filterMap_some {α β : Type} (f : α → β) : ∀ l : List α, l.filterMap (fun x => some (f x)) = l.map f
  | [] => rfl
  | x :: l => by simp [filterMap_some f l]
/-- .. all of them kept -/
theorem nComp_mp {β : Type} {it : FI} {ws : List Nat} {g : FG} {t : FT} {e : FE} {ρ ρ' : DS} {ds : List D} (en : β → D) (f : β → D) (xs : List β) (hi : it ρ = .ok (ds, ρ')) (he : ds = xs.map en) (hl : xs.length ≤ 1000000) (hk : kill ws ρ' = ρ')
    (h : ∀ x ∈ xs, cturn ws g t e (en x) ρ' = .ok (some (f x), ρ')) : nComp it ws g t e ρ = .ok (.lst (xs.map f), ρ') := by
  rw [← filterMap_some]
  exact nComp_fm en (fun x => some (f x)) xs hi he hl hk h
/-- a comprehension whose turns change the slots (draws): what each gives has P -/
theorem compIn_st {α β : Type} {ws : List Nat} {g : FG} {t : FT} {e : FE} (st : α → DS) (en : β → D) (P : D → Prop) (I : Nat → α → Prop) : ∀ (xs : List β) (k : Nat) (a : α), I k a →
    (∀ (j : Nat) (x : β) (a : α), x ∈ xs → I j a → j < k + xs.length → ∃ d a', cturn ws g t e (en x) (st a) = .ok (some d, st a') ∧ P d ∧ I (j + 1) a') →
    ∃ ds a', compIn ws g t e (xs.map en) (st a) = .ok (ds, st a') ∧ ds.length = xs.length ∧ (∀ d ∈ ds, P d) ∧ I (k + xs.length) a'
  | [], k, a, h0, _ => ⟨[], a, rfl, rfl, fun _ h => (nomatch h), h0⟩
  | x :: xs, k, a, h0, h => by
    obtain ⟨d, a1, e1, p1, i1⟩ := h k x a List.mem_cons_self h0 (by simp)
    obtain ⟨ds, a2, e2, l2, p2, i2⟩ := compIn_st st en P I xs (k + 1) a1 i1 fun j y c hy hi hj => h j y c (List.mem_cons_of_mem _ hy) hi (by simp only [List.length_cons]; omega)
    refine ⟨d :: ds, a2, ?_, by simp [l2], fun z hz => ?_, by simp only [List.length_cons]; rw [show k + (xs.length + 1) = k + 1 + xs.length by omega]; exact i2⟩
    · rw [List.map_cons, compIn_turn, e1]
      simp only [Out.bind_ok, e2]
    · rcases List.mem_cons.mp hz with q | q
      · rw [q]; exact p1
      · exact p2 z q
theorem nComp_st {α β : Type} {it : FI} {ws : List Nat} {g : FG} {t : FT} {e : FE} {ρ : DS} {ds : List D} (st : α → DS) (en : β → D) (P : D → Prop) (I : Nat → α → Prop) (xs : List β) (a : α) (hi : it ρ = .ok (ds, st a)) (he : ds = xs.map en) (hl : xs.length ≤ 1000000) (hk : kill ws (st a) = st a) (h0 : I 0 a)
    (h : ∀ (j : Nat) (x : β) (a : α), x ∈ xs → I j a → j < xs.length → ∃ d a', cturn ws g t e (en x) (st a) = .ok (some d, st a') ∧ P d ∧ I (j + 1) a') :
    ∃ ds a', nComp it ws g t e ρ = .ok (.lst ds, st a') ∧ ds.length = xs.length ∧ (∀ d ∈ ds, P d) ∧ I xs.length a' := by
  obtain ⟨out, a', e1, l1, p1, i1⟩ := compIn_st (ws := ws) (g := g) (t := t) (e := e) st en P I xs 0 a h0 fun j x c hx hi hj => h j x c hx hi (by omega)
  refine ⟨out, a', ?_, l1, p1, by simpa using i1⟩
  unfold nComp
  rw [hi]
  simp only [Out.bind_ok]
  rw [if_pos (by rw [he]; simpa using hl), he, hk, e1]
  rfl
/-! ### while -/
/-- the test's answer, then one turn of the body -/
theorem sWhile_t {t : FT} {b : FS} {ρ ρ1 ρ2 : DS} {n : Nat} (h1 : t ρ = .ok (true, ρ1)) (h2 : b ρ1 = .ok (.nx ρ2)) : sWhile t b (n + 1) ρ = sWhile t b n ρ2 := by
  show ((t ρ).bind _) = _
  rw [h1]
  show ((b ρ1).bind _) = _
  rw [h2]
  rfl
theorem sWhile_f {t : FT} {b : FS} {ρ ρ1 : DS} {n : Nat} (h1 : t ρ = .ok (false, ρ1)) : sWhile t b (n + 1) ρ = .ok (.nx ρ1) := by
  show ((t ρ).bind _) = _
  rw [h1]
  rfl
theorem sWhile_r {t : FT} {b : FS} {ρ ρ1 ρ2 : DS} {n : Nat} {d : D} (h1 : t ρ = .ok (true, ρ1)) (h2 : b ρ1 = .ok (.rt d ρ2)) : sWhile t b (n + 1) ρ = .ok (.rt d ρ2) := by
  show ((t ρ).bind _) = _
  rw [h1]
  show ((b ρ1).bind _) = _
  rw [h2]
  rfl
/-! ### ranges -/
theorem range_eq (lo : Int) (n : Nat) : rangeL lo n = (List.range n).map fun (k : Nat) => .int (lo + k) := rfl
theorem range0 (n : Nat) : rangeL 0 n = (List.range n).map fun (k : Nat) => .int k := by
  rw [range_eq]
  congr 1
  funext k
  simp
theorem range0' (n : Nat) : rangeL 0 (n : Int).toNat = (List.range n).map fun (k : Nat) => .int k := by rw [Int.toNat_natCast, range0]
theorem inI_nat {n : Nat} (h : n ≤ 1000000) : inI (n : Int) = true := by simp [inI]; omega
/-! ### dicts -/
theorem lookS_nil (k : D) : lookS [] k = none := rfl
theorem lookS_cons (p : D × D) (kvs : List (D × D)) (k : D) : lookS (p :: kvs) k = if p.1 = k then some p.2 else lookS kvs k := by
  unfold lookS
  rw [List.find?_cons]
  by_cases h : p.1 = k
  · simp [h]
  · simp [h]
theorem lookS_none {k : D} : ∀ {kvs : List (D × D)}, kvs.any (fun p => decide (p.1 = k)) = false → lookS kvs k = none
  | [], _ => rfl
  | p :: kvs, h => by
    rw [List.any_cons, Bool.or_eq_false_iff] at h
    rw [lookS_cons, if_neg (of_decide_eq_false h.1), lookS_none h.2]
theorem lookS_app (k : D) : ∀ (kvs more : List (D × D)), lookS (kvs ++ more) k = (lookS kvs k).or (lookS more k)
  | [], _ => rfl
  | p :: kvs, more => by
    rw [List.cons_append, lookS_cons, lookS_cons, lookS_app k kvs more]
    split <;> rfl
theorem lookS_map (k d k' : D) : ∀ kvs : List (D × D), lookS (kvs.map fun p => if p.1 = k then (p.1, d) else p) k' = if k = k' then (lookS kvs k).map fun _ => d else lookS kvs k'
  | [] => by simp [lookS_nil]
  | p :: kvs => by
    rw [List.map_cons, lookS_cons, lookS_cons, lookS_cons, lookS_map k d k' kvs]
    by_cases h1 : p.1 = k
    · by_cases h2 : k = k'
      · subst h2; simp [h1]
      · simp [h1, h2]
    · by_cases h2 : k = k'
      · subst h2; simp [h1]
      · simp [h1, h2]
theorem lookS_putS (kvs : List (D × D)) (k d k' : D) : lookS (putS kvs k d) k' = if k = k' then some d else lookS kvs k' := by
  unfold putS
  cases h : kvs.any fun p => decide (p.1 = k) with
  | true =>
    rw [if_pos rfl, lookS_map]
    have : ∃ v, lookS kvs k = some v := by
      induction kvs with
      | nil => cases h
      | cons p kvs ih =>
        rw [lookS_cons]
        by_cases h1 : p.1 = k
        · exact ⟨p.2, by simp [h1]⟩
        · rw [List.any_cons] at h
          simp only [h1, decide_false, Bool.false_or] at h
          rw [if_neg h1]; exact ih h
    obtain ⟨v, hv⟩ := this
    rw [hv]; rfl
  | false =>
    rw [if_neg (by simp), lookS_app, lookS_cons, lookS_nil]
    by_cases h2 : k = k'
    · subst h2; rw [lookS_none h]; simp
    · simp [h2]
theorem lookS_putAll (k : D) : ∀ (ps kvs : List (D × D)), lookS (putAll kvs ps) k = ps.foldl (fun o p => if p.1 = k then some p.2 else o) (lookS kvs k)
  | [], _ => rfl
  | p :: ps, kvs => by
    show lookS (putAll (putS kvs p.1 p.2) ps) k = _
    rw [lookS_putAll k ps, lookS_putS, List.foldl_cons]
theorem keys_putS {kvs : List (D × D)} {k d : D} (h : (kvs.all fun p => isKey p.1) = true) (hk : isKey k = true) : ((putS kvs k d).all fun p => isKey p.1) = true := by
  rw [List.all_eq_true] at h ⊢
  intro p hp
  unfold putS at hp
  split at hp
  · obtain ⟨q, hq, rfl⟩ := List.mem_map.mp hp
    have := h q hq
    split <;> exact this
  · rcases List.mem_append.mp hp with z | z
    · exact h p z
    · rw [List.mem_singleton] at z; rw [z]; exact hk
theorem keys_putAll : ∀ {ps kvs : List (D × D)}, (kvs.all fun p => isKey p.1) = true → (ps.all fun p => isKey p.1) = true → ((putAll kvs ps).all fun p => isKey p.1) = true
  | [], _, h, _ => h
  | p :: ps, kvs, h, h2 => by
    rw [List.all_cons, Bool.and_eq_true] at h2
    exact keys_putAll (ps := ps) (kvs := putS kvs p.1 p.2) (keys_putS h h2.1) h2.2
theorem getS_dct {kvs : List (D × D)} {k : D} (h1 : isKey k = true) (h2 : (kvs.all fun p => isKey p.1) = true) : getS (.dct kvs) k = .ok (lookS kvs k) := if_pos ⟨h1, h2⟩
/-! ### texts put together -/
theorem allOf_map {α β : Type} {f : D → Option β} {en : α → D} (g : α → β) (h : ∀ x, f (en x) = some (g x)) : ∀ l : List α, allOf f (l.map en) = some (l.map g)
  | [] => rfl
  | x :: l => by rw [List.map_cons, allOf, h, allOf_map g h l]; rfl
theorem joinL_nil : ∀ ss : List (List Nat), joinL [] ss = ss.flatten
  | [] => rfl
  | [s] => by simp [joinL]
  | s :: u :: ss => by
    have e : joinL [] (s :: u :: ss) = s ++ ([] ++ joinL [] (u :: ss)) := rfl
    rw [e, joinL_nil (u :: ss)]; simp
theorem gJoin_nil {α : Type} (f : α → List Nat) (l : List α) (h : (l.flatMap f).length ≤ 1000000) : gJoin (.str []) [.lst (l.map fun x => .str (f x))] = .ok (.str (l.flatMap f)) := by
  have e : (l.map f).flatten = l.flatMap f := by rw [List.flatMap_def]
  have e2 : ((l.map f).map List.length).sum = (l.flatMap f).length := by rw [← e, List.length_flatten]
  have e3 : allOf strOf (l.map fun x => D.str (f x)) = some (l.map f) := allOf_map f (fun x => rfl) l
  have e4 : ((l.map f).map List.length).sum + (l.map f).length * ([] : List Nat).length ≤ LIM := by rw [e2]; simpa using h
  show ((ofO (allOf strOf (l.map fun x => D.str (f x)))).bind _) = _
  rw [e3]
  show (if ((l.map f).map List.length).sum + (l.map f).length * ([] : List Nat).length ≤ LIM then Out.ok (D.str (joinL [] (l.map f))) else Out.bad) = _
  rw [if_pos e4, joinL_nil, e]
theorem repL_one (k c : Nat) : repL k [c] = List.replicate k c := by
  induction k with
  | zero => rfl
  | succ k ih =>
    show ([c] :: List.replicate k [c]).flatten = _
    rw [List.flatten_cons]
    show [c] ++ repL k [c] = _
    rw [ih]; rfl
theorem repL_len {α : Type} (k : Nat) (l : List α) : (repL k l).length = k * l.length := by
  unfold repL
  simp
theorem gJoin_two (a b : List Nat) (h : a.length + b.length ≤ 1000000) : gJoin (.str []) [.tup [.str a, .str b]] = .ok (.str (a ++ b)) := by
  have h1 : ([a, b].map List.length).sum + [a, b].length * ([] : List Nat).length ≤ LIM := by show a.length + (b.length + 0) + 2 * 0 ≤ 1000000; omega
  show ((if ([a, b].map List.length).sum + [a, b].length * ([] : List Nat).length ≤ LIM then Out.ok (D.str (joinL [] [a, b])) else Out.bad) : Out D) = _
  rw [if_pos h1, joinL_nil]
  simp
@[simp] theorem mExtend_l {ds es : List D} (h : ds.length + es.length ≤ 1000000) : mExtend (.lst ds) [.lst es] = .ok (.non, .lst (ds ++ es)) := if_pos h
theorem gMul_str {s : List Nat} {k : Nat} (h : s.length * k ≤ 1000000) (hk : k ≤ 1000000) : gMul (.str s) (.int k) = .ok (.str (repL k s)) := by
  have h1 : inW (k : Int) = true ∧ s.length * (k : Int).toNat ≤ LIM := ⟨by simp [inW]; omega, by simpa using h⟩
  unfold gMul
  simp only
  rw [if_pos h1, Int.toNat_natCast]
theorem gNotIn_lst {α : Type} (g : α → D) (l : List α) (x : D) (hx : x.plain = true) (hd : x.depth ≤ 60) (hl : ∀ u ∈ l, (g u).plain = true) : gNotIn x (.lst (l.map g)) = .ok (.bl !(l.any fun u => (g u).eqv x)) := by
  have h1 : D.plainL (l.map g) = true := by
    induction l with
    | nil => rfl
    | cons u l ih => rw [List.map_cons, D.plainL, hl u List.mem_cons_self, ih fun v hv => hl v (List.mem_cons_of_mem _ hv)]; rfl
  unfold gNotIn inS
  simp only
  rw [if_pos ⟨hx, h1, hd⟩, List.any_map]
  rfl
theorem gMul_ch {c k : Nat} (h : k ≤ 1000000) : gMul (.str [c]) (.int k) = .ok (.str (List.replicate k c)) := by
  have h1 : inW (k : Int) = true ∧ [c].length * (k : Int).toNat ≤ LIM := ⟨by simp [inW]; omega, by simp; omega⟩
  unfold gMul
  simp only
  rw [if_pos h1, Int.toNat_natCast, repL_one]
/-! ### slices -/
theorem take_drop_le (r : List Nat) (j k : Nat) (h : j ≤ k) : (r.take j).length + (r.drop k).length ≤ r.length := by simp; omega
theorem cutL_from {α : Type} (l : List α) (k : Nat) : cutL l (some (k : Int)) none = l.drop k := by
  unfold cutL cutIx
  have h1 : ¬ ((k : Int) < 0) := by omega
  simp only [h1, if_false, Int.toNat_natCast]
  rcases Nat.le_total k l.length with h | h
  · rw [Nat.min_eq_left h]
    exact List.take_of_length_le (by simp)
  · rw [Nat.min_eq_right h]
    simp [List.drop_eq_nil_of_le h]
theorem cutL_to {α : Type} (l : List α) (k : Nat) : cutL l none (some (k : Int)) = l.take k := by
  unfold cutL cutIx
  have h1 : ¬ ((k : Int) < 0) := by omega
  simp only [h1, if_false, List.drop_zero, Nat.sub_zero, Int.toNat_natCast]
  rcases Nat.le_total k l.length with h | h
  · rw [Nat.min_eq_left h]
  · rw [Nat.min_eq_right h, List.take_of_length_le (Nat.le_refl _), List.take_of_length_le h]
theorem cutL_ft {α : Type} (l : List α) (j k : Nat) : cutL l (some (j : Int)) (some (k : Int)) = (l.drop j).take (k - j) := by
  unfold cutL cutIx
  have h1 : ¬ ((k : Int) < 0) := by omega
  have h2 : ¬ ((j : Int) < 0) := by omega
  simp only [h1, h2, if_false, Int.toNat_natCast]
  rcases Nat.le_total j l.length with h | h
  · rw [Nat.min_eq_left h]
    rcases Nat.le_total k l.length with h' | h'
    · rw [Nat.min_eq_left h']
    · rw [Nat.min_eq_right h', List.take_of_length_le (by simp), List.take_of_length_le (by simp; omega)]
  · rw [Nat.min_eq_right h]
    simp [List.drop_eq_nil_of_le h]
theorem cutL_1 {α : Type} (l : List α) : cutL l (some 1) none = l.drop 1 := cutL_from l 1
theorem cutL_2 {α : Type} (l : List α) : cutL l none (some 2) = l.take 2 := cutL_to l 2
theorem cutL_from1 {α : Type} (l : List α) (k : Nat) : cutL l (some ((k : Int) + 1)) none = l.drop (k + 1) := cutL_from l (k + 1)
theorem cutL_to1 {α : Type} (l : List α) (k : Nat) : cutL l none (some ((k : Int) + 1)) = l.take (k + 1) := cutL_to l (k + 1)
/-! ### loops by number -/
theorem forIn_rng' {g : FG} {b : FS} (st : Nat → DS) : ∀ (m k : Nat), (∀ j, k ≤ j → j < k + m → turn g b (.int j) (st j) = .ok (.nx (st (j + 1)))) → forIn g b ((List.range' k m).map fun (j : Nat) => .int j) (st k) = .ok (.nx (st (k + m)))
  | 0, _, _ => rfl
  | m + 1, k, h => by
    rw [List.range'_succ, List.map_cons, forIn_turn, h k (Nat.le_refl _) (by omega)]
    have ih := forIn_rng' st m (k + 1) fun j h1 h2 => h j (by omega) (by omega)
    have e : k + 1 + m = k + (m + 1) := by omega
    rw [e] at ih
    exact ih
/-- for k in range(n) -/
theorem forIn_rng {g : FG} {b : FS} (st : Nat → DS) (n : Nat) (h : ∀ k, k < n → turn g b (.int k) (st k) = .ok (.nx (st (k + 1)))) : forIn g b (rangeL 0 n) (st 0) = .ok (.nx (st n)) := by
  rw [range0, List.range_eq_range']
  have z := forIn_rng' st n 0 fun j _ h2 => h j (by omega)
  rw [Nat.zero_add] at z
  exact z
theorem forIn_enum' {α : Type} {g : FG} {b : FS} (st : Nat → DS) (en : α → D) : ∀ (xs : List α) (k : Nat), (∀ (j : Nat) (x : α), xs[j]? = some x → turn g b (.tup [.int (k + j : Nat), en x]) (st (k + j)) = .ok (.nx (st (k + j + 1)))) → forIn g b (numbered k (xs.map en)) (st k) = .ok (.nx (st (k + xs.length)))
  | [], _, _ => rfl
  | x :: xs, k, h => by
    rw [List.map_cons, numbered, forIn_turn]
    have h0 := h 0 x rfl
    rw [Nat.add_zero] at h0
    rw [h0]
    have ih := forIn_enum' st en xs (k + 1) fun j y hj => by
      have z := h (j + 1) y (by simpa using hj)
      have e : k + (j + 1) = k + 1 + j := by omega
      rw [e] at z
      exact z
    have e : k + 1 + xs.length = k + (x :: xs).length := by simp only [List.length_cons]; omega
    rw [e] at ih
    exact ih
/-- for k, x in enumerate(xs) -/
theorem forIn_enum {α : Type} {g : FG} {b : FS} (st : Nat → DS) (en : α → D) (xs : List α) (h : ∀ (k : Nat) (x : α), xs[k]? = some x → turn g b (.tup [.int k, en x]) (st k) = .ok (.nx (st (k + 1)))) : forIn g b (numbered 0 (xs.map en)) (st 0) = .ok (.nx (st xs.length)) := by
  have z := forIn_enum' st en xs 0 fun j x hj => by
    rw [Nat.zero_add]
    exact h j x hj
  rw [Nat.zero_add] at z
  exact z
/-- for x in xs, by number -/
theorem forIn_num {α : Type} {g : FG} {b : FS} (st : Nat → DS) (en : α → D) (xs : List α) (h : ∀ (k : Nat) (x : α), xs[k]? = some x → turn g b (en x) (st k) = .ok (.nx (st (k + 1)))) : forIn g b (xs.map en) (st 0) = .ok (.nx (st xs.length)) := by
  have gen : ∀ (ys : List α) (k : Nat), (∀ (j : Nat) (x : α), ys[j]? = some x → turn g b (en x) (st (k + j)) = .ok (.nx (st (k + j + 1)))) → forIn g b (ys.map en) (st k) = .ok (.nx (st (k + ys.length))) := by
    intro ys
    induction ys with
    | nil => intro k _; rfl
    | cons x ys ih =>
      intro k h
      rw [List.map_cons, forIn_turn]
      have h0 := h 0 x rfl
      rw [Nat.add_zero] at h0
      rw [h0]
      have z := ih (k + 1) fun j y hj => by
        have z := h (j + 1) y (by simpa using hj)
        have e : k + (j + 1) = k + 1 + j := by omega
        rw [e] at z
        exact z
      have e : k + 1 + ys.length = k + (x :: ys).length := by simp only [List.length_cons]; omega
      rw [e] at z
      exact z
  have z := gen xs 0 fun j x hj => by rw [Nat.zero_add]; exact h j x hj
  rw [Nat.zero_add] at z
  exact z
theorem bf {α : Type} [BEq α] [LawfulBEq α] {a b : α} (h : ¬ a = b) : (a == b) = false := beq_eq_false_iff_ne.mpr h
/-! ### plain data -/
theorem plainL_of : ∀ {ds : List D}, (∀ d ∈ ds, d.plain = true) → D.plainL ds = true
  | [], _ => rfl
  | d :: ds, h => by rw [D.plainL, h d List.mem_cons_self, plainL_of fun x hx => h x (List.mem_cons_of_mem _ hx)]; rfl
theorem plainL_get : ∀ {ds : List D} {d : D}, D.plainL ds = true → d ∈ ds → d.plain = true
  | e :: ds, d, h, hd => by
    rw [D.plainL, Bool.and_eq_true] at h
    rcases List.mem_cons.mp hd with q | q
    · rw [q]; exact h.1
    · exact plainL_get h.2 q
theorem depthL_of {n : Nat} : ∀ {ds : List D}, (∀ d ∈ ds, d.depth ≤ n) → D.depthL ds ≤ n
  | [], _ => Nat.zero_le _
  | d :: ds, h => by rw [D.depthL]; exact Nat.max_le.mpr ⟨h d List.mem_cons_self, depthL_of fun x hx => h x (List.mem_cons_of_mem _ hx)⟩
/-- plain and not deep -/
def _root_.Den.D.good (n : Nat) (d : D) : Prop := d.plain = true ∧ d.depth ≤ n
theorem _root_.Den.D.good.mono {n m : Nat} {d : D} (h : d.good n) (l : n ≤ m) : d.good m := ⟨h.1, Nat.le_trans h.2 l⟩
theorem good_int (i : Int) : (D.int i).good 0 := ⟨rfl, Nat.le_refl _⟩
theorem good_str (i : List Nat) : (D.str i).good 0 := ⟨rfl, Nat.le_refl _⟩
theorem good_bl (i : Bool) : (D.bl i).good 0 := ⟨rfl, Nat.le_refl _⟩
theorem good_non : D.non.good 0 := ⟨rfl, Nat.le_refl _⟩
theorem good_lst {n : Nat} {ds : List D} (h : ∀ d ∈ ds, d.good n) : (D.lst ds).good (n + 1) := ⟨plainL_of fun d hd => (h d hd).1, Nat.succ_le_succ (depthL_of fun d hd => (h d hd).2)⟩
theorem good_tup {n : Nat} {ds : List D} (h : ∀ d ∈ ds, d.good n) : (D.tup ds).good (n + 1) := ⟨plainL_of fun d hd => (h d hd).1, Nat.succ_le_succ (depthL_of fun d hd => (h d hd).2)⟩
theorem gNe_good {d : D} (h : d.good 60) : gNe d d = .ok (.bl false) := gNe_self h.1 h.2
theorem gEq_good {d : D} (h : d.good 60) : gEq d d = .ok (.bl true) := gEq_self h.1 h.2
/-! ### dicts by tuples -/
section
variable (ρ : DS) (i : Nat) (a k x v : FE) (kvs : List (D × D)) (d : D)
@[simp] theorem asN_dcn : asN (.dcn kvs) = .ok kvs := id rfl
@[simp] theorem fNGet2_ap : fNGet2 a k x ρ = bindT (a ρ) (fun u => bindT (u.1.get u.2) (fun d0 => bindT (asN d0) (fun _ => bindT (k u.2) (fun v => bindT (fKeep x v.2) (fun z => bindT (u.1.get z.2) (fun d => bindT (asN d) (fun kvs => bindT (v.1.get z.2) (fun y => if y.keyOk = true then .ok (.fz ((lookS kvs y).getD z.1), z.2) else .bad) ⟨()⟩) ⟨()⟩) ⟨()⟩) ⟨()⟩) ⟨()⟩) ⟨()⟩) ⟨()⟩) ⟨()⟩ := id rfl
@[simp] theorem sPutN_ap : sPutN i k v ρ = bindT (fKeep v ρ) (fun x => bindT (cont x.2 i) (fun _ => bindT (fKeep k x.2) (fun y => match y.2[i]? with
  | some (some (.ow (.dcn kvs))) => if y.1.keyOk = true ∧ kvs.length < LIM then .ok (.nx (y.2.set i (some (.ow (.dcn (putS kvs y.1 x.1)))))) else .bad
  | _ => .bad) ⟨()⟩) ⟨()⟩) ⟨()⟩ := id rfl
@[simp] theorem iEnumZip_ap (b : FE) : iEnumZip a b ρ = bindT (fKeep a ρ) (fun x => bindT (fKeep b x.2) (fun y => bindT (itemsOf x.1) (fun ds => bindT (itemsOf y.1) (fun es => .ok (numbered 0 ((ds.zip es).map fun p => .tup [p.1, p.2]), y.2)) ⟨()⟩) ⟨()⟩) ⟨()⟩) ⟨()⟩ := id rfl
@[simp] theorem sPutL_ap : sPutL i k v ρ = bindT (fKeep v ρ) (fun x => bindT (cont x.2 i) (fun _ => bindT (fKeep k x.2) (fun y => match y.2[i]? with
  | some (some (.ow (.lst ds))) => match y.1 with
    | .int j => match ixL ds.length j with
      | some n => .ok (.nx (y.2.set i (some (.ow (.lst (ds.set n x.1))))))
      | none => .bad
    | _ => .bad
  | _ => .bad) ⟨()⟩) ⟨()⟩) ⟨()⟩ := id rfl
@[simp] theorem fSetd_ap : fSetd i k v ρ = match ρ[i]? with
  | some (some (.ow (.dcn _))) => bindT (fKeep k ρ) (fun y => bindT (fKeep v y.2) (fun x => match x.2[i]? with
    | some (some (.ow (.dcn kvs))) => if y.1.keyOk = true ∧ kvs.length < LIM then (match lookS kvs y.1 with
      | some d => .ok (.fz d, x.2)
      | none => .ok (.fz x.1, x.2.set i (some (.ow (.dcn (putS kvs y.1 x.1)))))) else .bad
    | _ => .bad) ⟨()⟩) ⟨()⟩
  | _ => .bad := id rfl
@[simp] theorem nDictN0_ap : nDictN0 ρ = .ok (.dcn [], ρ) := id rfl
@[simp] theorem nDictN1_ap : nDictN1 k v ρ = bindT (fKeep k ρ) (fun y => bindT (fKeep v y.2) (fun x => if y.1.keyOk = true then .ok (.dcn [(y.1, x.1)], x.2) else .bad) ⟨()⟩) ⟨()⟩ := id rfl
@[simp] theorem iKeysD_ap : iKeysD a ρ = bindT (fKeep a ρ) (fun x => match x.1 with
  | .dcn kvs => .ok (kvs.map fun p => p.1, x.2)
  | _ => .bad) ⟨()⟩ := id rfl
@[simp] theorem iValsD_ap : iValsD a ρ = bindT (fKeep a ρ) (fun x => match x.1 with
  | .dcn kvs => .ok (kvs.map fun p => p.2, x.2)
  | _ => .bad) ⟨()⟩ := id rfl
@[simp] theorem iItemsD_ap : iItemsD a ρ = bindT (fKeep a ρ) (fun x => match x.1 with
  | .dcn kvs => if (kvs.all fun p => !(isPairs [p.1, p.2])) = true then .ok (kvs.map fun p => .tup [p.1, p.2], x.2) else .bad
  | _ => .bad) ⟨()⟩ := id rfl
theorem dGet_dcn (h : d.keyOk = true) : dGet (.dcn kvs) d = .ok (lookS kvs d) := if_pos h
theorem dGet_dct (h : isKey d = true) (h2 : (kvs.all fun p => isKey p.1) = true) : dGet (.dct kvs) d = .ok (lookS kvs d) := if_pos ⟨h, h2⟩
theorem gIxD_dcn (h : d.keyOk = true) : gIxD (.dcn kvs) d = ofO (lookS kvs d) := by unfold gIxD; rw [dGet_dcn _ _ h]; rfl
theorem gInD_dcn (h : d.keyOk = true) : gInD d (.dcn kvs) = .ok (.bl (lookS kvs d).isSome) := by unfold gInD; rw [dGet_dcn _ _ h]; rfl
theorem gNotInD_dcn (h : d.keyOk = true) : gNotInD d (.dcn kvs) = .ok (.bl !(lookS kvs d).isSome) := by unfold gNotInD; rw [dGet_dcn _ _ h]; rfl
theorem gIxD_dct (h : isKey d = true) (h2 : (kvs.all fun p => isKey p.1) = true) : gIxD (.dct kvs) d = ofO (lookS kvs d) := by unfold gIxD; rw [dGet_dct _ _ h h2]; rfl
end
/-! ### len(set(x)) -/
theorem insU_len_le {α : Type} {lt : α → α → Bool} (x : α) : ∀ l : List α, (insU lt x l).length ≤ l.length + 1
  | [] => by simp [insU]
  | y :: l => by
    unfold insU
    split
    · simp
    · split
      · have := insU_len_le (lt := lt) x l; simp only [List.length_cons]; omega
      · simp
theorem insU_len {α : Type} {lt : α → α → Bool} (o : Tot lt) (x : α) : ∀ {l : List α}, l.Pairwise (fun a b => lt a b = true) → ((insU lt x l).length = l.length + 1 ↔ x ∉ l)
  | [], _ => by simp [insU]
  | y :: l, h => by
    obtain ⟨h1, h2⟩ := List.pairwise_cons.mp h
    unfold insU
    by_cases q1 : lt x y = true
    · rw [if_pos q1]
      simp only [List.length_cons, List.mem_cons, not_or, true_iff]
      refine ⟨fun e => ?_, fun hx => ?_⟩
      · rw [e, o.irr] at q1; cases q1
      · have := o.tr _ _ _ q1 (h1 x hx)
        rw [o.irr] at this; cases this
    · rw [if_neg q1]
      by_cases q2 : lt y x = true
      · rw [if_pos q2]
        have ih := insU_len o x h2
        have hn : ¬ x = y := fun e => by rw [e, o.irr] at q2; cases q2
        simp only [List.length_cons, List.mem_cons, hn, false_or]
        constructor
        · intro e; exact ih.mp (by omega)
        · intro e; have := ih.mpr e; omega
      · rw [if_neg q2]
        have e : x = y := o.tot x y (by simpa using q1) (by simpa using q2)
        simp [e]
theorem sortU_len_le {α : Type} {lt : α → α → Bool} : ∀ l : List α, (sortU lt l).length ≤ l.length
  | [] => Nat.le_refl _
  | x :: l => by
    have := sortU_len_le (lt := lt) l
    have := insU_len_le (lt := lt) x (sortU lt l)
    simp only [sortU, List.length_cons]
    omega
theorem sortU_nodup {α : Type} {lt : α → α → Bool} (o : Tot lt) : ∀ l : List α, (sortU lt l).length = l.length ↔ l.Nodup
  | [] => by simp [sortU]
  | x :: l => by
    have ih := sortU_nodup o l
    have h1 := sortU_len_le (lt := lt) l
    have h2 := insU_len_le (lt := lt) x (sortU lt l)
    have h3 := insU_len o x (sortU_pw o l)
    rw [mem_sortU o] at h3
    rw [List.nodup_cons, sortU, List.length_cons]
    constructor
    · intro e
      exact ⟨h3.mp (by omega), ih.mp (by omega)⟩
    · rintro ⟨q1, q2⟩
      have := h3.mpr q1
      have := ih.mpr q2
      omega
theorem nodup_ones {a : List Nat} : (a.map fun c => [c]).Nodup ↔ a.Nodup := by
  constructor
  · intro h
    exact List.Pairwise.imp (fun {x y} (h : [x] ≠ [y]) (e : x = y) => h (by rw [e])) (List.pairwise_map.mp h)
  · exact fun h => List.Pairwise.map _ (fun x y n e => n (by injection e)) h
/-- len(set(x)) of signs -/
theorem lenSet_chs (l : List Nat) (h : l.length ≤ 4000) : ∃ m : Nat, gLenSet (.lst (l.map fun c => .str [c])) = .ok (.int m) ∧ (m = l.length ↔ l.Nodup) := by
  cases l with
  | nil => exact ⟨0, rfl, by simp⟩
  | cons c l =>
    refine ⟨(sortU ltS ((c :: l).map fun c => [c])).length, ?_, ?_⟩
    · have e1 : setI (.lst ((c :: l).map fun c => D.str [c])) = none := rfl
      have e2 : setS (.lst ((c :: l).map fun c => D.str [c])) = some ((c :: l).map fun c => [c]) := allOf_map (f := strOf) (en := fun c => D.str [c]) (fun c => [c]) (fun _ => rfl) (c :: l)
      unfold gLenSet
      rw [e1, e2]
      simp only
      rw [if_pos (by simpa using h)]
    · have z := sortU_nodup totS ((c :: l).map fun c => [c])
      rw [List.length_map] at z
      rw [z, nodup_ones]
/-- .. whose state goes on by number -/
theorem compIn_ix {β : Type} {ws : List Nat} {g : FG} {t : FT} {e : FE} (st : Nat → DS) (en : β → D) (f : Nat → β → D) : ∀ (xs : List β) (k : Nat), (∀ (j : Nat) (x : β), xs[j]? = some x → cturn ws g t e (en x) (st (k + j)) = .ok (some (f (k + j) x), st (k + j + 1))) →
    compIn ws g t e (xs.map en) (st k) = .ok ((xs.zipIdx k).map fun p => f p.2 p.1, st (k + xs.length))
  | [], _, _ => rfl
  | x :: xs, k, h => by
    have h0 := h 0 x rfl
    rw [Nat.add_zero] at h0
    have ih := compIn_ix st en f xs (k + 1) fun j y hy => by
      have := h (j + 1) y (by simpa using hy)
      rw [show k + 1 + j = k + (j + 1) by omega]
      exact this
    rw [List.map_cons, compIn_turn, h0]
    simp only [Out.bind_ok, ih]
    rw [List.zipIdx_cons, List.map_cons, List.length_cons, show k + 1 + xs.length = k + (xs.length + 1) by omega]
theorem nComp_ix {β : Type} {it : FI} {ws : List Nat} {g : FG} {t : FT} {e : FE} {ρ : DS} {ds : List D} (st : Nat → DS) (en : β → D) (f : Nat → β → D) (xs : List β) (hi : it ρ = .ok (ds, st 0)) (he : ds = xs.map en) (hl : xs.length ≤ 1000000) (hk : kill ws (st 0) = st 0)
    (h : ∀ (j : Nat) (x : β), xs[j]? = some x → cturn ws g t e (en x) (st j) = .ok (some (f j x), st (j + 1))) : nComp it ws g t e ρ = .ok (.lst ((xs.zipIdx).map fun p => f p.2 p.1), st xs.length) := by
  have e1 := compIn_ix (ws := ws) (g := g) (t := t) (e := e) st en f xs 0 fun j x hx => by rw [Nat.zero_add]; exact h j x hx
  rw [Nat.zero_add] at e1
  unfold nComp
  rw [hi]
  simp only [Out.bind_ok]
  rw [if_pos (by rw [he]; simpa using hl), he, hk, e1]
  rfl
/-! ### sorted(set(numbers)) -/
theorem allOf_int (l : List Int) : allOf intOf (l.map D.int) = some l := by
  have := allOf_map (f := intOf) (en := D.int) (fun x => x) (fun x => rfl) l
  simpa using this
theorem sortN (xs : List Nat) (hl : xs.length ≤ 60) : ∃ ys : List Nat, sortSet (.lst (xs.map fun (x : Nat) => D.int x)) = .ok (.lst (ys.map fun (x : Nat) => D.int x)) ∧ ys.Pairwise (· < ·) ∧ (∀ y ∈ ys, y ∈ xs) ∧ ys.length ≤ xs.length := by
  have e1 : setI (.lst (xs.map fun (x : Nat) => D.int x)) = some (xs.map fun (x : Nat) => (x : Int)) := by
    show allOf intOf _ = _
    rw [show (xs.map fun (x : Nat) => D.int x) = (xs.map fun (x : Nat) => (x : Int)).map D.int by rw [List.map_map]; rfl]
    exact allOf_int _
  have hz : ∀ z ∈ sortU ltI (xs.map fun (x : Nat) => (x : Int)), ∃ x ∈ xs, z = (x : Int) := fun z hz => by
    rw [mem_sortU totI] at hz
    obtain ⟨x, hx, e⟩ := List.mem_map.mp hz
    exact ⟨x, hx, e.symm⟩
  have hlen : (sortU ltI (xs.map fun (x : Nat) => (x : Int))).length ≤ xs.length := by
    have := sortU_len_le (lt := ltI) (xs.map fun (x : Nat) => (x : Int))
    simpa using this
  have hpw := sortU_pw totI (xs.map fun (x : Nat) => (x : Int))
  have e2 : sortSet (.lst (xs.map fun (x : Nat) => D.int x)) = .ok (.lst ((sortU ltI (xs.map fun (x : Nat) => (x : Int))).map .int)) := by
    unfold sortSet
    rw [e1]
    simp only
    rw [if_pos ⟨by simp; omega, by omega⟩]
  generalize sortU ltI (xs.map fun (x : Nat) => (x : Int)) = zs at hz hlen hpw e2
  have e3 : zs = (zs.map Int.toNat).map fun (x : Nat) => (x : Int) := by
    rw [List.map_map]
    conv => lhs; rw [← List.map_id zs]
    refine List.map_congr_left fun z h => ?_
    obtain ⟨x, _, e⟩ := hz z h
    simp [e]
  refine ⟨zs.map Int.toNat, ?_, ?_, fun y hy => ?_, by simpa using hlen⟩
  · rw [e2]
    congr 2
    conv => lhs; rw [e3]
    rw [List.map_map]
    rfl
  · rw [List.pairwise_map]
    refine hpw.imp_of_mem fun {u v} hu hv h => ?_
    obtain ⟨x, _, e⟩ := hz u hu
    obtain ⟨y, _, e'⟩ := hz v hv
    subst e e'
    simp [ltI] at h ⊢
    omega
  · obtain ⟨z, h1, h2⟩ := List.mem_map.mp hy
    obtain ⟨x, h3, e⟩ := hz z h1
    rw [← h2, e]
    simpa using h3
theorem ints_of {ds : List D} {P : Nat → Prop} : (∀ d ∈ ds, ∃ x : Nat, P x ∧ d = D.int x) → ∃ xs : List Nat, ds = xs.map (fun (x : Nat) => D.int x) ∧ ∀ x ∈ xs, P x := by
  induction ds with
  | nil => exact fun _ => ⟨[], rfl, fun _ h => nomatch h⟩
  | cons d ds ih =>
    intro h
    obtain ⟨xs, h1, h2⟩ := ih fun d hd => h d (List.mem_cons_of_mem _ hd)
    obtain ⟨x, h3, h4⟩ := h d List.mem_cons_self
    exact ⟨x :: xs, by rw [h1, h4]; rfl, fun y hy => by rcases List.mem_cons.mp hy with e | e; · rw [e]; exact h3
                                                        · exact h2 y e⟩
/-! ### errors caught; what the kernel works out -/
@[simp] theorem gIs_nn : gIs .non .non = .ok (.bl true) := by first | rfl | simp [gIs]
@[simp] theorem gIs_bl (a b : Bool) : gIs (.bl a) (.bl b) = .ok (.bl (decide (a = b))) := rfl
@[simp] theorem gIs_tup (ds : List D) : gIs (.tup ds) .non = .ok (.bl false) := rfl
@[simp] theorem gIs_str (l : List Nat) : gIs (.str l) .non = .ok (.bl false) := rfl
@[simp] theorem gIsNot_tup (ds : List D) : gIsNot (.tup ds) .non = .ok (.bl true) := rfl
@[simp] theorem gIsNot_str (l : List Nat) : gIsNot (.str l) .non = .ok (.bl true) := rfl
@[simp] theorem gIsNot_non : gIsNot .non .non = .ok (.bl false) := rfl
@[simp] theorem gIsX_exn {g : Err → Bool} {e : Err} : gIsX g (.exn e) = .ok (.bl (g e)) := id rfl
def isO (d : D) : Out D → Bool
  | .ok e => d.same e
  | _ => false
theorem isO_ok {d : D} {x : Out D} (h : isO d x = true) : x = .ok d := by
  cases x with
  | ok e => rw [D.eq_of_same d e h]
  | exc e => cases h
  | bad => cases h
def isXO (e : Err) : Out D → Bool
  | .exc e' => decide (e = e')
  | _ => false
theorem isXO_ok {e : Err} {x : Out D} (h : isXO e x = true) : x = .exc e := by
  cases x with
  | exc e' => rw [of_decide_eq_true h]
  | ok d => cases h
  | bad => cases h
theorem sTryW_ok {k : Err → Bool} {b : FS} {h : Err → Out D} {ρ : DS} {z : Fl} (e : b ρ = .ok z) : sTryW k b h ρ = .ok z := by unfold sTryW; rw [e]
theorem sTryW_exc {k : Err → Bool} {b : FS} {h : Err → Out D} {ρ : DS} {e : Err} {d : D} (h1 : b ρ = .exc e) (h2 : k e = true) (h3 : h e = .ok d) (h4 : d.noX = true) : sTryW k b h ρ = .ok (.rt d (ρ.map fun _ => none)) := by
  unfold sTryW; rw [h1]; simp only [h2, h3, h4, if_true]
theorem rgD_nat {m : Nat} (h : m ≤ 1000000) : rgD (.int m) = .ok (.lst ((List.range m).map fun (k : Nat) => D.int k)) := by
  have h2 : (m : Int).toNat ≤ LIM := by rw [Int.toNat_natCast]; exact h
  rw [rgD_int ⟨inI_nat h, h2⟩, range0']
@[simp] theorem atI_4 {α : Type} (xs : List α) : atI xs 4 = xs[4]? := atI_nat xs 4
@[simp] theorem atI_5 {α : Type} (xs : List α) : atI xs 5 = xs[5]? := atI_nat xs 5
@[simp] theorem atI_6 {α : Type} (xs : List α) : atI xs 6 = xs[6]? := atI_nat xs 6
@[simp] theorem atI_7 {α : Type} (xs : List α) : atI xs 7 = xs[7]? := atI_nat xs 7
@[simp] theorem atI_8 {α : Type} (xs : List α) : atI xs 8 = xs[8]? := atI_nat xs 8
@[simp] theorem atI_9 {α : Type} (xs : List α) : atI xs 9 = xs[9]? := atI_nat xs 9
@[simp] theorem atI_10 {α : Type} (xs : List α) : atI xs 10 = xs[10]? := atI_nat xs 10
@[simp] theorem atI_11 {α : Type} (xs : List α) : atI xs 11 = xs[11]? := atI_nat xs 11
@[simp] theorem atI_12 {α : Type} (xs : List α) : atI xs 12 = xs[12]? := atI_nat xs 12
@[simp] theorem atI_13 {α : Type} (xs : List α) : atI xs 13 = xs[13]? := atI_nat xs 13
@[simp] theorem atI_14 {α : Type} (xs : List α) : atI xs 14 = xs[14]? := atI_nat xs 14
@[simp] theorem atI_15 {α : Type} (xs : List α) : atI xs 15 = xs[15]? := atI_nat xs 15
@[simp] theorem atI_16 {α : Type} (xs : List α) : atI xs 16 = xs[16]? := atI_nat xs 16
@[simp] theorem atI_17 {α : Type} (xs : List α) : atI xs 17 = xs[17]? := atI_nat xs 17
@[simp] theorem atI_18 {α : Type} (xs : List α) : atI xs 18 = xs[18]? := atI_nat xs 18
@[simp] theorem atI_19 {α : Type} (xs : List α) : atI xs 19 = xs[19]? := atI_nat xs 19
end DenL

/-! Den1: what data stands for what values; slots; the judgements. -/
namespace Den
open PySem L2

/-- where the program's own errors stand; the error that is handled just now, its place -/
structure Cls where
  at_ : Err → Addr
  hx : Option (Addr × Err) := none
instance : CoeFun Cls fun _ => Err → Addr := ⟨Cls.at_⟩
mutual
/-- the key that data is -/
def nest : D → NestedKey
  | .int i => .num i
  | .str l => .text ⟨l.toArray⟩
  | .tup ds => .tup (nestL ds)
  | _ => .none
def nestL : List D → List NestedKey
  | [] => []
  | d :: ds => nest d :: nestL ds
end
/-- a dict at a whose keys are tuples, by its entries -/
def DN (P : Program) (w : World) (a : Addr) (xs : List (NestedKey × Addr × Value)) : HO :=
  .ext fun h => (a == sysModules) = false ∧ xs.length ≤ sizeLine ∧ ∃ o es ep, h.get? a = some o ∧ o.ExactDict ∧ o.data = .dict es ep ∧ es.toList = xs.map (entryOfKey (nestedKind P w)) ∧ (xs.map (·.1)).Nodup

/-- what a reading leans on -/
structure Par where
  P : Program
  w : World
  K : PySem.W.Frag
  cl : Cls

/-- no dict of its own hangs on the object at a -/
def NoD (I : Hp) (a : Addr) : Prop := ∃ o u, I a = some (.frz o u) ∧ o.dict = none
theorem NoD.mono {I I' : Hp} {a : Addr} (s : Same I I') (h : NoD I a) : NoD I' a := let ⟨o, u, e, d⟩ := h; ⟨o, u, s _ _ e, d⟩
mutual
/-- the value v is the data d, by the objects of I, which stay as they are -/
def Rep (p : Par) (I : Hp) : D → V → Prop
  | .non, v => v = .non
  | .bl b, v => v = .bl b
  | .int i, v => v = .int i
  | .str s, v => v = .str ⟨s.toArray⟩ ∧ ∀ c ∈ s, c < 0x110000
  | .tup ds, v => ∃ a vs, v = .ref a ∧ SqT p.K I a vs ∧ RepL p I ds vs ∧ (isPairs ds = true → NoD I a)
  | .lst ds, v => ∃ a vs, v = .ref a ∧ I a = some (.lst vs) ∧ RepL p I ds vs
  | .dct kvs, v => ∃ a o ws, v = .ref a ∧ I a = some (.frz o (.dK ws)) ∧ RepP p I kvs ws
  | .dcn kvs, v => ∃ a o xs, v = .ref a ∧ I a = some (.frz o (DN p.P p.w a xs)) ∧ RepN p I kvs xs
  | .exn e, v => ∃ a, v = .ref a ∧ p.cl.hx = some (a, e)
  | .scr ns, v => ∃ a, v = .ref a ∧ SqL p.K I a (ns.map V.int)
def RepL (p : Par) (I : Hp) : List D → List V → Prop
  | [], vs => vs = []
  | d :: ds, vs => ∃ v vr, vs = v :: vr ∧ Rep p I d v ∧ RepL p I ds vr
def RepP (p : Par) (I : Hp) : List (D × D) → List (Key × V) → Prop
  | [], ws => ws = []
  | (k, d) :: kvs, ws => ∃ kk v wr, ws = (kk, v) :: wr ∧ Rep p I k (kV kk) ∧ Rep p I d v ∧ RepP p I kvs wr
def RepN (p : Par) (I : Hp) : List (D × D) → List (NestedKey × Addr × Value) → Prop
  | [], xs => xs = []
  | (k, d) :: kvs, xs => ∃ a u v xr, xs = (nest k, a, u) :: xr ∧ k.keyOk = true ∧ Rep p I k (.ref a) ∧ RelV v u ∧ Rep p I d v ∧ RepN p I kvs xr
end

theorem sqt_mono {K : PySem.W.Frag} {H H' : Hp} {a : Addr} {xs : List V} (e : Same H H') (h : SqT K H a xs) : SqT K H' a xs := by
  rcases h with (h | ⟨o, h⟩) | h
  · exact .inl (.inl (e _ _ h))
  · exact .inl (.inr ⟨o, e _ _ h⟩)
  · exact .inr h
mutual
theorem Rep.mono {p : Par} {I I' : Hp} (s : Same I I') : ∀ {d : D} {v : V}, Rep p I d v → Rep p I' d v
  | .non, _, h => h
  | .bl _, _, h => h
  | .int _, _, h => h
  | .str _, _, h => h
  | .tup ds, _, ⟨a, vs, e, q, r, n⟩ => ⟨a, vs, e, sqt_mono s q, RepL.mono s r, fun z => (n z).mono s⟩
  | .lst ds, _, ⟨a, vs, e, q, r⟩ => ⟨a, vs, e, s _ _ q, RepL.mono s r⟩
  | .dct _, _, ⟨a, o, ws, e, q, r⟩ => ⟨a, o, ws, e, s _ _ q, RepP.mono s r⟩
  | .dcn _, _, ⟨a, o, ws, e, q, r⟩ => ⟨a, o, ws, e, s _ _ q, RepN.mono s r⟩
  | .exn _, _, h => h
  | .scr _, _, ⟨a, e, q⟩ => ⟨a, e, Same.seq s q⟩
theorem RepL.mono {p : Par} {I I' : Hp} (s : Same I I') : ∀ {ds : List D} {vs : List V}, RepL p I ds vs → RepL p I' ds vs
  | [], _, h => h
  | _ :: _, _, ⟨v, vr, e, h, t⟩ => ⟨v, vr, e, Rep.mono s h, RepL.mono s t⟩
theorem RepP.mono {p : Par} {I I' : Hp} (s : Same I I') : ∀ {ds : List (D × D)} {ws : List (Key × V)}, RepP p I ds ws → RepP p I' ds ws
  | [], _, h => h
  | (_, _) :: _, _, ⟨kk, v, wr, e, k, h, t⟩ => ⟨kk, v, wr, e, Rep.mono s k, Rep.mono s h, RepP.mono s t⟩
theorem RepN.mono {p : Par} {I I' : Hp} (s : Same I I') : ∀ {ds : List (D × D)} {xs : List (NestedKey × Addr × Value)}, RepN p I ds xs → RepN p I' ds xs
  | [], _, h => h
  | (_, _) :: _, _, ⟨a, u, v, xr, e, ok, k, r, h, t⟩ => ⟨a, u, v, xr, e, ok, Rep.mono s k, r, Rep.mono s h, RepN.mono s t⟩
end
theorem RepL.length {p : Par} {I : Hp} : ∀ {ds : List D} {vs : List V}, RepL p I ds vs → ds.length = vs.length
  | [], _, h => by cases h; rfl
  | _ :: _, _, ⟨_, _, e, _, t⟩ => by subst e; simp [RepL.length t]
theorem RepL.get {p : Par} {I : Hp} : ∀ {ds : List D} {vs : List V} {i : Nat} {d : D}, RepL p I ds vs → ds[i]? = some d → ∃ v, vs[i]? = some v ∧ Rep p I d v
  | [], _, _, _, _, e => by simp at e
  | _ :: _, _, 0, _, ⟨v, vr, e, h, t⟩, e' => by subst e; simp at e'; subst e'; exact ⟨v, rfl, h⟩
  | _ :: _, _, i + 1, _, ⟨v, vr, e, h, t⟩, e' => by subst e; simp at e'; obtain ⟨u, h1, h2⟩ := RepL.get t e'; exact ⟨u, by simpa using h1, h2⟩
theorem RepL.got {p : Par} {I : Hp} : ∀ {ds : List D} {vs : List V} {i : Nat} {v : V}, RepL p I ds vs → vs[i]? = some v → ∃ d, ds[i]? = some d ∧ Rep p I d v
  | [], _, _, _, h, e => by cases h; simp at e
  | d :: _, _, 0, _, ⟨v, vr, e, h, t⟩, e' => by subst e; simp at e'; subst e'; exact ⟨d, rfl, h⟩
  | _ :: _, _, i + 1, _, ⟨v, vr, e, h, t⟩, e' => by subst e; simp at e'; obtain ⟨u, h1, h2⟩ := RepL.got t e'; exact ⟨u, by simpa using h1, h2⟩
theorem RepL.append {p : Par} {I : Hp} : ∀ {ds es : List D} {vs us : List V}, RepL p I ds vs → RepL p I es us → RepL p I (ds ++ es) (vs ++ us)
  | [], _, _, _, h, t => by cases h; exact t
  | _ :: _, _, _, _, ⟨v, vr, e, h, t⟩, t' => by subst e; exact ⟨v, vr ++ _, rfl, h, RepL.append t t'⟩
theorem RepL.one {p : Par} {I : Hp} {d : D} {v : V} (h : Rep p I d v) : RepL p I [d] [v] := ⟨v, [], rfl, h, rfl⟩
theorem RepL.take {p : Par} {I : Hp} : ∀ {ds : List D} {vs : List V} (n : Nat), RepL p I ds vs → RepL p I (ds.take n) (vs.take n)
  | _, _, 0, _ => by simp [RepL]
  | [], _, _ + 1, h => by cases h; simp [RepL]
  | _ :: _, _, n + 1, ⟨v, vr, e, h, t⟩ => by subst e; exact ⟨v, vr.take n, rfl, h, RepL.take n t⟩
theorem RepL.drop {p : Par} {I : Hp} : ∀ {ds : List D} {vs : List V} (n : Nat), RepL p I ds vs → RepL p I (ds.drop n) (vs.drop n)
  | _, _, 0, h => by simpa using h
  | [], _, _ + 1, h => by cases h; simp [RepL]
  | _ :: _, _, n + 1, ⟨v, vr, e, h, t⟩ => by subst e; simpa using RepL.drop n t
theorem RepL.eraseIdx {p : Par} {I : Hp} : ∀ {ds : List D} {vs : List V} (n : Nat), RepL p I ds vs → RepL p I (ds.eraseIdx n) (vs.eraseIdx n)
  | [], _, n, h => by cases h; simp [RepL]
  | _ :: _, _, 0, ⟨v, vr, e, h, t⟩ => by subst e; simpa using t
  | _ :: _, _, n + 1, ⟨v, vr, e, h, t⟩ => by subst e; exact ⟨v, vr.eraseIdx n, rfl, h, RepL.eraseIdx n t⟩
theorem RepL.set {p : Par} {I : Hp} {d : D} {v : V} (q : Rep p I d v) : ∀ {ds : List D} {vs : List V} (n : Nat), RepL p I ds vs → RepL p I (ds.set n d) (vs.set n v)
  | [], _, n, h => by cases h; simp [RepL]
  | _ :: _, _, 0, ⟨v, vr, e, h, t⟩ => by subst e; exact ⟨_, vr, rfl, q, t⟩
  | _ :: _, _, n + 1, ⟨v, vr, e, h, t⟩ => by subst e; exact ⟨v, _, rfl, h, RepL.set q n t⟩
theorem RepL.reverse {p : Par} {I : Hp} : ∀ {ds : List D} {vs : List V}, RepL p I ds vs → RepL p I ds.reverse vs.reverse
  | [], _, h => by cases h; simp [RepL]
  | _ :: _, _, ⟨v, vr, e, h, t⟩ => by subst e; rw [List.reverse_cons, List.reverse_cons]; exact (RepL.reverse t).append (RepL.one h)

/-- the object at a, not among those that stay, holds d -/
def OwnAt (p : Par) (I H : Hp) (a : Addr) : D → Prop
  | .lst ds => ∃ vs, H a = some (.lst vs) ∧ RepL p I ds vs
  | .dct kvs => ∃ ws, H a = some (.dK ws) ∧ RepP p I kvs ws
  | .dcn kvs => ∃ xs, H a = some (DN p.P p.w a xs) ∧ RepN p I kvs xs
  | _ => False
theorem OwnAt.mono {p : Par} {I H I' H' : Hp} {a : Addr} {d : D} (s : Same I I') (e : ∀ o, H a = some o → H' a = some o) (h : OwnAt p I H a d) : OwnAt p I' H' a d := by
  cases d with
  | lst ds => obtain ⟨vs, q, r⟩ := h; exact ⟨vs, e _ q, r.mono s⟩
  | dct ds => obtain ⟨vs, q, r⟩ := h; exact ⟨vs, e _ q, r.mono s⟩
  | dcn ds => obtain ⟨vs, q, r⟩ := h; exact ⟨vs, e _ q, r.mono s⟩
  | _ => exact h
theorem OwnAt.there {p : Par} {I H : Hp} {a : Addr} {d : D} (h : OwnAt p I H a d) : H a ≠ none := by
  cases d <;> first | (obtain ⟨_, q, _⟩ := h; rw [q]; simp) | exact h.elim

/-- what stays (I), what is others' (G), all (H) -/
structure Base (I G H : Hp) : Prop where
  ih : Same I H
  gh : Same G H
  ig : ∀ a, I a ≠ none → G a = none

def SvR (p : Par) (t : Addr) (I G H : Hp) : SV → V → Prop
  | .fz d, v => Rep p I d v
  | .ow d, v => ∃ a, v = .ref a ∧ I a = none ∧ G a = none ∧ OwnAt p I H a d
  | .io d, v => v = .ref t ∧ I t = none ∧ G t = none ∧ OwnAt p I H t d
def SV.own : SV → Bool
  | .fz _ => false
  | _ => true

structure St (p : Par) (t : Addr) (I G H : Hp) (σ : L2.St) (ρ : DS) : Prop where
  b : Base I G H
  sl : ∀ (i : Nat) (sv : SV), ρ[i]? = some (some sv) → ∃ v, σ[i]? = some (some v) ∧ SvR p t I G H sv v
  ap : ∀ (i j : Nat) (x y : SV) (a : Addr), ρ[i]? = some (some x) → x.own = true → ρ[j]? = some (some y) → y.own = true → σ[i]? = some (some (.ref a)) → σ[j]? = some (some (.ref a)) → i = j
  len : ρ.length = σ.length

/-- H' goes on from H: what stood stands; what newly stays is new -/
structure Ext (I H I' H' : Hp) : Prop where
  ii : Same I I'
  ih : Same I' H'
  hh : Same H H'
  nw : ∀ a, I' a ≠ none → I a ≠ none ∨ H a = none
theorem Ext.refl {I H : Hp} (h : Same I H) : Ext I H I H := ⟨Same.refl _, h, Same.refl _, fun _ q => .inl q⟩
theorem Ext.trans {I H I1 H1 I2 H2 : Hp} (a : Ext I H I1 H1) (b : Ext I1 H1 I2 H2) : Ext I H I2 H2 :=
  ⟨a.ii.trans b.ii, b.ih, a.hh.trans b.hh, fun c q => by
    rcases b.nw c q with h | h
    · exact a.nw c h
    · exact .inr (a.hh.free h)⟩
/-- a new object that stays -/
theorem Ext.new {I H : Hp} (s : Same I H) {q : Addr} (o : HO) (hq : H q = none) : Ext I H (upd I q o) (upd H q o) := by
  have hi : I q = none := s.free hq
  refine ⟨fun b u e => ?_, fun b u e => ?_, fun b u e => ?_, fun b h => ?_⟩
  · rw [upd_ne (ne_of_none e hi)]; exact e
  · by_cases hb : b = q
    · subst hb; rw [upd_same] at e ⊢; exact e
    · rw [upd_ne hb] at e ⊢; exact s _ _ e
  · rw [upd_ne (ne_of_none e hq)]; exact e
  · by_cases hb : b = q
    · subst hb; exact .inr hq
    · rw [upd_ne hb] at h; exact .inl h
/-- a new object that does not stay -/
theorem Ext.newH {I H : Hp} (s : Same I H) {q : Addr} (o : HO) (hq : H q = none) : Ext I H I (upd H q o) := by
  refine ⟨Same.refl _, fun b u e => ?_, fun b u e => ?_, fun b h => .inl h⟩
  · rw [upd_ne (ne_of_none (s _ _ e) hq)]; exact s _ _ e
  · rw [upd_ne (ne_of_none e hq)]; exact e
theorem Base.ext {I G H I' H' : Hp} (b : Base I G H) (e : Ext I H I' H') : Base I' G H' :=
  ⟨e.ih, b.gh.trans e.hh, fun a h => by
    rcases e.nw a h with q | q
    · exact b.ig a q
    · exact b.gh.free q⟩
theorem SvR.ext {p : Par} {t : Addr} {I G H I' H' : Hp} {sv : SV} {v : V} (e : Ext I H I' H') (h : SvR p t I G H sv v) : SvR p t I' G H' sv v := by
  have nn : ∀ {a : Addr} {d : D}, I a = none → OwnAt p I H a d → I' a = none := fun {a d} h1 h2 => by
    cases q : I' a with
    | none => rfl
    | some o =>
      rcases e.nw a (by rw [q]; simp) with z | z
      · exact absurd h1 z
      · exact absurd z h2.there
  cases sv with
  | fz d => exact Rep.mono e.ii h
  | ow d => obtain ⟨a, r, h1, h2, h3⟩ := h; exact ⟨a, r, nn h1 h3, h2, h3.mono e.ii (e.hh a)⟩
  | io d => obtain ⟨r, h1, h2, h3⟩ := h; exact ⟨r, nn h1 h3, h2, h3.mono e.ii (e.hh t)⟩
theorem St.ext {p : Par} {t : Addr} {I G H I' H' : Hp} {σ : L2.St} {ρ : DS} (s : St p t I G H σ ρ) (e : Ext I H I' H') : St p t I' G H' σ ρ :=
  ⟨s.b.ext e, fun i sv h => let ⟨v, h1, h2⟩ := s.sl i sv h; ⟨v, h1, h2.ext e⟩, s.ap, s.len⟩

/-- readable now as d -/
def Rdb (p : Par) (I H : Hp) (d : D) (v : V) : Prop := Rep p I d v ∨ ∃ a, v = .ref a ∧ OwnAt p I H a d
theorem Rdb.of {p : Par} {I H : Hp} {d : D} {v : V} (h : Rep p I d v) : Rdb p I H d v := .inl h
/-- an expression's value -/
def RR (p : Par) (I : Hp) (σ : L2.St) : R → V → Prop
  | .fz d, v => Rep p I d v
  | .at i, v => σ[i]? = some (some v)
theorem RR.mono {p : Par} {I I' : Hp} {σ : L2.St} {r : R} {v : V} (s : Same I I') (h : RR p I σ r v) : RR p I' σ r v := by
  cases r with
  | fz d => exact Rep.mono s h
  | «at» i => exact h
theorem RR.get {p : Par} {t : Addr} {I G H : Hp} {σ : L2.St} {ρ : DS} {r : R} {v : V} {d : D} (s : St p t I G H σ ρ) (h : RR p I σ r v) (e : r.get ρ = .ok d) : Rdb p I H d v := by
  cases r with
  | fz d' => cases e; exact .inl h
  | «at» i =>
    have e' : cont ρ i = .ok d := e
    unfold cont at e'
    split at e'
    · rename_i d' h1
      cases e'
      obtain ⟨u, h2, h3⟩ := s.sl _ _ h1
      have h' : σ[i]? = some (some v) := h
      rw [h2] at h'; cases h'
      exact .inl h3
    · rename_i d' h1
      cases e'
      obtain ⟨u, h2, a, h3, _, _, h4⟩ := s.sl _ _ h1
      have h' : σ[i]? = some (some v) := h
      rw [h2] at h'; cases h'
      exact .inr ⟨a, h3, h4⟩
    · rename_i d' h1
      cases e'
      obtain ⟨u, h2, h3, _, _, h4⟩ := s.sl _ _ h1
      have h' : σ[i]? = some (some v) := h
      rw [h2] at h'; cases h'
      exact .inr ⟨t, h3, h4⟩
    · cases e'

/-- a slot's own list or dict stays from now on. For a dict the object itself must be locked: see frz below -/
theorem SvR.own_at {p : Par} {t : Addr} {I G H : Hp} {sv : SV} {v : V} {d : D} (h : SvR p t I G H sv v) (o : sv.own = true) : ∃ a, v = .ref a ∧ I a = none ∧ G a = none := by
  cases sv with
  | fz d => cases o
  | ow d => obtain ⟨a, h1, h2, h3, _⟩ := h; exact ⟨a, h1, h2, h3⟩
  | io d => obtain ⟨h1, h2, h3, _⟩ := h; exact ⟨t, h1, h2, h3⟩
end Den

/-! Den2: the judgements; names, constants, operations, displays, tests. -/
namespace Den
open PySem L2

abbrev pr (X : Cx) (cl : Cls) : Par := ⟨X.prog, X.w, X.K, cl⟩
/-- the same state, told by another abstract heap: objects are locked -/
inductive Mv (P : Hp → Prop) : Hp → Prop where
  | here {H : Hp} : P H → Mv P H
  | lock {H : Hp} {d : Addr} {u : HO} : H d = some u → Mut (some u) → (∀ od, Mv P (upd H d (.frz od u))) → Mv P H
theorem Mv.run {P : Hp → Prop} {X : Cx} {pins : List (Addr × Obj)} {σ : L2.St} {H : Hp} {s : Shared} (m : Mv P H) (I : Inv X pins σ H s) : ∃ H', Inv X pins σ H' s ∧ P H' := by
  induction m with
  | here h => exact ⟨_, I, h⟩
  | lock h mu _ ih =>
    obtain ⟨od, J⟩ := I.lock h mu
    exact ih od J
theorem Mv.imp {P Q : Hp → Prop} {H : Hp} (m : Mv P H) (q : ∀ H, P H → Q H) : Mv Q H := by
  induction m with
  | here h => exact .here (q _ h)
  | lock h mu _ ih => exact .lock h mu ih
def eMv (te : TE) : TE := fun σ H Q => te σ H fun v H1 => Mv (Q v) H1
theorem PE.mv {X : Cx} {e : Expr} {te : TE} (h : PE X e te) : PE X e (eMv te) := ⟨fun pins s σ H Q I q => thn (h.run pins s σ H _ I q) fun u s1 ⟨v, H1, I1, r, m⟩ =>
  let ⟨H2, I2, q2⟩ := m.run I1
  ⟨v, H2, I2, r, q2⟩⟩

section
variable (p : Par) (t : Addr) (W : WX)
def PostX (I G : Hp) : Err → Prop := fun e => ∀ (I' H' : Hp) (σ' : L2.St), Same I I' → Base I' G H' → W (.ref (p.cl e)) none σ' H'
def LE (te : TE) (f : FE) : Prop := ∀ (I G H : Hp) (σ : L2.St) (ρ : DS) (Q : VK), St p t I G H σ ρ →
  OutP (f ρ) (fun x => ∀ I' H' v, Same I I' → St p t I' G H' σ x.2 → RR p I' σ x.1 v → Q v H') (PostX p W I G) → te σ H Q
def LT (tt : TT) (f : FT) : Prop := ∀ (I G H : Hp) (σ : L2.St) (ρ : DS) (Q : Bool → Hp → Prop), St p t I G H σ ρ →
  OutP (f ρ) (fun x => ∀ I' H', Same I I' → St p t I' G H' σ x.2 → Q x.1 H') (PostX p W I G) → tt σ H Q
def LA (ta : TA) (f : FA) : Prop := ∀ (I G H : Hp) (σ : L2.St) (ρ : DS) (Q : List V → Hp → Prop), St p t I G H σ ρ →
  OutP (f ρ) (fun x => ∀ I' H' vs, Same I I' → St p t I' G H' σ x.2 → RepL p I' x.1 vs → Q vs H') (PostX p W I G) → ta σ H Q
/-- a new list or dict of nobody's yet -/
def LN (te : TE) (f : FN) : Prop := ∀ (I G H : Hp) (σ : L2.St) (ρ : DS) (Q : VK), St p t I G H σ ρ →
  OutP (f ρ) (fun x => ∀ I' H' a, Same I I' → St p t I' G H' σ x.2 → I' a = none → G a = none → OwnAt p I' H' a x.1 →
    (∀ (i : Nat) (sv : SV), x.2[i]? = some (some sv) → SV.own sv = true → σ[i]? ≠ some (some (V.ref a))) → Q (.ref a) H') (PostX p W I G) → te σ H Q
end
theorem PostX.mono {p : Par} {W : WX} {I I1 G : Hp} {e : Err} (s : Same I I1) (h : PostX p W I G e) : PostX p W I1 G e := fun I' H' σ' z b => h I' H' σ' (s.trans z) b
/-! the readings themselves -/
section
variable (p : Par) (t : Addr) (W : WX)
def RE (f : FE) : TE := fun σ H Q => ∃ I G ρ, St p t I G H σ ρ ∧ OutP (f ρ) (fun x => ∀ I' H' v, Same I I' → St p t I' G H' σ x.2 → RR p I' σ x.1 v → Q v H') (PostX p W I G)
def RT (f : FT) : TT := fun σ H Q => ∃ I G ρ, St p t I G H σ ρ ∧ OutP (f ρ) (fun x => ∀ I' H', Same I I' → St p t I' G H' σ x.2 → Q x.1 H') (PostX p W I G)
def RA (f : FA) : TA := fun σ H Q => ∃ I G ρ, St p t I G H σ ρ ∧ OutP (f ρ) (fun x => ∀ I' H' vs, Same I I' → St p t I' G H' σ x.2 → RepL p I' x.1 vs → Q vs H') (PostX p W I G)
def RN (f : FN) : TE := fun σ H Q => ∃ I G ρ, St p t I G H σ ρ ∧ OutP (f ρ) (fun x => ∀ I' H' a, Same I I' → St p t I' G H' σ x.2 → I' a = none → G a = none → OwnAt p I' H' a x.1 →
    (∀ (i : Nat) (sv : SV), x.2[i]? = some (some sv) → SV.own sv = true → σ[i]? ≠ some (some (V.ref a))) → Q (.ref a) H') (PostX p W I G)
end
def DE (X : Cx) (cl : Cls) (t : Addr) (W : WX) (e : Expr) (f : FE) : Prop := PE X e (RE (pr X cl) t W f)
def DT (X : Cx) (cl : Cls) (t : Addr) (W : WX) (e : Expr) (f : FT) : Prop := PT X e (RT (pr X cl) t W f)
/-- a test whatever its whole is -/
def DW (X : Cx) (cl : Cls) (t : Addr) (W : WX) (e : Expr) (f : FT) : Prop := PW X e (RT (pr X cl) t W f)
structure DA (X : Cx) (cl : Cls) (t : Addr) (W : WX) (es : List Expr) (f : FA) : Prop where
  pa : PA X es (RA (pr X cl) t W f)
  len : ∀ ρ x, f ρ = .ok x → x.1.length = es.length
/-- an expression that makes a new list or dict -/
def DNw (X : Cx) (cl : Cls) (t : Addr) (W : WX) (e : Expr) (f : FN) : Prop := PE X e (RN (pr X cl) t W f)
section
variable {X : Cx} {cl : Cls} {t : Addr} {W : WX} {e : Expr} {es : List Expr}
theorem DE.mk {te : TE} {f : FE} (h : PE X e te) (l : LE (pr X cl) t W te f) : DE X cl t W e f := ⟨fun pins s σ H Q I ⟨J, G, ρ, st, q⟩ => h.run pins s σ H Q I (l J G H σ ρ Q st q)⟩
theorem DE.ex {f : FE} (h : DE X cl t W e f) : ∃ te, PE X e te ∧ LE (pr X cl) t W te f := ⟨_, h, fun I G _ _ ρ _ s q => ⟨I, G, ρ, s, q⟩⟩
theorem DT.mk {te : TT} {f : FT} (h : PT X e te) (l : LT (pr X cl) t W te f) : DT X cl t W e f := ⟨fun pins s σ H Q I ⟨J, G, ρ, st, q⟩ => h.run pins s σ H Q I (l J G H σ ρ Q st q)⟩
theorem DT.ex {f : FT} (h : DT X cl t W e f) : ∃ te, PT X e te ∧ LT (pr X cl) t W te f := ⟨_, h, fun I G _ _ ρ _ s q => ⟨I, G, ρ, s, q⟩⟩
theorem DW.mk {te : TT} {f : FT} (h : PW X e te) (l : LT (pr X cl) t W te f) : DW X cl t W e f := ⟨fun w pins s σ H Q I ⟨J, G, ρ, st, q⟩ => h.run w pins s σ H Q I (l J G H σ ρ Q st q)⟩
theorem DW.ex {f : FT} (h : DW X cl t W e f) : ∃ te, PW X e te ∧ LT (pr X cl) t W te f := ⟨_, h, fun I G _ _ ρ _ s q => ⟨I, G, ρ, s, q⟩⟩
theorem DA.mk' {te : TA} {f : FA} (h : PA X es te) (l : LA (pr X cl) t W te f) (n : ∀ ρ x, f ρ = .ok x → x.1.length = es.length) : DA X cl t W es f := ⟨⟨fun pos pins s σ H Q I ⟨J, G, ρ, st, q⟩ => h.run pos pins s σ H Q I (l J G H σ ρ Q st q)⟩, n⟩
theorem DA.ex {f : FA} (h : DA X cl t W es f) : ∃ te, PA X es te ∧ LA (pr X cl) t W te f := ⟨_, h.pa, fun I G _ _ ρ _ s q => ⟨I, G, ρ, s, q⟩⟩
theorem DNw.mk {te : TE} {f : FN} (h : PE X e te) (l : LN (pr X cl) t W te f) : DNw X cl t W e f := ⟨fun pins s σ H Q I ⟨J, G, ρ, st, q⟩ => h.run pins s σ H Q I (l J G H σ ρ Q st q)⟩
theorem DNw.ex {f : FN} (h : DNw X cl t W e f) : ∃ te, PE X e te ∧ LN (pr X cl) t W te f := ⟨_, h, fun I G _ _ ρ _ s q => ⟨I, G, ρ, s, q⟩⟩
end

/-! ### lemmas about states -/
theorem St.setFz {p : Par} {t : Addr} {I G H : Hp} {σ : L2.St} {ρ : DS} {i : Nat} {d : D} {v : V} (s : St p t I G H σ ρ) (r : Rep p I d v) : St p t I G H (σ.set i (some v)) (ρ.set i (some (.fz d))) := by
  refine ⟨s.b, fun j sv h => ?_, fun j k x y a h1 o1 h2 o2 e1 e2 => ?_, by simp [s.len]⟩
  · rw [List.getElem?_set] at h
    rw [List.getElem?_set, ← s.len]
    split at h
    · rename_i e
      subst e
      split at h
      · cases h; exact ⟨v, by simp [*], r⟩
      · cases h
    · rename_i e
      rw [if_neg e]
      exact s.sl j sv h
  · rw [List.getElem?_set] at h1 h2 e1 e2
    by_cases hj : i = j
    · subst hj
      rw [if_pos rfl] at h1
      split at h1 <;> cases h1
      cases o1
    · by_cases hk : i = k
      · subst hk
        rw [if_pos rfl] at h2
        split at h2 <;> cases h2
        cases o2
      · rw [if_neg hj] at h1 e1
        rw [if_neg hk] at h2 e2
        exact s.ap j k x y a h1 o1 h2 o2 e1 e2
/-- slots forgotten -/
theorem St.forget {p : Par} {t : Addr} {I G H : Hp} {σ : L2.St} {ρ ρ' : DS} (s : St p t I G H σ ρ) (hl : ρ'.length = ρ.length) (h : ∀ (i : Nat) (sv : SV), ρ'[i]? = some (some sv) → ρ[i]? = some (some sv)) : St p t I G H σ ρ' :=
  ⟨s.b, fun i sv e => s.sl i sv (h i sv e), fun i j x y a h1 o1 h2 o2 => s.ap i j x y a (h _ _ h1) o1 (h _ _ h2) o2, hl.trans s.len⟩
theorem set_none_of {ρ : DS} {i j : Nat} {sv : SV} (h : (ρ.set i none)[j]? = some (some sv)) : ρ[j]? = some (some sv) := by
  rw [List.getElem?_set] at h
  split at h
  · split at h <;> cases h
  · exact h
theorem kill_len : ∀ (ks : List Nat) (ρ : DS), (kill ks ρ).length = ρ.length
  | [], _ => rfl
  | k :: ks, ρ => by
    show (kill ks (ρ.set k none)).length = _
    rw [kill_len ks]; simp
theorem kill_of : ∀ (ks : List Nat) (ρ : DS) {j : Nat} {sv : SV}, (kill ks ρ)[j]? = some (some sv) → ρ[j]? = some (some sv)
  | [], _, _, _, h => h
  | k :: ks, ρ, j, sv, h => set_none_of (kill_of ks (ρ.set k none) h)
theorem kill_not : ∀ (ks : List Nat) (ρ : DS) {j : Nat} {sv : SV}, j ∈ ks → (kill ks ρ)[j]? ≠ some (some sv)
  | k :: ks, ρ, j, sv, hj, h => by
    rcases List.mem_cons.mp hj with e | e
    · subst e
      have z := kill_of ks (ρ.set j none) h
      rw [List.getElem?_set] at z
      rw [if_pos rfl] at z
      split at z <;> cases z
    · exact kill_not ks (ρ.set k none) e h
theorem St.kill {p : Par} {t : Addr} {I G H : Hp} {σ : L2.St} {ρ : DS} (s : St p t I G H σ ρ) (ks : List Nat) : St p t I G H σ (kill ks ρ) := s.forget (kill_len _ _) fun _ _ h => kill_of _ _ h
/-- what nobody owns yet becomes a slot's own -/
theorem St.setOw {p : Par} {t : Addr} {I G H : Hp} {σ : L2.St} {ρ : DS} {i : Nat} {d : D} {a : Addr} (s : St p t I G H σ ρ) (hi : I a = none) (hg : G a = none) (o : OwnAt p I H a d)
    (hn : ∀ (i : Nat) (sv : SV), ρ[i]? = some (some sv) → sv.own = true → σ[i]? ≠ some (some (V.ref a))) : St p t I G H (σ.set i (some (.ref a))) (ρ.set i (some (.ow d))) := by
  refine ⟨s.b, fun j sv h => ?_, fun j k x y b h1 o1 h2 o2 e1 e2 => ?_, by simp [s.len]⟩
  · rw [List.getElem?_set] at h
    rw [List.getElem?_set, ← s.len]
    split at h
    · rename_i e
      subst e
      split at h
      · cases h; exact ⟨_, by simp [*], a, rfl, hi, hg, o⟩
      · cases h
    · rename_i e
      rw [if_neg e]
      exact s.sl j sv h
  · rw [List.getElem?_set] at h1 h2 e1 e2
    by_cases hj : i = j
    · by_cases hk : i = k
      · rw [← hj, ← hk]
      · subst hj
        rw [if_pos rfl] at e1
        rw [if_neg hk] at h2 e2
        split at e1
        · cases e1; exact absurd e2 (hn k y h2 o2)
        · cases e1
    · by_cases hk : i = k
      · subst hk
        rw [if_pos rfl] at e2
        rw [if_neg hj] at h1 e1
        split at e2
        · cases e2; exact absurd e1 (hn j x h1 o1)
        · cases e2
      · rw [if_neg hj] at h1 e1
        rw [if_neg hk] at h2 e2
        exact s.ap j k x y b h1 o1 h2 o2 e1 e2

/-- an object that is a slot's own, or nobody's, stays from now on: the same abstract heap, or the object locked -/
theorem base_keep {I G H : Hp} {a : Addr} {u : HO} (b : Base I G H) (hi : I a = none) (hg : G a = none) : Base (upd I a u) G (upd H a u) := by
  refine ⟨fun c o e => ?_, fun c o e => ?_, fun c h => ?_⟩
  · by_cases hc : c = a
    · subst hc; rw [upd_same] at e ⊢; exact e
    · rw [upd_ne hc] at e ⊢; exact b.ih _ _ e
  · rw [upd_ne (ne_of_none e hg)]; exact b.gh _ _ e
  · by_cases hc : c = a
    · subst hc; exact hg
    · rw [upd_ne hc] at h; exact b.ig _ h
theorem same_new {I : Hp} {a : Addr} {u : HO} (hi : I a = none) : Same I (upd I a u) := fun c o e => by rw [upd_ne (ne_of_none e hi)]; exact e
theorem upd_self {H : Hp} {a : Addr} {u : HO} (h : H a = some u) : upd H a u = H := by
  funext c
  by_cases hc : c = a
  · subst hc; rw [upd_same, h]
  · rw [upd_ne hc]
/-- the other slots, where the object at a stays from now on -/
theorem St.keepAt {p : Par} {t : Addr} {I G H : Hp} {σ : L2.St} {ρ : DS} {a : Addr} {u : HO} (s : St p t I G H σ ρ) (hi : I a = none) (hg : G a = none)
    (hn : ∀ (i : Nat) (sv : SV), ρ[i]? = some (some sv) → sv.own = true → σ[i]? ≠ some (some (V.ref a))) : St p t (upd I a u) G (upd H a u) σ ρ := by
  refine ⟨base_keep s.b hi hg, fun i sv h => ?_, s.ap, s.len⟩
  obtain ⟨v, h1, h2⟩ := s.sl i sv h
  refine ⟨v, h1, ?_⟩
  have hI : Same I (upd I a u) := same_new hi
  cases sv with
  | fz d => exact Rep.mono hI h2
  | ow d =>
    obtain ⟨b, e, q1, q2, q3⟩ := h2
    subst e
    have nb : b ≠ a := fun z => hn i _ h rfl (z ▸ h1)
    exact ⟨b, rfl, by rw [upd_ne nb]; exact q1, q2, q3.mono hI fun o z => by rw [upd_ne nb]; exact z⟩
  | io d =>
    obtain ⟨e, q1, q2, q3⟩ := h2
    subst e
    have nb : t ≠ a := fun z => hn i _ h rfl (z ▸ h1)
    exact ⟨rfl, by rw [upd_ne nb]; exact q1, q2, q3.mono hI fun o z => by rw [upd_ne nb]; exact z⟩
theorem OwnAt.keep {X : Cx} {cl : Cls} {I G H : Hp} {a : Addr} {d : D} (o : OwnAt (pr X cl) I H a d) (hi : I a = none) (hg : G a = none) (b : Base I G H) {P : Hp → Prop}
    (q : ∀ u, Rep (pr X cl) (upd I a u) d (.ref a) → P (upd H a u)) : Mv P H := by
  cases d with
  | lst ds =>
    obtain ⟨vs, h, r⟩ := o
    refine .here ?_
    have z := q (.lst vs) ⟨a, vs, rfl, upd_same, r.mono (same_new hi)⟩
    rw [upd_self h] at z
    exact z
  | dct kvs =>
    obtain ⟨ws, h, r⟩ := o
    exact .lock h trivial fun od => .here (q (.frz od (.dK ws)) ⟨a, od, ws, rfl, upd_same, r.mono (same_new hi)⟩)
  | dcn kvs =>
    obtain ⟨xs, h, r⟩ := o
    exact .lock h trivial fun od => .here (q (.frz od (DN X.prog X.w a xs)) ⟨a, od, xs, rfl, upd_same, r.mono (same_new hi)⟩)
  | _ => exact o.elim
/-- an expression's value is kept -/
theorem RR.frz {X : Cx} {cl : Cls} {t : Addr} {I G H : Hp} {σ : L2.St} {ρ : DS} {r : R} {v : V} (s : St (pr X cl) t I G H σ ρ) (h : RR (pr X cl) I σ r v) {P : Hp → Prop} {E : Err → Prop}
    (q : OutP (r.frz ρ) (fun x => ∀ I' H', Same I I' → St (pr X cl) t I' G H' σ x.2 → Rep (pr X cl) I' x.1 v → P H') E) (hE : ∀ e, r.frz ρ ≠ .exc e) : Mv P H := by
  cases r with
  | fz d => exact Mv.here (q I H (Same.refl _) s h)
  | «at» i =>
    have h' : σ[i]? = some (some v) := h
    have q' := q
    have hE' := hE
    unfold R.frz at q' hE'
    simp only at q' hE'
    split at q'
    · rename_i d h1
      obtain ⟨u, h2, h3⟩ := s.sl _ _ h1
      rw [h2] at h'; cases h'
      exact Mv.here (q' I H (Same.refl _) s h3)
    · rename_i d h1
      obtain ⟨u, h2, a, e, k1, k2, k3⟩ := s.sl _ _ h1
      rw [h2] at h'; cases h'
      subst e
      have nx : ∀ (j : Nat) (sv : SV), (ρ.set i none)[j]? = some (some sv) → sv.own = true → σ[j]? ≠ some (some (V.ref a)) := fun j sv hj oj hσ => by
        have hj' := set_none_of hj
        have ij : i = j := s.ap i j _ sv a h1 rfl hj' oj h2 hσ
        subst ij
        rw [List.getElem?_set, if_pos rfl] at hj
        split at hj <;> cases hj
      have s0 : St (pr X cl) t I G H σ (ρ.set i none) := s.forget (by simp) fun _ _ => set_none_of
      refine k3.keep k1 k2 s.b fun u r => q' (upd I a u) (upd H a u) (same_new k1) ?_ r
      have s1 := s0.keepAt (u := u) k1 k2 nx
      have s2 := s1.setFz (i := i) r
      have e1 : σ.set i (some (V.ref a)) = σ := by
        apply List.ext_getElem?
        intro j
        rw [List.getElem?_set]
        split
        · rename_i e; subst e; split
          · exact h2.symm
          · rename_i hlt; rw [List.getElem?_eq_none (by omega)] at h2; cases h2
        · rfl
      rw [e1, List.set_set] at s2
      exact s2
    · exact q'.elim
theorem frz_exc (r : R) (ρ : DS) (e : Err) : r.frz ρ ≠ .exc e := by
  cases r with
  | fz d => intro h; cases h
  | «at» i =>
    unfold R.frz
    simp only
    split <;> (intro h; cases h)
theorem get_exc (r : R) (ρ : DS) (e : Err) : r.get ρ ≠ .exc e := by
  cases r with
  | fz d => intro h; cases h
  | «at» i =>
    show cont ρ i ≠ _
    unfold cont
    split <;> (intro h; cases h)

/-! ### expressions -/
section
variable {X : Cx} {cl : Cls} {t : Addr} {W : WX} {e a b c : Expr} {es : List Expr} {fa fb fc : FE} {ff : FA} {pos : Pos}

theorem de_const {d : D} {v : V} (h : PE X e (tC v)) (r : ∀ I, Rep (pr X cl) I d v) : DE X cl t W e (fC d) :=
  DE.mk h (fun I G H σ ρ Q s q => q I H v (Same.refl _) s (r I))
theorem de_int {i j pos} : DE X cl t W (.Constant (.int i) j pos) (fC (.int i)) := de_const pe_int fun _ => rfl
theorem de_bl {b j pos} : DE X cl t W (.Constant (.bool b) j pos) (fC (.bl b)) := de_const pe_bl fun _ => rfl
theorem de_non {j pos} : DE X cl t W (.Constant .none j pos) (fC .non) := de_const pe_non fun _ => rfl
theorem de_str {x : Str} {j pos} (l : List Nat) (h : x.cps.toList = l := by decide +kernel) (hv : (l.all fun c => decide (c < 0x110000)) = true := by decide) : DE X cl t W (.Constant (.str x) j pos) (fC (.str l)) :=
  de_const pe_str fun _ => ⟨by subst h; simp, by simpa using hv⟩
theorem de_var (i : Nat) {x : Str} {pos : Pos} (hN : X.N[i]? = some x := by rfl) (hv : Vis X.env.scope x := by first | exact Or.inl rfl | exact Or.inr (Or.inl rfl) | exact Or.inr (Or.inr rfl)) (hd : (x == ("__debug__" : Str)) = false := by decide)
    (hcd : (x == ("__classdict__" : Str)) = false := by decide) : DE X cl t W (.Name x pos) (fVar i) := by
  refine DE.mk (pe_var hN hv hd hcd) (fun I G H σ ρ Q s q => ?_)
  unfold fVar at q
  split at q
  · rename_i d h
    obtain ⟨v, h1, h2⟩ := s.sl _ _ h
    exact ⟨v, h1, q I H v (Same.refl _) s h2⟩
  · rename_i d h
    obtain ⟨v, h1, h2⟩ := s.sl _ _ h
    exact ⟨v, h1, q I H v (Same.refl _) s h1⟩
  · rename_i d h
    obtain ⟨v, h1, h2⟩ := s.sl _ _ h
    exact ⟨v, h1, q I H v (Same.refl _) s h1⟩
  · exact q.elim

/-- an operation on values: what it is on data -/
def LOp (p : Par) (r : R2) (g : D → D → Out D) : Prop := ∀ (I H : Hp) (x y : V) (dx dy : D) (Q : VK), Same I H → Rdb p I H dx x → Rdb p I H dy y →
  OutP (g dx dy) (fun d => ∀ I' H' v, Ext I H I' H' → Rep p I' d v → Q v H') (fun _ => False) → r x y H Q
structure OpD (X : Cx) (cl : Cls) (f : Value → Value → Sem Value) (g : D → D → Out D) : Prop where
  ex : ∃ r, OpR X f r ∧ LOp (pr X cl) r g
theorem LE.op {p : Par} {ta tb : TE} {r : R2} {g : D → D → Out D} (ng : ∀ u v e, g u v ≠ .exc e) (ha : LE p t W ta fa) (hb : LE p t W tb fb) (hr : LOp p r g) : LE p t W (tOp r ta tb) (fOp g fa fb) := by
  intro I G H σ ρ Q s q
  refine ha I G H σ ρ _ s ?_
  unfold fOp at q
  rw [outP_bind] at q
  refine q.imp (fun x q I1 H1 v s1 st1 r1 => ?_) fun _ z => z
  refine hb I1 G H1 σ x.2 _ st1 ?_
  rw [outP_bind] at q
  refine q.imp (fun y q I2 H2 u s2 st2 r2 => ?_) fun _ z => z.mono s1
  cases e1 : x.1.get y.2 with
  | bad => rw [e1] at q; exact q.elim
  | exc e => exact absurd e1 (get_exc _ _ _)
  | ok d1 =>
    cases e2 : y.1.get y.2 with
    | bad => rw [e1, e2] at q; exact q.elim
    | exc e => exact absurd e2 (get_exc _ _ _)
    | ok d2 =>
      rw [e1, e2] at q
      simp only [Out.bind_ok] at q
      refine hr I2 H2 v u d1 d2 Q st2.b.ih (RR.get st2 (r1.mono s2) e1) (RR.get st2 r2 e2) ?_
      cases e3 : g d1 d2 with
      | bad => rw [e3] at q; exact q.elim
      | exc e => exact absurd e3 (ng _ _ _)
      | ok d =>
        rw [e3] at q
        exact fun I3 H3 z x3 r3 => q I3 H3 z ((s1.trans s2).trans x3.ii) (st2.ext x3) r3
theorem de_op {op : Operator} {g : D → D → Out D} (ng : ∀ u v e, g u v ≠ .exc e) (ho : OpD X cl (binaryOp op) g) (ha : DE X cl t W a fa) (hb : DE X cl t W b fb) : DE X cl t W (.BinOp a op b pos) (fOp g fa fb) := by
  obtain ⟨r, hr, lr⟩ := ho
  obtain ⟨ta, pa, la⟩ := ha.ex
  obtain ⟨tb, pb, lb⟩ := hb.ex
  exact DE.mk (pe_op hr pa pb) (LE.op ng la lb lr)
theorem de_cmp {op : CmpOp} {g : D → D → Out D} (ng : ∀ u v e, g u v ≠ .exc e) (ho : OpD X cl (compareOp op) g) (ha : DE X cl t W a fa) (hb : DE X cl t W b fb) (hm : behindInMarks op b = false) : DE X cl t W (.Compare a [op] [b] pos) (fOp g fa fb) := by
  obtain ⟨r, hr, lr⟩ := ho
  obtain ⟨ta, pa, la⟩ := ha.ex
  obtain ⟨tb, pb, lb⟩ := hb.ex
  exact DE.mk (pe_cmpR hr pa pb hm) (LE.op ng la lb lr)
def LUn (p : Par) (r : V → Hp → VK → Prop) (g : D → Out D) : Prop := ∀ (I H : Hp) (x : V) (dx : D) (Q : VK), Same I H → Rdb p I H dx x →
  OutP (g dx) (fun d => ∀ I' H' v, Ext I H I' H' → Rep p I' d v → Q v H') (fun _ => False) → r x H Q
structure UnD (X : Cx) (cl : Cls) (f : Value → Sem Value) (g : D → Out D) : Prop where
  ex : ∃ r, UnR X f r ∧ LUn (pr X cl) r g
theorem LE.un {p : Par} {ta : TE} {r : V → Hp → VK → Prop} {g : D → Out D} (ng : ∀ u e, g u ≠ .exc e) (ha : LE p t W ta fa) (hr : LUn p r g) : LE p t W (tUn r ta) (fUn g fa) := by
  intro I G H σ ρ Q s q
  refine ha I G H σ ρ _ s ?_
  unfold fUn at q
  rw [outP_bind] at q
  refine q.imp (fun x q I1 H1 v s1 st1 r1 => ?_) fun _ z => z
  cases e1 : x.1.get x.2 with
  | bad => rw [e1] at q; exact q.elim
  | exc e => exact absurd e1 (get_exc _ _ _)
  | ok d1 =>
    rw [e1] at q
    simp only [Out.bind_ok] at q
    refine hr I1 H1 v d1 Q st1.b.ih (RR.get st1 r1 e1) ?_
    cases e3 : g d1 with
    | bad => rw [e3] at q; exact q.elim
    | exc e => exact absurd e3 (ng _ _)
    | ok d =>
      rw [e3] at q
      exact fun I3 H3 z x3 r3 => q I3 H3 z (s1.trans x3.ii) (st1.ext x3) r3
theorem de_un {op : UnaryOp} {g : D → Out D} (ng : ∀ u e, g u ≠ .exc e) (ho : UnD X cl (unaryOp op) g) (ha : DE X cl t W a fa) : DE X cl t W (.UnaryOp op a pos) (fUn g fa) := by
  obtain ⟨r, hr, lr⟩ := ho
  obtain ⟨ta, pa, la⟩ := ha.ex
  exact DE.mk (pe_un hr pa) (LE.un ng la lr)
/-- a built-in of one argument, of two -/
structure C1D (X : Cx) (cl : Cls) (f : Value) (g : D → Out D) : Prop where
  ex : ∃ r, CallR X f r ∧ LUn (pr X cl) (fun x => r [x]) g
structure C2D (X : Cx) (cl : Cls) (f : Value) (g : D → D → Out D) : Prop where
  ex : ∃ r, CallR X f r ∧ LOp (pr X cl) (fun x y => r [x, y]) g
theorem de_call1 {f : Value} {x : Str} {p : Pos} {g : D → Out D} (ng : ∀ u e, g u ≠ .exc e) (hc : C1D X cl f g) (hg : Gl X x) (hm : X.mg x = none) (hv : bootBuiltins x = some f) (hf : (∃ id, f = .builtin id) ∨ ∃ T, f = .type T) (ha : DE X cl t W a fa)
    (hn : x ≠ "__name__" := by decide) (hdb : (x == ("__debug__" : Str)) = false := by decide)
    (he : starEach [a] X.env = (false, eval a X.env) :: starEach [] X.env := by rfl) (hpl : (backTo pos (starEach [] X.env)).any (·.1) = false := by rfl) : DE X cl t W (.Call (.Name x p) [a] [] pos) (fUn g fa) := by
  obtain ⟨r, hr, lr⟩ := hc
  obtain ⟨ta, pa, la⟩ := ha.ex
  rcases hf with ⟨id, rfl⟩ | ⟨T, rfl⟩
  · exact DE.mk (pe_callB hr hg hm hv (pa_cons pa pa_nil he) hn hdb he hpl) (LE.un (r := fun x => r [x]) ng la lr)
  · exact DE.mk (pe_callTy hr hg hm hv (pa_cons pa pa_nil he) hn hdb he hpl) (LE.un (r := fun x => r [x]) ng la lr)
theorem de_call2 {f : Value} {x : Str} {p : Pos} {g : D → D → Out D} (ng : ∀ u v e, g u v ≠ .exc e) (hc : C2D X cl f g) (hg : Gl X x) (hm : X.mg x = none) (hv : bootBuiltins x = some f) (hf : (∃ id, f = .builtin id) ∨ ∃ T, f = .type T) (ha : DE X cl t W a fa) (hb : DE X cl t W b fb)
    (hn : x ≠ "__name__" := by decide) (hdb : (x == ("__debug__" : Str)) = false := by decide)
    (he : starEach [a, b] X.env = (false, eval a X.env) :: starEach [b] X.env := by rfl) (he2 : starEach [b] X.env = (false, eval b X.env) :: starEach [] X.env := by rfl) (hpl : (backTo pos (starEach [b] X.env)).any (·.1) = false := by rfl) : DE X cl t W (.Call (.Name x p) [a, b] [] pos) (fOp g fa fb) := by
  obtain ⟨r, hr, lr⟩ := hc
  obtain ⟨ta, pa, la⟩ := ha.ex
  obtain ⟨tb, pb, lb⟩ := hb.ex
  rcases hf with ⟨id, rfl⟩ | ⟨T, rfl⟩
  · exact DE.mk (pe_callB hr hg hm hv (pa_cons pa (pa_cons pb pa_nil he2) he) hn hdb he hpl) (LE.op (r := fun x y => r [x, y]) ng la lb lr)
  · exact DE.mk (pe_callTy hr hg hm hv (pa_cons pa (pa_cons pb pa_nil he2) he) hn hdb he hpl) (LE.op (r := fun x y => r [x, y]) ng la lb lr)
/-- a subscript, by values -/
structure IxD (X : Cx) (cl : Cls) (g : D → D → Out D) : Prop where
  ex : ∃ r, IxR X r ∧ LOp (pr X cl) r g
theorem de_ix {g : D → D → Out D} (ng : ∀ u v e, g u v ≠ .exc e) (ho : IxD X cl g) (ha : DE X cl t W a fa) (hb : DE X cl t W b fb) (hs : PlainIx b := by exact fun _ _ => rfl) : DE X cl t W (.Subscript a b pos) (fOp g fa fb) := by
  obtain ⟨r, hr, lr⟩ := ho
  obtain ⟨ta, pa, la⟩ := ha.ex
  obtain ⟨tb, pb, lb⟩ := hb.ex
  exact DE.mk (pe_ix hr pa pb hs) (LE.op ng la lb lr)

/-! ### arguments, displays -/
theorem da_nil : DA X cl t W [] aNil := DA.mk' pa_nil (fun I G H σ ρ Q s q => q I H [] (Same.refl _) s rfl) (fun ρ x h => by cases h; rfl)
theorem LE.keep {te : TE} (h : LE (pr X cl) t W te fa) {I G H : Hp} {σ : L2.St} {ρ : DS} {Q : VK} (s : St (pr X cl) t I G H σ ρ)
    (q : OutP (fKeep fa ρ) (fun x => ∀ I' H' v, Same I I' → St (pr X cl) t I' G H' σ x.2 → Rep (pr X cl) I' x.1 v → Q v H') (PostX (pr X cl) W I G)) : eMv te σ H Q := by
  refine h I G H σ ρ _ s ?_
  unfold fKeep at q
  rw [outP_bind] at q
  refine q.imp (fun x q I1 H1 v s1 st1 r1 => ?_) fun _ z => z
  exact r1.frz (E := PostX (pr X cl) W I G) st1 (q.imp (fun y q I2 H2 s2 st2 r2 => q I2 H2 v (s1.trans s2) st2 r2) fun _ z => z) (frz_exc _ _)
theorem keep_bind {α : Type} (fa : FE) (ρ : DS) (k : D × DS → Out α) : ((fa ρ).bind fun x => (x.1.frz x.2).bind k) = (fKeep fa ρ).bind k := by
  unfold fKeep
  cases fa ρ <;> rfl
theorem da_cons (ha : DE X cl t W e fa) (hr : DA X cl t W es ff) (hs : starEach (e :: es) X.env = (false, eval e X.env) :: starEach es X.env := by rfl) : DA X cl t W (e :: es) (aCons fa ff) := by
  obtain ⟨ta, pa, la⟩ := ha.ex
  have len := hr.len
  obtain ⟨tr, pr', lr⟩ := hr.ex
  refine DA.mk' (pa_cons (PE.mv pa) pr' hs) (fun I G H σ ρ Q s q => ?_) (fun ρ x h => ?_)
  rotate_left
  · unfold aCons at h
    cases e1 : fa ρ with
    | bad => rw [e1] at h; cases h
    | exc e => rw [e1] at h; cases h
    | ok y =>
      rw [e1] at h
      simp only [Out.bind_ok] at h
      cases e2 : y.1.frz y.2 with
      | bad => rw [e2] at h; cases h
      | exc e => rw [e2] at h; cases h
      | ok z =>
        rw [e2] at h
        simp only [Out.bind_ok] at h
        cases e3 : ff z.2 with
        | bad => rw [e3] at h; cases h
        | exc e => rw [e3] at h; cases h
        | ok u =>
          rw [e3] at h
          cases h
          simp [len _ _ e3]
  unfold aCons at q
  rw [keep_bind, outP_bind] at q
  refine la.keep s (q.imp (fun x q I1 H1 v s1 st1 r1 => ?_) fun _ z => z)
  refine lr I1 G H1 σ x.2 _ st1 ?_
  rw [outP_bind] at q
  refine q.imp (fun y q I2 H2 vs s2 st2 r2 => ?_) fun _ z => z.mono s1
  exact q I2 H2 (v :: vs) (s1.trans s2) st2 ⟨v, vs, rfl, r1.mono s2, r2⟩
theorem small_len {n : Nat} (h : n ≤ 100000) : n ≤ sizeLine := Nat.le_trans h (by decide)
/-- a tuple of written items, its object known -/
def tTupF (t : TA) : TE := fun σ H Q => t σ H fun xs H1 => xs.length ≤ sizeLine ∧ ∀ p o, H1 p = none → o.dict = none → Q (.ref p) (upd H1 p (.frz o (.tup xs)))
theorem pe_tupF {X : Cx} {es : List Expr} {t : TA} {pos : Pos} {x1} (h : PA X es t) : PE X (.Tuple es x1 pos) (tTupF t) := by
  refine ⟨fun pins s σ H Q I hq => ?_⟩
  refine wpAny_Tuple_spliced (thn (h.run pos pins s σ H _ I hq) fun us s1 ⟨xs, H1, I1, r, z, q⟩ => ⟨by rw [← r.length]; exact z, ?_⟩)
  have hf : H1 s1.heap.objs.size = none := I1.hok.fresh (Nat.le_refl _)
  refine ⟨.ref s1.heap.objs.size, upd H1 s1.heap.objs.size (.frz { cls := .type "tuple", data := .seq us.toArray } (.tup xs)), I1.laid (t' := s1.toks) (fun b u e => Heap.get?_push_of_some _ e) (Nat.le_refl _) ?_, rfl, q _ _ hf rfl⟩
  exact ⟨Heap.get?_push_size _ rfl, z, us, r, ⟨_, Heap.get?_push_size _ rfl, rfl, _, rfl⟩⟩
theorem SqT.frz {K : PySem.W.Frag} {H : Hp} {a : Addr} {o : Obj} {xs : List V} (h : H a = some (.frz o (.tup xs))) : SqT K H a xs := .inl (.inr ⟨o, h⟩)
theorem de_tup {x1} (h : DA X cl t W es ff) (hl : es.length ≤ 1000 := by decide) : DE X cl t W (.Tuple es x1 pos) (fTup ff) := by
  have hf := h.len
  obtain ⟨ta, pa, la⟩ := h.ex
  refine DE.mk (pe_tupF pa) (fun I G H σ ρ Q s q => ?_)
  refine la I G H σ ρ _ s ?_
  unfold fTup at q
  rw [outP_bind] at q
  cases e1 : ff ρ with
  | bad => rw [e1] at q; exact q
  | exc e => rw [e1] at q; exact q
  | ok x =>
    rw [e1] at q
    intro I1 H1 vs s1 st1 r1
    refine ⟨by rw [← r1.length, hf ρ x e1]; exact small_len (Nat.le_trans hl (by decide)), fun a o ha ho => ?_⟩
    have x2 := Ext.new st1.b.ih (.frz o (.tup vs)) ha
    exact q _ _ _ (s1.trans x2.ii) (st1.ext x2) ⟨a, vs, rfl, SqT.frz upd_same, r1.mono x2.ii, fun _ => ⟨o, _, upd_same, ho⟩⟩
theorem dn_lst (h : DA X cl t W es ff) (hl : es.length ≤ 1000 := by decide) : DNw X cl t W (.List es pos) (nLst ff) := by
  have hf := h.len
  obtain ⟨ta, pa, la⟩ := h.ex
  refine DNw.mk (pe_lst pa) (fun I G H σ ρ Q s q => ?_)
  refine la I G H σ ρ _ s ?_
  unfold nLst at q
  rw [outP_bind] at q
  cases e1 : ff ρ with
  | bad => rw [e1] at q; exact q
  | exc e => rw [e1] at q; exact q
  | ok x =>
    rw [e1] at q
    intro I1 H1 vs s1 st1 r1
    refine ⟨by rw [← r1.length, hf ρ x e1]; exact small_len (Nat.le_trans hl (by decide)), fun a ha => ?_⟩
    have x2 := Ext.newH st1.b.ih (.lst vs) ha
    refine q _ _ _ s1 (st1.ext x2) (st1.b.ih.free ha) (st1.b.gh.free ha) ⟨vs, upd_same, r1⟩ fun i sv hi oi hσ => ?_
    obtain ⟨u, h1, h2⟩ := st1.sl i sv hi
    rw [h1] at hσ; cases hσ
    cases sv with
    | fz d => cases oi
    | ow d => obtain ⟨b, e, _, _, o⟩ := h2; cases e; exact o.there ha
    | io d => obtain ⟨e, _, _, o⟩ := h2; cases e; exact o.there ha
end
end Den

/-! Den3: tests; statements; loops; comprehensions. -/
namespace Den
open PySem L2

section
variable {X : Cx} {cl : Cls} {t : Addr} {W : WX} {e a b c : Expr} {es rest : List Expr} {fa fb fc : FE} {ta tb : FT} {ff : FA} {pos : Pos}

/-! ### tests -/
theorem LT.val {te : TE} (ha : LE (pr X cl) t W te fa) : LT (pr X cl) t W (tTest te) (tVal fa) := by
  intro I G H σ ρ Q s q
  refine ha I G H σ ρ _ s ?_
  unfold tVal at q
  rw [outP_bind] at q
  refine q.imp (fun x q I1 H1 v s1 st1 r1 => ?_) fun _ z => z
  cases e1 : x.1.get x.2 with
  | bad => rw [e1] at q; exact q.elim
  | exc e => exact absurd e1 (get_exc _ _ _)
  | ok d1 =>
    rw [e1] at q
    cases d1 with
    | bl k =>
      rcases RR.get st1 r1 e1 with h | ⟨_, _, h⟩
      · cases h; exact ⟨k, rfl, q I1 H1 s1 st1⟩
      · exact h.elim
    | _ => exact q.elim
theorem dt_val (ha : DE X cl t W e fa) (he : ∀ whole, isTrue e X.env whole = (do let v ← whole; standAt e.pos; holding [v] (truthy v)) := by intro _; rfl) : DT X cl t W e (tVal fa) := by
  obtain ⟨te, pe, le⟩ := ha.ex
  exact DT.mk (pt_val pe he) (LT.val le)
theorem dt_cmp {op : CmpOp} {g : D → D → Out D} (ng : ∀ u v e, g u v ≠ .exc e) (ho : OpD X cl (compareOp op) g) (ha : DE X cl t W a fa) (hb : DE X cl t W b fb) (hm : behindInMarks op b = false) : DT X cl t W (.Compare a [op] [b] pos) (tVal (fOp g fa fb)) := by
  obtain ⟨r, hr, lr⟩ := ho
  obtain ⟨ta, pa, la⟩ := ha.ex
  obtain ⟨tb, pb, lb⟩ := hb.ex
  exact DT.mk (pt_cmpR hr pa pb hm) (LT.val (LE.op ng la lb lr))
theorem dw_pt (h : DW X cl t W e ta) : DT X cl t W e ta := PW.pt h
theorem LT.and {tA tB' : TT} (ha : LT (pr X cl) t W tA ta) (hb : LT (pr X cl) t W tB' tb) : LT (pr X cl) t W (L2.tAnd tA tB') (Den.tAnd ta tb) := by
  intro I G H σ ρ Q s q
  refine ha I G H σ ρ _ s ?_
  unfold Den.tAnd at q
  rw [outP_bind] at q
  refine q.imp (fun x q I1 H1 s1 st1 => ?_) fun _ z => z
  obtain ⟨k, ρ1⟩ := x
  cases k with
  | true =>
    show tB' σ H1 Q
    exact hb I1 G H1 σ ρ1 Q st1 (q.imp (fun y q I2 H2 s2 st2 => q I2 H2 (s1.trans s2) st2) fun _ z => z.mono s1)
  | false =>
    show Q false H1
    exact q I1 H1 s1 st1
theorem LT.or {tA tB' : TT} (ha : LT (pr X cl) t W tA ta) (hb : LT (pr X cl) t W tB' tb) : LT (pr X cl) t W (L2.tOr tA tB') (Den.tOr ta tb) := by
  intro I G H σ ρ Q s q
  refine ha I G H σ ρ _ s ?_
  unfold Den.tOr at q
  rw [outP_bind] at q
  refine q.imp (fun x q I1 H1 s1 st1 => ?_) fun _ z => z
  obtain ⟨k, ρ1⟩ := x
  cases k with
  | false =>
    show tB' σ H1 Q
    exact hb I1 G H1 σ ρ1 Q st1 (q.imp (fun y q I2 H2 s2 st2 => q I2 H2 (s1.trans s2) st2) fun _ z => z.mono s1)
  | true =>
    show Q true H1
    exact q I1 H1 s1 st1
theorem dw_and1 (ha : DT X cl t W a ta) : DW X cl t W (.BoolOp .And [a] pos) ta := by
  obtain ⟨te, pe, le⟩ := ha.ex
  exact DW.mk (pw_and1 pe) le
theorem dw_or1 (ha : DT X cl t W a ta) : DW X cl t W (.BoolOp .Or [a] pos) ta := by
  obtain ⟨te, pe, le⟩ := ha.ex
  exact DW.mk (pw_or1 pe) le
theorem dw_and (ha : DT X cl t W a ta) (hb : DW X cl t W (.BoolOp .And (b :: rest) pos) tb) : DW X cl t W (.BoolOp .And (a :: b :: rest) pos) (Den.tAnd ta tb) := by
  obtain ⟨te, pe, le⟩ := ha.ex
  obtain ⟨te', pe', le'⟩ := hb.ex
  exact DW.mk (pw_and pe pe') (LT.and le le')
theorem dw_or (ha : DT X cl t W a ta) (hb : DW X cl t W (.BoolOp .Or (b :: rest) pos) tb) : DW X cl t W (.BoolOp .Or (a :: b :: rest) pos) (Den.tOr ta tb) := by
  obtain ⟨te, pe, le⟩ := ha.ex
  obtain ⟨te', pe', le'⟩ := hb.ex
  exact DW.mk (pw_or pe pe') (LT.or le le')
theorem dt_not (ha : DT X cl t W a ta) : DT X cl t W (.UnaryOp .Not a pos) (Den.tNot ta) := by
  obtain ⟨te, pe, le⟩ := ha.ex
  refine DT.mk (pt_not pe) fun I G H σ ρ Q s q => ?_
  refine le I G H σ ρ _ s ?_
  unfold Den.tNot at q
  rw [outP_bind] at q
  exact q.imp (fun x q I1 H1 s1 st1 => q I1 H1 s1 st1) fun _ z => z
/-- .. as values -/
theorem de_one {op} (ha : DE X cl t W a fa) : DE X cl t W (.BoolOp op [a] pos) fa := by
  obtain ⟨te, pe, le⟩ := ha.ex
  exact DE.mk (pe_one pe) le
theorem get_bl {I G H : Hp} {σ : L2.St} {ρ : DS} {r : R} {v : V} {k : Bool} (s : St (pr X cl) t I G H σ ρ) (h : RR (pr X cl) I σ r v) (e : r.get ρ = .ok (.bl k)) : v = .bl k := by
  rcases RR.get s h e with h | ⟨_, _, h⟩
  · exact h
  · exact h.elim
theorem de_and (ha : DE X cl t W a fa) (hb : DE X cl t W (.BoolOp .And (b :: rest) pos) fb) : DE X cl t W (.BoolOp .And (a :: b :: rest) pos) (fAnd fa fb) := by
  obtain ⟨te, pe, le⟩ := ha.ex
  obtain ⟨te', pe', le'⟩ := hb.ex
  refine DE.mk (pe_and pe pe') fun I G H σ ρ Q s q => ?_
  refine le I G H σ ρ _ s ?_
  unfold fAnd at q
  rw [outP_bind] at q
  refine q.imp (fun x q I1 H1 v s1 st1 r1 => ?_) fun _ z => z
  cases e1 : x.1.get x.2 with
  | bad => rw [e1] at q; exact q.elim
  | exc e => exact absurd e1 (get_exc _ _ _)
  | ok d1 =>
    rw [e1] at q
    cases d1 with
    | bl k =>
      refine ⟨k, get_bl st1 r1 e1, ?_⟩
      cases k with
      | true =>
        rw [if_pos rfl]
        exact le' I1 G H1 σ x.2 Q st1 (q.imp (fun y q I2 H2 u s2 st2 => q I2 H2 u (s1.trans s2) st2) fun _ z => z.mono s1)
      | false =>
        rw [if_neg (by decide)]
        exact q I1 H1 _ s1 st1 rfl
    | _ => exact q.elim
theorem de_or (ha : DE X cl t W a fa) (hb : DE X cl t W (.BoolOp .Or (b :: rest) pos) fb) : DE X cl t W (.BoolOp .Or (a :: b :: rest) pos) (fOr fa fb) := by
  obtain ⟨te, pe, le⟩ := ha.ex
  obtain ⟨te', pe', le'⟩ := hb.ex
  refine DE.mk (pe_or pe pe') fun I G H σ ρ Q s q => ?_
  refine le I G H σ ρ _ s ?_
  unfold fOr at q
  rw [outP_bind] at q
  refine q.imp (fun x q I1 H1 v s1 st1 r1 => ?_) fun _ z => z
  cases e1 : x.1.get x.2 with
  | bad => rw [e1] at q; exact q.elim
  | exc e => exact absurd e1 (get_exc _ _ _)
  | ok d1 =>
    rw [e1] at q
    cases d1 with
    | bl k =>
      refine ⟨k, get_bl st1 r1 e1, ?_⟩
      cases k with
      | false =>
        rw [if_neg (by decide)]
        exact le' I1 G H1 σ x.2 Q st1 (q.imp (fun y q I2 H2 u s2 st2 => q I2 H2 u (s1.trans s2) st2) fun _ z => z.mono s1)
      | true =>
        rw [if_pos rfl]
        exact q I1 H1 _ s1 st1 rfl
    | _ => exact q.elim
theorem de_not (ha : DE X cl t W a fa) : DE X cl t W (.UnaryOp .Not a pos) (fNot fa) := by
  obtain ⟨te, pe, le⟩ := ha.ex
  refine DE.mk (pe_not pe) fun I G H σ ρ Q s q => ?_
  refine le I G H σ ρ _ s ?_
  unfold fNot at q
  rw [outP_bind] at q
  refine q.imp (fun x q I1 H1 v s1 st1 r1 => ?_) fun _ z => z
  cases e1 : x.1.get x.2 with
  | bad => rw [e1] at q; exact q.elim
  | exc e => exact absurd e1 (get_exc _ _ _)
  | ok d1 =>
    rw [e1] at q
    cases d1 with
    | bl k => exact ⟨k, get_bl st1 r1 e1, q I1 H1 _ s1 st1 rfl⟩
    | _ => exact q.elim
theorem de_if (hc : DT X cl t W c ta) (ha : DE X cl t W a fa) (hb : DE X cl t W b fb) : DE X cl t W (.IfExp c a b pos) (fIf ta fa fb) := by
  obtain ⟨tc, pc, lc⟩ := hc.ex
  obtain ⟨te, pe, le⟩ := ha.ex
  obtain ⟨te', pe', le'⟩ := hb.ex
  refine DE.mk (pe_ifExp pc pe pe') fun I G H σ ρ Q s q => ?_
  refine lc I G H σ ρ _ s ?_
  unfold fIf at q
  rw [outP_bind] at q
  refine q.imp (fun x q I1 H1 s1 st1 => ?_) fun _ z => z
  obtain ⟨k, ρ1⟩ := x
  cases k with
  | true =>
    rw [if_pos rfl]
    exact le I1 G H1 σ ρ1 Q st1 (q.imp (fun y q I2 H2 u s2 st2 => q I2 H2 u (s1.trans s2) st2) fun _ z => z.mono s1)
  | false =>
    rw [if_neg Bool.false_ne_true]
    exact le' I1 G H1 σ ρ1 Q st1 (q.imp (fun y q I2 H2 u s2 st2 => q I2 H2 u (s1.trans s2) st2) fun _ z => z.mono s1)
theorem LE.chain {p : Par} {ta tb tc : TE} {r r' : R2} {g h : D → D → Out D} (ng : ∀ u v e, g u v ≠ .exc e) (nh : ∀ u v e, h u v ≠ .exc e) (ha : LE p t W ta fa) (hb : LE p t W tb fb) (hc : LE p t W tc fc) (hr : LOp p r g) (hr' : LOp p r' h) :
    LE p t W (tChain r r' ta tb tc) (fChain g h fa fb fc) := by
  intro I G H σ ρ Q s q
  refine ha I G H σ ρ _ s ?_
  unfold fChain at q
  rw [outP_bind] at q
  refine q.imp (fun x q I1 H1 v s1 st1 r1 => ?_) fun _ z => z
  refine hb I1 G H1 σ x.2 _ st1 ?_
  rw [outP_bind] at q
  refine q.imp (fun y q I2 H2 u s2 st2 r2 => ?_) fun _ z => z.mono s1
  cases e1 : x.1.get y.2 with
  | bad => rw [e1] at q; exact q.elim
  | exc e => exact absurd e1 (get_exc _ _ _)
  | ok d1 =>
    cases e2 : y.1.get y.2 with
    | bad => rw [e1, e2] at q; exact q.elim
    | exc e => exact absurd e2 (get_exc _ _ _)
    | ok d2 =>
      rw [e1, e2] at q
      simp only [Out.bind_ok] at q
      refine hr I2 H2 v u d1 d2 _ st2.b.ih (RR.get st2 (r1.mono s2) e1) (RR.get st2 r2 e2) ?_
      cases e3 : g d1 d2 with
      | bad => rw [e3] at q; exact q.elim
      | exc e => exact absurd e3 (ng _ _ _)
      | ok d =>
        rw [e3] at q
        intro I3 H3 z x3 r3
        cases d with
        | bl k =>
          have st3 := st2.ext x3
          refine ⟨k, r3, ?_⟩
          cases k with
          | false =>
            rw [if_neg (by decide)]
            exact q I3 H3 _ ((s1.trans s2).trans x3.ii) st3 rfl
          | true =>
            rw [if_pos rfl]
            simp only [Out.bind_ok] at q
            rw [outP_bind] at q
            refine hc I3 G H3 σ y.2 _ st3 (q.imp (fun z q I4 H4 w s4 st4 r4 => ?_) fun _ z => z.mono ((s1.trans s2).trans x3.ii))
            cases e4 : z.1.get z.2 with
            | bad => rw [e4] at q; exact q.elim
            | exc e => exact absurd e4 (get_exc _ _ _)
            | ok d4 =>
              cases e5 : y.1.get z.2 with
              | bad => rw [e4, e5] at q; exact q.elim
              | exc e => exact absurd e5 (get_exc _ _ _)
              | ok d5 =>
                rw [e4, e5] at q
                simp only [Out.bind_ok] at q
                refine hr' I4 H4 u w d5 d4 _ st4.b.ih (RR.get st4 (r2.mono (x3.ii.trans s4)) e5) (RR.get st4 r4 e4) ?_
                cases e6 : h d5 d4 with
                | bad => rw [e6] at q; exact q.elim
                | exc e => exact absurd e6 (nh _ _ _)
                | ok d6 =>
                  rw [e6] at q
                  exact fun I5 H5 k5 x5 r5 => q I5 H5 k5 ((((s1.trans s2).trans x3.ii).trans s4).trans x5.ii) (st4.ext x5) r5
        | _ => exact q.elim
theorem de_chain {op op' : CmpOp} {g h : D → D → Out D} (ng : ∀ u v e, g u v ≠ .exc e) (nh : ∀ u v e, h u v ≠ .exc e) (ho : OpD X cl (compareOp op) g) (ho' : OpD X cl (compareOp op') h) (ha : DE X cl t W a fa) (hb : DE X cl t W b fb) (hc : DE X cl t W c fc)
    (hm : lastMarks [op, op'] [b, c] = false := by with_unfolding_all rfl) : DE X cl t W (.Compare a [op, op'] [b, c] pos) (fChain g h fa fb fc) := by
  obtain ⟨r, hr, lr⟩ := ho
  obtain ⟨r', hr', lr'⟩ := ho'
  obtain ⟨ta, pa, la⟩ := ha.ex
  obtain ⟨tb, pb, lb⟩ := hb.ex
  obtain ⟨tc, pc, lc⟩ := hc.ex
  exact DE.mk (pe_chain hr hr' pa pb pc hm) (LE.chain ng nh la lb lc lr lr')
theorem dt_chain {op op' : CmpOp} {g h : D → D → Out D} (ng : ∀ u v e, g u v ≠ .exc e) (nh : ∀ u v e, h u v ≠ .exc e) (ho : OpD X cl (compareOp op) g) (ho' : OpD X cl (compareOp op') h) (ha : DE X cl t W a fa) (hb : DE X cl t W b fb) (hc : DE X cl t W c fc)
    (hm : lastMarks [op, op'] [b, c] = false := by with_unfolding_all rfl) : DT X cl t W (.Compare a [op, op'] [b, c] pos) (tVal (fChain g h fa fb fc)) := by
  obtain ⟨r, hr, lr⟩ := ho
  obtain ⟨r', hr', lr'⟩ := ho'
  obtain ⟨ta, pa, la⟩ := ha.ex
  obtain ⟨tb, pb, lb⟩ := hb.ex
  obtain ⟨tc, pc, lc⟩ := hc.ex
  exact DT.mk (pt_chain hr hr' pa pb pc hm) (LT.val (LE.chain ng nh la lb lc lr lr'))
end

/-! ### statements -/
/-- only the slots ws are other ones -/
structure Off (ws : List Nat) (σ σ' : L2.St) : Prop where
  len : σ'.length = σ.length
  eq : ∀ i, i ∉ ws → σ'[i]? = σ[i]?
section
variable (p : Par) (t : Addr) (W : WX)
def PostF (I G : Hp) (Z : Ends) : Fl → Prop
  | .nx ρ => ∀ I' H' σ, Same I I' → St p t I' G H' σ ρ → Z.nx σ H'
  | .rt d ρ => ∀ I' H' σ v, Same I I' → St p t I' G H' σ ρ → Rep p I' d v → Z.rt v H'
  | .bk ρ => ∀ I' H' σ, Same I I' → St p t I' G H' σ ρ → Z.bk σ H'
  | .ct ρ => ∀ I' H' σ, Same I I' → St p t I' G H' σ ρ → Z.ct σ H'
def LS (ts : TS) (f : FS) : Prop := ∀ (I G H : Hp) (σ : L2.St) (ρ : DS) (Z : Ends), St p t I G H σ ρ → OutP (f ρ) (PostF p t I G Z) (PostX p W I G) → ts Z σ H
def RS (f : FS) : TS := fun Z σ H => ∃ I G ρ, St p t I G H σ ρ ∧ OutP (f ρ) (PostF p t I G Z) (PostX p W I G)
/-- a target, ws the slots that it writes -/
def LG (ws : List Nat) (tg : TG) (g : FG) : Prop := ∀ (I G H : Hp) (σ : L2.St) (ρ : DS) (v : V) (d : D) (Q : L2.St → Hp → Prop), St p t I G H σ ρ → Rep p I d v →
  OutP (g d ρ) (fun ρ' => ∀ σ' I' H', Same I I' → St p t I' G H' σ' ρ' → Off ws σ σ' → Q σ' H') (fun _ => False) → tg v σ H Q
def LGs (ws : List Nat) (tg : TGs) (g : List D → DS → Out DS) : Prop := ∀ (I G H : Hp) (σ : L2.St) (ρ : DS) (vs : List V) (ds : List D) (Q : L2.St → Hp → Prop), St p t I G H σ ρ → RepL p I ds vs →
  OutP (g ds ρ) (fun ρ' => ∀ σ' I' H', Same I I' → St p t I' G H' σ' ρ' → Off ws σ σ' → Q σ' H') (fun _ => False) → tg vs σ H Q
/-- what a loop walks: the items ds -/
def Src (I : Hp) (J : It) (ds : List D) : Prop := ∃ (Gd : Hp → Prop) (Y : Nat → Hp → V → Hp → Prop), Walk J ds.length Gd Y ∧ (∀ H, Same I H → Gd H) ∧
  ∀ i H x H' I1, i < ds.length → Same I I1 → Same I1 H → Y i H x H' → ∃ I2 d, Ext I1 H I2 H' ∧ ds[i]? = some d ∧ Rep p I2 d x
def LI (wi : TI) (f : FI) : Prop := ∀ (I G H : Hp) (σ : L2.St) (ρ : DS) (Q : It → Hp → Prop), St p t I G H σ ρ →
  OutP (f ρ) (fun x => ∀ I' H' J, Same I I' → St p t I' G H' σ x.2 → Src p I' J x.1 → Q J H') (PostX p W I G) → wi σ H Q
end
theorem PostF.mono {p : Par} {t : Addr} {I I1 G : Hp} {Z : Ends} {x : Fl} (s : Same I I1) (h : PostF p t I G Z x) : PostF p t I1 G Z x := by
  cases x with
  | nx ρ => exact fun I' H' σ z => h I' H' σ (s.trans z)
  | rt d ρ => exact fun I' H' σ v z => h I' H' σ v (s.trans z)
  | bk ρ => exact fun I' H' σ z => h I' H' σ (s.trans z)
  | ct ρ => exact fun I' H' σ z => h I' H' σ (s.trans z)
def DS1 (X : Cx) (cl : Cls) (t : Addr) (W : WX) (s : Stmt) (f : FS) : Prop := PS X s (RS (pr X cl) t W f)
def DSs (X : Cx) (cl : Cls) (t : Addr) (W : WX) (s : List Stmt) (f : FS) : Prop := PSs X s (RS (pr X cl) t W f)
section
variable (p : Par) (t : Addr)
def RG (ws : List Nat) (g : FG) : TG := fun v σ H Q => ∃ I G ρ d, St p t I G H σ ρ ∧ Rep p I d v ∧ OutP (g d ρ) (fun ρ' => ∀ σ' I' H', Same I I' → St p t I' G H' σ' ρ' → Off ws σ σ' → Q σ' H') (fun _ => False)
def RGs (ws : List Nat) (g : List D → DS → Out DS) : TGs := fun vs σ H Q => ∃ I G ρ ds, St p t I G H σ ρ ∧ RepL p I ds vs ∧ OutP (g ds ρ) (fun ρ' => ∀ σ' I' H', Same I I' → St p t I' G H' σ' ρ' → Off ws σ σ' → Q σ' H') (fun _ => False)
end
structure DG (X : Cx) (cl : Cls) (t : Addr) (ws : List Nat) (e : Expr) (g : FG) : Prop where
  pg : PG X e (RG (pr X cl) t ws g)
  ne : ∀ d ρ er, g d ρ ≠ .exc er
structure DGs (X : Cx) (cl : Cls) (t : Addr) (ws : List Nat) (es : List Expr) (g : List D → DS → Out DS) : Prop where
  pg : PGs X es (RGs (pr X cl) t ws g)
  ne : ∀ d ρ er, g d ρ ≠ .exc er
theorem DG.mk' {X : Cx} {cl : Cls} {t : Addr} {ws : List Nat} {e : Expr} {g : FG} (h : ∃ tg, PG X e tg ∧ LG (pr X cl) t ws tg g) (ne : ∀ d ρ er, g d ρ ≠ .exc er) : DG X cl t ws e g :=
  let ⟨_, pg, lg⟩ := h
  ⟨⟨fun pins s σ H v u Q I r ⟨J, G, ρ, d, st, q1, q2⟩ => pg.run pins s σ H v u Q I r (lg J G H σ ρ v d Q st q1 q2)⟩, ne⟩
theorem DG.ex {X : Cx} {cl : Cls} {t : Addr} {ws : List Nat} {e : Expr} {g : FG} (h : DG X cl t ws e g) : (∃ tg, PG X e tg ∧ LG (pr X cl) t ws tg g) ∧ ∀ d ρ er, g d ρ ≠ .exc er :=
  ⟨⟨_, h.pg, fun I G _ _ ρ _ d _ s r q => ⟨I, G, ρ, d, s, r, q⟩⟩, h.ne⟩
theorem DGs.mk' {X : Cx} {cl : Cls} {t : Addr} {ws : List Nat} {es : List Expr} {g : List D → DS → Out DS} (h : ∃ tg, PGs X es tg ∧ LGs (pr X cl) t ws tg g) (ne : ∀ d ρ er, g d ρ ≠ .exc er) : DGs X cl t ws es g :=
  let ⟨_, pg, lg⟩ := h
  ⟨⟨fun pins s σ H v u Q I r ⟨J, G, ρ, d, st, q1, q2⟩ => pg.run pins s σ H v u Q I r (lg J G H σ ρ v d Q st q1 q2)⟩, ne⟩
theorem DGs.ex {X : Cx} {cl : Cls} {t : Addr} {ws : List Nat} {es : List Expr} {g : List D → DS → Out DS} (h : DGs X cl t ws es g) : (∃ tg, PGs X es tg ∧ LGs (pr X cl) t ws tg g) ∧ ∀ d ρ er, g d ρ ≠ .exc er :=
  ⟨⟨_, h.pg, fun I G _ _ ρ _ d _ s r q => ⟨I, G, ρ, d, s, r, q⟩⟩, h.ne⟩
structure DI (X : Cx) (cl : Cls) (t : Addr) (W : WX) (tg e : Expr) (f : FI) : Prop where
  ex : ∃ wi, PI X tg e wi ∧ LI (pr X cl) t W wi f

section
variable {X : Cx} {cl : Cls} {t : Addr} {W : WX} {e a b c iter tg : Expr} {es rest : List Expr} {fa fb fc : FE} {ff : FA} {tt : FT} {fi : FI} {g : FG} {pos : Pos} {st : Stmt} {sts : List Stmt} {fs fs' : FS} {ws : List Nat}
theorem DS1.mk {ts : TS} (h : PS X st ts) (l : LS (pr X cl) t W ts fs) : DS1 X cl t W st fs := ⟨fun pins s σ H Z I ⟨J, G, ρ, q, z⟩ => h.run pins s σ H Z I (l J G H σ ρ Z q z)⟩
theorem DS1.ex (h : DS1 X cl t W st fs) : ∃ ts, PS X st ts ∧ LS (pr X cl) t W ts fs := ⟨_, h, fun I G _ _ ρ _ s q => ⟨I, G, ρ, s, q⟩⟩
theorem DSs.mk {ts : TS} (h : PSs X sts ts) (l : LS (pr X cl) t W ts fs) : DSs X cl t W sts fs := ⟨fun pins s σ H Z I ⟨J, G, ρ, q, z⟩ => h.run pins s σ H Z I (l J G H σ ρ Z q z)⟩
theorem DSs.ex (h : DSs X cl t W sts fs) : ∃ ts, PSs X sts ts ∧ LS (pr X cl) t W ts fs := ⟨_, h, fun I G _ _ ρ _ s q => ⟨I, G, ρ, s, q⟩⟩

theorem dss_nil : DSs X cl t W [] sNext := DSs.mk pss_nil fun I G H σ ρ Z s q => q I H σ (Same.refl _) s
theorem LS.seq {ts us : TS} (h1 : LS (pr X cl) t W ts fs) (h2 : LS (pr X cl) t W us fs') : LS (pr X cl) t W (tSeq ts us) (sSeq fs fs') := by
  intro I G H σ ρ Z s q
  refine h1 I G H σ ρ _ s ?_
  unfold sSeq at q
  rw [outP_bind] at q
  refine q.imp (fun x q => ?_) fun _ z => z
  cases x with
  | nx ρ1 =>
    intro I1 H1 σ1 s1 st1
    refine h2 I1 G H1 σ1 ρ1 Z st1 (q.imp (fun y q => q.mono s1) fun er z => z.mono s1)
  | rt d ρ1 => exact q
  | bk ρ1 => exact q
  | ct ρ1 => exact q
theorem dss_cons (h1 : DS1 X cl t W st fs) (h2 : DSs X cl t W sts fs') : DSs X cl t W (st :: sts) (sSeq fs fs') := by
  obtain ⟨ts, ps, ls⟩ := h1.ex
  obtain ⟨us, pu, lu⟩ := h2.ex
  exact DSs.mk (pss_cons ps pu) (LS.seq ls lu)
theorem dss_one (h1 : DS1 X cl t W st fs) : DSs X cl t W [st] fs := by
  obtain ⟨ts, ps, ls⟩ := h1.ex
  exact DSs.mk (pss_one ps) ls
/-- slots that are not asked for any more are forgotten -/
theorem dss_kill (ks : List Nat) (h : DSs X cl t W sts fs) : DSs X cl t W sts (sSeq (sKill ks) fs) := by
  obtain ⟨us, pu, lu⟩ := h.ex
  exact DSs.mk pu fun I G H σ ρ Z s q => lu I G H σ (kill ks ρ) Z (s.kill ks) q
theorem ds_kill (ks : List Nat) (h : DS1 X cl t W st fs) : DS1 X cl t W st (sSeq fs (sKill ks)) := by
  obtain ⟨us, pu, lu⟩ := h.ex
  refine DS1.mk pu fun I G H σ ρ Z s q => lu I G H σ ρ Z s ?_
  unfold sSeq at q
  rw [outP_bind] at q
  refine q.imp (fun x q => ?_) fun _ z => z
  cases x with
  | nx ρ1 => exact fun I1 H1 σ1 s1 st1 => q I1 H1 σ1 s1 (st1.kill ks)
  | rt d ρ1 => exact q
  | bk ρ1 => exact q
  | ct ρ1 => exact q
theorem ds_pass : DS1 X cl t W (.Pass pos) sNext := DS1.mk ps_pass fun I G H σ ρ Z s q => q I H σ (Same.refl _) s
theorem ds_break : DS1 X cl t W (.Break pos) sBreak := DS1.mk ps_break fun I G H σ ρ Z s q => q I H σ (Same.refl _) s
theorem ds_continue : DS1 X cl t W (.Continue pos) sCont := DS1.mk ps_continue fun I G H σ ρ Z s q => q I H σ (Same.refl _) s
theorem ds_expr (ha : DE X cl t W e fa) (hs : swapsWith e none pos.line X.env = pure false := by rfl) : DS1 X cl t W (.Expr e pos) (sExpr fa) := by
  obtain ⟨te, pe, le⟩ := ha.ex
  refine DS1.mk (ps_expr pe hs) fun I G H σ ρ Z s q => le I G H σ ρ _ s ?_
  unfold sExpr at q
  rw [outP_bind] at q
  exact q.imp (fun x q I1 H1 v s1 st1 r1 => q I1 H1 σ s1 st1) fun _ z => z
theorem ds_ret (ha : DE X cl t W e fa) : DS1 X cl t W (.Return (some e) pos) (sRet fa) := by
  obtain ⟨te, pe, le⟩ := ha.ex
  refine DS1.mk (ps_ret (PE.mv pe)) fun I G H σ ρ Z s q => le.keep s ?_
  unfold sRet at q
  rw [keep_bind, outP_bind] at q
  exact q.imp (fun x q I1 H1 v s1 st1 r1 => q I1 H1 σ v s1 st1 r1) fun _ z => z
theorem ds_retN : DS1 X cl t W (.Return none pos) sRetN := DS1.mk ps_retN fun I G H σ ρ Z s q => q I H σ .non (Same.refl _) s rfl
theorem ds_if (hc : DT X cl t W c tt) (ha : DSs X cl t W sts fs) {sts' : List Stmt} (hb : DSs X cl t W sts' fs') : DS1 X cl t W (.If c sts sts' pos) (sIf tt fs fs') := by
  obtain ⟨tc, pc, lc⟩ := hc.ex
  obtain ⟨ts, ps, ls⟩ := ha.ex
  obtain ⟨us, pu, lu⟩ := hb.ex
  refine DS1.mk (ps_if pc ps pu) fun I G H σ ρ Z s q => lc I G H σ ρ _ s ?_
  unfold sIf at q
  rw [outP_bind] at q
  refine q.imp (fun x q I1 H1 s1 st1 => ?_) fun _ z => z
  obtain ⟨k, ρ1⟩ := x
  cases k with
  | true =>
    show ts Z σ H1
    exact ls I1 G H1 σ ρ1 Z st1 (q.imp (fun y q => q.mono s1) fun _ z => z.mono s1)
  | false =>
    show us Z σ H1
    exact lu I1 G H1 σ ρ1 Z st1 (q.imp (fun y q => q.mono s1) fun _ z => z.mono s1)

/-! ### targets -/
theorem dg_name (i : Nat) {x : Str} (hN : X.N.Nodup) (hi : X.N[i]? = some x := by rfl) (hx : Loc X.env.scope x := by first | exact Or.inl rfl | exact Or.inr rfl)
    (hf : X.fn x = true ∨ X.env.scope.names.lookup x = some .local := by first | exact .inl rfl | exact .inr rfl | assumption) : DG X cl t [i] (.Name x pos) (Den.gName i) := by
  refine DG.mk' ⟨_, pg_name hN hi hx hf, fun I G H σ ρ v d Q s r q => ?_⟩ (fun d ρ er h => by cases h)
  show Q (σ.set i (some v)) H
  refine q _ I H (Same.refl _) (s.setFz r) ⟨by simp, fun j hj => ?_⟩
  rw [List.getElem?_set, if_neg (fun z => hj (by simp [z]))]
theorem dgs_nil : DGs X cl t [] [] Den.gsNil := by
  refine DGs.mk' ⟨_, pgs_nil, fun I G H σ ρ vs ds Q s r q => ?_⟩ (fun d ρ er h => by cases d <;> cases h)
  cases ds with
  | nil => cases r; exact ⟨rfl, q σ I H (Same.refl _) s ⟨rfl, fun _ _ => rfl⟩⟩
  | cons d ds => exact q.elim
theorem dgs_cons {e : Expr} {es : List Expr} {g : FG} {gs : List D → DS → Out DS} {ws ws' : List Nat} (h1 : DG X cl t ws e g) (h2 : DGs X cl t ws' es gs)
    (hs : (assignEach (e :: es) X.env).map (·.2) = assign e X.env :: (assignEach es X.env).map (·.2) := by rfl) : DGs X cl t (ws ++ ws') (e :: es) (Den.gsCons g gs) := by
  obtain ⟨⟨tg, pg, lg⟩, n1⟩ := h1.ex
  obtain ⟨⟨tgs, pgs, lgs⟩, n2⟩ := h2.ex
  refine DGs.mk' ⟨_, pgs_cons pg pgs hs, fun I G H σ ρ vs ds Q s r q => ?_⟩ (fun d ρ er h => ?_)
  · cases ds with
    | nil => exact q.elim
    | cons d ds =>
      obtain ⟨v, vr, e, r1, r2⟩ := r
      refine ⟨v, vr, e, lg I G H σ ρ v d _ s r1 ?_⟩
      unfold Den.gsCons at q
      simp only at q
      rw [outP_bind] at q
      refine q.imp (fun ρ1 q σ1 I1 H1 s1 st1 k1 => ?_) fun _ z => z
      refine lgs I1 G H1 σ1 ρ1 vr ds _ st1 (r2.mono s1) (q.imp (fun ρ2 q σ2 I2 H2 s2 st2 k2 => q σ2 I2 H2 (s1.trans s2) st2 ⟨k2.len.trans k1.len, fun i hi => ?_⟩) fun _ z => z)
      rw [k2.eq i fun z => hi (List.mem_append_right _ z), k1.eq i fun z => hi (List.mem_append_left _ z)]
  · cases d with
    | nil => cases h
    | cons d ds =>
      unfold Den.gsCons at h
      simp only at h
      cases e1 : g d ρ with
      | bad => rw [e1] at h; cases h
      | exc e => exact n1 _ _ _ e1
      | ok ρ1 => rw [e1] at h; exact n2 _ _ _ h
theorem dg_tup {es : List Expr} {k : Nat} {gs : List D → DS → Out DS} {n : Nat} {ws : List Nat} (hc : X.calm = true) (h : DGs X cl t ws es gs) (hl : ∀ ds ρ ρ', gs ds ρ = .ok ρ' → ds.length = n)
    (hn : (assignEach es X.env).length = n := by rfl) (hst : (assignEach es X.env).findIdx? (·.1) = none := by rfl) : DG X cl t ws (.Tuple es k pos) (Den.gTup gs) := by
  obtain ⟨⟨tgs, pgs, lgs⟩, n2⟩ := h.ex
  refine DG.mk' ⟨_, pg_tup hc pgs hn hst, fun I G H σ ρ v d Q s r q => ?_⟩ (fun d ρ er h => ?_)
  · cases d with
    | tup ds =>
      obtain ⟨a, vs, e, h1, h2, _⟩ := r
      refine ⟨a, vs, e, sqt_mono s.b.ih h1, ?_, lgs I G H σ ρ vs ds Q s h2 q⟩
      have q' : OutP (gs ds ρ) _ _ := q
      cases e1 : gs ds ρ with
      | bad => rw [e1] at q'; exact q'.elim
      | exc e => rw [e1] at q'; exact q'.elim
      | ok ρ1 => rw [← h2.length]; exact hl _ _ _ e1
    | _ => exact q.elim
  · cases d with
    | tup ds => exact n2 _ _ _ h
    | _ => cases h
theorem gsNil_len {ds : List D} {ρ ρ' : DS} (h : Den.gsNil ds ρ = .ok ρ') : ds.length = 0 := by cases ds <;> first | rfl | cases h
theorem gsCons_len {g : FG} {gs : List D → DS → Out DS} {n : Nat} (hl : ∀ ds ρ ρ', gs ds ρ = .ok ρ' → ds.length = n) {ds : List D} {ρ ρ' : DS} (h : Den.gsCons g gs ds ρ = .ok ρ') : ds.length = n + 1 := by
  cases ds with
  | nil => cases h
  | cons d ds =>
    unfold Den.gsCons at h
    simp only at h
    cases e1 : g d ρ with
    | bad => rw [e1] at h; cases h
    | exc e => rw [e1] at h; cases h
    | ok ρ1 => rw [e1] at h; simp [hl _ _ _ h]
theorem ds_asg {ws : List Nat} (ha : DE X cl t W e fa) (hg : DG X cl t ws tg g) (hs : swapsWithSole [tg] e pos.line X.env = pure false := by rfl) (hw : swappedStores [tg] e X.env = pure none := by rfl)
    (h1 : (assignEach [tg] X.env).map (·.2) = [assign tg X.env] := by rfl) : DS1 X cl t W (.Assign [tg] e pos) (sAsg fa g) := by
  obtain ⟨te, pe, le⟩ := ha.ex
  obtain ⟨⟨gt, pg, lg⟩, ng⟩ := hg.ex
  refine DS1.mk (ps_asg (PE.mv pe) pg hs hw h1) fun I G H σ ρ Z s q => le.keep s ?_
  unfold sAsg at q
  rw [keep_bind, outP_bind] at q
  refine q.imp (fun x q I1 H1 v s1 st1 r1 => lg I1 G H1 σ x.2 v x.1 _ st1 r1 ?_) fun _ z => z
  rw [outP_bind] at q
  cases e1 : g x.1 x.2 with
  | bad => rw [e1] at q; exact q.elim
  | exc er => exact absurd e1 (ng _ _ _)
  | ok ρ1 => rw [e1] at q; exact fun σ2 I2 H2 s2 st2 _ => q I2 H2 σ2 (s1.trans s2) st2
theorem ds_set {i : Nat} {x : Str} {pos' : Pos} (hN : X.N.Nodup) (ha : DE X cl t W e fa) (hi : X.N[i]? = some x := by rfl) (hx : Loc X.env.scope x := by first | exact Or.inl rfl | exact Or.inr rfl) (hs : swapsWith e (some (.Name x pos')) pos.line X.env = pure false := by rfl)
    (hf : X.fn x = true ∨ X.env.scope.names.lookup x = some .local := by first | exact .inl rfl | exact .inr rfl | assumption) : DS1 X cl t W (.Assign [.Name x pos'] e pos) (sAsg fa (Den.gName i)) := by
  obtain ⟨te, pe, le⟩ := ha.ex
  refine DS1.mk (ps_set hN hi hx (PE.mv pe) hs hf) fun I G H σ ρ Z s q => le.keep s ?_
  unfold sAsg at q
  rw [keep_bind, outP_bind] at q
  exact q.imp (fun x q I1 H1 v s1 st1 r1 => q I1 H1 _ s1 (st1.setFz r1)) fun _ z => z
theorem ds_new {i : Nat} {x : Str} {pos' : Pos} {fn : FN} (hN : X.N.Nodup) (ha : DNw X cl t W e fn) (hi : X.N[i]? = some x := by rfl) (hx : Loc X.env.scope x := by first | exact Or.inl rfl | exact Or.inr rfl) (hs : swapsWith e (some (.Name x pos')) pos.line X.env = pure false := by rfl)
    (hf : X.fn x = true ∨ X.env.scope.names.lookup x = some .local := by first | exact .inl rfl | exact .inr rfl | assumption) : DS1 X cl t W (.Assign [.Name x pos'] e pos) (sNew fn i) := by
  obtain ⟨te, pe, le⟩ := ha.ex
  refine DS1.mk (ps_set hN hi hx pe hs hf) fun I G H σ ρ Z s q => le I G H σ ρ _ s ?_
  unfold sNew at q
  rw [outP_bind] at q
  exact q.imp (fun x q I1 H1 a s1 st1 i1 g1 o1 n1 => q I1 H1 _ s1 (st1.setOw i1 g1 o1 n1)) fun _ z => z
/-- a new list or dict that stays as it is -/
theorem de_new {fn : FN} (h : DNw X cl t W e fn) : DE X cl t W e (fOfN fn) := by
  obtain ⟨te, pe, le⟩ := h.ex
  refine DE.mk (PE.mv pe) fun I G H σ ρ Q s q => le I G H σ ρ _ s ?_
  unfold fOfN at q
  rw [outP_bind] at q
  refine q.imp (fun x q I1 H1 a s1 st1 i1 g1 o1 n1 => ?_) fun _ z => z
  exact o1.keep i1 g1 st1.b fun u r => q _ _ _ (s1.trans (same_new i1)) (st1.keepAt i1 g1 n1) r

/-! ### loops -/
theorem drop_cons_of {α : Type} {ds : List α} {i : Nat} {d : α} (h : ds[i]? = some d) : ds.drop i = d :: ds.drop (i + 1) := by
  have hi : i < ds.length := (List.getElem?_eq_some_iff.mp h).1
  rw [List.drop_eq_getElem_cons hi]
  congr 1
  rw [List.getElem?_eq_getElem hi] at h
  exact Option.some.inj h
theorem ds_for {ws : List Nat} (hp : PassesOwn (model X.prog X.w) X.A X.env X.xe) (hc : X.calm = true) (hi : DI X cl t W tg iter fi) (hg : DG X cl t ws tg g) (hb : DSs X cl t W sts fs)
    (hs : ∀ x, foldedSetIterable iter X.env x = pure x := by intro _; rfl) : DS1 X cl t W (.For tg iter sts [] pos) (sFor fi g fs) := by
  obtain ⟨wi, pi, li⟩ := hi
  obtain ⟨⟨gt, pg, lg⟩, ng⟩ := hg.ex
  obtain ⟨ts, ps, ls⟩ := hb.ex
  refine DS1.mk (ps_for hp hc pi pg ps hs) fun I G H σ ρ Z s q => li I G H σ ρ _ s ?_
  unfold sFor at q
  rw [outP_bind] at q
  refine q.imp (fun x q I1 H1 J s1 st1 src => ?_) fun _ z => z
  obtain ⟨Gd, Y, wk, hG, hY⟩ := src
  refine for_it wk (fun i σ' H' => ∃ I2 ρ2, Same I1 I2 ∧ St (pr X cl) t I2 G H' σ' ρ2 ∧ OutP (forIn g fs (x.1.drop i) ρ2) (PostF (pr X cl) t I2 G Z) (PostX (pr X cl) W I2 G))
    ⟨I1, x.2, Same.refl _, st1, by rw [List.drop_zero]; exact q.imp (fun y q => q.mono s1) fun _ z => z.mono s1⟩ ?_ ?_ ?_
  · rintro i σ' H' _ ⟨I2, ρ2, s2, st2, _⟩
    exact hG H' (s2.trans st2.b.ih)
  · rintro i u σ' H' H3 hlt ⟨I2, ρ2, s2, st2, q2⟩ y
    obtain ⟨I3, d, x3, hd, r3⟩ := hY i H' u H3 I2 hlt s2 st2.b.ih y
    have st3 := st2.ext x3
    rw [drop_cons_of hd] at q2
    unfold forIn at q2
    rw [outP_bind] at q2
    cases e1 : g d ρ2 with
    | bad => rw [e1] at q2; exact q2.elim
    | exc er => exact absurd e1 (ng _ _ _)
    | ok ρ3 =>
      rw [e1] at q2
      refine lg I3 G H3 σ' ρ2 u d _ st3 r3 ?_
      rw [e1]
      intro σ4 I4 H4 s4 st4 _
      have s24 : Same I2 I4 := x3.ii.trans s4
      have q3 : OutP ((fs ρ3).bind _) _ _ := q2
      rw [outP_bind] at q3
      refine ls I4 G H4 σ4 ρ3 _ st4 (q3.imp (fun y q => ?_) fun _ z => z.mono s24)
      cases y with
      | nx ρ5 => exact fun I5 H5 σ5 s5 st5 => ⟨I5, ρ5, s2.trans (s24.trans s5), st5, q.imp (fun y q => q.mono (s24.trans s5)) fun _ z => z.mono (s24.trans s5)⟩
      | ct ρ5 => exact fun I5 H5 σ5 s5 st5 => ⟨I5, ρ5, s2.trans (s24.trans s5), st5, q.imp (fun y q => q.mono (s24.trans s5)) fun _ z => z.mono (s24.trans s5)⟩
      | bk ρ5 => exact fun I5 H5 σ5 s5 st5 => q I5 H5 σ5 (s24.trans s5) st5
      | rt d5 ρ5 => exact fun I5 H5 σ5 v5 s5 st5 r5 => q I5 H5 σ5 v5 (s24.trans s5) st5 r5
  · rintro σ' H' ⟨I2, ρ2, s2, st2, q2⟩
    rw [List.drop_length] at q2
    exact q2 I2 H' σ' (Same.refl _) st2
theorem ds_while (n : Nat) (hp : PassesOwn (model X.prog X.w) X.A X.env X.xe) (hc : DT X cl t W c tt) (hb : DSs X cl t W sts fs) : DS1 X cl t W (.While c sts [] pos) (sWhile tt fs n) := by
  obtain ⟨tc, pc, lc⟩ := hc.ex
  obtain ⟨ts, ps, ls⟩ := hb.ex
  refine DS1.mk (ps_while hp pc ps) fun I G H σ ρ Z s q => ?_
  refine ⟨fun m σ' H' => ∃ I2 ρ2, Same I I2 ∧ St (pr X cl) t I2 G H' σ' ρ2 ∧ OutP (sWhile tt fs m ρ2) (PostF (pr X cl) t I2 G Z) (PostX (pr X cl) W I2 G), ⟨n, I, ρ, Same.refl _, s, q⟩, ?_⟩
  rintro m σ' H' ⟨I2, ρ2, s2, st2, q2⟩
  cases m with
  | zero => exact q2.elim
  | succ m =>
    unfold sWhile at q2
    rw [outP_bind] at q2
    refine lc I2 G H' σ' ρ2 _ st2 (q2.imp (fun x q3 I3 H3 s3 st3 => ?_) fun _ z => z)
    obtain ⟨k, ρ3⟩ := x
    cases k with
    | false =>
      rw [if_neg Bool.false_ne_true]
      exact q3 I3 H3 σ' s3 st3
    | true =>
      rw [if_pos rfl]
      refine ⟨fun σ4 H4 => ∃ I2 ρ2, Same I I2 ∧ St (pr X cl) t I2 G H4 σ4 ρ2 ∧ OutP (sWhile tt fs m ρ2) (PostF (pr X cl) t I2 G Z) (PostX (pr X cl) W I2 G), fun σ4 H4 h => ⟨m, Nat.lt_succ_self _, h⟩, ?_⟩
      have q4 : OutP ((fs ρ3).bind _) _ _ := q3
      rw [outP_bind] at q4
      refine ls I3 G H3 σ' ρ3 _ st3 (q4.imp (fun y q => ?_) fun _ z => z.mono s3)
      cases y with
      | nx ρ5 => exact fun I5 H5 σ5 s5 st5 => ⟨I5, ρ5, s2.trans (s3.trans s5), st5, q.imp (fun y q => q.mono (s3.trans s5)) fun _ z => z.mono (s3.trans s5)⟩
      | ct ρ5 => exact fun I5 H5 σ5 s5 st5 => ⟨I5, ρ5, s2.trans (s3.trans s5), st5, q.imp (fun y q => q.mono (s3.trans s5)) fun _ z => z.mono (s3.trans s5)⟩
      | bk ρ5 => exact fun I5 H5 σ5 s5 st5 => q I5 H5 σ5 (s3.trans s5) st5
      | rt d5 ρ5 => exact fun I5 H5 σ5 v5 s5 st5 r5 => q I5 H5 σ5 v5 (s3.trans s5) st5 r5
end
end Den

/-! Den4: comprehensions; what loops walk. -/
namespace Den
open PySem L2

/-! ### states: others' part, forgotten slots -/
section
variable {p : Par} {t : Addr} {I G G' H : Hp} {σ : L2.St} {ρ : DS}
theorem St.subG (s : St p t I G H σ ρ) (g : Same G' G) : St p t I G' H σ ρ :=
  ⟨⟨s.b.ih, g.trans s.b.gh, fun a h => g.free (s.b.ig a h)⟩, fun i sv h => by
    obtain ⟨v, h1, h2⟩ := s.sl i sv h
    refine ⟨v, h1, ?_⟩
    cases sv with
    | fz d => exact h2
    | ow d => obtain ⟨a, e, q1, q2, q3⟩ := h2; exact ⟨a, e, q1, g.free q2, q3⟩
    | io d => obtain ⟨e, q1, q2, q3⟩ := h2; exact ⟨e, q1, g.free q2, q3⟩, s.ap, s.len⟩
theorem St.addG {a : Addr} {o : HO} (s : St p t I G H σ ρ) (h : H a = some o) (hi : I a = none) (hg : G a = none)
    (hn : ∀ (i : Nat) (sv : SV), ρ[i]? = some (some sv) → sv.own = true → σ[i]? ≠ some (some (V.ref a))) : St p t I (upd G a o) H σ ρ := by
  refine ⟨⟨s.b.ih, fun b u e => ?_, fun b q => ?_⟩, fun i sv e => ?_, s.ap, s.len⟩
  · by_cases hb : b = a
    · subst hb; rw [upd_same] at e; cases e; exact h
    · rw [upd_ne hb] at e; exact s.b.gh _ _ e
  · by_cases hb : b = a
    · subst hb; exact absurd hi q
    · rw [upd_ne hb]; exact s.b.ig b q
  · obtain ⟨v, h1, h2⟩ := s.sl i sv e
    refine ⟨v, h1, ?_⟩
    cases sv with
    | fz d => exact h2
    | ow d =>
      obtain ⟨b, e', q1, q2, q3⟩ := h2
      subst e'
      have nb : b ≠ a := fun z => hn i _ e rfl (z ▸ h1)
      exact ⟨b, rfl, q1, by rw [upd_ne nb]; exact q2, q3⟩
    | io d =>
      obtain ⟨e', q1, q2, q3⟩ := h2
      subst e'
      have nb : t ≠ a := fun z => hn i _ e rfl (z ▸ h1)
      exact ⟨rfl, q1, by rw [upd_ne nb]; exact q2, q3⟩
/-- an object of the others changes -/
theorem St.chG {a : Addr} {o o' : HO} (s : St p t I (upd G a o) H σ ρ) : St p t I (upd G a o') (upd H a o') σ ρ := by
  have hi : I a = none := by
    cases q : I a with
    | none => rfl
    | some u => have z := s.b.ig a (by rw [q]; simp); rw [upd_same] at z; cases z
  have g2 : ∀ b, (upd G a o) b = none → b ≠ a := fun b h z => by subst z; rw [upd_same] at h; cases h
  have g3 : ∀ b, (upd G a o) b = none → (upd G a o') b = none := fun b h => by
    have nb := g2 b h
    rw [upd_ne nb] at h ⊢
    exact h
  refine ⟨⟨fun b u e => ?_, fun b u e => ?_, fun b q => g3 b (s.b.ig b q)⟩, fun i sv e => ?_, s.ap, s.len⟩
  · rw [upd_ne (ne_of_none e hi)]; exact s.b.ih _ _ e
  · by_cases hb : b = a
    · subst hb; rw [upd_same] at e ⊢; exact e
    · rw [upd_ne hb] at e ⊢; exact s.b.gh _ _ (by rw [upd_ne hb]; exact e)
  · obtain ⟨v, h1, h2⟩ := s.sl i sv e
    refine ⟨v, h1, ?_⟩
    cases sv with
    | fz d => exact h2
    | ow d => obtain ⟨b, e', q1, q2, q3⟩ := h2; exact ⟨b, e', q1, g3 b q2, q3.mono (Same.refl _) fun u z => by rw [upd_ne (g2 b q2)]; exact z⟩
    | io d => obtain ⟨e', q1, q2, q3⟩ := h2; exact ⟨e', q1, g3 t q2, q3.mono (Same.refl _) fun u z => by rw [upd_ne (g2 t q2)]; exact z⟩
theorem wipe_get (σ : L2.St) : ∀ (ws : List Nat) (i : Nat), (wipe σ ws)[i]? = if i ∈ ws then (σ[i]?.map fun _ => none) else σ[i]?
  | [], i => by simp [wipe]
  | w :: ws, i => by
    show ((wipe σ ws).set w none)[i]? = _
    rw [List.getElem?_set, wipe_length, wipe_get σ ws i]
    by_cases h : w = i
    · subst h
      rw [if_pos rfl, if_pos List.mem_cons_self]
      by_cases hl : w < σ.length
      · rw [if_pos hl, List.getElem?_eq_getElem hl]; rfl
      · rw [if_neg hl, List.getElem?_eq_none (by omega)]; rfl
    · rw [if_neg h]
      by_cases hm : i ∈ ws
      · rw [if_pos hm, if_pos (List.mem_cons_of_mem _ hm)]
      · rw [if_neg hm, if_neg (fun z => (List.mem_cons.mp z).elim (fun e => h e.symm) hm)]
theorem wipe_eq {σ σ' : L2.St} {ws : List Nat} (hl : σ'.length = σ.length) (h : ∀ i, i ∉ ws → σ'[i]? = σ[i]?) : wipe σ' ws = wipe σ ws := by
  apply List.ext_getElem?
  intro i
  rw [wipe_get, wipe_get]
  by_cases hm : i ∈ ws
  · rw [if_pos hm, if_pos hm]
    by_cases hi : i < σ.length
    · rw [List.getElem?_eq_getElem hi, List.getElem?_eq_getElem (by omega)]; rfl
    · rw [List.getElem?_eq_none (by omega), List.getElem?_eq_none (by omega)]
  · rw [if_neg hm, if_neg hm, h i hm]
theorem St.wipe (s : St p t I G H σ ρ) (ws : List Nat) : St p t I G H (wipe σ ws) (Den.kill ws ρ) := by
  have k : ∀ (i : Nat) (sv : SV), (Den.kill ws ρ)[i]? = some (some sv) → (L2.wipe σ ws)[i]? = σ[i]? := fun i sv h => by
    rw [wipe_get]
    by_cases hm : i ∈ ws
    · exact absurd h (kill_not ws ρ hm)
    · rw [if_neg hm]
  refine ⟨s.b, fun i sv h => ?_, fun i j x y a h1 o1 h2 o2 e1 e2 => ?_, ?_⟩
  · rw [k i sv h]; exact s.sl i sv (kill_of _ _ h)
  · rw [k i x h1] at e1
    rw [k j y h2] at e2
    exact s.ap i j x y a (kill_of _ _ h1) o1 (kill_of _ _ h2) o2 e1 e2
  · rw [kill_len, wipe_length]; exact s.len
theorem St.unwipe {ws : List Nat} (s : St p t I G H (L2.wipe σ ws) ρ) : St p t I G H σ ρ := by
  have k : ∀ (i : Nat) (sv : SV), ρ[i]? = some (some sv) → (L2.wipe σ ws)[i]? = σ[i]? := fun i sv h => by
    obtain ⟨v, h1, _⟩ := s.sl i sv h
    rw [wipe_get] at h1 ⊢
    by_cases hm : i ∈ ws
    · rw [if_pos hm] at h1
      cases q : σ[i]? with
      | none => rw [q] at h1; cases h1
      | some u => rw [q] at h1; cases h1
    · rw [if_neg hm]
  refine ⟨s.b, fun i sv h => ?_, fun i j x y a h1 o1 h2 o2 e1 e2 => ?_, ?_⟩
  · rw [← k i sv h]; exact s.sl i sv h
  · rw [← k i x h1] at e1
    rw [← k j y h2] at e2
    exact s.ap i j x y a h1 o1 h2 o2 e1 e2
  · rw [s.len, wipe_length]
theorem St.notOwned (s : St p t I G H σ ρ) {a : Addr} (ha : H a = none ∨ G a ≠ none) (i : Nat) (sv : SV) (h : ρ[i]? = some (some sv)) (o : sv.own = true) : σ[i]? ≠ some (some (V.ref a)) := fun e => by
  obtain ⟨v, h1, h2⟩ := s.sl i sv h
  rw [h1] at e; cases e
  cases sv with
  | fz d => cases o
  | ow d => obtain ⟨b, e, _, g, q⟩ := h2; cases e; rcases ha with z | z; exact q.there z; exact z g
  | io d => obtain ⟨e, _, g, q⟩ := h2; cases e; rcases ha with z | z; exact q.there z; exact z g
theorem outP_nox {α : Type} (o : Out α) (P : α → Prop) (E : Err → Prop) : OutP o.nox P E = OutP o P (fun _ => False) := by cases o <;> rfl
end

/-! ### comprehensions -/
/-- no error goes out of a comprehension -/
abbrev W0 : WX := fun _ _ _ _ => False
structure DTs (X : Cx) (cl : Cls) (t : Addr) (W : WX) (es : List Expr) (f : FT) : Prop where
  pt : PTs X es (RT (pr X cl) t W f)
section
variable {X : Cx} {cl : Cls} {t : Addr} {W : WX} {e a elt iter tg : Expr} {es ifs : List Expr} {fe : FE} {tt : FT} {fi : FI} {g : FG} {pos : Pos} {ws tws : List Nat}
theorem dts_nil : DTs X cl t W [] Den.tYes := ⟨⟨fun pins s σ H Q I ⟨J, G, ρ, st, q⟩ => pts_nil.run pins s σ H Q I (q J H (Same.refl _) st)⟩⟩
theorem dts_one (h : DT X cl t W e tt) : DTs X cl t W [e] tt := ⟨pts_one h⟩
theorem LN.lc {p : Par} {wi : TI} {gt : TG} {ts : TT} {te : TE} (li : LI p t W wi fi) (lg : LG p t tws gt g) (ng : ∀ d ρ er, g d ρ ≠ .exc er) (lt : LT p t W0 ts tt)
    (le : ∀ (I G H : Hp) (σ : L2.St) (ρ : DS) (Q : VK), St p t I G H σ ρ → OutP (fKeep fe ρ) (fun x => ∀ I' H' v, Same I I' → St p t I' G H' σ x.2 → Rep p I' x.1 v → Q v H') (PostX p W0 I G) → te σ H Q)
    (hw : ∀ i ∈ tws, i ∈ ws) : LN p t W (tLc wi gt ts te ws) (nComp fi ws g tt fe) := by
  intro I G H σ ρ Q s q
  refine li I G H σ ρ _ s ?_
  unfold nComp at q
  rw [outP_bind] at q
  refine q.imp (fun x q I1 H1 J s1 st1 src => ?_) fun _ z => z
  obtain ⟨ds, ρ1⟩ := x
  simp only at q st1 src
  by_cases hM : ds.length ≤ MANY
  · rw [if_pos hM, outP_bind, outP_nox] at q
    obtain ⟨Gd, Y, wk, hG, hY⟩ := src
    intro Dd hD
    have gD : G Dd = none := st1.b.gh.free hD
    have iD : I1 Dd = none := st1.b.ih.free hD
    refine lc_it wk (fun i H' => ∃ I2 ρ2 acc vs, Same I1 I2 ∧ H' Dd = some (.lst vs) ∧ RepL p I2 acc vs ∧ acc.length ≤ i ∧ St p t I2 (upd G Dd (.lst vs)) H' (L2.wipe σ ws) ρ2 ∧
      OutP (compIn ws g tt fe (ds.drop i) ρ2) (fun r => ∀ I' H' vs', Same I2 I' → St p t I' (upd G Dd (.lst vs')) H' (L2.wipe σ ws) r.2 → RepL p I' (acc ++ r.1) vs' → Q (.ref Dd) H') (fun _ => False))
      ⟨I1, Den.kill ws ρ1, [], [], Same.refl _, upd_same, rfl, Nat.zero_le _, ?_, ?_⟩ ?_ ?_ ?_
    · have a1 := st1.ext (Ext.newH st1.b.ih (.lst []) hD)
      exact (a1.addG upd_same iD gD (st1.notOwned (.inl hD))).wipe ws
    · rw [List.drop_zero]
      refine q.imp (fun r q I' H' vs' s2 st2 r2 => ?_) fun _ z => z
      have nD : ∀ (i : Nat) (sv : SV), r.2[i]? = some (some sv) → sv.own = true → σ[i]? ≠ some (some (V.ref Dd)) := st2.unwipe.notOwned (.inr (by rw [upd_same]; simp))
      refine q I' H' Dd (s1.trans s2) (st2.unwipe.subG (same_new gD)) ?_ gD ⟨vs', st2.b.gh _ _ upd_same, r2⟩ nD
      cases z : I' Dd with
      | none => rfl
      | some u => have z' := st2.b.ig Dd (by rw [z]; simp); rw [upd_same] at z'; cases z'
    · rintro i H' _ ⟨I2, ρ2, acc, vs, s2, _, _, _, st2, _⟩
      exact hG H' (s2.trans st2.b.ih)
    · rintro i u H' H3 hlt ⟨I2, ρ2, acc, vs, s2, hH, ra, hl, st2, q2⟩ y
      obtain ⟨I3, d, x3, hd, r3⟩ := hY i H' u H3 I2 hlt s2 st2.b.ih y
      have st3 := (st2.ext x3).kill ws
      rw [drop_cons_of hd] at q2
      unfold compIn at q2
      rw [outP_bind] at q2
      refine lg I3 _ H3 _ (Den.kill ws ρ2) u d _ st3 r3 (q2.imp (fun ρ4 q4 σ4 I4 H4 s4 st4 k4 => ?_) fun _ z => z)
      have s24 : Same I2 I4 := x3.ii.trans s4
      have ew : L2.wipe σ4 ws = L2.wipe σ ws := (wipe_eq k4.len fun j hj => k4.eq j fun z => hj (hw j z)).trans (wipe_eq (wipe_length _ _) fun j hj => by rw [wipe_get, if_neg hj])
      have ew2 : L2.wipe σ4 ws = L2.wipe (L2.wipe σ ws) ws := wipe_eq k4.len fun j hj => k4.eq j fun z => hj (hw j z)
      refine ⟨ew, ?_⟩
      rw [outP_bind] at q4
      refine lt I4 _ H4 σ4 ρ4 _ st4 (q4.imp (fun b q5 I5 H5 s5 st5 => ?_) fun _ z => z.elim)
      have s25 : Same I2 I5 := s24.trans s5
      obtain ⟨k, ρ5⟩ := b
      cases k with
      | false =>
        rw [if_neg Bool.false_ne_true]
        have st6 := st5.wipe ws
        simp only at st6
        rw [ew] at st6
        exact ⟨I5, _, acc, vs, s2.trans s25, st5.b.gh _ _ upd_same, ra.mono s25, by omega, st6, q5.imp (fun r q I' H' vs' s' => q I' H' vs' (s25.trans s')) fun _ z => z⟩
      | true =>
        rw [if_pos rfl]
        rw [keep_bind, outP_bind] at q5
        refine le I5 _ H5 σ4 ρ5 _ st5 (q5.imp (fun u6 q6 I6 H6 v6 s6 st6 r6 => ?_) fun _ z => z.elim)
        have s26 : Same I2 I6 := s25.trans s6
        have hlen : vs.length < sizeLine := by
          rw [← ra.length]
          refine Nat.lt_of_le_of_lt hl (Nat.lt_of_lt_of_le hlt (Nat.le_trans hM (by decide)))
        refine ⟨vs, st6.b.gh _ _ upd_same, hlen, I6, Den.kill ws u6.2, acc ++ [u6.1], vs ++ [v6], s2.trans s26, upd_same, (ra.mono s26).append (RepL.one r6), by simp; omega, ?_, ?_⟩
        · have st7 := (st6.chG (o' := .lst (vs ++ [v6]))).wipe ws
          rw [ew] at st7
          exact st7
        · rw [outP_bind] at q6
          refine q6.imp (fun r q I' H' vs' s' st' r' => ?_) fun _ z => z
          refine q I' H' vs' (s26.trans s') st' ?_
          rw [List.append_assoc] at r'
          exact r'
    · rintro H' ⟨I2, ρ2, acc, vs, s2, hH, ra, hl, st2, q2⟩
      rw [List.drop_length] at q2
      exact q2 I2 H' vs (Same.refl _) st2 (by simpa using ra)
  · rw [if_neg hM] at q
    exact q.elim
end
end Den

/-! Den5: comprehensions as expressions; ranges, lists, tuples, texts walked. -/
namespace Den
open PySem L2
section
variable {X : Cx} {cl : Cls} {t : Addr} {W : WX} {e a b elt iter tg : Expr} {es ifs : List Expr} {fa fb fe : FE} {tt : FT} {fi : FI} {g : FG} {pos : Pos} {ws tws : List Nat}
theorem DE.keepLE {f : FE} {I G H : Hp} {σ : L2.St} {ρ : DS} {Q : VK} (s : St (pr X cl) t I G H σ ρ)
    (q : OutP (fKeep f ρ) (fun x => ∀ I' H' v, Same I I' → St (pr X cl) t I' G H' σ x.2 → Rep (pr X cl) I' x.1 v → Q v H') (PostX (pr X cl) W I G)) : eMv (RE (pr X cl) t W f) σ H Q :=
  LE.keep (fun I G _ _ ρ _ s q => ⟨I, G, ρ, s, q⟩) s q
theorem dn_lc {scope : Scope} {own : List (Str × Nat)} (hc : X.calm = true) (hN : X.N.Nodup) (hi : DI X cl t W tg iter fi) (ok : BlkOk X.N X.env.scope scope own)
    (hg : ∀ (s : Shared) (H : Hp) (C : Addr) (cs : List (Str × Addr)) (fp : List Addr), DG (X.blk s H scope (compEnvC scope cs C X.env) fp) cl t tws tg g)
    (ht : ∀ (s : Shared) (H : Hp) (C : Addr) (cs : List (Str × Addr)) (fp : List Addr), DTs (X.blk s H scope (compEnvC scope cs C X.env) fp) cl t W0 ifs tt)
    (he : ∀ (s : Shared) (H : Hp) (C : Addr) (cs : List (Str × Addr)) (fp : List Addr), DE (X.blk s H scope (compEnvC scope cs C X.env) fp) cl t W0 elt fe)
    (ew : own.map (·.2) = ws := by rfl) (hw : ∀ i ∈ tws, i ∈ ws := by decide) (hs : ∀ x, foldedSetIterable iter X.env x = pure x := by intro _; rfl) :
    DNw X cl t W (.ListComp elt [⟨tg, iter, ifs, 0⟩] scope pos) (nComp fi ws g tt fe) := by
  obtain ⟨wi, pi, li⟩ := hi
  subst ew
  refine DNw.mk (pe_lc (g := RG (pr X cl) t tws g) (tt := RT (pr X cl) t W0 tt) (te := eMv (RE (pr X cl) t W0 fe)) hc hN pi ok (fun s H C cs fp => (hg s H C cs fp).pg) (fun s H C cs fp => (ht s H C cs fp).pt) (fun s H C cs fp => PE.mv (te := RE (pr X cl) t W0 fe) (he s H C cs fp)) hs) ?_
  exact LN.lc (p := pr X cl) li (fun I G _ _ ρ _ d _ s r q => ⟨I, G, ρ, d, s, r, q⟩) (hg X.s_0 X.H_0 0 [] []).ne (fun I G _ _ ρ _ s q => ⟨I, G, ρ, s, q⟩) (fun I G H σ ρ Q s q => DE.keepLE (W := W0) s q) hw
/-- name = [..] on one line, the name a local -/
theorem ds_setLc {i : Nat} {y : Str} {py : Pos} {spos : Pos} {scope : Scope} {own : List (Str × Nat)} (hc : X.calm = true) (hN : X.N.Nodup) (hi : DI X cl t W tg iter fi) (ok : BlkOk X.N X.env.scope scope own)
    (hg : ∀ (s : Shared) (H : Hp) (C : Addr) (cs : List (Str × Addr)) (fp : List Addr), DG (X.blk s H scope (compEnvC scope cs C X.env) fp) cl t tws tg g)
    (ht : ∀ (s : Shared) (H : Hp) (C : Addr) (cs : List (Str × Addr)) (fp : List Addr), DTs (X.blk s H scope (compEnvC scope cs C X.env) fp) cl t W0 ifs tt)
    (he : ∀ (s : Shared) (H : Hp) (C : Addr) (cs : List (Str × Addr)) (fp : List Addr), DE (X.blk s H scope (compEnvC scope cs C X.env) fp) cl t W0 elt fe)
    (ew : own.map (·.2) = ws := by rfl) (hw : ∀ i ∈ tws, i ∈ ws := by decide) (hy : X.N[i]? = some y := by rfl) (hyl : X.env.scope.names.lookup y = some .local := by rfl)
    (hsw : swapsWith (.ListComp elt [⟨tg, iter, ifs, 0⟩] scope pos) (some (.Name y py)) spos.line X.env = pure true := by exact sw_true rfl rfl rfl (by decide +kernel)) (hs : ∀ x, foldedSetIterable iter X.env x = pure x := by intro _; rfl) :
    DS1 X cl t W (.Assign [.Name y py] (.ListComp elt [⟨tg, iter, ifs, 0⟩] scope pos) spos) (sNew (nComp fi ws g tt fe) i) := by
  obtain ⟨wi, pi, li⟩ := hi
  subst ew
  refine DS1.mk (ps_setLc (g := RG (pr X cl) t tws g) (tt := RT (pr X cl) t W0 tt) (te := eMv (RE (pr X cl) t W0 fe)) hc hN hy hyl hsw pi ok (fun s H C cs fp => (hg s H C cs fp).pg) (fun s H C cs fp => (ht s H C cs fp).pt) (fun s H C cs fp => PE.mv (te := RE (pr X cl) t W0 fe) (he s H C cs fp)) hs) fun I G H σ ρ Z s q => ?_
  have ln : LN (pr X cl) t W (tLc wi (RG (pr X cl) t tws g) (RT (pr X cl) t W0 tt) (eMv (RE (pr X cl) t W0 fe)) (own.map (·.2))) (nComp fi (own.map (·.2)) g tt fe) :=
    LN.lc (p := pr X cl) li (fun I G _ _ ρ _ d _ s r q => ⟨I, G, ρ, d, s, r, q⟩) (hg X.s_0 X.H_0 0 [] []).ne (fun I G _ _ ρ _ s q => ⟨I, G, ρ, s, q⟩) (fun I G H σ ρ Q s q => DE.keepLE (W := W0) s q) hw
  refine ln I G H σ ρ _ s ?_
  unfold sNew at q
  rw [outP_bind] at q
  exact q.imp (fun x q I1 H1 a s1 st1 i1 g1 o1 n1 => q I1 H1 _ s1 (st1.setOw i1 g1 o1 n1)) fun _ z => z

/-! ### what is walked -/
theorem src_range {p : Par} {I : Hp} {lo : Int} {n : Nat} : Src p I (Itr lo n) (rangeL lo n) := by
  refine ⟨fun _ => True, YFn fun i => .int (lo + i), ?_, fun _ _ => trivial, fun i H x H' I1 hi s1 s2 y => ?_⟩
  · have e : (rangeL lo n).length = n := by simp [rangeL]
    rw [e]
    exact walk_range
  · obtain ⟨rfl, rfl⟩ := y
    have hi' : i < n := by simpa [rangeL] using hi
    exact ⟨I1, .int (lo + i), Ext.refl s2, by simp [rangeL, hi'], rfl⟩
theorem di_range1 {p : Pos} (ha : DE X cl t W a fa) (hm : X.mg "range" = none) (hg : Gl X "range" := by rfl) (hs : starEach [a] X.env = [(false, eval a X.env)] := by rfl) (he : starEach [a] X.env = (false, eval a X.env) :: starEach [] X.env := by rfl) :
    DI X cl t W tg (.Call (.Name "range" p) [a] [] pos) (iRange1 fa) := by
  obtain ⟨te, pe, le⟩ := ha.ex
  refine ⟨_, pi_range1 hg hm (pa_cons pe pa_nil he) hs, fun I G H σ ρ Q s q => ?_⟩
  refine le I G H σ ρ _ s ?_
  unfold iRange1 at q
  rw [outP_bind] at q
  refine q.imp (fun x q I1 H1 v s1 st1 r1 => ?_) fun _ z => z
  cases e1 : x.1.get x.2 with
  | bad => rw [e1] at q; exact q.elim
  | exc e => exact absurd e1 (get_exc _ _ _)
  | ok d =>
    rw [e1] at q
    cases d with
    | int j =>
      have hv : v = .int j := by
        rcases RR.get st1 r1 e1 with h | ⟨_, _, h⟩
        · exact h
        · exact h.elim
      simp only [Out.bind_ok] at q
      by_cases hj : inI j = true
      · rw [if_pos hj] at q
        simp only [inI, Bool.and_eq_true, decide_eq_true_eq] at hj
        exact ⟨j, by rw [hv], hj.1, hj.2, q I1 H1 _ s1 st1 src_range⟩
      · rw [if_neg hj] at q
        exact q.elim
    | _ => exact q.elim
theorem di_range2 {p : Pos} (ha : DE X cl t W a fa) (hb : DE X cl t W b fb) (hm : X.mg "range" = none) (hg : Gl X "range" := by rfl) (hs : starEach [a, b] X.env = [(false, eval a X.env), (false, eval b X.env)] := by rfl) (hs2 : starEach [b] X.env = [(false, eval b X.env)] := by rfl)
    (he : starEach [a, b] X.env = (false, eval a X.env) :: starEach [b] X.env := by rfl) (he2 : starEach [b] X.env = (false, eval b X.env) :: starEach [] X.env := by rfl) :
    DI X cl t W tg (.Call (.Name "range" p) [a, b] [] pos) (iRange2 fa fb) := by
  obtain ⟨te, pe, le⟩ := ha.ex
  obtain ⟨te', pe', le'⟩ := hb.ex
  refine ⟨_, pi_range2 hg hm (pa_cons pe (pa_cons pe' pa_nil he2) he) hs hs2, fun I G H σ ρ Q s q => ?_⟩
  refine le I G H σ ρ _ s ?_
  unfold iRange2 at q
  rw [outP_bind] at q
  refine q.imp (fun x q I1 H1 v s1 st1 r1 => ?_) fun _ z => z
  refine le' I1 G H1 σ x.2 _ st1 ?_
  rw [outP_bind] at q
  refine q.imp (fun y q I2 H2 u s2 st2 r2 => ?_) fun _ z => z.mono s1
  cases e1 : x.1.get y.2 with
  | bad => rw [e1] at q; exact q.elim
  | exc e => exact absurd e1 (get_exc _ _ _)
  | ok d =>
    rw [e1] at q
    cases e2 : y.1.get y.2 with
    | bad => rw [e2] at q; exact q.elim
    | exc e => exact absurd e2 (get_exc _ _ _)
    | ok d2 =>
      rw [e2] at q
      simp only [Out.bind_ok] at q
      cases d with
      | int i =>
        cases d2 with
        | int j =>
          have hv : v = .int i := by
            rcases RR.get st2 (r1.mono s2) e1 with h | ⟨_, _, h⟩
            · exact h
            · exact h.elim
          have hu : u = .int j := by
            rcases RR.get st2 r2 e2 with h | ⟨_, _, h⟩
            · exact h
            · exact h.elim
          by_cases hj : (inI i && inI j) = true
          · simp only [if_pos hj] at q
            simp only [inI, Bool.and_eq_true, decide_eq_true_eq] at hj
            exact ⟨i, j, by rw [hv, hu], ⟨hj.1.1, hj.1.2, hj.2.1, hj.2.2⟩, q I2 H2 _ (s1.trans s2) st2 src_range⟩
          · simp only [if_neg hj] at q
            exact q.elim
        | _ => exact q.elim
      | _ => exact q.elim
theorem PI.or {wi wi' : TI} (h : PI X tg iter wi) (h' : PI X tg iter wi') : PI X tg iter (fun σ H R => wi σ H R ∨ wi' σ H R) := ⟨fun pins s σ H R I q => q.elim (h.run pins s σ H R I) (h'.run pins s σ H R I)⟩
theorem src_list {p : Par} {I : Hp} {a : Addr} {vs : List V} {ds : List D} (h : SqL p.K I a vs) (r : RepL p I ds vs) : Src p I (Itl p.K a) ds := by
  refine ⟨fun H => SqL p.K H a vs, YAt vs, by rw [r.length]; exact walk_list, fun H s => Same.seq s h, fun i H x H' I1 hi s1 s2 y => ?_⟩
  obtain ⟨rfl, hx⟩ := y
  obtain ⟨d, h1, h2⟩ := r.got hx
  exact ⟨I1, d, Ext.refl s2, h1, h2.mono s1⟩
theorem src_tup {p : Par} {I : Hp} {a : Addr} {vs : List V} {ds : List D} (h : SqT p.K I a vs) (r : RepL p I ds vs) : Src p I (Itt p.K a) ds := by
  refine ⟨fun H => SqT p.K H a vs, YAt vs, by rw [r.length]; exact walk_tup, fun H s => sqt_mono s h, fun i H x H' I1 hi s1 s2 y => ?_⟩
  obtain ⟨rfl, hx⟩ := y
  obtain ⟨d, h1, h2⟩ := r.got hx
  exact ⟨I1, d, Ext.refl s2, h1, h2.mono s1⟩
theorem src_str {p : Par} {I : Hp} {l : List Nat} (hv : ∀ c ∈ l, c < 0x110000) : Src p I (Its ⟨l.toArray⟩) (l.map fun c => .str [c]) := by
  refine ⟨fun _ => True, _, by simpa using walk_str (z := ⟨l.toArray⟩), fun _ _ => trivial, fun i H x H' I1 hi s1 s2 y => ?_⟩
  obtain ⟨rfl, c, hc, rfl⟩ := y
  have hc' : l[i]? = some c := by simpa using hc
  refine ⟨I1, .str [c], Ext.refl s2, by simp [hc'], rfl, fun k hk => ?_⟩
  have e : k = c := by simpa using hk
  subst e
  exact hv _ (List.mem_of_getElem? hc')
theorem di_seq (ha : DE X cl t W a fa) : DI X cl t W tg a (iSeq fa) := by
  have pe := PE.mv ha
  refine ⟨_, PI.or (pi_list pe) (PI.or (pi_tup pe) (pi_str pe)), fun I G H σ ρ Q s q => ?_⟩
  unfold iSeq at q
  rw [outP_bind] at q
  cases e1 : fKeep fa ρ with
  | bad => rw [e1] at q; exact q.elim
  | exc er =>
    rw [e1] at q
    exact .inl (DE.keepLE (W := W) s (by rw [e1]; exact q))
  | ok x =>
    rw [e1] at q
    obtain ⟨d, ρ1⟩ := x
    have q' : OutP ((itemsOf d).bind fun ds => Out.ok (ds, ρ1)) _ _ := q
    cases d with
    | lst ds =>
      refine .inl (DE.keepLE (W := W) s ?_)
      rw [e1]
      rintro I1 H1 v s1 st1 ⟨a, vs, e, h1, h2⟩
      exact ⟨a, e, ⟨vs, SqL.of (st1.b.ih _ _ h1)⟩, q' I1 H1 _ s1 st1 (src_list (p := pr X cl) (SqL.of h1) h2)⟩
    | tup ds =>
      refine .inr (.inl (DE.keepLE (W := W) s ?_))
      rw [e1]
      rintro I1 H1 v s1 st1 ⟨a, vs, e, h1, h2, _⟩
      exact ⟨a, e, ⟨vs, sqt_mono st1.b.ih h1⟩, q' I1 H1 _ s1 st1 (src_tup (p := pr X cl) h1 h2)⟩
    | str l =>
      refine .inr (.inr (DE.keepLE (W := W) s ?_))
      rw [e1]
      rintro I1 H1 v s1 st1 ⟨e, hv⟩
      exact ⟨_, e, q' I1 H1 _ s1 st1 (src_str hv)⟩
    | _ => exact q'.elim
end
end Den

/-! Den6: operations on values are those on data. -/
namespace Den
open PySem L2
section
variable {p : Par} {I H : Hp} {x : V}
theorem Rdb.int {i : Int} (h : Rdb p I H (.int i) x) : x = .int i := h.elim id fun ⟨_, _, h⟩ => h.elim
theorem Rdb.bl {i : Bool} (h : Rdb p I H (.bl i) x) : x = .bl i := h.elim id fun ⟨_, _, h⟩ => h.elim
theorem Rdb.non (h : Rdb p I H .non x) : x = .non := h.elim id fun ⟨_, _, h⟩ => h.elim
theorem Rdb.str {l : List Nat} (h : Rdb p I H (.str l) x) : x = .str ⟨l.toArray⟩ ∧ ∀ c ∈ l, c < 0x110000 := h.elim id fun ⟨_, _, h⟩ => h.elim
theorem Rdb.tup {ds : List D} (s : Same I H) (h : Rdb p I H (.tup ds) x) : ∃ a vs, x = .ref a ∧ SqT p.K H a vs ∧ SqT p.K I a vs ∧ RepL p I ds vs := by
  rcases h with ⟨a, vs, e, q, r, _⟩ | ⟨_, _, h⟩
  · exact ⟨a, vs, e, sqt_mono s q, q, r⟩
  · exact h.elim
theorem Rdb.tupN {ds : List D} (s : Same I H) (h : Rdb p I H (.tup ds) x) : ∃ a vs, x = .ref a ∧ SqT p.K H a vs ∧ SqT p.K I a vs ∧ RepL p I ds vs ∧ (isPairs ds = true → NoD I a) := by
  rcases h with ⟨a, vs, e, q, r, n⟩ | ⟨_, _, h⟩
  · exact ⟨a, vs, e, sqt_mono s q, q, r, n⟩
  · exact h.elim
theorem Rdb.lst {ds : List D} (s : Same I H) (h : Rdb p I H (.lst ds) x) : ∃ a vs, x = .ref a ∧ H a = some (.lst vs) ∧ RepL p I ds vs := by
  rcases h with ⟨a, vs, e, q, r⟩ | ⟨a, e, vs, q, r⟩
  · exact ⟨a, vs, e, s _ _ q, r⟩
  · exact ⟨a, vs, e, q, r⟩
theorem Rdb.scr {ns : List Int} (s : Same I H) (h : Rdb p I H (.scr ns) x) : ∃ a, x = .ref a ∧ SqL p.K H a (ns.map V.int) := by
  rcases h with ⟨a, e, q⟩ | ⟨_, _, h⟩
  · exact ⟨a, e, Same.seq s q⟩
  · exact h.elim
theorem str_len (l : List Nat) : (⟨l.toArray⟩ : Str).length = l.length := by simp [Str.length]
theorem str_app (a b : List Nat) : (⟨a.toArray⟩ : Str) ++ ⟨b.toArray⟩ = ⟨(a ++ b).toArray⟩ := by
  apply TL.ext_tl
  rw [TL.tl_append]
theorem lim_line {n : Nat} (h : n ≤ LIM) : n ≤ sizeLine := Nat.le_trans h (by decide)
/-- a new object that stays, its data -/
theorem rep_new {o : HO} {d : D} {Q : VK} (s : Same I H) (q : ∀ I' H' v, Ext I H I' H' → Rep p I' d v → Q v H') (hr : ∀ a, H a = none → Rep p (upd I a o) d (.ref a)) : ∀ a, H a = none → Q (.ref a) (upd H a o) :=
  fun a ha => q _ _ _ (Ext.new s o ha) (hr a ha)
theorem rep_here {d : D} {v : V} {Q : VK} (s : Same I H) (q : ∀ I' H' v, Ext I H I' H' → Rep p I' d v → Q v H') (hr : Rep p I d v) : Q v H := q I H v (Ext.refl s) hr
theorem rep_lst {vs : List V} {ds : List D} {Q : VK} (s : Same I H) (q : ∀ I' H' v, Ext I H I' H' → Rep p I' (.lst ds) v → Q v H') (hr : RepL p I ds vs) : ∀ a, H a = none → Q (.ref a) (upd H a (.lst vs)) :=
  rep_new s q fun a ha => ⟨a, vs, rfl, upd_same, hr.mono (same_new (s.free ha))⟩
theorem rep_tup {vs : List V} {ds : List D} {Q : VK} (s : Same I H) (q : ∀ I' H' v, Ext I H I' H' → Rep p I' (.tup ds) v → Q v H') (hr : RepL p I ds vs) : ∀ a o, H a = none → o.dict = none → Q (.ref a) (upd H a (.frz o (.tup vs))) :=
  fun a o ha ho => rep_new (o := .frz o (.tup vs)) s q (fun a ha => ⟨a, vs, rfl, SqT.frz upd_same, hr.mono (same_new (s.free ha)), fun _ => ⟨o, _, upd_same, ho⟩⟩) a ha
/-- t + u -/
def rCatF (K : PySem.W.Frag) : R2 := fun x y H Q => ∃ a b xs ys, x = .ref a ∧ y = .ref b ∧ SqT K H a xs ∧ SqT K H b ys ∧ xs.length + ys.length ≤ sizeLine ∧
  (xs = [] → Q (.ref b) H) ∧ (xs ≠ [] → ys = [] → Q (.ref a) H) ∧ (xs ≠ [] → ys ≠ [] → ∀ p o, H p = none → o.dict = none → Q (.ref p) (upd H p (.frz o (.tup (xs ++ ys)))))
theorem op_catF {X : Cx} : OpR X (binaryOp .Add) (rCatF X.K) := by
  intro pins s σ H x y v u Q I rx ry h
  obtain ⟨a, b, xs, ys, rfl, rfl, ha, hb, hz, q0, q1, q2⟩ := h
  by_cases hx : xs = []
  · exact op_catA pins s σ H _ _ v u Q I rx ry ⟨a, b, xs, ys, rfl, rfl, ha, hb, hz, q0, fun z => absurd hx z, fun z => absurd hx z⟩
  · cases rx
    cases ry
    obtain ⟨its, r1, p1, _⟩ := I.tuple ha
    obtain ⟨its2, r2, p2, _⟩ := I.tuple hb
    refine HT.cat_tup p1 p2 (fun z => hx (r1.nil_iff.mp z)) (fun z => ⟨.ref a, H, I, rfl, q1 hx (r2.nil_iff.mp z)⟩) (fun z => ?_) (by rw [← r1.length, ← r2.length]; exact hz)
    refine ⟨.ref s.heap.objs.size, _, I.laid (t' := s.toks) (o := .frz { cls := .type "tuple", data := .seq (its ++ its2).toArray } (.tup (xs ++ ys))) (fun b ob q => Heap.get?_push_of_some _ q) (Nat.le_refl _) ?_, rfl, q2 hx (fun w => z (r2.nil_iff.mpr w)) _ _ (I.hok.fresh (Nat.le_refl _)) rfl⟩
    exact ⟨Heap.get?_push_size _ rfl, by rw [List.length_append]; exact hz, _, r1.append r2, ⟨_, Heap.get?_push_size _ rfl, rfl, _, rfl⟩⟩
theorem val_app {a b : List Nat} (ha : ∀ c ∈ a, c < 0x110000) (hb : ∀ c ∈ b, c < 0x110000) : ∀ c ∈ a ++ b, c < 0x110000 := fun c h => (List.mem_append.mp h).elim (ha c) (hb c)
theorem RepL.rep {ds : List D} {vs : List V} (h : RepL p I ds vs) : ∀ k : Nat, RepL p I (repL k ds) (List.replicate k vs).flatten
  | 0 => by simp [repL, RepL]
  | k + 1 => by
    have e : repL (k + 1) ds = ds ++ repL k ds := by simp [repL, List.replicate_succ]
    rw [e, List.replicate_succ, List.flatten_cons]
    exact h.append (RepL.rep h k)
theorem repL_len {α : Type} (l : List α) : ∀ k : Nat, (repL k l).length = l.length * k
  | 0 => by simp [repL]
  | k + 1 => by
    have e : repL (k + 1) l = l ++ repL k l := by simp [repL, List.replicate_succ]
    rw [e, List.length_append, repL_len l k, Nat.mul_succ]; omega
theorem repL_mem {α : Type} {l : List α} {x : α} {k : Nat} (h : x ∈ repL k l) : x ∈ l := by
  unfold repL at h
  obtain ⟨m, h1, h2⟩ := List.mem_flatten.mp h
  obtain ⟨_, e⟩ := List.mem_replicate.mp h1
  rwa [e] at h2
end

section
variable {X : Cx} {cl : Cls} {f : Value → Value → Sem Value}
/-- a rule for each kind of data -/
theorem OpD.of {r : R2} {g : D → D → Out D} (h : OpR X f r) (l : LOp (pr X cl) r g) : OpD X cl f g := ⟨_, h, l⟩

theorem ng_of {g : D → D → Out D} (h : ∀ u v, (match g u v with | .exc _ => False | _ => True)) : ∀ u v e, g u v ≠ .exc e := fun u v e q => by
  have z := h u v
  rw [q] at z
  exact z
theorem gAdd_ne : ∀ u v e, gAdd u v ≠ .exc e := by
  intro u v e
  unfold gAdd
  split <;> (try split) <;> simp
theorem od_add : OpD X cl (binaryOp .Add) gAdd := by
  refine ⟨_, OpR.or op_add (OpR.or op_add_str (OpR.or op_catF op_cat)), fun I H x y dx dy Q s hx hy q => ?_⟩
  unfold gAdd at q
  split at q
  · exact .inl ⟨_, _, hx.int, hy.int, rep_here s q rfl⟩
  · rename_i a b
    by_cases hl : a.length + b.length ≤ LIM
    · rw [if_pos hl] at q
      obtain ⟨e1, v1⟩ := hx.str
      obtain ⟨e2, v2⟩ := hy.str
      exact .inr (.inl ⟨_, _, e1, e2, by rw [str_len, str_len]; exact lim_line hl, rep_here s q ⟨by rw [str_app], val_app v1 v2⟩⟩)
    · rw [if_neg hl] at q; exact q.elim
  · rename_i a b
    by_cases hl : a.length + b.length ≤ LIM
    · rw [if_pos hl] at q
      obtain ⟨p1, vs, e1, q1, w1, r1, n1⟩ := hx.tupN s
      obtain ⟨p2, us, e2, q2, w2, r2, n2⟩ := hy.tupN s
      refine .inr (.inr (.inl ⟨p1, p2, vs, us, e1, e2, q1, q2, by rw [← r1.length, ← r2.length]; exact lim_line hl, fun h => ?_, fun h1 h2 => ?_, fun _ _ => rep_tup s q (r1.append r2)⟩))
      · subst h
        have e : a = [] := List.length_eq_zero_iff.mp r1.length
        subst e
        exact rep_here s q ⟨p2, us, rfl, w2, r2, n2⟩
      · subst h2
        have e : b = [] := List.length_eq_zero_iff.mp r2.length
        subst e
        exact rep_here s q ⟨p1, vs, rfl, w1, by rw [List.append_nil]; exact r1, by rw [List.append_nil]; exact n1⟩
    · rw [if_neg hl] at q; exact q.elim
  · rename_i a b
    by_cases hl : a.length + b.length ≤ LIM
    · rw [if_pos hl] at q
      obtain ⟨p1, vs, e1, q1, r1⟩ := hx.lst s
      obtain ⟨p2, us, e2, q2, r2⟩ := hy.lst s
      exact .inr (.inr (.inr ⟨p1, p2, vs, us, e1, e2, q1, q2, by rw [← r1.length, ← r2.length]; exact lim_line hl, rep_lst s q (r1.append r2)⟩))
    · rw [if_neg hl] at q; exact q.elim
  · exact q.elim
theorem gSub_ne : ∀ u v e, gSub u v ≠ .exc e := by
  intro u v e
  unfold gSub
  split <;> simp
theorem od_sub : OpD X cl (binaryOp .Sub) gSub := by
  refine ⟨_, op_sub, fun I H x y dx dy Q s hx hy q => ?_⟩
  unfold gSub at q
  split at q
  · exact ⟨_, _, hx.int, hy.int, rep_here s q rfl⟩
  · exact q.elim
/-- s * k -/
def rMulS : R2 := fun x y H Q => ∃ z k, x = .str z ∧ y = .int k ∧ inW k = true ∧ z.length * k.toNat ≤ LIM ∧ Q (.str ⟨(repL k.toNat z.cps.toList).toArray⟩) H
theorem op_mulS : OpR X (binaryOp .Mult) rMulS := by
  intro pins s σ H x y v u Q I rx ry h
  obtain ⟨z, k, rfl, rfl, hk, hl, q⟩ := h
  obtain ⟨t, rfl⟩ := rx
  obtain ⟨t', rfl⟩ := ry
  simp only [inW, Bool.and_eq_true, decide_eq_true_eq] at hk
  have foldR : ∀ (m : Nat), (List.replicate m z.cps).foldl (· ++ ·) #[] = (repL m z.cps.toList).toArray := by
    intro m
    have gen : ∀ (m : Nat) (acc : Array Nat), (List.replicate m z.cps).foldl (· ++ ·) acc = acc ++ (repL m z.cps.toList).toArray := by
      intro m
      induction m with
      | zero => intro acc; simp [repL]
      | succ m ih =>
        intro acc
        have e : repL (m + 1) z.cps.toList = z.cps.toList ++ repL m z.cps.toList := by simp [repL, List.replicate_succ]
        rw [List.replicate_succ, List.foldl_cons, ih, e]
        apply Array.ext'
        simp
    rw [gen]; simp
  refine PySem.P.mul_str ?_ ?_ ?_ ?_
  · rw [decide_eq_false (by omega), decide_eq_false (by omega)]; rfl
  · intro h1 _ h3
    have h4 : (2 ^ 63 - 1) / k < (z.length : Int) := h3
    have h5 : (2 ^ 63 - 1 : Int) < (z.length : Int) * k := Int.lt_mul_of_ediv_lt (by omega) h4
    have h6 : (z.length : Int) * k = ((z.length * k.toNat : Nat) : Int) := by rw [Int.natCast_mul, Int.toNat_of_nonneg (by omega)]
    rw [h6] at h5
    have h7 : ((z.length * k.toNat : Nat) : Int) ≤ ((1000000 : Nat) : Int) := Int.ofNat_le.mpr hl
    omega
  · intro _ _
    exact decide_eq_false (Nat.not_lt.mpr (lim_line hl))
  · have fin : ∀ (w : Str), w = (⟨(repL k.toNat z.cps.toList).toArray⟩ : Str) → (Made.str w).post (EP X pins σ Q) s := fun w hw => by
      subst hw
      refine ⟨?_, .str _, H, I.tok _, ⟨_, rfl⟩, q⟩
      have e : (⟨(repL k.toNat z.cps.toList).toArray⟩ : Str).length = z.length * k.toNat := by rw [str_len, repL_len]; simp [Str.length]
      rw [e]
      exact lim_line hl
    split
    · rename_i h1
      refine fin _ ?_
      have : k.toNat = 0 := by omega
      rw [this]; rfl
    · split
      · rename_i h1 h2
        refine ⟨.str z, H, I, ⟨t, rfl⟩, ?_⟩
        have e : (⟨(repL k.toNat z.cps.toList).toArray⟩ : Str) = z := by
          apply TL.ext_tl
          show repL k.toNat z.cps.toList = z.cps.toList
          rcases Bool.or_eq_true_iff.mp h2 with h3 | h3
          · have : k = 1 := by simpa using h3
            subst this
            simp [repL]
          · have h4 : z.cps.toList = [] := by
              have : z.length = 0 := by simpa using h3
              exact List.length_eq_zero_iff.mp (by simpa [Str.length] using this)
            rw [h4]; simp [repL]
        rw [← e]; exact q
      · exact fin _ (by rw [foldR])
theorem gMul_ne : ∀ u v e, gMul u v ≠ .exc e := by
  intro u v e
  unfold gMul
  split <;> (try split) <;> simp
theorem inW_63 {k : Int} (h : inW k = true) : -(2 ^ 63) ≤ k ∧ k < 2 ^ 63 := by
  simp only [inW, Bool.and_eq_true, decide_eq_true_eq] at h
  constructor <;> omega
theorem od_mul : OpD X cl (binaryOp .Mult) gMul := by
  refine ⟨_, OpR.or op_mul (OpR.or op_mulS op_rep), fun I H x y dx dy Q s hx hy q => ?_⟩
  unfold gMul at q
  split at q
  · rename_i i j
    by_cases hs : (smallI i || smallI j) = true
    · rw [if_pos hs] at q
      refine .inl ⟨i, j, hx.int, hy.int, ?_, rep_here s q rfl⟩
      simp only [smallI, Bool.or_eq_true, Bool.and_eq_true, decide_eq_true_eq] at hs
      exact hs
    · rw [if_neg hs] at q; exact q.elim
  · rename_i a k
    by_cases hl : inW k = true ∧ a.length * k.toNat ≤ LIM
    · rw [if_pos hl] at q
      obtain ⟨e1, v1⟩ := hx.str
      refine .inr (.inl ⟨_, k, e1, hy.int, hl.1, by rw [str_len]; exact hl.2, rep_here s q ⟨rfl, fun c h => v1 c (repL_mem h)⟩⟩)
    · rw [if_neg hl] at q; exact q.elim
  · rename_i a k
    by_cases hl : inW k = true ∧ a.length * k.toNat ≤ LIM
    · rw [if_pos hl] at q
      obtain ⟨p1, vs, e1, q1, r1⟩ := hx.lst s
      exact .inr (.inr ⟨p1, k, vs, e1, hy.int, q1, (inW_63 hl.1).1, (inW_63 hl.1).2, by rw [← r1.length]; exact lim_line hl.2, rep_lst s q (r1.rep k.toNat)⟩)
    · rw [if_neg hl] at q; exact q.elim
  · exact q.elim
theorem gMod_ne : ∀ u v e, gMod u v ≠ .exc e := by
  intro u v e
  unfold gMod
  split <;> (try split) <;> simp
theorem od_mod : OpD X cl (binaryOp .Mod) gMod := by
  refine ⟨_, op_mod, fun I H x y dx dy Q s hx hy q => ?_⟩
  unfold gMod at q
  split at q
  · rename_i i j
    by_cases hj : 0 < j
    · rw [if_pos hj] at q; exact ⟨i, j, hx.int, hy.int, hj, rep_here s q rfl⟩
    · rw [if_neg hj] at q; exact q.elim
  · exact q.elim
theorem gFdiv_ne : ∀ u v e, gFdiv u v ≠ .exc e := by
  intro u v e
  unfold gFdiv
  split <;> (try split) <;> simp
theorem od_fdiv : OpD X cl (binaryOp .FloorDiv) gFdiv := by
  refine ⟨_, op_fdiv, fun I H x y dx dy Q s hx hy q => ?_⟩
  unfold gFdiv at q
  split at q
  · rename_i i j
    by_cases hj : 0 < j ∧ j < 1073741824
    · rw [if_pos hj] at q; exact ⟨i, j, hx.int, hy.int, hj, rep_here s q rfl⟩
    · rw [if_neg hj] at q; exact q.elim
  · exact q.elim
theorem gPow_ne : ∀ u v e, gPow u v ≠ .exc e := by
  intro u v e
  unfold gPow
  split <;> (try split) <;> simp
theorem od_pow : OpD X cl (binaryOp .Pow) gPow := by
  refine ⟨_, op_pow, fun I H x y dx dy Q s hx hy q => ?_⟩
  unfold gPow at q
  split at q
  · rename_i i j
    by_cases hj : 0 ≤ j ∧ j ≤ 1000000 ∧ i.natAbs < 2 ^ 64
    · rw [if_pos hj] at q; exact ⟨i, j, hx.int, hy.int, hj, rep_here s q rfl⟩
    · rw [if_neg hj] at q; exact q.elim
  · exact q.elim
theorem gNeg_ne : ∀ u e, gNeg u ≠ .exc e := by
  intro u e
  unfold gNeg
  split <;> simp
theorem ud_neg : UnD X cl (unaryOp .USub) gNeg := by
  refine ⟨_, un_neg, fun I H x dx Q s hx q => ?_⟩
  unfold gNeg at q
  split at q
  · exact ⟨_, hx.int, rep_here s q rfl⟩
  · exact q.elim

/-! ### == -/
mutual
def D.py : D → PyData
  | .bl b => .bool b
  | .int i => .int i
  | .str l => .str ⟨l.toArray⟩
  | .tup ds => .tuple (D.pyL ds)
  | .lst ds => .list (D.pyL ds)
  | _ => .none
def D.pyL : List D → List PyData
  | [] => []
  | d :: ds => D.py d :: D.pyL ds
end
mutual
theorem dp_of {p : Par} {I H : Hp} (s : Same I H) : ∀ (d : D) (v : V), d.plain = true → Rep p I d v → Dp p.K H v d.py
  | .non, _, _, h => by cases h; exact .non
  | .bl _, _, _, h => by cases h; exact .bl _
  | .int _, _, _, h => by cases h; exact .int _
  | .str _, _, _, h => by obtain ⟨e, _⟩ := h; subst e; exact .str _
  | .tup ds, _, hp, ⟨a, vs, e, q, r, _⟩ => by subst e; exact .tup (sqt_mono s q) (dpL_of s ds vs hp r)
  | .lst ds, _, hp, ⟨a, vs, e, q, r⟩ => by subst e; exact .lst (SqL.of (s _ _ q)) (dpL_of s ds vs hp r)
  | .dct _, _, hp, _ => by cases hp
  | .dcn _, _, hp, _ => by cases hp
  | .exn _, _, hp, _ => by cases hp
  | .scr _, _, hp, _ => by cases hp
theorem dpL_of {p : Par} {I H : Hp} (s : Same I H) : ∀ (ds : List D) (vs : List V), D.plainL ds = true → RepL p I ds vs → DpAll p.K H vs (D.pyL ds)
  | [], _, _, h => by cases h; exact .nil
  | d :: ds, _, hp, ⟨v, vr, e, h, t⟩ => by
    subst e
    rw [D.plainL, Bool.and_eq_true] at hp
    exact .cons (dp_of s d v hp.1 h) (dpL_of s ds vr hp.2 t)
end
mutual
theorem lay_of {p : Par} {I : Hp} : ∀ (d : D) (v : V), Rep p I d v → d.py.canLay0 = true
  | .non, _, _ => rfl
  | .bl _, _, _ => rfl
  | .int _, _, _ => rfl
  | .str l, _, h => by
    obtain ⟨_, hv⟩ := h
    show PyData.strOk _ = true
    unfold PyData.strOk
    rw [Array.all_eq_true']
    intro c hc
    exact decide_eq_true (hv c (by simpa using hc))
  | .tup ds, _, ⟨a, vs, e, q, r, _⟩ => layL_of ds vs r
  | .lst ds, _, ⟨a, vs, e, q, r⟩ => layL_of ds vs r
  | .dct _, _, _ => rfl
  | .dcn _, _, _ => rfl
  | .exn _, _, _ => rfl
  | .scr _, _, _ => rfl
theorem layL_of {p : Par} {I : Hp} : ∀ (ds : List D) (vs : List V), RepL p I ds vs → PyData.canLayAll0 (D.pyL ds) = true
  | [], _, _ => rfl
  | d :: ds, _, ⟨v, vr, e, h, t⟩ => by
    rw [D.pyL, PyData.canLayAll0, lay_of d v h, layL_of ds vr t]; rfl
end
mutual
theorem depth_py : ∀ d : D, d.py.depth = d.depth
  | .non => rfl
  | .bl _ => rfl
  | .int _ => rfl
  | .str l => rfl
  | .tup ds => by rw [D.py, PyData.depth, D.depth, depthL_py ds]
  | .lst ds => by rw [D.py, PyData.depth, D.depth, depthL_py ds]
  | .dct _ => rfl
  | .dcn _ => rfl
  | .exn _ => rfl
  | .scr _ => rfl
theorem depthL_py : ∀ ds : List D, PyData.depthAll (D.pyL ds) = D.depthL ds
  | [] => rfl
  | d :: ds => by rw [D.pyL, PyData.depthAll, D.depthL, depth_py d, depthL_py ds]
end
theorem str_beq (a b : List Nat) : ((⟨a.toArray⟩ : Str) == ⟨b.toArray⟩) = (a == b) := by
  by_cases h : a = b
  · subst h; simp
  · have h2 : (⟨a.toArray⟩ : Str) ≠ ⟨b.toArray⟩ := fun e => h (by injection e with e; simpa using congrArg Array.toList e)
    rw [beq_eq_false_iff_ne.mpr h2, beq_eq_false_iff_ne.mpr h]
mutual
theorem eqv_py : ∀ a b : D, a.plain = true → b.plain = true → PyData.eqv a.py b.py = a.eqv b
  | .non, b, _, hb => by cases b <;> first | rfl | cases hb
  | .bl _, b, _, hb => by cases b <;> first | rfl | cases hb
  | .int _, b, _, hb => by cases b <;> first | rfl | cases hb
  | .str x, b, _, hb => by cases b <;> first | exact str_beq _ _ | rfl | cases hb
  | .tup ds, b, ha, hb => by cases b <;> first | exact eqvL_py ds _ ha hb | rfl | cases hb
  | .lst ds, b, ha, hb => by cases b <;> first | exact eqvL_py ds _ ha hb | rfl | cases hb
  | .dct _, _, ha, _ => by cases ha
  | .dcn _, _, ha, _ => by cases ha
  | .exn _, _, ha, _ => by cases ha
  | .scr _, _, ha, _ => by cases ha
theorem eqvL_py : ∀ a b : List D, D.plainL a = true → D.plainL b = true → PyData.eqvAll (D.pyL a) (D.pyL b) = D.eqvL a b
  | [], b, _, hb => by cases b <;> rfl
  | x :: xs, b, ha, hb => by
    cases b with
    | nil => rfl
    | cons y ys =>
      rw [D.plainL, Bool.and_eq_true] at ha hb
      rw [D.pyL, D.pyL, PyData.eqvAll, D.eqvL, eqv_py x y ha.1 hb.1, eqvL_py xs ys ha.2 hb.2]
end
/-- what is readable now, as data that stays -/
theorem Rdb.dp {p : Par} {I H : Hp} (s : Same I H) {d : D} {v : V} (hp : d.plain = true) (h : Rdb p I H d v) : Dp p.K H v d.py ∧ d.py.canLay0 = true := by
  rcases h with h | ⟨a, e, h⟩
  · exact ⟨dp_of s d v hp h, lay_of d v h⟩
  · subst e
    cases d with
    | lst ds => obtain ⟨vs, q, r⟩ := h; exact ⟨.lst (SqL.of q) (dpL_of s ds vs hp r), layL_of ds vs r⟩
    | dct _ => cases hp
    | dcn _ => cases hp
    | _ => exact h.elim
theorem Reads.of {X : Cx} {pins : List (Addr × Obj)} {σ : L2.St} {H : Hp} {s : Shared} (I : L2.Inv X pins σ H s) {d : PyData} {v : V} {u : Value} (h : Dp X.K H v d) (r : RelV v u) : ∃ as, Reads s.heap u d as := Dp.reads I d v u h r
def rEqM (K : PySem.W.Frag) : R2 := fun x y H Q => ∃ d e, Dp K H x d ∧ Dp K H y e ∧ d.canLay0 = true ∧ e.canLay0 = true ∧ min d.depth e.depth ≤ 60 ∧ Q (.bl (PyData.eqv d e)) H
def rNeM (K : PySem.W.Frag) : R2 := fun x y H Q => ∃ d e, Dp K H x d ∧ Dp K H y e ∧ d.canLay0 = true ∧ e.canLay0 = true ∧ min d.depth e.depth ≤ 60 ∧ Q (.bl (!PyData.eqv d e)) H
theorem op_eqM (hu : X.A.units + 64 < cLine) : OpR X (compareOp .Eq) (rEqM X.K) := by
  intro pins s σ H x y v u Q I rx ry h
  obtain ⟨d, e, hd, he, sd, se, hm, q⟩ := h
  obtain ⟨as, r1⟩ := Dp.reads I d x v hd rx
  obtain ⟨bs, r2⟩ := Dp.reads I e y u he ry
  exact SeqAt.compareEq_reads r1 r2 sd se (by omega) ⟨.bl _, H, I, rfl, q⟩
theorem op_neM (hu : X.A.units + 64 < cLine) : OpR X (compareOp .NotEq) (rNeM X.K) := by
  intro pins s σ H x y v u Q I rx ry h
  obtain ⟨d, e, hd, he, sd, se, hm, q⟩ := h
  obtain ⟨as, r1⟩ := Dp.reads I d x v hd rx
  obtain ⟨bs, r2⟩ := Dp.reads I e y u he ry
  exact SeqAt.compareNe_reads r1 r2 sd se (by omega) ⟨.bl _, H, I, rfl, q⟩
theorem eqS_ne : ∀ u v e, eqS u v ≠ .exc e := by
  intro u v e
  unfold eqS
  split <;> (try split) <;> simp
theorem gEq_ne : ∀ u v e, gEq u v ≠ .exc e := by
  intro u v e
  unfold gEq
  cases h : eqS u v <;> simp_all [eqS_ne]
theorem gNe_ne : ∀ u v e, gNe u v ≠ .exc e := by
  intro u v e
  unfold gNe
  cases h : eqS u v <;> simp_all [eqS_ne]
/-- the script against an empty list -/
theorem dp_ints {K : PySem.W.Frag} {H : Hp} : ∀ ns : List Int, DpAll K H (ns.map V.int) (ns.map PyData.int)
  | [] => .nil
  | n :: ns => .cons (.int n) (dp_ints ns)
theorem lay_ints : ∀ ns : List Int, PyData.canLayAll0 (ns.map PyData.int) = true
  | [] => rfl
  | _ :: ns => lay_ints ns
theorem eqS_sound {p : Par} {I H : Hp} {x y : V} {dx dy : D} {k : Bool} (s : Same I H) (hx : Rdb p I H dx x) (hy : Rdb p I H dy y) (h : eqS dx dy = .ok k) :
    ∃ d e, Dp p.K H x d ∧ Dp p.K H y e ∧ d.canLay0 = true ∧ e.canLay0 = true ∧ min d.depth e.depth ≤ 60 ∧ PyData.eqv d e = k := by
  unfold eqS at h
  split at h
  · rename_i ns
    cases h
    obtain ⟨a, e1, q1⟩ := hx.scr s
    obtain ⟨b, vs, e2, q2, r2⟩ := hy.lst s
    subst e1; subst e2; cases r2
    refine ⟨.list (ns.map PyData.int), .list [], .lst q1 (dp_ints ns), .lst (SqL.of q2) .nil, lay_ints ns, rfl, Nat.le_trans (Nat.min_le_right _ _) (by decide), ?_⟩
    cases ns <;> rfl
  · by_cases hc : dx.plain = true ∧ dy.plain = true ∧ min dx.depth dy.depth ≤ 60
    · rw [if_pos hc] at h
      cases h
      obtain ⟨h1, l1⟩ := hx.dp s hc.1
      obtain ⟨h2, l2⟩ := hy.dp s hc.2.1
      exact ⟨_, _, h1, h2, l1, l2, by rw [depth_py, depth_py]; exact hc.2.2, eqv_py _ _ hc.1 hc.2.1⟩
    · rw [if_neg hc] at h; cases h
theorem od_eq (hu : X.A.units + 64 < cLine) : OpD X cl (compareOp .Eq) gEq := by
  refine ⟨_, op_eqM hu, fun I H x y dx dy Q s hx hy q => ?_⟩
  unfold gEq at q
  cases h : eqS dx dy with
  | bad => rw [h] at q; exact q.elim
  | exc e => exact absurd h (eqS_ne _ _ _)
  | ok k =>
    rw [h] at q
    obtain ⟨d, e, h1, h2, h3, h4, h5, h6⟩ := eqS_sound s hx hy h
    exact ⟨d, e, h1, h2, h3, h4, h5, by rw [h6]; exact rep_here s q rfl⟩
theorem od_ne (hu : X.A.units + 64 < cLine) : OpD X cl (compareOp .NotEq) gNe := by
  refine ⟨_, op_neM hu, fun I H x y dx dy Q s hx hy q => ?_⟩
  unfold gNe at q
  cases h : eqS dx dy with
  | bad => rw [h] at q; exact q.elim
  | exc e => exact absurd h (eqS_ne _ _ _)
  | ok k =>
    rw [h] at q
    obtain ⟨d, e, h1, h2, h3, h4, h5, h6⟩ := eqS_sound s hx hy h
    exact ⟨d, e, h1, h2, h3, h4, h5, by rw [h6]; exact rep_here s q rfl⟩

/-! ### the other comparisons -/
theorem gLt_ne : ∀ u v e, gLt u v ≠ .exc e := by
  intro u v e
  unfold gLt
  split <;> simp
theorem od_lt : OpD X cl (compareOp .Lt) gLt := by
  refine ⟨_, OpR.or op_lt op_lt_str, fun I H x y dx dy Q s hx hy q => ?_⟩
  unfold gLt at q
  split at q
  · exact .inl ⟨_, _, hx.int, hy.int, rep_here s q rfl⟩
  · exact .inr ⟨_, _, hx.str.1, hy.str.1, rep_here s q rfl⟩
  · exact q.elim
theorem op_le_strR : OpR X (compareOp .LtE) (fun x y H Q => ∃ i j, x = .str i ∧ y = .str j ∧ Q (.bl (!(decide (j.cps.toList < i.cps.toList)))) H) := by
  intro pins s σ H x y v u Q I rx ry h
  obtain ⟨i, j, rfl, rfl, q⟩ := h
  obtain ⟨t, rfl⟩ := rx
  obtain ⟨t', rfl⟩ := ry
  exact PySem.P.le_str ⟨.bl _, H, I, rfl, q⟩
theorem gLe_ne : ∀ u v e, gLe u v ≠ .exc e := by
  intro u v e
  unfold gLe
  split <;> simp
theorem od_le : OpD X cl (compareOp .LtE) gLe := by
  refine ⟨_, OpR.or op_le op_le_strR, fun I H x y dx dy Q s hx hy q => ?_⟩
  unfold gLe at q
  split at q
  · exact .inl ⟨_, _, hx.int, hy.int, rep_here s q rfl⟩
  · exact .inr ⟨_, _, hx.str.1, hy.str.1, rep_here s q rfl⟩
  · exact q.elim
theorem gGt_ne : ∀ u v e, gGt u v ≠ .exc e := by
  intro u v e
  unfold gGt
  split <;> simp
theorem od_gt : OpD X cl (compareOp .Gt) gGt := by
  refine ⟨_, op_gt, fun I H x y dx dy Q s hx hy q => ?_⟩
  unfold gGt at q
  split at q
  · exact ⟨_, _, hx.int, hy.int, rep_here s q rfl⟩
  · exact q.elim
theorem gGe_ne : ∀ u v e, gGe u v ≠ .exc e := by
  intro u v e
  unfold gGe
  split <;> simp
theorem od_ge : OpD X cl (compareOp .GtE) gGe := by
  refine ⟨_, op_ge, fun I H x y dx dy Q s hx hy q => ?_⟩
  unfold gGe at q
  split at q
  · exact ⟨_, _, hx.int, hy.int, rep_here s q rfl⟩
  · exact q.elim
theorem isN_of {p : Par} {I H : Hp} {d : D} {v : V} (h : Rdb p I H d v) : decide (v = .non) = d.isNon := by
  rcases h with h | ⟨a, e, h⟩
  · cases d with
    | non => cases h; rfl
    | bl b => cases h; rfl
    | int b => cases h; rfl
    | str b => obtain ⟨e, _⟩ := h; subst e; rfl
    | tup ds => obtain ⟨a, vs, e, _⟩ := h; subst e; rfl
    | lst ds => obtain ⟨a, vs, e, _⟩ := h; subst e; rfl
    | dct ds => obtain ⟨a, vs, _, e, _⟩ := h; subst e; rfl
    | dcn ds => obtain ⟨a, vs, _, e, _⟩ := h; subst e; rfl
    | exn ds => obtain ⟨a, e, _⟩ := h; subst e; rfl
    | scr ds => obtain ⟨a, e, _⟩ := h; subst e; rfl
  · subst e
    cases d <;> first | rfl | exact h.elim
theorem gIs_ne : ∀ u v e, gIs u v ≠ .exc e := by
  intro u v e
  unfold gIs
  split
  · simp
  · split <;> simp
  · simp
theorem opR_or {f : Value → Value → Sem Value} {r1 r2 : R2} (h1 : OpR X f r1) (h2 : OpR X f r2) : OpR X f (fun x y H Q => r1 x y H Q ∨ r2 x y H Q) := by
  unfold OpR at *
  intros
  rename_i h
  rcases h with h | h
  · apply h1 <;> assumption
  · apply h2 <;> assumption
theorem od_is : OpD X cl (compareOp .Is) gIs := by
  refine ⟨_, opR_or op_isN op_is_bl, fun I H x y dx dy Q s hx hy q => ?_⟩
  unfold gIs at q
  split at q
  · refine .inl ⟨hy.non, ?_⟩
    rw [isN_of hx]
    exact rep_here s q rfl
  · split at q
    · exact .inr ⟨_, _, hx.bl, hy.bl, rep_here s q rfl⟩
    · exact q.elim
  · exact q.elim
theorem gIsNot_ne : ∀ u v e, gIsNot u v ≠ .exc e := by
  intro u v e
  unfold gIsNot
  split <;> simp
theorem od_isNot : OpD X cl (compareOp .IsNot) gIsNot := by
  refine ⟨_, op_notN, fun I H x y dx dy Q s hx hy q => ?_⟩
  unfold gIsNot at q
  split at q
  · refine ⟨hy.non, ?_⟩
    rw [isN_of hx]
    exact rep_here s q rfl
  · exact q.elim

/-! ### subscripts, lengths -/
theorem atI_eq {α : Type} (xs : List α) (i : Int) : L2.atI xs i = Den.atI xs i := by
  unfold L2.atI ixN Den.atI
  by_cases h : 0 ≤ i
  · rw [if_pos h, if_pos h]
    by_cases h2 : i < xs.length
    · rw [if_pos h2]; rfl
    · rw [if_neg h2, List.getElem?_eq_none (by omega)]; rfl
  · rw [if_neg h, if_neg h]
    by_cases h2 : -(xs.length : Int) ≤ i
    · rw [if_pos h2, if_pos h2]; rfl
    · rw [if_neg h2, if_neg h2]; rfl
theorem RepL.atI {p : Par} {I : Hp} {ds : List D} {vs : List V} {i : Int} {d : D} (r : RepL p I ds vs) (h : Den.atI ds i = some d) : ∃ v, L2.atI vs i = some v ∧ Rep p I d v := by
  rw [atI_eq]
  unfold Den.atI at h ⊢
  rw [← r.length]
  by_cases h1 : 0 ≤ i
  · rw [if_pos h1] at h ⊢; exact r.get h
  · rw [if_neg h1] at h ⊢
    by_cases h2 : -(ds.length : Int) ≤ i
    · rw [if_pos h2] at h ⊢; exact r.get h
    · rw [if_neg h2] at h; cases h
theorem ofO_ne {α : Type} (o : Option α) (e : Err) : ofO o ≠ .exc e := by cases o <;> simp [ofO]
theorem gIx_ne : ∀ u v e, gIx u v ≠ .exc e := by
  intro u v e
  unfold gIx
  split <;> (try split) <;> first | exact ofO_ne _ _ | simp
theorem atI_map {α β : Type} (f : α → β) (xs : List α) (i : Int) : Den.atI (xs.map f) i = (Den.atI xs i).map f := by
  unfold Den.atI
  rw [List.length_map]
  split
  · simp
  · split <;> simp
theorem ix_data : IxD X cl gIx := by
  refine ⟨_, IxR.or ix_list (IxR.or ix_tup ix_str), fun I H x y dx dy Q s hx hy q => ?_⟩
  unfold gIx at q
  split at q
  · rename_i ds i
    obtain ⟨a, vs, e1, q1, r1⟩ := hx.lst s
    cases h : Den.atI ds i with
    | none => rw [h] at q; exact q.elim
    | some d =>
      rw [h] at q
      obtain ⟨v, h1, h2⟩ := RepL.atI r1 h
      exact .inl ⟨a, vs, i, v, e1, hy.int, SqL.of q1, h1, rep_here s q h2⟩
  · rename_i ds i
    obtain ⟨a, vs, e1, q1, _, r1⟩ := hx.tup s
    cases h : Den.atI ds i with
    | none => rw [h] at q; exact q.elim
    | some d =>
      rw [h] at q
      obtain ⟨v, h1, h2⟩ := RepL.atI r1 h
      exact .inr (.inl ⟨a, vs, i, v, e1, hy.int, q1, h1, rep_here s q h2⟩)
  · rename_i l i
    by_cases hl : l.length ≤ LIM
    · rw [if_pos hl] at q
      obtain ⟨e1, v1⟩ := hx.str
      cases h : Den.atI l i with
      | none => rw [h] at q; exact q.elim
      | some c =>
        rw [h] at q
        refine .inr (.inr ⟨_, i, c, e1, hy.int, by rw [str_len]; exact lim_line hl, by rw [atI_eq]; exact h, rep_here s q ⟨rfl, fun k hk => ?_⟩⟩)
        have e : k = c := by simpa using hk
        subst e
        refine v1 k ?_
        unfold Den.atI at h
        split at h
        · exact List.mem_of_getElem? h
        · split at h
          · exact List.mem_of_getElem? h
          · cases h
    · rw [if_neg hl] at q; exact q.elim
  · rename_i ns i
    obtain ⟨a, e1, q1⟩ := hx.scr s
    cases h : Den.atI ns i with
    | none => rw [h] at q; exact q.elim
    | some n =>
      rw [h] at q
      exact .inl ⟨a, _, i, .int n, e1, hy.int, q1, by rw [atI_eq, atI_map, h]; rfl, rep_here s q rfl⟩
  · exact q.elim
theorem gLen_ne : ∀ u e, gLen u ≠ .exc e := by
  intro u e
  unfold gLen
  split <;> (try split) <;> simp
theorem c_len : C1D X cl (.builtin "len") gLen := by
  refine ⟨_, CallR.or call_len_seq call_len_str, fun I H x dx Q s hx q => ?_⟩
  unfold gLen at q
  split at q
  · obtain ⟨a, vs, e1, q1, r1⟩ := hx.lst s
    exact .inl ⟨a, vs, by rw [e1], .inl (SqL.of q1), by rw [← r1.length]; exact rep_here s q rfl⟩
  · obtain ⟨a, vs, e1, q1, _, r1⟩ := hx.tup s
    exact .inl ⟨a, vs, by rw [e1], .inr q1, by rw [← r1.length]; exact rep_here s q rfl⟩
  · rename_i l
    by_cases hl : l.length ≤ LIM
    · rw [if_pos hl] at q
      obtain ⟨e1, v1⟩ := hx.str
      exact .inr ⟨_, by rw [e1], by rw [str_len]; exact lim_line hl, by rw [str_len]; exact rep_here s q rfl⟩
    · rw [if_neg hl] at q; exact q.elim
  · rename_i ns
    obtain ⟨a, e1, q1⟩ := hx.scr s
    exact .inl ⟨a, _, by rw [e1], .inl q1, by rw [List.length_map]; exact rep_here s q rfl⟩
  · exact q.elim
end
end Den

/-! Den7: defs: what they promise, calls, errors raised. -/
namespace Den
open PySem L2

/-- what a def promises: as the function F on data -/
def spOf (p : Par) (n : Nat) (F : List D → Out D) : Sp := fun vs H Q E => vs.length = n ∧ ∃ I ds, Same I H ∧ RepL p I ds vs ∧
  OutP (F ds) (fun d => ∀ I' H' v, Ext I H I' H' → Rep p I' d v → Q v H') (fun e => ∀ I' H', Ext I H I' H' → E (.ref (p.cl e)) none H')
/-- the same but for the object at t -/
structure ExtT (t : Addr) (I H I' H' : Hp) : Prop where
  ii : Same I I'
  ih : Same I' H'
  hh : ∀ a o, a ≠ t → H a = some o → H' a = some o
  nw : ∀ a, a ≠ t → I' a ≠ none → I a ≠ none ∨ H a = none
/-- .. that changes what its second argument holds -/
def spIO (p : Par) (n : Nat) (F : D → List D → Out (D × D)) : Sp := fun vs H Q E => vs.length = n ∧ ∃ I td d ds t v0 vr, vs = v0 :: .ref t :: vr ∧ Same I H ∧ I t = none ∧ OwnAt p I H t td ∧ Rep p I d v0 ∧ RepL p I ds vr ∧
  OutP (F td (d :: ds)) (fun r => ∀ I' H' v, ExtT t I H I' H' → I' t = none → Rep p I' r.1 v → OwnAt p I' H' t r.2 → Q v H') (fun e => ∀ I' H', ExtT t I H I' H' → E (.ref (p.cl e)) none H')

/-- all but what stays -/
def offI (I H : Hp) : Hp := fun a => match I a with
  | some _ => none
  | none => H a
theorem offI_none {I H : Hp} {a : Addr} (h : I a ≠ none) : offI I H a = none := by
  unfold offI
  cases q : I a with
  | none => exact absurd q h
  | some o => rfl
theorem offI_some {I H : Hp} {a : Addr} (h : I a = none) : offI I H a = H a := by unfold offI; rw [h]
theorem offI_sub {I H : Hp} : Same (offI I H) H := fun a o e => by
  cases q : I a with
  | none => rw [offI_some q] at e; exact e
  | some u => rw [offI_none (by rw [q]; simp)] at e; cases e
theorem base_offI {I H : Hp} (s : Same I H) : Base I (offI I H) H := ⟨s, offI_sub, fun a h => offI_none h⟩
theorem ext_offI {I H I' H' : Hp} (s : Same I H) (ii : Same I I') (b : Base I' (offI I H) H') : Ext I H I' H' :=
  ⟨ii, b.ih, fun a o e => by
    cases q : I a with
    | none => exact b.gh a o (by rw [offI_some q]; exact e)
    | some u =>
      have z := s a u q
      rw [e] at z; cases z
      exact b.ih _ _ (ii _ _ q), fun a h => by
    by_cases q : I a = none
    · right
      have z := b.ig a h
      rw [offI_some q] at z
      exact z
    · exact .inl q⟩

section
variable {X : Cx} {cl : Cls} {t : Addr} {W : WX} {e a : Expr} {es : List Expr} {fa : FE} {ff : FA} {pos : Pos} {k : Nat} {f : Addr} {fd : FuncData} {ps : List Str} {x : Str} {p pp : Pos}
theorem de_call {F : List D → Out D} (G : FnOk X.prog X.w X.K X.mg X.base (L2N.CX X.prog X.w) k f fd ps (spOf (pr X cl) ps.length F)) (hr : Room k X.A) (hm : X.mg x = some (.ref f)) (hk : PySem.W.keepIn X.K (.ref f) = true) (hb : Binds X.K fd ps []) (tk : L2N.Takes X W)
    (ha : DA X cl t W (e :: es) ff) (hl : (e :: es).length = ps.length := by rfl) (hg : Gl X x := by rfl) (hdb : (x == ("__debug__" : Str)) = false := by decide)
    (he : starEach (e :: es) X.env = (false, eval e X.env) :: starEach es X.env := by rfl) (hpl : (backTo pos (starEach es X.env)).any (·.1) = false := by rfl) : DE X cl t W (.Call (.Name x p) (e :: es) [] pos) (fCall F ff) := by
  have len := ha.len
  obtain ⟨ta, pa, la⟩ := ha.ex
  refine DE.mk (pe_callS G hr hg hm hk hb (fun σ => L2N.passAt tk σ) pa hdb he hpl) fun I G' H σ ρ Q s q => la I G' H σ ρ _ s ?_
  unfold fCall at q
  rw [outP_bind] at q
  cases e1 : ff ρ with
  | bad => rw [e1] at q; exact q
  | exc er => rw [e1] at q; exact q
  | ok y =>
    rw [e1] at q
    intro I1 H1 vs s1 st1 r1
    refine ⟨by rw [← r1.length, len _ _ e1, hl], I1, y.1, st1.b.ih, r1, ?_⟩
    have q' : OutP ((F y.1).bind _) _ _ := q
    rw [outP_bind] at q'
    exact q'.imp (fun d q I2 H2 v x2 r2 => q I2 H2 v (s1.trans x2.ii) (st1.ext x2) r2) fun er z I2 H2 x2 => z I2 H2 σ (s1.trans x2.ii) (st1.b.ext x2)
/-- a slot's own object is changed -/
theorem St.setIO {q : Par} {I G H I' H' : Hp} {σ : L2.St} {ρ : DS} {i : Nat} {d : D} {b : Addr} {sv sv' : SV} (s : St q t I G H σ ρ) (h : ρ[i]? = some (some sv)) (o : sv.own = true) (hσ : σ[i]? = some (some (.ref b))) (x : ExtT b I H I' H') (xb : I' b = none) (r : OwnAt q I' H' b d)
    (hsv : (∃ d0, sv = .ow d0 ∧ sv' = .ow d) ∨ ∃ d0, sv = .io d0 ∧ sv' = .io d) : St q t I' G H' σ (ρ.set i (some sv')) := by
  obtain ⟨v, h1, h2⟩ := s.sl i sv h
  rw [hσ] at h1; cases h1
  have own' : sv'.own = true := by rcases hsv with ⟨d0, _, e⟩ | ⟨d0, _, e⟩ <;> subst e <;> rfl
  have hb : I b = none ∧ G b = none ∧ H b ≠ none := by
    rcases hsv with ⟨d0, e, _⟩ | ⟨d0, e, _⟩
    · subst e; obtain ⟨c, e2, h3, h4, h5⟩ := h2; cases e2; exact ⟨h3, h4, h5.there⟩
    · subst e; obtain ⟨e2, h3, h4, h5⟩ := h2; cases e2; exact ⟨h3, h4, h5.there⟩
  have nn : ∀ c, I c = none → H c ≠ none → I' c = none := fun c h3 h4 => by
    cases z : I' c with
    | none => rfl
    | some u =>
      by_cases hc : c = b
      · subst hc; rw [xb] at z; cases z
      · rcases x.nw c hc (by rw [z]; simp) with y | y
        · exact absurd h3 y
        · exact absurd y h4
  have hlt : i < ρ.length := (List.getElem?_eq_some_iff.mp h).1
  refine ⟨⟨x.ih, fun c u e => x.hh c u (ne_of_none e hb.2.1) (s.b.gh _ _ e), fun c h3 => ?_⟩, fun j sv2 h3 => ?_, fun j k y z c h3 o3 h4 o4 e3 e4 => ?_, by simp [s.len]⟩
  · by_cases hc : c = b
    · subst hc; exact hb.2.1
    · rcases x.nw c hc h3 with y | y
      · exact s.b.ig c y
      · exact s.b.gh.free y
  · rw [List.getElem?_set] at h3
    by_cases hj : i = j
    · subst hj
      rw [if_pos rfl, if_pos hlt] at h3
      cases h3
      refine ⟨_, hσ, ?_⟩
      rcases hsv with ⟨d0, e, e'⟩ | ⟨d0, e, e'⟩
      · subst e'; exact ⟨b, rfl, nn b hb.1 hb.2.2, hb.2.1, r⟩
      · subst e'; subst e; obtain ⟨e2, h3, h4, h5⟩ := h2; cases e2; exact ⟨rfl, nn _ hb.1 hb.2.2, hb.2.1, r⟩
    · rw [if_neg hj] at h3
      obtain ⟨v2, h4, h5⟩ := s.sl j sv2 h3
      refine ⟨v2, h4, ?_⟩
      have nb : ∀ c, sv2.own = true → v2 = .ref c → c ≠ b := fun c o2 e2 z => by
        subst e2; subst z
        exact hj (s.ap i j sv sv2 c h o h3 o2 hσ h4)
      cases sv2 with
      | fz d2 => exact Rep.mono x.ii h5
      | ow d2 => obtain ⟨c, e2, h6, h7, h8⟩ := h5; exact ⟨c, e2, nn c h6 h8.there, h7, h8.mono x.ii fun u => x.hh c u (nb c rfl e2)⟩
      | io d2 => obtain ⟨e2, h6, h7, h8⟩ := h5; exact ⟨e2, nn t h6 h8.there, h7, h8.mono x.ii fun u => x.hh t u (nb t rfl e2)⟩
  · have back : ∀ (j : Nat) (y : SV), (ρ.set i (some sv'))[j]? = some (some y) → y.own = true → ∃ y', ρ[j]? = some (some y') ∧ y'.own = true := fun j y h6 o6 => by
      rw [List.getElem?_set] at h6
      by_cases hj : i = j
      · subst hj; exact ⟨sv, h, o⟩
      · rw [if_neg hj] at h6; exact ⟨y, h6, o6⟩
    obtain ⟨y', h5, o5⟩ := back j y h3 o3
    obtain ⟨z', h6, o6⟩ := back k z h4 o4
    exact s.ap j k y' z' c h5 o5 h6 o6 e3 e4
theorem de_callIO {F : D → List D → Out (D × D)} {y : Str} (i : Nat) (G : FnOk X.prog X.w X.K X.mg X.base (L2N.CX X.prog X.w) k f fd ps (spIO (pr X cl) ps.length F)) (hr : Room k X.A) (hm : X.mg x = some (.ref f)) (hk : PySem.W.keepIn X.K (.ref f) = true) (hb : Binds X.K fd ps []) (tk : L2N.Takes X W)
    (ha : DE X cl t W e fa) (hv : PE X (.Name y pp) (tVar i)) (hr2 : DA X cl t W es ff) (hl : es.length + 2 = ps.length := by rfl) (hg : Gl X x := by rfl) (hdb : (x == ("__debug__" : Str)) = false := by decide)
    (he : starEach (e :: .Name y pp :: es) X.env = (false, eval e X.env) :: starEach (.Name y pp :: es) X.env := by rfl) (he2 : starEach (.Name y pp :: es) X.env = (false, eval (.Name y pp) X.env) :: starEach es X.env := by rfl)
    (hpl : (backTo pos (starEach (.Name y pp :: es) X.env)).any (·.1) = false := by rfl) : DE X cl t W (.Call (.Name x p) (e :: .Name y pp :: es) [] pos) (fCallIO F i fa ff) := by
  have len := hr2.len
  obtain ⟨ta, pa, la⟩ := hr2.ex
  refine DE.mk (pe_callS G hr hg hm hk hb (fun σ => L2N.passAt tk σ) (pa_cons (PE.mv ha) (pa_cons hv pa he2) he) hdb he hpl) fun I G' H σ ρ Q s q => ?_
  unfold fCallIO at q
  rw [outP_bind] at q
  refine DE.keepLE (W := W) s (q.imp (fun x1 q I1 H1 v0 s1 st1 r1 => ?_) fun _ z => z)
  cases e1 : cont x1.2 i with
  | bad => rw [e1] at q; exact q.elim
  | exc er => exact absurd e1 (get_exc (.at i) _ _)
  | ok dc =>
    rw [e1] at q
    simp only [Out.bind_ok] at q
    have hσ : ∃ v, σ[i]? = some (some v) := by
      unfold cont at e1
      split at e1
      · rename_i h; obtain ⟨v, h2, _⟩ := st1.sl _ _ h; exact ⟨v, h2⟩
      · rename_i h; obtain ⟨v, h2, _⟩ := st1.sl _ _ h; exact ⟨v, h2⟩
      · rename_i h; obtain ⟨v, h2, _⟩ := st1.sl _ _ h; exact ⟨v, h2⟩
      · cases e1
    obtain ⟨v, hv⟩ := hσ
    refine ⟨v, hv, la I1 G' H1 σ x1.2 _ st1 ?_⟩
    rw [outP_bind] at q
    cases e2 : ff x1.2 with
    | bad => rw [e2] at q; exact q
    | exc er => rw [e2] at q; exact PostX.mono s1 q
    | ok y1 =>
      rw [e2] at q
      intro I2 H2 vs s2 st2 r2
      obtain ⟨us, ρ2⟩ := y1
      have fin : ∀ (sv : SV) (d : D) (g : D → SV), ρ2[i]? = some (some sv) → sv.own = true → ((sv = .ow d ∧ g = .ow) ∨ (sv = .io d ∧ g = .io)) → OutP ((F d (x1.1 :: us)).bind fun r => Out.ok (R.fz r.1, ρ2.set i (some (g r.2)))) (fun x => ∀ I' H' v, Same I I' → St (pr X cl) t I' G' H' σ x.2 → RR (pr X cl) I' σ x.1 v → Q v H') (PostX (pr X cl) W I G') →
          spIO (pr X cl) ps.length F (v0 :: v :: vs) H2 Q (WE W σ) := fun sv d g h o hsv q => by
        obtain ⟨v', h1, h2⟩ := st2.sl i sv h
        rw [hv] at h1; cases h1
        have hb : ∃ b, v = .ref b ∧ I2 b = none ∧ OwnAt (pr X cl) I2 H2 b d := by
          rcases hsv with ⟨e, _⟩ | ⟨e, _⟩
          · subst e; obtain ⟨c, e2, h3, h4, h5⟩ := h2; exact ⟨c, e2, h3, h5⟩
          · subst e; obtain ⟨e2, h3, h4, h5⟩ := h2; exact ⟨t, e2, h3, h5⟩
        obtain ⟨b, e3, i3, o3⟩ := hb
        subst e3
        refine ⟨by simp [← r2.length, len _ _ e2]; omega, I2, d, x1.1, us, b, v0, vs, rfl, st2.b.ih, i3, o3, r1.mono s2, r2, ?_⟩
        rw [outP_bind] at q
        refine q.imp (fun r q I3 H3 v3 x3 xb r3 o4 => ?_) fun er z I3 H3 x3 => z I3 H3 σ ((s1.trans s2).trans x3.ii) ?_
        · refine q I3 H3 v3 ((s1.trans s2).trans x3.ii) (st2.setIO h o hv x3 xb o4 ?_) r3
          rcases hsv with ⟨e, e'⟩ | ⟨e, e'⟩
          · subst e'; exact .inl ⟨d, e, rfl⟩
          · subst e'; exact .inr ⟨d, e, rfl⟩
        · have hgb : G' b = none := by
            rcases hsv with ⟨e, _⟩ | ⟨e, _⟩
            · subst e; obtain ⟨c, e2, h3, h4, h5⟩ := h2; cases e2; exact h4
            · subst e; obtain ⟨e2, h3, h4, h5⟩ := h2; cases e2; exact h4
          refine ⟨x3.ih, fun c u e => x3.hh c u (ne_of_none e hgb) (st2.b.gh _ _ e), fun c h3 => ?_⟩
          by_cases hc : c = b
          · subst hc; exact hgb
          · rcases x3.nw c hc h3 with y | y
            · exact st2.b.ig c y
            · exact st2.b.gh.free y
      have q' : OutP (match ρ2[i]? with
        | some (some (.ow d)) => (F d (x1.1 :: us)).bind fun r => Out.ok (R.fz r.1, ρ2.set i (some (.ow r.2)))
        | some (some (.io d)) => (F d (x1.1 :: us)).bind fun r => Out.ok (R.fz r.1, ρ2.set i (some (.io r.2)))
        | _ => .bad) _ _ := q
      split at q'
      · rename_i d h; exact fin _ d .ow h rfl (.inl ⟨rfl, rfl⟩) q'
      · rename_i d h; exact fin _ d .io h rfl (.inr ⟨rfl, rfl⟩) q'
      · exact q'.elim
end
end Den

/-! Den8: a def's body keeps its promise; errors raised. -/
namespace Den
open PySem PySem.Spec PyProof.Rows L2
section
variable {P : Program} {w : World} {K : PySem.W.Frag} {mg : Str → Option Value} {base : Heap} {cl : Cls} {t : Addr}
/-- what a def that raises wishes -/
abbrev WF (E : XK) : WX := fun c d _ H => E c d H
theorem start_get {ds : List D} {n i : Nat} {sv : SV} (h : (Den.start ds n)[i]? = some (some sv)) : ∃ d, ds[i]? = some d ∧ sv = .fz d := by
  unfold Den.start at h
  by_cases hi : i < ds.length
  · rw [List.getElem?_append_left (by simpa using hi), List.getElem?_map] at h
    cases e : ds[i]? with
    | none => rw [e] at h; cases h
    | some d => rw [e] at h; cases h; exact ⟨d, rfl, rfl⟩
  · rw [List.getElem?_append_right (by simpa using hi), List.getElem?_replicate] at h
    split at h <;> cases h
theorem startV_get {N : List Str} {vs : List V} {i : Nat} {v : V} (h : vs[i]? = some v) : (L2.start N vs)[i]? = some (some v) := by
  unfold L2.start
  have hi := (List.getElem?_eq_some_iff.mp h).1
  rw [List.getElem?_append_left (by simpa using hi), List.getElem?_map, h]
  rfl
theorem St.start {p : Par} {I H : Hp} {ds : List D} {vs : List V} {N : List Str} {n : Nat} (s : Same I H) (r : RepL p I ds vs) (hn : N.length = vs.length + n) : St p t I (offI I H) H (L2.start N vs) (Den.start ds n) := by
  refine ⟨base_offI s, fun i sv h => ?_, fun i j x y a h1 o1 h2 => ?_, ?_⟩
  · obtain ⟨d, h1, rfl⟩ := start_get h
    obtain ⟨v, h2, h3⟩ := r.get h1
    exact ⟨v, startV_get h2, h3⟩
  · obtain ⟨d, _, rfl⟩ := start_get h1
    cases o1
  · unfold Den.start L2.start
    have := r.length
    simp
    omega
theorem Fun_okN {x qual : Str} {st : Stmt} {f : Addr} {fd : FuncData} {N ps : List Str} {k : Nat} {sp : Sp} (F : Fun K x qual st f fd) (S : FnScope N ps (defScope st)) (len : ∀ vs H Q E, sp vs H Q E → vs.length = ps.length)
    (hbody : ∀ (cdv : Value) (A : Around) (outer : List Env) (s : Shared) (H : Hp) (vs : List V) (Q : VK) (E : XK), Room k (A.deeper (envOfC qual (defScope st) s.heap.objs.size f cdv)) → sp vs H Q E →
      ∃ t, PSs (cxOf (L2N.CX P w) P w K mg base N qual (defScope st) f cdv A outer s H E) (defBody st) t ∧ t { nx := fun _ H' => Q .non H', rt := Q } (L2.start N vs) H) : FnOk P w K mg base (L2N.CX P w) (k + 1) f fd ps sp := by
  obtain ⟨oc, od, kV, doc, pm, an, cdv, ct, osl, rfl, lk, hcd⟩ := F.ex
  exact fn_of lk hcd S len fun A outer s H vs Q E hr hsp => hbody cdv A outer s H vs Q E hr hsp
theorem fn_mk {x qual : Str} {st : Stmt} {f : Addr} {fd : FuncData} {N ps : List Str} {k : Nat} {fb : FS} (n : Nat) (F : Fun K x qual st f fd) (S : FnScope N ps (defScope st)) (hn : N.length = ps.length + n)
    (hb : ∀ (cdv : Value) (A : Around) (outer : List Env) (s : Shared) (H : Hp) (E : XK), Room k (A.deeper (envOfC qual (defScope st) s.heap.objs.size f cdv)) →
      DSs (cxOf (L2N.CX P w) P w K mg base N qual (defScope st) f cdv A outer s H E) cl t (WF E) (defBody st) fb) :
    FnOk P w K mg base (L2N.CX P w) (k + 1) f fd ps (spOf ⟨P, w, K, cl⟩ ps.length (runF fb n)) := by
  refine Fun_okN F S (fun vs H Q E h => h.1) (fun cdv A outer s H vs Q E hr h => ?_)
  obtain ⟨hl, I, ds, hs, r, q⟩ := h
  have hd := hb cdv A outer s H E hr
  refine ⟨_, hd, I, offI I H, Den.start ds n, St.start hs r (by omega), ?_⟩
  unfold runF at q
  rw [outP_bind] at q
  refine q.imp (fun y q => ?_) fun er z => fun I' H' σ' s' b' => z I' H' (ext_offI hs s' b')
  cases y with
  | nx ρ => exact fun I' H' σ' s' st' => q I' H' .non (ext_offI hs s' st'.b) rfl
  | rt d ρ => exact fun I' H' σ' v s' st' r' => q I' H' v (ext_offI hs s' st'.b) r'
  | bk ρ => exact q.elim
  | ct ρ => exact q.elim
theorem startIO_get {d td : D} {ds : List D} {n i : Nat} {sv : SV} (h : (startIO d td ds n)[i]? = some (some sv)) : (i = 0 ∧ sv = .fz d) ∨ (i = 1 ∧ sv = .io td) ∨ ∃ j e, i = j + 2 ∧ ds[j]? = some e ∧ sv = .fz e := by
  unfold startIO at h
  match i, h with
  | 0, h => simp at h; exact .inl ⟨rfl, h.symm⟩
  | 1, h => simp at h; exact .inr (.inl ⟨rfl, h.symm⟩)
  | i + 2, h =>
    simp only [List.getElem?_cons_succ] at h
    obtain ⟨e, h1, h2⟩ := start_get (n := n) h
    exact .inr (.inr ⟨i, e, rfl, h1, h2⟩)
theorem St.startIO {p : Par} {I H : Hp} {d td : D} {ds : List D} {v0 : V} {vr : List V} {N : List Str} {n : Nat} (s : Same I H) (ht : I t = none) (o : OwnAt p I H t td) (r0 : Rep p I d v0) (r : RepL p I ds vr) (hn : N.length = vr.length + 2 + n) :
    St p t I (fun a => if a = t then none else offI I H a) H (L2.start N (v0 :: .ref t :: vr)) (Den.startIO d td ds n) := by
  refine ⟨⟨s, fun a u e => ?_, fun a h => ?_⟩, fun i sv h => ?_, fun i j x y a h1 o1 h2 o2 e1 e2 => ?_, ?_⟩
  · by_cases ha : a = t
    · rw [if_pos ha] at e; cases e
    · rw [if_neg ha] at e; exact offI_sub _ _ e
  · show (if a = t then none else offI I H a) = none
    by_cases ha : a = t
    · rw [if_pos ha]
    · rw [if_neg ha]; exact offI_none h
  · rcases startIO_get h with ⟨rfl, rfl⟩ | ⟨rfl, rfl⟩ | ⟨j, e, rfl, h1, rfl⟩
    · exact ⟨v0, startV_get rfl, r0⟩
    · exact ⟨.ref t, startV_get rfl, rfl, ht, if_pos rfl, o⟩
    · obtain ⟨v, h2, h3⟩ := r.get h1
      exact ⟨v, startV_get (by simpa using h2), h3⟩
  · rcases startIO_get h1 with ⟨rfl, rfl⟩ | ⟨rfl, rfl⟩ | ⟨j', e, rfl, h3, rfl⟩
    · cases o1
    · rcases startIO_get h2 with ⟨rfl, rfl⟩ | ⟨rfl, rfl⟩ | ⟨j', e, rfl, h3, rfl⟩
      · cases o2
      · rfl
      · cases o2
    · cases o1
  · unfold Den.startIO L2.start
    have := r.length
    simp
    omega
theorem fn_mkIO {x qual : Str} {st : Stmt} {f : Addr} {fd : FuncData} {N ps : List Str} {k : Nat} {fb : FS} (n : Nat) (F : Fun K x qual st f fd) (S : FnScope N ps (defScope st)) (hn : N.length = ps.length + n)
    (hb : ∀ (t : Addr) (cdv : Value) (A : Around) (outer : List Env) (s : Shared) (H : Hp) (E : XK), Room k (A.deeper (envOfC qual (defScope st) s.heap.objs.size f cdv)) →
      DSs (cxOf (L2N.CX P w) P w K mg base N qual (defScope st) f cdv A outer s H E) cl t (WF E) (defBody st) fb) :
    FnOk P w K mg base (L2N.CX P w) (k + 1) f fd ps (spIO ⟨P, w, K, cl⟩ ps.length (runIO fb n)) := by
  refine Fun_okN F S (fun vs H Q E h => h.1) (fun cdv A outer s H vs Q E hr h => ?_)
  obtain ⟨hl, I, td, d, ds, t, v0, vr, rfl, hs, ht, o, r0, r, q⟩ := h
  have hd := hb t cdv A outer s H E hr
  have hl' : vr.length + 2 = ps.length := by simpa using hl
  refine ⟨_, hd, I, _, Den.startIO d td ds n, St.startIO hs ht o r0 r (by omega), ?_⟩
  have ex : ∀ {I' H' : Hp}, Same I I' → Base I' (fun a => if a = t then none else offI I H a) H' → ExtT t I H I' H' := fun {I' H'} ii b =>
    ⟨ii, b.ih, fun a u ha e => by
      cases q : I a with
      | none => exact b.gh a u (by show (if a = t then none else offI I H a) = some u; rw [if_neg ha, offI_some q]; exact e)
      | some u2 =>
        have z := hs a u2 q
        rw [e] at z; cases z
        exact b.ih _ _ (ii _ _ q), fun a ha h => by
      by_cases q : I a = none
      · right
        have z : (if a = t then none else offI I H a) = none := b.ig a h
        rw [if_neg ha, offI_some q] at z
        exact z
      · exact .inl q⟩
  have io : ∀ {I' G H' : Hp} {σ : L2.St} {ρ : DS} {t' : D}, St ⟨P, w, K, cl⟩ t I' G H' σ ρ → ioAt ρ 1 = .ok t' → I' t = none ∧ OwnAt ⟨P, w, K, cl⟩ I' H' t t' := fun {I' G H' σ ρ t'} st e => by
    unfold ioAt at e
    split at e
    · rename_i d1 h1
      cases e
      obtain ⟨v, _, _, h3, _, h5⟩ := st.sl _ _ h1
      exact ⟨h3, h5⟩
    · cases e
  unfold runIO at q
  simp only at q
  rw [outP_bind] at q
  refine q.imp (fun y q => ?_) fun er z => fun I' H' σ' s' b' => z I' H' (ex s' b')
  cases y with
  | nx ρ =>
    intro I' H' σ' s' st'
    cases e : ioAt ρ 1 with
    | bad => simp only [e] at q; exact q.elim
    | exc er => unfold ioAt at e; split at e <;> cases e
    | ok t' =>
      simp only [e] at q
      obtain ⟨h1, h2⟩ := io st' e
      exact q I' H' .non (ex s' st'.b) h1 rfl h2
  | rt d ρ =>
    intro I' H' σ' v s' st' r'
    cases e : ioAt ρ 1 with
    | bad => simp only [e] at q; exact q.elim
    | exc er => unfold ioAt at e; split at e <;> cases e
    | ok t' =>
      simp only [e] at q
      obtain ⟨h1, h2⟩ := io st' e
      exact q I' H' v (ex s' st'.b) h1 r' h2
  | bk ρ => exact q.elim
  | ct ρ => exact q.elim
end

/-! ### errors raised -/
/-- what the text says of an error class -/
structure ErrOk (K : PySem.W.Frag) (C B : Addr) : Prop where
  ex : PySem.W.excIn K C [.type "ValueError", .type "Exception", .type "BaseException", .type "object"] "ValueError.__new__" = true
  kp : PySem.W.keepIn K (.ref C) = true
  sub : PySem.W.subIn K (.ref C) (.type "BaseException") = some true
  ty : PySem.W.typeIn K (.ref C) = some (.type "type")
section
variable {X : Cx} {cl : Cls} {t : Addr} {W : WX} {x m : Str} {j : Nat} {p p2 pos pos2 : Pos}
theorem ds_raise {B : Addr} (er : Err) (hm : X.mg x = some (.ref (cl er))) (h : ErrOk X.K (cl er) B) (tk : L2N.Takes X W) (hc : X.calm = true) (hg : Gl X x := by rfl) (hdb : (x == ("__debug__" : Str)) = false := by decide) :
    DS1 X cl t W (.Raise (some (.Call (.Name x p) [.Constant (.str m) j p2] [] pos)) none pos2) (sRaise er) := by
  refine DS1.mk (L2N.ps_raise hc tk (L2N.pmk_own PySem.F.excBase_ValueError h.ex hm h.kp (raises_own h.sub h.ty) hg hdb)) fun I G H σ ρ Z s q => ?_
  exact q I H σ (Same.refl _) s.b
end
end Den

/-! Den9: isinstance, in, the built-in functions, slices, methods of lists. -/
namespace Den
open PySem PySem.Spec PyProof.Rows L2
section
variable {X : Cx} {cl : Cls} {t : Addr} {W : WX} {e a b : Expr} {es : List Expr} {fa fb : FE} {ff : FA} {pos : Pos}

/-! ### isinstance -/
def Ty.nm : Ty → String
  | .int => "int"
  | .bool => "bool"
  | .str => "str"
  | .tuple => "tuple"
  | .list => "list"
  | .dict => "dict"
theorem isTy_kit {K : PySem.W.Frag} {p : Par} {I H : Hp} (hK : p.K = K) (s : Same I H) {T : Ty} {d : D} {v : V} {b : Bool} (h : Rdb p I H d v) (e : isTy T d = .ok b) : ∃ tv, TyX K H v tv ∧ PySem.W.kitOne K tv (.type T.nm) = some b := by
  subst hK
  cases d with
  | non =>
    have hv := h.non; subst hv; cases e
    exact ⟨_, .base .non, by cases T <;> exact kit_ty (by decide +kernel)⟩
  | bl x =>
    have hv := h.bl; subst hv; cases e
    exact ⟨_, .base (.bl x), by cases T <;> exact kit_ty (by decide +kernel)⟩
  | int x =>
    have hv := h.int; subst hv; cases e
    exact ⟨_, .base (.int x), by cases T <;> exact kit_ty (by decide +kernel)⟩
  | str x =>
    have hv := h.str.1; subst hv; cases e
    exact ⟨_, .base (.str _), by cases T <;> exact kit_ty (by decide +kernel)⟩
  | tup ds =>
    obtain ⟨a, vs, e1, q1, _, _⟩ := h.tup s
    subst e1; cases e
    have hk : PySem.W.kitOne p.K (.type "tuple") (.type T.nm) = some (decide (T = .tuple)) := by cases T <;> exact kit_ty (by decide +kernel)
    rcases q1 with (q1 | ⟨o, q1⟩) | ⟨o, its, n, q1, q2, _⟩
    · exact ⟨_, .base (.tup q1), hk⟩
    · exact ⟨_, .fTuple q1, hk⟩
    · exact ⟨_, .kTuple q1 q2, hk⟩
  | lst ds =>
    obtain ⟨a, vs, e1, q1, _⟩ := h.lst s
    subst e1; cases e
    exact ⟨_, .base (.lst q1), by cases T <;> exact kit_ty (by decide +kernel)⟩
  | dct kvs =>
    have hk : PySem.W.kitOne p.K (.type "dict") (.type T.nm) = some (decide (T = .dict)) := by cases T <;> exact kit_ty (by decide +kernel)
    cases e
    rcases h with ⟨a, o, ws, e1, q1, _⟩ | ⟨a, e1, ws, q1, _⟩
    · subst e1; exact ⟨_, .fDict (s _ _ q1), hk⟩
    · subst e1; exact ⟨_, .base (.dK q1), hk⟩
  | _ => cases e
theorem gIsi_ne {T : Ty} : ∀ u e, gIsi T u ≠ .exc e := by
  intro u e
  unfold gIsi
  cases u <;> simp [isTy]
/-- isinstance(a, T) -/
theorem de_isi (T : Ty) {x : Str} {p p2 : Pos} (ha : DE X cl t W a fa) (hm : X.mg "isinstance" = none) (hm2 : X.mg x = none) (hv : bootBuiltins x = some (.type T.nm)) (hg : Gl X "isinstance" := by rfl) (hg2 : Gl X x := by rfl)
    (hn : x ≠ "__name__" := by decide) (hdb : (x == ("__debug__" : Str)) = false := by decide)
    (he : starEach [a, .Name x p2] X.env = (false, eval a X.env) :: starEach [.Name x p2] X.env := by rfl) (he2 : starEach [.Name x p2] X.env = (false, eval (.Name x p2) X.env) :: starEach [] X.env := by rfl) (hpl : (backTo pos (starEach [.Name x p2] X.env)).any (·.1) = false := by rfl) :
    DE X cl t W (.Call (.Name "isinstance" p) [a, .Name x p2] [] pos) (fUn (gIsi T) fa) := by
  obtain ⟨ta, pa, la⟩ := ha.ex
  refine DE.mk (pe_callB call_isi hg hm boot_isinstance (pa_cons pa (pa_cons (pe_bltn (v := .ty T.nm) hg2 hm2 hv rfl hn hdb) pa_nil he2) he) (by decide) (by decide) he hpl) ?_
  refine LE.un (r := fun x H Q => rIsi X.K [x, .ty T.nm] H Q) gIsi_ne la (fun I H x dx Q s hx q => ?_)
  unfold gIsi at q
  cases e1 : isTy T dx with
  | bad => rw [e1] at q; exact q.elim
  | exc er => unfold isTy at e1; split at e1 <;> cases e1
  | ok k =>
    rw [e1] at q
    obtain ⟨tv, h1, h2⟩ := isTy_kit (K := X.K) rfl s hx e1
    exact ⟨x, _, tv, _, k, rfl, .ty _, h1, h2, rep_here s q rfl⟩

/-! ### in -/
theorem any_eqv_py {x : D} (hx : x.plain = true) : ∀ ys : List D, D.plainL ys = true → ((D.pyL ys).any fun z => PyData.eqv z x.py) = ys.any fun z => z.eqv x
  | [], _ => rfl
  | y :: ys, h => by
    rw [D.plainL, Bool.and_eq_true] at h
    rw [D.pyL, List.any_cons, List.any_cons, eqv_py y x h.1 hx, any_eqv_py hx ys h.2]
def rInM (K : PySem.W.Frag) (neg : Bool) : R2 := fun x y H Q => ∃ d ds, Dp K H x d ∧ (Dp K H y (.list ds) ∨ Dp K H y (.tuple ds)) ∧ d.canLay0 = true ∧ PyData.canLayAll0 ds = true ∧ d.depth ≤ 60 ∧ Q (.bl (neg ^^ ds.any fun z => PyData.eqv z d)) H
theorem op_inM (hu : X.A.units + 65 < cLine) : OpR X (compareOp .In) (rInM X.K false) := by
  intro pins s σ H x y v u Q I rx ry h
  obtain ⟨d, ds, hd, he, sd, se, hm, q⟩ := h
  obtain ⟨as, r1⟩ := Dp.reads I d x v hd rx
  have hr : X.A.units + 1 + min (PyData.depthAll ds) d.depth < cLine := by
    have := Nat.min_le_right (PyData.depthAll ds) d.depth
    omega
  rw [Bool.false_xor] at q
  rcases he with he | he
  · obtain ⟨bs, r2⟩ := Dp.reads I _ y u he ry
    exact SeqAt.in_list_reads r2 r1 se sd hr ⟨.bl _, H, I, rfl, q⟩
  · obtain ⟨bs, r2⟩ := Dp.reads I _ y u he ry
    exact SeqAt.in_tuple_reads r2 r1 se sd hr ⟨.bl _, H, I, rfl, q⟩
theorem op_notInM (hu : X.A.units + 65 < cLine) : OpR X (compareOp .NotIn) (rInM X.K true) := by
  intro pins s σ H x y v u Q I rx ry h
  obtain ⟨d, ds, hd, he, sd, se, hm, q⟩ := h
  obtain ⟨as, r1⟩ := Dp.reads I d x v hd rx
  have hr : X.A.units + 1 + min (PyData.depthAll ds) d.depth < cLine := by
    have := Nat.min_le_right (PyData.depthAll ds) d.depth
    omega
  rw [Bool.true_xor] at q
  rcases he with he | he
  · obtain ⟨bs, r2⟩ := Dp.reads I _ y u he ry
    exact SeqAt.notIn_list_reads r2 r1 se sd hr ⟨.bl _, H, I, rfl, q⟩
  · obtain ⟨bs, r2⟩ := Dp.reads I _ y u he ry
    exact SeqAt.notIn_tuple_reads r2 r1 se sd hr ⟨.bl _, H, I, rfl, q⟩
theorem Rdb.lstDp {p : Par} {I H : Hp} (s : Same I H) {ds : List D} {v : V} (hp : D.plainL ds = true) (h : Rdb p I H (.lst ds) v) : Dp p.K H v (.list (D.pyL ds)) ∧ PyData.canLayAll0 (D.pyL ds) = true := h.dp (d := .lst ds) s hp
theorem Rdb.tupDp {p : Par} {I H : Hp} (s : Same I H) {ds : List D} {v : V} (hp : D.plainL ds = true) (h : Rdb p I H (.tup ds) v) : Dp p.K H v (.tuple (D.pyL ds)) ∧ PyData.canLayAll0 (D.pyL ds) = true := h.dp (d := .tup ds) s hp
theorem inS_ne : ∀ u v e, inS u v ≠ .exc e := by
  intro u v e
  unfold inS
  split <;> (try split) <;> simp
theorem gIn_ne : ∀ u v e, gIn u v ≠ .exc e := by
  intro u v e
  unfold gIn
  cases h : inS u v <;> simp_all [inS_ne]
theorem gNotIn_ne : ∀ u v e, gNotIn u v ≠ .exc e := by
  intro u v e
  unfold gNotIn
  cases h : inS u v <;> simp_all [inS_ne]
theorem inS_sound {p : Par} {I H : Hp} {x y : V} {dx dy : D} {k neg : Bool} {Q : VK} (s : Same I H) (hx : Rdb p I H dx x) (hy : Rdb p I H dy y) (h : inS dx dy = .ok k) (q : Q (.bl (neg ^^ k)) H) :
    rInM p.K neg x y H Q ∨ ∃ (c : Nat) (z : PySem.Str), x = .str ⟨#[c]⟩ ∧ y = .str z ∧ Q (.bl (neg ^^ decide (c ∈ z.cps.toList))) H := by
  unfold inS at h
  split at h
  · rename_i ys
    by_cases hc : dx.plain = true ∧ D.plainL ys = true ∧ dx.depth ≤ 60
    · rw [if_pos hc] at h
      cases h
      obtain ⟨h1, l1⟩ := hx.dp s hc.1
      obtain ⟨h2, l2⟩ := hy.lstDp s hc.2.1
      exact .inl ⟨_, _, h1, .inl h2, l1, l2, by rw [depth_py]; exact hc.2.2, by rw [any_eqv_py hc.1 _ hc.2.1]; exact q⟩
    · rw [if_neg hc] at h; cases h
  · rename_i ys
    by_cases hc : dx.plain = true ∧ D.plainL ys = true ∧ dx.depth ≤ 60
    · rw [if_pos hc] at h
      cases h
      obtain ⟨h1, l1⟩ := hx.dp s hc.1
      obtain ⟨h2, l2⟩ := hy.tupDp s hc.2.1
      exact .inl ⟨_, _, h1, .inr h2, l1, l2, by rw [depth_py]; exact hc.2.2, by rw [any_eqv_py hc.1 _ hc.2.1]; exact q⟩
    · rw [if_neg hc] at h; cases h
  · split at h
    · rename_i c
      cases h
      exact .inr ⟨c, _, hx.str.1, hy.str.1, q⟩
    · cases h
  · cases h
theorem od_in (hu : X.A.units + 65 < cLine) : OpD X cl (compareOp .In) gIn := by
  refine ⟨_, OpR.or (op_inM hu) op_in_sign, fun I H x y dx dy Q s hx hy q => ?_⟩
  unfold gIn at q
  cases h : inS dx dy with
  | bad => rw [h] at q; exact q.elim
  | exc e => exact absurd h (inS_ne _ _ _)
  | ok k =>
    rw [h] at q
    have z := inS_sound (neg := false) s hx hy h (Q := Q) (by rw [Bool.false_xor]; exact rep_here s q rfl)
    simp only [Bool.false_xor] at z
    exact z
theorem od_notIn (hu : X.A.units + 65 < cLine) : OpD X cl (compareOp .NotIn) gNotIn := by
  refine ⟨_, OpR.or (op_notInM hu) op_notIn_sign, fun I H x y dx dy Q s hx hy q => ?_⟩
  unfold gNotIn at q
  cases h : inS dx dy with
  | bad => rw [h] at q; exact q.elim
  | exc e => exact absurd h (inS_ne _ _ _)
  | ok k =>
    rw [h] at q
    have z := inS_sound (neg := true) s hx hy h (Q := Q) (by rw [Bool.true_xor]; exact rep_here s q rfl)
    simp only [Bool.true_xor] at z
    exact z

/-! ### all, any, sum, min, max, abs, int, tuple -/
theorem allOf_map {α : Type} {f : D → Option α} {g : α → V} {p : Par} {I : Hp} (hf : ∀ d a v, f d = some a → Rep p I d v → v = g a) : ∀ {ds : List D} {vs : List V} {as : List α}, RepL p I ds vs → allOf f ds = some as → vs = as.map g
  | [], _, _, r, h => by cases r; cases h; rfl
  | d :: ds, _, as, ⟨v, vr, e, r, t⟩, h => by
    subst e
    rw [allOf] at h
    cases h1 : f d with
    | none => rw [h1] at h; cases h
    | some a =>
      cases h2 : allOf f ds with
      | none => rw [h1, h2] at h; cases h
      | some as' =>
        rw [h1, h2] at h
        cases h
        rw [List.map_cons, hf d a v h1 r, allOf_map hf t h2]
theorem blOf_v {p : Par} {I : Hp} : ∀ d a v, blOf d = some a → Rep p I d v → v = V.bl a := fun d a v h r => by
  cases d <;> first | (cases h; exact r) | cases h
theorem intOf_v {p : Par} {I : Hp} : ∀ d a v, intOf d = some a → Rep p I d v → v = V.int a := fun d a v h r => by
  cases d <;> first | (cases h; exact r) | cases h
theorem strOf_v {p : Par} {I : Hp} : ∀ d a v, strOf d = some a → Rep p I d v → v = V.str ⟨a.toArray⟩ := fun d a v h r => by
  cases d <;> first | (cases h; exact r.1) | cases h
theorem gAll_ne : ∀ u e, gAll u ≠ .exc e := by
  intro u e
  unfold gAll
  split
  · rename_i ds; cases h : allOf blOf ds <;> simp [ofO]
  · simp
theorem gAny_ne : ∀ u e, gAny u ≠ .exc e := by
  intro u e
  unfold gAny
  split
  · rename_i ds; cases h : allOf blOf ds <;> simp [ofO]
  · simp
theorem gSum_ne : ∀ u e, gSum u ≠ .exc e := by
  intro u e
  unfold gSum
  split
  · rename_i ds; cases h : allOf intOf ds <;> simp [ofO]
  · simp
theorem c_all (hc : X.calm = true) : C1D X cl (.builtin "all") gAll := by
  refine ⟨_, cr_all hc, fun I H x dx Q s hx q => ?_⟩
  unfold gAll at q
  split at q
  · rename_i ds
    obtain ⟨a, vs, e1, q1, r1⟩ := hx.lst s
    cases h : allOf blOf ds with
    | none => rw [h] at q; exact q.elim
    | some bs =>
      rw [h] at q
      exact ⟨a, bs, by rw [e1], by rw [← allOf_map blOf_v r1 h]; exact SqL.of q1, rep_here s q rfl⟩
  · exact q.elim
theorem c_any (hc : X.calm = true) : C1D X cl (.builtin "any") gAny := by
  refine ⟨_, cr_any hc, fun I H x dx Q s hx q => ?_⟩
  unfold gAny at q
  split at q
  · rename_i ds
    obtain ⟨a, vs, e1, q1, r1⟩ := hx.lst s
    cases h : allOf blOf ds with
    | none => rw [h] at q; exact q.elim
    | some bs =>
      rw [h] at q
      exact ⟨a, bs, by rw [e1], by rw [← allOf_map blOf_v r1 h]; exact SqL.of q1, rep_here s q rfl⟩
  · exact q.elim
theorem c_sum (hc : X.calm = true) : C1D X cl (.builtin "sum") gSum := by
  refine ⟨_, cr_sum hc, fun I H x dx Q s hx q => ?_⟩
  unfold gSum at q
  split at q
  · rename_i ds
    obtain ⟨a, vs, e1, q1, r1⟩ := hx.lst s
    cases h : allOf intOf ds with
    | none => rw [h] at q; exact q.elim
    | some ns =>
      rw [h] at q
      exact ⟨a, ns, by rw [e1], by rw [← allOf_map intOf_v r1 h]; exact SqL.of q1, rep_here s q rfl⟩
  · exact q.elim
theorem minI_mem : ∀ (xs : List Int) (x m : Int), m = xs.foldl (fun a b => if b < a then b else a) x → (m = x ∨ m ∈ xs) ∧ m ≤ x ∧ ∀ y ∈ xs, m ≤ y
  | [], x, m, h => ⟨.inl h, by subst h; exact Int.le_refl _, fun y hy => by cases hy⟩
  | z :: xs, x, m, h => by
    rw [List.foldl_cons] at h
    obtain ⟨h1, h2, h3⟩ := minI_mem xs _ m h
    by_cases hz : z < x
    · rw [if_pos hz] at h1 h2
      exact ⟨.inr (h1.elim (fun e => by rw [e]; exact List.mem_cons_self) fun e => List.mem_cons_of_mem _ e), by omega, fun y hy => by
        rcases List.mem_cons.mp hy with e | e
        · subst e; exact h2
        · exact h3 y e⟩
    · rw [if_neg hz] at h1 h2
      exact ⟨h1.imp id fun e => List.mem_cons_of_mem _ e, h2, fun y hy => by
        rcases List.mem_cons.mp hy with e | e
        · subst e; omega
        · exact h3 y e⟩
theorem gMin_ne : ∀ u e, gMin u ≠ .exc e := by
  intro u e
  unfold gMin
  split
  · rename_i ds
    cases h : allOf intOf ds with
    | none => simp [ofO]
    | some ns => simp only [ofO, Out.bind_ok]; split <;> simp
  · simp
theorem c_min (hc : X.calm = true) : C1D X cl (.builtin "min") gMin := by
  refine ⟨_, cr_min hc, fun I H x dx Q s hx q => ?_⟩
  unfold gMin at q
  split at q
  · rename_i ds
    obtain ⟨a, vs, e1, q1, r1⟩ := hx.lst s
    cases h : allOf intOf ds with
    | none => rw [h] at q; exact q.elim
    | some ns =>
      rw [h] at q
      have q' : OutP (if ns = [] then (Out.bad : Out D) else Out.ok (D.int (minI ns 0))) _ _ := q
      by_cases hn : ns = []
      · rw [if_pos hn] at q'; exact q'.elim
      · rw [if_neg hn] at q'
        refine ⟨a, ns, by rw [e1], by rw [← allOf_map intOf_v r1 h]; exact SqL.of q1, List.length_pos_iff.mpr hn, fun m hm hall => ?_⟩
        cases ns with
        | nil => exact absurd rfl hn
        | cons n ns =>
          obtain ⟨h1, h2, h3⟩ := minI_mem ns n (minI (n :: ns) 0) rfl
          have e : minI (n :: ns) 0 = m := by
            refine Int.le_antisymm ?_ (hall _ (h1.elim (fun e => by rw [e]; exact List.mem_cons_self) fun e => List.mem_cons_of_mem _ e))
            rcases List.mem_cons.mp hm with e | e
            · subst e; exact h2
            · exact h3 m e
          rw [← e]
          exact rep_here s q' rfl
  · exact q.elim
theorem gTuple_ne : ∀ u e, gTuple u ≠ .exc e := by
  intro u e
  unfold gTuple
  split <;> simp
theorem call_tupleF : CallR X (.type "tuple") (fun xs H Q => ∃ p ys, xs = [.ref p] ∧ ((SqL X.K H p ys ∧ ∀ l o, H l = none → o.dict = none → Q (.ref l) (upd H l (.frz o (.tup ys)))) ∨ (SqT X.K H p ys ∧ Q (.ref p) H))) := by
  intro pins s σ H xs us Q I r h
  obtain ⟨p, ys, rfl, h⟩ := h
  obtain ⟨u, rfl, rx⟩ := vals1 r
  cases rx
  rcases h with ⟨hq, q⟩ | ⟨hq, q⟩
  · obtain ⟨its, r', pl, hz⟩ := I.list hq
    have hlen := r'.length
    refine call_tuple_list pl.isList (fun h' kp => ?_) (by simp only [List.size_toArray] <;> omega)
    have I1 : Inv X pins σ H { s with heap := h' } := I.kept (t' := s.toks) kp
    have I2 : Inv X pins σ (upd H h'.objs.size (.frz { cls := .type "tuple", data := .seq its.toArray } (.tup ys))) { s with heap := h'.push { cls := .type "tuple", data := .seq its.toArray } } :=
      I1.laid (t' := s.toks) (fun b o e => Heap.get?_push_of_some _ e) (Nat.le_refl _) (show ObjOk X.prog X.w _ _ _ (.frz _ (.tup ys)) from ⟨Heap.get?_push_size _ rfl, hz, its, r', IsTup.new _ _⟩)
    exact ⟨.ref h'.objs.size, _, I2, rfl, q _ _ (I1.hok.fresh (Nat.le_refl _)) rfl⟩
  · obtain ⟨its, r', pl, hz⟩ := I.tuple hq
    exact call_tuple_same pl ⟨.ref p, H, I, rfl, q⟩
theorem c_tuple : C1D X cl (.type "tuple") gTuple := by
  refine ⟨_, call_tupleF, fun I H x dx Q s hx q => ?_⟩
  unfold gTuple at q
  split at q
  · obtain ⟨a, vs, e1, q1, r1⟩ := hx.lst s
    exact ⟨a, vs, by rw [e1], .inl ⟨SqL.of q1, rep_tup s q r1⟩⟩
  · obtain ⟨a, vs, e1, q1, w1, r1, n1⟩ := hx.tupN s
    exact ⟨a, vs, by rw [e1], .inr ⟨q1, rep_here s q ⟨a, vs, rfl, w1, r1, n1⟩⟩⟩
  · exact q.elim
theorem gInt_ne : ∀ u e, gInt u ≠ .exc e := by
  intro u e
  unfold gInt
  split <;> simp
theorem c_int : C1D X cl (.type "int") gInt := by
  refine ⟨_, call_int1, fun I H x dx Q s hx q => ?_⟩
  unfold gInt at q
  split at q
  · exact .inl ⟨_, by rw [hx.int], rep_here s q rfl⟩
  · exact .inr ⟨_, by rw [hx.bl], rep_here s q rfl⟩
  · exact q.elim
end
end Den

/-! Den10: slices, new lists, methods. -/
namespace Den
open PySem PySem.Spec PyProof.Rows L2
section
variable {X : Cx} {cl : Cls} {t : Addr} {W : WX} {e a b o : Expr} {es : List Expr} {fa fb : FE} {ff : FA} {pos p p2 : Pos} {x y : PySem.Str}

theorem gMin2_ne : ∀ u v e, gMin2 u v ≠ .exc e := by
  intro u v e
  unfold gMin2
  split <;> simp
theorem gMax2_ne : ∀ u v e, gMax2 u v ≠ .exc e := by
  intro u v e
  unfold gMax2
  split <;> simp
theorem gAbs_ne : ∀ u e, gAbs u ≠ .exc e := by
  intro u e
  unfold gAbs
  split <;> simp
theorem c_min2 (hc : X.calm = true) : C2D X cl (.builtin "min") gMin2 := by
  refine ⟨_, call_min2 hc, fun I H x y dx dy Q s hx hy q => ?_⟩
  unfold gMin2 at q
  split at q
  · exact ⟨_, _, by rw [hx.int, hy.int], rep_here s q rfl⟩
  · exact q.elim
theorem c_max2 (hc : X.calm = true) : C2D X cl (.builtin "max") gMax2 := by
  refine ⟨_, call_max2 hc, fun I H x y dx dy Q s hx hy q => ?_⟩
  unfold gMax2 at q
  split at q
  · exact ⟨_, _, by rw [hx.int, hy.int], rep_here s q rfl⟩
  · exact q.elim
theorem c_abs : C1D X cl (.builtin "abs") gAbs := by
  refine ⟨_, call_abs, fun I H x dx Q s hx q => ?_⟩
  unfold gAbs at q
  split at q
  · exact ⟨_, by rw [hx.int], rep_here s q rfl⟩
  · exact q.elim

/-! ### names of the module -/
theorem de_glob {d : D} {v : V} {u : Value} (hm : X.mg x = some u) (r : RelV v u) (hr : ∀ I, Rep (pr X cl) I d v) (hg : Gl X x := by rfl) (hd : (x == ("__debug__" : PySem.Str)) = false := by decide) : DE X cl t W (.Name x pos) (fC d) := de_const (pe_glob hg hm r hd) hr

/-! ### list(..) -/
theorem call_list_sg (hc : X.calm = true) : CallR X (.type "list") (fun xs H Q => ∃ z : PySem.Str, xs = [.str z] ∧ z.cps.size ≤ sizeLine ∧ ∀ l, H l = none → Q (.ref l) (upd H l (.lst (z.cps.toList.map fun c => V.str ⟨#[c]⟩)))) := by
  intro pins s σ H xs us Q I r h
  obtain ⟨z, rfl, hz, q⟩ := h
  obtain ⟨u, rfl, rx⟩ := vals1 r
  obtain ⟨tk, rfl⟩ := rx
  refine PySem.call_list_str (I.ok.hd hc) z tk (fun h' tk' acc' c' hk hS hacc => ?_) hz
  obtain ⟨hsz, hit⟩ := hacc
  have hv : Vals (z.cps.toList.map fun c => V.str ⟨#[c]⟩) acc'.toList := by
    have gen : ∀ (l : List Nat) (us : List Value), l.length = us.length → (∀ (i : Nat) (c : Nat) (u : Value), l[i]? = some c → us[i]? = some u → ∃ t, u = Value.str ⟨#[c]⟩ t) → Vals (l.map fun c => V.str ⟨#[c]⟩) us := by
      intro l
      induction l with
      | nil => intro us hl _; cases us with
        | nil => exact .nil
        | cons => simp at hl
      | cons c l ih =>
        intro us hl hh
        cases us with
        | nil => simp at hl
        | cons u us =>
          obtain ⟨t, ht⟩ := hh 0 c u rfl rfl
          exact .cons ⟨t, ht⟩ (ih us (by simpa using hl) fun i c' u' h1 h2 => hh (i + 1) c' u' (by simpa using h1) (by simpa using h2))
    refine gen _ _ (by simp [hsz]) fun i c u h1 h2 => ?_
    obtain ⟨c', t', e1, e2⟩ := hit i u (by simpa using h2)
    have e3 : z.cps[i]? = some c := by simpa using h1
    rw [e3] at e1
    cases e1
    exact ⟨t', e2⟩
  have hn : H s.heap.objs.size = none := I.hok.fresh (Nat.le_refl _)
  exact ⟨.ref s.heap.objs.size, _, I.laid (t' := tk') hk (Nat.le_refl _) (show ObjOk X.prog X.w _ h' _ (.lst _) from ⟨by simpa using hz, acc'.toList, c', hv, by simpa using hS⟩), rfl, q _ hn⟩
theorem sgs_rep {p : Par} {I : Hp} : ∀ {l : List Nat}, (∀ c ∈ l, c < 0x110000) → RepL p I (l.map fun c => D.str [c]) (l.map fun c => V.str ⟨#[c]⟩)
  | [], _ => rfl
  | c :: l, h => ⟨_, _, rfl, ⟨rfl, fun k hk => by rw [List.mem_singleton] at hk; subst hk; exact h _ List.mem_cons_self⟩, sgs_rep fun c hc => h c (List.mem_cons_of_mem _ hc)⟩
theorem fresh_not {q : Par} {I G H : Hp} {σ : L2.St} {ρ : DS} {l : Addr} (s : St q t I G H σ ρ) (hl : H l = none) : ∀ (i : Nat) (sv : SV), ρ[i]? = some (some sv) → SV.own sv = true → σ[i]? ≠ some (some (V.ref l)) := fun i sv hi oi hσ => by
  obtain ⟨u, h1, h2⟩ := s.sl i sv hi
  rw [h1] at hσ; cases hσ
  cases sv with
  | fz d => cases oi
  | ow d => obtain ⟨b, e, _, _, o⟩ := h2; cases e; exact o.there hl
  | io d => obtain ⟨e, _, _, o⟩ := h2; cases e; exact o.there hl
/-- a new list laid -/
theorem ln_new {q : Par} {I I1 G H1 : Hp} {σ : L2.St} {ρ : DS} {ds : List D} {vs : List V} {Q : VK} (s1 : Same I I1) (st : St q t I1 G H1 σ ρ) (r : RepL q I1 ds vs)
    (k : ∀ I' H' a, Same I I' → St q t I' G H' σ ρ → I' a = none → G a = none → OwnAt q I' H' a (.lst ds) → (∀ (i : Nat) (sv : SV), ρ[i]? = some (some sv) → SV.own sv = true → σ[i]? ≠ some (some (V.ref a))) → Q (.ref a) H') : ∀ l, H1 l = none → Q (.ref l) (upd H1 l (.lst vs)) := fun l hl => by
  have x2 := Ext.newH st.b.ih (.lst vs) hl
  exact k _ _ l s1 (st.ext x2) (st.b.ih.free hl) (st.b.gh.free hl) ⟨vs, upd_same, r⟩ (fresh_not st hl)
theorem dn_list (hc : X.calm = true) (ha : DE X cl t W a fa) (hm : X.mg "list" = none) (hg : Gl X "list" := by rfl)
    (he : starEach [a] X.env = (false, eval a X.env) :: starEach [] X.env := by rfl) (hpl : (backTo pos (starEach [] X.env)).any (·.1) = false := by rfl) : DNw X cl t W (.Call (.Name "list" p) [a] [] pos) (nList fa) := by
  obtain ⟨ta, pa, la⟩ := ha.ex
  refine DNw.mk (pe_callTy (CallR.or call_list_of (call_list_sg hc)) hg hm boot_list (pa_cons pa pa_nil he) (by decide) (by decide) he hpl) (fun I G H σ ρ Q s q => ?_)
  refine la I G H σ ρ _ s ?_
  unfold nList at q
  rw [outP_bind] at q
  refine q.imp (fun x q I1 H1 v s1 st1 r1 => ?_) fun _ z => z
  cases e1 : x.1.get x.2 with
  | bad => rw [e1] at q; exact q.elim
  | exc er => exact absurd e1 (get_exc _ _ _)
  | ok d =>
    rw [e1] at q
    simp only [Out.bind_ok] at q
    have hv := RR.get st1 r1 e1
    split at q
    · obtain ⟨a1, vs, e2, q1, r2⟩ := hv.lst st1.b.ih
      exact .inl ⟨a1, vs, by rw [e2], .inl (SqL.of q1), ln_new s1 st1 r2 q⟩
    · obtain ⟨a1, vs, e2, q1, _, r2⟩ := hv.tup st1.b.ih
      exact .inl ⟨a1, vs, by rw [e2], .inr q1, ln_new s1 st1 r2 q⟩
    · rename_i l
      by_cases hl : l.length ≤ LIM
      · rw [if_pos hl] at q
        obtain ⟨e2, v1⟩ := hv.str
        exact .inr ⟨⟨l.toArray⟩, by rw [e2], by simpa using lim_line hl, ln_new s1 st1 (ds := l.map fun c => D.str [c]) (sgs_rep v1) q⟩
      · rw [if_neg hl] at q; exact q.elim
    · exact q.elim

/-! ### slices -/
def LO (p : Par) (t : Addr) (W : WX) (to : TO) (f : FO) : Prop := ∀ (I G H : Hp) (σ : L2.St) (ρ : DS) (Q : Option Int → Hp → Prop), St p t I G H σ ρ →
  OutP (f ρ) (fun x => ∀ I' H', Same I I' → St p t I' G H' σ x.2 → Q x.1 H') (PostX p W I G) → to σ H Q
def DO (X : Cx) (cl : Cls) (t : Addr) (W : WX) (e : Option Expr) (f : FO) : Prop := ∃ to, PO X e to ∧ LO (pr X cl) t W to f
theorem do_none : DO X cl t W none oNone := ⟨_, po_none, fun I G H σ ρ Q s q => q I H (Same.refl _) s⟩
theorem do_some (ha : DE X cl t W a fa) : DO X cl t W (some a) (oSome fa) := by
  obtain ⟨ta, pa, la⟩ := ha.ex
  refine ⟨_, po_some pa, fun I G H σ ρ Q s q => ?_⟩
  refine la I G H σ ρ _ s ?_
  unfold oSome at q
  rw [outP_bind] at q
  refine q.imp (fun x q I1 H1 v s1 st1 r1 => ?_) fun _ z => z
  cases e1 : x.1.get x.2 with
  | bad => rw [e1] at q; exact q.elim
  | exc er => exact absurd e1 (get_exc _ _ _)
  | ok d =>
    rw [e1] at q
    simp only [Out.bind_ok] at q
    have hv := RR.get st1 r1 e1
    split at q
    · exact ⟨_, hv.int, q I1 H1 s1 st1⟩
    · exact q.elim
theorem slD_ne : ∀ d l h e, slD d l h ≠ .exc e := by
  intro d l h e
  unfold slD
  split <;> (try split) <;> simp
theorem RepL.cut {p : Par} {I : Hp} {ds : List D} {vs : List V} (r : RepL p I ds vs) (lo hi : Option Int) : RepL p I (cutL ds lo hi) (cutV vs lo hi) := by
  unfold cutL cutV
  rw [← r.length]
  exact (r.drop _).take _
/-- t[lo:hi] -/
def rSlF (K : PySem.W.Frag) : V → Option Int → Option Int → Hp → VK → Prop := fun x lo hi H Q => ∃ a xs, x = .ref a ∧ SqT K H a xs ∧
  (HT.sIx xs.length 0 lo = 0 ∧ HT.sIx xs.length xs.length hi = xs.length → Q (.ref a) H) ∧ (¬ (HT.sIx xs.length 0 lo = 0 ∧ HT.sIx xs.length xs.length hi = xs.length) → ∀ p o, H p = none → o.dict = none → Q (.ref p) (upd H p (.frz o (.tup (cutV xs lo hi)))))
theorem sl_tupF : SlR X (rSlF X.K) := by
  intro pins s σ H x v vl vu lo hi sl Q I rx hs pl pu h
  obtain ⟨a, xs, rfl, hx, q1, q⟩ := h
  by_cases hw : HT.sIx xs.length 0 lo = 0 ∧ HT.sIx xs.length xs.length hi = xs.length
  · exact sl_tupA pins s σ H _ v vl vu lo hi sl Q I rx hs pl pu ⟨a, xs, rfl, hx, q1, fun z => absurd hw z⟩
  · cases rx
    obtain ⟨its, r, ht, hz⟩ := I.tuple hx
    have hlen : its.toArray.size = xs.length := by rw [List.size_toArray]; exact r.length.symm
    refine ⟨"tuple", _, PyProof.Rows.slot_tuple_getitem.lookup, ht.typeIs, ?_⟩
    refine HT.getItem_tuple_cut ht hs pl pu (by rw [hlen]; exact hw) ?_ (by rw [hlen]; exact hz)
    rw [hlen]
    refine ⟨.ref s.heap.objs.size, _, I.laid (t' := s.toks) (o := .frz { cls := .type "tuple", data := .seq (List.take (HT.sIx xs.length xs.length hi - HT.sIx xs.length 0 lo) (List.drop (HT.sIx xs.length 0 lo) its.toArray.toList)).toArray } (.tup (cutV xs lo hi))) (fun b ob q => Heap.get?_push_of_some _ q) (Nat.le_refl _) ?_, rfl, q hw _ _ (I.hok.fresh (Nat.le_refl _)) rfl⟩
    exact ⟨Heap.get?_push_size _ rfl, Nat.le_trans (cutV_length xs lo hi) hz, _, (r.drop (HT.sIx xs.length 0 lo)).take (HT.sIx xs.length xs.length hi - HT.sIx xs.length 0 lo), IsTup.new _ _⟩
theorem de_slice {lo hi : Option Expr} {fl fh : FO} (ha : DE X cl t W a fa) (hl : DO X cl t W lo fl) (hh : DO X cl t W hi fh) : DE X cl t W (.Subscript a (.Slice lo hi none p2) pos) (fSl fa fl fh) := by
  obtain ⟨ta, pa, la⟩ := ha.ex
  obtain ⟨tl, pl, ll⟩ := hl
  obtain ⟨th, ph, lh⟩ := hh
  refine DE.mk (pe_slice (SlR.or sl_list (SlR.or sl_tupF sl_str)) pa pl ph) fun I G H σ ρ Q s q => ?_
  refine la I G H σ ρ _ s ?_
  unfold fSl at q
  rw [outP_bind] at q
  refine q.imp (fun x q I1 H1 v s1 st1 r1 => ?_) fun _ z => z
  refine ll I1 G H1 σ x.2 _ st1 ?_
  rw [outP_bind] at q
  refine q.imp (fun l q I2 H2 s2 st2 => ?_) fun _ z => z.mono s1
  refine lh I2 G H2 σ l.2 _ st2 ?_
  rw [outP_bind] at q
  refine q.imp (fun h q I3 H3 s3 st3 => ?_) fun _ z => (z.mono s1).mono s2
  cases e1 : x.1.get h.2 with
  | bad => rw [e1] at q; exact q.elim
  | exc er => exact absurd e1 (get_exc _ _ _)
  | ok d =>
    rw [e1] at q
    simp only [Out.bind_ok] at q
    have hv := RR.get st3 (r1.mono (s2.trans s3)) e1
    have s13 := (s1.trans s2).trans s3
    cases e2 : slD d l.1 h.1 with
    | bad => rw [e2] at q; exact q.elim
    | exc er => exact absurd e2 (slD_ne _ _ _ _)
    | ok d' =>
      rw [e2] at q
      have fin : ∀ I' H' v, Ext I3 H3 I' H' → Rep (pr X cl) I' d' v → Q v H' := fun I' H' v x' r' => q I' H' v (s13.trans x'.ii) (st3.ext x') r'
      unfold slD at e2
      split at e2
      · cases e2
        obtain ⟨a1, vs, e3, q1, r2⟩ := hv.lst st3.b.ih
        exact .inl ⟨a1, vs, e3, SqL.of q1, rep_lst st3.b.ih fin (r2.cut _ _)⟩
      · cases e2
        rename_i ds
        obtain ⟨a1, vs, e3, q1, w1, r2, n2⟩ := hv.tupN st3.b.ih
        refine .inr (.inl ⟨a1, vs, e3, q1, fun hw => ?_, fun _ => rep_tup st3.b.ih fin (r2.cut _ _)⟩)
        refine rep_here st3.b.ih fin ⟨a1, vs, rfl, w1, ?_⟩
        have ec : cutL ds l.1 h.1 = ds := by
          unfold cutL
          have h1 : cutIx ds.length 0 l.1 = 0 := by rw [r2.length]; exact hw.1
          have h2 : cutIx ds.length ds.length h.1 = ds.length := by rw [r2.length]; exact hw.2
          rw [h1, h2]
          simp
        rw [ec]; exact ⟨r2, n2⟩
      · rename_i z
        split at e2
        · rename_i hz
          cases e2
          obtain ⟨e3, v1⟩ := hv.str
          refine .inr (.inr ⟨_, e3, by rw [str_len]; exact lim_line hz, rep_here st3.b.ih fin ⟨?_, fun c hc => v1 c ?_⟩⟩)
          · unfold cutL cutS
            rw [str_len]
            rfl
          · exact List.mem_of_mem_drop (List.mem_of_mem_take hc)
        · cases e2
      · cases e2

/-! ### methods that change a list -/
def LM (p : Par) (r : V → List V → Hp → VK → Prop) (g : D → List D → Out (D × D)) : Prop := ∀ (I H : Hp) (a : Addr) (d : D) (us : List V) (es : List D) (Q : VK), Same I H → I a = none → OwnAt p I H a d → RepL p I es us →
  OutP (g d es) (fun r => ∀ I' H' v, ExtT a I H I' H' → I' a = none → Rep p I' r.1 v → OwnAt p I' H' a r.2 → Q v H') (fun _ => False) → r (.ref a) us H Q
theorem extT_upd {I H : Hp} {a : Addr} {u : HO} (s : Same I H) (hi : I a = none) : ExtT a I H I (upd H a u) :=
  ⟨Same.refl _, fun c o e => by rw [upd_ne (ne_of_none e hi)]; exact s _ _ e, fun c o hc e => by rw [upd_ne hc]; exact e, fun c _ h => .inl h⟩
theorem lm_append : LM (pr X cl) rAppend mAppend := by
  intro I H a d us es Q s hi o r q
  unfold mAppend at q
  split at q
  · rename_i ds d1
    by_cases hl : ds.length < LIM
    · rw [if_pos hl] at q
      obtain ⟨v, vr, e, h, e2⟩ := r
      subst e; cases e2
      obtain ⟨vs, q1, r1⟩ := o
      exact ⟨a, vs, v, rfl, rfl, q1, by rw [← r1.length]; exact Nat.lt_of_lt_of_le hl (by decide), q I _ .non (extT_upd s hi) hi rfl ⟨_, upd_same, r1.append (RepL.one h)⟩⟩
    · rw [if_neg hl] at q; exact q.elim
  · exact q.elim
theorem lm_pop : LM (pr X cl) (fun x vs H Q => rPop x vs H Q ∨ rPopAt x vs H Q) mPop := by
  intro I H a d us es Q s hi o r q
  unfold mPop at q
  split at q
  · rename_i ds
    cases r
    obtain ⟨vs, q1, r1⟩ := o
    cases h : ds[ds.length - 1]? with
    | none => rw [h] at q; exact q.elim
    | some d =>
      rw [h] at q
      obtain ⟨v, h1, h2⟩ := r1.get h
      refine .inl ⟨a, vs, v, rfl, rfl, q1, by rw [← r1.length]; exact h1, q I _ v (extT_upd s hi) hi h2 ⟨_, upd_same, ?_⟩⟩
      rw [List.dropLast_eq_take, List.dropLast_eq_take, ← r1.length]
      exact r1.take _
  · rename_i ds i
    obtain ⟨v, vr, e, h, e2⟩ := r
    subst e; cases e2
    obtain ⟨vs, q1, r1⟩ := o
    by_cases hc : inW i = true ∧ 0 ≤ i
    · rw [if_pos hc] at q
      cases h3 : ds[i.toNat]? with
      | none => rw [h3] at q; exact q.elim
      | some d =>
        rw [h3] at q
        obtain ⟨w, h1, h2⟩ := r1.get h3
        have hw := inW_63 hc.1
        have hlt : i.toNat < vs.length := (List.getElem?_eq_some_iff.mp h1).1
        refine .inr ⟨a, vs, i, i.toNat, w, rfl, by rw [show v = V.int i from h], q1, hw.1, hw.2, ?_, h1, q I _ w (extT_upd s hi) hi h2 ⟨_, upd_same, r1.eraseIdx _⟩⟩
        obtain ⟨k, hk⟩ := Int.eq_ofNat_of_zero_le hc.2
        subst hk
        have hlt' : k < vs.length := by simpa using hlt
        unfold seqIndex?
        simp [hlt']
        have hk0 : ¬ ((k : Int) < 0) := by omega
        simp only [hk0, if_false]
        omega
    · rw [if_neg hc] at q; exact q.elim
  · exact q.elim
theorem lm_reverse : LM (pr X cl) rReverse mReverse := by
  intro I H a d us es Q s hi o r q
  unfold mReverse at q
  split at q
  · cases r
    obtain ⟨vs, q1, r1⟩ := o
    exact ⟨a, vs, rfl, rfl, q1, q I _ .non (extT_upd s hi) hi rfl ⟨_, upd_same, r1.reverse⟩⟩
  · exact q.elim
theorem lm_extend : LM (pr X cl) (fun x vs H Q => ∃ l b xs zs, x = .ref l ∧ vs = [.ref b] ∧ H l = some (.lst xs) ∧ H b = some (.lst zs) ∧ xs.length + zs.length ≤ sizeLine ∧ Q .non (upd H l (.lst (xs ++ zs)))) mExtend := by
  intro I H a d us es Q s hi o r q
  unfold mExtend at q
  split at q
  · rename_i ds es'
    by_cases hl : ds.length + es'.length ≤ LIM
    · rw [if_pos hl] at q
      obtain ⟨v, vr, e, h, e2⟩ := r
      subst e; cases e2
      obtain ⟨vs, q1, r1⟩ := o
      obtain ⟨b, zs, e3, h3, r3⟩ := h
      subst e3
      exact ⟨a, b, vs, zs, rfl, rfl, q1, s _ _ h3, by rw [← r1.length, ← r3.length]; exact lim_line hl, q I _ .non (extT_upd s hi) hi rfl ⟨_, upd_same, r1.append r3⟩⟩
    · rw [if_neg hl] at q; exact q.elim
  · exact q.elim

/-- y.m(..), y a slot's own list -/
theorem meth_core {i : Nat} {r : V → List V → Hp → VK → Prop} {g : D → List D → Out (D × D)} {I I2 G H2 : Hp} {σ : L2.St} {ρ2 : DS} {us : List D} {vs : List V} {Q : VK} {E : Err → Prop} {d : D} {mk : D → SV} {v : V}
    (ng : ∀ d ds e, g d ds ≠ .exc e) (lm : LM (pr X cl) r g) (s2 : Same I I2) (st2 : St (pr X cl) t I2 G H2 σ ρ2) (r2 : RepL (pr X cl) I2 us vs) (hmk : mk = .ow ∨ mk = .io) (h : ρ2[i]? = some (some (mk d))) (hv : σ[i]? = some (some v))
    (q : OutP ((g d us).bind fun r => Out.ok (R.fz r.1, ρ2.set i (some (mk r.2)))) (fun x => ∀ I' H' v, Same I I' → St (pr X cl) t I' G H' σ x.2 → RR (pr X cl) I' σ x.1 v → Q v H') E) : r v vs H2 Q := by
  have ho : (mk d).own = true := by rcases hmk with e | e <;> subst e <;> rfl
  obtain ⟨v', h1, h2⟩ := st2.sl i _ h
  rw [hv] at h1; cases h1
  have hb : ∃ b, v = .ref b ∧ I2 b = none ∧ OwnAt (pr X cl) I2 H2 b d := by
    rcases hmk with e | e
    · subst e; obtain ⟨c, e2, h3, h4, h5⟩ := h2; exact ⟨c, e2, h3, h5⟩
    · subst e; obtain ⟨e2, h3, h4, h5⟩ := h2; exact ⟨t, e2, h3, h5⟩
  obtain ⟨b, e3, i3, o3⟩ := hb
  subst e3
  refine lm I2 H2 b d vs us Q st2.b.ih i3 o3 r2 ?_
  rw [outP_bind] at q
  cases e1 : g d us with
  | bad => rw [e1] at q; exact q.elim
  | exc er => exact absurd e1 (ng _ _ _)
  | ok w =>
    rw [e1] at q
    intro I3 H3 v3 x3 xb r3 o4
    refine q I3 H3 v3 (s2.trans x3.ii) (st2.setIO h ho hv x3 xb o4 ?_) r3
    rcases hmk with e | e
    · subst e; exact .inl ⟨d, rfl, rfl⟩
    · subst e; exact .inr ⟨d, rfl, rfl⟩
theorem le_meth {i : Nat} {r : V → List V → Hp → VK → Prop} {g : D → List D → Out (D × D)} {te : TE} {ta : TA} (ng : ∀ d ds e, g d ds ≠ .exc e) (lm : LM (pr X cl) r g) (la : LA (pr X cl) t W ta ff)
    (hte : ∀ σ H Q, (∃ v, σ[i]? = some (some v) ∧ tyV X.K "list" v H ∧ ta σ H fun xs H2 => r v xs H2 Q) → te σ H Q) : LE (pr X cl) t W te (fMeth g i ff) := by
  intro I G H σ ρ Q s q
  refine hte σ H Q ?_
  unfold fMeth at q
  split at q
  · rename_i ds h
    obtain ⟨v, h1, b, e, i1, g1, vs, o1, o2⟩ := s.sl i _ h
    refine ⟨v, h1, by subst e; exact .inl ⟨rfl, vs, SqL.of o1⟩, la I G H σ ρ _ s ?_⟩
    rw [outP_bind] at q
    refine q.imp (fun x q I2 H2 ws s2 st2 r2 => ?_) fun _ z => z
    split at q
    · rename_i d h3
      exact meth_core (mk := .ow) ng lm s2 st2 r2 (.inl rfl) h3 h1 q
    · exact q.elim
  · rename_i ds h
    obtain ⟨v, h1, e, i1, g1, vs, o1, o2⟩ := s.sl i _ h
    refine ⟨v, h1, by subst e; exact .inl ⟨rfl, vs, SqL.of o1⟩, la I G H σ ρ _ s ?_⟩
    rw [outP_bind] at q
    refine q.imp (fun x q I2 H2 ws s2 st2 r2 => ?_) fun _ z => z
    split at q
    · rename_i d h3
      exact meth_core (mk := .io) ng lm s2 st2 r2 (.inr rfl) h3 h1 q
    · exact q.elim
  · exact q.elim
theorem tVar_of {i : Nat} {σ : L2.St} {H : Hp} {Q : VK} {v : V} (h : σ[i]? = some (some v)) (q : Q v H) : tVar i σ H Q := ⟨v, h, q⟩
section
variable {i : Nat} {id : String} {m : PySem.Str} {apos cpos pp : Pos} {r : V → List V → Hp → VK → Prop} {g : D → List D → Out (D × D)}
theorem de_meth (ng : ∀ d ds e, g d ds ≠ .exc e) (slot : Slot "list" m id) (hty : typeOf (.builtin id) = pure (.type "method_descriptor")) (hm : MtR X id r) (lm : LM (pr X cl) r g) (hv : PE X (.Name y pp) (tVar i)) (ha : DA X cl t W (e :: es) ff)
    (hbase : attributeBase (.Name y pp) m X.env (eval (.Name y pp) X.env) = eval (.Name y pp) X.env := by rfl)
    (hfew : ((backTo cpos (starEach (e :: es) X.env)).all (fun x => !x.1) && (backToKw cpos (keywordEach [] X.env)).all (fun x => x.1.isSome)
      && decide ((e :: es).length + ([] : List Keyword).length + (if ([] : List Keyword).isEmpty then 0 else 1) < 30)) = true := by rfl)
    (hline : (apos.endLine == cpos.line) = true := by rfl) (hs : starEach (e :: es) X.env = (false, eval e X.env) :: starEach es X.env := by rfl) (hplain : (backTo cpos (starEach es X.env)).any (·.1) = false := by rfl) :
    DE X cl t W (.Call (.Attribute (.Name y pp) m apos) (e :: es) [] cpos) (fMeth g i ff) := by
  obtain ⟨ta, pa, la⟩ := ha.ex
  exact DE.mk (pe_bm PySem.F.plainAttrs_list slot hty hm hv pa hbase hfew hline hs hplain) (le_meth ng lm la fun σ H Q ⟨v, h1, h2, h3⟩ => tVar_of h1 ⟨h2, h3⟩)
theorem de_meth0 (ng : ∀ d ds e, g d ds ≠ .exc e) (slot : Slot "list" m id) (hty : typeOf (.builtin id) = pure (.type "method_descriptor")) (hm : MtR X id r) (lm : LM (pr X cl) r g) (hv : PE X (.Name y pp) (tVar i))
    (hbase : attributeBase (.Name y pp) m X.env (eval (.Name y pp) X.env) = eval (.Name y pp) X.env := by rfl) (hline : (apos.endLine == cpos.line) = true := by rfl) :
    DE X cl t W (.Call (.Attribute (.Name y pp) m apos) [] [] cpos) (fMeth g i aNil) := by
  refine DE.mk (pe_bm0 PySem.F.plainAttrs_list slot hty hm hv hbase hline) (le_meth (ta := tNil) ng lm (fun I G H σ ρ Q s q => q I H [] (Same.refl _) s rfl) fun σ H Q ⟨v, h1, h2, h3⟩ => tVar_of h1 ⟨h2, h3⟩)
end
theorem mAppend_ne : ∀ d ds e, mAppend d ds ≠ .exc e := by
  intro d ds e
  unfold mAppend
  split <;> (try split) <;> simp
theorem mExtend_ne : ∀ d ds e, mExtend d ds ≠ .exc e := by
  intro d ds e
  unfold mExtend
  split <;> (try split) <;> simp
theorem mReverse_ne : ∀ d ds e, mReverse d ds ≠ .exc e := by
  intro d ds e
  unfold mReverse
  split <;> simp
theorem bindOfO_ne {α β : Type} {o : Option α} {f : α → Out β} (h : ∀ a e, f a ≠ .exc e) (e : Err) : (ofO o).bind f ≠ .exc e := by
  cases o with
  | none => simp [ofO]
  | some a => exact h a e
theorem mPop_ne : ∀ d ds e, mPop d ds ≠ .exc e := by
  intro d ds e
  unfold mPop
  split
  · exact bindOfO_ne (fun _ _ => by simp) e
  · split
    · exact bindOfO_ne (fun _ _ => by simp) e
    · simp
  · simp
section
variable {apos cpos pp : Pos} {i : Nat}
theorem de_append (hv : PE X (.Name y pp) (tVar i)) (ha : DA X cl t W [e] ff)
    (hbase : attributeBase (.Name y pp) "append" X.env (eval (.Name y pp) X.env) = eval (.Name y pp) X.env := by rfl)
    (hfew : ((backTo cpos (starEach [e] X.env)).all (fun x => !x.1) && (backToKw cpos (keywordEach [] X.env)).all (fun x => x.1.isSome)
      && decide (([e] : List Expr).length + ([] : List Keyword).length + (if ([] : List Keyword).isEmpty then 0 else 1) < 30)) = true := by rfl)
    (hline : (apos.endLine == cpos.line) = true := by rfl) (hs : starEach [e] X.env = (false, eval e X.env) :: starEach [] X.env := by rfl) (hplain : (backTo cpos (starEach [] X.env)).any (·.1) = false := by rfl) :
    DE X cl t W (.Call (.Attribute (.Name y pp) "append" apos) [e] [] cpos) (fMeth mAppend i ff) :=
  de_meth mAppend_ne PySem.F.slot_list_append PySem.F.type_list_append mt_append lm_append hv ha hbase hfew hline hs hplain
theorem de_pop1 (hv : PE X (.Name y pp) (tVar i)) (ha : DA X cl t W [e] ff)
    (hbase : attributeBase (.Name y pp) "pop" X.env (eval (.Name y pp) X.env) = eval (.Name y pp) X.env := by rfl)
    (hfew : ((backTo cpos (starEach [e] X.env)).all (fun x => !x.1) && (backToKw cpos (keywordEach [] X.env)).all (fun x => x.1.isSome)
      && decide (([e] : List Expr).length + ([] : List Keyword).length + (if ([] : List Keyword).isEmpty then 0 else 1) < 30)) = true := by rfl)
    (hline : (apos.endLine == cpos.line) = true := by rfl) (hs : starEach [e] X.env = (false, eval e X.env) :: starEach [] X.env := by rfl) (hplain : (backTo cpos (starEach [] X.env)).any (·.1) = false := by rfl) :
    DE X cl t W (.Call (.Attribute (.Name y pp) "pop" apos) [e] [] cpos) (fMeth mPop i ff) :=
  de_meth mPop_ne PySem.F.slot_list_pop PySem.F.type_list_pop (MtR.or mt_pop mt_popAt) lm_pop hv ha hbase hfew hline hs hplain
theorem de_pop0 (hv : PE X (.Name y pp) (tVar i))
    (hbase : attributeBase (.Name y pp) "pop" X.env (eval (.Name y pp) X.env) = eval (.Name y pp) X.env := by rfl) (hline : (apos.endLine == cpos.line) = true := by rfl) :
    DE X cl t W (.Call (.Attribute (.Name y pp) "pop" apos) [] [] cpos) (fMeth mPop i aNil) :=
  de_meth0 mPop_ne PySem.F.slot_list_pop PySem.F.type_list_pop (MtR.or mt_pop mt_popAt) lm_pop hv hbase hline
theorem de_extend (hv : PE X (.Name y pp) (tVar i)) (ha : DA X cl t W [e] ff)
    (hbase : attributeBase (.Name y pp) "extend" X.env (eval (.Name y pp) X.env) = eval (.Name y pp) X.env := by rfl)
    (hfew : ((backTo cpos (starEach [e] X.env)).all (fun x => !x.1) && (backToKw cpos (keywordEach [] X.env)).all (fun x => x.1.isSome)
      && decide (([e] : List Expr).length + ([] : List Keyword).length + (if ([] : List Keyword).isEmpty then 0 else 1) < 30)) = true := by rfl)
    (hline : (apos.endLine == cpos.line) = true := by rfl) (hs : starEach [e] X.env = (false, eval e X.env) :: starEach [] X.env := by rfl) (hplain : (backTo cpos (starEach [] X.env)).any (·.1) = false := by rfl) :
    DE X cl t W (.Call (.Attribute (.Name y pp) "extend" apos) [e] [] cpos) (fMeth mExtend i ff) :=
  de_meth mExtend_ne PySem.F.slot_list_extend PySem.F.type_list_extend mt_extend lm_extend hv ha hbase hfew hline hs hplain
theorem de_reverse (hv : PE X (.Name y pp) (tVar i))
    (hbase : attributeBase (.Name y pp) "reverse" X.env (eval (.Name y pp) X.env) = eval (.Name y pp) X.env := by rfl) (hline : (apos.endLine == cpos.line) = true := by rfl) :
    DE X cl t W (.Call (.Attribute (.Name y pp) "reverse" apos) [] [] cpos) (fMeth mReverse i aNil) :=
  de_meth0 mReverse_ne PySem.F.slot_list_reverse PySem.F.type_list_reverse mt_reverse lm_reverse hv hbase hline
end
end
end Den

/-! DenSet: sets of ints and texts that are walked: set(x), their length, sorted(set(x)). -/
namespace Den
open PySem PySem.Spec PyProof.Rows L2

noncomputable instance memKey (k : Key) (l : List Key) : Decidable (k ∈ l) := Classical.propDecidable _
def kof (e : Int × Value) : Key := match e.2 with
  | .int k _ => .inl k
  | .str x _ => .inr x
  | _ => .inl 0
def GoodM (w : World) (e : Int × Value) : Prop := ∃ k, keyIs k e.2 = true ∧ e.1 = keyH w k
theorem kof_of {e : Int × Value} {k : Key} (h : keyIs k e.2 = true) : kof e = k := by
  rcases keyIs_shape h with ⟨i, t, rfl, e1⟩ | ⟨x, t, rfl, e1⟩ <;> (unfold kof; rw [e1])
theorem scan_of {v : Value} {k : Key} (h : keyIs k v = true) : v.scannable = true := by
  rcases keyIs_shape h with ⟨i, t, rfl, e1⟩ | ⟨x, t, rfl, e1⟩ <;> (rw [e1]; rfl)
def SetM (w : World) (h : Heap) (a : Addr) (S : Key → Bool) (n : Nat) : Prop :=
  ∃ o es ep t, h.get? a = some o ∧ o.ExactSet ∧ o.data = .set es ep t ∧ (∀ e ∈ es.toList, GoodM w e) ∧ (es.toList.map kof).Nodup ∧ (∀ k, S k = true ↔ k ∈ es.toList.map kof) ∧
    es.size < scanBound ∧ t.fits es.size = true ∧ es.size = n ∧ Ris t.place.toList ∧ (w.params.followText "set-order" = true ∨ t.led = true)
section
variable {P : Program} {w : World} {h h' : Heap} {a : Addr} {S : Key → Bool} {n : Nat}
theorem SetM.at (R : SetM w h a S n) (k : ∀ o, h.get? a = some o → h'.get? a = some o) : SetM w h' a S n := by
  obtain ⟨o, es, ep, t, ho, r⟩ := R
  exact ⟨o, es, ep, t, k o ho, r⟩
theorem SetM.congr {S' : Key → Bool} (R : SetM w h a S n) (e : ∀ k, S' k = S k) : SetM w h a S' n := by
  have q : S' = S := funext e
  rw [q]; exact R
theorem goodM_elems {l : List (Int × Value)} (g : ∀ e ∈ l, GoodM w e) : ElemsOf (mixKind P w) l := fun e he => by
  obtain ⟨k, h1, h2⟩ := g e he
  exact ⟨⟨k, h1, h2⟩, scan_of h1⟩
theorem goodM_is {e : Int × Value} (g : GoodM w e) (k : Key) : (mixKind P w).is k e.2 = true ↔ kof e = k := by
  obtain ⟨k0, h1, _⟩ := g
  rw [kof_of h1]
  exact ⟨fun h2 => (mixKind P w).inj e.2 k0 k h1 h2, fun h2 => h2 ▸ h1⟩
theorem goodM_mem {l : List (Int × Value)} (g : ∀ e ∈ l, GoodM w e) (k : Key) : k ∈ l.map kof ↔ ∃ e ∈ l, (mixKind P w).is k e.2 = true := by
  rw [List.mem_map]
  exact ⟨fun ⟨e, he, q⟩ => ⟨e, he, (goodM_is (g e he) k).2 q⟩, fun ⟨e, he, q⟩ => ⟨e, he, (goodM_is (g e he) k).1 q⟩⟩
theorem SetM.setOf (R : SetM w h a S n) : h.SetOf (mixKind P w) a S n := by
  obtain ⟨o, es, ep, t, ho, hx, hd, g, nd, hm, hb, hf, hn, _⟩ := R
  exact ⟨o, es, ep, t, ho, hx, hd, goodM_elems g, fun k => (hm k).trans (goodM_mem g k), hb, hf, hn⟩
end
section
variable {P : Program} {w : World} {A : Around} {E : Value → Shared → Prop} {s : Shared} {a : Addr} {S : Key → Bool} {n : Nat}
theorem setM_tail {g : Bool → Sem Unit} (hg : ∀ (b : Bool) (s₁ : Shared) (Q' : Unit → Shared → Prop), Q' () s₁ → wpAny (model P w) A (g b) Q' E s₁)
    {o : Obj} {es : Array (Int × Value)} {ep : Nat} {t : SetTable} (ho : s.heap.get? a = some o) (hex : o.ExactSet) (hd : o.data = .set es ep t)
    {es1 : Array (Int × Value)} {t2 : SetTable} {S' : Key → Bool} (g1 : ∀ e ∈ es1.toList, GoodM w e) (nd1 : (es1.toList.map kof).Nodup) (m1 : ∀ k, S' k = true ↔ k ∈ es1.toList.map kof)
    (hb1 : es1.size < scanBound) (hf2 : t2.fits es1.size = true) (hr : Ris t2.place.toList) (hl : w.params.followText "set-order" = true ∨ t2.led = true) {wasDummy : Bool} {R : Option Bool → Shared → Prop}
    (hR : ∀ h', Heap.SameBut a s.heap h' → SetM w h' a S' es1.size → R (some true) { s with heap := h' }) :
    wpAny (model P w) A (do
        storeSet a es1 t2
        if (!wasDummy && t2.tooFull) = true then do
            g (relayAll t2 es1 (SetTable.grown es1.size)).2.2
            storeSet a (relayAll t2 es1 (SetTable.grown es1.size)).1 (relayAll t2 es1 (SetTable.grown es1.size)).2.1
            pure (some true)
          else pure (some true)) R E s := by
  refine wpAny_bind (wpAny_storeSet_of ho hd ?_ (fits_of_scanBound hb1))
  have ho1 := store_at (es' := es1) (t' := t2) ho hd
  have sb1 := Heap.SameBut.update s.heap a (Obj.putSet es1 t2)
  split
  · have pm := relayAll_perm t2 es1 (SetTable.grown es1.size)
    have hf3 := relayAll_fits t2 es1 (SetTable.grown es1.size)
    have hr3 := relayAll_ris t2 es1 (SetTable.grown es1.size)
    have hl3 := relayAll_led t2 es1 (SetTable.grown es1.size)
    generalize relayAll t2 es1 (SetTable.grown es1.size) = Z at pm hf3 hr3 hl3 ⊢
    obtain ⟨es2, t3, gave⟩ := Z
    dsimp only at pm hf3 hr3 hl3 ⊢
    have hsz : es2.size = es1.size := by rw [← Array.length_toList, pm.length_eq, Array.length_toList]
    have hb2 : es2.size < scanBound := by rw [hsz]; exact hb1
    refine wpAny_bind (hg _ _ _ ?_)
    refine wpAny_bind (wpAny_storeSet_of ho1 rfl ?_ (fits_of_scanBound hb2))
    have ho2 := store_at (es' := es2) (t' := t3) ho1 rfl
    refine wpAny_pure (hR _ (sb1.trans (Heap.SameBut.update _ a _)) ?_)
    exact ⟨_, es2, _, t3, ho2, hex, rfl, fun e he => g1 e (pm.mem_iff.mp he), (pm.map kof).nodup_iff.mpr nd1, fun k => (m1 k).trans (pm.map kof).mem_iff.symm, hb2, hf3, hsz, hr3,
      hl.imp id fun z => by rw [hl3]; exact z⟩
  · exact wpAny_pure (hR _ sb1 ⟨_, es1, _, t2, ho1, hex, rfl, g1, nd1, m1, hb1, hf2, rfl, hr, hl⟩)
theorem setM_add {k : Key} {v : Value} {Q : Bool → Shared → Prop} (hkey : keyIs k v = true) (R : SetM w s.heap a S n) (room : n + 1 < scanBound)
    (hQ : ∀ h', Heap.SameBut a s.heap h' → SetM w h' a (fun j => S j || decide (j = k)) (if S k = true then n else n + 1) → Q (!S k) { s with heap := h' }) :
    wpAny (model P w) A (setAddHashed a v ((mixKind P w).hash k)) Q E s := by
  obtain ⟨o, es, ep, t, ho, hex, hd, g, nd, hm, hb, hf, hn, hr, hl⟩ := R
  have hsc : v.scannable = true := scan_of hkey
  have hel : ElemsOf (mixKind P w) es.toList := goodM_elems g
  unfold setAddHashed setAddHashedIn
  refine wpAny_holding (wpAny_bind (wpAny_setState_of ho hd hf ?_))
  dsimp only
  rw [byScan_of hsc hb hel]
  simp only [↓reduceIte]
  unfold setAddByScan
  refine wpAny_bind ?_
  refine wpAny_bind (wpAny_rule ?_)
  refine wpAny_bind (wpAny_setScan_of (knd := mixKind P w) hkey ho hd hf hel ?_)
  cases hfi : List.findIdx? (fun e => (mixKind P w).is k e.2) es.toList with
  | some j =>
    dsimp only
    obtain ⟨hj, pj, _⟩ := List.findIdx?_eq_some_iff_getElem.mp hfi
    have hSk : S k = true := (hm k).2 ((goodM_mem (P := P) (w := w) g k).2 ⟨es.toList[j], List.getElem_mem hj, pj⟩)
    refine wpAny_pure (wpAny_pure ?_)
    have q := hQ s.heap (Heap.SameBut.refl a s.heap) ⟨o, es, ep, t, ho, hex, hd, g, nd, fun i => by
      rw [Bool.or_eq_true, decide_eq_true_eq, ← hm i]
      exact ⟨fun z => z.elim id (fun e => e ▸ hSk), .inl⟩, hb, hf, by rw [if_pos hSk]; exact hn, hr, hl⟩
    rw [hSk] at q
    exact q
  | none =>
    dsimp only
    have hnk : k ∉ es.toList.map kof := fun z => by
      obtain ⟨e, he, q⟩ := (goodM_mem (P := P) (w := w) g k).1 z
      have c := List.findIdx?_eq_none_iff.mp hfi e he
      rw [q] at c
      cases c
    have hSk : S k = false := by
      cases q : S k with
      | false => rfl
      | true => exact absurd ((hm k).1 q) hnk
    have hgw : ∀ (b : Bool) {s₁ : Shared} {Q' : Unit → Shared → Prop}, Q' () s₁ → wpAny (model P w) A (match b with | true => rule "set.scan.the-table-gave-way" | false => pure ()) Q' E s₁ :=
      fun b s₁ Q' q => by cases b <;> first | exact wpAny_pure q | exact wpAny_rule q
    have pm := layNew_perm t es ((mixKind P w).hash k) v
    have hf1 := layNew_fits t es ((mixKind P w).hash k) v
    have hr1 := layNew_ris t es ((mixKind P w).hash k) v hr
    have hl1 := layNew_led t es ((mixKind P w).hash k) v
    generalize layNew t es ((mixKind P w).hash k) v = Z at pm hf1 hr1 hl1 ⊢
    obtain ⟨es1, t1, wasDummy, gave⟩ := Z
    dsimp only at pm hf1 hr1 hl1 ⊢
    rw [Array.toList_push] at pm
    have pc : es1.toList.Perm (((mixKind P w).hash k, v) :: es.toList) := pm.trans (List.perm_append_singleton _ _)
    have ek : kof ((mixKind P w).hash k, v) = k := kof_of hkey
    have pk : (es1.toList.map kof).Perm (k :: es.toList.map kof) := by
      have z := pc.map kof
      rw [List.map_cons, ek] at z
      exact z
    have g1 : ∀ e ∈ es1.toList, GoodM w e := fun e he => by
      rcases List.mem_cons.mp (pc.mem_iff.mp he) with z | z
      · rw [z]; exact ⟨k, hkey, rfl⟩
      · exact g e z
    have nd1 : (es1.toList.map kof).Nodup := pk.nodup_iff.mpr (List.nodup_cons.mpr ⟨hnk, nd⟩)
    have m1 : ∀ i, (S i || decide (i = k)) = true ↔ i ∈ es1.toList.map kof := fun i => by
      rw [Bool.or_eq_true, decide_eq_true_eq, hm i, pk.mem_iff, List.mem_cons]
      exact Or.comm
    have hsz : es1.size = n + 1 := by rw [← Array.length_toList, pc.length_eq, List.length_cons, Array.length_toList, hn]
    have hb1 : es1.size < scanBound := by rw [hsz]; exact room
    have hled : w.params.followText "set-order" = true ∨ t1.led = true := hl.imp id fun z => by rw [hl1]; exact z
    have fin : ∀ h', Heap.SameBut a s.heap h' → SetM w h' a (fun j => S j || decide (j = k)) es1.size → Q true { s with heap := h' } := fun h' sb r => by
      have q := hQ h' sb
      rw [hSk] at q
      rw [hsz] at r
      exact q r
    refine wpAny_bind (hgw _ ?_)
    split
    · refine wpAny_bind ?_
      rw [hashByValue_scannable 8 hsc]
      refine wpAny_pure ?_
      refine setM_tail ?_ ho hex hd g1 nd1 m1 hb1 ?_ ?_ ?_ ?_
      · intro b s₁ Q' q; cases b <;> first | exact wpAny_pure q | exact wpAny_rule q
      · first | (split <;> first | exact hf1 | exact SetTable.fits_plain_off hf1) | exact hf1
      · first | (split <;> exact hr1) | exact hr1
      · first | (split <;> exact hled) | exact hled
      · intro h' sb r; dsimp only; exact wpAny_pure (fin h' sb r)
    · refine wpAny_bind (wpAny_pure ?_)
      simp only [↓reduceIte]
      refine setM_tail ?_ ho hex hd g1 nd1 m1 hb1 hf1 hr1 hled ?_
      · intro b s₁ Q' q; cases b <;> first | exact wpAny_pure q | exact wpAny_rule q
      · intro h' sb r; dsimp only; exact wpAny_pure (fin h' sb r)
/-- the loop that fills a set -/
theorem setM_update {I : Addr} {fp wr : List Addr} {G : Array GenState → Array GenState → Prop} {n : Nat} {Pv : Nat → Value → Prop} {St : Nat → Shared → Prop} {R : Result → Shared → Prop}
    (W : WalksS P w A.in1 I fp wr G n Pv St) (S : Addr) (hSf : S ∉ fp) (ks : List Key) (hn : n = ks.length) (hb : ks.length + 1 < scanBound) (hval : ∀ i v, Pv i v → ∃ k, ks[i]? = some k ∧ keyIs k v = true) :
    ∀ (k i : Nat) (s : Shared), n - i = k → i ≤ n → St i s → (∃ c, c ≤ i ∧ SetM w s.heap S (fun j => decide (j ∈ ks.take i)) c) →
      (∀ s' c, Moved (S :: wr) G s s' → c ≤ n → SetM w s'.heap S (fun j => decide (j ∈ ks)) c → R (.ok (.ret .none)) s') →
      codeAny (model P w) A (.builtin "set.update.loop" ⟨[.ref S, .ref I], []⟩) R s := by
  have hSw : S ∉ wr := fun h => hSf (W.sub _ h)
  have hsub : ∀ b ∈ wr, b ∈ S :: wr := fun b hb => List.mem_cons_of_mem _ hb
  intro k
  induction k with
  | zero =>
    intro i s hk' hi hst ⟨c, hc, hS⟩ hR
    have hin : i = n := by omega
    subst hin
    refine codeAny_builtin F.entry_set_update_loop ?_
    rw [Around.under_plainId F.plain_set_update_loop _]
    show wpAny _ A.in1 (pyNext (.ref I) >>= _) _ _ s
    refine wpAny_bind (W.done s _ _ hst fun s' hm => ?_)
    show wpAny _ A.in1 (ret Value.none) _ _ s'
    have e : ks.take i = ks := List.take_of_length_le (by omega)
    rw [e] at hS
    exact wpAny_pure (hR s' c (hm.mono hsub) hc (hS.at fun o e => hm.heap S o hSw e))
  | succ k ih =>
    intro i s hk' hi hst ⟨c, hc, hS⟩ hR
    have hlt : i < n := by omega
    refine codeAny_builtin F.entry_set_update_loop ?_
    rw [Around.under_plainId F.plain_set_update_loop _]
    show wpAny _ A.in1 (pyNext (.ref I) >>= _) _ _ s
    refine wpAny_bind (W.item i s _ _ hlt hst fun v s' hP hst' hm => ?_)
    obtain ⟨z, hz, hv⟩ := hval i v hP
    have hS' : SetM w s'.heap S (fun j => decide (j ∈ ks.take i)) c := hS.at fun o e => hm.heap S o hSw e
    show wpAny _ A.in1 (holding [v] (setAdd S v) >>= _) _ _ s'
    refine wpAny_bind (wpAny_holding ?_)
    unfold setAdd
    refine wpAny_holding ?_
    refine wpAny_bind ((mixKind P w).pyHash (k := z) hv ?_)
    refine setM_add (s := { s' with toks := s'.toks + 1 }) hv hS' (by omega) fun h' hsb hS2 => ?_
    have hS3 : SetM w h' S (fun j => decide (j ∈ ks.take (i + 1))) (if decide (z ∈ ks.take i) = true then c else c + 1) := hS2.congr fun j => by
      rw [List.take_add_one, hz]
      simp [List.mem_append]
    have hc3 : (if decide (z ∈ ks.take i) = true then c else c + 1) ≤ i + 1 := by
      split <;> omega
    refine wpAny_pure ⟨plainId_quiet F.plain_set_update_loop _, ih (i + 1) _ (by omega) hlt (W.frame _ s' _ _ hst' (Nat.le_succ _) fun b hb o e => ?_) ⟨_, hc3, hS3⟩ fun s'' c2 hm'' hc'' hS'' => ?_⟩
    · rw [hsb.2 b (fun h : b = S => hSf (by rw [← h]; exact hb))]; exact e
    · refine hR s'' c2 (Moved.trans W.gtrans ((hm.mono hsub).then_heap (Nat.le_succ _) fun b o hb e => ?_) hm'') hc'' hS''
      rw [hsb.2 b (fun h : b = S => hb (by rw [h]; exact List.mem_cons_self))]; exact e
abbrev newSet (w : World) : Obj := { cls := .type "set", dict := none, data := .set #[] 0 (.fresh 0 0 (!w.params.followText "set-order")) }
theorem setM_fresh {w : World} {h : Heap} {a : Addr} {ks : List Key} (ho : h.get? a = some (newSet w)) : SetM w h a (fun j => decide (j ∈ ks.take 0)) 0 :=
  ⟨_, #[], 0, _, ho, ⟨rfl, rfl, rfl⟩, rfl, (fun e he => by simp at he), (by simp), (fun k => by simp), (by decide), (by rfl), rfl, List.Pairwise.nil, by
    show _ ∨ (!w.params.followText "set-order") = true
    cases w.params.followText "set-order"
    · exact .inr rfl
    · exact .inl rfl⟩
/-- set(v): v is told by how it is iterated -/
theorem call_setM {v : Value} {T : String} (ks : List Key) {Q : Value → Shared → Prop} (hT : s.TypeIs v T) (hs1 : isSubtype (.type T) (.type "set") = pure false) (hs2 : isSubtype (.type T) (.type "frozenset") = pure false) (hs3 : (Value.type T == Value.type "dict") = false) (hb : ks.length + 1 < scanBound)
    (hit : ∀ (A' : Around) (E' : Value → Shared → Prop) (s1 : Shared) (Q' : Value → Shared → Prop), A'.handled = A.handled → (∀ b o, s.heap.get? b = some o → s1.heap.get? b = some o) → s.heap.objs.size ≤ s1.heap.objs.size →
      (∀ (o : Obj) (fp : List Addr) (St : Nat → Heap → Prop) (Pv : Nat → Value → Prop), (∀ A2 : Around, A2.handled = A.handled → Walks P w A2 s1.heap.objs.size fp [s1.heap.objs.size] ks.length Pv St) → (∀ i v, Pv i v → ∃ k, ks[i]? = some k ∧ keyIs k v = true) →
        (∀ b ∈ fp, b = s1.heap.objs.size ∨ b < s.heap.objs.size) → St 0 (s1.heap.push o) → Q' (.ref s1.heap.objs.size) { s1 with heap := s1.heap.push o }) → wpAny (model P w) A' (pyIter v) Q' E' s1)
    (hv : ∀ s1 : Shared, (∀ b o, s.heap.get? b = some o → s1.heap.get? b = some o) → s1.TypeIs v T)
    (h : ∀ (h' : Heap) (tk c : Nat), SetM w h' s.heap.objs.size (fun j => decide (j ∈ ks)) c → c ≤ ks.length → (∀ b o, s.heap.get? b = some o → h'.get? b = some o) → Q (.ref s.heap.objs.size) { s with heap := h', toks := tk }) :
    wpAny (model P w) A (call (.type "set") [v]) Q E s := by
  obtain ⟨c, tl, hmro⟩ := F.called_set.mro
  have hmade := F.called_set.made
  have hsub := F.called_set.sub
  refine wpAny_call (codeAny_of_tree ?_)
  show wpAny _ _ (callAny (.type "set") _) _ _ _
  refine wpAny_pure ⟨Code.quiet_builtin _ (by decide +kernel), codeAny_builtin F.entry_type_call ?_⟩
  rw [Around.under_plain (weight_type_call_type "set" [v] []) rfl]
  have h1 := F.called_set.notType
  have h2 := F.called_set.canCreate
  have hct := F.typeCall_set_1 v
  repeat (any_goals (first | assumption | wp_step))
  refine codeAny_mono (code_set_led1 v (E := E) (Q₁ := fun obj s₁ => obj = .ref s.heap.objs.size ∧ s₁ = { s with heap := s.heap.push (newSet w) }) ⟨rfl, rfl⟩) fun r s₁ hr => ?_
  cases r with
  | error e => exact hr
  | ok fl =>
    cases fl with
    | ret obj =>
      obtain ⟨rfl, rfl⟩ := hr
      have hS : (s.heap.push (newSet w)).get? s.heap.objs.size = some (newSet w) := Heap.get?_push_size _ rfl
      have hT1 : Shared.TypeIs { s with heap := s.heap.push (newSet w) } (.ref s.heap.objs.size) "set" := ⟨_, hS, rfl⟩
      have hvT : Shared.TypeIs { s with heap := s.heap.push (newSet w) } v T := hv _ fun b o e => Heap.get?_push_of_some _ e
      have hli := F.called_set.init.lookup
      have hbi := F.called_set.init.bind (.ref s.heap.objs.size)
      repeat (any_goals (first | assumption | wp_step))
      refine codeAny_mono (codeAny_call_builtin (R := wants (fun r s₂ => r = .none ∧ ∃ h' tk c, s₂ = { s with heap := h', toks := tk } ∧ SetM w h' s.heap.objs.size (fun j => decide (j ∈ ks)) c ∧ c ≤ ks.length ∧
          (∀ b o, s.heap.get? b = some o → h'.get? b = some o)) E) F.called_set.init.plain F.entry_set_init (check_set_init_1 hT1 ?_)) fun r₂ s₂ hr₂ => ?_
      · unfold Builtin.«set.__init__» noKeywords Builtin.Frozenset.updateFrom
        generalize hPI : pyIter = PI
        wp_walk
        subst hPI
        have hz1 : (s.heap.push (newSet w)).objs.size = s.heap.objs.size + 1 := Heap.size_push ..
        refine hit _ _ { s with heap := s.heap.push (newSet w) } _ (by simp) (fun b o e => Heap.get?_push_of_some _ e) (by show s.heap.objs.size ≤ (s.heap.push (newSet w)).objs.size; rw [hz1]; exact Nat.le_succ _) fun o fp St Pv W hval hfp hst => ?_
        refine wpAny_bind (wpAny_runValue ?_)
        have hSf : s.heap.objs.size ∉ fp := fun hm => by
          rcases hfp _ hm with z | z
          · have z' : s.heap.objs.size = (s.heap.push (newSet w)).objs.size := z
            rw [hz1] at z'; omega
          · exact absurd z (Nat.lt_irrefl _)
        refine setM_update ((W _ (by simp)).toS) s.heap.objs.size hSf ks rfl hb hval (ks.length - 0) 0 _ (by omega) (Nat.zero_le _) hst ?hS0 ?hR
        case hS0 => exact ⟨0, Nat.le_refl 0, setM_fresh (Heap.get?_push_of_some _ hS)⟩
        case hR =>
          intro s' c' hm hc' hS'
          obtain ⟨h', g2, d', tk', os'⟩ := s'
          have eg : g2 = s.gens := hm.gens
          have ed : d' = s.drawn := hm.drawn
          have eo : os' = s.os := hm.os
          subst eg; subst ed; subst eo
          show wpAny _ _ _ _ _ _
          refine wpAny_pure ?_
          show wpAny _ _ (ret Value.none) _ _ _
          refine wpAny_pure ⟨rfl, h', tk', c', rfl, hS', hc', fun b o e => ?_⟩
          have hb0 : b < s.heap.objs.size := Heap.lt_size e
          have hb1 : b ≠ s.heap.objs.size := Nat.ne_of_lt hb0
          have hb2 : b ≠ (s.heap.push (newSet w)).objs.size := by rw [hz1]; exact Nat.ne_of_lt (Nat.lt_succ_of_lt hb0)
          exact hm.heap b o (by simp only [List.mem_cons, List.mem_singleton, List.not_mem_nil, or_false, not_or]; exact ⟨hb1, hb2⟩) (Heap.get?_push_of_some _ (Heap.get?_push_of_some _ e))
      · cases r₂ with
        | error e => exact hr₂
        | ok fl₂ =>
          cases fl₂ with
          | ret r =>
            obtain ⟨rfl, h', tk, c, rfl, hS', hc', hk'⟩ := hr₂
            repeat (any_goals (first | assumption | wp_step))
            exact h _ _ _ hS' hc' hk'
          | _ => exact hr₂.elim
    | _ => exact hr.elim
end
end Den

/-! DenSet2: len(set(x)), sorted(set(x)). -/
namespace Den
open PySem PySem.Spec PyProof.Rows L2
section
variable {P : Program} {w : World} {A : Around} {E : Value → Shared → Prop} {s : Shared} {a : Addr} {S : Key → Bool} {n : Nat}
theorem inl_mem {l : List Int} {k : Int} : (Sum.inl k : Key) ∈ l.map (Sum.inl : Int → Key) ↔ k ∈ l := by simp
theorem inr_mem {l : List PySem.Str} {k : PySem.Str} : (Sum.inr k : Key) ∈ l.map (Sum.inr : PySem.Str → Key) ↔ k ∈ l := by simp
/-- sorted(s), s a set of ints -/
theorem sortedM_int {ns : List Int} {Q : Value → Shared → Prop} (R : SetM w s.heap a (fun j => decide (j ∈ ns.map (Sum.inl : Int → Key))) n) (hh : A.handled = none) (h64 : n < 64)
    (hQ : ∀ s' p (out : Array Value) (c : Nat) (ms : List Int), (∀ b o, s.heap.get? b = some o → s'.heap.get? b = some o) → s'.gens = s.gens → s'.os = s.os → s.heap.objs.size ≤ p →
      s'.heap.get? p = some (seqObj "list" out c) → IntsAre out.toList ms → ms.Pairwise (· < ·) → (∀ k, k ∈ ms ↔ k ∈ ns) → Q (.ref p) s') :
    wpAny (model P w) A (call (.builtin "sorted") [.ref a]) Q E s := by
  obtain ⟨o, es, ep, t, ho, hex, hd, g, nd, hm, hb, hf, hn, hr, hl⟩ := R
  refine Calls.call_function_entry kind_sorted plain_sorted entry_sorted (args_sorted1 _) ?_
  unfold Builtin.«sorted»
  refine wpAny_bind (m := checkCount "sorted" 1 1 _) (wpAny_pure ?_)
  refine wpAny_bind (collect_set (A := A.in1) hh ⟨o, ho, hex.1, hd⟩ hf hb hr hl fun s1 vs k1 hz g1 o1 pm => ?_)
  have hvl : vs.length = n := by rw [pm.length_eq, List.length_map, Array.length_toList]; exact hn
  have hvk : ∀ v ∈ vs, ∃ e ∈ es.toList, e.2 = v ∧ ∃ k, kof e = Sum.inl k ∧ ∃ tk, v = Value.int k tk := fun v hv => by
    obtain ⟨e, he, q⟩ := List.mem_map.mp (pm.mem_iff.mp hv)
    obtain ⟨k, h1, _⟩ := g e he
    have hk : kof e ∈ ns.map (Sum.inl : Int → Key) := by
      have z := (hm (kof e)).2 (List.mem_map.mpr ⟨e, he, rfl⟩)
      simpa using z
    obtain ⟨i, hi, ei⟩ := List.mem_map.mp hk
    rw [kof_of h1] at ei
    subst ei
    rcases keyIs_shape h1 with ⟨j, tk, e1, e2⟩ | ⟨x, tk, e1, _⟩
    · cases e1; exact ⟨e, he, q, i, kof_of h1, tk, q ▸ e2⟩
    · cases e1
  have hI : IntsAre vs (vs.map Builtin.Re.reRawOf) := ints_of vs fun v hv => by
    obtain ⟨_, _, _, k, _, tk, e⟩ := hvk v hv
    exact ⟨k, tk, e⟩
  have pk : (vs.map Builtin.Re.reRawOf).map (Sum.inl : Int → Key) |>.Perm (es.toList.map kof) := by
    have q := pm.map fun v => (Sum.inl (Builtin.Re.reRawOf v) : Key)
    rw [List.map_map] at q ⊢
    refine q.trans (List.Perm.of_eq ?_)
    rw [List.map_congr_left]
    intro e he
    obtain ⟨k, h1, _⟩ := g e he
    have hk : kof e ∈ ns.map (Sum.inl : Int → Key) := by
      have z := (hm (kof e)).2 (List.mem_map.mpr ⟨e, he, rfl⟩)
      simpa using z
    obtain ⟨i, hi, ei⟩ := List.mem_map.mp hk
    rw [kof_of h1] at ei ⊢
    subst ei
    rcases keyIs_shape h1 with ⟨j, tk, e1, e2⟩ | ⟨x, tk, e1, _⟩
    · cases e1
      show (Sum.inl (Builtin.Re.reRawOf e.2) : Key) = _
      rw [e2] <;> rfl
    · cases e1
  refine wpAny_bind (wpAny_newList ?_ (by rw [hvl, sizeLine_eq]; omega))
  have hoL : (s1.heap.push (seqObj "list" vs.toArray 0)).get? s1.heap.objs.size = some (seqObj "list" vs.toArray 0) := Heap.get?_push_size _ rfl
  refine wpAny_bind (wpAny_holding (wpAny_call_entry slot_list_sort ⟨_, hoL, rfl⟩ entry_list_sort (list_sort_tree hoL hI (by rw [hvl]; exact h64) fun out ns' a1 a2 a3 => ⟨_, rfl, ?_⟩) (args_list_sort _)))
  obtain ⟨c, hc⟩ := sortedHeap_at (vs := vs) (out := out) hoL
  have pn : (ns'.map (Sum.inl : Int → Key)).Perm (es.toList.map kof) := (a2.map _).trans pk
  have nd' : ns'.Nodup := by
    have z := pn.nodup_iff.mpr nd
    exact List.Pairwise.of_map _ (fun a b h e => h (by rw [e])) z
  refine wpAny_pure ⟨_, rfl, hQ _ s1.heap.objs.size out c ns' (fun b u e => ?_) g1 o1 hz hc a1 (lt_of_le_nodup ns' a3 nd') (fun k => ?_)⟩
  · have q := k1 b u e
    have hlt := Heap.lt_size q
    show (sortedHeap (s1.heap.push (seqObj "list" vs.toArray 0)) s1.heap.objs.size vs out).get? b = some u
    rw [sortedHeap_old (Nat.ne_of_lt hlt) (by rw [size_push']; exact Nat.lt_succ_of_lt hlt)]
    exact Heap.get?_push_of_some _ q
  · rw [← inl_mem, pn.mem_iff, ← hm]
    simp
theorem strs_of_all : ∀ (l : List Value), (∀ v ∈ l, ∃ x tk, v = Value.str x tk) → ∃ xs, StrsAre l xs
  | [], _ => ⟨[], .nil⟩
  | v :: l, h => by
    obtain ⟨x, tk, rfl⟩ := h v List.mem_cons_self
    obtain ⟨xs, hx⟩ := strs_of_all l fun u hu => h u (List.mem_cons_of_mem _ hu)
    exact ⟨x :: xs, .cons x tk hx⟩
theorem strs_mem : ∀ {l : List Value} {xs : List PySem.Str}, StrsAre l xs → ∀ x, x ∈ xs ↔ ∃ tk, Value.str x tk ∈ l
  | _, _, .nil, x => by simp
  | _, _, .cons y t h, x => by
    rw [List.mem_cons, strs_mem h x]
    constructor
    · rintro (e | ⟨tk, e⟩)
      · subst e; exact ⟨t, List.mem_cons_self⟩
      · exact ⟨tk, List.mem_cons_of_mem _ e⟩
    · rintro ⟨tk, e⟩
      rcases List.mem_cons.mp e with e | e
      · injection e with e1 _; exact .inl e1
      · exact .inr ⟨tk, e⟩
def sOfV : Value → PySem.Str
  | .str x _ => x
  | _ => ⟨#[]⟩
theorem strs_map : ∀ {l : List Value} {xs : List PySem.Str}, StrsAre l xs → xs = l.map sOfV
  | _, _, .nil => rfl
  | _, _, .cons y t h => by rw [List.map_cons, ← strs_map h] <;> rfl
theorem strs_kof : ∀ {l : List (Int × Value)} {xs : List PySem.Str}, StrsAre (l.map (·.2)) xs → l.map kof = xs.map (Sum.inr : PySem.Str → Key)
  | [], _, h => by cases h; rfl
  | e :: l, xs, h => by
    rw [List.map_cons] at h
    generalize he : e.2 = v at h
    cases h with
    | cons y t h =>
      rw [List.map_cons, List.map_cons, strs_kof h]
      unfold kof
      rw [he]
theorem sortedM_str {xs : List PySem.Str} {Q : Value → Shared → Prop} (R : SetM w s.heap a (fun j => decide (j ∈ xs.map (Sum.inr : PySem.Str → Key))) n) (hh : A.handled = none) (h64 : n < 64)
    (hQ : ∀ s' p (out : Array Value) (c : Nat) (ys : List PySem.Str), (∀ b o, s.heap.get? b = some o → s'.heap.get? b = some o) → s'.gens = s.gens → s'.os = s.os → s.heap.objs.size ≤ p →
      s'.heap.get? p = some (seqObj "list" out c) → StrsAre out.toList ys → sortedS ys = true → ys.Nodup → (∀ k, k ∈ ys ↔ k ∈ xs) → Q (.ref p) s') :
    wpAny (model P w) A (call (.builtin "sorted") [.ref a]) Q E s := by
  obtain ⟨o, es, ep, t, ho, hex, hd, g, nd, hm, hb, hf, hn, hr, hl⟩ := R
  refine Calls.call_function_entry kind_sorted plain_sorted entry_sorted (args_sorted1 _) ?_
  unfold Builtin.«sorted»
  refine wpAny_bind (m := checkCount "sorted" 1 1 _) (wpAny_pure ?_)
  refine wpAny_bind (collect_set (A := A.in1) hh ⟨o, ho, hex.1, hd⟩ hf hb hr hl fun s1 vs k1 hz g1 o1 pm => ?_)
  have hvl : vs.length = n := by rw [pm.length_eq, List.length_map, Array.length_toList]; exact hn
  have hes : ∀ v ∈ es.toList.map (·.2), ∃ x tk, v = Value.str x tk := fun v hv => by
    obtain ⟨e, he, q⟩ := List.mem_map.mp hv
    obtain ⟨k, h1, _⟩ := g e he
    have hk : kof e ∈ xs.map (Sum.inr : PySem.Str → Key) := by
      have z := (hm (kof e)).2 (List.mem_map.mpr ⟨e, he, rfl⟩)
      simpa using z
    obtain ⟨i, hi, ei⟩ := List.mem_map.mp hk
    rw [kof_of h1] at ei
    subst ei
    rcases keyIs_shape h1 with ⟨j, tk, e1, _⟩ | ⟨x, tk, e1, e2⟩
    · cases e1
    · cases e1; exact ⟨i, tk, q ▸ e2⟩
  obtain ⟨zs, hzs⟩ := strs_of_all _ hes
  obtain ⟨ws, hS⟩ := strs_of_all vs fun v hv => hes v (pm.mem_iff.mp hv)
  have ek := strs_kof hzs
  have ndz : zs.Nodup := by
    rw [ek] at nd
    exact List.Pairwise.of_map _ (fun a b h e => h (by rw [e])) nd
  refine wpAny_bind (wpAny_newList ?_ (by rw [hvl, sizeLine_eq]; omega))
  have hoL : (s1.heap.push (seqObj "list" vs.toArray 0)).get? s1.heap.objs.size = some (seqObj "list" vs.toArray 0) := Heap.get?_push_size _ rfl
  refine wpAny_bind (wpAny_holding (wpAny_call_entry slot_list_sort ⟨_, hoL, rfl⟩ entry_list_sort (list_sort_treeK strKind_oneLt hoL hS.keysOf (fun v₁ v₂ rest e => keyKind_strs (by rw [← e]; exact hS)) (by rw [hvl]; exact h64) fun st' hp hs => ⟨_, rfl, ?_⟩) (args_list_sort _)))
  obtain ⟨ys, g2, g3, g4⟩ := sorted_out_str hS hp hs
  obtain ⟨c, hc⟩ := sortedHeap_at (vs := vs) (out := (arrOf st').map (·.2)) hoL
  have hwz : ws.Perm zs := by
    rw [strs_map hS, strs_map hzs]
    exact pm.map _
  refine wpAny_pure ⟨_, rfl, hQ _ s1.heap.objs.size _ c ys (fun b u e => ?_) g1 o1 hz hc g2 g4 ((g3.trans hwz).nodup_iff.mpr ndz) (fun k => ?_)⟩
  · have q := k1 b u e
    have hlt := Heap.lt_size q
    show (sortedHeap (s1.heap.push (seqObj "list" vs.toArray 0)) s1.heap.objs.size vs _).get? b = some u
    rw [sortedHeap_old (Nat.ne_of_lt hlt) (by rw [size_push']; exact Nat.lt_succ_of_lt hlt)]
    exact Heap.get?_push_of_some _ q
  · rw [(g3.trans hwz).mem_iff, ← inr_mem, ← ek, ← hm]
    simp
end
end Den

/-! DenSet3: len(set(x)), sorted(set(x)) as expressions. -/
namespace Den
open PySem PySem.Spec PyProof.Rows L2
def KeysV (K : PySem.W.Frag) (H : Hp) (x : V) (ks : List Key) : Prop :=
  (∃ l, x = .ref l ∧ (SqL K H l (ks.map kV) ∨ SqT K H l (ks.map kV))) ∨ ∃ z : PySem.Str, x = .str z ∧ ks = z.cps.toList.map fun c => Sum.inr ⟨#[c]⟩
theorem keyIs_of {k : Key} {v : Value} (r : RelV (kV k) v) : keyIs k v = true := by
  cases k with
  | inl i => obtain ⟨t, rfl⟩ := r; exact beq_self_eq_true i
  | inr x => obtain ⟨t, rfl⟩ := r; exact beq_self_eq_true x
theorem keysM_at : ∀ {ks : List Key} {its : List Value}, Vals (ks.map kV) its → ∀ (i : Nat) (v : Value), its[i]? = some v → ∃ k, ks[i]? = some k ∧ keyIs k v = true
  | [], _, h, i, v, e => by rw [List.map_nil] at h; cases h; simp at e
  | k :: ks, _, h, i, v, e => by
    rw [List.map_cons] at h
    cases h with
    | cons r t =>
      cases i with
      | zero =>
        simp only [List.getElem?_cons_zero, Option.some.injEq] at e
        subst e
        exact ⟨k, rfl, keyIs_of r⟩
      | succ i =>
        simp only [List.getElem?_cons_succ] at e ⊢
        exact keysM_at t i v e
section
variable {X : Cx} {cl : Cls} {t : Addr} {W : WX} {a : Expr} {fa : FE} {pos p p2 q2 : Pos}
theorem set_at {pins : List (Addr × Obj)} {σ : L2.St} {H : Hp} {s : Shared} {x : V} {v : Value} {ks : List Key} {Q : Value → Shared → Prop} {E : Value → Shared → Prop} (hc : X.calm = true) (I : Inv X pins σ H s) (r : RelV x v) (h : KeysV X.K H x ks) (hb : ks.length + 1 < scanBound)
    (q : ∀ (h' : Heap) (tk c : Nat), SetM X.w h' s.heap.objs.size (fun j => decide (j ∈ ks)) c → c ≤ ks.length → (∀ b o, s.heap.get? b = some o → h'.get? b = some o) → Q (.ref s.heap.objs.size) { s with heap := h', toks := tk }) :
    wpAny (model X.prog X.w) X.A (call (.type "set") [v]) Q E s := by
  have hh := I.ok.hd hc
  rcases h with ⟨l, rfl, hq | hq⟩ | ⟨z, rfl, hz⟩
  · cases r
    obtain ⟨its, rv, pl, hz⟩ := I.list hq
    have hl := pl.isList
    have he : its.toArray.size = ks.length := by rw [List.size_toArray, ← rv.length, List.length_map]
    have hls : l < s.heap.objs.size := by obtain ⟨o, ho, _⟩ := hl; exact Heap.lt_size ho
    refine call_setM (T := "list") ks hl.typeIs F.sub_list_set F.sub_list_frozenset (by decide) hb (fun A' E' s1 Q' hA kp hsz k => ?_) (fun s1 kp => (hl.at fun o e => kp _ o e).typeIs) q
    refine wpAny_pyIter_list (hl.at fun o e => kp _ o e) (k _ [s1.heap.objs.size, l] _ _ (fun A2 h2 => he ▸ Walks.list (h2.trans hh) _ l (Nat.ne_of_lt (Nat.lt_of_lt_of_le hls hsz)) its.toArray) (fun i v hv => keysM_at rv i v (by simpa using hv)) (fun b hb => ?_) ⟨⟨_, Heap.get?_push_size _ rfl, rfl, rfl⟩, (hl.at fun o e => kp _ o e).push _⟩)
    rcases List.mem_cons.mp hb with e | e
    · exact .inl e
    · rw [List.mem_singleton.mp e]; exact .inr hls
  · cases r
    obtain ⟨its, rv, hl, hz⟩ := I.tuple hq
    have he : its.toArray.size = ks.length := by rw [List.size_toArray, ← rv.length, List.length_map]
    have hls : l < s.heap.objs.size := by obtain ⟨o, ho, _⟩ := hl; exact Heap.lt_size ho
    have ha : ∀ s1 : Shared, (∀ b o, s.heap.get? b = some o → s1.heap.get? b = some o) → s1.heap.IsTuple l its.toArray := fun s1 kp => by
      obtain ⟨o, ho, r⟩ := hl
      exact ⟨o, kp _ o ho, r⟩
    refine call_setM (T := "tuple") ks hl.typeIs F.sub_tuple_set F.sub_tuple_frozenset (by decide) hb (fun A' E' s1 Q' hA kp hsz k => ?_) (fun s1 kp => (ha s1 kp).typeIs) q
    refine wpAny_pyIter_tuple (ha s1 kp) (k _ [s1.heap.objs.size, l] _ _ (fun A2 h2 => he ▸ Walks.tuple (h2.trans hh) _ l (Nat.ne_of_lt (Nat.lt_of_lt_of_le hls hsz)) its.toArray) (fun i v hv => keysM_at rv i v (by simpa using hv)) (fun b hb => ?_) ⟨⟨_, Heap.get?_push_size _ rfl, rfl, rfl⟩, (ha s1 kp).push _⟩)
    rcases List.mem_cons.mp hb with e | e
    · exact .inl e
    · rw [List.mem_singleton.mp e]; exact .inr hls
  · obtain ⟨tk, rfl⟩ := r
    have he : z.cps.size = ks.length := by rw [hz, List.length_map, Array.length_toList]
    refine call_setM (T := "str") ks (typeIs_str _ _ _) F.sub_str_set F.sub_str_frozenset (by decide) hb (fun A' E' s1 Q' hA kp hsz k => ?_) (fun s1 kp => typeIs_str _ _ _) q
    refine wpAny_pyIter_str fun o St W hst => k o [s1.heap.objs.size] St _ (fun A2 h2 => he ▸ W A2 (h2.trans hh)) (fun i v hv => ?_) (fun b hb => .inl (List.mem_singleton.mp hb)) hst
    obtain ⟨c, u, e1, e2⟩ := hv
    refine ⟨Sum.inr ⟨#[c]⟩, ?_, by rw [e2]; exact keyIs_of (k := Sum.inr ⟨#[c]⟩) ⟨u, rfl⟩⟩
    rw [hz, List.getElem?_map, Array.getElem?_toList, e1] <;> rfl

/-! ### what setI, setS tell -/
theorem lst_ints {p : Par} {I : Hp} {ds : List D} {vs : List V} {ns : List Int} (r : RepL p I ds vs) (h : allOf intOf ds = some ns) : vs = (ns.map (Sum.inl : Int → Key)).map kV := by
  rw [allOf_map intOf_v r h, List.map_map]; rfl
def strK (l : List Nat) : PySem.Str := ⟨l.toArray⟩
theorem lst_strs {p : Par} {I : Hp} {ds : List D} {vs : List V} {ss : List (List Nat)} (r : RepL p I ds vs) (h : allOf strOf ds = some ss) : vs = ((ss.map strK).map (Sum.inr : PySem.Str → Key)).map kV := by
  rw [allOf_map strOf_v r h, List.map_map, List.map_map]; rfl
theorem setI_keys {P : Par} {I H : Hp} (s : Same I H) {d : D} {v : V} {ns : List Int} (h : Rdb P I H d v) (e : setI d = some ns) : KeysV P.K H v (ns.map (Sum.inl : Int → Key)) := by
  cases d with
  | lst ds =>
    obtain ⟨a, vs, e1, q1, r1⟩ := h.lst s
    exact .inl ⟨a, e1, .inl (by rw [← lst_ints r1 e]; exact SqL.of q1)⟩
  | tup ds =>
    obtain ⟨a, vs, e1, q1, _, r1⟩ := h.tup s
    exact .inl ⟨a, e1, .inr (by rw [← lst_ints r1 e]; exact q1)⟩
  | _ => cases e
theorem setS_keys {P : Par} {I H : Hp} (s : Same I H) {d : D} {v : V} {ss : List (List Nat)} (h : Rdb P I H d v) (e : setS d = some ss) : KeysV P.K H v ((ss.map strK).map (Sum.inr : PySem.Str → Key)) := by
  cases d with
  | lst ds =>
    obtain ⟨a, vs, e1, q1, r1⟩ := h.lst s
    exact .inl ⟨a, e1, .inl (by rw [← lst_strs r1 e]; exact SqL.of q1)⟩
  | tup ds =>
    obtain ⟨a, vs, e1, q1, _, r1⟩ := h.tup s
    exact .inl ⟨a, e1, .inr (by rw [← lst_strs r1 e]; exact q1)⟩
  | str l =>
    cases e
    exact .inr ⟨_, h.str.1, by simp [strK]⟩
  | _ => cases e
theorem allOf_len {α : Type} {f : D → Option α} : ∀ {ds : List D} {as : List α}, allOf f ds = some as → as.length = ds.length
  | [], _, h => by cases h; rfl
  | d :: ds, as, h => by
    rw [allOf] at h
    cases h1 : f d with
    | none => rw [h1] at h; cases h
    | some a =>
      cases h2 : allOf f ds with
      | none => rw [h1, h2] at h; cases h
      | some as' => rw [h1, h2] at h; cases h; simp [allOf_len h2]
theorem strs_valid {p : Par} {I : Hp} : ∀ {ds : List D} {vs : List V} {ss : List (List Nat)}, RepL p I ds vs → allOf strOf ds = some ss → ∀ s ∈ ss, ∀ c ∈ s, c < 0x110000
  | [], _, _, _, h => by cases h; intro s hs; cases hs
  | d :: ds, _, as, ⟨v, vr, e, r, t⟩, h => by
    subst e
    rw [allOf] at h
    cases h1 : strOf d with
    | none => rw [h1] at h; cases h
    | some a =>
      cases h2 : allOf strOf ds with
      | none => rw [h1, h2] at h; cases h
      | some as' =>
        rw [h1, h2] at h
        cases h
        intro s hs
        rcases List.mem_cons.mp hs with e | e
        · subst e
          cases d <;> first | (cases h1; exact r.2) | cases h1
        · exact strs_valid t h2 s e
theorem setS_valid {P : Par} {I H : Hp} (s : Same I H) {d : D} {v : V} {ss : List (List Nat)} (h : Rdb P I H d v) (e : setS d = some ss) : ∀ s ∈ ss, ∀ c ∈ s, c < 0x110000 := by
  cases d with
  | lst ds => obtain ⟨a, vs, e1, q1, r1⟩ := h.lst s; exact strs_valid r1 e
  | tup ds => obtain ⟨a, vs, e1, q1, _, r1⟩ := h.tup s; exact strs_valid r1 e
  | str l =>
    cases e
    intro s hs c hc
    obtain ⟨k, hk, e⟩ := List.mem_map.mp hs
    subst e
    rw [List.mem_singleton] at hc
    subst hc
    exact h.str.2 _ hk
  | _ => cases e
theorem mem_setS {S : Key → Bool} {w : World} {h : Heap} {b : Addr} {n : Nat} {ks : List Key} (R : SetM w h b (fun j => decide (j ∈ ks)) n) : ∃ l : List Key, l.Nodup ∧ (∀ k, k ∈ l ↔ k ∈ ks) ∧ l.length = n := by
  obtain ⟨o, es, ep, t, ho, hx, hd, g, nd, hm, hb, hf, hn, _⟩ := R
  refine ⟨_, nd, fun k => ?_, by rw [List.length_map, Array.length_toList]; exact hn⟩
  rw [← hm k]
  simp
theorem nodup_map {α β : Type} {f : α → β} (hf : ∀ a b, f a = f b → a = b) {l : List α} (h : l.Nodup) : (l.map f).Nodup := List.Pairwise.map _ (fun a b n e => n (hf a b e)) h
theorem setM_lenI {w : World} {h : Heap} {b : Addr} {n : Nat} {ns : List Int} (R : SetM w h b (fun j => decide (j ∈ ns.map (Sum.inl : Int → Key))) n) : (sortU ltI ns).length = n := by
  obtain ⟨l, h1, h2, h3⟩ := mem_setS (S := fun _ => true) R
  rw [← h3, ← List.length_map (f := (Sum.inl : Int → Key))]
  refine len_of_nodup (nodup_map (fun a b e => by injection e) (pw_nodup totI (sortU_pw totI ns))) h1 fun y => ?_
  rw [h2]
  simp [mem_sortU totI]
theorem strK_inj : ∀ a b, strK a = strK b → a = b := fun a b e => by
  have e' : (⟨a.toArray⟩ : PySem.Str) = ⟨b.toArray⟩ := e
  injection e' with e'
  simpa using congrArg Array.toList e'
theorem setM_lenS {w : World} {h : Heap} {b : Addr} {n : Nat} {ss : List (List Nat)} (R : SetM w h b (fun j => decide (j ∈ (ss.map strK).map (Sum.inr : PySem.Str → Key))) n) : (sortU ltS ss).length = n := by
  obtain ⟨l, h1, h2, h3⟩ := mem_setS (S := fun _ => true) R
  rw [← h3, ← List.length_map (f := fun x => (Sum.inr (strK x) : Key))]
  refine len_of_nodup (nodup_map (fun a b e => by injection e with e; exact strK_inj _ _ e) (pw_nodup totS (sortU_pw totS ss))) h1 fun y => ?_
  rw [h2]
  simp [mem_sortU totS]
theorem gLenSet_ne : ∀ u e, gLenSet u ≠ .exc e := by
  intro u e
  unfold gLenSet
  split
  · split <;> simp
  · split
    · split <;> simp
    · simp
def rLenSet (K : PySem.W.Frag) : V → Hp → VK → Prop := fun x H Q => ∃ ks, KeysV K H x ks ∧ ks.length ≤ 4000 ∧ ∀ w h b n, SetM w h b (fun j => decide (j ∈ ks)) n → Q (.int n) H
/-- len(set(a)) -/
theorem pe_lenSet {ta : TE} (hc : X.calm = true) (hm : X.mg "len" = none) (hm2 : X.mg "set" = none) (ha : PE X a ta) (hg : Gl X "len" := by rfl) (hg2 : Gl X "set" := by rfl)
    (na : starEach [a] X.env = (false, eval a X.env) :: starEach [] X.env := by rfl) : PE X (.Call (.Name "len" p) [.Call (.Name "set" p2) [a] [] q2] [] pos) (tUn (rLenSet X.K) ta) := by
  refine ⟨fun pins s σ H Q I h => ?_⟩
  refine Call_ (ld_blt I hg hm PySem.boot_len ?_)
  refine PyProof.Rows.callWith_builtin1 (PyProof.Rows.args_cons ?_ rfl) rfl rfl
  refine Call_ (ld_blt I hg2 hm2 PyProof.Rows.boot_set ?_)
  refine PyProof.Rows.callWith_type1 (PyProof.Rows.args_cons (thn (ha.run pins s σ H _ I h) fun v s1 ⟨x, H1, I1, r1, q1⟩ => PyProof.Rows.args_nil ?_) na) na rfl
  obtain ⟨ks, hk, h4, q1⟩ := q1
  refine set_at hc I1 r1 hk (by unfold scanBound; omega) fun h' tk c R hcl hkp => PyProof.Rows.args_nil ?_
  have R' := R
  obtain ⟨o, es, ep, t, ho, hex, hd, _, _, _, hb, hf, hn, _⟩ := R
  have I2 : Inv X pins σ H1 { s1 with heap := h', toks := tk } := I1.kept fun b o e => hkp b o e
  refine call_len_set ho hex hd hf (by rw [hn]; omega) ⟨.int c, H1, I2.tok _, ⟨_, by rw [hn]⟩, q1 _ _ _ _ R'⟩
theorem de_lenSet (hc : X.calm = true) (hm : X.mg "len" = none) (hm2 : X.mg "set" = none) (ha : DE X cl t W a fa) (hg : Gl X "len" := by rfl) (hg2 : Gl X "set" := by rfl)
    (na : starEach [a] X.env = (false, eval a X.env) :: starEach [] X.env := by rfl) : DE X cl t W (.Call (.Name "len" p) [.Call (.Name "set" p2) [a] [] q2] [] pos) (fUn gLenSet fa) := by
  obtain ⟨ta, pa, la⟩ := ha.ex
  refine DE.mk (pe_lenSet hc hm hm2 pa hg hg2 na) (LE.un gLenSet_ne la fun I H x dx Q s hx q => ?_)
  unfold gLenSet at q
  cases e1 : setI dx with
  | some ns =>
    simp only [e1] at q
    by_cases hl : ns.length ≤ 4000
    · rw [if_pos hl] at q
      exact ⟨_, setI_keys s hx e1, by rw [List.length_map]; exact hl, fun w h b n R => rep_here s q (by rw [setM_lenI R]; rfl)⟩
    · rw [if_neg hl] at q; exact q.elim
  | none =>
    simp only [e1] at q
    cases e2 : setS dx with
    | some ss =>
      simp only [e2] at q
      by_cases hl : ss.length ≤ 4000
      · rw [if_pos hl] at q
        exact ⟨_, setS_keys s hx e2, by rw [List.length_map, List.length_map]; exact hl, fun w h b n R => rep_here s q (by rw [setM_lenS R]; rfl)⟩
      · rw [if_neg hl] at q; exact q.elim
    | none => simp only [e2] at q; exact q.elim
/-! ### sorted(set(a)) -/
def rSortSet (K : PySem.W.Frag) : V → Hp → VK → Prop := fun x H Q =>
  (∃ ns : List Int, KeysV K H x (ns.map (Sum.inl : Int → Key)) ∧ ns.length ≤ 4000 ∧ (sortU ltI ns).length < 64 ∧ ∀ l, H l = none → Q (.ref l) (upd H l (.lst ((sortU ltI ns).map V.int)))) ∨
  ∃ ss : List (List Nat), KeysV K H x ((ss.map strK).map (Sum.inr : PySem.Str → Key)) ∧ ss.length ≤ 4000 ∧ (sortU ltS ss).length < 64 ∧ ∀ l, H l = none → Q (.ref l) (upd H l (.lst ((sortU ltS ss).map fun z => V.str (strK z))))
theorem pwI {ns ms : List Int} (h : ms.Pairwise (· < ·)) (e : ∀ k, k ∈ ms ↔ k ∈ ns) : ms = sortU ltI ns :=
  eq_of_pw totI (h.imp fun {a b} q => by simpa [ltI] using q) (sortU_pw totI ns) fun y => by rw [e, mem_sortU totI]
theorem ltS_cps : ∀ a b : List Nat, PySem.Spec.ltCps a b = ltS a b
  | [], [] => rfl
  | [], _ :: _ => rfl
  | _ :: _, [] => rfl
  | x :: a, y :: b => by
    unfold PySem.Spec.ltCps ltS
    rw [ltS_cps a b]
    by_cases h : x < y
    · simp [h]
    · by_cases h2 : y < x
      · have : (x == y) = false := beq_eq_false_iff_ne.mpr (by omega)
        simp [h, h2, this]
      · have : x = y := by omega
        subst this
        simp
theorem rising_pw : ∀ (l : List PySem.Str) (x : PySem.Str), risingS x l = true → (x :: l).Nodup → (x :: l).Pairwise fun a b => ltS a.cps.toList b.cps.toList = true
  | [], x, _, _ => by simp
  | y :: l, x, h, nd => by
    unfold risingS at h
    rw [Bool.and_eq_true] at h
    obtain ⟨n1, n2⟩ := List.nodup_cons.mp nd
    have ih := rising_pw l y h.2 n2
    have hxy : ltS x.cps.toList y.cps.toList = true := by
      cases e : ltS x.cps.toList y.cps.toList with
      | true => rfl
      | false =>
        have e2 : ltS y.cps.toList x.cps.toList = false := by
          have z := h.1
          rw [ltS_cps] at z
          simpa using z
        have e3 := ltS_tot _ _ e e2
        exact absurd (List.mem_cons.mpr (.inl (TL.ext_tl e3))) n1
    refine List.pairwise_cons.mpr ⟨fun z hz => ?_, ih⟩
    rcases List.mem_cons.mp hz with e | e
    · rw [e]; exact hxy
    · exact ltS_tr _ _ _ hxy ((List.pairwise_cons.mp ih).1 z e)
theorem sortedS_pw {l : List PySem.Str} (h : sortedS l = true) (nd : l.Nodup) : l.Pairwise fun a b => ltS a.cps.toList b.cps.toList = true := by
  cases l with
  | nil => exact .nil
  | cons x l => exact rising_pw l x h nd
theorem pwS {ss : List (List Nat)} {ys : List PySem.Str} (h : sortedS ys = true) (nd : ys.Nodup) (e : ∀ k, k ∈ ys ↔ k ∈ ss.map strK) : ys = (sortU ltS ss).map strK := by
  have h1 : ys.map (fun y => y.cps.toList) = sortU ltS ss := by
    refine eq_of_pw totS (List.Pairwise.map _ (fun a b q => q) (sortedS_pw h nd)) (sortU_pw totS ss) fun y => ?_
    rw [mem_sortU totS, List.mem_map]
    constructor
    · rintro ⟨z, hz, rfl⟩
      obtain ⟨w, hw, e1⟩ := List.mem_map.mp ((e z).mp hz)
      subst e1
      simpa [strK] using hw
    · intro hy
      exact ⟨strK y, (e _).mpr (List.mem_map.mpr ⟨y, hy, rfl⟩), by simp [strK]⟩
  rw [← h1, List.map_map]
  have : (strK ∘ fun y : PySem.Str => y.cps.toList) = id := by
    funext y
    show (⟨y.cps.toList.toArray⟩ : PySem.Str) = y
    simp
  rw [this, List.map_id]
theorem laid_at {pins : List (Addr × Obj)} {σ : L2.St} {H : Hp} {s s' : Shared} {vs : List V} {out : Array Value} {p : Addr} {c : Nat} {Q : VK} (I : Inv X pins σ H s) (hv : Vals vs out.toList) (hl : vs.length ≤ sizeLine) (k : ∀ b o, s.heap.get? b = some o → s'.heap.get? b = some o) (g : s'.gens = s.gens) (o : s'.os = s.os) (hp : s.heap.objs.size ≤ p) (hg : s'.heap.get? p = some (seqObj "list" out c))
    (q : ∀ l, H l = none → Q (.ref l) (upd H l (.lst vs))) : EP X pins σ Q (.ref p) s' := by
  have hn : H p = none := I.hok.fresh hp
  have J : Inv X pins σ (upd H p (.lst vs)) { s with heap := s'.heap, gens := s'.gens, drawn := s'.drawn, toks := s'.toks } :=
    I.call (ch := []) (Un.laid k hp hn) (I.hok.laid k hp ⟨hl, out.toList, c, hv, hg⟩) (by rw [g]; exact I.bare) (fun _ z => nomatch z)
  have e : s' = { s with heap := s'.heap, gens := s'.gens, drawn := s'.drawn, toks := s'.toks } := by
    cases s'
    cases s
    cases o
    rfl
  rw [e]
  exact ⟨.ref p, _, J, rfl, q p hn⟩
theorem pe_sortSet {ta : TE} (hc : X.calm = true) (hm : X.mg "sorted" = none) (hm2 : X.mg "set" = none) (ha : PE X a ta) (hg : Gl X "sorted" := by rfl) (hg2 : Gl X "set" := by rfl)
    (na : starEach [a] X.env = (false, eval a X.env) :: starEach [] X.env := by rfl) : PE X (.Call (.Name "sorted" p) [.Call (.Name "set" p2) [a] [] q2] [] pos) (tUn (rSortSet X.K) ta) := by
  refine ⟨fun pins s σ H Q I h => ?_⟩
  refine Call_ (ld_blt I hg hm PyProof.Rows.boot_sorted ?_)
  refine PyProof.Rows.callWith_builtin1 (PyProof.Rows.args_cons ?_ rfl) rfl rfl
  refine Call_ (ld_blt I hg2 hm2 PyProof.Rows.boot_set ?_)
  refine PyProof.Rows.callWith_type1 (PyProof.Rows.args_cons (thn (ha.run pins s σ H _ I h) fun v s1 ⟨x, H1, I1, r1, q1⟩ => PyProof.Rows.args_nil ?_) na) na rfl
  rcases q1 with ⟨ns, hk, h4, h64, q1⟩ | ⟨ss, hk, h4, h64, q1⟩
  · refine set_at hc I1 r1 hk (by rw [List.length_map]; unfold scanBound; omega) fun h' tk c R hcl hkp => PyProof.Rows.args_nil ?_
    have I2 : Inv X pins σ H1 { s1 with heap := h', toks := tk } := I1.kept fun b o e => hkp b o e
    have hn := setM_lenI R
    refine sortedM_int R (I2.ok.hd hc) (by omega) fun s' p out c' ms k g o hp hg hI pw mem => ?_
    have em := pwI pw mem
    subst em
    exact laid_at I2 (vals_of_ints hI) (by rw [List.length_map, sizeLine_eq]; omega) k g o hp hg q1
  · refine set_at hc I1 r1 hk (by rw [List.length_map, List.length_map]; unfold scanBound; omega) fun h' tk c R hcl hkp => PyProof.Rows.args_nil ?_
    have I2 : Inv X pins σ H1 { s1 with heap := h', toks := tk } := I1.kept fun b o e => hkp b o e
    have hn := setM_lenS R
    refine sortedM_str R (I2.ok.hd hc) (by omega) fun s' p out c' ys k g o hp hg hI ps nd mem => ?_
    have em := pwS ps nd mem
    subst em
    refine laid_at I2 (vals_of_strs hI) (by rw [List.length_map, List.length_map, sizeLine_eq]; omega) k g o hp hg ?_
    rw [List.map_map]
    exact q1
theorem reps_ints {p : Par} {I : Hp} : ∀ ns : List Int, RepL p I (ns.map D.int) (ns.map V.int)
  | [] => rfl
  | n :: ns => ⟨_, _, rfl, rfl, reps_ints ns⟩
theorem reps_strs {p : Par} {I : Hp} : ∀ {ss : List (List Nat)}, (∀ s ∈ ss, ∀ c ∈ s, c < 0x110000) → RepL p I (ss.map D.str) (ss.map fun z => V.str (strK z))
  | [], _ => rfl
  | n :: ns, h => ⟨_, _, rfl, ⟨rfl, h n List.mem_cons_self⟩, reps_strs fun s hs => h s (List.mem_cons_of_mem _ hs)⟩
theorem dn_sortSet (hc : X.calm = true) (hm : X.mg "sorted" = none) (hm2 : X.mg "set" = none) (ha : DE X cl t W a fa) (hg : Gl X "sorted" := by rfl) (hg2 : Gl X "set" := by rfl)
    (na : starEach [a] X.env = (false, eval a X.env) :: starEach [] X.env := by rfl) : DNw X cl t W (.Call (.Name "sorted" p) [.Call (.Name "set" p2) [a] [] q2] [] pos) (nSortSet fa) := by
  obtain ⟨ta, pa, la⟩ := ha.ex
  refine DNw.mk (pe_sortSet hc hm hm2 pa hg hg2 na) (fun I G H σ ρ Q s q => ?_)
  refine la I G H σ ρ _ s ?_
  unfold nSortSet at q
  rw [outP_bind] at q
  refine q.imp (fun x q I1 H1 v s1 st1 r1 => ?_) fun _ z => z
  cases e1 : x.1.get x.2 with
  | bad => rw [e1] at q; exact q.elim
  | exc er => exact absurd e1 (get_exc _ _ _)
  | ok d =>
    rw [e1] at q
    simp only [Out.bind_ok] at q
    have hv := RR.get st1 r1 e1
    unfold sortSet at q
    cases e2 : setI d with
    | some ns =>
      simp only [e2] at q
      by_cases hl : ns.length ≤ 4000 ∧ (sortU ltI ns).length < 64
      · rw [if_pos hl] at q
        exact .inl ⟨ns, setI_keys st1.b.ih hv e2, hl.1, hl.2, ln_new s1 st1 (reps_ints _) q⟩
      · rw [if_neg hl] at q; exact q.elim
    | none =>
      simp only [e2] at q
      cases e3 : setS d with
      | some ss =>
        simp only [e3] at q
        by_cases hl : ss.length ≤ 4000 ∧ (sortU ltS ss).length < 64
        · rw [if_pos hl] at q
          have hv2 := setS_valid st1.b.ih hv e3
          exact .inr ⟨ss, setS_keys st1.b.ih hv e3, hl.1, hl.2, ln_new s1 st1 (reps_strs fun s hs => hv2 s ((mem_sortU totS).mp hs)) q⟩
        · rw [if_neg hl] at q; exact q.elim
      | none => simp only [e3] at q; exact q.elim
end
end Den

/-! Den11: methods that tell; dicts made, asked. -/
namespace Den
open PySem PySem.Spec PyProof.Rows L2
section
variable {X : Cx} {cl : Cls} {t : Addr} {W : WX} {e a b k v : Expr} {es vs : List Expr} {ks : List (Option Expr)} {fa fb fk fx : FE} {ff : FA} {pos apos cpos : Pos}

/-! ### methods that tell -/
theorem tyD_v {P : Par} {I H : Hp} (s : Same I H) {T : String} {d : D} {x : V} (h : Rdb P I H d x) (e : tyD T d = true) : tyV P.K T x H := by
  cases d with
  | str l => have := h.str.1; subst this; exact beq_iff_eq.mp e
  | lst ds => obtain ⟨a, vs, e1, q1, _⟩ := h.lst s; subst e1; exact .inl ⟨beq_iff_eq.mp e, vs, SqL.of q1⟩
  | _ => cases e
def LR (p : Par) (r : V → List V → Hp → VK → Prop) (g : D → List D → Out D) : Prop := ∀ (I H : Hp) (x : V) (d : D) (us : List V) (es : List D) (Q : VK), Same I H → Rdb p I H d x → RepL p I es us →
  OutP (g d es) (fun d' => ∀ I' H' v, Ext I H I' H' → Rep p I' d' v → Q v H') (fun _ => False) → r x us H Q
theorem le_tell {T : String} {r : V → List V → Hp → VK → Prop} {g : D → List D → Out D} {to : TE} {ta : TA} (ng : ∀ d ds e, g d ds ≠ .exc e) (lr : LR (pr X cl) r g) (lo : LE (pr X cl) t W to fa) (la : LA (pr X cl) t W ta ff) : LE (pr X cl) t W (tBM X.K T r to ta) (fTell (tyD T) g fa ff) := by
  intro I G H σ ρ Q s q
  refine lo I G H σ ρ _ s ?_
  unfold fTell at q
  rw [outP_bind] at q
  refine q.imp (fun x q I1 H1 v s1 st1 r1 => ?_) fun _ z => z
  cases e1 : x.1.get x.2 with
  | bad => rw [e1] at q; exact q.elim
  | exc er => exact absurd e1 (get_exc _ _ _)
  | ok d0 =>
    rw [e1] at q
    simp only [Out.bind_ok] at q
    by_cases ht : tyD T d0 = true
    · rw [if_pos ht] at q
      refine ⟨tyD_v st1.b.ih (RR.get st1 r1 e1) ht, la I1 G H1 σ x.2 _ st1 ?_⟩
      rw [outP_bind] at q
      refine q.imp (fun y q I2 H2 us s2 st2 r2 => ?_) fun _ z => z.mono s1
      cases e2 : x.1.get y.2 with
      | bad => rw [e2] at q; exact q.elim
      | exc er => exact absurd e2 (get_exc _ _ _)
      | ok d =>
        rw [e2] at q
        simp only [Out.bind_ok] at q
        refine lr I2 H2 v d us y.1 Q st2.b.ih (RR.get st2 (r1.mono s2) e2) r2 ?_
        cases e3 : g d y.1 with
        | bad => rw [e3] at q; exact q.elim
        | exc er => exact absurd e3 (ng _ _ _)
        | ok d' =>
          rw [e3] at q
          exact fun I3 H3 z x3 r3 => q I3 H3 z ((s1.trans s2).trans x3.ii) (st2.ext x3) r3
    · rw [if_neg ht] at q; exact q.elim
theorem de_tell {T : String} {id : String} {m : PySem.Str} {r : V → List V → Hp → VK → Prop} {g : D → List D → Out D} (ng : ∀ d ds e, g d ds ≠ .exc e) (pa : PlainAttrs T) (slot : Slot T m id) (hty : typeOf (.builtin id) = pure (.type "method_descriptor")) (hm : MtR X id r) (lr : LR (pr X cl) r g)
    (ho : DE X cl t W a fa) (ha : DA X cl t W (e :: es) ff)
    (hbase : attributeBase a m X.env (eval a X.env) = eval a X.env := by rfl)
    (hfew : ((backTo cpos (starEach (e :: es) X.env)).all (fun x => !x.1) && (backToKw cpos (keywordEach [] X.env)).all (fun x => x.1.isSome)
      && decide ((e :: es).length + ([] : List Keyword).length + (if ([] : List Keyword).isEmpty then 0 else 1) < 30)) = true := by rfl)
    (hline : (apos.endLine == cpos.line) = true := by rfl) (hs : starEach (e :: es) X.env = (false, eval e X.env) :: starEach es X.env := by rfl) (hplain : (backTo cpos (starEach es X.env)).any (·.1) = false := by rfl) :
    DE X cl t W (.Call (.Attribute a m apos) (e :: es) [] cpos) (fTell (tyD T) g fa ff) := by
  obtain ⟨ta, pa', la⟩ := ha.ex
  obtain ⟨to, po, lo⟩ := ho.ex
  exact DE.mk (pe_bm pa slot hty hm po pa' hbase hfew hline hs hplain) (le_tell ng lr lo la)
/-! join -/
theorem join_eq (sep : List Nat) : ∀ ss : List (List Nat), Txt.join (strK sep) (ss.map strK) = strK (joinL sep ss) := by
  have h : ∀ ss : List (List Nat), Str.join (strK sep) (ss.map strK) = strK (joinL sep ss) := fun ss => by
    induction ss with
    | nil => rfl
    | cons x ss ih =>
      cases ss with
      | nil => rfl
      | cons y ss =>
        show strK x ++ strK sep ++ Str.join (strK sep) ((y :: ss).map strK) = strK (x ++ (sep ++ joinL sep (y :: ss)))
        rw [ih]
        unfold strK
        rw [str_app, str_app, List.append_assoc]
  intro ss
  rw [← h ss]
  exact StrLaws.glued_eq_join _ _
theorem joinL_mem {sep : List Nat} : ∀ {ss : List (List Nat)} {c : Nat}, c ∈ joinL sep ss → c ∈ sep ∨ ∃ s ∈ ss, c ∈ s
  | [], _, h => by cases h
  | [s], _, h => .inr ⟨s, List.mem_cons_self, h⟩
  | s :: u :: ss, c, h => by
    rcases List.mem_append.mp h with h | h
    · exact .inr ⟨s, List.mem_cons_self, h⟩
    · rcases List.mem_append.mp h with h | h
      · exact .inl h
      · rcases joinL_mem h with h | ⟨z, h1, h2⟩
        · exact .inl h
        · exact .inr ⟨z, List.mem_cons_of_mem _ h1, h2⟩
theorem joinD_ne : ∀ sep ds e, joinD sep ds ≠ .exc e := by
  intro d ds e
  unfold joinD
  refine bindOfO_ne (fun _ _ => ?_) e
  split <;> simp
theorem gJoin_ne : ∀ d ds e, gJoin d ds ≠ .exc e := by
  intro d ds e
  unfold gJoin
  split
  · exact joinD_ne _ _ e
  · exact joinD_ne _ _ e
  · simp
theorem lr_join : LR (pr X cl) (fun x xs H Q => ∃ a p, ∃ ys : List PySem.Str, x = .str a ∧ xs = [.ref p] ∧ (SqL X.K H p (ys.map V.str) ∨ SqT X.K H p (ys.map V.str)) ∧
    (ys.map (·.length)).sum + ys.length * a.length ≤ 16777216 ∧ Q (.str (Txt.join a ys)) H) gJoin := by
  intro I H x d us es Q s hx r q
  have core : ∀ {sep : List Nat} {ds : List D} {zs : List V} {b : Addr}, Rdb (pr X cl) I H (.str sep) x → RepL (pr X cl) I ds zs → (SqL X.K H b zs ∨ SqT X.K H b zs) →
      OutP (joinD sep ds) (fun d' => ∀ I' H' v, Ext I H I' H' → Rep (pr X cl) I' d' v → Q v H') (fun _ => False) →
      ∃ a, ∃ ys : List PySem.Str, x = .str a ∧ (SqL X.K H b (ys.map V.str) ∨ SqT X.K H b (ys.map V.str)) ∧
        (ys.map (·.length)).sum + ys.length * a.length ≤ 16777216 ∧ Q (.str (Txt.join a ys)) H := by
    intro sep ds zs b hx r3 h3 q
    obtain ⟨ex, vx⟩ := hx.str
    unfold joinD at q
    cases h : allOf strOf ds with
    | none => rw [h] at q; exact q.elim
    | some ss =>
      rw [h] at q
      simp only [ofO, Out.bind_ok] at q
      by_cases hl : (ss.map List.length).sum + ss.length * sep.length ≤ LIM
      · rw [if_pos hl] at q
        have ez := allOf_map strOf_v r3 h
        refine ⟨strK sep, ss.map strK, ex, ?_, ?_, ?_⟩
        · rw [List.map_map, show (V.str ∘ strK) = (fun a : List Nat => V.str ⟨a.toArray⟩) from rfl, ← ez]
          exact h3
        · rw [List.map_map, List.length_map]
          have e1 : ((fun x : PySem.Str => x.length) ∘ strK) = List.length := by funext z; exact str_len z
          rw [e1, show (strK sep).length = sep.length from str_len sep]
          exact Nat.le_trans hl (by decide)
        · rw [join_eq]
          refine rep_here s q ⟨rfl, fun c hc => ?_⟩
          rcases joinL_mem hc with h1 | ⟨z, h1, h2⟩
          · exact vx c h1
          · exact strs_valid r3 h z h1 c h2
      · rw [if_neg hl] at q; exact q.elim
  unfold gJoin at q
  split at q
  · obtain ⟨v, vr, e, h, e2⟩ := r
    subst e; cases e2
    obtain ⟨b, zs, e3, h3, r3⟩ := h
    subst e3
    obtain ⟨a, ys, h1, h2, h4, h5⟩ := core hx r3 (.inl (SqL.of (s _ _ h3))) q
    exact ⟨a, b, ys, h1, rfl, h2, h4, h5⟩
  · obtain ⟨v, vr, e, h, e2⟩ := r
    subst e; cases e2
    obtain ⟨b, zs, e3, h3, r3, _⟩ := h
    subst e3
    obtain ⟨a, ys, h1, h2, h4, h5⟩ := core hx r3 (.inr (sqt_mono s h3)) q
    exact ⟨a, b, ys, h1, rfl, h2, h4, h5⟩
  · exact q.elim
theorem de_join (ho : DE X cl t W a fa) (ha : DA X cl t W [e] ff)
    (hbase : attributeBase a "join" X.env (eval a X.env) = eval a X.env := by rfl)
    (hfew : ((backTo cpos (starEach [e] X.env)).all (fun x => !x.1) && (backToKw cpos (keywordEach [] X.env)).all (fun x => x.1.isSome)
      && decide (([e] : List Expr).length + ([] : List Keyword).length + (if ([] : List Keyword).isEmpty then 0 else 1) < 30)) = true := by rfl)
    (hline : (apos.endLine == cpos.line) = true := by rfl) (hs : starEach [e] X.env = (false, eval e X.env) :: starEach [] X.env := by rfl) (hplain : (backTo cpos (starEach [] X.env)).any (·.1) = false := by rfl) :
    DE X cl t W (.Call (.Attribute a "join" apos) [e] [] cpos) (fTell (tyD "str") gJoin fa ff) :=
  de_tell gJoin_ne PySem.F.plainAttrs_str PySem.F.slot_str_join PySem.F.type_str_join mt_join lr_join ho ha hbase hfew hline hs hplain
/-! index, count of lists -/
theorem placeOf_spec {x : D} (hx : x.plain = true) : ∀ {ds : List D} {j : Nat}, D.plainL ds = true → placeOf x ds = some j → ∃ z, (D.pyL ds)[j]? = some z ∧ PyData.eqv z x.py = true ∧ ∀ (m : Nat) (z' : PyData), m < j → (D.pyL ds)[m]? = some z' → PyData.eqv z' x.py = false
  | [], _, _, h => by cases h
  | d :: ds, j, hp, h => by
    rw [D.plainL, Bool.and_eq_true] at hp
    unfold placeOf at h
    have e0 := eqv_py d x hp.1 hx
    by_cases hd : d.eqv x = true
    · rw [if_pos hd] at h
      cases h
      exact ⟨d.py, rfl, by rw [e0]; exact hd, fun m z' hm => absurd hm (Nat.not_lt_zero _)⟩
    · rw [if_neg hd] at h
      cases h1 : placeOf x ds with
      | none => rw [h1] at h; cases h
      | some i =>
        rw [h1] at h
        cases h
        obtain ⟨z, g1, g2, g3⟩ := placeOf_spec hx hp.2 h1
        refine ⟨z, g1, g2, fun m z' hm hz => ?_⟩
        cases m with
        | zero =>
          rw [D.pyL] at hz
          simp only [List.getElem?_cons_zero, Option.some.injEq] at hz
          subst hz
          rw [e0]
          simpa using hd
        | succ m => exact g3 m z' (Nat.lt_of_succ_lt_succ hm) (by rw [D.pyL] at hz; simpa using hz)
theorem gIndex_ne : ∀ d ds e, gIndex d ds ≠ .exc e := by
  intro d ds e
  unfold gIndex
  split
  · split
    · exact bindOfO_ne (fun _ _ => by simp) e
    · simp
  · simp
theorem lr_index : LR (pr X cl) (rIndexD X.K) gIndex := by
  intro I H x d us es Q s hx r q
  unfold gIndex at q
  split at q
  · rename_i ds y
    obtain ⟨v, vr, e, h, e2⟩ := r
    subst e; cases e2
    by_cases hc : y.plain = true ∧ D.plainL ds = true ∧ y.depth ≤ 60 ∧ D.depthL ds ≤ 60
    · rw [if_pos hc] at q
      obtain ⟨c1, c2, c3, c4⟩ := hc
      cases h1 : placeOf y ds with
      | none => rw [h1] at q; exact q.elim
      | some j =>
        rw [h1] at q
        obtain ⟨a, vs, e1, q1, _⟩ := hx.lst s
        obtain ⟨k1, l1⟩ := hx.lstDp s c2
        obtain ⟨k2, l2⟩ := (Rdb.of h).dp (p := pr X cl) s c1
        obtain ⟨z, g1, g2, g3⟩ := placeOf_spec c1 c2 h1
        subst e1
        have sh : ∀ d : PyData, d.canLay0 = true → d.depth ≤ 64 → SeqAt.shaped d = true := fun d a b => Bool.and_eq_true_iff.mpr ⟨a, decide_eq_true b⟩
        refine ⟨a, v, y.py, D.pyL ds, j, z, rfl, rfl, k1, k2, sh _ l1 ?_, sh _ l2 (by rw [depth_py]; omega), g1, g2, g3, rep_here s q rfl⟩
        have := depthL_py ds
        show PyData.depthAll (D.pyL ds) + 1 ≤ 64
        omega
    · rw [if_neg hc] at q; exact q.elim
  · exact q.elim
theorem de_index (hu : X.A.units + 65 < cLine) (ho : DE X cl t W a fa) (ha : DA X cl t W [e] ff)
    (hbase : attributeBase a "index" X.env (eval a X.env) = eval a X.env := by rfl)
    (hfew : ((backTo cpos (starEach [e] X.env)).all (fun x => !x.1) && (backToKw cpos (keywordEach [] X.env)).all (fun x => x.1.isSome)
      && decide (([e] : List Expr).length + ([] : List Keyword).length + (if ([] : List Keyword).isEmpty then 0 else 1) < 30)) = true := by rfl)
    (hline : (apos.endLine == cpos.line) = true := by rfl) (hs : starEach [e] X.env = (false, eval e X.env) :: starEach [] X.env := by rfl) (hplain : (backTo cpos (starEach [] X.env)).any (·.1) = false := by rfl) :
    DE X cl t W (.Call (.Attribute a "index" apos) [e] [] cpos) (fTell (tyD "list") gIndex fa ff) :=
  de_tell gIndex_ne PySem.F.plainAttrs_list PySem.F.slot_list_index PySem.F.type_list_index (mt_indexD hu) lr_index ho ha hbase hfew hline hs hplain
def rCountD (K : PySem.W.Frag) : V → List V → Hp → VK → Prop := fun x xs H Q => ∃ (a : Addr) (y : V) (d : PyData) (ds : List PyData), x = V.ref a ∧ xs = [y] ∧ Dp K H (V.ref a) (.list ds) ∧ Dp K H y d ∧ PyData.canLayAll0 ds = true ∧ d.canLay0 = true ∧ d.depth ≤ 60 ∧
  Q (.int (ds.countP fun z => PyData.eqv z d : Nat)) H
theorem mt_countD (hu : X.A.units + 65 < cLine) : MtR X "list.count" (rCountD X.K) := by
  intro pins s σ H x xs v us Q I rx rxs h
  obtain ⟨a, y, d, ds, rfl, rfl, hl, hy, sl, sd, hd, q⟩ := h
  cases rx
  cases rxs with
  | cons ry rt =>
    rename_i uy ut
    cases rt
    obtain ⟨bs, r1⟩ := Dp.reads I d y uy hy ry
    have hroom : X.A.units + 1 + min (PyData.depthAll ds) d.depth < cLine := by
      have := Nat.min_le_right (PyData.depthAll ds) d.depth
      omega
    cases hl with
    | lst hs ha =>
      obtain ⟨its, rv, ⟨⟨cls, dd, data, sls⟩, n, ho, hc, hdn, hdt⟩, hlen⟩ := I.list hs
      simp only at hc hdt
      subst hc hdt
      obtain ⟨as, h4⟩ := Dp.readsAll I ds _ its ha rv
      have hmap : its.map (SeqAt.readOf s.heap) = ds := SeqAt.readsAll_map ds its as sl h4
      refine call_meets PySem.F.slot_list_count ⟨_, ho, rfl⟩ PySem.F.entry_list_count (PySem.F.args_list_count_2 _ _)
        (SeqAt.list_countAt a its.toArray n dd sls uy (fun u => PyData.eqv (SeqAt.readOf s.heap u) d)) ⟨ho, SeqAt.items_eqAt (vs := its.toArray) (show ReadsAll s.heap its.toArray.toList ds as from h4) r1 sl sd hroom, ?_⟩
      refine ⟨.int (ds.countP fun z => PyData.eqv z d : Nat), H, I.tok _, ⟨s.toks, ?_⟩, q⟩
      rw [← hmap, List.countP_map]
      rfl
theorem countP_py {x : D} (hx : x.plain = true) : ∀ {ds : List D}, D.plainL ds = true → (D.pyL ds).countP (fun z => PyData.eqv z x.py) = ds.countP fun z => z.eqv x
  | [], _ => rfl
  | d :: ds, hp => by
    rw [D.plainL, Bool.and_eq_true] at hp
    rw [D.pyL, List.countP_cons, List.countP_cons, countP_py hx hp.2, eqv_py d x hp.1 hx]
theorem gCount_ne : ∀ d ds e, gCount d ds ≠ .exc e := by
  intro d ds e
  unfold gCount
  split
  · split <;> simp
  · simp
theorem lr_count : LR (pr X cl) (rCountD X.K) gCount := by
  intro I H x d us es Q s hx r q
  unfold gCount at q
  split at q
  · rename_i ds y
    obtain ⟨v, vr, e, h, e2⟩ := r
    subst e; cases e2
    by_cases hc : y.plain = true ∧ D.plainL ds = true ∧ y.depth ≤ 60
    · rw [if_pos hc] at q
      obtain ⟨a, vs, e1, q1, _⟩ := hx.lst s
      obtain ⟨k1, l1⟩ := hx.lstDp s hc.2.1
      obtain ⟨k2, l2⟩ := (Rdb.of h).dp (p := pr X cl) s hc.1
      subst e1
      exact ⟨a, v, y.py, D.pyL ds, rfl, rfl, k1, k2, l1, l2, by rw [depth_py]; exact hc.2.2, by rw [countP_py hc.1 hc.2.1]; exact rep_here s q rfl⟩
    · rw [if_neg hc] at q; exact q.elim
  · exact q.elim
theorem de_count (hu : X.A.units + 65 < cLine) (ho : DE X cl t W a fa) (ha : DA X cl t W [e] ff)
    (hbase : attributeBase a "count" X.env (eval a X.env) = eval a X.env := by rfl)
    (hfew : ((backTo cpos (starEach [e] X.env)).all (fun x => !x.1) && (backToKw cpos (keywordEach [] X.env)).all (fun x => x.1.isSome)
      && decide (([e] : List Expr).length + ([] : List Keyword).length + (if ([] : List Keyword).isEmpty then 0 else 1) < 30)) = true := by rfl)
    (hline : (apos.endLine == cpos.line) = true := by rfl) (hs : starEach [e] X.env = (false, eval e X.env) :: starEach [] X.env := by rfl) (hplain : (backTo cpos (starEach [] X.env)).any (·.1) = false := by rfl) :
    DE X cl t W (.Call (.Attribute a "count" apos) [e] [] cpos) (fTell (tyD "list") gCount fa ff) :=
  de_tell gCount_ne PySem.F.plainAttrs_list PySem.F.slot_list_count PySem.F.type_list_count (mt_countD hu) lr_count ho ha hbase hfew hline hs hplain

/-! ### dicts -/
theorem isKey_of {P : Par} {I H : Hp} {d : D} {v : V} (h : Rdb P I H d v) (e : isKey d = true) : ∃ k : Key, v = kV k ∧ ∀ d' v' k', isKey d' = true → Rep P I d' v' → v' = kV k' → (k' = k ↔ d' = d) := by
  cases d with
  | int i =>
    have := h.int
    subst this
    refine ⟨.inl i, rfl, fun d' v' k' e' r' hv => ?_⟩
    cases d' with
    | int j => cases r'; cases k' with
      | inl m => cases hv; constructor <;> (intro z; cases z; rfl)
      | inr m => cases hv
    | str l => obtain ⟨r', _⟩ := r'; subst r'; cases k' with
      | inl m => cases hv
      | inr m => constructor <;> (intro z; cases z)
    | _ => cases e'
  | str l =>
    obtain ⟨e1, v1⟩ := h.str
    subst e1
    refine ⟨.inr ⟨l.toArray⟩, rfl, fun d' v' k' e' r' hv => ?_⟩
    cases d' with
    | int j => cases r'; cases k' with
      | inl m => constructor <;> (intro z; cases z)
      | inr m => cases hv
    | str l' => obtain ⟨r', _⟩ := r'; subst r'; cases k' with
      | inl m => cases hv
      | inr m =>
        cases hv
        constructor
        · intro z
          injection z with z
          rw [strK_inj l' l z]
        · intro z; cases z; rfl
    | _ => cases e'
  | _ => cases e
/-- keys that tell apart -/
def allKeys (kvs : List (D × D)) : Bool := kvs.all fun p => isKey p.1
theorem lookS_v {P : Par} {I H : Hp} {k : D} {y : V} (hk : Rdb P I H k y) (ik : isKey k = true) : ∃ kk : Key, y = kV kk ∧ ∀ {kvs : List (D × D)} {ws : List (Key × V)}, allKeys kvs = true → RepP P I kvs ws →
    (match lookS kvs k with | some d => ∃ v, valV ws kk = some v ∧ Rep P I d v | none => valV ws kk = none) := by
  obtain ⟨kk, e, un⟩ := isKey_of hk ik
  refine ⟨kk, e, fun {kvs} => ?_⟩
  induction kvs with
  | nil => intro ws _ h; cases h; rfl
  | cons p kvs ih =>
    obtain ⟨k1, d1⟩ := p
    rintro ws ha ⟨k2, v2, wr, rfl, h1, h2, h3⟩
    rw [allKeys, List.all_cons, Bool.and_eq_true] at ha
    have u := un k1 _ k2 ha.1 h1 rfl
    by_cases hz : k1 = k
    · have e2 : lookS ((k1, d1) :: kvs) k = some d1 := by simp [lookS, hz]
      rw [e2]
      exact ⟨v2, valV_pos (u.mpr hz), h2⟩
    · have e2 : lookS ((k1, d1) :: kvs) k = lookS kvs k := by simp [lookS, hz]
      have e3 : valV ((k2, v2) :: wr) kk = valV wr kk := valV_neg fun z => hz (u.mp z)
      rw [e2, e3]
      exact ih ha.2 h3
theorem any_v {P : Par} {I : Hp} {k : D} {kk : Key} (un : ∀ d' v' k', isKey d' = true → Rep P I d' v' → v' = kV k' → (k' = kk ↔ d' = k)) : ∀ {kvs : List (D × D)} {ws : List (Key × V)}, allKeys kvs = true → RepP P I kvs ws →
    (kvs.any fun p => decide (p.1 = k)) = ws.any fun p => decide (p.1 = kk)
  | [], _, _, h => by cases h; rfl
  | (k1, d1) :: kvs, _, ha, ⟨k2, v2, wr, rfl, h1, h2, h3⟩ => by
    rw [allKeys, List.all_cons, Bool.and_eq_true] at ha
    have u := un k1 _ k2 ha.1 h1 rfl
    rw [List.any_cons, List.any_cons, any_v un ha.2 h3]
    congr 1
    exact decide_eq_decide.mpr u.symm
theorem map_v {P : Par} {I : Hp} {k d : D} {v : V} {kk : Key} (un : ∀ d' v' k', isKey d' = true → Rep P I d' v' → v' = kV k' → (k' = kk ↔ d' = k)) (r : Rep P I d v) : ∀ {kvs : List (D × D)} {ws : List (Key × V)}, allKeys kvs = true → RepP P I kvs ws →
    RepP P I (kvs.map fun p => if p.1 = k then (p.1, d) else p) (ws.map fun p => if p.1 = kk then (p.1, v) else p)
  | [], _, _, h => by cases h; rfl
  | (k1, d1) :: kvs, _, ha, ⟨k2, v2, wr, rfl, h1, h2, h3⟩ => by
    rw [allKeys, List.all_cons, Bool.and_eq_true] at ha
    have u := un k1 _ k2 ha.1 h1 rfl
    rw [List.map_cons, List.map_cons]
    by_cases hz : k1 = k
    · simp only [if_pos hz, if_pos (u.mpr hz)]
      exact ⟨k2, v, _, rfl, h1, r, map_v un r ha.2 h3⟩
    · simp only [if_neg hz, if_neg (fun z => hz (u.mp z))]
      exact ⟨k2, v2, _, rfl, h1, h2, map_v un r ha.2 h3⟩
theorem RepP.append {P : Par} {I : Hp} : ∀ {kvs kvs' : List (D × D)} {ws ws' : List (Key × V)}, RepP P I kvs ws → RepP P I kvs' ws' → RepP P I (kvs ++ kvs') (ws ++ ws')
  | [], _, _, _, h, t => by cases h; exact t
  | (_, _) :: _, _, _, _, ⟨k2, v2, wr, e, h1, h2, h3⟩, t => by subst e; exact ⟨k2, v2, _, rfl, h1, h2, RepP.append h3 t⟩
theorem RepP.length {P : Par} {I : Hp} : ∀ {kvs : List (D × D)} {ws : List (Key × V)}, RepP P I kvs ws → kvs.length = ws.length
  | [], _, h => by cases h; rfl
  | (_, _) :: _, _, ⟨_, _, _, e, _, _, h⟩ => by subst e; simp [RepP.length h]
theorem putS_v {P : Par} {I H : Hp} {k d : D} {y v : V} (hk : Rdb P I H k y) (ik : isKey k = true) (r : Rep P I d v) : ∃ kk : Key, y = kV kk ∧ ∀ {kvs : List (D × D)} {ws : List (Key × V)}, allKeys kvs = true → RepP P I kvs ws → RepP P I (putS kvs k d) (putK ws kk v) := by
  obtain ⟨kk, e, un⟩ := isKey_of hk ik
  refine ⟨kk, e, fun {kvs ws} ha h => ?_⟩
  unfold putS putK
  rw [any_v un ha h]
  split
  · exact map_v un r ha h
  · refine h.append ⟨kk, v, [], rfl, ?_, r, rfl⟩
    rw [← e]
    rcases hk with hk | ⟨a, e2, hk⟩
    · exact hk
    · cases k <;> first | exact hk.elim | cases ik
theorem putS_keys {kvs : List (D × D)} {k d : D} (h : allKeys kvs = true) (ik : isKey k = true) : allKeys (putS kvs k d) = true := by
  unfold putS
  split
  · unfold allKeys at *
    rw [List.all_map]
    rw [List.all_eq_true] at h ⊢
    intro p hp
    show isKey (if p.1 = k then (p.1, d) else p).1 = true
    split <;> exact h p hp
  · unfold allKeys at *
    rw [List.all_append, h]
    simp [ik]
def flatP : List (V × V) → List V
  | [] => []
  | (a, b) :: r => a :: b :: flatP r
structure DPs (X : Cx) (cl : Cls) (t : Addr) (W : WX) (pos : Pos) (keys : List (Option Expr)) (values : List Expr) (f : FA) : Prop where
  ex : ∃ trs, PPs X pos keys values trs ∧ ∀ (I G H : Hp) (σ : L2.St) (ρ : DS) (Q : List (V × V) → Hp → Prop), St (pr X cl) t I G H σ ρ →
    OutP (f ρ) (fun x => ∀ I' H' ps, Same I I' → St (pr X cl) t I' G H' σ x.2 → RepL (pr X cl) I' x.1 (flatP ps) → Q ps H') (PostX (pr X cl) W I G) → tPairs trs σ H Q
theorem dps_nil : DPs X cl t W pos [] [] aNil := ⟨⟨[], pps_nil, fun I G H σ ρ Q s q => q I H [] (Same.refl _) s rfl⟩⟩
theorem dps_cons (hk : DE X cl t W k fk) (hv : DE X cl t W v fx) (hr : DPs X cl t W pos ks vs ff) : DPs X cl t W pos (some k :: ks) (v :: vs) (aCons fk (aCons fx ff)) := by
  obtain ⟨tk, pk, lk⟩ := hk.ex
  obtain ⟨tv, pv, lv⟩ := hv.ex
  obtain ⟨trs, pr', lr⟩ := hr
  refine ⟨⟨_, pps_cons (PE.mv pk) (PE.mv pv) pr', fun I G H σ ρ Q s q => ?_⟩⟩
  unfold aCons at q
  rw [keep_bind, outP_bind] at q
  refine lk.keep s (q.imp (fun x q I1 H1 v s1 st1 r1 => ?_) fun _ z => z)
  rw [outP_bind, keep_bind, outP_bind] at q
  refine lv.keep st1 (q.imp (fun y q I2 H2 u s2 st2 r2 => ?_) fun _ z => z.mono s1)
  rw [outP_bind] at q
  refine lr I2 G H2 σ y.2 _ st2 (q.imp (fun z q I3 H3 ps s3 st3 r3 => ?_) fun _ z => (z.mono s1).mono s2)
  exact q I3 H3 ((v, u) :: ps) ((s1.trans s2).trans s3) st3 ⟨v, _, rfl, r1.mono (s2.trans s3), u, _, rfl, r2.mono s3, r3⟩
theorem pairUp_v {P : Par} {I : Hp} : ∀ {ds : List D} {ps : List (D × D)} {vs : List (V × V)}, pairUp ds = some ps → (ps.all fun p => isKey p.1) = true → RepL P I ds (flatP vs) →
    ∃ kvs : List (Key × V), vs = kvs.map (fun kv => (kV kv.1, kv.2)) ∧ kvs.length = ps.length ∧ ∀ {acc : List (D × D)} {ws : List (Key × V)}, allKeys acc = true → RepP P I acc ws → RepP P I (putAll acc ps) (mergeK ws kvs)
  | [], _, [], h, _, _ => by cases h; exact ⟨[], rfl, rfl, fun _ r => r⟩
  | [], _, _ :: _, _, _, r => by cases r
  | [_], _, _, h, _, _ => by cases h
  | _ :: _ :: _, _, [], _, _, ⟨_, _, e, _⟩ => by cases e
  | k :: d :: ds, ps, (x, y) :: vs, h, ha, ⟨v1, vr, e, r1, v2, vr2, e2, r2, r3⟩ => by
    cases e; cases e2
    unfold pairUp at h
    cases h1 : pairUp ds with
    | none => rw [h1] at h; cases h
    | some ps' =>
      rw [h1] at h
      cases h
      rw [List.all_cons, Bool.and_eq_true] at ha
      obtain ⟨kvs, e3, e4, q⟩ := pairUp_v h1 ha.2 r3
      obtain ⟨kk, e5, q2⟩ := putS_v (H := I) (Rdb.of r1) ha.1 r2
      refine ⟨(kk, y) :: kvs, by rw [e3, e5]; rfl, by simp [e4], fun {acc ws} h1 h2 => ?_⟩
      exact q (putS_keys h1 ha.1) (q2 h1 h2)
theorem pairUp_len : ∀ {ds : List D} {ps : List (D × D)}, pairUp ds = some ps → ds.length = 2 * ps.length
  | [], _, h => by cases h; rfl
  | [_], _, h => by cases h
  | k :: d :: ds, ps, h => by
    unfold pairUp at h
    cases h1 : pairUp ds with
    | none => rw [h1] at h; cases h
    | some ps' => rw [h1] at h; cases h; simp [pairUp_len h1]; omega
/-- {k: v, ..} -/
theorem dn_dict (h : DPs X cl t W pos ks vs ff) (hall : ks.all (·.isSome) = true := by rfl) (hl : ks.length = vs.length := by rfl) (h0 : ks ≠ [] := by decide) (h15 : ks.length ≤ 15 := by decide) : DNw X cl t W (.Dict ks vs pos) (nDict ff) := by
  obtain ⟨trs, pp, lp⟩ := h
  refine DNw.mk (pe_disp pp hall hl h0 h15) (fun I G H σ ρ Q s q a ha => ?_)
  have hI := s.b.ih.free ha
  have hG := s.b.gh.free ha
  have s0 := (s.ext (Ext.newH s.b.ih (.dK []) ha)).addG (o := .dK []) (a := a) upd_same hI hG (fresh_not s ha)
  refine lp I (upd G a (.dK [])) _ σ ρ _ s0 ?_
  unfold nDict at q
  rw [outP_bind] at q
  refine q.imp (fun x q I1 H1 ps s1 st1 r1 => ?_) fun _ z => fun I' H' σ' z1 z2 => z I' H' σ' z1 ⟨z2.ih, fun c u e => z2.gh c u (by rw [upd_ne (ne_of_none e hG)]; exact e), fun c hc => ?_⟩
  rotate_left
  · have z3 := z2.ig c hc
    by_cases hca : c = a
    · subst hca; rw [upd_same] at z3; cases z3
    · rw [upd_ne hca] at z3; exact z3
  cases e1 : pairUp x.1 with
  | none => simp only [e1] at q; exact q.elim
  | some pd =>
    simp only [e1] at q
    by_cases hc : (pd.all fun p => isKey p.1) = true ∧ pd.length ≤ 15
    · rw [if_pos hc] at q
      obtain ⟨kvs, e2, e3, q2⟩ := pairUp_v e1 hc.1 r1
      have ha1 : H1 a = some (.dK []) := st1.b.gh a _ upd_same
      refine ⟨ha1, kvs, e2, by rw [e3]; exact hc.2, ?_⟩
      have hi1 : I1 a = none := by
        cases z : I1 a with
        | none => rfl
        | some u => have z2 := st1.b.ig a (by rw [z]; simp); rw [upd_same] at z2; cases z2
      have st2 := (st1.chG (o' := .dK (mergeK [] kvs))).subG (G' := G) fun c u e => by rw [upd_ne (ne_of_none e hG)]; exact e
      refine q I1 _ a s1 st2 hi1 hG ⟨_, upd_same, q2 rfl rfl⟩ fun i sv hi oi hσ => ?_
      obtain ⟨u, z1, z2⟩ := st1.sl i sv hi
      rw [z1] at hσ; cases hσ
      cases sv with
      | fz d => cases oi
      | ow d => obtain ⟨b, e, _, z3, _⟩ := z2; cases e; rw [upd_same] at z3; cases z3
      | io d => obtain ⟨e, _, z3, _⟩ := z2; cases e; rw [upd_same] at z3; cases z3
    · rw [if_neg hc] at q; exact q.elim
theorem Rdb.dct {P : Par} {I H : Hp} (s : Same I H) {kvs : List (D × D)} {x : V} (h : Rdb P I H (.dct kvs) x) : ∃ a ws, x = .ref a ∧ L2.Rd H a (.dK ws) ∧ RepP P I kvs ws := by
  rcases h with ⟨a, o, ws, e, q, r⟩ | ⟨a, e, ws, q, r⟩
  · exact ⟨a, ws, e, .inr ⟨o, s _ _ q⟩, r⟩
  · exact ⟨a, ws, e, .inl q, r⟩
theorem getS_ne : ∀ d k e, getS d k ≠ .exc e := by
  intro d k e
  unfold getS
  split <;> (try split) <;> simp
def GotO (P : Par) (I : Hp) : Option D → Option V → Prop
  | some d, o' => ∃ v, o' = some v ∧ Rep P I d v
  | none, o' => o' = none
theorem getS_v {P : Par} {I H : Hp} (s : Same I H) {d k : D} {x y : V} {o : Option D} (hx : Rdb P I H d x) (hy : Rdb P I H k y) (e : getS d k = .ok o) : ∃ a o', x = .ref a ∧ DGet H a y o' ∧ GotO P I o o' := by
  cases d with
  | dct kvs =>
    have e' : (if isKey k = true ∧ allKeys kvs = true then Out.ok (lookS kvs k) else (Out.bad : Out (Option D))) = .ok o := e
    by_cases hk : isKey k = true ∧ allKeys kvs = true
    · rw [if_pos hk] at e'
      cases e'
      obtain ⟨a, ws, e1, q1, r1⟩ := hx.dct s
      obtain ⟨kk, e2, q2⟩ := lookS_v hy hk.1
      have q3 := q2 hk.2 r1
      refine ⟨a, valV ws kk, e1, .inl ⟨ws, kk, q1, e2, rfl⟩, ?_⟩
      cases z : lookS kvs k <;> (rw [z] at q3; exact q3)
    · rw [if_neg hk] at e'; cases e'
  | _ => cases e
theorem getN_ne : ∀ d k e, getN d k ≠ .exc e := by
  intro d k e
  unfold getN
  split
  · cases h : getS d (.int 0) with
    | bad => simp
    | exc er => exact absurd h (getS_ne _ _ _)
    | ok o => simp
  · exact getS_ne _ _ _
/-- .. where y may be None -/
def DGetN (H : Hp) (a : Addr) (y : V) (r : Option V) : Prop := DGet H a y r ∨ ∃ kvs, y = .non ∧ L2.Rd H a (.dK kvs) ∧ r = none
theorem getN_v {P : Par} {I H : Hp} (s : Same I H) {d k : D} {x y : V} {o : Option D} (hx : Rdb P I H d x) (hy : Rdb P I H k y) (e : getN d k = .ok o) : ∃ a o', x = .ref a ∧ DGetN H a y o' ∧ GotO P I o o' := by
  unfold getN at e
  split at e
  · cases d with
    | dct kvs =>
      cases h : getS (.dct kvs) (.int 0) with
      | bad => rw [h] at e; cases e
      | exc er => rw [h] at e; cases e
      | ok o1 =>
        rw [h] at e
        cases e
        obtain ⟨a, ws, e1, q1, r1⟩ := hx.dct s
        exact ⟨a, none, e1, .inr ⟨ws, hy.non, q1, rfl⟩, rfl⟩
    | _ => cases e
  · obtain ⟨a, o', h1, h2, h3⟩ := getS_v s hx hy e
    exact ⟨a, o', h1, .inl h2, h3⟩
theorem d_get1N {pins : List (Addr × Obj)} {σ : L2.St} {H : Hp} {s : Shared} {a : Addr} {y : V} {u : Value} {o : Option V} {A : Around} {E : Value → Shared → Prop} {Q : Value → Shared → Prop} (hu : A.units + 1 < cLine) (I : Inv X pins σ H s) (g : DGetN H a y o) (ry : RelV y u) (h : ∀ w' s', Inv X pins σ H s' → RelV (o.getD .non) w' → Q w' s') :
    wpAny (model X.prog X.w) A (call (.builtin "dict.get") [.ref a, u]) Q E s := by
  rcases g with g | ⟨kvs, ey, e, eo⟩
  · exact d_get1 hu I g ry h
  · subst ey eo
    cases (show u = Value.none from ry)
    obtain ⟨z, hd, vs, rel, dd⟩ := dk_rd I.hok e
    obtain ⟨f, hm, hf⟩ := none_map dd
    refine call_meetsIn PySem.F.slot_dict_get dd.typeIs PySem.F.entry_dict_get (PySem.F.args_dict_get_2 _ _) (meets_dict_get (noneKind X.prog X.w) a (k := none) (show (noneKind X.prog X.w).is none .none = true from rfl) hd) ⟨f, hm, h _ _ (I.tok _) ?_⟩
    rw [hf] <;> rfl
theorem d_get2N {pins : List (Addr × Obj)} {σ : L2.St} {H : Hp} {s : Shared} {a : Addr} {y d : V} {u r : Value} {o : Option V} {A : Around} {E : Value → Shared → Prop} {Q : Value → Shared → Prop} (hu : A.units + 1 < cLine) (I : Inv X pins σ H s) (g : DGetN H a y o) (ry : RelV y u) (rd : RelV d r) (h : ∀ w' s', Inv X pins σ H s' → RelV (o.getD d) w' → Q w' s') :
    wpAny (model X.prog X.w) A (call (.builtin "dict.get") [.ref a, u, r]) Q E s := by
  rcases g with g | ⟨kvs, ey, e, eo⟩
  · exact d_get2 hu I g ry rd h
  · subst ey eo
    cases (show u = Value.none from ry)
    obtain ⟨z, hd, vs, rel, dd⟩ := dk_rd I.hok e
    obtain ⟨f, hm, hf⟩ := none_map dd
    refine call_meetsIn PySem.F.slot_dict_get dd.typeIs PySem.F.entry_dict_get (PySem.F.args_dict_get_3 _ _ _) (meets_dict_get_default (noneKind X.prog X.w) a (k := none) (show (noneKind X.prog X.w).is none .none = true from rfl) hd r) ⟨f, hm, h _ _ (I.tok _) ?_⟩
    rw [hf]; exact rd
def tDGet1N (td ty : TE) : TE := fun σ H Q => td σ H fun x H1 => ∃ a, x = .ref a ∧ IsD H1 a ∧ ty σ H1 fun y H2 => ∃ o, DGetN H2 a y o ∧ Q (o.getD .non) H2
def tDGet2N (td ty tx : TE) : TE := fun σ H Q => td σ H fun x H1 => ∃ a, x = .ref a ∧ IsD H1 a ∧ ty σ H1 fun y H2 => tx σ H2 fun z H3 => ∃ o, DGetN H3 a y o ∧ Q (o.getD z) H3
theorem pe_dget1N {o e : Expr} {td ty : TE} (hu : X.A.units + 1 < cLine) (ho : PE X o td) (he : PE X e ty) (m : M1 X o "get" apos e cpos) : PE X (.Call (.Attribute o "get" apos) [e] [] cpos) (tDGet1N td ty) := by
  refine ⟨fun pins s σ H Q I h => ?_⟩
  refine wpAny_Call_method m.base m.few m.line PySem.F.plainAttrs_dict PySem.F.slot_dict_get PySem.F.type_dict_get (thn (ho.run pins s σ H _ I h) fun u s1 ⟨x, H1, I1, rx, a, ex, d, q1⟩ => ?_)
  subst ex
  obtain rfl : u = Value.ref a := rx
  obtain ⟨t1, t2, _⟩ := isD_at I1 d
  refine ⟨t1, t2, ?_⟩
  rw [m.trees]
  refine Calls.callWith_builtin rfl (Calls.evalArgs_plain (Calls.spliced_cons (thn (he.run pins s1 σ H1 _ I1 q1) fun iv s2 ⟨y, H2, I2, ry, ov, g, q2⟩ => Calls.spliced_nil ?_)))
  exact d_get1N hu I2 g ry fun w' s4 I4 rw' => ⟨_, H2, I4, rw', q2⟩
theorem pe_dget2N {o e f : Expr} {td ty tx : TE} (hu : X.A.units + 1 < cLine) (ho : PE X o td) (he : PE X e ty) (hf : PE X f tx) (m : M2 X o "get" apos e f cpos) : PE X (.Call (.Attribute o "get" apos) [e, f] [] cpos) (tDGet2N td ty tx) := by
  refine ⟨fun pins s σ H Q I h => ?_⟩
  refine wpAny_Call_method m.base m.few m.line PySem.F.plainAttrs_dict PySem.F.slot_dict_get PySem.F.type_dict_get (thn (ho.run pins s σ H _ I h) fun u s1 ⟨x, H1, I1, rx, a, ex, d, q1⟩ => ?_)
  subst ex
  obtain rfl : u = Value.ref a := rx
  obtain ⟨t1, t2, _⟩ := isD_at I1 d
  refine ⟨t1, t2, ?_⟩
  rw [m.trees]
  refine Calls.callWith_builtin rfl (Calls.evalArgs_plain (Calls.spliced_cons (thn (he.run pins s1 σ H1 _ I1 q1) fun iv s2 ⟨y, H2, I2, ry, q2⟩ =>
    Calls.spliced_cons (thn (hf.run pins s2 σ H2 _ I2 q2) fun fv s3 ⟨z, H3, I3, rz, ov, g, q3⟩ => Calls.spliced_nil ?_))))
  exact d_get2N hu I3 g ry rz fun w' s4 I4 rw' => ⟨_, H3, I4, rw', q3⟩
/-- a.get(k, x) -/
theorem de_get2 {xe : Expr} (hu : X.A.units + 1 < cLine) (ha : DE X cl t W a fa) (hk : DE X cl t W k fk) (hx : DE X cl t W xe fx) (m : M2 X a "get" apos k xe cpos := by exact ⟨by rfl, by rfl, by rfl, by rfl⟩) : DE X cl t W (.Call (.Attribute a "get" apos) [k, xe] [] cpos) (fGet2 fa fk fx) := by
  obtain ⟨ta, pa, la⟩ := ha.ex
  obtain ⟨tk, pk, lk⟩ := hk.ex
  obtain ⟨tx, px, lx⟩ := hx.ex
  refine DE.mk (pe_dget2N hu pa pk (PE.mv px) m) fun I G H σ ρ Q s q => ?_
  unfold fGet2 at q
  rw [outP_bind] at q
  refine la I G H σ ρ _ s (q.imp (fun u q I1 H1 v1 s1 st1 r1 => ?_) fun _ z => z)
  cases e1 : u.1.get u.2 with
  | bad => rw [e1] at q; exact q.elim
  | exc er => exact absurd e1 (get_exc _ _ _)
  | ok d0 =>
    rw [e1] at q
    simp only [Out.bind_ok] at q
    cases e0 : getS d0 (.int 0) with
    | bad => rw [e0] at q; exact q.elim
    | exc er => exact absurd e0 (getS_ne _ _ _)
    | ok o0 =>
      rw [e0] at q
      simp only [Out.bind_ok] at q
      obtain ⟨a1, o1, ea, g1, _⟩ := getS_v st1.b.ih (RR.get st1 r1 e1) (Rdb.of (d := .int 0) (v := .int 0) rfl) e0
      subst ea
      have hD : IsD H1 a1 := by
        rcases g1 with ⟨kvs, k, g, _⟩ | ⟨kvs, k, b, g, _⟩
        · exact .inl ⟨kvs, g⟩
        · exact .inr ⟨kvs, g⟩
      refine ⟨a1, rfl, hD, ?_⟩
      rw [outP_bind] at q
      refine lk I1 G H1 σ u.2 _ st1 (q.imp (fun w q I2 H2 v2 s2 st2 r2 => ?_) fun _ z => z.mono s1)
      rw [keep_bind, outP_bind] at q
      refine lx.keep st2 (q.imp (fun z q I3 H3 v3 s3 st3 r3 => ?_) fun _ z => (z.mono s1).mono s2)
      cases e2 : u.1.get z.2 with
      | bad => rw [e2] at q; exact q.elim
      | exc er => exact absurd e2 (get_exc _ _ _)
      | ok d =>
        rw [e2] at q
        simp only [Out.bind_ok] at q
        cases e3 : w.1.get z.2 with
        | bad => rw [e3] at q; exact q.elim
        | exc er => exact absurd e3 (get_exc _ _ _)
        | ok y =>
          rw [e3] at q
          simp only [Out.bind_ok] at q
          cases e4 : getN d y with
          | bad => rw [e4] at q; exact q.elim
          | exc er => exact absurd e4 (getN_ne _ _ _)
          | ok o =>
            rw [e4] at q
            obtain ⟨a2, o2, ea, g2, g3⟩ := getN_v st3.b.ih (RR.get st3 (r1.mono (s2.trans s3)) e2) (RR.get st3 (r2.mono s3) e3) e4
            cases ea
            refine ⟨o2, g2, q I3 H3 _ ((s1.trans s2).trans s3) st3 ?_⟩
            cases o with
            | some d => obtain ⟨v, e5, r5⟩ := g3; subst e5; exact r5
            | none => subst g3; exact r3
/-- a.get(k) -/
theorem de_get1 (hu : X.A.units + 1 < cLine) (ha : DE X cl t W a fa) (hk : DE X cl t W k fk) (m : M1 X a "get" apos k cpos := by exact ⟨by rfl, by rfl, by rfl, by rfl⟩) : DE X cl t W (.Call (.Attribute a "get" apos) [k] [] cpos) (fGet1 fa fk) := by
  obtain ⟨ta, pa, la⟩ := ha.ex
  obtain ⟨tk, pk, lk⟩ := hk.ex
  refine DE.mk (pe_dget1N hu pa pk m) fun I G H σ ρ Q s q => ?_
  unfold fGet1 at q
  rw [outP_bind] at q
  refine la I G H σ ρ _ s (q.imp (fun u q I1 H1 v1 s1 st1 r1 => ?_) fun _ z => z)
  cases e1 : u.1.get u.2 with
  | bad => rw [e1] at q; exact q.elim
  | exc er => exact absurd e1 (get_exc _ _ _)
  | ok d0 =>
    rw [e1] at q
    simp only [Out.bind_ok] at q
    cases e0 : getS d0 (.int 0) with
    | bad => rw [e0] at q; exact q.elim
    | exc er => exact absurd e0 (getS_ne _ _ _)
    | ok o0 =>
      rw [e0] at q
      simp only [Out.bind_ok] at q
      obtain ⟨a1, o1, ea, g1, _⟩ := getS_v st1.b.ih (RR.get st1 r1 e1) (Rdb.of (d := .int 0) (v := .int 0) rfl) e0
      subst ea
      have hD : IsD H1 a1 := by
        rcases g1 with ⟨kvs, k, g, _⟩ | ⟨kvs, k, b, g, _⟩
        · exact .inl ⟨kvs, g⟩
        · exact .inr ⟨kvs, g⟩
      refine ⟨a1, rfl, hD, ?_⟩
      rw [outP_bind] at q
      refine lk I1 G H1 σ u.2 _ st1 (q.imp (fun w q I2 H2 v2 s2 st2 r2 => ?_) fun _ z => z.mono s1)
      cases e2 : u.1.get w.2 with
      | bad => rw [e2] at q; exact q.elim
      | exc er => exact absurd e2 (get_exc _ _ _)
      | ok d =>
        rw [e2] at q
        simp only [Out.bind_ok] at q
        cases e3 : w.1.get w.2 with
        | bad => rw [e3] at q; exact q.elim
        | exc er => exact absurd e3 (get_exc _ _ _)
        | ok y =>
          rw [e3] at q
          simp only [Out.bind_ok] at q
          cases e4 : getN d y with
          | bad => rw [e4] at q; exact q.elim
          | exc er => exact absurd e4 (getN_ne _ _ _)
          | ok o =>
            rw [e4] at q
            obtain ⟨a2, o2, ea, g2, g3⟩ := getN_v st2.b.ih (RR.get st2 (r1.mono s2) e2) (RR.get st2 r2 e3) e4
            cases ea
            refine ⟨o2, g2, q I2 H2 _ (s1.trans s2) st2 ?_⟩
            cases o with
            | some d => obtain ⟨v, e5, r5⟩ := g3; subst e5; exact r5
            | none => subst g3; rfl
end
end Den

/-! Den12: two and three names at once. -/
namespace Den
open PySem PySem.Spec PyProof.Rows L2
/-- no slot owns what stands at a -/
def Apart (σ : L2.St) (ρ : DS) (a : Addr) : Prop := ∀ (i : Nat) (sv : SV), ρ[i]? = some (some sv) → SV.own sv = true → σ[i]? ≠ some (some (V.ref a))
def NotIn : Addr → List SV → List V → Prop
  | a, sv :: svs, v :: vs => (sv.own = true → v ≠ .ref a) ∧ NotIn a svs vs
  | _, _, _ => True
def SvL (p : Par) (I G H : Hp) (σ : L2.St) (ρ : DS) : List SV → List V → Prop
  | [], vs => vs = []
  | .fz d :: svs, vs => ∃ v vr, vs = v :: vr ∧ Rep p I d v ∧ SvL p I G H σ ρ svs vr
  | .ow d :: svs, vs => ∃ a vr, vs = .ref a :: vr ∧ I a = none ∧ G a = none ∧ OwnAt p I H a d ∧ Apart σ ρ a ∧ NotIn a svs vr ∧ SvL p I G H σ ρ svs vr
  | .io _ :: _, _ => False
def setAllV : List Nat → List V → L2.St → L2.St
  | i :: is, v :: vs, σ => setAllV is vs (σ.set i (some v))
  | _, _, σ => σ
section
variable {p : Par} {t : Addr} {I G H : Hp} {σ : L2.St} {ρ : DS}
theorem SvL.len : ∀ {svs : List SV} {vs : List V}, SvL p I G H σ ρ svs vs → vs.length = svs.length
  | [], _, h => by cases h; rfl
  | .fz d :: svs, _, ⟨v, vr, e, _, h⟩ => by subst e; simp [SvL.len h]
  | .ow d :: svs, _, ⟨a, vr, e, _, _, _, _, _, h⟩ => by subst e; simp [SvL.len h]
theorem Apart.set {a : Addr} {i : Nat} {sv : SV} {v : V} (h : Apart σ ρ a) (n : sv.own = true → v ≠ .ref a) : Apart (σ.set i (some v)) (ρ.set i (some sv)) a := fun j s2 h1 h2 h3 => by
  rw [List.getElem?_set] at h1 h3
  by_cases hj : i = j
  · subst hj
    rw [if_pos rfl] at h1 h3
    split at h1
    · cases h1
      split at h3
      · cases h3; exact n h2 rfl
      · cases h3
    · cases h1
  · rw [if_neg hj] at h1 h3
    exact h j s2 h1 h2 h3
theorem SvL.set {i : Nat} {sv : SV} {v : V} : ∀ {svs : List SV} {vs : List V}, SvL p I G H σ ρ svs vs → (∀ a, sv.own = true → v = .ref a → NotIn a svs vs) → SvL p I G H (σ.set i (some v)) (ρ.set i (some sv)) svs vs
  | [], _, h, _ => h
  | .fz d :: svs, _, ⟨u, vr, e, r, h⟩, n => ⟨u, vr, e, r, SvL.set h fun a o e' => by have z := n a o e'; subst e; exact z.2⟩
  | .ow d :: svs, _, ⟨a, vr, e, h1, h2, h3, h4, h5, h⟩, n => by
    subst e
    refine ⟨a, vr, rfl, h1, h2, h3, h4.set fun o e' => ?_, h5, SvL.set h fun a' o e' => (n a' o e').2⟩
    exact (n a o e').1 rfl rfl
theorem St.setAll : ∀ {is : List Nat} {svs : List SV} {vs : List V} {σ : L2.St} {ρ : DS}, St p t I G H σ ρ → SvL p I G H σ ρ svs vs → St p t I G H (setAllV is vs σ) (Den.setAll is svs ρ)
  | [], [], _, σ, ρ, s, h => by cases h; exact s
  | [], _ :: _, vs, σ, ρ, s, h => by cases vs <;> exact s
  | _ :: _, [], _, σ, ρ, s, h => by cases h; exact s
  | i :: is, .fz d :: svs, _, σ, ρ, s, ⟨v, vr, e, r, h⟩ => by
    subst e
    exact St.setAll (is := is) (s.setFz r) (h.set fun a o => by cases o)
  | i :: is, .ow d :: svs, _, σ, ρ, s, ⟨a, vr, e, h1, h2, h3, h4, h5, h⟩ => by
    subst e
    exact St.setAll (is := is) (s.setOw h1 h2 h3 h4) (h.set fun a' o e' => by cases e'; exact h5)
end
section
variable {X : Cx} {cl : Cls} {t : Addr} {W : WX} {e a b c : Expr} {es : List Expr} {fa : FE} {fn : FN} {fv : FV}
def LV (p : Par) (t : Addr) (W : WX) (ta : TA) (f : FV) : Prop := ∀ (I G H : Hp) (σ : L2.St) (ρ : DS) (Q : List V → Hp → Prop), St p t I G H σ ρ →
  OutP (f ρ) (fun x => ∀ I' H' vs, Same I I' → St p t I' G H' σ x.2 → SvL p I' G H' σ x.2 x.1 vs → Q vs H') (PostX p W I G) → ta σ H Q
structure DV (X : Cx) (cl : Cls) (t : Addr) (W : WX) (es : List Expr) (f : FV) : Prop where
  ex : ∃ ta, PA X es ta ∧ LV (pr X cl) t W ta f
theorem dv_nil : DV X cl t W [] vNil := ⟨⟨_, pa_nil, fun I G H σ ρ Q s q => q I H [] (Same.refl _) s rfl⟩⟩
theorem dv_keep (ha : DE X cl t W e fa) (hr : DV X cl t W es fv) (hs : starEach (e :: es) X.env = (false, eval e X.env) :: starEach es X.env := by rfl) : DV X cl t W (e :: es) (vKeep fa fv) := by
  obtain ⟨ta, pa, la⟩ := ha.ex
  obtain ⟨tr, pr', lr⟩ := hr.ex
  refine ⟨⟨_, pa_cons (PE.mv pa) pr' hs, fun I G H σ ρ Q s q => ?_⟩⟩
  unfold vKeep at q
  rw [outP_bind] at q
  refine la.keep s (q.imp (fun x q I1 H1 v s1 st1 r1 => ?_) fun _ z => z)
  refine lr I1 G H1 σ x.2 _ st1 ?_
  rw [outP_bind] at q
  refine q.imp (fun y q I2 H2 vs s2 st2 r2 => ?_) fun _ z => z.mono s1
  exact q I2 H2 (v :: vs) (s1.trans s2) st2 ⟨v, vs, rfl, r1.mono s2, r2⟩
theorem OwnAt.obj {p : Par} {I H : Hp} {a : Addr} {d : D} (o : OwnAt p I H a d) : ∃ u, H a = some u ∧ ∀ {I' H' : Hp}, Same I I' → H' a = some u → OwnAt p I' H' a d := by
  have h := o.there
  cases e : H a with
  | none => exact absurd e h
  | some u => exact ⟨u, rfl, fun s e' => o.mono s fun o' z => by rw [e] at z; cases z; exact e'⟩
theorem dv_new (ha : DNw X cl t W e fn) (hr : DV X cl t W es fv) (hs : starEach (e :: es) X.env = (false, eval e X.env) :: starEach es X.env := by rfl) : DV X cl t W (e :: es) (vNew fn fv) := by
  obtain ⟨ta, pa, la⟩ := ha.ex
  obtain ⟨tr, pr', lr⟩ := hr.ex
  refine ⟨⟨_, pa_cons pa pr' hs, fun I G H σ ρ Q s q => ?_⟩⟩
  unfold vNew at q
  rw [outP_bind] at q
  refine la I G H σ ρ _ s (q.imp (fun x q I1 H1 a s1 st1 i1 g1 o1 n1 => ?_) fun _ z => z)
  obtain ⟨u, hu, ou⟩ := o1.obj
  have st1' := st1.addG hu i1 g1 n1
  refine lr I1 (upd G a u) H1 σ x.2 _ st1' ?_
  rw [outP_bind] at q
  refine q.imp (fun y q I2 H2 vs s2 st2 r2 => ?_) fun _ z => fun I' H' σ' z1 z2 => z.mono s1 I' H' σ' z1 ⟨z2.ih, fun c o e => z2.gh c o (by rw [upd_ne (ne_of_none e g1)]; exact e), fun c hc => ?_⟩
  rotate_left
  · have z3 := z2.ig c hc
    by_cases hca : c = a
    · subst hca; rw [upd_same] at z3; cases z3
    · rw [upd_ne hca] at z3; exact z3
  have sg : Same G (upd G a u) := fun c o e => by rw [upd_ne (ne_of_none e g1)]; exact e
  have hi2 : I2 a = none := by
    cases z : I2 a with
    | none => rfl
    | some o => have z2 := st2.b.ig a (by rw [z]; simp); rw [upd_same] at z2; cases z2
  have ga : ∀ b, (upd G a u) b = none → b ≠ a := fun b h z => by subst z; rw [upd_same] at h; cases h
  have ap : Apart σ y.2 a := fun i sv h1 h2 h3 => by
    obtain ⟨w, z1, z2⟩ := st2.sl i sv h1
    rw [h3] at z1; cases z1
    cases sv with
    | fz d => cases h2
    | ow d => obtain ⟨b, e, _, z3, _⟩ := z2; cases e; exact ga _ z3 rfl
    | io d => obtain ⟨e, _, z3, _⟩ := z2; cases e; exact ga _ z3 rfl
  have low : ∀ {svs : List SV} {vs : List V}, SvL (pr X cl) I2 (upd G a u) H2 σ y.2 svs vs → SvL (pr X cl) I2 G H2 σ y.2 svs vs ∧ NotIn a svs vs := fun {svs} => by
    induction svs with
    | nil => intro vs h; cases h; exact ⟨rfl, True.intro⟩
    | cons sv svs ih =>
      intro vs h
      cases sv with
      | fz d =>
        obtain ⟨v, vr, e, r, h⟩ := h
        subst e
        exact ⟨⟨v, vr, rfl, r, (ih h).1⟩, ⟨fun o => (nomatch o), (ih h).2⟩⟩
      | ow d =>
        obtain ⟨b, vr, e, h1, h2, h3, h4, h5, h⟩ := h
        subst e
        exact ⟨⟨b, vr, rfl, h1, sg.free h2, h3, h4, h5, (ih h).1⟩, ⟨fun _ e => (by cases e; exact ga _ h2 rfl), (ih h).2⟩⟩
      | io d => exact h.elim
  obtain ⟨l1, l2⟩ := low r2
  exact q I2 H2 (.ref a :: vs) (s1.trans s2) (st2.subG sg) ⟨a, vs, rfl, hi2, g1, ou s2 (st2.b.gh a u upd_same), ap, l2, l1⟩
theorem LV.par {ta : TA} {is : List Nat} (lv : LV (pr X cl) t W ta fv) : LS (pr X cl) t W (fun Z σ H => ta σ H fun vs H1 => Z.nx (setAllV is vs σ) H1) (sPar is fv) := by
  intro I G H σ ρ Z s q
  unfold sPar at q
  rw [outP_bind] at q
  refine lv I G H σ ρ _ s (q.imp (fun x q I1 H1 vs s1 st1 r1 => ?_) fun _ z => z)
  exact q I1 H1 _ s1 (st1.setAll r1)
variable {x y z : PySem.Str} {px py pz pt pos pt2 : Pos} {kt k2 : Nat}
theorem ds_par2 {i j : Nat} (hc : X.calm = true) (hN : X.N.Nodup) (hv : DV X cl t W [a, b] fv) (hl : ∀ ρ x, fv ρ = .ok x → x.1.length = 2) (hij : i ≠ j := by decide) (hi : X.N[i]? = some x := by rfl) (hj : X.N[j]? = some y := by rfl)
    (hx : X.env.scope.names.lookup x = some .local := by rfl) (hy : X.env.scope.names.lookup y = some .local := by rfl)
    (hw : swappedStores [.Tuple [.Name x px, .Name y py] kt pt] (.Tuple [a, b] k2 pt2) X.env = pure (some [x, y]) := by rfl)
    (hs : swapsWithSole [.Tuple [.Name x px, .Name y py] kt pt] (.Tuple [a, b] k2 pt2) pos.line X.env = pure false := by rfl) :
    DS1 X cl t W (.Assign [.Tuple [.Name x px, .Name y py] kt pt] (.Tuple [a, b] k2 pt2) pos) (sPar [i, j] fv) := by
  obtain ⟨ta, pa, lv⟩ := hv
  refine DS1.mk (ps_par hc hN hi hj hij hx hy pa hw hs) fun I G H σ ρ Z s q => ?_
  unfold sPar at q
  rw [outP_bind] at q
  refine lv I G H σ ρ _ s ?_
  cases e1 : fv ρ with
  | bad => rw [e1] at q; exact q
  | exc er => rw [e1] at q; exact q
  | ok w =>
    rw [e1] at q
    intro I1 H1 vs s1 st1 r1
    have e2 := r1.len
    rw [hl _ _ e1] at e2
    match vs, e2 with
    | [v1, v2], _ => exact ⟨v1, v2, rfl, q I1 H1 _ s1 (st1.setAll (is := [i, j]) r1)⟩
theorem ds_par3 {i j k : Nat} (hc : X.calm = true) (hN : X.N.Nodup) (hv : DV X cl t W [a, b, c] fv) (hl : ∀ ρ x, fv ρ = .ok x → x.1.length = 3) (hij : i ≠ j := by decide) (hik : i ≠ k := by decide) (hjk : j ≠ k := by decide) (hi : X.N[i]? = some x := by rfl) (hj : X.N[j]? = some y := by rfl) (hk : X.N[k]? = some z := by rfl)
    (hx : X.env.scope.names.lookup x = some .local := by rfl) (hy : X.env.scope.names.lookup y = some .local := by rfl) (hz : X.env.scope.names.lookup z = some .local := by rfl)
    (hw : swappedStores [.Tuple [.Name x px, .Name y py, .Name z pz] kt pt] (.Tuple [a, b, c] k2 pt2) X.env = pure (some [x, y, z]) := by rfl)
    (hs : swapsWithSole [.Tuple [.Name x px, .Name y py, .Name z pz] kt pt] (.Tuple [a, b, c] k2 pt2) pos.line X.env = pure false := by rfl) :
    DS1 X cl t W (.Assign [.Tuple [.Name x px, .Name y py, .Name z pz] kt pt] (.Tuple [a, b, c] k2 pt2) pos) (sPar [i, j, k] fv) := by
  obtain ⟨ta, pa, lv⟩ := hv
  refine DS1.mk (ps_par3 hc hN hi hj hk hij hik hjk hx hy hz pa hw hs) fun I G H σ ρ Z s q => ?_
  unfold sPar at q
  rw [outP_bind] at q
  refine lv I G H σ ρ _ s ?_
  cases e1 : fv ρ with
  | bad => rw [e1] at q; exact q
  | exc er => rw [e1] at q; exact q
  | ok w =>
    rw [e1] at q
    intro I1 H1 vs s1 st1 r1
    have e2 := r1.len
    rw [hl _ _ e1] at e2
    match vs, e2 with
    | [v1, v2, v3], _ => exact ⟨v1, v2, v3, rfl, q I1 H1 _ s1 (st1.setAll (is := [i, j, k]) r1)⟩
theorem vNil_len {n : Nat} (h : n = 0) : ∀ ρ x, vNil ρ = .ok x → x.1.length = n := fun ρ x e => by cases e; exact h.symm
theorem vKeep_len {n : Nat} (h : ∀ ρ x, fv ρ = .ok x → x.1.length = n) : ∀ ρ x, vKeep fa fv ρ = .ok x → x.1.length = n + 1 := fun ρ x e => by
  unfold vKeep at e
  cases e1 : fKeep fa ρ with
  | bad => rw [e1] at e; cases e
  | exc er => rw [e1] at e; cases e
  | ok y =>
    rw [e1] at e
    simp only [Out.bind_ok] at e
    cases e2 : fv y.2 with
    | bad => rw [e2] at e; cases e
    | exc er => rw [e2] at e; cases e
    | ok z => rw [e2] at e; cases e; simp [h _ _ e2]
theorem vNew_len {n : Nat} (h : ∀ ρ x, fv ρ = .ok x → x.1.length = n) : ∀ ρ x, vNew fn fv ρ = .ok x → x.1.length = n + 1 := fun ρ x e => by
  unfold vNew at e
  cases e1 : fn ρ with
  | bad => rw [e1] at e; cases e
  | exc er => rw [e1] at e; cases e
  | ok y =>
    rw [e1] at e
    simp only [Out.bind_ok] at e
    cases e2 : fv y.2 with
    | bad => rw [e2] at e; cases e
    | exc er => rw [e2] at e; cases e
    | ok z => rw [e2] at e; cases e; simp [h _ _ e2]
end
end Den

/-! DenIt: zip and enumerate of lists, tuples, texts, in any mixture. -/
namespace Den
open PySem PySem.Spec PyProof.Rows L2
/-- what is iterated: its iterator's class, its items -/
inductive SqV (K : PySem.W.Frag) (H : Hp) (v : Value) : String → List V → Prop where
  | lst {a : Addr} {vs : List V} (e : v = .ref a) (h : SqL K H a vs) : SqV K H v "list_iterator" vs
  | tup {a : Addr} {vs : List V} (e : v = .ref a) (h : SqT K H a vs) : SqV K H v "tuple_iterator" vs
  | str {z : PySem.Str} {t : Tok} (e : v = .str z t) : SqV K H v (strIterType z) (z.cps.toList.map fun c => V.str ⟨#[c]⟩)
def IsIt (h : Heap) (it : Addr) (T : String) (v : Value) (i : Nat) : Prop := ∃ o, h.get? it = some o ∧ o.cls = .type T ∧ o.data = .fields #[v, .int i 0]
theorem IsIt.at {h h' : Heap} {it : Addr} {T : String} {v : Value} {i : Nat} (x : IsIt h it T v i) (k : ∀ o, h.get? it = some o → h'.get? it = some o) : IsIt h' it T v i := let ⟨o, e, r⟩ := x; ⟨o, k o e, r⟩
theorem IsIt.ext {h h' : Heap} {it b : Addr} {T : String} {v : Value} {i : Nat} (x : IsIt h it T v i) (k : Heap.ExtBut b h h') (n : it ≠ b) : IsIt h' it T v i := x.at fun o e => k it o n e
structure Steps (P : Program) (w : World) (A : Around) (bad : List Addr) (h0 : Heap) (it : Addr) (T : String) (v : Value) (vs : List V) : Prop where
  item : ∀ (s : Shared) (i : Nat) (x : V) (Q : Value → Shared → Prop) (E : Value → Shared → Prop), (∀ c o, c ∉ bad → h0.get? c = some o → s.heap.get? c = some o) → IsIt s.heap it T v i → vs[i]? = some x →
    (∀ u h' tk, RelV x u → IsIt h' it T v (i + 1) → Heap.SameBut it s.heap h' → Q u { s with heap := h', toks := tk }) → wpAny (model P w) A (Builtin.SmallTypes.nextOf (.ref it)) Q E s
  done : ∀ (s : Shared) (i : Nat) (Q : Value → Shared → Prop) (E : Value → Shared → Prop), (∀ c o, c ∉ bad → h0.get? c = some o → s.heap.get? c = some o) → IsIt s.heap it T v i → vs.length ≤ i →
    (∀ h' e, Heap.ExtBut it s.heap h' → (∃ o, h'.get? e = some o ∧ o.cls = .type "StopIteration") → E (.ref e) { s with heap := h' }) → wpAny (model P w) A (Builtin.SmallTypes.nextOf (.ref it)) Q E s
theorem signs_at {z : PySem.Str} {i : Nat} {x : V} (h : (z.cps.toList.map fun c => V.str ⟨#[c]⟩)[i]? = some x) : ∃ c, z.cps[i]? = some c ∧ x = .str ⟨#[c]⟩ := by
  rw [List.getElem?_map, Array.getElem?_toList] at h
  cases e : z.cps[i]? with
  | none => rw [e] at h; cases h
  | some c => rw [e] at h; cases h; exact ⟨c, rfl, rfl⟩
theorem steps_of {X : Cx} {pins : List (Addr × Obj)} {σ : L2.St} {H : Hp} {s : Shared} {A : Around} {bad : List Addr} {it : Addr} {T : String} {v : Value} {vs : List V} (I : Inv X pins σ H s) (hh : A.handled = none) (q : SqV X.K H v T vs) (hb : ∀ a, v = .ref a → a ∉ bad) :
    Steps X.prog X.w A bad s.heap it T v vs := by
  cases q with
  | lst e hq =>
    rename_i a
    obtain ⟨its, rv, pl, hz⟩ := I.list hq
    have hl := pl.isList
    have hlen := rv.length
    subst e
    refine ⟨fun s' i x Q E k hi hx q => ?_, fun s' i Q E k hi hx q => ?_⟩
    · obtain ⟨u, hu, ru⟩ := rv.get hx
      exact wpAny_nextOf_list_item hi (hl.at fun o e => k _ o (hb a rfl) e) (x := u) (by simpa using hu) fun h' h1 h2 => q u h' s'.toks ru h1 h2
    · exact wpAny_nextOf_list_end hh hi (hl.at fun o e => k _ o (hb a rfl) e) (by simp; omega) q
  | tup e hq =>
    rename_i a
    obtain ⟨its, rv, hl, hz⟩ := I.tuple hq
    have hlen := rv.length
    subst e
    have ha : ∀ h' : Heap, (∀ o, s.heap.get? a = some o → h'.get? a = some o) → h'.IsTuple a its.toArray := fun h' k => by
      obtain ⟨o, ho, r⟩ := hl
      exact ⟨o, k o ho, r⟩
    refine ⟨fun s' i x Q E k hi hx q => ?_, fun s' i Q E k hi hx q => ?_⟩
    · obtain ⟨u, hu, ru⟩ := rv.get hx
      exact RZ.nextOf_tuple_item hi (ha _ fun o e => k _ o (hb a rfl) e) (x := u) (by simpa using hu) fun h' h1 h2 => q u h' s'.toks ru h1 h2
    · exact RZ.nextOf_tuple_end hh hi (ha _ fun o e => k _ o (hb a rfl) e) (by simp; omega) q
  | str e =>
    rename_i z t
    subst e
    unfold strIterType
    split
    · refine ⟨fun s' i x Q E k hi hx q => ?_, fun s' i Q E k hi hx q => ?_⟩
      · obtain ⟨c, hc, rfl⟩ := signs_at hx
        exact wpAny_nextOf_ascii_item hi hc fun h' h1 h2 => q _ h' (s'.toks + 1) ⟨_, rfl⟩ h1 h2
      · exact wpAny_nextOf_ascii_end hh hi (by simpa using hx) q
    · refine ⟨fun s' i x Q E k hi hx q => ?_, fun s' i Q E k hi hx q => ?_⟩
      · obtain ⟨c, hc, rfl⟩ := signs_at hx
        exact wpAny_nextOf_wide_item hi hc fun h' h1 h2 => q _ h' (s'.toks + 1) ⟨_, rfl⟩ h1 h2
      · exact wpAny_nextOf_wide_end hh hi (by simpa using hx) q
/-- iter(v): the iterator is the next object -/
def itO (T : String) (v : Value) : Obj := { cls := .type T, data := .fields #[v, .int 0 0] }
theorem iter_of {X : Cx} {pins : List (Addr × Obj)} {σ : L2.St} {H : Hp} {s s' : Shared} {A : Around} {T : String} {v : Value} {vs : List V} {Q E : Value → Shared → Prop} (I : Inv X pins σ H s) (q : SqV X.K H v T vs) (k : ∀ c o, s.heap.get? c = some o → s'.heap.get? c = some o)
    (h : Q (.ref s'.heap.objs.size) { s' with heap := s'.heap.push (itO T v) }) : wpAny (model X.prog X.w) A (pyIter v) Q E s' := by
  cases q with
  | lst e hq =>
    obtain ⟨its, rv, pl, hz⟩ := I.list hq
    subst e
    exact wpAny_pyIter_list (pl.isList.at fun o e => k _ o e) h
  | tup e hq =>
    obtain ⟨its, rv, hl, hz⟩ := I.tuple hq
    subst e
    obtain ⟨o, ho, r⟩ := hl
    exact wpAny_pyIter_tuple (items := its.toArray) ⟨o, k _ o ho, r⟩ h
  | str e => subst e; exact wpAny_pyIter_strU h
theorem isIt_new {h : Heap} {T : String} {v : Value} : IsIt (h.push (itO T v)) h.objs.size T v 0 := ⟨_, Heap.get?_push_size _ rfl, rfl, rfl⟩

/-! ### zip -/
structure ZApart (z TI TO i1 i2 : Addr) : Prop where
  TIz : TI ≠ z
  TOz : TO ≠ z
  i1z : i1 ≠ z
  i2z : i2 ≠ z
  TITO : TI ≠ TO
  TIi1 : TI ≠ i1
  TIi2 : TI ≠ i2
  TOi1 : TO ≠ i1
  TOi2 : TO ≠ i2
  i12 : i1 ≠ i2
section
variable {P : Program} {w : World} {A : Around} {E : Value → Shared → Prop} {s : Shared}
theorem zipV_item {z TI TO i1 i2 : Addr} {T1 T2 : String} {v1 v2 : Value} {xs ys : List V} {k : Nat} {x y : V} {a b : Value} {Q : Value → Shared → Prop} (D : ZApart z TI TO i1 i2) (S1 : Steps P w A [z, TO, i1, i2] s.heap i1 T1 v1 xs) (S2 : Steps P w A [z, TO, i1, i2] s.heap i2 T2 v2 ys)
    (hz : IsZip s.heap z TI TO .none) (hTI : IsPair s.heap TI (.ref i1) (.ref i2)) (hTO : IsPair s.heap TO a b) (h1 : IsIt s.heap i1 T1 v1 k) (h2 : IsIt s.heap i2 T2 v2 k) (hx : xs[k]? = some x) (hy : ys[k]? = some y)
    (hQ : ∀ h' tk u1 u2, RelV x u1 → RelV y u2 → IsZip h' z TI TO (rawInt s.heap.objs.size) → IsPair h' TO u1 u2 → IsIt h' i1 T1 v1 (k + 1) → IsIt h' i2 T2 v2 (k + 1) → IsPair h' s.heap.objs.size u1 u2 → h'.objs.size = s.heap.objs.size + 1 →
      (∀ c o, c ≠ z → c ≠ TO → c ≠ i1 → c ≠ i2 → s.heap.get? c = some o → h'.get? c = some o) → Q (.ref s.heap.objs.size) { s with heap := h', toks := tk }) :
    wpAny (model P w) A (Builtin.«zip.__next__» ⟨[.ref z], []⟩) (fun fin s' => ∃ v, fin = .done (.ret v) ∧ Q v s') E s := by
  show wpAny _ _ (field (.ref z) 2 >>= _) _ _ _
  refine wpAny_bind (wpAny_field hz rfl (x := .bool false) rfl ?_)
  show wpAny _ _ (field (.ref z) 3 >>= _) _ _ _
  refine wpAny_bind (wpAny_field hz rfl (x := .ref TI) rfl ?_)
  refine wpAny_bind (wpAny_seqItems hTI rfl ?_)
  show wpAny _ _ (Builtin.SmallTypes.ownedTupleIsFree (.ref z) >>= _) _ _ _
  refine wpAny_bind ?_
  unfold Builtin.SmallTypes.ownedTupleIsFree
  refine wpAny_bind (wpAny_field hz rfl (x := .none) rfl (wpAny_pure ?_))
  simp only [if_true]
  refine wpAny_bind (wpAny_rule ?_)
  refine wpAny_bind (wpAny_field hz rfl (x := .ref TO) rfl ?_)
  refine wpAny_bind (wpAny_setField_rec hz (by simp) fun h₁ hz₁ hs₁ => ?_)
  replace hz₁ : IsZip h₁ z TI TO .ellipsis := hz₁
  refine wpAny_bind ?_
  simp only [List.zipIdx_cons, List.zipIdx_nil, List.forIn_cons, List.forIn_nil]
  have nz : ∀ {c : Addr}, c ∉ [z, TO, i1, i2] → c ≠ z ∧ c ≠ TO ∧ c ≠ i1 ∧ c ≠ i2 := fun {c} h => by simpa [List.mem_cons, not_or] using h
  refine wpAny_bind (wpAny_bind (wpAny_onRaise ?_))
  show wpAny _ _ (Builtin.SmallTypes.nextOf (.ref i1) >>= _) _ _ _
  refine wpAny_bind (S1.item _ k x _ _ (fun c o hc e => hs₁.extBut _ _ (nz hc).1 e) (h1.ext hs₁.extBut D.i1z) hx fun u1 h₂ tk1 r1 h1₂ hs₂ => wpAny_pure ?_)
  have hs₂' : Heap.SameBut i1 h₁ h₂ := hs₂
  have hTO₂ : IsPair h₂ TO a b := hs₂'.extBut _ _ D.TOi1 (hs₁.extBut _ _ D.TOz hTO)
  refine wpAny_bind (wpAny_seqItems hTO₂ rfl ?_)
  refine wpAny_bind (wpAny_updateSeq_pair hTO₂ fun h₃ hTO₃ hs₃ => ?_)
  replace hTO₃ : IsPair h₃ TO u1 b := hTO₃
  have hs₃' : Heap.SameBut TO h₂ h₃ := hs₃
  refine wpAny_bind (wpAny_letGo (wpAny_pure ?_))
  refine wpAny_bind (wpAny_bind (wpAny_onRaise ?_))
  show wpAny _ _ (Builtin.SmallTypes.nextOf (.ref i2) >>= _) _ _ _
  refine wpAny_bind (S2.item _ k y _ _ (fun c o hc e => hs₃'.extBut _ _ (nz hc).2.1 (hs₂'.extBut _ _ (nz hc).2.2.1 (hs₁.extBut _ _ (nz hc).1 e))) (((h2.ext hs₁.extBut D.i2z).ext hs₂'.extBut D.i12.symm).ext hs₃'.extBut D.TOi2.symm) hy fun u2 h₄ tk2 r2 h2₄ hs₄ => wpAny_pure ?_)
  have hs₄' : Heap.SameBut i2 h₃ h₄ := hs₄
  have hTO₄ : IsPair h₄ TO u1 b := hs₄'.extBut _ _ D.TOi2 hTO₃
  refine wpAny_bind (wpAny_seqItems hTO₄ rfl ?_)
  refine wpAny_bind (wpAny_updateSeq_pair hTO₄ fun h₅ hTO₅ hs₅ => ?_)
  replace hTO₅ : IsPair h₅ TO u1 u2 := hTO₅
  have hs₅' : Heap.SameBut TO h₄ h₅ := hs₅
  refine wpAny_bind (wpAny_letGo (wpAny_pure (wpAny_pure ?_)))
  refine wpAny_bind (wpAny_seqItems hTO₅ rfl ?_)
  refine wpAny_bind (wpAny_newTuple ?_)
  have hsz : h₅.objs.size = s.heap.objs.size := by rw [hs₅'.1, hs₄'.1, hs₃'.1, hs₂'.1, hs₁.1]
  have hz₅ : IsZip h₅ z TI TO .ellipsis := hs₅'.extBut _ _ D.TOz.symm (hs₄'.extBut _ _ D.i2z.symm (hs₃'.extBut _ _ D.TOz.symm (hs₂'.extBut _ _ D.i1z.symm hz₁)))
  have hk₅ : ∀ c o, c ≠ z → c ≠ TO → c ≠ i1 → c ≠ i2 → s.heap.get? c = some o → h₅.get? c = some o := fun c o c1 c2 c3 c4 e =>
    hs₅'.extBut _ _ c2 (hs₄'.extBut _ _ c4 (hs₃'.extBut _ _ c2 (hs₂'.extBut _ _ c3 (hs₁.extBut _ _ c1 e))))
  have h1₅ : IsIt h₅ i1 T1 v1 (k + 1) := ((h1₂.ext hs₃'.extBut D.TOi1.symm).ext hs₄'.extBut D.i12).ext hs₅'.extBut D.TOi1.symm
  have h2₅ : IsIt h₅ i2 T2 v2 (k + 1) := h2₄.ext hs₅'.extBut D.TOi2.symm
  have hzlt : z < h₅.objs.size := Heap.lt_size hz₅
  show wpAny _ _ (Builtin.SmallTypes.ownedTupleHandOut (.ref z) (.ref h₅.objs.size) >>= _) _ _ _
  refine wpAny_bind ?_
  unfold Builtin.SmallTypes.ownedTupleHandOut
  have hz₆ : IsZip (h₅.push { cls := .type "tuple", data := .seq #[u1, u2] }) z TI TO .ellipsis := Heap.get?_push_of_some _ hz₅
  refine wpAny_bind (wpAny_setField_rec hz₆ (by simp) fun h₇ hz₇ hs₇ => ?_)
  replace hz₇ : IsZip h₇ z TI TO (rawInt h₅.objs.size) := hz₇
  refine wpAny_setField_rec hz₇ (by simp) fun h₈ hz₈ hs₈ => ?_
  replace hz₈ : IsZip h₈ z TI TO (rawInt h₅.objs.size) := hz₈
  have up : ∀ c o, c ≠ z → h₅.get? c = some o → h₈.get? c = some o := fun c o c1 e => hs₈.extBut _ _ c1 (hs₇.extBut _ _ c1 (Heap.get?_push_of_some _ e))
  have hT₈ : IsPair h₈ h₅.objs.size u1 u2 := hs₈.extBut _ _ (Nat.ne_of_gt hzlt) (hs₇.extBut _ _ (Nat.ne_of_gt hzlt) (Heap.get?_push_size _ rfl))
  have hz8 : h₈.objs.size = h₅.objs.size + 1 := by rw [hs₈.1, hs₇.1, Heap.size_push]
  rw [hsz] at hz₈ hT₈ hz8
  refine wpAny_pure ⟨_, rfl, ?_⟩
  show Q (.ref h₅.objs.size) _
  rw [hsz]
  exact hQ h₈ tk2 u1 u2 r1 r2 hz₈ (up _ _ D.TOz hTO₅) (h1₅.at fun o e => up _ o D.i1z e) (h2₅.at fun o e => up _ o D.i2z e) hT₈ hz8 fun c o c1 c2 c3 c4 e => up c o c1 (hk₅ c o c1 c2 c3 c4 e)
theorem zipV_end {z TI TO i1 i2 : Addr} {T1 T2 : String} {v1 v2 : Value} {xs ys : List V} {k : Nat} {a b : Value} {Q : Fin → Shared → Prop} (D : ZApart z TI TO i1 i2) (S1 : Steps P w A [z, TO, i1, i2] s.heap i1 T1 v1 xs) (S2 : Steps P w A [z, TO, i1, i2] s.heap i2 T2 v2 ys)
    (hz : IsZip s.heap z TI TO .none) (hTI : IsPair s.heap TI (.ref i1) (.ref i2)) (hTO : IsPair s.heap TO a b) (h1 : IsIt s.heap i1 T1 v1 k) (h2 : IsIt s.heap i2 T2 v2 k) (hend : xs.length ≤ k ∨ ys.length ≤ k)
    (hE : ∀ h' e tk, (∀ c o, c ≠ z → c ≠ TO → c ≠ i1 → c ≠ i2 → s.heap.get? c = some o → h'.get? c = some o) → (∃ o, h'.get? e = some o ∧ o.cls = .type "StopIteration") → E (.ref e) { s with heap := h', toks := tk }) :
    wpAny (model P w) A (Builtin.«zip.__next__» ⟨[.ref z], []⟩) Q E s := by
  show wpAny _ _ (field (.ref z) 2 >>= _) _ _ _
  refine wpAny_bind (wpAny_field hz rfl (x := .bool false) rfl ?_)
  show wpAny _ _ (field (.ref z) 3 >>= _) _ _ _
  refine wpAny_bind (wpAny_field hz rfl (x := .ref TI) rfl ?_)
  refine wpAny_bind (wpAny_seqItems hTI rfl ?_)
  show wpAny _ _ (Builtin.SmallTypes.ownedTupleIsFree (.ref z) >>= _) _ _ _
  refine wpAny_bind ?_
  unfold Builtin.SmallTypes.ownedTupleIsFree
  refine wpAny_bind (wpAny_field hz rfl (x := .none) rfl (wpAny_pure ?_))
  simp only [if_true]
  refine wpAny_bind (wpAny_rule ?_)
  refine wpAny_bind (wpAny_field hz rfl (x := .ref TO) rfl ?_)
  refine wpAny_bind (wpAny_setField_rec hz (by simp) fun h₁ hz₁ hs₁ => ?_)
  replace hz₁ : IsZip h₁ z TI TO .ellipsis := hz₁
  refine wpAny_bind ?_
  simp only [List.zipIdx_cons, List.zipIdx_nil, List.forIn_cons, List.forIn_nil]
  have nz : ∀ {c : Addr}, c ∉ [z, TO, i1, i2] → c ≠ z ∧ c ≠ TO ∧ c ≠ i1 ∧ c ≠ i2 := fun {c} h => by simpa [List.mem_cons, not_or] using h
  refine wpAny_bind (wpAny_bind (wpAny_onRaise ?_))
  show wpAny _ _ (Builtin.SmallTypes.nextOf (.ref i1) >>= _) _ _ _
  cases hx : xs[k]? with
  | none =>
    refine wpAny_bind (S1.done _ k _ _ (fun c o hc e => hs₁.extBut _ _ (nz hc).1 e) (h1.ext hs₁.extBut D.i1z) (by simpa using hx) fun h₂ e hs₂ he => ?_)
    obtain ⟨oe, hoe, hce⟩ := he
    have hs₂' : Heap.ExtBut i1 h₁ h₂ := hs₂
    have hz₂ : IsZip h₂ z TI TO .ellipsis := hs₂' _ _ D.i1z.symm hz₁
    have hez : e ≠ z := fun x => by subst x; rw [hz₂] at hoe; cases hoe; simp at hce
    refine wpAny_setField_rec hz₂ (by simp) fun h₃ _ hs₃ => ?_
    have hs₃' : Heap.SameBut z h₂ h₃ := hs₃
    exact hE h₃ e _ (fun c o c1 _ c3 _ x => hs₃'.extBut _ _ c1 (hs₂' _ _ c3 (hs₁.extBut _ _ c1 x))) ⟨oe, hs₃'.extBut _ _ hez hoe, hce⟩
  | some x =>
    have hy : ys.length ≤ k := by
      rcases hend with h | h
      · rw [List.getElem?_eq_none h] at hx; cases hx
      · exact h
    refine wpAny_bind (S1.item _ k x _ _ (fun c o hc e => hs₁.extBut _ _ (nz hc).1 e) (h1.ext hs₁.extBut D.i1z) hx fun u1 h₂ tk1 r1 h1₂ hs₂ => wpAny_pure ?_)
    have hs₂' : Heap.SameBut i1 h₁ h₂ := hs₂
    have hTO₂ : IsPair h₂ TO a b := hs₂'.extBut _ _ D.TOi1 (hs₁.extBut _ _ D.TOz hTO)
    refine wpAny_bind (wpAny_seqItems hTO₂ rfl ?_)
    refine wpAny_bind (wpAny_updateSeq_pair hTO₂ fun h₃ hTO₃ hs₃ => ?_)
    have hs₃' : Heap.SameBut TO h₂ h₃ := hs₃
    refine wpAny_bind (wpAny_letGo (wpAny_pure ?_))
    refine wpAny_bind (wpAny_bind (wpAny_onRaise ?_))
    show wpAny _ _ (Builtin.SmallTypes.nextOf (.ref i2) >>= _) _ _ _
    refine wpAny_bind (S2.done _ k _ _ (fun c o hc e => hs₃'.extBut _ _ (nz hc).2.1 (hs₂'.extBut _ _ (nz hc).2.2.1 (hs₁.extBut _ _ (nz hc).1 e))) (((h2.ext hs₁.extBut D.i2z).ext hs₂'.extBut D.i12.symm).ext hs₃'.extBut D.TOi2.symm) hy fun h₄ e hs₄ he => ?_)
    obtain ⟨oe, hoe, hce⟩ := he
    have hs₄' : Heap.ExtBut i2 h₃ h₄ := hs₄
    have hz₄ : IsZip h₄ z TI TO .ellipsis := hs₄' _ _ D.i2z.symm (hs₃'.extBut _ _ D.TOz.symm (hs₂'.extBut _ _ D.i1z.symm hz₁))
    have hez : e ≠ z := fun x => by subst x; rw [hz₄] at hoe; cases hoe; simp at hce
    refine wpAny_setField_rec hz₄ (by simp) fun h₅ _ hs₅ => ?_
    have hs₅' : Heap.SameBut z h₄ h₅ := hs₅
    exact hE h₅ e _ (fun c o c1 c2 c3 c4 x => hs₅'.extBut _ _ c1 (hs₄' _ _ c4 (hs₃'.extBut _ _ c2 (hs₂'.extBut _ _ c3 (hs₁.extBut _ _ c1 x))))) ⟨oe, hs₅'.extBut _ _ hez hoe, hce⟩
theorem nextZ_item {z TI TO i1 i2 : Addr} {T1 T2 : String} {v1 v2 : Value} {xs ys : List V} {k : Nat} {x y : V} {a b : Value} {Q : Option Value → Shared → Prop} (D : ZApart z TI TO i1 i2) (S1 : Steps P w A.in1 [z, TO, i1, i2] s.heap i1 T1 v1 xs) (S2 : Steps P w A.in1 [z, TO, i1, i2] s.heap i2 T2 v2 ys)
    (hz : IsZip s.heap z TI TO .none) (hTI : IsPair s.heap TI (.ref i1) (.ref i2)) (hTO : IsPair s.heap TO a b) (h1 : IsIt s.heap i1 T1 v1 k) (h2 : IsIt s.heap i2 T2 v2 k) (hx : xs[k]? = some x) (hy : ys[k]? = some y)
    (hQ : ∀ h' tk u1 u2, RelV x u1 → RelV y u2 → IsZip h' z TI TO (rawInt s.heap.objs.size) → IsPair h' TO u1 u2 → IsIt h' i1 T1 v1 (k + 1) → IsIt h' i2 T2 v2 (k + 1) → IsPair h' s.heap.objs.size u1 u2 → h'.objs.size = s.heap.objs.size + 1 →
      (∀ c o, c ≠ z → c ≠ TO → c ≠ i1 → c ≠ i2 → s.heap.get? c = some o → h'.get? c = some o) → Q (some (.ref s.heap.objs.size)) { s with heap := h', toks := tk }) :
    wpAny (model P w) A (pyNext (.ref z)) Q E s := by
  have hT : s.TypeIs (.ref z) "zip" := ⟨_, hz, rfl⟩
  unfold pyNext
  exact wpAny_bind (wpAny_attempt (wpAny_callSpecial?_slot (name := Str.ofString "__next__") hT F.slot_zip_next
    (wpAny_call_entry F.slot_zip_next hT F.entry_zip_next
      (zipV_item D S1 S2 hz hTI hTO h1 h2 hx hy fun h' tk u1 u2 r1 r2 a1 a2 a3 a4 a5 a6 a7 => wpAny_pure (hQ h' tk u1 u2 r1 r2 a1 a2 a3 a4 a5 a6 a7)) (F.args_zip_next_1 _))))
theorem nextZ_end {z TI TO i1 i2 : Addr} {T1 T2 : String} {v1 v2 : Value} {xs ys : List V} {k : Nat} {a b : Value} {Q : Option Value → Shared → Prop} (D : ZApart z TI TO i1 i2) (S1 : Steps P w A.in1 [z, TO, i1, i2] s.heap i1 T1 v1 xs) (S2 : Steps P w A.in1 [z, TO, i1, i2] s.heap i2 T2 v2 ys)
    (hz : IsZip s.heap z TI TO .none) (hTI : IsPair s.heap TI (.ref i1) (.ref i2)) (hTO : IsPair s.heap TO a b) (h1 : IsIt s.heap i1 T1 v1 k) (h2 : IsIt s.heap i2 T2 v2 k) (hend : xs.length ≤ k ∨ ys.length ≤ k)
    (hQ : ∀ h' tk, (∀ c o, c ≠ z → c ≠ TO → c ≠ i1 → c ≠ i2 → s.heap.get? c = some o → h'.get? c = some o) → Q none { s with heap := h', toks := tk }) : wpAny (model P w) A (pyNext (.ref z)) Q E s := by
  have hT : s.TypeIs (.ref z) "zip" := ⟨_, hz, rfl⟩
  unfold pyNext
  refine wpAny_bind (wpAny_attempt (wpAny_callSpecial?_slot (name := Str.ofString "__next__") hT F.slot_zip_next
    (wpAny_call_entry F.slot_zip_next hT F.entry_zip_next (zipV_end D S1 S2 hz hTI hTO h1 h2 hend fun h' e tk hk he => ?_) (F.args_zip_next_1 _))))
  obtain ⟨o, ho, hc⟩ := he
  refine wpAny_bind (wpAny_isInstance (T := "StopIteration") (b := true) ⟨o, ho, hc⟩ isSubtype_stop ?_)
  exact wpAny_pure (hQ _ tk hk)
end
def IterGen (s : Shared) (v : Value) (T : String) : Prop := ∀ (P : Program) (w : World) (A : Around) (E Q : Value → Shared → Prop) (s' : Shared), (∀ c o, s.heap.get? c = some o → s'.heap.get? c = some o) →
  Q (.ref s'.heap.objs.size) { s' with heap := s'.heap.push (itO T v) } → wpAny (model P w) A (pyIter v) Q E s'
theorem iterGen_of {X : Cx} {pins : List (Addr × Obj)} {σ : L2.St} {H : Hp} {s : Shared} {T : String} {v : Value} {vs : List V} (I : Inv X pins σ H s) (q : SqV X.K H v T vs) : IterGen s v T := fun P w A E Q s' k h => by
  cases q with
  | lst e hq =>
    obtain ⟨its, rv, pl, hz⟩ := I.list hq
    subst e
    exact wpAny_pyIter_list (pl.isList.at fun o e => k _ o e) h
  | tup e hq =>
    obtain ⟨its, rv, hl, hz⟩ := I.tuple hq
    subst e
    obtain ⟨o, ho, r⟩ := hl
    exact wpAny_pyIter_tuple (items := its.toArray) ⟨o, k _ o ho, r⟩ h
  | str e => subst e; exact wpAny_pyIter_strU h
abbrev zH1 (h : Heap) (T1 : String) (v1 : Value) : Heap := h.push (itO T1 v1)
abbrev zH2 (h : Heap) (T1 T2 : String) (v1 v2 : Value) : Heap := (zH1 h T1 v1).push (itO T2 v2)
abbrev zH3 (h : Heap) (T1 T2 : String) (v1 v2 : Value) : Heap := (zH2 h T1 T2 v1 v2).push { cls := .type "tuple", data := .seq #[.ref h.objs.size, .ref (zH1 h T1 v1).objs.size] }
abbrev zH4 (h : Heap) (T1 T2 : String) (v1 v2 : Value) : Heap := (zH3 h T1 T2 v1 v2).push { cls := .type "tuple", data := .seq #[.none, .none] }
abbrev zH5 (h : Heap) (T1 T2 : String) (v1 v2 : Value) : Heap := (zH4 h T1 T2 v1 v2).push { cls := .type "zip", data := .fields #[.none, .bool false, .bool false, .ref (zH2 h T1 T2 v1 v2).objs.size, .ref (zH3 h T1 T2 v1 v2).objs.size] }
theorem meets_zipV (v1 v2 : Value) (T1 T2 : String) :
    Meets (Builtin.«zip.__new__» ⟨[.type "zip", v1, v2], []⟩) (fun _ R s => IterGen s v1 T1 ∧ IterGen s v2 T2 ∧
      R (.ok (.ret (.ref (zH4 s.heap T1 T2 v1 v2).objs.size))) { s with heap := zH5 s.heap T1 T2 v1 v2 }) :=
  .of_wp fun prog w A R s h => by
    obtain ⟨hp, g, d, tk, os⟩ := s; obtain ⟨hl1, hl2, h⟩ := h
    have hsub := sub_zip
    have hL1 : ∀ {A' : Around} {E' Q' : Value → Shared → Prop}, Q' (.ref hp.objs.size) ⟨hp.push (itO T1 v1), g, d, tk, os⟩ → wpAny (model prog w) A' (pyIter v1) Q' E' ⟨hp, g, d, tk, os⟩ := fun {A' E' Q'} q => hl1 prog w A' E' Q' ⟨hp, g, d, tk, os⟩ (fun _ _ e => e) q
    have hL2 : ∀ {A' : Around} {E' Q' : Value → Shared → Prop}, Q' (.ref (hp.push (itO T1 v1)).objs.size) ⟨(hp.push (itO T1 v1)).push (itO T2 v2), g, d, tk, os⟩ → wpAny (model prog w) A' (pyIter v2) Q' E' ⟨hp.push (itO T1 v1), g, d, tk, os⟩ :=
      fun {A' E' Q'} q => hl2 prog w A' E' Q' ⟨hp.push (itO T1 v1), g, d, tk, os⟩ (fun _ _ e => Heap.get?_push_of_some _ e) q
    wp_walk using hL1, hL2
    exact ⟨_, rfl, h⟩
/-- zip(v1, v2) -/
theorem call_zipV {X : Cx} {pins : List (Addr × Obj)} {σ : L2.St} {H : Hp} {s : Shared} {A : Around} {E Q : Value → Shared → Prop} {T1 T2 : String} {v1 v2 : Value} {xs ys : List V} (I : Inv X pins σ H s) (q1 : SqV X.K H v1 T1 xs) (q2 : SqV X.K H v2 T2 ys)
    (h : ∀ h', IsZip h' (s.heap.objs.size + 4) (s.heap.objs.size + 2) (s.heap.objs.size + 3) .none → IsPair h' (s.heap.objs.size + 2) (.ref s.heap.objs.size) (.ref (s.heap.objs.size + 1)) →
      IsPair h' (s.heap.objs.size + 3) .none .none → IsIt h' s.heap.objs.size T1 v1 0 → IsIt h' (s.heap.objs.size + 1) T2 v2 0 → h'.objs.size = s.heap.objs.size + 5 →
      (∀ c o, s.heap.get? c = some o → h'.get? c = some o) → Q (.ref (s.heap.objs.size + 4)) { s with heap := h' }) :
    wpAny (model X.prog X.w) A (call (.type "zip") [v1, v2]) Q E s := by
  refine callType_new F.called_zip (by decide) (F.typeCall_zip_2 _ _) (F.newCall_zip_2 _ _) (fun obj => F.args_object_init_3 obj _ _) F.entry_zip_new
    (meets_zipV v1 v2 T1 T2) ⟨iterGen_of I q1, iterGen_of I q2, ?_⟩
  have z1 : (zH1 s.heap T1 v1).objs.size = s.heap.objs.size + 1 := Heap.size_push ..
  have z2 : (zH2 s.heap T1 T2 v1 v2).objs.size = s.heap.objs.size + 2 := by rw [Heap.size_push, z1]
  have z3 : (zH3 s.heap T1 T2 v1 v2).objs.size = s.heap.objs.size + 3 := by rw [Heap.size_push, z2]
  have z4 : (zH4 s.heap T1 T2 v1 v2).objs.size = s.heap.objs.size + 4 := by rw [Heap.size_push, z3]
  have z5 : (zH5 s.heap T1 T2 v1 v2).objs.size = s.heap.objs.size + 5 := by rw [Heap.size_push, z4]
  have g5 : (zH5 s.heap T1 T2 v1 v2).get? (zH4 s.heap T1 T2 v1 v2).objs.size = some _ := Heap.get?_push_size _ rfl
  have g4 : (zH5 s.heap T1 T2 v1 v2).get? (zH3 s.heap T1 T2 v1 v2).objs.size = some _ := Heap.get?_push_of_some _ (Heap.get?_push_size _ rfl)
  have g3 : (zH5 s.heap T1 T2 v1 v2).get? (zH2 s.heap T1 T2 v1 v2).objs.size = some _ := Heap.get?_push_of_some _ (Heap.get?_push_of_some _ (Heap.get?_push_size _ rfl))
  have g2 : (zH5 s.heap T1 T2 v1 v2).get? (zH1 s.heap T1 v1).objs.size = some _ := Heap.get?_push_of_some _ (Heap.get?_push_of_some _ (Heap.get?_push_of_some _ (Heap.get?_push_size _ rfl)))
  have g1 : (zH5 s.heap T1 T2 v1 v2).get? s.heap.objs.size = some _ := Heap.get?_push_of_some _ (Heap.get?_push_of_some _ (Heap.get?_push_of_some _ (Heap.get?_push_of_some _ (Heap.get?_push_size _ rfl))))
  show _ ∧ _
  rw [z2, z3, z4] at g5
  rw [z1, z2] at g3
  rw [z3] at g4
  rw [z1] at g2
  rw [z4]
  exact ⟨⟨_, g5, rfl⟩, h _ g5 g3 g4 ⟨_, g1, rfl, rfl⟩ ⟨_, g2, rfl, rfl⟩ z5 fun c o x =>
    Heap.get?_push_of_some _ (Heap.get?_push_of_some _ (Heap.get?_push_of_some _ (Heap.get?_push_of_some _ (Heap.get?_push_of_some _ x))))⟩
/-! ### a loop's turns over zip -/
/-- what stands behind a value, for as long as it stays -/
inductive Stays (K : PySem.W.Frag) (H : Hp) : V → String → List V → Prop where
  | lst {a : Addr} {vs : List V} (h : SqL K H a vs) : Stays K H (.ref a) "list_iterator" vs
  | tup {a : Addr} {vs : List V} (h : SqT K H a vs) : Stays K H (.ref a) "tuple_iterator" vs
  | str {z : PySem.Str} : Stays K H (.str z) (strIterType z) (z.cps.toList.map fun c => V.str ⟨#[c]⟩)
theorem sqV_of {K : PySem.W.Frag} {H : Hp} {x : V} {v : Value} {T : String} {vs : List V} (h : Stays K H x T vs) (r : RelV x v) : SqV K H v T vs := by
  cases h with
  | lst h => cases r; exact .lst rfl h
  | tup h => cases r; exact .tup rfl h
  | str => obtain ⟨t, rfl⟩ := r; exact .str rfl
def ItzV (K : PySem.W.Frag) (v1 v2 : Value) (T1 T2 : String) (xs ys : List V) : It :=
  ⟨fun i H => ∃ (x y : V), SqV K H v1 T1 xs ∧ SqV K H v2 T2 ys ∧ xs[i]? = some x ∧ ys[i]? = some y,
    fun i H v H' => ∃ (T : Addr) (o : Obj) (x y : V), v = .ref T ∧ H T = none ∧ o.dict = none ∧ H' = upd H T (.frz o (.tup [x, y])) ∧ xs[i]? = some x ∧ ys[i]? = some y,
    fun i H => SqV K H v1 T1 xs ∧ SqV K H v2 T2 ys ∧ (xs.length ≤ i ∨ ys.length ≤ i)⟩
theorem turn_zipV {P : Program} {w : World} {K : PySem.W.Frag} {elts : List Expr} {kk : Nat} {tpos : Pos} {v1 v2 : Value} {T1 T2 : String} {xs ys : List V} {z TI TO i1 i2 : Addr} (D : ZApart z TI TO i1 i2) (b1 : ∀ a, v1 = .ref a → a ∉ [z, TO, i1, i2]) (b2 : ∀ a, v2 = .ref a → a ∉ [z, TO, i1, i2]) :
    Turn P w K (.Tuple elts kk tpos) (ItzV K v1 v2 T1 T2 xs ys) [z, TI, TO, i1, i2] z (fun i h => IsZip h z TI TO .none ∧ IsPair h TI (.ref i1) (.ref i2) ∧ (∃ x y, IsPair h TO x y) ∧ IsIt h i1 T1 v1 i ∧ IsIt h i2 T2 v2 i) where
  mem := by simp
  obj := fun i h st c hc => by
    obtain ⟨hz, hTI, ⟨x, y, hTO⟩, ⟨o1, e1, _, d1⟩, ⟨o2, e2, _, d2⟩⟩ := st
    have e' : c = z ∨ c = TI ∨ c = TO ∨ c = i1 ∨ c = i2 := by simpa using hc
    rcases e' with q | q | q | q | q
    · rw [q]; exact ⟨_, hz, fun v q => nomatch q⟩
    · rw [q]; exact ⟨_, hTI, fun v q => nomatch q⟩
    · rw [q]; exact ⟨_, hTO, fun v q => nomatch q⟩
    · rw [q]; exact ⟨o1, e1, fun v q => by rw [d1] at q; cases q⟩
    · rw [q]; exact ⟨o2, e2, fun v q => by rw [d2] at q; cases q⟩
  keep := fun i h h' st k => by
    obtain ⟨hz, hTI, ⟨x, y, hTO⟩, h1, h2⟩ := st
    exact ⟨k z (by simp) _ hz, k TI (by simp) _ hTI, ⟨x, y, k TO (by simp) _ hTO⟩, h1.at fun o q => k i1 (by simp) o q, h2.at fun o q => k i2 (by simp) o q⟩
  item := by
    intro X hP hw hK hc i pins s σ H E I hf st hg
    subst hP hw hK
    obtain ⟨hz, hTI, ⟨x0, y0, hTO⟩, h1, h2⟩ := st
    obtain ⟨x, y, hqx, hqy, hx, hy⟩ := hg
    have hh : X.A.in1.handled = none := I.ok.hd hc
    have S1 := steps_of (A := X.A.in1) (it := i1) I hh hqx b1
    have S2 := steps_of (A := X.A.in1) (it := i2) I hh hqy b2
    have hzl : z < s.heap.objs.size := Heap.lt_size hz
    refine nextZ_item D S1 S2 hz hTI hTO h1 h2 hx hy fun h' tk u u2 ru ru2 z' TO' h1' h2' hT hsz hk => ?_
    refine ⟨_, rfl, wpAny_letOwnedTupleGo_zip (s := { s with heap := h', toks := tk }) z' fun h'' z'' sb => ?_⟩
    have hT2 : h''.get? s.heap.objs.size = some { cls := .type "tuple", data := .seq #[u, u2] } := (sb.2 _ (Nat.ne_of_gt hzl)).trans hT
    have new : ObjOk X.prog X.w (upd H s.heap.objs.size (.frz { cls := .type "tuple", data := .seq #[u, u2] } (.tup [x, y]))) h'' s.heap.objs.size (.frz { cls := .type "tuple", data := .seq #[u, u2] } (.tup [x, y])) :=
      ⟨hT2, by show 2 ≤ sizeLine; decide, [u, u2], .cons ru (.cons ru2 .nil), ⟨_, hT2, rfl, _, rfl⟩⟩
    have I1 : Inv X pins σ (upd H s.heap.objs.size (.frz { cls := .type "tuple", data := .seq #[u, u2] } (.tup [x, y]))) { s with heap := h'', toks := tk } :=
      I.turnedNew (t' := tk) (ch := [z, TI, TO, i1, i2]) (fun c o hb q => (sb.2 c (fun q' => hb (by simp [q']))).trans (hk c o (fun q' => hb (by simp [q'])) (fun q' => hb (by simp [q'])) (fun q' => hb (by simp [q'])) (fun q' => hb (by simp [q'])) q)) hf (Nat.le_refl _) new
    refine ⟨.ref s.heap.objs.size, _, I1, rfl, ⟨_, _, x, y, rfl, I.hok.fresh (Nat.le_refl _), rfl, rfl, hx, hy⟩, ⟨z'', ?_, ⟨u, u2, ?_⟩, ?_, ?_⟩, fun c hcm => ?_⟩
    · exact (sb.2 _ D.TIz).trans (hk _ _ D.TIz D.TITO D.TIi1 D.TIi2 hTI)
    · exact (sb.2 _ D.TOz).trans TO'
    · exact h1'.at fun o q => (sb.2 _ D.i1z).trans q
    · exact h2'.at fun o q => (sb.2 _ D.i2z).trans q
    · have hlt : c < s.heap.objs.size := by
        have e' : c = z ∨ c = TI ∨ c = TO ∨ c = i1 ∨ c = i2 := by simpa using hcm
        rcases e' with q | q | q | q | q
        · rw [q]; exact hzl
        · rw [q]; exact Heap.lt_size hTI
        · rw [q]; exact Heap.lt_size hTO
        · rw [q]; obtain ⟨_, e1, _⟩ := h1; exact Heap.lt_size e1
        · rw [q]; obtain ⟨_, e2, _⟩ := h2; exact Heap.lt_size e2
      rw [upd_ne (Nat.ne_of_lt hlt)]
      exact (hf c hcm).1
  done := by
    intro X hP hw hK hc i pins s σ H E I hf st hg
    subst hP hw hK
    obtain ⟨hz, hTI, ⟨x0, y0, hTO⟩, h1, h2⟩ := st
    obtain ⟨hqx, hqy, hend⟩ := hg
    have hh : X.A.in1.handled = none := I.ok.hd hc
    have S1 := steps_of (A := X.A.in1) (it := i1) I hh hqx b1
    have S2 := steps_of (A := X.A.in1) (it := i2) I hh hqy b2
    exact nextZ_end D S1 S2 hz hTI hTO h1 h2 hend fun h' tk hk => ⟨rfl, I.turnedL (t' := tk) (ch := [z, TI, TO, i1, i2]) (fun c o hb q =>
      hk c o (fun q' => hb (by simp [q'])) (fun q' => hb (by simp [q'])) (fun q' => hb (by simp [q'])) (fun q' => hb (by simp [q'])) q) hf⟩
  self := fun A i s Q E st h => wpAny_pyIter_zip st.1 h
theorem zapart (n : Nat) : ZApart (n + 4) (n + 2) (n + 3) n (n + 1) := by
  have h : ∀ a b : Nat, a ≠ b → (show Addr from a) ≠ (show Addr from b) := fun a b h => h
  exact ⟨h _ _ (by omega), h _ _ (by omega), h _ _ (by omega), h _ _ (by omega), h _ _ (by omega), h _ _ (by omega), h _ _ (by omega), h _ _ (by omega), h _ _ (by omega), h _ _ (by omega)⟩
theorem notin4 {n a : Nat} (h : a < n) : a ∉ [n + 4, n + 3, n, n + 1] := by
  simp only [List.mem_cons, List.not_mem_nil, or_false, not_or]
  omega
def iZipV (K : PySem.W.Frag) (ta : TA) : TI := fun σ H R => ta σ H fun vs H1 => ∃ p q T1 T2 xs ys, vs = [p, q] ∧ Stays K H1 p T1 xs ∧ Stays K H1 q T2 ys ∧
  ∀ v1 v2, RelV p v1 → RelV q v2 → R (ItzV K v1 v2 T1 T2 xs ys) H1
theorem pi_zipV {X : Cx} {e e2 : Expr} {ta : TA} {p pos tpos : Pos} {elts : List Expr} {kk : Nat} (hg : Gl X "zip") (hm : X.mg "zip" = none) (ha : PA X [e, e2] ta)
    (hs : starEach [e, e2] X.env = (false, eval e X.env) :: starEach [e2] X.env := by rfl) (hpl : (backTo pos (starEach [e2] X.env)).any (·.1) = false := by rfl) :
    PI X (.Tuple elts kk tpos) (.Call (.Name "zip" p) [e, e2] [] pos) (iZipV X.K ta) := by
  refine ⟨fun pins s σ H R I h => ?_⟩
  refine Call_ (ld_blt I hg hm PyProof.Rows.boot_zip (PyProof.Rows.callWith_type1 (thn (ha.run pos pins s σ H _ I h) fun us s1 ⟨vs, H1, I1, r1, q1⟩ => ?_) hs hpl))
  obtain ⟨p, q, T1, T2, xs, ys, ex, h1, h2, hR⟩ := q1
  subst ex
  cases r1 with
  | cons r rr =>
    rename_i u1 us1
    cases rr with
    | cons r' rr =>
      rename_i u2 us2
      cases rr
      have q1 := sqV_of h1 r
      have q2 := sqV_of h2 r'
      have fresh5 : ∀ c, c ∈ [s1.heap.objs.size + 4, s1.heap.objs.size + 2, s1.heap.objs.size + 3, s1.heap.objs.size, s1.heap.objs.size + 1] → FpOk X pins H1 c := fun c hcm => by
        have e' : c = s1.heap.objs.size + 4 ∨ c = s1.heap.objs.size + 2 ∨ c = s1.heap.objs.size + 3 ∨ c = s1.heap.objs.size ∨ c = s1.heap.objs.size + 1 := by simpa using hcm
        have hle : s1.heap.objs.size ≤ c := by omega
        exact I1.fpOk hle (I1.hok.fresh hle)
      have old : ∀ {v : Value} {T : String} {xs : List V}, SqV X.K H1 v T xs → ∀ a, v = .ref a → a < s1.heap.objs.size := fun {v T xs} q a e => by
        cases q with
        | lst e2 hq => rw [e2] at e; cases e; obtain ⟨its, rv, pl, _⟩ := I1.list hq; exact pl.lt
        | tup e2 hq => rw [e2] at e; cases e; obtain ⟨its, rv, pl, _⟩ := I1.tuple hq; obtain ⟨o, ho, _⟩ := pl; exact Heap.lt_size ho
        | str e2 => rw [e2] at e; cases e
      refine call_zipV I1 q1 q2 fun h' hz hTI hTO i1 i2 hsz hk => wpAny_pyIter_zip hz ?_
      have I2 : Inv X pins σ H1 { s1 with heap := h' } := I1.kept (t' := s1.toks) hk
      exact ⟨s1.heap.objs.size + 4, [s1.heap.objs.size + 4, s1.heap.objs.size + 2, s1.heap.objs.size + 3, s1.heap.objs.size, s1.heap.objs.size + 1], _, _, H1, rfl, I2, turn_zipV (zapart _) (fun a e => notin4 (old q1 a e)) (fun a e => notin4 (old q2 a e)), ⟨hz, hTI, ⟨_, _, hTO⟩, i1, i2⟩, fresh5, hR _ _ r r'⟩
/-! ### zip in a loop of the layer -/
theorem Stays.mono {K : PySem.W.Frag} {H H' : Hp} {x : V} {T : String} {vs : List V} (s : Same H H') (h : Stays K H x T vs) : Stays K H' x T vs := by
  cases h with
  | lst q => exact .lst (Same.seq s q)
  | tup q => exact .tup (sqt_mono s q)
  | str => exact .str
theorem stays_of {P : Par} {I : Hp} {d : D} {x : V} {ds : List D} (h : Rep P I d x) (e : itemsOf d = .ok ds) : ∃ T vs, Stays P.K I x T vs ∧ RepL P I ds vs := by
  cases d with
  | lst l =>
    cases e
    obtain ⟨a, vs, e, q, r⟩ := h
    subst e
    exact ⟨_, vs, .lst (SqL.of q), r⟩
  | tup l =>
    cases e
    obtain ⟨a, vs, e, q, r, _⟩ := h
    subst e
    exact ⟨_, vs, .tup q, r⟩
  | str l =>
    cases e
    obtain ⟨e, hv⟩ := h
    subst e
    exact ⟨_, _, .str, by simpa using sgs_rep hv⟩
  | _ => cases e
theorem SqV.mono {K : PySem.W.Frag} {H H' : Hp} {v : Value} {T : String} {vs : List V} (s : Same H H') (h : SqV K H v T vs) : SqV K H' v T vs := by
  cases h with
  | lst e q => exact .lst e (Same.seq s q)
  | tup e q => exact .tup e (sqt_mono s q)
  | str e => exact .str e
theorem src_zip {P : Par} {I : Hp} {v1 v2 : Value} {T1 T2 : String} {xs ys : List V} {ds es : List D} (h1 : SqV P.K I v1 T1 xs) (h2 : SqV P.K I v2 T2 ys) (r1 : RepL P I ds xs) (r2 : RepL P I es ys) : Src P I (ItzV P.K v1 v2 T1 T2 xs ys) ((ds.zip es).map fun p => D.tup [p.1, p.2]) := by
  refine ⟨fun H => SqV P.K H v1 T1 xs ∧ SqV P.K H v2 T2 ys, fun i H v H' => ∃ (T : Addr) (o : Obj) (x y : V), v = .ref T ∧ H T = none ∧ o.dict = none ∧ H' = upd H T (.frz o (.tup [x, y])) ∧ xs[i]? = some x ∧ ys[i]? = some y, ⟨fun i H hi q => ?_, fun H q => ?_, fun i H v H' hi q y => y⟩, fun H s => ⟨h1.mono s, h2.mono s⟩, fun i H x H' I1 hi s1 s2 y => ?_⟩
  · have hi' : i < xs.length ∧ i < ys.length := by
      have := r1.length; have := r2.length
      simp only [List.length_map, List.length_zip] at hi
      omega
    exact ⟨xs[i]'hi'.1, ys[i]'hi'.2, q.1, q.2, List.getElem?_eq_getElem hi'.1, List.getElem?_eq_getElem hi'.2⟩
  · have := r1.length; have := r2.length
    refine ⟨q.1, q.2, ?_⟩
    simp only [List.length_map, List.length_zip]
    omega
  · obtain ⟨T, o, u, w, e1, e2, eo, e3, e4, e5⟩ := y
    obtain ⟨d, g1, g2⟩ := r1.got e4
    obtain ⟨e, g3, g4⟩ := r2.got e5
    subst e3
    have x2 := Ext.new s2 (.frz o (.tup [u, w])) e2
    refine ⟨_, .tup [d, e], x2, ?_, T, [u, w], e1, SqT.frz upd_same, ⟨u, [w], rfl, g2.mono (s1.trans x2.ii), w, [], rfl, g4.mono (s1.trans x2.ii), rfl⟩, fun _ => ⟨o, _, upd_same, eo⟩⟩
    rw [List.getElem?_map, (List.getElem?_zip_eq_some (z := (d, e))).mpr ⟨g1, g3⟩]
    rfl
section
variable {X : Cx} {cl : Cls} {t : Addr} {W : WX} {a b : Expr} {elts : List Expr} {fa fb : FE} {pos : Pos}
/-- zip(a, b) -/
theorem di_zip {kk : Nat} {tpos p : Pos} (ha : DE X cl t W a fa) (hb : DE X cl t W b fb) (hm : X.mg "zip" = none) (hg : Gl X "zip" := by rfl)
    (he : starEach [a, b] X.env = (false, eval a X.env) :: starEach [b] X.env := by rfl) (he2 : starEach [b] X.env = (false, eval b X.env) :: starEach [] X.env := by rfl) (hpl : (backTo pos (starEach [b] X.env)).any (·.1) = false := by rfl) :
    DI X cl t W (.Tuple elts kk tpos) (.Call (.Name "zip" p) [a, b] [] pos) (iZip fa fb) := by
  refine ⟨_, pi_zipV hg hm (pa_cons (PE.mv ha) (pa_cons (PE.mv hb) pa_nil he2) he) he hpl, fun I G H σ ρ Q s q => ?_⟩
  unfold iZip at q
  rw [outP_bind] at q
  refine DE.keepLE (W := W) s (q.imp (fun x q I1 H1 v s1 st1 r1 => ?_) fun _ z => z)
  rw [outP_bind] at q
  refine DE.keepLE (W := W) st1 (q.imp (fun y q I2 H2 u s2 st2 r2 => ?_) fun _ z => z.mono s1)
  cases e1 : itemsOf x.1 with
  | bad => rw [e1] at q; exact q.elim
  | exc er => exact absurd e1 (by cases x.1 <;> simp [itemsOf])
  | ok ds =>
    rw [e1] at q
    simp only [Out.bind_ok] at q
    cases e2 : itemsOf y.1 with
    | bad => rw [e2] at q; exact q.elim
    | exc er => exact absurd e2 (by cases y.1 <;> simp [itemsOf])
    | ok es =>
      rw [e2] at q
      obtain ⟨T1, xs, h1, l1⟩ := stays_of (r1.mono s2) e1
      obtain ⟨T2, ys, h2, l2⟩ := stays_of r2 e2
      exact ⟨v, u, T1, T2, xs, ys, rfl, h1.mono st2.b.ih, h2.mono st2.b.ih, fun v1 v2 w1 w2 => q I2 H2 _ (s1.trans s2) st2 (src_zip (sqV_of h1 w1) (sqV_of h2 w2) l1 l2)⟩
end
end Den

/-! DenEnum: enumerate of lists, tuples, texts. -/
namespace Den
open PySem PySem.Spec PyProof.Rows L2
theorem drawsT {P : Program} {w : World} {A : Around} (hh : A.handled = none) (it l : Addr) (hne : l ≠ it) (items : Array Value) :
    Draws P w A it [it, l] items.size (fun i v => items[i]? = some v) (fun i h => h.IsTupleIter it l i ∧ h.IsTuple l items) where
  live := fun _ _ st => let ⟨o, ho, _⟩ := st.1; ⟨o, ho⟩
  frame := fun _ _ _ st hk => ⟨st.1.at fun o e => hk it (by simp) o e, st.2.at fun o e => hk l (by simp) o e⟩
  item := fun i s Q E hi st hQ => by
    refine RZ.nextOf_tuple_item st.1 st.2 (x := items[i]) (by simp [hi]) fun h' hit' hs' => ?_
    exact hQ _ h' s.toks (by simp [hi]) ⟨hit', st.2.extBut hs'.extBut hne⟩ hs'
  done := fun s Q E st hE => RZ.nextOf_tuple_end hh st.1 st.2 (by simp) hE
theorem draws_of {X : Cx} {pins : List (Addr × Obj)} {σ : L2.St} {H : Hp} {s : Shared} {A : Around} {it : Addr} {T : String} {v : Value} {vs : List V} (I : Inv X pins σ H s) (hh : A.handled = none) (q : SqV X.K H v T vs) (hb : ∀ a, v = .ref a → a ≠ it) :
    ∃ (fp : List Addr) (Pv : Nat → Value → Prop) (St : Nat → Heap → Prop), Draws X.prog X.w A it fp vs.length Pv St ∧ (∀ i, IsIt s.heap it T v i → St i s.heap) ∧ (∀ i h, St i h → IsIt h it T v i) ∧ (∀ i u, Pv i u → ∃ x, vs[i]? = some x ∧ RelV x u) ∧ ∀ b ∈ fp, b = it ∨ v = .ref b := by
  have mem2 : ∀ (l : Addr) (b : Addr), b ∈ [it, l] → v = .ref l → b = it ∨ v = .ref b := fun l b hb e => by
    rcases List.mem_cons.mp hb with z | z
    · exact .inl z
    · rw [List.mem_singleton] at z; subst z; exact .inr e
  have got : ∀ {its : List Value}, Vals vs its → ∀ (i : Nat) (u : Value), its.toArray[i]? = some u → ∃ x, vs[i]? = some x ∧ RelV x u := fun {its} rv i u h => by
    have h' : its[i]? = some u := by simpa using h
    have hl := rv.length
    have hi : i < vs.length := by have := (List.getElem?_eq_some_iff.mp h').1; omega
    obtain ⟨u', hu', ru⟩ := rv.get (List.getElem?_eq_getElem hi)
    rw [h'] at hu'; cases hu'
    exact ⟨_, List.getElem?_eq_getElem hi, ru⟩
  cases q with
  | lst e hq =>
    rename_i l
    obtain ⟨its, rv, pl, hz⟩ := I.list hq
    have hlen : its.toArray.size = vs.length := by rw [List.size_toArray]; exact rv.length.symm
    have D := Draws.list (prog := X.prog) (w := X.w) hh it l (hb l e) its.toArray
    rw [hlen] at D
    subst e
    exact ⟨_, _, _, D, fun i h => ⟨h, pl.isList⟩, fun i h st => st.1, got rv, fun b hb => mem2 l b hb rfl⟩
  | tup e hq =>
    rename_i l
    obtain ⟨its, rv, pl, hz⟩ := I.tuple hq
    have hlen : its.toArray.size = vs.length := by rw [List.size_toArray]; exact rv.length.symm
    have D := drawsT (P := X.prog) (w := X.w) hh it l (hb l e) its.toArray
    rw [hlen] at D
    subst e
    exact ⟨_, _, _, D, fun i h => ⟨h, pl⟩, fun i h st => st.1, got rv, fun b hb => mem2 l b hb rfl⟩
  | str e =>
    rename_i z t
    subst e
    have gs : ∀ (i : Nat) (u : Value), (∃ c t', z.cps[i]? = some c ∧ u = .str ⟨#[c]⟩ t') → ∃ x, (z.cps.toList.map fun c => V.str ⟨#[c]⟩)[i]? = some x ∧ RelV x u := fun i u h => by
      obtain ⟨c, t', e1, e2⟩ := h
      refine ⟨.str ⟨#[c]⟩, ?_, t', e2⟩
      rw [List.getElem?_map, Array.getElem?_toList, e1]
      rfl
    have hlen : z.cps.size = (z.cps.toList.map fun c => V.str ⟨#[c]⟩).length := by rw [List.length_map, Array.length_toList]
    unfold strIterType
    split
    · have D := Draws.strAscii (prog := X.prog) (w := X.w) hh it z t
      rw [hlen] at D
      exact ⟨_, _, _, D, fun i h => h, fun i h st => st, gs, fun b hb => .inl (List.mem_singleton.mp hb)⟩
    · have D := Draws.strWide (prog := X.prog) (w := X.w) hh it z t
      rw [hlen] at D
      exact ⟨_, _, _, D, fun i h => h, fun i h st => st, gs, fun b hb => .inl (List.mem_singleton.mp hb)⟩
def IteV (K : PySem.W.Frag) (v : Value) (T : String) (xs : List V) : It :=
  ⟨fun i H => SqV K H v T xs ∧ i < xs.length,
    fun i H u H' => ∃ a x, u = .ref a ∧ H a = none ∧ H' = upd H a (.tup [.int (i : Nat), x]) ∧ xs[i]? = some x,
    fun i H => SqV K H v T xs ∧ i = xs.length⟩
theorem turn_enumV {P : Program} {w : World} {K : PySem.W.Frag} {elts : List Expr} {kk : Nat} {tpos : Pos} {v : Value} {T : String} {xs : List V} {e it : Addr} (hei : e ≠ it) (hv : ∀ a, v = .ref a → a ≠ it ∧ a ≠ e) :
    Turn P w K (.Tuple elts kk tpos) (IteV K v T xs) [e, it] e (fun i h => (∃ old, IsEnum h e it ((i : Nat) : Int) old) ∧ IsIt h it T v i) where
  mem := by simp
  obj := fun i h st b hb => by
    obtain ⟨⟨old, he⟩, ⟨o, ho, hc, hd⟩⟩ := st
    have e' : b = e ∨ b = it := by simpa using hb
    rcases e' with z | z
    · rw [z]; exact ⟨_, he, fun v q => nomatch q⟩
    · rw [z]; exact ⟨o, ho, fun v q => by rw [hd] at q; cases q⟩
  keep := fun i h h' st k => let ⟨⟨old, he⟩, hi⟩ := st; ⟨⟨old, k e (by simp) _ he⟩, hi.at fun o q => k it (by simp) o q⟩
  item := by
    intro X hP hw hK hc i pins s σ H E I hf st hg
    subst hP hw hK
    obtain ⟨⟨old, he⟩, hit⟩ := st
    obtain ⟨hq, hi⟩ := hg
    have hh : X.A.in1.handled = none := I.ok.hd hc
    obtain ⟨fp, Pv, St, D, d1, d2, d3, d4⟩ := draws_of (A := X.A.in1) (it := it) I hh hq fun a ea => (hv a ea).1
    have hel : e < s.heap.objs.size := Heap.lt_size he
    have hil : it < s.heap.objs.size := by obtain ⟨_, q, _⟩ := hit; exact Heap.lt_size q
    have hef : e ∉ fp := fun hm => (d4 e hm).elim (fun z => hei z) fun z => (hv e z).2 rfl
    refine wpAny_pyNext_enum_itemD D he (d1 i hit) hi hei hef fun u h' tk hPv ho hst' hT hsz hk => ?_
    obtain ⟨x, hx, ru⟩ := d3 i u hPv
    have hit' := d2 _ _ hst'
    refine ⟨_, rfl, wpAny_letOwnedTupleGo_enum (s := { s with heap := h', toks := tk + 1 }) ho fun h'' he' sb => ?_⟩
    have hT2 : h''.get? s.heap.objs.size = some { cls := .type "tuple", data := .seq #[.int i tk, u] } := (sb.2 _ (Nat.ne_of_gt hel)).trans hT
    have new : ObjOk X.prog X.w (upd H s.heap.objs.size (.tup [.int (i : Nat), x])) h'' s.heap.objs.size (.tup [.int (i : Nat), x]) :=
      ⟨by show 2 ≤ sizeLine; decide, [.int i tk, u], .cons ⟨_, rfl⟩ (.cons ru .nil), ⟨_, hT2, rfl, _, rfl⟩⟩
    have I1 : Inv X pins σ (upd H s.heap.objs.size (.tup [.int (i : Nat), x])) { s with heap := h'', toks := tk + 1 } :=
      I.turnedNew (ch := [e, it]) (fun b ob hb q => (sb.2 b (fun z => hb (by simp [z]))).trans (hk b ob (fun z => hb (by simp [z])) (fun z => hb (by simp [z])) q)) hf (Nat.le_refl _) new
    refine ⟨.ref s.heap.objs.size, _, I1, rfl, ⟨_, x, rfl, I.hok.fresh (Nat.le_refl _), rfl, hx⟩, ⟨⟨u, ?_⟩, hit'.at fun o q => (sb.2 it (Ne.symm hei)).trans q⟩, fun b hb => ?_⟩
    · have e1 : ((i + 1 : Nat) : Int) = (i : Int) + 1 := by omega
      rw [e1]; exact he'
    · have hb' : b < s.heap.objs.size := by
        have e' : b = e ∨ b = it := by simpa using hb
        rcases e' with z | z
        · rw [z]; exact hel
        · rw [z]; exact hil
      rw [upd_ne (Nat.ne_of_lt hb')]
      exact (hf b hb).1
  done := by
    intro X hP hw hK hc i pins s σ H E I hf st hg
    subst hP hw hK
    obtain ⟨⟨old, he⟩, hit⟩ := st
    obtain ⟨hq, hi⟩ := hg
    have hh : X.A.in1.handled = none := I.ok.hd hc
    obtain ⟨fp, Pv, St, D, d1, d2, d3, d4⟩ := draws_of (A := X.A.in1) (it := it) I hh hq fun a ea => (hv a ea).1
    obtain ⟨f0, f1, f2, f3, f4, f5⟩ := hf it (by simp)
    have st' := d1 i hit
    rw [hi] at st'
    exact wpAny_pyNext_enum_endD D he st' fun h' eb => ⟨rfl, I.turned (t' := s.toks) (fun b o hb q => eb b o hb q) f0 f1 f3 f4 f5⟩
  self := fun A i s Q E st h => let ⟨⟨_, he⟩, _⟩ := st; wpAny_pyIter_enum he h
theorem meets_enumV (v : Value) (T : String) :
    Meets (Builtin.«enumerate.__new__» ⟨[.type "enumerate", v], []⟩) (fun _ R s => IterGen s v T ∧
      R (.ok (.ret (.ref (s.heap.push (itO T v)).objs.size))) { s with heap := (s.heap.push (itO T v)).push { cls := .type "enumerate", data := .fields #[.none, .bool false, .ref s.heap.objs.size, rawInt 0, .none, .none] } }) :=
  .of_wp fun prog w A R s h => by
    obtain ⟨hp, g, d, tk, os⟩ := s; obtain ⟨hl, h⟩ := h
    have hsub := sub_enumerate
    have hL : ∀ {A' : Around} {E' Q' : Value → Shared → Prop}, Q' (.ref hp.objs.size) ⟨hp.push (itO T v), g, d, tk, os⟩ → wpAny (model prog w) A' (pyIter v) Q' E' ⟨hp, g, d, tk, os⟩ := fun {A' E' Q'} q => hl prog w A' E' Q' ⟨hp, g, d, tk, os⟩ (fun _ _ e => e) q
    wp_walk
    refine wpAny_stack_any fun st => wpAny_pure ?_
    split
    · rename_i c _ _ _ _ _
      cases (c == Value.type "enumerate")
      · wp_walk using hL
        exact ⟨_, rfl, h⟩
      · wp_walk using hL
        exact ⟨_, rfl, h⟩
    · wp_walk using hL
      exact ⟨_, rfl, h⟩
theorem call_enumV {X : Cx} {pins : List (Addr × Obj)} {σ : L2.St} {H : Hp} {s : Shared} {A : Around} {E Q : Value → Shared → Prop} {T : String} {v : Value} {xs : List V} (I : Inv X pins σ H s) (q : SqV X.K H v T xs)
    (h : ∀ h', IsEnum h' (s.heap.objs.size + 1) s.heap.objs.size 0 .none → IsIt h' s.heap.objs.size T v 0 → (∀ b o, s.heap.get? b = some o → h'.get? b = some o) → Q (.ref (s.heap.objs.size + 1)) { s with heap := h' }) :
    wpAny (model X.prog X.w) A (call (.type "enumerate") [v]) Q E s := by
  refine callType_new F.called_enumerate (by decide) (F.typeCall_enumerate_1 _) (F.newCall_enumerate_1 _) (fun obj => F.args_object_init_2 obj _) F.entry_enumerate_new
    (meets_enumV v T) ⟨iterGen_of I q, ?_⟩
  have hz : (s.heap.push (itO T v)).objs.size = s.heap.objs.size + 1 := Heap.size_push ..
  show _ ∧ _
  rw [hz]
  have he : IsEnum ((s.heap.push (itO T v)).push { cls := .type "enumerate", data := .fields #[.none, .bool false, .ref s.heap.objs.size, rawInt 0, .none, .none] }) (s.heap.objs.size + 1) s.heap.objs.size 0 .none := by
    have := Heap.get?_push_size (s.heap.push (itO T v)) (o := { cls := .type "enumerate", data := .fields #[.none, .bool false, .ref s.heap.objs.size, rawInt 0, .none, .none] }) rfl
    rw [hz] at this; exact this
  exact ⟨⟨_, he, rfl⟩, h _ he ⟨_, Heap.get?_push_of_some _ (Heap.get?_push_size _ rfl), rfl, rfl⟩ fun b o x => Heap.get?_push_of_some _ (Heap.get?_push_of_some _ x)⟩
def iEnumV (K : PySem.W.Frag) (ta : TA) : TI := fun σ H R => ta σ H fun vs H1 => ∃ p T xs, vs = [p] ∧ Stays K H1 p T xs ∧ ∀ v, RelV p v → R (IteV K v T xs) H1
theorem ne_two {n a : Nat} (h : a < n) : (show Addr from a) ≠ (show Addr from n) ∧ (show Addr from a) ≠ (show Addr from n + 1) := ⟨Nat.ne_of_lt h, Nat.ne_of_lt (Nat.lt_succ_of_lt h)⟩
theorem pi_enumV {X : Cx} {e : Expr} {ta : TA} {p pos tpos : Pos} {elts : List Expr} {kk : Nat} (hg : Gl X "enumerate") (hm : X.mg "enumerate" = none) (ha : PA X [e] ta) (hs : starEach [e] X.env = [(false, eval e X.env)] := by rfl) :
    PI X (.Tuple elts kk tpos) (.Call (.Name "enumerate" p) [e] [] pos) (iEnumV X.K ta) := by
  refine ⟨fun pins s σ H R I h => ?_⟩
  refine Call_ (ld_blt I hg hm boot_enumerate (PyProof.Rows.callWith_type1 (thn (ha.run pos pins s σ H _ I h) fun us s1 ⟨vs, H1, I1, r1, q1⟩ => ?_) hs rfl))
  obtain ⟨q, T, xs, ex, hq, hR⟩ := q1
  subst ex
  cases r1 with
  | cons r rr =>
    cases rr
    have q1 := sqV_of hq r
    have old : ∀ {v : Value} {T : String} {xs : List V}, SqV X.K H1 v T xs → ∀ a, v = .ref a → a < s1.heap.objs.size := fun {v T xs} q a e => by
      cases q with
      | lst e2 hq => rw [e2] at e; cases e; obtain ⟨its, rv, pl, _⟩ := I1.list hq; exact pl.lt
      | tup e2 hq => rw [e2] at e; cases e; obtain ⟨its, rv, pl, _⟩ := I1.tuple hq; obtain ⟨o, ho, _⟩ := pl; exact Heap.lt_size ho
      | str e2 => rw [e2] at e; cases e
    refine call_enumV I1 q1 fun h' he hit hk => wpAny_pyIter_enum he ?_
    have I2 : Inv X pins σ H1 { s1 with heap := h' } := I1.kept (t' := s1.toks) hk
    refine ⟨s1.heap.objs.size + 1, [s1.heap.objs.size + 1, s1.heap.objs.size], _, _, H1, rfl, I2, turn_enumV (Nat.succ_ne_self _) (fun a ea => ne_two (old q1 a ea)), ⟨⟨.none, he⟩, hit⟩, fun b hb => ?_, hR _ r⟩
    have e' : b = s1.heap.objs.size + 1 ∨ b = s1.heap.objs.size := by simpa using hb
    have hle : s1.heap.objs.size ≤ b := by
      rcases e' with z | z
      · rw [z]; exact Nat.le_add_right _ _
      · rw [z]; exact Nat.le_refl _
    exact I1.fpOk hle (I1.hok.fresh hle)
theorem numbered_len : ∀ (k : Nat) (ds : List D), (numbered k ds).length = ds.length
  | _, [] => rfl
  | k, d :: ds => by simp [numbered, numbered_len (k + 1) ds]
theorem numbered_get : ∀ (k : Nat) (ds : List D) (i : Nat) (d : D), ds[i]? = some d → (numbered k ds)[i]? = some (.tup [.int ((k + i : Nat) : Int), d])
  | _, [], _, _, h => by simp at h
  | k, d :: ds, 0, _, h => by simp at h; subst h; rfl
  | k, d :: ds, i + 1, _, h => by
    have z := numbered_get (k + 1) ds i _ (by simpa using h)
    have e : k + 1 + i = k + (i + 1) := by omega
    rw [e] at z
    simpa [numbered] using z
theorem src_enum {P : Par} {I : Hp} {v : Value} {T : String} {xs : List V} {ds : List D} (h : SqV P.K I v T xs) (r : RepL P I ds xs) : Src P I (IteV P.K v T xs) (numbered 0 ds) := by
  refine ⟨fun H => SqV P.K H v T xs, fun i H u H' => ∃ a x, u = .ref a ∧ H a = none ∧ H' = upd H a (.tup [.int (i : Nat), x]) ∧ xs[i]? = some x, ⟨fun i H hi q => ?_, fun H q => ?_, fun i H v H' hi q y => y⟩, fun H s => h.mono s, fun i H x H' I1 hi s1 s2 y => ?_⟩
  · rw [numbered_len] at hi
    exact ⟨q, by rw [← r.length]; exact hi⟩
  · rw [numbered_len]
    exact ⟨q, r.length⟩
  · obtain ⟨a, u, e1, e2, e3, e4⟩ := y
    obtain ⟨d, g1, g2⟩ := r.got e4
    subst e3
    have x2 := Ext.new s2 (.tup [.int (i : Nat), u]) e2
    refine ⟨_, .tup [.int (i : Nat), d], x2, ?_, a, [.int (i : Nat), u], e1, SqT.of upd_same, ⟨_, [u], rfl, rfl, u, [], rfl, g2.mono (s1.trans x2.ii), rfl⟩, fun z => nomatch z⟩
    have z := numbered_get 0 ds i d g1
    simpa using z
section
variable {X : Cx} {cl : Cls} {t : Addr} {W : WX} {a : Expr} {elts : List Expr} {fa : FE} {pos : Pos}
/-- enumerate(a) -/
theorem di_enum {kk : Nat} {tpos p : Pos} (ha : DE X cl t W a fa) (hm : X.mg "enumerate" = none) (hg : Gl X "enumerate" := by rfl)
    (he : starEach [a] X.env = (false, eval a X.env) :: starEach [] X.env := by rfl) (hs : starEach [a] X.env = [(false, eval a X.env)] := by rfl) :
    DI X cl t W (.Tuple elts kk tpos) (.Call (.Name "enumerate" p) [a] [] pos) (iEnumD fa) := by
  refine ⟨_, pi_enumV hg hm (pa_cons (PE.mv ha) pa_nil he) hs, fun I G H σ ρ Q s q => ?_⟩
  unfold iEnumD at q
  rw [outP_bind] at q
  refine DE.keepLE (W := W) s (q.imp (fun x q I1 H1 v s1 st1 r1 => ?_) fun _ z => z)
  cases e1 : itemsOf x.1 with
  | bad => rw [e1] at q; exact q.elim
  | exc er => exact absurd e1 (by cases x.1 <;> simp [itemsOf])
  | ok ds =>
    rw [e1] at q
    obtain ⟨T1, xs, h1, l1⟩ := stays_of r1 e1
    exact ⟨v, T1, xs, rfl, h1.mono st1.b.ih, fun v1 w1 => q I1 H1 _ s1 st1 (src_enum (sqV_of h1 w1) l1)⟩
end
end Den

/-! DenDict: dict(x) of pairs. -/
namespace Den
open PySem PySem.Spec PyProof.Rows L2
section
variable {X : Cx} {cl : Cls} {t : Addr} {W : WX} {a : Expr} {fa : FE} {pos p : Pos}
theorem pairs_mapped {prs : List (Key × Value)} {items : List Value} {ps : List Addr} {h : Heap} (hl : prs.length = ps.length) (ei : items = ps.map Value.ref)
    (hp : ∀ (j : Nat) (q : Key × Value), prs[j]? = some q → ∃ (b : Addr) (u : Value), ps[j]? = some b ∧ IsTup h b #[u, q.2] ∧ keyIs q.1 u = true) :
    ∃ vps : List (Value × Value), PairItems h items.toArray (fun j => (ps[j]?).getD 0) vps ∧ vps.length = prs.length ∧ ∀ (i : Nat) (k v : Value), vps[i]? = some (k, v) → ∃ q, prs[i]? = some (q, v) ∧ keyIs q k = true := by
  subst ei
  have ex : ∃ vps : List (Value × Value), vps.length = prs.length ∧ ∀ (i : Nat) (k v : Value), vps[i]? = some (k, v) → ∃ q b, prs[i]? = some (q, v) ∧ keyIs q k = true ∧ ps[i]? = some b ∧ IsTup h b #[k, v] := by
    induction prs generalizing ps with
    | nil => exact ⟨[], rfl, fun i k v e => by simp at e⟩
    | cons q prs ih =>
      cases ps with
      | nil => simp at hl
      | cons b ps =>
        obtain ⟨vps, l, hv⟩ := ih (by simpa using hl) fun j q e => by simpa using hp (j + 1) q (by simpa using e)
        obtain ⟨b', u, e1, e2, e3⟩ := hp 0 q rfl
        cases e1
        refine ⟨(u, q.2) :: vps, by simp [l], fun i k v e => ?_⟩
        cases i with
        | zero =>
          simp at e
          obtain ⟨rfl, rfl⟩ := e
          exact ⟨q.1, b, rfl, e3, rfl, e2⟩
        | succ i => simpa using hv i k v (by simpa using e)
  obtain ⟨vps, l, hv⟩ := ex
  refine ⟨vps, ⟨by simp [l, hl], fun j k v e => ?_⟩, l, fun i k v e => ?_⟩
  · obtain ⟨q, b, e1, e2, e3, e4⟩ := hv j k v e
    refine ⟨by simp [e3], .inl ?_⟩
    simp only [e3, Option.getD_some]
    exact e4
  · obtain ⟨q, b, e1, e2, _⟩ := hv i k v e
    exact ⟨q, e1, e2⟩
/-- dict(t) of a tuple of pairs (key, value) -/
theorem call_dictT (hcalm : X.calm = true) : CallR X (.type "dict") (fun xs H Q => ∃ (a : Addr) (ps : List Addr) (kvs : List (Key × V)), xs = [.ref a] ∧ SqT X.K H a (ps.map V.ref) ∧ NoD H a ∧ Paired (fun p kv => SqT X.K H p [kV kv.1, kv.2]) ps kvs ∧
    ∀ p, H p = none → Q (.ref p) (upd H p (.dK (mergeK [] kvs)))) := by
  intro pins s σ H xs us Q I r q
  obtain ⟨a, ps, kvs, ex, hq, ⟨o, ob, hob, hno⟩, hp, q⟩ := q
  subst ex
  obtain ⟨u, eu, rx⟩ := vals1 r
  subst eu
  cases rx
  obtain ⟨ho, _⟩ := I.hok a _ hob
  obtain ⟨its, rv, ⟨o', ho', hc, n, hd⟩, hz⟩ := I.tuple hq
  rw [ho] at ho'
  cases ho'
  have ei := refs_at rv
  rw [List.length_map] at hz
  obtain ⟨prs, rel, hl, hpr⟩ := pairs_of I hp
  obtain ⟨vps, pi, pl, ph⟩ := pairs_mapped hl ei hpr
  have hlen : (mergeK [] kvs).length ≤ sizeLine := by
    refine Nat.le_trans (length_mergeK kvs []) ?_
    rw [List.length_nil, Nat.zero_add, rel.length, hl]
    exact hz
  refine PySem.call_dict_pairs (knd := mixKind X.prog X.w) (kvs := prs) (PairArg.tuple a its.toArray _ vps) (I.ok.hd hcalm) ⟨⟨o, n, ho, hc, hno, hd⟩, pi⟩ ⟨pl.symm, fun i k v e => ?_⟩ (by rw [pl, hl]; exact hz) fun h' tk hd' k => ?_
  · obtain ⟨q, e1, e2⟩ := ph i k v e
    exact ⟨q, e1, e2⟩
  · have hm : (s.heap.objs.size == sysModules) = false := beq_eq_false_iff_ne.mpr (Nat.ne_of_gt I.big)
    exact ⟨.ref s.heap.objs.size, upd H s.heap.objs.size (.dK (mergeK [] kvs)), I.laid (t' := tk) (fun b o e => k b o (by simp) e) (Nat.le_refl _) (show ObjOk X.prog X.w _ _ _ (.dK (mergeK [] kvs)) from ⟨hlen, hm, merged [] prs, KV.merge rel .nil, hd'⟩), rfl, q _ (I.hok.fresh (Nat.le_refl _))⟩
theorem allOf_cons {α : Type} {f : D → Option α} {d : D} {ds : List D} {as : List α} (h : allOf f (d :: ds) = some as) : ∃ x r, f d = some x ∧ allOf f ds = some r ∧ as = x :: r := by
  rw [allOf] at h
  cases h1 : f d with
  | none => rw [h1] at h; cases h
  | some a =>
    cases h2 : allOf f ds with
    | none => rw [h1, h2] at h; cases h
    | some as' => rw [h1, h2] at h; cases h; exact ⟨a, as', rfl, rfl, rfl⟩
theorem pairKey_of {d : D} {k v : D} (h : pairOf d = some (k, v)) (hk : d.pairKey = true) : d = .tup [k, v] ∧ isKey k = true := by
  unfold pairOf at h
  split at h
  · rename_i k' v'
    cases h
    refine ⟨rfl, ?_⟩
    cases k <;> first | rfl | cases hk
  · cases h
theorem dictOf_v {P : Par} {I : Hp} : ∀ {ds : List D} {ps : List (D × D)} {vs : List V}, allOf pairOf ds = some ps → isPairs ds = true → RepL P I ds vs →
    ∃ (as : List Addr) (kvs : List (Key × V)), vs = as.map V.ref ∧ Paired (fun p kv => SqT P.K I p [kV kv.1, kv.2]) as kvs ∧ ∀ {acc : List (D × D)} {ws : List (Key × V)}, allKeys acc = true → RepP P I acc ws → RepP P I (putAll acc ps) (mergeK ws kvs)
  | [], _, _, h, _, r => by cases h; cases r; exact ⟨[], [], rfl, .nil, fun _ r => r⟩
  | d :: ds, ps, _, h, hp, ⟨v1, vr, e, r1, r2⟩ => by
    subst e
    obtain ⟨⟨k, x⟩, ps', h1, h2, e⟩ := allOf_cons h
    subst e
    have hp' : (D.pairKey d && isPairs ds) = true := hp
    rw [Bool.and_eq_true] at hp'
    obtain ⟨as, kvs, e2, pp, q⟩ := dictOf_v h2 hp'.2 r2
    obtain ⟨e3, ik⟩ := pairKey_of h1 hp'.1
    subst e3
    obtain ⟨a, us, e4, sq, ⟨u1, _, e5, g1, u2, _, e6, g2, e7⟩, _⟩ := r1
    subst e4 e7 e6 e5
    obtain ⟨kk, e8, q2⟩ := putS_v (H := I) (Rdb.of g1) ik g2
    subst e8
    exact ⟨a :: as, (kk, u2) :: kvs, by rw [e2]; rfl, .cons sq pp, fun {acc ws} h1 h2 => q (putS_keys h1 ik) (q2 h1 h2)⟩
theorem dictOf_ne : ∀ ds e, dictOf ds ≠ .exc e := by
  intro ds e
  unfold dictOf
  split
  · split <;> simp
  · simp
theorem paired_mono {K : PySem.W.Frag} {I H : Hp} (s : Same I H) : ∀ {as : List Addr} {kvs : List (Key × V)}, Paired (fun p kv => SqT K I p [kV kv.1, kv.2]) as kvs → Paired (fun p kv => SqT K H p [kV kv.1, kv.2]) as kvs
  | _, _, .nil => .nil
  | _, _, .cons h t => .cons (sqt_mono s h) (paired_mono s t)
/-- a new dict laid -/
theorem dd_new {q : Par} {I I1 G H1 : Hp} {σ : L2.St} {ρ : DS} {ds : List (D × D)} {ws : List (Key × V)} {Q : VK} (s1 : Same I I1) (st : St q t I1 G H1 σ ρ) (r : RepP q I1 ds ws)
    (k : ∀ I' H' a, Same I I' → St q t I' G H' σ ρ → I' a = none → G a = none → OwnAt q I' H' a (.dct ds) → (∀ (i : Nat) (sv : SV), ρ[i]? = some (some sv) → SV.own sv = true → σ[i]? ≠ some (some (V.ref a))) → Q (.ref a) H') : ∀ l, H1 l = none → Q (.ref l) (upd H1 l (.dK ws)) := fun l hl => by
  have x2 := Ext.newH st.b.ih (.dK ws) hl
  exact k _ _ l s1 (st.ext x2) (st.b.ih.free hl) (st.b.gh.free hl) ⟨ws, upd_same, r⟩ (fresh_not st hl)
/-- dict(a) -/
theorem dn_dictOf (hc : X.calm = true) (ha : DE X cl t W a fa) (hm : X.mg "dict" = none) (hg : Gl X "dict" := by rfl)
    (he : starEach [a] X.env = (false, eval a X.env) :: starEach [] X.env := by rfl) (hpl : (backTo pos (starEach [] X.env)).any (·.1) = false := by rfl) : DNw X cl t W (.Call (.Name "dict" p) [a] [] pos) (nDictOf fa) := by
  obtain ⟨ta, pa, la⟩ := ha.ex
  refine DNw.mk (pe_callTy (CallR.or (call_dictT hc) (call_dictP hc)) hg hm boot_dict (pa_cons pa pa_nil he) (by decide) (by decide) he hpl) (fun I G H σ ρ Q s q => ?_)
  refine la I G H σ ρ _ s ?_
  unfold nDictOf at q
  rw [outP_bind] at q
  refine q.imp (fun x q I1 H1 v s1 st1 r1 => ?_) fun _ z => z
  cases e1 : x.1.get x.2 with
  | bad => rw [e1] at q; exact q.elim
  | exc er => exact absurd e1 (get_exc _ _ _)
  | ok d =>
    rw [e1] at q
    simp only [Out.bind_ok] at q
    have hv := RR.get st1 r1 e1
    split at q
    · rename_i ds
      cases e2 : dictOf ds with
      | bad => rw [e2] at q; exact q.elim
      | exc er => exact absurd e2 (dictOf_ne _ _)
      | ok r =>
        rw [e2] at q
        unfold dictOf at e2
        split at e2
        · rename_i hp
          split at e2
          · rename_i ps hps
            cases e2
            obtain ⟨a1, vs, e3, _, w1, r2, n2⟩ := hv.tupN st1.b.ih
            obtain ⟨as, kvs, e4, pp, q2⟩ := dictOf_v hps hp.1 r2
            subst e4
            exact .inl ⟨a1, as, kvs, by rw [e3], sqt_mono st1.b.ih w1, (n2 hp.1).mono st1.b.ih, paired_mono st1.b.ih pp, dd_new s1 st1 (q2 (acc := []) (ws := []) rfl rfl) q⟩
          · cases e2
        · cases e2
    · rename_i ds
      cases e2 : dictOf ds with
      | bad => rw [e2] at q; exact q.elim
      | exc er => exact absurd e2 (dictOf_ne _ _)
      | ok r =>
        rw [e2] at q
        unfold dictOf at e2
        split at e2
        · rename_i hp
          split at e2
          · rename_i ps hps
            cases e2
            obtain ⟨a1, vs, e3, q1, r2⟩ := hv.lst st1.b.ih
            obtain ⟨as, kvs, e4, pp, q2⟩ := dictOf_v hps hp.1 r2
            subst e4
            exact .inr ⟨a1, as, kvs, by rw [e3], SqL.of q1, paired_mono st1.b.ih pp, dd_new s1 st1 (q2 (acc := []) (ws := []) rfl rfl) q⟩
          · cases e2
        · cases e2
    · exact q.elim
end
end Den

/-! DenPar: four names at once. -/
namespace Den
open PySem PySem.Spec PyProof.Rows L2
section
variable {p : Par} {t : Addr} {I G H : Hp} {σ : L2.St} {ρ : DS}
theorem SvL.more {H' : Hp} (s : Same H H') : ∀ {svs : List SV} {vs : List V}, SvL p I G H σ ρ svs vs → SvL p I G H' σ ρ svs vs
  | [], _, h => h
  | .fz d :: svs, _, ⟨v, vr, e, r, h⟩ => ⟨v, vr, e, r, SvL.more s h⟩
  | .ow d :: svs, _, ⟨a, vr, e, h1, h2, h3, h4, h5, h⟩ => ⟨a, vr, e, h1, h2, h3.mono (Same.refl _) (s a), h4, h5, SvL.more s h⟩
end
section
variable {X : Cx} {cl : Cls} {t : Addr} {W : WX} {a b c d : Expr} {fv : FV} {x y z u : PySem.Str} {px py pz pu pt pos pt2 : Pos} {kt k2 : Nat}
theorem ds_par4 {i j k m : Nat} (hc : X.calm = true) (hN : X.N.Nodup) (hv : DV X cl t W [a, b, c, d] fv) (hl : ∀ ρ x, fv ρ = .ok x → x.1.length = 4) (hi : X.N[i]? = some x := by rfl) (hj : X.N[j]? = some y := by rfl) (hk : X.N[k]? = some z := by rfl) (hm : X.N[m]? = some u := by rfl)
    (hx : X.env.scope.names.lookup x = some .local := by rfl) (hy : X.env.scope.names.lookup y = some .local := by rfl) (hz : X.env.scope.names.lookup z = some .local := by rfl) (hu : X.env.scope.names.lookup u = some .local := by rfl)
    (hw : swappedStores [.Tuple [.Name x px, .Name y py, .Name z pz, .Name u pu] kt pt] (.Tuple [a, b, c, d] k2 pt2) X.env = pure none := by rfl)
    (hs : swapsWithSole [.Tuple [.Name x px, .Name y py, .Name z pz, .Name u pu] kt pt] (.Tuple [a, b, c, d] k2 pt2) pos.line X.env = pure false := by rfl)
    (h1 : (assignEach [.Tuple [.Name x px, .Name y py, .Name z pz, .Name u pu] kt pt] X.env).map (·.2) = [assign (.Tuple [.Name x px, .Name y py, .Name z pz, .Name u pu] kt pt) X.env] := by rfl)
    (g1 : (assignEach [.Name x px, .Name y py, .Name z pz, .Name u pu] X.env).map (·.2) = assign (.Name x px) X.env :: (assignEach [.Name y py, .Name z pz, .Name u pu] X.env).map (·.2) := by rfl)
    (g2 : (assignEach [.Name y py, .Name z pz, .Name u pu] X.env).map (·.2) = assign (.Name y py) X.env :: (assignEach [.Name z pz, .Name u pu] X.env).map (·.2) := by rfl)
    (g3 : (assignEach [.Name z pz, .Name u pu] X.env).map (·.2) = assign (.Name z pz) X.env :: (assignEach [.Name u pu] X.env).map (·.2) := by rfl)
    (g4 : (assignEach [.Name u pu] X.env).map (·.2) = assign (.Name u pu) X.env :: (assignEach [] X.env).map (·.2) := by rfl)
    (g5 : (assignEach [.Name x px, .Name y py, .Name z pz, .Name u pu] X.env).length = 4 := by rfl) (g6 : (assignEach [.Name x px, .Name y py, .Name z pz, .Name u pu] X.env).findIdx? (·.1) = none := by rfl) :
    DS1 X cl t W (.Assign [.Tuple [.Name x px, .Name y py, .Name z pz, .Name u pu] kt pt] (.Tuple [a, b, c, d] k2 pt2) pos) (sPar [i, j, k, m] fv) := by
  obtain ⟨ta, pa, lv⟩ := hv
  refine DS1.mk (ps_asg (pe_tup pa) (pg_tup hc (pgs_cons (pg_name hN hi (.inl hx) (.inr hx)) (pgs_cons (pg_name hN hj (.inl hy) (.inr hy)) (pgs_cons (pg_name hN hk (.inl hz) (.inr hz)) (pgs_cons (pg_name hN hm (.inl hu) (.inr hu)) pgs_nil g4) g3) g2) g1) g5 g6) hs hw h1) fun I G H σ ρ Z s q => ?_
  unfold sPar at q
  rw [outP_bind] at q
  refine lv I G H σ ρ _ s ?_
  cases e1 : fv ρ with
  | bad => rw [e1] at q; exact q
  | exc er => rw [e1] at q; exact q
  | ok w =>
    rw [e1] at q
    intro I1 H1 vs s1 st1 r1
    have e2 := r1.len
    rw [hl _ _ e1] at e2
    match vs, e2 with
    | [v1, v2, v3, v4], _ =>
      refine ⟨by show 4 ≤ sizeLine; decide, fun q1 hq => ?_⟩
      have ex := Ext.newH st1.b.ih (.tup [v1, v2, v3, v4]) hq
      exact ⟨q1, [v1, v2, v3, v4], rfl, .inl (.inl upd_same), rfl, v1, _, rfl, v2, _, rfl, v3, _, rfl, v4, _, rfl, rfl, q I1 _ _ s1 (St.setAll (is := [i, j, k, m]) (st1.ext ex) (r1.more ex.hh))⟩
end
end Den

/-! DenN: dicts by tuples. -/
namespace Den
open PySem PySem.Spec PyProof.Rows L2
/-! ### keys -/
mutual
theorem nest_inj : ∀ {d e : D}, d.nk = true → e.nk = true → nest d = nest e → d = e
  | .non, e, h0, h, q => by
    cases e with
    | non => rfl
    | int y => exact nomatch (show NestedKey.none = NestedKey.num y from q)
    | str y => exact nomatch (show NestedKey.none = NestedKey.text ⟨List.toArray y⟩ from q)
    | tup y => exact nomatch (show NestedKey.none = NestedKey.tup (nestL y) from q)
    | _ => cases h
  | .int x, e, h0, h, q => by
    cases e with
    | non => exact nomatch (show NestedKey.num x = NestedKey.none from q)
    | int y =>
      have q' : NestedKey.num x = .num y := q
      injection q' with q'
      rw [q']
    | str y => exact nomatch (show NestedKey.num x = NestedKey.text ⟨List.toArray y⟩ from q)
    | tup y => exact nomatch (show NestedKey.num x = NestedKey.tup (nestL y) from q)
    | _ => cases h
  | .str x, e, h0, h, q => by
    cases e with
    | non => exact nomatch (show NestedKey.text ⟨List.toArray x⟩ = NestedKey.none from q)
    | int y => exact nomatch (show NestedKey.text ⟨List.toArray x⟩ = NestedKey.num y from q)
    | str y =>
      have q' : NestedKey.text ⟨List.toArray x⟩ = .text ⟨List.toArray y⟩ := q
      injection q' with q'
      have q2 := congrArg (fun z : PySem.Str => z.cps.toList) q'
      simp at q2
      rw [q2]
    | tup y => exact nomatch (show NestedKey.text ⟨List.toArray x⟩ = NestedKey.tup (nestL y) from q)
    | _ => cases h
  | .tup x, e, h0, h, q => by
    cases e with
    | non => exact nomatch (show NestedKey.tup (nestL x) = NestedKey.none from q)
    | int y => exact nomatch (show NestedKey.tup (nestL x) = NestedKey.num y from q)
    | str y => exact nomatch (show NestedKey.tup (nestL x) = NestedKey.text ⟨List.toArray y⟩ from q)
    | tup y =>
      have q' : NestedKey.tup (nestL x) = .tup (nestL y) := q
      injection q' with q'
      rw [nestL_inj h0 h q']
    | _ => cases h
  | .bl _, _, h, _, _ => by cases h
  | .lst _, _, h, _, _ => by cases h
  | .dct _, _, h, _, _ => by cases h
  | .dcn _, _, h, _, _ => by cases h
  | .exn _, _, h, _, _ => by cases h
  | .scr _, _, h, _, _ => by cases h
theorem nestL_inj : ∀ {ds es : List D}, D.nkL ds = true → D.nkL es = true → nestL ds = nestL es → ds = es
  | [], [], _, _, _ => rfl
  | [], _ :: _, _, _, q => by cases q
  | _ :: _, [], _, _, q => by cases q
  | d :: ds, e :: es, h1, h2, q => by
    rw [D.nkL, Bool.and_eq_true] at h1 h2
    have q' : nest d :: nestL ds = nest e :: nestL es := q
    injection q' with q1 q2
    rw [nest_inj h1.1 h2.1 q1, nestL_inj h1.2 h2.2 q2]
end
theorem keyOk_nk {d : D} (h : d.keyOk = true) : d.nk = true := by
  cases d <;> first | cases h | skip
  rename_i ds
  have h' : (D.nkL ds && decide (D.depthL ds ≤ 7)) = true := h
  rw [Bool.and_eq_true] at h'
  exact h'.1
mutual
theorem nest_depth : ∀ {d : D}, d.nk = true → (nest d).depth = d.depth
  | .non, _ => rfl
  | .int _, _ => rfl
  | .str _, _ => rfl
  | .tup ds, h => by show NestedKey.depthAll (nestL ds) + 1 = D.depthL ds + 1; rw [nestL_depth h]
  | .bl _, h => by cases h
  | .lst _, h => by cases h
  | .dct _, h => by cases h
  | .dcn _, h => by cases h
  | .exn _, h => by cases h
  | .scr _, h => by cases h
theorem nestL_depth : ∀ {ds : List D}, D.nkL ds = true → NestedKey.depthAll (nestL ds) = D.depthL ds
  | [], _ => rfl
  | d :: ds, h => by
    rw [D.nkL, Bool.and_eq_true] at h
    show max (nest d).depth (NestedKey.depthAll (nestL ds)) = max d.depth (D.depthL ds)
    rw [nest_depth h.1, nestL_depth h.2]
end
theorem keyOk_depth {d : D} (h : d.keyOk = true) : (nest d).depth ≤ 8 := by
  rw [nest_depth (keyOk_nk h)]
  cases d <;> first | cases h | skip
  rename_i ds
  have h' : (D.nkL ds && decide (D.depthL ds ≤ 7)) = true := h
  rw [Bool.and_eq_true] at h'
  have := of_decide_eq_true h'.2
  show D.depthL ds + 1 ≤ 8
  omega
theorem keyOk_ref {p : Par} {I : Hp} {d : D} {v : V} (h : d.keyOk = true) (r : Rep p I d v) : ∃ a, v = .ref a := by
  cases d <;> first | cases h | skip
  obtain ⟨a, vs, e, _⟩ := r
  exact ⟨a, e⟩
section
variable {X : Cx} {cl : Cls} {pins : List (Addr × Obj)} {σ : L2.St} {I H : Hp} {s : Shared}
mutual
theorem nest_is (J : L2.Inv X pins σ H s) (sm : Same I H) : ∀ {d : D} {v : V} {u : Value}, d.nk = true → Rep (pr X cl) I d v → RelV v u → NestedIs s.heap (nest d) u
  | .non, _, _, _, r, q => by cases r; cases (show _ = Value.none from q); exact .none
  | .int i, _, _, _, r, q => by cases r; obtain ⟨t, e⟩ := q; subst e; exact .int _ _
  | .str l, _, _, _, r, q => by obtain ⟨e, _⟩ := r; subst e; obtain ⟨t, e⟩ := q; subst e; exact .text _ _
  | .tup ds, _, _, h, r, q => by
    obtain ⟨a, vs, e, sq, rl, _⟩ := r
    subst e
    cases (show _ = Value.ref a from q)
    obtain ⟨its, rv, ⟨o, e1, e2, n, e3⟩, _⟩ := J.tuple (sqt_mono sm sq)
    exact .tup e1 e2 e3 (by simpa using nest_all J sm h rl rv)
  | .bl _, _, _, h, _, _ => by cases h
  | .lst _, _, _, h, _, _ => by cases h
  | .dct _, _, _, h, _, _ => by cases h
  | .dcn _, _, _, h, _, _ => by cases h
  | .exn _, _, _, h, _, _ => by cases h
  | .scr _, _, _, h, _, _ => by cases h
theorem nest_all (J : L2.Inv X pins σ H s) (sm : Same I H) : ∀ {ds : List D} {vs : List V} {us : List Value}, D.nkL ds = true → RepL (pr X cl) I ds vs → Vals vs us → NestedAll s.heap (nestL ds) us
  | [], _, _, _, r, q => by cases r; cases q; exact .nil
  | d :: ds, _, _, h, ⟨v, vr, e, r1, r2⟩, q => by
    subst e
    rw [D.nkL, Bool.and_eq_true] at h
    cases q with
    | cons q1 q2 => exact .cons (nest_is J sm h.1 r1 q1) (nest_all J sm h.2 r2 q2)
end
theorem key_is (J : L2.Inv X pins σ H s) (sm : Same I H) {d : D} {b : Addr} (h : d.keyOk = true) (r : Rep (pr X cl) I d (.ref b)) : (nestedKind X.prog X.w).is s.heap (nest d) b :=
  ⟨nest_is J sm (keyOk_nk h) r rfl, keyOk_depth h⟩
theorem keys_are (J : L2.Inv X pins σ H s) (sm : Same I H) : ∀ {kvs : List (D × D)} {xs : List (NestedKey × Addr × Value)}, RepN (pr X cl) I kvs xs → ∀ x ∈ xs, (nestedKind X.prog X.w).is s.heap x.1 x.2.1
  | [], _, r, x, hx => by cases r; cases hx
  | (k, d) :: kvs, _, ⟨a, u, v, xr, e, ok, rk, rv, rd, rr⟩, x, hx => by
    subst e
    rcases List.mem_cons.mp hx with z | z
    · subst z; exact key_is J sm ok rk
    · exact keys_are J sm rr x z
/-- the dict in the heap -/
theorem dn_at (J : L2.Inv X pins σ H s) (sm : Same I H) {a : Addr} {kvs : List (D × D)} {xs : List (NestedKey × Addr × Value)} (h : L2.Rd H a (DN X.prog X.w a xs)) (r : RepN (pr X cl) I kvs xs) :
    (a == sysModules) = false ∧ xs.length ≤ sizeLine ∧ s.heap.DictOfH (nestedKind X.prog X.w) a xs := by
  obtain ⟨⟨h1, h2, o, es, ep, e1, e2, e3, e4, e5⟩, _⟩ := rd_of J.hok h
  exact ⟨h1, h2, o, es, ep, e1, e2, e3, e4, keys_are J sm r, e5⟩
end
/-! ### look-ups -/
theorem look_none {p : Par} {I : Hp} : ∀ {kvs : List (D × D)} {xs : List (NestedKey × Addr × Value)} {k : D}, RepN p I kvs xs → k.keyOk = true → lookS kvs k = none → atKey xs (nest k) = none
  | [], _, _, r, _, _ => by cases r; rfl
  | (k', d) :: kvs, _, k, ⟨a, u, v, xr, e, ok, _, _, _, rr⟩, hk, h => by
    subst e
    by_cases z : k' = k
    · subst z; simp [lookS] at h
    · have h' : lookS kvs k = none := by simpa [lookS, List.find?_cons, z] using h
      have z' : ¬ nest k' = nest k := fun q => z (nest_inj (keyOk_nk ok) (keyOk_nk hk) q)
      have ih := look_none rr hk h'
      unfold atKey at ih ⊢
      simpa [List.find?_cons, z'] using ih
theorem look_some {p : Par} {I : Hp} : ∀ {kvs : List (D × D)} {xs : List (NestedKey × Addr × Value)} {k d : D}, RepN p I kvs xs → k.keyOk = true → lookS kvs k = some d → ∃ a u v, atKey xs (nest k) = some (a, u) ∧ RelV v u ∧ Rep p I d v
  | [], _, _, _, r, _, h => by simp [lookS] at h
  | (k', d') :: kvs, _, k, d, ⟨a, u, v, xr, e, ok, _, rv, rd, rr⟩, hk, h => by
    subst e
    by_cases z : k' = k
    · subst z
      simp [lookS] at h
      subst h
      exact ⟨a, u, v, by simp [atKey], rv, rd⟩
    · have h' : lookS kvs k = some d := by simpa [lookS, List.find?_cons, z] using h
      have z' : ¬ nest k' = nest k := fun q => z (nest_inj (keyOk_nk ok) (keyOk_nk hk) q)
      obtain ⟨a', u', v', h1, h2, h3⟩ := look_some rr hk h'
      exact ⟨a', u', v', by unfold atKey at h1 ⊢; simpa [List.find?_cons, z'] using h1, h2, h3⟩
theorem repN_len {p : Par} {I : Hp} : ∀ {kvs : List (D × D)} {xs : List (NestedKey × Addr × Value)}, RepN p I kvs xs → kvs.length = xs.length
  | [], _, r => by cases r; rfl
  | _ :: _, _, ⟨_, _, _, _, e, _, _, _, _, rr⟩ => by subst e; simp [repN_len rr]
theorem repN_repl {p : Par} {I : Hp} {k d : D} {v : V} {u : Value} (hk : k.keyOk = true) (rv : RelV v u) (rd : Rep p I d v) : ∀ {kvs : List (D × D)} {xs : List (NestedKey × Addr × Value)}, RepN p I kvs xs →
    RepN p I (kvs.map fun q => if q.1 = k then (q.1, d) else q) (xs.map (putAt (nest k) u))
  | [], _, r => by cases r; rfl
  | (k', d') :: kvs, _, ⟨a, u', v', xr, e, ok, rk, rv', rd', rr⟩ => by
    subst e
    rw [List.map_cons, List.map_cons]
    by_cases z : k' = k
    · subst z
      have e1 : (if (k', d').1 = k' then ((k', d').1, d) else (k', d')) = (k', d) := if_pos rfl
      rw [e1]
      exact ⟨a, u, v, xr.map (putAt (nest k') u), by simp [putAt], ok, rk, rv, rd, repN_repl hk rv rd rr⟩
    · have z' : ¬ nest k' = nest k := fun q => z (nest_inj (keyOk_nk ok) (keyOk_nk hk) q)
      have e1 : (if (k', d').1 = k then ((k', d').1, d) else (k', d')) = (k', d') := if_neg z
      rw [e1]
      exact ⟨a, u', v', xr.map (putAt (nest k) u), by simp [putAt, z'], ok, rk, rv', rd', repN_repl hk rv rd rr⟩
theorem repN_snoc {p : Par} {I : Hp} {k d : D} {v : V} {u : Value} {b : Addr} (hk : k.keyOk = true) (rk : Rep p I k (.ref b)) (rv : RelV v u) (rd : Rep p I d v) : ∀ {kvs : List (D × D)} {xs : List (NestedKey × Addr × Value)}, RepN p I kvs xs →
    RepN p I (kvs ++ [(k, d)]) (xs ++ [(nest k, b, u)])
  | [], _, r => by cases r; exact ⟨b, u, v, [], rfl, hk, rk, rv, rd, rfl⟩
  | (k', d') :: kvs, _, ⟨a, u', v', xr, e, ok, rk', rv', rd', rr⟩ => by
    subst e
    exact ⟨a, u', v', _, rfl, ok, rk', rv', rd', repN_snoc hk rk rv rd rr⟩
theorem any_look {k : D} : ∀ {kvs : List (D × D)}, (kvs.any fun p => decide (p.1 = k)) = (lookS kvs k).isSome
  | [] => rfl
  | q :: kvs => by
    rw [List.any_cons, any_look (kvs := kvs)]
    by_cases z : q.1 = k
    · simp [lookS, z]
    · simp [lookS, List.find?_cons, z]
/-- the dict behind d[k] = v -/
theorem repN_put {p : Par} {I : Hp} {k d : D} {v : V} {u : Value} {b : Addr} {kvs : List (D × D)} {xs : List (NestedKey × Addr × Value)} (hk : k.keyOk = true) (rk : Rep p I k (.ref b)) (rv : RelV v u) (rd : Rep p I d v) (r : RepN p I kvs xs) :
    RepN p I (putS kvs k d) (storedH xs (nest k) b u) := by
  unfold putS storedH
  rw [any_look]
  cases e : lookS kvs k with
  | none =>
    rw [look_none r hk e]
    exact repN_snoc hk rk rv rd r
  | some d' =>
    obtain ⟨a, u', v', h1, _, _⟩ := look_some r hk e
    rw [h1]
    exact repN_repl hk rv rd r
theorem putS_len (kvs : List (D × D)) (k d : D) : (putS kvs k d).length ≤ kvs.length + 1 := by
  unfold putS
  split <;> simp
/-! ### what may be read as a dict -/
theorem dn_stable {P : Program} {w : World} {a : Addr} {xs : List (NestedKey × Addr × Value)} {H : Hp} {h : Heap} (hd : (a == sysModules) = false) (hl : xs.length ≤ sizeLine) (x : h.DictOfH (nestedKind P w) a xs) : ObjOk P w H h a (DN P w a xs) := by
  obtain ⟨o, es, ep, e1, e2, e3, e4, _, e5⟩ := x
  refine ⟨⟨hd, hl, o, es, ep, e1, e2, e3, e4, e5⟩, ⟨o, e1⟩, fun h1 h2 ⟨q1, q2, o, es, ep, e1, e2, e3, e4, e5⟩ k => ⟨q1, q2, o, es, ep, k o e1, e2, e3, e4, e5⟩⟩
theorem Rdb.dcn {p : Par} {I H : Hp} {kvs : List (D × D)} {x : V} (s : Same I H) (h : Rdb p I H (.dcn kvs) x) : ∃ a xs, x = .ref a ∧ L2.Rd H a (DN p.P p.w a xs) ∧ RepN p I kvs xs := by
  rcases h with ⟨a, o, xs, e, q, r⟩ | ⟨a, e, xs, q, r⟩
  · exact ⟨a, xs, e, .inr ⟨o, s _ _ q⟩, r⟩
  · exact ⟨a, xs, e, .inl q, r⟩
end Den

/-! DenN2: dicts by tuples: asked, changed. -/
namespace Den
open PySem PySem.Spec PyProof.Rows L2
section
variable {X : Cx} {cl : Cls} {t : Addr} {W : WX} {pins : List (Addr × Obj)} {σ : L2.St} {I H : Hp} {s : Shared} {A : Around} {E : Value → Shared → Prop}
theorem room8 (hu : A.units + 65 < cLine) : (nestedKind X.prog X.w).room A.in1 := by
  show A.in1.units + 8 < cLine
  have : A.in1.units ≤ A.units + 1 := Nat.le_refl _
  omega
/-- a reading that is what the data say -/
def rOf (p : Par) (g : D → D → Out D) : R2 := fun x y H Q => ∃ I dx dy, Same I H ∧ Rdb p I H dx x ∧ Rdb p I H dy y ∧ OutP (g dx dy) (fun d => ∀ v, Rep p I d v → Q v H) (fun _ => False)
theorem lop_of {p : Par} {g : D → D → Out D} : LOp p (rOf p g) g := fun I H x y dx dy Q s hx hy q =>
  ⟨I, dx, dy, s, hx, hy, q.imp (fun d q v r => q I H v (Ext.refl s) r) fun _ z => z⟩
theorem rdb_key {p : Par} {d : D} {v : V} (h : d.keyOk = true) (r : Rdb p I H d v) : Rep p I d v := by
  rcases r with r | ⟨a, _, o⟩
  · exact r
  · cases d <;> first | exact o.elim | cases h
theorem dGet_dcn {kvs : List (D × D)} {k : D} {o : Option D} (e : dGet (.dcn kvs) k = .ok o) : k.keyOk = true ∧ lookS kvs k = o := by
  have e' : (if k.keyOk = true then Out.ok (lookS kvs k) else (Out.bad : Out (Option D))) = .ok o := e
  by_cases h : k.keyOk = true
  · rw [if_pos h] at e'; cases e'; exact ⟨h, rfl⟩
  · rw [if_neg h] at e'; cases e'
/-- d[k], there -/
theorem d_getAny {d k r : D} {x y : V} {u w : Value} {Q : Value → Shared → Prop} (hu : A.units + 65 < cLine) (J : L2.Inv X pins σ H s) (sm : Same I H) (hx : Rdb (pr X cl) I H d x) (hy : Rdb (pr X cl) I H k y) (rx : RelV x u) (ry : RelV y w)
    (e : dGet d k = .ok (some r)) (h : ∀ v w' s', L2.Inv X pins σ H s' → RelV v w' → Rep (pr X cl) I r v → Q w' s') : s.TypeIs u "dict" ∧ wpAny (model X.prog X.w) A (getItem u w) Q E s := by
  cases d with
  | dcn kvs =>
    obtain ⟨ok, hl⟩ := dGet_dcn e
    obtain ⟨a, xs, e1, hd, rn⟩ := hx.dcn sm
    subst e1
    cases (show u = Value.ref a from rx)
    have rk := rdb_key ok hy
    obtain ⟨b, e2⟩ := keyOk_ref ok rk
    subst e2
    cases (show w = Value.ref b from ry)
    obtain ⟨h1, h2, dd⟩ := dn_at J sm hd rn
    obtain ⟨a', u', v', h3, h4, h5⟩ := look_some rn ok hl
    exact ⟨dd.typeIs, wpAny_getItem_heap (room8 hu) (key_is J sm ok rk) dd h3 (h v' u' _ (J.tok _) h4 h5)⟩
  | dct kvs =>
    obtain ⟨a, o', e1, g, gt⟩ := getS_v sm hx hy (show getS (.dct kvs) k = .ok (some r) from e)
    subst e1
    cases (show u = Value.ref a from rx)
    obtain ⟨v, e2, rv⟩ := gt
    subst e2
    exact ⟨dict_typeIs J g, d_getItem (by omega) J g ry fun w' s' J' rw' => h v w' s' J' rw' rv⟩
  | _ => cases e
theorem d_inAny {d k : D} {o : Option D} {x y : V} {u w : Value} {Q : Value → Shared → Prop} (hu : A.units + 65 < cLine) (J : L2.Inv X pins σ H s) (sm : Same I H) (hx : Rdb (pr X cl) I H d x) (hy : Rdb (pr X cl) I H k y) (rx : RelV x u) (ry : RelV y w)
    (e : dGet d k = .ok o) (h : ∀ s', L2.Inv X pins σ H s' → Q (.bool o.isSome) s') : wpAny (model X.prog X.w) A (compareOp .In w u) Q E s := by
  cases d with
  | dcn kvs =>
    obtain ⟨ok, hl⟩ := dGet_dcn e
    obtain ⟨a, xs, e1, hd, rn⟩ := hx.dcn sm
    subst e1
    cases (show u = Value.ref a from rx)
    have rk := rdb_key ok hy
    obtain ⟨b, e2⟩ := keyOk_ref ok rk
    subst e2
    cases (show w = Value.ref b from ry)
    obtain ⟨h1, h2, dd⟩ := dn_at J sm hd rn
    have he : (atKey xs (nest k)).isSome = o.isSome := by
      cases o with
      | none => rw [look_none rn ok hl]; rfl
      | some r => obtain ⟨a', u', v', h3, _⟩ := look_some rn ok hl; rw [h3]; rfl
    exact wpAny_in_heap (room8 hu) (key_is J sm ok rk) h1 dd (by rw [he]; exact h _ (J.tok _))
  | dct kvs =>
    obtain ⟨a, o', e1, g, gt⟩ := getS_v sm hx hy (show getS (.dct kvs) k = .ok o from e)
    subst e1
    cases (show u = Value.ref a from rx)
    have he : o'.isSome = o.isSome := by
      cases o with
      | none => rw [show o' = none from gt]; rfl
      | some r => obtain ⟨v, e2, _⟩ := gt; rw [e2]; rfl
    exact d_in (by omega) J g ry fun s' J' => by rw [he]; exact h s' J'
  | _ => cases e
theorem d_notInAny {d k : D} {o : Option D} {x y : V} {u w : Value} {Q : Value → Shared → Prop} (hu : A.units + 65 < cLine) (J : L2.Inv X pins σ H s) (sm : Same I H) (hx : Rdb (pr X cl) I H d x) (hy : Rdb (pr X cl) I H k y) (rx : RelV x u) (ry : RelV y w)
    (e : dGet d k = .ok o) (h : ∀ s', L2.Inv X pins σ H s' → Q (.bool !o.isSome) s') : wpAny (model X.prog X.w) A (compareOp .NotIn w u) Q E s := by
  cases d with
  | dcn kvs =>
    obtain ⟨ok, hl⟩ := dGet_dcn e
    obtain ⟨a, xs, e1, hd, rn⟩ := hx.dcn sm
    subst e1
    cases (show u = Value.ref a from rx)
    have rk := rdb_key ok hy
    obtain ⟨b, e2⟩ := keyOk_ref ok rk
    subst e2
    cases (show w = Value.ref b from ry)
    obtain ⟨h1, h2, dd⟩ := dn_at J sm hd rn
    have he : (atKey xs (nest k)).isSome = o.isSome := by
      cases o with
      | none => rw [look_none rn ok hl]; rfl
      | some r => obtain ⟨a', u', v', h3, _⟩ := look_some rn ok hl; rw [h3]; rfl
    exact wpAny_notIn_heap (room8 hu) (key_is J sm ok rk) h1 dd (by rw [he]; exact h _ (J.tok _))
  | dct kvs =>
    obtain ⟨a, o', e1, g, gt⟩ := getS_v sm hx hy (show getS (.dct kvs) k = .ok o from e)
    subst e1
    cases (show u = Value.ref a from rx)
    have he : o'.isSome = o.isSome := by
      cases o with
      | none => rw [show o' = none from gt]; rfl
      | some r => obtain ⟨v, e2, _⟩ := gt; rw [e2]; rfl
    exact d_notIn (by omega) J g ry fun s' J' => by rw [he]; exact h s' J'
  | _ => cases e
theorem bind_ok_of {α β : Type} {o : Out α} {f : α → Out β} {P : β → Prop} (h : OutP (o.bind f) P fun _ => False) : ∃ a, o = .ok a ∧ OutP (f a) P fun _ => False := by
  cases o with
  | ok a => exact ⟨a, rfl, h⟩
  | exc e => exact h.elim
  | bad => exact h.elim
theorem od_inD (hu : X.A.units + 65 < cLine) : OpD X cl (compareOp .In) gInD := ⟨⟨rOf (pr X cl) gInD, fun pins s σ H x y v u Q J rx ry ⟨I, dx, dy, sm, hx, hy, q⟩ => by
  unfold gInD at q
  obtain ⟨o, e, q⟩ := bind_ok_of q
  exact d_inAny hu J sm hy hx ry rx e fun s' J' => ⟨.bl o.isSome, H, J', rfl, q _ rfl⟩, lop_of⟩⟩
theorem od_notInD (hu : X.A.units + 65 < cLine) : OpD X cl (compareOp .NotIn) gNotInD := ⟨⟨rOf (pr X cl) gNotInD, fun pins s σ H x y v u Q J rx ry ⟨I, dx, dy, sm, hx, hy, q⟩ => by
  unfold gNotInD at q
  obtain ⟨o, e, q⟩ := bind_ok_of q
  exact d_notInAny hu J sm hy hx ry rx e fun s' J' => ⟨.bl !o.isSome, H, J', rfl, q _ rfl⟩, lop_of⟩⟩
variable {a b k v xe : Expr} {fa fb fk fx fv : FE} {pos pos' apos cpos pp : Pos} {y : PySem.Str}
/-- d[k] -/
theorem de_ixD (hu : X.A.units + 65 < cLine) (ha : DE X cl t W a fa) (hb : DE X cl t W b fb) (hs : NoSl b := by exact fun _ _ => rfl) : DE X cl t W (.Subscript a b pos) (fOp gIxD fa fb) := by
  obtain ⟨ta, pa, la⟩ := ha.ex
  obtain ⟨tb, pb, lb⟩ := hb.ex
  refine DE.mk (te := tOp (rOf (pr X cl) gIxD) ta tb) ⟨fun pins s σ H Q J h => ?_⟩ (LE.op gIxD_ne la lb lop_of)
  refine subD_of PySem.F.slot_dict_getitem.lookup hs (thn (pa.run pins s σ H _ J h) fun u s1 ⟨x, H1, J1, rx, q1⟩ => thn (pb.run pins s1 σ H1 _ J1 q1) fun iv s2 ⟨y, H2, J2, ry, I, dx, dy, sm, hx, hy, q⟩ => ?_)
  unfold gIxD at q
  obtain ⟨o, e, q⟩ := bind_ok_of q
  cases o with
  | none => exact q.elim
  | some r => exact d_getAny hu J2 sm hx hy rx ry e fun v w' s' J' rw' rv => ⟨v, H2, J', rw', q v rv⟩
/-- name[k] = v -/
def sPutR (p : Par) (td ty tv : TE) : TS := fun Z σ H => tv σ H fun v H1 => td σ H1 fun x H2 => ty σ H2 fun y H3 => ∃ (I : Hp) (kvs : List (D × D)) (kd : D) (a b : Addr) (xs : List (NestedKey × Addr × Value)), Same I H3 ∧ RepN p I kvs xs ∧ kd.keyOk = true ∧ Rep p I kd (.ref b) ∧
  x = .ref a ∧ y = .ref b ∧ H3 a = some (DN p.P p.w a xs) ∧ kvs.length < sizeLine ∧ ∀ u, RelV v u → Z.nx σ (upd H3 a (DN p.P p.w a (storedH xs (nest kd) b u)))
theorem stored_len (xs : List (NestedKey × Addr × Value)) (k : NestedKey) (b : Addr) (u : Value) : (storedH xs k b u).length ≤ xs.length + 1 := by
  unfold storedH
  split <;> simp
/-- the dict's object is changed -/
theorem dn_write {a b : Addr} {xs : List (NestedKey × Addr × Value)} {kvs : List (D × D)} {kd : D} {u : Value} {h' : Heap} {tk : Nat} (J : L2.Inv X pins σ H s) (sm : Same I H) (rn : RepN (pr X cl) I kvs xs) (ea : H a = some (DN X.prog X.w a xs)) (hl : kvs.length < sizeLine)
    (dd : h'.DictOfH (nestedKind X.prog X.w) a (storedH xs (nest kd) b u)) (sb : Heap.SameBut a s.heap h') : L2.Inv X pins σ (upd H a (DN X.prog X.w a (storedH xs (nest kd) b u))) { s with heap := h', toks := tk } := by
  obtain ⟨h1, h2, _⟩ := dn_at J sm (.inl ea) rn
  have hl2 : (storedH xs (nest kd) b u).length ≤ sizeLine := by
    have := stored_len xs (nest kd) b u
    have := repN_len rn
    omega
  have he : ∃ q, h'.get? a = some q := let ⟨q, _, _, hq, _⟩ := dd; ⟨q, hq⟩
  exact d_write J (by rw [ea]; exact True.intro) sb he (dn_stable h1 hl2 dd)
theorem ds_putN {i : Nat} (hu : X.A.units + 65 < cLine) (hy : PE X (.Name y pp) (tVar i)) (hk : DE X cl t W k fk) (hv : DE X cl t W v fv) (hs : swapsWith v (some (.Subscript (.Name y pp) k pos')) pos.line X.env = pure false := by rfl) :
    DS1 X cl t W (.Assign [.Subscript (.Name y pp) k pos'] v pos) (sPutN i fk fv) := by
  obtain ⟨tk, pk, lk⟩ := hk.ex
  obtain ⟨tv, pv, lv⟩ := hv.ex
  have pk' := PE.mv pk
  have pv' := PE.mv pv
  refine DS1.mk (ts := sPutR (pr X cl) (tVar i) (eMv tk) (eMv tv)) ⟨fun pins s σ H D J h => ?_⟩ fun I G H σ ρ Z s q => ?_
  · refine wpAny_Assign_Subscript (thn (pv'.run pins s σ H _ J h) fun r s1 ⟨v, H1, J1, rv, q1⟩ => thn (hy.run pins s1 σ H1 _ J1 q1) fun u s2 ⟨x, H2, J2, rx, q2⟩ => thn (pk'.run pins s2 σ H2 _ J2 q2) fun iv s3 ⟨y, H3, J3, ry, I, kvs, kd, a, b, xs, sm, rn, ok, rk, ex, ey, ea, hl, q3⟩ => ?_) hs
    subst ex ey
    obtain rfl : u = Value.ref a := rx
    obtain rfl : iv = Value.ref b := ry
    obtain ⟨h1, h2, dd⟩ := dn_at J3 sm (.inl ea) rn
    exact wpAny_setItem_heap (hsz := h2) (room8 hu) (key_is J3 sm ok rk) dd fun h' dd' sb => ⟨σ, _, dn_write J3 sm rn ea hl dd' sb, q3 r rv⟩
  · unfold sPutN at q
    rw [outP_bind] at q
    refine lv.keep s (q.imp (fun x q I1 H1 v1 s1 st1 r1 => ?_) fun _ z => z)
    cases e1 : cont x.2 i with
    | bad => rw [e1] at q; exact q.elim
    | exc er => unfold cont at e1; split at e1 <;> cases e1
    | ok c0 =>
      rw [e1] at q
      simp only [Out.bind_ok] at q
      have hσ : ∃ w, σ[i]? = some (some w) := by
        unfold cont at e1
        split at e1
        · rename_i h; obtain ⟨w, h1, _⟩ := st1.sl _ _ h; exact ⟨w, h1⟩
        · rename_i h; obtain ⟨w, h1, _⟩ := st1.sl _ _ h; exact ⟨w, h1⟩
        · rename_i h; obtain ⟨w, h1, _⟩ := st1.sl _ _ h; exact ⟨w, h1⟩
        · cases e1
      obtain ⟨w, hw⟩ := hσ
      refine ⟨w, hw, ?_⟩
      rw [outP_bind] at q
      refine lk.keep st1 (q.imp (fun z q I2 H2 v2 s2 st2 r2 => ?_) fun _ z => z.mono s1)
      split at q
      · rename_i kvs hr
        by_cases hc : z.1.keyOk = true ∧ kvs.length < LIM
        · rw [if_pos hc] at q
          obtain ⟨w', h1, a, e2, i2, g2, xs, hx, rn⟩ := st2.sl i _ hr
          rw [hw] at h1; cases h1
          obtain ⟨b, e3⟩ := keyOk_ref hc.1 r2
          subst e3
          refine ⟨I2, kvs, z.1, a, b, xs, st2.b.ih, rn, hc.1, r2, e2, rfl, hx, Nat.lt_of_lt_of_le hc.2 (lim_line (Nat.le_refl _)), fun u ru => ?_⟩
          subst e2
          have own' : OwnAt (pr X cl) I2 (upd H2 a (DN X.prog X.w a (storedH xs (nest z.1) b u))) a (.dcn (putS kvs z.1 x.1)) := ⟨_, upd_same, repN_put hc.1 r2 ru (r1.mono s2) rn⟩
          exact q I2 _ σ (s1.trans s2) (st2.setIO hr rfl hw (extT_upd st2.b.ih i2) i2 own' (.inl ⟨_, rfl, rfl⟩))
        · rw [if_neg hc] at q; exact q.elim
      · exact q.elim
end
end Den

/-! DenN3: dicts by tuples: get, setdefault, made. -/
namespace Den
open PySem PySem.Spec PyProof.Rows L2
section
variable {X : Cx} {cl : Cls} {t : Addr} {W : WX} {pins : List (Addr × Obj)} {σ : L2.St} {I H : Hp} {s : Shared} {A : Around} {E : Value → Shared → Prop}
variable {a b k v xe : Expr} {fa fb fk fx fv : FE} {pos pos' apos cpos pp : Pos} {y : PySem.Str}
theorem get_ok {β : Type} {r : R} {ρ : DS} {f : D → Out β} {P : β → Prop} {E : Err → Prop} (h : OutP ((r.get ρ).bind f) P E) : ∃ d, r.get ρ = .ok d ∧ OutP (f d) P E := by
  cases e : r.get ρ with
  | ok d => rw [e] at h; exact ⟨d, rfl, h⟩
  | exc er => exact absurd e (get_exc _ _ _)
  | bad => rw [e] at h; exact h.elim
theorem asN_ok {β : Type} {d : D} {f : List (D × D) → Out β} {P : β → Prop} {E : Err → Prop} (h : OutP ((asN d).bind f) P E) : ∃ kvs, d = .dcn kvs ∧ OutP (f kvs) P E := by
  cases d with
  | dcn kvs => exact ⟨kvs, rfl, h⟩
  | _ => exact h.elim
/-- what the reading of a dict leans on -/
def IsDN (p : Par) (H : Hp) (a : Addr) : Prop := ∃ (I : Hp) (kvs : List (D × D)) (xs : List (NestedKey × Addr × Value)), Same I H ∧ RepN p I kvs xs ∧ L2.Rd H a (DN p.P p.w a xs)
theorem isDN_at {a : Addr} (J : L2.Inv X pins σ H s) (h : IsDN (pr X cl) H a) : s.TypeIs (.ref a) "dict" ∧ (∀ b, Value.ref a = .ref b → ∃ ob, s.heap.get? b = some ob ∧ ob.dict = none) := by
  obtain ⟨I, kvs, xs, sm, rn, hd⟩ := h
  obtain ⟨_, _, dd⟩ := dn_at J sm hd rn
  refine ⟨dd.typeIs, fun b q => ?_⟩
  cases q
  obtain ⟨ob, _, _, h1, h2, _⟩ := dd
  exact ⟨ob, h1, h2.2.1⟩
def tNGet2 (p : Par) (td ty tx : TE) : TE := fun σ H Q => td σ H fun x H1 => ∃ a, x = .ref a ∧ IsDN p H1 a ∧ ty σ H1 fun y H2 => tx σ H2 fun z H3 =>
  ∃ (I : Hp) (kvs : List (D × D)) (kd : D) (b : Addr) (xs : List (NestedKey × Addr × Value)), Same I H3 ∧ RepN p I kvs xs ∧ kd.keyOk = true ∧ Rep p I kd (.ref b) ∧ y = .ref b ∧ L2.Rd H3 a (DN p.P p.w a xs) ∧
  (∀ d, lookS kvs kd = some d → ∀ v, Rep p I d v → Q v H3) ∧ (lookS kvs kd = none → Q z H3)
theorem de_nget2 (hu : X.A.units + 65 < cLine) (ha : DE X cl t W a fa) (hk : DE X cl t W k fk) (hx : DE X cl t W xe fx) (m : M2 X a "get" apos k xe cpos := by exact ⟨by rfl, by rfl, by rfl, by rfl⟩) : DE X cl t W (.Call (.Attribute a "get" apos) [k, xe] [] cpos) (fNGet2 fa fk fx) := by
  obtain ⟨ta, pa, la⟩ := ha.ex
  obtain ⟨tk, pk, lk⟩ := hk.ex
  obtain ⟨tx, px, lx⟩ := hx.ex
  have px' := PE.mv px
  refine DE.mk (te := tNGet2 (pr X cl) ta tk (eMv tx)) ⟨fun pins s σ H Q J h => ?_⟩ fun I G H σ ρ Q s q => ?_
  · refine wpAny_Call_method m.base m.few m.line PySem.F.plainAttrs_dict PySem.F.slot_dict_get PySem.F.type_dict_get (thn (pa.run pins s σ H _ J h) fun u s1 ⟨x, H1, J1, rx, a, ex, d, q1⟩ => ?_)
    subst ex
    obtain rfl : u = Value.ref a := rx
    obtain ⟨t1, t2⟩ := isDN_at J1 d
    refine ⟨t1, t2, ?_⟩
    rw [m.trees]
    refine Calls.callWith_builtin rfl (Calls.evalArgs_plain (Calls.spliced_cons (thn (pk.run pins s1 σ H1 _ J1 q1) fun iv s2 ⟨y, H2, J2, ry, q2⟩ =>
      Calls.spliced_cons (thn (px'.run pins s2 σ H2 _ J2 q2) fun fv s3 ⟨z, H3, J3, rz, I, kvs, kd, b, xs, sm, rn, ok, rk, ey, hd, q3, q4⟩ => Calls.spliced_nil ?_))))
    subst ey
    obtain rfl : iv = Value.ref b := ry
    obtain ⟨h1, h2, dd⟩ := dn_at J3 sm hd rn
    refine call_meetsIn PySem.F.slot_dict_get dd.typeIs PySem.F.entry_dict_get (PySem.F.args_dict_get_3 _ _ _) (meetsH_dict_get_default (nestedKind X.prog X.w) a b h1 fv) ⟨room8 hu, nest kd, xs, key_is J3 sm ok rk, dd, ?_⟩
    cases e : lookS kvs kd with
    | none =>
      rw [look_none rn ok e]
      exact ⟨z, H3, J3.tok _, rz, q4 e⟩
    | some d =>
      obtain ⟨a', u', v', h3, h4, h5⟩ := look_some rn ok e
      rw [h3]
      exact ⟨v', H3, J3.tok _, h4, q3 d e v' h5⟩
  · unfold fNGet2 at q
    rw [outP_bind] at q
    refine la I G H σ ρ _ s (q.imp (fun u q I1 H1 v1 s1 st1 r1 => ?_) fun _ z => z)
    obtain ⟨d0, e0, q⟩ := get_ok q
    obtain ⟨kv0, e1, q⟩ := asN_ok q
    subst e1
    obtain ⟨a1, xs1, e2, hd1, rn1⟩ := (RR.get st1 r1 e0).dcn st1.b.ih
    subst e2
    refine ⟨a1, rfl, ⟨I1, kv0, xs1, st1.b.ih, rn1, hd1⟩, ?_⟩
    replace q : OutP ((fk u.2).bind _) _ _ := q
    rw [outP_bind] at q
    refine lk I1 G H1 σ u.2 _ st1 (q.imp (fun w q I2 H2 v2 s2 st2 r2 => ?_) fun _ z => z.mono s1)
    rw [outP_bind] at q
    refine lx.keep st2 (q.imp (fun z q I3 H3 v3 s3 st3 r3 => ?_) fun _ z => (z.mono s1).mono s2)
    obtain ⟨d, e3, q⟩ := get_ok q
    obtain ⟨kvs, e4, q⟩ := asN_ok q
    subst e4
    obtain ⟨y, e5, q⟩ := get_ok q
    obtain ⟨a2, xs, e6, hd, rn⟩ := (RR.get st3 (r1.mono (s2.trans s3)) e3).dcn st3.b.ih
    cases e6
    by_cases ok : y.keyOk = true
    · rw [if_pos ok] at q
      have rk := rdb_key ok (RR.get st3 (r2.mono s3) e5)
      obtain ⟨b, e7⟩ := keyOk_ref ok rk
      subst e7
      refine ⟨I3, kvs, y, b, xs, st3.b.ih, rn, ok, rk, rfl, hd, fun d e v rv => ?_, fun e => ?_⟩
      · rw [e] at q; exact q I3 H3 v ((s1.trans s2).trans s3) st3 rv
      · rw [e] at q; exact q I3 H3 v3 ((s1.trans s2).trans s3) st3 r3
    · rw [if_neg ok] at q; exact q.elim
/-- name.setdefault(k, v) -/
def tSetdN (p : Par) (td ty tx : TE) : TE := fun σ H Q => td σ H fun x H1 => ∃ a, x = .ref a ∧ IsDN p H1 a ∧ ty σ H1 fun y H2 => tx σ H2 fun z H3 =>
  ∃ (I : Hp) (kvs : List (D × D)) (kd : D) (b : Addr) (xs : List (NestedKey × Addr × Value)), Same I H3 ∧ RepN p I kvs xs ∧ kd.keyOk = true ∧ Rep p I kd (.ref b) ∧ y = .ref b ∧ H3 a = some (DN p.P p.w a xs) ∧ kvs.length < sizeLine ∧
  (∀ d, lookS kvs kd = some d → ∀ v, Rep p I d v → Q v H3) ∧ (lookS kvs kd = none → ∀ u, RelV z u → Q z (upd H3 a (DN p.P p.w a (storedH xs (nest kd) b u))))
theorem de_setd {i : Nat} (hu : X.A.units + 65 < cLine) (hy : PE X (.Name y pp) (tVar i)) (hk : DE X cl t W k fk) (hx : DE X cl t W xe fx) (m : M2 X (.Name y pp) "setdefault" apos k xe cpos := by exact ⟨by rfl, by rfl, by rfl, by rfl⟩) : DE X cl t W (.Call (.Attribute (.Name y pp) "setdefault" apos) [k, xe] [] cpos) (fSetd i fk fx) := by
  obtain ⟨tk, pk, lk⟩ := hk.ex
  obtain ⟨tx, px, lx⟩ := hx.ex
  have px' := PE.mv px
  have pk' := PE.mv pk
  refine DE.mk (te := tSetdN (pr X cl) (tVar i) (eMv tk) (eMv tx)) ⟨fun pins s σ H Q J h => ?_⟩ fun I G H σ ρ Q s q => ?_
  · refine wpAny_Call_method m.base m.few m.line PySem.F.plainAttrs_dict PySem.F.slot_dict_setdefault PySem.F.type_dict_setdefault (thn (hy.run pins s σ H _ J h) fun u s1 ⟨x, H1, J1, rx, a, ex, d, q1⟩ => ?_)
    subst ex
    obtain rfl : u = Value.ref a := rx
    obtain ⟨t1, t2⟩ := isDN_at J1 d
    refine ⟨t1, t2, ?_⟩
    rw [m.trees]
    refine Calls.callWith_builtin rfl (Calls.evalArgs_plain (Calls.spliced_cons (thn (pk'.run pins s1 σ H1 _ J1 q1) fun iv s2 ⟨y, H2, J2, ry, q2⟩ =>
      Calls.spliced_cons (thn (px'.run pins s2 σ H2 _ J2 q2) fun fv s3 ⟨z, H3, J3, rz, I, kvs, kd, b, xs, sm, rn, ok, rk, ey, ea, hl, q3, q4⟩ => Calls.spliced_nil ?_))))
    subst ey
    obtain rfl : iv = Value.ref b := ry
    obtain ⟨h1, h2, dd⟩ := dn_at J3 sm (.inl ea) rn
    refine call_setdefault_heap (hsz := h2) (room8 hu) (key_is J3 sm ok rk) h1 dd (fun p hp => ?_) fun hn h' dd' sb => ?_
    · cases e : lookS kvs kd with
      | none => rw [look_none rn ok e] at hp; cases hp
      | some d =>
        obtain ⟨a', u', v', h3, h4, h5⟩ := look_some rn ok e
        rw [h3] at hp
        cases hp
        exact ⟨v', H3, J3.tok _, h4, q3 d e v' h5⟩
    · cases e : lookS kvs kd with
      | none => exact ⟨z, _, dn_write J3 sm rn ea hl dd' sb, rz, q4 e fv rz⟩
      | some d =>
        obtain ⟨a', u', v', h3, h4, h5⟩ := look_some rn ok e
        rw [h3] at hn
        cases hn
  · unfold fSetd at q
    split at q
    · rename_i kv0 hr0
      obtain ⟨w, hw, a0, e0, i0, g0, xs0, hx0, rn0⟩ := s.sl i _ hr0
      subst e0
      refine ⟨_, hw, a0, rfl, ⟨I, kv0, xs0, s.b.ih, rn0, .inl hx0⟩, ?_⟩
      rw [outP_bind] at q
      refine lk.keep s (q.imp (fun z q I1 H1 v1 s1 st1 r1 => ?_) fun _ z => z)
      rw [outP_bind] at q
      refine lx.keep st1 (q.imp (fun x q I2 H2 v2 s2 st2 r2 => ?_) fun _ z => z.mono s1)
      split at q
      · rename_i kvs hr
        by_cases hc : z.1.keyOk = true ∧ kvs.length < LIM
        · rw [if_pos hc] at q
          obtain ⟨w', h1, a, e2, i2, g2, xs, hx, rn⟩ := st2.sl i _ hr
          rw [hw] at h1; cases h1
          cases e2
          have rk := r1.mono s2
          obtain ⟨b, e3⟩ := keyOk_ref hc.1 rk
          subst e3
          refine ⟨I2, kvs, z.1, b, xs, st2.b.ih, rn, hc.1, rk, rfl, hx, Nat.lt_of_lt_of_le hc.2 (lim_line (Nat.le_refl _)), fun d e v rv => ?_, fun e u ru => ?_⟩
          · rw [e] at q
            exact q I2 H2 v (s1.trans s2) st2 rv
          · rw [e] at q
            have own' : OwnAt (pr X cl) I2 (upd H2 a0 (DN X.prog X.w a0 (storedH xs (nest z.1) b u))) a0 (.dcn (putS kvs z.1 x.1)) := ⟨_, upd_same, repN_put hc.1 rk ru r2 rn⟩
            exact q I2 _ v2 (s1.trans s2) (st2.setIO hr rfl hw (extT_upd st2.b.ih i2) i2 own' (.inl ⟨_, rfl, rfl⟩)) r2
        · rw [if_neg hc] at q; exact q.elim
      · exact q.elim
    · exact q.elim
/-! ### made -/
theorem dn_new {p : Par} {I I1 G H1 : Hp} {σ : L2.St} {ρ : DS} {kvs : List (D × D)} {l : Addr} {xs : List (NestedKey × Addr × Value)} {Q : VK} (s1 : Same I I1) (st : St p t I1 G H1 σ ρ) (rn : RepN p I1 kvs xs)
    (k : ∀ I' H' a, Same I I' → St p t I' G H' σ ρ → I' a = none → G a = none → OwnAt p I' H' a (.dcn kvs) → (∀ (i : Nat) (sv : SV), ρ[i]? = some (some sv) → SV.own sv = true → σ[i]? ≠ some (some (V.ref a))) → Q (.ref a) H') (hl : H1 l = none) : Q (.ref l) (upd H1 l (DN p.P p.w l xs)) := by
  have x2 := Ext.newH st.b.ih (DN p.P p.w l xs) hl
  exact k _ _ l s1 (st.ext x2) (st.b.ih.free hl) (st.b.gh.free hl) ⟨xs, upd_same, rn⟩ (fresh_not st hl)
theorem dn_empty {P : Program} {w : World} {H : Hp} (h : Heap) (hb : sysModules < h.objs.size) : ObjOk P w H (h.push { cls := .type "dict", data := .dict #[] }) h.objs.size (DN P w h.objs.size []) :=
  dn_stable (beq_eq_false_iff_ne.mpr (Ne.symm (Nat.ne_of_lt hb))) (Nat.zero_le _) (Heap.DictOfH.new h)
/-- {} -/
theorem dn_dictN0 : DNw X cl t W (.Dict [] [] pos) nDictN0 := by
  refine DNw.mk (te := fun _ H Q => ∀ p, H p = none → Q (.ref p) (upd H p (DN X.prog X.w p []))) ⟨fun pins s σ H Q J h => ?_⟩ fun I G H σ ρ Q s q p hp => ?_
  · exact wpAny_Dict_empty ⟨.ref s.heap.objs.size, _, J.laid (a := s.heap.objs.size) (o := DN X.prog X.w s.heap.objs.size []) (t' := s.toks) (fun _ _ q => Heap.get?_push_of_some _ q) (Nat.le_refl _) (dn_empty s.heap J.big), rfl, h _ (J.hok.fresh (Nat.le_refl _))⟩
  · exact dn_new (p := pr X cl) (kvs := []) (xs := []) (Same.refl _) s rfl (fun I' H' a => q I' H' a) hp
theorem dict_pairsH {K : Type} [DecidableEq K] {knd : HeapKind X.prog X.w K} {env : Env} {keys : List (Option Expr)} {values : List Expr} {pos : Pos} {pairs : List (Sem Value × Sem Value)} {Q : Value → Shared → Prop} (hu : knd.room A)
    (hshape : (evalEachOpt keys env).zip ((evalEach values env).map fun v => do let x ← v; standAt pos; pure x) = pairs.map fun p => (some p.1, p.2)) (h0 : pairs ≠ []) (hlen : pairs.length ≤ 15)
    (h : wpAny (model X.prog X.w) A (evalPairs pairs) (fun vs s₁ => ∃ ps, CarriesH knd s₁.heap vs ps ∧ s₁.heap.DictOfH knd s.heap.objs.size [] ∧
      ∀ h' tk, h'.DictOfH knd s.heap.objs.size (storedAllH [] ps) → Heap.SameBut s.heap.objs.size s₁.heap h' → Q (.ref s.heap.objs.size) { s₁ with heap := h', toks := tk }) E
      { s with heap := s.heap.push { cls := .type "dict", data := .dict #[] } }) :
    wpAny (model X.prog X.w) A (eval (.Dict keys values pos) env) Q E s := by
  rw [arm_eval_Dict, hshape, dictDisplay_pairs pairs h0 (by omega)]
  exact wpAny_bind (wpAny_standAt (wpAny_bind (wpAny_subDictH (knd := knd) (Q := fun d s' => wpAny (model X.prog X.w) A (pure (Value.ref d)) Q E s') hu hlen
    (wpAny_mono h (fun vs s₁ h₁ => by obtain ⟨ps, hc, hm, hq⟩ := h₁; exact ⟨ps, hc, hm, fun h' tk a b => wpAny_pure (hq h' tk a b)⟩) fun _ _ e => e))))
/-- {k: v} -/
def tDispN (p : Par) (tk tv : TE) : TE := fun σ H Q => ∀ l, H l = none → tk σ (upd H l (DN p.P p.w l [])) fun y H2 => tv σ H2 fun z H3 => ∃ (I : Hp) (kd : D) (b : Addr), Same I H3 ∧ kd.keyOk = true ∧ Rep p I kd (.ref b) ∧ y = .ref b ∧ H3 l = some (DN p.P p.w l []) ∧
  ∀ u, RelV z u → Q (.ref l) (upd H3 l (DN p.P p.w l [(nest kd, b, u)]))
theorem dn_dictN1 (hu : X.A.units + 65 < cLine) (hk : DE X cl t W k fk) (hv : DE X cl t W v fv) : DNw X cl t W (.Dict [some k] [v] pos) (nDictN1 fk fv) := by
  obtain ⟨tk, pk, lk⟩ := hk.ex
  obtain ⟨tv, pv, lv⟩ := hv.ex
  have pv' := PE.mv pv
  have pk' := PE.mv pk
  refine DNw.mk (te := tDispN (pr X cl) (eMv tk) (eMv tv)) ⟨fun pins s σ H Q J q => ?_⟩ fun I G H σ ρ Q s q l hl => ?_
  · have hn := J.hok.fresh (Nat.le_refl s.heap.objs.size)
    have J1 := J.laid (a := s.heap.objs.size) (o := DN X.prog X.w s.heap.objs.size []) (h' := s.heap.push { cls := .type "dict", data := .dict #[] }) (t' := s.toks) (fun _ _ q => Heap.get?_push_of_some _ q) (Nat.le_refl _) (dn_empty s.heap J.big)
    refine dict_pairsH (knd := nestedKind X.prog X.w) (pairs := pairTrees [some k] [v] X.env pos) (by show X.A.units + 8 < cLine; omega) (zip_pairTrees [some k] [v] X.env pos rfl rfl) (by
      intro he
      have hn := pairTrees_length [some k] [v] X.env pos rfl rfl
      rw [he] at hn
      cases hn) (by rw [pairTrees_length [some k] [v] X.env pos rfl rfl]; show 1 ≤ 15; decide) ?_
    refine pairTrees_cons_walk (thn (pk'.run pins _ σ _ _ J1 (q _ hn)) fun u s1 ⟨x, H1, J2, rx, q1⟩ => thn (pv'.run pins s1 σ H1 _ J2 q1) fun w2 s2 ⟨z, H2, J3, rz, I, kd, b, sm, ok, rk, ey, ea, q2⟩ => pairTrees_nil_walk ?_)
    subst ey
    obtain rfl : u = Value.ref b := rx
    obtain ⟨h1, h2, dd⟩ := dn_at (cl := cl) J3 sm (kvs := []) (.inl ea) rfl
    exact ⟨[(nest kd, b, w2)], ⟨rfl, rfl, key_is J3 sm ok rk, trivial⟩, dd, fun h' tk dd' sb => ⟨.ref s.heap.objs.size, _, dn_write (cl := cl) (kvs := []) (kd := kd) (b := b) (u := w2) J3 sm rfl ea (by decide) dd' sb, rfl, q2 w2 rz⟩⟩
  · have hI := s.b.ih.free hl
    have hG := s.b.gh.free hl
    have s0 := (s.ext (Ext.newH s.b.ih (DN X.prog X.w l []) hl)).addG (o := DN X.prog X.w l []) (a := l) upd_same hI hG (fresh_not s hl)
    unfold nDictN1 at q
    rw [outP_bind] at q
    have post : ∀ {I1 : Hp} {er : Err}, Same I I1 → PostX (pr X cl) W I G er → PostX (pr X cl) W I1 (upd G l (DN X.prog X.w l [])) er := fun {I1 er} s1 z I' H' σ' z1 z2 => by
      refine z.mono s1 I' H' σ' z1 ⟨z2.ih, fun c o e => z2.gh c o (by rw [upd_ne (ne_of_none e hG)]; exact e), fun c hc => ?_⟩
      have z3 := z2.ig c hc
      by_cases hca : c = l
      · subst hca; rw [upd_same] at z3; cases z3
      · rw [upd_ne hca] at z3; exact z3
    refine lk.keep s0 (q.imp (fun y q I1 H1 v1 s1 st1 r1 => ?_) fun _ z => post (Same.refl _) z)
    rw [outP_bind] at q
    refine lv.keep st1 (q.imp (fun x q I2 H2 v2 s2 st2 r2 => ?_) fun _ z => post s1 z)
    by_cases ok : y.1.keyOk = true
    · rw [if_pos ok] at q
      have rk := r1.mono s2
      obtain ⟨b, e1⟩ := keyOk_ref ok rk
      subst e1
      have ha2 : H2 l = some (DN X.prog X.w l []) := st2.b.gh l _ upd_same
      have hi2 : I2 l = none := by
        cases z : I2 l with
        | none => rfl
        | some u => have z2 := st2.b.ig l (by rw [z]; simp); rw [upd_same] at z2; cases z2
      refine ⟨I2, y.1, b, st2.b.ih, ok, rk, rfl, ha2, fun u ru => ?_⟩
      have st3 := (st2.chG (o' := DN X.prog X.w l [(nest y.1, b, u)])).subG (G' := G) fun c o e => by rw [upd_ne (ne_of_none e hG)]; exact e
      have own' : OwnAt (pr X cl) I2 (upd H2 l (DN X.prog X.w l [(nest y.1, b, u)])) l (.dcn [(y.1, x.1)]) := ⟨_, upd_same, b, u, v2, [], rfl, ok, rk, ru, r2, rfl⟩
      refine q I2 _ l (s1.trans s2) st3 hi2 hG own' fun i sv hi oi hσ => ?_
      obtain ⟨u', z1, z2⟩ := st2.sl i sv hi
      rw [z1] at hσ; cases hσ
      cases sv with
      | fz d => cases oi
      | ow d => obtain ⟨b, e, _, z3, _⟩ := z2; cases e; rw [upd_same] at z3; cases z3
      | io d => obtain ⟨e, _, z3, _⟩ := z2; cases e; rw [upd_same] at z3; cases z3
    · rw [if_neg ok] at q; exact q.elim
end
end Den

/-! DenN4: dicts by tuples, walked. -/
namespace Den
open PySem PySem.Spec PyProof.Rows L2
section
variable {X : Cx} {cl : Cls} {t : Addr} {W : WX} {pins : List (Addr × Obj)} {σ : L2.St} {I H : Hp} {s : Shared} {d : Addr} {o : Obj} {xs : List (NestedKey × Addr × Value)} {es : Array DictEntry} {ep : Nat}
theorem Inv_frzN (J : L2.Inv X pins σ H s) (h : H d = some (.frz o (DN X.prog X.w d xs))) :
    (d == sysModules) = false ∧ ∃ (es : Array DictEntry) (ep : Nat), o.ExactDict ∧ o.data = .dict es ep ∧ s.heap.DictRaw d es ep ∧ es.toList = xs.map (entryOfKey (nestedKind X.prog X.w)) := by
  obtain ⟨hd, ⟨h1, h2, o', es, ep, e1, e2, e3, e4, e5⟩, _⟩ := J.hok d _ h
  rw [hd] at e1
  cases e1
  exact ⟨h1, es, ep, e2, e3, ⟨o, hd, e2, e3⟩, e4⟩
theorem ent_at {P : Program} {w : World} (h : es.toList = xs.map (entryOfKey (nestedKind P w))) {i : Nat} (hi : i < es.size) : ∃ k q u, xs[i]? = some (k, q, u) ∧ es[i].key = .ref q ∧ es[i].val = u := by
  have hs : es.size = xs.length := size_of_entries h
  have e := entry_at h i
  rw [Array.getElem?_eq_getElem hi] at e
  cases hx : xs[i]? with
  | none => rw [hx] at e; cases e
  | some y =>
    rw [hx] at e
    have e' := Option.some.inj e
    obtain ⟨k, q, u⟩ := y
    exact ⟨k, q, u, rfl, by rw [e']; rfl, by rw [e']; rfl⟩
/-- what stands in a locked dict, walked -/
def ItL (P : Program) (w : World) (d : Addr) (o : Obj) (xs : List (NestedKey × Addr × Value)) (ws : List V) : It :=
  ⟨fun i H => H d = some (.frz o (DN P w d xs)) ∧ i < xs.length, fun i H x H' => H' = H ∧ ws[i]? = some x, fun i H => H d = some (.frz o (DN P w d xs)) ∧ xs.length ≤ i⟩
def ItP (P : Program) (w : World) (d : Addr) (o : Obj) (xs : List (NestedKey × Addr × Value)) (ks ws : List V) : It :=
  ⟨fun i H => H d = some (.frz o (DN P w d xs)) ∧ i < xs.length, fun i H v H' => ∃ T x y, v = .ref T ∧ H T = none ∧ H' = upd H T (.tup [x, y]) ∧ ks[i]? = some x ∧ ws[i]? = some y, fun i H => H d = some (.frz o (DN P w d xs)) ∧ xs.length ≤ i⟩
def keysV (xs : List (NestedKey × Addr × Value)) : List V := xs.map fun x => .ref x.2.1
section
variable {P : Program} {w : World} {K : PySem.W.Frag} {tg : Expr}
theorem turn_keysN (it : Addr) (hod : o.data = .dict es ep) : Turn P w K tg (ItL P w d o xs (keysV xs)) [it] it (fun i h => h.IsKeyIter it d i es.size ep) where
  mem := by simp
  obj := fun i h st b hb => by
    have e : b = it := by simpa using hb
    subst e
    obtain ⟨oi, e, c, dd⟩ := st
    exact ⟨oi, e, fun v z => by rw [dd] at z; cases z⟩
  keep := fun i h h' st k => st.at fun oi e => k it (by simp) oi e
  item := by
    intro X hP hw hK hc i pins s σ H E I hf st hg
    subst hP hw hK
    obtain ⟨hd, hi⟩ := hg
    obtain ⟨f0, f1, f2, f3, f4, f5⟩ := hf it (by simp)
    obtain ⟨hs, es', ep', hx, hdt, hr, he⟩ := Inv_frzN I hd
    obtain ⟨rfl, rfl⟩ := dict_ep hod hdt
    have hsz : es'.size = xs.length := size_of_entries he
    obtain ⟨k, q, u, hxs, hkey, _⟩ := ent_at he (i := i) (by omega)
    refine wpAny_pyNext_keys_item_raw st hr (by omega) fun h' st' sb => ?_
    have I1 : L2.Inv X pins σ H { s with heap := h' } := I.turned (t' := s.toks) (fun b ob hb e => (sb.2 b hb).trans e) f0 f1 f3 f4 f5
    obtain ⟨oi, e, c, dd⟩ := id st'
    exact ⟨es'[i].key, rfl, go_of (s := { s with heap := h' }) e c dd (by decide) ⟨.ref q, H, I1, hkey, ⟨rfl, by simp [keysV, hxs]⟩, st', fun b hb => (hf b hb).1⟩⟩
  done := by
    intro X hP hw hK hc i pins s σ H E I hf st hg
    subst hP hw hK
    obtain ⟨hd, hi⟩ := hg
    obtain ⟨f0, f1, f2, f3, f4, f5⟩ := hf it (by simp)
    obtain ⟨hs, es', ep', hx, hdt, hr, he⟩ := Inv_frzN I hd
    obtain ⟨rfl, rfl⟩ := dict_ep hod hdt
    have hsz : es'.size = xs.length := size_of_entries he
    exact wpAny_pyNext_keys_end_raw (I.ok.hd hc) st hr (by omega) fun h' eb => ⟨rfl, I.turned (t' := s.toks) (fun b ob hb e => eb b ob hb e) f0 f1 f3 f4 f5⟩
  self := fun A i s Q E st h => by
    refine wpAny_pyIter_slot st.typeIs F.slot_dict_keyiterator_iter (wpAny_call_entry F.slot_dict_keyiterator_iter st.typeIs F.entry_dict_keyiterator_iter ?_ (F.args_dict_keyiterator_iter_1 _))
    show wpAny _ _ (ret (.ref it)) _ _ s
    exact wpAny_pure ⟨_, rfl, "dict_keyiterator", _, st.typeIs, F.slot_dict_keyiterator_next.lookup, h⟩
theorem turn_valsN {ws : List V} (it : Addr) (hod : o.data = .dict es ep) (hv : Vals ws (xs.map fun x => x.2.2)) : Turn P w K tg (ItL P w d o xs ws) [it] it (fun i h => h.IsValIter it d i es.size ep) where
  mem := by simp
  obj := fun i h st b hb => by
    have e : b = it := by simpa using hb
    subst e
    obtain ⟨oi, e, c, dd⟩ := st
    exact ⟨oi, e, fun v z => by rw [dd] at z; cases z⟩
  keep := fun i h h' st k => st.at fun oi e => k it (by simp) oi e
  item := by
    intro X hP hw hK hc i pins s σ H E I hf st hg
    subst hP hw hK
    obtain ⟨hd, hi⟩ := hg
    obtain ⟨f0, f1, f2, f3, f4, f5⟩ := hf it (by simp)
    obtain ⟨hs, es', ep', hx, hdt, hr, he⟩ := Inv_frzN I hd
    obtain ⟨rfl, rfl⟩ := dict_ep hod hdt
    have hsz : es'.size = xs.length := size_of_entries he
    obtain ⟨k, q, u, hxs, _, hval⟩ := ent_at he (i := i) (by omega)
    have hl : ws.length = xs.length := by have := hv.length; simpa using this
    obtain ⟨u', hu', rv⟩ := hv.get (List.getElem?_eq_getElem (show i < ws.length by omega))
    rw [List.getElem?_map, hxs] at hu'
    cases hu'
    refine wpAny_pyNext_values_item_raw st hr (by omega) fun h' st' sb => ?_
    have I1 : L2.Inv X pins σ H { s with heap := h' } := I.turned (t' := s.toks) (fun b ob hb e => (sb.2 b hb).trans e) f0 f1 f3 f4 f5
    obtain ⟨oi, e, c, dd⟩ := id st'
    exact ⟨es'[i].val, rfl, go_of (s := { s with heap := h' }) e c dd (by decide) ⟨ws[i], H, I1, by rw [hval]; exact rv, ⟨rfl, List.getElem?_eq_getElem (by omega)⟩, st', fun b hb => (hf b hb).1⟩⟩
  done := by
    intro X hP hw hK hc i pins s σ H E I hf st hg
    subst hP hw hK
    obtain ⟨hd, hi⟩ := hg
    obtain ⟨f0, f1, f2, f3, f4, f5⟩ := hf it (by simp)
    obtain ⟨hs, es', ep', hx, hdt, hr, he⟩ := Inv_frzN I hd
    obtain ⟨rfl, rfl⟩ := dict_ep hod hdt
    have hsz : es'.size = xs.length := size_of_entries he
    exact wpAny_pyNext_values_end_raw (I.ok.hd hc) st hr (by omega) fun h' eb => ⟨rfl, I.turned (t' := s.toks) (fun b ob hb e => eb b ob hb e) f0 f1 f3 f4 f5⟩
  self := fun A i s Q E st h => wpAny_pyIter_valiter st h
theorem turn_itemsN {ws : List V} {elts : List Expr} {kk : Nat} {tpos : Pos} (it : Addr) (hod : o.data = .dict es ep) (hv : Vals ws (xs.map fun x => x.2.2)) :
    Turn P w K (.Tuple elts kk tpos) (ItP P w d o xs (keysV xs) ws) [it] it (fun i h => ∃ ok ov, IsItemIter h it d i es.size ep ok ov) where
  mem := by simp
  obj := fun i h st b hb => by
    have e : b = it := by simpa using hb
    subst e
    obtain ⟨ok, ov, e⟩ := st
    exact ⟨_, e, fun v z => nomatch z⟩
  keep := fun i h h' st k => let ⟨ok, ov, e⟩ := st; ⟨ok, ov, k it (by simp) _ e⟩
  item := by
    intro X hP hw hK hc i pins s σ H E I hf st hg
    subst hP hw hK
    obtain ⟨hd, hi⟩ := hg
    obtain ⟨hs, es', ep', hx, hdt, hr, he⟩ := Inv_frzN I hd
    obtain ⟨rfl, rfl⟩ := dict_ep hod hdt
    have hsz : es'.size = xs.length := size_of_entries he
    obtain ⟨k, q, u, hxs, hkey, hval⟩ := ent_at he (i := i) (by omega)
    have hl : ws.length = xs.length := by have := hv.length; simpa using this
    obtain ⟨u', hu', rv⟩ := hv.get (List.getElem?_eq_getElem (show i < ws.length by omega))
    rw [List.getElem?_map, hxs] at hu'
    cases hu'
    obtain ⟨ok, ov, st⟩ := st
    have hlt : it < s.heap.objs.size := Heap.lt_size st
    refine wpAny_pyNext_items_item_raw st hr (by omega) fun h' ho hT hz hk => ?_
    refine ⟨_, rfl, wpAny_letOwnedTupleGo_items (s := { s with heap := h' }) ho fun h'' he' sb => ?_⟩
    have hT2 : h''.get? s.heap.objs.size = some { cls := .type "tuple", data := .seq #[es'[i].key, es'[i].val] } := (sb.2 _ (Nat.ne_of_gt hlt)).trans hT
    rw [hkey, hval] at hT2
    have new : ObjOk X.prog X.w (upd H s.heap.objs.size (.tup [.ref q, ws[i]])) h'' s.heap.objs.size (.tup [.ref q, ws[i]]) :=
      ⟨by show 2 ≤ sizeLine; decide, [.ref q, u], .cons rfl (.cons rv .nil), ⟨_, hT2, rfl, _, rfl⟩⟩
    have I1 : L2.Inv X pins σ (upd H s.heap.objs.size (.tup [.ref q, ws[i]])) { s with heap := h'' } :=
      I.turnedNew (t' := s.toks) (ch := [it]) (fun b ob hb e => (sb.2 b (by simpa using hb)).trans (hk b ob (by simpa using hb) e)) hf (Nat.le_refl _) new
    refine ⟨.ref s.heap.objs.size, _, I1, rfl, ⟨_, .ref q, ws[i], rfl, I.hok.fresh (Nat.le_refl _), rfl, by simp [keysV, hxs], List.getElem?_eq_getElem (by omega)⟩, ⟨es'[i].key, es'[i].val, he'⟩, fun b hb => ?_⟩
    have e : b = it := by simpa using hb
    rw [e, upd_ne (Nat.ne_of_lt hlt)]
    exact (hf it (by simp)).1
  done := by
    intro X hP hw hK hc i pins s σ H E I hf st hg
    subst hP hw hK
    obtain ⟨hd, hi⟩ := hg
    obtain ⟨f0, f1, f2, f3, f4, f5⟩ := hf it (by simp)
    obtain ⟨hs, es', ep', hx, hdt, hr, he⟩ := Inv_frzN I hd
    obtain ⟨rfl, rfl⟩ := dict_ep hod hdt
    have hsz : es'.size = xs.length := size_of_entries he
    obtain ⟨ok, ov, st⟩ := st
    exact wpAny_pyNext_items_end_raw (I.ok.hd hc) st hr (by omega) fun h' eb => ⟨rfl, I.turned (t' := s.toks) (fun b ob hb e => eb b ob hb e) f0 f1 f3 f4 f5⟩
  self := fun A i s Q E st h => let ⟨_, _, e⟩ := st; PySem.W.kcp_self e h
end
def iDctR (P : Program) (w : World) (td : TE) (mk : Addr → Obj → List (NestedKey × Addr × Value) → List V → It) : TI := fun σ H R => td σ H fun x H1 => ∃ d o xs ws, x = .ref d ∧ H1 d = some (.frz o (DN P w d xs)) ∧ Vals ws (xs.map fun x => x.2.2) ∧ R (mk d o xs ws) H1
variable {tg e : Expr} {td : TE} {apos cpos : Pos}
theorem pi_keysN (he : PE X e td) : PI X tg e (iDctR X.prog X.w td fun d o xs _ => ItL X.prog X.w d o xs (keysV xs)) := by
  refine ⟨fun pins s σ H R I h => ?_⟩
  refine thn (he.run pins s σ H _ I h) fun u s1 ⟨x, H1, I1, rx, d, o, xs, ws, ex, hd, hv, q⟩ => ?_
  subst ex
  obtain rfl : u = Value.ref d := rx
  obtain ⟨hs, es', ep', hx, hdt, hr, he⟩ := Inv_frzN I1 hd
  exact wpAny_pyIter_dict_raw hs hr (pi_one (tk := s1.toks) I1 _ (turn_keysN _ hdt) ⟨_, Heap.get?_push_size _ rfl, rfl, rfl⟩ q)
theorem pi_keysMN (he : PE X e td) (hbase : attributeBase e "keys" X.env (eval e X.env) = eval e X.env := by rfl) (hline : (apos.endLine == cpos.line) = true := by rfl) : PI X tg (.Call (.Attribute e "keys" apos) [] [] cpos) (iDctR X.prog X.w td fun d o xs _ => ItL X.prog X.w d o xs (keysV xs)) := by
  refine ⟨fun pins s σ H R I h => ?_⟩
  refine wpAny_Call_method (T := "dict") (id := "dict.keys") hbase rfl hline F.plainAttrs_dict F.slot_dict_keys F.type_dict_keys (thn (he.run pins s σ H _ I h) fun u s1 ⟨x, H1, I1, rx, d, o, xs, ws, ex, hd, hv, q⟩ => ?_)
  subst ex
  obtain rfl : u = Value.ref d := rx
  obtain ⟨hs, es', ep', hx, hdt, hr, he⟩ := Inv_frzN I1 hd
  refine ⟨hr.typeIs, fun b q => (by cases q; obtain ⟨o', h1, h2, _⟩ := hr; exact ⟨o', h1, h2.2.1⟩), ?_⟩
  have I2 : L2.Inv X pins σ H1 { s1 with heap := s1.heap.push { cls := .type "dict_keys", data := .fields #[.ref d] } } := I1.kept (t' := s1.toks) fun b ob q => Heap.get?_push_of_some _ q
  have fin : wpAny (model X.prog X.w) X.A (pyIter (.ref s1.heap.objs.size)) (PIE X pins σ tg R) X.xe { s1 with heap := s1.heap.push { cls := .type "dict_keys", data := .fields #[.ref d] } } :=
    wpAny_pyIter_keys_raw (d := d) ⟨_, Heap.get?_push_size _ rfl, rfl, rfl⟩ (hr.at fun o e => Heap.get?_push_of_some _ e) (pi_one (tk := s1.toks) I2 _ (turn_keysN _ hdt) ⟨_, Heap.get?_push_size _ rfl, rfl, rfl⟩ q)
  show wpAny _ _ (callWith cpos (.builtin "dict.keys") [.ref d] [] []) _ X.xe s1
  exact method_meetsIn F.slot_dict_keys F.entry_dict_keys rfl (PySem.evalArgs_none ⟨rfl, hr.typeIs, F.args_dict_keys_1 _, _, meets_dict_keys_raw d hs, ⟨_, _, hr⟩, fin⟩)
theorem pi_valuesN (he : PE X e td) (hbase : attributeBase e "values" X.env (eval e X.env) = eval e X.env := by rfl) (hline : (apos.endLine == cpos.line) = true := by rfl) : PI X tg (.Call (.Attribute e "values" apos) [] [] cpos) (iDctR X.prog X.w td fun d o xs ws => ItL X.prog X.w d o xs ws) := by
  refine ⟨fun pins s σ H R I h => ?_⟩
  refine wpAny_Call_method (T := "dict") (id := "dict.values") hbase rfl hline F.plainAttrs_dict F.slot_dict_values F.type_dict_values (thn (he.run pins s σ H _ I h) fun u s1 ⟨x, H1, I1, rx, d, o, xs, ws, ex, hd, hv, q⟩ => ?_)
  subst ex
  obtain rfl : u = Value.ref d := rx
  obtain ⟨hs, es', ep', hx, hdt, hr, he⟩ := Inv_frzN I1 hd
  refine ⟨hr.typeIs, fun b q => (by cases q; obtain ⟨o', h1, h2, _⟩ := hr; exact ⟨o', h1, h2.2.1⟩), ?_⟩
  have I2 : L2.Inv X pins σ H1 { s1 with heap := s1.heap.push { cls := .type "dict_values", data := .fields #[.ref d] } } := I1.kept (t' := s1.toks) fun b ob q => Heap.get?_push_of_some _ q
  have fin : wpAny (model X.prog X.w) X.A (pyIter (.ref s1.heap.objs.size)) (PIE X pins σ tg R) X.xe { s1 with heap := s1.heap.push { cls := .type "dict_values", data := .fields #[.ref d] } } :=
    wpAny_pyIter_values_raw (d := d) ⟨_, Heap.get?_push_size _ rfl, rfl, rfl⟩ (hr.at fun o e => Heap.get?_push_of_some _ e) (pi_one (tk := s1.toks) I2 _ (turn_valsN _ hdt hv) ⟨_, Heap.get?_push_size _ rfl, rfl, rfl⟩ q)
  show wpAny _ _ (callWith cpos (.builtin "dict.values") [.ref d] [] []) _ X.xe s1
  exact method_meetsIn F.slot_dict_values F.entry_dict_values rfl (PySem.evalArgs_none ⟨rfl, hr.typeIs, F.args_dict_values_1 _, _, meets_dict_values_raw d hs, ⟨_, _, hr⟩, fin⟩)
theorem pi_itemsN {elts : List Expr} {kk : Nat} {tpos : Pos} (he : PE X e td) (hbase : attributeBase e "items" X.env (eval e X.env) = eval e X.env := by rfl) (hline : (apos.endLine == cpos.line) = true := by rfl) :
    PI X (.Tuple elts kk tpos) (.Call (.Attribute e "items" apos) [] [] cpos) (iDctR X.prog X.w td fun d o xs ws => ItP X.prog X.w d o xs (keysV xs) ws) := by
  refine ⟨fun pins s σ H R I h => ?_⟩
  refine wpAny_Call_method (T := "dict") (id := "dict.items") hbase rfl hline F.plainAttrs_dict F.slot_dict_items F.type_dict_items (thn (he.run pins s σ H _ I h) fun u s1 ⟨x, H1, I1, rx, d, o, xs, ws, ex, hd, hv, q⟩ => ?_)
  subst ex
  obtain rfl : u = Value.ref d := rx
  obtain ⟨hs, es', ep', hx, hdt, hr, he⟩ := Inv_frzN I1 hd
  refine ⟨hr.typeIs, fun b q => (by cases q; obtain ⟨o', h1, h2, _⟩ := hr; exact ⟨o', h1, h2.2.1⟩), ?_⟩
  have I2 : L2.Inv X pins σ H1 { s1 with heap := s1.heap.push { cls := .type "dict_items", data := .fields #[.ref d] } } := I1.kept (t' := s1.toks) fun b ob q => Heap.get?_push_of_some _ q
  have fin : wpAny (model X.prog X.w) X.A (pyIter (.ref s1.heap.objs.size)) (PIE X pins σ (.Tuple elts kk tpos) R) X.xe { s1 with heap := s1.heap.push { cls := .type "dict_items", data := .fields #[.ref d] } } :=
    wpAny_pyIter_items_raw (d := d) ⟨_, Heap.get?_push_size _ rfl, rfl, rfl⟩ (hr.at fun o e => Heap.get?_push_of_some _ e) (pi_one (tk := s1.toks) I2 _ (turn_itemsN _ hdt hv) ⟨.none, .none, Heap.get?_push_size _ rfl⟩ q)
  show wpAny _ _ (callWith cpos (.builtin "dict.items") [.ref d] [] []) _ X.xe s1
  exact method_meetsIn F.slot_dict_items F.entry_dict_items rfl (PySem.evalArgs_none ⟨rfl, hr.typeIs, F.args_dict_items_1 _, _, meets_dict_items_raw d hs, ⟨_, _, hr⟩, fin⟩)
/-! ### the judgements -/
theorem repN_keys {p : Par} : ∀ {kvs : List (D × D)} {xs : List (NestedKey × Addr × Value)}, RepN p I kvs xs → RepL p I (kvs.map fun q => q.1) (keysV xs)
  | [], _, r => by cases r; rfl
  | _ :: _, _, ⟨a, u, v, xr, e, _, rk, _, _, rr⟩ => by subst e; exact ⟨.ref a, _, rfl, rk, repN_keys rr⟩
theorem repN_vals {p : Par} : ∀ {kvs : List (D × D)} {xs : List (NestedKey × Addr × Value)}, RepN p I kvs xs → ∃ ws, Vals ws (xs.map fun x => x.2.2) ∧ RepL p I (kvs.map fun q => q.2) ws
  | [], _, r => by cases r; exact ⟨[], .nil, rfl⟩
  | _ :: _, _, ⟨a, u, v, xr, e, _, _, rv, rd, rr⟩ => by
    subst e
    obtain ⟨ws, h1, h2⟩ := repN_vals rr
    exact ⟨v :: ws, .cons rv h1, v, ws, rfl, rd, h2⟩
theorem src_L {p : Par} {ws : List V} {ds : List D} (hI : I d = some (.frz o (DN p.P p.w d xs))) (hl : xs.length = ds.length) (r : RepL p I ds ws) : Src p I (ItL p.P p.w d o xs ws) ds := by
  refine ⟨fun H => H d = some (.frz o (DN p.P p.w d xs)), YAt ws, ⟨fun i H hi q => ⟨q, by omega⟩, fun H q => ⟨q, by omega⟩, fun i H x H' _ _ y => y⟩, fun H s => s _ _ hI, fun i H x H' I1 hi s1 s2 y => ?_⟩
  obtain ⟨rfl, hx⟩ := y
  obtain ⟨d, h1, h2⟩ := r.got hx
  exact ⟨I1, d, Ext.refl s2, h1, h2.mono s1⟩
theorem src_P {p : Par} {ks ws : List V} {kvs : List (D × D)} (hI : I d = some (.frz o (DN p.P p.w d xs))) (hl : xs.length = kvs.length) (rk : RepL p I (kvs.map fun q => q.1) ks) (rv : RepL p I (kvs.map fun q => q.2) ws) (hp : (kvs.all fun q => !(isPairs [q.1, q.2])) = true) :
    Src p I (ItP p.P p.w d o xs ks ws) (kvs.map fun q => .tup [q.1, q.2]) := by
  refine ⟨fun H => H d = some (.frz o (DN p.P p.w d xs)), fun i H v H' => ∃ T x y, v = .ref T ∧ H T = none ∧ H' = upd H T (.tup [x, y]) ∧ ks[i]? = some x ∧ ws[i]? = some y, ⟨fun i H hi q => ⟨q, by rw [List.length_map] at hi; omega⟩, fun H q => ⟨q, by rw [List.length_map]; omega⟩, fun i H x H' _ _ y => y⟩, fun H s => s _ _ hI, fun i H v H' I1 hi s1 s2 y => ?_⟩
  obtain ⟨T, x, y, rfl, hT, rfl, hx, hy⟩ := y
  obtain ⟨d1, h1, h2⟩ := rk.got hx
  obtain ⟨d2, h3, h4⟩ := rv.got hy
  rw [List.getElem?_map] at h1 h3
  cases e : kvs[i]? with
  | none => rw [e] at h1; cases h1
  | some q =>
    rw [e] at h1 h3
    cases h1; cases h3
    have hn : I1 T = none := s2.free hT
    have hr : Rep p (upd I1 T (.tup [x, y])) (.tup [q.1, q.2]) (.ref T) := ⟨T, [x, y], rfl, .inl (.inl upd_same), ⟨x, [y], rfl, (h2.mono s1).mono (same_new hn), y, [], rfl, (h4.mono s1).mono (same_new hn), rfl⟩, fun z => by
      have := List.all_eq_true.mp hp q (List.mem_of_getElem? e)
      rw [z] at this
      cases this⟩
    exact ⟨upd I1 T (.tup [x, y]), _, Ext.new s2 (.tup [x, y]) hT, by rw [List.getElem?_map, e]; rfl, hr⟩
variable {a : Expr} {fa : FE}
theorem dict_core {wi : TE → TI} {mk : Addr → Obj → List (NestedKey × Addr × Value) → List V → It} {G : Hp} {ρ : DS} {Q : It → Hp → Prop} {g : List (D × D) → Option (List D)} (ha : DE X cl t W a fa) (st : St (pr X cl) t I G H σ ρ)
    (q : OutP ((fKeep fa ρ).bind fun x => match x.1 with
      | .dcn kvs => (match g kvs with | some ds => Out.ok (ds, x.2) | none => .bad)
      | _ => .bad) (fun x => ∀ I' H' J, Same I I' → St (pr X cl) t I' G H' σ x.2 → Src (pr X cl) I' J x.1 → Q J H') (PostX (pr X cl) W I G))
    (hs : ∀ (I1 : Hp) d o xs kvs ds, I1 d = some (.frz o (DN X.prog X.w d xs)) → RepN (pr X cl) I1 kvs xs → g kvs = some ds → ∃ ws, Vals ws (xs.map fun x => x.2.2) ∧ Src (pr X cl) I1 (mk d o xs ws) ds) :
    iDctR X.prog X.w (eMv (RE (pr X cl) t W fa)) mk σ H Q := by
  rw [outP_bind] at q
  refine DE.keepLE (W := W) st (q.imp (fun x q I1 H1 v s1 st1 r1 => ?_) fun _ z => z)
  obtain ⟨dx, ρ1⟩ := x
  cases dx with
  | dcn kvs =>
    simp only at q
    cases e : g kvs with
    | none => rw [e] at q; exact q.elim
    | some ds =>
      rw [e] at q
      obtain ⟨d, o, xs, e1, h1, rn⟩ := r1
      obtain ⟨ws, h2, h3⟩ := hs I1 d o xs kvs ds h1 rn e
      exact ⟨d, o, xs, ws, e1, st1.b.ih _ _ h1, h2, q I1 H1 _ s1 st1 h3⟩
  | _ => exact q.elim
theorem di_keysD (ha : DE X cl t W a fa) : DI X cl t W tg a (iKeysD fa) := by
  refine ⟨_, pi_keysN (PE.mv ha), fun I G H σ ρ Q s q => ?_⟩
  refine dict_core (wi := fun td => iDctR X.prog X.w td fun d o xs _ => ItL X.prog X.w d o xs (keysV xs)) (g := fun kvs => some (kvs.map fun p => p.1)) ha s ?_ fun I1 d o xs kvs ds h1 rn e => ?_
  · unfold iKeysD at q
    rw [outP_bind] at q ⊢
    exact q.imp (fun x q => by cases h : x.1 <;> rw [h] at q <;> exact q) fun _ z => z
  · cases e
    obtain ⟨ws, hw, _⟩ := repN_vals rn
    exact ⟨ws, hw, src_L h1 (by rw [List.length_map]; exact (repN_len rn).symm) (repN_keys rn)⟩
theorem di_keysM (ha : DE X cl t W a fa) (hbase : attributeBase a "keys" X.env (eval a X.env) = eval a X.env := by rfl) (hline : (apos.endLine == cpos.line) = true := by rfl) : DI X cl t W tg (.Call (.Attribute a "keys" apos) [] [] cpos) (iKeysD fa) := by
  refine ⟨_, pi_keysMN (PE.mv ha) hbase hline, fun I G H σ ρ Q s q => ?_⟩
  refine dict_core (wi := fun td => iDctR X.prog X.w td fun d o xs _ => ItL X.prog X.w d o xs (keysV xs)) (g := fun kvs => some (kvs.map fun p => p.1)) ha s ?_ fun I1 d o xs kvs ds h1 rn e => ?_
  · unfold iKeysD at q
    rw [outP_bind] at q ⊢
    exact q.imp (fun x q => by cases h : x.1 <;> rw [h] at q <;> exact q) fun _ z => z
  · cases e
    obtain ⟨ws, hw, _⟩ := repN_vals rn
    exact ⟨ws, hw, src_L h1 (by rw [List.length_map]; exact (repN_len rn).symm) (repN_keys rn)⟩
theorem di_valsD (ha : DE X cl t W a fa) (hbase : attributeBase a "values" X.env (eval a X.env) = eval a X.env := by rfl) (hline : (apos.endLine == cpos.line) = true := by rfl) : DI X cl t W tg (.Call (.Attribute a "values" apos) [] [] cpos) (iValsD fa) := by
  refine ⟨_, pi_valuesN (PE.mv ha) hbase hline, fun I G H σ ρ Q s q => ?_⟩
  refine dict_core (wi := fun td => iDctR X.prog X.w td fun d o xs ws => ItL X.prog X.w d o xs ws) (g := fun kvs => some (kvs.map fun p => p.2)) ha s ?_ fun I1 d o xs kvs ds h1 rn e => ?_
  · unfold iValsD at q
    rw [outP_bind] at q ⊢
    exact q.imp (fun x q => by cases h : x.1 <;> rw [h] at q <;> exact q) fun _ z => z
  · cases e
    obtain ⟨ws, hw, rw'⟩ := repN_vals rn
    exact ⟨ws, hw, src_L h1 (by rw [List.length_map]; exact (repN_len rn).symm) rw'⟩
theorem di_itemsD {elts : List Expr} {kk : Nat} {tpos : Pos} (ha : DE X cl t W a fa) (hbase : attributeBase a "items" X.env (eval a X.env) = eval a X.env := by rfl) (hline : (apos.endLine == cpos.line) = true := by rfl) :
    DI X cl t W (.Tuple elts kk tpos) (.Call (.Attribute a "items" apos) [] [] cpos) (iItemsD fa) := by
  refine ⟨_, pi_itemsN (PE.mv ha) hbase hline, fun I G H σ ρ Q s q => ?_⟩
  refine dict_core (wi := fun td => iDctR X.prog X.w td fun d o xs ws => ItP X.prog X.w d o xs (keysV xs) ws) (g := fun kvs => if (kvs.all fun p => !(isPairs [p.1, p.2])) = true then some (kvs.map fun p => .tup [p.1, p.2]) else none) ha s ?_ fun I1 d o xs kvs ds h1 rn e => ?_
  · unfold iItemsD at q
    rw [outP_bind] at q ⊢
    refine q.imp (fun x q => ?_) fun _ z => z
    cases h : x.1 <;> rw [h] at q <;> first | exact q | skip
    rename_i kvs
    simp only at q ⊢
    by_cases hc : (kvs.all fun p => !(isPairs [p.1, p.2])) = true
    · rw [if_pos hc] at q ⊢; exact q
    · rw [if_neg hc] at q; exact q.elim
  · replace e : (if (kvs.all fun p => !(isPairs [p.1, p.2])) = true then some (kvs.map fun p => D.tup [p.1, p.2]) else none) = some ds := e
    by_cases hc : (kvs.all fun p => !(isPairs [p.1, p.2])) = true
    · rw [if_pos hc] at e
      cases e
      obtain ⟨ws, hw, rw'⟩ := repN_vals rn
      exact ⟨ws, hw, src_P h1 (repN_len rn).symm (repN_keys rn) rw' hc⟩
    · rw [if_neg hc] at e; cases e
end
end Den

/-! DenTry: try, except x as n: return f(n), f a def that asks what error it is. -/
namespace Den
open PySem PySem.Spec PyProof.Rows L2

/-! ### a def that is called while the exception of p's object is handled, on it -/
structure FnP (P : Program) (w : World) (K : PySem.W.Frag) (mg : Str → Option Value) (base : Heap) (CX : CXT) (k : Nat) (f : Addr) (fd : FuncData) (ps : List Str) (sp : Sp) (p : Addr × Obj) : Prop where
  len : ∀ vs H Q E, sp vs H Q E → vs.length = ps.length
  run : ∀ (A : Around) (outer : List PySem.Env) (s : Shared) (H : Hp) (args : Args) (us : List Value) (vs : List V) (Q : VK) (E : XK), L2H.RoomH k A → L2H.Hot1 A p → L2H.PinOk outer H s p → Env0 P w K mg base A outer s H → BindsTo s fd args (ps.zip us) → Vals vs us → sp vs H Q E →
    codeAny (model P w) A (.call (.ref f) args) (CR CX outer P w H s Q E) s
theorem fn_ofP {CX : CXT} {P : Program} {w : World} {K : PySem.W.Frag} {mg : Str → Option Value} {base : Heap} {k : Nat} {f : Addr} {name qual : Str} {params : Arguments} {body : List Stmt} {scope : Scope} {dV kV doc pm cdv ct oc : Value} {an od : Option Addr}
    {osl : Array (Option Value)} {N ps : List Str} {sp : Sp} {p : Addr × Obj} (lk : K.lookup f = some ⟨oc, od, .func (PySem.W.fnOf name qual params body scope dV kV doc pm an cdv ct), osl⟩) (hcd : PySem.W.codeIn K cdv qual = true) (S : FnScope N ps scope)
    (len : ∀ vs H Q E, sp vs H Q E → vs.length = ps.length)
    (hbody : ∀ (A : Around) (outer : List PySem.Env) (s : Shared) (H : Hp) (vs : List V) (Q : VK) (E : XK), L2H.RoomH k (A.deeper (envOfC qual scope s.heap.objs.size f cdv)) → sp vs H Q E →
      ∃ t, PSs (L2H.cxH CX P w K mg base N qual scope f cdv A outer s H E p) body t ∧ t { nx := fun _ H' => Q .non H', rt := Q } (L2.start N vs) H) :
    FnP P w K mg base CX (k + 1) f (PySem.W.fnOf name qual params body scope dV kV doc pm an cdv ct) ps sp p := by
  refine ⟨len, fun A outer s H args us vs Q E hr hot hpin e0 hb r hsp => ?_⟩
  have hl := len _ _ _ _ hsp
  have KX : K.In s.heap := e0.mod.kin.keeps fun b o e => (e0.bs b o e).1
  have lim : s.heap.NoLimit := e0.mod.nolimit.keeps fun b o e => (e0.bs b o e).1
  have hkind : ∀ y ∈ ps.zip us, scope.names.lookup y.1 = some .local ∨ (scope.names.lookup y.1 = some .cell ∧ ((cellsFrom (s.heap.objs.size + 1) scope.names []).lookup y.1).isSome = true) := fun ⟨n, v⟩ hy => by
    rcases S.par n (List.of_mem_zip hy).1 with q | q
    · exact .inl q
    · exact .inr ⟨q, PySem.W.cellsFrom_some _ _ _ (.inl q)⟩
  refine codeAny_call_function hr.depth (KX _ _ lk) rfl S.co S.gen rfl (PySem.W.codeRec_of KX hcd) (hb _ _ _ _ ?_)
  refine wpAny_newFunctionEnv_cells S.kind hkind fun env he s1 x => ?_
  subst he
  refine ⟨lim.keeps x.toInCall.keep, codeAny_func ?_⟩
  obtain ⟨t, ht, hq⟩ := hbody A outer s H vs Q E (hr.deeper _) hsp
  have I : Inv (L2H.cxH CX P w K mg base N qual scope f cdv A outer s H E p) [] (L2.start N vs) H s1 := L2H.inv_startH S hpin e0 hl r x
  refine wpAny_mono (ht.run [] s1 (L2.start N vs) H _ I hq) (fun fl s' hs => ?_) fun e s' hs => hs
  cases fl with
  | ret u =>
    obtain ⟨v, σ', H', J, rv, q⟩ := hs
    exact ⟨v, H', J.os, J.bare, J.base, J.hok, rv, q⟩
  | next =>
    obtain ⟨σ', H', J, q⟩ := hs
    exact ⟨V.non, H', J.os, J.bare, J.base, J.hok, rfl, q⟩
  | brk =>
    obtain ⟨_, _, _, q⟩ := hs
    exact False.elim q
  | cont =>
    obtain ⟨_, _, _, q⟩ := hs
    exact False.elim q
section
variable {X : Cx} {CX : CXT} {k : Nat} {f : Addr} {fd : FuncData} {ps : List Str} {sp : Sp} {E : L2.St → XK} {x : Str} {q pos : Pos} {e : Expr} {es : List Expr} {t : TA} {p : Addr × Obj}
theorem pe_callP (F : FnP X.prog X.w X.K X.mg X.base CX k f fd ps sp p) (hr : L2H.RoomH k X.A) (hot : L2H.Hot1 X.A p) (hp : p ∈ X.pn) (hg : Gl X x) (hm : X.mg x = some (.ref f)) (hk : PySem.W.keepIn X.K (.ref f) = true) (hb : Binds X.K fd ps []) (hx : ∀ σ, PassesAt CX X σ (E σ))
    (ha : PA X (e :: es) t) (hdb : (x == ("__debug__" : Str)) = false := by decide) (he : starEach (e :: es) X.env = (false, eval e X.env) :: starEach es X.env := by rfl) (hpl : (backTo pos (starEach es X.env)).any (·.1) = false := by rfl) :
    PE X (.Call (.Name x q) (e :: es) [] pos) (tCallS sp E t) := by
  refine ⟨fun pins s σ H Q I h => ?_⟩
  refine wpAny_Call_Name_kw (ld_glob I hg hm ?_ hdb)
  refine PySem.W.callWith_K (h₀ := X.base) I.ok.mod.kin hk (thn (ha.run pos pins s σ H _ I h) fun us s1 ⟨vs, H1, I1, r, q⟩ => ⟨I1.kIn, ?_⟩) he hpl
  have hl : us.length = ps.length := by rw [← r.length]; exact F.len _ _ _ _ q
  have b := hb s1 us I1.kIn (by rw [List.append_nil]; exact hl)
  rw [List.append_nil] at b
  have P1 := I1.pin p (List.mem_append_left _ hp)
  have hpin : L2H.PinOk X.stack H1 s1 p := ⟨P1.1, P1.2.1, fun hm => (List.mem_cons.mp (I1.stkSub p.1 hm)).elim P1.2.2.1 P1.2.2.2.1, P1.2.2.2.2⟩
  refine wpAny_call (codeAny_mono (F.run X.A X.stack s1 H1 ⟨us, []⟩ us vs Q (E σ) hr hot hpin I1.env0 b r q) fun r s' hq => ?_)
  cases r with
  | error e => exact hx σ pins H1 s1 e s' I1 hq
  | ok fl =>
    cases fl with
    | ret u => exact I1.after hq
    | next => exact False.elim hq
    | brk => exact False.elim hq
    | cont => exact False.elim hq
end
section
variable {P : Program} {w : World} {K : PySem.W.Frag} {mg : Str → Option Value} {base : Heap} {cl : Cls} {t : Addr}
theorem fn_mkP {x qual : Str} {st : Stmt} {f : Addr} {fd : FuncData} {N ps : List Str} {k : Nat} {fb : FS} {p : Addr × Obj} (n : Nat) (F : Fun K x qual st f fd) (S : FnScope N ps (defScope st)) (hn : N.length = ps.length + n)
    (hb : ∀ (cdv : Value) (A : Around) (outer : List PySem.Env) (s : Shared) (H : Hp) (E : XK), L2H.RoomH k (A.deeper (envOfC qual (defScope st) s.heap.objs.size f cdv)) →
      DSs (L2H.cxH (L2N.CX P w) P w K mg base N qual (defScope st) f cdv A outer s H E p) cl t (WF E) (defBody st) fb) :
    FnP P w K mg base (L2N.CX P w) (k + 1) f fd ps (spOf ⟨P, w, K, cl⟩ ps.length (runF fb n)) p := by
  obtain ⟨oc, od, kV, doc, pm, an, cdv, ct, osl, rfl, lk, hcd⟩ := F.ex
  refine fn_ofP lk hcd S (fun vs H Q E h => h.1) fun A outer s H vs Q E hr h => ?_
  obtain ⟨hl, I, ds, hs, r, q⟩ := h
  have hd := hb cdv A outer s H E hr
  refine ⟨_, hd, I, offI I H, Den.start ds n, St.start hs r (by omega), ?_⟩
  unfold runF at q
  rw [outP_bind] at q
  refine q.imp (fun y q => ?_) fun er z => fun I' H' σ' s' b' => z I' H' (ext_offI hs s' b')
  cases y with
  | nx ρ => exact fun I' H' σ' s' st' => q I' H' .non (ext_offI hs s' st'.b) rfl
  | rt d ρ => exact fun I' H' σ' v s' st' r' => q I' H' v (ext_offI hs s' st'.b) r'
  | bk ρ => exact q.elim
  | ct ρ => exact q.elim
theorem roomH64 {k : Nat} {A : Around} (h : L2H.RoomH k A) : A.units + 64 < cLine := by have := h.un; omega
theorem roomH65 {k : Nat} {A : Around} (h : L2H.RoomH k A) : A.units + 65 < cLine := by have := h.un; omega
theorem roomH1 {k : Nat} {A : Around} (h : L2H.RoomH k A) : A.units + 1 < cLine := by have := h.un; omega
end
/-! ### isinstance of the error that is handled -/
def ExnC (X : Cx) (cl : Cls) : Prop := ∀ a er, cl.hx = some (a, er) → CallR X (.builtin "isinstance") (rIsE X.K (cl er) a)
theorem exnC_of {X : Cx} {c : Err → Addr} {p : Addr × Obj} {er : Err} (hp : p ∈ X.pn) (C : ExcC X.K (c er)) (hz : Zc (.ref (c er)) none p.2) (hf : ∃ vs, p.2.data = .fields vs) : ExnC X ⟨c, some (p.1, er)⟩ := by
  intro a e he
  cases he
  intro pins s σ H xs us Q I r h
  obtain ⟨c', cv, b, rfl, hcv, e, q⟩ := h
  cases r with
  | cons rx rr =>
    cases rr with
    | cons rt rr =>
      cases rr
      cases rx
      have ec := hcv _ rt
      subst ec
      obtain ⟨hget, _⟩ := I.pin p (List.mem_append.mpr (.inl hp))
      obtain ⟨vs, hv⟩ := hf
      have J : PySem.W.InstAt s.heap p.1 p.2 (c er) none := by
        obtain ⟨a, ⟨oc, od, oda, osl⟩⟩ := p
        obtain ⟨h1, h2⟩ := hz
        dsimp only at h1 h2 hv hget
        subst h1 h2 hv
        exact ⟨hget, rfl, rfl, trivial⟩
      exact PySem.W.kia_one (PySem.W.handS_kitx_exc C.hg C.hk C.hs C.hd C.ha C.hn C.ht C.hm) I.kIn J e (fun z => nomatch z) fun tk => ⟨.bl b, H, I.kept (t' := tk) fun _ _ z => z, rfl, q⟩
section
variable {X : Cx} {cl : Cls} {t : Addr} {W : WX} {a : Expr} {fa : FE} {pos : Pos}
theorem is_exn {g : Err → Bool} {cv : Value} {c : V} (hcv : ∀ u, RelV c u → u = cv) (hk : ∀ b er, cl.hx = some (b, er) → PySem.W.kitOne X.K (.ref (cl er)) cv = some (g er)) :
    LUn (pr X cl) (fun x H Q => ∃ b er, cl.hx = some (b, er) ∧ rIsE X.K (cl er) b [x, c] H Q) (gIsX g) := by
  intro I H x dx Q s hx q
  cases dx with
  | exn e =>
    have hx' : ∃ b, x = .ref b ∧ cl.hx = some (b, e) := by
      rcases hx with h | ⟨_, _, o⟩
      · exact h
      · exact o.elim
    obtain ⟨b, e1, e2⟩ := hx'
    subst e1
    exact ⟨b, e, e2, c, cv, g e, rfl, hcv, hk b e e2, rep_here s q rfl⟩
  | _ => exact q.elim
/-- isinstance(e, C), C an own class -/
theorem de_isE {x : PySem.Str} {p p2 : Pos} {C : Addr} (g : Err → Bool) (hE : ExnC X cl) (hk : ∀ b er, cl.hx = some (b, er) → PySem.W.kitOne X.K (.ref (cl er)) (.ref C) = some (g er)) (ha : DE X cl t W a fa) (hm : X.mg "isinstance" = none) (hm2 : X.mg x = some (.ref C)) (hg : Gl X "isinstance" := by rfl) (hg2 : Gl X x := by rfl)
    (hdb : (x == ("__debug__" : PySem.Str)) = false := by decide)
    (he : starEach [a, .Name x p2] X.env = (false, eval a X.env) :: starEach [.Name x p2] X.env := by rfl) (he2 : starEach [.Name x p2] X.env = (false, eval (.Name x p2) X.env) :: starEach [] X.env := by rfl) (hpl : (backTo pos (starEach [.Name x p2] X.env)).any (·.1) = false := by rfl) :
    DE X cl t W (.Call (.Name "isinstance" p) [a, .Name x p2] [] pos) (fUn (gIsX g) fa) := by
  obtain ⟨ta, pa, la⟩ := ha.ex
  have hc : CallR X (.builtin "isinstance") (fun xs H Q => ∃ b er, cl.hx = some (b, er) ∧ rIsE X.K (cl er) b xs H Q) := fun pins s σ H xs us Q I r ⟨b, er, e, h⟩ => hE b er e pins s σ H xs us Q I r h
  refine DE.mk (pe_callB hc hg hm boot_isinstance (pa_cons pa (pa_cons (pe_glob (v := .ref C) hg2 hm2 rfl hdb) pa_nil he2) he) (by decide) (by decide) he hpl) ?_
  exact LE.un (r := fun x H Q => ∃ b er, cl.hx = some (b, er) ∧ rIsE X.K (cl er) b [x, .ref C] H Q) (gIsX_ne g) la (is_exn (fun u r => r) hk)
/-- isinstance(e, ValueError) -/
theorem de_isV {p p2 : Pos} (g : Err → Bool) (hE : ExnC X cl) (hk : ∀ b er, cl.hx = some (b, er) → PySem.W.kitOne X.K (.ref (cl er)) (.type "ValueError") = some (g er)) (ha : DE X cl t W a fa) (hm : X.mg "isinstance" = none) (hm2 : X.mg "ValueError" = none) (hg : Gl X "isinstance" := by rfl) (hg2 : Gl X "ValueError" := by rfl)
    (he : starEach [a, .Name "ValueError" p2] X.env = (false, eval a X.env) :: starEach [.Name "ValueError" p2] X.env := by rfl) (he2 : starEach [.Name "ValueError" p2] X.env = (false, eval (.Name "ValueError" p2) X.env) :: starEach [] X.env := by rfl) (hpl : (backTo pos (starEach [.Name "ValueError" p2] X.env)).any (·.1) = false := by rfl) :
    DE X cl t W (.Call (.Name "isinstance" p) [a, .Name "ValueError" p2] [] pos) (fUn (gIsX g) fa) := by
  obtain ⟨ta, pa, la⟩ := ha.ex
  have hc : CallR X (.builtin "isinstance") (fun xs H Q => ∃ b er, cl.hx = some (b, er) ∧ rIsE X.K (cl er) b xs H Q) := fun pins s σ H xs us Q I r ⟨b, er, e, h⟩ => hE b er e pins s σ H xs us Q I r h
  refine DE.mk (pe_callB hc hg hm boot_isinstance (pa_cons pa (pa_cons (pe_bltn (v := .ty "ValueError") hg2 hm2 (by decide +kernel) rfl (by decide) (by decide)) pa_nil he2) he) (by decide) (by decide) he hpl) ?_
  exact LE.un (r := fun x H Q => ∃ b er, cl.hx = some (b, er) ∧ rIsE X.K (cl er) b [x, .ty "ValueError"] H Q) (gIsX_ne g) la (is_exn (fun u r => r) hk)
end
/-! ### the try -/
mutual
theorem Rep.noX {P : Program} {w : World} {K : PySem.W.Frag} {c1 c2 : Cls} {I : Hp} : ∀ {d : D} {v : V}, d.noX = true → Rep ⟨P, w, K, c1⟩ I d v → Rep ⟨P, w, K, c2⟩ I d v
  | .non, _, _, h => h
  | .bl _, _, _, h => h
  | .int _, _, _, h => h
  | .str _, _, _, h => h
  | .tup ds, _, n, ⟨a, vs, e, q, r, z⟩ => ⟨a, vs, e, q, RepL.noX n r, z⟩
theorem RepL.noX {P : Program} {w : World} {K : PySem.W.Frag} {c1 c2 : Cls} {I : Hp} : ∀ {ds : List D} {vs : List V}, D.noXL ds = true → RepL ⟨P, w, K, c1⟩ I ds vs → RepL ⟨P, w, K, c2⟩ I ds vs
  | [], _, _, h => h
  | d :: ds, _, n, ⟨v, vr, e, h, t⟩ => by
    rw [D.noXL, Bool.and_eq_true] at n
    exact ⟨v, vr, e, Rep.noX n.1 h, RepL.noX n.2 t⟩
end
theorem St.dead {p : Par} {t : Addr} {I G H I' H' : Hp} {σ : L2.St} {ρ : DS} (s : St p t I G H σ ρ) (b : Base I' G H') : St p t I' G H' σ (ρ.map fun _ => none) := by
  refine ⟨b, fun i sv h => ?_, fun i j x y a h => ?_, by rw [List.length_map]; exact s.len⟩
  · rw [List.getElem?_map] at h
    cases e : ρ[i]? with
    | none => rw [e] at h; cases h
    | some z => rw [e] at h; cases h
  · rw [List.getElem?_map] at h
    cases e : ρ[i]? with
    | none => rw [e] at h; cases h
    | some z => rw [e] at h; cases h
theorem takesN0' {X : Cx} : L2N.Takes X W0 := fun u s' ⟨_, _, _, _, _, _, _, _, _, _, _, _, _, _, _, _, w⟩ => w.elim
section
variable {X : Cx} {c : Err → Addr} {t : Addr} {W : WX}
theorem ds_tryW {x n y : PySem.Str} {CW f : Addr} {fd : FuncData} {i k : Nat} {pn : PySem.Str} {body : List Stmt} {fb : FS} {F : List D → Out D} {np pos pos' pos2 pos3 q1 q2 : Pos} (ok : Err → Bool)
    (hs : X.stack = X.env :: X.outer) (hf : X.env.frame = some X.env.locals) (hN : X.N.Nodup) (hi : X.N[i]? = some n) (hln : X.env.kindOf n = some .local) (hc : Names X x (.ref CW))
    (hex : ∀ er, ok er = true → PySem.W.exmOne X.K (.ref (c er)) (.ref CW) = some true) (hr : Room k X.A)
    (hb : ∀ (W' : WX) (pn : List (Addr × Obj)) (xe : Value → Shared → Prop), L2N.Takes (X.tr pn xe) W' → PassesOwn (model X.prog X.w) X.A X.env xe → DSs (X.tr pn xe) ⟨c, none⟩ t W' body fb)
    (hF : ∀ (p : Addr × Obj) (er : Err), ok er = true → Zc (.ref (c er)) none p.2 → (∃ vs, p.2.data = .fields vs) → FnP X.prog X.w X.K X.mg X.base (L2N.CX X.prog X.w) k f fd [pn] (spOf ⟨X.prog, X.w, X.K, ⟨c, some (p.1, er)⟩⟩ 1 F) p)
    (hm : X.mg y = some (.ref f)) (hk : PySem.W.keepIn X.K (.ref f) = true) (hbd : Binds X.K fd [pn] []) (hg : Gl X y := by rfl) (hdy : (y == ("__debug__" : PySem.Str)) = false := by decide)
    (hdn : (n == ("__debug__" : PySem.Str)) = false := by decide) (hcn : (n == ("__classdict__" : PySem.Str)) = false := by decide) :
    DS1 X ⟨c, none⟩ t W (.Try body [.ExceptHandler (some (.Name x np)) (some n) [.Return (some (.Call (.Name y q1) [.Name n q2] [] pos2)) pos3] pos'] [] [] pos) (sTryW ok fb (hdW F)) := by
  let ts : Addr → Value → Option Addr → TS := fun a cls d D σ H => ∃ (er : Err) (σ0 : L2.St), ok er = true ∧ cls = .ref (c er) ∧ d = none ∧ σ = σ0.set i (some (.ref a)) ∧ spOf ⟨X.prog, X.w, X.K, ⟨c, some (a, er)⟩⟩ 1 F [.ref a] H (fun v H1 => D.rt v H1) fun _ _ _ => False
  have hsu : ∀ (a : Addr) (oe : Obj) (cls : Value) (d : Option Addr) (pn : List (Addr × Obj)), L2N.Zn cls d oe → (∃ vs, oe.data = .fields vs) → PSs (X.suite a ((a, oe) :: pn)) [.Return (some (.Call (.Name y q1) [.Name n q2] [] pos2)) pos3] (ts a cls d) := by
    intro a oe cls d pn hz hd
    refine ⟨fun pins s σ H D I h => ?_⟩
    obtain ⟨er, σ0, h1, rfl, rfl, rfl, h2⟩ := h
    have G := hF (a, oe) er h1 hz.zc hd
    have hvs : Vis X.env.scope n := .inl hln
    have hot : L2H.Hot1 (X.A.mark (some (.ref a))) (a, oe) := by
      obtain ⟨vs, e⟩ := hd
      exact ⟨rfl, vs, e, hz.2.2 vs e⟩
    have P1 : PE (X.suite a ((a, oe) :: pn)) (.Call (.Name y q1) [.Name n q2] [] pos2) _ := pe_callP (X := X.suite a ((a, oe) :: pn)) (E := fun _ _ _ _ => False) G ⟨hr.dp, hr.un⟩ hot List.mem_cons_self hg hm hk hbd
      (fun σ pins H s e s' I c => by obtain ⟨_, _, _, _, _, _, _, _, _, _, _, _, z⟩ := c; exact z.elim) (pa_cons (pe_var (i := i) hi hvs hdn hcn) pa_nil (by rfl)) hdy
    refine (pss_one (ps_ret P1)).run pins s _ H D I ?_
    have hl : σ0.length = X.N.length := by have := I.len; simpa using this
    have hil : i < σ0.length := by rw [hl]; exact (List.getElem?_eq_some_iff.mp hi).1
    refine ⟨.ref a, by rw [List.getElem?_set_self hil], ?_⟩
    exact h2
  have base := L2N.ps_try_as (pos := pos) (pos' := pos') (np := np) (tb := fun W => RS (pr X ⟨c, none⟩) t W fb) (ts := ts) (Wout := W0) hs hf hN hi hln hc takesN0' hb hsu
  refine DS1.mk base ?_
  intro I G H σ ρ Z s q
  refine ⟨I, G, ρ, s, ?_⟩
  unfold sTryW at q
  cases e : fb ρ with
  | bad => rw [e] at q; exact q.elim
  | ok z => rw [e] at q; exact q
  | exc er =>
    rw [e] at q
    simp only at q
    by_cases ho : ok er = true
    · rw [if_pos ho] at q
      intro I' H' σ' s' b'
      refine ⟨true, hex er ho, fun _ a ha => ⟨er, σ', ho, rfl, rfl, rfl, rfl, I', [.exn er], b'.ih, ⟨.ref a, [], rfl, ⟨a, rfl, rfl⟩, rfl⟩, ?_⟩, fun z => nomatch z⟩
      cases e2 : hdW F er with
      | bad => rw [e2] at q; exact q.elim
      | exc _ => rw [e2] at q; exact q.elim
      | ok d =>
        rw [e2] at q
        have e3 : F [.exn er] = .ok d := e2
        rw [e3]
        simp only at q
        by_cases hn : d.noX = true
        · rw [if_pos hn] at q
          exact fun I2 H2 v x2 r2 => q I2 H2 σ v (s'.trans x2.ii) (s.dead (b'.ext x2)) (Rep.noX hn r2)
        · rw [if_neg hn] at q; exact q.elim
    · rw [if_neg ho] at q; exact q.elim
end
/-! ### [f, g, ..][i](args) -/
section
variable {X : Cx} {cl : Cls} {t : Addr} {W : WX}
def FnsA (X : Cx) (es : List Expr) (fs : List Addr) : Prop := PA X es (fun _ H Q => Q (fs.map V.ref) H)
theorem fa_nil : FnsA X [] [] := pa_nil
theorem fa_cons {x : PySem.Str} {pos : Pos} {f : Addr} {es : List Expr} {fs : List Addr} (hm : X.mg x = some (.ref f)) (r : FnsA X es fs) (hg : Gl X x := by rfl) (hd : (x == ("__debug__" : PySem.Str)) = false := by decide)
    (he : starEach (.Name x pos :: es) X.env = (false, eval (.Name x pos) X.env) :: starEach es X.env := by rfl) : FnsA X (.Name x pos :: es) (f :: fs) := pa_cons (pe_glob (v := .ref f) hg hm rfl hd) r he
/-- f can be called with m arguments, and does F -/
def Able (X : Cx) (cl : Cls) (m : Nat) (f : Addr) (F : List D → Out D) : Prop := ∃ (k : Nat) (fd : FuncData) (ps : List PySem.Str), FnOk X.prog X.w X.K X.mg X.base (L2N.CX X.prog X.w) k f fd ps (spOf (pr X cl) ps.length F) ∧ Room k X.A ∧ PySem.W.keepIn X.K (.ref f) = true ∧ Binds X.K fd ps [] ∧ ps.length = m
def Ables (X : Cx) (cl : Cls) (m : Nat) : List Addr → List (List D → Out D) → Prop
  | [], [] => True
  | f :: fs, F :: Fs => Able X cl m f F ∧ Ables X cl m fs Fs
  | _, _ => False
theorem ables_nil {m : Nat} : Ables X cl m [] [] := trivial
theorem ables_cons {m k : Nat} {f : Addr} {F : List D → Out D} {fs : List Addr} {Fs : List (List D → Out D)} {fd : FuncData} {ps : List PySem.Str} (G : FnOk X.prog X.w X.K X.mg X.base (L2N.CX X.prog X.w) k f fd ps (spOf (pr X cl) ps.length F)) (hr : Room k X.A) (hk : PySem.W.keepIn X.K (.ref f) = true) (hb : Binds X.K fd ps []) (r : Ables X cl m fs Fs) (hl : ps.length = m := by rfl) : Ables X cl m (f :: fs) (F :: Fs) := ⟨⟨k, fd, ps, G, hr, hk, hb, hl⟩, r⟩
theorem Ables.length {m : Nat} : ∀ {fs : List Addr} {Fs : List (List D → Out D)}, Ables X cl m fs Fs → fs.length = Fs.length
  | [], [], _ => rfl
  | _ :: _, _ :: _, h => by rw [List.length_cons, List.length_cons, Ables.length h.2]
theorem Ables.get {m : Nat} : ∀ {fs : List Addr} {Fs : List (List D → Out D)} {i : Nat} {F : List D → Out D}, Ables X cl m fs Fs → Fs[i]? = some F → ∃ f, fs[i]? = some f ∧ Able X cl m f F
  | f :: _, _ :: _, 0, _, h, e => by cases e; exact ⟨f, rfl, h.1⟩
  | _ :: _, _ :: _, i + 1, _, h, e => by simpa using Ables.get h.2 (by simpa using e)
  | [], [], _, _, _, e => by simp at e
theorem Ables.atI {m : Nat} {fs : List Addr} {Fs : List (List D → Out D)} {i : Int} {F : List D → Out D} (h : Ables X cl m fs Fs) (e : Den.atI Fs i = some F) : ∃ f, Den.atI fs i = some f ∧ Able X cl m f F := by
  unfold Den.atI at *
  rw [h.length]
  split
  · rename_i c; rw [if_pos c] at e; exact h.get e
  · rename_i c
    rw [if_neg c] at e
    split
    · rename_i c2; rw [if_pos c2] at e; exact h.get e
    · rename_i c2; rw [if_neg c2] at e; cases e
def tCallFn (X : Cx) (W : WX) (te : TE) (ta : TA) : TE := fun σ H Q => te σ H fun v H1 => ∃ (k : Nat) (f : Addr) (fd : FuncData) (ps : List PySem.Str) (sp : Sp), v = .ref f ∧ FnOk X.prog X.w X.K X.mg X.base (L2N.CX X.prog X.w) k f fd ps sp ∧ Room k X.A ∧ PySem.W.keepIn X.K (.ref f) = true ∧ Binds X.K fd ps [] ∧ ta σ H1 fun vs H2 => sp vs H2 Q (WE W σ)
theorem pe_callFn {fe e : Expr} {es : List Expr} {te : TE} {ta : TA} {pos : Pos} (tk : L2N.Takes X W) (he : PE X fe te) (ha : PA X (e :: es) ta)
    (hc : eval (.Call fe (e :: es) [] pos) X.env = (do callWith pos (← eval fe X.env) [] (backTo pos (starEach (e :: es) X.env)) (backToKw pos (keywordEach [] X.env))) := by rfl)
    (hst : starEach (e :: es) X.env = (false, eval e X.env) :: starEach es X.env := by rfl) (hpl : (backTo pos (starEach es X.env)).any (·.1) = false := by rfl) : PE X (.Call fe (e :: es) [] pos) (tCallFn X W te ta) := by
  refine ⟨fun pins s σ H Q I h => ?_⟩
  refine Call_ (thn (he.run pins s σ H _ I h) fun u s1 ⟨v, H1, I1, r, k, f, fd, ps, sp, ev, F, hr, hk, hb, q⟩ => ?_) hc
  subst ev
  obtain rfl : u = .ref f := r
  refine PySem.W.callWith_K (h₀ := X.base) I1.ok.mod.kin hk (thn (ha.run pos pins s1 σ H1 _ I1 q) fun us s2 ⟨vs, H2, I2, r2, q2⟩ => ⟨I2.kIn, ?_⟩) hst hpl
  exact run_fnS F hr hb (L2N.passAt tk σ) I2 r2 q2
theorem de_callIx {es args : List Expr} {e ei : Expr} {fs : List Addr} {Fs : List (List D → Out D)} {fi : FE} {ff : FA} {p1 p2 pos : Pos} (tk : L2N.Takes X W) (hf : FnsA X es fs) (hl : fs.length ≤ 1000) (hi : DE X cl t W ei fi) (ha : DA X cl t W (e :: args) ff) (hA : Ables X cl (e :: args).length fs Fs) (hs : PlainIx ei := by exact fun _ _ => rfl)
    (hc : eval (.Call (.Subscript (.List es p1) ei p2) (e :: args) [] pos) X.env = (do callWith pos (← eval (.Subscript (.List es p1) ei p2) X.env) [] (backTo pos (starEach (e :: args) X.env)) (backToKw pos (keywordEach [] X.env))) := by rfl)
    (hst : starEach (e :: args) X.env = (false, eval e X.env) :: starEach args X.env := by rfl) (hpl : (backTo pos (starEach args X.env)).any (·.1) = false := by rfl) :
    DE X cl t W (.Call (.Subscript (.List es p1) ei p2) (e :: args) [] pos) (fCallIx Fs fi ff) := by
  have len := ha.len
  obtain ⟨ti, pi, li⟩ := hi.ex
  obtain ⟨ta, pa, la⟩ := ha.ex
  refine DE.mk (pe_callFn tk (pe_ix ix_list (pe_lst hf) pi hs) pa hc hst hpl) ?_
  intro I G H σ ρ Q s q
  refine ⟨by rw [List.length_map]; exact Nat.le_trans hl (by decide), fun a ha0 => ?_⟩
  have hIa : I a = none := by
    cases z : I a with
    | none => rfl
    | some u => have := s.b.ih a u z; rw [ha0] at this; cases this
  have hGa : G a = none := by
    cases z : G a with
    | none => rfl
    | some u => have := s.b.gh a u z; rw [ha0] at this; cases this
  have sh : Same H (upd H a (.lst (fs.map V.ref))) := fun b o e => by rw [upd_ne (ne_of_none e ha0)]; exact e
  have s1 : St (pr X cl) t I G (upd H a (.lst (fs.map V.ref))) σ ρ := s.ext ⟨Same.refl _, s.b.ih.trans sh, sh, fun b z => .inl z⟩
  have s2 : St (pr X cl) t I (upd G a (.lst (fs.map V.ref))) (upd H a (.lst (fs.map V.ref))) σ ρ := s1.addG (upd_same) hIa hGa fun i sv h1 h2 h3 => by
    obtain ⟨v, h4, h5⟩ := s.sl i sv h1
    rw [h3] at h4
    cases h4
    cases sv with
    | fz d => cases h2
    | ow d => obtain ⟨b, e, _, _, o⟩ := h5; cases e; exact o.there ha0
    | io d => obtain ⟨e, _, _, o⟩ := h5; cases e; exact o.there ha0
  have sg : Same G (upd G a (.lst (fs.map V.ref))) := fun b o e => by rw [upd_ne (ne_of_none e hGa)]; exact e
  refine li I (upd G a (.lst (fs.map V.ref))) _ σ ρ _ s2 ?_
  unfold fCallIx at q
  rw [outP_bind] at q
  refine q.imp (fun x q I1 H1 v sI st1 r1 => ?_) fun er z I' H' σ' s' b' => z I' H' σ' s' ⟨b'.ih, sg.trans b'.gh, fun b h => by
    cases e : G b with
    | none => rfl
    | some u => have := b'.ig b h; rw [sg b u e] at this; cases this⟩
  have bs : ∀ {I' H' : Hp}, Base I' (upd G a (.lst (fs.map V.ref))) H' → Base I' G H' := fun b' => ⟨b'.ih, sg.trans b'.gh, fun b h => by
    cases e : G b with
    | none => rfl
    | some u => have := b'.ig b h; rw [sg b u e] at this; cases this⟩
  cases e1 : x.1.get x.2 with
  | bad => rw [e1] at q; exact q.elim
  | exc er => exact absurd e1 (get_exc _ _ _)
  | ok d =>
    rw [e1] at q
    simp only [Out.bind_ok] at q
    have hd := RR.get st1 r1 e1
    cases d with
    | int i =>
      simp only at q
      cases e2 : Den.atI Fs i with
      | none => rw [e2] at q; exact q.elim
      | some F =>
        rw [e2] at q
        simp only [ofO, Out.bind_ok] at q
        obtain ⟨f, hf1, k, fd, ps, hF, hr, hk, hb, hps⟩ := hA.atI e2
        have hat : H1 a = some (.lst (fs.map V.ref)) := st1.b.gh a _ upd_same
        have hix : L2.atI (fs.map V.ref) i = some (.ref f) := by
          rw [atI_eq]
          unfold Den.atI at hf1 ⊢
          rw [List.length_map]
          split
          · rename_i c; rw [if_pos c] at hf1; rw [List.getElem?_map, hf1]; rfl
          · rename_i c
            rw [if_neg c] at hf1
            split
            · rename_i c2; rw [if_pos c2] at hf1; rw [List.getElem?_map, hf1]; rfl
            · rename_i c2; rw [if_neg c2] at hf1; cases hf1
        refine ⟨a, _, i, _, rfl, hd.int, SqL.of hat, hix, k, f, fd, ps, _, rfl, hF, hr, hk, hb, ?_⟩
        refine la I1 (upd G a (.lst (fs.map V.ref))) H1 σ x.2 _ st1 ?_
        rw [outP_bind] at q
        cases e3 : ff x.2 with
        | bad => rw [e3] at q; exact q
        | exc er => rw [e3] at q; exact fun I' H' σ' s' b' => q I' H' σ' (sI.trans s') (bs b')
        | ok y =>
          rw [e3] at q
          intro I2 H2 vs s3 st2 r2
          refine ⟨by rw [← r2.length, len _ _ e3, hps], I2, y.1, st2.b.ih, r2, ?_⟩
          have q' : OutP ((F y.1).bind _) _ _ := q
          rw [outP_bind] at q'
          exact q'.imp (fun d q I3 H3 v x2 r3 => q I3 H3 v ((sI.trans s3).trans x2.ii) ((st2.ext x2).subG sg) r3) fun er z I3 H3 x2 => z I3 H3 σ ((sI.trans s3).trans x2.ii) (bs (st2.b.ext x2))
    | _ => exact q.elim
end
end Den

/-! DenEnd: what the printed parts lean on. -/
namespace Den
open PySem PySem.Spec PyProof.Rows L2
theorem room64 {k : Nat} {A : Around} (h : Room k A) : A.units + 64 < cLine := by have := h.un; omega
theorem room65 {k : Nat} {A : Around} (h : Room k A) : A.units + 65 < cLine := by have := h.un; omega
theorem room1 {k : Nat} {A : Around} (h : Room k A) : A.units + 1 < cLine := by have := h.un; omega
theorem b_all : bootBuiltins "all" = some (.builtin "all") := by decide +kernel
theorem b_any : bootBuiltins "any" = some (.builtin "any") := by decide +kernel
theorem b_sum : bootBuiltins "sum" = some (.builtin "sum") := by decide +kernel
theorem b_min : bootBuiltins "min" = some (.builtin "min") := by decide +kernel
theorem b_max : bootBuiltins "max" = some (.builtin "max") := by decide +kernel
theorem b_abs : bootBuiltins "abs" = some (.builtin "abs") := by decide +kernel
theorem b_tuple : bootBuiltins "tuple" = some (.type "tuple") := by decide +kernel
theorem b_int : bootBuiltins "int" = some (.type "int") := by decide +kernel
section
variable {X : Cx} {cl : Cls} {t : Addr} {W : WX} {pos : Pos} {x : PySem.Str}
theorem de_globS {z : PySem.Str} (l : List Nat) (h : ∃ t, X.mg x = some (.str z t)) (hl : z.cps.toList = l := by decide +kernel) (hv : (l.all fun c => decide (c < 0x110000)) = true := by decide) (hg : Gl X x := by rfl) (hd : (x == ("__debug__" : PySem.Str)) = false := by decide) : DE X cl t W (.Name x pos) (fC (.str l)) := by
  obtain ⟨tk, h⟩ := h
  exact de_glob (v := .str z) h ⟨tk, rfl⟩ (fun _ => ⟨by subst hl; simp, by simpa using hv⟩) hg hd
theorem de_globI {i : Int} (h : ∃ t, X.mg x = some (.int i t)) (hg : Gl X x := by rfl) (hd : (x == ("__debug__" : PySem.Str)) = false := by decide) : DE X cl t W (.Name x pos) (fC (.int i)) := by
  obtain ⟨tk, h⟩ := h
  exact de_glob (v := .int i) h ⟨tk, rfl⟩ (fun _ => rfl) hg hd
end
theorem takesN0 {X : Cx} : L2N.Takes X W0 := fun u s' ⟨_, _, _, _, _, _, _, _, _, _, _, _, _, _, _, _, w⟩ => w.elim
theorem fun_of {K : PySem.W.Frag} {x qual : PySem.Str} {st : Stmt} {f : Addr} {fd : FuncData} (F : FunD K x qual (defArgs st) (defBody st) (defScope st) [] [] f fd) : Fun K x qual st f fd := by
  obtain ⟨oc, od, dV, kV, doc, pm, an, cdv, ct, osl, e, lk, hcd, hD, _⟩ := F.ex
  rcases hD with ⟨_, rfl⟩ | ⟨n, _⟩
  · exact ⟨⟨oc, od, kV, doc, pm, an, cdv, ct, osl, e, lk, hcd⟩, F.kp⟩
  · exact absurd rfl n
theorem errOk_of {K : PySem.W.Frag} {x : PySem.Str} (c : (He.Fa.exc x).ok K = true) : ErrOk K (He.ga K x) 0 := by
  obtain ⟨h1, h2, h3, h4⟩ := He.exc_ok c
  exact ⟨h1, h2, h3, h4⟩
theorem cx_none {P : Program} {w : World} {H : Hp} {s : Shared} {e : Value} {s' : Shared} (z : L2N.CX P w [] H s (fun _ _ _ => False) e s') : False := by
  obtain ⟨_, _, _, _, _, _, _, _, _, _, _, _, z⟩ := z
  exact z.elim
theorem spLaw_of {p : Par} {F : List D → Out D} {H : Hp} {a : Addr} {ns : List Int} (HL : ∀ ns : List Int, ns.length ≤ 63 → F [.scr ns] = .ok (.bl true)) (hl : ns.length ≤ 63) (hS : SqL p.K H a (ns.map V.int)) : spOf p 1 F [.ref a] H (fun v _ => v = .bl true) fun _ _ _ => False := by
  refine ⟨rfl, H, [.scr ns], Same.refl _, ⟨_, _, rfl, ⟨a, rfl, hS⟩, rfl⟩, ?_⟩
  rw [HL ns hl]
  exact fun I' H' v _ h => h
/-- a law: F gives the written part, the function object, the promise over every base -/
theorem walk_den {l : PySem.W.OpenLaw} {n k : Nat} {q : Program} {loose : List PySem.Str} {XP : (PySem.Str → Option Value) → Heap → Prop} {YP : World → Heap → Prop} {d : DefRec} {x : PySem.Str}
    (hn : l.most = some n) (hn2 : n ≤ sizeLine) (hdf : d.params.defaults = []) (hr : Room k callerA)
    (F : ∀ (w : World) (mg : PySem.Str → Option Value) (fa : Addr) (h : Heap), YP w h → h.Ns mainGlobals mg → mg d.name = some (.ref fa) →
      ∃ (K : PySem.W.Frag) (fd : FuncData) (sp : Sp), K.In h ∧ (∀ (s : Shared) (u : Value), BindsTo s fd ⟨[u], []⟩ [(x, u)]) ∧
        (∀ (H : Hp) (a : Addr) (ns : List Int), ns.length ≤ n → Only H → SqL K H a (ns.map V.int) → sp [.ref a] H (fun v _ => v = .bl true) fun _ _ _ => False) ∧
        ∀ base : Heap, K.In base → base.Ns mainGlobals mg → FnOk l.prog w K mg base (L2N.CX l.prog w) k fa fd [x] sp) :
    PySem.W.WalkO q loose XP YP l.row.toRowW d [] (fun f vs => PySem.call f vs) := by
  refine Att.attach_call hn hdf fun w s₀ s₁ mg mb fa o pm cd doc a vs ns G Y ho hd hcd hmg hobj hints hlen hg => ?_
  obtain ⟨K, fd, sp, KX, hb, hsp, hF⟩ := F w mg fa _ Y G.T.g hmg
  exact law_call KX G.T.g G.T.b G.T.builtins G.T.nolimit hg hobj hints (Nat.le_trans hlen hn2) hr hF hb (fun H hO hS => hsp H a ns hlen hO hS) fun H e s' => cx_none
/-! ### tuples of the top -/
/-- flat data, as the head tells it -/
def flatDv : D → Option He.Dv
  | .non => some .non
  | .bl b => some (.bl b)
  | .int i => some (.int i)
  | .str l => if (l.all fun c => decide (c < 0x110000)) = true then some (.str ⟨l.toArray⟩) else none
  | _ => none
theorem flatDv_rep {p : Par} {I : Hp} {d : D} {v : He.Dv} (h : flatDv d = some v) : Rep p I d (v.v p.K) := by
  cases d with
  | non => cases h; rfl
  | bl b => cases h; rfl
  | int i => cases h; rfl
  | str l =>
    have h' : (if (l.all fun c => decide (c < 0x110000)) = true then some (He.Dv.str ⟨l.toArray⟩) else none) = some v := h
    by_cases q : (l.all fun c => decide (c < 0x110000)) = true
    · rw [if_pos q] at h'
      cases h'
      exact ⟨rfl, by simpa using q⟩
    · rw [if_neg q] at h'
      cases h'
  | _ => cases h
theorem flatDv_reps {p : Par} {I : Hp} : ∀ {ds : List D} {vs : List He.Dv}, allOf flatDv ds = some vs → RepL p I ds (vs.map (He.Dv.v p.K))
  | [], vs, h => by cases h; rfl
  | d :: ds, vs, h => by
    unfold allOf at h
    cases h1 : flatDv d with
    | none => rw [h1] at h; cases h
    | some v =>
      cases h2 : allOf flatDv ds with
      | none => rw [h1, h2] at h; cases h
      | some us =>
        rw [h1, h2] at h
        cases h
        exact ⟨_, _, rfl, flatDv_rep h1, flatDv_reps h2⟩
/-- the module's name x is the tuple of these -/
def tupX (x : PySem.Str) (ds : List D) (K : PySem.W.Frag) : Bool := He.eqO (PySem.W.nsIn K mainGlobals x) (some (some (.ref (He.ga K x)))) && match allOf flatDv ds with
  | some vs => !(isPairs ds) && He.tupB K x vs
  | none => false
/-- what a def leans on of a tuple of the top -/
structure TupOk (K : PySem.W.Frag) (mg : PySem.Str → Option Value) (x : PySem.Str) (ds : List D) (a : Addr) : Prop where
  at_ : mg x = some (.ref a)
  rep : ∀ (P : Program) (w : World) (cl : Cls) (I : Hp), Rep ⟨P, w, K, cl⟩ I (.tup ds) (.ref a)
theorem tupX_ok {K : PySem.W.Frag} {h : Heap} {mg : PySem.Str → Option Value} {x : PySem.Str} {ds : List D} (X : K.In h) (G : h.Ns mainGlobals mg) (c : tupX x ds K = true) : TupOk K mg x ds (He.ga K x) := by
  obtain ⟨c1, c2⟩ := He.ba c
  refine ⟨PySem.W.mg_of X G (He.eqO_ok c1), fun P w cl I => ?_⟩
  cases e : allOf flatDv ds with
  | none => rw [e] at c2; cases c2
  | some vs =>
    rw [e] at c2
    obtain ⟨c3, c4⟩ := He.ba c2
    refine ⟨_, _, rfl, He.tupB_ok c4 I, flatDv_reps e, fun z => ?_⟩
    rw [z] at c3
    cases c3
section
variable {X : Cx} {cl : Cls} {t : Addr} {W : WX} {pos : Pos} {x : PySem.Str}
theorem de_globT {ds : List D} {a : Addr} (h : TupOk X.K X.mg x ds a) (hg : Gl X x := by rfl) (hd : (x == ("__debug__" : PySem.Str)) = false := by decide) : DE X cl t W (.Name x pos) (fC (.tup ds)) :=
  de_glob (v := .ref a) h.at_ rfl (fun I => h.rep _ _ _ I) hg hd
end
/-! ### a hook with further looks of one's own -/
abbrev AlX : Type := He.AlD × Bool
def obsX (fa : List He.Fa) (fn : List He.DefD) (ex : List (PySem.W.Frag → Bool)) (K : PySem.W.Frag) : AlX := (He.obsD fa fn K, ex.all fun f => f K)
def valX (fn : List He.DefD) : AlX := (He.valD fn, true)
def SaysX (fa : List He.Fa) (fn : List He.DefD) (ex : List (PySem.W.Frag → Bool)) (K : PySem.W.Frag) : Prop := obsX fa fn ex K = valX fn
def obsXG (n : Nat) (fa : List He.Fa) (fn : List He.DefD) (ex : List (PySem.W.Frag → Bool)) (g : Addr → Option Obj) : AlX := obsX fa fn ex (He.frG g (He.asD g n))
def hookX (n : Nat) (fa : List He.Fa) (fn : List He.DefD) (ex : List (PySem.W.Frag → Bool)) : PySem.W.Hook where
  α := AlX
  obs := fun s => obsXG n fa fn ex s.heap.get?
  val := fun _ => valX fn
  says := fun _ h => ∃ K : PySem.W.Frag, K.In h ∧ SaysX fa fn ex K
  of := fun _ _ e => ⟨_, He.frG_in, e⟩
  keeps := fun _ _ _ ⟨K, hK, c⟩ k => ⟨K, PySem.W.Frag.In.keeps hK k, c⟩
theorem obsXG_eq {n : Nat} {fa : List He.Fa} {fn : List He.DefD} {ex : List (PySem.W.Frag → Bool)} {g : Addr → Option Obj} {s : Shared} (h : ∀ a, g a = s.heap.get? a) : obsXG n fa fn ex g = (hookX n fa fn ex).obs s := by
  have e : g = s.heap.get? := funext h
  rw [e] <;> rfl
theorem SaysX.d {fa : List He.Fa} {fn : List He.DefD} {ex : List (PySem.W.Frag → Bool)} {K : PySem.W.Frag} (c : SaysX fa fn ex K) : He.SaysD fa fn K := congrArg (fun z : AlX => z.1) c
theorem SaysX.x {fa : List He.Fa} {fn : List He.DefD} {ex : List (PySem.W.Frag → Bool)} {K : PySem.W.Frag} (c : SaysX fa fn ex K) (i : Nat) {f : PySem.W.Frag → Bool} (h : ex[i]? = some f := by rfl) : f K = true := by
  have e : (ex.all fun f => f K) = true := congrArg (fun z : AlX => z.2) c
  exact List.all_eq_true.mp e f (List.mem_of_getElem? h)
/-! ### own errors that are caught, asked for -/
/-- a class of errors stands as it should, and is none of the others -/
def exnLook (wx : PySem.Str) (xs : List (PySem.Str × Err)) (K : PySem.W.Frag) : Bool := xs.all fun x =>
  He.eqO (PySem.W.findIn K (.ref (He.ga K x.1)) "__getattribute__") (some (some (.builtin "BaseException.__getattribute__"))) && (He.eqO (PySem.W.findIn K (.ref (He.ga K x.1)) "__getattr__") (some none) &&
  (decide (PySem.W.subIn K (.ref (He.ga K x.1)) (.type "BaseException") = some true) && (PySem.W.hasDictIn K (He.ga K x.1) && (He.eqO (PySem.W.findIn K (.ref (He.ga K x.1)) "__class__") (some (some (.builtin "object.__class__"))) &&
  (He.eqO (PySem.W.specialIn K (.builtin "object.__class__") "__get__") (some (some (.builtin "getset_descriptor.__get__"))) && (decide (PySem.W.takesIn K (.builtin "object.__class__") = some true) && (decide (PySem.W.mroIn K (He.ga K x.1) (.type "object") = some true) &&
  (decide (PySem.W.kitOne K (.ref (He.ga K x.1)) (.type "ValueError") = some true) && (decide (PySem.W.exmOne K (.ref (He.ga K x.1)) (.ref (He.ga K wx)) = some true) &&
  xs.all fun y => decide (PySem.W.kitOne K (.ref (He.ga K x.1)) (.ref (He.ga K y.1)) = some (decide (x.2 = y.2))))))))))))
structure ExnOk (K : PySem.W.Frag) (C WE : Addr) : Prop where
  ec : ExcC K C
  kv : PySem.W.kitOne K (.ref C) (.type "ValueError") = some true
  kw : PySem.W.exmOne K (.ref C) (.ref WE) = some true
theorem exnLook_ok {wx : PySem.Str} {xs : List (PySem.Str × Err)} {K : PySem.W.Frag} (c : exnLook wx xs K = true) {x : PySem.Str} {e : Err} (h : (x, e) ∈ xs) :
    ExnOk K (He.ga K x) (He.ga K wx) ∧ ∀ y e', (y, e') ∈ xs → PySem.W.kitOne K (.ref (He.ga K x)) (.ref (He.ga K y)) = some (decide (e = e')) := by
  have c := List.all_eq_true.mp c _ h
  obtain ⟨c1, c⟩ := He.ba c
  obtain ⟨c2, c⟩ := He.ba c
  obtain ⟨c3, c⟩ := He.ba c
  obtain ⟨c4, c⟩ := He.ba c
  obtain ⟨c5, c⟩ := He.ba c
  obtain ⟨c6, c⟩ := He.ba c
  obtain ⟨c7, c⟩ := He.ba c
  obtain ⟨c8, c⟩ := He.ba c
  obtain ⟨c9, c⟩ := He.ba c
  obtain ⟨c10, c⟩ := He.ba c
  exact ⟨⟨⟨He.eqO_ok c1, He.eqO_ok c2, of_decide_eq_true c3, c4, He.eqO_ok c5, He.eqO_ok c6, of_decide_eq_true c7, of_decide_eq_true c8⟩, of_decide_eq_true c9, of_decide_eq_true c10⟩, fun y e' h' => of_decide_eq_true (List.all_eq_true.mp c _ h')⟩
end Den

/-! DenMin: min(x), sorted(x), x a list of data that are alike. -/
namespace Den
open PySem PySem.Spec PyProof.Rows L2
/-! ### the order, on data and in the model -/
mutual
theorem alike_py : ∀ a b : D, a.alk b = true → PySem.W.alike a.py b.py = true ∧ a.py ≠ .none
  | .int _, b, h => by cases b <;> first | (simp [D.alk] at h; done) | exact ⟨by simp [D.py, PySem.W.alike], by simp [D.py]⟩
  | .str _, b, h => by cases b <;> first | (simp [D.alk] at h; done) | exact ⟨by simp [D.py, PySem.W.alike], by simp [D.py]⟩
  | .tup a, b, h => by
    cases b <;> simp [D.alk] at h
    exact ⟨by rw [D.py, D.py, PySem.W.alike]; exact alike_pyL a _ h, by simp [D.py]⟩
  | .lst a, b, h => by
    cases b <;> simp [D.alk] at h
    exact ⟨by rw [D.py, D.py, PySem.W.alike]; exact alike_pyL a _ h, by simp [D.py]⟩
  | .non, _, h => by simp [D.alk] at h
  | .bl _, _, h => by simp [D.alk] at h
  | .dct _, _, h => by simp [D.alk] at h
  | .dcn _, _, h => by simp [D.alk] at h
  | .exn _, _, h => by simp [D.alk] at h
  | .scr _, _, h => by simp [D.alk] at h
theorem alike_pyL : ∀ a b : List D, D.alkL a b = true → PySem.W.alikeAll (D.pyL a) (D.pyL b) = true
  | [], b, _ => by cases b <;> simp [D.pyL, PySem.W.alikeAll]
  | x :: xs, [], _ => by simp [D.pyL, PySem.W.alikeAll]
  | x :: xs, y :: ys, h => by
    rw [D.alkL, Bool.and_eq_true] at h
    rw [D.pyL, D.pyL, PySem.W.alikeAll, (alike_py x y h.1).1, alike_pyL xs ys h.2]; rfl
end
mutual
theorem lt_py : ∀ a b : D, a.alk b = true → a.plain = true → b.plain = true → PySem.W.dataLt a.py b.py = a.lt b
  | .int _, b, h, _, _ => by
    cases b <;> first | (simp [D.alk] at h; done) | skip
    rw [D.py, D.py, PySem.W.dataLt_int]; rfl
  | .str _, b, h, _, _ => by
    cases b <;> first | (simp [D.alk] at h; done) | skip
    rw [D.py, D.py, PySem.W.dataLt_str]; rfl
  | .tup a, b, h, hp, hq => by
    cases b <;> simp [D.alk] at h
    rw [D.py, D.py, PySem.W.dataLt_tuple]; exact lt_pyL a _ h hp hq
  | .lst a, b, h, hp, hq => by
    cases b <;> simp [D.alk] at h
    rw [D.py, D.py, PySem.W.dataLt_list]; exact lt_pyL a _ h hp hq
  | .non, _, h, _, _ => by simp [D.alk] at h
  | .bl _, _, h, _, _ => by simp [D.alk] at h
  | .dct _, _, h, _, _ => by simp [D.alk] at h
  | .dcn _, _, h, _, _ => by simp [D.alk] at h
  | .exn _, _, h, _, _ => by simp [D.alk] at h
  | .scr _, _, h, _, _ => by simp [D.alk] at h
theorem lt_pyL : ∀ a b : List D, D.alkL a b = true → D.plainL a = true → D.plainL b = true → PyProof.Rows.lexLt PyProof.Rows.itemOrd (PySem.W.keyToksAll (D.pyL a)) (PySem.W.keyToksAll (D.pyL b)) = D.ltL a b
  | [], [], _, _, _ => by decide +kernel
  | [], y :: ys, _, _, _ => by
    rw [D.pyL, D.pyL, PySem.W.keyToksAll, PySem.W.keyToksAll, PySem.W.lex_atom (by simp)]
    show _ = true
    decide +kernel
  | x :: xs, [], _, _, _ => by
    rw [D.pyL, D.pyL, PySem.W.keyToksAll, PySem.W.keyToksAll, PySem.W.lex_atom (by simp)]
    show _ = false
    decide +kernel
  | x :: xs, y :: ys, h, hp, hq => by
    rw [D.alkL, Bool.and_eq_true] at h
    rw [D.plainL, Bool.and_eq_true] at hp hq
    rw [D.pyL, D.pyL, PySem.W.dataLt_cons (alike_py x y h.1).1, eqv_py x y hp.1 hq.1, lt_pyL xs ys h.2 hp.2 hq.2, lt_py x y h.1 hp.1 hq.1]
    rfl
end
mutual
theorem py_inj : ∀ a b : D, a.plain = true → b.plain = true → a.py = b.py → a = b
  | .non, b, _, hq, e => by cases b <;> first | rfl | (simp [D.plain] at hq; done) | (simp [D.py] at e; done)
  | .bl _, b, _, hq, e => by cases b <;> first | (simp [D.plain] at hq; done) | (simp [D.py] at e; done) | (simp [D.py] at e; rw [e])
  | .int _, b, _, hq, e => by cases b <;> first | (simp [D.plain] at hq; done) | (simp [D.py] at e; done) | (simp [D.py] at e; rw [e])
  | .str _, b, _, hq, e => by cases b <;> first | (simp [D.plain] at hq; done) | (simp [D.py] at e; done) | (simp [D.py] at e; rw [e])
  | .tup a, b, hp, hq, e => by
    cases b <;> first | (simp [D.plain] at hq; done) | (simp [D.py] at e; done) | skip
    simp [D.py] at e
    rw [py_injL a _ hp hq e]
  | .lst a, b, hp, hq, e => by
    cases b <;> first | (simp [D.plain] at hq; done) | (simp [D.py] at e; done) | skip
    simp [D.py] at e
    rw [py_injL a _ hp hq e]
  | .dct _, _, h, _, _ => by cases h
  | .dcn _, _, h, _, _ => by cases h
  | .exn _, _, h, _, _ => by cases h
  | .scr _, _, h, _, _ => by cases h
theorem py_injL : ∀ a b : List D, D.plainL a = true → D.plainL b = true → D.pyL a = D.pyL b → a = b
  | [], [], _, _, _ => rfl
  | [], y :: ys, _, _, e => by simp [D.pyL] at e
  | x :: xs, [], _, _, e => by simp [D.pyL] at e
  | x :: xs, y :: ys, hp, hq, e => by
    rw [D.plainL, Bool.and_eq_true] at hp hq
    simp only [D.pyL, List.cons.injEq] at e
    rw [py_inj x y hp.1 hq.1 e.1, py_injL xs ys hp.2 hq.2 e.2]
end
theorem pyL_map : ∀ ds : List D, D.pyL ds = ds.map D.py
  | [] => rfl
  | d :: ds => by rw [D.pyL, pyL_map ds]; rfl
structure AlkOk (ds : List D) : Prop where
  pl : D.plainL ds = true
  al : ∀ a ∈ ds, ∀ b ∈ ds, a.alk b = true
  dp : D.depthL ds ≤ 60
theorem allAlk_of {ds : List D} (h : allAlk ds = true) : AlkOk ds := by
  unfold allAlk at h
  simp only [Bool.and_eq_true, List.all_eq_true, decide_eq_true_eq] at h
  exact ⟨h.1.1, h.1.2, h.2⟩
theorem plainL_mem : ∀ {ds : List D} {d : D}, D.plainL ds = true → d ∈ ds → d.plain = true
  | e :: ds, d, h, hd => by
    rw [D.plainL, Bool.and_eq_true] at h
    rcases List.mem_cons.mp hd with q | q
    · rw [q]; exact h.1
    · exact plainL_mem h.2 q
theorem minDL_mem : ∀ (xs : List D) (x : D), minDL x xs = x ∨ minDL x xs ∈ xs
  | [], x => .inl rfl
  | y :: xs, x => by
    show minDL (if y.lt x = true then y else x) xs = x ∨ _
    rcases minDL_mem xs (if y.lt x = true then y else x) with e | e
    · show minDL (if y.lt x = true then y else x) xs = x ∨ minDL (if y.lt x = true then y else x) xs ∈ y :: xs
      rw [e]
      split
      · exact .inr List.mem_cons_self
      · exact .inl rfl
    · exact .inr (List.mem_cons_of_mem _ e)
theorem minD_py {ds : List D} (h : AlkOk ds) : ∀ (xs : List D) (x : D), x ∈ ds → (∀ y ∈ xs, y ∈ ds) → PySem.W.minD x.py (D.pyL xs) = (minDL x xs).py
  | [], x, _, _ => rfl
  | y :: xs, x, hx, hy => by
    have hy0 := hy y List.mem_cons_self
    have e := lt_py y x (h.al y hy0 x hx) (plainL_mem h.pl hy0) (plainL_mem h.pl hx)
    have ih := minD_py h xs (if y.lt x = true then y else x) (by split <;> assumption) fun z hz => hy z (List.mem_cons_of_mem _ hz)
    show PySem.W.minD (if PySem.W.dataLt y.py x.py then y.py else x.py) (D.pyL xs) = _
    rw [e]
    show _ = (minDL (if y.lt x = true then y else x) xs).py
    rw [← ih]
    congr 1
    split <;> rfl
theorem AlkOk.py {x : D} {xs : List D} (h : AlkOk (x :: xs)) : PySem.W.AlikeAll (D.pyL (x :: xs)) := by
  rw [pyL_map]
  refine ⟨fun a ha b hb => ?_, fun a ha => ?_⟩
  · obtain ⟨a', ha', rfl⟩ := List.mem_map.mp ha
    obtain ⟨b', hb', rfl⟩ := List.mem_map.mp hb
    exact (alike_py _ _ (h.al _ ha' _ hb')).1
  · obtain ⟨a', ha', rfl⟩ := List.mem_map.mp ha
    exact (alike_py _ _ (h.al _ ha' _ ha')).2
/-! ### min -/
theorem vals_at : ∀ {ws : List V} {us : List Value}, Vals ws us → ∀ (i : Nat) (u : Value), us[i]? = some u → ∃ w, ws[i]? = some w ∧ RelV w u
  | _, _, .nil, i, u, h => by simp at h
  | _, _, .cons r t, 0, u, h => by
    simp only [List.getElem?_cons_zero, Option.some.injEq] at h
    subst h
    exact ⟨_, rfl, r⟩
  | _, _, .cons r t, i + 1, u, h => by
    obtain ⟨w, h1, h2⟩ := vals_at t i u (by simpa using h)
    exact ⟨w, by simpa using h1, h2⟩
theorem repL_at {p : Par} {I : Hp} : ∀ {ds : List D} {vs : List V}, RepL p I ds vs → ∀ (i : Nat) (v : V), vs[i]? = some v → ∃ d, ds[i]? = some d ∧ Rep p I d v
  | [], vs, h, i, v, hv => by cases h; simp at hv
  | d :: ds, _, ⟨v0, vr, e, h, t⟩, 0, v, hv => by
    subst e
    simp only [List.getElem?_cons_zero, Option.some.injEq] at hv
    subst hv
    exact ⟨d, rfl, h⟩
  | d :: ds, _, ⟨v0, vr, e, h, t⟩, i + 1, v, hv => by
    subst e
    obtain ⟨d', h1, h2⟩ := repL_at t i v (by simpa using hv)
    exact ⟨d', by simpa using h1, h2⟩
section
variable {X : Cx} {cl : Cls} {t : Addr} {W : WX} {a : Expr} {fa : FE} {p p2 q pos : Pos}
def rMinD (K : PySem.W.Frag) : List V → Hp → VK → Prop := fun vs H Q => ∃ (a : Addr) (ws : List V) (d : PyData) (ds : List PyData), vs = [V.ref a] ∧ SqL K H a ws ∧ DpAll K H ws (d :: ds) ∧ PyData.canLayAll0 (d :: ds) = true ∧ PySem.W.AlikeAll (d :: ds) ∧ PyData.depthAll (d :: ds) ≤ 60 ∧
  ∀ (i : Nat) (w : V), ws[i]? = some w → (d :: ds)[i]? = some (PySem.W.minD d ds) → Q w H
theorem cr_minD (hc : X.calm = true) (hu : X.A.units + 65 < cLine) : CallR X (.builtin "min") (rMinD X.K) := by
  intro pins s σ H vs us Q I r h
  obtain ⟨a, ws, d, ds, rfl, hs, ha, hlay, hal, hdep, q⟩ := h
  rw [Vals.ref1 r]
  obtain ⟨its, rv, hT, hz⟩ := I.list hs
  obtain ⟨as, h4⟩ := Dp.readsAll I (d :: ds) _ its ha rv
  refine PySem.W.min_list_data (vs := its.toArray) (I.ok.hd hc) hT.isList (show ReadsAll s.heap its.toArray.toList (d :: ds) as from h4) hal (by omega) fun i v h' tk bs hi hr hk => ?_
  have hi' : its[i]? = some v := by simpa using hi
  obtain ⟨w, hw, rw'⟩ := vals_at rv i v hi'
  obtain ⟨bs', r', hlt, hm, _⟩ := PySem.W.readsAll_atA (vs := its.toArray) (show ReadsAll s.heap its.toArray.toList (d :: ds) as from h4) i v hi
  have e : (d :: ds)[i]? = some (PySem.W.minD d ds) := by
    have e1 : (d :: ds).getD i .none = (d :: ds)[i] := by rw [List.getD_eq_getElem?_getD, List.getElem?_eq_getElem hlt]; rfl
    rw [List.getElem?_eq_getElem hlt, ← e1]
    have r2 := PySem.W.reads_keeps hk r'
    have l1 : ((d :: ds).getD i .none).canLay0 = true := by
      have : ∀ (l : List PyData), PyData.canLayAll0 l = true → ∀ z ∈ l, z.canLay0 = true := by
        intro l
        induction l with
        | nil => intro _ z hz; cases hz
        | cons y l ih =>
          intro hl z hz
          rw [PyData.canLayAll0, Bool.and_eq_true] at hl
          rcases List.mem_cons.mp hz with q | q
          · rw [q]; exact hl.1
          · exact ih hl.2 z q
      exact this _ hlay _ hm
    have l2 : (PySem.W.minD d ds).canLay0 = true := by
      have hmm : ∀ (l : List PyData) (x : PyData), PySem.W.minD x l = x ∨ PySem.W.minD x l ∈ l := by
        intro l
        induction l with
        | nil => exact fun x => .inl rfl
        | cons y l ih =>
          intro x
          show PySem.W.minD (if PySem.W.dataLt y x then y else x) l = x ∨ PySem.W.minD (if PySem.W.dataLt y x then y else x) l ∈ y :: l
          rcases ih (if PySem.W.dataLt y x then y else x) with e | e
          · rw [e]
            split
            · exact .inr List.mem_cons_self
            · exact .inl rfl
          · exact .inr (List.mem_cons_of_mem _ e)
      have : ∀ (l : List PyData), PyData.canLayAll0 l = true → ∀ z ∈ l, z.canLay0 = true := by
        intro l
        induction l with
        | nil => intro _ z hz; cases hz
        | cons y l ih =>
          intro hl z hz
          rw [PyData.canLayAll0, Bool.and_eq_true] at hl
          rcases List.mem_cons.mp hz with q | q
          · rw [q]; exact hl.1
          · exact ih hl.2 z q
      refine this (d :: ds) hlay _ ?_
      rcases hmm ds d with e | e
      · rw [e]; exact List.mem_cons_self
      · exact List.mem_cons_of_mem _ e
    have q1 := SeqAt.readsAll_map [(d :: ds).getD i .none] [v] (bs' ++ []) (by rw [PyData.canLayAll0, l1]; rfl) (.cons r2 .nil)
    have q2 := SeqAt.readsAll_map [PySem.W.minD d ds] [v] (bs ++ []) (by rw [PyData.canLayAll0, l2]; rfl) (.cons hr .nil)
    rw [q1] at q2
    exact congrArg some (by simpa using q2)
  exact ⟨w, H, I.kept (t' := tk) hk, rw', q i w hw e⟩
theorem c_minD (hc : X.calm = true) (hu : X.A.units + 65 < cLine) : C1D X cl (.builtin "min") gMinD := by
  refine ⟨_, cr_minD hc hu, fun I H x dx Q s hx q => ?_⟩
  unfold gMinD at q
  split at q
  · rename_i d ds
    by_cases h : allAlk (d :: ds) = true
    · rw [if_pos h] at q
      have A := allAlk_of h
      obtain ⟨a, vs, e1, q1, r1⟩ := hx.lst s
      have hd := dpL_of (p := pr X cl) s (d :: ds) vs A.pl r1
      have hl := layL_of (d :: ds) vs r1
      refine ⟨a, vs, d.py, D.pyL ds, by rw [e1], SqL.of q1, hd, hl, A.py, by rw [show d.py :: D.pyL ds = D.pyL (d :: ds) from rfl, depthL_py]; exact A.dp, fun i w hw e => ?_⟩
      obtain ⟨d', h1, h2⟩ := repL_at r1 i w hw
      have hm : minDL d ds ∈ d :: ds := by
        rcases minDL_mem ds d with e | e
        · rw [e]; exact List.mem_cons_self
        · exact List.mem_cons_of_mem _ e
      have e3 : d' = minDL d ds := by
        refine py_inj _ _ (plainL_mem A.pl (List.mem_of_getElem? h1)) (plainL_mem A.pl hm) ?_
        rw [minD_py A ds d List.mem_cons_self (fun y hy => List.mem_cons_of_mem _ hy)] at e
        have e' : (D.pyL (d :: ds))[i]? = some (minDL d ds).py := e
        rw [pyL_map, List.getElem?_map, h1] at e'
        simpa using e'
      rw [e3] at h2
      exact rep_here s q h2
    · rw [if_neg h] at q; exact q.elim
  · exact q.elim
/-! ### sorted -/
def enc2 (b : V × D) : PyData := b.2.py
def rSortD (K : PySem.W.Frag) : List V → Hp → VK → Prop := fun vs H Q => ∃ (a : Addr) (bs : List (V × D)), vs = [V.ref a] ∧ SqL K H a (bs.map (·.1)) ∧ DpAll K H (bs.map (·.1)) (bs.map enc2) ∧ PySem.W.AllAlike (bs.map enc2) ∧ PySem.W.Sortable (bs.map enc2) ∧ bs.length ≤ sizeLine ∧ (∀ b ∈ bs, (enc2 b).depth ≤ 60) ∧
  ∀ p : Addr, H p = none → Q (.ref p) (upd H p (.lst ((bs.mergeSort (PySem.W.dataLe false enc2)).map (·.1))))
theorem each_vals : ∀ {bs : List (V × D)} {us : List Value}, Vals (bs.map (·.1)) us → PySem.W.EachIs (fun v (b : V × D) => RelV b.1 v) us bs
  | [], _, h => by cases h; exact .nil
  | b :: bs, _, h => by cases h with
    | cons r t => exact .cons r (each_vals t)
theorem vals_each : ∀ {bs : List (V × D)} {us : List Value}, PySem.W.EachIs (fun v (b : V × D) => RelV b.1 v) us bs → Vals (bs.map (·.1)) us
  | _, _, .nil => .nil
  | _, _, .cons r t => .cons r (vals_each t)
theorem cr_sortD (hu : X.A.units + 65 < cLine) : CallR X (.builtin "sorted") (rSortD X.K) := by
  intro pins s σ H vs us Q I r h
  obtain ⟨a, bs, rfl, hs, hd, hal, hk, hL, hdep, q⟩ := h
  rw [Vals.ref1 r]
  obtain ⟨its, rv, hT, hz⟩ := I.list hs
  obtain ⟨as, h4⟩ := Dp.readsAll I (bs.map enc2) _ its hd rv
  refine PySem.W.sorted_data (bs := bs) (enc := enc2) (R := fun v (b : V × D) => RelV b.1 v) hT.isList (each_vals rv) (PySem.W.readsAll_each enc2 h4) hal hk hL (fun b hb => by have := hdep b hb; omega) fun out hlen he => ?_
  obtain ⟨ep, he'⟩ := PyProof.Rows.sortedAll_at s.heap its out.toArray
  have hv := vals_each he
  refine ⟨.ref _, upd H (s.heap.objs.size + 1) (.lst ((bs.mergeSort (PySem.W.dataLe false enc2)).map (·.1))), I.laid (t' := s.toks) (fun _ _ => PyProof.Rows.sortedAll_old) (Nat.le_succ _) ⟨?_, out, ep, hv, ?_⟩, rfl, q _ (I.hok.fresh (Nat.le_succ _))⟩
  · rw [List.length_map, List.length_mergeSort]; exact hL
  · simpa using he'
theorem repL_zip {p : Par} {I : Hp} : ∀ {ds : List D} {vs : List V}, RepL p I ds vs → ∃ bs : List (V × D), bs.map (·.1) = vs ∧ bs.map (·.2) = ds ∧ ∀ b ∈ bs, Rep p I b.2 b.1
  | [], vs, h => by cases h; exact ⟨[], rfl, rfl, fun _ h => nomatch h⟩
  | d :: ds, _, ⟨v0, vr, e, h, t⟩ => by
    subst e
    obtain ⟨bs, h1, h2, h3⟩ := repL_zip t
    exact ⟨(v0, d) :: bs, by rw [List.map_cons, h1], by rw [List.map_cons, h2], fun b hb => by
      rcases List.mem_cons.mp hb with q | q
      · rw [q]; exact h
      · exact h3 b q⟩
theorem zip_repL {p : Par} {I : Hp} : ∀ {bs : List (V × D)}, (∀ b ∈ bs, Rep p I b.2 b.1) → RepL p I (bs.map (·.2)) (bs.map (·.1))
  | [], _ => rfl
  | b :: bs, h => ⟨b.1, bs.map (·.1), rfl, h b List.mem_cons_self, zip_repL fun z hz => h z (List.mem_cons_of_mem _ hz)⟩
theorem depthL_mem : ∀ {ds : List D} {d : D}, d ∈ ds → d.depth ≤ D.depthL ds
  | e :: ds, d, h => by
    rw [D.depthL]
    rcases List.mem_cons.mp h with q | q
    · rw [q]; exact Nat.le_max_left _ _
    · exact Nat.le_trans (depthL_mem q) (Nat.le_max_right _ _)
theorem dn_sortD (hu : X.A.units + 65 < cLine) (hm : X.mg "sorted" = none) (ha : DE X cl t W a fa) (hg : Gl X "sorted" := by rfl)
    (he : starEach [a] X.env = (false, eval a X.env) :: starEach [] X.env := by rfl) (hpl : (backTo pos (starEach [] X.env)).any (·.1) = false := by rfl) : DNw X cl t W (.Call (.Name "sorted" p) [a] [] pos) (nSortD fa) := by
  obtain ⟨ta, pa, la⟩ := ha.ex
  refine DNw.mk (pe_callB (cr_sortD hu) hg hm PyProof.Rows.boot_sorted (pa_cons pa pa_nil he) (by decide) (by decide) he hpl) (fun I G H σ ρ Q s q => ?_)
  refine la I G H σ ρ _ s ?_
  unfold nSortD at q
  rw [outP_bind] at q
  refine q.imp (fun x q I1 H1 v s1 st1 r1 => ?_) fun _ z => z
  cases e1 : x.1.get x.2 with
  | bad => rw [e1] at q; exact q.elim
  | exc er => exact absurd e1 (get_exc _ _ _)
  | ok d =>
    rw [e1] at q
    simp only [Out.bind_ok] at q
    have hv := RR.get st1 r1 e1
    unfold sortD at q
    split at q
    · rename_i ds
      by_cases h : allAlk ds = true ∧ (ds.all D.tupC || ds.all D.tupN) = true ∧ ds.length ≤ LIM
      · rw [if_pos h] at q
        simp only [Out.bind_ok] at q
        obtain ⟨h1, h2, h3⟩ := h
        have A := allAlk_of h1
        obtain ⟨a1, vs, e2, q1, r2⟩ := hv.lst st1.b.ih
        have hd := dpL_of (p := pr X cl) st1.b.ih ds vs A.pl r2
        obtain ⟨bs, b1, b2, b3⟩ := repL_zip r2
        have b4 : bs.map enc2 = D.pyL ds := by rw [pyL_map, ← b2, List.map_map]; rfl
        have em : sortDL ds = (bs.mergeSort (PySem.W.dataLe false enc2)).map (·.2) := by
          unfold sortDL
          rw [← b2]
          refine (List.map_mergeSort fun z hz y hy => ?_).symm
          rw [PySem.W.dataLe_eq]
          show (!PySem.W.dataLt y.2.py z.2.py) = !(y.2.lt z.2)
          have mz : z.2 ∈ ds := by rw [← b2]; exact List.mem_map.mpr ⟨z, hz, rfl⟩
          have my : y.2 ∈ ds := by rw [← b2]; exact List.mem_map.mpr ⟨y, hy, rfl⟩
          rw [lt_py _ _ (A.al _ my _ mz) (plainL_mem A.pl my) (plainL_mem A.pl mz)]
        rw [em] at q
        refine ⟨a1, bs, by rw [e2], by rw [b1]; exact SqL.of q1, by rw [b1, b4]; exact hd, ?_, ?_, ?_, ?_, ln_new s1 st1 (zip_repL fun z hz => b3 z (List.mem_mergeSort.mp hz)) q⟩
        · rw [b4, pyL_map]
          intro u hu' w hw
          obtain ⟨u', m1, rfl⟩ := List.mem_map.mp hu'
          obtain ⟨w', m2, rfl⟩ := List.mem_map.mp hw
          exact (alike_py _ _ (A.al _ m1 _ m2)).1
        · rw [b4, pyL_map]
          rw [Bool.or_eq_true, List.all_eq_true, List.all_eq_true] at h2
          rcases h2 with h2 | h2
          · left
            intro u hu'
            obtain ⟨u', m1, rfl⟩ := List.mem_map.mp hu'
            have := h2 u' m1
            cases u' with
            | tup l => cases l with
              | nil => cases this
              | cons y l => exact ⟨y.py, D.pyL l, rfl⟩
            | _ => cases this
          · right
            intro u hu'
            obtain ⟨u', m1, rfl⟩ := List.mem_map.mp hu'
            refine ⟨(alike_py _ _ (A.al _ m1 _ m1)).2, fun xs e => ?_⟩
            have := h2 u' m1
            cases u' with
            | tup l => cases this
            | _ => simp [D.py] at e
        · have e5 := congrArg List.length b2
          rw [List.length_map] at e5
          rw [e5]; exact lim_line h3
        · intro b hb
          show b.2.py.depth ≤ 60
          rw [depth_py]
          have m1 : b.2 ∈ ds := by rw [← b2]; exact List.mem_map.mpr ⟨b, hb, rfl⟩
          exact Nat.le_trans (depthL_mem m1) A.dp
      · rw [if_neg h] at q; exact q.elim
    · exact q.elim
end
end Den

/-! DenMore: list(range(n)); a def of which nothing is told. -/
namespace Den
open PySem PySem.Spec PyProof.Rows L2
section
variable {X : Cx} {cl : Cls} {t : Addr} {W : WX} {a : Expr} {fa : FE} {p p2 q pos : Pos}
theorem dn_listRg (hc : X.calm = true) (ha : DE X cl t W a fa) (hm : X.mg "list" = none) (hm2 : X.mg "range" = none) (hg : Gl X "list" := by rfl) (hg2 : Gl X "range" := by rfl)
    (na : starEach [a] X.env = (false, eval a X.env) :: starEach [] X.env := by rfl)
    (na2 : starEach [Expr.Call (.Name "range" p2) [a] [] q] X.env = (false, eval (Expr.Call (.Name "range" p2) [a] [] q) X.env) :: starEach [] X.env := by rfl) :
    DNw X cl t W (.Call (.Name "list" p) [.Call (.Name "range" p2) [a] [] q] [] pos) (nListRg fa) := by
  obtain ⟨ta, pa, la⟩ := ha.ex
  refine DNw.mk (pe_listRg hc hg hm (prg_1 hg2 hm2 pa na) na2) (fun I G H σ ρ Q s q => ?_)
  refine la I G H σ ρ _ s ?_
  unfold nListRg at q
  rw [outP_bind] at q
  refine q.imp (fun x q I1 H1 v s1 st1 r1 => ?_) fun _ z => z
  cases e1 : x.1.get x.2 with
  | bad => rw [e1] at q; exact q.elim
  | exc er => exact absurd e1 (get_exc _ _ _)
  | ok d =>
    rw [e1] at q
    simp only [Out.bind_ok] at q
    have hv := RR.get st1 r1 e1
    unfold rgD at q
    split at q
    · rename_i j
      by_cases hj : inI j = true ∧ j.toNat ≤ LIM
      · rw [if_pos hj] at q
        simp only [Out.bind_ok] at q
        have h1 := hj.1
        simp only [inI, Bool.and_eq_true, decide_eq_true_eq] at h1
        refine ⟨j, hv.int, ⟨by decide, by decide, h1.1, h1.2, by have h2 : j.toNat ≤ 1000000 := hj.2; show ((j - 0).toNat ≤ 2 ^ 24); omega⟩, ?_⟩
        have e : rangeL 0 j.toNat = ((List.range (j - 0).toNat).map fun i => ((0 : Int) + (i : Nat))).map D.int := by
          unfold rangeL; rw [List.map_map, Int.sub_zero]; rfl
        have e2 : rgV 0 j = ((List.range (j - 0).toNat).map fun i => ((0 : Int) + (i : Nat))).map V.int := by
          unfold rgV; rw [List.map_map]; rfl
        rw [e2]
        rw [e] at q
        exact ln_new s1 st1 (reps_ints _) q
      · rw [if_neg hj] at q; exact q.elim
    · exact q.elim
end
section
variable {P : Program} {w : World} {K : PySem.W.Frag} {mg : Str → Option Value} {base : Heap} {cl : Cls} {t : Addr}
theorem fn_stub {x qual : Str} {st : Stmt} {f : Addr} {fd : FuncData} {N ps : List Str} {k : Nat} {p : Par} (F : Fun K x qual st f fd) (S : FnScope N ps (defScope st)) :
    FnOk P w K mg base (L2N.CX P w) (k + 1) f fd ps (spOf p ps.length (fun _ => .bad)) :=
  Fun_okN F S (fun vs H Q E h => h.1) fun cdv A outer s H vs Q E hr h => by
    obtain ⟨_, I, ds, _, _, q⟩ := h
    exact q.elim
theorem fn_stubIO {x qual : Str} {st : Stmt} {f : Addr} {fd : FuncData} {N ps : List Str} {k : Nat} {p : Par} (F : Fun K x qual st f fd) (S : FnScope N ps (defScope st)) :
    FnOk P w K mg base (L2N.CX P w) (k + 1) f fd ps (spIO p ps.length (fun _ _ => .bad)) :=
  Fun_okN F S (fun vs H Q E h => h.1) fun cdv A outer s H vs Q E hr h => by
    obtain ⟨_, I, td, d, ds, t, v0, vr, _, _, _, _, _, _, q⟩ := h
    exact q.elim
end
end Den

/-! DenStr: index, count, split, partition of texts by one sign; str(n), int(text). -/
namespace Den
open PySem PySem.Spec PyProof.Rows L2
/-! ### where a sign occurs -/
def oneS (c : Nat) : PySem.Str := ⟨#[c]⟩
theorem subAt_at (l : List Nat) (c i : Nat) : (i + (oneS c).length ≤ (strK l).length ∧ Builtin.Str.subAt (strK l) (oneS c) i = true) ↔ l[i]? = some c := by
  have := StrLaws.subAt_one (strK l) c i
  simpa [strK, oneS] using this
theorem occ_go (l : List Nat) (c lim : Nat) : ∀ (m i : Nat) (arr : Array Nat) (free : Nat), free ≤ i →
    (ForIn.forIn (List.range' i m) (arr, free) (StrLaws.occBody (strK l) (oneS c) (strK l).length lim)).run.fst.toList = arr.toList ++ ((List.range' i m).filter fun j => decide (l[j]? = some c)).take (lim - arr.size)
  | 0, i, arr, free, _ => by simp
  | m + 1, i, arr, free, hf => by
    rw [List.range'_succ, List.forIn_cons]
    unfold StrLaws.occBody
    by_cases h1 : l[i]? = some c
    · have h2 := (subAt_at l c i).mpr h1
      by_cases h3 : arr.size < lim
      · rw [if_pos ⟨⟨⟨h3, hf⟩, h2.1⟩, h2.2⟩]
        have ih := occ_go l c lim m (i + 1) (arr.push i) (i + (oneS c).length) (Nat.le_refl _)
        show (ForIn.forIn (List.range' (i + 1) m) (arr.push i, i + (oneS c).length) (StrLaws.occBody (strK l) (oneS c) (strK l).length lim)).run.fst.toList = _
        rw [ih, List.filter_cons, if_pos (decide_eq_true h1), Array.toList_push, List.append_assoc, Array.size_push]
        obtain ⟨d, hd⟩ : ∃ d, lim - arr.size = d + 1 := ⟨lim - arr.size - 1, by omega⟩
        rw [hd, List.take_succ_cons, show lim - (arr.size + 1) = d by omega]
        rfl
      · rw [if_neg fun z => h3 z.1.1.1]
        have ih := occ_go l c lim m (i + 1) arr free (by omega)
        show (ForIn.forIn (List.range' (i + 1) m) (arr, free) (StrLaws.occBody (strK l) (oneS c) (strK l).length lim)).run.fst.toList = _
        rw [ih, show lim - arr.size = 0 by omega, List.take_zero, List.take_zero]
    · rw [if_neg fun z => h1 ((subAt_at l c i).mp ⟨z.1.2, z.2⟩)]
      have ih := occ_go l c lim m (i + 1) arr free (by omega)
      show (ForIn.forIn (List.range' (i + 1) m) (arr, free) (StrLaws.occBody (strK l) (oneS c) (strK l).length lim)).run.fst.toList = _
      rw [ih, List.filter_cons, if_neg (by simpa using h1)]
theorem occ_at (l : List Nat) (c lim : Nat) : Builtin.Str.occurrences (strK l) (oneS c) 0 (strK l).length lim = ((List.range' 0 (l.length + 1)).filter fun j => decide (l[j]? = some c)).take lim := by
  rw [StrLaws.occ_eq, occ_go l c lim _ 0 #[] 0 (Nat.le_refl _)]
  have : (strK l).length = l.length := str_len l
  rw [this]
  simp
/-- the places of a sign, from i on -/
def placesC (c : Nat) : Nat → List Nat → List Nat
  | _, [] => []
  | i, x :: l => if x = c then i :: placesC c (i + 1) l else placesC c (i + 1) l
theorem places_eq (c : Nat) : ∀ (suf pre : List Nat), ((List.range' pre.length (suf.length + 1)).filter fun j => decide ((pre ++ suf)[j]? = some c)) = placesC c pre.length suf
  | [], pre => by simp [placesC]
  | x :: suf, pre => by
    have ih := places_eq c suf (pre ++ [x])
    rw [List.length_append, List.length_singleton, List.append_assoc, List.singleton_append] at ih
    rw [List.length_cons, List.range'_succ, List.filter_cons]
    have e : (pre ++ x :: suf)[pre.length]? = some x := by simp
    rw [e]
    unfold placesC
    by_cases h : x = c
    · rw [if_pos (decide_eq_true (by rw [h])), if_pos h, ih]
    · rw [if_neg (by simpa using h), if_neg h, ih]
theorem occ_places (l : List Nat) (c lim : Nat) : Builtin.Str.occurrences (strK l) (oneS c) 0 (strK l).length lim = (placesC c 0 l).take lim := by
  rw [occ_at]
  have := places_eq c l []
  simp only [List.nil_append, List.length_nil] at this
  rw [this]
theorem placesC_len (c : Nat) : ∀ (l : List Nat) (i : Nat), (placesC c i l).length = l.count c
  | [], _ => rfl
  | x :: l, i => by
    unfold placesC
    by_cases h : x = c
    · rw [if_pos h, List.length_cons, placesC_len c l, h, List.count_cons_self]
    · rw [if_neg h, placesC_len c l, List.count_cons_of_ne (by simpa using h)]
theorem placesC_first (c : Nat) : ∀ (l : List Nat) (i : Nat), c ∈ l → ∃ r, placesC c i l = (i + l.idxOf c) :: r
  | x :: l, i, h => by
    unfold placesC
    by_cases q : x = c
    · subst q
      rw [if_pos rfl, List.idxOf_cons_self]
      exact ⟨_, rfl⟩
    · rw [if_neg q]
      obtain ⟨r, e⟩ := placesC_first c l (i + 1) ((List.mem_cons.mp h).resolve_left fun z => q z.symm)
      refine ⟨r, ?_⟩
      rw [e, List.idxOf_cons, show (x == c) = false from beq_eq_false_iff_ne.mpr q]
      simp only [cond_false]
      congr 1
      omega
theorem placesC_none (c : Nat) : ∀ (l : List Nat) (i : Nat), c ∉ l → placesC c i l = []
  | [], _, _ => rfl
  | x :: l, i, h => by
    unfold placesC
    rw [if_neg fun z => h (by rw [z]; exact List.mem_cons_self), placesC_none c l _ fun z => h (List.mem_cons_of_mem _ z)]
theorem sub_eq (l : List Nat) (i j : Nat) : Builtin.Str.strSub (strK l) i j = strK ((l.drop i).take (j - i)) := by
  have h := StrLaws.strSub_toList (strK l) i j
  have e : (strK l).cps.toList = l := by simp [strK]
  rw [e] at h
  rw [← h]
  generalize Builtin.Str.strSub (strK l) i j = z
  simp [strK]
theorem splitC_ne (c : Nat) (l : List Nat) : splitC c l ≠ [] := by
  cases l with
  | nil => simp [splitC]
  | cons x l =>
    unfold splitC
    split
    · simp
    · split <;> simp
theorem parts_go (l : List Nat) (c : Nat) : ∀ (suf pre : List Nat) (k : Nat), l = pre ++ suf → k ≤ pre.length →
    StrLaws.partsFrom (strK l) 1 k (placesC c pre.length suf) = (match splitC c suf with
      | [] => [pre.drop k]
      | p :: ps => (pre.drop k ++ p) :: ps).map strK
  | [], pre, k, hl, hk => by
    subst hl
    show [Builtin.Str.strSub _ k (strK (pre ++ [])).length] = _
    rw [sub_eq, show (strK (pre ++ [])).length = (pre ++ []).length from str_len _]
    have e : (List.drop k (pre ++ [])).take ((pre ++ []).length - k) = pre.drop k := by
      rw [List.append_nil]
      exact List.take_of_length_le (by simp)
    rw [e]
    simp [splitC]
  | x :: suf, pre, k, hl, hk => by
    have hl' : l = (pre ++ [x]) ++ suf := by rw [hl]; simp
    have hn : (pre ++ [x]).length = pre.length + 1 := by simp
    unfold placesC splitC
    by_cases h : x = c
    · rw [if_pos h, if_pos h]
      have ih := parts_go l c suf (pre ++ [x]) (pre.length + 1) hl' (by rw [hn]; exact Nat.le_refl _)
      rw [hn] at ih
      show Builtin.Str.strSub (strK l) k pre.length :: StrLaws.partsFrom (strK l) 1 (pre.length + 1) (placesC c (pre.length + 1) suf) = _
      rw [ih, sub_eq]
      have e1 : (l.drop k).take (pre.length - k) = pre.drop k := by
        rw [hl, List.drop_append_of_le_length hk, List.take_append_of_le_length (by simp)]
        exact List.take_of_length_le (by simp)
      have e2 : (pre ++ [x]).drop (pre.length + 1) = [] := by rw [← hn]; exact List.drop_length
      rw [e1, e2]
      simp only [List.append_nil, List.nil_append, List.map_cons]
      cases q : splitC c suf with
      | nil => exact absurd q (splitC_ne c suf)
      | cons p ps => simp
    · rw [if_neg h, if_neg h]
      have ih := parts_go l c suf (pre ++ [x]) k hl' (by rw [hn]; omega)
      rw [hn] at ih
      rw [ih, List.drop_append_of_le_length hk]
      cases splitC c suf with
      | nil => rfl
      | cons p ps => simp
theorem splitC_mem (c : Nat) : ∀ (l : List Nat) (z : List Nat), z ∈ splitC c l → ∀ x ∈ z, x ∈ l
  | [], z, hz, x, hx => by
    have : z = [] := by simpa [splitC] using hz
    rw [this] at hx; cases hx
  | y :: l, z, hz, x, hx => by
    unfold splitC at hz
    split at hz
    · rcases List.mem_cons.mp hz with e | e
      · rw [e] at hx; cases hx
      · exact List.mem_cons_of_mem _ (splitC_mem c l z e x hx)
    · split at hz
      · rw [List.mem_singleton] at hz
        rw [hz, List.mem_singleton] at hx
        rw [hx]; exact List.mem_cons_self
      · rename_i p ps q
        rcases List.mem_cons.mp hz with e | e
        · rw [e] at hx
          rcases List.mem_cons.mp hx with e2 | e2
          · rw [e2]; exact List.mem_cons_self
          · exact List.mem_cons_of_mem _ (splitC_mem c l p (by rw [q]; exact List.mem_cons_self) x e2)
        · exact List.mem_cons_of_mem _ (splitC_mem c l z (by rw [q]; exact List.mem_cons_of_mem _ e) x hx)
theorem splitC_none (c : Nat) : ∀ (l : List Nat), c ∉ l → splitC c l = [l]
  | [], _ => rfl
  | x :: l, h => by
    unfold splitC
    rw [if_neg fun z => h (by rw [z]; exact List.mem_cons_self), splitC_none c l fun z => h (List.mem_cons_of_mem _ z)]
theorem split_txt (l : List Nat) {c : Nat} (hc : c < 128) : Txt.split (strK l) (oneS c) = (splitC c l).map strK := by
  have hk : Builtin.Str.strKind (oneS c) = 1 := by
    unfold Builtin.Str.strKind oneS
    rw [if_pos (by simp; omega)]
  have hk2 : 1 ≤ Builtin.Str.strKind (strK l) := by
    unfold Builtin.Str.strKind
    split
    · exact Nat.le_refl _
    · split <;> decide
  have hlen : (strK l).length = l.length := str_len l
  have hone : (oneS c).length = 1 := rfl
  unfold Txt.split
  by_cases h0 : l = []
  · subst h0
    rw [if_pos (by simp [hlen, hone])]
    rfl
  · have hl : 0 < l.length := List.length_pos_iff.mpr h0
    have hno : (decide ((strK l).length < (oneS c).length) || decide (Builtin.Str.strKind (strK l) < Builtin.Str.strKind (oneS c))) = false := by
      rw [Bool.or_eq_false_iff]
      exact ⟨decide_eq_false (by rw [hlen, hone]; omega), decide_eq_false (by rw [hk]; omega)⟩
    rw [hno, if_neg (by simp)]
    have ho := occ_places l c ((strK l).length + 1)
    have ht : (placesC c 0 l).take ((strK l).length + 1) = placesC c 0 l := List.take_of_length_le (by rw [placesC_len, hlen]; have := List.count_le_length (a := c) (l := l); omega)
    rw [ht] at ho
    rw [ho]
    by_cases hm : c ∈ l
    · obtain ⟨r, e⟩ := placesC_first c l 0 hm
      rw [if_neg (by rw [e]; simp), StrLaws.partsBetween_eq, hone]
      have z := parts_go l c l [] 0 rfl (Nat.le_refl _)
      rw [List.length_nil] at z
      rw [z]
      cases q : splitC c l with
      | nil => exact absurd q (splitC_ne c l)
      | cons p ps => simp
    · rw [placesC_none c l 0 hm, if_pos (by rfl), splitC_none c l hm]; rfl
theorem take_idx (c : Nat) : ∀ (l : List Nat), c ∈ l → l.take (l.idxOf c) = l.takeWhile (· != c) ∧ l.drop (l.idxOf c + 1) = (l.dropWhile (· != c)).drop 1
  | x :: l, h => by
    by_cases q : x = c
    · subst q
      rw [List.idxOf_cons_self]
      simp
    · have ih := take_idx c l ((List.mem_cons.mp h).resolve_left fun z => q z.symm)
      rw [List.idxOf_cons, show (x == c) = false from beq_eq_false_iff_ne.mpr q]
      simp only [cond_false]
      have hb : (x != c) = true := by simpa using q
      simp only [List.take_succ_cons, List.drop_succ_cons, List.takeWhile_cons, List.dropWhile_cons, hb, if_true]
      exact ⟨by rw [ih.1], ih.2⟩
theorem while_all (c : Nat) (l : List Nat) (h : c ∉ l) : l.takeWhile (· != c) = l ∧ l.dropWhile (· != c) = [] := by
  induction l with
  | nil => exact ⟨rfl, rfl⟩
  | cons x l ih =>
    have hb : (x != c) = true := by simpa using fun e : x = c => h (by rw [e]; exact List.mem_cons_self)
    obtain ⟨i1, i2⟩ := ih fun z => h (List.mem_cons_of_mem _ z)
    simp only [List.takeWhile_cons, List.dropWhile_cons, hb, if_true]
    exact ⟨by rw [i1], i2⟩
theorem part_txt (l : List Nat) (c : Nat) : Txt.partition (strK l) (oneS c) = (strK (l.takeWhile (· != c)), strK (if c ∈ l then [c] else []), strK ((l.dropWhile (· != c)).drop 1)) := by
  unfold Txt.partition
  rw [occ_places]
  by_cases hm : c ∈ l
  · obtain ⟨r, e⟩ := placesC_first c l 0 hm
    rw [e]
    simp only [List.take_succ_cons, List.take_zero, Nat.zero_add]
    rw [sub_eq, sub_eq, if_pos hm]
    obtain ⟨h1, h2⟩ := take_idx c l hm
    have e1 : (List.drop 0 l).take (l.idxOf c - 0) = l.takeWhile (· != c) := by simpa using h1
    have hlen : (strK l).length = l.length := str_len l
    have e2 : (List.drop (l.idxOf c + (oneS c).length) l).take ((strK l).length - (l.idxOf c + (oneS c).length)) = (l.dropWhile (· != c)).drop 1 := by
      rw [hlen, show (oneS c).length = 1 from rfl, ← h2]
      exact List.take_of_length_le (by simp)
    rw [e1, e2]
    rfl
  · rw [placesC_none c l 0 hm, if_neg hm]
    obtain ⟨h1, h2⟩ := while_all c l hm
    rw [h1, h2]
    rfl
/-! ### the rules -/
section
variable {X : Cx} {cl : Cls} {t : Addr} {W : WX} {a e : Expr} {fa : FE} {ff : FA} {apos cpos p pos : Pos}
theorem one_arg_str {I H : Hp} {us : List V} {c : Nat} (s : Same I H) (r : RepL (pr X cl) I [.str [c]] us) : us = [.str (oneS c)] := by
  obtain ⟨v, vr, e, h, e2⟩ := r
  subst e; cases e2
  rw [h.1]; rfl
theorem lr_sindex : LR (pr X cl) (fun x xs H Q => ∃ a b i rest, x = V.str a ∧ xs = [.str b] ∧ Builtin.Str.occurrences a b 0 a.length 1 = i :: rest ∧ Q (.int (i : Nat)) H) gSIndex := by
  intro I H x d us es Q s hx r q
  unfold gSIndex at q
  split at q
  · rename_i l c
    have hu := one_arg_str s r
    by_cases hc : c ∈ l
    · rw [if_pos hc] at q
      obtain ⟨e1, _⟩ := hx.str
      obtain ⟨r', e⟩ := placesC_first c l 0 hc
      refine ⟨strK l, oneS c, l.idxOf c, [], e1, hu, ?_, rep_here s q rfl⟩
      rw [occ_places, e]
      simp
    · rw [if_neg hc] at q; exact q.elim
  · exact q.elim
theorem lr_scount : LR (pr X cl) (fun x xs H Q => ∃ a b, x = V.str a ∧ xs = [.str b] ∧ Q (.int (Txt.count a b)) H) gSCount := by
  intro I H x d us es Q s hx r q
  unfold gSCount at q
  split at q
  · rename_i l c
    have hu := one_arg_str s r
    obtain ⟨e1, _⟩ := hx.str
    refine ⟨strK l, oneS c, e1, hu, ?_⟩
    have hc : Txt.count (strK l) (oneS c) = ((l.count c : Nat) : Int) := by
      unfold Txt.count
      rw [occ_places, List.take_of_length_le, placesC_len]
      rw [placesC_len, show (strK l).length = l.length from str_len l]
      have := List.count_le_length (a := c) (l := l)
      omega
    rw [hc]
    exact rep_here s q rfl
  · exact q.elim
theorem lr_part : LR (pr X cl) (fun x xs H Q => ∃ a b, x = V.str a ∧ xs = [.str b] ∧ (b.length == 0) = false ∧ a.length ≤ sizeLine ∧
    ∀ p, H p = none → Q (.ref p) (upd H p (.tup [.str (Txt.partition a b).1, .str (Txt.partition a b).2.1, .str (Txt.partition a b).2.2]))) gPart := by
  intro I H x d us es Q s hx r q
  unfold gPart at q
  split at q
  · rename_i l c
    have hu := one_arg_str s r
    by_cases hl : l.length ≤ LIM
    · rw [if_pos hl] at q
      obtain ⟨e1, v1⟩ := hx.str
      refine ⟨strK l, oneS c, e1, hu, rfl, by rw [show (strK l).length = l.length from str_len l]; exact lim_line hl, fun p hp => ?_⟩
      rw [part_txt]
      obtain ⟨v, vr, e2, h2, e3⟩ := r
      have hcv := h2.2
      refine rep_new s q (fun a ha => ⟨a, _, rfl, SqT.of upd_same, ⟨_, _, rfl, ⟨rfl, fun c hc => v1 c ((List.takeWhile_sublist _).subset hc)⟩, _, _, rfl, ⟨rfl, fun x hx => ?_⟩, _, _, rfl, ⟨rfl, fun c hc => v1 c ((List.dropWhile_sublist _).subset (List.mem_of_mem_drop hc))⟩, rfl⟩, fun z => ?_⟩) p hp
      · split at hx
        · rw [List.mem_singleton] at hx; rw [hx]; exact hcv c (by simp)
        · cases hx
      · simp [isPairs, D.pairKey] at z
    · rw [if_neg hl] at q; exact q.elim
  · exact q.elim
theorem de_sindex (ho : DE X cl t W a fa) (ha : DA X cl t W [e] ff)
    (hbase : attributeBase a "index" X.env (eval a X.env) = eval a X.env := by rfl)
    (hfew : ((backTo cpos (starEach [e] X.env)).all (fun x => !x.1) && (backToKw cpos (keywordEach [] X.env)).all (fun x => x.1.isSome)
      && decide (([e] : List Expr).length + ([] : List Keyword).length + (if ([] : List Keyword).isEmpty then 0 else 1) < 30)) = true := by rfl)
    (hline : (apos.endLine == cpos.line) = true := by rfl) (hs : starEach [e] X.env = (false, eval e X.env) :: starEach [] X.env := by rfl) (hplain : (backTo cpos (starEach [] X.env)).any (·.1) = false := by rfl) :
    DE X cl t W (.Call (.Attribute a "index" apos) [e] [] cpos) (fTell (tyD "str") gSIndex fa ff) :=
  de_tell gSIndex_ne PySem.F.plainAttrs_str PySem.F.slot_str_index PySem.F.type_str_index mt_sindex lr_sindex ho ha hbase hfew hline hs hplain
theorem de_scount (ho : DE X cl t W a fa) (ha : DA X cl t W [e] ff)
    (hbase : attributeBase a "count" X.env (eval a X.env) = eval a X.env := by rfl)
    (hfew : ((backTo cpos (starEach [e] X.env)).all (fun x => !x.1) && (backToKw cpos (keywordEach [] X.env)).all (fun x => x.1.isSome)
      && decide (([e] : List Expr).length + ([] : List Keyword).length + (if ([] : List Keyword).isEmpty then 0 else 1) < 30)) = true := by rfl)
    (hline : (apos.endLine == cpos.line) = true := by rfl) (hs : starEach [e] X.env = (false, eval e X.env) :: starEach [] X.env := by rfl) (hplain : (backTo cpos (starEach [] X.env)).any (·.1) = false := by rfl) :
    DE X cl t W (.Call (.Attribute a "count" apos) [e] [] cpos) (fTell (tyD "str") gSCount fa ff) :=
  de_tell gSCount_ne PySem.F.plainAttrs_str PySem.F.slot_str_count PySem.F.type_str_count mt_count lr_scount ho ha hbase hfew hline hs hplain
theorem de_part (ho : DE X cl t W a fa) (ha : DA X cl t W [e] ff)
    (hbase : attributeBase a "partition" X.env (eval a X.env) = eval a X.env := by rfl)
    (hfew : ((backTo cpos (starEach [e] X.env)).all (fun x => !x.1) && (backToKw cpos (keywordEach [] X.env)).all (fun x => x.1.isSome)
      && decide (([e] : List Expr).length + ([] : List Keyword).length + (if ([] : List Keyword).isEmpty then 0 else 1) < 30)) = true := by rfl)
    (hline : (apos.endLine == cpos.line) = true := by rfl) (hs : starEach [e] X.env = (false, eval e X.env) :: starEach [] X.env := by rfl) (hplain : (backTo cpos (starEach [] X.env)).any (·.1) = false := by rfl) :
    DE X cl t W (.Call (.Attribute a "partition" apos) [e] [] cpos) (fTell (tyD "str") gPart fa ff) :=
  de_tell gPart_ne PySem.F.plainAttrs_str PySem.F.slot_str_partition PySem.F.type_str_partition mt_partition lr_part ho ha hbase hfew hline hs hplain
theorem dn_split (ho : DE X cl t W a fa) (ha : DA X cl t W [e] ff)
    (hbase : attributeBase a "split" X.env (eval a X.env) = eval a X.env := by rfl)
    (hfew : ((backTo cpos (starEach [e] X.env)).all (fun x => !x.1) && (backToKw cpos (keywordEach [] X.env)).all (fun x => x.1.isSome)
      && decide (([e] : List Expr).length + ([] : List Keyword).length + (if ([] : List Keyword).isEmpty then 0 else 1) < 30)) = true := by rfl)
    (hline : (apos.endLine == cpos.line) = true := by rfl) (hs : starEach [e] X.env = (false, eval e X.env) :: starEach [] X.env := by rfl) (hplain : (backTo cpos (starEach [] X.env)).any (·.1) = false := by rfl) :
    DNw X cl t W (.Call (.Attribute a "split" apos) [e] [] cpos) (nSplit fa ff) := by
  obtain ⟨ta, pa', la⟩ := ha.ex
  obtain ⟨to, po, lo⟩ := ho.ex
  refine DNw.mk (pe_bm PySem.F.plainAttrs_str PySem.F.slot_str_split PySem.F.type_str_split mt_split po pa' hbase hfew hline hs hplain) (fun I G H σ ρ Q s q => ?_)
  refine lo I G H σ ρ _ s ?_
  unfold nSplit at q
  rw [outP_bind] at q
  refine q.imp (fun x q I1 H1 v s1 st1 r1 => ?_) fun _ z => z
  cases e1 : x.1.get x.2 with
  | bad => rw [e1] at q; exact q.elim
  | exc er => exact absurd e1 (get_exc _ _ _)
  | ok d0 =>
    rw [e1] at q
    simp only [Out.bind_ok] at q
    by_cases ht : tyD "str" d0 = true
    · rw [if_pos ht] at q
      refine ⟨tyD_v st1.b.ih (RR.get st1 r1 e1) ht, la I1 G H1 σ x.2 _ st1 ?_⟩
      rw [outP_bind] at q
      refine q.imp (fun y q I2 H2 us s2 st2 r2 => ?_) fun _ z => z.mono s1
      cases e2 : x.1.get y.2 with
      | bad => rw [e2] at q; exact q.elim
      | exc er => exact absurd e2 (get_exc _ _ _)
      | ok d =>
        rw [e2] at q
        simp only [Out.bind_ok] at q
        have hv := RR.get st2 (r1.mono s2) e2
        unfold splitD at q
        split at q
        · rename_i l c hes
          rw [hes] at r2
          have hu := one_arg_str st2.b.ih r2
          by_cases hc : c < 128 ∧ l.length ≤ LIM
          · rw [if_pos hc] at q
            simp only [Out.bind_ok] at q
            obtain ⟨e3, v3⟩ := hv.str
            refine ⟨strK l, oneS c, e3, hu, rfl, by rw [show (strK l).length = l.length from str_len l]; have := lim_line hc.2; rw [sizeLine_eq]; have h2 : l.length ≤ 1000000 := hc.2; omega, ?_⟩
            rw [split_txt l hc.1]
            have hr : RepL (pr X cl) I2 ((splitC c l).map D.str) (((splitC c l).map strK).map V.str) := by
              rw [List.map_map]
              exact reps_strs fun z hz x hx => v3 x (splitC_mem c l z hz x hx)
            exact ln_new (s1.trans s2) st2 hr q
          · rw [if_neg hc] at q; exact q.elim
        · exact q.elim
    · rw [if_neg ht] at q; exact q.elim
theorem ofStr_eq (i : Int) : (PySem.Str.ofString (toString i)) = strK (strI i) := by
  unfold strI strK
  exact PySem.Str.ofString_eq_toList _
theorem b_str : bootBuiltins "str" = some (.type "str") := by decide +kernel
theorem c_strI : C1D X cl (.type "str") gStrI := by
  refine ⟨_, call_str_int, fun I H x dx Q s hx q => ?_⟩
  unfold gStrI at q
  split at q
  · rename_i i
    by_cases h : smallI i = true
    · rw [if_pos h] at q
      refine ⟨i, by rw [hx.int], ?_, ?_⟩
      · unfold smallI at h
        simp only [Bool.and_eq_true, decide_eq_true_eq] at h
        have h2 : i.natAbs < 2 ^ 64 := by omega
        by_cases h0 : i.natAbs = 0
        · rw [h0]; decide
        · have := (Nat.log2_lt h0).mpr (show i.natAbs < 2 ^ 1920 from Nat.lt_of_lt_of_le h2 (Nat.pow_le_pow_right (by omega) (by omega)))
          exact this
      · show Q (.str (PySem.Str.ofString (toString i))) H
        rw [ofStr_eq]
        refine rep_here s q ⟨rfl, fun c hc => ?_⟩
        unfold strI at hc
        obtain ⟨ch, _, rfl⟩ := List.mem_map.mp hc
        have hv := ch.valid
        rcases hv with h | h
        · exact Nat.lt_trans h (by decide)
        · exact h.2
    · rw [if_neg h] at q; exact q.elim
  · exact q.elim
theorem val_digits : ∀ (l : List Nat) (n : Nat), (∀ c ∈ l, 48 ≤ c ∧ c ≤ 57) → l.foldl (fun (n : Int) (c : Nat) => n * 10 + ((c : Int) - 48)) (n : Int) = ((l.foldl (fun acc c => acc * 10 + (c - 48)) n : Nat) : Int)
  | [], _, _ => rfl
  | c :: l, n, h => by
    have hc := h c List.mem_cons_self
    rw [List.foldl_cons, List.foldl_cons, ← val_digits l (n * 10 + (c - 48)) fun d hd => h d (List.mem_cons_of_mem _ hd)]
    congr 1
    push_cast
    rw [Int.ofNat_sub hc.1]
    rfl
theorem c_intX : C1D X cl (.type "int") gIntX := by
  obtain ⟨r, hr, lr⟩ := (c_int : C1D X cl (.type "int") gInt)
  refine ⟨_, CallR.or hr call_int_str, fun I H x dx Q s hx q => ?_⟩
  unfold gIntX at q
  split at q
  · rename_i l
    by_cases h : figs l = true
    · rw [if_pos h] at q
      obtain ⟨e1, v1⟩ := hx.str
      unfold figs at h
      simp only [Bool.and_eq_true, decide_eq_true_eq, List.all_eq_true, Bool.not_eq_true', List.isEmpty_eq_false_iff] at h
      have hl : (strK l).cps.toList = l := by simp [strK]
      have hd : ∀ c ∈ l, 48 ≤ c ∧ c ≤ 57 := fun c hc => by simpa using h.2.2 c hc
      refine .inr ⟨strK l, valI l, by rw [e1]; rfl, ?_, by rw [show (strK l).length = l.length from str_len l]; omega, rep_here s q rfl⟩
      have z := intText_digits (x := strK l) (by rw [hl]; exact hd) (by rw [hl]; exact h.1) (by rw [show (strK l).length = l.length from str_len l]; omega)
      rw [z, hl]
      congr 1
      unfold valI
      have := val_digits l 0 hd
      exact this.symm
    · rw [if_neg h] at q; exact q.elim
  · exact .inl (lr I H x dx Q s hx q)
end
end Den

/-! DenSub: name[k] = v, a list. -/
namespace Den
open PySem PySem.Spec PyProof.Rows L2
section
variable {X : Cx} {cl : Cls} {t : Addr} {W : WX} {pins : List (Addr × Obj)} {σ : L2.St} {I H : Hp} {s : Shared} {A : Around} {E : Value → Shared → Prop}
variable {a b k v xe : Expr} {fa fb fk fx fv : FE} {pos pos' apos cpos pp : Pos} {y : PySem.Str}
theorem l_setItem {l : Addr} {xs : List V} {j : Int} {n : Nat} {x : V} {u : Value} {tk : Tok} {Q : Unit → Shared → Prop} (J : L2.Inv X pins σ H s) (hH : H l = some (.lst xs)) (hx : ixL xs.length j = some n) (ru : RelV x u)
    (h : ∀ s', L2.Inv X pins σ (upd H l (.lst (xs.set n x))) s' → Q () s') : wpAny (model X.prog X.w) A (setItem (.ref l) (.int j tk) u) Q E s := by
  obtain ⟨z, its, m, r, hl, e⟩ := J.lstM hH
  have hsz : its.toArray.size = xs.length := by rw [List.size_toArray]; exact hl.symm
  have hz : sizeLine < 2 ^ 62 := by decide
  have fin : ∀ k : Nat, k = n → Q () { s with heap := s.heap.update l (Obj.mapSeq (·.setIfInBounds k u)) } := fun k hk => by
    subst hk
    refine h _ (J.lset (its' := its.set k u) (t' := s.toks) hH e (by simp) (Vals.set ru k r) (by rw [List.length_set]; exact z))
  unfold ixL at hx
  by_cases h0 : 0 ≤ j
  · rw [if_pos h0] at hx
    by_cases h1 : j < xs.length
    · rw [if_pos h1] at hx
      injection hx with hx
      exact PySem.W.ki_setAt e h0 (by omega) (by rw [hsz]; exact h1) (fin _ hx)
    · rw [if_neg h1] at hx; cases hx
  · rw [if_neg h0] at hx
    by_cases h1 : -(xs.length : Int) ≤ j
    · rw [if_pos h1] at hx
      injection hx with hx
      exact PySem.W.ki_setBack e (by omega) (by rw [hsz]; exact h1) (by omega) (fin _ (by rw [hsz]; exact hx))
    · rw [if_neg h1] at hx; cases hx
def sPutT (td ty tv : TE) : TS := fun Z σ H => tv σ H fun v H1 => td σ H1 fun x H2 => ty σ H2 fun y H3 => ∃ (a : Addr) (xs : List V) (j : Int) (n : Nat),
  x = .ref a ∧ y = .int j ∧ H3 a = some (.lst xs) ∧ ixL xs.length j = some n ∧ Z.nx σ (upd H3 a (.lst (xs.set n v)))
theorem ds_putL {i : Nat} (hy : PE X (.Name y pp) (tVar i)) (hk : DE X cl t W k fk) (hv : DE X cl t W v fv) (hs : swapsWith v (some (.Subscript (.Name y pp) k pos')) pos.line X.env = pure false := by rfl) :
    DS1 X cl t W (.Assign [.Subscript (.Name y pp) k pos'] v pos) (sPutL i fk fv) := by
  obtain ⟨tk, pk, lk⟩ := hk.ex
  obtain ⟨tv, pv, lv⟩ := hv.ex
  have pk' := PE.mv pk
  have pv' := PE.mv pv
  refine DS1.mk (ts := sPutT (tVar i) (eMv tk) (eMv tv)) ⟨fun pins s σ H D J h => ?_⟩ fun I G H σ ρ Z s q => ?_
  · refine wpAny_Assign_Subscript (thn (pv'.run pins s σ H _ J h) fun r s1 ⟨v, H1, J1, rv, q1⟩ => thn (hy.run pins s1 σ H1 _ J1 q1) fun u s2 ⟨x, H2, J2, rx, q2⟩ => thn (pk'.run pins s2 σ H2 _ J2 q2) fun iv s3 ⟨y, H3, J3, ry, a, xs, j, n, ex, ey, ea, hx, q3⟩ => ?_) hs
    subst ex ey
    obtain rfl : u = Value.ref a := rx
    obtain ⟨tk, rfl⟩ : ∃ tk, iv = Value.int j tk := ry
    exact l_setItem J3 ea hx rv fun s' J' => ⟨σ, _, J', q3⟩
  · unfold sPutL at q
    rw [outP_bind] at q
    refine lv.keep s (q.imp (fun x q I1 H1 v1 s1 st1 r1 => ?_) fun _ z => z)
    cases e1 : cont x.2 i with
    | bad => rw [e1] at q; exact q.elim
    | exc er => unfold cont at e1; split at e1 <;> cases e1
    | ok c0 =>
      rw [e1] at q
      simp only [Out.bind_ok] at q
      have hσ : ∃ w, σ[i]? = some (some w) := by
        unfold cont at e1
        split at e1
        · rename_i h; obtain ⟨w, h1, _⟩ := st1.sl _ _ h; exact ⟨w, h1⟩
        · rename_i h; obtain ⟨w, h1, _⟩ := st1.sl _ _ h; exact ⟨w, h1⟩
        · rename_i h; obtain ⟨w, h1, _⟩ := st1.sl _ _ h; exact ⟨w, h1⟩
        · cases e1
      obtain ⟨w, hw⟩ := hσ
      refine ⟨w, hw, ?_⟩
      rw [outP_bind] at q
      refine lk.keep st1 (q.imp (fun z q I2 H2 v2 s2 st2 r2 => ?_) fun _ z => z.mono s1)
      split at q
      · rename_i ds hr
        split at q
        · rename_i j hj
          cases hx : ixL ds.length j with
          | none => rw [hx] at q; exact q.elim
          | some n =>
            rw [hx] at q
            obtain ⟨w', h1, a, e2, i2, g2, xs, hxs, rn⟩ := st2.sl i _ hr
            rw [hw] at h1; cases h1
            rw [hj] at r2
            have e3 : v2 = .int j := r2
            refine ⟨a, xs, j, n, e2, e3, hxs, by rw [← rn.length]; exact hx, ?_⟩
            subst e2
            have own' : OwnAt (pr X cl) I2 (upd H2 a (.lst (xs.set n v1))) a (.lst (ds.set n x.1)) := ⟨_, upd_same, RepL.set (r1.mono s2) n rn⟩
            exact q I2 _ σ (s1.trans s2) (st2.setIO hr rfl hw (extT_upd st2.b.ih i2) i2 own' (.inl ⟨_, rfl, rfl⟩))
        · exact q.elim
      · exact q.elim
end
end Den

/-! DenEz: enumerate(zip(a, b)). -/
namespace Den
open PySem PySem.Spec PyProof.Rows L2
section
variable {prog : Program} {w : World} {A : Around} {E : Value → Shared → Prop} {s : Shared} {z TI TO i1 i2 : Addr} {fp1 fp2 : List Addr} {n1 n2 i : Nat} {P1 P2 : Nat → Value → Prop} {St1 St2 : Nat → Heap → Prop} {a1 a2 : Value}
/-- a zip whose tuple may be out -/
abbrev IsZ (h : Heap) (z TI TO : Addr) (f0 : Value) (b : Bool) : Prop :=
  h.get? z = some { cls := .type "zip", dict := none, data := .fields #[f0, .bool b, .bool false, .ref TI, .ref TO], slots := #[] }
/-- what the first field holds -/
def Lent (f0 : Value) : Prop := f0 = .none ∨ ∃ a t, f0 = .int a t
theorem own_free {f0 : Value} {b : Bool} (hf : Lent f0) (hz : IsZ s.heap z TI TO f0 b) {Q : Bool → Shared → Prop} (h1 : Q true s) (h2 : ∀ h' b', IsZ h' z TI TO f0 b' → Heap.SameBut z s.heap h' → Q false { s with heap := h' }) :
    wpAny (model prog w) A (Builtin.SmallTypes.ownedTupleIsFree (.ref z)) Q E s := by
  unfold Builtin.SmallTypes.ownedTupleIsFree
  refine wpAny_bind (wpAny_field hz rfl (x := f0) rfl ?_)
  rcases hf with e | ⟨a, t, e⟩
  · subst e
    exact wpAny_pure h1
  · subst e
    simp only
    have la : ∀ {Q : Option Obj → Shared → Prop}, Q (s.heap.get? a.toNat) s → wpAny (model prog w) A (loadIfAlive a.toNat) Q E s := fun {Q} h Γ p hΓ => by
      show Sem.wp _ _ (.loadIfAlive a.toNat .pure) _ _ p s
      rw [Sem.wp_loadIfAlive]
      exact h
    refine wpAny_bind (la ?_)
    cases s.heap.get? a.toNat with
    | none => exact wpAny_pure h1
    | some o =>
      simp only [Option.isNone_some, Bool.false_eq_true, if_false]
      refine wpAny_bind (wpAny_field hz rfl (x := .bool b) rfl ?_)
      cases b with
      | true => exact wpAny_pure (h2 _ true hz (Heap.SameBut.refl ..))
      | false => exact wpAny_bind (wpAny_setField_rec hz (by simp) fun h' hz' sb => wpAny_pure (h2 h' true hz' sb))
/-- what is true behind one step -/
structure ZNext (s : Shared) (z TI TO i1 i2 : Addr) (St1 St2 : Nat → Heap → Prop) (P1 P2 : Nat → Value → Prop) (i : Nat) (x1 x2 : Value) (h' : Heap) : Prop where
  p1 : P1 i x1
  p2 : P2 i x2
  zz : ∃ f0 b, Lent f0 ∧ IsZ h' z TI TO f0 b
  to : ∃ y1 y2, IsTupOf2 h' TO y1 y2
  s1 : St1 (i + 1) h'
  s2 : St2 (i + 1) h'
  nw : IsTupOf2 h' s.heap.objs.size x1 x2
  sz : h'.objs.size = s.heap.objs.size + 1
  kp : ∀ c o, c ≠ z → c ≠ TO → c ≠ i1 → c ≠ i2 → s.heap.get? c = some o → h'.get? c = some o
theorem zip_next {Q : Value → Shared → Prop} (S : ZipSep2 z TI TO i1 i2 fp1 fp2) (D1 : Draws prog w A i1 fp1 n1 P1 St1) (D2 : Draws prog w A i2 fp2 n2 P2 St2) {f0 : Value} {b : Bool} (hf : Lent f0)
    (hz : IsZ s.heap z TI TO f0 b) (hTI : IsTupOf2 s.heap TI (.ref i1) (.ref i2)) (hTO : IsTupOf2 s.heap TO a1 a2) (st1 : St1 i s.heap) (st2 : St2 i s.heap) (hlt1 : i < n1) (hlt2 : i < n2)
    (hQ : ∀ x1 x2 h' tk, ZNext s z TI TO i1 i2 St1 St2 P1 P2 i x1 x2 h' → Q (.ref s.heap.objs.size) { s with heap := h', toks := tk }) :
    wpAny (model prog w) A (Builtin.«zip.__next__» ⟨[.ref z], []⟩) (fun fin s' => ∃ v, fin = .done (.ret v) ∧ Q v s') E s := by
  obtain ⟨hp, g, d, tk0, os⟩ := s
  show wpAny _ _ (field (.ref z) 2 >>= _) _ _ _
  refine wpAny_bind (wpAny_field hz rfl (x := .bool false) rfl ?_)
  show wpAny _ _ (field (.ref z) 3 >>= _) _ _ _
  refine wpAny_bind (wpAny_field hz rfl (x := .ref TI) rfl ?_)
  refine wpAny_bind (wpAny_seqItems hTI rfl ?_)
  show wpAny _ _ (Builtin.SmallTypes.ownedTupleIsFree (.ref z) >>= _) _ _ _
  refine wpAny_bind (own_free hf hz ?_ fun q0 b' hz' sb0 => ?_)
  · -- the owned tuple again
    simp only [if_true]
    refine wpAny_bind (wpAny_rule ?_)
    refine wpAny_bind (wpAny_field hz rfl (x := .ref TO) rfl ?_)
    refine wpAny_bind (wpAny_setField_rec hz (by simp) fun g0 hz0 hs0 => ?_)
    replace hz0 : IsZ g0 z TI TO .ellipsis b := hz0
    replace hs0 : Heap.SameBut z hp g0 := hs0
    refine wpAny_bind ?_
    simp only [List.zipIdx_cons, List.zipIdx_nil, List.forIn_cons, List.forIn_nil]
    refine wpAny_bind (wpAny_bind (wpAny_onRaise ?_))
    show wpAny _ _ (Builtin.SmallTypes.nextOf (.ref i1) >>= _) _ _ ⟨g0, g, d, tk0, os⟩
    refine wpAny_bind (D1.item i _ _ _ hlt1 (D1.over st1 hs0 S.zf1) fun x1 p1 tk1 hx1 sn1 hp1 => wpAny_pure ?_)
    replace hp1 : Heap.SameBut i1 g0 p1 := hp1
    have hU1 : IsTupOf2 p1 TO a1 a2 := hp1.extBut _ _ S.Ti1 (hs0.extBut _ _ S.TOz hTO)
    refine wpAny_bind (wpAny_seqItems (s := ⟨p1, g, d, tk1, os⟩) hU1 rfl ?_)
    refine wpAny_bind (updateSeq_IsTupOf2 (s := ⟨p1, g, d, tk1, os⟩) hU1 fun g1 hT1 hs1 => ?_)
    replace hT1 : IsTupOf2 g1 TO x1 a2 := hT1
    replace hs1 : Heap.SameBut TO p1 g1 := hs1
    refine wpAny_bind (wpAny_letGo (wpAny_pure ?_))
    refine wpAny_bind (wpAny_bind (wpAny_onRaise ?_))
    show wpAny _ _ (Builtin.SmallTypes.nextOf (.ref i2) >>= _) _ _ ⟨g1, g, d, tk1, os⟩
    refine wpAny_bind (D2.item i _ _ _ hlt2 (D2.over (D2.over (D2.over st2 hs0 S.zf2) hp1 S.sep1_2) hs1 S.Tf2) fun x2 p2 tk2 hx2 sn2 hp2 => wpAny_pure ?_)
    replace hp2 : Heap.SameBut i2 g1 p2 := hp2
    have hU2 : IsTupOf2 p2 TO x1 a2 := hp2.extBut _ _ S.Ti2 hT1
    refine wpAny_bind (wpAny_seqItems (s := ⟨p2, g, d, tk2, os⟩) hU2 rfl ?_)
    refine wpAny_bind (updateSeq_IsTupOf2 (s := ⟨p2, g, d, tk2, os⟩) hU2 fun g2 hT2 hs2 => ?_)
    replace hT2 : IsTupOf2 g2 TO x1 x2 := hT2
    replace hs2 : Heap.SameBut TO p2 g2 := hs2
    refine wpAny_bind (wpAny_letGo (wpAny_pure (wpAny_pure ?_)))
    refine wpAny_bind (wpAny_seqItems (s := ⟨g2, g, d, tk2, os⟩) hT2 rfl ?_)
    refine wpAny_bind (wpAny_newTuple ?_)
    have hsz : g2.objs.size = hp.objs.size := by rw [hs2.1, hp2.1, hs1.1, hp1.1, hs0.1]
    have hzz : IsZ g2 z TI TO .ellipsis b := (hs2.extBut _ _ S.TOz.symm (hp2.extBut _ _ S.zi2 (hs1.extBut _ _ S.TOz.symm (hp1.extBut _ _ S.zi1 hz0))))
    have hkk : ∀ c o, c ≠ z → c ≠ TO → c ≠ i1 → c ≠ i2 → hp.get? c = some o → g2.get? c = some o := fun c o cz cT c1 c2 e =>
      (hs2.extBut _ _ cT (hp2.extBut _ _ c2 (hs1.extBut _ _ cT (hp1.extBut _ _ c1 (hs0.extBut _ _ cz e)))))
    have hj1 : St1 (i + 1) g2 := (D1.over (D1.over (D1.over sn1 hs1 S.Tf1) hp2 S.sep2_1) hs2 S.Tf1)
    have hj2 : St2 (i + 1) g2 := (D2.over sn2 hs2 S.Tf2)
    have hzlt : z < g2.objs.size := Heap.lt_size hzz
    show wpAny _ _ (Builtin.SmallTypes.ownedTupleHandOut (.ref z) (.ref g2.objs.size) >>= _) _ _ ⟨g2.push { cls := .type "tuple", data := .seq #[x1, x2] }, g, d, tk2, os⟩
    refine wpAny_bind ?_
    unfold Builtin.SmallTypes.ownedTupleHandOut
    have hz6 : IsZ (g2.push { cls := .type "tuple", data := .seq #[x1, x2] }) z TI TO .ellipsis b := Heap.get?_push_of_some _ hzz
    refine wpAny_bind (wpAny_setField_rec hz6 (by simp) fun h7 hz7 hs7 => ?_)
    replace hz7 : IsZ h7 z TI TO (rawInt g2.objs.size) b := hz7
    refine wpAny_setField_rec hz7 (by simp) fun h8 hz8 hs8 => ?_
    replace hz8 : IsZ h8 z TI TO (rawInt g2.objs.size) false := hz8
    replace hs7 : Heap.SameBut z (g2.push { cls := .type "tuple", data := .seq #[x1, x2] }) h7 := hs7
    replace hs8 : Heap.SameBut z h7 h8 := hs8
    have up : ∀ c o, c ≠ z → g2.get? c = some o → h8.get? c = some o := fun c o c1 e => hs8.extBut _ _ c1 (hs7.extBut _ _ c1 (Heap.get?_push_of_some _ e))
    have hT8 : IsTupOf2 h8 g2.objs.size x1 x2 := hs8.extBut _ _ (Nat.ne_of_gt hzlt) (hs7.extBut _ _ (Nat.ne_of_gt hzlt) (Heap.get?_push_size _ rfl))
    have hz9 : h8.objs.size = g2.objs.size + 1 := by rw [hs8.1, hs7.1, Heap.size_push]
    rw [hsz] at hz8 hT8 hz9
    refine wpAny_pure ⟨_, rfl, ?_⟩
    show Q (.ref g2.objs.size) ⟨h8, g, d, tk2, os⟩
    rw [hsz]
    exact hQ x1 x2 h8 tk2 ⟨hx1, hx2, ⟨_, _, .inr ⟨_, _, rfl⟩, hz8⟩, ⟨_, _, up _ _ S.TOz hT2⟩, (D1.frame _ _ _ hj1 fun c hb o e => up c o (fun q => S.zf1 (q ▸ hb)) e), (D2.frame _ _ _ hj2 fun c hb o e => up c o (fun q => S.zf2 (q ▸ hb)) e), hT8, hz9, fun c o cz cT c1 c2 e => up c o cz (hkk c o cz cT c1 c2 e)⟩
  · -- a tuple of its own
    replace sb0 : Heap.SameBut z hp q0 := sb0
    simp only [Bool.false_eq_true, if_false]
    refine wpAny_bind ?_
    simp only [← Array.forIn_toList, List.forIn_cons, List.forIn_nil]
    refine wpAny_bind (wpAny_bind (wpAny_holding ?_))
    show wpAny _ _ (Builtin.SmallTypes.nextOf (.ref i1) >>= _) _ _ ⟨q0, g, d, tk0, os⟩
    refine wpAny_bind (D1.item i _ _ _ hlt1 (D1.over st1 sb0 S.zf1) fun x1 p1 tk1 hx1 sn1 hp1 => wpAny_pure ?_)
    replace hp1 : Heap.SameBut i1 q0 p1 := hp1
    refine wpAny_pure ?_
    refine wpAny_bind (wpAny_bind (wpAny_holding ?_))
    show wpAny _ _ (Builtin.SmallTypes.nextOf (.ref i2) >>= _) _ _ ⟨p1, g, d, tk1, os⟩
    refine wpAny_bind (D2.item i _ _ _ hlt2 (D2.over (D2.over st2 sb0 S.zf2) hp1 S.sep1_2) fun x2 p2 tk2 hx2 sn2 hp2 => wpAny_pure ?_)
    replace hp2 : Heap.SameBut i2 p1 p2 := hp2
    refine wpAny_pure (wpAny_pure ?_)
    refine wpAny_bind (wpAny_newTuple (hsz := by show 2 ≤ sizeLine; decide) ?_)
    have hsz : p2.objs.size = hp.objs.size := by rw [hp2.1, hp1.1, sb0.1]
    have up : ∀ c o, p2.get? c = some o → (p2.push { cls := .type "tuple", data := .seq #[x1, x2] }).get? c = some o := fun c o e => Heap.get?_push_of_some _ e
    have hkk : ∀ c o, c ≠ z → c ≠ i1 → c ≠ i2 → hp.get? c = some o → p2.get? c = some o := fun c o cz c1 c2 e => hp2.extBut _ _ c2 (hp1.extBut _ _ c1 (sb0.extBut _ _ cz e))
    have hzz : IsZ p2 z TI TO f0 b' := hp2.extBut _ _ S.zi2 (hp1.extBut _ _ S.zi1 hz')
    have hT : IsTupOf2 (p2.push { cls := .type "tuple", data := .seq #[x1, x2] }) hp.objs.size x1 x2 := by rw [← hsz]; exact Heap.get?_push_size _ rfl
    refine wpAny_pure ⟨_, rfl, ?_⟩
    show Q (.ref p2.objs.size) ⟨p2.push { cls := .type "tuple", data := .seq #[x1, x2] }, g, d, tk2, os⟩
    rw [hsz]
    exact hQ x1 x2 _ tk2 ⟨hx1, hx2, ⟨_, _, hf, up _ _ hzz⟩, ⟨_, _, up _ _ (hkk _ _ S.TOz S.Ti1 S.Ti2 hTO)⟩, D1.frame _ _ _ (D1.over sn1 hp2 S.sep2_1) fun c hb o e => up c o e, D2.frame _ _ _ sn2 fun c hb o e => up c o e, hT, by rw [Heap.size_push, hsz], fun c o cz cT c1 c2 e => up c o (hkk c o cz c1 c2 e)⟩
theorem zip_end {Q : Fin → Shared → Prop} (S : ZipSep2 z TI TO i1 i2 fp1 fp2) (D1 : Draws prog w A i1 fp1 n1 P1 St1) (D2 : Draws prog w A i2 fp2 n2 P2 St2) {f0 : Value} {b : Bool} (hf : Lent f0)
    (hz : IsZ s.heap z TI TO f0 b) (hTI : IsTupOf2 s.heap TI (.ref i1) (.ref i2)) (hTO : IsTupOf2 s.heap TO a1 a2) (st1 : St1 i s.heap) (st2 : St2 i s.heap) (hle1 : i ≤ n1) (hle2 : i ≤ n2) (hend : i = n1 ∨ i = n2)
    (hE : ∀ h' tk e, (∀ c o, c ≠ z → c ≠ TO → c ≠ i1 → c ≠ i2 → s.heap.get? c = some o → h'.get? c = some o) → (∃ o, h'.get? e = some o ∧ o.cls = .type "StopIteration") → E (.ref e) { s with heap := h', toks := tk }) :
    wpAny (model prog w) A (Builtin.«zip.__next__» ⟨[.ref z], []⟩) Q E s := by
  obtain ⟨hp, g, d, tk0, os⟩ := s
  show wpAny _ _ (field (.ref z) 2 >>= _) _ _ _
  refine wpAny_bind (wpAny_field hz rfl (x := .bool false) rfl ?_)
  show wpAny _ _ (field (.ref z) 3 >>= _) _ _ _
  refine wpAny_bind (wpAny_field hz rfl (x := .ref TI) rfl ?_)
  refine wpAny_bind (wpAny_seqItems hTI rfl ?_)
  show wpAny _ _ (Builtin.SmallTypes.ownedTupleIsFree (.ref z) >>= _) _ _ _
  refine wpAny_bind (own_free hf hz ?_ fun q0 b' hz' sb0 => ?_)
  · simp only [if_true]
    refine wpAny_bind (wpAny_rule ?_)
    refine wpAny_bind (wpAny_field hz rfl (x := .ref TO) rfl ?_)
    refine wpAny_bind (wpAny_setField_rec hz (by simp) fun g0 hz0 hs0 => ?_)
    replace hz0 : IsZ g0 z TI TO .ellipsis b := hz0
    replace hs0 : Heap.SameBut z hp g0 := hs0
    refine wpAny_bind ?_
    simp only [List.zipIdx_cons, List.zipIdx_nil, List.forIn_cons, List.forIn_nil]
    refine wpAny_bind (wpAny_bind (wpAny_onRaise ?_))
    show wpAny _ _ (Builtin.SmallTypes.nextOf (.ref i1) >>= _) _ _ ⟨g0, g, d, tk0, os⟩
    by_cases hlt1 : i < n1
    · refine wpAny_bind (D1.item i _ _ _ hlt1 (D1.over st1 hs0 S.zf1) fun x1 p1 tk1 hx1 sn1 hp1 => wpAny_pure ?_)
      replace hp1 : Heap.SameBut i1 g0 p1 := hp1
      have hU1 : IsTupOf2 p1 TO a1 a2 := hp1.extBut _ _ S.Ti1 (hs0.extBut _ _ S.TOz hTO)
      refine wpAny_bind (wpAny_seqItems (s := ⟨p1, g, d, tk1, os⟩) hU1 rfl ?_)
      refine wpAny_bind (updateSeq_IsTupOf2 (s := ⟨p1, g, d, tk1, os⟩) hU1 fun g1 hT1 hs1 => ?_)
      replace hs1 : Heap.SameBut TO p1 g1 := hs1
      refine wpAny_bind (wpAny_letGo (wpAny_pure ?_))
      have hi2 : i = n2 := by omega
      refine wpAny_bind (wpAny_bind (wpAny_onRaise ?_))
      show wpAny _ _ (Builtin.SmallTypes.nextOf (.ref i2) >>= _) _ _ ⟨g1, g, d, tk1, os⟩
      refine wpAny_bind (D2.done ⟨g1, g, d, tk1, os⟩ _ _ (by rw [← hi2]; exact (D2.over (D2.over (D2.over st2 hs0 S.zf2) hp1 S.sep1_2) hs1 S.Tf2)) fun q e hq he => ?_)
      replace hq : Heap.ExtBut i2 g1 q := hq
      obtain ⟨oe, hoe, hce⟩ := he
      replace hoe : q.get? e = some oe := hoe
      have hzq : IsZ q z TI TO .ellipsis b := hq _ _ S.zi2 (hs1.extBut _ _ S.TOz.symm (hp1.extBut _ _ S.zi1 hz0))
      have hez : e ≠ z := fun x => by subst x; rw [hzq] at hoe; cases hoe; simp at hce
      refine wpAny_setField_rec (s := ⟨q, g, d, tk1, os⟩) hzq (by simp) fun q' _ hq' => ?_
      replace hq' : Heap.SameBut z q q' := hq'
      exact hE q' tk1 e (fun c o cz cT c1 c2 x => hq'.extBut _ _ cz (hq _ _ c2 (hs1.extBut _ _ cT (hp1.extBut _ _ c1 (hs0.extBut _ _ cz x))))) ⟨oe, hq'.extBut _ _ hez hoe, hce⟩
    · have hi1 : i = n1 := by omega
      refine wpAny_bind (D1.done ⟨g0, g, d, tk0, os⟩ _ _ (by rw [← hi1]; exact (D1.over st1 hs0 S.zf1)) fun q e hq he => ?_)
      replace hq : Heap.ExtBut i1 g0 q := hq
      obtain ⟨oe, hoe, hce⟩ := he
      replace hoe : q.get? e = some oe := hoe
      have hzq : IsZ q z TI TO .ellipsis b := hq _ _ S.zi1 hz0
      have hez : e ≠ z := fun x => by subst x; rw [hzq] at hoe; cases hoe; simp at hce
      refine wpAny_setField_rec (s := ⟨q, g, d, tk0, os⟩) hzq (by simp) fun q' _ hq' => ?_
      replace hq' : Heap.SameBut z q q' := hq'
      exact hE q' tk0 e (fun c o cz cT c1 c2 x => hq'.extBut _ _ cz (hq _ _ c1 (hs0.extBut _ _ cz x))) ⟨oe, hq'.extBut _ _ hez hoe, hce⟩
  · replace sb0 : Heap.SameBut z hp q0 := sb0
    simp only [Bool.false_eq_true, if_false]
    refine wpAny_bind ?_
    simp only [← Array.forIn_toList, List.forIn_cons, List.forIn_nil]
    refine wpAny_bind (wpAny_bind (wpAny_holding ?_))
    show wpAny _ _ (Builtin.SmallTypes.nextOf (.ref i1) >>= _) _ _ ⟨q0, g, d, tk0, os⟩
    by_cases hlt1 : i < n1
    · refine wpAny_bind (D1.item i _ _ _ hlt1 (D1.over st1 sb0 S.zf1) fun x1 p1 tk1 hx1 sn1 hp1 => wpAny_pure ?_)
      replace hp1 : Heap.SameBut i1 q0 p1 := hp1
      refine wpAny_pure ?_
      have hi2 : i = n2 := by omega
      refine wpAny_bind (wpAny_bind (wpAny_holding ?_))
      show wpAny _ _ (Builtin.SmallTypes.nextOf (.ref i2) >>= _) _ _ ⟨p1, g, d, tk1, os⟩
      refine wpAny_bind (D2.done ⟨p1, g, d, tk1, os⟩ _ _ (by rw [← hi2]; exact D2.over (D2.over st2 sb0 S.zf2) hp1 S.sep1_2) fun q e hq he => ?_)
      replace hq : Heap.ExtBut i2 p1 q := hq
      exact hE q tk1 e (fun c o cz cT c1 c2 x => hq _ _ c2 (hp1.extBut _ _ c1 (sb0.extBut _ _ cz x))) he
    · have hi1 : i = n1 := by omega
      refine wpAny_bind (D1.done ⟨q0, g, d, tk0, os⟩ _ _ (by rw [← hi1]; exact D1.over st1 sb0 S.zf1) fun q e hq he => ?_)
      replace hq : Heap.ExtBut i1 q0 q := hq
      exact hE q tk0 e (fun c o cz cT c1 c2 x => hq _ _ c1 (sb0.extBut _ _ cz x)) he
/-- the zip asked by another iterator -/
theorem nextOf_zip {Q : Value → Shared → Prop} (S : ZipSep2 z TI TO i1 i2 fp1 fp2) (D1 : Draws prog w A.in1 i1 fp1 n1 P1 St1) (D2 : Draws prog w A.in1 i2 fp2 n2 P2 St2) {f0 : Value} {b : Bool} (hf : Lent f0)
    (hz : IsZ s.heap z TI TO f0 b) (hTI : IsTupOf2 s.heap TI (.ref i1) (.ref i2)) (hTO : IsTupOf2 s.heap TO a1 a2) (st1 : St1 i s.heap) (st2 : St2 i s.heap) (hlt1 : i < n1) (hlt2 : i < n2)
    (hQ : ∀ x1 x2 h' tk, ZNext s z TI TO i1 i2 St1 St2 P1 P2 i x1 x2 h' → Q (.ref s.heap.objs.size) { s with heap := h', toks := tk }) :
    wpAny (model prog w) A (Builtin.SmallTypes.nextOf (.ref z)) Q E s := by
  have hT : s.TypeIs (.ref z) "zip" := ⟨_, hz, rfl⟩
  unfold Builtin.SmallTypes.nextOf
  exact wpAny_bind (wpAny_callSpecial?_slot (name := Str.ofString "__next__") hT F.slot_zip_next
    (wpAny_call_entry F.slot_zip_next hT F.entry_zip_next (zip_next S D1 D2 hf hz hTI hTO st1 st2 hlt1 hlt2 fun x1 x2 h' tk zn => wpAny_pure (hQ x1 x2 h' tk zn)) (F.args_zip_next_1 _)))
theorem nextOf_zip_end {Q : Value → Shared → Prop} (S : ZipSep2 z TI TO i1 i2 fp1 fp2) (D1 : Draws prog w A.in1 i1 fp1 n1 P1 St1) (D2 : Draws prog w A.in1 i2 fp2 n2 P2 St2) {f0 : Value} {b : Bool} (hf : Lent f0)
    (hz : IsZ s.heap z TI TO f0 b) (hTI : IsTupOf2 s.heap TI (.ref i1) (.ref i2)) (hTO : IsTupOf2 s.heap TO a1 a2) (st1 : St1 i s.heap) (st2 : St2 i s.heap) (hle1 : i ≤ n1) (hle2 : i ≤ n2) (hend : i = n1 ∨ i = n2)
    (hE : ∀ h' tk e, (∀ c o, c ≠ z → c ≠ TO → c ≠ i1 → c ≠ i2 → s.heap.get? c = some o → h'.get? c = some o) → (∃ o, h'.get? e = some o ∧ o.cls = .type "StopIteration") → E (.ref e) { s with heap := h', toks := tk }) :
    wpAny (model prog w) A (Builtin.SmallTypes.nextOf (.ref z)) Q E s := by
  have hT : s.TypeIs (.ref z) "zip" := ⟨_, hz, rfl⟩
  unfold Builtin.SmallTypes.nextOf
  exact wpAny_bind (wpAny_callSpecial?_slot (name := Str.ofString "__next__") hT F.slot_zip_next
    (wpAny_call_entry F.slot_zip_next hT F.entry_zip_next (zip_end S D1 D2 hf hz hTI hTO st1 st2 hle1 hle2 hend hE) (F.args_zip_next_1 _)))
/-- what is true behind one step of the two -/
structure EZNext (s : Shared) (e z TI TO i1 i2 : Addr) (St1 St2 : Nat → Heap → Prop) (P1 P2 : Nat → Value → Prop) (i : Nat) (x1 x2 : Value) (h' : Heap) (tk : Tok) : Prop where
  en : IsEnumOut h' e z ((i : Int) + 1) (.ref s.heap.objs.size) (s.heap.objs.size + 1)
  p1 : P1 i x1
  p2 : P2 i x2
  zz : ∃ f0 b, Lent f0 ∧ IsZ h' z TI TO f0 b
  to : ∃ y1 y2, IsTupOf2 h' TO y1 y2
  s1 : St1 (i + 1) h'
  s2 : St2 (i + 1) h'
  nw : IsTupOf2 h' s.heap.objs.size x1 x2
  ow : h'.get? (s.heap.objs.size + 1) = some { cls := .type "tuple", data := .seq #[.int i tk, .ref s.heap.objs.size] }
  kp : ∀ c o, c ≠ e → c ≠ z → c ≠ TO → c ≠ i1 → c ≠ i2 → s.heap.get? c = some o → h'.get? c = some o
theorem enum_zip_next {e : Addr} {old : Value} {Q : Value → Shared → Prop} (S : ZipSep2 z TI TO i1 i2 fp1 fp2) (D1 : Draws prog w A.in1 i1 fp1 n1 P1 St1) (D2 : Draws prog w A.in1 i2 fp2 n2 P2 St2) {f0 : Value} {b : Bool} (hf : Lent f0)
    (hz : IsZ s.heap z TI TO f0 b) (hTI : IsTupOf2 s.heap TI (.ref i1) (.ref i2)) (hTO : IsTupOf2 s.heap TO a1 a2) (st1 : St1 i s.heap) (st2 : St2 i s.heap) (hlt1 : i < n1) (hlt2 : i < n2)
    (he : IsEnum s.heap e z i old) (ez : e ≠ z) (eTO : e ≠ TO) (ef1 : e ∉ fp1) (ef2 : e ∉ fp2)
    (hQ : ∀ x1 x2 h' tk, EZNext s e z TI TO i1 i2 St1 St2 P1 P2 i x1 x2 h' tk → Q (.ref (s.heap.objs.size + 1)) { s with heap := h', toks := tk + 1 }) :
    wpAny (model prog w) A (Builtin.«enumerate.__next__» ⟨[.ref e], []⟩) (fun fin s' => ∃ v, fin = .done (.ret v) ∧ Q v s') E s := by
  obtain ⟨hp, g, d, tk₀, os⟩ := s
  have ei1 : e ≠ i1 := fun q => ef1 (by rw [q]; exact S.mem1)
  have ei2 : e ≠ i2 := fun q => ef2 (by rw [q]; exact S.mem2)
  show wpAny _ _ (field (.ref e) 2 >>= _) _ _ _
  refine wpAny_bind (wpAny_field he rfl (x := .ref z) rfl ?_)
  refine wpAny_bind (nextOf_zip S D1 D2 hf hz hTI hTO st1 st2 hlt1 hlt2 fun x1 x2 h₁ tk zn => ?_)
  have he₁ : IsEnum h₁ e z i old := zn.kp e _ ez eTO ei1 ei2 he
  have hel : e < hp.objs.size := Heap.lt_size he
  have sz₁ : h₁.objs.size = hp.objs.size + 1 := zn.sz
  have kp₁ : ∀ c o, c ≠ z → c ≠ TO → c ≠ i1 → c ≠ i2 → hp.get? c = some o → h₁.get? c = some o := zn.kp
  have nw₁ : IsTupOf2 h₁ hp.objs.size x1 x2 := zn.nw
  show wpAny _ _ (field (.ref e) 3 >>= _) _ _ ⟨h₁, g, d, tk, os⟩
  refine wpAny_bind (wpAny_field he₁ rfl (x := rawInt i) rfl ?_)
  show wpAny _ _ (field (.ref e) 4 >>= _) _ _ ⟨h₁, g, d, tk, os⟩
  refine wpAny_bind (wpAny_field he₁ rfl (x := .none) rfl ?_)
  show wpAny _ _ (mkInt i >>= _) _ _ ⟨h₁, g, d, tk, os⟩
  refine wpAny_bind (wpAny_mkInt ?_)
  show wpAny _ _ (setField (.ref e) 3 (rawInt ((i : Int) + 1)) >>= _) _ _ ⟨h₁, g, d, tk + 1, os⟩
  refine wpAny_bind (wpAny_setField_rec he₁ (by simp) fun h₂ he₂ hs₂ => ?_)
  replace hs₂ : Heap.SameBut e h₁ h₂ := hs₂
  replace he₂ : IsEnum h₂ e z ((i : Int) + 1) old := he₂
  show wpAny _ _ (setField (.ref e) 4 .none >>= _) _ _ ⟨h₂, g, d, tk + 1, os⟩
  refine wpAny_bind (wpAny_setField_rec he₂ (by simp) fun h₃ he₃ hs₃ => ?_)
  replace hs₃ : Heap.SameBut e h₂ h₃ := hs₃
  replace he₃ : IsEnum h₃ e z ((i : Int) + 1) old := he₃
  show wpAny _ _ (newTuple [.int i tk, .ref hp.objs.size] >>= _) _ _ ⟨h₃, g, d, tk + 1, os⟩
  refine wpAny_bind (wpAny_newTuple ?_)
  have he₄ : IsEnum (h₃.push { cls := .type "tuple", data := .seq #[.int i tk, .ref hp.objs.size] }) e z ((i : Int) + 1) old := Heap.get?_push_of_some _ he₃
  have hsz : h₃.objs.size = hp.objs.size + 1 := by rw [hs₃.1, hs₂.1, sz₁]
  have ht₄ : (h₃.push { cls := .type "tuple", data := .seq #[.int i tk, .ref hp.objs.size] }).get? (hp.objs.size + 1) = some { cls := .type "tuple", data := .seq #[.int i tk, .ref hp.objs.size] } := by rw [← hsz]; exact Heap.get?_push_size _ rfl
  have up₄ : ∀ c o, c ≠ e → h₁.get? c = some o → (h₃.push { cls := .type "tuple", data := .seq #[.int i tk, .ref hp.objs.size] }).get? c = some o := fun c o ce q => Heap.get?_push_of_some _ (hs₃.extBut c o ce (hs₂.extBut c o ce q))
  generalize h₃.push { cls := .type "tuple", data := .seq #[.int i tk, .ref hp.objs.size] } = h₄ at *
  show wpAny _ _ (Builtin.SmallTypes.ownedTupleIsFree (.ref e) >>= _) _ _ ⟨h₄, g, d, tk + 1, os⟩
  rw [hsz]
  refine wpAny_bind ?_
  unfold Builtin.SmallTypes.ownedTupleIsFree
  refine wpAny_bind (wpAny_field he₄ rfl (x := .none) rfl (wpAny_pure ?_))
  simp only [if_true]
  refine wpAny_bind (wpAny_rule ?_)
  refine wpAny_bind (wpAny_field he₄ rfl (x := old) rfl ?_)
  refine wpAny_bind (wpAny_setField_rec he₄ (by simp) fun h₅ he₅ hs₅ => ?_)
  replace hs₅ : Heap.SameBut e h₄ h₅ := hs₅
  replace he₅ : IsEnum h₅ e z ((i : Int) + 1) (.ref hp.objs.size) := he₅
  show wpAny _ _ (Builtin.SmallTypes.ownedTupleHandOut (.ref e) (.ref (hp.objs.size + 1)) >>= _) _ _ ⟨h₅, g, d, tk + 1, os⟩
  refine wpAny_bind ?_
  unfold Builtin.SmallTypes.ownedTupleHandOut
  refine wpAny_bind (wpAny_setField_rec he₅ (by simp) fun h₆ he₆ hs₆ => ?_)
  replace hs₆ : Heap.SameBut e h₅ h₆ := hs₆
  replace he₆ : IsEnumOut h₆ e z ((i : Int) + 1) (.ref hp.objs.size) (hp.objs.size + 1) := he₆
  refine wpAny_setField_rec he₆ (by simp) fun h₇ he₇ hs₇ => ?_
  replace hs₇ : Heap.SameBut e h₆ h₇ := hs₇
  replace he₇ : IsEnumOut h₇ e z ((i : Int) + 1) (.ref hp.objs.size) (hp.objs.size + 1) := he₇
  have up : ∀ c o, c ≠ e → h₁.get? c = some o → h₇.get? c = some o := fun c o ce q => hs₇.extBut c o ce (hs₆.extBut c o ce (hs₅.extBut c o ce (up₄ c o ce q)))
  obtain ⟨f1, b1, hf1, hz1⟩ := zn.zz
  obtain ⟨y1, y2, hy⟩ := zn.to
  refine wpAny_bind (wpAny_letGo (wpAny_pure ⟨_, rfl, hQ x1 x2 h₇ tk ⟨he₇, zn.p1, zn.p2, ⟨f1, b1, hf1, up _ _ ez.symm hz1⟩, ⟨y1, y2, up _ _ eTO.symm hy⟩, ?_, ?_, up _ _ (Nat.ne_of_gt hel) nw₁, ?_, ?_⟩⟩))
  · exact D1.frame _ _ _ zn.s1 fun c hc o y => up c o (fun q => ef1 (q ▸ hc)) y
  · exact D2.frame _ _ _ zn.s2 fun c hc o y => up c o (fun q => ef2 (q ▸ hc)) y
  · have hne : hp.objs.size + 1 ≠ e := Nat.ne_of_gt (Nat.lt_succ_of_lt hel)
    exact hs₇.extBut _ _ hne (hs₆.extBut _ _ hne (hs₅.extBut _ _ hne ht₄))
  · exact fun c o ce cz cT c1 c2 q => up c o ce (kp₁ c o cz cT c1 c2 q)
theorem pyNext_enum_zip {e : Addr} {old : Value} {Q : Option Value → Shared → Prop} (S : ZipSep2 z TI TO i1 i2 fp1 fp2) (D1 : Draws prog w A.in1.in1 i1 fp1 n1 P1 St1) (D2 : Draws prog w A.in1.in1 i2 fp2 n2 P2 St2) {f0 : Value} {b : Bool} (hf : Lent f0)
    (hz : IsZ s.heap z TI TO f0 b) (hTI : IsTupOf2 s.heap TI (.ref i1) (.ref i2)) (hTO : IsTupOf2 s.heap TO a1 a2) (st1 : St1 i s.heap) (st2 : St2 i s.heap) (hlt1 : i < n1) (hlt2 : i < n2)
    (he : IsEnum s.heap e z i old) (ez : e ≠ z) (eTO : e ≠ TO) (ef1 : e ∉ fp1) (ef2 : e ∉ fp2)
    (hQ : ∀ x1 x2 h' tk, EZNext s e z TI TO i1 i2 St1 St2 P1 P2 i x1 x2 h' tk → Q (some (.ref (s.heap.objs.size + 1))) { s with heap := h', toks := tk + 1 }) :
    wpAny (model prog w) A (pyNext (.ref e)) Q E s := by
  have hT : s.TypeIs (.ref e) "enumerate" := ⟨_, he, rfl⟩
  unfold pyNext
  exact wpAny_bind (wpAny_attempt (wpAny_callSpecial?_slot (name := Str.ofString "__next__") hT F.slot_enumerate_next
    (wpAny_call_entry F.slot_enumerate_next hT F.entry_enumerate_next
      (enum_zip_next S D1 D2 hf hz hTI hTO st1 st2 hlt1 hlt2 he ez eTO ef1 ef2 fun x1 x2 h' tk zn => wpAny_pure (hQ x1 x2 h' tk zn)) (F.args_enumerate_next_1 _))))
theorem pyNext_enum_zip_end {e : Addr} {old : Value} {iv : Int} {Q : Option Value → Shared → Prop} (S : ZipSep2 z TI TO i1 i2 fp1 fp2) (D1 : Draws prog w A.in1.in1 i1 fp1 n1 P1 St1) (D2 : Draws prog w A.in1.in1 i2 fp2 n2 P2 St2) {f0 : Value} {b : Bool} (hf : Lent f0)
    (hz : IsZ s.heap z TI TO f0 b) (hTI : IsTupOf2 s.heap TI (.ref i1) (.ref i2)) (hTO : IsTupOf2 s.heap TO a1 a2) (st1 : St1 i s.heap) (st2 : St2 i s.heap) (hle1 : i ≤ n1) (hle2 : i ≤ n2) (hend : i = n1 ∨ i = n2)
    (he : IsEnum s.heap e z iv old)
    (hQ : ∀ h' tk, (∀ c o, c ≠ z → c ≠ TO → c ≠ i1 → c ≠ i2 → s.heap.get? c = some o → h'.get? c = some o) → Q none { s with heap := h', toks := tk }) : wpAny (model prog w) A (pyNext (.ref e)) Q E s := by
  have hT : s.TypeIs (.ref e) "enumerate" := ⟨_, he, rfl⟩
  unfold pyNext
  refine wpAny_bind (wpAny_attempt (wpAny_callSpecial?_slot (name := Str.ofString "__next__") hT F.slot_enumerate_next
    (wpAny_call_entry F.slot_enumerate_next hT F.entry_enumerate_next ?_ (F.args_enumerate_next_1 _))))
  show wpAny _ _ (field (.ref e) 2 >>= _) _ _ _
  refine wpAny_bind (wpAny_field he rfl (x := .ref z) rfl ?_)
  refine wpAny_bind (nextOf_zip_end S D1 D2 hf hz hTI hTO st1 st2 hle1 hle2 hend fun h' tk x kp hx' => ?_)
  obtain ⟨o, ho, hc⟩ := hx'
  refine wpAny_bind (wpAny_isInstance (T := "StopIteration") (b := true) ⟨o, ho, hc⟩ isSubtype_stop ?_)
  exact wpAny_pure (hQ _ _ kp)
end
section
variable {X : Cx} {pins : List (Addr × Obj)} {σ : L2.St} {H : Hp} {s : Shared}
/-- two new objects of a step -/
theorem turnedNew2 {t' : Nat} {h' : Heap} {ch : List Addr} {T U : Addr} {ob ob2 : HO} (I : Inv X pins σ H s) (k : ∀ b o, b ∉ ch → s.heap.get? b = some o → h'.get? b = some o) (hf : ∀ b ∈ ch, FpOk X pins H b) (hT : s.heap.objs.size ≤ T) (hU : s.heap.objs.size ≤ U) (hTU : T ≠ U)
    (new : ObjOk X.prog X.w (upd (upd H T ob) U ob2) h' T ob) (new2 : ObjOk X.prog X.w (upd (upd H T ob) U ob2) h' U ob2) : Inv X pins σ (upd (upd H T ob) U ob2) { s with heap := h', toks := t' } := by
  have hn : H T = none := I.hok.fresh hT
  have hn2 : H U = none := I.hok.fresh hU
  have nit : ∀ b u, H b = some u → b ∉ ch := fun b u e z => by
    have q := (hf b z).1
    rw [q] at e; cases e
  have old : ∀ b, (∃ u, H b = some u) → upd (upd H T ob) U ob2 b = H b := fun b ⟨u, e⟩ => by
    rw [upd_ne (ne_of_none e hn2), upd_ne (ne_of_none e hn)]
  refine I.step (g' := s.gens) (d' := s.drawn) (ch := ch) (fun b hb => ⟨(hf b hb).2.2.2.1, (hf b hb).2.1, (hf b hb).2.2.2.2.1, (hf b hb).2.2.2.2.2⟩) (fun b o _ _ hc e _ => k b o hc e) (fun b o _ _ hc e _ => ⟨o.slots, k b o hc e⟩)
    (fun b o _ e n => ?_) (fun b o hc e => ⟨o, k b o hc e⟩) (fun b xs e => ?_) (fun b o u e => ?_) (fun b ps e => ⟨#[], ?_⟩) (fun m hm => ?_) (fun b u e => ?_) I.bare
  · have hb := Heap.lt_size e
    rw [upd_ne (Nat.ne_of_lt (Nat.lt_of_lt_of_le hb hU)), upd_ne (Nat.ne_of_lt (Nat.lt_of_lt_of_le hb hT))]; exact n
  · rw [old b ⟨_, e⟩]; exact e
  · rw [old b ⟨_, e⟩]; exact e
  · rw [old b ⟨_, e⟩, e]; simp
  · obtain ⟨o, es, ep, ho, r⟩ := hm
    exact ⟨o, es, ep, k _ o (fun z => (hf _ z).2.1 rfl) ho, r⟩
  · by_cases hb : b = U
    · subst hb
      rw [upd_same] at e
      cases e
      exact new2
    · by_cases hb2 : b = T
      · subst hb2
        rw [upd_ne hb, upd_same] at e
        cases e
        exact new
      · rw [upd_ne hb, upd_ne hb2] at e
        refine (I.hok b u e).stay (fun c v hc q => k c v ?_ q) (fun c q => by rw [old c ⟨_, q⟩]; exact q) fun c xs q => by rw [old c ⟨_, q⟩]; exact q
        rcases hc with z | z
        · rw [z]; exact nit b u e
        · exact nit c _ z
theorem draws_sep {P : Program} {w : World} {A : Around} {it N : Addr} {fp : List Addr} {n : Nat} {Pv : Nat → Value → Prop} {St : Nat → Heap → Prop} (D : Draws P w A it fp n Pv St) (h : ∀ b ∈ fp, b = it ∨ b < N) : ∃ fp', (∀ b ∈ fp', b < N) ∧ Draws P w A it (it :: fp') n Pv St := by
  refine ⟨fp.filter fun b => decide (b ≠ it), fun b hb => ?_, ⟨D.live, fun i h0 h1 st k => D.frame i h0 h1 st fun b hb o e => ?_, D.item, D.done⟩⟩
  · obtain ⟨h1, h2⟩ := List.mem_filter.mp hb
    exact (h b h1).resolve_left (of_decide_eq_true h2)
  · by_cases q : b = it
    · exact k b (by rw [q]; exact List.mem_cons_self) o e
    · exact k b (List.mem_cons_of_mem _ (List.mem_filter.mpr ⟨hb, decide_eq_true q⟩)) o e
def ItEZ (K : PySem.W.Frag) (v1 v2 : Value) (T1 T2 : String) (xs ys : List V) : It :=
  ⟨fun i H => SqV K H v1 T1 xs ∧ SqV K H v2 T2 ys ∧ i < xs.length ∧ i < ys.length,
    fun i H u H' => ∃ (p q : Addr) (o : Obj) (x y : V), u = .ref q ∧ H p = none ∧ H q = none ∧ p ≠ q ∧ o.dict = none ∧ H' = upd (upd H p (.frz o (.tup [x, y]))) q (.tup [.int (i : Nat), .ref p]) ∧ xs[i]? = some x ∧ ys[i]? = some y,
    fun i H => SqV K H v1 T1 xs ∧ SqV K H v2 T2 ys ∧ i ≤ xs.length ∧ i ≤ ys.length ∧ (i = xs.length ∨ i = ys.length)⟩
/-- where the cells lie -/
structure EZAt (h : Heap) (e z TI TO i1 i2 : Addr) (T1 T2 : String) (v1 v2 : Value) (i : Nat) : Prop where
  en : ∃ old, IsEnum h e z ((i : Nat) : Int) old
  zz : ∃ f0 b, Lent f0 ∧ IsZ h z TI TO f0 b
  ti : IsTupOf2 h TI (.ref i1) (.ref i2)
  to : ∃ y1 y2, IsTupOf2 h TO y1 y2
  a1 : IsIt h i1 T1 v1 i
  a2 : IsIt h i2 T2 v2 i
theorem turn_ez {P : Program} {w : World} {K : PySem.W.Frag} {elts : List Expr} {kk : Nat} {tpos : Pos} {v1 v2 : Value} {T1 T2 : String} {xs ys : List V} {N : Addr} (b1 : ∀ a, v1 = .ref a → a < N) (b2 : ∀ a, v2 = .ref a → a < N) :
    Turn P w K (.Tuple elts kk tpos) (ItEZ K v1 v2 T1 T2 xs ys) [N + 5, N + 4, N + 2, N + 3, N, N + 1] (N + 5) (fun i h => EZAt h (N + 5) (N + 4) (N + 2) (N + 3) N (N + 1) T1 T2 v1 v2 i) where
  mem := by simp
  obj := fun i h st c hc => by
    obtain ⟨⟨old, he⟩, ⟨f0, b, _, hz⟩, hTI, ⟨x, y, hTO⟩, ⟨o1, e1, _, d1⟩, ⟨o2, e2, _, d2⟩⟩ := st
    have e' : c = N + 5 ∨ c = N + 4 ∨ c = N + 2 ∨ c = N + 3 ∨ c = N ∨ c = N + 1 := by simpa using hc
    rcases e' with q | q | q | q | q | q
    · rw [q]; exact ⟨_, he, fun v q => nomatch q⟩
    · rw [q]; exact ⟨_, hz, fun v q => nomatch q⟩
    · rw [q]; exact ⟨_, hTI, fun v q => nomatch q⟩
    · rw [q]; exact ⟨_, hTO, fun v q => nomatch q⟩
    · rw [q]; exact ⟨o1, e1, fun v q => by rw [d1] at q; cases q⟩
    · rw [q]; exact ⟨o2, e2, fun v q => by rw [d2] at q; cases q⟩
  keep := fun i h h' st k => by
    obtain ⟨⟨old, he⟩, ⟨f0, b, hf, hz⟩, hTI, ⟨x, y, hTO⟩, h1, h2⟩ := st
    exact ⟨⟨old, k _ (by simp) _ he⟩, ⟨f0, b, hf, k _ (by simp) _ hz⟩, k _ (by simp) _ hTI, ⟨x, y, k _ (by simp) _ hTO⟩, h1.at fun o q => k N (by simp) o q, h2.at fun o q => k (N + 1) (by simp) o q⟩
  item := by
    intro X hP hw hK hc i pins s σ H E I hf st hg
    subst hP hw hK
    obtain ⟨⟨old, he⟩, ⟨f0, b, hL, hz⟩, hTI, ⟨x0, y0, hTO⟩, hi1, hi2⟩ := st
    obtain ⟨hq1, hq2, hl1, hl2⟩ := hg
    have hh : X.A.in1.in1.handled = none := I.ok.hd hc
    have nn : ∀ {a b : Nat}, a < b → ¬ (show Addr from a) = (show Addr from b) := fun h e => absurd e (Nat.ne_of_lt h)
    obtain ⟨fp1, Pv1, St1, D1, c1, c2, c3, c4⟩ := draws_of (A := X.A.in1.in1) (it := N) I hh hq1 fun a ea => Nat.ne_of_lt (b1 a ea)
    obtain ⟨fp2, Pv2, St2, D2, g1, g2, g3, g4⟩ := draws_of (A := X.A.in1.in1) (it := N + 1) I hh hq2 fun a ea => Nat.ne_of_lt (Nat.lt_succ_of_lt (b2 a ea))
    obtain ⟨f1, z1, E1⟩ := draws_sep (N := N) D1 fun b hb => (c4 b hb).imp id fun e => b1 b e
    obtain ⟨f2, z2, E2⟩ := draws_sep (N := N) D2 fun b hb => (g4 b hb).imp id fun e => b2 b e
    have S := zip_sep2 z1 z2
    have ne : ∀ {a b : Nat}, a ≠ b → (show Addr from a) ≠ (show Addr from b) := fun h => h
    have nf1 : (show Addr from N + 5) ∉ N :: f1 := fun z => by
      rcases List.mem_cons.mp z with q | q
      · exact absurd q (ne (by omega))
      · exact absurd (Nat.lt_of_le_of_lt (Nat.le_add_right N 5) (z1 _ q)) (Nat.lt_irrefl N)
    have nf2 : (show Addr from N + 5) ∉ (N + 1) :: f2 := fun z => by
      rcases List.mem_cons.mp z with q | q
      · exact absurd q (ne (by omega))
      · exact absurd (Nat.lt_of_le_of_lt (Nat.le_add_right N 5) (z2 _ q)) (Nat.lt_irrefl N)
    refine pyNext_enum_zip S E1 E2 hL hz hTI hTO (c1 i hi1) (g1 i hi2) hl1 hl2 he (ne (by omega)) (ne (by omega)) nf1 nf2 fun x1 x2 h' tk zn => ?_
    have hel : N + 5 < s.heap.objs.size := Heap.lt_size he
    refine ⟨_, rfl, wpAny_letOwnedTupleGo_enum (s := { s with heap := h', toks := tk + 1 }) zn.en fun h'' he' sb => ?_⟩
    obtain ⟨x, hx, rx⟩ := c3 i x1 zn.p1
    obtain ⟨y, hy, ry⟩ := g3 i x2 zn.p2
    have keep : ∀ c o, c ≠ N + 5 → h'.get? c = some o → h''.get? c = some o := fun c o hc q => (sb.2 c hc).trans q
    have hp2 : h''.get? s.heap.objs.size = some { cls := .type "tuple", data := .seq #[x1, x2] } := keep _ _ (Nat.ne_of_gt hel) zn.nw
    have hq2 : h''.get? (s.heap.objs.size + 1) = some { cls := .type "tuple", data := .seq #[.int i tk, .ref s.heap.objs.size] } := keep _ _ (Nat.ne_of_gt (Nat.lt_succ_of_lt hel)) zn.ow
    have new : ObjOk X.prog X.w (upd (upd H s.heap.objs.size (.frz { cls := .type "tuple", data := .seq #[x1, x2] } (.tup [x, y]))) (s.heap.objs.size + 1) (.tup [.int (i : Nat), .ref s.heap.objs.size])) h'' s.heap.objs.size (.frz { cls := .type "tuple", data := .seq #[x1, x2] } (.tup [x, y])) :=
      ⟨hp2, by show 2 ≤ sizeLine; decide, [x1, x2], .cons rx (.cons ry .nil), ⟨_, hp2, rfl, _, rfl⟩⟩
    have new2 : ObjOk X.prog X.w (upd (upd H s.heap.objs.size (.frz { cls := .type "tuple", data := .seq #[x1, x2] } (.tup [x, y]))) (s.heap.objs.size + 1) (.tup [.int (i : Nat), .ref s.heap.objs.size])) h'' (s.heap.objs.size + 1) (.tup [.int (i : Nat), .ref s.heap.objs.size]) :=
      ⟨by show 2 ≤ sizeLine; decide, [.int i tk, .ref s.heap.objs.size], .cons ⟨_, rfl⟩ (.cons rfl .nil), ⟨_, hq2, rfl, _, rfl⟩⟩
    have I1 := turnedNew2 (t' := tk + 1) (h' := h'') (ch := [N + 5, N + 4, N + 2, N + 3, N, N + 1]) I (fun c o hb q => keep c o (fun e => hb (by simp [e])) (zn.kp c o (fun e => hb (by simp [e])) (fun e => hb (by simp [e])) (fun e => hb (by simp [e])) (fun e => hb (by simp [e])) (fun e => hb (by simp [e])) q)) hf (Nat.le_refl _) (Nat.le_succ _) (Nat.ne_of_lt (Nat.lt_succ_self _)) new new2
    obtain ⟨f0', b', hL', hz'⟩ := zn.zz
    obtain ⟨y1, y2, hTO'⟩ := zn.to
    refine ⟨.ref (s.heap.objs.size + 1), _, I1, rfl, ⟨s.heap.objs.size, s.heap.objs.size + 1, _, x, y, rfl, I.hok.fresh (Nat.le_refl _), I.hok.fresh (Nat.le_succ _), Nat.ne_of_lt (Nat.lt_succ_self _), rfl, rfl, hx, hy⟩, ⟨⟨.ref s.heap.objs.size, ?_⟩, ⟨f0', b', hL', keep _ _ (ne (by omega)) hz'⟩, keep _ _ (ne (by omega)) ?_, ⟨y1, y2, keep _ _ (ne (by omega)) hTO'⟩, ?_, ?_⟩, fun c hcm => ?_⟩
    · have e1 : ((i + 1 : Nat) : Int) = (i : Int) + 1 := by omega
      rw [e1]; exact he'
    · exact zn.kp _ _ (ne (by omega)) (ne (by omega)) (ne (by omega)) (ne (by omega)) (ne (by omega)) hTI
    · exact (c2 _ _ zn.s1).at fun o q => keep N o (ne (by omega)) q
    · exact (g2 _ _ zn.s2).at fun o q => keep (N + 1) o (ne (by omega)) q
    · have hlt : c < s.heap.objs.size := by
        have e' : c = N + 5 ∨ c = N + 4 ∨ c = N + 2 ∨ c = N + 3 ∨ c = N ∨ c = N + 1 := by simpa using hcm
        have le : ∀ {a b : Nat}, a ≤ b → (show Addr from a) ≤ (show Addr from b) := fun h => h
        have hle : c ≤ N + 5 := by rcases e' with q | q | q | q | q | q <;> rw [q] <;> exact le (by omega)
        exact Nat.lt_of_le_of_lt hle hel
      rw [upd_ne (Nat.ne_of_lt (Nat.lt_succ_of_lt hlt)), upd_ne (Nat.ne_of_lt hlt)]
      exact (hf c hcm).1
  done := by
    intro X hP hw hK hc i pins s σ H E I hf st hg
    subst hP hw hK
    obtain ⟨⟨old, he⟩, ⟨f0, b, hL, hz⟩, hTI, ⟨x0, y0, hTO⟩, hi1, hi2⟩ := st
    obtain ⟨hq1, hq2, hl1, hl2, hend⟩ := hg
    have hh : X.A.in1.in1.handled = none := I.ok.hd hc
    obtain ⟨fp1, Pv1, St1, D1, c1, c2, c3, c4⟩ := draws_of (A := X.A.in1.in1) (it := N) I hh hq1 fun a ea => Nat.ne_of_lt (b1 a ea)
    obtain ⟨fp2, Pv2, St2, D2, g1, g2, g3, g4⟩ := draws_of (A := X.A.in1.in1) (it := N + 1) I hh hq2 fun a ea => Nat.ne_of_lt (Nat.lt_succ_of_lt (b2 a ea))
    obtain ⟨f1, z1, E1⟩ := draws_sep (N := N) D1 fun b hb => (c4 b hb).imp id fun e => b1 b e
    obtain ⟨f2, z2, E2⟩ := draws_sep (N := N) D2 fun b hb => (g4 b hb).imp id fun e => b2 b e
    exact pyNext_enum_zip_end (zip_sep2 z1 z2) E1 E2 hL hz hTI hTO (c1 i hi1) (g1 i hi2) hl1 hl2 hend he fun h' tk hk => ⟨rfl, I.turnedL (t' := tk) (ch := [N + 5, N + 4, N + 2, N + 3, N, N + 1]) (fun c o hb q =>
      hk c o (fun q' => hb (by simp [q'])) (fun q' => hb (by simp [q'])) (fun q' => hb (by simp [q'])) (fun q' => hb (by simp [q'])) q) hf⟩
  self := fun A i s Q E st h => let ⟨_, he⟩ := st.en; wpAny_pyIter_enum he h
theorem meets_enumZ (z TI TO : Addr) :
    Meets (Builtin.«enumerate.__new__» ⟨[.type "enumerate", .ref z], []⟩) (fun _ R s => IsZip s.heap z TI TO .none ∧
      R (.ok (.ret (.ref s.heap.objs.size))) { s with heap := s.heap.push { cls := .type "enumerate", data := .fields #[.none, .bool false, .ref z, rawInt 0, .none, .none] } }) :=
  .of_wp fun prog w A R s h => by
    obtain ⟨hp, g, d, tk, os⟩ := s; obtain ⟨hz, h⟩ := h
    have hsub := sub_enumerate
    have hL : ∀ {A' : Around} {E' Q' : Value → Shared → Prop}, Q' (.ref z) ⟨hp, g, d, tk, os⟩ → wpAny (model prog w) A' (pyIter (.ref z)) Q' E' ⟨hp, g, d, tk, os⟩ := fun {A' E' Q'} q => wpAny_pyIter_zip (s := ⟨hp, g, d, tk, os⟩) hz q
    wp_walk
    refine wpAny_stack_any fun st => wpAny_pure ?_
    split
    · rename_i c _ _ _ _ _
      cases (c == Value.type "enumerate")
      · wp_walk using hL
        exact ⟨_, rfl, h⟩
      · wp_walk using hL
        exact ⟨_, rfl, h⟩
    · wp_walk using hL
      exact ⟨_, rfl, h⟩
theorem call_enumZ {A : Around} {E Q : Value → Shared → Prop} {z TI TO : Addr} (hz : IsZip s.heap z TI TO .none)
    (h : ∀ h', IsEnum h' s.heap.objs.size z 0 .none → (∀ b o, s.heap.get? b = some o → h'.get? b = some o) → Q (.ref s.heap.objs.size) { s with heap := h' }) :
    wpAny (model X.prog X.w) A (call (.type "enumerate") [.ref z]) Q E s := by
  refine callType_new F.called_enumerate (by decide) (F.typeCall_enumerate_1 _) (F.newCall_enumerate_1 _) (fun obj => F.args_object_init_2 obj _) F.entry_enumerate_new
    (meets_enumZ z TI TO) ⟨hz, ?_⟩
  have he : IsEnum (s.heap.push { cls := .type "enumerate", data := .fields #[.none, .bool false, .ref z, rawInt 0, .none, .none] }) s.heap.objs.size z 0 .none := Heap.get?_push_size _ rfl
  exact ⟨⟨_, he, rfl⟩, h _ he fun b o x => Heap.get?_push_of_some _ x⟩
end
def iEzV (K : PySem.W.Frag) (ta : TA) : TI := fun σ H R => ta σ H fun vs H1 => ∃ p q T1 T2 xs ys, vs = [p, q] ∧ Stays K H1 p T1 xs ∧ Stays K H1 q T2 ys ∧
  ∀ v1 v2, RelV p v1 → RelV q v2 → R (ItEZ K v1 v2 T1 T2 xs ys) H1
theorem pi_ez {X : Cx} {e e2 : Expr} {ta : TA} {p p2 pos pos2 tpos : Pos} {elts : List Expr} {kk : Nat} (hge : Gl X "enumerate") (hme : X.mg "enumerate" = none) (hg : Gl X "zip") (hm : X.mg "zip" = none) (ha : PA X [e, e2] ta)
    (hs : starEach [e, e2] X.env = (false, eval e X.env) :: starEach [e2] X.env := by rfl) (hpl : (backTo pos2 (starEach [e2] X.env)).any (·.1) = false := by rfl)
    (hse : starEach [.Call (.Name "zip" p2) [e, e2] [] pos2] X.env = (false, eval (.Call (.Name "zip" p2) [e, e2] [] pos2) X.env) :: starEach [] X.env := by rfl) :
    PI X (.Tuple elts kk tpos) (.Call (.Name "enumerate" p) [.Call (.Name "zip" p2) [e, e2] [] pos2] [] pos) (iEzV X.K ta) := by
  refine ⟨fun pins s σ H R I h => ?_⟩
  refine Call_ (ld_blt I hge hme boot_enumerate (PyProof.Rows.callWith_type1 ?_ hse rfl))
  rw [hse]
  show wpAny _ _ (spliced ((false, eval (.Call (.Name "zip" p2) [e, e2] [] pos2) X.env) :: [])) _ _ s
  refine Calls.spliced_cons ?_
  refine Call_ (ld_blt I hg hm PyProof.Rows.boot_zip (PyProof.Rows.callWith_type1 (thn (ha.run pos2 pins s σ H _ I h) fun us s1 ⟨vs, H1, I1, r1, q1⟩ => ?_) hs hpl))
  obtain ⟨p, q, T1, T2, xs, ys, ex, h1, h2, hR⟩ := q1
  subst ex
  cases r1 with
  | cons r rr =>
    cases rr with
    | cons r' rr =>
      cases rr
      have q1 := sqV_of h1 r
      have q2 := sqV_of h2 r'
      have old : ∀ {v : Value} {T : String} {xs : List V}, SqV X.K H1 v T xs → ∀ a, v = .ref a → a < s1.heap.objs.size := fun {v T xs} q a e => by
        cases q with
        | lst e2 hq => rw [e2] at e; cases e; obtain ⟨its, rv, pl, _⟩ := I1.list hq; exact pl.lt
        | tup e2 hq => rw [e2] at e; cases e; obtain ⟨its, rv, pl, _⟩ := I1.tuple hq; obtain ⟨o, ho, _⟩ := pl; exact Heap.lt_size ho
        | str e2 => rw [e2] at e; cases e
      refine call_zipV I1 q1 q2 fun h' hz hTI hTO i1 i2 hsz hk => Calls.spliced_nil ?_
      refine call_enumZ (s := { s1 with heap := h' }) hz fun h2 he hk2 => wpAny_pyIter_enum he ?_
      have hk3 : ∀ c o, s1.heap.get? c = some o → h2.get? c = some o := fun c o x => hk2 c o (hk c o x)
      have I2 : Inv X pins σ H1 { s1 with heap := h2 } := I1.kept (t' := s1.toks) hk3
      have e5 : h'.objs.size = s1.heap.objs.size + 5 := hsz
      have fresh6 : ∀ c, c ∈ [s1.heap.objs.size + 5, s1.heap.objs.size + 4, s1.heap.objs.size + 2, s1.heap.objs.size + 3, s1.heap.objs.size, s1.heap.objs.size + 1] → FpOk X pins H1 c := fun c hcm => by
        have e' : c = s1.heap.objs.size + 5 ∨ c = s1.heap.objs.size + 4 ∨ c = s1.heap.objs.size + 2 ∨ c = s1.heap.objs.size + 3 ∨ c = s1.heap.objs.size ∨ c = s1.heap.objs.size + 1 := by simpa using hcm
        have hle : s1.heap.objs.size ≤ c := by omega
        exact I1.fpOk hle (I1.hok.fresh hle)
      have he5 : IsEnum h2 (s1.heap.objs.size + 5) (s1.heap.objs.size + 4) 0 .none := by
        have := he
        rw [show ({ s1 with heap := h' } : Shared).heap.objs.size = s1.heap.objs.size + 5 from e5] at this
        exact this
      refine ⟨s1.heap.objs.size + 5, [s1.heap.objs.size + 5, s1.heap.objs.size + 4, s1.heap.objs.size + 2, s1.heap.objs.size + 3, s1.heap.objs.size, s1.heap.objs.size + 1], _, _, H1, ?_, I2, turn_ez (fun a e => old q1 a e) (fun a e => old q2 a e),
        ⟨⟨_, he5⟩, ⟨_, _, .inl rfl, hk2 _ _ hz⟩, hk2 _ _ hTI, ⟨_, _, hk2 _ _ hTO⟩, i1.at fun o x => hk2 _ _ x, i2.at fun o x => hk2 _ _ x⟩, fresh6, hR _ _ r r'⟩
      show Value.ref h'.objs.size = _
      rw [e5]
theorem src_ez {P : Par} {I : Hp} {v1 v2 : Value} {T1 T2 : String} {xs ys : List V} {ds es : List D} (h1 : SqV P.K I v1 T1 xs) (h2 : SqV P.K I v2 T2 ys) (r1 : RepL P I ds xs) (r2 : RepL P I es ys) : Src P I (ItEZ P.K v1 v2 T1 T2 xs ys) (numbered 0 ((ds.zip es).map fun p => D.tup [p.1, p.2])) := by
  have l1 := r1.length
  have l2 := r2.length
  refine ⟨fun H => SqV P.K H v1 T1 xs ∧ SqV P.K H v2 T2 ys, fun i H u H' => ∃ (p q : Addr) (o : Obj) (x y : V), u = .ref q ∧ H p = none ∧ H q = none ∧ p ≠ q ∧ o.dict = none ∧ H' = upd (upd H p (.frz o (.tup [x, y]))) q (.tup [.int (i : Nat), .ref p]) ∧ xs[i]? = some x ∧ ys[i]? = some y, ⟨fun i H hi q => ?_, fun H q => ?_, fun i H v H' hi q y => y⟩, fun H s => ⟨h1.mono s, h2.mono s⟩, fun i H x H' I1 hi s1 s2 y => ?_⟩
  · rw [numbered_len] at hi
    simp only [List.length_map, List.length_zip] at hi
    exact ⟨q.1, q.2, by omega, by omega⟩
  · rw [numbered_len]
    simp only [List.length_map, List.length_zip]
    exact ⟨q.1, q.2, by omega, by omega, by omega⟩
  · obtain ⟨p, q, o, u, w, e1, e2, e2', hpq, eo, e3, e4, e5⟩ := y
    obtain ⟨d, g1, g2⟩ := r1.got e4
    obtain ⟨e, g3, g4⟩ := r2.got e5
    subst e3
    have x1 := Ext.new s2 (.frz o (.tup [u, w])) e2
    have hq1 : upd H p (.frz o (.tup [u, w])) q = none := by rw [upd_ne (Ne.symm hpq)]; exact e2'
    have x2 := Ext.new x1.ih (.tup [.int (i : Nat), .ref p]) hq1
    have xx := x1.trans x2
    have inner : Rep P (upd (upd I1 p (.frz o (.tup [u, w]))) q (.tup [.int (i : Nat), .ref p])) (.tup [d, e]) (.ref p) :=
      ⟨p, [u, w], rfl, SqT.frz (by rw [upd_ne hpq]; exact upd_same), ⟨u, [w], rfl, g2.mono (s1.trans xx.ii), w, [], rfl, g4.mono (s1.trans xx.ii), rfl⟩, fun _ => ⟨o, _, by rw [upd_ne hpq]; exact upd_same, eo⟩⟩
    refine ⟨_, .tup [.int (i : Nat), .tup [d, e]], xx, ?_, q, [.int (i : Nat), .ref p], e1, SqT.of upd_same, ⟨_, [.ref p], rfl, rfl, .ref p, [], rfl, inner, rfl⟩, fun z => nomatch z⟩
    have z := numbered_get 0 ((ds.zip es).map fun p => D.tup [p.1, p.2]) i (.tup [d, e]) (by
      rw [List.getElem?_map, (List.getElem?_zip_eq_some (z := (d, e))).mpr ⟨g1, g3⟩]
      rfl)
    simpa using z
section
variable {X : Cx} {cl : Cls} {t : Addr} {W : WX} {a b : Expr} {elts : List Expr} {fa fb : FE} {pos pos2 : Pos}
/-- enumerate(zip(a, b)) -/
theorem di_ez {kk : Nat} {tpos p p2 : Pos} (ha : DE X cl t W a fa) (hb : DE X cl t W b fb) (hme : X.mg "enumerate" = none) (hm : X.mg "zip" = none) (hge : Gl X "enumerate" := by rfl) (hg : Gl X "zip" := by rfl)
    (he : starEach [a, b] X.env = (false, eval a X.env) :: starEach [b] X.env := by rfl) (he2 : starEach [b] X.env = (false, eval b X.env) :: starEach [] X.env := by rfl) (hpl : (backTo pos2 (starEach [b] X.env)).any (·.1) = false := by rfl)
    (hse : starEach [.Call (.Name "zip" p2) [a, b] [] pos2] X.env = (false, eval (.Call (.Name "zip" p2) [a, b] [] pos2) X.env) :: starEach [] X.env := by rfl) :
    DI X cl t W (.Tuple elts kk tpos) (.Call (.Name "enumerate" p) [.Call (.Name "zip" p2) [a, b] [] pos2] [] pos) (iEnumZip fa fb) := by
  refine ⟨_, pi_ez hge hme hg hm (pa_cons (PE.mv ha) (pa_cons (PE.mv hb) pa_nil he2) he) he hpl hse, fun I G H σ ρ Q s q => ?_⟩
  unfold iEnumZip at q
  rw [outP_bind] at q
  refine DE.keepLE (W := W) s (q.imp (fun x q I1 H1 v s1 st1 r1 => ?_) fun _ z => z)
  rw [outP_bind] at q
  refine DE.keepLE (W := W) st1 (q.imp (fun y q I2 H2 u s2 st2 r2 => ?_) fun _ z => z.mono s1)
  cases e1 : itemsOf x.1 with
  | bad => rw [e1] at q; exact q.elim
  | exc er => exact absurd e1 (by cases x.1 <;> simp [itemsOf])
  | ok ds =>
    rw [e1] at q
    simp only [Out.bind_ok] at q
    cases e2 : itemsOf y.1 with
    | bad => rw [e2] at q; exact q.elim
    | exc er => exact absurd e2 (by cases y.1 <;> simp [itemsOf])
    | ok es =>
      rw [e2] at q
      obtain ⟨T1, xs, h1, l1⟩ := stays_of (r1.mono s2) e1
      obtain ⟨T2, ys, h2, l2⟩ := stays_of r2 e2
      exact ⟨v, u, T1, T2, xs, ys, rfl, h1.mono st2.b.ih, h2.mono st2.b.ih, fun v1 v2 w1 w2 => q I2 H2 _ (s1.trans s2) st2 (src_ez (sqV_of h1 w1) (sqV_of h2 w2) l1 l2)⟩
end
end Den

namespace Den
/-! what each def does, on data -/
def B_l_cell_at : FS := (sSeq (sIf (tVal (fOp gLt (fVar 1) (fUn gLen (fVar 0)))) (sRet (fOp gIx (fVar 0) (fVar 1))) sNext) (sSeq (sIf (tVal (fOp gEq (fVar 0) (fOfN (nLst aNil)))) (sRet (fC (.int 0))) sNext) (sRet (fOp gAdd (fOp gMul (fOp gIx (fVar 0) (fOp gMod (fVar 1) (fUn gLen (fVar 0)))) (fC (.int 31))) (fVar 1)))))
def F_l_cell_at : List D → Out D := runF B_l_cell_at 0
def B_l_mixed : FS := (sSeq (sAsg (fOp gMod (fOp gAdd (fOp gAdd (fOp gMul (fCall F_l_cell_at (aCons (fVar 0) (aCons (fVar 1) aNil))) (fC (.int 1103515245))) (fOp gMul (fC (.int 7919)) (fVar 1))) (fC (.int 12345))) (fC (.int 2147483647))) (gName 3)) (sRet (fOp gMod (fOp gMod (fOp gMod (fOp gPow (fVar 3) (fC (.int 5))) (fC (.int 2147483647))) (fC (.int 999983))) (fVar 2))))
def F_l_mixed : List D → Out D := runF B_l_mixed 1
def B_l_draw : FS := (sSeq (sExpr (fMeth mAppend 1 (aCons (fC (.int 0)) aNil))) (sRet (fCall F_l_mixed (aCons (fVar 0) (aCons (fUn gLen (fVar 1)) (aCons (fVar 2) aNil))))))
def F_l_draw : D → List D → Out (D × D) := runIO B_l_draw 0
def B_l_pick : FS := (sRet (fOp gIx (fVar 2) (fCallIO F_l_draw 1 (fVar 0) (aCons (fUn gLen (fVar 2)) aNil))))
def F_l_pick : D → List D → Out (D × D) := runIO B_l_pick 0
def c_l_row_0 : FN := (nComp (iRange1 (fCallIO F_l_draw 1 (fVar 0) (aCons (fOp gAdd (fVar 2) (fC (.int 1))) aNil))) [3] (gName 3) tYes (fCallIO F_l_pick 1 (fVar 0) (aCons (fOfN (nList (fC (.str [115, 115, 115, 115, 112, 112, 108, 102])))) aNil)))
def B_l_row : FS := (sRet (fTell (tyD "str") gJoin (fC (.str [])) (aCons (fOfN c_l_row_0) aNil)))
def F_l_row : D → List D → Out (D × D) := runIO B_l_row 1
def c_l_text_0 : FN := (nComp (iRange1 (fCallIO F_l_draw 1 (fVar 0) (aCons (fOp gAdd (fVar 3) (fC (.int 1))) aNil))) [5] (gName 5) tYes (fCallIO F_l_pick 1 (fVar 0) (aCons (fVar 4) aNil)))
def B_l_text : FS := (sSeq (sAsg (fOfN (nSortSet (fOp gAdd (fOp gIx (fVar 2) (fC (.int 0))) (fOp gIx (fVar 2) (fC (.int 1)))))) (gName 4)) (sRet (fTell (tyD "str") gJoin (fC (.str [])) (aCons (fOfN c_l_text_0) aNil))))
def F_l_text : D → List D → Out (D × D) := runIO B_l_text 2
def b_l_wheel_0 : FS := (sSeq (sAsg (fOp gAdd (fVar 5) (fMeth mPop 4 (aCons (fCallIO F_l_draw 1 (fVar 0) (aCons (fUn gLen (fVar 4)) aNil)) aNil))) (gName 5)) (sKill [3]))
def B_l_wheel : FS := (sSeq (sPar [4, 5] (vNew (nList (fC (.str [97, 98, 99, 120, 121, 122, 48, 49, 57, 32, 46, 44, 45]))) (vKeep (fC (.str [])) vNil))) (sSeq (sSeq (sFor (iRange1 (fVar 2)) (gName 3) b_l_wheel_0) (sKill [3])) (sRet (fVar 5))))
def F_l_wheel : D → List D → Out (D × D) := runIO B_l_wheel 3
def B_l_wheels : FS := (sSeq (sAsg (fOp gAdd (fC (.int 2)) (fCallIO F_l_draw 1 (fVar 0) (aCons (fOp gSub (fVar 2) (fC (.int 1))) aNil))) (gName 3)) (sRet (fTup (aCons (fCallIO F_l_wheel 1 (fVar 0) (aCons (fVar 3) aNil)) (aCons (fCallIO F_l_wheel 1 (fVar 0) (aCons (fVar 3) aNil)) (aCons (fOp gAdd (fC (.int 1)) (fCallIO F_l_draw 1 (fVar 0) (aCons (fC (.int 3)) aNil))) aNil))))))
def F_l_wheels : D → List D → Out (D × D) := runIO B_l_wheels 1
def c_is_row_0 : FN := (nComp (iSeq (fVar 0)) [2] (gName 2) tYes (fOp gIn (fVar 2) (fC (.str [115, 112, 108, 102]))))
def B_is_row : FS := (sRet (fAnd (fUn (gIsi .str) (fVar 0)) (fAnd (fOp gLe (fUn gLen (fVar 0)) (fVar 1)) (fUn gAll (fOfN c_is_row_0)))))
def F_is_row : List D → Out D := runF B_is_row 1
def B_need_row : FS := (sIf (tNot (tVal (fCall F_is_row (aCons (fVar 0) (aCons (fVar 1) aNil))))) (sRaise .row) sNext)
def F_need_row : List D → Out D := runF B_need_row 0
def c_are_signs_0 : FN := (nComp (iSeq (fVar 0)) [3] (gName 3) tYes (fOp gIn (fVar 3) (fC (.str [97, 98, 99, 100, 101, 102, 103, 104, 105, 106, 107, 108, 109, 110, 111, 112, 113, 114, 115, 116, 117, 118, 119, 120, 121, 122, 48, 49, 50, 51, 52, 53, 54, 55, 56, 57, 32, 46, 44, 45]))))
def B_are_signs : FS := (sRet (fAnd (fUn (gIsi .str) (fVar 0)) (fAnd (fChain gLe gLe (fVar 1) (fUn gLen (fVar 0)) (fVar 2)) (fUn gAll (fOfN c_are_signs_0)))))
def F_are_signs : List D → Out D := runF B_are_signs 1
def B_is_wheel : FS := (sRet (fAnd (fCall F_are_signs (aCons (fVar 0) (aCons (fC (.int 2)) (aCons (fC (.int 30)) aNil)))) (fOp gEq (fUn gLenSet (fVar 0)) (fUn gLen (fVar 0)))))
def F_is_wheel : List D → Out D := runF B_is_wheel 0
def B_is_whole : FS := (sRet (fAnd (fUn (gIsi .int) (fVar 0)) (fAnd (fNot (fUn (gIsi .bool) (fVar 0))) (fChain gLe gLe (fVar 1) (fVar 0) (fVar 2)))))
def F_is_whole : List D → Out D := runF B_is_whole 0
def B_is_wheels : FS := (sSeq (sIf (tOr (tNot (tVal (fUn (gIsi .tuple) (fVar 0)))) (tOr (tVal (fOp gNe (fUn gLen (fVar 0)) (fC (.int 3)))) (tOr (tNot (tVal (fCall F_is_wheel (aCons (fOp gIx (fVar 0) (fC (.int 0))) aNil)))) (tNot (tVal (fCall F_is_wheel (aCons (fOp gIx (fVar 0) (fC (.int 1))) aNil))))))) (sRet (fC (.bl false))) sNext) (sRet (fAnd (fOp gEq (fUn gLen (fOp gIx (fVar 0) (fC (.int 0)))) (fUn gLen (fOp gIx (fVar 0) (fC (.int 1))))) (fCall F_is_whole (aCons (fOp gIx (fVar 0) (fC (.int 2))) (aCons (fC (.int 1)) (aCons (fC (.int 3)) aNil)))))))
def F_is_wheels : List D → Out D := runF B_is_wheels 0
def B_need_wheels : FS := (sIf (tNot (tVal (fCall F_is_wheels (aCons (fVar 0) aNil)))) (sRaise .wheels) sNext)
def F_need_wheels : List D → Out D := runF B_need_wheels 0
def B_need_both : FS := (sSeq (sExpr (fCall F_need_wheels (aCons (fVar 0) aNil))) (sExpr (fCall F_need_row (aCons (fVar 1) (aCons (fC (.int 60)) aNil)))))
def F_need_both : List D → Out D := runF B_need_both 0
def B_places_of : FS := (sRet (fUn gLen (fOp gIx (fVar 0) (fC (.int 0)))))
def F_places_of : List D → Out D := runF B_places_of 0
def B_is_caught : FS := (sRet (fAnd (fOp gEq (fOp gIx (fVar 1) (fC (.int 0))) (fC (.int 0))) (fOp gGe (fOp gIx (fVar 1) (fC (.int 2))) (fOp gMul (fCall F_places_of (aCons (fVar 0) aNil)) (fOp gIx (fVar 0) (fC (.int 2)))))))
def F_is_caught : List D → Out D := runF B_is_caught 0
def B_pulsed : FS := (sSeq (sAsg (fVar 1) (gTup (gsCons (gName 3) (gsCons (gName 4) (gsCons (gName 5) gsNil))))) (sSeq (sIf (tVal (fOp gEq (fVar 2) (fC (.str [115])))) (sSeq (sIf (tVal (fCall F_is_caught (aCons (fVar 0) (aCons (fVar 1) aNil)))) (sRet (fTup (aCons (fVar 1) (aCons (fC (.str [])) aNil)))) sNext) (sRet (fTup (aCons (fTup (aCons (fOp gMod (fOp gAdd (fVar 3) (fC (.int 1))) (fCall F_places_of (aCons (fVar 0) aNil))) (aCons (fVar 4) (aCons (fOp gAdd (fVar 5) (fC (.int 1))) aNil)))) (aCons (fC (.str [])) aNil))))) sNext) (sSeq (sIf (tVal (fOp gEq (fVar 2) (fC (.str [112])))) (sRet (fTup (aCons (fTup (aCons (fVar 3) (aCons (fVar 4) (aCons (fC (.int 0)) aNil)))) (aCons (fOp gIx (fOp gIx (fVar 0) (fIf (tVal (fOp gEq (fVar 4) (fC (.str [108])))) (fC (.int 0)) (fC (.int 1)))) (fVar 3)) aNil)))) sNext) (sRet (fTup (aCons (fTup (aCons (fVar 3) (aCons (fVar 2) (aCons (fC (.int 0)) aNil)))) (aCons (fC (.str [])) aNil)))))))
def F_pulsed : List D → Out D := runF B_pulsed 3
def b_rowed_0 : FS := (sSeq (sAsg (fCall F_pulsed (aCons (fVar 0) (aCons (fVar 1) (aCons (fVar 4) aNil)))) (gTup (gsCons (gName 1) (gsCons (gName 5) gsNil)))) (sSeq (sAsg (fOp gAdd (fVar 3) (fVar 5)) (gName 3)) (sKill [4, 5])))
def B_rowed : FS := (sSeq (sAsg (fC (.str [])) (gName 3)) (sSeq (sSeq (sFor (iSeq (fVar 2)) (gName 4) b_rowed_0) (sKill [4, 5])) (sRet (fTup (aCons (fVar 1) (aCons (fVar 3) aNil))))))
def F_rowed : List D → Out D := runF B_rowed 3
def b_caught_at_0 : FS := (sSeq (sAsg (fOp gIx (fCall F_rowed (aCons (fVar 0) (aCons (fC (.tup [.int 0, .str [108], .int 0])) (aCons (fSl (fVar 1) oNone (oSome (fVar 3))) aNil)))) (fC (.int 0))) (gName 4)) (sSeq (sIf (tAnd (tVal (fOp gEq (fOp gIx (fVar 1) (fVar 3)) (fC (.str [115])))) (tVal (fOp gEq (fOp gIx (fCall F_rowed (aCons (fVar 0) (aCons (fC (.tup [.int 0, .str [108], .int 0])) (aCons (fSl (fVar 1) oNone (oSome (fOp gAdd (fVar 3) (fC (.int 1))))) aNil)))) (fC (.int 0))) (fVar 4)))) (sExpr (fMeth mAppend 2 (aCons (fVar 3) aNil))) sNext) (sKill [3, 4])))
def B_caught_at : FS := (sSeq (sExpr (fCall F_need_both (aCons (fVar 0) (aCons (fVar 1) aNil)))) (sSeq (sNew (nLst aNil) 2) (sSeq (sSeq (sFor (iRange1 (fUn gLen (fVar 1))) (gName 3) b_caught_at_0) (sKill [3, 4])) (sRet (fVar 2)))))
def F_caught_at : List D → Out D := runF B_caught_at 3
def c_slipped_0 : FN := (nComp (iZip (fVar 0) (fVar 3)) [5, 6] (gTup (gsCons (gName 5) (gsCons (gName 6) gsNil))) tYes (fOp gMul (fVar 5) (fVar 6)))
def c_slipped_1 : FN := (nComp (iRange1 (fUn gLen (fVar 0))) [4] (gName 4) tYes (fGet2 (fOfN (nDict (aCons (fC (.str [108, 111, 115, 116])) (aCons (fC (.int 0)) (aCons (fC (.str [116, 119, 105, 99, 101])) (aCons (fC (.int 2)) aNil)))))) (fGet1 (fVar 2) (fVar 4)) (fC (.int 1))))
def B_slipped : FS := (sSeq (sAsg (fOfN (nDictOf (fVar 1))) (gName 2)) (sSeq (sNew c_slipped_1 3) (sRet (fTell (tyD "str") gJoin (fC (.str [])) (aCons (fOfN c_slipped_0) aNil)))))
def F_slipped : List D → Out D := runF B_slipped 5
def c_harm_of_0 : FN := (nComp (iEnumZip (fVar 3) (fVar 4)) [6, 7, 8] (gTup (gsCons (gName 6) (gsCons (gTup (gsCons (gName 7) (gsCons (gName 8) gsNil))) gsNil))) (tVal (fOp gNe (fVar 7) (fVar 8))) (fVar 6))
def B_harm_of : FS := (sSeq (sAsg (fOp gIx (fCall F_rowed (aCons (fVar 0) (aCons (fC (.tup [.int 0, .str [108], .int 0])) (aCons (fVar 1) aNil)))) (fC (.int 1))) (gName 3)) (sSeq (sAsg (fOp gIx (fCall F_rowed (aCons (fVar 0) (aCons (fC (.tup [.int 0, .str [108], .int 0])) (aCons (fCall F_slipped (aCons (fVar 1) (aCons (fTup (aCons (fVar 2) aNil)) aNil))) aNil)))) (fC (.int 1))) (gName 4)) (sSeq (sAsg (fUn gLen (fOfN c_harm_of_0)) (gName 5)) (sRet (fOp gAdd (fVar 5) (fUn gAbs (fOp gSub (fUn gLen (fVar 3)) (fUn gLen (fVar 4)))))))))
def F_harm_of : List D → Out D := runF B_harm_of 6
def B_is_slip : FS := (sSeq (sIf (tOr (tNot (tVal (fUn (gIsi .tuple) (fVar 0)))) (tOr (tVal (fOp gNe (fUn gLen (fVar 0)) (fC (.int 2)))) (tNot (tVal (fCall F_is_whole (aCons (fOp gIx (fVar 0) (fC (.int 0))) (aCons (fC (.int 0)) (aCons (fOp gSub (fVar 1) (fC (.int 1))) aNil)))))))) (sRet (fC (.bl false))) sNext) (sRet (fAnd (fUn (gIsi .str) (fOp gIx (fVar 0) (fC (.int 1)))) (fOp gIn (fOp gIx (fVar 0) (fC (.int 1))) (fC (.tup [.str [108, 111, 115, 116], .str [116, 119, 105, 99, 101]]))))))
def F_is_slip : List D → Out D := runF B_is_slip 0
def B_harm : FS := (sSeq (sExpr (fCall F_need_wheels (aCons (fVar 0) aNil))) (sSeq (sExpr (fCall F_need_row (aCons (fVar 1) (aCons (fC (.int 400)) aNil)))) (sSeq (sIf (tNot (tVal (fCall F_is_slip (aCons (fVar 2) (aCons (fUn gLen (fVar 1)) aNil))))) (sRaise .slips) sNext) (sRet (fCall F_harm_of (aCons (fVar 0) (aCons (fVar 1) (aCons (fVar 2) aNil))))))))
def F_harm : List D → Out D := runF B_harm 0
def c_spots_of_0 : FN := (nComp (iZip (fSl (fVar 0) oNone (oSome (fC (.int 2)))) (fTup (aCons (fC (.str [108])) (aCons (fC (.str [102])) aNil)))) [2, 3] (gTup (gsCons (gName 2) (gsCons (gName 3) gsNil))) (tVal (fOp gIn (fVar 1) (fVar 2))) (fTup (aCons (fTell (tyD "str") gSIndex (fVar 2) (aCons (fVar 1) aNil)) (aCons (fVar 3) aNil))))
def B_spots_of : FS := (sRet (fOfN c_spots_of_0))
def F_spots_of : List D → Out D := runF B_spots_of 2
def B_step_row : FS := (sSeq (sAsg (fOp gMod (fOp gSub (fOp gIx (fVar 2) (fC (.int 0))) (fOp gIx (fVar 1) (fC (.int 0)))) (fCall F_places_of (aCons (fVar 0) aNil))) (gName 3)) (sRet (fOp gAdd (fOp gAdd (fOp gMul (fC (.str [115])) (fVar 3)) (fOp gMul (fOp gIx (fVar 2) (fC (.int 1))) (fUn gIntX (fOp gNe (fOp gIx (fVar 1) (fC (.int 1))) (fOp gIx (fVar 2) (fC (.int 1))))))) (fC (.str [112])))))
def F_step_row : List D → Out D := runF B_step_row 1
def c_least_row_0 : FN := (nComp (iValsD (fVar 2)) [8] (gName 8) tYes (fTup (aCons (fUn gLen (fVar 8)) (aCons (fVar 8) aNil))))
def c_least_row_1 : FN := (nComp (iSeq (fVar 6)) [8] (gName 8) tYes (fTup (aCons (fUn gLen (fVar 8)) (aCons (fVar 8) aNil))))
def c_least_row_2 : FN := (nComp (iKeysD (fVar 2)) [7] (gName 7) tYes (fOp gAdd (fOp gIxD (fVar 2) (fVar 7)) (fCall F_step_row (aCons (fVar 0) (aCons (fVar 7) (aCons (fVar 5) aNil))))))
def b_least_row_0 : FS := (sSeq (sNew c_least_row_2 6) (sSeq (sPutN 4 (fVar 5) (fOp gIx (fUn gMinD (fOfN c_least_row_1)) (fC (.int 1)))) (sKill [5, 6, 7, 8])))
def b_least_row_1 : FS := (sSeq (sNew nDictN0 4) (sSeq (sKill [1, 5, 6]) (sSeq (sSeq (sFor (iSeq (fCall F_spots_of (aCons (fVar 0) (aCons (fVar 3) aNil)))) (gName 5) b_least_row_0) (sKill [5, 6, 7, 8])) (sSeq (sAsg (fVar 4) (gName 2)) (sKill [3, 4, 5, 6, 7, 8])))))
def B_least_row : FS := (sSeq (sAsg (fOfN (nDictN1 (fSl (fC (.tup [.int 0, .str [108], .int 0])) oNone (oSome (fC (.int 2)))) (fC (.str [])))) (gName 2)) (sSeq (sSeq (sFor (iSeq (fVar 1)) (gName 3) b_least_row_1) (sKill [3, 4, 5, 6, 7, 8])) (sRet (fOp gIx (fUn gMinD (fOfN c_least_row_0)) (fC (.int 1))))))
def F_least_row : List D → Out D := runF B_least_row 7
def c_need_text_0 : FN := (nComp (iSeq (fVar 1)) [3] (gName 3) tYes (fOp gIn (fVar 3) (fOp gAdd (fOp gIx (fVar 0) (fC (.int 0))) (fOp gIx (fVar 0) (fC (.int 1))))))
def B_need_text : FS := (sSeq (sExpr (fCall F_need_wheels (aCons (fVar 0) aNil))) (sIf (tOr (tNot (tVal (fCall F_are_signs (aCons (fVar 1) (aCons (fC (.int 0)) (aCons (fVar 2) aNil)))))) (tNot (tVal (fUn gAll (fOfN c_need_text_0))))) (sRaise .text) sNext))
def F_need_text : List D → Out D := runF B_need_text 1
def B_least : FS := (sSeq (sExpr (fCall F_need_text (aCons (fVar 0) (aCons (fVar 1) (aCons (fC (.int 30)) aNil))))) (sRet (fUn gLen (fCall F_least_row (aCons (fVar 0) (aCons (fVar 1) aNil))))))
def F_least : List D → Out D := runF B_least 0
def B_shown_by : FS := (sRet (fOp gIx (fCall F_rowed (aCons (fVar 0) (aCons (fC (.tup [.int 0, .str [108], .int 0])) (aCons (fVar 1) aNil)))) (fC (.int 1))))
def F_shown_by : List D → Out D := runF B_shown_by 0
def c_needless_0 : FN := (nComp (iRange1 (fUn gLen (fVar 1))) [3] (gName 3) (tVal (fOp gEq (fCall F_shown_by (aCons (fVar 0) (aCons (fOp gAdd (fSl (fVar 1) oNone (oSome (fVar 3))) (fSl (fVar 1) (oSome (fOp gAdd (fVar 3) (fC (.int 1)))) oNone)) aNil))) (fVar 2))) (fVar 3))
def B_needless : FS := (sSeq (sExpr (fCall F_need_both (aCons (fVar 0) (aCons (fVar 1) aNil)))) (sSeq (sAsg (fCall F_shown_by (aCons (fVar 0) (aCons (fVar 1) aNil))) (gName 2)) (sRet (fOfN c_needless_0))))
def F_needless : List D → Out D := runF B_needless 2
def b_prints_0 : FS := (sSeq (sIf (tVal (fOp gEq (fOp gIx (fVar 1) (fVar 3)) (fC (.str [112])))) (sSeq (sAsg (fOp gIx (fCall F_rowed (aCons (fVar 0) (aCons (fC (.tup [.int 0, .str [108], .int 0])) (aCons (fSl (fVar 1) oNone (oSome (fVar 3))) aNil)))) (fC (.int 0))) (gName 4)) (sExpr (fMeth mAppend 2 (aCons (fTup (aCons (fVar 3) (aCons (fOp gIx (fVar 4) (fC (.int 0))) (aCons (fOp gIx (fVar 4) (fC (.int 1))) (aCons (fOp gIx (fCall F_shown_by (aCons (fVar 0) (aCons (fSl (fVar 1) oNone (oSome (fOp gAdd (fVar 3) (fC (.int 1))))) aNil))) (fUn gNeg (fC (.int 1)))) aNil))))) aNil)))) sNext) (sKill [3, 4]))
def B_prints : FS := (sSeq (sExpr (fCall F_need_both (aCons (fVar 0) (aCons (fVar 1) aNil)))) (sSeq (sNew (nLst aNil) 2) (sSeq (sSeq (sFor (iRange1 (fUn gLen (fVar 1))) (gName 3) b_prints_0) (sKill [3, 4])) (sRet (fVar 2)))))
def F_prints : List D → Out D := runF B_prints 3
def B_row_for : FS := (sSeq (sExpr (fCall F_need_text (aCons (fVar 0) (aCons (fVar 1) (aCons (fC (.int 30)) aNil))))) (sRet (fCall F_least_row (aCons (fVar 0) (aCons (fVar 1) aNil)))))
def F_row_for : List D → Out D := runF B_row_for 0
def c_safe_slips_0 : FN := (nComp (iSeq (fVar 5)) [7] (gName 7) (tVal (fOp gEq (fCall F_shown_by (aCons (fVar 0) (aCons (fCall F_slipped (aCons (fVar 1) (aCons (fTup (aCons (fVar 7) aNil)) aNil))) aNil))) (fVar 2))) (fVar 7))
def c_safe_slips_1 : FN := (nComp (iSeq (fC (.tup [.str [108, 111, 115, 116], .str [116, 119, 105, 99, 101]]))) [6] (gName 6) tYes (fTup (aCons (fVar 4) (aCons (fVar 6) aNil))))
def b_safe_slips_0 : FS := (sSeq (sNew c_safe_slips_1 5) (sSeq (sExpr (fMeth mExtend 3 (aCons (fOfN c_safe_slips_0) aNil))) (sKill [4, 5, 6, 7])))
def B_safe_slips : FS := (sSeq (sExpr (fCall F_need_both (aCons (fVar 0) (aCons (fVar 1) aNil)))) (sSeq (sAsg (fCall F_shown_by (aCons (fVar 0) (aCons (fVar 1) aNil))) (gName 2)) (sSeq (sNew (nLst aNil) 3) (sSeq (sSeq (sFor (iRange1 (fUn gLen (fVar 1))) (gName 4) b_safe_slips_0) (sKill [4, 5, 6, 7])) (sRet (fVar 3))))))
def F_safe_slips : List D → Out D := runF B_safe_slips 6
def c_need_slips_0 : FN := (nComp (iZip (fVar 1) (fSl (fVar 1) (oSome (fC (.int 1))) oNone)) [2, 3] (gTup (gsCons (gName 2) (gsCons (gName 3) gsNil))) tYes (fOp gLt (fOp gIx (fVar 2) (fC (.int 0))) (fOp gIx (fVar 3) (fC (.int 0)))))
def c_need_slips_1 : FN := (nComp (iSeq (fVar 1)) [4] (gName 4) tYes (fCall F_is_slip (aCons (fVar 4) (aCons (fUn gLen (fVar 0)) aNil))))
def B_need_slips : FS := (sSeq (sIf (tOr (tNot (tVal (fUn (gIsi .tuple) (fVar 1)))) (tOr (tVal (fOp gGt (fUn gLen (fVar 1)) (fC (.int 4)))) (tNot (tVal (fUn gAll (fOfN c_need_slips_1)))))) (sRaise .slips) sNext) (sIf (tNot (tVal (fUn gAll (fOfN c_need_slips_0)))) (sRaise .slips) sNext))
def F_need_slips : List D → Out D := runF B_need_slips 3
def B_tape : FS := (sSeq (sExpr (fCall F_need_wheels (aCons (fVar 0) aNil))) (sSeq (sExpr (fCall F_need_row (aCons (fVar 1) (aCons (fC (.int 400)) aNil)))) (sSeq (sExpr (fCall F_need_slips (aCons (fVar 1) (aCons (fVar 2) aNil)))) (sRet (fOp gIx (fCall F_rowed (aCons (fVar 0) (aCons (fC (.tup [.int 0, .str [108], .int 0])) (aCons (fCall F_slipped (aCons (fVar 1) (aCons (fVar 2) aNil))) aNil)))) (fC (.int 1)))))))
def F_tape : List D → Out D := runF B_tape 0
def b_thinned_0 : FS := (sIf (tVal (fOp gEq (fCall F_shown_by (aCons (fVar 0) (aCons (fOp gAdd (fSl (fVar 3) oNone (oSome (fVar 4))) (fSl (fVar 3) (oSome (fOp gAdd (fVar 4) (fC (.int 1)))) oNone)) aNil))) (fVar 2))) (sAsg (fOp gAdd (fSl (fVar 3) oNone (oSome (fVar 4))) (fSl (fVar 3) (oSome (fOp gAdd (fVar 4) (fC (.int 1)))) oNone)) (gName 3)) (sAsg (fOp gAdd (fVar 4) (fC (.int 1))) (gName 4)))
def B_thinned : FS := (sSeq (sExpr (fCall F_need_both (aCons (fVar 0) (aCons (fVar 1) aNil)))) (sSeq (sAsg (fCall F_shown_by (aCons (fVar 0) (aCons (fVar 1) aNil))) (gName 2)) (sSeq (sAsg (fVar 1) (gName 3)) (sSeq (sAsg (fC (.int 0)) (gName 4)) (sSeq (sKill [1]) (sSeq (sSeq (sWhile (tVal (fOp gLt (fVar 4) (fUn gLen (fVar 3)))) b_thinned_0 1000) (sKill [4])) (sRet (fVar 3))))))))
def F_thinned : List D → Out D := runF B_thinned 3
def c_law_0 : FN := (nComp (iSeq (fCall F_prints (aCons (fVar 2) (aCons (fVar 9) aNil)))) [13] (gName 13) tYes (fOp gIx (fVar 13) (fC (.int 3))))
def c_law_1 : FN := (nComp (iSeq (fTup (aCons (fC (.str [108, 111, 115, 116])) (aCons (fC (.str [116, 119, 105, 99, 101])) aNil)))) [12] (gName 12) tYes (fCall F_tape (aCons (fVar 2) (aCons (fVar 5) (aCons (fTup (aCons (fTup (aCons (fVar 8) (aCons (fVar 12) aNil))) aNil)) aNil)))))
def b_law_0 : FS := (sSeq (sNew c_law_1 10) (sSeq (sIf (tOr (tVal (fOp gNe (fOp gIx (fVar 5) (fVar 8)) (fC (.str [115])))) (tVal (fOp gNe (fVar 10) (fOfN (nLst (aCons (fVar 6) (aCons (fVar 6) aNil))))))) (sRet (fC (.bl false))) sNext) (sKill [8, 10, 12])))
def c_law_2 : FN := (nComp (iRange1 (fUn gLen (fVar 5))) [8] (gName 8) (tVal (fOp gEq (fCall F_harm (aCons (fVar 2) (aCons (fVar 5) (aCons (fTup (aCons (fVar 8) (aCons (fC (.str [108, 111, 115, 116])) aNil))) aNil)))) (fC (.int 0)))) (fVar 8))
def c_law_3 : FN := (nComp (iSeq (fCall F_safe_slips (aCons (fVar 2) (aCons (fVar 5) aNil)))) [11, 12] (gTup (gsCons (gName 11) (gsCons (gName 12) gsNil))) (tVal (fOp gEq (fVar 12) (fC (.str [108, 111, 115, 116])))) (fVar 11))
def c_law_4 : FN := (nComp (iSeq (fCall F_prints (aCons (fVar 2) (aCons (fVar 4) aNil)))) [13] (gName 13) tYes (fOp gIx (fVar 13) (fC (.int 3))))
def B_law : FS := (sSeq (sNew (nLst aNil) 1) (sSeq (sAsg (fCallIO F_l_wheels 1 (fVar 0) (aCons (fC (.int 6)) aNil)) (gName 2)) (sSeq (sAsg (fCallIO F_l_text 1 (fVar 0) (aCons (fVar 2) (aCons (fC (.int 5)) aNil))) (gName 3)) (sSeq (sAsg (fCall F_row_for (aCons (fVar 2) (aCons (fVar 3) aNil))) (gName 4)) (sSeq (sIf (tOr (tVal (fOp gNe (fCall F_needless (aCons (fVar 2) (aCons (fVar 4) aNil))) (fOfN (nLst aNil)))) (tVal (fOp gNe (fCall F_thinned (aCons (fVar 2) (aCons (fVar 4) aNil))) (fVar 4)))) (sRet (fC (.bl false))) sNext) (sSeq (sIf (tVal (fOp gNe (fTell (tyD "str") gJoin (fC (.str [])) (aCons (fOfN c_law_4) aNil)) (fVar 3))) (sRet (fC (.bl false))) sNext) (sSeq (sAsg (fCallIO F_l_row 1 (fVar 0) (aCons (fC (.int 30)) aNil)) (gName 5)) (sSeq (sAsg (fCall F_tape (aCons (fVar 2) (aCons (fVar 5) (aCons (fTup aNil) aNil)))) (gName 6)) (sSeq (sNew c_law_3 7) (sSeq (sIf (tVal (fOp gNe (fVar 7) (fCall F_needless (aCons (fVar 2) (aCons (fVar 5) aNil))))) (sRet (fC (.bl false))) sNext) (sSeq (sIf (tVal (fOp gNe (fOfN c_law_2) (fVar 7))) (sRet (fC (.bl false))) sNext) (sSeq (sKill [0, 1, 3, 4, 7]) (sSeq (sSeq (sFor (iSeq (fCall F_caught_at (aCons (fVar 2) (aCons (fVar 5) aNil)))) (gName 8) b_law_0) (sKill [8, 10, 12])) (sSeq (sAsg (fCall F_thinned (aCons (fVar 2) (aCons (fVar 5) aNil))) (gName 9)) (sSeq (sIf (tOr (tVal (fOp gNe (fCall F_tape (aCons (fVar 2) (aCons (fVar 9) (aCons (fTup aNil) aNil)))) (fVar 6))) (tOr (tVal (fOp gGt (fUn gLen (fVar 9)) (fUn gLen (fVar 5)))) (tVal (fOp gLt (fUn gLen (fVar 9)) (fCall F_least (aCons (fVar 2) (aCons (fVar 6) aNil))))))) (sRet (fC (.bl false))) sNext) (sRet (fAnd (fOp gEq (fTell (tyD "str") gSCount (fVar 9) (aCons (fC (.str [112])) aNil)) (fTell (tyD "str") gSCount (fVar 5) (aCons (fC (.str [112])) aNil))) (fOp gEq (fOfN c_law_0) (fOfN (nList (fVar 6)))))))))))))))))))))
def F_law : List D → Out D := runF B_law 13
end Den

namespace DenL
open Den
/-! ### draws -/
/-- the town behind n draws -/
abbrev tn (n : Nat) : D := .lst (List.replicate n (.int 0))
theorem tn_succ (n : Nat) : List.replicate n (D.int 0) ++ [.int 0] = List.replicate (n + 1) (.int 0) := by rw [List.replicate_succ']
def cellV (ns : List Int) (k : Nat) : Int := match ns[k]? with
  | some i => i
  | none => match ns[k % ns.length]? with
    | some i => i * 31 + k
    | none => 0
theorem cell_eq (ns : List Int) (k : Nat) : F_l_cell_at [.scr ns, .int k] = .ok (.int (cellV ns k)) := by
  unfold cellV
  by_cases h : k < ns.length
  · rw [List.getElem?_eq_getElem h]
    simp -dsimp (disch := omega) [F_l_cell_at, B_l_cell_at, start, h]
  · rw [List.getElem?_eq_none (by omega)]
    cases ns with
    | nil => simp -dsimp (disch := omega) [F_l_cell_at, B_l_cell_at, start, gEq, eqS]
    | cons n ns =>
      have h1 : ns.length + 1 ≤ k := by simpa using h
      obtain ⟨j, hj, hj2⟩ : ∃ j : Nat, (k : Int) % ((ns.length : Int) + 1) = (j : Int) ∧ k % (ns.length + 1) = j := ⟨k % (ns.length + 1), by push_cast; rfl, rfl⟩
      have h4 : j < (n :: ns).length := by
        have := Nat.mod_lt k (show 0 < ns.length + 1 by omega)
        simp only [List.length_cons]
        omega
      simp -dsimp (disch := omega) [F_l_cell_at, B_l_cell_at, start, gEq, eqS, hj, hj2, List.getElem?_eq_getElem h4, gMul_int]
def dr (ns : List Int) (k : Nat) (m : Int) : Int := ((cellV ns k * 1103515245 + 7919 * k + 12345) % 2147483647) ^ 5 % 2147483647 % 999983 % m
theorem dr_bd (ns : List Int) (k : Nat) {m : Int} (h : 0 < m) : 0 ≤ dr ns k m ∧ dr ns k m < m := ⟨Int.emod_nonneg _ (by omega), Int.emod_lt_of_pos _ h⟩
theorem mixed_eq (ns : List Int) (k : Nat) {m : Int} (h : 0 < m) : F_l_mixed [.scr ns, .int k, .int m] = .ok (.int (dr ns k m)) := by
  have h1 : 0 ≤ (cellV ns k * 1103515245 + 7919 * k + 12345) % 2147483647 := Int.emod_nonneg _ (by decide)
  have h2 : (cellV ns k * 1103515245 + 7919 * k + 12345) % 2147483647 < 2147483647 := Int.emod_lt_of_pos _ (by decide)
  have h3 : ((cellV ns k * 1103515245 + 7919 * k + 12345) % 2147483647).natAbs < 2 ^ 64 := by omega
  simp -dsimp (disch := first | assumption | omega) [F_l_mixed, B_l_mixed, start, cell_eq, gMul_int, gPow_int, h3]
  rfl
theorem draw_eq (ns : List Int) {n : Nat} {m : Int} (hn : n < 1000000) (h : 0 < m) : F_l_draw (tn n) [.scr ns, .int m] = .ok (.int (dr ns (n + 1) m), tn (n + 1)) := by
  have e := mixed_eq ns (n + 1) h
  have hl : (List.replicate n (D.int 0)).length < 1000000 := by simpa using hn
  push_cast at e
  simp -dsimp (disch := first | assumption | omega) [F_l_draw, B_l_draw, startIO, tn, tn_succ, e, hl]
/-- a draw: some number below m -/
theorem draw_ex (ns : List Int) {n : Nat} {m : Int} (hn : n < 1000000) (h : 0 < m) : ∃ r : Nat, (r : Int) < m ∧ F_l_draw (tn n) [.scr ns, .int m] = .ok (.int r, tn (n + 1)) := by
  obtain ⟨h1, h2⟩ := dr_bd ns (n + 1) h
  obtain ⟨r, e⟩ := Int.eq_ofNat_of_zero_le h1
  exact ⟨r, by omega, by rw [draw_eq ns hn h, e]⟩
theorem pick_ex (ns : List Int) {n : Nat} {ds : List D} (hn : n < 1000000) (h : ds ≠ []) : ∃ d ∈ ds, F_l_pick (tn n) [.scr ns, .lst ds] = .ok (d, tn (n + 1)) := by
  have hl : 0 < ds.length := List.length_pos_iff.mpr h
  obtain ⟨r, h1, h2⟩ := draw_ex ns (m := ds.length) hn (by omega)
  have h3 : r < ds.length := by omega
  refine ⟨ds[r], List.getElem_mem h3, ?_⟩
  simp -dsimp (disch := first | assumption | omega) [F_l_pick, B_l_pick, startIO, h2, h3]
/-! ### wheels -/
def SIG : List Nat := [97, 98, 99, 100, 101, 102, 103, 104, 105, 106, 107, 108, 109, 110, 111, 112, 113, 114, 115, 116, 117, 118, 119, 120, 121, 122, 48, 49, 50, 51, 52, 53, 54, 55, 56, 57, 32, 46, 44, 45]
abbrev wd (a b : List Nat) (t : Nat) : D := .tup [.str a, .str b, .int t]
abbrev chs (l : List Nat) : List D := l.map fun c => .str [c]
theorem sig_nodup : SIG.Nodup := by decide
structure IsW (a b : List Nat) (t : Nat) : Prop where
  sa : ∀ c ∈ a, c ∈ SIG
  sb : ∀ c ∈ b, c ∈ SIG
  na : a.Nodup
  nb : b.Nodup
  lo : 2 ≤ a.length
  hi : a.length ≤ 30
  eq : b.length = a.length
  t1 : 1 ≤ t
  t3 : t ≤ 3
theorem whole_eq (x lo hi : Int) : F_is_whole [.int x, .int lo, .int hi] = .ok (.bl (decide (lo ≤ x) && decide (x ≤ hi))) := by
  by_cases h1 : lo ≤ x <;> by_cases h2 : x ≤ hi <;> simp -dsimp (disch := omega) [F_is_whole, B_is_whole, start, h1, h2]
theorem allOf_bl {α : Type} (f : α → Bool) : ∀ l : List α, allOf blOf (l.map fun c => D.bl (f c)) = some (l.map f)
  | [] => rfl
  | c :: l => by rw [List.map_cons, allOf, allOf_bl f l]; rfl
theorem gAll_map {α : Type} (f : α → Bool) (l : List α) : gAll (.lst (l.map fun c => D.bl (f c))) = .ok (.bl (l.all f)) := by
  simp [gAll, allOf_bl, ofO]
theorem gAny_map {α : Type} (f : α → Bool) (l : List α) : gAny (.lst (l.map fun c => D.bl (f c))) = .ok (.bl (l.any f)) := by
  simp [gAny, allOf_bl, ofO]
theorem signs_eq (a : List Nat) (lo hi : Int) (h : a.length ≤ 1000000) : F_are_signs [.str a, .int lo, .int hi] = .ok (.bl (decide (lo ≤ a.length) && (decide (a.length ≤ hi) && a.all fun c => decide (c ∈ SIG)))) := by
  have hc : c_are_signs_0 [some (.fz (.str a)), some (.fz (.int lo)), some (.fz (.int hi)), none] = .ok (.lst (a.map fun c => .bl (decide (c ∈ SIG))), [some (.fz (.str a)), some (.fz (.int lo)), some (.fz (.int hi)), none]) :=
    nComp_mp (ρ' := [some (.fz (.str a)), some (.fz (.int lo)), some (.fz (.int hi)), none]) (ds := chs a) (fun c => .str [c]) (fun c => .bl (decide (c ∈ SIG))) a (by simp -dsimp) rfl h rfl
      (fun c _ => rfl)
  by_cases h1 : lo ≤ a.length <;> by_cases h2 : (a.length : Int) ≤ hi <;> simp -dsimp (disch := omega) [F_are_signs, B_are_signs, start, h1, h2, hc, gAll_map]
theorem allOf_str : ∀ l : List (List Nat), allOf strOf (l.map D.str) = some l
  | [] => rfl
  | c :: l => by rw [List.map_cons, allOf, allOf_str l]; rfl
theorem ones_nodup {a : List Nat} (h : a.Nodup) : (a.map fun c => [c]).Nodup := List.Pairwise.map _ (fun x y n e => n (by injection e)) h
theorem lenSet_nodup {a : List Nat} (h : a.Nodup) (hl : a.length ≤ 4000) : gLenSet (.str a) = .ok (.int a.length) := by
  have e : (sortU ltS (a.map fun c => [c])).length = a.length := by
    rw [len_of_nodup (pw_nodup totS (sortU_pw totS _)) (ones_nodup h) (fun y => mem_sortU totS)]
    simp
  simp [gLenSet, setI, setS, hl, e]
theorem wheel_ok {a : List Nat} (hs : ∀ c ∈ a, c ∈ SIG) (hn : a.Nodup) (h1 : 2 ≤ a.length) (h2 : a.length ≤ 30) : F_is_wheel [.str a] = .ok (.bl true) := by
  have h3 : (a.all fun c => decide (c ∈ SIG)) = true := List.all_eq_true.mpr fun c hc => decide_eq_true (hs c hc)
  have h4 := lenSet_nodup hn (by omega)
  have h5 : (2 : Int) ≤ a.length := by omega
  have h6 : (a.length : Int) ≤ 30 := by omega
  simp -dsimp (disch := omega) [F_is_wheel, B_is_wheel, start, signs_eq a 2 30 (by omega), h3, h4, h5, h6]
theorem wheels_ok {a b : List Nat} {t : Nat} (h : IsW a b t) : F_is_wheels [wd a b t] = .ok (.bl true) := by
  have hl := h.lo
  have hh := h.hi
  have he := h.eq
  have ha := wheel_ok h.sa h.na (by omega) (by omega)
  have hb := wheel_ok h.sb h.nb (by omega) (by omega)
  have ht := whole_eq t 1 3
  have h1 : (1 : Int) ≤ t := by have := h.t1; omega
  have h3 : (t : Int) ≤ 3 := by have := h.t3; omega
  simp -dsimp (disch := omega) [F_is_wheels, B_is_wheels, start, ha, hb, ht, h1, h3]
theorem need_ok {a b : List Nat} {t : Nat} (h : IsW a b t) : F_need_wheels [wd a b t] = .ok .non := by
  simp -dsimp (disch := omega) [F_need_wheels, B_need_wheels, start, wheels_ok h]
theorem places_ok {a b : List Nat} {t : Nat} (h : IsW a b t) : F_places_of [wd a b t] = .ok (.int a.length) := by
  have hh := h.hi
  simp -dsimp (disch := omega) [F_places_of, B_places_of, start]
/-- what is no whole number is refused, whatever the bounds -/
theorem whole_no {d : D} {lo hi : Int} (h : isTy .int d = .ok false ∨ isTy .bool d = .ok true) : F_is_whole [d, .int lo, .int hi] = .ok (.bl false) := by
  rcases h with h | h
  · simp -dsimp [F_is_whole, B_is_whole, start, h]
  · cases e : isTy .int d with
    | ok x => cases x <;> simp -dsimp [F_is_whole, B_is_whole, start, h, e]
    | exc _ => unfold isTy at e; split at e <;> cases e
    | bad => unfold isTy at e h; cases d <;> cases e <;> cases h
/-! ### printers -/
/-- a stand: place, at the figures?, idle -/
structure Std where
  p : Nat
  w : Bool
  i : Nat
deriving DecidableEq
def wc (w : Bool) : Nat := if w then 102 else 108
abbrev sd (s : Std) : D := .tup [.int s.p, .str [wc s.w], .int s.i]
abbrev st0 : Std := ⟨0, false, 0⟩
def PUL : List Nat := [115, 112, 108, 102]
def caughtB (n t : Nat) (s : Std) : Bool := decide (s.p = 0) && decide (n * t ≤ s.i)
/-- the stand behind a pulse -/
def nxt (n t : Nat) (s : Std) (c : Nat) : Std :=
  if c = 115 then (if caughtB n t s = true then s else ⟨(s.p + 1) % n, s.w, s.i + 1⟩)
  else if c = 112 then ⟨s.p, s.w, 0⟩ else ⟨s.p, decide (c = 102), 0⟩
/-- what comes on the tape -/
def shw (a b : List Nat) (s : Std) (c : Nat) : List Nat := if c = 112 then [(if s.w = true then b else a).getD s.p 0] else []
def runS (n t : Nat) (s : Std) (r : List Nat) : Std := r.foldl (nxt n t) s
def runT (a b : List Nat) (t : Nat) : Std → List Nat → List Nat
  | _, [] => []
  | s, c :: r => shw a b s c ++ runT a b t (nxt a.length t s c) r
theorem nxt_lt {n t : Nat} {s : Std} (c : Nat) (h : s.p < n) : (nxt n t s c).p < n := by
  unfold nxt
  split
  · split
    · exact h
    · exact Nat.mod_lt _ (by omega)
  · split <;> exact h
theorem runS_lt {n t : Nat} : ∀ (r : List Nat) {s : Std}, s.p < n → (runS n t s r).p < n
  | [], _, h => h
  | c :: r, _, h => runS_lt r (nxt_lt c h)
theorem runS_app (n t : Nat) (s : Std) (r q : List Nat) : runS n t s (r ++ q) = runS n t (runS n t s r) q := by simp [runS]
theorem runT_app (a b : List Nat) (t : Nat) : ∀ (r : List Nat) (s : Std) (q : List Nat), runT a b t s (r ++ q) = runT a b t s r ++ runT a b t (runS a.length t s r) q
  | [], _, _ => rfl
  | c :: r, s, q => by
    show shw a b s c ++ runT a b t _ (r ++ q) = (shw a b s c ++ runT a b t _ r) ++ _
    rw [runT_app a b t r, List.append_assoc]; rfl
theorem shw_len (a b : List Nat) (s : Std) (c : Nat) : (shw a b s c).length ≤ 1 := by unfold shw; split <;> simp
theorem runT_len (a b : List Nat) (t : Nat) : ∀ (r : List Nat) (s : Std), (runT a b t s r).length = r.count 112
  | [], _ => rfl
  | c :: r, s => by
    rw [runT, List.length_append, runT_len a b t r, List.count_cons]
    by_cases h : c = 112
    · subst h; simp [shw]; omega
    · simp [shw, h]
theorem runT_le (a b : List Nat) (t : Nat) (r : List Nat) (s : Std) : (runT a b t s r).length ≤ r.length := by rw [runT_len]; exact List.count_le_length
theorem wc_eq (w : Bool) (x : Nat) : ([wc w] == [x]) = (wc w == x) := by simp
theorem caught_eq {a b : List Nat} {t : Nat} (h : IsW a b t) (s : Std) : F_is_caught [wd a b t, sd s] = .ok (.bl (caughtB a.length t s)) := by
  have hh := h.hi
  have h3 := h.t3
  have hp := places_ok h
  have hm : gMul (.int a.length) (.int t) = .ok (.int ((a.length * t : Nat) : Int)) := by rw [gMul_int _ _ (by omega)]; push_cast; rfl
  by_cases h1 : s.p = 0
  · by_cases h2 : a.length * t ≤ s.i
    · have h2' : ((a.length * t : Nat) : Int) ≤ (s.i : Int) := by omega
      simp -dsimp (disch := omega) [F_is_caught, B_is_caught, start, caughtB, h1, h2, h2', hp, hm]
    · have h2' : ¬ ((a.length * t : Nat) : Int) ≤ (s.i : Int) := by omega
      simp -dsimp (disch := omega) [F_is_caught, B_is_caught, start, caughtB, h1, h2, h2', hp, hm]
  · simp -dsimp (disch := omega) [F_is_caught, B_is_caught, start, caughtB, h1]
theorem IsW.get {a b : List Nat} {t : Nat} (h : IsW a b t) {s : Std} (hp : s.p < a.length) : (if s.w = true then b else a)[s.p]? = some ((if s.w = true then b else a).getD s.p 0) := by
  have he := h.eq
  have : s.p < (if s.w = true then b else a).length := by split <;> omega
  rw [List.getD_eq_getElem?_getD, List.getElem?_eq_getElem this]; rfl
theorem pulsed_eq {a b : List Nat} {t : Nat} (h : IsW a b t) {s : Std} (hp : s.p < a.length) {c : Nat} (hc : c ∈ PUL) : F_pulsed [wd a b t, sd s, .str [c]] = .ok (.tup [sd (nxt a.length t s c), .str (shw a b s c)]) := by
  have hh := h.hi
  have he := h.eq
  have hl := h.lo
  have pl := places_ok h
  have ca := caught_eq h s
  have hg := h.get hp
  have hc' : c = 115 ∨ c = 112 ∨ c = 108 ∨ c = 102 := by simpa [PUL] using hc
  obtain ⟨q, hm, hq⟩ : ∃ q : Nat, ((s.p : Int) + 1) % (a.length : Int) = (q : Int) ∧ (s.p + 1) % a.length = q := ⟨(s.p + 1) % a.length, by push_cast; rfl, rfl⟩
  rcases hc' with e | e | e | e
  · subst e
    cases hb : caughtB a.length t s with
    | true =>
      rw [hb] at ca
      simp -dsimp (disch := omega) [F_pulsed, B_pulsed, start, ca, nxt, shw, hb]
    | false =>
      rw [hb] at ca
      simp -dsimp (disch := omega) [F_pulsed, B_pulsed, start, ca, nxt, shw, hb, pl, hm, hq]
  · subst e
    cases hw : s.w with
    | true =>
      rw [hw] at hg
      simp only [if_true] at hg
      simp -dsimp (disch := omega) [F_pulsed, B_pulsed, start, nxt, shw, hw, wc, hg]
    | false =>
      rw [hw] at hg
      simp only [Bool.false_eq_true, if_false] at hg
      simp -dsimp (disch := omega) [F_pulsed, B_pulsed, start, nxt, shw, hw, wc, hg]
  · subst e
    simp -dsimp (disch := omega) [F_pulsed, B_pulsed, start, nxt, shw, wc]
  · subst e
    simp -dsimp (disch := omega) [F_pulsed, B_pulsed, start, nxt, shw, wc]
/-! ### where a row prints -/
abbrev Spot : Type := Nat × Bool
abbrev spd (q : Spot) : D := .tup [.int q.1, .str [wc q.2]]
/-- where a row prints -/
def spots (n t : Nat) : Std → List Nat → List Spot
  | _, [] => []
  | s, c :: r => (if c = 112 then [(s.p, s.w)] else []) ++ spots n t (nxt n t s c) r
def sgnQ (a b : List Nat) (q : Spot) : Nat := (if q.2 = true then b else a).getD q.1 0
theorem spots_app (n t : Nat) : ∀ (r : List Nat) (s : Std) (q : List Nat), spots n t s (r ++ q) = spots n t s r ++ spots n t (runS n t s r) q
  | [], _, _ => rfl
  | c :: r, s, q => by
    show (if c = 112 then [(s.p, s.w)] else []) ++ spots n t _ (r ++ q) = ((if c = 112 then [(s.p, s.w)] else []) ++ spots n t _ r) ++ _
    rw [spots_app n t r, List.append_assoc]; rfl
theorem spots_lt {n t : Nat} : ∀ {r : List Nat} {s : Std} {q : Spot}, s.p < n → q ∈ spots n t s r → q.1 < n
  | [], _, _, _, h => nomatch h
  | c :: r, s, q, hs, h => by
    rcases List.mem_append.mp h with z | z
    · split at z
      · rw [List.mem_singleton] at z; rw [z]; exact hs
      · cases z
    · exact spots_lt (nxt_lt c hs) z
theorem runT_spots (a b : List Nat) (t : Nat) : ∀ (r : List Nat) (s : Std), runT a b t s r = (spots a.length t s r).map (sgnQ a b)
  | [], _ => rfl
  | c :: r, s => by
    rw [runT, spots, List.map_append, runT_spots a b t r]
    congr 1
    unfold shw
    split <;> rfl
theorem spots_len (n t : Nat) : ∀ (r : List Nat) (s : Std), (spots n t s r).length = r.count 112
  | [], _ => rfl
  | c :: r, s => by
    rw [spots, List.length_append, spots_len n t r, List.count_cons]
    by_cases h : c = 112
    · subst h; simp; omega
    · simp [h]
theorem spots_le (n t : Nat) (r : List Nat) (s : Std) : (spots n t s r).length ≤ r.length := by rw [spots_len]; exact List.count_le_length
/-! ### each sign can be shown -/
theorem steps_from {n t : Nat} (h1 : 1 ≤ t) (w : Bool) {p : Nat} (hp : p < n) : ∀ (d : Nat), d < n → runS n t ⟨p, w, 0⟩ (List.replicate d 115) = ⟨(p + d) % n, w, d⟩
  | 0, _ => by rw [Nat.add_zero, Nat.mod_eq_of_lt hp]; rfl
  | d + 1, h => by
    rw [List.replicate_succ', runS_app, steps_from h1 w hp d (by omega)]
    have hle : n ≤ n * t := Nat.le_mul_of_pos_right _ (by omega)
    have hc : caughtB n t ⟨(p + d) % n, w, d⟩ = false := by
      unfold caughtB
      simp only [Bool.and_eq_false_iff, decide_eq_false_iff_not]
      exact .inr (by omega)
    show nxt n t ⟨(p + d) % n, w, d⟩ 115 = _
    unfold nxt
    rw [if_pos rfl, hc]
    simp only [Bool.false_eq_true, if_false, Nat.mod_add_mod]
    rfl
/-- the steps from a place to another one -/
def dist (n p q : Nat) : Nat := (q + (n - p)) % n
theorem dist_lt {n p q : Nat} (h : p < n) : dist n p q < n := Nat.mod_lt _ (by omega)
theorem dist_to {n p q : Nat} (hp : p < n) (hq : q < n) : (p + dist n p q) % n = q := by
  unfold dist
  rw [Nat.add_mod_mod, show p + (q + (n - p)) = q + n by omega, Nat.add_mod_right, Nat.mod_eq_of_lt hq]
/-- the row: a change, steps, a print -/
def goW (n : Nat) (w : Bool) (p q : Nat) : List Nat := wc w :: (List.replicate (dist n p q) 115 ++ [112])
theorem goW_pul (n : Nat) (w : Bool) (p q : Nat) : ∀ c ∈ goW n w p q, c ∈ PUL := by
  intro c hc
  unfold goW at hc
  rcases List.mem_cons.mp hc with e | e
  · rw [e]; cases w <;> decide
  · rcases List.mem_append.mp e with e | e
    · rw [List.eq_of_mem_replicate e]; decide
    · rw [List.mem_singleton] at e; rw [e]; decide
theorem nxt_wc (n t : Nat) (s : Std) (w : Bool) : nxt n t s (wc w) = ⟨s.p, w, 0⟩ := by cases w <;> rfl
theorem shw_wc (a b : List Nat) (s : Std) (w : Bool) : shw a b s (wc w) = [] := by cases w <;> rfl
theorem steps_none {a b : List Nat} {t : Nat} {s : Std} (d : Nat) : runT a b t s (List.replicate d 115) = [] := List.length_eq_zero_iff.mp (by rw [runT_len, List.count_replicate]; simp)
theorem goW_run {a b : List Nat} {t : Nat} (h : IsW a b t) {s : Std} (hp : s.p < a.length) (w : Bool) {q : Nat} (hq : q < a.length) :
    runS a.length t s (goW a.length w s.p q) = ⟨q, w, 0⟩ ∧ runT a b t s (goW a.length w s.p q) = [(if w = true then b else a).getD q 0] := by
  have hs := steps_from h.t1 w hp (dist a.length s.p q) (dist_lt hp)
  rw [dist_to hp hq] at hs
  unfold goW
  constructor
  · show runS a.length t (nxt a.length t s (wc w)) (List.replicate (dist a.length s.p q) 115 ++ [112]) = _
    rw [nxt_wc, runS_app, hs]
    rfl
  · show shw a b s (wc w) ++ runT a b t (nxt a.length t s (wc w)) (List.replicate (dist a.length s.p q) 115 ++ [112]) = _
    rw [shw_wc, nxt_wc, runT_app, hs, steps_none]
    simp [runT, shw]
theorem IsW.spot {a b : List Nat} {t : Nat} (h : IsW a b t) {c : Nat} (hc : c ∈ a ∨ c ∈ b) : ∃ (q : Nat) (w : Bool), q < a.length ∧ (if w = true then b else a).getD q 0 = c := by
  have he := h.eq
  rcases hc with z | z
  · obtain ⟨p, hp, e⟩ := List.mem_iff_getElem.mp z
    exact ⟨p, false, hp, by simp [List.getElem?_eq_getElem hp, e]⟩
  · obtain ⟨p, hp, e⟩ := List.mem_iff_getElem.mp z
    exact ⟨p, true, by omega, by simp [List.getElem?_eq_getElem hp, e]⟩
theorem can_show {a b : List Nat} {t : Nat} (h : IsW a b t) : ∀ (text : List Nat) (s : Std), s.p < a.length → (∀ c ∈ text, c ∈ a ∨ c ∈ b) → ∃ r, (∀ c ∈ r, c ∈ PUL) ∧ runT a b t s r = text ∧ r.length ≤ (a.length + 1) * text.length
  | [], s, _, _ => ⟨[], fun _ h => (nomatch h), rfl, by simp⟩
  | c :: text, s, hp, hc => by
    obtain ⟨q, w, hq, e⟩ := h.spot (hc c List.mem_cons_self)
    obtain ⟨g1, g2⟩ := goW_run h hp w hq
    obtain ⟨r, r1, r2, r3⟩ := can_show h text ⟨q, w, 0⟩ hq fun d hd => hc d (List.mem_cons_of_mem _ hd)
    have hd := dist_lt (q := q) hp
    refine ⟨goW a.length w s.p q ++ r, fun x hx => (List.mem_append.mp hx).elim (goW_pul _ _ _ _ x) (r1 x), ?_, ?_⟩
    · rw [runT_app, g1, g2, r2, e]; rfl
    · simp only [List.length_append, List.length_cons, goW, List.length_replicate, List.length_nil, Nat.mul_add]
      omega
/-- r is a shortest row that shows just the text from s on -/
structure LeastR (a b : List Nat) (t : Nat) (s : Std) (text r : List Nat) : Prop where
  pul : ∀ c ∈ r, c ∈ PUL
  shows : runT a b t s r = text
  least : ∀ r', (∀ c ∈ r', c ∈ PUL) → runT a b t s r' = text → r.length ≤ r'.length
/-! ### how long a least row is -/
theorem LeastR.len {a b : List Nat} {t : Nat} {s : Std} {text r r' : List Nat} (h : LeastR a b t s text r) (h' : LeastR a b t s text r') : r.length = r'.length :=
  Nat.le_antisymm (h.least r' h'.pul h'.shows) (h'.least r h.pul h.shows)
open Classical in
/-- how many pulses a text needs -/
noncomputable def lenR (a b : List Nat) (t : Nat) (s : Std) (text : List Nat) : Nat := if h : ∃ r, LeastR a b t s text r then h.choose.length else 0
theorem LeastR.eq {a b : List Nat} {t : Nat} {s : Std} {text r : List Nat} (h : LeastR a b t s text r) : lenR a b t s text = r.length := by
  unfold lenR
  have hx : ∃ r, LeastR a b t s text r := ⟨r, h⟩
  rw [dif_pos hx]
  exact hx.choose_spec.len h
/-! ### min over data -/
theorem minDL_in : ∀ (xs : List D) (x : D), minDL x xs = x ∨ minDL x xs ∈ xs
  | [], x => .inl rfl
  | y :: xs, x => by
    show minDL (if y.lt x = true then y else x) xs = x ∨ minDL (if y.lt x = true then y else x) xs ∈ y :: xs
    rcases minDL_in xs (if y.lt x = true then y else x) with e | e
    · rw [e]
      split
      · exact .inr List.mem_cons_self
      · exact .inl rfl
    · exact .inr (List.mem_cons_of_mem _ e)
theorem minDL_le {le : D → D → Prop} (hr : ∀ a, le a a) (ht : ∀ a b c, le a b → le b c → le a c) {S : D → Prop} (h1 : ∀ a b, S a → S b → a.lt b = true → le a b) (h2 : ∀ a b, S a → S b → a.lt b = false → le b a) : ∀ (xs : List D) (x : D), S x → (∀ y ∈ xs, S y) → ∀ y, y = x ∨ y ∈ xs → le (minDL x xs) y
  | [], x, _, _, y, hy => by
    rcases hy with e | e
    · rw [e]; exact hr x
    · cases e
  | z :: xs, x, hx, hs, y, hy => by
    have hz := hs z List.mem_cons_self
    show le (minDL (if z.lt x = true then z else x) xs) y
    have hS : S (if z.lt x = true then z else x) := by split <;> assumption
    have ih := minDL_le hr ht h1 h2 xs (if z.lt x = true then z else x) hS fun w hw => hs w (List.mem_cons_of_mem _ hw)
    have i0 := ih _ (.inl rfl)
    rcases hy with e | e
    · rw [e]
      refine ht _ _ _ i0 ?_
      split
      · rename_i q; exact h1 z x hz hx q
      · exact hr x
    · rcases List.mem_cons.mp e with e | e
      · rw [e]
        refine ht _ _ _ i0 ?_
        split
        · exact hr z
        · rename_i q; exact h2 z x hz hx (by simpa using q)
      · exact ih y (.inr e)
/-- tuples that begin with a number -/
def numT : D → Option Int
  | .tup (.int i :: _) => some i
  | _ => none
theorem lt_num {a b : D} {i j : Int} (ha : numT a = some i) (hb : numT b = some j) : (a.lt b = true → i ≤ j) ∧ (a.lt b = false → j ≤ i) := by
  cases a with
  | tup xs =>
    cases xs with
    | nil => cases ha
    | cons x xs =>
      cases x with
      | int i' =>
        cases ha
        cases b with
        | tup ys =>
          cases ys with
          | nil => cases hb
          | cons y ys =>
            cases y with
            | int j' =>
              cases hb
              have e : (D.tup (.int i :: xs)).lt (.tup (.int j :: ys)) = if i = j then D.ltL xs ys else decide (i < j) := by
                simp [D.lt, D.ltL, D.eqv]
              rw [e]
              by_cases q : i = j
              · rw [if_pos q]; exact ⟨fun _ => by omega, fun _ => by omega⟩
              · rw [if_neg q]; simp; omega
            | _ => cases hb
        | _ => cases hb
      | _ => cases ha
  | _ => cases ha
theorem min_num {x : D} {xs : List D} (h : ∀ y, y = x ∨ y ∈ xs → ∃ i, numT y = some i) {m : Int} (hm : numT (minDL x xs) = some m) : ∀ y, y = x ∨ y ∈ xs → ∀ i, numT y = some i → m ≤ i := by
  intro y hy i hi
  have := minDL_le (le := fun a b => (numT a).getD 0 ≤ (numT b).getD 0) (S := fun a => ∃ i, numT a = some i) (fun a => Int.le_refl _) (fun a b c h1 h2 => Int.le_trans h1 h2) ?_ ?_ xs x (h x (.inl rfl)) (fun z hz => h z (.inr hz)) y hy
  · rw [hm, hi] at this; exact this
  · intro a b ⟨i, hi⟩ ⟨j, hj⟩ q; rw [hi, hj]; exact (lt_num hi hj).1 q
  · intro a b ⟨i, hi⟩ ⟨j, hj⟩ q; rw [hi, hj]; exact (lt_num hi hj).2 q
theorem allAlk_mk {L : List D} (h1 : ∀ d ∈ L, d.plain = true) (h2 : ∀ a ∈ L, ∀ b ∈ L, a.alk b = true) (h3 : ∀ d ∈ L, d.depth ≤ 60) : allAlk L = true := by
  unfold allAlk
  rw [plainL_of h1, Bool.true_and, Bool.and_eq_true]
  refine ⟨List.all_eq_true.mpr fun a ha => List.all_eq_true.mpr fun b hb => h2 a ha b hb, decide_eq_true (depthL_of h3)⟩
theorem gMinD_num {L : List D} (hne : L ≠ []) (ha : allAlk L = true) (hn : ∀ y ∈ L, ∃ i, numT y = some i) : ∃ d ∈ L, gMinD (.lst L) = .ok d ∧ ∀ i, numT d = some i → ∀ y ∈ L, ∀ j, numT y = some j → i ≤ j := by
  cases L with
  | nil => exact absurd rfl hne
  | cons x xs =>
    refine ⟨minDL x xs, ?_, if_pos ha, fun i hi y hy j hj => ?_⟩
    · rcases minDL_in xs x with e | e
      · rw [e]; exact List.mem_cons_self
      · exact List.mem_cons_of_mem _ e
    · exact min_num (fun y hy => hn y (List.mem_cons.mpr hy)) hi y (List.mem_cons.mp hy) j hj
/-! ### what a text costs -/
theorem dist_if {n p q : Nat} (hp : p < n) (hq : q < n) : dist n p q = if p ≤ q then q - p else q + n - p := by
  unfold dist
  by_cases h : p ≤ q
  · rw [if_pos h, show q + (n - p) = (q - p) + n by omega, Nat.add_mod_right, Nat.mod_eq_of_lt (by omega)]
  · rw [if_neg h, Nat.mod_eq_of_lt (by omega)]; omega
theorem dist_self {n p : Nat} (hp : p < n) : dist n p p = 0 := by rw [dist_if hp hp]; simp
theorem dist_step {n p q : Nat} (hp : p < n) (hq : q < n) : dist n p q ≤ dist n ((p + 1) % n) q + 1 := by
  by_cases h : p + 1 < n
  · rw [Nat.mod_eq_of_lt h, dist_if hp hq, dist_if h hq]
    split <;> split <;> omega
  · have : (p + 1) % n = 0 := by rw [show p + 1 = n by omega]; exact Nat.mod_self n
    rw [this, dist_if hp hq, dist_if (by omega) hq]
    split <;> split <;> omega
def chg (w w' : Bool) : Nat := if w = w' then 0 else 1
theorem chg_le (w w1 w' : Bool) : chg w w' ≤ chg w1 w' + 1 := by unfold chg; split <;> split <;> omega
theorem chg_self (w : Bool) : chg w w = 0 := if_pos rfl
/-- where a sign stands -/
def spotL (a b : List Nat) (c : Nat) : List (Nat × Bool) := (if c ∈ a then [(a.idxOf c, false)] else []) ++ (if c ∈ b then [(b.idxOf c, true)] else [])
def stepC (n p : Nat) (w : Bool) (q : Nat × Bool) : Nat := dist n p q.1 + chg w q.2 + 1
def minN : List Nat → Nat
  | [] => 0
  | x :: xs => xs.foldl min x
theorem minN_le : ∀ {l : List Nat} {x : Nat}, x ∈ l → minN l ≤ x
  | y :: l, x, h => by
    have gen : ∀ (l : List Nat) (y : Nat), l.foldl min y ≤ y ∧ ∀ x ∈ l, l.foldl min y ≤ x := by
      intro l
      induction l with
      | nil => exact fun y => ⟨Nat.le_refl _, fun x h => (nomatch h)⟩
      | cons z l ih =>
        intro y
        obtain ⟨i1, i2⟩ := ih (min y z)
        refine ⟨Nat.le_trans i1 (Nat.min_le_left _ _), fun x hx => ?_⟩
        rcases List.mem_cons.mp hx with e | e
        · rw [e]; exact Nat.le_trans i1 (Nat.min_le_right _ _)
        · exact i2 x e
    rcases List.mem_cons.mp h with e | e
    · rw [e]; exact (gen l y).1
    · exact (gen l y).2 x e
theorem minN_mem : ∀ {l : List Nat}, l ≠ [] → minN l ∈ l
  | [], h => absurd rfl h
  | y :: l, _ => by
    have gen : ∀ (l : List Nat) (y : Nat), l.foldl min y = y ∨ l.foldl min y ∈ l := by
      intro l
      induction l with
      | nil => exact fun y => .inl rfl
      | cons z l ih =>
        intro y
        show l.foldl min (min y z) = y ∨ l.foldl min (min y z) ∈ z :: l
        rcases ih (min y z) with e | e
        · rw [e]
          rcases Nat.le_total y z with q | q
          · rw [Nat.min_eq_left q]; exact .inl rfl
          · rw [Nat.min_eq_right q]; exact .inr List.mem_cons_self
        · exact .inr (List.mem_cons_of_mem _ e)
    exact List.mem_cons.mpr (gen l y)
def costM (a b : List Nat) : List Nat → Nat → Bool → Nat
  | [], _, _ => 0
  | c :: text, p, w => minN ((spotL a b c).map fun q => stepC a.length p w q + costM a b text q.1 q.2)
theorem spotL_mem {a b : List Nat} {t : Nat} (h : IsW a b t) {c : Nat} {q : Nat × Bool} : q ∈ spotL a b c ↔ q.1 < a.length ∧ (if q.2 = true then b else a)[q.1]? = some c := by
  have he := h.eq
  obtain ⟨q, w⟩ := q
  unfold spotL
  rw [List.mem_append]
  constructor
  · rintro (z | z)
    · by_cases hc : c ∈ a
      · rw [if_pos hc, List.mem_singleton] at z
        cases z
        have := List.idxOf_lt_length_iff.mpr hc
        exact ⟨this, by simp [List.getElem?_eq_getElem this, List.getElem_idxOf this]⟩
      · rw [if_neg hc] at z; cases z
    · by_cases hc : c ∈ b
      · rw [if_pos hc, List.mem_singleton] at z
        cases z
        have := List.idxOf_lt_length_iff.mpr hc
        exact ⟨by show List.idxOf c b < a.length; omega, by simp [List.getElem?_eq_getElem this, List.getElem_idxOf this]⟩
      · rw [if_neg hc] at z; cases z
  · rintro ⟨h1, h2⟩
    cases w with
    | false =>
      simp only [Bool.false_eq_true, if_false] at h2
      have hm : c ∈ a := List.mem_of_getElem? h2
      obtain ⟨h3, h4⟩ := List.getElem?_eq_some_iff.mp h2
      left
      rw [if_pos hm, List.mem_singleton]
      have : a.idxOf c = q := by rw [← h4]; exact h.na.idxOf_getElem q h3
      rw [this]
    | true =>
      simp only [if_true] at h2
      have hm : c ∈ b := List.mem_of_getElem? h2
      obtain ⟨h3, h4⟩ := List.getElem?_eq_some_iff.mp h2
      right
      rw [if_pos hm, List.mem_singleton]
      have : b.idxOf c = q := by rw [← h4]; exact h.nb.idxOf_getElem q h3
      rw [this]
theorem spotL_ne {a b : List Nat} {c : Nat} (hc : c ∈ a ∨ c ∈ b) : spotL a b c ≠ [] := by
  unfold spotL
  rcases hc with q | q
  · rw [if_pos q]; simp
  · rw [if_pos q]; simp
/-- pulses without a print: no fewer than what lies between -/
theorem noprint_le {n t : Nat} : ∀ (u : List Nat) (s : Std), s.p < n → 112 ∉ u → (∀ c ∈ u, c ∈ PUL) → dist n s.p (runS n t s u).p + chg s.w (runS n t s u).w ≤ u.length
  | [], s, hp, _, _ => by simp [runS, dist_self hp, chg_self]
  | c :: u, s, hp, hn, hc => by
    have hlt := nxt_lt (n := n) (t := t) c hp
    have ih := noprint_le (n := n) (t := t) u (nxt n t s c) hlt (fun z => hn (List.mem_cons_of_mem _ z)) (fun d hd => hc d (List.mem_cons_of_mem _ hd))
    have e : runS n t s (c :: u) = runS n t (nxt n t s c) u := rfl
    rw [e, List.length_cons]
    have hr := runS_lt (n := n) (t := t) u hlt
    generalize runS n t (nxt n t s c) u = f at *
    have hc' : c = 115 ∨ c = 112 ∨ c = 108 ∨ c = 102 := by simpa [PUL] using hc c List.mem_cons_self
    rcases hc' with q | q | q | q
    · subst q
      unfold nxt at ih
      rw [if_pos rfl] at ih
      by_cases hq : caughtB n t s = true
      · rw [if_pos hq] at ih; omega
      · rw [if_neg hq] at ih
        have := dist_step hp hr
        simp only at ih
        omega
    · subst q; exact absurd List.mem_cons_self hn
    · subst q
      have e2 : nxt n t s 108 = ⟨s.p, false, 0⟩ := rfl
      rw [e2] at ih
      have := chg_le s.w false f.w
      simp only at ih
      omega
    · subst q
      have e2 : nxt n t s 102 = ⟨s.p, true, 0⟩ := rfl
      rw [e2] at ih
      have := chg_le s.w true f.w
      simp only at ih
      omega
/-- the first print of a row -/
theorem first_print {a b : List Nat} {t : Nat} : ∀ (r : List Nat) (s : Std) (c : Nat) (text : List Nat), runT a b t s r = c :: text → ∃ u v, r = u ++ 112 :: v ∧ 112 ∉ u ∧ (if (runS a.length t s u).w = true then b else a).getD (runS a.length t s u).p 0 = c ∧ runT a b t ⟨(runS a.length t s u).p, (runS a.length t s u).w, 0⟩ v = text
  | [], s, c, text, h => by cases h
  | d :: r, s, c, text, h => by
    by_cases hd : d = 112
    · subst hd
      have h : [(if s.w = true then b else a).getD s.p 0] ++ runT a b t ⟨s.p, s.w, 0⟩ r = c :: text := h
      obtain ⟨h1, h2⟩ := List.cons.inj h
      exact ⟨[], r, rfl, by simp, h1, h2⟩
    · have e : shw a b s d = [] := by unfold shw; rw [if_neg hd]
      rw [runT, e, List.nil_append] at h
      obtain ⟨u, v, h1, h2, h3, h4⟩ := first_print r _ c text h
      exact ⟨d :: u, v, by rw [h1]; rfl, fun z => (List.mem_cons.mp z).elim (fun q => hd q.symm) h2, h3, h4⟩
theorem cost_le {a b : List Nat} {t : Nat} (h : IsW a b t) : ∀ (text : List Nat) (s : Std) (r : List Nat), s.p < a.length → (∀ c ∈ r, c ∈ PUL) → runT a b t s r = text → costM a b text s.p s.w ≤ r.length
  | [], _, _, _, _, _ => Nat.zero_le _
  | c :: text, s, r, hp, hc, hr => by
    obtain ⟨u, v, h1, h2, h3, h4⟩ := first_print r s c text hr
    have hu : ∀ d ∈ u, d ∈ PUL := fun d hd => hc d (by rw [h1]; exact List.mem_append_left _ hd)
    have hv : ∀ d ∈ v, d ∈ PUL := fun d hd => hc d (by rw [h1]; exact List.mem_append_right _ (List.mem_cons_of_mem _ hd))
    have hf := runS_lt (n := a.length) (t := t) u hp
    have n1 := noprint_le (n := a.length) (t := t) u s hp h2 hu
    have n2 := h.get hf
    generalize runS a.length t s u = f at *
    have ih := cost_le h text ⟨f.p, f.w, 0⟩ v hf hv h4
    have hm : (f.p, f.w) ∈ spotL a b c := (spotL_mem h).mpr ⟨hf, by rw [n2, h3]⟩
    have hle := minN_le (l := (spotL a b c).map fun q => stepC a.length s.p s.w q + costM a b text q.1 q.2) (List.mem_map.mpr ⟨_, hm, rfl⟩)
    show minN _ ≤ _
    refine Nat.le_trans hle ?_
    unfold stepC
    rw [h1, List.length_append, List.length_cons]
    simp only at ih ⊢
    omega
/-- the row from a spot to another one, and a print there -/
def stepR (n p : Nat) (w : Bool) (q : Nat × Bool) : List Nat := List.replicate (dist n p q.1) 115 ++ ((if w = q.2 then [] else [wc q.2]) ++ [112])
theorem stepR_len (n p : Nat) (w : Bool) (q : Nat × Bool) : (stepR n p w q).length = stepC n p w q := by
  unfold stepR stepC chg
  split <;> simp
theorem stepR_pul (n p : Nat) (w : Bool) (q : Nat × Bool) : ∀ c ∈ stepR n p w q, c ∈ PUL := by
  intro c hc
  unfold stepR at hc
  rcases List.mem_append.mp hc with e | e
  · rw [List.eq_of_mem_replicate e]; decide
  · rcases List.mem_append.mp e with e | e
    · split at e
      · cases e
      · rw [List.mem_singleton] at e; rw [e]; cases q.2 <;> decide
    · rw [List.mem_singleton] at e; rw [e]; decide
theorem stepR_run {a b : List Nat} {t : Nat} (h : IsW a b t) {p : Nat} (hp : p < a.length) (w : Bool) {q : Nat × Bool} {c : Nat} (hq : q ∈ spotL a b c) :
    runS a.length t ⟨p, w, 0⟩ (stepR a.length p w q) = ⟨q.1, q.2, 0⟩ ∧ runT a b t ⟨p, w, 0⟩ (stepR a.length p w q) = [c] := by
  obtain ⟨h1, h2⟩ := (spotL_mem h).mp hq
  have hs := steps_from h.t1 w hp (dist a.length p q.1) (dist_lt hp)
  rw [dist_to hp h1] at hs
  have hg : (if q.2 = true then b else a).getD q.1 0 = c := by rw [List.getD_eq_getElem?_getD, h2]; rfl
  obtain ⟨q, w'⟩ := q
  unfold stepR
  simp only at *
  rw [runS_app, runT_app, hs, steps_none, List.nil_append]
  by_cases hw : w = w'
  · subst hw
    rw [if_pos rfl]
    refine ⟨rfl, ?_⟩
    show [(if w = true then b else a).getD q 0] ++ [] = [c]
    rw [hg]; rfl
  · rw [if_neg hw]
    constructor
    · show nxt a.length t (nxt a.length t ⟨q, w, dist a.length p q⟩ (wc w')) 112 = _
      rw [nxt_wc]; rfl
    · show shw a b ⟨q, w, dist a.length p q⟩ (wc w') ++ (shw a b (nxt a.length t ⟨q, w, dist a.length p q⟩ (wc w')) 112 ++ []) = [c]
      rw [nxt_wc, shw_wc]
      show [] ++ ([(if w' = true then b else a).getD q 0] ++ []) = [c]
      rw [hg]; rfl
theorem cost_row {a b : List Nat} {t : Nat} (h : IsW a b t) : ∀ (text : List Nat) (p : Nat) (w : Bool), p < a.length → (∀ c ∈ text, c ∈ a ∨ c ∈ b) → ∃ r, (∀ c ∈ r, c ∈ PUL) ∧ runT a b t ⟨p, w, 0⟩ r = text ∧ r.length = costM a b text p w
  | [], p, w, _, _ => ⟨[], fun _ h => (nomatch h), rfl, rfl⟩
  | c :: text, p, w, hp, hc => by
    have hne : ((spotL a b c).map fun q => stepC a.length p w q + costM a b text q.1 q.2) ≠ [] := fun z => spotL_ne (hc c List.mem_cons_self) (List.map_eq_nil_iff.mp z)
    obtain ⟨q, hq, e⟩ := List.mem_map.mp (minN_mem hne)
    have h1 := ((spotL_mem h).mp hq).1
    obtain ⟨g1, g2⟩ := stepR_run h hp w hq
    obtain ⟨r, r1, r2, r3⟩ := cost_row h text q.1 q.2 h1 fun d hd => hc d (List.mem_cons_of_mem _ hd)
    refine ⟨stepR a.length p w q ++ r, fun x hx => (List.mem_append.mp hx).elim (stepR_pul _ _ _ _ x) (r1 x), ?_, ?_⟩
    · rw [runT_app, g1, g2, r2]; rfl
    · rw [List.length_append, stepR_len, r3]
      exact e
theorem lenR_cost {a b : List Nat} {t : Nat} (h : IsW a b t) {p : Nat} (w : Bool) (hp : p < a.length) {text : List Nat} (hc : ∀ c ∈ text, c ∈ a ∨ c ∈ b) : lenR a b t ⟨p, w, 0⟩ text = costM a b text p w := by
  obtain ⟨r, r1, r2, r3⟩ := cost_row h text p w hp hc
  rw [← r3]
  exact LeastR.eq ⟨r1, r2, fun r' c1 c2 => by rw [r3]; exact cost_le h text ⟨p, w, 0⟩ r' hp c1 c2⟩
/-! ### least rows -/
theorem dist_int {n p q : Nat} (hp : p < n) (hn : 0 < n) : ((q : Int) - p) % n = (dist n p q : Nat) := by
  unfold dist
  have : ((q : Int) - p) % n = ((q : Int) + (n - p)) % n := by
    rw [show (q : Int) + (n - p) = ((q : Int) - p) + n by omega, Int.add_emod_right]
  rw [this]
  push_cast
  rw [Int.ofNat_sub (by omega)]
theorem spots_of_eq {a b : List Nat} {t : Nat} (h : IsW a b t) (c : Nat) : F_spots_of [wd a b t, .str [c]] = .ok (.lst ((spotL a b c).map spd)) := by
  have hh := h.hi
  have he := h.eq
  have cut : cutL [D.str a, D.str b, D.int t] none (some 2) = [D.str a, D.str b] := rfl
  have c0 : c_spots_of_0 [some (.fz (wd a b t)), some (.fz (.str [c])), none, none] = .ok (.lst ((spotL a b c).map spd), [some (.fz (wd a b t)), some (.fz (.str [c])), none, none]) := by
    have e : (spotL a b c).map spd = ([(a, false), (b, true)] : List (List Nat × Bool)).filterMap fun x => if c ∈ x.1 then some (spd (x.1.idxOf c, x.2)) else none := by
      unfold spotL
      by_cases h1 : c ∈ a <;> by_cases h2 : c ∈ b <;> simp [h1, h2]
    rw [e]
    refine nComp_fm (ws := [2, 3]) (ρ' := [some (.fz (wd a b t)), some (.fz (.str [c])), none, none]) (ds := [.tup [.str a, .str [108]], .tup [.str b, .str [102]]]) (fun x => .tup [.str x.1, .str [wc x.2]]) (fun x => if c ∈ x.1 then some (spd (x.1.idxOf c, x.2)) else none) [(a, false), (b, true)] ?_ rfl (by simp) rfl fun x hx => ?_
    · simp -dsimp [iZip, cut]
    · have gs : c ∈ x.1 → gSIndex (.str x.1) [.str [c]] = .ok (.int (x.1.idxOf c)) := fun q => if_pos q
      by_cases q : c ∈ x.1
      · simp -dsimp [q, gs, tyD]
      · simp -dsimp [q]
  simp -dsimp [F_spots_of, B_spots_of, start, c0]
theorem step_row_eq {a b : List Nat} {t : Nat} (h : IsW a b t) {o q : Nat × Bool} (h1 : o.1 < a.length) : F_step_row [wd a b t, spd o, spd q] = .ok (.str (stepR a.length o.1 o.2 q)) := by
  have hh := h.hi
  have pl := places_ok h
  have dl := dist_lt (q := q.1) h1
  have gm : gMod (.int ((q.1 : Int) - o.1)) (.int a.length) = .ok (.int (dist a.length o.1 q.1)) := by rw [gMod_int _ _ (by omega), dist_int h1 (by omega)]
  have g1 : gMul (.str [115]) (.int (dist a.length o.1 q.1)) = .ok (.str (List.replicate (dist a.length o.1 q.1) 115)) := gMul_ch (by omega)
  have g2 : gMul (.str [wc q.2]) (.int 0) = .ok (.str []) := gMul_ch (k := 0) (by omega)
  have g3 : gMul (.str [wc q.2]) (.int 1) = .ok (.str [wc q.2]) := gMul_ch (k := 1) (by omega)
  have gne : gNe (.str [wc o.2]) (.str [wc q.2]) = .ok (.bl (decide (o.2 ≠ q.2))) := by
    obtain ⟨_, w⟩ := o
    obtain ⟨_, w'⟩ := q
    cases w <;> cases w' <;> rfl
  unfold stepR
  generalize dist a.length o.1 q.1 = k at *
  by_cases hw : o.2 = q.2
  · rw [decide_eq_false (by simpa using hw)] at gne
    rw [if_pos hw]
    simp -dsimp (disch := first | assumption | (simp; omega) | omega) [F_step_row, B_step_row, start, pl, gm, g1, g2, gne, -gNe_str]
  · rw [decide_eq_true hw] at gne
    rw [if_neg hw]
    simp -dsimp (disch := first | assumption | (simp; omega) | omega) [F_step_row, B_step_row, start, pl, gm, g1, g3, gne, -gNe_str]
theorem need_text_eq {a b : List Nat} {t : Nat} (h : IsW a b t) {m : Nat} {text : List Nat} (hl : text.length ≤ m) (hm : m ≤ 1000) (hc : ∀ c ∈ text, c ∈ a ∨ c ∈ b) : F_need_text [wd a b t, .str text, .int m] = .ok .non := by
  have hh := h.hi
  have he := h.eq
  have c0 : c_need_text_0 [some (.fz (wd a b t)), some (.fz (.str text)), some (.fz (.int m)), none] = .ok (.lst (text.map fun c => .bl (decide (c ∈ a) || decide (c ∈ b))), [some (.fz (wd a b t)), some (.fz (.str text)), some (.fz (.int m)), none]) := by
    refine nComp_mp (ws := [3]) (ρ' := [some (.fz (wd a b t)), some (.fz (.str text)), some (.fz (.int m)), none]) (ds := chs text) (fun c => .str [c]) (fun c => .bl (decide (c ∈ a) || decide (c ∈ b))) text (by simp -dsimp) rfl (by omega) rfl fun c _ => ?_
    simp -dsimp (disch := omega)
  have e1 := signs_eq text 0 m (by omega)
  have h1 : (text.all fun c => decide (c ∈ SIG)) = true := List.all_eq_true.mpr fun c hh => decide_eq_true ((hc c hh).elim (h.sa c) (h.sb c))
  have h2 : decide ((text.length : Int) ≤ (m : Int)) = true := decide_eq_true (by omega)
  have h3 : decide ((0 : Int) ≤ text.length) = true := decide_eq_true (by omega)
  rw [h1, h2, h3] at e1
  have ga := gAll_map (fun c => decide (c ∈ a) || decide (c ∈ b)) text
  have h4 : (text.all fun c => decide (c ∈ a) || decide (c ∈ b)) = true := List.all_eq_true.mpr fun c hh => by simpa using hc c hh
  rw [h4] at ga
  simp -dsimp [F_need_text, B_need_text, start, need_ok h, e1, c0, ga]
/-! the least of some rows -/
abbrev lrD (r : List Nat) : D := .tup [.int r.length, .str r]
def bestR (L : List (List Nat)) : List Nat := match gMinD (.lst (L.map lrD)) with
  | .ok (.tup [_, .str r]) => r
  | _ => []
theorem bestR_spec {L : List (List Nat)} (hne : L ≠ []) : gMinD (.lst (L.map lrD)) = .ok (lrD (bestR L)) ∧ bestR L ∈ L ∧ ∀ r ∈ L, (bestR L).length ≤ r.length := by
  obtain ⟨d, h1, h2, h3⟩ := gMinD_num (L := L.map lrD) (fun e => hne (List.map_eq_nil_iff.mp e)) (allAlk_mk (fun d hd => by obtain ⟨r, _, rfl⟩ := List.mem_map.mp hd; rfl) (fun x hx y hy => by obtain ⟨r, _, rfl⟩ := List.mem_map.mp hx; obtain ⟨r', _, rfl⟩ := List.mem_map.mp hy; rfl) (fun d hd => by obtain ⟨r, _, rfl⟩ := List.mem_map.mp hd; simp [D.depth, D.depthL]))
    (fun y hy => by obtain ⟨r, _, rfl⟩ := List.mem_map.mp hy; exact ⟨_, rfl⟩)
  obtain ⟨r, hr, rfl⟩ := List.mem_map.mp h1
  have e : bestR L = r := by unfold bestR; rw [h2]
  rw [e]
  refine ⟨h2, hr, fun r' hr' => ?_⟩
  have := h3 _ rfl (lrD r') (List.mem_map.mpr ⟨r', hr', rfl⟩) _ rfl
  omega
abbrev RwL : Type := List (Spot × List Nat)
def rwD (L : RwL) : List (D × D) := L.map fun e => (spd e.1, .str e.2)
def candR (n : Nat) (L : RwL) (q : Spot) : List (List Nat) := L.map fun e => e.2 ++ stepR n e.1.1 e.1.2 q
def nextR (a b : List Nat) (L : RwL) (c : Nat) : RwL := (spotL a b c).map fun q => (q, bestR (candR a.length L q))
def rowsM (a b : List Nat) (L : RwL) (text : List Nat) : RwL := text.foldl (nextR a b) L
def leastM (a b : List Nat) (text : List Nat) : List Nat := bestR ((rowsM a b [((0, false), [])] text).map (·.2))
theorem spd_inj {q q' : Spot} : spd q = spd q' ↔ q = q' := by
  obtain ⟨p, w⟩ := q
  obtain ⟨p', w'⟩ := q'
  constructor
  · intro h
    simp only [spd, D.tup.injEq, List.cons.injEq, D.int.injEq, D.str.injEq, and_true] at h
    obtain ⟨h1, h2⟩ := h
    have hw : w = w' := by cases w <;> cases w' <;> simp [wc] at h2 ⊢
    have e1 : p = p' := by omega
    rw [e1, hw]
  · intro h; rw [h]
theorem rwD_look : ∀ {L : RwL} {e : Spot × List Nat}, (L.map (·.1)).Nodup → e ∈ L → lookS (rwD L) (spd e.1) = some (.str e.2)
  | x :: L, e, hn, he => by
    show lookS ((spd x.1, .str x.2) :: rwD L) _ = _
    rw [lookS_cons]
    rw [List.map_cons, List.nodup_cons] at hn
    rcases List.mem_cons.mp he with q | q
    · rw [q, if_pos rfl]
    · have hx : x.1 ≠ e.1 := fun z => hn.1 (List.mem_map.mpr ⟨e, q, z.symm⟩)
      rw [if_neg fun z => hx (spd_inj.mp z)]
      exact rwD_look hn.2 q
/-- what the rows are -/
structure RwOk (a b : List Nat) (t : Nat) (pre : List Nat) (L : RwL) : Prop where
  ne : L ≠ []
  nd : (L.map (·.1)).Nodup
  one : ∀ e ∈ L, e.1.1 < a.length ∧ (∀ c ∈ e.2, c ∈ PUL) ∧ runT a b t st0 e.2 = pre ∧ runS a.length t st0 e.2 = ⟨e.1.1, e.1.2, 0⟩ ∧ e.2.length ≤ (a.length + 1) * pre.length
theorem spotL_nd (a b : List Nat) (c : Nat) : (spotL a b c).Nodup := by
  unfold spotL
  by_cases h1 : c ∈ a <;> by_cases h2 : c ∈ b <;> simp [h1, h2]
theorem spotL_few (a b : List Nat) (c : Nat) : (spotL a b c).length ≤ 2 := by
  unfold spotL
  by_cases h1 : c ∈ a <;> by_cases h2 : c ∈ b <;> simp [h1, h2]
theorem RwOk.start (a b : List Nat) (t : Nat) (h : IsW a b t) : RwOk a b t [] [((0, false), [])] := ⟨by simp, by simp, fun e he => by
  rw [List.mem_singleton] at he
  rw [he]
  have := h.lo
  exact ⟨by show 0 < a.length; omega, fun _ h => (nomatch h), rfl, rfl, Nat.zero_le _⟩⟩
theorem stepC_le {n p : Nat} {w : Bool} {q : Spot} (hp : p < n) : stepC n p w q ≤ n + 1 := by
  have := dist_lt (q := q.1) hp
  unfold stepC chg
  split <;> omega
theorem RwOk.next {a b : List Nat} {t : Nat} (h : IsW a b t) {pre : List Nat} {L : RwL} (R : RwOk a b t pre L) {c : Nat} (hc : c ∈ a ∨ c ∈ b) : RwOk a b t (pre ++ [c]) (nextR a b L c) := by
  refine ⟨fun z => spotL_ne hc (List.map_eq_nil_iff.mp z), ?_, fun e he => ?_⟩
  · unfold nextR
    rw [List.map_map]
    have : ((fun x : Spot × List Nat => x.1) ∘ fun q => (q, bestR (candR a.length L q))) = id := rfl
    rw [this, List.map_id]
    exact spotL_nd a b c
  · obtain ⟨q, hq, rfl⟩ := List.mem_map.mp he
    have hne : candR a.length L q ≠ [] := fun z => R.ne (List.map_eq_nil_iff.mp z)
    obtain ⟨_, h2, _⟩ := bestR_spec hne
    obtain ⟨e0, h3, h4⟩ := List.mem_map.mp h2
    obtain ⟨o1, o2, o3, o4, o5⟩ := R.one e0 h3
    have h5 := ((spotL_mem h).mp hq).1
    obtain ⟨g1, g2⟩ := stepR_run h o1 e0.1.2 hq
    refine ⟨h5, ?_, ?_, ?_, ?_⟩
    · show ∀ c ∈ bestR _, _
      rw [← h4]
      exact fun x hx => (List.mem_append.mp hx).elim (o2 x) (stepR_pul _ _ _ _ x)
    · show runT a b t st0 (bestR _) = _
      rw [← h4, runT_app, o3, o4, g2]
    · show runS a.length t st0 (bestR _) = _
      rw [← h4, runS_app, o4, g1]
    · show (bestR _).length ≤ _
      rw [← h4, List.length_append, stepR_len, List.length_append, List.length_singleton, Nat.mul_add]
      have := stepC_le (w := e0.1.2) (q := q) o1
      omega
/-- the least of what each row and the rest cost -/
def allC (a b : List Nat) (L : RwL) (text : List Nat) : Nat := minN (L.map fun e => e.2.length + costM a b text e.1.1 e.1.2)
theorem minN_eq {l l' : List Nat} (hl : l ≠ []) (hl' : l' ≠ []) (h1 : ∀ x ∈ l, ∃ y ∈ l', y ≤ x) (h2 : ∀ y ∈ l', ∃ x ∈ l, x ≤ y) : minN l = minN l' := by
  refine Nat.le_antisymm ?_ ?_
  · obtain ⟨x, hx, e⟩ := h2 _ (minN_mem hl')
    exact Nat.le_trans (minN_le hx) e
  · obtain ⟨y, hy, e⟩ := h1 _ (minN_mem hl)
    exact Nat.le_trans (minN_le hy) e
theorem allC_next {a b : List Nat} {L : RwL} (hL : L ≠ []) {c : Nat} (hc : c ∈ a ∨ c ∈ b) (text : List Nat) : allC a b (nextR a b L c) text = allC a b L (c :: text) := by
  have hne : ∀ q, candR a.length L q ≠ [] := fun q z => hL (List.map_eq_nil_iff.mp z)
  unfold allC
  refine minN_eq (fun z => spotL_ne hc (List.map_eq_nil_iff.mp (List.map_eq_nil_iff.mp z))) (fun z => hL (List.map_eq_nil_iff.mp z)) (fun x hx => ?_) fun y hy => ?_
  · obtain ⟨e, he, rfl⟩ := List.mem_map.mp hx
    obtain ⟨q, hq, rfl⟩ := List.mem_map.mp he
    obtain ⟨_, h2, _⟩ := bestR_spec (hne q)
    obtain ⟨e0, h3, h4⟩ := List.mem_map.mp h2
    refine ⟨_, List.mem_map.mpr ⟨e0, h3, rfl⟩, ?_⟩
    show e0.2.length + minN _ ≤ (bestR _).length + costM a b text q.1 q.2
    have := minN_le (l := (spotL a b c).map fun q => stepC a.length e0.1.1 e0.1.2 q + costM a b text q.1 q.2) (List.mem_map.mpr ⟨q, hq, rfl⟩)
    rw [← h4, List.length_append, stepR_len]
    omega
  · obtain ⟨e0, h3, rfl⟩ := List.mem_map.mp hy
    have hn : ((spotL a b c).map fun q => stepC a.length e0.1.1 e0.1.2 q + costM a b text q.1 q.2) ≠ [] := fun z => spotL_ne hc (List.map_eq_nil_iff.mp z)
    obtain ⟨q, hq, e⟩ := List.mem_map.mp (minN_mem hn)
    obtain ⟨_, _, h2⟩ := bestR_spec (hne q)
    have := h2 _ (List.mem_map.mpr ⟨e0, h3, rfl⟩)
    rw [List.length_append, stepR_len] at this
    refine ⟨_, List.mem_map.mpr ⟨_, List.mem_map.mpr ⟨q, hq, rfl⟩, rfl⟩, ?_⟩
    show (bestR _).length + costM a b text q.1 q.2 ≤ e0.2.length + minN _
    rw [← e]
    omega
theorem rowsM_ok {a b : List Nat} {t : Nat} (h : IsW a b t) : ∀ (text pre : List Nat) (L : RwL), RwOk a b t pre L → (∀ c ∈ text, c ∈ a ∨ c ∈ b) → RwOk a b t (pre ++ text) (rowsM a b L text) ∧ allC a b (rowsM a b L text) [] = allC a b L text
  | [], pre, L, R, _ => ⟨by rw [List.append_nil]; exact R, rfl⟩
  | c :: text, pre, L, R, hc => by
    have hc1 := hc c List.mem_cons_self
    obtain ⟨i1, i2⟩ := rowsM_ok h text (pre ++ [c]) (nextR a b L c) (R.next h hc1) fun d hd => hc d (List.mem_cons_of_mem _ hd)
    rw [List.append_assoc] at i1
    exact ⟨i1, i2.trans (allC_next R.ne hc1 text)⟩
theorem leastM_ok {a b : List Nat} {t : Nat} (h : IsW a b t) {text : List Nat} (hc : ∀ c ∈ text, c ∈ a ∨ c ∈ b) : LeastR a b t st0 text (leastM a b text) ∧ (leastM a b text).length = costM a b text 0 false ∧ (leastM a b text).length ≤ (a.length + 1) * text.length := by
  have hlo := h.lo
  obtain ⟨R, e⟩ := rowsM_ok h text [] _ (RwOk.start a b t h) hc
  rw [List.nil_append] at R
  have hne : (rowsM a b [((0, false), [])] text).map (·.2) ≠ [] := fun z => R.ne (List.map_eq_nil_iff.mp z)
  obtain ⟨_, h2, h3⟩ := bestR_spec hne
  obtain ⟨e0, h4, h5⟩ := List.mem_map.mp h2
  obtain ⟨o1, o2, o3, o4, o5⟩ := R.one e0 h4
  have h6 : e0.2 = leastM a b text := h5
  rw [h6] at o2 o3 o5
  have e1 : allC a b [((0, false), [])] text = costM a b text 0 false := by
    show minN [0 + costM a b text 0 false] = _
    rw [Nat.zero_add]; rfl
  have e2 : (leastM a b text).length = costM a b text 0 false := by
    rw [← e1, ← e]
    unfold allC
    refine Nat.le_antisymm ?_ ?_
    · obtain ⟨e3, h7, h8⟩ := List.mem_map.mp (minN_mem (l := (rowsM a b [((0, false), [])] text).map fun e => e.2.length + costM a b [] e.1.1 e.1.2) fun z => R.ne (List.map_eq_nil_iff.mp z))
      rw [← h8]
      have := h3 e3.2 (List.mem_map.mpr ⟨e3, h7, rfl⟩)
      exact Nat.le_trans this (Nat.le_add_right _ _)
    · have := minN_le (l := (rowsM a b [((0, false), [])] text).map fun e => e.2.length + costM a b [] e.1.1 e.1.2) (List.mem_map.mpr ⟨e0, h4, rfl⟩)
      rw [h6] at this
      exact this
  refine ⟨⟨o2, o3, fun r' c1 c2 => ?_⟩, e2, o5⟩
  rw [e2]
  exact cost_le h text st0 r' (by show 0 < a.length; omega) c1 c2
/-! ### least_row -/
theorem rwD_put {L : RwL} {q : Spot} {r : List Nat} (h : q ∉ L.map (·.1)) : putS (rwD L) (spd q) (.str r) = rwD (L ++ [(q, r)]) := by
  have h3 : ((rwD L).any fun p => decide (p.1 = spd q)) = false := by
    cases e : (rwD L).any fun p => decide (p.1 = spd q) with
    | false => rfl
    | true =>
      obtain ⟨p, hp, z⟩ := List.any_eq_true.mp e
      obtain ⟨y, hy, rfl⟩ := List.mem_map.mp hp
      have := spd_inj.mp (of_decide_eq_true z)
      exact absurd (List.mem_map.mpr ⟨y, hy, this⟩) h
  unfold putS
  rw [h3, if_neg (by simp)]
  simp [rwD]
theorem lr_cands {a b : List Nat} {t : Nat} (h : IsW a b t) {L : RwL} (hn : (L.map (·.1)).Nodup) (hl : L.length ≤ 10) (hL : ∀ e ∈ L, e.1.1 < a.length ∧ e.2.length ≤ 2000) (s3 s4 : Option SV) (q : Spot) :
    c_least_row_2 [some (.fz (wd a b t)), none, some (.fz (.dcn (rwD L))), s3, s4, some (.fz (spd q)), none, none, none] = .ok (.lst ((candR a.length L q).map .str), [some (.fz (wd a b t)), none, some (.fz (.dcn (rwD L))), s3, s4, some (.fz (spd q)), none, none, none]) := by
  have hh := h.hi
  have e : (candR a.length L q).map D.str = L.map fun e => D.str (e.2 ++ stepR a.length e.1.1 e.1.2 q) := by unfold candR; rw [List.map_map]; rfl
  rw [e]
  refine nComp_mp (ws := [7]) (ρ' := [some (.fz (wd a b t)), none, some (.fz (.dcn (rwD L))), s3, s4, some (.fz (spd q)), none, none, none]) (ds := L.map fun e => spd e.1) (fun e => spd e.1) (fun e => D.str (e.2 ++ stepR a.length e.1.1 e.1.2 q)) L ?_ rfl (by omega) rfl fun e0 he => ?_
  · have : (rwD L).map (fun p => p.1) = L.map fun e => spd e.1 := by unfold rwD; rw [List.map_map]; rfl
    simp -dsimp [this]
  · obtain ⟨h1, h2⟩ := hL e0 he
    have e1 := rwD_look hn he
    have e2 : gIxD (.dcn (rwD L)) (spd e0.1) = .ok (.str e0.2) := by rw [gIxD_dcn (h := rfl), e1]; rfl
    have e3 := step_row_eq (q := q) h h1
    have hs : (stepR a.length e0.1.1 e0.1.2 q).length ≤ 40 := by rw [stepR_len]; have := stepC_le (w := e0.1.2) (q := q) h1; omega
    generalize stepR a.length e0.1.1 e0.1.2 q = z at *
    have hz : e0.2.length + z.length ≤ 1000000 := by omega
    simp -dsimp [e2, e3, hz]
theorem lr_lens {L : List (List Nat)} (hl : L.length ≤ 10) (hL : ∀ r ∈ L, r.length ≤ 3000) (s0 s2 s3 s4 s5 : Option SV) :
    c_least_row_1 [s0, none, s2, s3, s4, s5, some (.ow (.lst (L.map .str))), none, none] = .ok (.lst (L.map lrD), [s0, none, s2, s3, s4, s5, some (.fz (.lst (L.map .str))), none, none]) := by
  refine nComp_mp (ws := [8]) (ρ' := [s0, none, s2, s3, s4, s5, some (.fz (.lst (L.map .str))), none, none]) (ds := L.map .str) (fun r => .str r) (fun r => lrD r) L ?_ rfl (by omega) rfl fun r hr => ?_
  · simp -dsimp
  · have := hL r hr
    simp -dsimp (disch := omega)
theorem lr_inner {a b : List Nat} {t : Nat} (h : IsW a b t) {L : RwL} (hne : L ≠ []) (hn : (L.map (·.1)).Nodup) (hl : L.length ≤ 10) (hL : ∀ e ∈ L, e.1.1 < a.length ∧ e.2.length ≤ 2000) (s3 : Option SV) : ∀ (qs : List Spot) (done : RwL), qs.Nodup → (∀ q ∈ qs, q ∉ done.map (·.1)) → done.length + qs.length ≤ 100 →
    forIn (gName 5) b_least_row_0 (qs.map spd) [some (.fz (wd a b t)), none, some (.fz (.dcn (rwD L))), s3, some (.ow (.dcn (rwD done))), none, none, none, none] =
      .ok (.nx [some (.fz (wd a b t)), none, some (.fz (.dcn (rwD L))), s3, some (.ow (.dcn (rwD (done ++ qs.map fun q => (q, bestR (candR a.length L q)))))), none, none, none, none])
  | [], done, _, _, _ => by simp
  | q :: qs, done, hq, hd, hk => by
    simp only [List.length_cons] at hk
    rw [List.nodup_cons] at hq
    have c2 := lr_cands h hn hl hL s3 (some (.ow (.dcn (rwD done)))) q
    have hcl : (candR a.length L q).length ≤ 10 := by unfold candR; rw [List.length_map]; exact hl
    have hcr : ∀ r ∈ candR a.length L q, r.length ≤ 3000 := fun r hr => by
      obtain ⟨e0, he, rfl⟩ := List.mem_map.mp hr
      obtain ⟨h1, h2⟩ := hL e0 he
      have := stepC_le (w := e0.1.2) (q := q) h1
      have := h.hi
      rw [List.length_append, stepR_len]
      omega
    have c1 := lr_lens hcl hcr (some (.fz (wd a b t))) (some (.fz (.dcn (rwD L)))) s3 (some (.ow (.dcn (rwD done)))) (some (.fz (spd q)))
    obtain ⟨g1, g2, _⟩ := bestR_spec (L := candR a.length L q) fun z => hne (List.map_eq_nil_iff.mp z)
    have hp := rwD_put (r := bestR (candR a.length L q)) (hd q List.mem_cons_self)
    have hlen : (rwD done).length < 1000000 := by unfold rwD; rw [List.length_map]; omega
    have kk : (spd q).keyOk = true := rfl
    have ht : turn (gName 5) b_least_row_0 (spd q) [some (.fz (wd a b t)), none, some (.fz (.dcn (rwD L))), s3, some (.ow (.dcn (rwD done))), none, none, none, none] = .ok (.nx [some (.fz (wd a b t)), none, some (.fz (.dcn (rwD L))), s3, some (.ow (.dcn (rwD (done ++ [(q, bestR (candR a.length L q))])))), none, none, none, none]) := by
      generalize (candR a.length L q).map D.str = Z1 at *
      generalize (candR a.length L q).map lrD = Z2 at *
      generalize bestR (candR a.length L q) = br at *
      simp -dsimp [b_least_row_0, c2, c1, g1, hp, kk, hlen]
    rw [List.map_cons, forIn_nx ht]
    have ih := lr_inner h hne hn hl hL s3 qs (done ++ [(q, bestR (candR a.length L q))]) hq.2 (fun x hx z => by
      rw [List.map_append, List.mem_append] at z
      rcases z with z | z
      · exact hd x (List.mem_cons_of_mem _ hx) z
      · rw [List.map_cons, List.map_nil, List.mem_singleton] at z
        rw [z] at hx
        exact hq.1 hx) (by rw [List.length_append, List.length_singleton]; omega)
    rw [ih, List.append_assoc]
    rfl
theorem RwOk.few {a b : List Nat} {L : RwL} {c : Nat} : (nextR a b L c).length ≤ 10 := by
  unfold nextR
  rw [List.length_map]
  have := spotL_few a b c
  omega
theorem lr_outer {a b : List Nat} {t : Nat} (h : IsW a b t) : ∀ (text pre : List Nat) (L : RwL) (s1 : Option SV), RwOk a b t pre L → L.length ≤ 10 → (∀ c ∈ text, c ∈ a ∨ c ∈ b) → pre.length + text.length ≤ 60 →
    ∃ s1', forIn (gName 3) b_least_row_1 (chs text) [some (.fz (wd a b t)), s1, some (.fz (.dcn (rwD L))), none, none, none, none, none, none] =
      .ok (.nx [some (.fz (wd a b t)), s1', some (.fz (.dcn (rwD (rowsM a b L text)))), none, none, none, none, none, none])
  | [], pre, L, s1, _, _, _, _ => ⟨s1, rfl⟩
  | c :: text, pre, L, s1, R, hl, hc, hk => by
    simp only [List.length_cons] at hk
    have hc1 := hc c List.mem_cons_self
    have hh := h.hi
    have hL : ∀ e ∈ L, e.1.1 < a.length ∧ e.2.length ≤ 2000 := fun e he => by
      obtain ⟨o1, _, _, _, o5⟩ := R.one e he
      have := Nat.mul_le_mul (show a.length + 1 ≤ 31 by omega) (show pre.length ≤ 60 by omega)
      exact ⟨o1, by omega⟩
    have sp := spots_of_eq h c
    have inn := lr_inner h R.ne R.nd hl hL (some (.fz (.str [c]))) (spotL a b c) [] (spotL_nd a b c) (fun _ _ z => (nomatch z)) (by have := spotL_few a b c; simp; omega)
    have inn' : forIn (gName 5) b_least_row_0 ((spotL a b c).map spd) [some (.fz (wd a b t)), none, some (.fz (.dcn (rwD L))), some (.fz (.str [c])), some (.ow (.dcn [])), none, none, none, none] = .ok (.nx [some (.fz (wd a b t)), none, some (.fz (.dcn (rwD L))), some (.fz (.str [c])), some (.ow (.dcn (rwD (nextR a b L c)))), none, none, none, none]) := inn
    have ht : turn (gName 3) b_least_row_1 (.str [c]) [some (.fz (wd a b t)), s1, some (.fz (.dcn (rwD L))), none, none, none, none, none, none] = .ok (.nx [some (.fz (wd a b t)), none, some (.fz (.dcn (rwD (nextR a b L c)))), none, none, none, none, none, none]) := by
      generalize (spotL a b c).map spd = Z at *
      simp -dsimp [b_least_row_1, sp, inn']
    obtain ⟨s1', ih⟩ := lr_outer h text (pre ++ [c]) (nextR a b L c) none (R.next h hc1) RwOk.few (fun d hd => hc d (List.mem_cons_of_mem _ hd)) (by rw [List.length_append, List.length_singleton]; omega)
    exact ⟨s1', by rw [show chs (c :: text) = .str [c] :: chs text from rfl, forIn_nx ht]; exact ih⟩
theorem rowsM_few {a b : List Nat} : ∀ (text : List Nat) (L : RwL), L.length ≤ 10 → (rowsM a b L text).length ≤ 10
  | [], _, h => h
  | c :: text, L, _ => rowsM_few text (nextR a b L c) RwOk.few
theorem least_row_eq {a b : List Nat} {t : Nat} (h : IsW a b t) {text : List Nat} (hl : text.length ≤ 60) (hc : ∀ c ∈ text, c ∈ a ∨ c ∈ b) : F_least_row [wd a b t, .str text] = .ok (.str (leastM a b text)) := by
  have hh := h.hi
  obtain ⟨s1', lp⟩ := lr_outer h text [] [((0, false), [])] (some (.fz (.str text))) (RwOk.start a b t h) (by simp) hc (by simpa using hl)
  have lp' : forIn (gName 3) b_least_row_1 (chs text) [some (.fz (wd a b t)), some (.fz (.str text)), some (.fz (.dcn [(.tup [.int 0, .str [108]], .str [])])), none, none, none, none, none, none] = _ := lp
  obtain ⟨R, _⟩ := rowsM_ok h text [] _ (RwOk.start a b t h) hc
  rw [List.nil_append] at R
  have few := rowsM_few (a := a) (b := b) text [((0, false), [])] (by simp)
  obtain ⟨g1, g2, _⟩ := bestR_spec (L := (rowsM a b [((0, false), [])] text).map (·.2)) fun z => R.ne (List.map_eq_nil_iff.mp z)
  have hb : bestR ((rowsM a b [((0, false), [])] text).map (·.2)) = leastM a b text := rfl
  rw [hb] at g1
  generalize rowsM a b [((0, false), [])] text = L at *
  have hr : ∀ r ∈ L.map (·.2), r.length ≤ 3000 := fun r hr => by
    obtain ⟨e, he, rfl⟩ := List.mem_map.mp hr
    obtain ⟨_, _, _, _, o5⟩ := R.one e he
    have := Nat.mul_le_mul (show a.length + 1 ≤ 31 by omega) hl
    omega
  have c0 : c_least_row_0 [some (.fz (wd a b t)), s1', some (.fz (.dcn (rwD L))), none, none, none, none, none, none] = .ok (.lst ((L.map (·.2)).map lrD), [some (.fz (wd a b t)), s1', some (.fz (.dcn (rwD L))), none, none, none, none, none, none]) := by
    refine nComp_mp (ws := [8]) (ρ' := [some (.fz (wd a b t)), s1', some (.fz (.dcn (rwD L))), none, none, none, none, none, none]) (ds := (L.map (·.2)).map .str) (fun r => .str r) (fun r => lrD r) (L.map (·.2)) ?_ rfl (by rw [List.length_map]; omega) rfl fun r hq => ?_
    · have : (rwD L).map (fun p => p.2) = (L.map (·.2)).map .str := by unfold rwD; rw [List.map_map, List.map_map]; rfl
      simp -dsimp [this]
    · have := hr r hq
      simp -dsimp (disch := omega)
  have kk : (D.tup [.int 0, .str [108]]).keyOk = true := rfl
  have cut : cutL [D.int 0, .str [108], .int 0] none (some 2) = [.int 0, .str [108]] := rfl
  generalize (L.map (·.2)).map lrD = Z at *
  simp -dsimp [F_least_row, B_least_row, start, cut, kk, lp', c0, g1]
theorem row_for_eq {a b : List Nat} {t : Nat} (h : IsW a b t) {text : List Nat} (hl : text.length ≤ 30) (hc : ∀ c ∈ text, c ∈ a ∨ c ∈ b) : F_row_for [wd a b t, .str text] = .ok (.str (leastM a b text)) := by
  have nt : F_need_text [wd a b t, .str text, .int 30] = .ok .non := need_text_eq h (m := 30) hl (by omega) hc
  simp -dsimp [F_row_for, B_row_for, start, nt, least_row_eq h (show text.length ≤ 60 by omega) hc]
/-! ### least, writes -/
theorem leastM_bd {a b : List Nat} {t : Nat} (h : IsW a b t) {text : List Nat} (hl : text.length ≤ 30) (hc : ∀ c ∈ text, c ∈ a ∨ c ∈ b) : (leastM a b text).length ≤ 930 := by
  obtain ⟨_, _, l3⟩ := leastM_ok h hc
  have hh := h.hi
  have := Nat.mul_le_mul (show a.length + 1 ≤ 31 by omega) hl
  omega
theorem least_eq {a b : List Nat} {t : Nat} (h : IsW a b t) {text : List Nat} (hl : text.length ≤ 30) (hc : ∀ c ∈ text, c ∈ a ∨ c ∈ b) : F_least [wd a b t, .str text] = .ok (.int (leastM a b text).length) := by
  have nt : F_need_text [wd a b t, .str text, .int 30] = .ok .non := need_text_eq h (m := 30) hl (by omega) hc
  have := leastM_bd h hl hc
  simp -dsimp (disch := omega) [F_least, B_least, start, nt, least_row_eq h (show text.length ≤ 60 by omega) hc]
/-- the last print of a row -/
theorem last_print {a b : List Nat} {t : Nat} : ∀ (text : List Nat) (c : Nat) (s : Std) (r : List Nat), runT a b t s r = text ++ [c] → ∃ u v, r = u ++ 112 :: v ∧ runT a b t s u = text
  | [], c, s, r, h => by
    obtain ⟨u, v, h1, h2, _, _⟩ := first_print r s c [] h
    exact ⟨u, v, h1, List.length_eq_zero_iff.mp (by rw [runT_len]; exact List.count_eq_zero.mpr h2)⟩
  | d :: text, c, s, r, h => by
    obtain ⟨u, v, h1, h2, h3, h4⟩ := first_print r s d (text ++ [c]) h
    obtain ⟨u', v', g1, g2⟩ := last_print text c _ v h4
    refine ⟨u ++ 112 :: u', v', by rw [h1, g1]; simp, ?_⟩
    rw [runT_app]
    have e0 : runT a b t s u = [] := List.length_eq_zero_iff.mp (by rw [runT_len]; exact List.count_eq_zero.mpr h2)
    rw [e0, List.nil_append]
    show [(if (runS a.length t s u).w = true then b else a).getD (runS a.length t s u).p 0] ++ runT a b t ⟨(runS a.length t s u).p, (runS a.length t s u).w, 0⟩ u' = d :: text
    rw [h3, g2]; rfl
/-- a sign more needs more pulses -/
theorem least_more {a b : List Nat} {t : Nat} {s : Std} {text r r' : List Nat} {c : Nat} (h1 : LeastR a b t s text r) (h2 : LeastR a b t s (text ++ [c]) r') : r.length < r'.length := by
  obtain ⟨u, v, e, hu⟩ := last_print text c s r' h2.shows
  have := h1.least u (fun d hd => h2.pul d (by rw [e]; exact List.mem_append_left _ hd)) hu
  rw [e, List.length_append, List.length_cons]
  omega
/-! ### rowed -/
theorem rowed_loop {a b : List Nat} {t : Nat} (h : IsW a b t) (z : Option SV) : ∀ (r : List Nat) (s : Std) (tx : List Nat), s.p < a.length → (∀ c ∈ r, c ∈ PUL) → tx.length + r.length ≤ 1000000 →
    forIn (gName 4) b_rowed_0 (chs r) [some (.fz (wd a b t)), some (.fz (sd s)), z, some (.fz (.str tx)), none, none] =
      .ok (.nx [some (.fz (wd a b t)), some (.fz (sd (runS a.length t s r))), z, some (.fz (.str (tx ++ runT a b t s r))), none, none])
  | [], s, tx, _, _, _ => by simp -dsimp [runS, runT]
  | c :: r, s, tx, hp, hc, hl => by
    simp only [List.length_cons] at hl
    have ih := rowed_loop h z r (nxt a.length t s c) (tx ++ shw a b s c) (nxt_lt c hp) (fun x hx => hc x (List.mem_cons_of_mem _ hx)) (by have := shw_len a b s c; simp only [List.length_append]; omega)
    have e := pulsed_eq h hp (hc c List.mem_cons_self)
    have hs := shw_len a b s c
    have et : tx ++ runT a b t s (c :: r) = (tx ++ shw a b s c) ++ runT a b t (nxt a.length t s c) r := by rw [runT, List.append_assoc]
    have ht : turn (gName 4) b_rowed_0 (.str [c]) [some (.fz (wd a b t)), some (.fz (sd s)), z, some (.fz (.str tx)), none, none] = .ok (.nx [some (.fz (wd a b t)), some (.fz (sd (nxt a.length t s c))), z, some (.fz (.str (tx ++ shw a b s c))), none, none]) := by
      simp -dsimp (disch := omega) [b_rowed_0, e]
    show forIn _ _ (.str [c] :: chs r) _ = _
    rw [et, forIn_turn, ht]
    exact ih
theorem rowed_eq {a b : List Nat} {t : Nat} (h : IsW a b t) {s : Std} (hp : s.p < a.length) {r : List Nat} (hc : ∀ c ∈ r, c ∈ PUL) (hl : r.length ≤ 1000000) :
    F_rowed [wd a b t, sd s, .str r] = .ok (.tup [sd (runS a.length t s r), .str (runT a b t s r)]) := by
  have e := rowed_loop h (some (.fz (.str r))) r s [] hp hc (by simpa using hl)
  simp -dsimp [F_rowed, B_rowed, start, e]
/-! ### rows -/
theorem row_eq {r : List Nat} (m : Int) (hl : r.length ≤ 1000000) : F_is_row [.str r, .int m] = .ok (.bl (decide ((r.length : Int) ≤ m) && r.all fun c => decide (c ∈ PUL))) := by
  have hc : c_is_row_0 [some (.fz (.str r)), some (.fz (.int m)), none] = .ok (.lst (r.map fun c => .bl (decide (c ∈ PUL))), [some (.fz (.str r)), some (.fz (.int m)), none]) :=
    nComp_mp (ρ' := [some (.fz (.str r)), some (.fz (.int m)), none]) (ds := chs r) (fun c => .str [c]) (fun c => .bl (decide (c ∈ PUL))) r (by simp -dsimp) rfl hl rfl
      (fun c _ => rfl)
  by_cases h1 : (r.length : Int) ≤ m <;> simp -dsimp (disch := omega) [F_is_row, B_is_row, start, h1, hc, gAll_map]
theorem need_row_ok {r : List Nat} {m : Int} (hl : (r.length : Int) ≤ m) (hm : m ≤ 1000000) (hc : ∀ c ∈ r, c ∈ PUL) : F_need_row [.str r, .int m] = .ok .non := by
  have e := row_eq (r := r) m (by omega)
  have h2 : (r.all fun c => decide (c ∈ PUL)) = true := List.all_eq_true.mpr fun c h => decide_eq_true (hc c h)
  simp -dsimp [F_need_row, B_need_row, start, e, hl, h2]
/-! ### a sign taken out -/
theorem mPop_at {ds : List D} {r : Nat} (h : r < ds.length) (hr : r < 1000000) : mPop (.lst ds) [.int r] = .ok (ds[r], .lst (ds.eraseIdx r)) := by
  have h1 : inW (r : Int) = true ∧ (0 : Int) ≤ r := ⟨by simp [inW]; omega, by omega⟩
  simp [mPop, h1, h, ofO]
theorem erase_map {α β : Type} (f : α → β) : ∀ (l : List α) (r : Nat), (l.map f).eraseIdx r = (l.eraseIdx r).map f
  | [], _ => by simp
  | x :: l, 0 => rfl
  | x :: l, r + 1 => by simp [erase_map f l r]
theorem erase_perm : ∀ (l : List Nat) (r : Nat) (h : r < l.length), (l[r] :: l.eraseIdx r).Perm l
  | x :: l, 0, _ => .refl _
  | x :: l, r + 1, h => ((List.Perm.swap _ _ _).trans (List.Perm.cons x (erase_perm l r (by simpa using h))))
/-! ### wheelsD -/
def POOL : List Nat := [97, 98, 99, 120, 121, 122, 48, 49, 57, 32, 46, 44, 45]
theorem wheel_loop (ns : List Int) (M : D) : ∀ (ks : List D) (n : Nat) (L made : List Nat), ks.length ≤ L.length → L.length ≤ 1000 → n + ks.length ≤ 100000 → made.length + ks.length ≤ 1000 →
    ∃ (L' made' : List Nat), forIn (gName 3) b_l_wheel_0 ks
      [some (.fz (.scr ns)), some (.io (tn n)), some (.fz M), none, some (.ow (.lst (chs L))), some (.fz (.str made))] =
      .ok (.nx [some (.fz (.scr ns)), some (.io (tn (n + ks.length))), some (.fz M), none, some (.ow (.lst (chs L'))), some (.fz (.str made'))]) ∧ (made' ++ L').Perm (made ++ L) ∧ made'.length = made.length + ks.length
  | [], n, L, made, _, _, _, _ => ⟨L, made, rfl, .refl _, rfl⟩
  | k :: ks, n, L, made, h1, h2, h3, h4 => by
    simp only [List.length_cons] at h1 h3 h4
    obtain ⟨r, r1, r2⟩ := draw_ex ns (n := n) (m := (L.length : Int)) (by omega) (by omega)
    have r3 : r < L.length := by omega
    have r3' : r < (chs L).length := by simpa using r3
    obtain ⟨L', made', e1, e2, e3⟩ := wheel_loop ns M ks (n + 1) (L.eraseIdx r) (made ++ [L[r]]) (by rw [List.length_eraseIdx_of_lt r3]; omega) (by rw [List.length_eraseIdx_of_lt r3]; omega) (by omega) (by simp; omega)
    refine ⟨L', made', ?_, e2.trans ?_, by rw [e3]; simp; omega⟩
    · have hp := mPop_at r3' (by omega)
      have he : (chs L).eraseIdx r = chs (L.eraseIdx r) := erase_map _ _ _
      have hg : (chs L)[r] = .str [L[r]] := by simp [chs]
      rw [he, hg] at hp
      have e4 : n + 1 + ks.length = n + (ks.length + 1) := by omega
      rw [e4] at e1
      have ht : turn (gName 3) b_l_wheel_0 k [some (.fz (.scr ns)), some (.io (tn n)), some (.fz M), none, some (.ow (.lst (chs L))), some (.fz (.str made))] =
          .ok (.nx [some (.fz (.scr ns)), some (.io (tn (n + 1))), some (.fz M), none, some (.ow (.lst (chs (L.eraseIdx r)))), some (.fz (.str (made ++ [L[r]])))]) := by
        simp -dsimp (disch := first | omega | (simp; omega)) [b_l_wheel_0, r2, hp, tn]
      rw [forIn_turn, ht]
      exact e1
    · rw [List.append_assoc]
      exact List.Perm.append_left _ (erase_perm L r r3)
theorem wheel_ex (ns : List Int) {n m : Nat} (hm : m ≤ 13) (hn : n ≤ 90000) : ∃ w : List Nat, F_l_wheel (tn n) [.scr ns, .int m] = .ok (.str w, tn (n + m)) ∧ w.length = m ∧ w.Nodup ∧ ∀ c ∈ w, c ∈ POOL := by
  obtain ⟨L', w, e1, e2, e3⟩ := wheel_loop ns (.int m) (rangeL 0 m) n POOL [] (by simp [rangeL, POOL]; omega) (by simp [POOL]) (by simp [rangeL]; omega) (by simp [rangeL]; omega)
  have hl : (rangeL 0 m).length = m := by simp [rangeL]
  rw [hl] at e1 e3
  have hi : inI (m : Int) = true := by simp [inI]; omega
  have hnd : (w ++ L').Nodup := e2.nodup_iff.mpr (by decide)
  refine ⟨w, ?_, by simpa using e3, (List.nodup_append.mp hnd).1, fun c hc => ?_⟩
  · have e4 : (chs POOL) = [.str [97], .str [98], .str [99], .str [120], .str [121], .str [122], .str [48], .str [49], .str [57], .str [32], .str [46], .str [44], .str [45]] := rfl
    rw [e4] at e1
    simp -dsimp (disch := first | omega | (simp; done) | (simp; omega)) [F_l_wheel, B_l_wheel, startIO, hi, e1]
  · have h1 : c ∈ ([] : List Nat) ++ POOL := e2.mem_iff.mp (List.mem_append_left _ hc)
    exact h1
theorem pool_sig : ∀ c ∈ POOL, c ∈ SIG := by decide
theorem wheels_ex (ns : List Int) {n : Nat} (most : Nat) (hm1 : 2 ≤ most) (hm : most ≤ 13) (hn : n ≤ 80000) : ∃ (a b : List Nat) (t : Nat) (n' : Nat), F_l_wheels (tn n) [.scr ns, .int most] = .ok (wd a b t, tn n') ∧ IsW a b t ∧ a.length ≤ most ∧ n' ≤ n + 30 ∧ (∀ c ∈ a, c ∈ POOL) ∧ ∀ c ∈ b, c ∈ POOL := by
  obtain ⟨r, r1, r2⟩ := draw_ex ns (n := n) (m := (most : Int) - 1) (by omega) (by omega)
  obtain ⟨a, a1, a2, a3, a4⟩ := wheel_ex ns (n := n + 1) (m := 2 + r) (by omega) (by omega)
  obtain ⟨b, b1, b2, b3, b4⟩ := wheel_ex ns (n := n + 1 + (2 + r)) (m := 2 + r) (by omega) (by omega)
  obtain ⟨u, u1, u2⟩ := draw_ex ns (n := n + 1 + (2 + r) + (2 + r)) (m := 3) (by omega) (by omega)
  refine ⟨a, b, 1 + u, n + 1 + (2 + r) + (2 + r) + 1, ?_, ⟨fun c h => pool_sig c (a4 c h), fun c h => pool_sig c (b4 c h), a3, b3, by omega, by omega, by omega, by omega, by omega⟩, by omega, by omega, a4, b4⟩
  push_cast at a1 b1
  simp -dsimp (disch := first | omega) [F_l_wheels, B_l_wheels, startIO, r2, a1, b1, u2]
/-! ### chars -/
theorem chars_of {ds : List D} {S : List Nat} : (∀ d ∈ ds, ∃ c ∈ S, d = D.str [c]) → ∃ r : List Nat, ds = chs r ∧ ∀ c ∈ r, c ∈ S := by
  induction ds with
  | nil => exact fun _ => ⟨[], rfl, fun _ h => nomatch h⟩
  | cons d ds ih =>
    intro h
    obtain ⟨c, hc, e⟩ := h d List.mem_cons_self
    obtain ⟨r, hr, h2⟩ := ih fun d hd => h d (List.mem_cons_of_mem _ hd)
    refine ⟨c :: r, by rw [e, hr]; rfl, fun x hx => ?_⟩
    rcases List.mem_cons.mp hx with q | q
    · rw [q]; exact hc
    · exact h2 x q
theorem join_chs (r : List Nat) (h : r.length ≤ 1000000) : gJoin (.str []) [.lst (chs r)] = .ok (.str r) := by
  have e : r.flatMap (fun c => [c]) = r := by simp
  have z := gJoin_nil (fun c => [c]) r (by rw [e]; exact h)
  rw [e] at z
  exact z
/-! ### rowD -/
theorem row_ex (ns : List Int) {n m : Nat} (hm : m ≤ 1000) (hn : n ≤ 90000) : ∃ (r : List Nat) (n' : Nat), F_l_row (tn n) [.scr ns, .int m] = .ok (.str r, tn n') ∧ (∀ c ∈ r, c ∈ PUL) ∧ r.length ≤ m ∧ n' ≤ n + m + 1 := by
  obtain ⟨k, k1, k2⟩ := draw_ex ns (n := n) (m := (m : Int) + 1) (by omega) (by omega)
  have hi := inI_nat (n := k) (by omega)
  obtain ⟨ds, n', e1, e2, e3, e4⟩ := nComp_st (it := iRange1 (fCallIO F_l_draw 1 (fVar 0) (aCons (fOp gAdd (fVar 2) (fC (.int 1))) aNil))) (ws := [3]) (g := gName 3) (t := tYes) (e := fCallIO F_l_pick 1 (fVar 0) (aCons (fOfN (nList (fC (.str [115, 115, 115, 115, 112, 112, 108, 102])))) aNil))
    (ρ := [some (.fz (.scr ns)), some (.io (tn n)), some (.fz (.int m)), none]) (ds := rangeL 0 k)
    (fun n => [some (.fz (.scr ns)), some (.io (tn n)), some (.fz (.int m)), none]) (fun (k : Nat) => .int k) (fun d => ∃ c ∈ PUL, d = D.str [c]) (fun j n' => n' = n + 1 + j) (List.range k) (n + 1)
    (by simp -dsimp (disch := omega) [k2, hi]) (range0 _) (by simp; omega) rfl rfl fun j x n1 hx h1 hj => by
      obtain ⟨d, d1, d2⟩ := pick_ex ns (n := n1) (ds := chs [115, 115, 115, 115, 112, 112, 108, 102]) (by simp at hj; omega) (by simp)
      refine ⟨d, n1 + 1, ?_, ?_, by omega⟩
      · have d2' : F_l_pick (D.lst (List.replicate n1 (D.int 0))) [D.scr ns, D.lst [.str [115], .str [115], .str [115], .str [115], .str [112], .str [112], .str [108], .str [102]]] = _ := d2
        simp -dsimp (disch := first | omega | (simp; done)) [d2']
      · obtain ⟨c, hc, e⟩ := List.mem_map.mp d1
        refine ⟨c, ?_, e.symm⟩
        have : ∀ c ∈ [115, 115, 115, 115, 112, 112, 108, 102], c ∈ PUL := by decide
        exact this c hc
  obtain ⟨r, r1, r2⟩ := chars_of e3
  subst r1
  simp at e2 e4
  have hj := join_chs r (by omega)
  refine ⟨r, n', ?_, r2, by omega, by omega⟩
  have e1' : c_l_row_0 [some (.fz (.scr ns)), some (.io (tn n)), some (.fz (.int m)), none] = _ := e1
  simp -dsimp [F_l_row, B_l_row, startIO, e1', tyD, hj]
/-! ### signs of wheels -/
def sigs (a b : List Nat) : List (List Nat) := sortU ltS ((a ++ b).map fun c => [c])
theorem sigs_mem (a b : List Nat) (z : List Nat) : z ∈ sigs a b ↔ ∃ c, (c ∈ a ∨ c ∈ b) ∧ z = [c] := by
  unfold sigs
  rw [mem_sortU totS, List.mem_map]
  constructor
  · rintro ⟨c, hc, rfl⟩; exact ⟨c, List.mem_append.mp hc, rfl⟩
  · rintro ⟨c, hc, rfl⟩; exact ⟨c, List.mem_append.mpr hc, rfl⟩
theorem sub_len [DecidableEq α] : ∀ {l k : List α}, l.Nodup → (∀ x ∈ l, x ∈ k) → l.length ≤ k.length
  | [], _, _, _ => Nat.zero_le _
  | x :: l, k, h, hs => by
    obtain ⟨h1, h2⟩ := List.nodup_cons.mp h
    have hx : x ∈ k := hs x List.mem_cons_self
    have := sub_len (l := l) (k := k.erase x) h2 fun y hy => (List.mem_erase_of_ne fun (e : y = x) => h1 (e ▸ hy)).mpr (hs y (List.mem_cons_of_mem _ hy))
    rw [List.length_erase_of_mem hx] at this
    have := List.length_pos_of_mem hx
    simp only [List.length_cons]
    omega
theorem sigs_few {a b : List Nat} {t : Nat} (h : IsW a b t) : (sigs a b).length ≤ 40 := by
  have := sub_len (l := sigs a b) (k := SIG.map fun c => [c]) (pw_nodup totS (sortU_pw totS _)) fun z hz => by
    obtain ⟨c, hc, rfl⟩ := (sigs_mem a b z).mp hz
    exact List.mem_map.mpr ⟨c, hc.elim (h.sa c) (h.sb c), rfl⟩
  simpa [SIG] using this
theorem sortSet_str {l : List Nat} (h1 : l.length ≤ 4000) (h2 : (sortU ltS (l.map fun c => [c])).length < 64) : sortSet (.str l) = .ok (.lst ((sortU ltS (l.map fun c => [c])).map .str)) := by
  simp [sortSet, setI, setS, h1, h2]
theorem sortSet_w {a b : List Nat} {t : Nat} (h : IsW a b t) : sortSet (.str (a ++ b)) = .ok (.lst ((sigs a b).map .str)) := by
  have := sigs_few h
  have hh := h.hi
  have he := h.eq
  exact sortSet_str (by simp; omega) (by unfold sigs at this; omega)
theorem gJoin_ok {ss : List (List Nat)} (h : (ss.map List.length).sum ≤ 1000000) : gJoin (.str []) [.lst (ss.map .str)] = .ok (.str ss.flatten) := by
  show joinD [] (ss.map .str) = _
  unfold joinD
  rw [allOf_str]
  simp [ofO, h, joinL_nil]
theorem sum_ones : ∀ {ss : List (List Nat)}, (∀ z ∈ ss, z.length = 1) → (ss.map List.length).sum = ss.length
  | [], _ => rfl
  | z :: ss, h => by simp [h z List.mem_cons_self, sum_ones fun y hy => h y (List.mem_cons_of_mem _ hy)]; omega
theorem mem_sigs {a b : List Nat} {c : Nat} : c ∈ (sigs a b).flatten ↔ c ∈ a ∨ c ∈ b := by
  rw [List.mem_flatten]
  constructor
  · rintro ⟨z, hz, hc⟩
    obtain ⟨d, hd, rfl⟩ := (sigs_mem a b z).mp hz
    rw [List.mem_singleton] at hc
    subst hc; exact hd
  · intro hc
    exact ⟨[c], (sigs_mem a b _).mpr ⟨c, hc, rfl⟩, List.mem_singleton.mpr rfl⟩
/-- .. as one text -/
def sgl (a b : List Nat) : List Nat := (sigs a b).flatten
theorem sigs_ones : ∀ {ss : List (List Nat)}, (∀ z ∈ ss, ∃ c, z = [c]) → ss = ss.flatten.map fun c => [c]
  | [], _ => rfl
  | z :: ss, h => by
    obtain ⟨c, rfl⟩ := h z List.mem_cons_self
    rw [List.flatten_cons, List.map_append, ← sigs_ones fun y hy => h y (List.mem_cons_of_mem _ hy)]; rfl
theorem sigs_sgl (a b : List Nat) : (sigs a b).map D.str = chs (sgl a b) := by
  have e := sigs_ones (ss := sigs a b) fun z hz => by obtain ⟨c, _, e⟩ := (sigs_mem a b z).mp hz; exact ⟨c, e⟩
  conv => lhs; rw [e]
  unfold sgl chs
  rw [List.map_map]; rfl
theorem sgl_len {a b : List Nat} {t : Nat} (h : IsW a b t) : (sgl a b).length ≤ 40 := by
  have := sigs_few h
  have e := congrArg List.length (sigs_sgl a b)
  rw [List.length_map, List.length_map] at e
  omega
theorem sgl_mem {a b : List Nat} {c : Nat} : c ∈ sgl a b ↔ c ∈ a ∨ c ∈ b := mem_sigs
/-- wheels of the same signs have the same sorted signs -/
theorem sgl_same {a b a' b' : List Nat} (h : ∀ c, (c ∈ a ∨ c ∈ b) ↔ (c ∈ a' ∨ c ∈ b')) : sgl a b = sgl a' b' := by
  unfold sgl
  congr 1
  refine eq_of_pw totS (sortU_pw totS _) (sortU_pw totS _) fun y => ?_
  show y ∈ sigs a b ↔ y ∈ sigs a' b'
  rw [sigs_mem, sigs_mem]
  constructor
  · rintro ⟨c, hc, e⟩; exact ⟨c, (h c).mp hc, e⟩
  · rintro ⟨c, hc, e⟩; exact ⟨c, (h c).mpr hc, e⟩
/-! ### texts of drawn signs -/
theorem charsP_of {P : Nat → Prop} : ∀ {ds : List D}, (∀ d ∈ ds, ∃ c, P c ∧ d = D.str [c]) → ∃ l : List Nat, ds = chs l ∧ ∀ c ∈ l, P c
  | [], _ => ⟨[], rfl, fun _ h => nomatch h⟩
  | d :: ds, h => by
    obtain ⟨c, hc, e⟩ := h d List.mem_cons_self
    obtain ⟨l, h1, h2⟩ := charsP_of fun x hx => h x (List.mem_cons_of_mem _ hx)
    refine ⟨c :: l, by rw [e, h1]; rfl, fun x hx => ?_⟩
    rcases List.mem_cons.mp hx with q | q
    · rw [q]; exact hc
    · exact h2 x q
/-! ### texts drawn -/
theorem text_ex (ns : List Int) {n m : Nat} {a b : List Nat} {t : Nat} (h : IsW a b t) (hm : m ≤ 1000) (hn : n ≤ 90000) : ∃ (r : List Nat) (n' : Nat), F_l_text (tn n) [.scr ns, wd a b t, .int m] = .ok (.str r, tn n') ∧ (∀ c ∈ r, c ∈ a ∨ c ∈ b) ∧ r.length ≤ m ∧ n' ≤ n + m + 1 := by
  have hh := h.hi
  have he := h.eq
  have hlo := h.lo
  have ss := sortSet_w h
  rw [sigs_sgl] at ss
  have hne : chs (sgl a b) ≠ [] := fun e => by
    have h0 : sgl a b = [] := List.map_eq_nil_iff.mp e
    cases a with
    | nil => simp at hlo
    | cons c a' => have := (sgl_mem (a := c :: a') (b := b) (c := c)).mpr (.inl (by simp)); rw [h0] at this; cases this
  obtain ⟨k, k1, k2⟩ := draw_ex ns (n := n) (m := (m : Int) + 1) (by omega) (by omega)
  have hi := inI_nat (n := k) (by omega)
  obtain ⟨ds, n', e1, e2, e3, e4⟩ := nComp_st (it := iRange1 (fCallIO F_l_draw 1 (fVar 0) (aCons (fOp gAdd (fVar 3) (fC (.int 1))) aNil))) (ws := [5]) (g := gName 5) (t := tYes) (e := fCallIO F_l_pick 1 (fVar 0) (aCons (fVar 4) aNil))
    (ρ := [some (.fz (.scr ns)), some (.io (tn n)), some (.fz (wd a b t)), some (.fz (.int m)), some (.fz (.lst (chs (sgl a b)))), none]) (ds := rangeL 0 k)
    (fun n => [some (.fz (.scr ns)), some (.io (tn n)), some (.fz (wd a b t)), some (.fz (.int m)), some (.fz (.lst (chs (sgl a b)))), none]) (fun (k : Nat) => .int k) (fun d => ∃ c, (c ∈ a ∨ c ∈ b) ∧ d = D.str [c]) (fun j n' => n' = n + 1 + j) (List.range k) (n + 1)
    (by simp -dsimp (disch := omega) [k2, hi]) (range0 _) (by simp; omega) rfl rfl fun j x n1 hx h1 hj => by
      obtain ⟨d, d1, d2⟩ := pick_ex ns (n := n1) (ds := chs (sgl a b)) (by simp at hj; omega) hne
      refine ⟨d, n1 + 1, ?_, ?_, by omega⟩
      · simp -dsimp (disch := first | omega | (simp; done)) [d2]
      · obtain ⟨c, hc, e⟩ := List.mem_map.mp d1
        exact ⟨c, sgl_mem.mp hc, e.symm⟩
  obtain ⟨r, r1, r2⟩ := charsP_of e3
  subst r1
  simp at e2 e4
  have hj := join_chs r (by omega)
  refine ⟨r, n', ?_, r2, by omega, by omega⟩
  have e1' : c_l_text_0 [some (.fz (.scr ns)), some (.io (tn n)), some (.fz (wd a b t)), some (.fz (.int m)), some (.fz (.lst (chs (sgl a b)))), none] = _ := e1
  simp -dsimp (disch := omega) [F_l_text, B_l_text, startIO, ss, e1', tyD, hj]
/-! ### slips -/
/-- a slip's word -/
def slw (tw : Bool) : List Nat := if tw = true then [116, 119, 105, 99, 101] else [108, 111, 115, 116]
abbrev sld (x : Nat × Bool) : D := .tup [.int x.1, .str (slw x.2)]
/-- how often a pulse comes -/
def tms (sl : List (Nat × Bool)) (k : Nat) : Nat := match sl.foldl (fun o x => if x.1 = k then some x.2 else o) none with
  | none => 1
  | some tw => if tw = true then 2 else 0
theorem tms_le (sl : List (Nat × Bool)) (k : Nat) : tms sl k ≤ 2 := by
  unfold tms
  split
  · omega
  · split <;> omega
/-- the pulses that come -/
def mulF (f : Nat → Nat) : Nat → List Nat → List Nat
  | _, [] => []
  | k, c :: r => List.replicate (f k) c ++ mulF f (k + 1) r
theorem mulF_len {f : Nat → Nat} (h : ∀ k, f k ≤ 2) : ∀ (r : List Nat) (k : Nat), (mulF f k r).length ≤ 2 * r.length
  | [], _ => by simp [mulF]
  | c :: r, k => by
    have := mulF_len h r (k + 1)
    have := h k
    simp only [mulF, List.length_append, List.length_replicate, List.length_cons]
    omega
theorem mulF_mem {f : Nat → Nat} {c : Nat} : ∀ {r : List Nat} {k : Nat}, c ∈ mulF f k r → c ∈ r
  | [], _, h => by simp [mulF] at h
  | x :: r, k, h => by
    rcases List.mem_append.mp h with z | z
    · rw [List.eq_of_mem_replicate z]; exact List.mem_cons_self
    · exact List.mem_cons_of_mem _ (mulF_mem z)
theorem mulF_one {f : Nat → Nat} : ∀ (r : List Nat) (k : Nat), (∀ j, k ≤ j → f j = 1) → mulF f k r = r
  | [], _, _ => rfl
  | c :: r, k, h => by rw [mulF, h k (Nat.le_refl _), mulF_one r (k + 1) fun j hj => h j (by omega)]; rfl
theorem mulF_at {f : Nat → Nat} {n : Nat} : ∀ (r : List Nat) (k : Nat) (c : Nat), (∀ j, j ≠ n → f j = 1) → k ≤ n → r[n - k]? = some c → mulF f k r = r.take (n - k) ++ (List.replicate (f n) c ++ r.drop (n - k + 1))
  | [], _, _, _, _, h => by simp at h
  | x :: r, k, c, h1, h2, h3 => by
    by_cases e : k = n
    · subst e
      simp at h3
      subst h3
      rw [mulF, mulF_one r (k + 1) fun j hj => h1 j (by omega)]
      simp
    · obtain ⟨m, hm⟩ : ∃ m, n - k = m + 1 := ⟨n - k - 1, by omega⟩
      have hm2 : n - (k + 1) = m := by omega
      rw [hm] at h3 ⊢
      have ih := mulF_at r (k + 1) c h1 (by omega) (by rw [hm2]; simpa using h3)
      rw [hm2] at ih
      rw [mulF, h1 k e, ih]
      simp
def slipR (r : List Nat) (sl : List (Nat × Bool)) : List Nat := mulF (tms sl) 0 r
theorem slipR_none (r : List Nat) : slipR r [] = r := mulF_one r 0 fun _ _ => rfl
theorem slipR_one {r : List Nat} {k c : Nat} (tw : Bool) (h : r[k]? = some c) : slipR r [(k, tw)] = r.take k ++ (List.replicate (if tw = true then 2 else 0) c ++ r.drop (k + 1)) := by
  have h1 : ∀ j, j ≠ k → tms [(k, tw)] j = 1 := fun j hj => by
    have : ¬ k = j := fun e => hj e.symm
    simp [tms, this]
  have h2 : tms [(k, tw)] k = if tw = true then 2 else 0 := by simp [tms]
  have z := mulF_at (f := tms [(k, tw)]) (n := k) r 0 c h1 (Nat.zero_le _) (by simpa using h)
  rw [h2] at z
  unfold slipR
  simpa using z
theorem slipR_mem {r : List Nat} {sl : List (Nat × Bool)} {c : Nat} (h : c ∈ slipR r sl) : c ∈ r := mulF_mem h
theorem slipR_len (r : List Nat) (sl : List (Nat × Bool)) : (slipR r sl).length ≤ 2 * r.length := mulF_len (tms_le sl) r 0
/-- the dict of the slips -/
def slDict (sl : List (Nat × Bool)) : List (D × D) := putAll [] (sl.map fun x => (.int x.1, .str (slw x.2)))
theorem slDict_eq (sl : List (Nat × Bool)) (h : sl.length ≤ 1000000) : dictOf (sl.map sld) = .ok (.dct (slDict sl)) := by
  have h1 : isPairs (sl.map sld) = true := by simp [isPairs, D.pairKey]
  have h2 : allOf pairOf (sl.map sld) = some (sl.map fun x => (.int x.1, .str (slw x.2))) := allOf_map (f := pairOf) (en := sld) (fun x => (D.int x.1, D.str (slw x.2))) (fun _ => rfl) sl
  unfold dictOf
  rw [if_pos ⟨h1, by simpa using h⟩, h2]
  rfl
theorem slDict_keys (sl : List (Nat × Bool)) : ((slDict sl).all fun p => isKey p.1) = true := keys_putAll rfl (by simp [isKey])
theorem slDict_look (sl : List (Nat × Bool)) (k : Nat) : lookS (slDict sl) (.int k) = (sl.foldl (fun o x => if x.1 = k then some x.2 else o) none).map fun tw => .str (slw tw) := by
  unfold slDict
  rw [lookS_putAll, lookS_nil, List.foldl_map]
  have gen : ∀ (l : List (Nat × Bool)) (o : Option Bool), l.foldl (fun (o : Option D) x => if D.int x.1 = .int k then some (.str (slw x.2)) else o) (o.map fun tw => .str (slw tw)) = (l.foldl (fun o x => if x.1 = k then some x.2 else o) o).map fun tw => .str (slw tw) := by
    intro l
    induction l with
    | nil => intro o; rfl
    | cons x l ih =>
      intro o
      rw [List.foldl_cons, List.foldl_cons, ← ih]
      by_cases h : x.1 = k
      · simp [h]
      · have h2 : ¬ (x.1 : Int) = (k : Int) := by omega
        simp [h, h2]
  exact gen sl none
theorem tms_word (sl : List (Nat × Bool)) (k : Nat) : ((match (lookS (slDict sl) (.int k)).getD .non with
    | .str w => lookS (putAll [] [(.str [108, 111, 115, 116], .int 0), (.str [116, 119, 105, 99, 101], .int 2)]) (.str w)
    | _ => none).getD (.int 1)) = .int (tms sl k) := by
  rw [slDict_look]
  unfold tms
  cases sl.foldl (fun o x => if x.1 = k then some x.2 else o) none with
  | none => rfl
  | some tw => cases tw <;> decide
theorem slip_get (sl : List (Nat × Bool)) (k : Nat) (ρ : DS) (h1 : ρ[2]? = some (some (.fz (.dct (slDict sl))))) (h2 : ρ[4]? = some (some (.fz (.int k)))) :
    fGet2 (fOfN (nDict (aCons (fC (.str [108, 111, 115, 116])) (aCons (fC (.int 0)) (aCons (fC (.str [116, 119, 105, 99, 101])) (aCons (fC (.int 2)) aNil)))))) (fGet1 (fVar 2) (fVar 4)) (fC (.int 1)) ρ = .ok (.fz (.int (tms sl k)), ρ) := by
  have e1 : pairUp [D.str [108, 111, 115, 116], .int 0, .str [116, 119, 105, 99, 101], .int 2] = some [(.str [108, 111, 115, 116], .int 0), (.str [116, 119, 105, 99, 101], .int 2)] := rfl
  have e2 : ((([(.str [108, 111, 115, 116], .int 0), (.str [116, 119, 105, 99, 101], .int 2)] : List (D × D)).all fun p => isKey p.1) = true ∧ ([(.str [108, 111, 115, 116], .int 0), (.str [116, 119, 105, 99, 101], .int 2)] : List (D × D)).length ≤ 15) := ⟨rfl, by simp⟩
  have k2 : ((putAll [] [((.str [108, 111, 115, 116] : D), (.int 0 : D)), (.str [116, 119, 105, 99, 101], .int 2)]).all fun p => isKey p.1) = true := rfl
  have e3 := getS_dct (k := .int 0) rfl k2
  have e4 : ∀ w, getS (.dct (putAll [] [(.str [108, 111, 115, 116], .int 0), (.str [116, 119, 105, 99, 101], .int 2)])) (.str w) = _ := fun w => getS_dct (k := .str w) rfl k2
  have e5 := getS_dct (k := .int 0) rfl (slDict_keys sl)
  have e6 := getS_dct (k := .int k) rfl (slDict_keys sl)
  have e7 := tms_word sl k
  have e8 : ∃ o : Option Bool, lookS (slDict sl) (.int k) = o.map fun tw => .str (slw tw) := ⟨_, slDict_look sl k⟩
  obtain ⟨o, e8⟩ := e8
  rw [e8] at e6 e7
  cases o with
  | none =>
    simp only [Option.map_none, Option.getD_none] at e6 e7
    simp -dsimp only [fGet2_ap, fGet1_ap, fOfN_ap, nDict_ap, aCons_ap, aNil_ap, fVar_ap, fC_ap, frz_fz, h1, h2, bindT_ok, e1, if_pos e2, get_fz, e3, e4, e5, e6, getN_int, getN_non, getN_str, Option.map_none, Option.getD_none, Out.bind_ok, e7]
  | some tw =>
    simp only [Option.map_some, Option.getD_some] at e6 e7
    simp -dsimp only [fGet2_ap, fGet1_ap, fOfN_ap, nDict_ap, aCons_ap, aNil_ap, fVar_ap, fC_ap, frz_fz, h1, h2, bindT_ok, e1, if_pos e2, get_fz, e3, e4, e5, e6, getN_int, getN_non, getN_str, Option.map_some, Option.getD_some, Out.bind_ok, e7]
theorem zip_mul (f : Nat → Nat) : ∀ (r : List Nat) (k : Nat), ((chs r).zip ((List.range' k r.length).map fun j => D.int (f j))).map (fun p => D.tup [p.1, p.2]) = (r.zip (List.range' k r.length)).map fun x => .tup [.str [x.1], .int (f x.2)]
  | [], _ => rfl
  | c :: r, k => by
    simp only [List.length_cons, List.range'_succ, List.map_cons, List.zip_cons_cons]
    rw [zip_mul f r (k + 1)]
theorem zip_flat (f : Nat → Nat) : ∀ (r : List Nat) (k : Nat), ((r.zip (List.range' k r.length)).flatMap fun x => List.replicate (f x.2) x.1) = mulF f k r
  | [], _ => rfl
  | c :: r, k => by
    simp only [List.length_cons, List.range'_succ, List.zip_cons_cons, List.flatMap_cons]
    rw [zip_flat f r (k + 1)]
    rfl
theorem slipped_eq {r : List Nat} {sl : List (Nat × Bool)} (hr : r.length ≤ 10000) (hl : sl.length ≤ 1000000) : F_slipped [.str r, .tup (sl.map sld)] = .ok (.str (slipR r sl)) := by
  have hd := slDict_eq sl hl
  have hi := inI_nat (n := r.length) (by omega)
  have h1 : ∀ z5 z6, c_slipped_1 [some (.fz (.str r)), some (.fz (.tup (sl.map sld))), some (.fz (.dct (slDict sl))), none, none, z5, z6] = .ok (.lst ((List.range' 0 r.length).map fun j => .int (tms sl j)), [some (.fz (.str r)), some (.fz (.tup (sl.map sld))), some (.fz (.dct (slDict sl))), none, none, z5, z6]) := fun z5 z6 => by
    rw [← List.range_eq_range']
    refine nComp_mp (ρ' := [some (.fz (.str r)), some (.fz (.tup (sl.map sld))), some (.fz (.dct (slDict sl))), none, none, z5, z6]) (ds := rangeL 0 r.length) (fun (k : Nat) => .int k) (fun j => .int (tms sl j)) (List.range r.length) ?_ (range0 _) (by simp; omega) rfl fun k _ => ?_
    · simp -dsimp (disch := omega) [hi]
    · have e := slip_get sl k [some (.fz (.str r)), some (.fz (.tup (sl.map sld))), some (.fz (.dct (slDict sl))), none, some (.fz (.int k)), z5, z6] rfl rfl
      simp -dsimp only [cturn_ap, kill_cons, kill_nil, gName_ap, bindT_ok, tYes_ap, List.set_cons_succ, List.set_cons_zero, e, frz_fz]
  have h2 : c_slipped_0 [some (.fz (.str r)), some (.fz (.tup (sl.map sld))), some (.fz (.dct (slDict sl))), some (.ow (.lst ((List.range' 0 r.length).map fun j => .int (tms sl j)))), none, none, none] = .ok (.lst ((r.zip (List.range' 0 r.length)).map fun x => .str (List.replicate (tms sl x.2) x.1)),
      [some (.fz (.str r)), some (.fz (.tup (sl.map sld))), some (.fz (.dct (slDict sl))), some (.fz (.lst ((List.range' 0 r.length).map fun j => .int (tms sl j)))), none, none, none]) := by
    refine nComp_mp (ρ' := [some (.fz (.str r)), some (.fz (.tup (sl.map sld))), some (.fz (.dct (slDict sl))), some (.fz (.lst ((List.range' 0 r.length).map fun j => .int (tms sl j)))), none, none, none]) (ds := (r.zip (List.range' 0 r.length)).map fun x => .tup [.str [x.1], .int (tms sl x.2)])
      (fun (x : Nat × Nat) => .tup [.str [x.1], .int (tms sl x.2)]) (fun x => .str (List.replicate (tms sl x.2) x.1)) (r.zip (List.range' 0 r.length)) ?_ rfl (by simp; omega) rfl fun x _ => ?_
    · rw [← zip_mul]
      rfl
    · have := tms_le sl x.2
      have e := gMul_ch (c := x.1) (k := tms sl x.2) (by omega)
      simp -dsimp [e]
  have h3 := gJoin_nil (fun (x : Nat × Nat) => List.replicate (tms sl x.2) x.1) (r.zip (List.range' 0 r.length)) (by rw [zip_flat]; have := slipR_len r sl; unfold slipR at this; omega)
  rw [zip_flat] at h3
  simp -dsimp [F_slipped, B_slipped, start, hd, h1, h2, h3, tyD, slipR]
/-! ### what a row shows -/
theorem first_sd : (D.tup [.int 0, .str [108], .int 0]) = sd st0 := rfl
theorem rowed0 {a b : List Nat} {t : Nat} (h : IsW a b t) {r : List Nat} (hc : ∀ c ∈ r, c ∈ PUL) (hl : r.length ≤ 1000000) :
    F_rowed [wd a b t, .tup [.int 0, .str [108], .int 0], .str r] = .ok (.tup [sd (runS a.length t st0 r), .str (runT a b t st0 r)]) :=
  rowed_eq h (s := st0) (by have := h.lo; show 0 < a.length; omega) hc hl
/-- the row without pulse k -/
def del (r : List Nat) (k : Nat) : List Nat := r.take k ++ r.drop (k + 1)
theorem del_mem {r : List Nat} {k c : Nat} (h : c ∈ del r k) : c ∈ r := (List.mem_append.mp h).elim List.mem_of_mem_take List.mem_of_mem_drop
theorem del_len (r : List Nat) (k : Nat) : (del r k).length ≤ r.length := by unfold del; simp; omega
/-! ### tape -/
theorem slip_ok {n k : Nat} (tw : Bool) (h : k < n) (hn : n ≤ 1000000) : F_is_slip [sld (k, tw), .int n] = .ok (.bl true) := by
  have w := whole_eq k 0 ((n : Int) - 1)
  have h1 : (0 : Int) ≤ k := by omega
  have h2 : (k : Int) ≤ (n : Int) - 1 := by omega
  cases tw <;> simp -dsimp (disch := omega) [F_is_slip, B_is_slip, start, w, h1, h2, slw, gIn, inS, D.plain, D.plainL, D.depth, D.eqv]
/-- the numbers rise -/
def rising : List (Nat × Bool) → Prop
  | [] => True
  | [_] => True
  | x :: y :: l => x.1 < y.1 ∧ rising (y :: l)
theorem rising_zip : ∀ {sl : List (Nat × Bool)}, rising sl → ∀ p ∈ sl.zip (sl.drop 1), p.1.1 < p.2.1
  | [], _, p, h => by simp at h
  | [x], _, p, h => by simp at h
  | x :: y :: l, r, p, h => by
    simp only [List.drop_succ_cons, List.drop_zero, List.zip_cons_cons, List.mem_cons] at h
    rcases h with e | h
    · rw [e]; exact r.1
    · exact rising_zip (sl := y :: l) r.2 p (by simpa using h)
theorem need_slips_ok {r : List Nat} {sl : List (Nat × Bool)} (hr : r.length ≤ 10000) (hs : sl.length ≤ 4) (hk : ∀ x ∈ sl, x.1 < r.length) (hi : rising sl) : F_need_slips [.str r, .tup (sl.map sld)] = .ok .non := by
  have c1 : c_need_slips_1 [some (.fz (.str r)), some (.fz (.tup (sl.map sld))), none, none, none] = .ok (.lst (sl.map fun _ => .bl true), [some (.fz (.str r)), some (.fz (.tup (sl.map sld))), none, none, none]) := by
    refine nComp_mp (ρ' := [some (.fz (.str r)), some (.fz (.tup (sl.map sld))), none, none, none]) (ds := sl.map sld) sld (fun _ => .bl true) sl (by simp -dsimp) rfl (by omega) rfl fun x hx => ?_
    have e := slip_ok x.2 (hk x hx) (n := r.length) (by omega)
    simp -dsimp (disch := omega) [e]
  have c0 : c_need_slips_0 [some (.fz (.str r)), some (.fz (.tup (sl.map sld))), none, none, none] = .ok (.lst ((sl.zip (sl.drop 1)).map fun _ => .bl true), [some (.fz (.str r)), some (.fz (.tup (sl.map sld))), none, none, none]) := by
    refine nComp_mp (ρ' := [some (.fz (.str r)), some (.fz (.tup (sl.map sld))), none, none, none]) (ds := ((sl.map sld).zip ((sl.map sld).drop 1)).map fun p => .tup [p.1, p.2]) (fun x => .tup [sld x.1, sld x.2]) (fun _ => .bl true) (sl.zip (sl.drop 1)) ?_ ?_ (by simp; omega) rfl fun x hx => ?_
    · simp -dsimp [iZip, cutL_1]
    · rw [← List.map_drop, List.zip_map, List.map_map]
      rfl
    · have e : (x.1.1 : Int) < x.2.1 := by have := rising_zip hi x hx; omega
      simp -dsimp [e]
  have e1 := gAll_map (fun _ : Nat × Bool => true) sl
  have e2 := gAll_map (fun _ : (Nat × Bool) × (Nat × Bool) => true) (sl.zip (sl.drop 1))
  have e3 : (sl.all fun _ => true) = true := by simp
  have e4 : ((sl.zip (sl.drop 1)).all fun _ => true) = true := by simp
  rw [e3] at e1
  rw [e4] at e2
  have h5 : ¬ (4 : Int) < sl.length := by omega
  simp -dsimp (disch := first | omega | (simp; omega)) [F_need_slips, B_need_slips, start, c1, c0, e1, e2, h5, -List.drop_one]
theorem tape_eq {a b : List Nat} {t : Nat} (h : IsW a b t) {r : List Nat} {sl : List (Nat × Bool)} (hc : ∀ c ∈ r, c ∈ PUL) (hl : r.length ≤ 400) (hs : sl.length ≤ 4) (hk : ∀ x ∈ sl, x.1 < r.length) (hi : rising sl) :
    F_tape [wd a b t, .str r, .tup (sl.map sld)] = .ok (.str (runT a b t st0 (slipR r sl))) := by
  have e1 := need_row_ok (r := r) (m := 400) (by omega) (by omega) hc
  have e2 := need_slips_ok (r := r) (by omega) hs hk hi
  have e3 := slipped_eq (r := r) (sl := sl) (by omega) (by omega)
  have e4 := rowed0 h (r := slipR r sl) (fun c hh => hc c (slipR_mem hh)) (by have := slipR_len r sl; omega)
  simp -dsimp [F_tape, B_tape, start, need_ok h, e1, e2, e3, e4]
theorem tape0 {a b : List Nat} {t : Nat} (h : IsW a b t) {r : List Nat} (hc : ∀ c ∈ r, c ∈ PUL) (hl : r.length ≤ 400) : F_tape [wd a b t, .str r, .tup []] = .ok (.str (runT a b t st0 r)) := by
  have z := tape_eq h hc hl (sl := []) (by simp) (fun _ h => nomatch h) trivial
  rw [slipR_none] at z
  exact z
/-! ### prints -/
theorem both_ok {a b : List Nat} {t : Nat} (h : IsW a b t) {r : List Nat} (hc : ∀ c ∈ r, c ∈ PUL) (hl : r.length ≤ 60) : F_need_both [wd a b t, .str r] = .ok .non := by
  have e1 := need_row_ok (r := r) (m := 60) (by omega) (by omega) hc
  simp -dsimp [F_need_both, B_need_both, start, need_ok h, e1]
theorem shown_eq {a b : List Nat} {t : Nat} (h : IsW a b t) {r : List Nat} (hc : ∀ c ∈ r, c ∈ PUL) (hl : r.length ≤ 1000000) : F_shown_by [wd a b t, .str r] = .ok (.str (runT a b t st0 r)) := by
  simp -dsimp [F_shown_by, B_shown_by, start, rowed0 h hc hl]
/-- what is shown at a stand by a print -/
def sgn (a b : List Nat) (s : Std) : Nat := (if s.w = true then b else a).getD s.p 0
abbrev prd (a b : List Nat) (s : Std) (k : Nat) : D := .tup [.int k, .int s.p, .str [wc s.w], .str [sgn a b s]]
/-- the prints up to pulse m -/
def priM (a b : List Nat) (t : Nat) (r : List Nat) (m : Nat) : List Nat := (List.range m).filter fun k => decide (r[k]? = some 112)
def priD (a b : List Nat) (t : Nat) (r : List Nat) (m : Nat) : List D := (priM a b t r m).map fun k => prd a b (runS a.length t st0 (r.take k)) k
theorem take_succ' {α : Type} (r : List α) (k : Nat) (c : α) (h : r[k]? = some c) : r.take (k + 1) = r.take k ++ [c] := by rw [List.take_add_one, h]; rfl
theorem priD_succ (a b : List Nat) (t : Nat) {r : List Nat} {k c : Nat} (hk : r[k]? = some c) : priD a b t r (k + 1) = priD a b t r k ++ (if c = 112 then [prd a b (runS a.length t st0 (r.take k)) k] else []) := by
  unfold priD priM
  rw [List.range_succ, List.filter_append, List.map_append]
  by_cases h : c = 112
  · simp [hk, h]
  · simp [hk, h]
theorem atI_last {α : Type} (l : List α) (x : α) : atI (l ++ [x]) (-1) = some x := by
  unfold atI
  rw [if_neg (by omega), if_pos (by simp; omega)]
  have e : ((-1 : Int) + ((l ++ [x]).length : Nat)).toNat = l.length := by simp; omega
  rw [e]; simp
theorem priD_len (a b : List Nat) (t : Nat) (r : List Nat) (m : Nat) : (priD a b t r m).length ≤ m := by
  unfold priD priM
  rw [List.length_map]
  exact Nat.le_trans (List.length_filter_le _ _) (by simp)
theorem prints_eq {a b : List Nat} {t : Nat} (h : IsW a b t) {r : List Nat} (hc : ∀ c ∈ r, c ∈ PUL) (hl : r.length ≤ 60) : F_prints [wd a b t, .str r] = .ok (.lst (priD a b t r r.length)) := by
  have hi := inI_nat (n := r.length) (by omega)
  have lp := forIn_rng (g := gName 3) (b := b_prints_0) (fun k => [some (.fz (wd a b t)), some (.fz (.str r)), some (.ow (.lst (priD a b t r k))), none, none]) r.length fun k hk => by
    have e1 : r[k]? = some r[k] := List.getElem?_eq_getElem hk
    have e2 := rowed0 h (r := r.take k) (fun c hh => hc c (List.mem_of_mem_take hh)) (by simp; omega)
    have e3 := shown_eq h (r := r.take (k + 1)) (fun c hh => hc c (List.mem_of_mem_take hh)) (by simp; omega)
    have e4 := priD_succ a b t e1
    have hp := priD_len a b t r k
    generalize r[k] = c at e1 e4
    by_cases hq : c = 112
    · rw [hq] at e1 e4
      have e5 : runT a b t st0 (r.take (k + 1)) = runT a b t st0 (r.take k) ++ [sgn a b (runS a.length t st0 (r.take k))] := by
        rw [take_succ' r k 112 e1, runT_app]; rfl
      rw [e5] at e3
      have e6 := atI_last (runT a b t st0 (r.take k)) (sgn a b (runS a.length t st0 (r.take k)))
      have h9 : (runT a b t st0 (r.take k) ++ [sgn a b (runS a.length t st0 (r.take k))]).length ≤ 1000000 := by rw [← e5]; have := runT_le a b t (r.take (k + 1)) st0; simp at this; omega
      rw [if_pos rfl] at e4
      simp -dsimp (disch := omega) [b_prints_0, e1, cutL_to, cutL_to1, e2, e3, e4, e6, h9, gNeg, -List.length_append, -getElem?_pos]
    · rw [if_neg hq, List.append_nil] at e4
      have hq' : (c == 112) = false := by simp [hq]
      simp -dsimp (disch := omega) [b_prints_0, e1, e4, hq', -getElem?_pos]
  simp -dsimp (disch := omega) [F_prints, B_prints, start, both_ok h hc hl, hi]
  have e0 : priD a b t r 0 = [] := rfl
  rw [e0] at lp
  simp -dsimp [lp]
theorem priM_succ {r : List Nat} (a b : List Nat) (t : Nat) {k c : Nat} (hk : r[k]? = some c) : priM a b t r (k + 1) = priM a b t r k ++ (if c = 112 then [k] else []) := by
  unfold priM
  rw [List.range_succ, List.filter_append]
  by_cases h : c = 112
  · simp [hk, h]
  · simp [hk, h]
theorem shows_prints (a b : List Nat) (t : Nat) (r : List Nat) : ∀ m, m ≤ r.length → (priM a b t r m).flatMap (fun k => [sgn a b (runS a.length t st0 (r.take k))]) = runT a b t st0 (r.take m)
  | 0, _ => rfl
  | m + 1, h => by
    have e1 : r[m]? = some r[m] := List.getElem?_eq_getElem h
    generalize r[m] = c at e1
    rw [priM_succ a b t e1, List.flatMap_append, shows_prints a b t r m (by omega), take_succ' r m c e1, runT_app]
    congr 1
    by_cases hc : c = 112
    · subst hc; simp [runT, shw, sgn]
    · simp [runT, shw, hc]
theorem spots_prints (a b : List Nat) (t : Nat) (r : List Nat) : ∀ m, m ≤ r.length → (priM a b t r m).map (fun k => ((runS a.length t st0 (r.take k)).p, (runS a.length t st0 (r.take k)).w)) = spots a.length t st0 (r.take m)
  | 0, _ => rfl
  | m + 1, h => by
    have e1 : r[m]? = some r[m] := List.getElem?_eq_getElem h
    generalize r[m] = c at e1
    rw [priM_succ a b t e1, List.map_append, spots_prints a b t r m (by omega), take_succ' r m c e1, spots_app]
    congr 1
    by_cases hc : c = 112
    · subst hc; simp [spots]
    · simp [spots, hc]
/-! ### thinning -/
/-- the pulses that can be left out alone -/
def needM (a b : List Nat) (t : Nat) (r : List Nat) : List Nat := (List.range r.length).filter fun k => decide (runT a b t st0 (del r k) = runT a b t st0 r)
theorem fm_if {α : Type} (p : α → Prop) [DecidablePred p] (f : α → D) (l : List α) : l.filterMap (fun x => if p x then some (f x) else none) = (l.filter fun x => decide (p x)).map f := by
  induction l with
  | nil => rfl
  | cons x l ih =>
    by_cases h : p x
    · simp [h, ih]
    · simp [h, ih]
theorem needless_eq {a b : List Nat} {t : Nat} (h : IsW a b t) {r : List Nat} (hc : ∀ c ∈ r, c ∈ PUL) (hl : r.length ≤ 60) : F_needless [wd a b t, .str r] = .ok (.lst ((needM a b t r).map fun (k : Nat) => .int k)) := by
  have e1 := shown_eq h hc (by omega)
  have hi := inI_nat (n := r.length) (by omega)
  have c0 : c_needless_0 [some (.fz (wd a b t)), some (.fz (.str r)), some (.fz (.str (runT a b t st0 r))), none] = .ok (.lst ((needM a b t r).map fun (k : Nat) => .int k), [some (.fz (wd a b t)), some (.fz (.str r)), some (.fz (.str (runT a b t st0 r))), none]) := by
    unfold needM
    rw [← fm_if]
    refine nComp_fm (ρ' := [some (.fz (wd a b t)), some (.fz (.str r)), some (.fz (.str (runT a b t st0 r))), none]) (ds := rangeL 0 r.length) (fun (k : Nat) => .int k) (fun k => if runT a b t st0 (del r k) = runT a b t st0 r then some (.int k) else none) (List.range r.length) ?_ (range0 _) (by simp; omega) rfl fun k _ => ?_
    · simp -dsimp (disch := omega) [hi]
    · have e2 := shown_eq h (r := del r k) (fun c hh => hc c (del_mem hh)) (by have := del_len r k; omega)
      unfold del at e2 ⊢
      have h1 := take_drop_le r k (k + 1) (by omega)
      by_cases hq : runT a b t st0 (r.take k ++ r.drop (k + 1)) = runT a b t st0 r
      · simp -dsimp (disch := omega) [cutL_to, cutL_from1, e2, hq]
      · simp -dsimp (disch := omega) [cutL_to, cutL_from1, e2, hq, bf hq]
  simp -dsimp [F_needless, B_needless, start, both_ok h hc hl, e1, c0]
/-- kept, then what of the rest is kept -/
def thinM (a b : List Nat) (t : Nat) (T : List Nat) : List Nat → List Nat → List Nat
  | k, [] => k
  | k, c :: r => if runT a b t st0 (k ++ r) = T then thinM a b t T k r else thinM a b t T (k ++ [c]) r
theorem thinM_len (a b : List Nat) (t : Nat) (T : List Nat) : ∀ (r k : List Nat), (thinM a b t T k r).length ≤ k.length + r.length
  | [], k => by simp [thinM]
  | c :: r, k => by
    unfold thinM
    split
    · have := thinM_len a b t T r k; simp only [List.length_cons]; omega
    · have := thinM_len a b t T r (k ++ [c]); simp only [List.length_cons, List.length_append, List.length_nil] at *; omega
theorem thinM_mem {a b : List Nat} {t : Nat} {T : List Nat} {x : Nat} : ∀ {r k : List Nat}, x ∈ thinM a b t T k r → x ∈ k ∨ x ∈ r
  | [], k, h => .inl h
  | c :: r, k, h => by
    unfold thinM at h
    split at h
    · exact (thinM_mem h).imp id (List.mem_cons_of_mem _)
    · rcases thinM_mem h with z | z
      · rcases List.mem_append.mp z with y | y
        · exact .inl y
        · rw [List.mem_singleton] at y; rw [y]; exact .inr List.mem_cons_self
      · exact .inr (List.mem_cons_of_mem _ z)
theorem thinM_shows {a b : List Nat} {t : Nat} {T : List Nat} : ∀ {r k : List Nat}, runT a b t st0 (k ++ r) = T → runT a b t st0 (thinM a b t T k r) = T
  | [], k, h => by rw [List.append_nil] at h; exact h
  | c :: r, k, h => by
    unfold thinM
    split
    · rename_i q; exact thinM_shows q
    · exact thinM_shows (by simpa using h)
theorem thin_loop {a b : List Nat} {t : Nat} (h : IsW a b t) (T : List Nat) : ∀ (r k : List Nat) (n : Nat), (∀ c ∈ k, c ∈ PUL) → (∀ c ∈ r, c ∈ PUL) → k.length + r.length ≤ 1000 → r.length < n →
    sWhile (tVal (fOp gLt (fVar 4) (fUn gLen (fVar 3)))) b_thinned_0 n [some (.fz (wd a b t)), none, some (.fz (.str T)), some (.fz (.str (k ++ r))), some (.fz (.int k.length))] =
      .ok (.nx [some (.fz (wd a b t)), none, some (.fz (.str T)), some (.fz (.str (thinM a b t T k r))), some (.fz (.int (thinM a b t T k r).length))])
  | [], k, n + 1, _, _, hl, _ => by
    rw [List.append_nil]
    exact sWhile_f (by simp at hl; simp -dsimp (disch := omega) [thinM])
  | c :: r, k, n + 1, hk, hc, hl, hn => by
    simp only [List.length_cons] at hl hn
    have hkr : ∀ x ∈ k ++ r, x ∈ PUL := fun x hx => (List.mem_append.mp hx).elim (hk x) fun z => hc x (List.mem_cons_of_mem _ z)
    have e2 := shown_eq h (r := k ++ r) hkr (by simp; omega)
    have h1 : (k ++ c :: r).take k.length = k := by simp
    have h2 : (k ++ c :: r).drop (k.length + 1) = r := by simp
    have h3 : (k.length : Int) < (k ++ c :: r).length := by simp; omega
    have h4 : (k ++ c :: r).length ≤ 1000000 := by simp; omega
    unfold thinM
    by_cases hq : runT a b t st0 (k ++ r) = T
    · rw [if_pos hq]
      rw [sWhile_t (ρ1 := [some (.fz (wd a b t)), none, some (.fz (.str T)), some (.fz (.str (k ++ c :: r))), some (.fz (.int k.length))]) (ρ2 := [some (.fz (wd a b t)), none, some (.fz (.str T)), some (.fz (.str (k ++ r))), some (.fz (.int k.length))])
        (by simp -dsimp [h3, h4, -List.length_append])
        (by simp -dsimp (disch := first | omega | (simp; omega)) [b_thinned_0, cutL_to, cutL_from1, h1, h2, e2, hq, h4, -List.length_append])]
      exact thin_loop h T r k n hk (fun x hx => hc x (List.mem_cons_of_mem _ hx)) (by omega) (by omega)
    · rw [if_neg hq]
      rw [sWhile_t (ρ1 := [some (.fz (wd a b t)), none, some (.fz (.str T)), some (.fz (.str (k ++ c :: r))), some (.fz (.int k.length))]) (ρ2 := [some (.fz (wd a b t)), none, some (.fz (.str T)), some (.fz (.str ((k ++ [c]) ++ r))), some (.fz (.int (k ++ [c]).length))])
        (by simp -dsimp [h3, h4, -List.length_append])
        (by simp -dsimp (disch := first | omega | (simp; omega)) [b_thinned_0, cutL_to, cutL_from1, h1, h2, e2, hq, bf hq, h4])]
      refine thin_loop h T r (k ++ [c]) n (fun x hx => ?_) (fun x hx => hc x (List.mem_cons_of_mem _ hx)) (by simp; omega) (by omega)
      rcases List.mem_append.mp hx with z | z
      · exact hk x z
      · rw [List.mem_singleton] at z; rw [z]; exact hc c List.mem_cons_self
theorem thinned_eq {a b : List Nat} {t : Nat} (h : IsW a b t) {r : List Nat} (hc : ∀ c ∈ r, c ∈ PUL) (hl : r.length ≤ 60) : F_thinned [wd a b t, .str r] = .ok (.str (thinM a b t (runT a b t st0 r) [] r)) := by
  have e1 := shown_eq h hc (by omega)
  have e2 := thin_loop h (runT a b t st0 r) r [] 1000 (fun _ h => nomatch h) hc (by simp; omega) (by omega)
  simp only [List.nil_append, List.length_nil] at e2
  have e3 : ((0 : Nat) : Int) = 0 := rfl
  rw [e3] at e2
  simp -dsimp [F_thinned, B_thinned, start, both_ok h hc hl, e1, e2]
/-- the numbers of the pulses that change nothing, steps at which it is caught -/
def cauM (a : List Nat) (t : Nat) (r : List Nat) (m : Nat) : List Nat := (List.range m).filter fun k => decide (r[k]? = some 115 ∧ runS a.length t st0 (r.take (k + 1)) = runS a.length t st0 (r.take k))
theorem cauM_succ (a : List Nat) (t : Nat) {r : List Nat} {k c : Nat} (hk : r[k]? = some c) : cauM a t r (k + 1) = cauM a t r k ++ (if c = 115 ∧ runS a.length t st0 (r.take (k + 1)) = runS a.length t st0 (r.take k) then [k] else []) := by
  unfold cauM
  rw [List.range_succ, List.filter_append]
  by_cases h : c = 115 ∧ runS a.length t st0 (r.take (k + 1)) = runS a.length t st0 (r.take k)
  · simp only [List.filter_cons, hk, h.1, h.2, List.filter_nil, true_and, decide_true, if_true]
  · rw [if_neg h]
    have : ¬ (r[k]? = some 115 ∧ runS a.length t st0 (r.take (k + 1)) = runS a.length t st0 (r.take k)) := by rw [hk]; simpa using h
    simp [List.filter_cons, this]
theorem cauM_len (a : List Nat) (t : Nat) (r : List Nat) (m : Nat) : (cauM a t r m).length ≤ m := by
  unfold cauM
  exact Nat.le_trans (List.length_filter_le _ _) (by simp)
theorem wc_inj {x y : Bool} : wc x = wc y ↔ x = y := by cases x <;> cases y <;> simp [wc]
theorem gEq_sd (s u : Std) : gEq (sd s) (sd u) = .ok (.bl (decide (s = u))) := by
  obtain ⟨p, w, i⟩ := s
  obtain ⟨p', w', i'⟩ := u
  have hw : (wc w == wc w') = (w == w') := by cases w <;> cases w' <;> rfl
  have e : (sd ⟨p, w, i⟩).eqv (sd ⟨p', w', i'⟩) = decide ((⟨p, w, i⟩ : Std) = ⟨p', w', i'⟩) := by
    by_cases h1 : p = p'
    · by_cases h2 : w = w'
      · by_cases h3 : i = i'
        · simp [D.eqv, D.eqvL, h1, h2, h3]
        · simp [D.eqv, D.eqvL, h1, h2, h3]; omega
      · simp [D.eqv, D.eqvL, h1, h2, wc_inj]
    · have : ¬ ((p : Int) = p') := by omega
      simp [D.eqv, D.eqvL, h1, this]
  rw [gEq_plain rfl rfl (by simp [D.depth, D.depthL]), e]
theorem caught_at_eq {a b : List Nat} {t : Nat} (h : IsW a b t) {r : List Nat} (hc : ∀ c ∈ r, c ∈ PUL) (hl : r.length ≤ 60) : F_caught_at [wd a b t, .str r] = .ok (.lst ((cauM a t r r.length).map fun (k : Nat) => .int k)) := by
  have hi := inI_nat (n := r.length) (by omega)
  have lp := forIn_rng (g := gName 3) (b := b_caught_at_0) (fun k => [some (.fz (wd a b t)), some (.fz (.str r)), some (.ow (.lst ((cauM a t r k).map fun (k : Nat) => .int k))), none, none]) r.length fun k hk => by
    have e1 : r[k]? = some r[k] := List.getElem?_eq_getElem hk
    have e2 := rowed0 h (r := r.take k) (fun c hh => hc c (List.mem_of_mem_take hh)) (by simp; omega)
    have e3 := rowed0 h (r := r.take (k + 1)) (fun c hh => hc c (List.mem_of_mem_take hh)) (by simp; omega)
    have e4 := cauM_succ a t e1
    have hp := cauM_len a t r k
    have e5 := gEq_sd (runS a.length t st0 (r.take (k + 1))) (runS a.length t st0 (r.take k))
    generalize r[k] = c at e1 e4
    by_cases hq : c = 115
    · by_cases hs : runS a.length t st0 (r.take (k + 1)) = runS a.length t st0 (r.take k)
      · rw [if_pos ⟨hq, hs⟩] at e4
        rw [hs] at e3 e5
        simp -dsimp (disch := first | omega | (simp; omega)) [b_caught_at_0, e1, hq, cutL_to, cutL_to1, e2, e3, e4, e5, -getElem?_pos]
      · rw [if_neg (fun z => hs z.2), List.append_nil] at e4
        simp -dsimp (disch := first | omega | (simp; omega)) [b_caught_at_0, e1, hq, cutL_to, cutL_to1, e2, e3, e4, e5, hs, -getElem?_pos]
    · rw [if_neg (fun z => hq z.1), List.append_nil] at e4
      simp -dsimp (disch := first | omega | (simp; omega)) [b_caught_at_0, e1, bf hq, cutL_to, cutL_to1, e2, e3, e4, e5, -getElem?_pos]
  simp -dsimp (disch := omega) [F_caught_at, B_caught_at, start, both_ok h hc hl, hi]
  have e0 : cauM a t r 0 = [] := rfl
  rw [e0] at lp
  simp -dsimp only [List.map_nil] at lp
  simp -dsimp [lp]
/-- what a slip of pulse k does to the row -/
def bent (r : List Nat) (k c : Nat) (tw : Bool) : List Nat := r.take k ++ (List.replicate (if tw = true then 2 else 0) c ++ r.drop (k + 1))
/-- the safe slips of pulse k -/
def safK (a b : List Nat) (t : Nat) (r : List Nat) (k : Nat) : List (Nat × Bool) := match r[k]? with
  | some c => ([(k, false), (k, true)] : List (Nat × Bool)).filter fun x => decide (runT a b t st0 (bent r k c x.2) = runT a b t st0 r)
  | none => []
def safM (a b : List Nat) (t : Nat) (r : List Nat) (m : Nat) : List (Nat × Bool) := (List.range m).flatMap (safK a b t r)
theorem safK_len (a b : List Nat) (t : Nat) (r : List Nat) (k : Nat) : (safK a b t r k).length ≤ 2 := by
  unfold safK
  split
  · exact List.length_filter_le _ _
  · simp
theorem safM_succ (a b : List Nat) (t : Nat) (r : List Nat) (m : Nat) : safM a b t r (m + 1) = safM a b t r m ++ safK a b t r m := by
  unfold safM
  rw [List.range_succ, List.flatMap_append]
  simp
theorem safM_len (a b : List Nat) (t : Nat) (r : List Nat) : ∀ m, (safM a b t r m).length ≤ 2 * m
  | 0 => by simp [safM]
  | m + 1 => by
    have h := safM_len a b t r m
    have := safK_len a b t r m
    rw [safM_succ, List.length_append]
    omega
theorem bent_mem {r : List Nat} {k c x : Nat} {tw : Bool} (hk : r[k]? = some c) (h : x ∈ bent r k c tw) : x ∈ r := by
  rcases List.mem_append.mp h with z | z
  · exact List.mem_of_mem_take z
  · rcases List.mem_append.mp z with y | y
    · rw [List.eq_of_mem_replicate y]; exact List.mem_of_getElem? hk
    · exact List.mem_of_mem_drop y
theorem bent_len (r : List Nat) (k c : Nat) (tw : Bool) : (bent r k c tw).length ≤ r.length + 2 := by
  unfold bent
  cases tw <;> simp <;> omega
theorem slw_eq (x : Bool) : D.str (slw x) = if x = true then .str [116, 119, 105, 99, 101] else .str [108, 111, 115, 116] := by cases x <;> rfl
theorem safe_turn {a b : List Nat} {t : Nat} (h : IsW a b t) {r : List Nat} (hc : ∀ c ∈ r, c ∈ PUL) (hl : r.length ≤ 60) {k c : Nat} (hk : r[k]? = some c) (l : List D) (hll : l.length ≤ 1000) :
    turn (gName 4) b_safe_slips_0 (.int k) [some (.fz (wd a b t)), some (.fz (.str r)), some (.fz (.str (runT a b t st0 r))), some (.ow (.lst l)), none, none, none, none] =
      .ok (.nx [some (.fz (wd a b t)), some (.fz (.str r)), some (.fz (.str (runT a b t st0 r))), some (.ow (.lst (l ++ (safK a b t r k).map sld))), none, none, none, none]) := by
  have c1 : c_safe_slips_1 [some (.fz (wd a b t)), some (.fz (.str r)), some (.fz (.str (runT a b t st0 r))), some (.ow (.lst l)), some (.fz (.int k)), none, none, none] = .ok (.lst ([(k, false), (k, true)].map sld), [some (.fz (wd a b t)), some (.fz (.str r)), some (.fz (.str (runT a b t st0 r))), some (.ow (.lst l)), some (.fz (.int k)), none, none, none]) := by
    refine nComp_mp (ρ' := [some (.fz (wd a b t)), some (.fz (.str r)), some (.fz (.str (runT a b t st0 r))), some (.ow (.lst l)), some (.fz (.int k)), none, none, none]) (ds := [.str (slw false), .str (slw true)]) (fun x => .str (slw x.2)) sld [(k, false), (k, true)] rfl rfl (by simp) rfl fun x hx => ?_
    simp only [List.mem_cons, List.not_mem_nil, or_false] at hx
    rcases hx with e | e <;> rw [e] <;> rfl
  have c0 : c_safe_slips_0 [some (.fz (wd a b t)), some (.fz (.str r)), some (.fz (.str (runT a b t st0 r))), some (.ow (.lst l)), some (.fz (.int k)), some (.ow (.lst ([(k, false), (k, true)].map sld))), none, none] = .ok (.lst ((safK a b t r k).map sld), [some (.fz (wd a b t)), some (.fz (.str r)), some (.fz (.str (runT a b t st0 r))), some (.ow (.lst l)), some (.fz (.int k)), some (.fz (.lst ([(k, false), (k, true)].map sld))), none, none]) := by
    unfold safK
    rw [hk]
    simp only
    rw [← fm_if]
    refine nComp_fm (ρ' := [some (.fz (wd a b t)), some (.fz (.str r)), some (.fz (.str (runT a b t st0 r))), some (.ow (.lst l)), some (.fz (.int k)), some (.fz (.lst ([(k, false), (k, true)].map sld))), none, none]) (ds := [(k, false), (k, true)].map sld) sld (fun x => if runT a b t st0 (bent r k c x.2) = runT a b t st0 r then some (sld x) else none) [(k, false), (k, true)] rfl rfl (by simp) rfl fun x hx => ?_
    have ex : x.1 = k := by
      simp only [List.mem_cons, List.not_mem_nil, or_false] at hx
      rcases hx with e | e <;> rw [e]
    have e1 := slipped_eq (r := r) (sl := [x]) (by omega) (by simp)
    have e2 : slipR r [x] = bent r k c x.2 := by
      obtain ⟨x1, x2⟩ := x
      simp only at ex
      subst ex
      exact slipR_one x2 hk
    rw [e2] at e1
    simp -dsimp only [List.map_cons, List.map_nil] at e1
    have e3 := shown_eq h (r := bent r k c x.2) (fun y hy => hc y (bent_mem hk hy)) (by have := bent_len r k c x.2; omega)
    by_cases hq : runT a b t st0 (bent r k c x.2) = runT a b t st0 r
    · simp -dsimp [e1, e3, hq]
    · simp -dsimp [e1, e3, hq, bf hq]
  have h2 := safK_len a b t r k
  have h3 : mExtend (.lst l) [.lst ((safK a b t r k).map sld)] = .ok (.non, .lst (l ++ (safK a b t r k).map sld)) := if_pos (by show _ ≤ 1000000; rw [List.length_map]; omega)
  simp -dsimp only [List.map_cons, List.map_nil] at c1 c0
  simp -dsimp [b_safe_slips_0, c1, c0, h3]
theorem safe_slips_eq {a b : List Nat} {t : Nat} (h : IsW a b t) {r : List Nat} (hc : ∀ c ∈ r, c ∈ PUL) (hl : r.length ≤ 60) : F_safe_slips [wd a b t, .str r] = .ok (.lst ((safM a b t r r.length).map sld)) := by
  have hi := inI_nat (n := r.length) (by omega)
  have e1 := shown_eq h hc (by omega)
  have lp := forIn_rng (g := gName 4) (b := b_safe_slips_0) (fun k => [some (.fz (wd a b t)), some (.fz (.str r)), some (.fz (.str (runT a b t st0 r))), some (.ow (.lst ((safM a b t r k).map sld))), none, none, none, none]) r.length fun k hk => by
    have z := safe_turn h hc hl (List.getElem?_eq_getElem hk) ((safM a b t r k).map sld) (by rw [List.length_map]; have := safM_len a b t r k; omega)
    rw [safM_succ, List.map_append]
    exact z
  have e0 : (safM a b t r 0).map sld = [] := rfl
  rw [e0] at lp
  simp -dsimp (disch := omega) [F_safe_slips, B_safe_slips, start, both_ok h hc hl, hi, e1, lp]
/-! ### k35 -/
theorem runT_ab {a b : List Nat} {t : Nat} (h : IsW a b t) : ∀ {r : List Nat} {s : Std}, s.p < a.length → ∀ c ∈ runT a b t s r, c ∈ a ∨ c ∈ b
  | [], _, _, _, h => nomatch h
  | x :: r, s, hs, c, hc => by
    rcases List.mem_append.mp hc with z | z
    · unfold shw at z
      split at z
      · rw [List.mem_singleton] at z
        rw [z]
        have hh := h.get hs
        have hm := List.mem_of_getElem? hh
        split at hm
        · rename_i q; rw [if_pos q]; exact .inr hm
        · rename_i q; rw [if_neg q]; exact .inl hm
      · cases z
    · exact runT_ab h (nxt_lt x hs) c z
theorem need_least {a b : List Nat} {t : Nat} {T r : List Nat} (h : LeastR a b t st0 T r) : needM a b t r = [] := by
  unfold needM
  rw [List.filter_eq_nil_iff]
  intro k hk
  have hk := List.mem_range.mp hk
  simp only [decide_eq_true_eq]
  intro e
  rw [h.shows] at e
  have := h.least (del r k) (fun c hc => h.pul c (del_mem hc)) e
  unfold del at this
  simp at this
  omega
theorem thin_least {a b : List Nat} {t : Nat} {T r : List Nat} (h : LeastR a b t st0 T r) : ∀ (q k : List Nat), k ++ q = r → thinM a b t T k q = r
  | [], k, e => by simpa [thinM] using e
  | c :: q, k, e => by
    have hn : ¬ runT a b t st0 (k ++ q) = T := fun z => by
      have := h.least (k ++ q) (fun c hc => h.pul c (by rw [← e]; rcases List.mem_append.mp hc with y | y; exact List.mem_append_left _ y; exact List.mem_append_right _ (List.mem_cons_of_mem _ y))) z
      rw [← e] at this
      simp at this
      omega
    unfold thinM
    rw [if_neg hn]
    exact thin_least h q (k ++ [c]) (by rw [← e]; simp)
theorem numbered_map {α : Type} (f : α → D) : ∀ (xs : List α) (k : Nat), numbered k (xs.map f) = (xs.zipIdx k).map fun p => .tup [.int p.2, f p.1]
  | [], _ => rfl
  | x :: xs, k => by
    rw [List.map_cons, numbered, numbered_map f xs (k + 1), List.zipIdx_cons, List.map_cons]
theorem zip_eq : ∀ {T W : List Nat}, T.length = W.length → (∀ p ∈ T.zip W, p.1 = p.2) → T = W
  | [], [], _, _ => rfl
  | [], _ :: _, h, _ => by simp at h
  | _ :: _, [], h, _ => by simp at h
  | x :: T, y :: W, h, hp => by
    have := hp (x, y) (by simp)
    simp only at this
    rw [this, zip_eq (T := T) (W := W) (by simpa using h) fun p hm => hp p (by rw [List.zip_cons_cons]; exact List.mem_cons_of_mem _ hm)]
theorem harm_of_eq {a b : List Nat} {t : Nat} (h : IsW a b t) {r : List Nat} (hc : ∀ c ∈ r, c ∈ PUL) (hl : r.length ≤ 400) {x : Nat × Bool} : ∃ m : Nat, F_harm_of [wd a b t, .str r, sld x] = .ok (.int m) ∧ (m = 0 ↔ runT a b t st0 (slipR r [x]) = runT a b t st0 r) := by
  have e1 := rowed0 h hc (by omega)
  have e2 : F_slipped [.str r, .tup [sld x]] = .ok (.str (slipR r [x])) := slipped_eq (r := r) (sl := [x]) (by omega) (by simp)
  have sl := slipR_len r [x]
  have e3 := rowed0 h (r := slipR r [x]) (fun c hh => hc c (slipR_mem hh)) (by omega)
  have l1 := runT_le a b t r st0
  have l2 := runT_le a b t (slipR r [x]) st0
  generalize runT a b t st0 r = T at *
  generalize runT a b t st0 (slipR r [x]) = W at *
  have c0 : c_harm_of_0 [some (.fz (wd a b t)), some (.fz (.str r)), some (.fz (sld x)), some (.fz (.str T)), some (.fz (.str W)), none, none, none, none] =
      .ok (.lst (((T.zip W).zipIdx).filterMap fun p => if p.1.1 ≠ p.1.2 then some (.int (p.2 : Nat)) else none), [some (.fz (wd a b t)), some (.fz (.str r)), some (.fz (sld x)), some (.fz (.str T)), some (.fz (.str W)), none, none, none, none]) := by
    unfold c_harm_of_0
    refine nComp_fm (ws := [6, 7, 8]) (ρ' := [some (.fz (wd a b t)), some (.fz (.str r)), some (.fz (sld x)), some (.fz (.str T)), some (.fz (.str W)), none, none, none, none]) (ds := ((T.zip W).zipIdx).map fun p => .tup [.int (p.2 : Nat), .tup [.str [p.1.1], .str [p.1.2]]]) (fun p => .tup [.int (p.2 : Nat), .tup [.str [p.1.1], .str [p.1.2]]]) (fun p => if p.1.1 ≠ p.1.2 then some (.int (p.2 : Nat)) else none) ((T.zip W).zipIdx) ?_ rfl (by simp; omega) rfl fun p hp => ?_
    · have ez : ((chs T).zip (chs W)).map (fun p => D.tup [p.1, p.2]) = (T.zip W).map fun p => .tup [.str [p.1], .str [p.2]] := by
        show List.map _ ((T.map fun c => D.str [c]).zip (W.map fun c => D.str [c])) = _
        rw [List.zip_map, List.map_map]
        rfl
      have := numbered_map (fun p : Nat × Nat => D.tup [.str [p.1], .str [p.2]]) (T.zip W) 0
      rw [← ez] at this
      simp -dsimp [itemsOf]
      exact this
    · obtain ⟨⟨u, v⟩, k⟩ := p
      by_cases q : u = v
      · simp -dsimp [q]
      · have q' : (u == v) = false := by simpa using q
        simp -dsimp [q, q']
  have hz : (((T.zip W).zipIdx).filterMap fun p => if p.1.1 ≠ p.1.2 then some (D.int (p.2 : Nat)) else none).length = 0 ↔ ∀ p ∈ T.zip W, p.1 = p.2 := by
    rw [List.length_eq_zero_iff, List.filterMap_eq_nil_iff]
    constructor
    · intro hh p hp
      obtain ⟨k, hk⟩ := List.mem_iff_getElem?.mp hp
      have := hh (p, k) (by rw [List.mem_zipIdx_iff_getElem?]; exact hk)
      simp only [ne_eq, ite_not] at this
      by_cases q : p.1 = p.2
      · exact q
      · rw [if_neg q] at this; cases this
    · intro hh p hp
      have : p.1 ∈ T.zip W := by
        have := List.mem_zipIdx_iff_getElem?.mp hp
        exact List.mem_of_getElem? this
      rw [if_neg (fun z => z (hh p.1 this))]
  have hm : ∃ m : Nat, m = (((T.zip W).zipIdx).filterMap fun p => if p.1.1 ≠ p.1.2 then some (D.int (p.2 : Nat)) else none).length := ⟨_, rfl⟩
  obtain ⟨m, hm⟩ := hm
  rw [← hm] at hz
  have gl0 : gLen (.lst (((T.zip W).zipIdx).filterMap fun p => if p.1.1 ≠ p.1.2 then some (D.int (p.2 : Nat)) else none)) = .ok (.int m) := by rw [hm]; rfl
  have g1 : gLen (.str T) = .ok (.int (T.length : Int)) := gLen_str _ (by omega)
  have g2 : gLen (.str W) = .ok (.int (W.length : Int)) := gLen_str _ (by omega)
  obtain ⟨k, hk, hk0⟩ : ∃ k : Nat, gAbs (.int ((T.length : Int) - (W.length : Int))) = .ok (.int (k : Int)) ∧ (k = 0 ↔ T.length = W.length) := ⟨((T.length : Int) - (W.length : Int)).natAbs, by simp [gAbs]; split <;> omega, by omega⟩
  have gs : gSub (.int (T.length : Int)) (.int (W.length : Int)) = .ok (.int ((T.length : Int) - (W.length : Int))) := gSub_int _ _
  have ga : gAdd (.int (m : Int)) (.int (k : Int)) = .ok (.int ((m + k : Nat) : Int)) := by rw [gAdd_int]; push_cast; rfl
  refine ⟨m + k, ?_, ?_⟩
  · generalize ((T.zip W).zipIdx).filterMap (fun p => if p.1.1 ≠ p.1.2 then some (D.int (p.2 : Nat)) else none) = L at *
    generalize ((T.length : Int) - (W.length : Int)) = d at *
    generalize ((m + k : Nat) : Int) = mk at *
    generalize slipR r [x] = R2 at *
    generalize hX : sld x = X at *
    simp -dsimp [F_harm_of, B_harm_of, start, e1, e2, e3, c0, gl0, g1, g2, gs, hk, ga, -gLen_str, -gLen_lst, -gSub_int, -gAdd_int]
  · constructor
    · intro e
      exact (zip_eq (hk0.mp (by omega)) (hz.mp (by omega))).symm
    · intro e
      have h1 := hz.mpr (by
        rw [e]
        intro p hp
        obtain ⟨k, hk⟩ := List.mem_iff_getElem?.mp hp
        rw [List.getElem?_zip_eq_some] at hk
        have := hk.1.symm.trans hk.2
        injection this)
      have h2 := hk0.mpr (by rw [e])
      omega
theorem del_slip {r : List Nat} {k c : Nat} (h : r[k]? = some c) : slipR r [(k, false)] = del r k := by
  rw [slipR_one false h]; rfl
theorem lost_eq (a b : List Nat) (t : Nat) (r : List Nat) : ((safM a b t r r.length).filterMap fun x => if x.2 = false then some x.1 else none) = needM a b t r := by
  unfold safM needM
  have key : ∀ m, m ≤ r.length → (((List.range m).flatMap (safK a b t r)).filterMap fun x => if x.2 = false then some x.1 else none) = (List.range m).filter fun k => decide (runT a b t st0 (del r k) = runT a b t st0 r) := by
    intro m
    induction m with
    | zero => intro _; rfl
    | succ m ih =>
      intro hm
      have ih := ih (by omega)
      rw [List.range_succ, List.flatMap_append, List.filterMap_append, List.filter_append, ih]
      congr 1
      have hk : r[m]? = some (r[m]'(by omega)) := List.getElem?_eq_getElem (by omega)
      rw [List.flatMap_cons, List.flatMap_nil, List.append_nil]
      unfold safK
      rw [hk]
      have hb : bent r m r[m] false = del r m := rfl
      simp only [List.filter_cons, List.filter_nil, hb]
      by_cases h1 : runT a b t st0 (del r m) = runT a b t st0 r
      · by_cases h2 : runT a b t st0 (bent r m r[m] true) = runT a b t st0 r
        · simp [h1, h2]
        · simp [h1, h2]
      · by_cases h2 : runT a b t st0 (bent r m r[m] true) = runT a b t st0 r
        · simp [h1, h2]
        · simp [h1, h2]
  exact key r.length (Nat.le_refl _)
theorem caught_same {a b : List Nat} {t : Nat} {r : List Nat} {k : Nat} (hk : k ∈ cauM a t r r.length) : r[k]? = some 115 ∧ k < r.length ∧ ∀ tw, runT a b t st0 (slipR r [(k, tw)]) = runT a b t st0 r := by
  unfold cauM at hk
  obtain ⟨h1, h2⟩ := List.mem_filter.mp hk
  have h1 := List.mem_range.mp h1
  simp only [decide_eq_true_eq] at h2
  obtain ⟨h2, h3⟩ := h2
  refine ⟨h2, h1, fun tw => ?_⟩
  rw [take_succ' r k 115 h2, runS_app] at h3
  have hn : nxt a.length t (runS a.length t st0 (r.take k)) 115 = runS a.length t st0 (r.take k) := h3
  have er : r = r.take k ++ 115 :: r.drop (k + 1) := by
    conv => lhs; rw [← List.take_append_drop k r]
    rw [List.drop_eq_getElem_cons h1]
    have := List.getElem?_eq_getElem h1
    rw [h2] at this
    injection this with this
    rw [this]
  have e0 : runT a b t st0 r = runT a b t st0 (r.take k) ++ runT a b t (runS a.length t st0 (r.take k)) (r.drop (k + 1)) := by
    conv => lhs; rw [er]
    rw [runT_app, runT, hn]; rfl
  rw [slipR_one tw h2, runT_app, e0]
  congr 1
  cases tw with
  | false => rfl
  | true =>
    show runT a b t _ (115 :: 115 :: r.drop (k + 1)) = _
    rw [runT, hn, runT, hn]; rfl
theorem map_sgn (a b : List Nat) (t : Nat) (r : List Nat) : (priM a b t r r.length).map (fun k => sgn a b (runS a.length t st0 (r.take k))) = runT a b t st0 r := by
  have := shows_prints a b t r r.length (Nat.le_refl _)
  rw [List.take_length] at this
  rw [← this, List.map_eq_flatMap]
abbrev S14 (s0 s1 s2 s3 s4 s5 s6 s7 s8 s9 s10 s11 s12 s13 : Option SV) : DS := [s0, s1, s2, s3, s4, s5, s6, s7, s8, s9, s10, s11, s12, s13]
theorem pri4 {a b : List Nat} {t : Nat} (h : IsW a b t) {r : List Nat} (hc : ∀ c ∈ r, c ∈ PUL) (hl : r.length ≤ 60) (s0 s1 s3 s5 s6 s7 s8 s9 s10 s11 s12 : Option SV) : c_law_4 (S14 s0 s1 (some (.fz (wd a b t))) s3 (some (.fz (.str r))) s5 s6 s7 s8 s9 s10 s11 s12 none) = .ok (.lst (chs (runT a b t st0 r)), S14 s0 s1 (some (.fz (wd a b t))) s3 (some (.fz (.str r))) s5 s6 s7 s8 s9 s10 s11 s12 none) := by
  have e := prints_eq h hc hl
  have hle := priD_len a b t r r.length
  rw [← map_sgn]
  show _ = Out.ok (D.lst (List.map _ (List.map _ _)), _)
  rw [List.map_map]
  unfold c_law_4
  refine nComp_mp (ws := [13]) (ρ' := S14 s0 s1 (some (.fz (wd a b t))) s3 (some (.fz (.str r))) s5 s6 s7 s8 s9 s10 s11 s12 none) (ds := priD a b t r r.length) (fun k => prd a b (runS a.length t st0 (r.take k)) k) _ (priM a b t r r.length) (by generalize priD a b t r r.length = Z at *; simp -dsimp [e]) rfl (by unfold priD at hle; simpa using Nat.le_trans hle (by omega)) rfl fun k hk => ?_
  simp -dsimp
theorem pri0 {a b : List Nat} {t : Nat} (h : IsW a b t) {r : List Nat} (hc : ∀ c ∈ r, c ∈ PUL) (hl : r.length ≤ 60) (s0 s1 s3 s4 s5 s6 s7 s8 s10 s11 s12 : Option SV) : c_law_0 (S14 s0 s1 (some (.fz (wd a b t))) s3 s4 s5 s6 s7 s8 (some (.fz (.str r))) s10 s11 s12 none) = .ok (.lst (chs (runT a b t st0 r)), S14 s0 s1 (some (.fz (wd a b t))) s3 s4 s5 s6 s7 s8 (some (.fz (.str r))) s10 s11 s12 none) := by
  have e := prints_eq h hc hl
  have hle := priD_len a b t r r.length
  rw [← map_sgn]
  show _ = Out.ok (D.lst (List.map _ (List.map _ _)), _)
  rw [List.map_map]
  unfold c_law_0
  refine nComp_mp (ws := [13]) (ρ' := S14 s0 s1 (some (.fz (wd a b t))) s3 s4 s5 s6 s7 s8 (some (.fz (.str r))) s10 s11 s12 none) (ds := priD a b t r r.length) (fun k => prd a b (runS a.length t st0 (r.take k)) k) _ (priM a b t r r.length) (by generalize priD a b t r r.length = Z at *; simp -dsimp [e]) rfl (by unfold priD at hle; simpa using Nat.le_trans hle (by omega)) rfl fun k hk => ?_
  simp -dsimp
theorem lost3 {a b : List Nat} {t : Nat} (h : IsW a b t) {r : List Nat} (hc : ∀ c ∈ r, c ∈ PUL) (hl : r.length ≤ 60) (s0 s1 s3 s4 s6 s7 s8 s9 s10 s13 : Option SV) : c_law_3 (S14 s0 s1 (some (.fz (wd a b t))) s3 s4 (some (.fz (.str r))) s6 s7 s8 s9 s10 none none s13) = .ok (.lst ((needM a b t r).map fun (k : Nat) => .int k), S14 s0 s1 (some (.fz (wd a b t))) s3 s4 (some (.fz (.str r))) s6 s7 s8 s9 s10 none none s13) := by
  have e := safe_slips_eq h hc hl
  have hle := safM_len a b t r r.length
  rw [← lost_eq, List.map_filterMap]
  unfold c_law_3
  refine nComp_fm (ws := [11, 12]) (ρ' := S14 s0 s1 (some (.fz (wd a b t))) s3 s4 (some (.fz (.str r))) s6 s7 s8 s9 s10 none none s13) (ds := (safM a b t r r.length).map sld) sld _ (safM a b t r r.length) (by generalize (safM a b t r r.length).map sld = Z at *; simp -dsimp [e]) rfl (by omega) rfl fun x hx => ?_
  obtain ⟨k, tw⟩ := x
  cases tw <;> simp -dsimp [slw]
theorem harm2 {a b : List Nat} {t : Nat} (h : IsW a b t) {r : List Nat} (hc : ∀ c ∈ r, c ∈ PUL) (hl : r.length ≤ 60) (s0 s1 s3 s4 s6 s7 s9 s10 s11 s12 s13 : Option SV) : c_law_2 (S14 s0 s1 (some (.fz (wd a b t))) s3 s4 (some (.fz (.str r))) s6 s7 none s9 s10 s11 s12 s13) = .ok (.lst ((needM a b t r).map fun (k : Nat) => .int k), S14 s0 s1 (some (.fz (wd a b t))) s3 s4 (some (.fz (.str r))) s6 s7 none s9 s10 s11 s12 s13) := by
  have hi := inI_nat (n := r.length) (by omega)
  have gl : gLen (.str r) = .ok (.int (r.length : Int)) := gLen_str _ (by omega)
  have nr : F_need_row [.str r, .int 400] = .ok .non := need_row_ok (by omega) (by omega) hc
  unfold needM
  rw [← fm_if]
  unfold c_law_2
  refine nComp_fm (ws := [8]) (ρ' := S14 s0 s1 (some (.fz (wd a b t))) s3 s4 (some (.fz (.str r))) s6 s7 none s9 s10 s11 s12 s13) (ds := rangeL 0 r.length) (fun (k : Nat) => .int k) (fun k => if runT a b t st0 (del r k) = runT a b t st0 r then some (.int k) else none) (List.range r.length) (by simp -dsimp [gl, hi, -gLen_str]) (range0 _) (by simp; omega) rfl fun k hk => ?_
  have hk := List.mem_range.mp hk
  obtain ⟨m, m1, m2⟩ := harm_of_eq h hc (by omega) (x := (k, false))
  rw [del_slip (List.getElem?_eq_getElem hk)] at m2
  have so : F_is_slip [sld (k, false), .int r.length] = .ok (.bl true) := slip_ok false hk (by omega)
  have hm : F_harm [wd a b t, .str r, sld (k, false)] = .ok (.int m) := by
    generalize hX : sld (k, false) = X at *
    simp -dsimp [F_harm, B_harm, start, need_ok h, nr, gl, so, m1, -gLen_str]
  have hm' : F_harm [wd a b t, .str r, .tup [.int k, .str [108, 111, 115, 116]]] = .ok (.int m) := hm
  by_cases q : runT a b t st0 (del r k) = runT a b t st0 r
  · rw [if_pos q]
    have ge : gEq (.int (m : Int)) (.int 0) = .ok (.bl true) := gEq_t _ _ (by rw [m2.mpr q]; rfl)
    simp -dsimp [hm', ge, -gEq_t, -gEq_f]
  · rw [if_neg q]
    have ge : gEq (.int (m : Int)) (.int 0) = .ok (.bl false) := gEq_f _ _ (fun z => q (m2.mp (by omega)))
    simp -dsimp [hm', ge, -gEq_t, -gEq_f]
theorem caught_turn {a b : List Nat} {t : Nat} (h : IsW a b t) {r : List Nat} (hc : ∀ c ∈ r, c ∈ PUL) (hl : r.length ≤ 60) {k : Nat} (hk : k ∈ cauM a t r r.length) (s11 : Option SV) :
    turn (gName 8) b_law_0 (.int k) (S14 none none (some (.fz (wd a b t))) none none (some (.fz (.str r))) (some (.fz (.str (runT a b t st0 r)))) none none none none s11 none none) =
      .ok (.nx (S14 none none (some (.fz (wd a b t))) none none (some (.fz (.str r))) (some (.fz (.str (runT a b t st0 r)))) none none none none s11 none none)) := by
  obtain ⟨h1, h2, h3⟩ := caught_same (b := b) hk
  have e : ∀ tw, F_tape [wd a b t, .str r, .tup [.tup [.int k, .str (slw tw)]]] = .ok (.str (runT a b t st0 r)) := fun tw => by
    have := tape_eq h hc (by omega) (sl := [(k, tw)]) (by simp) (fun x hx => by rw [List.mem_singleton.mp hx]; exact h2) trivial
    rw [h3 tw] at this
    exact this
  generalize runT a b t st0 r = T at *
  have c1 : c_law_1 (S14 none none (some (.fz (wd a b t))) none none (some (.fz (.str r))) (some (.fz (.str T))) none (some (.fz (.int k))) none none s11 none none) = .ok (.lst [.str T, .str T], S14 none none (some (.fz (wd a b t))) none none (some (.fz (.str r))) (some (.fz (.str T))) none (some (.fz (.int k))) none none s11 none none) := by
    unfold c_law_1
    refine nComp_mp (ws := [12]) (ρ' := S14 none none (some (.fz (wd a b t))) none none (some (.fz (.str r))) (some (.fz (.str T))) none (some (.fz (.int k))) none none s11 none none) (ds := [.str [108, 111, 115, 116], .str [116, 119, 105, 99, 101]]) (fun tw => .str (slw tw)) (fun _ => .str T) [false, true] (by simp -dsimp) rfl (by simp) rfl fun tw _ => ?_
    have e := e tw
    generalize slw tw = w at *
    simp -dsimp [e]
  have gi : gIx (.str r) (.int k) = .ok (.str [115]) := by
    refine (gIx_str (a := r) (i := (k : Int)) (by omega)).trans ?_
    rw [atI_nat, h1]; rfl
  have gn : gNe (.str [115]) (.str [115]) = .ok (.bl false) := by rw [gNe_str]; simp
  have gt : gNe (.lst [.str T, .str T]) (.lst [.str T, .str T]) = .ok (.bl false) := gNe_self rfl (by simp [D.depth, D.depthL])
  simp -dsimp [b_law_0, c1, gi, gn, gt, -gIx_str, -gNe_str]
theorem law_true (ns : List Int) (_ : ns.length ≤ 63) : F_law [.scr ns] = .ok (.bl true) := by
  obtain ⟨a, b, t, n1, w1, h, w3, w4⟩ := wheels_ex ns (n := 0) 6 (by omega) (by omega) (by omega)
  have hw : F_l_wheels (.lst []) [.scr ns, .int 6] = .ok (wd a b t, tn n1) := w1
  have hlo := h.lo
  have hh := h.hi
  obtain ⟨T, n2, t1, t2, t3, t4⟩ := text_ex ns h (n := n1) (m := 5) (by omega) (by omega)
  have t1' : F_l_text (tn n1) [.scr ns, wd a b t, .int 5] = .ok (.str T, tn n2) := t1
  have rf := row_for_eq h (text := T) (by omega) t2
  obtain ⟨lT, cT, bT⟩ := leastM_ok h t2
  have b1 : (a.length + 1) * T.length ≤ 35 := by
    have := Nat.mul_le_mul (show a.length + 1 ≤ 7 by omega) t3
    omega
  have nd := needless_eq h lT.pul (by omega)
  rw [need_least lT] at nd
  have th := thinned_eq h lT.pul (by omega)
  rw [lT.shows, thin_least lT (leastM a b T) [] rfl] at th
  have p4 := fun s0 s1 s3 s5 s6 s7 s8 s9 s10 s11 s12 => pri4 h lT.pul (by omega) s0 s1 s3 s5 s6 s7 s8 s9 s10 s11 s12
  rw [lT.shows] at p4
  have jn := join_chs T (by omega)
  obtain ⟨r, n3, r1, r2, r3, r4⟩ := row_ex ns (n := n2) (m := 30) (by omega) (by omega)
  have r1' : F_l_row (tn n2) [.scr ns, .int 30] = .ok (.str r, tn n3) := r1
  have tp := tape0 h r2 (by omega)
  have l3 := fun s0 s1 s3 s4 s6 s7 s8 s9 s10 s13 => lost3 h r2 (by omega) s0 s1 s3 s4 s6 s7 s8 s9 s10 s13
  have nr := needless_eq h r2 (by omega)
  have h2 := fun s0 s1 s3 s4 s6 s7 s9 s10 s11 s12 s13 => harm2 h r2 (by omega) s0 s1 s3 s4 s6 s7 s9 s10 s11 s12 s13
  have ca := caught_at_eq h r2 (by omega)
  have lp := fun s11 => forIn_each (g := gName 8) (b := b_law_0) (fun _ : Unit => S14 none none (some (.fz (wd a b t))) none none (some (.fz (.str r))) (some (.fz (.str (runT a b t st0 r)))) none none none none s11 none none) (fun (k : Nat) => .int k) (fun _ _ => ()) (cauM a t r r.length) () fun k hk _ => caught_turn h r2 (by omega) hk s11
  have tr := thinned_eq h r2 (by omega)
  have ts : runT a b t st0 (thinM a b t (runT a b t st0 r) [] r) = runT a b t st0 r := thinM_shows (k := []) rfl
  have tl := thinM_len a b t (runT a b t st0 r) r []
  have tm : ∀ c ∈ thinM a b t (runT a b t st0 r) [] r, c ∈ PUL := fun c hc => (thinM_mem hc).elim (fun z => nomatch z) (r2 c)
  simp only [List.length_nil, Nat.zero_add] at tl
  have tp2 := tape0 h tm (by omega)
  rw [ts] at tp2
  have p0 := fun s0 s1 s3 s4 s5 s6 s7 s8 s10 s11 s12 => pri0 h tm (by omega) s0 s1 s3 s4 s5 s6 s7 s8 s10 s11 s12
  rw [ts] at p0
  have lr := runT_le a b t r st0
  have ab : ∀ c ∈ runT a b t st0 r, c ∈ a ∨ c ∈ b := runT_ab h (by show 0 < a.length; omega)
  have le := least_eq h (text := runT a b t st0 r) (by omega) ab
  obtain ⟨lR, _, _⟩ := leastM_ok h ab
  have hle := lR.least _ tm ts
  have c1 := runT_len a b t r st0
  have c2 := runT_len a b t (thinM a b t (runT a b t st0 r) [] r) st0
  rw [ts] at c2
  have gne : gNe (.lst ((needM a b t r).map fun (k : Nat) => D.int k)) (.lst ((needM a b t r).map fun (k : Nat) => D.int k)) = .ok (.bl false) := gNe_self (plainL_map (f := fun (k : Nat) => D.int k) (fun _ => rfl) _) (by have := depthL_map (f := fun (k : Nat) => D.int k) (n := 0) (fun _ => Nat.le_refl _) (needM a b t r); simp only [D.depth]; omega)
  have g00 : gNe (.lst []) (.lst []) = .ok (.bl false) := isO_ok (by decide +kernel)
  have gs : ∀ l : List Nat, gNe (.str l) (.str l) = .ok (.bl false) := fun l => by rw [gNe_str]; simp
  have gch : gEq (.lst (chs (runT a b t st0 r))) (.lst (chs (runT a b t st0 r))) = .ok (.bl true) := gEq_self (plainL_map (f := fun c => D.str [c]) (fun _ => rfl) _) (by have : D.depthL (chs (runT a b t st0 r)) ≤ 0 := depthL_map (f := fun c => D.str [c]) (n := 0) (fun _ => Nat.le_refl _) (runT a b t st0 r); simp only [D.depth]; omega)
  have k1 : gSCount (.str (thinM a b t (runT a b t st0 r) [] r)) [.str [112]] = .ok (.int ((runT a b t st0 r).length : Int)) := by rw [c2]; rfl
  have k2 : gSCount (.str r) [.str [112]] = .ok (.int ((runT a b t st0 r).length : Int)) := by rw [c1]; rfl
  have gk : gEq (.int ((runT a b t st0 r).length : Int)) (.int ((runT a b t st0 r).length : Int)) = .ok (.bl true) := gEq_t _ _ rfl
  have lm : gLen (.str (thinM a b t (runT a b t st0 r) [] r)) = .ok (.int ((thinM a b t (runT a b t st0 r) [] r).length : Int)) := gLen_str _ (by omega)
  have lo : gLen (.str r) = .ok (.int (r.length : Int)) := gLen_str _ (by omega)
  have gg : gGt (.int ((thinM a b t (runT a b t st0 r) [] r).length : Int)) (.int (r.length : Int)) = .ok (.bl false) := gGt_f _ _ (by omega)
  have gl : gLt (.int ((thinM a b t (runT a b t st0 r) [] r).length : Int)) (.int ((leastM a b (runT a b t st0 r)).length : Int)) = .ok (.bl false) := gLt_f _ _ (by omega)
  have tol : toL (.str (runT a b t st0 r)) = .ok (.lst (chs (runT a b t st0 r))) := toL_str _ (by omega)
  generalize leastM a b (runT a b t st0 r) = LR at *
  generalize thinM a b t (runT a b t st0 r) [] r = M at *
  generalize (cauM a t r r.length).map (fun (k : Nat) => D.int k) = CA at *
  generalize (needM a b t r).map (fun (k : Nat) => D.int k) = ND at *
  generalize runT a b t st0 r = TR at *
  generalize leastM a b T = LT at *
  generalize chs TR = CR at *
  generalize chs T = CT at *
  simp -dsimp [F_law, B_law, start, hw, t1', rf, nd, th, p4, tyD, jn, r1', tp, l3, nr, h2, ca, lp, tr, tp2, le, p0, gne, g00, gs, gch, k1, k2, gk, lm, lo, gg, gl, tol, -toL_str, -gNe_str, -gLen_str, -gGt_f, -gGt_t, -gLt_f, -gLt_t, -gEq_t, -gEq_f]
end DenL

/-! each def keeps its promise -/
namespace Den
open PySem PySem.Spec PyProof.Rows L2
def topS (i : Nat) : Stmt := PySem.Challenge.pw_letterwheels_k35_whole_thinned_rows.main.body.getD i (.Pass ⟨0, 0, 0, 0⟩)
abbrev s_l_cell_at : Stmt := topS 52
abbrev s_l_mixed : Stmt := topS 53
abbrev s_l_draw : Stmt := topS 54
abbrev s_l_pick : Stmt := topS 55
abbrev s_l_row : Stmt := topS 59
abbrev s_l_text : Stmt := topS 62
abbrev s_l_wheel : Stmt := topS 56
abbrev s_l_wheels : Stmt := topS 57
abbrev s_is_row : Stmt := topS 19
abbrev s_need_row : Stmt := topS 20
abbrev s_are_signs : Stmt := topS 14
abbrev s_is_wheel : Stmt := topS 15
abbrev s_is_whole : Stmt := topS 13
abbrev s_is_wheels : Stmt := topS 16
abbrev s_need_wheels : Stmt := topS 17
abbrev s_need_both : Stmt := topS 34
abbrev s_places_of : Stmt := topS 18
abbrev s_is_caught : Stmt := topS 25
abbrev s_pulsed : Stmt := topS 26
abbrev s_rowed : Stmt := topS 27
abbrev s_caught_at : Stmt := topS 40
abbrev s_slipped : Stmt := topS 28
abbrev s_harm_of : Stmt := topS 49
abbrev s_is_slip : Stmt := topS 29
abbrev s_harm : Stmt := topS 50
abbrev s_spots_of : Stmt := topS 43
abbrev s_step_row : Stmt := topS 44
abbrev s_least_row : Stmt := topS 45
abbrev s_need_text : Stmt := topS 42
abbrev s_least : Stmt := topS 46
abbrev s_shown_by : Stmt := topS 35
abbrev s_needless : Stmt := topS 36
abbrev s_prints : Stmt := topS 38
abbrev s_row_for : Stmt := topS 47
abbrev s_safe_slips : Stmt := topS 39
abbrev s_need_slips : Stmt := topS 30
abbrev s_tape : Stmt := topS 31
abbrev s_thinned : Stmt := topS 37
abbrev s_law : Stmt := topS 63
structure Env (K : PySem.W.Frag) (mg : Str → Option Value) where
  ce : Err → Addr
  a_l_cell_at : Addr
  d_l_cell_at : FuncData
  F_l_cell_at : Fun K "_law_cell_at" "_law_cell_at" s_l_cell_at a_l_cell_at d_l_cell_at
  m_l_cell_at : mg "_law_cell_at" = some (.ref a_l_cell_at)
  k_l_cell_at : PySem.W.keepIn K (.ref a_l_cell_at) = true
  b_l_cell_at : Binds K d_l_cell_at ["_law_script", "_law_k"] []
  a_l_mixed : Addr
  d_l_mixed : FuncData
  F_l_mixed : Fun K "_law_mixed" "_law_mixed" s_l_mixed a_l_mixed d_l_mixed
  m_l_mixed : mg "_law_mixed" = some (.ref a_l_mixed)
  k_l_mixed : PySem.W.keepIn K (.ref a_l_mixed) = true
  b_l_mixed : Binds K d_l_mixed ["_law_script", "_law_k", "_law_many"] []
  a_l_draw : Addr
  d_l_draw : FuncData
  F_l_draw : Fun K "_law_draw" "_law_draw" s_l_draw a_l_draw d_l_draw
  m_l_draw : mg "_law_draw" = some (.ref a_l_draw)
  k_l_draw : PySem.W.keepIn K (.ref a_l_draw) = true
  b_l_draw : Binds K d_l_draw ["_law_script", "_law_town", "_law_many"] []
  a_l_pick : Addr
  d_l_pick : FuncData
  F_l_pick : Fun K "_law_pick" "_law_pick" s_l_pick a_l_pick d_l_pick
  m_l_pick : mg "_law_pick" = some (.ref a_l_pick)
  k_l_pick : PySem.W.keepIn K (.ref a_l_pick) = true
  b_l_pick : Binds K d_l_pick ["_law_script", "_law_town", "_law_some"] []
  a_l_row : Addr
  d_l_row : FuncData
  F_l_row : Fun K "_law_row" "_law_row" s_l_row a_l_row d_l_row
  m_l_row : mg "_law_row" = some (.ref a_l_row)
  k_l_row : PySem.W.keepIn K (.ref a_l_row) = true
  b_l_row : Binds K d_l_row ["_law_script", "_law_town", "_law_most"] []
  a_l_text : Addr
  d_l_text : FuncData
  F_l_text : Fun K "_law_text" "_law_text" s_l_text a_l_text d_l_text
  m_l_text : mg "_law_text" = some (.ref a_l_text)
  k_l_text : PySem.W.keepIn K (.ref a_l_text) = true
  b_l_text : Binds K d_l_text ["_law_script", "_law_town", "_law_wheels_here", "_law_most"] []
  a_l_wheel : Addr
  d_l_wheel : FuncData
  F_l_wheel : Fun K "_law_wheel" "_law_wheel" s_l_wheel a_l_wheel d_l_wheel
  m_l_wheel : mg "_law_wheel" = some (.ref a_l_wheel)
  k_l_wheel : PySem.W.keepIn K (.ref a_l_wheel) = true
  b_l_wheel : Binds K d_l_wheel ["_law_script", "_law_town", "_law_many"] []
  a_l_wheels : Addr
  d_l_wheels : FuncData
  F_l_wheels : Fun K "_law_wheels" "_law_wheels" s_l_wheels a_l_wheels d_l_wheels
  m_l_wheels : mg "_law_wheels" = some (.ref a_l_wheels)
  k_l_wheels : PySem.W.keepIn K (.ref a_l_wheels) = true
  b_l_wheels : Binds K d_l_wheels ["_law_script", "_law_town", "_law_most"] []
  a_is_row : Addr
  d_is_row : FuncData
  F_is_row : Fun K "is_row" "is_row" s_is_row a_is_row d_is_row
  m_is_row : mg "is_row" = some (.ref a_is_row)
  k_is_row : PySem.W.keepIn K (.ref a_is_row) = true
  b_is_row : Binds K d_is_row ["thing", "most"] []
  a_need_row : Addr
  d_need_row : FuncData
  F_need_row : Fun K "need_row" "need_row" s_need_row a_need_row d_need_row
  m_need_row : mg "need_row" = some (.ref a_need_row)
  k_need_row : PySem.W.keepIn K (.ref a_need_row) = true
  b_need_row : Binds K d_need_row ["thing", "most"] []
  a_are_signs : Addr
  d_are_signs : FuncData
  F_are_signs : Fun K "are_signs" "are_signs" s_are_signs a_are_signs d_are_signs
  m_are_signs : mg "are_signs" = some (.ref a_are_signs)
  k_are_signs : PySem.W.keepIn K (.ref a_are_signs) = true
  b_are_signs : Binds K d_are_signs ["thing", "low", "most"] []
  a_is_wheel : Addr
  d_is_wheel : FuncData
  F_is_wheel : Fun K "is_wheel" "is_wheel" s_is_wheel a_is_wheel d_is_wheel
  m_is_wheel : mg "is_wheel" = some (.ref a_is_wheel)
  k_is_wheel : PySem.W.keepIn K (.ref a_is_wheel) = true
  b_is_wheel : Binds K d_is_wheel ["thing"] []
  a_is_whole : Addr
  d_is_whole : FuncData
  F_is_whole : Fun K "is_whole" "is_whole" s_is_whole a_is_whole d_is_whole
  m_is_whole : mg "is_whole" = some (.ref a_is_whole)
  k_is_whole : PySem.W.keepIn K (.ref a_is_whole) = true
  b_is_whole : Binds K d_is_whole ["thing", "low", "most"] []
  a_is_wheels : Addr
  d_is_wheels : FuncData
  F_is_wheels : Fun K "is_wheels" "is_wheels" s_is_wheels a_is_wheels d_is_wheels
  m_is_wheels : mg "is_wheels" = some (.ref a_is_wheels)
  k_is_wheels : PySem.W.keepIn K (.ref a_is_wheels) = true
  b_is_wheels : Binds K d_is_wheels ["thing"] []
  a_need_wheels : Addr
  d_need_wheels : FuncData
  F_need_wheels : Fun K "need_wheels" "need_wheels" s_need_wheels a_need_wheels d_need_wheels
  m_need_wheels : mg "need_wheels" = some (.ref a_need_wheels)
  k_need_wheels : PySem.W.keepIn K (.ref a_need_wheels) = true
  b_need_wheels : Binds K d_need_wheels ["thing"] []
  a_need_both : Addr
  d_need_both : FuncData
  F_need_both : Fun K "need_both" "need_both" s_need_both a_need_both d_need_both
  m_need_both : mg "need_both" = some (.ref a_need_both)
  k_need_both : PySem.W.keepIn K (.ref a_need_both) = true
  b_need_both : Binds K d_need_both ["wheels", "row"] []
  a_places_of : Addr
  d_places_of : FuncData
  F_places_of : Fun K "places_of" "places_of" s_places_of a_places_of d_places_of
  m_places_of : mg "places_of" = some (.ref a_places_of)
  k_places_of : PySem.W.keepIn K (.ref a_places_of) = true
  b_places_of : Binds K d_places_of ["wheels"] []
  a_is_caught : Addr
  d_is_caught : FuncData
  F_is_caught : Fun K "is_caught" "is_caught" s_is_caught a_is_caught d_is_caught
  m_is_caught : mg "is_caught" = some (.ref a_is_caught)
  k_is_caught : PySem.W.keepIn K (.ref a_is_caught) = true
  b_is_caught : Binds K d_is_caught ["wheels", "stand"] []
  a_pulsed : Addr
  d_pulsed : FuncData
  F_pulsed : Fun K "pulsed" "pulsed" s_pulsed a_pulsed d_pulsed
  m_pulsed : mg "pulsed" = some (.ref a_pulsed)
  k_pulsed : PySem.W.keepIn K (.ref a_pulsed) = true
  b_pulsed : Binds K d_pulsed ["wheels", "stand", "pulse"] []
  a_rowed : Addr
  d_rowed : FuncData
  F_rowed : Fun K "rowed" "rowed" s_rowed a_rowed d_rowed
  m_rowed : mg "rowed" = some (.ref a_rowed)
  k_rowed : PySem.W.keepIn K (.ref a_rowed) = true
  b_rowed : Binds K d_rowed ["wheels", "stand", "row"] []
  a_caught_at : Addr
  d_caught_at : FuncData
  F_caught_at : Fun K "caught_at" "caught_at" s_caught_at a_caught_at d_caught_at
  m_caught_at : mg "caught_at" = some (.ref a_caught_at)
  k_caught_at : PySem.W.keepIn K (.ref a_caught_at) = true
  b_caught_at : Binds K d_caught_at ["wheels", "row"] []
  a_slipped : Addr
  d_slipped : FuncData
  F_slipped : Fun K "slipped" "slipped" s_slipped a_slipped d_slipped
  m_slipped : mg "slipped" = some (.ref a_slipped)
  k_slipped : PySem.W.keepIn K (.ref a_slipped) = true
  b_slipped : Binds K d_slipped ["row", "slips"] []
  a_harm_of : Addr
  d_harm_of : FuncData
  F_harm_of : Fun K "harm_of" "harm_of" s_harm_of a_harm_of d_harm_of
  m_harm_of : mg "harm_of" = some (.ref a_harm_of)
  k_harm_of : PySem.W.keepIn K (.ref a_harm_of) = true
  b_harm_of : Binds K d_harm_of ["wheels", "row", "slip"] []
  a_is_slip : Addr
  d_is_slip : FuncData
  F_is_slip : Fun K "is_slip" "is_slip" s_is_slip a_is_slip d_is_slip
  m_is_slip : mg "is_slip" = some (.ref a_is_slip)
  k_is_slip : PySem.W.keepIn K (.ref a_is_slip) = true
  b_is_slip : Binds K d_is_slip ["thing", "long"] []
  a_harm : Addr
  d_harm : FuncData
  F_harm : Fun K "harm" "harm" s_harm a_harm d_harm
  m_harm : mg "harm" = some (.ref a_harm)
  k_harm : PySem.W.keepIn K (.ref a_harm) = true
  b_harm : Binds K d_harm ["wheels", "row", "slip"] []
  a_spots_of : Addr
  d_spots_of : FuncData
  F_spots_of : Fun K "spots_of" "spots_of" s_spots_of a_spots_of d_spots_of
  m_spots_of : mg "spots_of" = some (.ref a_spots_of)
  k_spots_of : PySem.W.keepIn K (.ref a_spots_of) = true
  b_spots_of : Binds K d_spots_of ["wheels", "sign"] []
  a_step_row : Addr
  d_step_row : FuncData
  F_step_row : Fun K "step_row" "step_row" s_step_row a_step_row d_step_row
  m_step_row : mg "step_row" = some (.ref a_step_row)
  k_step_row : PySem.W.keepIn K (.ref a_step_row) = true
  b_step_row : Binds K d_step_row ["wheels", "one", "other"] []
  a_least_row : Addr
  d_least_row : FuncData
  F_least_row : Fun K "least_row" "least_row" s_least_row a_least_row d_least_row
  m_least_row : mg "least_row" = some (.ref a_least_row)
  k_least_row : PySem.W.keepIn K (.ref a_least_row) = true
  b_least_row : Binds K d_least_row ["wheels", "text"] []
  a_need_text : Addr
  d_need_text : FuncData
  F_need_text : Fun K "need_text" "need_text" s_need_text a_need_text d_need_text
  m_need_text : mg "need_text" = some (.ref a_need_text)
  k_need_text : PySem.W.keepIn K (.ref a_need_text) = true
  b_need_text : Binds K d_need_text ["wheels", "thing", "most"] []
  a_least : Addr
  d_least : FuncData
  F_least : Fun K "least" "least" s_least a_least d_least
  m_least : mg "least" = some (.ref a_least)
  k_least : PySem.W.keepIn K (.ref a_least) = true
  b_least : Binds K d_least ["wheels", "text"] []
  a_shown_by : Addr
  d_shown_by : FuncData
  F_shown_by : Fun K "shown_by" "shown_by" s_shown_by a_shown_by d_shown_by
  m_shown_by : mg "shown_by" = some (.ref a_shown_by)
  k_shown_by : PySem.W.keepIn K (.ref a_shown_by) = true
  b_shown_by : Binds K d_shown_by ["wheels", "row"] []
  a_needless : Addr
  d_needless : FuncData
  F_needless : Fun K "needless" "needless" s_needless a_needless d_needless
  m_needless : mg "needless" = some (.ref a_needless)
  k_needless : PySem.W.keepIn K (.ref a_needless) = true
  b_needless : Binds K d_needless ["wheels", "row"] []
  a_prints : Addr
  d_prints : FuncData
  F_prints : Fun K "prints" "prints" s_prints a_prints d_prints
  m_prints : mg "prints" = some (.ref a_prints)
  k_prints : PySem.W.keepIn K (.ref a_prints) = true
  b_prints : Binds K d_prints ["wheels", "row"] []
  a_row_for : Addr
  d_row_for : FuncData
  F_row_for : Fun K "row_for" "row_for" s_row_for a_row_for d_row_for
  m_row_for : mg "row_for" = some (.ref a_row_for)
  k_row_for : PySem.W.keepIn K (.ref a_row_for) = true
  b_row_for : Binds K d_row_for ["wheels", "text"] []
  a_safe_slips : Addr
  d_safe_slips : FuncData
  F_safe_slips : Fun K "safe_slips" "safe_slips" s_safe_slips a_safe_slips d_safe_slips
  m_safe_slips : mg "safe_slips" = some (.ref a_safe_slips)
  k_safe_slips : PySem.W.keepIn K (.ref a_safe_slips) = true
  b_safe_slips : Binds K d_safe_slips ["wheels", "row"] []
  a_need_slips : Addr
  d_need_slips : FuncData
  F_need_slips : Fun K "need_slips" "need_slips" s_need_slips a_need_slips d_need_slips
  m_need_slips : mg "need_slips" = some (.ref a_need_slips)
  k_need_slips : PySem.W.keepIn K (.ref a_need_slips) = true
  b_need_slips : Binds K d_need_slips ["row", "thing"] []
  a_tape : Addr
  d_tape : FuncData
  F_tape : Fun K "tape" "tape" s_tape a_tape d_tape
  m_tape : mg "tape" = some (.ref a_tape)
  k_tape : PySem.W.keepIn K (.ref a_tape) = true
  b_tape : Binds K d_tape ["wheels", "row", "slips"] []
  a_thinned : Addr
  d_thinned : FuncData
  F_thinned : Fun K "thinned" "thinned" s_thinned a_thinned d_thinned
  m_thinned : mg "thinned" = some (.ref a_thinned)
  k_thinned : PySem.W.keepIn K (.ref a_thinned) = true
  b_thinned : Binds K d_thinned ["wheels", "row"] []
  a_law : Addr
  d_law : FuncData
  F_law : Fun K "law" "law" s_law a_law d_law
  m_law : mg "law" = some (.ref a_law)
  k_law : PySem.W.keepIn K (.ref a_law) = true
  b_law : Binds K d_law ["_law_script"] []
  ta_FIRST : Addr
  g_FIRST : TupOk K mg "FIRST" [.int 0, .str [108], .int 0] ta_FIRST
  g_LEAST : ∃ t, mg "LEAST" = some (.int 2 t)
  g_LONG : ∃ t, mg "LONG" = some (.int 400 t)
  g_MOST_thinning : ∃ t, mg "MOST_thinning" = some (.int 60 t)
  g_MOST_wheels : ∃ t, mg "MOST_wheels" = some (.int 30 t)
  g_PULSES : ∃ t, mg "PULSES" = some (.str "splf" t)
  g_SIGNS : ∃ t, mg "SIGNS" = some (.str "abcdefghijklmnopqrstuvwxyz0123456789 .,-" t)
  g_SLIPS : ∃ t, mg "SLIPS" = some (.int 4 t)
  g_TURNS : ∃ t, mg "TURNS" = some (.int 3 t)
  ta_WORDS : Addr
  g_WORDS : TupOk K mg "WORDS" [.str [108, 111, 115, 116], .str [116, 119, 105, 99, 101]] ta_WORDS
  n_abs : mg "abs" = none
  n_all : mg "all" = none
  n_bool : mg "bool" = none
  n_dict : mg "dict" = none
  n_enumerate : mg "enumerate" = none
  n_int : mg "int" = none
  n_isinstance : mg "isinstance" = none
  n_len : mg "len" = none
  n_list : mg "list" = none
  n_min : mg "min" = none
  n_range : mg "range" = none
  n_set : mg "set" = none
  n_sorted : mg "sorted" = none
  n_str : mg "str" = none
  n_tuple : mg "tuple" = none
  n_zip : mg "zip" = none
  r_NoRow : mg "NoRow" = some (.ref (ce .row))
  e_NoRow : ErrOk K (ce .row) 0
  r_NoSlips : mg "NoSlips" = some (.ref (ce .slips))
  e_NoSlips : ErrOk K (ce .slips) 0
  r_NoText : mg "NoText" = some (.ref (ce .text))
  e_NoText : ErrOk K (ce .text) 0
  r_NoWheels : mg "NoWheels" = some (.ref (ce .wheels))
  e_NoWheels : ErrOk K (ce .wheels) 0
abbrev Env.cl {K : PySem.W.Frag} {mg : Str → Option Value} (E : Env K mg) : Cls := ⟨E.ce, none⟩
section
variable {P : Program} {w : World} {K : PySem.W.Frag} {mg : Str → Option Value} {base : Heap}
theorem sc_l_cell_at : FnScope ["_law_script", "_law_k"] ["_law_script", "_law_k"] (defScope s_l_cell_at) := ⟨rfl, rfl, rfl, by decide +kernel, rfl, by decide +kernel, by decide +kernel⟩
theorem ok_l_cell_at (E : Env K mg) : FnOk P w K mg base (L2N.CX P w) 1 E.a_l_cell_at E.d_l_cell_at ["_law_script", "_law_k"] (spOf ⟨P, w, K, E.cl⟩ 2 F_l_cell_at) := by
  refine fn_mk (fb := B_l_cell_at) (t := 0) 0 E.F_l_cell_at sc_l_cell_at rfl fun cdv A outer s H EX hr => ?_
  have sc := sc_l_cell_at
  have hu64 := room64 hr
  have hu65 := room65 hr
  have hu1 := room1 hr
  have tk : L2N.Takes (cxOf (L2N.CX P w) P w K mg base ["_law_script", "_law_k"] "_law_cell_at" (defScope s_l_cell_at) E.a_l_cell_at cdv A outer s H EX) (WF EX) := L2N.takes_of rfl rfl rfl rfl
  exact (dss_cons (ds_if (dt_cmp gLt_ne od_lt (de_var 1) (de_call1 gLen_ne c_len (by rfl) E.n_len PySem.boot_len (.inl ⟨_, rfl⟩) (de_var 0)) (nomark _)) (dss_one (ds_ret (de_ix gIx_ne ix_data (de_var 0) (de_var 1)))) dss_nil) (dss_cons (ds_if (dt_cmp gEq_ne (od_eq hu64) (de_var 0) (de_new (dn_lst da_nil)) (nomark _)) (dss_one (ds_ret de_int)) dss_nil) (dss_one (ds_ret (de_op gAdd_ne od_add (de_op gMul_ne od_mul (de_ix gIx_ne ix_data (de_var 0) (de_op gMod_ne od_mod (de_var 1) (de_call1 gLen_ne c_len (by rfl) E.n_len PySem.boot_len (.inl ⟨_, rfl⟩) (de_var 0)))) de_int) (de_var 1))))))
theorem sc_l_mixed : FnScope ["_law_script", "_law_k", "_law_many", "_law_drawn"] ["_law_script", "_law_k", "_law_many"] (defScope s_l_mixed) := ⟨rfl, rfl, rfl, by decide +kernel, rfl, by decide +kernel, by decide +kernel⟩
theorem ok_l_mixed (E : Env K mg) : FnOk P w K mg base (L2N.CX P w) 2 E.a_l_mixed E.d_l_mixed ["_law_script", "_law_k", "_law_many"] (spOf ⟨P, w, K, E.cl⟩ 3 F_l_mixed) := by
  refine fn_mk (fb := B_l_mixed) (t := 0) 1 E.F_l_mixed sc_l_mixed rfl fun cdv A outer s H EX hr => ?_
  have sc := sc_l_mixed
  have hu64 := room64 hr
  have hu65 := room65 hr
  have hu1 := room1 hr
  have tk : L2N.Takes (cxOf (L2N.CX P w) P w K mg base ["_law_script", "_law_k", "_law_many", "_law_drawn"] "_law_mixed" (defScope s_l_mixed) E.a_l_mixed cdv A outer s H EX) (WF EX) := L2N.takes_of rfl rfl rfl rfl
  exact (dss_cons (ds_set sc.nd (de_op gMod_ne od_mod (de_op gAdd_ne od_add (de_op gAdd_ne od_add (de_op gMul_ne od_mul (de_call (ok_l_cell_at E) (hr.mono (by decide)) E.m_l_cell_at E.k_l_cell_at E.b_l_cell_at tk (da_cons (de_var 0) (da_cons (de_var 1) da_nil))) de_int) (de_op gMul_ne od_mul de_int (de_var 1))) de_int) de_int)) (dss_one (ds_ret (de_op gMod_ne od_mod (de_op gMod_ne od_mod (de_op gMod_ne od_mod (de_op gPow_ne od_pow (de_var 3) de_int) de_int) de_int) (de_var 2)))))
theorem sc_l_draw : FnScope ["_law_script", "_law_town", "_law_many"] ["_law_script", "_law_town", "_law_many"] (defScope s_l_draw) := ⟨rfl, rfl, rfl, by decide +kernel, rfl, by decide +kernel, by decide +kernel⟩
theorem ok_l_draw (E : Env K mg) : FnOk P w K mg base (L2N.CX P w) 3 E.a_l_draw E.d_l_draw ["_law_script", "_law_town", "_law_many"] (spIO ⟨P, w, K, E.cl⟩ 3 F_l_draw) := by
  refine fn_mkIO (fb := B_l_draw) 0 E.F_l_draw sc_l_draw rfl fun _ cdv A outer s H EX hr => ?_
  have sc := sc_l_draw
  have hu64 := room64 hr
  have hu65 := room65 hr
  have hu1 := room1 hr
  have tk : L2N.Takes (cxOf (L2N.CX P w) P w K mg base ["_law_script", "_law_town", "_law_many"] "_law_draw" (defScope s_l_draw) E.a_l_draw cdv A outer s H EX) (WF EX) := L2N.takes_of rfl rfl rfl rfl
  exact (dss_cons (ds_expr (de_append (pv 1) (da_cons de_int da_nil))) (dss_one (ds_ret (de_call (ok_l_mixed E) (hr.mono (by decide)) E.m_l_mixed E.k_l_mixed E.b_l_mixed tk (da_cons (de_var 0) (da_cons (de_call1 gLen_ne c_len (by rfl) E.n_len PySem.boot_len (.inl ⟨_, rfl⟩) (de_var 1)) (da_cons (de_var 2) da_nil)))))))
theorem sc_l_pick : FnScope ["_law_script", "_law_town", "_law_some"] ["_law_script", "_law_town", "_law_some"] (defScope s_l_pick) := ⟨rfl, rfl, rfl, by decide +kernel, rfl, by decide +kernel, by decide +kernel⟩
theorem ok_l_pick (E : Env K mg) : FnOk P w K mg base (L2N.CX P w) 4 E.a_l_pick E.d_l_pick ["_law_script", "_law_town", "_law_some"] (spIO ⟨P, w, K, E.cl⟩ 3 F_l_pick) := by
  refine fn_mkIO (fb := B_l_pick) 0 E.F_l_pick sc_l_pick rfl fun _ cdv A outer s H EX hr => ?_
  have sc := sc_l_pick
  have hu64 := room64 hr
  have hu65 := room65 hr
  have hu1 := room1 hr
  have tk : L2N.Takes (cxOf (L2N.CX P w) P w K mg base ["_law_script", "_law_town", "_law_some"] "_law_pick" (defScope s_l_pick) E.a_l_pick cdv A outer s H EX) (WF EX) := L2N.takes_of rfl rfl rfl rfl
  exact (dss_one (ds_ret (de_ix gIx_ne ix_data (de_var 2) (de_callIO 1 (ok_l_draw E) (hr.mono (by decide)) E.m_l_draw E.k_l_draw E.b_l_draw tk (de_var 0) (pv 1) (da_cons (de_call1 gLen_ne c_len (by rfl) E.n_len PySem.boot_len (.inl ⟨_, rfl⟩) (de_var 2)) da_nil)))))
theorem sc_l_row : FnScope ["_law_script", "_law_town", "_law_most", "_law_k"] ["_law_script", "_law_town", "_law_most"] (defScope s_l_row) := ⟨rfl, rfl, rfl, by decide +kernel, rfl, by decide +kernel, by decide +kernel⟩
theorem ok_l_row (E : Env K mg) : FnOk P w K mg base (L2N.CX P w) 5 E.a_l_row E.d_l_row ["_law_script", "_law_town", "_law_most"] (spIO ⟨P, w, K, E.cl⟩ 3 F_l_row) := by
  refine fn_mkIO (fb := B_l_row) 1 E.F_l_row sc_l_row rfl fun _ cdv A outer s H EX hr => ?_
  have sc := sc_l_row
  have hu64 := room64 hr
  have hu65 := room65 hr
  have hu1 := room1 hr
  have tk : L2N.Takes (cxOf (L2N.CX P w) P w K mg base ["_law_script", "_law_town", "_law_most", "_law_k"] "_law_row" (defScope s_l_row) E.a_l_row cdv A outer s H EX) (WF EX) := L2N.takes_of rfl rfl rfl rfl
  exact (dss_one (ds_ret (de_join (de_str []) (da_cons (de_new (dn_lc rfl sc.nd (di_range1 (de_callIO 1 (ok_l_draw E) (hr.mono (by decide)) E.m_l_draw E.k_l_draw E.b_l_draw tk (de_var 0) (pv 1) (da_cons (de_op gAdd_ne od_add (de_var 2) de_int) da_nil)) E.n_range) (blkOk_by (N := ["_law_script", "_law_town", "_law_most", "_law_k"]) (sc := defScope s_l_row) (own := [("_law_k", 3)]) (by decide +kernel)) (fun _ _ _ _ _ => (dg_name 3 sc.nd)) (fun _ _ _ _ _ => dts_nil) (fun _ _ _ _ _ => (de_callIO 1 (ok_l_pick E) (hr.mono (by decide)) E.m_l_pick E.k_l_pick E.b_l_pick takesN0 (de_var 0) (pv 1) (da_cons (de_new (dn_list rfl (de_str [115, 115, 115, 115, 112, 112, 108, 102]) E.n_list)) da_nil))))) da_nil))))
theorem sc_l_text : FnScope ["_law_script", "_law_town", "_law_wheels_here", "_law_most", "_law_signs", "_law_k"] ["_law_script", "_law_town", "_law_wheels_here", "_law_most"] (defScope s_l_text) := ⟨rfl, rfl, rfl, by decide +kernel, rfl, by decide +kernel, by decide +kernel⟩
theorem ok_l_text (E : Env K mg) : FnOk P w K mg base (L2N.CX P w) 5 E.a_l_text E.d_l_text ["_law_script", "_law_town", "_law_wheels_here", "_law_most"] (spIO ⟨P, w, K, E.cl⟩ 4 F_l_text) := by
  refine fn_mkIO (fb := B_l_text) 2 E.F_l_text sc_l_text rfl fun _ cdv A outer s H EX hr => ?_
  have sc := sc_l_text
  have hu64 := room64 hr
  have hu65 := room65 hr
  have hu1 := room1 hr
  have tk : L2N.Takes (cxOf (L2N.CX P w) P w K mg base ["_law_script", "_law_town", "_law_wheels_here", "_law_most", "_law_signs", "_law_k"] "_law_text" (defScope s_l_text) E.a_l_text cdv A outer s H EX) (WF EX) := L2N.takes_of rfl rfl rfl rfl
  exact (dss_cons (ds_set sc.nd (de_new (dn_sortSet rfl E.n_sorted E.n_set (de_op gAdd_ne od_add (de_ix gIx_ne ix_data (de_var 2) de_int) (de_ix gIx_ne ix_data (de_var 2) de_int))))) (dss_one (ds_ret (de_join (de_str []) (da_cons (de_new (dn_lc rfl sc.nd (di_range1 (de_callIO 1 (ok_l_draw E) (hr.mono (by decide)) E.m_l_draw E.k_l_draw E.b_l_draw tk (de_var 0) (pv 1) (da_cons (de_op gAdd_ne od_add (de_var 3) de_int) da_nil)) E.n_range) (blkOk_by (N := ["_law_script", "_law_town", "_law_wheels_here", "_law_most", "_law_signs", "_law_k"]) (sc := defScope s_l_text) (own := [("_law_k", 5)]) (by decide +kernel)) (fun _ _ _ _ _ => (dg_name 5 sc.nd)) (fun _ _ _ _ _ => dts_nil) (fun _ _ _ _ _ => (de_callIO 1 (ok_l_pick E) (hr.mono (by decide)) E.m_l_pick E.k_l_pick E.b_l_pick takesN0 (de_var 0) (pv 1) (da_cons (de_var 4) da_nil))))) da_nil)))))
theorem sc_l_wheel : FnScope ["_law_script", "_law_town", "_law_many", "_law_k", "_law_left", "_law_made"] ["_law_script", "_law_town", "_law_many"] (defScope s_l_wheel) := ⟨rfl, rfl, rfl, by decide +kernel, rfl, by decide +kernel, by decide +kernel⟩
theorem ok_l_wheel (E : Env K mg) : FnOk P w K mg base (L2N.CX P w) 4 E.a_l_wheel E.d_l_wheel ["_law_script", "_law_town", "_law_many"] (spIO ⟨P, w, K, E.cl⟩ 3 F_l_wheel) := by
  refine fn_mkIO (fb := B_l_wheel) 3 E.F_l_wheel sc_l_wheel rfl fun _ cdv A outer s H EX hr => ?_
  have sc := sc_l_wheel
  have hu64 := room64 hr
  have hu65 := room65 hr
  have hu1 := room1 hr
  have tk : L2N.Takes (cxOf (L2N.CX P w) P w K mg base ["_law_script", "_law_town", "_law_many", "_law_k", "_law_left", "_law_made"] "_law_wheel" (defScope s_l_wheel) E.a_l_wheel cdv A outer s H EX) (WF EX) := L2N.takes_of rfl rfl rfl rfl
  exact (dss_cons (ds_par2 rfl sc.nd (dv_new (dn_list rfl (de_str [97, 98, 99, 120, 121, 122, 48, 49, 57, 32, 46, 44, 45]) E.n_list) (dv_keep (de_str []) dv_nil)) (vNew_len (vKeep_len (vNil_len rfl)))) (dss_cons (ds_kill [3] (ds_for (passes_of rfl) rfl (di_range1 (de_var 2) E.n_range) (dg_name 3 sc.nd) (dss_one (ds_kill [3] (ds_set sc.nd (de_op gAdd_ne od_add (de_var 5) (de_pop1 (pv 4) (da_cons (de_callIO 1 (ok_l_draw E) (hr.mono (by decide)) E.m_l_draw E.k_l_draw E.b_l_draw tk (de_var 0) (pv 1) (da_cons (de_call1 gLen_ne c_len (by rfl) E.n_len PySem.boot_len (.inl ⟨_, rfl⟩) (de_var 4)) da_nil)) da_nil)))))))) (dss_one (ds_ret (de_var 5)))))
theorem sc_l_wheels : FnScope ["_law_script", "_law_town", "_law_most", "_law_many"] ["_law_script", "_law_town", "_law_most"] (defScope s_l_wheels) := ⟨rfl, rfl, rfl, by decide +kernel, rfl, by decide +kernel, by decide +kernel⟩
theorem ok_l_wheels (E : Env K mg) : FnOk P w K mg base (L2N.CX P w) 5 E.a_l_wheels E.d_l_wheels ["_law_script", "_law_town", "_law_most"] (spIO ⟨P, w, K, E.cl⟩ 3 F_l_wheels) := by
  refine fn_mkIO (fb := B_l_wheels) 1 E.F_l_wheels sc_l_wheels rfl fun _ cdv A outer s H EX hr => ?_
  have sc := sc_l_wheels
  have hu64 := room64 hr
  have hu65 := room65 hr
  have hu1 := room1 hr
  have tk : L2N.Takes (cxOf (L2N.CX P w) P w K mg base ["_law_script", "_law_town", "_law_most", "_law_many"] "_law_wheels" (defScope s_l_wheels) E.a_l_wheels cdv A outer s H EX) (WF EX) := L2N.takes_of rfl rfl rfl rfl
  exact (dss_cons (ds_set sc.nd (de_op gAdd_ne od_add de_int (de_callIO 1 (ok_l_draw E) (hr.mono (by decide)) E.m_l_draw E.k_l_draw E.b_l_draw tk (de_var 0) (pv 1) (da_cons (de_op gSub_ne od_sub (de_var 2) de_int) da_nil)))) (dss_one (ds_ret (de_tup (da_cons (de_callIO 1 (ok_l_wheel E) (hr.mono (by decide)) E.m_l_wheel E.k_l_wheel E.b_l_wheel tk (de_var 0) (pv 1) (da_cons (de_var 3) da_nil)) (da_cons (de_callIO 1 (ok_l_wheel E) (hr.mono (by decide)) E.m_l_wheel E.k_l_wheel E.b_l_wheel tk (de_var 0) (pv 1) (da_cons (de_var 3) da_nil)) (da_cons (de_op gAdd_ne od_add de_int (de_callIO 1 (ok_l_draw E) (hr.mono (by decide)) E.m_l_draw E.k_l_draw E.b_l_draw tk (de_var 0) (pv 1) (da_cons de_int da_nil))) da_nil)))))))
theorem sc_is_row : FnScope ["thing", "most", "pulse"] ["thing", "most"] (defScope s_is_row) := ⟨rfl, rfl, rfl, by decide +kernel, rfl, by decide +kernel, by decide +kernel⟩
theorem ok_is_row (E : Env K mg) : FnOk P w K mg base (L2N.CX P w) 1 E.a_is_row E.d_is_row ["thing", "most"] (spOf ⟨P, w, K, E.cl⟩ 2 F_is_row) := by
  refine fn_mk (fb := B_is_row) (t := 0) 1 E.F_is_row sc_is_row rfl fun cdv A outer s H EX hr => ?_
  have sc := sc_is_row
  have hu64 := room64 hr
  have hu65 := room65 hr
  have hu1 := room1 hr
  have tk : L2N.Takes (cxOf (L2N.CX P w) P w K mg base ["thing", "most", "pulse"] "is_row" (defScope s_is_row) E.a_is_row cdv A outer s H EX) (WF EX) := L2N.takes_of rfl rfl rfl rfl
  exact (dss_one (ds_ret (de_and (de_isi .str (de_var 0) E.n_isinstance E.n_str PyProof.Rows.boot_str) (de_and (de_cmp gLe_ne od_le (de_call1 gLen_ne c_len (by rfl) E.n_len PySem.boot_len (.inl ⟨_, rfl⟩) (de_var 0)) (de_var 1) (nomark _)) (de_one (de_call1 gAll_ne (c_all rfl) (by rfl) E.n_all b_all (.inl ⟨_, rfl⟩) (de_new (dn_lc rfl sc.nd (di_seq (de_var 0)) (blkOk_by (N := ["thing", "most", "pulse"]) (sc := defScope s_is_row) (own := [("pulse", 2)]) (by decide +kernel)) (fun _ _ _ _ _ => (dg_name 2 sc.nd)) (fun _ _ _ _ _ => dts_nil) (fun _ _ _ _ _ => (de_cmp gIn_ne (od_in hu65) (de_var 2) (de_globS [115, 112, 108, 102] E.g_PULSES) (by rfl)))))))))))
theorem sc_need_row : FnScope ["thing", "most"] ["thing", "most"] (defScope s_need_row) := ⟨rfl, rfl, rfl, by decide +kernel, rfl, by decide +kernel, by decide +kernel⟩
theorem ok_need_row (E : Env K mg) : FnOk P w K mg base (L2N.CX P w) 2 E.a_need_row E.d_need_row ["thing", "most"] (spOf ⟨P, w, K, E.cl⟩ 2 F_need_row) := by
  refine fn_mk (fb := B_need_row) (t := 0) 0 E.F_need_row sc_need_row rfl fun cdv A outer s H EX hr => ?_
  have sc := sc_need_row
  have hu64 := room64 hr
  have hu65 := room65 hr
  have hu1 := room1 hr
  have tk : L2N.Takes (cxOf (L2N.CX P w) P w K mg base ["thing", "most"] "need_row" (defScope s_need_row) E.a_need_row cdv A outer s H EX) (WF EX) := L2N.takes_of rfl rfl rfl rfl
  exact (dss_one (ds_if (dt_not (dt_val (de_call (ok_is_row E) (hr.mono (by decide)) E.m_is_row E.k_is_row E.b_is_row tk (da_cons (de_var 0) (da_cons (de_var 1) da_nil))))) (dss_one (ds_raise (cl := E.cl) .row E.r_NoRow E.e_NoRow tk rfl)) dss_nil))
theorem sc_are_signs : FnScope ["thing", "low", "most", "sign"] ["thing", "low", "most"] (defScope s_are_signs) := ⟨rfl, rfl, rfl, by decide +kernel, rfl, by decide +kernel, by decide +kernel⟩
theorem ok_are_signs (E : Env K mg) : FnOk P w K mg base (L2N.CX P w) 1 E.a_are_signs E.d_are_signs ["thing", "low", "most"] (spOf ⟨P, w, K, E.cl⟩ 3 F_are_signs) := by
  refine fn_mk (fb := B_are_signs) (t := 0) 1 E.F_are_signs sc_are_signs rfl fun cdv A outer s H EX hr => ?_
  have sc := sc_are_signs
  have hu64 := room64 hr
  have hu65 := room65 hr
  have hu1 := room1 hr
  have tk : L2N.Takes (cxOf (L2N.CX P w) P w K mg base ["thing", "low", "most", "sign"] "are_signs" (defScope s_are_signs) E.a_are_signs cdv A outer s H EX) (WF EX) := L2N.takes_of rfl rfl rfl rfl
  exact (dss_one (ds_ret (de_and (de_isi .str (de_var 0) E.n_isinstance E.n_str PyProof.Rows.boot_str) (de_and (de_chain gLe_ne gLe_ne od_le od_le (de_var 1) (de_call1 gLen_ne c_len (by rfl) E.n_len PySem.boot_len (.inl ⟨_, rfl⟩) (de_var 0)) (de_var 2)) (de_one (de_call1 gAll_ne (c_all rfl) (by rfl) E.n_all b_all (.inl ⟨_, rfl⟩) (de_new (dn_lc rfl sc.nd (di_seq (de_var 0)) (blkOk_by (N := ["thing", "low", "most", "sign"]) (sc := defScope s_are_signs) (own := [("sign", 3)]) (by decide +kernel)) (fun _ _ _ _ _ => (dg_name 3 sc.nd)) (fun _ _ _ _ _ => dts_nil) (fun _ _ _ _ _ => (de_cmp gIn_ne (od_in hu65) (de_var 3) (de_globS [97, 98, 99, 100, 101, 102, 103, 104, 105, 106, 107, 108, 109, 110, 111, 112, 113, 114, 115, 116, 117, 118, 119, 120, 121, 122, 48, 49, 50, 51, 52, 53, 54, 55, 56, 57, 32, 46, 44, 45] E.g_SIGNS) (by rfl)))))))))))
theorem sc_is_wheel : FnScope ["thing"] ["thing"] (defScope s_is_wheel) := ⟨rfl, rfl, rfl, by decide +kernel, rfl, by decide +kernel, by decide +kernel⟩
theorem ok_is_wheel (E : Env K mg) : FnOk P w K mg base (L2N.CX P w) 2 E.a_is_wheel E.d_is_wheel ["thing"] (spOf ⟨P, w, K, E.cl⟩ 1 F_is_wheel) := by
  refine fn_mk (fb := B_is_wheel) (t := 0) 0 E.F_is_wheel sc_is_wheel rfl fun cdv A outer s H EX hr => ?_
  have sc := sc_is_wheel
  have hu64 := room64 hr
  have hu65 := room65 hr
  have hu1 := room1 hr
  have tk : L2N.Takes (cxOf (L2N.CX P w) P w K mg base ["thing"] "is_wheel" (defScope s_is_wheel) E.a_is_wheel cdv A outer s H EX) (WF EX) := L2N.takes_of rfl rfl rfl rfl
  exact (dss_one (ds_ret (de_and (de_call (ok_are_signs E) (hr.mono (by decide)) E.m_are_signs E.k_are_signs E.b_are_signs tk (da_cons (de_var 0) (da_cons (de_globI E.g_LEAST) (da_cons (de_globI E.g_MOST_wheels) da_nil)))) (de_one (de_cmp gEq_ne (od_eq hu64) (de_lenSet rfl E.n_len E.n_set (de_var 0)) (de_call1 gLen_ne c_len (by rfl) E.n_len PySem.boot_len (.inl ⟨_, rfl⟩) (de_var 0)) (nomark _))))))
theorem sc_is_whole : FnScope ["thing", "low", "most"] ["thing", "low", "most"] (defScope s_is_whole) := ⟨rfl, rfl, rfl, by decide +kernel, rfl, by decide +kernel, by decide +kernel⟩
theorem ok_is_whole (E : Env K mg) : FnOk P w K mg base (L2N.CX P w) 1 E.a_is_whole E.d_is_whole ["thing", "low", "most"] (spOf ⟨P, w, K, E.cl⟩ 3 F_is_whole) := by
  refine fn_mk (fb := B_is_whole) (t := 0) 0 E.F_is_whole sc_is_whole rfl fun cdv A outer s H EX hr => ?_
  have sc := sc_is_whole
  have hu64 := room64 hr
  have hu65 := room65 hr
  have hu1 := room1 hr
  have tk : L2N.Takes (cxOf (L2N.CX P w) P w K mg base ["thing", "low", "most"] "is_whole" (defScope s_is_whole) E.a_is_whole cdv A outer s H EX) (WF EX) := L2N.takes_of rfl rfl rfl rfl
  exact (dss_one (ds_ret (de_and (de_isi .int (de_var 0) E.n_isinstance E.n_int PyProof.Rows.boot_int) (de_and (de_not (de_isi .bool (de_var 0) E.n_isinstance E.n_bool PyProof.Rows.boot_bool)) (de_one (de_chain gLe_ne gLe_ne od_le od_le (de_var 1) (de_var 0) (de_var 2)))))))
theorem sc_is_wheels : FnScope ["thing"] ["thing"] (defScope s_is_wheels) := ⟨rfl, rfl, rfl, by decide +kernel, rfl, by decide +kernel, by decide +kernel⟩
theorem ok_is_wheels (E : Env K mg) : FnOk P w K mg base (L2N.CX P w) 3 E.a_is_wheels E.d_is_wheels ["thing"] (spOf ⟨P, w, K, E.cl⟩ 1 F_is_wheels) := by
  refine fn_mk (fb := B_is_wheels) (t := 0) 0 E.F_is_wheels sc_is_wheels rfl fun cdv A outer s H EX hr => ?_
  have sc := sc_is_wheels
  have hu64 := room64 hr
  have hu65 := room65 hr
  have hu1 := room1 hr
  have tk : L2N.Takes (cxOf (L2N.CX P w) P w K mg base ["thing"] "is_wheels" (defScope s_is_wheels) E.a_is_wheels cdv A outer s H EX) (WF EX) := L2N.takes_of rfl rfl rfl rfl
  exact (dss_cons (ds_if (dw_pt (dw_or (dt_not (dt_val (de_isi .tuple (de_var 0) E.n_isinstance E.n_tuple PyProof.Rows.boot_tuple))) (dw_or (dt_cmp gNe_ne (od_ne hu64) (de_call1 gLen_ne c_len (by rfl) E.n_len PySem.boot_len (.inl ⟨_, rfl⟩) (de_var 0)) de_int (nomark _)) (dw_or (dt_not (dt_val (de_call (ok_is_wheel E) (hr.mono (by decide)) E.m_is_wheel E.k_is_wheel E.b_is_wheel tk (da_cons (de_ix gIx_ne ix_data (de_var 0) de_int) da_nil)))) (dw_or1 (dt_not (dt_val (de_call (ok_is_wheel E) (hr.mono (by decide)) E.m_is_wheel E.k_is_wheel E.b_is_wheel tk (da_cons (de_ix gIx_ne ix_data (de_var 0) de_int) da_nil))))))))) (dss_one (ds_ret de_bl)) dss_nil) (dss_one (ds_ret (de_and (de_cmp gEq_ne (od_eq hu64) (de_call1 gLen_ne c_len (by rfl) E.n_len PySem.boot_len (.inl ⟨_, rfl⟩) (de_ix gIx_ne ix_data (de_var 0) de_int)) (de_call1 gLen_ne c_len (by rfl) E.n_len PySem.boot_len (.inl ⟨_, rfl⟩) (de_ix gIx_ne ix_data (de_var 0) de_int)) (nomark _)) (de_one (de_call (ok_is_whole E) (hr.mono (by decide)) E.m_is_whole E.k_is_whole E.b_is_whole tk (da_cons (de_ix gIx_ne ix_data (de_var 0) de_int) (da_cons de_int (da_cons (de_globI E.g_TURNS) da_nil)))))))))
theorem sc_need_wheels : FnScope ["thing"] ["thing"] (defScope s_need_wheels) := ⟨rfl, rfl, rfl, by decide +kernel, rfl, by decide +kernel, by decide +kernel⟩
theorem ok_need_wheels (E : Env K mg) : FnOk P w K mg base (L2N.CX P w) 4 E.a_need_wheels E.d_need_wheels ["thing"] (spOf ⟨P, w, K, E.cl⟩ 1 F_need_wheels) := by
  refine fn_mk (fb := B_need_wheels) (t := 0) 0 E.F_need_wheels sc_need_wheels rfl fun cdv A outer s H EX hr => ?_
  have sc := sc_need_wheels
  have hu64 := room64 hr
  have hu65 := room65 hr
  have hu1 := room1 hr
  have tk : L2N.Takes (cxOf (L2N.CX P w) P w K mg base ["thing"] "need_wheels" (defScope s_need_wheels) E.a_need_wheels cdv A outer s H EX) (WF EX) := L2N.takes_of rfl rfl rfl rfl
  exact (dss_one (ds_if (dt_not (dt_val (de_call (ok_is_wheels E) (hr.mono (by decide)) E.m_is_wheels E.k_is_wheels E.b_is_wheels tk (da_cons (de_var 0) da_nil)))) (dss_one (ds_raise (cl := E.cl) .wheels E.r_NoWheels E.e_NoWheels tk rfl)) dss_nil))
theorem sc_need_both : FnScope ["wheels", "row"] ["wheels", "row"] (defScope s_need_both) := ⟨rfl, rfl, rfl, by decide +kernel, rfl, by decide +kernel, by decide +kernel⟩
theorem ok_need_both (E : Env K mg) : FnOk P w K mg base (L2N.CX P w) 5 E.a_need_both E.d_need_both ["wheels", "row"] (spOf ⟨P, w, K, E.cl⟩ 2 F_need_both) := by
  refine fn_mk (fb := B_need_both) (t := 0) 0 E.F_need_both sc_need_both rfl fun cdv A outer s H EX hr => ?_
  have sc := sc_need_both
  have hu64 := room64 hr
  have hu65 := room65 hr
  have hu1 := room1 hr
  have tk : L2N.Takes (cxOf (L2N.CX P w) P w K mg base ["wheels", "row"] "need_both" (defScope s_need_both) E.a_need_both cdv A outer s H EX) (WF EX) := L2N.takes_of rfl rfl rfl rfl
  exact (dss_cons (ds_expr (de_call (ok_need_wheels E) (hr.mono (by decide)) E.m_need_wheels E.k_need_wheels E.b_need_wheels tk (da_cons (de_var 0) da_nil))) (dss_one (ds_expr (de_call (ok_need_row E) (hr.mono (by decide)) E.m_need_row E.k_need_row E.b_need_row tk (da_cons (de_var 1) (da_cons (de_globI E.g_MOST_thinning) da_nil))))))
theorem sc_places_of : FnScope ["wheels"] ["wheels"] (defScope s_places_of) := ⟨rfl, rfl, rfl, by decide +kernel, rfl, by decide +kernel, by decide +kernel⟩
theorem ok_places_of (E : Env K mg) : FnOk P w K mg base (L2N.CX P w) 1 E.a_places_of E.d_places_of ["wheels"] (spOf ⟨P, w, K, E.cl⟩ 1 F_places_of) := by
  refine fn_mk (fb := B_places_of) (t := 0) 0 E.F_places_of sc_places_of rfl fun cdv A outer s H EX hr => ?_
  have sc := sc_places_of
  have hu64 := room64 hr
  have hu65 := room65 hr
  have hu1 := room1 hr
  have tk : L2N.Takes (cxOf (L2N.CX P w) P w K mg base ["wheels"] "places_of" (defScope s_places_of) E.a_places_of cdv A outer s H EX) (WF EX) := L2N.takes_of rfl rfl rfl rfl
  exact (dss_one (ds_ret (de_call1 gLen_ne c_len (by rfl) E.n_len PySem.boot_len (.inl ⟨_, rfl⟩) (de_ix gIx_ne ix_data (de_var 0) de_int))))
theorem sc_is_caught : FnScope ["wheels", "stand"] ["wheels", "stand"] (defScope s_is_caught) := ⟨rfl, rfl, rfl, by decide +kernel, rfl, by decide +kernel, by decide +kernel⟩
theorem ok_is_caught (E : Env K mg) : FnOk P w K mg base (L2N.CX P w) 2 E.a_is_caught E.d_is_caught ["wheels", "stand"] (spOf ⟨P, w, K, E.cl⟩ 2 F_is_caught) := by
  refine fn_mk (fb := B_is_caught) (t := 0) 0 E.F_is_caught sc_is_caught rfl fun cdv A outer s H EX hr => ?_
  have sc := sc_is_caught
  have hu64 := room64 hr
  have hu65 := room65 hr
  have hu1 := room1 hr
  have tk : L2N.Takes (cxOf (L2N.CX P w) P w K mg base ["wheels", "stand"] "is_caught" (defScope s_is_caught) E.a_is_caught cdv A outer s H EX) (WF EX) := L2N.takes_of rfl rfl rfl rfl
  exact (dss_one (ds_ret (de_and (de_cmp gEq_ne (od_eq hu64) (de_ix gIx_ne ix_data (de_var 1) de_int) de_int (nomark _)) (de_one (de_cmp gGe_ne od_ge (de_ix gIx_ne ix_data (de_var 1) de_int) (de_op gMul_ne od_mul (de_call (ok_places_of E) (hr.mono (by decide)) E.m_places_of E.k_places_of E.b_places_of tk (da_cons (de_var 0) da_nil)) (de_ix gIx_ne ix_data (de_var 0) de_int)) (nomark _))))))
theorem sc_pulsed : FnScope ["wheels", "stand", "pulse", "place", "wheel", "idle"] ["wheels", "stand", "pulse"] (defScope s_pulsed) := ⟨rfl, rfl, rfl, by decide +kernel, rfl, by decide +kernel, by decide +kernel⟩
theorem ok_pulsed (E : Env K mg) : FnOk P w K mg base (L2N.CX P w) 3 E.a_pulsed E.d_pulsed ["wheels", "stand", "pulse"] (spOf ⟨P, w, K, E.cl⟩ 3 F_pulsed) := by
  refine fn_mk (fb := B_pulsed) (t := 0) 3 E.F_pulsed sc_pulsed rfl fun cdv A outer s H EX hr => ?_
  have sc := sc_pulsed
  have hu64 := room64 hr
  have hu65 := room65 hr
  have hu1 := room1 hr
  have tk : L2N.Takes (cxOf (L2N.CX P w) P w K mg base ["wheels", "stand", "pulse", "place", "wheel", "idle"] "pulsed" (defScope s_pulsed) E.a_pulsed cdv A outer s H EX) (WF EX) := L2N.takes_of rfl rfl rfl rfl
  exact (dss_cons (ds_asg (de_var 1) (dg_tup rfl (dgs_cons (dg_name 3 sc.nd) (dgs_cons (dg_name 4 sc.nd) (dgs_cons (dg_name 5 sc.nd) dgs_nil))) (fun _ _ _ h => gsCons_len (fun _ _ _ h => gsCons_len (fun _ _ _ h => gsCons_len (fun _ _ _ h => gsNil_len h) h) h) h))) (dss_cons (ds_if (dt_cmp gEq_ne (od_eq hu64) (de_var 2) (de_str [115]) (nomark _)) (dss_cons (ds_if (dt_val (de_call (ok_is_caught E) (hr.mono (by decide)) E.m_is_caught E.k_is_caught E.b_is_caught tk (da_cons (de_var 0) (da_cons (de_var 1) da_nil)))) (dss_one (ds_ret (de_tup (da_cons (de_var 1) (da_cons (de_str []) da_nil))))) dss_nil) (dss_one (ds_ret (de_tup (da_cons (de_tup (da_cons (de_op gMod_ne od_mod (de_op gAdd_ne od_add (de_var 3) de_int) (de_call (ok_places_of E) (hr.mono (by decide)) E.m_places_of E.k_places_of E.b_places_of tk (da_cons (de_var 0) da_nil))) (da_cons (de_var 4) (da_cons (de_op gAdd_ne od_add (de_var 5) de_int) da_nil)))) (da_cons (de_str []) da_nil)))))) dss_nil) (dss_cons (ds_if (dt_cmp gEq_ne (od_eq hu64) (de_var 2) (de_str [112]) (nomark _)) (dss_one (ds_ret (de_tup (da_cons (de_tup (da_cons (de_var 3) (da_cons (de_var 4) (da_cons de_int da_nil)))) (da_cons (de_ix gIx_ne ix_data (de_ix gIx_ne ix_data (de_var 0) (de_if (dt_cmp gEq_ne (od_eq hu64) (de_var 4) (de_str [108]) (nomark _)) de_int de_int)) (de_var 3)) da_nil))))) dss_nil) (dss_one (ds_ret (de_tup (da_cons (de_tup (da_cons (de_var 3) (da_cons (de_var 2) (da_cons de_int da_nil)))) (da_cons (de_str []) da_nil))))))))
theorem sc_rowed : FnScope ["wheels", "stand", "row", "text", "pulse", "sign"] ["wheels", "stand", "row"] (defScope s_rowed) := ⟨rfl, rfl, rfl, by decide +kernel, rfl, by decide +kernel, by decide +kernel⟩
theorem ok_rowed (E : Env K mg) : FnOk P w K mg base (L2N.CX P w) 4 E.a_rowed E.d_rowed ["wheels", "stand", "row"] (spOf ⟨P, w, K, E.cl⟩ 3 F_rowed) := by
  refine fn_mk (fb := B_rowed) (t := 0) 3 E.F_rowed sc_rowed rfl fun cdv A outer s H EX hr => ?_
  have sc := sc_rowed
  have hu64 := room64 hr
  have hu65 := room65 hr
  have hu1 := room1 hr
  have tk : L2N.Takes (cxOf (L2N.CX P w) P w K mg base ["wheels", "stand", "row", "text", "pulse", "sign"] "rowed" (defScope s_rowed) E.a_rowed cdv A outer s H EX) (WF EX) := L2N.takes_of rfl rfl rfl rfl
  exact (dss_cons (ds_set sc.nd (de_str [])) (dss_cons (ds_kill [4, 5] (ds_for (passes_of rfl) rfl (di_seq (de_var 2)) (dg_name 4 sc.nd) (dss_cons (ds_asg (de_call (ok_pulsed E) (hr.mono (by decide)) E.m_pulsed E.k_pulsed E.b_pulsed tk (da_cons (de_var 0) (da_cons (de_var 1) (da_cons (de_var 4) da_nil)))) (dg_tup rfl (dgs_cons (dg_name 1 sc.nd) (dgs_cons (dg_name 5 sc.nd) dgs_nil)) (fun _ _ _ h => gsCons_len (fun _ _ _ h => gsCons_len (fun _ _ _ h => gsNil_len h) h) h))) (dss_one (ds_kill [4, 5] (ds_set sc.nd (de_op gAdd_ne od_add (de_var 3) (de_var 5)))))))) (dss_one (ds_ret (de_tup (da_cons (de_var 1) (da_cons (de_var 3) da_nil)))))))
theorem sc_caught_at : FnScope ["wheels", "row", "made", "number", "stand"] ["wheels", "row"] (defScope s_caught_at) := ⟨rfl, rfl, rfl, by decide +kernel, rfl, by decide +kernel, by decide +kernel⟩
theorem ok_caught_at (E : Env K mg) : FnOk P w K mg base (L2N.CX P w) 6 E.a_caught_at E.d_caught_at ["wheels", "row"] (spOf ⟨P, w, K, E.cl⟩ 2 F_caught_at) := by
  refine fn_mk (fb := B_caught_at) (t := 0) 3 E.F_caught_at sc_caught_at rfl fun cdv A outer s H EX hr => ?_
  have sc := sc_caught_at
  have hu64 := room64 hr
  have hu65 := room65 hr
  have hu1 := room1 hr
  have tk : L2N.Takes (cxOf (L2N.CX P w) P w K mg base ["wheels", "row", "made", "number", "stand"] "caught_at" (defScope s_caught_at) E.a_caught_at cdv A outer s H EX) (WF EX) := L2N.takes_of rfl rfl rfl rfl
  exact (dss_cons (ds_expr (de_call (ok_need_both E) (hr.mono (by decide)) E.m_need_both E.k_need_both E.b_need_both tk (da_cons (de_var 0) (da_cons (de_var 1) da_nil)))) (dss_cons (ds_new sc.nd (dn_lst da_nil)) (dss_cons (ds_kill [3, 4] (ds_for (passes_of rfl) rfl (di_range1 (de_call1 gLen_ne c_len (by rfl) E.n_len PySem.boot_len (.inl ⟨_, rfl⟩) (de_var 1)) E.n_range) (dg_name 3 sc.nd) (dss_cons (ds_set sc.nd (de_ix gIx_ne ix_data (de_call (ok_rowed E) (hr.mono (by decide)) E.m_rowed E.k_rowed E.b_rowed tk (da_cons (de_var 0) (da_cons (de_globT E.g_FIRST) (da_cons (de_slice (de_var 1) do_none (do_some (de_var 3))) da_nil)))) de_int)) (dss_one (ds_kill [3, 4] (ds_if (dw_pt (dw_and (dt_cmp gEq_ne (od_eq hu64) (de_ix gIx_ne ix_data (de_var 1) (de_var 3)) (de_str [115]) (nomark _)) (dw_and1 (dt_cmp gEq_ne (od_eq hu64) (de_ix gIx_ne ix_data (de_call (ok_rowed E) (hr.mono (by decide)) E.m_rowed E.k_rowed E.b_rowed tk (da_cons (de_var 0) (da_cons (de_globT E.g_FIRST) (da_cons (de_slice (de_var 1) do_none (do_some (de_op gAdd_ne od_add (de_var 3) de_int))) da_nil)))) de_int) (de_var 4) (nomark _))))) (dss_one (ds_expr (de_append (pv 2) (da_cons (de_var 3) da_nil)))) dss_nil)))))) (dss_one (ds_ret (de_var 2))))))
theorem sc_slipped : FnScope ["row", "slips", "book", "many", "number", "pulse", "often"] ["row", "slips"] (defScope s_slipped) := ⟨rfl, rfl, rfl, by decide +kernel, rfl, by decide +kernel, by decide +kernel⟩
theorem ok_slipped (E : Env K mg) : FnOk P w K mg base (L2N.CX P w) 1 E.a_slipped E.d_slipped ["row", "slips"] (spOf ⟨P, w, K, E.cl⟩ 2 F_slipped) := by
  refine fn_mk (fb := B_slipped) (t := 0) 5 E.F_slipped sc_slipped rfl fun cdv A outer s H EX hr => ?_
  have sc := sc_slipped
  have hu64 := room64 hr
  have hu65 := room65 hr
  have hu1 := room1 hr
  have tk : L2N.Takes (cxOf (L2N.CX P w) P w K mg base ["row", "slips", "book", "many", "number", "pulse", "often"] "slipped" (defScope s_slipped) E.a_slipped cdv A outer s H EX) (WF EX) := L2N.takes_of rfl rfl rfl rfl
  exact (dss_cons (ds_set sc.nd (de_new (dn_dictOf rfl (de_var 1) E.n_dict))) (dss_cons (ds_setLc rfl sc.nd (di_range1 (de_call1 gLen_ne c_len (by rfl) E.n_len PySem.boot_len (.inl ⟨_, rfl⟩) (de_var 0)) E.n_range) (blkOk_by (N := ["row", "slips", "book", "many", "number", "pulse", "often"]) (sc := defScope s_slipped) (own := [("number", 4)]) (by decide +kernel)) (fun _ _ _ _ _ => (dg_name 4 sc.nd)) (fun _ _ _ _ _ => dts_nil) (fun _ _ _ _ _ => (de_get2 hu1 (de_new (dn_dict (dps_cons (de_str [108, 111, 115, 116]) de_int (dps_cons (de_str [116, 119, 105, 99, 101]) de_int dps_nil)))) (de_get1 hu1 (de_var 2) (de_var 4)) de_int))) (dss_one (ds_ret (de_join (de_str []) (da_cons (de_new (dn_lc rfl sc.nd (di_zip (de_var 0) (de_var 3) E.n_zip) (blkOk_by (N := ["row", "slips", "book", "many", "number", "pulse", "often"]) (sc := defScope s_slipped) (own := [("pulse", 5), ("often", 6)]) (by decide +kernel)) (fun _ _ _ _ _ => (dg_tup rfl (dgs_cons (dg_name 5 sc.nd) (dgs_cons (dg_name 6 sc.nd) dgs_nil)) (fun _ _ _ h => gsCons_len (fun _ _ _ h => gsCons_len (fun _ _ _ h => gsNil_len h) h) h))) (fun _ _ _ _ _ => dts_nil) (fun _ _ _ _ _ => (de_op gMul_ne od_mul (de_var 5) (de_var 6))))) da_nil))))))
theorem sc_harm_of : FnScope ["wheels", "row", "slip", "right", "wrong", "unlike", "number", "one", "other"] ["wheels", "row", "slip"] (defScope s_harm_of) := ⟨rfl, rfl, rfl, by decide +kernel, rfl, by decide +kernel, by decide +kernel⟩
theorem ok_harm_of (E : Env K mg) : FnOk P w K mg base (L2N.CX P w) 5 E.a_harm_of E.d_harm_of ["wheels", "row", "slip"] (spOf ⟨P, w, K, E.cl⟩ 3 F_harm_of) := by
  refine fn_mk (fb := B_harm_of) (t := 0) 6 E.F_harm_of sc_harm_of rfl fun cdv A outer s H EX hr => ?_
  have sc := sc_harm_of
  have hu64 := room64 hr
  have hu65 := room65 hr
  have hu1 := room1 hr
  have tk : L2N.Takes (cxOf (L2N.CX P w) P w K mg base ["wheels", "row", "slip", "right", "wrong", "unlike", "number", "one", "other"] "harm_of" (defScope s_harm_of) E.a_harm_of cdv A outer s H EX) (WF EX) := L2N.takes_of rfl rfl rfl rfl
  exact (dss_cons (ds_set sc.nd (de_ix gIx_ne ix_data (de_call (ok_rowed E) (hr.mono (by decide)) E.m_rowed E.k_rowed E.b_rowed tk (da_cons (de_var 0) (da_cons (de_globT E.g_FIRST) (da_cons (de_var 1) da_nil)))) de_int)) (dss_cons (ds_set sc.nd (de_ix gIx_ne ix_data (de_call (ok_rowed E) (hr.mono (by decide)) E.m_rowed E.k_rowed E.b_rowed tk (da_cons (de_var 0) (da_cons (de_globT E.g_FIRST) (da_cons (de_call (ok_slipped E) (hr.mono (by decide)) E.m_slipped E.k_slipped E.b_slipped tk (da_cons (de_var 1) (da_cons (de_tup (da_cons (de_var 2) da_nil)) da_nil))) da_nil)))) de_int)) (dss_cons (ds_set sc.nd (de_call1 gLen_ne c_len (by rfl) E.n_len PySem.boot_len (.inl ⟨_, rfl⟩) (de_new (dn_lc rfl sc.nd (di_ez (de_var 3) (de_var 4) E.n_enumerate E.n_zip) (blkOk_by (N := ["wheels", "row", "slip", "right", "wrong", "unlike", "number", "one", "other"]) (sc := defScope s_harm_of) (own := [("number", 6), ("one", 7), ("other", 8)]) (by decide +kernel)) (fun _ _ _ _ _ => (dg_tup rfl (dgs_cons (dg_name 6 sc.nd) (dgs_cons (dg_tup rfl (dgs_cons (dg_name 7 sc.nd) (dgs_cons (dg_name 8 sc.nd) dgs_nil)) (fun _ _ _ h => gsCons_len (fun _ _ _ h => gsCons_len (fun _ _ _ h => gsNil_len h) h) h)) dgs_nil)) (fun _ _ _ h => gsCons_len (fun _ _ _ h => gsCons_len (fun _ _ _ h => gsNil_len h) h) h))) (fun _ _ _ _ _ => (dts_one (dt_cmp gNe_ne (od_ne hu64) (de_var 7) (de_var 8) (nomark _)))) (fun _ _ _ _ _ => (de_var 6)))))) (dss_one (ds_ret (de_op gAdd_ne od_add (de_var 5) (de_call1 gAbs_ne c_abs (by rfl) E.n_abs b_abs (.inl ⟨_, rfl⟩) (de_op gSub_ne od_sub (de_call1 gLen_ne c_len (by rfl) E.n_len PySem.boot_len (.inl ⟨_, rfl⟩) (de_var 3)) (de_call1 gLen_ne c_len (by rfl) E.n_len PySem.boot_len (.inl ⟨_, rfl⟩) (de_var 4))))))))))
theorem sc_is_slip : FnScope ["thing", "long"] ["thing", "long"] (defScope s_is_slip) := ⟨rfl, rfl, rfl, by decide +kernel, rfl, by decide +kernel, by decide +kernel⟩
theorem ok_is_slip (E : Env K mg) : FnOk P w K mg base (L2N.CX P w) 2 E.a_is_slip E.d_is_slip ["thing", "long"] (spOf ⟨P, w, K, E.cl⟩ 2 F_is_slip) := by
  refine fn_mk (fb := B_is_slip) (t := 0) 0 E.F_is_slip sc_is_slip rfl fun cdv A outer s H EX hr => ?_
  have sc := sc_is_slip
  have hu64 := room64 hr
  have hu65 := room65 hr
  have hu1 := room1 hr
  have tk : L2N.Takes (cxOf (L2N.CX P w) P w K mg base ["thing", "long"] "is_slip" (defScope s_is_slip) E.a_is_slip cdv A outer s H EX) (WF EX) := L2N.takes_of rfl rfl rfl rfl
  exact (dss_cons (ds_if (dw_pt (dw_or (dt_not (dt_val (de_isi .tuple (de_var 0) E.n_isinstance E.n_tuple PyProof.Rows.boot_tuple))) (dw_or (dt_cmp gNe_ne (od_ne hu64) (de_call1 gLen_ne c_len (by rfl) E.n_len PySem.boot_len (.inl ⟨_, rfl⟩) (de_var 0)) de_int (nomark _)) (dw_or1 (dt_not (dt_val (de_call (ok_is_whole E) (hr.mono (by decide)) E.m_is_whole E.k_is_whole E.b_is_whole tk (da_cons (de_ix gIx_ne ix_data (de_var 0) de_int) (da_cons de_int (da_cons (de_op gSub_ne od_sub (de_var 1) de_int) da_nil)))))))))) (dss_one (ds_ret de_bl)) dss_nil) (dss_one (ds_ret (de_and (de_isi .str (de_ix gIx_ne ix_data (de_var 0) de_int) E.n_isinstance E.n_str PyProof.Rows.boot_str) (de_one (de_cmp gIn_ne (od_in hu65) (de_ix gIx_ne ix_data (de_var 0) de_int) (de_globT E.g_WORDS) (by rfl)))))))
theorem sc_harm : FnScope ["wheels", "row", "slip"] ["wheels", "row", "slip"] (defScope s_harm) := ⟨rfl, rfl, rfl, by decide +kernel, rfl, by decide +kernel, by decide +kernel⟩
theorem ok_harm (E : Env K mg) : FnOk P w K mg base (L2N.CX P w) 6 E.a_harm E.d_harm ["wheels", "row", "slip"] (spOf ⟨P, w, K, E.cl⟩ 3 F_harm) := by
  refine fn_mk (fb := B_harm) (t := 0) 0 E.F_harm sc_harm rfl fun cdv A outer s H EX hr => ?_
  have sc := sc_harm
  have hu64 := room64 hr
  have hu65 := room65 hr
  have hu1 := room1 hr
  have tk : L2N.Takes (cxOf (L2N.CX P w) P w K mg base ["wheels", "row", "slip"] "harm" (defScope s_harm) E.a_harm cdv A outer s H EX) (WF EX) := L2N.takes_of rfl rfl rfl rfl
  exact (dss_cons (ds_expr (de_call (ok_need_wheels E) (hr.mono (by decide)) E.m_need_wheels E.k_need_wheels E.b_need_wheels tk (da_cons (de_var 0) da_nil))) (dss_cons (ds_expr (de_call (ok_need_row E) (hr.mono (by decide)) E.m_need_row E.k_need_row E.b_need_row tk (da_cons (de_var 1) (da_cons (de_globI E.g_LONG) da_nil)))) (dss_cons (ds_if (dt_not (dt_val (de_call (ok_is_slip E) (hr.mono (by decide)) E.m_is_slip E.k_is_slip E.b_is_slip tk (da_cons (de_var 2) (da_cons (de_call1 gLen_ne c_len (by rfl) E.n_len PySem.boot_len (.inl ⟨_, rfl⟩) (de_var 1)) da_nil))))) (dss_one (ds_raise (cl := E.cl) .slips E.r_NoSlips E.e_NoSlips tk rfl)) dss_nil) (dss_one (ds_ret (de_call (ok_harm_of E) (hr.mono (by decide)) E.m_harm_of E.k_harm_of E.b_harm_of tk (da_cons (de_var 0) (da_cons (de_var 1) (da_cons (de_var 2) da_nil)))))))))
theorem sc_spots_of : FnScope ["wheels", "sign", "wheel", "word"] ["wheels", "sign"] (defScope s_spots_of) := ⟨rfl, rfl, rfl, by decide +kernel, rfl, by decide +kernel, by decide +kernel⟩
theorem ok_spots_of (E : Env K mg) : FnOk P w K mg base (L2N.CX P w) 1 E.a_spots_of E.d_spots_of ["wheels", "sign"] (spOf ⟨P, w, K, E.cl⟩ 2 F_spots_of) := by
  refine fn_mk (fb := B_spots_of) (t := 0) 2 E.F_spots_of sc_spots_of rfl fun cdv A outer s H EX hr => ?_
  have sc := sc_spots_of
  have hu64 := room64 hr
  have hu65 := room65 hr
  have hu1 := room1 hr
  have tk : L2N.Takes (cxOf (L2N.CX P w) P w K mg base ["wheels", "sign", "wheel", "word"] "spots_of" (defScope s_spots_of) E.a_spots_of cdv A outer s H EX) (WF EX) := L2N.takes_of rfl rfl rfl rfl
  exact (dss_one (ds_ret (de_new (dn_lc rfl sc.nd (di_zip (de_slice (de_var 0) do_none (do_some de_int)) (de_tup (da_cons (de_str [108]) (da_cons (de_str [102]) da_nil))) E.n_zip) (blkOk_by (N := ["wheels", "sign", "wheel", "word"]) (sc := defScope s_spots_of) (own := [("wheel", 2), ("word", 3)]) (by decide +kernel)) (fun _ _ _ _ _ => (dg_tup rfl (dgs_cons (dg_name 2 sc.nd) (dgs_cons (dg_name 3 sc.nd) dgs_nil)) (fun _ _ _ h => gsCons_len (fun _ _ _ h => gsCons_len (fun _ _ _ h => gsNil_len h) h) h))) (fun _ _ _ _ _ => (dts_one (dt_cmp gIn_ne (od_in hu65) (de_var 1) (de_var 2) (by rfl)))) (fun _ _ _ _ _ => (de_tup (da_cons (de_sindex (de_var 2) (da_cons (de_var 1) da_nil)) (da_cons (de_var 3) da_nil))))))))
theorem sc_step_row : FnScope ["wheels", "one", "other", "steps"] ["wheels", "one", "other"] (defScope s_step_row) := ⟨rfl, rfl, rfl, by decide +kernel, rfl, by decide +kernel, by decide +kernel⟩
theorem ok_step_row (E : Env K mg) : FnOk P w K mg base (L2N.CX P w) 2 E.a_step_row E.d_step_row ["wheels", "one", "other"] (spOf ⟨P, w, K, E.cl⟩ 3 F_step_row) := by
  refine fn_mk (fb := B_step_row) (t := 0) 1 E.F_step_row sc_step_row rfl fun cdv A outer s H EX hr => ?_
  have sc := sc_step_row
  have hu64 := room64 hr
  have hu65 := room65 hr
  have hu1 := room1 hr
  have tk : L2N.Takes (cxOf (L2N.CX P w) P w K mg base ["wheels", "one", "other", "steps"] "step_row" (defScope s_step_row) E.a_step_row cdv A outer s H EX) (WF EX) := L2N.takes_of rfl rfl rfl rfl
  exact (dss_cons (ds_set sc.nd (de_op gMod_ne od_mod (de_op gSub_ne od_sub (de_ix gIx_ne ix_data (de_var 2) de_int) (de_ix gIx_ne ix_data (de_var 1) de_int)) (de_call (ok_places_of E) (hr.mono (by decide)) E.m_places_of E.k_places_of E.b_places_of tk (da_cons (de_var 0) da_nil)))) (dss_one (ds_ret (de_op gAdd_ne od_add (de_op gAdd_ne od_add (de_op gMul_ne od_mul (de_str [115]) (de_var 3)) (de_op gMul_ne od_mul (de_ix gIx_ne ix_data (de_var 2) de_int) (de_call1 gIntX_ne c_intX (by rfl) E.n_int b_int (.inr ⟨_, rfl⟩) (de_cmp gNe_ne (od_ne hu64) (de_ix gIx_ne ix_data (de_var 1) de_int) (de_ix gIx_ne ix_data (de_var 2) de_int) (nomark _))))) (de_str [112])))))
theorem sc_least_row : FnScope ["wheels", "text", "rows", "sign", "later", "spot", "some", "one", "row"] ["wheels", "text"] (defScope s_least_row) := ⟨rfl, rfl, rfl, by decide +kernel, rfl, by decide +kernel, by decide +kernel⟩
theorem ok_least_row (E : Env K mg) : FnOk P w K mg base (L2N.CX P w) 3 E.a_least_row E.d_least_row ["wheels", "text"] (spOf ⟨P, w, K, E.cl⟩ 2 F_least_row) := by
  refine fn_mk (fb := B_least_row) (t := 0) 7 E.F_least_row sc_least_row rfl fun cdv A outer s H EX hr => ?_
  have sc := sc_least_row
  have hu64 := room64 hr
  have hu65 := room65 hr
  have hu1 := room1 hr
  have tk : L2N.Takes (cxOf (L2N.CX P w) P w K mg base ["wheels", "text", "rows", "sign", "later", "spot", "some", "one", "row"] "least_row" (defScope s_least_row) E.a_least_row cdv A outer s H EX) (WF EX) := L2N.takes_of rfl rfl rfl rfl
  exact (dss_cons (ds_set sc.nd (de_new (dn_dictN1 hu65 (de_slice (de_globT E.g_FIRST) do_none (do_some de_int)) (de_str [])))) (dss_cons (ds_kill [3, 4, 5, 6, 7, 8] (ds_for (passes_of rfl) rfl (di_seq (de_var 1)) (dg_name 3 sc.nd) (dss_cons (ds_new sc.nd dn_dictN0) (dss_kill [1, 5, 6] (dss_cons (ds_kill [5, 6, 7, 8] (ds_for (passes_of rfl) rfl (di_seq (de_call (ok_spots_of E) (hr.mono (by decide)) E.m_spots_of E.k_spots_of E.b_spots_of tk (da_cons (de_var 0) (da_cons (de_var 3) da_nil)))) (dg_name 5 sc.nd) (dss_cons (ds_setLc rfl sc.nd (di_keysD (de_var 2)) (blkOk_by (N := ["wheels", "text", "rows", "sign", "later", "spot", "some", "one", "row"]) (sc := defScope s_least_row) (own := [("one", 7)]) (by decide +kernel)) (fun _ _ _ _ _ => (dg_name 7 sc.nd)) (fun _ _ _ _ _ => dts_nil) (fun _ _ _ _ _ => (de_op gAdd_ne od_add (de_ixD hu65 (de_var 2) (de_var 7)) (de_call (ok_step_row E) (hr.mono (by decide)) E.m_step_row E.k_step_row E.b_step_row takesN0 (da_cons (de_var 0) (da_cons (de_var 7) (da_cons (de_var 5) da_nil))))))) (dss_one (ds_kill [5, 6, 7, 8] (ds_putN hu65 (pv 4) (de_var 5) (de_ix gIx_ne ix_data (de_call1 gMinD_ne (c_minD rfl hu65) (by rfl) E.n_min b_min (.inl ⟨_, rfl⟩) (de_new (dn_lc rfl sc.nd (di_seq (de_var 6)) (blkOk_by (N := ["wheels", "text", "rows", "sign", "later", "spot", "some", "one", "row"]) (sc := defScope s_least_row) (own := [("row", 8)]) (by decide +kernel)) (fun _ _ _ _ _ => (dg_name 8 sc.nd)) (fun _ _ _ _ _ => dts_nil) (fun _ _ _ _ _ => (de_tup (da_cons (de_call1 gLen_ne c_len (by rfl) E.n_len PySem.boot_len (.inl ⟨_, rfl⟩) (de_var 8)) (da_cons (de_var 8) da_nil))))))) de_int))))))) (dss_one (ds_kill [3, 4, 5, 6, 7, 8] (ds_set sc.nd (de_var 4))))))))) (dss_one (ds_ret (de_ix gIx_ne ix_data (de_call1 gMinD_ne (c_minD rfl hu65) (by rfl) E.n_min b_min (.inl ⟨_, rfl⟩) (de_new (dn_lc rfl sc.nd (di_valsD (de_var 2)) (blkOk_by (N := ["wheels", "text", "rows", "sign", "later", "spot", "some", "one", "row"]) (sc := defScope s_least_row) (own := [("row", 8)]) (by decide +kernel)) (fun _ _ _ _ _ => (dg_name 8 sc.nd)) (fun _ _ _ _ _ => dts_nil) (fun _ _ _ _ _ => (de_tup (da_cons (de_call1 gLen_ne c_len (by rfl) E.n_len PySem.boot_len (.inl ⟨_, rfl⟩) (de_var 8)) (da_cons (de_var 8) da_nil))))))) de_int)))))
theorem sc_need_text : FnScope ["wheels", "thing", "most", "sign"] ["wheels", "thing", "most"] (defScope s_need_text) := ⟨rfl, rfl, rfl, by decide +kernel, rfl, by decide +kernel, by decide +kernel⟩
theorem ok_need_text (E : Env K mg) : FnOk P w K mg base (L2N.CX P w) 5 E.a_need_text E.d_need_text ["wheels", "thing", "most"] (spOf ⟨P, w, K, E.cl⟩ 3 F_need_text) := by
  refine fn_mk (fb := B_need_text) (t := 0) 1 E.F_need_text sc_need_text rfl fun cdv A outer s H EX hr => ?_
  have sc := sc_need_text
  have hu64 := room64 hr
  have hu65 := room65 hr
  have hu1 := room1 hr
  have tk : L2N.Takes (cxOf (L2N.CX P w) P w K mg base ["wheels", "thing", "most", "sign"] "need_text" (defScope s_need_text) E.a_need_text cdv A outer s H EX) (WF EX) := L2N.takes_of rfl rfl rfl rfl
  exact (dss_cons (ds_expr (de_call (ok_need_wheels E) (hr.mono (by decide)) E.m_need_wheels E.k_need_wheels E.b_need_wheels tk (da_cons (de_var 0) da_nil))) (dss_one (ds_if (dw_pt (dw_or (dt_not (dt_val (de_call (ok_are_signs E) (hr.mono (by decide)) E.m_are_signs E.k_are_signs E.b_are_signs tk (da_cons (de_var 1) (da_cons de_int (da_cons (de_var 2) da_nil)))))) (dw_or1 (dt_not (dt_val (de_call1 gAll_ne (c_all rfl) (by rfl) E.n_all b_all (.inl ⟨_, rfl⟩) (de_new (dn_lc rfl sc.nd (di_seq (de_var 1)) (blkOk_by (N := ["wheels", "thing", "most", "sign"]) (sc := defScope s_need_text) (own := [("sign", 3)]) (by decide +kernel)) (fun _ _ _ _ _ => (dg_name 3 sc.nd)) (fun _ _ _ _ _ => dts_nil) (fun _ _ _ _ _ => (de_cmp gIn_ne (od_in hu65) (de_var 3) (de_op gAdd_ne od_add (de_ix gIx_ne ix_data (de_var 0) de_int) (de_ix gIx_ne ix_data (de_var 0) de_int)) (by rfl))))))))))) (dss_one (ds_raise (cl := E.cl) .text E.r_NoText E.e_NoText tk rfl)) dss_nil)))
theorem sc_least : FnScope ["wheels", "text"] ["wheels", "text"] (defScope s_least) := ⟨rfl, rfl, rfl, by decide +kernel, rfl, by decide +kernel, by decide +kernel⟩
theorem ok_least (E : Env K mg) : FnOk P w K mg base (L2N.CX P w) 6 E.a_least E.d_least ["wheels", "text"] (spOf ⟨P, w, K, E.cl⟩ 2 F_least) := by
  refine fn_mk (fb := B_least) (t := 0) 0 E.F_least sc_least rfl fun cdv A outer s H EX hr => ?_
  have sc := sc_least
  have hu64 := room64 hr
  have hu65 := room65 hr
  have hu1 := room1 hr
  have tk : L2N.Takes (cxOf (L2N.CX P w) P w K mg base ["wheels", "text"] "least" (defScope s_least) E.a_least cdv A outer s H EX) (WF EX) := L2N.takes_of rfl rfl rfl rfl
  exact (dss_cons (ds_expr (de_call (ok_need_text E) (hr.mono (by decide)) E.m_need_text E.k_need_text E.b_need_text tk (da_cons (de_var 0) (da_cons (de_var 1) (da_cons (de_globI E.g_MOST_wheels) da_nil))))) (dss_one (ds_ret (de_call1 gLen_ne c_len (by rfl) E.n_len PySem.boot_len (.inl ⟨_, rfl⟩) (de_call (ok_least_row E) (hr.mono (by decide)) E.m_least_row E.k_least_row E.b_least_row tk (da_cons (de_var 0) (da_cons (de_var 1) da_nil)))))))
theorem sc_shown_by : FnScope ["wheels", "row"] ["wheels", "row"] (defScope s_shown_by) := ⟨rfl, rfl, rfl, by decide +kernel, rfl, by decide +kernel, by decide +kernel⟩
theorem ok_shown_by (E : Env K mg) : FnOk P w K mg base (L2N.CX P w) 5 E.a_shown_by E.d_shown_by ["wheels", "row"] (spOf ⟨P, w, K, E.cl⟩ 2 F_shown_by) := by
  refine fn_mk (fb := B_shown_by) (t := 0) 0 E.F_shown_by sc_shown_by rfl fun cdv A outer s H EX hr => ?_
  have sc := sc_shown_by
  have hu64 := room64 hr
  have hu65 := room65 hr
  have hu1 := room1 hr
  have tk : L2N.Takes (cxOf (L2N.CX P w) P w K mg base ["wheels", "row"] "shown_by" (defScope s_shown_by) E.a_shown_by cdv A outer s H EX) (WF EX) := L2N.takes_of rfl rfl rfl rfl
  exact (dss_one (ds_ret (de_ix gIx_ne ix_data (de_call (ok_rowed E) (hr.mono (by decide)) E.m_rowed E.k_rowed E.b_rowed tk (da_cons (de_var 0) (da_cons (de_globT E.g_FIRST) (da_cons (de_var 1) da_nil)))) de_int)))
theorem sc_needless : FnScope ["wheels", "row", "text", "number"] ["wheels", "row"] (defScope s_needless) := ⟨rfl, rfl, rfl, by decide +kernel, rfl, by decide +kernel, by decide +kernel⟩
theorem ok_needless (E : Env K mg) : FnOk P w K mg base (L2N.CX P w) 6 E.a_needless E.d_needless ["wheels", "row"] (spOf ⟨P, w, K, E.cl⟩ 2 F_needless) := by
  refine fn_mk (fb := B_needless) (t := 0) 2 E.F_needless sc_needless rfl fun cdv A outer s H EX hr => ?_
  have sc := sc_needless
  have hu64 := room64 hr
  have hu65 := room65 hr
  have hu1 := room1 hr
  have tk : L2N.Takes (cxOf (L2N.CX P w) P w K mg base ["wheels", "row", "text", "number"] "needless" (defScope s_needless) E.a_needless cdv A outer s H EX) (WF EX) := L2N.takes_of rfl rfl rfl rfl
  exact (dss_cons (ds_expr (de_call (ok_need_both E) (hr.mono (by decide)) E.m_need_both E.k_need_both E.b_need_both tk (da_cons (de_var 0) (da_cons (de_var 1) da_nil)))) (dss_cons (ds_set sc.nd (de_call (ok_shown_by E) (hr.mono (by decide)) E.m_shown_by E.k_shown_by E.b_shown_by tk (da_cons (de_var 0) (da_cons (de_var 1) da_nil)))) (dss_one (ds_ret (de_new (dn_lc rfl sc.nd (di_range1 (de_call1 gLen_ne c_len (by rfl) E.n_len PySem.boot_len (.inl ⟨_, rfl⟩) (de_var 1)) E.n_range) (blkOk_by (N := ["wheels", "row", "text", "number"]) (sc := defScope s_needless) (own := [("number", 3)]) (by decide +kernel)) (fun _ _ _ _ _ => (dg_name 3 sc.nd)) (fun _ _ _ _ _ => (dts_one (dt_cmp gEq_ne (od_eq hu64) (de_call (ok_shown_by E) (hr.mono (by decide)) E.m_shown_by E.k_shown_by E.b_shown_by takesN0 (da_cons (de_var 0) (da_cons (de_op gAdd_ne od_add (de_slice (de_var 1) do_none (do_some (de_var 3))) (de_slice (de_var 1) (do_some (de_op gAdd_ne od_add (de_var 3) de_int)) do_none)) da_nil))) (de_var 2) (nomark _)))) (fun _ _ _ _ _ => (de_var 3))))))))
theorem sc_prints : FnScope ["wheels", "row", "made", "number", "stand"] ["wheels", "row"] (defScope s_prints) := ⟨rfl, rfl, rfl, by decide +kernel, rfl, by decide +kernel, by decide +kernel⟩
theorem ok_prints (E : Env K mg) : FnOk P w K mg base (L2N.CX P w) 6 E.a_prints E.d_prints ["wheels", "row"] (spOf ⟨P, w, K, E.cl⟩ 2 F_prints) := by
  refine fn_mk (fb := B_prints) (t := 0) 3 E.F_prints sc_prints rfl fun cdv A outer s H EX hr => ?_
  have sc := sc_prints
  have hu64 := room64 hr
  have hu65 := room65 hr
  have hu1 := room1 hr
  have tk : L2N.Takes (cxOf (L2N.CX P w) P w K mg base ["wheels", "row", "made", "number", "stand"] "prints" (defScope s_prints) E.a_prints cdv A outer s H EX) (WF EX) := L2N.takes_of rfl rfl rfl rfl
  exact (dss_cons (ds_expr (de_call (ok_need_both E) (hr.mono (by decide)) E.m_need_both E.k_need_both E.b_need_both tk (da_cons (de_var 0) (da_cons (de_var 1) da_nil)))) (dss_cons (ds_new sc.nd (dn_lst da_nil)) (dss_cons (ds_kill [3, 4] (ds_for (passes_of rfl) rfl (di_range1 (de_call1 gLen_ne c_len (by rfl) E.n_len PySem.boot_len (.inl ⟨_, rfl⟩) (de_var 1)) E.n_range) (dg_name 3 sc.nd) (dss_one (ds_kill [3, 4] (ds_if (dt_cmp gEq_ne (od_eq hu64) (de_ix gIx_ne ix_data (de_var 1) (de_var 3)) (de_str [112]) (nomark _)) (dss_cons (ds_set sc.nd (de_ix gIx_ne ix_data (de_call (ok_rowed E) (hr.mono (by decide)) E.m_rowed E.k_rowed E.b_rowed tk (da_cons (de_var 0) (da_cons (de_globT E.g_FIRST) (da_cons (de_slice (de_var 1) do_none (do_some (de_var 3))) da_nil)))) de_int)) (dss_one (ds_expr (de_append (pv 2) (da_cons (de_tup (da_cons (de_var 3) (da_cons (de_ix gIx_ne ix_data (de_var 4) de_int) (da_cons (de_ix gIx_ne ix_data (de_var 4) de_int) (da_cons (de_ix gIx_ne ix_data (de_call (ok_shown_by E) (hr.mono (by decide)) E.m_shown_by E.k_shown_by E.b_shown_by tk (da_cons (de_var 0) (da_cons (de_slice (de_var 1) do_none (do_some (de_op gAdd_ne od_add (de_var 3) de_int))) da_nil))) (de_un gNeg_ne ud_neg de_int)) da_nil))))) da_nil))))) dss_nil))))) (dss_one (ds_ret (de_var 2))))))
theorem sc_row_for : FnScope ["wheels", "text"] ["wheels", "text"] (defScope s_row_for) := ⟨rfl, rfl, rfl, by decide +kernel, rfl, by decide +kernel, by decide +kernel⟩
theorem ok_row_for (E : Env K mg) : FnOk P w K mg base (L2N.CX P w) 6 E.a_row_for E.d_row_for ["wheels", "text"] (spOf ⟨P, w, K, E.cl⟩ 2 F_row_for) := by
  refine fn_mk (fb := B_row_for) (t := 0) 0 E.F_row_for sc_row_for rfl fun cdv A outer s H EX hr => ?_
  have sc := sc_row_for
  have hu64 := room64 hr
  have hu65 := room65 hr
  have hu1 := room1 hr
  have tk : L2N.Takes (cxOf (L2N.CX P w) P w K mg base ["wheels", "text"] "row_for" (defScope s_row_for) E.a_row_for cdv A outer s H EX) (WF EX) := L2N.takes_of rfl rfl rfl rfl
  exact (dss_cons (ds_expr (de_call (ok_need_text E) (hr.mono (by decide)) E.m_need_text E.k_need_text E.b_need_text tk (da_cons (de_var 0) (da_cons (de_var 1) (da_cons (de_globI E.g_MOST_wheels) da_nil))))) (dss_one (ds_ret (de_call (ok_least_row E) (hr.mono (by decide)) E.m_least_row E.k_least_row E.b_least_row tk (da_cons (de_var 0) (da_cons (de_var 1) da_nil))))))
theorem sc_safe_slips : FnScope ["wheels", "row", "text", "made", "number", "some", "word", "slip"] ["wheels", "row"] (defScope s_safe_slips) := ⟨rfl, rfl, rfl, by decide +kernel, rfl, by decide +kernel, by decide +kernel⟩
theorem ok_safe_slips (E : Env K mg) : FnOk P w K mg base (L2N.CX P w) 6 E.a_safe_slips E.d_safe_slips ["wheels", "row"] (spOf ⟨P, w, K, E.cl⟩ 2 F_safe_slips) := by
  refine fn_mk (fb := B_safe_slips) (t := 0) 6 E.F_safe_slips sc_safe_slips rfl fun cdv A outer s H EX hr => ?_
  have sc := sc_safe_slips
  have hu64 := room64 hr
  have hu65 := room65 hr
  have hu1 := room1 hr
  have tk : L2N.Takes (cxOf (L2N.CX P w) P w K mg base ["wheels", "row", "text", "made", "number", "some", "word", "slip"] "safe_slips" (defScope s_safe_slips) E.a_safe_slips cdv A outer s H EX) (WF EX) := L2N.takes_of rfl rfl rfl rfl
  exact (dss_cons (ds_expr (de_call (ok_need_both E) (hr.mono (by decide)) E.m_need_both E.k_need_both E.b_need_both tk (da_cons (de_var 0) (da_cons (de_var 1) da_nil)))) (dss_cons (ds_set sc.nd (de_call (ok_shown_by E) (hr.mono (by decide)) E.m_shown_by E.k_shown_by E.b_shown_by tk (da_cons (de_var 0) (da_cons (de_var 1) da_nil)))) (dss_cons (ds_new sc.nd (dn_lst da_nil)) (dss_cons (ds_kill [4, 5, 6, 7] (ds_for (passes_of rfl) rfl (di_range1 (de_call1 gLen_ne c_len (by rfl) E.n_len PySem.boot_len (.inl ⟨_, rfl⟩) (de_var 1)) E.n_range) (dg_name 4 sc.nd) (dss_cons (ds_setLc rfl sc.nd (di_seq (de_globT E.g_WORDS)) (blkOk_by (N := ["wheels", "row", "text", "made", "number", "some", "word", "slip"]) (sc := defScope s_safe_slips) (own := [("word", 6)]) (by decide +kernel)) (fun _ _ _ _ _ => (dg_name 6 sc.nd)) (fun _ _ _ _ _ => dts_nil) (fun _ _ _ _ _ => (de_tup (da_cons (de_var 4) (da_cons (de_var 6) da_nil))))) (dss_one (ds_kill [4, 5, 6, 7] (ds_expr (de_extend (pv 3) (da_cons (de_new (dn_lc rfl sc.nd (di_seq (de_var 5)) (blkOk_by (N := ["wheels", "row", "text", "made", "number", "some", "word", "slip"]) (sc := defScope s_safe_slips) (own := [("slip", 7)]) (by decide +kernel)) (fun _ _ _ _ _ => (dg_name 7 sc.nd)) (fun _ _ _ _ _ => (dts_one (dt_cmp gEq_ne (od_eq hu64) (de_call (ok_shown_by E) (hr.mono (by decide)) E.m_shown_by E.k_shown_by E.b_shown_by takesN0 (da_cons (de_var 0) (da_cons (de_call (ok_slipped E) (hr.mono (by decide)) E.m_slipped E.k_slipped E.b_slipped takesN0 (da_cons (de_var 1) (da_cons (de_tup (da_cons (de_var 7) da_nil)) da_nil))) da_nil))) (de_var 2) (nomark _)))) (fun _ _ _ _ _ => (de_var 7)))) da_nil)))))))) (dss_one (ds_ret (de_var 3)))))))
theorem sc_need_slips : FnScope ["row", "thing", "one", "other", "slip"] ["row", "thing"] (defScope s_need_slips) := ⟨rfl, rfl, rfl, by decide +kernel, rfl, by decide +kernel, by decide +kernel⟩
theorem ok_need_slips (E : Env K mg) : FnOk P w K mg base (L2N.CX P w) 3 E.a_need_slips E.d_need_slips ["row", "thing"] (spOf ⟨P, w, K, E.cl⟩ 2 F_need_slips) := by
  refine fn_mk (fb := B_need_slips) (t := 0) 3 E.F_need_slips sc_need_slips rfl fun cdv A outer s H EX hr => ?_
  have sc := sc_need_slips
  have hu64 := room64 hr
  have hu65 := room65 hr
  have hu1 := room1 hr
  have tk : L2N.Takes (cxOf (L2N.CX P w) P w K mg base ["row", "thing", "one", "other", "slip"] "need_slips" (defScope s_need_slips) E.a_need_slips cdv A outer s H EX) (WF EX) := L2N.takes_of rfl rfl rfl rfl
  exact (dss_cons (ds_if (dw_pt (dw_or (dt_not (dt_val (de_isi .tuple (de_var 1) E.n_isinstance E.n_tuple PyProof.Rows.boot_tuple))) (dw_or (dt_cmp gGt_ne od_gt (de_call1 gLen_ne c_len (by rfl) E.n_len PySem.boot_len (.inl ⟨_, rfl⟩) (de_var 1)) (de_globI E.g_SLIPS) (nomark _)) (dw_or1 (dt_not (dt_val (de_call1 gAll_ne (c_all rfl) (by rfl) E.n_all b_all (.inl ⟨_, rfl⟩) (de_new (dn_lc rfl sc.nd (di_seq (de_var 1)) (blkOk_by (N := ["row", "thing", "one", "other", "slip"]) (sc := defScope s_need_slips) (own := [("slip", 4)]) (by decide +kernel)) (fun _ _ _ _ _ => (dg_name 4 sc.nd)) (fun _ _ _ _ _ => dts_nil) (fun _ _ _ _ _ => (de_call (ok_is_slip E) (hr.mono (by decide)) E.m_is_slip E.k_is_slip E.b_is_slip takesN0 (da_cons (de_var 4) (da_cons (de_call1 gLen_ne c_len (by rfl) E.n_len PySem.boot_len (.inl ⟨_, rfl⟩) (de_var 0)) da_nil))))))))))))) (dss_one (ds_raise (cl := E.cl) .slips E.r_NoSlips E.e_NoSlips tk rfl)) dss_nil) (dss_one (ds_if (dt_not (dt_val (de_call1 gAll_ne (c_all rfl) (by rfl) E.n_all b_all (.inl ⟨_, rfl⟩) (de_new (dn_lc rfl sc.nd (di_zip (de_var 1) (de_slice (de_var 1) (do_some de_int) do_none) E.n_zip) (blkOk_by (N := ["row", "thing", "one", "other", "slip"]) (sc := defScope s_need_slips) (own := [("one", 2), ("other", 3)]) (by decide +kernel)) (fun _ _ _ _ _ => (dg_tup rfl (dgs_cons (dg_name 2 sc.nd) (dgs_cons (dg_name 3 sc.nd) dgs_nil)) (fun _ _ _ h => gsCons_len (fun _ _ _ h => gsCons_len (fun _ _ _ h => gsNil_len h) h) h))) (fun _ _ _ _ _ => dts_nil) (fun _ _ _ _ _ => (de_cmp gLt_ne od_lt (de_ix gIx_ne ix_data (de_var 2) de_int) (de_ix gIx_ne ix_data (de_var 3) de_int) (nomark _)))))))) (dss_one (ds_raise (cl := E.cl) .slips E.r_NoSlips E.e_NoSlips tk rfl)) dss_nil)))
theorem sc_tape : FnScope ["wheels", "row", "slips"] ["wheels", "row", "slips"] (defScope s_tape) := ⟨rfl, rfl, rfl, by decide +kernel, rfl, by decide +kernel, by decide +kernel⟩
theorem ok_tape (E : Env K mg) : FnOk P w K mg base (L2N.CX P w) 5 E.a_tape E.d_tape ["wheels", "row", "slips"] (spOf ⟨P, w, K, E.cl⟩ 3 F_tape) := by
  refine fn_mk (fb := B_tape) (t := 0) 0 E.F_tape sc_tape rfl fun cdv A outer s H EX hr => ?_
  have sc := sc_tape
  have hu64 := room64 hr
  have hu65 := room65 hr
  have hu1 := room1 hr
  have tk : L2N.Takes (cxOf (L2N.CX P w) P w K mg base ["wheels", "row", "slips"] "tape" (defScope s_tape) E.a_tape cdv A outer s H EX) (WF EX) := L2N.takes_of rfl rfl rfl rfl
  exact (dss_cons (ds_expr (de_call (ok_need_wheels E) (hr.mono (by decide)) E.m_need_wheels E.k_need_wheels E.b_need_wheels tk (da_cons (de_var 0) da_nil))) (dss_cons (ds_expr (de_call (ok_need_row E) (hr.mono (by decide)) E.m_need_row E.k_need_row E.b_need_row tk (da_cons (de_var 1) (da_cons (de_globI E.g_LONG) da_nil)))) (dss_cons (ds_expr (de_call (ok_need_slips E) (hr.mono (by decide)) E.m_need_slips E.k_need_slips E.b_need_slips tk (da_cons (de_var 1) (da_cons (de_var 2) da_nil)))) (dss_one (ds_ret (de_ix gIx_ne ix_data (de_call (ok_rowed E) (hr.mono (by decide)) E.m_rowed E.k_rowed E.b_rowed tk (da_cons (de_var 0) (da_cons (de_globT E.g_FIRST) (da_cons (de_call (ok_slipped E) (hr.mono (by decide)) E.m_slipped E.k_slipped E.b_slipped tk (da_cons (de_var 1) (da_cons (de_var 2) da_nil))) da_nil)))) de_int))))))
theorem sc_thinned : FnScope ["wheels", "row", "text", "made", "at"] ["wheels", "row"] (defScope s_thinned) := ⟨rfl, rfl, rfl, by decide +kernel, rfl, by decide +kernel, by decide +kernel⟩
theorem ok_thinned (E : Env K mg) : FnOk P w K mg base (L2N.CX P w) 6 E.a_thinned E.d_thinned ["wheels", "row"] (spOf ⟨P, w, K, E.cl⟩ 2 F_thinned) := by
  refine fn_mk (fb := B_thinned) (t := 0) 3 E.F_thinned sc_thinned rfl fun cdv A outer s H EX hr => ?_
  have sc := sc_thinned
  have hu64 := room64 hr
  have hu65 := room65 hr
  have hu1 := room1 hr
  have tk : L2N.Takes (cxOf (L2N.CX P w) P w K mg base ["wheels", "row", "text", "made", "at"] "thinned" (defScope s_thinned) E.a_thinned cdv A outer s H EX) (WF EX) := L2N.takes_of rfl rfl rfl rfl
  exact (dss_cons (ds_expr (de_call (ok_need_both E) (hr.mono (by decide)) E.m_need_both E.k_need_both E.b_need_both tk (da_cons (de_var 0) (da_cons (de_var 1) da_nil)))) (dss_cons (ds_set sc.nd (de_call (ok_shown_by E) (hr.mono (by decide)) E.m_shown_by E.k_shown_by E.b_shown_by tk (da_cons (de_var 0) (da_cons (de_var 1) da_nil)))) (dss_cons (ds_set sc.nd (de_var 1)) (dss_cons (ds_set sc.nd de_int) (dss_kill [1] (dss_cons (ds_kill [4] (ds_while 1000 (passes_of rfl) (dt_cmp gLt_ne od_lt (de_var 4) (de_call1 gLen_ne c_len (by rfl) E.n_len PySem.boot_len (.inl ⟨_, rfl⟩) (de_var 3)) (nomark _)) (dss_one (ds_if (dt_cmp gEq_ne (od_eq hu64) (de_call (ok_shown_by E) (hr.mono (by decide)) E.m_shown_by E.k_shown_by E.b_shown_by tk (da_cons (de_var 0) (da_cons (de_op gAdd_ne od_add (de_slice (de_var 3) do_none (do_some (de_var 4))) (de_slice (de_var 3) (do_some (de_op gAdd_ne od_add (de_var 4) de_int)) do_none)) da_nil))) (de_var 2) (nomark _)) (dss_one (ds_set sc.nd (de_op gAdd_ne od_add (de_slice (de_var 3) do_none (do_some (de_var 4))) (de_slice (de_var 3) (do_some (de_op gAdd_ne od_add (de_var 4) de_int)) do_none)))) (dss_one (ds_set sc.nd (de_op gAdd_ne od_add (de_var 4) de_int))))))) (dss_one (ds_ret (de_var 3)))))))))
theorem sc_law : FnScope ["_law_script", "_law_town", "_law_wheels_here", "_law_text_here", "_law_row_here", "_law_other", "_law_shown", "_law_lost", "_law_k", "_law_made", "_law_some", "_law_number", "_law_word", "_law_one"] ["_law_script"] (defScope s_law) := ⟨rfl, rfl, rfl, by decide +kernel, rfl, by decide +kernel, by decide +kernel⟩
theorem ok_law (E : Env K mg) : FnOk P w K mg base (L2N.CX P w) 7 E.a_law E.d_law ["_law_script"] (spOf ⟨P, w, K, E.cl⟩ 1 F_law) := by
  refine fn_mk (fb := B_law) (t := 0) 13 E.F_law sc_law rfl fun cdv A outer s H EX hr => ?_
  have sc := sc_law
  have hu64 := room64 hr
  have hu65 := room65 hr
  have hu1 := room1 hr
  have tk : L2N.Takes (cxOf (L2N.CX P w) P w K mg base ["_law_script", "_law_town", "_law_wheels_here", "_law_text_here", "_law_row_here", "_law_other", "_law_shown", "_law_lost", "_law_k", "_law_made", "_law_some", "_law_number", "_law_word", "_law_one"] "law" (defScope s_law) E.a_law cdv A outer s H EX) (WF EX) := L2N.takes_of rfl rfl rfl rfl
  exact (dss_cons (ds_new sc.nd (dn_lst da_nil)) (dss_cons (ds_set sc.nd (de_callIO 1 (ok_l_wheels E) (hr.mono (by decide)) E.m_l_wheels E.k_l_wheels E.b_l_wheels tk (de_var 0) (pv 1) (da_cons de_int da_nil))) (dss_cons (ds_set sc.nd (de_callIO 1 (ok_l_text E) (hr.mono (by decide)) E.m_l_text E.k_l_text E.b_l_text tk (de_var 0) (pv 1) (da_cons (de_var 2) (da_cons de_int da_nil)))) (dss_cons (ds_set sc.nd (de_call (ok_row_for E) (hr.mono (by decide)) E.m_row_for E.k_row_for E.b_row_for tk (da_cons (de_var 2) (da_cons (de_var 3) da_nil)))) (dss_cons (ds_if (dw_pt (dw_or (dt_cmp gNe_ne (od_ne hu64) (de_call (ok_needless E) (hr.mono (by decide)) E.m_needless E.k_needless E.b_needless tk (da_cons (de_var 2) (da_cons (de_var 4) da_nil))) (de_new (dn_lst da_nil)) (nomark _)) (dw_or1 (dt_cmp gNe_ne (od_ne hu64) (de_call (ok_thinned E) (hr.mono (by decide)) E.m_thinned E.k_thinned E.b_thinned tk (da_cons (de_var 2) (da_cons (de_var 4) da_nil))) (de_var 4) (nomark _))))) (dss_one (ds_ret de_bl)) dss_nil) (dss_cons (ds_if (dt_cmp gNe_ne (od_ne hu64) (de_join (de_str []) (da_cons (de_new (dn_lc rfl sc.nd (di_seq (de_call (ok_prints E) (hr.mono (by decide)) E.m_prints E.k_prints E.b_prints tk (da_cons (de_var 2) (da_cons (de_var 4) da_nil)))) (blkOk_by (N := ["_law_script", "_law_town", "_law_wheels_here", "_law_text_here", "_law_row_here", "_law_other", "_law_shown", "_law_lost", "_law_k", "_law_made", "_law_some", "_law_number", "_law_word", "_law_one"]) (sc := defScope s_law) (own := [("_law_one", 13)]) (by decide +kernel)) (fun _ _ _ _ _ => (dg_name 13 sc.nd)) (fun _ _ _ _ _ => dts_nil) (fun _ _ _ _ _ => (de_ix gIx_ne ix_data (de_var 13) de_int)))) da_nil)) (de_var 3) (nomark _)) (dss_one (ds_ret de_bl)) dss_nil) (dss_cons (ds_set sc.nd (de_callIO 1 (ok_l_row E) (hr.mono (by decide)) E.m_l_row E.k_l_row E.b_l_row tk (de_var 0) (pv 1) (da_cons de_int da_nil))) (dss_cons (ds_set sc.nd (de_call (ok_tape E) (hr.mono (by decide)) E.m_tape E.k_tape E.b_tape tk (da_cons (de_var 2) (da_cons (de_var 5) (da_cons (de_tup da_nil) da_nil))))) (dss_cons (ds_setLc rfl sc.nd (di_seq (de_call (ok_safe_slips E) (hr.mono (by decide)) E.m_safe_slips E.k_safe_slips E.b_safe_slips tk (da_cons (de_var 2) (da_cons (de_var 5) da_nil)))) (blkOk_by (N := ["_law_script", "_law_town", "_law_wheels_here", "_law_text_here", "_law_row_here", "_law_other", "_law_shown", "_law_lost", "_law_k", "_law_made", "_law_some", "_law_number", "_law_word", "_law_one"]) (sc := defScope s_law) (own := [("_law_number", 11), ("_law_word", 12)]) (by decide +kernel)) (fun _ _ _ _ _ => (dg_tup rfl (dgs_cons (dg_name 11 sc.nd) (dgs_cons (dg_name 12 sc.nd) dgs_nil)) (fun _ _ _ h => gsCons_len (fun _ _ _ h => gsCons_len (fun _ _ _ h => gsNil_len h) h) h))) (fun _ _ _ _ _ => (dts_one (dt_cmp gEq_ne (od_eq hu64) (de_var 12) (de_str [108, 111, 115, 116]) (nomark _)))) (fun _ _ _ _ _ => (de_var 11))) (dss_cons (ds_if (dt_cmp gNe_ne (od_ne hu64) (de_var 7) (de_call (ok_needless E) (hr.mono (by decide)) E.m_needless E.k_needless E.b_needless tk (da_cons (de_var 2) (da_cons (de_var 5) da_nil))) (nomark _)) (dss_one (ds_ret de_bl)) dss_nil) (dss_cons (ds_if (dt_cmp gNe_ne (od_ne hu64) (de_new (dn_lc rfl sc.nd (di_range1 (de_call1 gLen_ne c_len (by rfl) E.n_len PySem.boot_len (.inl ⟨_, rfl⟩) (de_var 5)) E.n_range) (blkOk_by (N := ["_law_script", "_law_town", "_law_wheels_here", "_law_text_here", "_law_row_here", "_law_other", "_law_shown", "_law_lost", "_law_k", "_law_made", "_law_some", "_law_number", "_law_word", "_law_one"]) (sc := defScope s_law) (own := [("_law_k", 8)]) (by decide +kernel)) (fun _ _ _ _ _ => (dg_name 8 sc.nd)) (fun _ _ _ _ _ => (dts_one (dt_cmp gEq_ne (od_eq hu64) (de_call (ok_harm E) (hr.mono (by decide)) E.m_harm E.k_harm E.b_harm takesN0 (da_cons (de_var 2) (da_cons (de_var 5) (da_cons (de_tup (da_cons (de_var 8) (da_cons (de_str [108, 111, 115, 116]) da_nil))) da_nil)))) de_int (nomark _)))) (fun _ _ _ _ _ => (de_var 8)))) (de_var 7) (nomark _)) (dss_one (ds_ret de_bl)) dss_nil) (dss_kill [0, 1, 3, 4, 7] (dss_cons (ds_kill [8, 10, 12] (ds_for (passes_of rfl) rfl (di_seq (de_call (ok_caught_at E) (hr.mono (by decide)) E.m_caught_at E.k_caught_at E.b_caught_at tk (da_cons (de_var 2) (da_cons (de_var 5) da_nil)))) (dg_name 8 sc.nd) (dss_cons (ds_setLc rfl sc.nd (di_seq (de_tup (da_cons (de_str [108, 111, 115, 116]) (da_cons (de_str [116, 119, 105, 99, 101]) da_nil)))) (blkOk_by (N := ["_law_script", "_law_town", "_law_wheels_here", "_law_text_here", "_law_row_here", "_law_other", "_law_shown", "_law_lost", "_law_k", "_law_made", "_law_some", "_law_number", "_law_word", "_law_one"]) (sc := defScope s_law) (own := [("_law_word", 12)]) (by decide +kernel)) (fun _ _ _ _ _ => (dg_name 12 sc.nd)) (fun _ _ _ _ _ => dts_nil) (fun _ _ _ _ _ => (de_call (ok_tape E) (hr.mono (by decide)) E.m_tape E.k_tape E.b_tape takesN0 (da_cons (de_var 2) (da_cons (de_var 5) (da_cons (de_tup (da_cons (de_tup (da_cons (de_var 8) (da_cons (de_var 12) da_nil))) da_nil)) da_nil)))))) (dss_one (ds_kill [8, 10, 12] (ds_if (dw_pt (dw_or (dt_cmp gNe_ne (od_ne hu64) (de_ix gIx_ne ix_data (de_var 5) (de_var 8)) (de_str [115]) (nomark _)) (dw_or1 (dt_cmp gNe_ne (od_ne hu64) (de_var 10) (de_new (dn_lst (da_cons (de_var 6) (da_cons (de_var 6) da_nil)))) (nomark _))))) (dss_one (ds_ret de_bl)) dss_nil)))))) (dss_cons (ds_set sc.nd (de_call (ok_thinned E) (hr.mono (by decide)) E.m_thinned E.k_thinned E.b_thinned tk (da_cons (de_var 2) (da_cons (de_var 5) da_nil)))) (dss_cons (ds_if (dw_pt (dw_or (dt_cmp gNe_ne (od_ne hu64) (de_call (ok_tape E) (hr.mono (by decide)) E.m_tape E.k_tape E.b_tape tk (da_cons (de_var 2) (da_cons (de_var 9) (da_cons (de_tup da_nil) da_nil)))) (de_var 6) (nomark _)) (dw_or (dt_cmp gGt_ne od_gt (de_call1 gLen_ne c_len (by rfl) E.n_len PySem.boot_len (.inl ⟨_, rfl⟩) (de_var 9)) (de_call1 gLen_ne c_len (by rfl) E.n_len PySem.boot_len (.inl ⟨_, rfl⟩) (de_var 5)) (nomark _)) (dw_or1 (dt_cmp gLt_ne od_lt (de_call1 gLen_ne c_len (by rfl) E.n_len PySem.boot_len (.inl ⟨_, rfl⟩) (de_var 9)) (de_call (ok_least E) (hr.mono (by decide)) E.m_least E.k_least E.b_least tk (da_cons (de_var 2) (da_cons (de_var 6) da_nil))) (nomark _)))))) (dss_one (ds_ret de_bl)) dss_nil) (dss_one (ds_ret (de_and (de_cmp gEq_ne (od_eq hu64) (de_scount (de_var 9) (da_cons (de_str [112]) da_nil)) (de_scount (de_var 5) (da_cons (de_str [112]) da_nil)) (nomark _)) (de_one (de_cmp gEq_ne (od_eq hu64) (de_new (dn_lc rfl sc.nd (di_seq (de_call (ok_prints E) (hr.mono (by decide)) E.m_prints E.k_prints E.b_prints tk (da_cons (de_var 2) (da_cons (de_var 9) da_nil)))) (blkOk_by (N := ["_law_script", "_law_town", "_law_wheels_here", "_law_text_here", "_law_row_here", "_law_other", "_law_shown", "_law_lost", "_law_k", "_law_made", "_law_some", "_law_number", "_law_word", "_law_one"]) (sc := defScope s_law) (own := [("_law_one", 13)]) (by decide +kernel)) (fun _ _ _ _ _ => (dg_name 13 sc.nd)) (fun _ _ _ _ _ => dts_nil) (fun _ _ _ _ _ => (de_ix gIx_ne ix_data (de_var 13) de_int)))) (de_new (dn_list rfl (de_var 6) E.n_list)) (nomark _)))))))))))))))))))))
end
end Den

/-! the head -/
namespace Den
open PySem PySem.Spec PyProof.Rows L2
def dd_l_cell_at : He.DefD := ⟨("_law_cell_at", none), "_law_cell_at", "_law_cell_at", defArgs s_l_cell_at, defBody s_l_cell_at, defScope s_l_cell_at, [], []⟩
def dd_l_mixed : He.DefD := ⟨("_law_mixed", none), "_law_mixed", "_law_mixed", defArgs s_l_mixed, defBody s_l_mixed, defScope s_l_mixed, [], []⟩
def dd_l_draw : He.DefD := ⟨("_law_draw", none), "_law_draw", "_law_draw", defArgs s_l_draw, defBody s_l_draw, defScope s_l_draw, [], []⟩
def dd_l_pick : He.DefD := ⟨("_law_pick", none), "_law_pick", "_law_pick", defArgs s_l_pick, defBody s_l_pick, defScope s_l_pick, [], []⟩
def dd_l_row : He.DefD := ⟨("_law_row", none), "_law_row", "_law_row", defArgs s_l_row, defBody s_l_row, defScope s_l_row, [], []⟩
def dd_l_text : He.DefD := ⟨("_law_text", none), "_law_text", "_law_text", defArgs s_l_text, defBody s_l_text, defScope s_l_text, [], []⟩
def dd_l_wheel : He.DefD := ⟨("_law_wheel", none), "_law_wheel", "_law_wheel", defArgs s_l_wheel, defBody s_l_wheel, defScope s_l_wheel, [], []⟩
def dd_l_wheels : He.DefD := ⟨("_law_wheels", none), "_law_wheels", "_law_wheels", defArgs s_l_wheels, defBody s_l_wheels, defScope s_l_wheels, [], []⟩
def dd_is_row : He.DefD := ⟨("is_row", none), "is_row", "is_row", defArgs s_is_row, defBody s_is_row, defScope s_is_row, [], []⟩
def dd_need_row : He.DefD := ⟨("need_row", none), "need_row", "need_row", defArgs s_need_row, defBody s_need_row, defScope s_need_row, [], []⟩
def dd_are_signs : He.DefD := ⟨("are_signs", none), "are_signs", "are_signs", defArgs s_are_signs, defBody s_are_signs, defScope s_are_signs, [], []⟩
def dd_is_wheel : He.DefD := ⟨("is_wheel", none), "is_wheel", "is_wheel", defArgs s_is_wheel, defBody s_is_wheel, defScope s_is_wheel, [], []⟩
def dd_is_whole : He.DefD := ⟨("is_whole", none), "is_whole", "is_whole", defArgs s_is_whole, defBody s_is_whole, defScope s_is_whole, [], []⟩
def dd_is_wheels : He.DefD := ⟨("is_wheels", none), "is_wheels", "is_wheels", defArgs s_is_wheels, defBody s_is_wheels, defScope s_is_wheels, [], []⟩
def dd_need_wheels : He.DefD := ⟨("need_wheels", none), "need_wheels", "need_wheels", defArgs s_need_wheels, defBody s_need_wheels, defScope s_need_wheels, [], []⟩
def dd_need_both : He.DefD := ⟨("need_both", none), "need_both", "need_both", defArgs s_need_both, defBody s_need_both, defScope s_need_both, [], []⟩
def dd_places_of : He.DefD := ⟨("places_of", none), "places_of", "places_of", defArgs s_places_of, defBody s_places_of, defScope s_places_of, [], []⟩
def dd_is_caught : He.DefD := ⟨("is_caught", none), "is_caught", "is_caught", defArgs s_is_caught, defBody s_is_caught, defScope s_is_caught, [], []⟩
def dd_pulsed : He.DefD := ⟨("pulsed", none), "pulsed", "pulsed", defArgs s_pulsed, defBody s_pulsed, defScope s_pulsed, [], []⟩
def dd_rowed : He.DefD := ⟨("rowed", none), "rowed", "rowed", defArgs s_rowed, defBody s_rowed, defScope s_rowed, [], []⟩
def dd_caught_at : He.DefD := ⟨("caught_at", none), "caught_at", "caught_at", defArgs s_caught_at, defBody s_caught_at, defScope s_caught_at, [], []⟩
def dd_slipped : He.DefD := ⟨("slipped", none), "slipped", "slipped", defArgs s_slipped, defBody s_slipped, defScope s_slipped, [], []⟩
def dd_harm_of : He.DefD := ⟨("harm_of", none), "harm_of", "harm_of", defArgs s_harm_of, defBody s_harm_of, defScope s_harm_of, [], []⟩
def dd_is_slip : He.DefD := ⟨("is_slip", none), "is_slip", "is_slip", defArgs s_is_slip, defBody s_is_slip, defScope s_is_slip, [], []⟩
def dd_harm : He.DefD := ⟨("harm", none), "harm", "harm", defArgs s_harm, defBody s_harm, defScope s_harm, [], []⟩
def dd_spots_of : He.DefD := ⟨("spots_of", none), "spots_of", "spots_of", defArgs s_spots_of, defBody s_spots_of, defScope s_spots_of, [], []⟩
def dd_step_row : He.DefD := ⟨("step_row", none), "step_row", "step_row", defArgs s_step_row, defBody s_step_row, defScope s_step_row, [], []⟩
def dd_least_row : He.DefD := ⟨("least_row", none), "least_row", "least_row", defArgs s_least_row, defBody s_least_row, defScope s_least_row, [], []⟩
def dd_need_text : He.DefD := ⟨("need_text", none), "need_text", "need_text", defArgs s_need_text, defBody s_need_text, defScope s_need_text, [], []⟩
def dd_least : He.DefD := ⟨("least", none), "least", "least", defArgs s_least, defBody s_least, defScope s_least, [], []⟩
def dd_shown_by : He.DefD := ⟨("shown_by", none), "shown_by", "shown_by", defArgs s_shown_by, defBody s_shown_by, defScope s_shown_by, [], []⟩
def dd_needless : He.DefD := ⟨("needless", none), "needless", "needless", defArgs s_needless, defBody s_needless, defScope s_needless, [], []⟩
def dd_prints : He.DefD := ⟨("prints", none), "prints", "prints", defArgs s_prints, defBody s_prints, defScope s_prints, [], []⟩
def dd_row_for : He.DefD := ⟨("row_for", none), "row_for", "row_for", defArgs s_row_for, defBody s_row_for, defScope s_row_for, [], []⟩
def dd_safe_slips : He.DefD := ⟨("safe_slips", none), "safe_slips", "safe_slips", defArgs s_safe_slips, defBody s_safe_slips, defScope s_safe_slips, [], []⟩
def dd_need_slips : He.DefD := ⟨("need_slips", none), "need_slips", "need_slips", defArgs s_need_slips, defBody s_need_slips, defScope s_need_slips, [], []⟩
def dd_tape : He.DefD := ⟨("tape", none), "tape", "tape", defArgs s_tape, defBody s_tape, defScope s_tape, [], []⟩
def dd_thinned : He.DefD := ⟨("thinned", none), "thinned", "thinned", defArgs s_thinned, defBody s_thinned, defScope s_thinned, [], []⟩
def dd_law : He.DefD := ⟨("law", none), "law", "law", defArgs s_law, defBody s_law, defScope s_law, [], []⟩
def fns : List He.DefD := [dd_l_cell_at, dd_l_mixed, dd_l_draw, dd_l_pick, dd_l_row, dd_l_text, dd_l_wheel, dd_l_wheels, dd_is_row, dd_need_row, dd_are_signs, dd_is_wheel, dd_is_whole, dd_is_wheels, dd_need_wheels, dd_need_both, dd_places_of, dd_is_caught, dd_pulsed, dd_rowed, dd_caught_at, dd_slipped, dd_harm_of, dd_is_slip, dd_harm, dd_spots_of, dd_step_row, dd_least_row, dd_need_text, dd_least, dd_shown_by, dd_needless, dd_prints, dd_row_for, dd_safe_slips, dd_need_slips, dd_tape, dd_thinned, dd_law]
def fas0 : List He.Fa := [.glo "_law_cell_at", .glo "_law_mixed", .glo "_law_draw", .glo "_law_pick", .glo "_law_row", .glo "_law_text", .glo "_law_wheel", .glo "_law_wheels", .glo "is_row", .glo "need_row", .glo "are_signs", .glo "is_wheel", .glo "is_whole", .glo "is_wheels", .glo "need_wheels", .glo "need_both", .glo "places_of", .glo "is_caught", .glo "pulsed", .glo "rowed", .glo "caught_at", .glo "slipped", .glo "harm_of", .glo "is_slip", .glo "harm", .glo "spots_of", .glo "step_row", .glo "least_row", .glo "need_text", .glo "least"]
def fas1 : List He.Fa := [.glo "shown_by", .glo "needless", .glo "prints", .glo "row_for", .glo "safe_slips", .glo "need_slips", .glo "tape", .glo "thinned", .glo "law", .int "LEAST" 2, .int "LONG" 400, .int "MOST_thinning" 60, .int "MOST_wheels" 30, .str "PULSES" "splf", .str "SIGNS" "abcdefghijklmnopqrstuvwxyz0123456789 .,-", .int "SLIPS" 4, .int "TURNS" 3, .free "abs", .free "all", .free "bool", .free "dict", .free "enumerate", .free "int", .free "isinstance", .free "len", .free "list", .free "min", .free "range", .free "set", .free "sorted"]
def fas2 : List He.Fa := [.free "str", .free "tuple", .free "zip", .glo "NoRow", .exc "NoRow", .glo "NoSlips", .exc "NoSlips", .glo "NoText", .exc "NoText", .glo "NoWheels", .exc "NoWheels"]
def fas : List He.Fa := fas0 ++ fas1 ++ fas2
def loose0 : List PySem.Str := ["__name__", "WheelError", "NoWheels", "NoRow", "NoSlips", "NoText", "SIGNS", "LEAST", "MOST_wheels", "TURNS", "PULSES", "LONG", "is_whole", "are_signs", "is_wheel", "is_wheels", "need_wheels", "places_of", "is_row", "need_row", "FIRST", "SLIPS", "WORDS", "is_caught", "pulsed", "rowed", "slipped", "is_slip", "need_slips", "tape"]
def loose1 : List PySem.Str := ["MOST_thinning", "need_both", "shown_by", "needless", "thinned", "prints", "safe_slips", "caught_at", "need_text", "spots_of", "step_row", "least_row", "least", "row_for", "harm_of", "harm", "_law_cell_at", "_law_mixed", "_law_draw", "_law_pick", "_law_wheel", "_law_wheels", "_law_stand", "_law_row", "_law_pulse", "_law_run", "_law_text"]
def loose : List PySem.Str := loose0 ++ loose1
abbrev RR_ : PySem.W.OpenRow := PySem.W.OpenLaw.row PySem.Challenge.rw_letterwheels_k35_whole_thinned_rows
def exs : List (PySem.W.Frag → Bool) := [tupX "FIRST" [.int 0, .str [108], .int 0], tupX "WORDS" [.str [108, 111, 115, 116], .str [116, 119, 105, 99, 101]]]
abbrev hk : PySem.W.Hook := hookX 4 fas fns exs
def ob (s : PySem.W.SharedT) : AlX := obsXG 4 fas fns exs (HandSHeadRun.getT s)
theorem ob_eq (s : PySem.W.SharedT) : ob s = hk.obs s.abs := obsXG_eq (HandSHeadRun.getT_eq s)
theorem run (w : World) : HandSHeadRun.RunEq RR_ (PySem.W.view RR_.prog [63]) hk ob 4000 loose w := by
  intro os
  kernel_rfl
theorem facts {P : Program} {w : World} {K : PySem.W.Frag} {h : Heap} {mg : Str → Option Value} {f : Addr} (HL : ∀ ns : List Int, ns.length ≤ 63 → F_law [.scr ns] = .ok (.bl true)) (X : K.In h) (G : h.Ns mainGlobals mg) (hfa : mg ("law" : Str) = some (.ref f)) (cX : SaysX fas fns exs K) :
    ∃ (fd : FuncData) (cl : Cls), (∀ (s : Shared) (v : Value), BindsTo s fd ⟨[v], []⟩ [("_law_script", v)]) ∧ ∀ base : Heap, K.In base → base.Ns mainGlobals mg → FnOk P w K mg base (L2N.CX P w) 7 f fd ["_law_script"] (spOf ⟨P, w, K, cl⟩ 1 F_law) := by
  have c := cX.d
  obtain ⟨d0, D0⟩ := c.def_ 0 (d := dd_l_cell_at) rfl
  obtain ⟨d1, D1⟩ := c.def_ 1 (d := dd_l_mixed) rfl
  obtain ⟨d2, D2⟩ := c.def_ 2 (d := dd_l_draw) rfl
  obtain ⟨d3, D3⟩ := c.def_ 3 (d := dd_l_pick) rfl
  obtain ⟨d4, D4⟩ := c.def_ 4 (d := dd_l_row) rfl
  obtain ⟨d5, D5⟩ := c.def_ 5 (d := dd_l_text) rfl
  obtain ⟨d6, D6⟩ := c.def_ 6 (d := dd_l_wheel) rfl
  obtain ⟨d7, D7⟩ := c.def_ 7 (d := dd_l_wheels) rfl
  obtain ⟨d8, D8⟩ := c.def_ 8 (d := dd_is_row) rfl
  obtain ⟨d9, D9⟩ := c.def_ 9 (d := dd_need_row) rfl
  obtain ⟨d10, D10⟩ := c.def_ 10 (d := dd_are_signs) rfl
  obtain ⟨d11, D11⟩ := c.def_ 11 (d := dd_is_wheel) rfl
  obtain ⟨d12, D12⟩ := c.def_ 12 (d := dd_is_whole) rfl
  obtain ⟨d13, D13⟩ := c.def_ 13 (d := dd_is_wheels) rfl
  obtain ⟨d14, D14⟩ := c.def_ 14 (d := dd_need_wheels) rfl
  obtain ⟨d15, D15⟩ := c.def_ 15 (d := dd_need_both) rfl
  obtain ⟨d16, D16⟩ := c.def_ 16 (d := dd_places_of) rfl
  obtain ⟨d17, D17⟩ := c.def_ 17 (d := dd_is_caught) rfl
  obtain ⟨d18, D18⟩ := c.def_ 18 (d := dd_pulsed) rfl
  obtain ⟨d19, D19⟩ := c.def_ 19 (d := dd_rowed) rfl
  obtain ⟨d20, D20⟩ := c.def_ 20 (d := dd_caught_at) rfl
  obtain ⟨d21, D21⟩ := c.def_ 21 (d := dd_slipped) rfl
  obtain ⟨d22, D22⟩ := c.def_ 22 (d := dd_harm_of) rfl
  obtain ⟨d23, D23⟩ := c.def_ 23 (d := dd_is_slip) rfl
  obtain ⟨d24, D24⟩ := c.def_ 24 (d := dd_harm) rfl
  obtain ⟨d25, D25⟩ := c.def_ 25 (d := dd_spots_of) rfl
  obtain ⟨d26, D26⟩ := c.def_ 26 (d := dd_step_row) rfl
  obtain ⟨d27, D27⟩ := c.def_ 27 (d := dd_least_row) rfl
  obtain ⟨d28, D28⟩ := c.def_ 28 (d := dd_need_text) rfl
  obtain ⟨d29, D29⟩ := c.def_ 29 (d := dd_least) rfl
  obtain ⟨d30, D30⟩ := c.def_ 30 (d := dd_shown_by) rfl
  obtain ⟨d31, D31⟩ := c.def_ 31 (d := dd_needless) rfl
  obtain ⟨d32, D32⟩ := c.def_ 32 (d := dd_prints) rfl
  obtain ⟨d33, D33⟩ := c.def_ 33 (d := dd_row_for) rfl
  obtain ⟨d34, D34⟩ := c.def_ 34 (d := dd_safe_slips) rfl
  obtain ⟨d35, D35⟩ := c.def_ 35 (d := dd_need_slips) rfl
  obtain ⟨d36, D36⟩ := c.def_ 36 (d := dd_tape) rfl
  obtain ⟨d37, D37⟩ := c.def_ 37 (d := dd_thinned) rfl
  obtain ⟨d38, D38⟩ := c.def_ 38 (d := dd_law) rfl
  have e := hfa.symm.trans (He.glo_ok X G (c.fact 38 (f := .glo "law") rfl))
  cases e
  have bL := FunD.bindsA (ps := ["_law_script"]) D38 fun _ _ _ _ _ _ us hl => match us, hl with | [_], _ => rfl
  refine ⟨d38, ⟨fun e => match e with | .row => He.ga K "NoRow" | .slips => He.ga K "NoSlips" | .text => He.ga K "NoText" | .wheels => He.ga K "NoWheels" | _ => 0, none⟩, fun s v => bL s [v] rfl, fun base _ _ => ?_⟩
  let E : Env K mg := {
    ce := fun e => match e with | .row => He.ga K "NoRow" | .slips => He.ga K "NoSlips" | .text => He.ga K "NoText" | .wheels => He.ga K "NoWheels" | _ => 0
    a_l_cell_at := _
    d_l_cell_at := d0
    F_l_cell_at := fun_of D0
    m_l_cell_at := He.glo_ok X G (c.fact 0 (f := .glo "_law_cell_at") rfl)
    k_l_cell_at := D0.kp
    b_l_cell_at := D0.bindsN fun _ _ _ _ _ _ us hl => match us, hl with | [_, _], _ => rfl
    a_l_mixed := _
    d_l_mixed := d1
    F_l_mixed := fun_of D1
    m_l_mixed := He.glo_ok X G (c.fact 1 (f := .glo "_law_mixed") rfl)
    k_l_mixed := D1.kp
    b_l_mixed := D1.bindsN fun _ _ _ _ _ _ us hl => match us, hl with | [_, _, _], _ => rfl
    a_l_draw := _
    d_l_draw := d2
    F_l_draw := fun_of D2
    m_l_draw := He.glo_ok X G (c.fact 2 (f := .glo "_law_draw") rfl)
    k_l_draw := D2.kp
    b_l_draw := D2.bindsN fun _ _ _ _ _ _ us hl => match us, hl with | [_, _, _], _ => rfl
    a_l_pick := _
    d_l_pick := d3
    F_l_pick := fun_of D3
    m_l_pick := He.glo_ok X G (c.fact 3 (f := .glo "_law_pick") rfl)
    k_l_pick := D3.kp
    b_l_pick := D3.bindsN fun _ _ _ _ _ _ us hl => match us, hl with | [_, _, _], _ => rfl
    a_l_row := _
    d_l_row := d4
    F_l_row := fun_of D4
    m_l_row := He.glo_ok X G (c.fact 4 (f := .glo "_law_row") rfl)
    k_l_row := D4.kp
    b_l_row := D4.bindsN fun _ _ _ _ _ _ us hl => match us, hl with | [_, _, _], _ => rfl
    a_l_text := _
    d_l_text := d5
    F_l_text := fun_of D5
    m_l_text := He.glo_ok X G (c.fact 5 (f := .glo "_law_text") rfl)
    k_l_text := D5.kp
    b_l_text := D5.bindsN fun _ _ _ _ _ _ us hl => match us, hl with | [_, _, _, _], _ => rfl
    a_l_wheel := _
    d_l_wheel := d6
    F_l_wheel := fun_of D6
    m_l_wheel := He.glo_ok X G (c.fact 6 (f := .glo "_law_wheel") rfl)
    k_l_wheel := D6.kp
    b_l_wheel := D6.bindsN fun _ _ _ _ _ _ us hl => match us, hl with | [_, _, _], _ => rfl
    a_l_wheels := _
    d_l_wheels := d7
    F_l_wheels := fun_of D7
    m_l_wheels := He.glo_ok X G (c.fact 7 (f := .glo "_law_wheels") rfl)
    k_l_wheels := D7.kp
    b_l_wheels := D7.bindsN fun _ _ _ _ _ _ us hl => match us, hl with | [_, _, _], _ => rfl
    a_is_row := _
    d_is_row := d8
    F_is_row := fun_of D8
    m_is_row := He.glo_ok X G (c.fact 8 (f := .glo "is_row") rfl)
    k_is_row := D8.kp
    b_is_row := D8.bindsN fun _ _ _ _ _ _ us hl => match us, hl with | [_, _], _ => rfl
    a_need_row := _
    d_need_row := d9
    F_need_row := fun_of D9
    m_need_row := He.glo_ok X G (c.fact 9 (f := .glo "need_row") rfl)
    k_need_row := D9.kp
    b_need_row := D9.bindsN fun _ _ _ _ _ _ us hl => match us, hl with | [_, _], _ => rfl
    a_are_signs := _
    d_are_signs := d10
    F_are_signs := fun_of D10
    m_are_signs := He.glo_ok X G (c.fact 10 (f := .glo "are_signs") rfl)
    k_are_signs := D10.kp
    b_are_signs := D10.bindsN fun _ _ _ _ _ _ us hl => match us, hl with | [_, _, _], _ => rfl
    a_is_wheel := _
    d_is_wheel := d11
    F_is_wheel := fun_of D11
    m_is_wheel := He.glo_ok X G (c.fact 11 (f := .glo "is_wheel") rfl)
    k_is_wheel := D11.kp
    b_is_wheel := D11.bindsN fun _ _ _ _ _ _ us hl => match us, hl with | [_], _ => rfl
    a_is_whole := _
    d_is_whole := d12
    F_is_whole := fun_of D12
    m_is_whole := He.glo_ok X G (c.fact 12 (f := .glo "is_whole") rfl)
    k_is_whole := D12.kp
    b_is_whole := D12.bindsN fun _ _ _ _ _ _ us hl => match us, hl with | [_, _, _], _ => rfl
    a_is_wheels := _
    d_is_wheels := d13
    F_is_wheels := fun_of D13
    m_is_wheels := He.glo_ok X G (c.fact 13 (f := .glo "is_wheels") rfl)
    k_is_wheels := D13.kp
    b_is_wheels := D13.bindsN fun _ _ _ _ _ _ us hl => match us, hl with | [_], _ => rfl
    a_need_wheels := _
    d_need_wheels := d14
    F_need_wheels := fun_of D14
    m_need_wheels := He.glo_ok X G (c.fact 14 (f := .glo "need_wheels") rfl)
    k_need_wheels := D14.kp
    b_need_wheels := D14.bindsN fun _ _ _ _ _ _ us hl => match us, hl with | [_], _ => rfl
    a_need_both := _
    d_need_both := d15
    F_need_both := fun_of D15
    m_need_both := He.glo_ok X G (c.fact 15 (f := .glo "need_both") rfl)
    k_need_both := D15.kp
    b_need_both := D15.bindsN fun _ _ _ _ _ _ us hl => match us, hl with | [_, _], _ => rfl
    a_places_of := _
    d_places_of := d16
    F_places_of := fun_of D16
    m_places_of := He.glo_ok X G (c.fact 16 (f := .glo "places_of") rfl)
    k_places_of := D16.kp
    b_places_of := D16.bindsN fun _ _ _ _ _ _ us hl => match us, hl with | [_], _ => rfl
    a_is_caught := _
    d_is_caught := d17
    F_is_caught := fun_of D17
    m_is_caught := He.glo_ok X G (c.fact 17 (f := .glo "is_caught") rfl)
    k_is_caught := D17.kp
    b_is_caught := D17.bindsN fun _ _ _ _ _ _ us hl => match us, hl with | [_, _], _ => rfl
    a_pulsed := _
    d_pulsed := d18
    F_pulsed := fun_of D18
    m_pulsed := He.glo_ok X G (c.fact 18 (f := .glo "pulsed") rfl)
    k_pulsed := D18.kp
    b_pulsed := D18.bindsN fun _ _ _ _ _ _ us hl => match us, hl with | [_, _, _], _ => rfl
    a_rowed := _
    d_rowed := d19
    F_rowed := fun_of D19
    m_rowed := He.glo_ok X G (c.fact 19 (f := .glo "rowed") rfl)
    k_rowed := D19.kp
    b_rowed := D19.bindsN fun _ _ _ _ _ _ us hl => match us, hl with | [_, _, _], _ => rfl
    a_caught_at := _
    d_caught_at := d20
    F_caught_at := fun_of D20
    m_caught_at := He.glo_ok X G (c.fact 20 (f := .glo "caught_at") rfl)
    k_caught_at := D20.kp
    b_caught_at := D20.bindsN fun _ _ _ _ _ _ us hl => match us, hl with | [_, _], _ => rfl
    a_slipped := _
    d_slipped := d21
    F_slipped := fun_of D21
    m_slipped := He.glo_ok X G (c.fact 21 (f := .glo "slipped") rfl)
    k_slipped := D21.kp
    b_slipped := D21.bindsN fun _ _ _ _ _ _ us hl => match us, hl with | [_, _], _ => rfl
    a_harm_of := _
    d_harm_of := d22
    F_harm_of := fun_of D22
    m_harm_of := He.glo_ok X G (c.fact 22 (f := .glo "harm_of") rfl)
    k_harm_of := D22.kp
    b_harm_of := D22.bindsN fun _ _ _ _ _ _ us hl => match us, hl with | [_, _, _], _ => rfl
    a_is_slip := _
    d_is_slip := d23
    F_is_slip := fun_of D23
    m_is_slip := He.glo_ok X G (c.fact 23 (f := .glo "is_slip") rfl)
    k_is_slip := D23.kp
    b_is_slip := D23.bindsN fun _ _ _ _ _ _ us hl => match us, hl with | [_, _], _ => rfl
    a_harm := _
    d_harm := d24
    F_harm := fun_of D24
    m_harm := He.glo_ok X G (c.fact 24 (f := .glo "harm") rfl)
    k_harm := D24.kp
    b_harm := D24.bindsN fun _ _ _ _ _ _ us hl => match us, hl with | [_, _, _], _ => rfl
    a_spots_of := _
    d_spots_of := d25
    F_spots_of := fun_of D25
    m_spots_of := He.glo_ok X G (c.fact 25 (f := .glo "spots_of") rfl)
    k_spots_of := D25.kp
    b_spots_of := D25.bindsN fun _ _ _ _ _ _ us hl => match us, hl with | [_, _], _ => rfl
    a_step_row := _
    d_step_row := d26
    F_step_row := fun_of D26
    m_step_row := He.glo_ok X G (c.fact 26 (f := .glo "step_row") rfl)
    k_step_row := D26.kp
    b_step_row := D26.bindsN fun _ _ _ _ _ _ us hl => match us, hl with | [_, _, _], _ => rfl
    a_least_row := _
    d_least_row := d27
    F_least_row := fun_of D27
    m_least_row := He.glo_ok X G (c.fact 27 (f := .glo "least_row") rfl)
    k_least_row := D27.kp
    b_least_row := D27.bindsN fun _ _ _ _ _ _ us hl => match us, hl with | [_, _], _ => rfl
    a_need_text := _
    d_need_text := d28
    F_need_text := fun_of D28
    m_need_text := He.glo_ok X G (c.fact 28 (f := .glo "need_text") rfl)
    k_need_text := D28.kp
    b_need_text := D28.bindsN fun _ _ _ _ _ _ us hl => match us, hl with | [_, _, _], _ => rfl
    a_least := _
    d_least := d29
    F_least := fun_of D29
    m_least := He.glo_ok X G (c.fact 29 (f := .glo "least") rfl)
    k_least := D29.kp
    b_least := D29.bindsN fun _ _ _ _ _ _ us hl => match us, hl with | [_, _], _ => rfl
    a_shown_by := _
    d_shown_by := d30
    F_shown_by := fun_of D30
    m_shown_by := He.glo_ok X G (c.fact 30 (f := .glo "shown_by") rfl)
    k_shown_by := D30.kp
    b_shown_by := D30.bindsN fun _ _ _ _ _ _ us hl => match us, hl with | [_, _], _ => rfl
    a_needless := _
    d_needless := d31
    F_needless := fun_of D31
    m_needless := He.glo_ok X G (c.fact 31 (f := .glo "needless") rfl)
    k_needless := D31.kp
    b_needless := D31.bindsN fun _ _ _ _ _ _ us hl => match us, hl with | [_, _], _ => rfl
    a_prints := _
    d_prints := d32
    F_prints := fun_of D32
    m_prints := He.glo_ok X G (c.fact 32 (f := .glo "prints") rfl)
    k_prints := D32.kp
    b_prints := D32.bindsN fun _ _ _ _ _ _ us hl => match us, hl with | [_, _], _ => rfl
    a_row_for := _
    d_row_for := d33
    F_row_for := fun_of D33
    m_row_for := He.glo_ok X G (c.fact 33 (f := .glo "row_for") rfl)
    k_row_for := D33.kp
    b_row_for := D33.bindsN fun _ _ _ _ _ _ us hl => match us, hl with | [_, _], _ => rfl
    a_safe_slips := _
    d_safe_slips := d34
    F_safe_slips := fun_of D34
    m_safe_slips := He.glo_ok X G (c.fact 34 (f := .glo "safe_slips") rfl)
    k_safe_slips := D34.kp
    b_safe_slips := D34.bindsN fun _ _ _ _ _ _ us hl => match us, hl with | [_, _], _ => rfl
    a_need_slips := _
    d_need_slips := d35
    F_need_slips := fun_of D35
    m_need_slips := He.glo_ok X G (c.fact 35 (f := .glo "need_slips") rfl)
    k_need_slips := D35.kp
    b_need_slips := D35.bindsN fun _ _ _ _ _ _ us hl => match us, hl with | [_, _], _ => rfl
    a_tape := _
    d_tape := d36
    F_tape := fun_of D36
    m_tape := He.glo_ok X G (c.fact 36 (f := .glo "tape") rfl)
    k_tape := D36.kp
    b_tape := D36.bindsN fun _ _ _ _ _ _ us hl => match us, hl with | [_, _, _], _ => rfl
    a_thinned := _
    d_thinned := d37
    F_thinned := fun_of D37
    m_thinned := He.glo_ok X G (c.fact 37 (f := .glo "thinned") rfl)
    k_thinned := D37.kp
    b_thinned := D37.bindsN fun _ _ _ _ _ _ us hl => match us, hl with | [_, _], _ => rfl
    a_law := _
    d_law := d38
    F_law := fun_of D38
    m_law := He.glo_ok X G (c.fact 38 (f := .glo "law") rfl)
    k_law := D38.kp
    b_law := D38.bindsN fun _ _ _ _ _ _ us hl => match us, hl with | [_], _ => rfl
    ta_FIRST := _
    g_FIRST := tupX_ok X G (cX.x 0 (f := tupX "FIRST" [.int 0, .str [108], .int 0]) rfl)
    g_LEAST := He.int_ok X G (c.fact 39 (f := .int "LEAST" 2) rfl)
    g_LONG := He.int_ok X G (c.fact 40 (f := .int "LONG" 400) rfl)
    g_MOST_thinning := He.int_ok X G (c.fact 41 (f := .int "MOST_thinning" 60) rfl)
    g_MOST_wheels := He.int_ok X G (c.fact 42 (f := .int "MOST_wheels" 30) rfl)
    g_PULSES := He.str_ok X G (c.fact 43 (f := .str "PULSES" "splf") rfl)
    g_SIGNS := He.str_ok X G (c.fact 44 (f := .str "SIGNS" "abcdefghijklmnopqrstuvwxyz0123456789 .,-") rfl)
    g_SLIPS := He.int_ok X G (c.fact 45 (f := .int "SLIPS" 4) rfl)
    g_TURNS := He.int_ok X G (c.fact 46 (f := .int "TURNS" 3) rfl)
    ta_WORDS := _
    g_WORDS := tupX_ok X G (cX.x 1 (f := tupX "WORDS" [.str [108, 111, 115, 116], .str [116, 119, 105, 99, 101]]) rfl)
    n_abs := He.free_ok X G (c.fact 47 (f := .free "abs") rfl)
    n_all := He.free_ok X G (c.fact 48 (f := .free "all") rfl)
    n_bool := He.free_ok X G (c.fact 49 (f := .free "bool") rfl)
    n_dict := He.free_ok X G (c.fact 50 (f := .free "dict") rfl)
    n_enumerate := He.free_ok X G (c.fact 51 (f := .free "enumerate") rfl)
    n_int := He.free_ok X G (c.fact 52 (f := .free "int") rfl)
    n_isinstance := He.free_ok X G (c.fact 53 (f := .free "isinstance") rfl)
    n_len := He.free_ok X G (c.fact 54 (f := .free "len") rfl)
    n_list := He.free_ok X G (c.fact 55 (f := .free "list") rfl)
    n_min := He.free_ok X G (c.fact 56 (f := .free "min") rfl)
    n_range := He.free_ok X G (c.fact 57 (f := .free "range") rfl)
    n_set := He.free_ok X G (c.fact 58 (f := .free "set") rfl)
    n_sorted := He.free_ok X G (c.fact 59 (f := .free "sorted") rfl)
    n_str := He.free_ok X G (c.fact 60 (f := .free "str") rfl)
    n_tuple := He.free_ok X G (c.fact 61 (f := .free "tuple") rfl)
    n_zip := He.free_ok X G (c.fact 62 (f := .free "zip") rfl)
    r_NoRow := He.glo_ok X G (c.fact 63 (f := .glo "NoRow") rfl)
    e_NoRow := errOk_of (c.fact 64 (f := .exc "NoRow") rfl)
    r_NoSlips := He.glo_ok X G (c.fact 65 (f := .glo "NoSlips") rfl)
    e_NoSlips := errOk_of (c.fact 66 (f := .exc "NoSlips") rfl)
    r_NoText := He.glo_ok X G (c.fact 67 (f := .glo "NoText") rfl)
    e_NoText := errOk_of (c.fact 68 (f := .exc "NoText") rfl)
    r_NoWheels := He.glo_ok X G (c.fact 69 (f := .glo "NoWheels") rfl)
    e_NoWheels := errOk_of (c.fact 70 (f := .exc "NoWheels") rfl)
  }
  exact ok_law E
end Den
open PySem PySem.W PySem.Calls PyProof.Rows in
set_option maxRecDepth 100000 in
set_option maxHeartbeats 0 in
theorem PySem.Challenge.cw_letterwheels_k35_whole_thinned_rows_holds : PySem.Challenge.rw_letterwheels_k35_whole_thinned_rows.Holds := by
  w_on; o_law
  refine HandSHeadRun.head_any (r := OpenLaw.row PySem.Challenge.rw_letterwheels_k35_whole_thinned_rows) (q := view (OpenLaw.row PySem.Challenge.rw_letterwheels_k35_whole_thinned_rows).prog [63]) (H := Den.hk) (ob := Den.ob) (M := 4000) (loose := Den.loose) (d := HandSHeadRun.topDef (OpenLaw.row PySem.Challenge.rw_letterwheels_k35_whole_thinned_rows).prog 63) (kwd := []) Den.ob_eq
    (by kernel_rfl) (fun s => by kernel_rfl) Den.run (by kernel_rfl) (by kernel_rfl) (by kernel_rfl) (by rfl) (by first | assumption | decide +kernel) (by decide +kernel) ⟨rfl, rfl, rfl, rfl, rfl, by decide +kernel⟩ ?hw ?hc
  case hw => w_witness2
  case hc =>
    refine Den.walk_den (l := PySem.Challenge.rw_letterwheels_k35_whole_thinned_rows) (n := 63) (k := 7) (x := "_law_script") rfl (by decide) (by kernel_rfl) ⟨rfl, by decide, by decide⟩ ?F
    intro w mg fa h Y G hmg0
    obtain ⟨K, KX, c⟩ := Y
    have hmg : mg ("law" : PySem.Str) = some (.ref fa) := by
      have e : (HandSHeadRun.topDef (OpenLaw.row PySem.Challenge.rw_letterwheels_k35_whole_thinned_rows).prog 63).name = ("law" : PySem.Str) := by kernel_rfl
      rw [← e]
      exact hmg0
    obtain ⟨fd, cl, hb, hF⟩ := Den.facts (P := (PySem.Challenge.rw_letterwheels_k35_whole_thinned_rows).prog) (w := w) DenL.law_true KX G hmg c
    exact ⟨K, fd, _, KX, hb, fun H a ns hl _ hS => Den.spLaw_of DenL.law_true hl hS, hF⟩
