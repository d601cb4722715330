import PyProof.Rows.All
import Wide.All
import OpenK.AllK
import Wide.FinOn
import PySem.Str
import PySem.PyData
import HandS.ForMost
import HandS.ForExc
import HandS.Walk
import HandS.TupAny
import HandS.Deep
import HandS.Wide
import HandS.Defaults
import KE.KeyNested
import HandS.WordsExc
import HandS.IsInst
import HandS.Strs
import HandS.RaiseMore
import HandS.HeadHook2
import HandS.ExcInit
import HandS.Style
import KE.KStateDown
import Lean
import HandS.Ends
import HandS.More
import HandS.Words
import HandS.Head0
import HandS.Head1
import HandS.Head2
import HandS.HeadEnd
import HandS.HeadHook1
import HandS.HeadNt
import HandS.StrMore
import HandS.SetFor
import HandS.Replace
import HandS.Conv
import HandS.Zip0
import PySem.Challenge.RW_deckwork_k05_cycles_of_decks
set_option linter.all false
/-! The clean reading of the programs' Python: values as trees, mutable things in a store, definite results. -/
namespace CL
open PySem

inductive D where
  | none
  | bool (b : Bool)
  | int (i : Int)
  | str (x : Str)
  | tup (ds : List D)
  | ref (l : Nat)
  | gl (x : Str)
  | exn (c : Str) (fs : List (Str × D))
  deriving Inhabited

inductive O where
  | lst (ds : List D)
  | fro (ds : List D)
  | inst (c : Str) (fs : List (Str × D))
  | dic (kvs : List (D × D))
  | dis (kvs : List (Str × D))

abbrev Store := List O
abbrev Env := List (Option D)

structure Exn where
  cls : Str
  fs : List (Str × D)

inductive Out (α : Type) where
  | ok (a : α) (S : Store)
  | exc (x : Exn) (S : Store)
  | stuck

def Out.bind {α β : Type} : Out α → (α → Store → Out β) → Out β
  | .ok a S, k => k a S
  | .exc x S, _ => .exc x S
  | .stuck, _ => .stuck

inductive SOut where
  | next (r : Env) (S : Store)
  | ret (d : D) (S : Store)
  | brk (r : Env) (S : Store)
  | cont (r : Env) (S : Store)
  | exc (x : Exn) (r : Env) (S : Store)
  | stuck

abbrev FE := Env → Store → Out D
abbrev FT := Env → Store → Out Bool
abbrev FA := Env → Store → Out (List D)
abbrev FS := Env → Store → SOut
abbrev FG := D → Env → Store → SOut
abbrev FF := Store → List D → Out D

def LINE : Nat := 16777216

/-! ### equality of trees -/
mutual
def D.beq : D → D → Bool
  | .none, .none => true
  | .bool a, .bool b => a == b
  | .int a, .int b => decide (a = b)
  | .str a, .str b => decide (a = b)
  | .tup a, .tup b => D.beqs a b
  | .ref a, .ref b => a == b
  | .gl a, .gl b => decide (a = b)
  | .exn a fs, .exn b gs => decide (a = b) && D.beqf fs gs
  | _, _ => false
def D.beqs : List D → List D → Bool
  | [], [] => true
  | a :: as, b :: bs => D.beq a b && D.beqs as bs
  | _, _ => false
def D.beqf : List (Str × D) → List (Str × D) → Bool
  | [], [] => true
  | a :: as, b :: bs => decide (a.1 = b.1) && (D.beq a.2 b.2 && D.beqf as bs)
  | _, _ => false
end
theorem and2 {a b : Bool} (h : (a && b) = true) : a = true ∧ b = true := Bool.and_eq_true_iff.mp h
mutual
theorem D.beq_eq : ∀ {a b : D}, D.beq a b = true → a = b
  | .none, b, h => by cases b <;> first | rfl | (simp [D.beq] at h)
  | .bool x, b, h => by cases b <;> simp [D.beq] at h; rw [h]
  | .int x, b, h => by cases b <;> simp [D.beq] at h; rw [h]
  | .str x, b, h => by cases b <;> simp [D.beq] at h; rw [h]
  | .tup x, b, h => by
    cases b <;> simp [D.beq] at h
    rw [D.beqs_eq h]
  | .ref x, b, h => by cases b <;> simp [D.beq] at h; rw [h]
  | .gl x, b, h => by cases b <;> simp [D.beq] at h; rw [h]
  | .exn x fs, b, h => by
    cases b <;> simp [D.beq] at h
    rw [h.1, D.beqf_eq h.2]
theorem D.beqs_eq : ∀ {a b : List D}, D.beqs a b = true → a = b
  | [], b, h => by cases b <;> first | rfl | (simp [D.beqs] at h)
  | x :: xs, b, h => by
    cases b with
    | nil => simp [D.beqs] at h
    | cons y ys =>
      obtain ⟨h1, h2⟩ := and2 (show (D.beq x y && D.beqs xs ys) = true by simpa [D.beqs] using h)
      rw [D.beq_eq h1, D.beqs_eq h2]
theorem D.beqf_eq : ∀ {a b : List (Str × D)}, D.beqf a b = true → a = b
  | [], b, h => by cases b <;> first | rfl | (simp [D.beqf] at h)
  | (k, x) :: xs, b, h => by
    cases b with
    | nil => simp [D.beqf] at h
    | cons y ys =>
      obtain ⟨h1, h2⟩ := and2 (show (decide (k = y.1) && (D.beq x y.2 && D.beqf xs ys)) = true by simpa [D.beqf] using h)
      obtain ⟨h3, h4⟩ := and2 h2
      have e := of_decide_eq_true h1
      obtain ⟨k', y'⟩ := y
      have e2 : k = k' := e
      rw [e2, D.beq_eq h3, D.beqf_eq h4]
end
mutual
theorem D.beq_refl : ∀ a : D, D.beq a a = true
  | .none => rfl
  | .bool x => by simp [D.beq]
  | .int x => by simp [D.beq]
  | .str x => by simp [D.beq]
  | .tup x => by simp [D.beq, D.beqs_refl x]
  | .ref x => by simp [D.beq]
  | .gl x => by simp [D.beq]
  | .exn x fs => by simp [D.beq, D.beqf_refl fs]
theorem D.beqs_refl : ∀ a : List D, D.beqs a a = true
  | [] => rfl
  | x :: xs => by simp [D.beqs, D.beq_refl x, D.beqs_refl xs]
theorem D.beqf_refl : ∀ a : List (Str × D), D.beqf a a = true
  | [] => rfl
  | x :: xs => by simp [D.beqf, D.beq_refl x.2, D.beqf_refl xs]
end

/-! ### expressions -/
def fVar (i : Nat) : FE := fun r S => match r[i]? with
  | some (some d) => .ok d S
  | _ => .stuck
def fC (d : D) : FE := fun _ S => .ok d S
def fBin (g : D → D → Store → Out D) (a b : FE) : FE := fun r S => (a r S).bind fun x S1 => (b r S1).bind fun y S2 => g x y S2
def fUn (g : D → Store → Out D) (a : FE) : FE := fun r S => (a r S).bind fun x S1 => g x S1
def fIfE (t : FT) (a b : FE) : FE := fun r S => (t r S).bind fun c S1 => if c = true then a r S1 else b r S1
def fNil : FA := fun _ S => .ok [] S
def fCons (a : FE) (b : FA) : FA := fun r S => (a r S).bind fun x S1 => (b r S1).bind fun xs S2 => .ok (x :: xs) S2
def fTup (a : FA) : FE := fun r S => (a r S).bind fun xs S1 => if xs.length ≤ LINE then .ok (.tup xs) S1 else .stuck
def fLst (a : FA) : FE := fun r S => (a r S).bind fun xs S1 => if xs.length ≤ LINE then .ok (.ref S1.length) (S1 ++ [.lst xs]) else .stuck
def fCall (F : FF) (a : FA) : FE := fun r S => (a r S).bind fun xs S1 => F S1 xs

/-! ### tests -/
def tru (S : Store) : D → Option Bool
  | .none => some false
  | .bool b => some b
  | .int i => some (i != 0)
  | .str x => if x.length ≤ LINE then some (x.length != 0) else Option.none
  | .tup ds => some (!ds.isEmpty)
  | .ref l => match S[l]? with
    | some (.lst ds) => some (!ds.isEmpty)
    | some (.fro ds) => some (!ds.isEmpty)
    | _ => Option.none
  | _ => Option.none
def fTru (a : FE) : FT := fun r S => (a r S).bind fun x S1 => match tru S1 x with
  | some b => .ok b S1
  | Option.none => .stuck
def fBl (a : FE) : FT := fun r S => (a r S).bind fun x S1 => match x with
  | .bool b => .ok b S1
  | _ => .stuck
def fAnd (a b : FT) : FT := fun r S => (a r S).bind fun c S1 => if c = true then b r S1 else .ok false S1
def fOr (a b : FT) : FT := fun r S => (a r S).bind fun c S1 => if c = true then .ok true S1 else b r S1
def fNot (a : FT) : FT := fun r S => (a r S).bind fun c S1 => .ok (!c) S1
def fAndV (a b : FE) : FE := fun r S => (a r S).bind fun x S1 => match x with
  | .bool true => b r S1
  | .bool false => .ok (.bool false) S1
  | _ => .stuck
def fOrV (a b : FE) : FE := fun r S => (a r S).bind fun x S1 => match x with
  | .bool false => b r S1
  | .bool true => .ok (.bool true) S1
  | _ => .stuck
def fNotV (a : FE) : FE := fun r S => (a r S).bind fun x S1 => match x with
  | .bool b => .ok (.bool (!b)) S1
  | _ => .stuck

/-! ### statements -/
def fSeq (a b : FS) : FS := fun r S => match a r S with
  | .next r1 S1 => b r1 S1
  | o => o
def fPass : FS := fun r S => .next r S
def fBreak : FS := fun r S => .brk r S
def fCont : FS := fun r S => .cont r S
def fIf (t : FT) (a b : FS) : FS := fun r S => match t r S with
  | .ok c S1 => if c = true then a r S1 else b r S1
  | .exc x S1 => .exc x r S1
  | .stuck => .stuck
def fRet (a : FE) : FS := fun r S => match a r S with
  | .ok d S1 => .ret d S1
  | .exc x S1 => .exc x r S1
  | .stuck => .stuck
def fRetN : FS := fun _ S => .ret .none S
def fExpr (a : FE) : FS := fun r S => match a r S with
  | .ok _ S1 => .next r S1
  | .exc x S1 => .exc x r S1
  | .stuck => .stuck
def fAsg (a : FE) (g : FG) : FS := fun r S => match a r S with
  | .ok d S1 => g d r S1
  | .exc x S1 => .exc x r S1
  | .stuck => .stuck
def fNever : FS := fun _ _ => .stuck
/-! ### targets -/
def gNm (i : Nat) : FG := fun d r S => .next (r.set i (some d)) S
abbrev FGs := List D → Env → Store → SOut
def gsNil : FGs := fun ds r S => match ds with
  | [] => .next r S
  | _ => .stuck
def gsCons (g : FG) (h : FGs) : FGs := fun ds r S => match ds with
  | d :: ds => (match g d r S with
    | .next r1 S1 => h ds r1 S1
    | o => o)
  | [] => .stuck
def gTupl (n : Nat) (g : FGs) : FG := fun d r S => match d with
  | .tup ds => if ds.length = n then g ds r S else .stuck
  | _ => .stuck

/-! ### loops -/
def fWhile : Nat → FT → FS → FS
  | 0, _, _ => fun _ _ => .stuck
  | n + 1, t, b => fun r S => match t r S with
    | .ok true S1 => (match b r S1 with
      | .next r2 S2 => fWhile n t b r2 S2
      | .cont r2 S2 => fWhile n t b r2 S2
      | .brk r2 S2 => .next r2 S2
      | o => o)
    | .ok false S1 => .next r S1
    | .exc x S1 => .exc x r S1
    | .stuck => .stuck
/-- what is walked: the items, the store's list that must stand still -/
structure Src where
  its : List D
  at_ : Option (Nat × List D)
def Src.still (s : Src) (S : Store) : Bool := match s.at_ with
  | none => true
  | some (l, es) => (match S[l]? with
    | some (.lst ds) => D.beqs ds es
    | some (.fro ds) => D.beqs ds es
    | _ => false)
abbrev FI := Env → Store → Out Src
def forGo (s : Src) (g : FG) (b : FS) : List D → FS
  | [] => fun r S => if s.still S = true then .next r S else .stuck
  | d :: ds => fun r S => if s.still S = true then (match g d r S with
      | .next r1 S1 => (match b r1 S1 with
        | .next r2 S2 => forGo s g b ds r2 S2
        | .cont r2 S2 => forGo s g b ds r2 S2
        | .brk r2 S2 => .next r2 S2
        | o => o)
      | o => o) else .stuck
def fFor (i : FI) (g : FG) (b : FS) : FS := fun r S => match i r S with
  | .ok s S1 => forGo s g b s.its r S1
  | .exc x S1 => .exc x r S1
  | .stuck => .stuck
/-- a name, a value: a list, a tuple, a text -/
def seqSrc (S : Store) : D → Option Src
  | .tup ds => some ⟨ds, none⟩
  | .str x => some ⟨x.cps.toList.map fun c => .str ⟨#[c]⟩, none⟩
  | .ref l => match S[l]? with
    | some (.lst ds) => some ⟨ds, some (l, ds)⟩
    | some (.fro ds) => some ⟨ds, some (l, ds)⟩
    | _ => none
  | _ => none
def iSeq (a : FE) : FI := fun r S => (a r S).bind fun x S1 => match seqSrc S1 x with
  | some s => .ok s S1
  | none => .stuck
/-- enumerate(x) -/
def pairs (i : Nat) : List D → List D
  | [] => []
  | d :: ds => .tup [.int (i : Nat), d] :: pairs (i + 1) ds
def iEnum (a : FE) : FI := fun r S => (a r S).bind fun x S1 => match seqSrc S1 x with
  | some s => .ok ⟨pairs 0 s.its, s.at_⟩ S1
  | none => .stuck
def rngL (lo : Int) : Nat → List D
  | n => (List.range n).map fun (i : Nat) => .int (lo + i)
def small62 (i : Int) : Bool := decide (-(2 ^ 62) ≤ i ∧ i < 2 ^ 62)
def iRange1 (a : FE) : FI := fun r S => (a r S).bind fun x S1 => match x with
  | .int j => if small62 j then .ok ⟨rngL 0 j.toNat, none⟩ S1 else .stuck
  | _ => .stuck
def rng2 : D → D → Store → Out Src
  | .int i, .int j, S => if small62 i && small62 j then .ok ⟨rngL i (j - i).toNat, none⟩ S else .stuck
  | _, _, _ => .stuck
def iRange2 (a b : FE) : FI := fun r S => (a r S).bind fun x S1 => (b r S1).bind fun y S2 => rng2 x y S2

/-! ### comprehensions -/
def wipeE (r : Env) : List Nat → Env
  | [] => r
  | i :: is => (wipeE r is).set i none
def lcGo (s : Src) (g : FG) (t : FT) (e : FE) (l : Nat) (r0 : Env) : List D → Store → Out Unit
  | [], S => if s.still S = true then .ok () S else .stuck
  | d :: ds, S => if s.still S = true then (match g d r0 S with
      | .next r1 S1 => (match t r1 S1 with
        | .ok true S2 => (match e r1 S2 with
          | .ok y S3 => (match S3[l]? with
            | some (.lst acc) => if acc.length < LINE then lcGo s g t e l r0 ds (S3.set l (.lst (acc ++ [y]))) else .stuck
            | _ => .stuck)
          | _ => .stuck)
        | .ok false S2 => lcGo s g t e l r0 ds S2
        | _ => .stuck)
      | _ => .stuck) else .stuck
/-- [e for g in i if t]; vs: the block's own slots -/
def fLc (i : FI) (g : FG) (t : FT) (e : FE) (vs : List Nat) : FE := fun r S => (i r S).bind fun s S1 =>
  (lcGo s g t e S1.length (wipeE r vs) s.its (S1 ++ [.lst []])).bind fun _ S2 => .ok (.ref S1.length) S2
def fYes : FT := fun _ S => .ok true S

/-! ### a def -/
def fDef (n : Nat) (b : FS) : FF := fun S ds => match b (ds.map some ++ List.replicate (n - ds.length) none) S with
  | .next _ S1 => .ok .none S1
  | .ret d S1 => .ok d S1
  | .exc x _ S1 => .exc x S1
  | _ => .stuck
end CL

set_option Elab.async false
set_option linter.all false
set_option maxRecDepth 100000
set_option maxHeartbeats 4000000
/-! How the clean reading stands to the heap: the relation, the judgements, the rules. -/
namespace CL
open PySem PySem.Spec PyProof.Rows L2

theorem line_eq : sizeLine = LINE := sizeLine_eq

abbrev MGf := Str → Option Value
/-- the module's names; the program; the world -/
structure MG where
  f : MGf
  P : Program
  w : World
instance : CoeFun MG (fun _ => MGf) := ⟨MG.f⟩
@[reducible] def _root_.L2.Cx.MG (X : Cx) : CL.MG := ⟨X.mg, X.prog, X.w⟩
/-- a dict whose keys are tuples, nested -/
def DNok (P : Program) (w : World) (a : Addr) (xs : List (NestedKey × Addr × Value)) (h : Heap) : Prop := xs.length ≤ sizeLine ∧ (a == sysModules) = false ∧
  ∃ o es ep, h.get? a = some o ∧ o.ExactDict ∧ o.data = .dict es ep ∧ es.toList = xs.map (entryOfKey (nestedKind P w)) ∧ (xs.map (·.1)).Nodup
def DN (P : Program) (w : World) (a : Addr) (xs : List (NestedKey × Addr × Value)) : HO := .ext (DNok P w a xs)
mutual
def kOf : D → NestedKey
  | .int i => .num i
  | .str x => .text x
  | .tup ds => .tup (kOfs ds)
  | _ => .none
def kOfs : List D → List NestedKey
  | [] => []
  | d :: ds => kOf d :: kOfs ds
end
mutual
def plainK : D → Bool
  | .int _ => true
  | .str _ => true
  | .none => true
  | .tup ds => plainKs ds
  | _ => false
def plainKs : List D → Bool
  | [] => true
  | d :: ds => plainK d && plainKs ds
end
/-- may be a key of such a dict -/
def okKey : D → Bool
  | .tup ds => plainKs ds && decide ((kOf (.tup ds)).depth ≤ 8)
  | _ => false
mutual
/-- the tree d is the value v -/
inductive Rep (K : PySem.W.Frag) (mg : MG) (m : List Addr) (H : Hp) : D → V → Prop
  | none : Rep K mg m H .none .non
  | bool (b : Bool) : Rep K mg m H (.bool b) (.bl b)
  | int (i : Int) : Rep K mg m H (.int i) (.int i)
  | str (x : Str) : Rep K mg m H (.str x) (.str x)
  | tup {a : Addr} {ds : List D} {vs : List V} : SqT K H a vs → Reps K mg m H ds vs → Rep K mg m H (.tup ds) (.ref a)
  | ref {l : Nat} {a : Addr} : m[l]? = some a → Rep K mg m H (.ref l) (.ref a)
  | gl {x : Str} {a : Addr} : mg x = some (.ref a) → Rep K mg m H (.gl x) (.ref a)
inductive Reps (K : PySem.W.Frag) (mg : MG) (m : List Addr) (H : Hp) : List D → List V → Prop
  | nil : Reps K mg m H [] []
  | cons {d : D} {ds : List D} {v : V} {vs : List V} : Rep K mg m H d v → Reps K mg m H ds vs → Reps K mg m H (d :: ds) (v :: vs)
end

/-- the heap goes on: the places keep their addresses, the tuples stand -/
structure Goes (K : PySem.W.Frag) (m : List Addr) (H : Hp) (m' : List Addr) (H' : Hp) : Prop where
  ad : ∀ (l : Nat) (a : Addr), m[l]? = some a → m'[l]? = some a
  tu : ∀ (a : Addr) (xs : List V), SqT K H a xs → SqT K H' a xs
section
variable {K : PySem.W.Frag} {mg : MG} {m m' m'' : List Addr} {H H' H'' : Hp}
theorem Goes.refl : Goes K m H m H := ⟨fun _ _ e => e, fun _ _ e => e⟩
theorem Goes.trans (a : Goes K m H m' H') (b : Goes K m' H' m'' H'') : Goes K m H m'' H'' := ⟨fun l x e => b.ad l x (a.ad l x e), fun x xs e => b.tu x xs (a.tu x xs e)⟩
mutual
theorem Rep.go (g : Goes K m H m' H') : ∀ {d : D} {v : V}, Rep K mg m H d v → Rep K mg m' H' d v
  | _, _, .none => .none
  | _, _, .bool b => .bool b
  | _, _, .int i => .int i
  | _, _, .str x => .str x
  | _, _, .tup s r => .tup (g.tu _ _ s) (Reps.go g r)
  | _, _, .ref e => .ref (g.ad _ _ e)
  | _, _, .gl e => .gl e
theorem Reps.go (g : Goes K m H m' H') : ∀ {ds : List D} {vs : List V}, Reps K mg m H ds vs → Reps K mg m' H' ds vs
  | _, _, .nil => .nil
  | _, _, .cons r q => .cons (Rep.go g r) (Reps.go g q)
end
theorem Reps.length : ∀ {ds : List D} {vs : List V}, Reps K mg m H ds vs → ds.length = vs.length
  | _, _, .nil => rfl
  | _, _, .cons _ q => by simp [Reps.length q]
theorem Reps.get : ∀ {ds : List D} {vs : List V} {i : Nat} {d : D}, Reps K mg m H ds vs → ds[i]? = some d → ∃ v, vs[i]? = some v ∧ Rep K mg m H d v
  | _, _, _, _, .nil, e => by simp at e
  | _, _, 0, _, .cons r _, e => by simp at e; subst e; exact ⟨_, rfl, r⟩
  | _, _, i + 1, _, .cons _ q, e => by
    obtain ⟨v, h1, h2⟩ := Reps.get (i := i) q (by simpa using e)
    exact ⟨v, by simpa using h1, h2⟩
theorem Reps.get' : ∀ {ds : List D} {vs : List V} {i : Nat} {v : V}, Reps K mg m H ds vs → vs[i]? = some v → ∃ d, ds[i]? = some d ∧ Rep K mg m H d v
  | _, _, _, _, .nil, e => by simp at e
  | _, _, 0, _, .cons r _, e => by simp at e; subst e; exact ⟨_, rfl, r⟩
  | _, _, i + 1, _, .cons _ q, e => by
    obtain ⟨v, h1, h2⟩ := Reps.get' (i := i) q (by simpa using e)
    exact ⟨v, by simpa using h1, h2⟩
theorem Reps.append : ∀ {ds es : List D} {vs us : List V}, Reps K mg m H ds vs → Reps K mg m H es us → Reps K mg m H (ds ++ es) (vs ++ us)
  | _, _, _, _, .nil, s => s
  | _, _, _, _, .cons r q, s => .cons r (Reps.append q s)
theorem Reps.drop : ∀ {ds : List D} {vs : List V} (n : Nat), Reps K mg m H ds vs → Reps K mg m H (ds.drop n) (vs.drop n)
  | _, _, 0, r => r
  | _, _, _ + 1, .nil => .nil
  | _, _, n + 1, .cons _ q => Reps.drop n q
theorem Reps.take : ∀ {ds : List D} {vs : List V} (n : Nat), Reps K mg m H ds vs → Reps K mg m H (ds.take n) (vs.take n)
  | _, _, 0, _ => .nil
  | _, _, _ + 1, .nil => .nil
  | _, _, n + 1, .cons r q => .cons r (Reps.take n q)
theorem Reps.set {d : D} {v : V} (r : Rep K mg m H d v) : ∀ {ds : List D} {vs : List V} (i : Nat), Reps K mg m H ds vs → Reps K mg m H (ds.set i d) (vs.set i v)
  | _, _, _, .nil => .nil
  | _, _, 0, .cons _ q => .cons r q
  | _, _, i + 1, .cons p q => .cons p (Reps.set r i q)
theorem Reps.eraseIdx : ∀ {ds : List D} {vs : List V} (i : Nat), Reps K mg m H ds vs → Reps K mg m H (ds.eraseIdx i) (vs.eraseIdx i)
  | _, _, _, .nil => .nil
  | _, _, 0, .cons _ q => q
  | _, _, i + 1, .cons p q => .cons p (Reps.eraseIdx i q)
theorem Reps.empty {ds : List D} {vs : List V} (r : Reps K mg m H ds vs) : ds.isEmpty = vs.isEmpty := by cases r <;> rfl
end

/-- what stands at a place of the store -/
def ObR (K : PySem.W.Frag) (mg : MG) (m : List Addr) (H : Hp) : O → Addr → Prop
  | .lst ds, a => ∃ vs, H a = some (.lst vs) ∧ Reps K mg m H ds vs
  | .fro ds, a => ∃ o vs, H a = some (.frz o (.lst vs)) ∧ Reps K mg m H ds vs
  | .inst c fs, a => ∃ C dx vs, H a = some (.ins C dx vs) ∧ mg c = some (.ref C) ∧ vs.map (·.1) = fs.map (·.1) ∧ Reps K mg m H (fs.map (·.2)) (vs.map (·.2))
  | .dic kvs, a => ∃ xs, H a = some (DN mg.P mg.w a xs) ∧ Paired (fun (p : D × D) (q : NestedKey × Addr × Value) => okKey p.1 = true ∧ kOf p.1 = q.1 ∧ Rep K mg m H p.1 (.ref q.2.1) ∧ ∃ v, Rep K mg m H p.2 v ∧ RelV v q.2.2) kvs xs
  | .dis kvs, a => ∃ vs, H a = some (.dK vs) ∧ vs.map (·.1) = kvs.map (fun p => Sum.inr p.1) ∧ Reps K mg m H (kvs.map (·.2)) (vs.map (·.2))
structure Rel (K : PySem.W.Frag) (mg : MG) (m : List Addr) (S : Store) (H : Hp) : Prop where
  len : m.length = S.length
  nd : m.Nodup
  ob : ∀ (l : Nat) (o : O) (a : Addr), S[l]? = some o → m[l]? = some a → ObR K mg m H o a
/-- the slots -/
structure EnvR (K : PySem.W.Frag) (mg : MG) (m : List Addr) (H : Hp) (r : CL.Env) (σ : L2.St) : Prop where
  len : r.length = σ.length
  at_ : ∀ (i : Nat) (d : D), r[i]? = some (some d) → ∃ v, σ[i]? = some (some v) ∧ Rep K mg m H d v
section
variable {K : PySem.W.Frag} {mg : MG} {m m' : List Addr} {H H' : Hp} {S : Store} {r : CL.Env} {σ : L2.St}
theorem EnvR.go (e : EnvR K mg m H r σ) (g : Goes K m H m' H') : EnvR K mg m' H' r σ := ⟨e.len, fun i d h => let ⟨v, h1, h2⟩ := e.at_ i d h; ⟨v, h1, h2.go g⟩⟩
theorem EnvR.set (e : EnvR K mg m H r σ) {d : D} {v : V} (q : Rep K mg m H d v) (i : Nat) : EnvR K mg m H (r.set i (some d)) (σ.set i (some v)) := by
  refine ⟨by simp [e.len], fun j d' h => ?_⟩
  by_cases hj : i = j
  · subst hj
    have hi : i < r.length := by
      by_cases z : i < r.length
      · exact z
      · rw [List.getElem?_eq_none (by simp; omega)] at h; cases h
    rw [List.getElem?_set_self hi] at h
    cases h
    exact ⟨v, List.getElem?_set_self (by rw [← e.len]; exact hi), q⟩
  · rw [List.getElem?_set_ne hj] at h
    obtain ⟨u, h1, h2⟩ := e.at_ j d' h
    exact ⟨u, by rw [List.getElem?_set_ne hj]; exact h1, h2⟩
theorem EnvR.unset (e : EnvR K mg m H r σ) (i : Nat) : EnvR K mg m H (r.set i none) (σ.set i none) := by
  refine ⟨by simp [e.len], fun j d' h => ?_⟩
  by_cases hj : i = j
  · subst hj
    have hi : i < r.length := by
      by_cases z : i < r.length
      · exact z
      · rw [List.getElem?_eq_none (by simp; omega)] at h; cases h
    rw [List.getElem?_set_self hi] at h
    cases h
  · rw [List.getElem?_set_ne hj] at h
    obtain ⟨u, h1, h2⟩ := e.at_ j d' h
    exact ⟨u, by rw [List.getElem?_set_ne hj]; exact h1, h2⟩
theorem Rel.addr (R : Rel K mg m S H) {l : Nat} {o : O} (h : S[l]? = some o) : ∃ a, m[l]? = some a := by
  have hl : l < S.length := (List.getElem?_eq_some_iff.mp h).1
  exact ⟨m[l]'(by rw [R.len]; exact hl), List.getElem?_eq_getElem _⟩
theorem Rel.at_ (R : Rel K mg m S H) {l : Nat} {o : O} (h : S[l]? = some o) : ∃ a, m[l]? = some a ∧ ObR K mg m H o a := by
  obtain ⟨a, ha⟩ := R.addr h
  exact ⟨a, ha, R.ob l o a h ha⟩
/-- a new thing that is no place of the store (a tuple) -/
theorem goes_new {p : Addr} {o : HO} (hp : H p = none) : Goes K m H m (upd H p o) := ⟨fun _ _ e => e, fun a xs q => by
  rcases q with q | q
  · refine .inl ?_
    rcases q with q | ⟨ob, q⟩
    · exact .inl (by rw [upd_ne (ne_of_none q hp)]; exact q)
    · exact .inr ⟨ob, by rw [upd_ne (ne_of_none q hp)]; exact q⟩
  · exact .inr q⟩
/-- a thing that may be written is no tuple -/
theorem goes_write {p : Addr} {o : HO} (hm : Mut (H p)) : Goes K m H m (upd H p o) := ⟨fun _ _ e => e, fun a xs q => by
  rcases q with q | q
  · refine .inl ?_
    rcases q with q | ⟨ob, q⟩
    · have ne : a ≠ p := fun z => by subst z; rw [q] at hm; exact hm
      exact .inl (by rw [upd_ne ne]; exact q)
    · have ne : a ≠ p := fun z => by subst z; rw [q] at hm; exact hm
      exact .inr ⟨ob, by rw [upd_ne ne]; exact q⟩
  · exact .inr q⟩
theorem ObR.go (g : Goes K m H m' H') {o : O} {a : Addr} (k : ∀ u, H a = some u → H' a = some u) (h : ObR K mg m H o a) : ObR K mg m' H' o a := by
  cases o with
  | lst ds => obtain ⟨vs, h1, h2⟩ := h; exact ⟨vs, k _ h1, h2.go g⟩
  | fro ds => obtain ⟨o, vs, h1, h2⟩ := h; exact ⟨o, vs, k _ h1, h2.go g⟩
  | inst c fs => obtain ⟨C, dx, vs, h1, h2, h3, h4⟩ := h; exact ⟨C, dx, vs, k _ h1, h2, h3, h4.go g⟩
  | dic kvs =>
    obtain ⟨xs, h1, h2⟩ := h
    exact ⟨xs, k _ h1, Paired.mapP h2 fun p q ⟨a1, a2, a3, v, a4, a5⟩ => ⟨a1, a2, a3.go g, v, a4.go g, a5⟩⟩
  | dis kvs => obtain ⟨vs, h1, h2, h3⟩ := h; exact ⟨vs, k _ h1, h2, h3.go g⟩
theorem ObR.there {o : O} {a : Addr} (h : ObR K mg m H o a) : ∃ u, H a = some u := by
  cases o with
  | lst ds => obtain ⟨vs, h1, h2⟩ := h; exact ⟨_, h1⟩
  | fro ds => obtain ⟨o, vs, h1, h2⟩ := h; exact ⟨_, h1⟩
  | inst c fs => obtain ⟨C, dx, vs, h1, h2, h3, h4⟩ := h; exact ⟨_, h1⟩
  | dic kvs => obtain ⟨xs, h1, h2⟩ := h; exact ⟨_, h1⟩
  | dis kvs => obtain ⟨vs, h1, h2, h3⟩ := h; exact ⟨_, h1⟩
theorem Rel.ne (R : Rel K mg m S H) {l l' : Nat} {a b : Addr} (h : m[l]? = some a) (h' : m[l']? = some b) (ne : l ≠ l') : a ≠ b := by
  rintro rfl
  obtain ⟨h1, e1⟩ := List.getElem?_eq_some_iff.mp h
  obtain ⟨h2, e2⟩ := List.getElem?_eq_some_iff.mp h'
  exact ne ((List.getElem_inj R.nd).mp (e1.trans e2.symm))
theorem Rel.place (R : Rel K mg m S H) {l : Nat} {a : Addr} (h : m[l]? = some a) : ∃ o, S[l]? = some o ∧ ObR K mg m H o a := by
  have hl : l < m.length := (List.getElem?_eq_some_iff.mp h).1
  have e : S[l]? = some (S[l]'(by rw [← R.len]; exact hl)) := List.getElem?_eq_getElem _
  exact ⟨_, e, R.ob l _ a e h⟩
/-- a thing beside the store is laid -/
theorem Rel.beside (R : Rel K mg m S H) {p : Addr} {o : HO} (hp : H p = none) : Rel K mg m S (upd H p o) :=
  ⟨R.len, R.nd, fun l ob a h1 h2 => (R.ob l ob a h1 h2).go (goes_new hp) fun u e => by rw [upd_ne (ne_of_none e hp)]; exact e⟩
theorem goes_more {p : Addr} {o : HO} (hp : H p = none) : Goes K m H (m ++ [p]) (upd H p o) :=
  ⟨fun l a e => by rw [List.getElem?_append_left (List.getElem?_eq_some_iff.mp e).1]; exact e, (goes_new (m := m) hp).tu⟩
/-- a new place of the store -/
theorem Rel.more (R : Rel K mg m S H) {p : Addr} {o : HO} {ob : O} (hp : H p = none) (h : ObR K mg (m ++ [p]) (upd H p o) ob p) : Rel K mg (m ++ [p]) (S ++ [ob]) (upd H p o) := by
  have fresh : p ∉ m := fun hm => by
    obtain ⟨l, hl, e⟩ := List.getElem_of_mem hm
    obtain ⟨ob, _, q⟩ := R.place (l := l) (a := p) (by rw [List.getElem?_eq_getElem hl, e])
    obtain ⟨u, e⟩ := q.there
    rw [hp] at e; cases e
  refine ⟨by simp [R.len], ?_, fun l o2 a h1 h2 => ?_⟩
  · rw [List.nodup_append]
    refine ⟨R.nd, by simp, fun a ha b hb => ?_⟩
    have e : b = p := by simpa using hb
    subst e
    exact fun z => fresh (z ▸ ha)
  · by_cases hl : l < S.length
    · rw [List.getElem?_append_left hl] at h1
      rw [List.getElem?_append_left (by rw [R.len]; exact hl)] at h2
      exact (R.ob l o2 a h1 h2).go (goes_more hp) fun u e => by rw [upd_ne (ne_of_none e hp)]; exact e
    · have e : l = S.length := by
        have := (List.getElem?_eq_some_iff.mp h1).1
        simp at this; omega
      subst e
      simp at h1
      rw [← R.len] at h2
      simp at h2
      subst h1 h2
      exact h
theorem new_place {p : Addr} (R : Rel K mg m S H) : (m ++ [p])[S.length]? = some p := by rw [← R.len]; simp
/-- a place of the store is written -/
theorem Rel.put (R : Rel K mg m S H) {l : Nat} {p : Addr} {o : HO} {ob : O} (hl : m[l]? = some p) (hm : Mut (H p)) (h : ObR K mg m (upd H p o) ob p) : Rel K mg m (S.set l ob) (upd H p o) := by
  refine ⟨by simp [R.len], R.nd, fun l' o2 a h1 h2 => ?_⟩
  by_cases e : l = l'
  · subst e
    rw [hl] at h2; cases h2
    have hlt : l < S.length := by rw [← R.len]; exact (List.getElem?_eq_some_iff.mp hl).1
    rw [List.getElem?_set_self hlt] at h1
    cases h1
    exact h
  · rw [List.getElem?_set_ne e] at h1
    have ne : a ≠ p := R.ne h2 hl (Ne.symm e)
    exact (R.ob l' o2 a h1 h2).go (goes_write hm) fun u q => by rw [upd_ne ne]; exact q
end

/-! ### what is wanted of a result -/
/-- an exception x, as its class and its own dict tell -/
def ExR (K : PySem.W.Frag) (mg : MG) (m : List Addr) (H : Hp) (x : Exn) (cls : Value) (d : Option Addr) : Prop :=
  ∃ C, cls = .ref C ∧ mg x.cls = some (.ref C) ∧ ((x.fs = [] ∧ d = none) ∨ ∃ dd vs, d = some dd ∧ H dd = some (.xd vs) ∧ vs.map (·.1) = x.fs.map (·.1) ∧ Reps K mg m H (x.fs.map (·.2)) (vs.map (·.2)))
def Po {α β : Type} (K : PySem.W.Frag) (mg : MG) (Rl : List Addr → Hp → α → β → Prop) (W : WX) (σ : L2.St) (m : List Addr) (H : Hp) (Q : β → Hp → Prop) : Out α → Prop
  | .ok d S => ∀ m' H' v, Goes K m H m' H' → Rel K mg m' S H' → Rl m' H' d v → Q v H'
  | .exc x S => ∀ m' H' cls dd, Goes K m H m' H' → Rel K mg m' S H' → ExR K mg m' H' x cls dd → W cls dd σ H'
  | .stuck => False
abbrev PoE (K : PySem.W.Frag) (mg : MG) : WX → L2.St → List Addr → Hp → VK → Out D → Prop := Po K mg (Rep K mg)
abbrev PoT (K : PySem.W.Frag) (mg : MG) : WX → L2.St → List Addr → Hp → (Bool → Hp → Prop) → Out Bool → Prop := Po K mg (fun _ _ b c => b = c)
abbrev PoA (K : PySem.W.Frag) (mg : MG) : WX → L2.St → List Addr → Hp → (List V → Hp → Prop) → Out (List D) → Prop := Po K mg (Reps K mg)
def PoS (K : PySem.W.Frag) (mg : MG) (W : WX) (m : List Addr) (H : Hp) (E : Ends) : SOut → Prop
  | .next r S => ∀ m' H' σ', Goes K m H m' H' → Rel K mg m' S H' → EnvR K mg m' H' r σ' → E.nx σ' H'
  | .ret d S => ∀ m' H' v, Goes K m H m' H' → Rel K mg m' S H' → Rep K mg m' H' d v → E.rt v H'
  | .brk r S => ∀ m' H' σ', Goes K m H m' H' → Rel K mg m' S H' → EnvR K mg m' H' r σ' → E.bk σ' H'
  | .cont r S => ∀ m' H' σ', Goes K m H m' H' → Rel K mg m' S H' → EnvR K mg m' H' r σ' → E.ct σ' H'
  | .exc x r S => ∀ m' H' σ' cls dd, Goes K m H m' H' → Rel K mg m' S H' → EnvR K mg m' H' r σ' → ExR K mg m' H' x cls dd → W cls dd σ' H'
  | .stuck => False
section
variable {K : PySem.W.Frag} {mg : MG} {W : WX} {σ : L2.St} {m m1 : List Addr} {H H1 : Hp}
theorem Po.go {α β : Type} {Rl : List Addr → Hp → α → β → Prop} (g : Goes K m H m1 H1) {Q : β → Hp → Prop} {o : Out α} (h : Po K mg Rl W σ m H Q o) : Po K mg Rl W σ m1 H1 Q o := by
  cases o with
  | ok d S => exact fun m' H' v g' => h m' H' v (g.trans g')
  | exc x S => exact fun m' H' c dd g' => h m' H' c dd (g.trans g')
  | stuck => exact h
theorem PoS.go (g : Goes K m H m1 H1) {E : Ends} {o : SOut} (h : PoS K mg W m H E o) : PoS K mg W m1 H1 E o := by
  cases o with
  | next r S => exact fun m' H' v g' => h m' H' v (g.trans g')
  | ret d S => exact fun m' H' v g' => h m' H' v (g.trans g')
  | brk r S => exact fun m' H' v g' => h m' H' v (g.trans g')
  | cont r S => exact fun m' H' v g' => h m' H' v (g.trans g')
  | exc x r S => exact fun m' H' s c dd g' => h m' H' s c dd (g.trans g')
  | stuck => exact h
end
/-- the readings -/
def rdE (K : PySem.W.Frag) (mg : MG) (W : WX) (f : FE) : TE := fun σ H Q => ∃ m r S, Rel K mg m S H ∧ EnvR K mg m H r σ ∧ PoE K mg W σ m H Q (f r S)
def rdT (K : PySem.W.Frag) (mg : MG) (W : WX) (f : FT) : TT := fun σ H Q => ∃ m r S, Rel K mg m S H ∧ EnvR K mg m H r σ ∧ PoT K mg W σ m H Q (f r S)
def rdA (K : PySem.W.Frag) (mg : MG) (W : WX) (f : FA) : TA := fun σ H Q => ∃ m r S, Rel K mg m S H ∧ EnvR K mg m H r σ ∧ PoA K mg W σ m H Q (f r S)
def rdS (K : PySem.W.Frag) (mg : MG) (W : WX) (f : FS) : TS := fun E σ H => ∃ m r S, Rel K mg m S H ∧ EnvR K mg m H r σ ∧ PoS K mg W m H E (f r S)
def rdG (K : PySem.W.Frag) (mg : MG) (W : WX) (g : FG) : TG := fun v σ H Q => ∃ m r S d, Rel K mg m S H ∧ EnvR K mg m H r σ ∧ Rep K mg m H d v ∧ PoS K mg W m H ⟨Q, fun _ _ => False, fun _ _ => False, fun _ _ => False⟩ (g d r S)
def rdGs (K : PySem.W.Frag) (mg : MG) (W : WX) (g : FGs) : TGs := fun vs σ H Q => ∃ m r S ds, Rel K mg m S H ∧ EnvR K mg m H r σ ∧ Reps K mg m H ds vs ∧ PoS K mg W m H ⟨Q, fun _ _ => False, fun _ _ => False, fun _ _ => False⟩ (g ds r S)
abbrev CE (X : Cx) (W : WX) (e : Expr) (f : FE) : Prop := PE X e (rdE X.K X.MG W f)
abbrev CT (X : Cx) (W : WX) (e : Expr) (f : FT) : Prop := PT X e (rdT X.K X.MG W f)
abbrev CW (X : Cx) (W : WX) (e : Expr) (f : FT) : Prop := PW X e (rdT X.K X.MG W f)
abbrev CA (X : Cx) (W : WX) (es : List Expr) (f : FA) : Prop := PA X es (rdA X.K X.MG W f)
abbrev CS (X : Cx) (W : WX) (st : Stmt) (f : FS) : Prop := PS X st (rdS X.K X.MG W f)
abbrev CSs (X : Cx) (W : WX) (st : List Stmt) (f : FS) : Prop := PSs X st (rdS X.K X.MG W f)
abbrev CG (X : Cx) (W : WX) (e : Expr) (f : FG) : Prop := PG X e (rdG X.K X.MG W f)
abbrev CGs (X : Cx) (W : WX) (es : List Expr) (f : FGs) : Prop := PGs X es (rdGs X.K X.MG W f)
/-- from a reading of the layer -/
theorem PE.imp {X : Cx} {e : Expr} {t u : TE} (h : PE X e t) (k : ∀ σ H Q, u σ H Q → t σ H Q) : PE X e u := ⟨fun pins s σ H Q I q => h.run pins s σ H Q I (k σ H Q q)⟩
theorem PT.imp {X : Cx} {e : Expr} {t u : TT} (h : PT X e t) (k : ∀ σ H Q, u σ H Q → t σ H Q) : PT X e u := ⟨fun pins s σ H Q I q => h.run pins s σ H Q I (k σ H Q q)⟩
theorem PW.imp {X : Cx} {e : Expr} {t u : TT} (h : PW X e t) (k : ∀ σ H Q, u σ H Q → t σ H Q) : PW X e u := ⟨fun wh pins s σ H Q I q => h.run wh pins s σ H Q I (k σ H Q q)⟩
theorem PA.imp {X : Cx} {e : List Expr} {t u : TA} (h : PA X e t) (k : ∀ σ H Q, u σ H Q → t σ H Q) : PA X e u := ⟨fun pos pins s σ H Q I q => h.run pos pins s σ H Q I (k σ H Q q)⟩
theorem PS.imp {X : Cx} {e : Stmt} {t u : TS} (h : PS X e t) (k : ∀ D σ H, u D σ H → t D σ H) : PS X e u := ⟨fun pins s σ H D I q => h.run pins s σ H D I (k D σ H q)⟩
theorem PSs.imp {X : Cx} {e : List Stmt} {t u : TS} (h : PSs X e t) (k : ∀ D σ H, u D σ H → t D σ H) : PSs X e u := ⟨fun pins s σ H D I q => h.run pins s σ H D I (k D σ H q)⟩
theorem PG.imp {X : Cx} {e : Expr} {t u : TG} (h : PG X e t) (k : ∀ v σ H Q, u v σ H Q → t v σ H Q) : PG X e u := ⟨fun pins s σ H v uu Q I r q => h.run pins s σ H v uu Q I r (k v σ H Q q)⟩
theorem PGs.imp {X : Cx} {e : List Expr} {t u : TGs} (h : PGs X e t) (k : ∀ v σ H Q, u v σ H Q → t v σ H Q) : PGs X e u := ⟨fun pins s σ H v uu Q I r q => h.run pins s σ H v uu Q I r (k v σ H Q q)⟩
end CL

set_option Elab.async false
set_option linter.all false
set_option maxRecDepth 100000
set_option maxHeartbeats 4000000
namespace CL
open PySem PySem.Spec PyProof.Rows L2

/-! ### one after another -/
section
variable {K : PySem.W.Frag} {mg : MG} {W : WX} {σ : L2.St} {m : List Addr} {H : Hp} {r : CL.Env} {S : Store}
theorem seqE {α β : Type} {Rl : List Addr → Hp → α → β → Prop} {f : FE} {k : D → Store → Out α} {Q : β → Hp → Prop} (R : Rel K mg m S H) (E : EnvR K mg m H r σ) (h : Po K mg Rl W σ m H Q ((f r S).bind k)) :
    rdE K mg W f σ H fun v H1 => ∃ m1 S1 d, Rel K mg m1 S1 H1 ∧ EnvR K mg m1 H1 r σ ∧ Goes K m H m1 H1 ∧ Rep K mg m1 H1 d v ∧ Po K mg Rl W σ m1 H1 Q (k d S1) := by
  refine ⟨m, r, S, R, E, ?_⟩
  cases e : f r S with
  | ok d S1 => rw [e] at h; exact fun m' H' v g R' q => ⟨m', S1, d, R', E.go g, g, q, Po.go g h⟩
  | exc x S1 => rw [e] at h; exact h
  | stuck => rw [e] at h; exact h
theorem seqT {α β : Type} {Rl : List Addr → Hp → α → β → Prop} {f : FT} {k : Bool → Store → Out α} {Q : β → Hp → Prop} (R : Rel K mg m S H) (E : EnvR K mg m H r σ) (h : Po K mg Rl W σ m H Q ((f r S).bind k)) :
    rdT K mg W f σ H fun b H1 => ∃ m1 S1, Rel K mg m1 S1 H1 ∧ EnvR K mg m1 H1 r σ ∧ Goes K m H m1 H1 ∧ Po K mg Rl W σ m1 H1 Q (k b S1) := by
  refine ⟨m, r, S, R, E, ?_⟩
  cases e : f r S with
  | ok d S1 => rw [e] at h; exact fun m' H' v g R' q => by subst q; exact ⟨m', S1, R', E.go g, g, Po.go g h⟩
  | exc x S1 => rw [e] at h; exact h
  | stuck => rw [e] at h; exact h
theorem seqA {α β : Type} {Rl : List Addr → Hp → α → β → Prop} {f : FA} {k : List D → Store → Out α} {Q : β → Hp → Prop} (R : Rel K mg m S H) (E : EnvR K mg m H r σ) (h : Po K mg Rl W σ m H Q ((f r S).bind k)) :
    rdA K mg W f σ H fun vs H1 => ∃ m1 S1 ds, Rel K mg m1 S1 H1 ∧ EnvR K mg m1 H1 r σ ∧ Goes K m H m1 H1 ∧ Reps K mg m1 H1 ds vs ∧ Po K mg Rl W σ m1 H1 Q (k ds S1) := by
  refine ⟨m, r, S, R, E, ?_⟩
  cases e : f r S with
  | ok d S1 => rw [e] at h; exact fun m' H' v g R' q => ⟨m', S1, d, R', E.go g, g, q, Po.go g h⟩
  | exc x S1 => rw [e] at h; exact h
  | stuck => rw [e] at h; exact h
/-- .. in a statement -/
theorem seqS {f : FE} {k : D → Store → SOut} {D1 : Ends} (R : Rel K mg m S H) (E : EnvR K mg m H r σ)
    (h : PoS K mg W m H D1 (match f r S with | .ok d S1 => k d S1 | .exc x S1 => .exc x r S1 | .stuck => .stuck)) :
    rdE K mg W f σ H fun v H1 => ∃ m1 S1 d, Rel K mg m1 S1 H1 ∧ EnvR K mg m1 H1 r σ ∧ Goes K m H m1 H1 ∧ Rep K mg m1 H1 d v ∧ PoS K mg W m1 H1 D1 (k d S1) := by
  refine ⟨m, r, S, R, E, ?_⟩
  cases e : f r S with
  | ok d S1 => rw [e] at h; exact fun m' H' v g R' q => ⟨m', S1, d, R', E.go g, g, q, PoS.go g h⟩
  | exc x S1 => rw [e] at h; exact fun m' H' cls dd g R' q => h m' H' σ cls dd g R' (E.go g) q
  | stuck => rw [e] at h; exact h
theorem seqTS {f : FT} {k : Bool → Store → SOut} {D1 : Ends} (R : Rel K mg m S H) (E : EnvR K mg m H r σ)
    (h : PoS K mg W m H D1 (match f r S with | .ok d S1 => k d S1 | .exc x S1 => .exc x r S1 | .stuck => .stuck)) :
    rdT K mg W f σ H fun b H1 => ∃ m1 S1, Rel K mg m1 S1 H1 ∧ EnvR K mg m1 H1 r σ ∧ Goes K m H m1 H1 ∧ PoS K mg W m1 H1 D1 (k b S1) := by
  refine ⟨m, r, S, R, E, ?_⟩
  cases e : f r S with
  | ok d S1 => rw [e] at h; exact fun m' H' v g R' q => by subst q; exact ⟨m', S1, R', E.go g, g, PoS.go g h⟩
  | exc x S1 => rw [e] at h; exact fun m' H' cls dd g R' q => h m' H' σ cls dd g R' (E.go g) q
  | stuck => rw [e] at h; exact h
end

section
variable {X : Cx} {W : WX} {pos : Pos}
/-! ### names, constants -/
theorem ce_var {i : Nat} {x : Str} (hN : X.N[i]? = some x) (hv : Vis X.env.scope x) (hd : (x == ("__debug__" : Str)) = false := by decide) (hcd : (x == ("__classdict__" : Str)) = false := by decide) : CE X W (.Name x pos) (fVar i) :=
  PE.imp (pe_var hN hv hd hcd) fun σ H Q ⟨m, r, S, R, E, h⟩ => by
    unfold fVar at h
    split at h
    · rename_i d e
      obtain ⟨v, h1, h2⟩ := E.at_ i d e
      exact ⟨v, h1, h m H v .refl R h2⟩
    · exact h.elim
theorem ce_const {e : Expr} {d : D} {v : V} (h : PE X e (tC v)) (hr : ∀ m H, Rep X.K X.MG m H d v) : CE X W e (fC d) :=
  PE.imp h fun σ H Q ⟨m, r, S, R, E, h⟩ => h m H v .refl R (hr m H)
theorem ce_int {i : Int} {j : Nat} : CE X W (.Constant (.int i) j pos) (fC (.int i)) := ce_const pe_int fun _ _ => .int i
theorem ce_str {x : String} {j : Nat} : CE X W (.Constant (.str x) j pos) (fC (.str x)) := ce_const pe_str fun _ _ => .str x
theorem ce_none {j : Nat} : CE X W (.Constant .none j pos) (fC .none) := ce_const pe_non fun _ _ => .none
theorem ce_bool {b : Bool} {j : Nat} : CE X W (.Constant (.bool b) j pos) (fC (.bool b)) := ce_const pe_bl fun _ _ => .bool b
/-- a module's constant -/
theorem ce_glob {x : Str} {v : V} {u : Value} {d : D} (hg : Gl X x) (hm : X.mg x = some u) (rv : RelV v u) (hr : ∀ m H, Rep X.K X.MG m H d v) (hd : (x == ("__debug__" : Str)) = false := by decide) : CE X W (.Name x pos) (fC d) :=
  ce_const (pe_glob hg hm rv hd) hr

/-! ### operations on two values -/
/-- F, a two-place operation of the machine, does what g says -/
def Op2 (X : Cx) (W : WX) (F : Value → Value → Sem Value) (g : D → D → Store → Out D) : Prop :=
  ∀ (pins : List (Addr × Obj)) (s : Shared) (σ : L2.St) (H : Hp) (m : List Addr) (S : Store) (d e : D) (x y : V) (v u : Value) (Q : VK), Inv X pins σ H s → Rel X.K X.MG m S H → Rep X.K X.MG m H d x → Rep X.K X.MG m H e y → RelV x v → RelV y u →
    PoE X.K X.MG W σ m H Q (g d e S) → wpAny (model X.prog X.w) X.A (F v u) (EP X pins σ Q) X.xe s
/-- by the layer's rules -/
theorem Op2.of {F : Value → Value → Sem Value} {g : D → D → Store → Out D}
    (h : ∀ (σ : L2.St) (H : Hp) (m : List Addr) (S : Store) (d e : D) (x y : V) (Q : VK), Rel X.K X.MG m S H → Rep X.K X.MG m H d x → Rep X.K X.MG m H e y → PoE X.K X.MG W σ m H Q (g d e S) → ∃ rr : R2, OpR X F rr ∧ rr x y H Q) : Op2 X W F g := by
  intro pins s σ H m S d e x y v u Q I R r1 r2 q1 q2 hp
  obtain ⟨rr, ho, hq⟩ := h σ H m S d e x y Q R r1 r2 hp
  exact ho pins s σ H x y v u Q I q1 q2 hq
variable {a b c : Expr} {fa fb fc : FE}
theorem run2 {F : Value → Value → Sem Value} {g : D → D → Store → Out D} (ho : Op2 X W F g) (ha : CE X W a fa) (hb : CE X W b fb) {pins : List (Addr × Obj)} {s : Shared} {σ : L2.St} {H : Hp} {Q : VK} (I : Inv X pins σ H s) (h : rdE X.K X.MG W (fBin g fa fb) σ H Q) :
    wpAny (model X.prog X.w) X.A (eval a X.env) (fun v s₁ => wpAny (model X.prog X.w) X.A (eval b X.env) (fun u s₂ => wpAny (model X.prog X.w) X.A (F v u) (EP X pins σ Q) X.xe s₂) X.xe s₁) X.xe s := by
  obtain ⟨m, r, S, R, E, h⟩ := h
  refine thn (ha.run pins s σ H _ I (seqE R E h)) fun v s1 ⟨x, H1, I1, r1, q1⟩ => ?_
  obtain ⟨m1, S1, d, R1, E1, g1, p1, h1⟩ := q1
  refine thn (hb.run pins s1 σ H1 _ I1 (seqE R1 E1 h1)) fun u s2 ⟨y, H2, I2, r2, q2⟩ => ?_
  obtain ⟨m2, S2, e, R2, E2, g2, p2, h2⟩ := q2
  exact ho pins s2 σ H2 m2 S2 d e x y v u Q I2 R2 (p1.go g2) p2 r1 r2 h2
theorem ce_bin {op : Operator} {g : D → D → Store → Out D} (ho : Op2 X W (binaryOp op) g) (ha : CE X W a fa) (hb : CE X W b fb) : CE X W (.BinOp a op b pos) (fBin g fa fb) :=
  ⟨fun pins s σ H Q I h => wpAny_BinOp (run2 ho ha hb I h)⟩
theorem ce_cmp {op : CmpOp} {g : D → D → Store → Out D} (ho : Op2 X W (compareOp op) g) (ha : CE X W a fa) (hb : CE X W b fb) (hm : behindInMarks op b = false) : CE X W (.Compare a [op] [b] pos) (fBin g fa fb) :=
  ⟨fun pins s σ H Q I h => wpAny_Compare1 (run2 ho ha hb I h) hm⟩
theorem ct_cmp {op : CmpOp} {g : D → D → Store → Out D} (ho : Op2 X W (compareOp op) g) (ha : CE X W a fa) (hb : CE X W b fb) (hm : behindInMarks op b = false) : CT X W (.Compare a [op] [b] pos) (fBl (fBin g fa fb)) := by
  refine ⟨fun pins s σ H Q I h => ?_⟩
  obtain ⟨m, r, S, R, E, h⟩ := h
  refine wpAny_isTrue_Compare1 (thn (run2 ho ha hb I (seqE R E h)) fun v s1 h1 => thn h1 fun u s2 h2 => thn h2 fun z s3 ⟨x, H1, I1, r1, q1⟩ => ?_) hm
  obtain ⟨m1, S1, d, R1, E1, g1, p1, h1⟩ := q1
  cases d <;> try exact h1.elim
  cases p1
  cases r1
  exact wpAny_truthy_bool ⟨H1, I1, h1 m1 H1 _ .refl R1 rfl⟩
/-- a value's truth -/
theorem ct_tru {e : Expr} {f : FE} (ha : CE X W e f) (he : ∀ whole, isTrue e X.env whole = (do let v ← whole; standAt e.pos; holding [v] (truthy v)) := by intro _; rfl) : CT X W e (fTru f) := by
  refine PT.imp (pt_truth ha he) fun σ H Q ⟨m, r, S, R, E, h⟩ => ?_
  have h := seqE R E h
  obtain ⟨m', r', S', R', E', h⟩ := h
  refine ⟨m', r', S', R', E', ?_⟩
  cases e : f r' S' with
  | ok d S1 =>
    rw [e] at h
    intro m2 H2 v g R2 q
    obtain ⟨m1, S1', d', R1, E1, g1, p1, h1⟩ := h m2 H2 v g R2 q
    cases p1 with
    | none => exact ⟨false, rfl, h1 m1 H2 _ .refl R1 rfl⟩
    | bool b => exact ⟨b, rfl, h1 m1 H2 _ .refl R1 rfl⟩
    | int i => exact ⟨_, rfl, h1 m1 H2 _ .refl R1 rfl⟩
    | str x =>
      by_cases hz : x.length ≤ LINE
      · simp only [tru, if_pos hz] at h1
        refine ⟨_, ⟨by rw [line_eq]; exact hz, rfl⟩, ?_⟩
        have e2 : ((x.length : Int) != 0) = (x.length != 0) := by
          cases hx : x.length with
          | zero => rfl
          | succ n => simp; omega
        rw [e2]
        exact h1 m1 H2 _ .refl R1 rfl
      · simp only [tru, if_neg hz] at h1; exact h1.elim
    | tup hs hr => exact ⟨_, .inr (.inl ⟨_, hs, rfl⟩), by rw [← hr.empty]; exact h1 m1 H2 _ .refl R1 rfl⟩
    | ref hl =>
      obtain ⟨o, ho, hob⟩ := R1.place hl
      simp only [tru, ho] at h1
      cases o with
      | lst ds =>
        obtain ⟨vs, q1, q2⟩ := hob
        exact ⟨_, .inl ⟨_, SqL.of q1, rfl⟩, by rw [← q2.empty]; exact h1 m1 H2 _ .refl R1 rfl⟩
      | fro ds =>
        obtain ⟨ob, vs, q1, q2⟩ := hob
        exact ⟨_, .inl ⟨_, .inl (.inr ⟨_, q1⟩), rfl⟩, by rw [← q2.empty]; exact h1 m1 H2 _ .refl R1 rfl⟩
      | inst c fs => exact h1.elim
      | dic kvs => exact h1.elim
      | dis kvs => exact h1.elim
    | gl hx => exact h1.elim
  | exc x S1 => rw [e] at h; exact h
  | stuck => rw [e] at h; exact h

/-! ### and, or, not, if else -/
variable {ta tb : FT} {rest : List Expr}
theorem cw_and1 (ha : CT X W a ta) : CW X W (.BoolOp .And [a] pos) ta := pw_and1 ha
theorem cw_or1 (ha : CT X W a ta) : CW X W (.BoolOp .Or [a] pos) ta := pw_or1 ha
theorem cw_and (ha : CT X W a ta) (hb : CW X W (.BoolOp .And (b :: rest) pos) tb) : CW X W (.BoolOp .And (a :: b :: rest) pos) (fAnd ta tb) :=
  PW.imp (pw_and ha hb) fun σ H Q ⟨m, r, S, R, E, h⟩ => by
    obtain ⟨m', r', S', R', E', h⟩ := seqT R E h
    refine ⟨m', r', S', R', E', ?_⟩
    cases e : ta r' S' with
    | ok c S1 =>
      rw [e] at h
      intro m2 H2 v g R2 q
      obtain ⟨m1, S1', R1, E1, g1, h1⟩ := h m2 H2 v g R2 q
      cases v with
      | true => exact ⟨m1, r, S1', R1, E1, h1⟩
      | false => exact h1 m1 H2 _ .refl R1 rfl
    | exc x S1 => rw [e] at h; exact h
    | stuck => rw [e] at h; exact h
theorem cw_or (ha : CT X W a ta) (hb : CW X W (.BoolOp .Or (b :: rest) pos) tb) : CW X W (.BoolOp .Or (a :: b :: rest) pos) (fOr ta tb) :=
  PW.imp (pw_or ha hb) fun σ H Q ⟨m, r, S, R, E, h⟩ => by
    obtain ⟨m', r', S', R', E', h⟩ := seqT R E h
    refine ⟨m', r', S', R', E', ?_⟩
    cases e : ta r' S' with
    | ok c S1 =>
      rw [e] at h
      intro m2 H2 v g R2 q
      obtain ⟨m1, S1', R1, E1, g1, h1⟩ := h m2 H2 v g R2 q
      cases v with
      | true => exact h1 m1 H2 _ .refl R1 rfl
      | false => exact ⟨m1, r, S1', R1, E1, h1⟩
    | exc x S1 => rw [e] at h; exact h
    | stuck => rw [e] at h; exact h
theorem ct_not (ha : CT X W a ta) : CT X W (.UnaryOp .Not a pos) (fNot ta) :=
  PT.imp (pt_not ha) fun σ H Q ⟨m, r, S, R, E, h⟩ => by
    obtain ⟨m', r', S', R', E', h⟩ := seqT R E h
    refine ⟨m', r', S', R', E', ?_⟩
    cases e : ta r' S' with
    | ok c S1 =>
      rw [e] at h
      intro m2 H2 v g R2 q
      obtain ⟨m1, S1', R1, E1, g1, h1⟩ := h m2 H2 v g R2 q
      exact h1 m1 H2 _ .refl R1 rfl
    | exc x S1 => rw [e] at h; exact h
    | stuck => rw [e] at h; exact h
theorem ce_if (hc : CT X W c ta) (ha : CE X W a fa) (hb : CE X W b fb) : CE X W (.IfExp c a b pos) (fIfE ta fa fb) :=
  PE.imp (pe_ifExp hc ha hb) fun σ H Q ⟨m, r, S, R, E, h⟩ => by
    obtain ⟨m', r', S', R', E', h⟩ := seqT R E h
    refine ⟨m', r', S', R', E', ?_⟩
    cases e : ta r' S' with
    | ok c S1 =>
      rw [e] at h
      intro m2 H2 v g R2 q
      obtain ⟨m1, S1', R1, E1, g1, h1⟩ := h m2 H2 v g R2 q
      cases v with
      | true => exact ⟨m1, r, S1', R1, E1, h1⟩
      | false => exact ⟨m1, r, S1', R1, E1, h1⟩
    | exc x S1 => rw [e] at h; exact h
    | stuck => rw [e] at h; exact h
theorem ce_one {op : BoolOp} (ha : CE X W a fa) : CE X W (.BoolOp op [a] pos) fa := pe_one ha
theorem ce_and (ha : CE X W a fa) (hb : CE X W (.BoolOp .And (b :: rest) pos) fb) : CE X W (.BoolOp .And (a :: b :: rest) pos) (fAndV fa fb) :=
  PE.imp (pe_and ha hb) fun σ H Q ⟨m, r, S, R, E, h⟩ => by
    obtain ⟨m', r', S', R', E', h⟩ := seqE R E h
    refine ⟨m', r', S', R', E', ?_⟩
    cases e : fa r' S' with
    | ok c S1 =>
      rw [e] at h
      intro m2 H2 v g R2 q
      obtain ⟨m1, S1', d, R1, E1, g1, p1, h1⟩ := h m2 H2 v g R2 q
      cases p1 with
      | bool b =>
        refine ⟨b, rfl, ?_⟩
        cases b with
        | true => exact ⟨m1, r, S1', R1, E1, h1⟩
        | false => exact h1 m1 H2 _ .refl R1 (.bool false)
      | _ => exact h1.elim
    | exc x S1 => rw [e] at h; exact h
    | stuck => rw [e] at h; exact h
theorem ce_or (ha : CE X W a fa) (hb : CE X W (.BoolOp .Or (b :: rest) pos) fb) : CE X W (.BoolOp .Or (a :: b :: rest) pos) (fOrV fa fb) :=
  PE.imp (pe_or ha hb) fun σ H Q ⟨m, r, S, R, E, h⟩ => by
    obtain ⟨m', r', S', R', E', h⟩ := seqE R E h
    refine ⟨m', r', S', R', E', ?_⟩
    cases e : fa r' S' with
    | ok c S1 =>
      rw [e] at h
      intro m2 H2 v g R2 q
      obtain ⟨m1, S1', d, R1, E1, g1, p1, h1⟩ := h m2 H2 v g R2 q
      cases p1 with
      | bool b =>
        refine ⟨b, rfl, ?_⟩
        cases b with
        | true => exact h1 m1 H2 _ .refl R1 (.bool true)
        | false => exact ⟨m1, r, S1', R1, E1, h1⟩
      | _ => exact h1.elim
    | exc x S1 => rw [e] at h; exact h
    | stuck => rw [e] at h; exact h
theorem ce_not (ha : CE X W a fa) : CE X W (.UnaryOp .Not a pos) (fNotV fa) :=
  PE.imp (pe_not ha) fun σ H Q ⟨m, r, S, R, E, h⟩ => by
    obtain ⟨m', r', S', R', E', h⟩ := seqE R E h
    refine ⟨m', r', S', R', E', ?_⟩
    cases e : fa r' S' with
    | ok c S1 =>
      rw [e] at h
      intro m2 H2 v g R2 q
      obtain ⟨m1, S1', d, R1, E1, g1, p1, h1⟩ := h m2 H2 v g R2 q
      cases p1 with
      | bool b => exact ⟨b, rfl, h1 m1 H2 _ .refl R1 (.bool _)⟩
      | _ => exact h1.elim
    | exc x S1 => rw [e] at h; exact h
    | stuck => rw [e] at h; exact h

/-! ### argument lists, displays -/
variable {es : List Expr} {fas : FA}
theorem ca_nil : CA X W [] fNil := PA.imp pa_nil fun σ H Q ⟨m, r, S, R, E, h⟩ => h m H [] .refl R .nil
theorem ca_cons (ha : CE X W a fa) (hr : CA X W es fas) (hs : starEach (a :: es) X.env = (false, eval a X.env) :: starEach es X.env := by rfl) : CA X W (a :: es) (fCons fa fas) :=
  PA.imp (pa_cons ha hr hs) fun σ H Q ⟨m, r, S, R, E, h⟩ => by
    obtain ⟨m', r', S', R', E', h⟩ := seqE R E h
    refine ⟨m', r', S', R', E', ?_⟩
    cases e : fa r' S' with
    | ok c S1 =>
      rw [e] at h
      intro m2 H2 v g R2 q
      obtain ⟨m1, S1', d, R1, E1, g1, p1, h1⟩ := h m2 H2 v g R2 q
      obtain ⟨m3, r3, S3, R3, E3, h3⟩ := seqA R1 E1 h1
      refine ⟨m3, r3, S3, R3, E3, ?_⟩
      cases e3 : fas r3 S3 with
      | ok cs S4 =>
        rw [e3] at h3
        intro m4 H4 vs g4 R4 q4
        obtain ⟨m5, S5, ds, R5, E5, g5, p5, h5⟩ := h3 m4 H4 vs g4 R4 q4
        exact h5 m5 H4 _ .refl R5 (.cons (p1.go g5) p5)
      | exc x S1 => rw [e3] at h3; exact h3
      | stuck => rw [e3] at h3; exact h3
    | exc x S1 => rw [e] at h; exact h
    | stuck => rw [e] at h; exact h
/-- an argument list, then more -/
theorem thenA {t : TE} {rest : List V → Hp → VK → Prop} {k : List D → Store → Out D} (hk : ∀ σ H Q m S ds vs, Rel X.K X.MG m S H → Reps X.K X.MG m H ds vs → PoE X.K X.MG W σ m H Q (k ds S) → rest vs H Q)
    {σ : L2.St} {H : Hp} {Q : VK} (h : rdE X.K X.MG W (fun r S => (fas r S).bind k) σ H Q) : rdA X.K X.MG W fas σ H fun vs H1 => rest vs H1 Q := by
  obtain ⟨m, r, S, R, E, h⟩ := h
  obtain ⟨m', r', S', R', E', h⟩ := seqA R E h
  refine ⟨m', r', S', R', E', ?_⟩
  cases e : fas r' S' with
  | ok c S1 =>
    rw [e] at h
    intro m2 H2 v g R2 q
    obtain ⟨m1, S1', ds, R1, E1, g1, p1, h1⟩ := h m2 H2 v g R2 q
    exact hk σ H2 Q m1 S1' ds v R1 p1 h1
  | exc x S1 => rw [e] at h; exact h
  | stuck => rw [e] at h; exact h
theorem ce_tup {x1 : Nat} (h : CA X W es fas) : CE X W (.Tuple es x1 pos) (fTup fas) :=
  PE.imp (pe_tup h) fun σ H Q q => thenA (rest := fun xs H1 Q => xs.length ≤ sizeLine ∧ ∀ p, H1 p = none → Q (.ref p) (upd H1 p (.tup xs))) (t := fun _ _ _ => True) (fun σ H Q m S ds vs R rp po => by
    by_cases hz : ds.length ≤ LINE
    · rw [if_pos hz] at po
      refine ⟨by rw [line_eq, ← rp.length]; exact hz, fun p hp => po m _ _ (goes_new hp) (R.beside hp) (.tup (SqT.of upd_same) (rp.go (goes_new hp)))⟩
    · rw [if_neg hz] at po; exact po.elim) q
theorem ce_lst (h : CA X W es fas) : CE X W (.List es pos) (fLst fas) :=
  PE.imp (pe_lst h) fun σ H Q q => thenA (rest := fun xs H1 Q => xs.length ≤ sizeLine ∧ ∀ p, H1 p = none → Q (.ref p) (upd H1 p (.lst xs))) (t := fun _ _ _ => True) (fun σ H Q m S ds vs R rp po => by
    by_cases hz : ds.length ≤ LINE
    · rw [if_pos hz] at po
      refine ⟨by rw [line_eq, ← rp.length]; exact hz, fun p hp => po (m ++ [p]) _ _ (goes_more hp) (R.more hp ⟨vs, upd_same, rp.go (goes_more hp)⟩) (.ref (new_place R))⟩
    · rw [if_neg hz] at po; exact po.elim) q
end

/-! ### statements -/
section
variable {X : Cx} {W : WX} {pos : Pos} {st : Stmt} {sts : List Stmt} {f g : FS}
theorem css_nil : CSs X W [] fPass := PSs.imp pss_nil fun D σ H ⟨m, r, S, R, E, h⟩ => h m H σ .refl R E
theorem seqStS {K : PySem.W.Frag} {mg : MG} {f g : FS} {D : Ends} {σ : L2.St} {H : Hp} (h : rdS K mg W (fSeq f g) D σ H) : rdS K mg W f { D with nx := rdS K mg W g D } σ H := by
  obtain ⟨m, r, S, R, E, h⟩ := h
  refine ⟨m, r, S, R, E, ?_⟩
  unfold fSeq at h
  cases e : f r S with
  | next r1 S1 => rw [e] at h; exact fun m' H' σ' g' R' E' => ⟨m', r1, S1, R', E', PoS.go g' h⟩
  | ret d S1 => rw [e] at h; exact h
  | brk r1 S1 => rw [e] at h; exact h
  | cont r1 S1 => rw [e] at h; exact h
  | exc x r1 S1 => rw [e] at h; exact h
  | stuck => rw [e] at h; exact h
theorem css_cons (h1 : CS X W st f) (h2 : CSs X W sts g) : CSs X W (st :: sts) (fSeq f g) := PSs.imp (pss_cons h1 h2) fun D σ H h => seqStS h
theorem css_one (h1 : CS X W st f) : CSs X W [st] f := pss_one h1
theorem cs_pass : CS X W (.Pass pos) fPass := PS.imp ps_pass fun D σ H ⟨m, r, S, R, E, h⟩ => h m H σ .refl R E
theorem cs_break : CS X W (.Break pos) fBreak := PS.imp ps_break fun D σ H ⟨m, r, S, R, E, h⟩ => h m H σ .refl R E
theorem cs_continue : CS X W (.Continue pos) fCont := PS.imp ps_continue fun D σ H ⟨m, r, S, R, E, h⟩ => h m H σ .refl R E
theorem cs_never : CS X W st fNever := PS.imp ps_never fun D σ H ⟨m, r, S, R, E, h⟩ => h
variable {e : Expr} {fe : FE} {ft : FT} {tg : Expr} {gg : FG}
/-- behind an expression -/
theorem thenS {k : D → Store → SOut} {rest : V → Hp → Ends → L2.St → Prop} (hk : ∀ σ H D m r S d v, Rel X.K X.MG m S H → EnvR X.K X.MG m H r σ → Rep X.K X.MG m H d v → PoS X.K X.MG W m H D (k d S) → rest v H D σ) : True := trivial
theorem cs_expr (he : CE X W e fe) (hs : swapsWith e none pos.line X.env = pure false := by rfl) : CS X W (.Expr e pos) (fExpr fe) :=
  PS.imp (ps_expr he hs) fun D σ H ⟨m, r, S, R, E, h⟩ => by
    obtain ⟨m', r', S', R', E', h⟩ := seqS (k := fun _ S1 => .next r S1) R E h
    refine ⟨m', r', S', R', E', ?_⟩
    cases e : fe r' S' with
    | ok c S1 =>
      rw [e] at h
      intro m2 H2 v g R2 q
      obtain ⟨m1, S1', d, R1, E1, g1, p1, h1⟩ := h m2 H2 v g R2 q
      exact h1 m1 H2 σ .refl R1 E1
    | exc x S1 => rw [e] at h; exact h
    | stuck => rw [e] at h; exact h
theorem cs_ret (he : CE X W e fe) : CS X W (.Return (some e) pos) (fRet fe) :=
  PS.imp (ps_ret he) fun D σ H ⟨m, r, S, R, E, h⟩ => by
    obtain ⟨m', r', S', R', E', h⟩ := seqS (k := fun d S1 => .ret d S1) R E h
    refine ⟨m', r', S', R', E', ?_⟩
    cases e : fe r' S' with
    | ok c S1 =>
      rw [e] at h
      intro m2 H2 v g R2 q
      obtain ⟨m1, S1', d, R1, E1, g1, p1, h1⟩ := h m2 H2 v g R2 q
      exact h1 m1 H2 v .refl R1 p1
    | exc x S1 => rw [e] at h; exact h
    | stuck => rw [e] at h; exact h
theorem cs_retN : CS X W (.Return none pos) fRetN := PS.imp ps_retN fun D σ H ⟨m, r, S, R, E, h⟩ => h m H .non .refl R .none
theorem cs_if {c : Expr} {as bs : List Stmt} (hc : CT X W c ft) (ha : CSs X W as f) (hb : CSs X W bs g) : CS X W (.If c as bs pos) (fIf ft f g) :=
  PS.imp (ps_if hc ha hb) fun D σ H ⟨m, r, S, R, E, h⟩ => by
    obtain ⟨m', r', S', R', E', h⟩ := seqTS (k := fun c S1 => if c = true then f r S1 else g r S1) R E h
    refine ⟨m', r', S', R', E', ?_⟩
    cases e : ft r' S' with
    | ok c S1 =>
      rw [e] at h
      intro m2 H2 v g R2 q
      obtain ⟨m1, S1', R1, E1, g1, h1⟩ := h m2 H2 v g R2 q
      cases v with
      | true => exact ⟨m1, r, S1', R1, E1, h1⟩
      | false => exact ⟨m1, r, S1', R1, E1, h1⟩
    | exc x S1 => rw [e] at h; exact h
    | stuck => rw [e] at h; exact h
/-- it goes on, raises, or is stuck -/
def SOut.on : SOut → Prop
  | .ret _ _ => False
  | .brk _ _ => False
  | .cont _ _ => False
  | _ => True
/-- a target's result, in a statement: it goes on alone, or raises -/
theorem PoS.nx {K : PySem.W.Frag} {mg : MG} {m : List Addr} {H : Hp} {D : Ends} {o : SOut} (ho : SOut.on o) (h : PoS K mg W m H D o) : PoS K mg W m H ⟨D.nx, fun _ _ => False, fun _ _ => False, fun _ _ => False⟩ o := by
  cases o with
  | next r S => exact h
  | ret d S => exact ho.elim
  | brk r S => exact ho.elim
  | cont r S => exact ho.elim
  | exc x r S => exact h
  | stuck => exact h
/-- a target that only goes on or raises -/
def Plain (g : FG) : Prop := ∀ d r S, SOut.on (g d r S)
def Plains (g : FGs) : Prop := ∀ d r S, SOut.on (g d r S)
theorem cs_asg (he : CE X W e fe) (hg : CG X W tg gg) (hp : Plain gg) (hs : swapsWithSole [tg] e pos.line X.env = pure false := by rfl) (hw : swappedStores [tg] e X.env = pure none := by rfl)
    (h1 : (assignEach [tg] X.env).map (·.2) = [assign tg X.env] := by rfl) : CS X W (.Assign [tg] e pos) (fAsg fe gg) :=
  PS.imp (ps_asg he hg hs hw h1) fun D σ H ⟨m, r, S, R, E, h⟩ => by
    obtain ⟨m', r', S', R', E', h⟩ := seqS (k := fun d S1 => gg d r S1) R E h
    refine ⟨m', r', S', R', E', ?_⟩
    cases e : fe r' S' with
    | ok c S1 =>
      rw [e] at h
      intro m2 H2 v g R2 q
      obtain ⟨m1, S1', d, R1, E1, g1, p1, h1⟩ := h m2 H2 v g R2 q
      exact ⟨m1, r, S1', d, R1, E1, p1, PoS.nx (hp d r S1') h1⟩
    | exc x S1 => rw [e] at h; exact h
    | stuck => rw [e] at h; exact h
theorem cs_set {i : Nat} {x : Str} {pos' : Pos} (hN : X.N.Nodup) (hi : X.N[i]? = some x) (hx : Loc X.env.scope x) (he : CE X W e fe) (hs : swapsWith e (some (.Name x pos')) pos.line X.env = pure false := by rfl)
    (hf : X.fn x = true ∨ X.env.scope.names.lookup x = some .local := by first | exact .inl rfl | exact .inr rfl | assumption) : CS X W (.Assign [.Name x pos'] e pos) (fAsg fe (gNm i)) :=
  PS.imp (ps_set hN hi hx he hs hf) fun D σ H ⟨m, r, S, R, E, h⟩ => by
    obtain ⟨m', r', S', R', E', h⟩ := seqS (k := fun d S1 => gNm i d r S1) R E h
    refine ⟨m', r', S', R', E', ?_⟩
    cases e : fe r' S' with
    | ok c S1 =>
      rw [e] at h
      intro m2 H2 v g R2 q
      obtain ⟨m1, S1', d, R1, E1, g1, p1, h1⟩ := h m2 H2 v g R2 q
      exact h1 m1 H2 _ .refl R1 (E1.set p1 i)
    | exc x S1 => rw [e] at h; exact h
    | stuck => rw [e] at h; exact h
/-! ### targets -/
theorem cg_name {i : Nat} {x : Str} (hN : X.N.Nodup) (hi : X.N[i]? = some x) (hx : Loc X.env.scope x) (hf : X.fn x = true ∨ X.env.scope.names.lookup x = some .local := by first | exact .inl rfl | exact .inr rfl | assumption) : CG X W (.Name x pos) (gNm i) :=
  PG.imp (pg_name hN hi hx hf) fun v σ H Q ⟨m, r, S, d, R, E, p, h⟩ => h m H _ .refl R (E.set p i)
theorem plain_name {i : Nat} : Plain (gNm i) := fun d r S => trivial
theorem cgs_nil : CGs X W [] gsNil := PGs.imp pgs_nil fun v σ H Q ⟨m, r, S, ds, R, E, p, h⟩ => by
  cases p with
  | nil => exact ⟨rfl, h m H σ .refl R E⟩
  | cons _ _ => exact h.elim
theorem plains_nil : Plains gsNil := fun d r S => by
  cases d <;> trivial
theorem cgs_cons {e : Expr} {es : List Expr} {g : FG} {h : FGs} (h1 : CG X W e g) (h2 : CGs X W es h) (hp : Plain g)
    (hs : (assignEach (e :: es) X.env).map (·.2) = assign e X.env :: (assignEach es X.env).map (·.2) := by rfl) : CGs X W (e :: es) (gsCons g h) :=
  PGs.imp (pgs_cons h1 h2 hs) fun v σ H Q ⟨m, r, S, ds, R, E, p, k⟩ => by
    cases p with
    | nil => exact k.elim
    | @cons d ds v vs r1 r2 =>
      refine ⟨v, vs, rfl, m, r, S, d, R, E, r1, ?_⟩
      have k2 : PoS X.K X.MG W m H ⟨Q, fun _ _ => False, fun _ _ => False, fun _ _ => False⟩ (match g d r S with | .next r1 S1 => h ds r1 S1 | o => o) := k
      cases e : g d r S with
      | next r1 S1 =>
        rw [e] at k2
        exact fun m' H' σ' g' R' E' => ⟨m', r1, S1, ds, R', E', r2.go g', PoS.go g' k2⟩
      | ret z T => exact (show False by have q := hp d r S; rw [e] at q; exact q).elim
      | brk z T => exact (show False by have q := hp d r S; rw [e] at q; exact q).elim
      | cont z T => exact (show False by have q := hp d r S; rw [e] at q; exact q).elim
      | exc x r1 S1 => rw [e] at k2; exact k2
      | stuck => rw [e] at k2; exact k2
theorem plains_cons {g : FG} {h : FGs} (hg : Plain g) (hh : Plains h) : Plains (gsCons g h) := fun ds r S => by
  cases ds with
  | nil => trivial
  | cons d ds =>
    show SOut.on (match g d r S with | .next r1 S1 => h ds r1 S1 | o => o)
    have q := hg d r S
    cases e : g d r S with
    | next r1 S1 => exact hh ds r1 S1
    | ret z T => rw [e] at q; exact q.elim
    | brk z T => rw [e] at q; exact q.elim
    | cont z T => rw [e] at q; exact q.elim
    | exc x r1 S1 => trivial
    | stuck => trivial
theorem cg_tup {es : List Expr} {k : Nat} {h : FGs} {n : Nat} (hc : X.calm = true) (hh : CGs X W es h) (hn : (assignEach es X.env).length = n := by rfl) (hst : (assignEach es X.env).findIdx? (·.1) = none := by rfl) : CG X W (.Tuple es k pos) (gTupl n h) :=
  PG.imp (pg_tup hc hh hn hst) fun v σ H Q ⟨m, r, S, d, R, E, p, k⟩ => by
    cases p with
    | @tup a ds vs hs hr =>
      have k2 : PoS X.K X.MG W m H ⟨Q, fun _ _ => False, fun _ _ => False, fun _ _ => False⟩ (if ds.length = n then h ds r S else .stuck) := k
      by_cases z : ds.length = n
      · rw [if_pos z] at k2
        exact ⟨a, vs, rfl, hs, by rw [← hr.length]; exact z, m, r, S, ds, R, E, hr, k2⟩
      · rw [if_neg z] at k2; exact k2.elim
    | _ => exact k.elim
theorem plain_tup {h : FGs} {n : Nat} (hh : Plains h) : Plain (gTupl n h) := fun d r S => by
  cases d with
  | tup ds =>
    show SOut.on (if ds.length = n then h ds r S else .stuck)
    split
    · exact hh ds r S
    · trivial
  | _ => trivial
end
end CL

set_option Elab.async false
set_option linter.all false
set_option maxRecDepth 100000
set_option maxHeartbeats 4000000
namespace CL
open PySem PySem.Spec PyProof.Rows L2

/-! ### while -/
section
variable {X : Cx} {W : WX} {pos : Pos}
theorem cs_while {c : Expr} {body : List Stmt} {ft : FT} {f : FS} {n : Nat} (hp : PassesOwn (model X.prog X.w) X.A X.env X.xe) (hc : CT X W c ft) (hb : CSs X W body f) : CS X W (.While c body [] pos) (fWhile n ft f) :=
  PS.imp (ps_while hp hc hb) fun D σ H h => by
    refine ⟨fun k σ' H' => ∃ m r S, Rel X.K X.MG m S H' ∧ EnvR X.K X.MG m H' r σ' ∧ PoS X.K X.MG W m H' D (fWhile k ft f r S), ⟨n, h⟩, ?_⟩
    rintro k σ1 H1 ⟨m, r, S, R, E, h⟩
    cases k with
    | zero => exact h.elim
    | succ k =>
      refine ⟨m, r, S, R, E, ?_⟩
      unfold fWhile at h
      cases e : ft r S with
      | ok b S1 =>
        rw [e] at h
        intro m2 H2 v g R2 q
        subst q
        cases b with
        | false => exact h m2 H2 σ1 g R2 (E.go g)
        | true =>
          refine ⟨fun σ' H' => ∃ m r S, Rel X.K X.MG m S H' ∧ EnvR X.K X.MG m H' r σ' ∧ PoS X.K X.MG W m H' D (fWhile k ft f r S), fun σ' H' z => ⟨k, Nat.lt_succ_self k, z⟩, m2, r, S1, R2, E.go g, ?_⟩
          have h := PoS.go g h
          dsimp only at h
          cases e2 : f r S1 with
          | next r2 S2 => rw [e2] at h; exact fun m' H' σ' g' R' E' => ⟨m', r2, S2, R', E', PoS.go g' h⟩
          | cont r2 S2 => rw [e2] at h; exact fun m' H' σ' g' R' E' => ⟨m', r2, S2, R', E', PoS.go g' h⟩
          | brk r2 S2 => rw [e2] at h; exact h
          | ret d S2 => rw [e2] at h; exact h
          | exc x r2 S2 => rw [e2] at h; exact h
          | stuck => rw [e2] at h; exact h
      | exc x S1 => rw [e] at h; exact fun m' H' cls dd g R' q => h m' H' σ1 cls dd g R' (E.go g) q
      | stuck => rw [e] at h; exact h

/-! ### what is walked -/
def SrcR (K : PySem.W.Frag) (mg : MG) (m : List Addr) (H : Hp) (s : Src) (J : It) : Prop :=
  ∀ (i : Nat) (m2 : List Addr) (S2 : Store) (H2 : Hp), Goes K m H m2 H2 → Rel K mg m2 S2 H2 → s.still S2 = true →
    (i = s.its.length → J.stop i H2) ∧ ∀ d, s.its[i]? = some d → J.go i H2 ∧ ∀ x H3, J.yld i H2 x H3 → Goes K m2 H2 m2 H3 ∧ Rel K mg m2 S2 H3 ∧ Rep K mg m2 H3 d x
def rdI (K : PySem.W.Frag) (mg : MG) (W : WX) (f : FI) : TI := fun σ H R => ∃ m r S, Rel K mg m S H ∧ EnvR K mg m H r σ ∧ Po K mg (SrcR K mg) W σ m H R (f r S)
abbrev CI (X : Cx) (W : WX) (tg iter : Expr) (f : FI) : Prop := PI X tg iter (rdI X.K X.MG W f)
theorem SrcR.go {K : PySem.W.Frag} {mg : MG} {m m1 : List Addr} {H H1 : Hp} {s : Src} {J : It} (g : Goes K m H m1 H1) (h : SrcR K mg m H s J) : SrcR K mg m1 H1 s J := fun i m2 S2 H2 g2 R2 => h i m2 S2 H2 (g.trans g2) R2
theorem still_at {s : Src} {l : Nat} {es : List D} {S : Store} (hs : s.at_ = some (l, es)) (h : s.still S = true) : (S[l]? = some (.lst es)) ∨ S[l]? = some (.fro es) := by
  unfold Src.still at h
  rw [hs] at h
  dsimp only at h
  split at h
  · rename_i ds e; rw [← D.beqs_eq h]; exact .inl e
  · rename_i ds e; rw [← D.beqs_eq h]; exact .inr e
  · cases h
theorem src_list {K : PySem.W.Frag} {mg : MG} {m : List Addr} {H : Hp} {s : Src} {l : Nat} {a : Addr} (hs : s.at_ = some (l, s.its)) (ha : m[l]? = some a) : SrcR K mg m H s (Itl K a) := by
  intro i m2 S2 H2 g R st
  have key : ∃ vs, SqL K H2 a vs ∧ Reps K mg m2 H2 s.its vs := by
    rcases still_at hs st with e | e
    · obtain ⟨vs, h1, h2⟩ := R.ob l _ a e (g.ad l a ha)
      exact ⟨vs, SqL.of h1, h2⟩
    · obtain ⟨o, vs, h1, h2⟩ := R.ob l _ a e (g.ad l a ha)
      exact ⟨vs, .inl (.inr ⟨o, h1⟩), h2⟩
  obtain ⟨vs, h1, h2⟩ := key
  refine ⟨fun e => ⟨vs, h1, by rw [← h2.length]; omega⟩, fun d hd => ?_⟩
  obtain ⟨v, hv, q⟩ := h2.get hd
  refine ⟨⟨vs, v, h1, hv⟩, fun x H3 hy => ?_⟩
  obtain ⟨e, hy⟩ := hy
  subst e
  have e2 := (hy vs h1).symm.trans hv
  cases e2
  exact ⟨.refl, R, q⟩
theorem src_tup {K : PySem.W.Frag} {mg : MG} {m : List Addr} {H : Hp} {ds : List D} {vs : List V} {a : Addr} (hs : SqT K H a vs) (hr : Reps K mg m H ds vs) : SrcR K mg m H ⟨ds, none⟩ (Itt K a) := by
  intro i m2 S2 H2 g R st
  have h1 := g.tu a vs hs
  have h2 := hr.go g
  refine ⟨fun e => ⟨vs, h1, by rw [← h2.length]; exact Nat.le_of_eq e.symm⟩, fun d hd => ?_⟩
  obtain ⟨v, hv, q⟩ := h2.get hd
  refine ⟨⟨vs, v, h1, hv⟩, fun x H3 hy => ?_⟩
  obtain ⟨e, hy⟩ := hy
  subst e
  have e2 := (hy vs h1).symm.trans hv
  cases e2
  exact ⟨.refl, R, q⟩
theorem src_str {K : PySem.W.Frag} {mg : MG} {m : List Addr} {H : Hp} {z : Str} : SrcR K mg m H ⟨z.cps.toList.map fun c => .str ⟨#[c]⟩, none⟩ (Its z) := by
  intro i m2 S2 H2 g R st
  refine ⟨fun e => ?_, fun d hd => ?_⟩
  · show z.cps.size ≤ i
    simp at e; omega
  · have hd : (z.cps.toList.map fun c => D.str ⟨#[c]⟩)[i]? = some d := hd
    rw [List.getElem?_map] at hd
    have hi : i < z.cps.size := by
      by_cases hlt : i < z.cps.size
      · exact hlt
      · rw [List.getElem?_eq_none (by simpa using hlt)] at hd; cases hd
    refine ⟨hi, fun x H3 hy => ?_⟩
    obtain ⟨e, c, hc, hx⟩ := hy
    subst e hx
    rw [Array.getElem?_toList, hc] at hd
    cases hd
    exact ⟨.refl, R, .str _⟩
theorem src_rng {K : PySem.W.Frag} {mg : MG} {m : List Addr} {H : Hp} {lo : Int} {n : Nat} : SrcR K mg m H ⟨rngL lo n, none⟩ (Itr lo n) := by
  intro i m2 S2 H2 g R st
  have hl : (rngL lo n).length = n := by simp [rngL]
  refine ⟨fun e => ?_, fun d hd => ?_⟩
  · show n ≤ i
    have e : i = (rngL lo n).length := e
    omega
  · have hd : (rngL lo n)[i]? = some d := hd
    have hi : i < n := by rw [← hl]; exact (List.getElem?_eq_some_iff.mp hd).1
    refine ⟨hi, fun x H3 hy => ?_⟩
    obtain ⟨e, hx⟩ := hy
    subst e hx
    have e2 : (rngL lo n)[i]? = some (.int (lo + i)) := by simp [rngL, hi]
    rw [e2] at hd
    cases hd
    exact ⟨.refl, R, .int _⟩
/-- a list, a tuple, a text -/
theorem ci_seq {tg l : Expr} {f : FE} (hl : CE X W l f) : CI X W tg l (iSeq f) := by
  refine ⟨fun pins s σ H Rr I h => ?_⟩
  obtain ⟨m, r, S, R, E, h⟩ := h
  unfold iSeq at h
  cases e : f r S with
  | stuck => rw [e] at h; exact h.elim
  | exc x S1 =>
    rw [e] at h
    exact (pi_list (tg := tg) hl).run pins s σ H Rr I ⟨m, r, S, R, E, by rw [e]; exact h⟩
  | ok d S1 =>
    rw [e] at h
    have h : Po X.K X.MG (SrcR X.K X.MG) W σ m H Rr (match seqSrc S1 d with | some s => .ok s S1 | none => .stuck) := h
    cases d with
    | tup ds =>
      refine (pi_tup (tg := tg) hl).run pins s σ H Rr I ⟨m, r, S, R, E, ?_⟩
      rw [e]
      intro m' H' v g R' q
      cases q with
      | tup hs hr => exact ⟨_, rfl, ⟨_, hs⟩, h m' H' _ g R' (src_tup hs hr)⟩
    | str z =>
      refine (pi_str (tg := tg) hl).run pins s σ H Rr I ⟨m, r, S, R, E, ?_⟩
      rw [e]
      intro m' H' v g R' q
      cases q
      exact ⟨z, rfl, h m' H' _ g R' src_str⟩
    | ref l0 =>
      refine (pi_list (tg := tg) hl).run pins s σ H Rr I ⟨m, r, S, R, E, ?_⟩
      rw [e]
      intro m' H' v g R' q
      cases q with
      | @ref _ a ha =>
        obtain ⟨o, ho, hob⟩ := R'.place ha
        simp only [seqSrc, ho] at h
        cases o with
        | lst ds =>
          obtain ⟨vs, q1, q2⟩ := hob
          exact ⟨a, rfl, ⟨vs, SqL.of q1⟩, h m' H' _ g R' (src_list rfl ha)⟩
        | fro ds =>
          obtain ⟨ob, vs, q1, q2⟩ := hob
          exact ⟨a, rfl, ⟨vs, .inl (.inr ⟨ob, q1⟩)⟩, h m' H' _ g R' (src_list rfl ha)⟩
        | inst c fs => exact h.elim
        | dic k => exact h.elim
        | dis k => exact h.elim
    | none => exact h.elim
    | bool b => exact h.elim
    | int i => exact h.elim
    | gl x => exact h.elim
    | exn c fs => exact h.elim
theorem ci_range1 {tg a : Expr} {f : FE} {p : Pos} (hg : Gl X "range") (hm : X.mg "range" = none) (ha : CE X W a f) (hs : starEach [a] X.env = [(false, eval a X.env)] := by rfl) : CI X W tg (.Call (.Name "range" p) [a] [] pos) (iRange1 f) := by
  have hA : CA X W [a] (fCons f fNil) := ca_cons ha ca_nil (by rw [hs]; rfl)
  refine ⟨fun pins s σ H Rr I h => ?_⟩
  obtain ⟨m, r, S, R, E, h⟩ := h
  unfold iRange1 at h
  refine (pi_range1 (tg := tg) hg hm hA hs).run pins s σ H Rr I ⟨m, r, S, R, E, ?_⟩
  unfold fCons fNil
  cases e : f r S with
  | stuck => rw [e] at h; exact h.elim
  | exc x S1 => rw [e] at h; exact h
  | ok d S1 =>
    rw [e] at h
    intro m' H' vs g R' q
    cases q with
    | cons q1 q2 =>
      cases q2
      cases q1 with
      | int j =>
        have h : Po X.K X.MG (SrcR X.K X.MG) W σ m H Rr (if small62 j then .ok ⟨rngL 0 j.toNat, none⟩ S1 else .stuck) := h
        by_cases z : small62 j = true
        · rw [if_pos z] at h
          have z2 := of_decide_eq_true z
          exact ⟨j, rfl, z2.1, z2.2, h m' H' _ g R' src_rng⟩
        · rw [if_neg z] at h; exact h.elim
      | none => exact h.elim
      | bool b => exact h.elim
      | str x => exact h.elim
      | tup _ _ => exact h.elim
      | ref _ => exact h.elim
      | gl _ => exact h.elim
theorem ci_range2 {tg a b : Expr} {f g : FE} {p : Pos} (hg : Gl X "range") (hm : X.mg "range" = none) (ha : CE X W a f) (hb : CE X W b g) (hs : starEach [a, b] X.env = [(false, eval a X.env), (false, eval b X.env)] := by rfl) (hs2 : starEach [b] X.env = [(false, eval b X.env)] := by rfl) :
    CI X W tg (.Call (.Name "range" p) [a, b] [] pos) (iRange2 f g) := by
  have hA : CA X W [a, b] (fCons f (fCons g fNil)) := ca_cons ha (ca_cons hb ca_nil (by rw [hs2]; rfl)) (by rw [hs, hs2])
  refine ⟨fun pins s σ H Rr I h => ?_⟩
  obtain ⟨m, r, S, R, E, h⟩ := h
  unfold iRange2 at h
  refine (pi_range2 (tg := tg) hg hm hA hs hs2).run pins s σ H Rr I ⟨m, r, S, R, E, ?_⟩
  unfold fCons fNil
  cases e : f r S with
  | stuck => rw [e] at h; exact h.elim
  | exc x S1 => rw [e] at h; exact h
  | ok d S1 =>
    rw [e] at h
    have h : Po X.K X.MG (SrcR X.K X.MG) W σ m H Rr ((g r S1).bind fun y S2 => rng2 d y S2) := h
    show Po X.K X.MG (Reps X.K X.MG) W σ m H _ (((g r S1).bind fun x S1 => Out.ok [x] S1).bind fun xs S2 => Out.ok (d :: xs) S2)
    cases e2 : g r S1 with
    | stuck => rw [e2] at h; exact h.elim
    | exc x S2 => rw [e2] at h; exact h
    | ok d2 S2 =>
      rw [e2] at h
      intro m' H' vs g R' q
      cases q with
      | cons q1 q2 =>
        cases q2 with
        | cons q2 q3 =>
          cases q3
          have h : Po X.K X.MG (SrcR X.K X.MG) W σ m H Rr (rng2 d d2 S2) := h
          obtain ⟨i, rfl⟩ : ∃ i, d = .int i := by
            cases d with
            | int i => exact ⟨i, rfl⟩
            | _ => exact h.elim
          obtain ⟨j, rfl⟩ : ∃ j, d2 = .int j := by
            cases d2 with
            | int i => exact ⟨i, rfl⟩
            | _ => exact h.elim
          cases q1
          cases q2
          have h : Po X.K X.MG (SrcR X.K X.MG) W σ m H Rr (if (small62 i && small62 j) = true then .ok ⟨rngL i (j - i).toNat, none⟩ S2 else .stuck) := h
          by_cases z : (small62 i && small62 j) = true
          · rw [if_pos z] at h
            obtain ⟨z1, z2⟩ := and2 z
            have z1 := of_decide_eq_true z1
            have z2 := of_decide_eq_true z2
            exact ⟨i, j, rfl, ⟨z1.1, z1.2, z2.1, z2.2⟩, h m' H' _ g R' src_rng⟩
          · rw [if_neg z] at h; exact h.elim
/-! ### for -/
theorem cs_for {tg iter : Expr} {body : List Stmt} {fi : FI} {gg : FG} {f : FS} (hp : PassesOwn (model X.prog X.w) X.A X.env X.xe) (hc : X.calm = true) (hi : CI X W tg iter fi) (hg : CG X W tg gg) (hpl : Plain gg) (hb : CSs X W body f)
    (hs : ∀ x, foldedSetIterable iter X.env x = pure x := by intro _; rfl) : CS X W (.For tg iter body [] pos) (fFor fi gg f) :=
  PS.imp (ps_for hp hc hi hg hb hs) fun D σ H ⟨m, r, S, R, E, h⟩ => by
    refine ⟨m, r, S, R, E, ?_⟩
    unfold fFor at h
    cases e : fi r S with
    | stuck => rw [e] at h; exact h
    | exc x S1 => rw [e] at h; exact fun m' H' cls dd g R' q => h m' H' σ cls dd g R' (E.go g) q
    | ok s S1 =>
      rw [e] at h
      intro m1 H1 J g1 R1 sr
      have h : PoS X.K X.MG W m H D (forGo s gg f s.its r S1) := h
      refine ⟨fun i k σ' H' => ∃ m2 r2 S2, Goes X.K m1 H1 m2 H' ∧ Rel X.K X.MG m2 S2 H' ∧ EnvR X.K X.MG m2 H' r2 σ' ∧ k = s.its.length - i ∧ i ≤ s.its.length ∧ PoS X.K X.MG W m2 H' D (forGo s gg f (s.its.drop i) r2 S2),
        ⟨s.its.length, m1, r, S1, .refl, R1, E.go g1, by simp, Nat.zero_le _, by simpa using PoS.go g1 h⟩, ?_⟩
      rintro i k σ2 H2 ⟨m2, r2, S2, g2, R2, E2, rfl, hi, h2⟩
      by_cases hlt : i < s.its.length
      · right
        have ed : s.its.drop i = s.its[i] :: s.its.drop (i + 1) := (List.drop_eq_getElem_cons hlt)
        rw [ed] at h2
        unfold forGo at h2
        by_cases st : s.still S2 = true
        · rw [if_pos st] at h2
          obtain ⟨_, q⟩ := sr i m2 S2 H2 g2 R2 st
          obtain ⟨go, yl⟩ := q s.its[i] (List.getElem?_eq_getElem hlt)
          refine ⟨go, fun σ' H' => ∃ m3 r3 S3, Goes X.K m1 H1 m3 H' ∧ Rel X.K X.MG m3 S3 H' ∧ EnvR X.K X.MG m3 H' r3 σ' ∧ PoS X.K X.MG W m3 H' D (forGo s gg f (s.its.drop (i + 1)) r3 S3), ?_, fun x H3 hy => ?_⟩
          · rintro σ' H' ⟨m3, r3, S3, g3, R3, E3, h3⟩
            exact ⟨s.its.length - (i + 1), by omega, m3, r3, S3, g3, R3, E3, rfl, hlt, h3⟩
          · obtain ⟨g3, R3, p3⟩ := yl x H3 hy
            have h3 := PoS.go g3 h2
            refine ⟨m2, r2, S2, s.its[i], R3, E2.go g3, p3, ?_⟩
            have pl := hpl s.its[i] r2 S2
            cases e3 : gg s.its[i] r2 S2 with
            | next r4 S4 =>
              rw [e3] at h3
              intro m4 H4 σ4 g4 R4 E4
              refine ⟨m4, r4, S4, R4, E4, ?_⟩
              have h4 := PoS.go g4 h3
              dsimp only at h4
              cases e5 : f r4 S4 with
              | next r5 S5 => rw [e5] at h4; exact fun m5 H5 σ5 g5 R5 E5 => ⟨m5, r5, S5, ((g2.trans g3).trans g4).trans g5, R5, E5, PoS.go g5 h4⟩
              | cont r5 S5 => rw [e5] at h4; exact fun m5 H5 σ5 g5 R5 E5 => ⟨m5, r5, S5, ((g2.trans g3).trans g4).trans g5, R5, E5, PoS.go g5 h4⟩
              | brk r5 S5 => rw [e5] at h4; exact h4
              | ret d S5 => rw [e5] at h4; exact h4
              | exc x r5 S5 => rw [e5] at h4; exact h4
              | stuck => rw [e5] at h4; exact h4
            | ret z T => rw [e3] at pl; exact pl.elim
            | brk z T => rw [e3] at pl; exact pl.elim
            | cont z T => rw [e3] at pl; exact pl.elim
            | exc x r4 S4 => rw [e3] at h3; exact h3
            | stuck => rw [e3] at h3; exact h3
        · rw [if_neg st] at h2; exact h2.elim
      · left
        have ei : i = s.its.length := by omega
        subst ei
        rw [List.drop_length] at h2
        unfold forGo at h2
        by_cases st : s.still S2 = true
        · rw [if_pos st] at h2
          obtain ⟨q, _⟩ := sr s.its.length m2 S2 H2 g2 R2 st
          exact ⟨q rfl, h2 m2 H2 σ2 .refl R2 E2⟩
        · rw [if_neg st] at h2; exact h2.elim
end

/-! ### comprehensions -/
/-- nothing is raised -/
abbrev W0 : WX := fun _ _ _ _ => False
theorem takes0' {X : Cx} : Takes X W0 := fun u s' ⟨a, B, sI, pins, σ, H, cls, d, e, I, nb, up, sky, na, os, ag, w⟩ => w.elim
section
variable {K : PySem.W.Frag} {mg : MG}
theorem EnvR.wipe {m : List Addr} {H : Hp} {r : CL.Env} {σ : L2.St} (e : EnvR K mg m H r σ) : ∀ vs : List Nat, EnvR K mg m H (wipeE r vs) (L2.wipe σ vs)
  | [] => e
  | v :: vs => (EnvR.wipe e vs).unset v
theorem wipe_set {σ : L2.St} {i : Nat} {x : Option V} : ∀ {vs : List Nat}, i ∈ vs → L2.wipe (σ.set i x) vs = L2.wipe σ vs := by
  intro vs hi
  apply List.ext_getElem?
  intro j
  by_cases hj : j ∈ vs
  · have out : ∀ (τ : L2.St) (us : List Nat), j ∈ us → (L2.wipe τ us)[j]? = if j < τ.length then some none else none := by
      intro τ us
      induction us with
      | nil => intro z; cases z
      | cons u us ih =>
        intro hm
        unfold L2.wipe
        by_cases hu : u = j
        · subst hu
          by_cases hl : u < τ.length
          · rw [if_pos hl, List.getElem?_set_self (by rw [wipe_length]; exact hl)]
          · rw [if_neg hl, List.getElem?_eq_none (by rw [List.length_set, wipe_length]; omega)]
        · rw [List.getElem?_set_ne hu]
          exact ih (by
            rcases List.mem_cons.mp hm with z | z
            · exact absurd z.symm hu
            · exact z)
    rw [out _ _ hj, out _ _ hj, List.length_set]
  · have ne : i ≠ j := fun z => hj (z ▸ hi)
    rw [wipe_out hj, wipe_out hj, List.getElem?_set_ne ne]
/-- a target of names alone, all of them the block's -/
def TgOk (K : PySem.W.Frag) (mg : MG) (t : TG) (g : FG) (vs : List Nat) : Prop :=
  ∀ (m : List Addr) (r : CL.Env) (S : Store) (d : D) (v : V) (σ : L2.St) (H : Hp) (Q : L2.St → Hp → Prop) (r1 : CL.Env) (S1 : Store), EnvR K mg m H r σ → Rep K mg m H d v → g d r S = .next r1 S1 →
    (S1 = S → ∀ σ1, EnvR K mg m H r1 σ1 → L2.wipe σ1 vs = L2.wipe σ vs → Q σ1 H) → t v σ H Q
def TgsOk (K : PySem.W.Frag) (mg : MG) (t : TGs) (g : FGs) (vs : List Nat) : Prop :=
  ∀ (m : List Addr) (r : CL.Env) (S : Store) (ds : List D) (us : List V) (σ : L2.St) (H : Hp) (Q : L2.St → Hp → Prop) (r1 : CL.Env) (S1 : Store), EnvR K mg m H r σ → Reps K mg m H ds us → g ds r S = .next r1 S1 →
    (S1 = S → ∀ σ1, EnvR K mg m H r1 σ1 → L2.wipe σ1 vs = L2.wipe σ vs → Q σ1 H) → t us σ H Q
theorem tgOk_name {i : Nat} {vs : List Nat} (hi : i ∈ vs) : TgOk K mg (gName i) (gNm i) vs := by
  intro m r S d v σ H Q r1 S1 E p e h
  cases e
  exact h rfl _ (E.set p i) (wipe_set hi)
theorem tgsOk_nil {vs : List Nat} : TgsOk K mg gNil gsNil vs := by
  intro m r S ds us σ H Q r1 S1 E p e h
  cases p with
  | nil => cases e; exact ⟨rfl, h rfl σ E rfl⟩
  | cons _ _ => cases e
theorem tgsOk_cons {t : TG} {g : FG} {ts : TGs} {gs : FGs} {vs : List Nat} (h1 : TgOk K mg t g vs) (h2 : TgsOk K mg ts gs vs) (keepsS : ∀ d r S r1 S1, g d r S = .next r1 S1 → S1 = S) : TgsOk K mg (gCons t ts) (gsCons g gs) vs := by
  intro m r S ds us σ H Q r1 S1 E p e h
  cases p with
  | nil => cases e
  | @cons d ds v us p1 p2 =>
    have e5 : (match g d r S with | .next r1 S1 => gs ds r1 S1 | o => o) = .next r1 S1 := e
    clear e
    cases e2 : g d r S with
    | next r2 S2 =>
      rw [e2] at e5
      have es := keepsS d r S r2 S2 e2
      subst es
      refine ⟨v, us, rfl, h1 m r S2 d v σ H _ r2 S2 E p1 e2 fun _ σ1 E1 w1 => ?_⟩
      exact h2 m r2 S2 ds us σ1 H Q r1 S1 E1 p2 e5 fun es σ3 E3 w3 => h es σ3 E3 (w3.trans w1)
    | ret _ _ => rw [e2] at e5; cases e5
    | brk _ _ => rw [e2] at e5; cases e5
    | cont _ _ => rw [e2] at e5; cases e5
    | exc _ _ _ => rw [e2] at e5; cases e5
    | stuck => rw [e2] at e5; cases e5
theorem tgOk_tup {n : Nat} {ts : TGs} {gs : FGs} {vs : List Nat} (h2 : TgsOk K mg ts gs vs) : TgOk K mg (gTup K n ts) (gTupl n gs) vs := by
  intro m r S d v σ H Q r1 S1 E p e h
  cases p with
  | @tup a ds us hs hr =>
    have e : (if ds.length = n then gs ds r S else .stuck) = .next r1 S1 := e
    by_cases z : ds.length = n
    · rw [if_pos z] at e
      exact ⟨a, us, rfl, hs, by rw [← hr.length]; exact z, h2 m r S ds us σ H Q r1 S1 E hr e h⟩
    · rw [if_neg z] at e; cases e
  | _ => cases e
end
section
variable {X : Cx} {W : WX} {pos : Pos}
/-- a comprehension's tests -/
abbrev CTs (X : Cx) (W : WX) (ifs : List Expr) (f : FT) : Prop := PTs X ifs (rdT X.K X.MG W f)
theorem cts_nil : CTs X W [] fYes := ⟨fun pins s σ H Q I ⟨m, r, S, R, E, h⟩ => pts_nil.run pins s σ H Q I (h m H true .refl R rfl)⟩
theorem cts_one {c : Expr} {f : FT} (h : CT X W c f) : CTs X W [c] f := pts_one h
theorem lc_ok {fi : FI} {t : TG} {g : FG} {ft : FT} {fe : FE} {vs : List Nat} {σ : L2.St} {H : Hp} {Q : VK} {K : PySem.W.Frag} {mg : MG} (tg : TgOk K mg t g vs) (h : rdE K mg W (fLc fi g ft fe vs) σ H Q) :
    tLc (rdI K mg W fi) t (rdT K mg W0 ft) (rdE K mg W0 fe) vs σ H Q := by
  obtain ⟨m, r, S, R, E, h⟩ := h
  refine ⟨m, r, S, R, E, ?_⟩
  unfold fLc at h
  cases e : fi r S with
  | stuck => rw [e] at h; exact h
  | exc x S1 => rw [e] at h; exact h
  | ok s S1 =>
    rw [e] at h
    intro m1 H1 J g1 R1 sr L hL
    have h : PoE K mg W σ m H Q ((lcGo s g ft fe S1.length (wipeE r vs) s.its (S1 ++ [.lst []])).bind fun _ S2 => .ok (.ref S1.length) S2) := h
    have R2 : Rel K mg (m1 ++ [L]) (S1 ++ [.lst []]) (upd H1 L (.lst [])) := R1.more hL ⟨[], upd_same, .nil⟩
    have g2 : Goes K m1 H1 (m1 ++ [L]) (upd H1 L (.lst [])) := goes_more hL
    have hm : (m1 ++ [L])[S1.length]? = some L := new_place R1
    refine ⟨fun i k H' => ∃ m2 S2, Goes K (m1 ++ [L]) (upd H1 L (.lst [])) m2 H' ∧ Rel K mg m2 S2 H' ∧ k = s.its.length - i ∧ i ≤ s.its.length ∧
        PoE K mg W σ m2 H' Q ((lcGo s g ft fe S1.length (wipeE r vs) (s.its.drop i) S2).bind fun _ S3 => .ok (.ref S1.length) S3),
      ⟨s.its.length, _, _, .refl, R2, by simp, Nat.zero_le _, by simpa using Po.go (g1.trans g2) h⟩, ?_⟩
    rintro i k H2 ⟨m2, S2, g3, R3, rfl, hi, h3⟩
    by_cases hlt : i < s.its.length
    · right
      have ed : s.its.drop i = s.its[i] :: s.its.drop (i + 1) := (List.drop_eq_getElem_cons hlt)
      rw [ed] at h3
      unfold lcGo at h3
      by_cases st : s.still S2 = true
      · rw [if_pos st] at h3
        obtain ⟨_, q⟩ := sr i m2 S2 H2 (g2.trans g3) R3 st
        obtain ⟨go, yl⟩ := q s.its[i] (List.getElem?_eq_getElem hlt)
        refine ⟨go, fun H' => ∃ m5 S5, Goes K (m1 ++ [L]) (upd H1 L (.lst [])) m5 H' ∧ Rel K mg m5 S5 H' ∧ PoE K mg W σ m5 H' Q ((lcGo s g ft fe S1.length (wipeE r vs) (s.its.drop (i + 1)) S5).bind fun _ S3 => .ok (.ref S1.length) S3), ?_, fun x H3 hy => ?_⟩
        · rintro H' ⟨m5, S5, g5, R5, h5⟩
          exact ⟨s.its.length - (i + 1), by omega, m5, S5, g5, R5, rfl, hlt, h5⟩
        · obtain ⟨g4, R4, p4⟩ := yl x H3 hy
          have h4 := Po.go g4 h3
          have E4 : EnvR K mg m2 H3 (wipeE r vs) (L2.wipe σ vs) := (E.wipe vs).go ((g1.trans (g2.trans g3)).trans g4)
          cases e3 : g s.its[i] (wipeE r vs) S2 with
          | next r5 S5 =>
            rw [e3] at h4
            refine tg m2 (wipeE r vs) S2 s.its[i] x (L2.wipe σ vs) H3 _ r5 S5 E4 p4 e3 fun es σ1 E5 w1 => ?_
            subst es
            have wd : ∀ (us : List Nat), (∀ j ∈ vs, j ∈ us) → L2.wipe (L2.wipe σ vs) us = L2.wipe σ us := by
              intro us hsub
              apply List.ext_getElem?
              intro j
              by_cases hj : j ∈ us
              · have out : ∀ (τ : L2.St) (us : List Nat), j ∈ us → (L2.wipe τ us)[j]? = if j < τ.length then some none else none := by
                  intro τ us
                  induction us with
                  | nil => intro z; cases z
                  | cons u us ih =>
                    intro hm
                    unfold L2.wipe
                    by_cases hu : u = j
                    · subst hu
                      by_cases hl : u < τ.length
                      · rw [if_pos hl, List.getElem?_set_self (by rw [wipe_length]; exact hl)]
                      · rw [if_neg hl, List.getElem?_eq_none (by rw [List.length_set, wipe_length]; omega)]
                    · rw [List.getElem?_set_ne hu]
                      exact ih (by
                        rcases List.mem_cons.mp hm with z | z
                        · exact absurd z.symm hu
                        · exact z)
                rw [out _ _ hj, out _ _ hj, wipe_length]
              · rw [wipe_out hj, wipe_out hj, wipe_out fun z => hj (hsub j z)]
            refine ⟨w1.trans (wd vs fun _ z => z), ?_⟩
            refine ⟨m2, r5, S5, R4, E5, ?_⟩
            dsimp only at h4
            cases e6 : ft r5 S5 with
            | ok b S6 =>
              rw [e6] at h4
              intro m6 H6 b' g6 R6 eb
              subst eb
              cases b with
              | true =>
                dsimp only at h4
                refine ⟨m6, r5, S6, R6, E5.go g6, ?_⟩
                cases e7 : fe r5 S6 with
                | ok y S7 =>
                  rw [e7] at h4
                  dsimp only at h4
                  intro m7 H7 v g7 R7 p7
                  have gA : Goes K (m1 ++ [L]) (upd H1 L (.lst [])) m7 H7 := ((g3.trans g4).trans g6).trans g7
                  have hm7 := gA.ad _ _ hm
                  obtain ⟨o, ho, hob⟩ := R7.place hm7
                  rw [ho] at h4
                  cases o with
                  | lst acc =>
                    obtain ⟨us, q1, q2⟩ := hob
                    dsimp only at h4
                    by_cases hz : acc.length < LINE
                    · rw [if_pos hz] at h4
                      have gw : Goes K m7 H7 m7 (upd H7 L (.lst (us ++ [v]))) := goes_write (by rw [q1]; trivial)
                      refine ⟨us, q1, by rw [line_eq, ← q2.length]; exact hz, m7, _, gA.trans gw, R7.put (ob := .lst (acc ++ [y])) hm7 (by rw [q1]; trivial) ⟨_, upd_same, (q2.append (.cons p7 .nil)).go gw⟩, Po.go ((g6.trans g7).trans gw) h4⟩
                    · rw [if_neg hz] at h4; exact h4.elim
                  | fro ds => exact h4.elim
                  | inst c fs => exact h4.elim
                  | dic k => exact h4.elim
                  | dis k => exact h4.elim
                | exc x S7 => rw [e7] at h4; exact h4.elim
                | stuck => rw [e7] at h4; exact h4.elim
              | false =>
                exact ⟨m6, S6, (g3.trans g4).trans g6, R6, Po.go g6 h4⟩
            | exc x S6 => rw [e6] at h4; exact h4.elim
            | stuck => rw [e6] at h4; exact h4.elim
          | ret _ _ => rw [e3] at h4; exact h4.elim
          | brk _ _ => rw [e3] at h4; exact h4.elim
          | cont _ _ => rw [e3] at h4; exact h4.elim
          | exc _ _ _ => rw [e3] at h4; exact h4.elim
          | stuck => rw [e3] at h4; exact h4.elim
      · rw [if_neg st] at h3; exact h3.elim
    · left
      have ei : i = s.its.length := by omega
      subst ei
      rw [List.drop_length] at h3
      unfold lcGo at h3
      by_cases st : s.still S2 = true
      · rw [if_pos st] at h3
        obtain ⟨q, _⟩ := sr s.its.length m2 S2 H2 (g2.trans g3) R3 st
        exact ⟨q rfl, h3 m2 H2 _ .refl R3 (.ref (g3.ad _ _ hm))⟩
      · rw [if_neg st] at h3; exact h3.elim
variable {elt tg iter : Expr} {ifs : List Expr} {scope : Scope} {own : List (Str × Nat)} {fi : FI} {t : TG} {g : FG} {ft : FT} {fe : FE}
theorem ce_lc (hc : X.calm = true) (hN : X.N.Nodup) (hi : CI X W tg iter fi) (ok : BlkOk X.N X.env.scope scope own) (ht : TgOk X.K X.MG t g (own.map (·.2)))
    (hg : ∀ (s : Shared) (H : Hp) (C : Addr) (cl : List (Str × Addr)) (fp : List Addr), PG (X.blk s H scope (compEnvC scope cl C X.env) fp) tg t) (htt : ∀ (s : Shared) (H : Hp) (C : Addr) (cl : List (Str × Addr)) (fp : List Addr), CTs (X.blk s H scope (compEnvC scope cl C X.env) fp) W0 ifs ft)
    (he : ∀ (s : Shared) (H : Hp) (C : Addr) (cl : List (Str × Addr)) (fp : List Addr), CE (X.blk s H scope (compEnvC scope cl C X.env) fp) W0 elt fe) (hs : ∀ x, foldedSetIterable iter X.env x = pure x := by intro _; rfl) :
    CE X W (.ListComp elt [⟨tg, iter, ifs, 0⟩] scope pos) (fLc fi g ft fe (own.map (·.2))) :=
  PE.imp (pe_lc hc hN hi ok hg htt he hs) fun σ H Q h => lc_ok ht h
theorem cs_setLc {i : Nat} {y : Str} {py spos : Pos} (hc : X.calm = true) (hN : X.N.Nodup) (hy : X.N[i]? = some y) (hyl : X.env.scope.names.lookup y = some .local)
    (hsw : swapsWith (.ListComp elt [⟨tg, iter, ifs, 0⟩] scope pos) (some (.Name y py)) spos.line X.env = pure true) (hi : CI X W tg iter fi) (ok : BlkOk X.N X.env.scope scope own) (ht : TgOk X.K X.MG t g (own.map (·.2)))
    (hg : ∀ (s : Shared) (H : Hp) (C : Addr) (cl : List (Str × Addr)) (fp : List Addr), PG (X.blk s H scope (compEnvC scope cl C X.env) fp) tg t) (htt : ∀ (s : Shared) (H : Hp) (C : Addr) (cl : List (Str × Addr)) (fp : List Addr), CTs (X.blk s H scope (compEnvC scope cl C X.env) fp) W0 ifs ft)
    (he : ∀ (s : Shared) (H : Hp) (C : Addr) (cl : List (Str × Addr)) (fp : List Addr), CE (X.blk s H scope (compEnvC scope cl C X.env) fp) W0 elt fe) (hs : ∀ x, foldedSetIterable iter X.env x = pure x := by intro _; rfl) :
    CS X W (.Assign [.Name y py] (.ListComp elt [⟨tg, iter, ifs, 0⟩] scope pos) spos) (fAsg (fLc fi g ft fe (own.map (·.2))) (gNm i)) :=
  PS.imp (ps_setLc hc hN hy hyl hsw hi ok hg htt he hs) fun D σ H ⟨m, r, S, R, E, h⟩ => by
    have h2 := seqS (k := fun d S1 => gNm i d r S1) R E h
    have h3 : rdE X.K X.MG W (fLc fi g ft fe (own.map (·.2))) σ H fun x H1 => gName i x σ H1 D.nx := by
      obtain ⟨m', r', S', R', E', h⟩ := h2
      refine ⟨m', r', S', R', E', ?_⟩
      cases e : fLc fi g ft fe (own.map (·.2)) r' S' with
      | ok c S1 =>
        rw [e] at h
        intro m2 H2 v g R2 q
        obtain ⟨m1, S1', d, R1, E1, g1, p1, h1⟩ := h m2 H2 v g R2 q
        exact h1 m1 H2 _ .refl R1 (E1.set p1 i)
      | exc x S1 => rw [e] at h; exact h
      | stuck => rw [e] at h; exact h
    exact lc_ok ht h3
end
end CL

set_option Elab.async false
set_option linter.all false
set_option maxRecDepth 100000
set_option maxHeartbeats 4000000
namespace CL
open PySem PySem.Spec PyProof.Rows L2

/-! ### defs -/
/-- what a def promises -/
def spC (K : PySem.W.Frag) (mg : MG) (n : Nat) (F : FF) : Sp := fun vs H Q E => ∃ m S ds, Rel K mg m S H ∧ Reps K mg m H ds vs ∧ ds.length = n ∧ PoE K mg (fun c d _ H => E c d H) [] m H Q (F S ds)
abbrev FnC (P : Program) (w : World) (K : PySem.W.Frag) (mg : MGf) (base : Heap) (k : Nat) (f : Addr) (fd : FuncData) (ps : List Str) (F : FF) : Prop := FnOk P w K mg base (L2.CX P w) k f fd ps (spC K ⟨mg, P, w⟩ ps.length F)
theorem start_env {K : PySem.W.Frag} {mg : MG} {m : List Addr} {H : Hp} {N : List Str} {ds : List D} {vs : List V} (r : Reps K mg m H ds vs) : EnvR K mg m H (ds.map some ++ List.replicate (N.length - ds.length) none) (L2.start N vs) := by
  have hl := r.length
  refine ⟨by simp [L2.start, hl], fun i d h => ?_⟩
  by_cases hi : i < ds.length
  · rw [List.getElem?_append_left (by simpa using hi), List.getElem?_map] at h
    cases e : ds[i]? with
    | none => rw [e] at h; cases h
    | some d' =>
      rw [e] at h
      cases h
      obtain ⟨v, hv, q⟩ := r.get e
      refine ⟨v, ?_, q⟩
      unfold L2.start
      rw [List.getElem?_append_left (by simp; omega), List.getElem?_map, hv]
      rfl
  · rw [List.getElem?_append_right (by simpa using hi)] at h
    have q := List.getElem?_eq_some_iff.mp h
    obtain ⟨_, q⟩ := q
    simp at q
section
variable {P : Program} {w : World} {K : PySem.W.Frag} {mg : MGf} {base : Heap}
/-- THE RULE of a def -/
theorem fn_def {x qual : Str} {params : Arguments} {body : List Stmt} {scope : Scope} {dvs : List V} {kws : List (Str × V)} {f : Addr} {fd : FuncData} {N ps : List Str} {k : Nat} {b : FS} (F : FunD K x qual params body scope dvs kws f fd) (S : FnScope N ps scope)
    (hbody : ∀ (cdv : Value) (A : Around) (outer : List PySem.Env) (s : Shared) (H : Hp) (E : XK), Room k (A.deeper (envOfC qual scope s.heap.objs.size f cdv)) →
      Takes (cxOf (L2.CX P w) P w K mg base N qual scope f cdv A outer s H E) (fun c d _ H => E c d H) → PassesOwn (model P w) (cxOf (L2.CX P w) P w K mg base N qual scope f cdv A outer s H E).A (cxOf (L2.CX P w) P w K mg base N qual scope f cdv A outer s H E).env (cxOf (L2.CX P w) P w K mg base N qual scope f cdv A outer s H E).xe →
      CSs (cxOf (L2.CX P w) P w K mg base N qual scope f cdv A outer s H E) (fun c d _ H => E c d H) body b) : FnC P w K mg base (k + 1) f fd ps (fDef N.length b) := by
  refine F.ok S (fun vs H Q E ⟨m, S, ds, R, r, hl, _⟩ => by rw [← r.length]; exact hl) fun cdv A outer s H vs Q E hr ⟨m, S, ds, R, r, hl, h⟩ => ?_
  refine ⟨_, hbody cdv A outer s H E hr (takes_of rfl rfl rfl rfl) (passes_of rfl), m, _, S, R, start_env r, ?_⟩
  unfold fDef at h
  cases e : b (ds.map some ++ List.replicate (N.length - ds.length) none) S with
  | next r1 S1 => rw [e] at h; exact fun m' H' σ' g R' _ => h m' H' .non g R' .none
  | ret d S1 => rw [e] at h; exact h
  | brk r1 S1 => rw [e] at h; exact h.elim
  | cont r1 S1 => rw [e] at h; exact h.elim
  | exc x r1 S1 => rw [e] at h; exact fun m' H' σ' cls dd g R' _ q => h m' H' cls dd g R' q
  | stuck => rw [e] at h; exact h.elim
end
/-! ### calls -/
section
variable {X : Cx} {W : WX} {pos : Pos} {k : Nat} {f C : Addr} {fd : FuncData} {ps : List Str} {F : FF} {x m : Str} {p apos : Pos} {e o : Expr} {es : List Expr} {fas : FA} {fo : FE}
theorem run_fnC {pins : List (Addr × Obj)} {σ : L2.St} {H : Hp} {s : Shared} {Q : VK} {us : List Value} {vs : List V} (Fn : FnC X.prog X.w X.K X.mg X.base k f fd ps F) (hr : Room k X.A) (tk : Takes X W) (hb : Binds X.K fd ps [])
    (I : Inv X pins σ H s) (r : Vals vs us) {mm : List Addr} {S : Store} {ds : List D} (R : Rel X.K X.MG mm S H) (rp : Reps X.K X.MG mm H ds vs) (hl : ds.length = ps.length) (h : PoE X.K X.MG W σ mm H Q (F S ds)) : wpAny (model X.prog X.w) X.A (call (.ref f) us) (EP X pins σ Q) X.xe s := by
  have h' : spC X.K X.MG ps.length F vs H Q (fun c d H' => W c d σ H') := ⟨mm, S, ds, R, rp, hl, by
    cases e : F S ds with
    | ok d S1 => rw [e] at h; exact h
    | exc x S1 => rw [e] at h; exact h
    | stuck => rw [e] at h; exact h⟩
  have hl2 : us.length = ps.length := by rw [← r.length, ← rp.length]; exact hl
  refine wpAny_call (codeAny_mono (Fn.run X.A X.stack s H ⟨us, []⟩ us vs Q (fun c d H' => W c d σ H') hr I.env0 (by have z := hb s us I.kIn (by rw [List.append_nil]; exact hl2); rw [List.append_nil] at z; exact z) r h') fun r s' hq => ?_)
  cases r with
  | error e => exact tk e s' (XE.of_call I (fun cls d H' q => q) hq)
  | ok fl =>
    cases fl with
    | ret u => exact I.after hq
    | next => exact False.elim hq
    | brk => exact False.elim hq
    | cont => exact False.elim hq
/-- the clean call: so many arguments -/
def fCallN (n : Nat) (F : FF) (a : FA) : FE := fun r S => (a r S).bind fun xs S1 => if xs.length = n then F S1 xs else .stuck
theorem ce_call (Fn : FnC X.prog X.w X.K X.mg X.base k f fd ps F) (hr : Room k X.A) (tk : Takes X W) (hg : Gl X x) (hm : X.mg x = some (.ref f)) (hk : PySem.W.keepIn X.K (.ref f) = true) (hb : Binds X.K fd ps [])
    (ha : CA X W (e :: es) fas) (hdb : (x == ("__debug__" : Str)) = false := by decide) (he : starEach (e :: es) X.env = (false, eval e X.env) :: starEach es X.env := by rfl) (hpl : (backTo pos (starEach es X.env)).any (·.1) = false := by rfl) :
    CE X W (.Call (.Name x p) (e :: es) [] pos) (fCallN ps.length F fas) := by
  refine ⟨fun pins s σ H Q I h => ?_⟩
  obtain ⟨mm, r, S, R, E, h⟩ := h
  refine wpAny_Call_Name_kw (ld_glob I hg hm ?_ hdb)
  refine PySem.W.callWith_K (h₀ := X.base) I.ok.mod.kin hk (thn (ha.run pos pins s σ H _ I (seqA R E h)) fun us s1 ⟨vs, H1, I1, r1, q⟩ => ⟨I1.kIn, ?_⟩) he hpl
  obtain ⟨m1, S1, ds, R1, E1, g1, p1, h1⟩ := q
  by_cases hl : ds.length = ps.length
  · rw [if_pos hl] at h1
    exact run_fnC Fn hr tk hb I1 r1 R1 p1 hl h1
  · rw [if_neg hl] at h1; exact h1.elim
theorem ce_call0 (Fn : FnC X.prog X.w X.K X.mg X.base k f fd [] F) (hr : Room k X.A) (tk : Takes X W) (hg : Gl X x) (hm : X.mg x = some (.ref f)) (hk : PySem.W.keepIn X.K (.ref f) = true) (hb : Binds X.K fd [] [])
    (hdb : (x == ("__debug__" : Str)) = false := by decide) : CE X W (.Call (.Name x p) [] [] pos) (fCallN 0 F fNil) := by
  refine ⟨fun pins s σ H Q I h => ?_⟩
  obtain ⟨mm, r, S, R, E, h⟩ := h
  refine wpAny_Call_Name_kw (ld_glob I hg hm ?_ hdb)
  exact PySem.W.callWith_K0 I.kIn hk (run_fnC (us := []) (vs := []) Fn hr tk hb I .nil R .nil rfl h)
/-! ### methods of the program's classes -/
/-- o.m(..): o an instance of the class c -/
def fMeth (c m : Str) (n : Nat) (F : FF) (o : FE) (a : FA) : FE := fun r S => (o r S).bind fun x S1 => match x with
  | .ref l => (match S1[l]? with
    | some (.inst c' fs) => if c' = c ∧ fs.lookup m = none then (a r S1).bind fun xs S2 => if xs.length + 1 = n then F S2 (.ref l :: xs) else .stuck else .stuck
    | _ => .stuck)
  | _ => .stuck
theorem lookup_map {α β : Type} {k : Str} : ∀ {l : List (Str × α)} {l' : List (Str × β)}, l.map (·.1) = l'.map (·.1) → (l.lookup k = none ↔ l'.lookup k = none)
  | [], [], _ => by simp [List.lookup]
  | [], _ :: _, h => by simp at h
  | _ :: _, [], h => by simp at h
  | (a, x) :: l, (b, y) :: l', h => by
    simp only [List.map_cons, List.cons.injEq] at h
    obtain ⟨h1, h2⟩ := h
    have h1 : a = b := h1
    subst h1
    simp only [List.lookup]
    split
    · simp
    · exact lookup_map h2
theorem inst_of {K : PySem.W.Frag} {mg : MG} {mm : List Addr} {S : Store} {H : Hp} {l : Nat} {c : Str} {fs : List (Str × D)} {a : Addr} (R : Rel K mg mm S H) (h : S[l]? = some (.inst c fs)) (ha : mm[l]? = some a) (hc : mg c = some (.ref C)) :
    ∃ dx vs, H a = some (.ins C dx vs) ∧ vs.map (·.1) = fs.map (·.1) ∧ Reps K mg mm H (fs.map (·.2)) (vs.map (·.2)) := by
  obtain ⟨C', dx, vs, h1, h2, h3, h4⟩ := R.ob l _ a h ha
  rw [hc] at h2
  cases h2
  exact ⟨dx, vs, h1, h3, h4⟩
theorem ce_meth {pl : Sem Bool} {c : Str} (ho : CE X W o fo) (hc : X.mg c = some (.ref C)) (cl : Cls X.K C) (hm : Meth X.K C m f) (Fn : FnC X.prog X.w X.K X.mg X.base k f fd ps F) (hr : Room k X.A) (tk : Takes X W) (hb : Binds X.K fd ps []) (ha : CA X W (e :: es) fas)
    (hst : starEach (e :: es) X.env = (false, eval e X.env) :: starEach es X.env := by rfl) (hpl : (backTo pos (starEach es X.env)).any (·.1) = false := by rfl)
    (ht : eval (.Call (.Attribute o m apos) (e :: es) [] pos) X.env = (do
      let ov ← eval o X.env
      standAt apos.atName
      let (f, first) ← holding [ov] (getMethod ov m pl)
      callWith pos f first (backTo pos (starEach (e :: es) X.env)) (backToKw pos (keywordEach [] X.env))) := by rfl) :
    CE X W (.Call (.Attribute o m apos) (e :: es) [] pos) (fMeth c m ps.length F fo fas) := by
  refine ⟨fun pins s σ H Q I h => ?_⟩
  obtain ⟨mm, r, S, R, E, h⟩ := h
  refine PySem.W.methodCall_KW (pl := pl) (thn (ho.run pins s σ H _ I (seqE R E h)) fun u s1 ⟨x, H1, I1, rx, q⟩ => ?_) ht
  obtain ⟨m1, S1, d, R1, E1, g1, p1, h1⟩ := q
  cases p1 with
  | @ref l a ha' =>
    obtain ⟨ob, hob, _⟩ := R1.place ha'
    dsimp only at h1
    rw [hob] at h1
    cases ob with
    | inst c' fs =>
      dsimp only at h1
      by_cases hcc : c' = c ∧ fs.lookup m = none
      · rw [if_pos hcc] at h1
        obtain ⟨rfl, hlk⟩ := hcc
        obtain ⟨dx, vs, ea, hk, hv⟩ := inst_of R1 hob ha' hc
        obtain rfl : u = Value.ref a := rx
        refine getmeth_ok I1 ea cl hm ((lookup_map hk).mpr hlk) ?_
        refine PySem.W.callWith_K (first := [.ref a]) (h₀ := X.base) I.ok.mod.kin hm.kp (thn (ha.run pos pins s1 σ H1 _ I1 (seqA R1 E1 h1)) fun us s2 ⟨vs2, H2, I2, r2, q2⟩ => ⟨I2.kIn, ?_⟩) hst hpl
        obtain ⟨m2, S2, ds, R2, E2, g2, p2, h2⟩ := q2
        by_cases hl : ds.length + 1 = ps.length
        · rw [if_pos hl] at h2
          exact run_fnC (us := .ref a :: us) (vs := .ref a :: vs2) Fn hr tk hb I2 (.cons rfl r2) R2 (.cons (.ref (g2.ad _ _ ha')) p2) (by simpa using hl) h2
        · rw [if_neg hl] at h2; exact h2.elim
      · rw [if_neg hcc] at h1; exact h1.elim
    | lst _ => exact h1.elim
    | fro _ => exact h1.elim
    | dic _ => exact h1.elim
    | dis _ => exact h1.elim
  | _ => exact h1.elim
theorem ce_meth0 {pl : Sem Bool} {c : Str} (ho : CE X W o fo) (hc : X.mg c = some (.ref C)) (cl : Cls X.K C) (hm : Meth X.K C m f) (Fn : FnC X.prog X.w X.K X.mg X.base k f fd ps F) (hr : Room k X.A) (tk : Takes X W) (hb : Binds X.K fd ps [])
    (ht : eval (.Call (.Attribute o m apos) [] [] pos) X.env = (do
      let ov ← eval o X.env
      standAt apos.atName
      let (f, first) ← holding [ov] (getMethod ov m pl)
      callWith pos f first (backTo pos (starEach [] X.env)) (backToKw pos (keywordEach [] X.env))) := by rfl) :
    CE X W (.Call (.Attribute o m apos) [] [] pos) (fMeth c m ps.length F fo fNil) := by
  refine ⟨fun pins s σ H Q I h => ?_⟩
  obtain ⟨mm, r, S, R, E, h⟩ := h
  refine PySem.W.methodCall_KW (pl := pl) (thn (ho.run pins s σ H _ I (seqE R E h)) fun u s1 ⟨x, H1, I1, rx, q⟩ => ?_) ht
  obtain ⟨m1, S1, d, R1, E1, g1, p1, h1⟩ := q
  cases p1 with
  | @ref l a ha' =>
    obtain ⟨ob, hob, _⟩ := R1.place ha'
    dsimp only at h1
    rw [hob] at h1
    cases ob with
    | inst c' fs =>
      dsimp only at h1
      by_cases hcc : c' = c ∧ fs.lookup m = none
      · rw [if_pos hcc] at h1
        obtain ⟨rfl, hlk⟩ := hcc
        obtain ⟨dx, vs, ea, hk, hv⟩ := inst_of R1 hob ha' hc
        obtain rfl : u = Value.ref a := rx
        refine getmeth_ok I1 ea cl hm ((lookup_map hk).mpr hlk) ?_
        refine PySem.W.callWith_K0 (first := [.ref a]) I1.kIn hm.kp ?_
        have h1 : PoE X.K X.MG W σ m1 H1 Q (if ([] : List D).length + 1 = ps.length then F S1 [.ref l] else .stuck) := h1
        by_cases hl : ([] : List D).length + 1 = ps.length
        · rw [if_pos hl] at h1
          exact run_fnC (us := [.ref a]) (vs := [.ref a]) Fn hr tk hb I1 (.cons rfl .nil) R1 (.cons (.ref ha') .nil) (by simpa using hl) h1
        · rw [if_neg hl] at h1; exact h1.elim
      · rw [if_neg hcc] at h1; exact h1.elim
    | lst _ => exact h1.elim
    | fro _ => exact h1.elim
    | dic _ => exact h1.elim
    | dis _ => exact h1.elim
  | _ => exact h1.elim
/-! ### a new instance -/
def fMake (c : Str) (n : Nat) (F : FF) (a : FA) : FE := fun r S => (a r S).bind fun xs S1 => if xs.length + 1 = n then (F (S1 ++ [.inst c []]) (.ref S1.length :: xs)).bind fun d S2 => (match d with | .none => .ok (.ref S1.length) S2 | _ => .stuck) else .stuck
theorem run_makeC {c : Str} {pins : List (Addr × Obj)} {σ : L2.St} {H : Hp} {s : Shared} {Q : VK} {us : List Value} {vs : List V} (M : Mk X.K C f) (Fn : FnC X.prog X.w X.K X.mg X.base k f fd ps F) (hr : Room (k + 1) X.A) (tk : Takes X W) (hb : Binds X.K fd ps []) (hc : X.mg c = some (.ref C))
    (I : Inv X pins σ H s) (r : Vals vs us) {mm : List Addr} {S : Store} {ds : List D} (R : Rel X.K X.MG mm S H) (rp : Reps X.K X.MG mm H ds vs) (hl : ds.length + 1 = ps.length)
    (h : PoE X.K X.MG W σ mm H Q ((F (S ++ [.inst c []]) (.ref S.length :: ds)).bind fun d S2 => (match d with | .none => .ok (.ref S.length) S2 | _ => .stuck))) :
    wpAny (model X.prog X.w) X.A (call (.ref C) us) (EP X pins σ Q) X.xe s := by
  have hx : H (s.heap.objs.size + 1) = none := I.hok.fresh (Nat.le_succ _)
  have hdx : H s.heap.objs.size = none := I.hok.fresh (Nat.le_refl _)
  have hne : s.heap.objs.size ≠ s.heap.objs.size + 1 := Nat.ne_of_lt (Nat.lt_succ_self _)
  have hx1 : upd H s.heap.objs.size (.own (s.heap.objs.size + 1)) (s.heap.objs.size + 1) = none := by rw [upd_ne (Ne.symm hne)]; exact hx
  have R1 : Rel X.K X.MG mm S (upd H s.heap.objs.size (.own (s.heap.objs.size + 1))) := R.beside hdx
  have g1 : Goes X.K mm H mm (upd H s.heap.objs.size (.own (s.heap.objs.size + 1))) := goes_new hdx
  have R2 : Rel X.K X.MG (mm ++ [s.heap.objs.size + 1]) (S ++ [.inst c []]) (upd (upd H s.heap.objs.size (.own (s.heap.objs.size + 1))) (s.heap.objs.size + 1) (.ins C s.heap.objs.size [])) := R1.more hx1 ⟨C, s.heap.objs.size, [], upd_same, hc, rfl, .nil⟩
  have g2 : Goes X.K mm H (mm ++ [s.heap.objs.size + 1]) (upd (upd H s.heap.objs.size (.own (s.heap.objs.size + 1))) (s.heap.objs.size + 1) (.ins C s.heap.objs.size [])) := g1.trans (goes_more hx1)
  have hq : spC X.K X.MG ps.length F (V.ref (s.heap.objs.size + 1) :: vs) (upd (upd H s.heap.objs.size (.own (s.heap.objs.size + 1))) (s.heap.objs.size + 1) (.ins C s.heap.objs.size [])) (fun v H2 => v = .non ∧ Q (.ref (s.heap.objs.size + 1)) H2) (fun cl d H' => W cl d σ H') := by
    refine ⟨_, _, .ref S.length :: ds, R2, .cons (.ref (new_place R1)) (rp.go g2), by simpa using hl, ?_⟩
    cases e : F (S ++ [.inst c []]) (.ref S.length :: ds) with
    | ok d S2 =>
      rw [e] at h
      intro m' H' v g R' q
      cases q with
      | none => exact ⟨rfl, h m' H' _ (g2.trans g) R' (.ref (g.ad _ _ (new_place R1)))⟩
      | _ => exact h.elim
    | exc x S2 => rw [e] at h; exact fun m' H' cls dd g R' q => h m' H' cls dd (g2.trans g) R' q
    | stuck => rw [e] at h; exact h
  have I2 := Inv.made (C := C) I
  have r2 : Vals (V.ref (s.heap.objs.size + 1) :: vs) (Value.ref (s.heap.objs.size + 1) :: us) := .cons rfl r
  have hl2 : (Value.ref (s.heap.objs.size + 1) :: us).length = ps.length := by
    rw [← r2.length]
    show vs.length + 1 = _
    rw [← rp.length]; exact hl
  refine wpAny_call (make_map (f := f) I.kIn M.makes M.init (beq_iff_eq.mp M.fn) (codeAny_mono (Fn.run _ X.stack _ _ ⟨Value.ref (s.heap.objs.size + 1) :: us, []⟩ (Value.ref (s.heap.objs.size + 1) :: us) _ _ (fun cl d H' => W cl d σ H') (hr.make C us [])
    (I2.env0.make C us []) (by have z := hb _ (Value.ref (s.heap.objs.size + 1) :: us) I2.kIn (by rw [List.append_nil]; exact hl2); rw [List.append_nil] at z; exact z) r2 hq) fun r s' hq' => ?_))
  cases r with
  | error e => exact tk e s' (XE.of_call I2 (fun cls d H' q => q) hq')
  | ok fl =>
    cases fl with
    | ret u =>
      obtain ⟨v, H', I3, rv, ev, q3⟩ := I2.after hq'
      subst ev
      exact ⟨rv, ⟨V.ref (s.heap.objs.size + 1), H', I3, rfl, q3⟩⟩
    | next => exact False.elim hq'
    | brk => exact False.elim hq'
    | cont => exact False.elim hq'
theorem ce_make (M : Mk X.K C f) (Fn : FnC X.prog X.w X.K X.mg X.base k f fd ps F) (hr : Room (k + 1) X.A) (tk : Takes X W) (hg : Gl X x) (hm : X.mg x = some (.ref C)) (hb : Binds X.K fd ps [])
    (ha : CA X W (e :: es) fas) (hdb : (x == ("__debug__" : Str)) = false := by decide) (he : starEach (e :: es) X.env = (false, eval e X.env) :: starEach es X.env := by rfl) (hpl : (backTo pos (starEach es X.env)).any (·.1) = false := by rfl) :
    CE X W (.Call (.Name x p) (e :: es) [] pos) (fMake x ps.length F fas) := by
  refine ⟨fun pins s σ H Q I h => ?_⟩
  obtain ⟨mm, r, S, R, E, h⟩ := h
  refine wpAny_Call_Name_kw (ld_glob I hg hm ?_ hdb)
  refine PySem.W.callWith_K (h₀ := X.base) I.ok.mod.kin M.kp (thn (ha.run pos pins s σ H _ I (seqA R E h)) fun us s1 ⟨vs, H1, I1, r1, q⟩ => ⟨I1.kIn, ?_⟩) he hpl
  obtain ⟨m1, S1, ds, R1, E1, g1, p1, h1⟩ := q
  by_cases hl : ds.length + 1 = ps.length
  · rw [if_pos hl] at h1
    exact run_makeC M Fn hr tk hb hm I1 r1 R1 p1 hl h1
  · rw [if_neg hl] at h1; exact h1.elim
/-! ### fields -/
def fldOf (c f : Str) (S : Store) : D → Option D
  | .ref l => (match S[l]? with
    | some (.inst c' fs) => if c' = c then fs.lookup f else none
    | _ => none)
  | _ => none
def fFld (c f : Str) (o : FE) : FE := fun r S => (o r S).bind fun x S1 => match fldOf c f S1 x with
  | some d => .ok d S1
  | none => .stuck
theorem lookup_reps {K : PySem.W.Frag} {mg : MG} {mm : List Addr} {H : Hp} {k : Str} {d : D} : ∀ {fs : List (Str × D)} {vs : List (Str × V)}, vs.map (·.1) = fs.map (·.1) → Reps K mg mm H (fs.map (·.2)) (vs.map (·.2)) → fs.lookup k = some d → ∃ v, vs.lookup k = some v ∧ Rep K mg mm H d v
  | [], _, _, _, h => by simp at h
  | _ :: _, [], h, _, _ => by simp at h
  | (a, x) :: fs, (b, y) :: vs, h, r, e => by
    simp only [List.map_cons, List.cons.injEq] at h
    obtain ⟨h1, h2⟩ := h
    have h1 : b = a := h1
    subst h1
    cases r with
    | cons r1 r2 =>
      simp only [List.lookup] at e ⊢
      split at e
      · cases e; exact ⟨y, rfl, r1⟩
      · exact lookup_reps h2 r2 e
theorem fldOf_at {K : PySem.W.Frag} {mg : MG} {mm : List Addr} {S : Store} {H : Hp} {c fl : Str} {x d : D} {v : V} (R : Rel K mg mm S H) (hx : fldOf c fl S x = some d) (hr : Rep K mg mm H x v) (hc : mg c = some (.ref C)) :
    ∃ a dx vs u, v = .ref a ∧ H a = some (.ins C dx vs) ∧ vs.lookup fl = some u ∧ Rep K mg mm H d u := by
  cases hr with
  | @ref l a ha =>
    obtain ⟨ob, hob, _⟩ := R.place ha
    simp only [fldOf, hob] at hx
    cases ob with
    | inst c' fs =>
      by_cases hcc : c' = c
      · simp only [if_pos hcc] at hx
        subst hcc
        obtain ⟨dx, vs, ea, hk, hv⟩ := inst_of R hob ha hc
        obtain ⟨u, h1, h2⟩ := lookup_reps hk hv hx
        exact ⟨a, dx, vs, u, rfl, ea, h1, h2⟩
      · simp only [if_neg hcc] at hx; cases hx
    | lst _ => cases hx
    | fro _ => cases hx
    | dic _ => cases hx
    | dis _ => cases hx
  | _ => cases hx
theorem ce_fld {c fl : Str} (ho : CE X W o fo) (hc : X.mg c = some (.ref C)) (cl : Cls X.K C) (na : NoAttr X.K C fl) (hb : attributeBase o fl X.env (eval o X.env) = eval o X.env := by rfl) : CE X W (.Attribute o fl pos) (fFld c fl fo) :=
  PE.imp (pe_fld ho hb) fun σ H Q ⟨m, r, S, R, E, h⟩ => by
    obtain ⟨m', r', S', R', E', h⟩ := seqE R E h
    refine ⟨m', r', S', R', E', ?_⟩
    cases e : fo r' S' with
    | ok c0 S1 =>
      rw [e] at h
      intro m2 H2 v g R2 q
      obtain ⟨m1, S1', d, R1, E1, g1, p1, h1⟩ := h m2 H2 v g R2 q
      cases e2 : fldOf c fl S1' d with
      | none => rw [e2] at h1; exact h1.elim
      | some d2 =>
        rw [e2] at h1
        obtain ⟨a, dx, vs, u, rfl, ea, hl, ru⟩ := fldOf_at R1 e2 p1 hc
        exact ⟨a, C, dx, vs, u, rfl, ea, cl, na, hl, h1 m1 H2 u .refl R1 ru⟩
    | exc x S1 => rw [e] at h; exact h
    | stuck => rw [e] at h; exact h
def putD (f : Str) (d : D) : List (Str × D) → List (Str × D)
  | [] => [(f, d)]
  | q :: r => if q.1 = f then (f, d) :: r else q :: putD f d r
end
end CL

set_option Elab.async false
set_option linter.all false
set_option maxRecDepth 100000
set_option maxHeartbeats 4000000
namespace CL
open PySem PySem.Spec PyProof.Rows L2
/-! ### fields stored -/
def putFld (c f : Str) (S : Store) (x y : D) : Option Store := match x with
  | .ref l => (match S[l]? with
    | some (.inst c' fs) => if c' = c ∧ fs.length < 1000 then some (S.set l (.inst c (putD f y fs))) else none
    | _ => none)
  | _ => none
def fSetFld (c f : Str) (o v : FE) : FS := fun r S => match v r S with
  | .ok y S1 => (match o r S1 with
    | .ok x S2 => (match putFld c f S2 x y with
      | some S3 => .next r S3
      | none => .stuck)
    | .exc x S2 => .exc x r S2
    | .stuck => .stuck)
  | .exc x S1 => .exc x r S1
  | .stuck => .stuck
/-- o.f += v, ints -/
def fAugFld (c f : Str) (o v : FE) : FS := fun r S => match o r S with
  | .ok x S1 => (match fldOf c f S1 x with
    | some (.int i) => (match v r S1 with
      | .ok y S2 => (match y with
        | .int j => (match putFld c f S2 x (.int (i + j)) with
          | some S3 => .next r S3
          | none => .stuck)
        | _ => .stuck)
      | .exc x S2 => .exc x r S2
      | .stuck => .stuck)
    | _ => .stuck)
  | .exc x S1 => .exc x r S1
  | .stuck => .stuck
/-- x += v, ints -/
def fAugNm (i : Nat) (v : FE) : FS := fun r S => match r[i]? with
  | some (some (.int a)) => (match v r S with
    | .ok y S2 => (match y with
      | .int j => .next (r.set i (some (.int (a + j)))) S2
      | _ => .stuck)
    | .exc x S2 => .exc x r S2
    | .stuck => .stuck)
  | _ => .stuck
section
variable {K : PySem.W.Frag} {mg : MG} {C : Addr}
theorem keys_put {f : Str} {y : D} {u : V} : ∀ {fs : List (Str × D)} {vs : List (Str × V)}, vs.map (·.1) = fs.map (·.1) → (putF f u vs).map (·.1) = (putD f y fs).map (·.1)
  | [], [], _ => rfl
  | [], _ :: _, h => by simp at h
  | _ :: _, [], h => by simp at h
  | (a, x) :: fs, (b, z) :: vs, h => by
    simp only [List.map_cons, List.cons.injEq] at h
    obtain ⟨h1, h2⟩ := h
    have h1 : b = a := h1
    subst h1
    unfold putF putD
    dsimp only
    by_cases e : b = f
    · rw [if_pos e, if_pos e]; simp [h2, e]
    · rw [if_neg e, if_neg e]; simp [keys_put (f := f) (y := y) (u := u) h2]
theorem reps_put {m : List Addr} {H : Hp} {f : Str} {y : D} {u : V} (r : Rep K mg m H y u) : ∀ {fs : List (Str × D)} {vs : List (Str × V)}, vs.map (·.1) = fs.map (·.1) → Reps K mg m H (fs.map (·.2)) (vs.map (·.2)) → Reps K mg m H ((putD f y fs).map (·.2)) ((putF f u vs).map (·.2))
  | [], [], _, _ => .cons r .nil
  | [], _ :: _, h, _ => by simp at h
  | _ :: _, [], h, _ => by simp at h
  | (a, x) :: fs, (b, z) :: vs, h, q => by
    simp only [List.map_cons, List.cons.injEq] at h
    obtain ⟨h1, h2⟩ := h
    have h1 : b = a := h1
    subst h1
    cases q with
    | cons q1 q2 =>
      unfold putF putD
      dsimp only
      by_cases e : b = f
      · rw [if_pos e, if_pos e]; exact .cons r q2
      · rw [if_neg e, if_neg e]; exact .cons q1 (reps_put r h2 q2)
theorem putFld_at {mm : List Addr} {S S3 : Store} {H : Hp} {c fl : Str} {x y : D} {v u : V} (R : Rel K mg mm S H) (hp : putFld c fl S x y = some S3) (hx : Rep K mg mm H x v) (hy : Rep K mg mm H y u) (hc : mg c = some (.ref C)) :
    ∃ a dx vs, v = .ref a ∧ H a = some (.ins C dx vs) ∧ vs.length < 1000 ∧ Rel K mg mm S3 (upd H a (.ins C dx (putF fl u vs))) ∧ Goes K mm H mm (upd H a (.ins C dx (putF fl u vs))) := by
  cases hx with
  | @ref l a ha =>
    obtain ⟨ob, hob, _⟩ := R.place ha
    simp only [putFld, hob] at hp
    cases ob with
    | inst c' fs =>
      by_cases hcc : c' = c ∧ fs.length < 1000
      · simp only [if_pos hcc] at hp
        obtain ⟨rfl, hlen⟩ := hcc
        cases hp
        obtain ⟨dx, vs, ea, hk, hv⟩ := inst_of R hob ha hc
        have hm : Mut (H a) := by rw [ea]; trivial
        have g : Goes K mm H mm (upd H a (.ins C dx (putF fl u vs))) := goes_write hm
        refine ⟨a, dx, vs, rfl, ea, ?_, R.put (ob := .inst c' (putD fl y fs)) ha hm ⟨C, dx, putF fl u vs, upd_same, hc, keys_put hk, (reps_put hy hk hv).go g⟩, g⟩
        have e : vs.length = fs.length := by simpa using congrArg List.length hk
        omega
      · simp only [if_neg hcc] at hp; cases hp
    | lst _ => cases hp
    | fro _ => cases hp
    | dic _ => cases hp
    | dis _ => cases hp
  | _ => cases hp
end
section
variable {X : Cx} {W : WX} {pos : Pos} {C : Addr} {c fl : Str} {o value : Expr} {fo fv : FE} {pos' tpos : Pos}
theorem cs_fld (ho : CE X W o fo) (hv : CE X W value fv) (hc : X.mg c = some (.ref C)) (cl : Cls X.K C) (na : NoAttr X.K C fl) (hs : swapsWith value (some (.Attribute o fl pos')) pos.line X.env = pure false := by rfl) : CS X W (.Assign [.Attribute o fl pos'] value pos) (fSetFld c fl fo fv) :=
  PS.imp (ps_fld ho hv hs) fun D σ H ⟨m, r, S, R, E, h⟩ => by
    refine ⟨m, r, S, R, E, ?_⟩
    unfold fSetFld at h
    cases e : fv r S with
    | ok y S1 =>
      rw [e] at h
      intro m1 H1 u g1 R1 p1
      refine ⟨m1, r, S1, R1, E.go g1, ?_⟩
      dsimp only at h
      have h := PoS.go g1 h
      cases e2 : fo r S1 with
      | ok x S2 =>
        rw [e2] at h
        intro m2 H2 v g2 R2 p2
        dsimp only at h
        cases e3 : putFld c fl S2 x y with
        | none => rw [e3] at h; exact h.elim
        | some S3 =>
          rw [e3] at h
          obtain ⟨a, dx, vs, rfl, ea, hl, R3, g3⟩ := putFld_at R2 e3 p2 (p1.go g2) hc
          exact ⟨a, C, dx, vs, rfl, ea, cl, na, hl, h m2 _ σ (g2.trans g3) R3 ((E.go g1).go (g2.trans g3))⟩
      | exc x S2 => rw [e2] at h; exact fun m' H' cls dd g R' q => h m' H' σ cls dd g R' ((E.go g1).go g) q
      | stuck => rw [e2] at h; exact h
    | exc x S1 => rw [e] at h; exact fun m' H' cls dd g R' q => h m' H' σ cls dd g R' (E.go g) q
    | stuck => rw [e] at h; exact h
theorem cs_augFld (ho : CE X W o fo) (hv : CE X W value fv) (hc : X.mg c = some (.ref C)) (cl : Cls X.K C) (na : NoAttr X.K C fl) : CS X W (.AugAssign (.Attribute o fl tpos) .Add value pos) (fAugFld c fl fo fv) :=
  PS.imp (ps_fldaug ho hv in_add) fun D σ H ⟨m, r, S, R, E, h⟩ => by
    refine ⟨m, r, S, R, E, ?_⟩
    unfold fAugFld at h
    cases e : fo r S with
    | ok x S1 =>
      rw [e] at h
      intro m1 H1 v g1 R1 p1
      dsimp only at h
      have h := PoS.go g1 h
      cases e2 : fldOf c fl S1 x with
      | none => rw [e2] at h; exact h.elim
      | some d =>
        obtain ⟨a, dx, vs, u, rfl, ea, hl, ru⟩ := fldOf_at R1 e2 p1 hc
        rw [e2] at h
        cases ru with
        | int i =>
          refine ⟨a, C, dx, vs, _, rfl, ea, cl, na, hl, m1, r, S1, R1, E.go g1, ?_⟩
          dsimp only at h
          cases e3 : fv r S1 with
          | ok y S2 =>
            rw [e3] at h
            intro m2 H2 w g2 R2 p2
            dsimp only at h
            cases p2 with
            | int j =>
              refine ⟨i, j, rfl, rfl, ?_⟩
              dsimp only at h
              cases e4 : putFld c fl S2 x (.int (i + j)) with
              | none => rw [e4] at h; exact h.elim
              | some S3 =>
                rw [e4] at h
                obtain ⟨a', dx', vs', ev, ea', hl', R3, g3⟩ := putFld_at R2 e4 (p1.go g2) (.int (i + j)) hc
                cases ev
                exact ⟨dx', vs', ea', hl', h m2 _ σ (g2.trans g3) R3 ((E.go g1).go (g2.trans g3))⟩
            | _ => exact h.elim
          | exc x S2 => rw [e3] at h; exact fun m' H' cls dd g R' q => h m' H' σ cls dd g R' ((E.go g1).go g) q
          | stuck => rw [e3] at h; exact h
        | _ => exact h.elim
    | exc x S1 => rw [e] at h; exact fun m' H' cls dd g R' q => h m' H' σ cls dd g R' (E.go g) q
    | stuck => rw [e] at h; exact h
theorem cs_augNm {i : Nat} {x : Str} {e : Expr} {fe : FE} (hN : X.N.Nodup) (hi : X.N[i]? = some x) (hx : Loc X.env.scope x) (he : CE X W e fe) (hf : X.fn x = true ∨ X.env.scope.names.lookup x = some .local := by first | exact .inl rfl | exact .inr rfl | assumption) :
    CS X W (.AugAssign (.Name x pos') .Add e pos) (fAugNm i fe) :=
  PS.imp (ps_aug hN hi hx he ip_add hf) fun D σ H ⟨m, r, S, R, E, h⟩ => by
    unfold fAugNm at h
    cases e1 : r[i]? with
    | none => rw [e1] at h; exact h.elim
    | some od =>
      rw [e1] at h
      cases od with
      | none => exact h.elim
      | some d =>
        obtain ⟨v, hv, q⟩ := E.at_ i d e1
        cases q with
        | int a =>
          refine ⟨_, hv, m, r, S, R, E, ?_⟩
          dsimp only at h
          cases e3 : fe r S with
          | ok y S2 =>
            rw [e3] at h
            intro m2 H2 w g2 R2 p2
            dsimp only at h
            cases p2 with
            | int j => exact ⟨a, j, rfl, rfl, h m2 H2 _ g2 R2 ((E.go g2).set (.int _) i)⟩
            | _ => exact h.elim
          | exc x S2 => rw [e3] at h; exact fun m' H' cls dd g R' q => h m' H' σ cls dd g R' (E.go g) q
          | stuck => rw [e3] at h; exact h
        | _ => exact h.elim
end
end CL

set_option Elab.async false
set_option linter.all false
set_option maxRecDepth 100000
set_option maxHeartbeats 4000000
namespace CL
open PySem PySem.Spec PyProof.Rows L2
/-! ### data of trees -/
def optAll {α β : Type} (f : α → Option β) : List α → Option (List β)
  | [] => some []
  | a :: as => match f a with
    | some b => (match optAll f as with
      | some bs => some (b :: bs)
      | none => none)
    | none => none
def toD (S : Store) : Nat → D → Option PyData
  | 0, _ => none
  | _ + 1, .none => some .none
  | _ + 1, .bool b => some (.bool b)
  | _ + 1, .int i => some (.int i)
  | _ + 1, .str x => if PyData.strOk x = true then some (.str x) else none
  | n + 1, .tup ds => (optAll (toD S n) ds).map .tuple
  | n + 1, .ref l => match S[l]? with
    | some (.lst ds) => (optAll (toD S n) ds).map .list
    | some (.fro ds) => (optAll (toD S n) ds).map .list
    | _ => none
  | _ + 1, .gl _ => none
  | _ + 1, .exn _ _ => none
section
variable {K : PySem.W.Frag} {mg : MG} {m : List Addr} {S : Store} {H : Hp}
theorem optAll_dp {f : D → Option PyData} {n : Nat} (hf : ∀ d x v, f d = some x → Rep K mg m H d v → Dp K H v x ∧ x.canLay0 = true ∧ x.depth ≤ n) : ∀ {ds : List D} {xs : List PyData} {vs : List V}, optAll f ds = some xs → Reps K mg m H ds vs → DpAll K H vs xs ∧ PyData.canLayAll0 xs = true ∧ PyData.depthAll xs ≤ n
  | [], xs, vs, h, r => by
    cases r
    cases h
    exact ⟨.nil, rfl, Nat.zero_le _⟩
  | d :: ds, xs, vs, h, r => by
    cases r with
    | cons r1 r2 =>
      unfold optAll at h
      cases e1 : f d with
      | none => rw [e1] at h; cases h
      | some x =>
        rw [e1] at h
        cases e2 : optAll f ds with
        | none => rw [e2] at h; cases h
        | some ys =>
          rw [e2] at h
          cases h
          obtain ⟨a1, a2, a3⟩ := hf d x _ e1 r1
          obtain ⟨b1, b2, b3⟩ := optAll_dp hf e2 r2
          refine ⟨.cons a1 b1, ?_, ?_⟩
          · show (x.canLay0 && PyData.canLayAll0 ys) = true
            rw [a2, b2]; rfl
          · show max x.depth (PyData.depthAll ys) ≤ n
            omega
theorem toD_dp (R : Rel K mg m S H) : ∀ (n : Nat) (d : D) (x : PyData) (v : V), toD S n d = some x → Rep K mg m H d v → Dp K H v x ∧ x.canLay0 = true ∧ x.depth ≤ n
  | 0, d, x, v, h, r => by cases h
  | n + 1, d, x, v, h, r => by
    cases r with
    | none => cases h; exact ⟨.non, rfl, Nat.zero_le _⟩
    | bool b => cases h; exact ⟨.bl b, rfl, Nat.zero_le _⟩
    | int i => cases h; exact ⟨.int i, rfl, Nat.zero_le _⟩
    | str z =>
      have h : (if PyData.strOk z = true then some (PyData.str z) else none) = some x := h
      by_cases hz : PyData.strOk z = true
      · rw [if_pos hz] at h; cases h; exact ⟨.str z, hz, Nat.zero_le _⟩
      · rw [if_neg hz] at h; cases h
    | @tup a ds vs hs hr =>
      have h : (optAll (toD S n) ds).map PyData.tuple = some x := h
      cases e : optAll (toD S n) ds with
      | none => rw [e] at h; cases h
      | some xs =>
        rw [e] at h
        cases h
        obtain ⟨b1, b2, b3⟩ := optAll_dp (toD_dp R n) e hr
        refine ⟨.tup hs b1, b2, ?_⟩
        show PyData.depthAll xs + 1 ≤ n + 1
        omega
    | @ref l a ha =>
      obtain ⟨o, ho, hob⟩ := R.place ha
      simp only [toD, ho] at h
      cases o with
      | lst ds =>
        dsimp only at h
        obtain ⟨vs, q1, q2⟩ := hob
        cases e : optAll (toD S n) ds with
        | none => rw [e] at h; cases h
        | some xs =>
          rw [e] at h
          cases h
          obtain ⟨b1, b2, b3⟩ := optAll_dp (toD_dp R n) e q2
          refine ⟨.lst (SqL.of q1) b1, b2, ?_⟩
          show PyData.depthAll xs + 1 ≤ n + 1
          omega
      | fro ds =>
        dsimp only at h
        obtain ⟨ob, vs, q1, q2⟩ := hob
        cases e : optAll (toD S n) ds with
        | none => rw [e] at h; cases h
        | some xs =>
          rw [e] at h
          cases h
          obtain ⟨b1, b2, b3⟩ := optAll_dp (toD_dp R n) e q2
          refine ⟨.lst (.inl (.inr ⟨ob, q1⟩)) b1, b2, ?_⟩
          show PyData.depthAll xs + 1 ≤ n + 1
          omega
      | inst c fs => cases h
      | dic k => cases h
      | dis k => cases h
    | gl e => cases h
theorem toD_shaped (R : Rel K mg m S H) {d : D} {x : PyData} {v : V} (h : toD S 60 d = some x) (r : Rep K mg m H d v) : Dp K H v x ∧ SeqAt.shaped x = true := by
  obtain ⟨a, b, c⟩ := toD_dp R 60 d x v h r
  refine ⟨a, ?_⟩
  show (x.canLay0 && decide (x.depth ≤ 64)) = true
  rw [b, decide_eq_true (by omega : x.depth ≤ 64)]; rfl
end
/-! ### operators -/
def eqD (S : Store) : D → D → Option Bool
  | .int i, .int j => some (decide (i = j))
  | .str x, .str y => some (decide (x = y))
  | a, b => match toD S 60 a with
    | some x => (match toD S 60 b with
      | some y => some (PyData.eqv x y)
      | none => none)
    | none => none
def opEq (a b : D) (S : Store) : Out D := match eqD S a b with
  | some k => .ok (.bool k) S
  | none => .stuck
def opNe (a b : D) (S : Store) : Out D := match eqD S a b with
  | some k => .ok (.bool (!k)) S
  | none => .stuck
def opAdd : D → D → Store → Out D
  | .int i, .int j, S => .ok (.int (i + j)) S
  | .str x, .str y, S => if x.length + y.length ≤ LINE then .ok (.str (x ++ y)) S else .stuck
  | .tup a, .tup b, S => if a.length + b.length ≤ LINE then .ok (.tup (a ++ b)) S else .stuck
  | .ref l, .ref k, S => (match S[l]? with
    | some (.lst a) => (match S[k]? with
      | some (.lst b) => if a.length + b.length ≤ LINE then .ok (.ref S.length) (S ++ [.lst (a ++ b)]) else .stuck
      | _ => .stuck)
    | _ => .stuck)
  | _, _, _ => .stuck
def opSub : D → D → Store → Out D
  | .int i, .int j, S => .ok (.int (i - j)) S
  | _, _, _ => .stuck
def b64 (i : Int) : Bool := decide (-(2 ^ 64) < i ∧ i < 2 ^ 64)
def opMul : D → D → Store → Out D
  | .int i, .int j, S => if b64 i || b64 j then .ok (.int (i * j)) S else .stuck
  | .str x, .int j, S => if decide (x.length ≤ 4095 ∧ j ≤ 4095 ∧ -(2 ^ 63) ≤ j) then .ok (.str (Txt.mul x j)) S else .stuck
  | .ref l, .int j, S => (match S[l]? with
    | some (.lst a) => if decide (-(2 ^ 63) ≤ j ∧ j < 2 ^ 63 ∧ a.length * j.toNat ≤ LINE) then .ok (.ref S.length) (S ++ [.lst (List.replicate j.toNat a).flatten]) else .stuck
    | _ => .stuck)
  | _, _, _ => .stuck
def opMod : D → D → Store → Out D
  | .int i, .int j, S => if decide (0 < j) then .ok (.int (i % j)) S else .stuck
  | _, _, _ => .stuck
def opDiv : D → D → Store → Out D
  | .int i, .int j, S => if decide (0 < j ∧ j < 1073741824) then .ok (.int (i / j)) S else .stuck
  | _, _, _ => .stuck
def opPow : D → D → Store → Out D
  | .int i, .int j, S => if decide (0 ≤ j ∧ j ≤ 1000000 ∧ i.natAbs < 2 ^ 64) then .ok (.int (i ^ j.toNat)) S else .stuck
  | _, _, _ => .stuck
def opLt : D → D → Store → Out D
  | .int i, .int j, S => .ok (.bool (decide (i < j))) S
  | _, _, _ => .stuck
def opLe : D → D → Store → Out D
  | .int i, .int j, S => .ok (.bool (decide (i ≤ j))) S
  | _, _, _ => .stuck
def opGt : D → D → Store → Out D
  | .int i, .int j, S => .ok (.bool (decide (j < i))) S
  | _, _, _ => .stuck
def opGe : D → D → Store → Out D
  | .int i, .int j, S => .ok (.bool (decide (j ≤ i))) S
  | _, _, _ => .stuck
/-- is None -/
def isNone : D → Bool
  | .none => true
  | _ => false
def opIsN (a : D) (b : D) (S : Store) : Out D := if isNone b = true then .ok (.bool (isNone a)) S else .stuck
def opNotN (a : D) (b : D) (S : Store) : Out D := if isNone b = true then .ok (.bool (!isNone a)) S else .stuck
/-- in -/
def flatD : D → Option V
  | .none => some .non
  | .bool b => some (.bl b)
  | .int i => some (.int i)
  | .str x => some (.str x)
  | _ => none
def inSeq (S : Store) (x : D) (ds : List D) : Option Bool := match flatD x with
  | some v => (match optAll flatD ds with
    | some vs => some (inV v vs)
    | none => none)
  | none => none
def inDeep (S : Store) (x : D) (ds : List D) : Option Bool := match toD S 60 x with
  | some v => (match optAll (toD S 59) ds with
    | some vs => some (vs.any fun z => PyData.eqv z v)
    | none => none)
  | none => none
def inD (S : Store) (x : D) : D → Option Bool
  | .str z => (match x with
    | .str y => if y.cps.size = 1 then some (decide (y.cps.getD 0 0 ∈ z.cps.toList)) else none
    | _ => none)
  | .tup ds => inSeq S x ds
  | .ref l => (match S[l]? with
    | some (.lst ds) => (match inSeq S x ds with
      | some b => some b
      | none => inDeep S x ds)
    | some (.fro ds) => (match inSeq S x ds with
      | some b => some b
      | none => inDeep S x ds)
    | _ => none)
  | _ => none
def opIn (a b : D) (S : Store) : Out D := match inD S a b with
  | some k => .ok (.bool k) S
  | none => .stuck
def opNotIn (a b : D) (S : Store) : Out D := match inD S a b with
  | some k => .ok (.bool (!k)) S
  | none => .stuck
/-- a[i] -/
def opIx (a b : D) (S : Store) : Out D := match b with
  | .int i => (match a with
    | .tup ds => (match atI ds i with
      | some d => .ok d S
      | none => .stuck)
    | .str z => if z.length ≤ LINE then (match atI z.cps.toList i with
      | some c => .ok (.str ⟨#[c]⟩) S
      | none => .stuck) else .stuck
    | .ref l => (match S[l]? with
      | some (.lst ds) => (match atI ds i with
        | some d => .ok d S
        | none => .stuck)
      | some (.fro ds) => (match atI ds i with
        | some d => .ok d S
        | none => .stuck)
      | _ => .stuck)
    | _ => .stuck)
  | _ => .stuck

section
variable {X : Cx} {W : WX}
theorem PoE.stop {K : PySem.W.Frag} {mg : MG} {σ : L2.St} {m : List Addr} {H : Hp} {Q : VK} (h : PoE K mg W σ m H Q .stuck) : False := h
theorem eqD_ok {K : PySem.W.Frag} {mg : MG} {m : List Addr} {S : Store} {H : Hp} (R : Rel K mg m S H) {a b : D} {x y : V} {k : Bool} (ra : Rep K mg m H a x) (rb : Rep K mg m H b y) (h : eqD S a b = some k) :
    (scal x y = true ∧ k = decide (x = y)) ∨ ∃ d e, Dp K H x d ∧ Dp K H y e ∧ SeqAt.shaped d = true ∧ SeqAt.shaped e = true ∧ k = PyData.eqv d e := by
  have gen : ∀ (e : (match toD S 60 a with | some x => (match toD S 60 b with | some y => some (PyData.eqv x y) | none => none) | none => none) = some k), ∃ d e, Dp K H x d ∧ Dp K H y e ∧ SeqAt.shaped d = true ∧ SeqAt.shaped e = true ∧ k = PyData.eqv d e := by
    intro e
    cases e1 : toD S 60 a with
    | none => rw [e1] at e; cases e
    | some d =>
      rw [e1] at e
      cases e2 : toD S 60 b with
      | none => rw [e2] at e; cases e
      | some d2 =>
        rw [e2] at e
        cases e
        obtain ⟨a1, a2⟩ := toD_shaped R e1 ra
        obtain ⟨b1, b2⟩ := toD_shaped R e2 rb
        exact ⟨d, d2, a1, b1, a2, b2, rfl⟩
  cases a with
  | int i =>
    cases b with
    | int j =>
      cases ra; cases rb
      refine .inl ⟨rfl, ?_⟩
      have h : some (decide (i = j)) = some k := h
      cases h
      by_cases z : i = j
      · subst z; simp
      · rw [decide_eq_false z, decide_eq_false fun q => z (V.int.inj q)]
    | _ => exact .inr (gen h)
  | str i =>
    cases b with
    | str j =>
      cases ra; cases rb
      refine .inl ⟨rfl, ?_⟩
      have h : some (decide (i = j)) = some k := h
      cases h
      by_cases z : i = j
      · subst z; simp
      · rw [decide_eq_false z, decide_eq_false fun q => z (V.str.inj q)]
    | _ => exact .inr (gen h)
  | _ => exact .inr (gen h)
theorem op2_eq (hu : X.A.units + 64 < cLine) : Op2 X W (compareOp .Eq) opEq := Op2.of fun σ H m S d e x y Q R r1 r2 h => by
  unfold opEq at h
  cases k : eqD S d e with
  | none => rw [k] at h; exact h.elim
  | some b =>
    rw [k] at h
    have q := h m H _ .refl R (.bool b)
    rcases eqD_ok R r1 r2 k with ⟨h1, h2⟩ | ⟨d1, e1, a1, a2, a3, a4, a5⟩
    · exact ⟨_, op_eq, h1, by rw [← h2]; exact q⟩
    · exact ⟨_, op_eqD hu, d1, e1, a1, a2, a3, a4, by rw [← a5]; exact q⟩
theorem op2_ne (hu : X.A.units + 64 < cLine) : Op2 X W (compareOp .NotEq) opNe := Op2.of fun σ H m S d e x y Q R r1 r2 h => by
  unfold opNe at h
  cases k : eqD S d e with
  | none => rw [k] at h; exact h.elim
  | some b =>
    rw [k] at h
    have q := h m H _ .refl R (.bool _)
    rcases eqD_ok R r1 r2 k with ⟨h1, h2⟩ | ⟨d1, e1, a1, a2, a3, a4, a5⟩
    · exact ⟨_, op_ne, h1, by rw [← h2]; exact q⟩
    · exact ⟨_, op_neD hu, d1, e1, a1, a2, a3, a4, by rw [← a5]; exact q⟩
theorem op2_add : Op2 X W (binaryOp .Add) opAdd := Op2.of fun σ H m S d e x y Q R r1 r2 h => by
  cases r1 with
  | int i =>
    cases r2 with
    | int j => exact ⟨_, op_add, i, j, rfl, rfl, h m H _ .refl R (.int _)⟩
    | _ => exact h.elim
  | str i =>
    cases r2 with
    | str j =>
      have h : PoE X.K X.MG W σ m H Q (if i.length + j.length ≤ LINE then .ok (.str (i ++ j)) S else .stuck) := h
      by_cases hz : i.length + j.length ≤ LINE
      · rw [if_pos hz] at h
        exact ⟨_, op_add_str, i, j, rfl, rfl, by rw [line_eq]; exact hz, h m H _ .refl R (.str _)⟩
      · rw [if_neg hz] at h; exact h.elim
    | _ => exact h.elim
  | @tup a ds vs hs hr =>
    cases r2 with
    | @tup b es us hs2 hr2 =>
      have h : PoE X.K X.MG W σ m H Q (if ds.length + es.length ≤ LINE then .ok (.tup (ds ++ es)) S else .stuck) := h
      by_cases hz : ds.length + es.length ≤ LINE
      · rw [if_pos hz] at h
        refine ⟨_, op_catA, a, b, vs, us, rfl, rfl, hs, hs2, by rw [line_eq, ← hr.length, ← hr2.length]; exact hz, fun z => ?_, fun _ z => ?_, fun _ _ p hp => ?_⟩
        · subst z
          cases hr
          exact h m H _ .refl R (.tup hs2 hr2)
        · subst z
          cases hr2
          refine h m H _ .refl R (.tup hs ?_)
          rw [List.append_nil]; exact hr
        · exact h m _ _ (goes_new hp) (R.beside hp) (.tup (SqT.of upd_same) ((hr.append hr2).go (goes_new hp)))
      · rw [if_neg hz] at h; exact h.elim
    | _ => exact h.elim
  | @ref l a ha =>
    cases r2 with
    | @ref k b hb =>
      obtain ⟨o, ho, hob⟩ := R.place ha
      obtain ⟨o2, ho2, hob2⟩ := R.place hb
      simp only [opAdd, ho, ho2] at h
      cases o with
      | lst ds =>
        cases o2 with
        | lst es =>
          dsimp only at h
          obtain ⟨vs, q1, q2⟩ := hob
          obtain ⟨us, q3, q4⟩ := hob2
          by_cases hz : ds.length + es.length ≤ LINE
          · rw [if_pos hz] at h
            refine ⟨_, op_cat, a, b, vs, us, rfl, rfl, q1, q3, by rw [line_eq, ← q2.length, ← q4.length]; exact hz, fun p hp => ?_⟩
            exact h _ _ _ (goes_more hp) (R.more hp ⟨_, upd_same, (q2.append q4).go (goes_more hp)⟩) (.ref (new_place R))
          · rw [if_neg hz] at h; exact h.elim
        | _ => exact h.elim
      | _ => exact h.elim
    | _ => exact h.elim
  | _ => exact h.elim
theorem op2_sub : Op2 X W (binaryOp .Sub) opSub := Op2.of fun σ H m S d e x y Q R r1 r2 h => by
  cases r1 with
  | int i =>
    cases r2 with
    | int j => exact ⟨_, op_sub, i, j, rfl, rfl, h m H _ .refl R (.int _)⟩
    | _ => exact h.elim
  | _ => exact h.elim
theorem op2_mod : Op2 X W (binaryOp .Mod) opMod := Op2.of fun σ H m S d e x y Q R r1 r2 h => by
  cases r1 with
  | int i =>
    cases r2 with
    | int j =>
      have h : PoE X.K X.MG W σ m H Q (if decide (0 < j) then .ok (.int (i % j)) S else .stuck) := h
      by_cases hz : 0 < j
      · rw [if_pos (decide_eq_true hz)] at h
        exact ⟨_, op_mod, i, j, rfl, rfl, hz, h m H _ .refl R (.int _)⟩
      · rw [if_neg (by simpa using hz)] at h; exact h.elim
    | _ => exact h.elim
  | _ => exact h.elim
theorem op2_div : Op2 X W (binaryOp .FloorDiv) opDiv := Op2.of fun σ H m S d e x y Q R r1 r2 h => by
  cases r1 with
  | int i =>
    cases r2 with
    | int j =>
      have h : PoE X.K X.MG W σ m H Q (if decide (0 < j ∧ j < 1073741824) then .ok (.int (i / j)) S else .stuck) := h
      by_cases hz : 0 < j ∧ j < 1073741824
      · rw [if_pos (decide_eq_true hz)] at h
        exact ⟨_, op_fdiv, i, j, rfl, rfl, hz, h m H _ .refl R (.int _)⟩
      · rw [if_neg (by simpa using hz)] at h; exact h.elim
    | _ => exact h.elim
  | _ => exact h.elim
theorem op2_pow : Op2 X W (binaryOp .Pow) opPow := Op2.of fun σ H m S d e x y Q R r1 r2 h => by
  cases r1 with
  | int i =>
    cases r2 with
    | int j =>
      have h : PoE X.K X.MG W σ m H Q (if decide (0 ≤ j ∧ j ≤ 1000000 ∧ i.natAbs < 2 ^ 64) then .ok (.int (i ^ j.toNat)) S else .stuck) := h
      by_cases hz : 0 ≤ j ∧ j ≤ 1000000 ∧ i.natAbs < 2 ^ 64
      · rw [if_pos (decide_eq_true hz)] at h
        exact ⟨_, op_pow, i, j, rfl, rfl, hz, h m H _ .refl R (.int _)⟩
      · rw [if_neg (by simpa using hz)] at h; exact h.elim
    | _ => exact h.elim
  | _ => exact h.elim
theorem Reps.rep {K : PySem.W.Frag} {mg : MG} {m : List Addr} {H : Hp} {ds : List D} {vs : List V} (r : Reps K mg m H ds vs) : ∀ n : Nat, Reps K mg m H (List.replicate n ds).flatten (List.replicate n vs).flatten
  | 0 => .nil
  | n + 1 => by
    rw [List.replicate_succ, List.replicate_succ, List.flatten_cons, List.flatten_cons]
    exact r.append (Reps.rep r n)
theorem op2_mul : Op2 X W (binaryOp .Mult) opMul := fun pins s σ H m S d e x y v u Q I R r1 r2 q1 q2 h => by
  cases r1 with
  | int i =>
    cases r2 with
    | int j =>
      have h : PoE X.K X.MG W σ m H Q (if (b64 i || b64 j) = true then .ok (.int (i * j)) S else .stuck) := h
      by_cases hz : (b64 i || b64 j) = true
      · rw [if_pos hz] at h
        refine op_mul pins s σ H _ _ v u Q I q1 q2 ⟨i, j, rfl, rfl, ?_, h m H _ .refl R (.int _)⟩
        rcases Bool.or_eq_true_iff.mp hz with z | z
        · exact .inl (of_decide_eq_true z)
        · exact .inr (of_decide_eq_true z)
      · rw [if_neg hz] at h; exact h.elim
    | _ => exact h.elim
  | str i =>
    cases r2 with
    | int j =>
      have h : PoE X.K X.MG W σ m H Q (if decide (i.length ≤ 4095 ∧ j ≤ 4095 ∧ -(2 ^ 63) ≤ j) then .ok (.str (Txt.mul i j)) S else .stuck) := h
      by_cases hz : i.length ≤ 4095 ∧ j ≤ 4095 ∧ -(2 ^ 63) ≤ j
      · rw [if_pos (decide_eq_true hz)] at h
        obtain ⟨t, rfl⟩ := q1
        obtain ⟨t', rfl⟩ := q2
        obtain ⟨z1, z2, z3⟩ := hz
        refine SB.mul (mulOk_of 4095 4095 z1 (by omega) (by omega) (by decide) (by decide)) ?_
        intro _ _
        exact ⟨.str _, H, I.tok _, ⟨_, rfl⟩, h m H _ .refl R (.str _)⟩
      · rw [if_neg (by simpa using hz)] at h; exact h.elim
    | _ => exact h.elim
  | @ref l a ha =>
    cases r2 with
    | int j =>
      obtain ⟨o, ho, hob⟩ := R.place ha
      simp only [opMul, ho] at h
      cases o with
      | lst ds =>
        dsimp only at h
        obtain ⟨vs, p1, p2⟩ := hob
        by_cases hz : -(2 ^ 63) ≤ j ∧ j < 2 ^ 63 ∧ ds.length * j.toNat ≤ LINE
        · rw [if_pos (decide_eq_true hz)] at h
          refine op_rep pins s σ H _ _ v u Q I q1 q2 ⟨a, j, vs, rfl, rfl, p1, hz.1, hz.2.1, by rw [line_eq, ← p2.length]; exact hz.2.2, fun p hp => ?_⟩
          exact h _ _ _ (goes_more hp) (R.more hp ⟨_, upd_same, (p2.rep _).go (goes_more hp)⟩) (.ref (new_place R))
        · rw [if_neg (by simpa using hz)] at h; exact h.elim
      | _ => exact h.elim
    | _ => exact h.elim
  | _ => exact h.elim
theorem op2_lt : Op2 X W (compareOp .Lt) opLt := Op2.of fun σ H m S d e x y Q R r1 r2 h => by
  cases r1 with
  | int i =>
    cases r2 with
    | int j => exact ⟨_, op_lt, i, j, rfl, rfl, h m H _ .refl R (.bool _)⟩
    | _ => exact h.elim
  | _ => exact h.elim
theorem op2_le : Op2 X W (compareOp .LtE) opLe := Op2.of fun σ H m S d e x y Q R r1 r2 h => by
  cases r1 with
  | int i =>
    cases r2 with
    | int j => exact ⟨_, op_le, i, j, rfl, rfl, h m H _ .refl R (.bool _)⟩
    | _ => exact h.elim
  | _ => exact h.elim
theorem op2_gt : Op2 X W (compareOp .Gt) opGt := Op2.of fun σ H m S d e x y Q R r1 r2 h => by
  cases r1 with
  | int i =>
    cases r2 with
    | int j => exact ⟨_, op_gt, i, j, rfl, rfl, h m H _ .refl R (.bool _)⟩
    | _ => exact h.elim
  | _ => exact h.elim
theorem op2_ge : Op2 X W (compareOp .GtE) opGe := Op2.of fun σ H m S d e x y Q R r1 r2 h => by
  cases r1 with
  | int i =>
    cases r2 with
    | int j => exact ⟨_, op_ge, i, j, rfl, rfl, h m H _ .refl R (.bool _)⟩
    | _ => exact h.elim
  | _ => exact h.elim
theorem isNone_ok {K : PySem.W.Frag} {mg : MG} {m : List Addr} {H : Hp} {d : D} {x : V} (r : Rep K mg m H d x) : isNone d = decide (x = .non) := by cases r <;> rfl
theorem op2_isN : Op2 X W (compareOp .Is) opIsN := Op2.of fun σ H m S d e x y Q R r1 r2 h => by
  unfold opIsN at h
  by_cases z : isNone e = true
  · rw [if_pos z] at h
    have z2 : y = .non := by rw [isNone_ok r2] at z; exact of_decide_eq_true z
    exact ⟨_, op_isN, z2, by rw [← isNone_ok r1]; exact h m H _ .refl R (.bool _)⟩
  · rw [if_neg z] at h; exact h.elim
theorem op2_notN : Op2 X W (compareOp .IsNot) opNotN := Op2.of fun σ H m S d e x y Q R r1 r2 h => by
  unfold opNotN at h
  by_cases z : isNone e = true
  · rw [if_pos z] at h
    have z2 : y = .non := by rw [isNone_ok r2] at z; exact of_decide_eq_true z
    exact ⟨_, op_notN, z2, by rw [← isNone_ok r1]; exact h m H _ .refl R (.bool _)⟩
  · rw [if_neg z] at h; exact h.elim
theorem flatD_ok {K : PySem.W.Frag} {mg : MG} {m : List Addr} {H : Hp} {d : D} {x v : V} (r : Rep K mg m H d x) (h : flatD d = some v) : x = v ∧ flatV x = true := by
  cases r <;> first | (cases h; exact ⟨rfl, rfl⟩) | cases h
theorem flatAll_ok {K : PySem.W.Frag} {mg : MG} {m : List Addr} {H : Hp} : ∀ {ds : List D} {xs vs : List V}, Reps K mg m H ds xs → optAll flatD ds = some vs → xs = vs ∧ xs.all flatV = true
  | [], _, _, .nil, h => by cases h; exact ⟨rfl, rfl⟩
  | d :: ds, _, _, .cons r1 r2, h => by
    unfold optAll at h
    cases e1 : flatD d with
    | none => rw [e1] at h; cases h
    | some v =>
      rw [e1] at h
      cases e2 : optAll flatD ds with
      | none => rw [e2] at h; cases h
      | some ws =>
        rw [e2] at h
        cases h
        obtain ⟨a1, a2⟩ := flatD_ok r1 e1
        obtain ⟨b1, b2⟩ := flatAll_ok r2 e2
        subst a1 b1
        exact ⟨rfl, by simp [a2, b2]⟩
theorem inSeq_ok {K : PySem.W.Frag} {mg : MG} {m : List Addr} {S : Store} {H : Hp} {a : D} {ds : List D} {x : V} {xs : List V} {k : Bool} (ra : Rep K mg m H a x) (rs : Reps K mg m H ds xs) (h : inSeq S a ds = some k) : flatV x = true ∧ xs.all flatV = true ∧ k = inV x xs := by
  unfold inSeq at h
  cases e1 : flatD a with
  | none => rw [e1] at h; cases h
  | some v =>
    rw [e1] at h
    cases e2 : optAll flatD ds with
    | none => rw [e2] at h; cases h
    | some ws =>
      rw [e2] at h
      cases h
      obtain ⟨a1, a2⟩ := flatD_ok ra e1
      obtain ⟨b1, b2⟩ := flatAll_ok rs e2
      subst a1 b1
      exact ⟨a2, b2, rfl⟩
theorem inDeep_ok {K : PySem.W.Frag} {mg : MG} {m : List Addr} {S : Store} {H : Hp} (R : Rel K mg m S H) {a : D} {ds : List D} {x : V} {xs : List V} {k : Bool} {b : Addr} (hb : SqL K H b xs) (ra : Rep K mg m H a x) (rs : Reps K mg m H ds xs) (h : inDeep S a ds = some k) :
    ∃ d es, Dp K H x d ∧ Dp K H (.ref b) (.list es) ∧ SeqAt.shaped d = true ∧ SeqAt.shaped (.list es) = true ∧ k = es.any fun z => PyData.eqv z d := by
  unfold inDeep at h
  cases e1 : toD S 60 a with
  | none => rw [e1] at h; cases h
  | some v =>
    rw [e1] at h
    cases e2 : optAll (toD S 59) ds with
    | none => rw [e2] at h; cases h
    | some ws =>
      rw [e2] at h
      cases h
      obtain ⟨a1, a2⟩ := toD_shaped R e1 ra
      obtain ⟨b1, b2, b3⟩ := optAll_dp (toD_dp R 59) e2 rs
      refine ⟨v, ws, a1, .lst hb b1, a2, ?_, rfl⟩
      show (PyData.canLayAll0 ws && decide (PyData.depthAll ws + 1 ≤ 64)) = true
      rw [b2, decide_eq_true (by omega : PyData.depthAll ws + 1 ≤ 64)]; rfl
/-- both ways of in -/
theorem in_ok {op : CmpOp} {neg : Bool} (hsq : OpR X (compareOp op) (rIn X.K neg)) (hsg : OpR X (compareOp op) (fun x y H Q => ∃ (c : Nat) (z : Str), x = .str ⟨#[c]⟩ ∧ y = .str z ∧ Q (.bl (if neg then !decide (c ∈ z.cps.toList) else decide (c ∈ z.cps.toList))) H))
    (hdp : OpR X (compareOp op) (fun x y H Q => ∃ d ds, Dp X.K H x d ∧ Dp X.K H y (.list ds) ∧ SeqAt.shaped d = true ∧ SeqAt.shaped (.list ds) = true ∧ Q (.bl (if neg then !(ds.any fun z => PyData.eqv z d) else ds.any fun z => PyData.eqv z d)) H)) :
    Op2 X W (compareOp op) (fun a b S => match inD S a b with | some k => .ok (.bool (if neg then !k else k)) S | none => .stuck) := Op2.of fun σ H m S d e x y Q R r1 r2 h => by
  cases k : inD S d e with
  | none => rw [k] at h; exact h.elim
  | some b =>
    rw [k] at h
    have q : Q (.bl (if neg then !b else b)) H := h m H _ .refl R (.bool _)
    cases r2 with
    | str z =>
      cases r1 with
      | str y =>
        have k2 : (if y.cps.size = 1 then some (decide (y.cps.getD 0 0 ∈ z.cps.toList)) else none) = some b := k
        by_cases hz : y.cps.size = 1
        · rw [if_pos hz] at k2
          cases k2
          obtain ⟨ys⟩ := y
          obtain ⟨l⟩ := ys
          match l, hz with
          | [c], _ => exact ⟨_, hsg, c, z, rfl, rfl, q⟩
        · rw [if_neg hz] at k2; cases k2
      | _ => cases k
    | @tup a ds vs hs hr =>
      obtain ⟨a1, a2, a3⟩ := inSeq_ok r1 hr (show inSeq S d ds = some b from k)
      exact ⟨_, hsq, a, vs, rfl, .inr hs, a1, a2, by subst a3; exact q⟩
    | @ref l a ha =>
      obtain ⟨o, ho, hob⟩ := R.place ha
      have both : ∀ (ds : List D) (vs : List V), SqL X.K H a vs → Reps X.K X.MG m H ds vs → (match inSeq S d ds with | some b => some b | none => inDeep S d ds) = some b → ∃ rr : R2, OpR X (compareOp op) rr ∧ rr x (.ref a) H Q := by
        intro ds vs hl hr k2
        cases e1 : inSeq S d ds with
        | some b' =>
          rw [e1] at k2
          cases k2
          obtain ⟨a1, a2, a3⟩ := inSeq_ok r1 hr e1
          exact ⟨_, hsq, a, vs, rfl, .inl hl, a1, a2, by subst a3; exact q⟩
        | none =>
          rw [e1] at k2
          obtain ⟨d1, es, c1, c2, c3, c4, c5⟩ := inDeep_ok R hl r1 hr k2
          exact ⟨_, hdp, d1, es, c1, c2, c3, c4, by subst c5; exact q⟩
      simp only [inD, ho] at k
      cases o with
      | lst ds =>
        obtain ⟨vs, q1, q2⟩ := hob
        exact both ds vs (SqL.of q1) q2 k
      | fro ds =>
        obtain ⟨ob, vs, q1, q2⟩ := hob
        exact both ds vs (.inl (.inr ⟨ob, q1⟩)) q2 k
      | _ => cases k
    | _ => cases k
theorem op2_in (hu : X.A.units + 65 < cLine) : Op2 X W (compareOp .In) opIn := fun pins s σ H m S d e x y v u Q I R r1 r2 q1 q2 h =>
  in_ok (neg := false) op_in_seq op_in_sign (op_inD hu) pins s σ H m S d e x y v u Q I R r1 r2 q1 q2 h
theorem op2_notIn (hu : X.A.units + 65 < cLine) : Op2 X W (compareOp .NotIn) opNotIn := fun pins s σ H m S d e x y v u Q I R r1 r2 q1 q2 h =>
  in_ok (neg := true) op_notIn_seq op_notIn_sign (op_notInD hu) pins s σ H m S d e x y v u Q I R r1 r2 q1 q2 h
/-! ### a[i] -/
theorem atI_reps {K : PySem.W.Frag} {mg : MG} {m : List Addr} {H : Hp} {ds : List D} {vs : List V} {i : Int} {d : D} (r : Reps K mg m H ds vs) (h : atI ds i = some d) : ∃ v, atI vs i = some v ∧ Rep K mg m H d v := by
  unfold atI at h ⊢
  rw [← r.length]
  cases e : ixN ds.length i with
  | none => rw [e] at h; cases h
  | some j => rw [e] at h; exact r.get h
variable {a b : Expr} {fa fb : FE} {pos : Pos}
theorem ce_ix (ha : CE X W a fa) (hb : CE X W b fb) (hs : PlainIx b := by exact fun _ _ => rfl) : CE X W (.Subscript a b pos) (fBin opIx fa fb) :=
  PE.imp (pe_ix ix_seq ha hb hs) fun σ H Q ⟨m, r, S, R, E, h⟩ => by
    obtain ⟨m', r', S', R', E', h⟩ := seqE R E h
    refine ⟨m', r', S', R', E', ?_⟩
    cases e : fa r' S' with
    | ok c S1 =>
      rw [e] at h
      intro m2 H2 v g R2 q
      obtain ⟨m1, S1', d, R1, E1, g1, p1, h1⟩ := h m2 H2 v g R2 q
      obtain ⟨m3, r3, S3, R3, E3, h3⟩ := seqE R1 E1 h1
      refine ⟨m3, r3, S3, R3, E3, ?_⟩
      cases e3 : fb r3 S3 with
      | ok cs S4 =>
        rw [e3] at h3
        intro m4 H4 u g4 R4 q4
        obtain ⟨m5, S5, i, R5, E5, g5, p5, h5⟩ := h3 m4 H4 u g4 R4 q4
        have p1' := p1.go g5
        cases p5 with
        | int i =>
          cases p1' with
          | @tup a ds vs hs hr =>
            have h5 : PoE X.K X.MG W σ m5 H4 Q (match atI ds i with | some d => .ok d S5 | none => .stuck) := h5
            cases e6 : atI ds i with
            | none => rw [e6] at h5; exact h5.elim
            | some d6 =>
              rw [e6] at h5
              obtain ⟨v6, w1, w2⟩ := atI_reps hr e6
              exact .inr (.inl ⟨a, vs, i, v6, rfl, rfl, hs, w1, h5 m5 H4 _ .refl R5 w2⟩)
          | str z =>
            have h5 : PoE X.K X.MG W σ m5 H4 Q (if z.length ≤ LINE then (match atI z.cps.toList i with | some c => .ok (.str ⟨#[c]⟩) S5 | none => .stuck) else .stuck) := h5
            by_cases hz : z.length ≤ LINE
            · rw [if_pos hz] at h5
              cases e6 : atI z.cps.toList i with
              | none => rw [e6] at h5; exact h5.elim
              | some c6 =>
                rw [e6] at h5
                exact .inr (.inr ⟨z, i, c6, rfl, rfl, by rw [line_eq]; exact hz, e6, h5 m5 H4 _ .refl R5 (.str _)⟩)
            · rw [if_neg hz] at h5; exact h5.elim
          | @ref l a ha =>
            obtain ⟨o, ho, hob⟩ := R5.place ha
            simp only [opIx, ho] at h5
            cases o with
            | lst ds =>
              obtain ⟨vs, q1, q2⟩ := hob
              dsimp only at h5
              cases e6 : atI ds i with
              | none => rw [e6] at h5; exact h5.elim
              | some d6 =>
                rw [e6] at h5
                obtain ⟨v6, w1, w2⟩ := atI_reps q2 e6
                exact .inl ⟨a, vs, i, v6, rfl, rfl, SqL.of q1, w1, h5 m5 H4 _ .refl R5 w2⟩
            | fro ds =>
              obtain ⟨ob, vs, q1, q2⟩ := hob
              dsimp only at h5
              cases e6 : atI ds i with
              | none => rw [e6] at h5; exact h5.elim
              | some d6 =>
                rw [e6] at h5
                obtain ⟨v6, w1, w2⟩ := atI_reps q2 e6
                exact .inl ⟨a, vs, i, v6, rfl, rfl, .inl (.inr ⟨ob, q1⟩), w1, h5 m5 H4 _ .refl R5 w2⟩
            | _ => exact h5.elim
          | _ => exact h5.elim
        | _ => exact h5.elim
      | exc x S1 => rw [e3] at h3; exact h3
      | stuck => rw [e3] at h3; exact h3
    | exc x S1 => rw [e] at h; exact h
    | stuck => rw [e] at h; exact h
end
end CL

set_option Elab.async false
set_option linter.all false
set_option maxRecDepth 100000
set_option maxHeartbeats 4000000
namespace CL
open PySem PySem.Spec PyProof.Rows L2
/-! ### slices -/
abbrev FO := Env → Store → Out (Option Int)
def fNoPart : FO := fun _ S => .ok none S
def fPart (a : FE) : FO := fun r S => (a r S).bind fun x S1 => match x with
  | .int i => .ok (some i) S1
  | _ => .stuck
def cutL {α : Type} (xs : List α) (lo hi : Option Int) : List α := (xs.drop (HT.sIx xs.length 0 lo)).take (HT.sIx xs.length xs.length hi - HT.sIx xs.length 0 lo)
def opSl (x : D) (lo hi : Option Int) (S : Store) : Out D := match x with
  | .tup ds => .ok (.tup (cutL ds lo hi)) S
  | .str z => if z.length ≤ LINE then .ok (.str (cutS z lo hi)) S else .stuck
  | .ref l => (match S[l]? with
    | some (.lst ds) => .ok (.ref S.length) (S ++ [.lst (cutL ds lo hi)])
    | some (.fro ds) => .ok (.ref S.length) (S ++ [.lst (cutL ds lo hi)])
    | _ => .stuck)
  | _ => .stuck
def fSlice (a : FE) (lo hi : FO) : FE := fun r S => (a r S).bind fun x S1 => (lo r S1).bind fun l S2 => (hi r S2).bind fun h S3 => opSl x l h S3
def rdO (K : PySem.W.Frag) (mg : MG) (W : WX) (f : FO) : TO := fun σ H Q => ∃ m r S, Rel K mg m S H ∧ EnvR K mg m H r σ ∧ Po K mg (fun _ _ (a b : Option Int) => a = b) W σ m H Q (f r S)
abbrev CO (X : Cx) (W : WX) (e : Option Expr) (f : FO) : Prop := PO X e (rdO X.K X.MG W f)
theorem PO.imp {X : Cx} {e : Option Expr} {t u : TO} (h : PO X e t) (k : ∀ σ H Q, u σ H Q → t σ H Q) : PO X e u := ⟨fun pins s σ H Q I q => h.run pins s σ H Q I (k σ H Q q)⟩
section
variable {K : PySem.W.Frag} {mg : MG} {W : WX} {σ : L2.St} {m : List Addr} {H : Hp} {r : CL.Env} {S : Store}
theorem seqO {α β : Type} {Rl : List Addr → Hp → α → β → Prop} {f : FO} {k : Option Int → Store → Out α} {Q : β → Hp → Prop} (R : Rel K mg m S H) (E : EnvR K mg m H r σ) (h : Po K mg Rl W σ m H Q ((f r S).bind k)) :
    rdO K mg W f σ H fun b H1 => ∃ m1 S1, Rel K mg m1 S1 H1 ∧ EnvR K mg m1 H1 r σ ∧ Goes K m H m1 H1 ∧ Po K mg Rl W σ m1 H1 Q (k b S1) := by
  refine ⟨m, r, S, R, E, ?_⟩
  cases e : f r S with
  | ok d S1 => rw [e] at h; exact fun m' H' v g R' q => by subst q; exact ⟨m', S1, R', E.go g, g, Po.go g h⟩
  | exc x S1 => rw [e] at h; exact h
  | stuck => rw [e] at h; exact h
/-- behind a reading -/
theorem rdE_mono {f : FE} {Q Q' : VK} (h : rdE K mg W f σ H Q) (k : ∀ v H1, Q v H1 → Q' v H1) : rdE K mg W f σ H Q' := by
  obtain ⟨m', r', S', R', E', h⟩ := h
  refine ⟨m', r', S', R', E', ?_⟩
  cases e : f r' S' with
  | ok c S1 => rw [e] at h; exact fun m2 H2 v g R2 q => k v H2 (h m2 H2 v g R2 q)
  | exc x S1 => rw [e] at h; exact h
  | stuck => rw [e] at h; exact h
theorem rdO_mono {f : FO} {Q Q' : Option Int → Hp → Prop} (h : rdO K mg W f σ H Q) (k : ∀ v H1, Q v H1 → Q' v H1) : rdO K mg W f σ H Q' := by
  obtain ⟨m', r', S', R', E', h⟩ := h
  refine ⟨m', r', S', R', E', ?_⟩
  cases e : f r' S' with
  | ok c S1 => rw [e] at h; exact fun m2 H2 v g R2 q => k v H2 (h m2 H2 v g R2 q)
  | exc x S1 => rw [e] at h; exact h
  | stuck => rw [e] at h; exact h
theorem rdA_mono {f : FA} {Q Q' : List V → Hp → Prop} (h : rdA K mg W f σ H Q) (k : ∀ v H1, Q v H1 → Q' v H1) : rdA K mg W f σ H Q' := by
  obtain ⟨m', r', S', R', E', h⟩ := h
  refine ⟨m', r', S', R', E', ?_⟩
  cases e : f r' S' with
  | ok c S1 => rw [e] at h; exact fun m2 H2 v g R2 q => k v H2 (h m2 H2 v g R2 q)
  | exc x S1 => rw [e] at h; exact h
  | stuck => rw [e] at h; exact h
theorem rdT_mono {f : FT} {Q Q' : Bool → Hp → Prop} (h : rdT K mg W f σ H Q) (k : ∀ v H1, Q v H1 → Q' v H1) : rdT K mg W f σ H Q' := by
  obtain ⟨m', r', S', R', E', h⟩ := h
  refine ⟨m', r', S', R', E', ?_⟩
  cases e : f r' S' with
  | ok c S1 => rw [e] at h; exact fun m2 H2 v g R2 q => k v H2 (h m2 H2 v g R2 q)
  | exc x S1 => rw [e] at h; exact h
  | stuck => rw [e] at h; exact h
theorem cutL_reps {ds : List D} {vs : List V} (r : Reps K mg m H ds vs) (lo hi : Option Int) : Reps K mg m H (cutL ds lo hi) (cutV vs lo hi) := by
  unfold cutL cutV
  rw [r.length]
  exact (r.drop _).take _
theorem cut_whole {α : Type} {xs : List α} {lo hi : Option Int} (h : HT.sIx xs.length 0 lo = 0 ∧ HT.sIx xs.length xs.length hi = xs.length) : cutL xs lo hi = xs := by
  unfold cutL
  rw [h.1, h.2]
  simp
end
section
variable {X : Cx} {W : WX} {pos : Pos} {a b c : Expr} {fa fb fc : FE}
theorem co_none : CO X W none fNoPart := PO.imp po_none fun σ H Q ⟨m, r, S, R, E, h⟩ => h m H none .refl R rfl
theorem co_some (h : CE X W a fa) : CO X W (some a) (fPart fa) := PO.imp (po_some h) fun σ H Q ⟨m, r, S, R, E, h⟩ => by
  refine rdE_mono (seqE R E h) fun v H1 ⟨m1, S1, d, R1, E1, g1, p1, h1⟩ => ?_
  cases p1 with
  | int i => exact ⟨i, rfl, h1 m1 H1 _ .refl R1 rfl⟩
  | _ => exact h1.elim
theorem ce_slice {lo hi : Option Expr} {flo fhi : FO} {p2 : Pos} (ha : CE X W a fa) (hl : CO X W lo flo) (hh : CO X W hi fhi) : CE X W (.Subscript a (.Slice lo hi none p2) pos) (fSlice fa flo fhi) :=
  PE.imp (pe_slice (sl_tupA.or (sl_list.or sl_str)) ha hl hh) fun σ H Q ⟨m, r, S, R, E, h⟩ => by
    refine rdE_mono (seqE R E h) fun v H1 ⟨m1, S1, d, R1, E1, g1, p1, h1⟩ => ?_
    refine rdO_mono (seqO R1 E1 h1) fun l H2 ⟨m2, S2, R2, E2, g2, h2⟩ => ?_
    refine rdO_mono (seqO R2 E2 h2) fun u H3 ⟨m3, S3, R3, E3, g3, h3⟩ => ?_
    have p3 := (p1.go g2).go g3
    cases p3 with
    | @tup q ds vs hs hr =>
      have h3 : PoE X.K X.MG W σ m3 H3 Q (.ok (.tup (cutL ds l u)) S3) := h3
      refine .inl ⟨q, vs, rfl, hs, fun z => ?_, fun z p hp => ?_⟩
      · refine h3 m3 H3 _ .refl R3 (.tup hs ?_)
        rw [← hr.length] at z
        rw [cut_whole z]; exact hr
      · exact h3 m3 _ _ (goes_new hp) (R3.beside hp) (.tup (SqT.of upd_same) ((cutL_reps hr l u).go (goes_new hp)))
    | str z =>
      have h3 : PoE X.K X.MG W σ m3 H3 Q (if z.length ≤ LINE then .ok (.str (cutS z l u)) S3 else .stuck) := h3
      by_cases hz : z.length ≤ LINE
      · rw [if_pos hz] at h3
        exact .inr (.inr ⟨z, rfl, by rw [line_eq]; exact hz, h3 m3 H3 _ .refl R3 (.str _)⟩)
      · rw [if_neg hz] at h3; exact h3.elim
    | @ref n q hq =>
      obtain ⟨o, ho, hob⟩ := R3.place hq
      simp only [opSl, ho] at h3
      cases o with
      | lst ds =>
        obtain ⟨vs, q1, q2⟩ := hob
        exact .inr (.inl ⟨q, vs, rfl, SqL.of q1, fun p hp => h3 _ _ _ (goes_more hp) (R3.more hp ⟨_, upd_same, (cutL_reps q2 l u).go (goes_more hp)⟩) (.ref (new_place R3))⟩)
      | fro ds =>
        obtain ⟨ob, vs, q1, q2⟩ := hob
        exact .inr (.inl ⟨q, vs, rfl, .inl (.inr ⟨ob, q1⟩), fun p hp => h3 _ _ _ (goes_more hp) (R3.more hp ⟨_, upd_same, (cutL_reps q2 l u).go (goes_more hp)⟩) (.ref (new_place R3))⟩)
      | _ => exact h3.elim
    | _ => exact h3.elim
/-! ### chains of two comparisons of ints -/
def cmpI (p : Int → Int → Bool) : D → D → Option Bool
  | .int i, .int j => some (p i j)
  | _, _ => none
def fChain (p q : Int → Int → Bool) (a b c : FE) : FE := fun r S => (a r S).bind fun x S1 => (b r S1).bind fun y S2 => match cmpI p x y with
  | some true => (c r S2).bind fun z S3 => (match cmpI q y z with
    | some k => .ok (.bool k) S3
    | none => .stuck)
  | some false => .ok (.bool false) S2
  | none => .stuck
theorem chain_rd {p q : Int → Int → Bool} {σ : L2.St} {H : Hp} {Q : VK} {K : PySem.W.Frag} {mg : MG} (h : rdE K mg W (fChain p q fa fb fc) σ H Q) : tChain (rI0 fun i j => .bl (p i j)) (rI0 fun i j => .bl (q i j)) (rdE K mg W fa) (rdE K mg W fb) (rdE K mg W fc) σ H Q := by
  obtain ⟨m, r, S, R, E, h⟩ := h
  refine rdE_mono (seqE R E h) fun v H1 ⟨m1, S1, d, R1, E1, g1, p1, h1⟩ => ?_
  refine rdE_mono (seqE R1 E1 h1) fun u H2 ⟨m2, S2, e, R2, E2, g2, p2, h2⟩ => ?_
  have p1' := p1.go g2
  obtain ⟨i, rfl⟩ : ∃ i, d = .int i := by cases d <;> first | exact ⟨_, rfl⟩ | exact h2.elim
  obtain ⟨j, rfl⟩ : ∃ j, e = .int j := by cases e <;> first | exact ⟨_, rfl⟩ | exact h2.elim
  cases p1'
  cases p2
  refine ⟨i, j, rfl, rfl, p i j, rfl, ?_⟩
  have h2 : PoE K mg W σ m2 H2 Q (match some (p i j) with
    | some true => (fc r S2).bind fun z S3 => (match cmpI q (.int j) z with | some k => .ok (.bool k) S3 | none => .stuck)
    | some false => .ok (.bool false) S2
    | none => .stuck) := h2
  cases e1 : p i j with
  | false => rw [e1] at h2; exact h2 m2 H2 _ .refl R2 (.bool false)
  | true =>
    rw [e1] at h2
    refine rdE_mono (seqE R2 E2 h2) fun w H3 ⟨m3, S3, z, R3, E3, g3, p3, h3⟩ => ?_
    cases p3 with
    | int k => exact ⟨j, k, rfl, rfl, h3 m3 H3 _ .refl R3 (.bool _)⟩
    | _ => exact h3.elim
theorem ce_chain {op op' : CmpOp} {p q : Int → Int → Bool} (ho : OpR X (compareOp op) (rI0 fun i j => .bl (p i j))) (ho' : OpR X (compareOp op') (rI0 fun i j => .bl (q i j))) (ha : CE X W a fa) (hb : CE X W b fb) (hc : CE X W c fc) (hm : lastMarks [op, op'] [b, c] = false := by with_unfolding_all rfl) :
    CE X W (.Compare a [op, op'] [b, c] pos) (fChain p q fa fb fc) := PE.imp (pe_chain ho ho' ha hb hc hm) fun σ H Q h => chain_rd h
theorem ct_chain {op op' : CmpOp} {p q : Int → Int → Bool} (ho : OpR X (compareOp op) (rI0 fun i j => .bl (p i j))) (ho' : OpR X (compareOp op') (rI0 fun i j => .bl (q i j))) (ha : CE X W a fa) (hb : CE X W b fb) (hc : CE X W c fc) (hm : lastMarks [op, op'] [b, c] = false := by with_unfolding_all rfl) :
    CT X W (.Compare a [op, op'] [b, c] pos) (fBl (fChain p q fa fb fc)) := PT.imp (pt_chain ho ho' ha hb hc hm) fun σ H Q ⟨m, r, S, R, E, h⟩ => by
  refine chain_rd (rdE_mono (seqE R E h) fun v H1 ⟨m1, S1, d, R1, E1, g1, p1, h1⟩ => ?_)
  cases p1 with
  | bool b => exact ⟨b, rfl, h1 m1 H1 _ .refl R1 rfl⟩
  | _ => exact h1.elim
def pLe (i j : Int) : Bool := decide (i ≤ j)
def pLt (i j : Int) : Bool := decide (i < j)
theorem opr_le : OpR X (compareOp .LtE) (rI0 fun i j => .bl (pLe i j)) := op_le
theorem opr_lt : OpR X (compareOp .Lt) (rI0 fun i j => .bl (pLt i j)) := op_lt
/-! ### -a -/
def opNeg : D → Store → Out D
  | .int i, S => .ok (.int (-i)) S
  | _, _ => .stuck
theorem ce_neg (ha : CE X W a fa) : CE X W (.UnaryOp .USub a pos) (fUn opNeg fa) := PE.imp (pe_un un_neg ha) fun σ H Q ⟨m, r, S, R, E, h⟩ => by
  refine rdE_mono (seqE R E h) fun v H1 ⟨m1, S1, d, R1, E1, g1, p1, h1⟩ => ?_
  cases p1 with
  | int i => exact ⟨i, rfl, h1 m1 H1 _ .refl R1 (.int _)⟩
  | _ => exact h1.elim
/-! ### a[i] = v -/
def setIx (S : Store) (o i v : D) : Option Store := match o, i with
  | .ref l, .int k => (match S[l]? with
    | some (.lst ds) => (match ixN ds.length k with
      | some j => some (S.set l (.lst (ds.set j v)))
      | none => none)
    | _ => none)
  | _, _ => none
def gIx (o i : FE) : FG := fun v r S => match o r S with
  | .ok x S1 => (match i r S1 with
    | .ok y S2 => (match setIx S2 x y v with
      | some S3 => .next r S3
      | none => .stuck)
    | .exc x S2 => .exc x r S2
    | .stuck => .stuck)
  | .exc x S1 => .exc x r S1
  | .stuck => .stuck
theorem cg_ix {o i : Expr} {fo fi : FE} (ho : CE X W o fo) (hi : CE X W i fi) (ha : ∀ v, assign (.Subscript o i pos) X.env v = (do
      let ov ← holding [v] (eval o X.env)
      let iv ← holding [v, ov] (eval i X.env)
      standAt pos
      holding [v, ov, iv] (setItem ov iv v)
      release [v, ov, iv] []) := by intro _; rfl) : CG X W (.Subscript o i pos) (gIx fo fi) :=
  PG.imp (pg_sub ho hi set_list ha) fun v σ H Q ⟨m, r, S, d, R, E, p, h⟩ => by
    unfold gIx at h
    refine ⟨m, r, S, R, E, ?_⟩
    cases e : fo r S with
    | ok x S1 =>
      rw [e] at h
      intro m1 H1 w g1 R1 p1
      refine ⟨m1, r, S1, R1, E.go g1, ?_⟩
      dsimp only at h
      have h := PoS.go g1 h
      cases e2 : fi r S1 with
      | ok y S2 =>
        rw [e2] at h
        intro m2 H2 u g2 R2 p2
        dsimp only at h
        cases e3 : setIx S2 x y d with
        | none => rw [e3] at h; exact h.elim
        | some S3 =>
          rw [e3] at h
          have p1' := p1.go g2
          cases p1' with
          | @ref l q hq =>
            cases p2 with
            | int k =>
              obtain ⟨ob, hob, hr⟩ := R2.place hq
              simp only [setIx, hob] at e3
              cases ob with
              | lst ds =>
                dsimp only at e3
                obtain ⟨vs, q1, q2⟩ := hr
                cases e4 : ixN ds.length k with
                | none => rw [e4] at e3; cases e3
                | some j =>
                  rw [e4] at e3
                  cases e3
                  have hm : Mut (H2 q) := by rw [q1]; trivial
                  have gw : Goes X.K m2 H2 m2 (upd H2 q (.lst (vs.set j v))) := goes_write hm
                  refine ⟨q, vs, k, j, rfl, rfl, q1, by rw [← q2.length]; exact e4, ?_⟩
                  exact h m2 _ σ (g2.trans gw) (R2.put (ob := .lst (ds.set j d)) hq hm ⟨_, upd_same, (q2.set ((p.go g1).go g2) j).go gw⟩) (((E.go g1).go g2).go gw)
              | _ => cases e3
            | _ => cases e3
          | _ => cases e3
      | exc x S2 => rw [e2] at h; exact fun m' H' cls dd g R' q => h m' H' σ cls dd g R' ((E.go g1).go g) q
      | stuck => rw [e2] at h; exact h
    | exc x S1 => rw [e] at h; exact fun m' H' cls dd g R' q => h m' H' σ cls dd g R' (E.go g) q
    | stuck => rw [e] at h; exact h
theorem plain_ix {fo fi : FE} : Plain (gIx fo fi) := fun d r S => by
  unfold gIx
  split
  · split
    · split <;> trivial
    · trivial
    · trivial
  · trivial
  · trivial
end
/-! ### built-in functions and methods -/
abbrev BF := List D → Store → Option (D × Store)
abbrev BM := D → List D → Store → Option (D × Store)
def fCB (g : BF) (a : FA) : FE := fun r S => (a r S).bind fun xs S1 => match g xs S1 with
  | some (d, S2) => .ok d S2
  | none => .stuck
def rdCB (K : PySem.W.Frag) (mg : MG) (g : BF) : List V → Hp → VK → Prop := fun xs H Q => ∃ m S ds d S', Rel K mg m S H ∧ Reps K mg m H ds xs ∧ g ds S = some (d, S') ∧ ∀ m' H' v, Goes K m H m' H' → Rel K mg m' S' H' → Rep K mg m' H' d v → Q v H'
def rdBM (K : PySem.W.Frag) (mg : MG) (g : BM) : V → List V → Hp → VK → Prop := fun x xs H Q => ∃ m S e ds d S', Rel K mg m S H ∧ Rep K mg m H e x ∧ Reps K mg m H ds xs ∧ g e ds S = some (d, S') ∧ ∀ m' H' v, Goes K m H m' H' → Rel K mg m' S' H' → Rep K mg m' H' d v → Q v H'
abbrev CallC (X : Cx) (f : Value) (g : BF) : Prop := CallR X f (rdCB X.K X.MG g)
abbrev MtC (X : Cx) (id : String) (g : BM) : Prop := MtR X id (rdBM X.K X.MG g)
theorem CallR.imp {X : Cx} {f : Value} {r r' : List V → Hp → VK → Prop} (h : CallR X f r) (k : ∀ xs H Q, r' xs H Q → r xs H Q) : CallR X f r' := fun pins s σ H xs us Q I rr q => h pins s σ H xs us Q I rr (k xs H Q q)
theorem MtR.imp {X : Cx} {id : String} {r r' : V → List V → Hp → VK → Prop} (h : MtR X id r) (k : ∀ x xs H Q, r' x xs H Q → r x xs H Q) : MtR X id r' := fun pins s σ H x xs v us Q I rx rr q => h pins s σ H x xs v us Q I rx rr (k x xs H Q q)
/-- the kind of a value, for its methods -/
def tyD (S : Store) (T : String) : D → Bool
  | .str _ => T == "str"
  | .int _ => T == "int"
  | .ref l => (match S[l]? with
    | some (.lst _) => T == "list"
    | some (.fro _) => T == "list"
    | _ => false)
  | _ => false
def fBM (T : String) (g : BM) (o : FE) (a : FA) : FE := fun r S => (o r S).bind fun x S1 => if tyD S1 T x = true then (a r S1).bind fun xs S2 => (match g x xs S2 with
  | some (d, S3) => .ok d S3
  | none => .stuck) else .stuck
section
variable {X : Cx} {W : WX} {pos p apos : Pos} {x : Str} {e o : Expr} {es : List Expr} {fas : FA} {fo : FE} {id T : String} {g : BF} {gm : BM} {name : Str}
theorem cb_rd {σ : L2.St} {H : Hp} {Q : VK} {K : PySem.W.Frag} {mg : MG} (h : rdE K mg W (fCB g fas) σ H Q) : rdA K mg W fas σ H fun vs H1 => rdCB K mg g vs H1 Q := by
  obtain ⟨m, r, S, R, E, h⟩ := h
  refine rdA_mono (seqA R E h) fun vs H1 ⟨m1, S1, ds, R1, E1, g1, p1, h1⟩ => ?_
  cases e : g ds S1 with
  | none => rw [e] at h1; exact h1.elim
  | some q => rw [e] at h1; exact ⟨m1, S1, ds, q.1, q.2, R1, p1, e, h1⟩
theorem ce_callB (hc : CallC X (.builtin id) g) (hg : Gl X x) (hm : X.mg x = none) (hv : bootBuiltins x = some (.builtin id)) (ha : CA X W (e :: es) fas) (hn : x ≠ "__name__" := by decide) (hdb : (x == ("__debug__" : Str)) = false := by decide)
    (he : starEach (e :: es) X.env = (false, eval e X.env) :: starEach es X.env := by rfl) (hpl : (backTo pos (starEach es X.env)).any (·.1) = false := by rfl) : CE X W (.Call (.Name x p) (e :: es) [] pos) (fCB g fas) :=
  PE.imp (pe_callB hc hg hm hv ha hn hdb he hpl) fun σ H Q h => cb_rd h
theorem ce_callTy (hc : CallC X (.type T) g) (hg : Gl X x) (hm : X.mg x = none) (hv : bootBuiltins x = some (.type T)) (ha : CA X W (e :: es) fas) (hn : x ≠ "__name__" := by decide) (hdb : (x == ("__debug__" : Str)) = false := by decide)
    (he : starEach (e :: es) X.env = (false, eval e X.env) :: starEach es X.env := by rfl) (hpl : (backTo pos (starEach es X.env)).any (·.1) = false := by rfl) : CE X W (.Call (.Name x p) (e :: es) [] pos) (fCB g fas) :=
  PE.imp (pe_callTy hc hg hm hv ha hn hdb he hpl) fun σ H Q h => cb_rd h
theorem tyD_ok {K : PySem.W.Frag} {mg : MG} {m : List Addr} {S : Store} {H : Hp} {d : D} {v : V} (R : Rel K mg m S H) (r : Rep K mg m H d v) (h : tyD S T d = true) : tyV K T v H := by
  cases r with
  | str z => exact eq_of_beq (show (T == "str") = true from h)
  | int i => exact eq_of_beq (show (T == "int") = true from h)
  | @ref l a ha =>
    obtain ⟨ob, hob, hr⟩ := R.place ha
    simp only [tyD, hob] at h
    cases ob with
    | lst ds => obtain ⟨vs, q1, q2⟩ := hr; exact .inl ⟨eq_of_beq h, vs, SqL.of q1⟩
    | fro ds => obtain ⟨o, vs, q1, q2⟩ := hr; exact .inl ⟨eq_of_beq h, vs, .inl (.inr ⟨o, q1⟩)⟩
    | _ => cases h
  | _ => cases h
theorem ce_bm (pa : PlainAttrs T) (slot : Slot T name id) (hty : typeOf (.builtin id) = pure (.type "method_descriptor")) (hm : MtC X id gm) (ho : CE X W o fo) (ha : CA X W (e :: es) fas)
    (hbase : attributeBase o name X.env (eval o X.env) = eval o X.env := by rfl)
    (hfew : ((backTo pos (starEach (e :: es) X.env)).all (fun x => !x.1) && (backToKw pos (keywordEach [] X.env)).all (fun x => x.1.isSome)
      && decide ((e :: es).length + ([] : List Keyword).length + (if ([] : List Keyword).isEmpty then 0 else 1) < 30)) = true := by rfl)
    (hline : (apos.endLine == pos.line) = true := by rfl) (hs : starEach (e :: es) X.env = (false, eval e X.env) :: starEach es X.env := by rfl) (hplain : (backTo pos (starEach es X.env)).any (·.1) = false := by rfl) :
    CE X W (.Call (.Attribute o name apos) (e :: es) [] pos) (fBM T gm fo fas) :=
  PE.imp (pe_bm pa slot hty hm ho ha hbase hfew hline hs hplain) fun σ H Q ⟨m, r, S, R, E, h⟩ => by
    refine rdE_mono (seqE R E h) fun v H1 ⟨m1, S1, d, R1, E1, g1, p1, h1⟩ => ?_
    by_cases ht : tyD S1 T d = true
    · rw [if_pos ht] at h1
      refine ⟨tyD_ok R1 p1 ht, ?_⟩
      refine rdA_mono (seqA R1 E1 h1) fun vs H2 ⟨m2, S2, ds, R2, E2, g2, p2, h2⟩ => ?_
      cases e : gm d ds S2 with
      | none => rw [e] at h2; exact h2.elim
      | some q => rw [e] at h2; exact ⟨m2, S2, d, ds, q.1, q.2, R2, p1.go g2, p2, e, h2⟩
    · rw [if_neg ht] at h1; exact h1.elim
theorem ce_bm0 (pa : PlainAttrs T) (slot : Slot T name id) (hty : typeOf (.builtin id) = pure (.type "method_descriptor")) (hm : MtC X id gm) (ho : CE X W o fo)
    (hbase : attributeBase o name X.env (eval o X.env) = eval o X.env := by rfl) (hline : (apos.endLine == pos.line) = true := by rfl) : CE X W (.Call (.Attribute o name apos) [] [] pos) (fBM T gm fo fNil) :=
  PE.imp (pe_bm0 pa slot hty hm ho hbase hline) fun σ H Q ⟨m, r, S, R, E, h⟩ => by
    refine rdE_mono (seqE R E h) fun v H1 ⟨m1, S1, d, R1, E1, g1, p1, h1⟩ => ?_
    by_cases ht : tyD S1 T d = true
    · rw [if_pos ht] at h1
      have h1 : PoE X.K X.MG W σ m1 H1 Q (match gm d [] S1 with | some (d, S3) => .ok d S3 | none => .stuck) := h1
      refine ⟨tyD_ok R1 p1 ht, ?_⟩
      cases e : gm d [] S1 with
      | none => rw [e] at h1; exact h1.elim
      | some q => rw [e] at h1; exact ⟨m1, S1, d, [], q.1, q.2, R1, p1, .nil, e, h1⟩
    · rw [if_neg ht] at h1; exact h1.elim
end
end CL

set_option Elab.async false
set_option linter.all false
set_option maxRecDepth 100000
set_option maxHeartbeats 4000000
namespace CL
open PySem PySem.Spec PyProof.Rows L2
/-! ### one argument -/
section
variable {K : PySem.W.Frag} {mg : MG} {m : List Addr} {H : Hp}
theorem Reps.one {d : D} {xs : List V} (r : Reps K mg m H [d] xs) : ∃ x, xs = [x] ∧ Rep K mg m H d x := by
  cases r with
  | cons a b => cases b; exact ⟨_, rfl, a⟩
theorem Reps.two {d e : D} {xs : List V} (r : Reps K mg m H [d, e] xs) : ∃ x y, xs = [x, y] ∧ Rep K mg m H d x ∧ Rep K mg m H e y := by
  cases r with
  | cons a b =>
    cases b with
    | cons b c => cases c; exact ⟨_, _, rfl, a, b⟩
theorem Reps.zero {xs : List V} (r : Reps K mg m H [] xs) : xs = [] := by cases r; rfl
/-- a list of the store, read -/
theorem Rel.list {S : Store} (R : Rel K mg m S H) {l : Nat} {a : Addr} {ds : List D} (ha : m[l]? = some a) (h : S[l]? = some (.lst ds) ∨ S[l]? = some (.fro ds)) : ∃ vs, SqL K H a vs ∧ Reps K mg m H ds vs := by
  rcases h with h | h
  · obtain ⟨vs, q1, q2⟩ := R.ob l _ a h ha; exact ⟨vs, SqL.of q1, q2⟩
  · obtain ⟨o, vs, q1, q2⟩ := R.ob l _ a h ha; exact ⟨vs, .inl (.inr ⟨o, q1⟩), q2⟩
end
/-- the list at a place -/
def lstAt (S : Store) (l : Nat) : Option (List D) := match S[l]? with
  | some (.lst ds) => some ds
  | some (.fro ds) => some ds
  | _ => none
theorem lstAt_or {S : Store} {l : Nat} {ds : List D} (h : lstAt S l = some ds) : S[l]? = some (.lst ds) ∨ S[l]? = some (.fro ds) := by
  unfold lstAt at h
  split at h
  · rename_i e; cases h; exact .inl e
  · rename_i e; cases h; exact .inr e
  · cases h
/-- a list or a tuple -/
def seqOf (S : Store) : D → Option (List D)
  | .tup ds => some ds
  | .ref l => lstAt S l
  | _ => none
theorem seqOf_ok {K : PySem.W.Frag} {mg : MG} {m : List Addr} {H : Hp} {S : Store} (R : Rel K mg m S H) {d : D} {v : V} {ds : List D} (r : Rep K mg m H d v) (h : seqOf S d = some ds) : ∃ a vs, v = .ref a ∧ (SqL K H a vs ∨ SqT K H a vs) ∧ Reps K mg m H ds vs := by
  cases r with
  | tup hs hr => cases h; exact ⟨_, _, rfl, .inr hs, hr⟩
  | @ref l a ha => obtain ⟨vs, q1, q2⟩ := R.list ha (lstAt_or h); exact ⟨a, vs, rfl, .inl q1, q2⟩
  | _ => cases h
/-! ### len -/
def lenD (S : Store) : D → Option Nat
  | .str z => if z.length ≤ LINE then some z.length else none
  | d => (seqOf S d).map List.length
def bLen : BF
  | [d], S => (lenD S d).map fun (n : Nat) => (.int n, S)
  | _, _ => none
section
variable {X : Cx}
theorem cc_len : CallC X (.builtin "len") bLen := CallR.imp (call_len_seq.or call_len_str) fun xs H Q ⟨m, S, ds, d, S', R, r, h, q⟩ => by
  match ds, h with
  | [e], h =>
    obtain ⟨x, rfl, rx⟩ := r.one
    have gen : ∀ es, seqOf S e = some es → (d, S') = (.int (es.length : Nat), S) → (∃ p ys, [x] = [.ref p] ∧ (SqL X.K H p ys ∨ SqT X.K H p ys) ∧ Q (.int ys.length) H) ∨ ∃ z, [x] = [.str z] ∧ z.length ≤ sizeLine ∧ Q (.int z.length) H := by
      intro es h1 h2
      cases h2
      obtain ⟨a, vs, rfl, hs, hr⟩ := seqOf_ok R rx h1
      refine .inl ⟨a, vs, rfl, hs, ?_⟩
      rw [← hr.length]
      exact q m H _ .refl R (.int _)
    have h : (lenD S e).map (fun (n : Nat) => (D.int n, S)) = some (d, S') := h
    cases rx with
    | str z =>
      have h : (if z.length ≤ LINE then some z.length else none).map (fun (n : Nat) => (D.int n, S)) = some (d, S') := h
      by_cases hz : z.length ≤ LINE
      · rw [if_pos hz] at h
        cases h
        exact .inr ⟨z, rfl, by rw [line_eq]; exact hz, q m H _ .refl R (.int _)⟩
      · rw [if_neg hz] at h; cases h
    | tup hs hr => cases h; exact gen _ rfl rfl
    | @ref l a ha =>
      cases e1 : lstAt S l with
      | none => simp [lenD, seqOf, e1] at h
      | some es =>
        simp [lenD, seqOf, e1] at h
        exact gen es e1 (by rw [← h.1, ← h.2])
    | _ => cases h
/-! ### abs, int, str, min, max -/
def bAbs : BF
  | [.int i], S => some (.int (if i < 0 then -i else i), S)
  | _, _ => none
theorem cc_abs : CallC X (.builtin "abs") bAbs := CallR.imp call_abs fun xs H Q ⟨m, S, ds, d, S', R, r, h, q⟩ => by
  match ds, h with
  | [.int i], h =>
    obtain ⟨x, rfl, rx⟩ := r.one
    cases rx
    cases h
    exact ⟨i, rfl, q m H _ .refl R (.int _)⟩
def bInt : BF
  | [.int i], S => some (.int i, S)
  | [.bool b], S => some (.int (if b then 1 else 0), S)
  | [.str x], S => if x.length ≤ 640 then (PySem.intText? x).map fun n => (.int n, S) else none
  | _, _ => none
theorem cc_int : CallC X (.type "int") bInt := CallR.imp (call_int1.or call_int_str) fun xs H Q ⟨m, S, ds, d, S', R, r, h, q⟩ => by
  match ds, h with
  | [.int i], h =>
    obtain ⟨x, rfl, rx⟩ := r.one
    cases rx; cases h
    exact .inl (.inl ⟨i, rfl, q m H _ .refl R (.int _)⟩)
  | [.bool b], h =>
    obtain ⟨x, rfl, rx⟩ := r.one
    cases rx; cases h
    exact .inl (.inr ⟨b, rfl, q m H _ .refl R (.int _)⟩)
  | [.str z], h =>
    obtain ⟨x, rfl, rx⟩ := r.one
    cases rx
    have h : (if z.length ≤ 640 then (PySem.intText? z).map (fun n => (D.int n, S)) else none) = some (d, S') := h
    by_cases hz : z.length ≤ 640
    · rw [if_pos hz] at h
      cases e : PySem.intText? z with
      | none => rw [e] at h; cases h
      | some n =>
        rw [e] at h; cases h
        exact .inr ⟨z, n, rfl, e, hz, q m H _ .refl R (.int _)⟩
    · rw [if_neg hz] at h; cases h
def bStr : BF
  | [.int i], S => if i.natAbs.log2 < 1920 then some (.str (toString i), S) else none
  | _, _ => none
theorem cc_str : CallC X (.type "str") bStr := CallR.imp call_str_int fun xs H Q ⟨m, S, ds, d, S', R, r, h, q⟩ => by
  match ds, h with
  | [.int i], h =>
    obtain ⟨x, rfl, rx⟩ := r.one
    cases rx
    have h : (if i.natAbs.log2 < 1920 then some (D.str (toString i), S) else none) = some (d, S') := h
    by_cases hz : i.natAbs.log2 < 1920
    · rw [if_pos hz] at h; cases h
      exact ⟨i, rfl, hz, q m H _ .refl R (.str _)⟩
    · rw [if_neg hz] at h; cases h
def intsD : List D → Option (List Int)
  | [] => some []
  | .int i :: ds => (intsD ds).map (i :: ·)
  | _ => none
theorem intsD_ok {K : PySem.W.Frag} {mg : MG} {m : List Addr} {H : Hp} : ∀ {ds : List D} {vs : List V} {ns : List Int}, Reps K mg m H ds vs → intsD ds = some ns → vs = ns.map V.int
  | [], _, _, .nil, h => by cases h; rfl
  | .int i :: ds, _, _, .cons r1 r2, h => by
    cases r1
    have h : (intsD ds).map (i :: ·) = some _ := h
    cases e : intsD ds with
    | none => rw [e] at h; cases h
    | some ns => rw [e] at h; cases h; rw [intsD_ok r2 e]; rfl
  | .none :: _, _, _, _, h => by cases h
  | .bool _ :: _, _, _, _, h => by cases h
  | .str _ :: _, _, _, _, h => by cases h
  | .tup _ :: _, _, _, _, h => by cases h
  | .ref _ :: _, _, _, _, h => by cases h
  | .gl _ :: _, _, _, _, h => by cases h
  | .exn _ _ :: _, _, _, _, h => by cases h
def boolsD : List D → Option (List Bool)
  | [] => some []
  | .bool i :: ds => (boolsD ds).map (i :: ·)
  | _ => none
theorem boolsD_ok {K : PySem.W.Frag} {mg : MG} {m : List Addr} {H : Hp} : ∀ {ds : List D} {vs : List V} {ns : List Bool}, Reps K mg m H ds vs → boolsD ds = some ns → vs = ns.map V.bl
  | [], _, _, .nil, h => by cases h; rfl
  | .bool i :: ds, _, _, .cons r1 r2, h => by
    cases r1
    have h : (boolsD ds).map (i :: ·) = some _ := h
    cases e : boolsD ds with
    | none => rw [e] at h; cases h
    | some ns => rw [e] at h; cases h; rw [boolsD_ok r2 e]; rfl
  | .none :: _, _, _, _, h => by cases h
  | .int _ :: _, _, _, _, h => by cases h
  | .str _ :: _, _, _, _, h => by cases h
  | .tup _ :: _, _, _, _, h => by cases h
  | .ref _ :: _, _, _, _, h => by cases h
  | .gl _ :: _, _, _, _, h => by cases h
  | .exn _ _ :: _, _, _, _, h => by cases h
def strsD : List D → Option (List Str)
  | [] => some []
  | .str i :: ds => (strsD ds).map (i :: ·)
  | _ => none
theorem strsD_ok {K : PySem.W.Frag} {mg : MG} {m : List Addr} {H : Hp} : ∀ {ds : List D} {vs : List V} {ns : List Str}, Reps K mg m H ds vs → strsD ds = some ns → vs = ns.map V.str
  | [], _, _, .nil, h => by cases h; rfl
  | .str i :: ds, _, _, .cons r1 r2, h => by
    cases r1
    have h : (strsD ds).map (i :: ·) = some _ := h
    cases e : strsD ds with
    | none => rw [e] at h; cases h
    | some ns => rw [e] at h; cases h; rw [strsD_ok r2 e]; rfl
  | .none :: _, _, _, _, h => by cases h
  | .bool _ :: _, _, _, _, h => by cases h
  | .int _ :: _, _, _, _, h => by cases h
  | .tup _ :: _, _, _, _, h => by cases h
  | .ref _ :: _, _, _, _, h => by cases h
  | .gl _ :: _, _, _, _, h => by cases h
  | .exn _ _ :: _, _, _, _, h => by cases h
theorem reps_strs {K : PySem.W.Frag} {mg : MG} {m : List Addr} {H : Hp} : ∀ ys : List Str, Reps K mg m H (ys.map D.str) (ys.map V.str)
  | [] => .nil
  | y :: ys => .cons (.str y) (reps_strs ys)
/-- the least, the greatest of a list that is not empty -/
def minL : List Int → Option Int
  | [] => none
  | i :: is => some (is.foldl (fun a b => if b < a then b else a) i)
def maxL : List Int → Option Int
  | [] => none
  | i :: is => some (is.foldl (fun a b => if b > a then b else a) i)
theorem minL_le : ∀ (is : List Int) (i : Int), (is.foldl (fun a b => if b < a then b else a) i ∈ i :: is) ∧ ∀ y ∈ i :: is, is.foldl (fun a b => if b < a then b else a) i ≤ y
  | [], i => by simp
  | j :: is, i => by
    rw [List.foldl_cons]
    by_cases z : j < i
    · rw [if_pos z]
      obtain ⟨h1, h2⟩ := minL_le is j
      have h3 := h2 j (by simp)
      refine ⟨List.mem_cons_of_mem _ h1, fun y hy => ?_⟩
      rcases List.mem_cons.mp hy with e | e
      · subst e; omega
      · exact h2 y e
    · rw [if_neg z]
      obtain ⟨h1, h2⟩ := minL_le is i
      have h3 := h2 i (by simp)
      refine ⟨?_, fun y hy => ?_⟩
      · rcases List.mem_cons.mp h1 with e | e
        · rw [e]; simp
        · exact List.mem_cons_of_mem _ (List.mem_cons_of_mem _ e)
      · rcases List.mem_cons.mp hy with e | e
        · subst e; exact h3
        · rcases List.mem_cons.mp e with e | e
          · subst e; omega
          · exact h2 y (List.mem_cons_of_mem _ e)
theorem maxL_ge : ∀ (is : List Int) (i : Int), (is.foldl (fun a b => if b > a then b else a) i ∈ i :: is) ∧ ∀ y ∈ i :: is, y ≤ is.foldl (fun a b => if b > a then b else a) i
  | [], i => by simp
  | j :: is, i => by
    rw [List.foldl_cons]
    by_cases z : j > i
    · rw [if_pos z]
      obtain ⟨h1, h2⟩ := maxL_ge is j
      have h3 := h2 j (by simp)
      refine ⟨List.mem_cons_of_mem _ h1, fun y hy => ?_⟩
      rcases List.mem_cons.mp hy with e | e
      · subst e; omega
      · exact h2 y e
    · rw [if_neg z]
      obtain ⟨h1, h2⟩ := maxL_ge is i
      have h3 := h2 i (by simp)
      refine ⟨?_, fun y hy => ?_⟩
      · rcases List.mem_cons.mp h1 with e | e
        · rw [e]; simp
        · exact List.mem_cons_of_mem _ (List.mem_cons_of_mem _ e)
      · rcases List.mem_cons.mp hy with e | e
        · subst e; exact h3
        · rcases List.mem_cons.mp e with e | e
          · subst e; omega
          · exact h2 y (List.mem_cons_of_mem _ e)
def intsAt (S : Store) : D → Option (List Int)
  | .ref l => (lstAt S l).bind intsD
  | _ => none
theorem intsAt_ok {K : PySem.W.Frag} {mg : MG} {m : List Addr} {H : Hp} {S : Store} (R : Rel K mg m S H) {d : D} {v : V} {ns : List Int} (r : Rep K mg m H d v) (h : intsAt S d = some ns) : ∃ a, v = .ref a ∧ SqL K H a (ns.map V.int) := by
  cases r with
  | @ref l a ha =>
    have h : (lstAt S l).bind intsD = some ns := h
    cases e : lstAt S l with
    | none => rw [e] at h; cases h
    | some ds =>
      rw [e] at h
      obtain ⟨vs, q1, q2⟩ := R.list ha (lstAt_or e)
      rw [intsD_ok q2 h] at q1
      exact ⟨a, rfl, q1⟩
  | _ => cases h
def min2 : D → D → Option Int
  | .int i, .int j => some (if j < i then j else i)
  | _, _ => none
def bMin : BF
  | [d], S => ((intsAt S d).bind minL).map fun n => (.int n, S)
  | [a, b], S => (min2 a b).map fun n => (.int n, S)
  | _, _ => none
def max2 : D → D → Option Int
  | .int i, .int j => some (if j > i then j else i)
  | _, _ => none
def bMax : BF
  | [d], S => ((intsAt S d).bind maxL).map fun n => (.int n, S)
  | [a, b], S => (max2 a b).map fun n => (.int n, S)
  | _, _ => none
theorem cc_min (hc : X.calm = true) : CallC X (.builtin "min") bMin := CallR.imp ((call_min2 hc).or (cr_min hc)) fun xs H Q ⟨m, S, ds, d, S', R, r, h, q⟩ => by
  match ds, h with
  | [a, b], h =>
    obtain ⟨x, y, rfl, rx, ry⟩ := r.two
    have h : (min2 a b).map (fun n => (D.int n, S)) = some (d, S') := h
    obtain ⟨i, rfl⟩ : ∃ i, a = .int i := by cases a <;> first | exact ⟨_, rfl⟩ | cases h
    obtain ⟨j, rfl⟩ : ∃ j, b = .int j := by cases b <;> first | exact ⟨_, rfl⟩ | cases h
    cases rx; cases ry; cases h
    exact .inl ⟨i, j, rfl, q m H _ .refl R (.int _)⟩
  | [e], h =>
    obtain ⟨x, rfl, rx⟩ := r.one
    have h : ((intsAt S e).bind minL).map (fun n => (D.int n, S)) = some (d, S') := h
    cases e1 : intsAt S e with
    | none => rw [e1] at h; cases h
    | some ns =>
      rw [e1] at h
      obtain ⟨a, rfl, hs⟩ := intsAt_ok R rx e1
      cases ns with
      | nil => cases h
      | cons i is =>
        cases h
        refine .inr ⟨a, i :: is, rfl, hs, by simp, fun k hk hle => ?_⟩
        obtain ⟨h1, h2⟩ := minL_le is i
        have e : k = is.foldl (fun a b => if b < a then b else a) i := Int.le_antisymm (hle _ h1) (h2 k hk)
        rw [e]
        exact q m H _ .refl R (.int _)
theorem cc_max (hc : X.calm = true) : CallC X (.builtin "max") bMax := CallR.imp ((call_max2 hc).or (cr_max hc)) fun xs H Q ⟨m, S, ds, d, S', R, r, h, q⟩ => by
  match ds, h with
  | [a, b], h =>
    obtain ⟨x, y, rfl, rx, ry⟩ := r.two
    have h : (max2 a b).map (fun n => (D.int n, S)) = some (d, S') := h
    obtain ⟨i, rfl⟩ : ∃ i, a = .int i := by cases a <;> first | exact ⟨_, rfl⟩ | cases h
    obtain ⟨j, rfl⟩ : ∃ j, b = .int j := by cases b <;> first | exact ⟨_, rfl⟩ | cases h
    cases rx; cases ry; cases h
    exact .inl ⟨i, j, rfl, q m H _ .refl R (.int _)⟩
  | [e], h =>
    obtain ⟨x, rfl, rx⟩ := r.one
    have h : ((intsAt S e).bind maxL).map (fun n => (D.int n, S)) = some (d, S') := h
    cases e1 : intsAt S e with
    | none => rw [e1] at h; cases h
    | some ns =>
      rw [e1] at h
      obtain ⟨a, rfl, hs⟩ := intsAt_ok R rx e1
      cases ns with
      | nil => cases h
      | cons i is =>
        cases h
        refine .inr ⟨a, i :: is, rfl, hs, by simp, fun k hk hle => ?_⟩
        obtain ⟨h1, h2⟩ := maxL_ge is i
        have e : k = is.foldl (fun a b => if b > a then b else a) i := Int.le_antisymm (h2 k hk) (hle _ h1)
        rw [e]
        exact q m H _ .refl R (.int _)
def bSum : BF
  | [d], S => (intsAt S d).map fun ns => (.int ns.sum, S)
  | _, _ => none
theorem cc_sum (hc : X.calm = true) : CallC X (.builtin "sum") bSum := CallR.imp (cr_sum hc) fun xs H Q ⟨m, S, ds, d, S', R, r, h, q⟩ => by
  match ds, h with
  | [e], h =>
    obtain ⟨x, rfl, rx⟩ := r.one
    have h : (intsAt S e).map (fun ns => (D.int ns.sum, S)) = some (d, S') := h
    cases e1 : intsAt S e with
    | none => rw [e1] at h; cases h
    | some ns =>
      rw [e1] at h; cases h
      obtain ⟨a, rfl, hs⟩ := intsAt_ok R rx e1
      exact ⟨a, ns, rfl, hs, q m H _ .refl R (.int _)⟩
def boolsAt (S : Store) : D → Option (List Bool)
  | .ref l => (lstAt S l).bind boolsD
  | _ => none
theorem boolsAt_ok {K : PySem.W.Frag} {mg : MG} {m : List Addr} {H : Hp} {S : Store} (R : Rel K mg m S H) {d : D} {v : V} {ns : List Bool} (r : Rep K mg m H d v) (h : boolsAt S d = some ns) : ∃ a, v = .ref a ∧ SqL K H a (ns.map V.bl) := by
  cases r with
  | @ref l a ha =>
    have h : (lstAt S l).bind boolsD = some ns := h
    cases e : lstAt S l with
    | none => rw [e] at h; cases h
    | some ds =>
      rw [e] at h
      obtain ⟨vs, q1, q2⟩ := R.list ha (lstAt_or e)
      rw [boolsD_ok q2 h] at q1
      exact ⟨a, rfl, q1⟩
  | _ => cases h
def bAll : BF
  | [d], S => (boolsAt S d).map fun ns => (.bool (ns.all id), S)
  | _, _ => none
def bAny : BF
  | [d], S => (boolsAt S d).map fun ns => (.bool (ns.any id), S)
  | _, _ => none
theorem cc_all (hc : X.calm = true) : CallC X (.builtin "all") bAll := CallR.imp (cr_all hc) fun xs H Q ⟨m, S, ds, d, S', R, r, h, q⟩ => by
  match ds, h with
  | [e], h =>
    obtain ⟨x, rfl, rx⟩ := r.one
    have h : (boolsAt S e).map (fun ns => (D.bool (ns.all id), S)) = some (d, S') := h
    cases e1 : boolsAt S e with
    | none => rw [e1] at h; cases h
    | some ns =>
      rw [e1] at h; cases h
      obtain ⟨a, rfl, hs⟩ := boolsAt_ok R rx e1
      exact ⟨a, ns, rfl, hs, q m H _ .refl R (.bool _)⟩
theorem cc_any (hc : X.calm = true) : CallC X (.builtin "any") bAny := CallR.imp (cr_any hc) fun xs H Q ⟨m, S, ds, d, S', R, r, h, q⟩ => by
  match ds, h with
  | [e], h =>
    obtain ⟨x, rfl, rx⟩ := r.one
    have h : (boolsAt S e).map (fun ns => (D.bool (ns.any id), S)) = some (d, S') := h
    cases e1 : boolsAt S e with
    | none => rw [e1] at h; cases h
    | some ns =>
      rw [e1] at h; cases h
      obtain ⟨a, rfl, hs⟩ := boolsAt_ok R rx e1
      exact ⟨a, ns, rfl, hs, q m H _ .refl R (.bool _)⟩
/-! ### list(x), tuple(x) -/
def bList : BF
  | [d], S => (seqOf S d).map fun ds => (.ref S.length, S ++ [.lst ds])
  | _, _ => none
theorem cc_list : CallC X (.type "list") bList := CallR.imp call_list_of fun xs H Q ⟨m, S, ds, d, S', R, r, h, q⟩ => by
  match ds, h with
  | [e], h =>
    obtain ⟨x, rfl, rx⟩ := r.one
    have h : (seqOf S e).map (fun ds => (D.ref S.length, S ++ [.lst ds])) = some (d, S') := h
    cases e1 : seqOf S e with
    | none => rw [e1] at h; cases h
    | some es =>
      rw [e1] at h; cases h
      obtain ⟨a, vs, rfl, hs, hr⟩ := seqOf_ok R rx e1
      exact ⟨a, vs, rfl, hs, fun l hl => q _ _ _ (goes_more hl) (R.more hl ⟨vs, upd_same, hr.go (goes_more hl)⟩) (.ref (new_place R))⟩
def bTuple : BF
  | [d], S => (seqOf S d).map fun ds => (.tup ds, S)
  | _, _ => none
theorem cc_tuple : CallC X (.type "tuple") bTuple := CallR.imp call_tuple_of fun xs H Q ⟨m, S, ds, d, S', R, r, h, q⟩ => by
  match ds, h with
  | [e], h =>
    obtain ⟨x, rfl, rx⟩ := r.one
    have h : (seqOf S e).map (fun ds => (D.tup ds, S)) = some (d, S') := h
    cases e1 : seqOf S e with
    | none => rw [e1] at h; cases h
    | some es =>
      rw [e1] at h; cases h
      obtain ⟨a, vs, rfl, hs, hr⟩ := seqOf_ok R rx e1
      refine ⟨a, vs, rfl, ?_⟩
      rcases hs with hs | hs
      · exact .inl ⟨hs, fun l hl => q _ _ _ (goes_new hl) (R.beside hl) (.tup (SqT.of upd_same) (hr.go (goes_new hl)))⟩
      · exact .inr ⟨hs, q m H _ .refl R (.tup hs hr)⟩
/-! ### isinstance of a built-in class -/
def kindD (S : Store) : D → Option String
  | .none => some "NoneType"
  | .bool _ => some "bool"
  | .int _ => some "int"
  | .str _ => some "str"
  | .tup _ => some "tuple"
  | .ref l => (match S[l]? with
    | some (.lst _) => some "list"
    | some (.fro _) => some "list"
    | _ => none)
  | _ => none
def isiT (T t : String) : Bool := t == T || (t == "bool" && T == "int")
theorem kindD_ok {K : PySem.W.Frag} {mg : MG} {m : List Addr} {H : Hp} {S : Store} (R : Rel K mg m S H) {d : D} {v : V} {t : String} (r : Rep K mg m H d v) (h : kindD S d = some t) : TyX K H v (.type t) := by
  cases r with
  | none => cases h; exact .base .non
  | bool b => cases h; exact .base (.bl b)
  | int i => cases h; exact .base (.int i)
  | str z => cases h; exact .base (.str z)
  | tup hs hr =>
    cases h
    rcases hs with (hs | ⟨o, hs⟩) | ⟨o, its, n, hs, hc, _⟩
    · exact .base (.tup hs)
    · exact .fTuple hs
    · exact .kTuple hs hc
  | @ref l a ha =>
    obtain ⟨ob, hob, hr⟩ := R.place ha
    simp only [kindD, hob] at h
    cases ob with
    | lst ds => cases h; obtain ⟨vs, q1, q2⟩ := hr; exact .base (.lst q1)
    | fro ds => cases h; obtain ⟨o, vs, q1, q2⟩ := hr; exact .base (.frz q1)
    | _ => cases h
  | gl _ => cases h
def fIsi (T : String) (a : FE) : FE := fun r S => (a r S).bind fun x S1 => match kindD S1 x with
  | some t => .ok (.bool (isiT T t)) S1
  | none => .stuck
theorem kit_all {T t : String} (hT : T ∈ ["bool", "int", "str", "tuple", "list"]) (ht : t ∈ ["NoneType", "bool", "int", "str", "tuple", "list"]) : kitB t T = some (isiT T t) := by
  simp only [List.mem_cons, List.not_mem_nil, or_false] at hT ht
  rcases hT with rfl | rfl | rfl | rfl | rfl <;> rcases ht with rfl | rfl | rfl | rfl | rfl | rfl <;> decide +kernel
theorem kindD_mem {S : Store} {d : D} {t : String} (h : kindD S d = some t) : t ∈ ["NoneType", "bool", "int", "str", "tuple", "list"] := by
  unfold kindD at h
  split at h
  · cases h; simp
  · cases h; simp
  · cases h; simp
  · cases h; simp
  · cases h; simp
  · split at h
    · cases h; simp
    · cases h; simp
    · cases h
  · cases h
variable {W : WX} {pos p p2 : Pos} {a : Expr} {fa : FE} {x T : Str}
theorem ce_isi {N : Str} {n : String} (hT : n ∈ ["bool", "int", "str", "tuple", "list"]) (hg : Gl X "isinstance") (hm : X.mg "isinstance" = none) (hgT : Gl X N) (hmT : X.mg N = none) (hbT : bootBuiltins N = some (.type n)) (ha : CE X W a fa)
    (hn : N ≠ "__name__" := by decide) (hdb : (N == ("__debug__" : Str)) = false := by decide)
    (he : starEach [a, .Name N p2] X.env = (false, eval a X.env) :: starEach [.Name N p2] X.env := by rfl) (hpl : (backTo pos (starEach [.Name N p2] X.env)).any (·.1) = false := by rfl) : CE X W (.Call (.Name "isinstance" p) [a, .Name N p2] [] pos) (fIsi n fa) := by
  have hA : PA X [a, .Name N p2] (tCons (rdE X.K X.MG W fa) (tCons (tC (.ty n)) tNil)) := pa_cons ha (pa_cons (pe_bltn (v := .ty n) hgT hmT hbT rfl hn hdb) pa_nil rfl) he
  refine PE.imp (pe_callB call_isi hg hm (by decide +kernel) hA (by decide) (by decide) he hpl) fun σ H Q ⟨m, r, S, R, E, h⟩ => ?_
  refine rdE_mono (seqE R E h) fun v H1 ⟨m1, S1, d, R1, E1, g1, p1, h1⟩ => ?_
  cases e : kindD S1 d with
  | none => rw [e] at h1; exact h1.elim
  | some t =>
    rw [e] at h1
    exact ⟨v, .ty n, .type t, .type n, isiT n t, rfl, .ty n, kindD_ok R1 p1 e, kit_ty (kit_all hT (kindD_mem e)), h1 m1 H1 _ .refl R1 (.bool _)⟩
/-! ### methods of lists -/
def mAppend : BM
  | .ref l, [y], S => (match S[l]? with
    | some (.lst ds) => if ds.length < LINE then some (.none, S.set l (.lst (ds ++ [y]))) else none
    | _ => none)
  | _, _, _ => none
theorem mc_append : MtC X "list.append" mAppend := MtR.imp (show MtR X "list.append" rAppend from mt_append) fun x xs H Q ⟨m, S, e, ds, d, S', R, re, r, h, q⟩ => by
  match e, ds, h with
  | .ref l, [y], h =>
    cases re with
    | @ref _ a ha =>
      obtain ⟨y', rfl, ry⟩ := r.one
      obtain ⟨ob, hob, hr⟩ := R.place ha
      simp only [mAppend, hob] at h
      cases ob with
      | lst es =>
        obtain ⟨vs, q1, q2⟩ := hr
        dsimp only at h
        by_cases hz : es.length < LINE
        · rw [if_pos hz] at h; cases h
          have hm : Mut (H a) := by rw [q1]; trivial
          have gw : Goes X.K m H m (upd H a (.lst (vs ++ [y']))) := goes_write hm
          exact ⟨a, vs, y', rfl, rfl, q1, by rw [line_eq, ← q2.length]; exact hz, q m _ _ gw (R.put (ob := .lst (es ++ [y])) ha hm ⟨_, upd_same, (q2.append (.cons ry .nil)).go gw⟩) .none⟩
        · rw [if_neg hz] at h; cases h
      | _ => cases h
def mExtend : BM
  | .ref l, [.ref k], S => (match S[l]? with
    | some (.lst ds) => (match S[k]? with
      | some (.lst es) => if ds.length + es.length ≤ LINE then some (.none, S.set l (.lst (ds ++ es))) else none
      | _ => none)
    | _ => none)
  | _, _, _ => none
theorem mc_extend : MtC X "list.extend" mExtend := MtR.imp (show MtR X "list.extend" rExtend from mt_extend) fun x xs H Q ⟨m, S, e, ds, d, S', R, re, r, h, q⟩ => by
  match e, ds, h with
  | .ref l, [.ref k], h =>
    cases re with
    | @ref _ a ha =>
      obtain ⟨y', rfl, ry⟩ := r.one
      cases ry with
      | @ref _ b hb =>
        obtain ⟨ob, hob, hr⟩ := R.place ha
        obtain ⟨ob2, hob2, hr2⟩ := R.place hb
        simp only [mExtend, hob, hob2] at h
        cases ob with
        | lst es =>
          cases ob2 with
          | lst fs =>
            obtain ⟨vs, q1, q2⟩ := hr
            obtain ⟨us, q3, q4⟩ := hr2
            dsimp only at h
            by_cases hz : es.length + fs.length ≤ LINE
            · rw [if_pos hz] at h; cases h
              have hm : Mut (H a) := by rw [q1]; trivial
              have gw : Goes X.K m H m (upd H a (.lst (vs ++ us))) := goes_write hm
              exact ⟨a, b, vs, us, rfl, rfl, q1, q3, by rw [line_eq, ← q2.length, ← q4.length]; exact hz, q m _ _ gw (R.put (ob := .lst (es ++ fs)) ha hm ⟨_, upd_same, (q2.append q4).go gw⟩) .none⟩
            · rw [if_neg hz] at h; cases h
          | _ => cases h
        | _ => cases h
theorem Reps.dropLast {K : PySem.W.Frag} {mg : MG} {m : List Addr} {H : Hp} {ds : List D} {vs : List V} (r : Reps K mg m H ds vs) : Reps K mg m H ds.dropLast vs.dropLast := by
  rw [List.dropLast_eq_take, List.dropLast_eq_take, ← r.length]
  exact r.take _
def mPop : BM
  | .ref l, [], S => (match S[l]? with
    | some (.lst ds) => (match ds[ds.length - 1]? with
      | some y => some (y, S.set l (.lst ds.dropLast))
      | none => none)
    | _ => none)
  | .ref l, [.int i], S => (match S[l]? with
    | some (.lst ds) => if -(2 ^ 63) ≤ i ∧ i < 2 ^ 63 then (match seqIndex? i ds.length with
      | some k => (match ds[k]? with
        | some y => some (y, S.set l (.lst (ds.eraseIdx k)))
        | none => none)
      | none => none) else none
    | _ => none)
  | _, _, _ => none
theorem mc_pop : MtC X "list.pop" mPop := MtR.imp (MtR.or (show MtR X "list.pop" rPop from mt_pop) (show MtR X "list.pop" rPopAt from mt_popAt)) fun x xs H Q ⟨m, S, e, ds, d, S', R, re, r, h, q⟩ => by
  match e, ds, h with
  | .ref l, [], h =>
    cases re with
    | @ref _ a ha =>
      obtain rfl := r.zero
      obtain ⟨ob, hob, hr⟩ := R.place ha
      simp only [mPop, hob] at h
      cases ob with
      | lst es =>
        obtain ⟨vs, q1, q2⟩ := hr
        dsimp only at h
        cases e1 : es[es.length - 1]? with
        | none => rw [e1] at h; cases h
        | some y =>
          rw [e1] at h; cases h
          obtain ⟨v, hv, rv⟩ := q2.get e1
          have hm : Mut (H a) := by rw [q1]; trivial
          have gw : Goes X.K m H m (upd H a (.lst vs.dropLast)) := goes_write hm
          exact .inl ⟨a, vs, v, rfl, rfl, q1, by rw [← q2.length]; exact hv, q m _ _ gw (R.put (ob := .lst es.dropLast) ha hm ⟨_, upd_same, q2.dropLast.go gw⟩) (rv.go gw)⟩
      | _ => cases h
  | .ref l, [.int i], h =>
    cases re with
    | @ref _ a ha =>
      obtain ⟨y', rfl, ry⟩ := r.one
      cases ry
      obtain ⟨ob, hob, hr⟩ := R.place ha
      simp only [mPop, hob] at h
      cases ob with
      | lst es =>
        obtain ⟨vs, q1, q2⟩ := hr
        dsimp only at h
        by_cases hz : -(2 ^ 63) ≤ i ∧ i < 2 ^ 63
        · rw [if_pos hz] at h
          cases e0 : seqIndex? i es.length with
          | none => rw [e0] at h; cases h
          | some k =>
            rw [e0] at h
            dsimp only at h
            cases e1 : es[k]? with
            | none => rw [e1] at h; cases h
            | some y =>
              rw [e1] at h; cases h
              obtain ⟨v, hv, rv⟩ := q2.get e1
              have hm : Mut (H a) := by rw [q1]; trivial
              have gw : Goes X.K m H m (upd H a (.lst (vs.eraseIdx k))) := goes_write hm
              exact .inr ⟨a, vs, i, k, v, rfl, rfl, q1, hz.1, hz.2, by rw [← q2.length]; exact e0, hv, q m _ _ gw (R.put (ob := .lst (es.eraseIdx k)) ha hm ⟨_, upd_same, (q2.eraseIdx k).go gw⟩) (rv.go gw)⟩
        · rw [if_neg hz] at h; cases h
      | _ => cases h
/-! ### methods of texts -/
def mJoin : BM
  | .str a, [d], S => ((seqOf S d).bind strsD).bind fun ys => if (ys.map (·.length)).sum + ys.length * a.length ≤ 16777216 then some (.str (Txt.join a ys), S) else none
  | _, _, _ => none
theorem mc_join : MtC X "str.join" mJoin := MtR.imp mt_join fun x xs H Q ⟨m, S, e, ds, d, S', R, re, r, h, q⟩ => by
  match e, ds, h with
  | .str z, [y], h =>
    cases re
    obtain ⟨y', rfl, ry⟩ := r.one
    have h : (((seqOf S y).bind strsD).bind fun ys => if (ys.map (·.length)).sum + ys.length * z.length ≤ 16777216 then some (D.str (Txt.join z ys), S) else none) = some (d, S') := h
    cases e1 : seqOf S y with
    | none => rw [e1] at h; cases h
    | some es =>
      rw [e1] at h
      have h : ((strsD es).bind fun ys => if (ys.map (·.length)).sum + ys.length * z.length ≤ 16777216 then some (D.str (Txt.join z ys), S) else none) = some (d, S') := h
      cases e2 : strsD es with
      | none => rw [e2] at h; cases h
      | some ys =>
        rw [e2] at h
        have h : (if (ys.map (·.length)).sum + ys.length * z.length ≤ 16777216 then some (D.str (Txt.join z ys), S) else none) = some (d, S') := h
        by_cases hz : (ys.map (·.length)).sum + ys.length * z.length ≤ 16777216
        · rw [if_pos hz] at h; cases h
          obtain ⟨a, vs, rfl, hs, hr⟩ := seqOf_ok R ry e1
          rw [strsD_ok hr e2] at hs
          exact ⟨z, a, ys, rfl, rfl, hs, hz, q m H _ .refl R (.str _)⟩
        · rw [if_neg hz] at h; cases h
def mSplit : BM
  | .str a, [.str b], S => if (b.length == 0) = false ∧ a.length + 2 ≤ LINE then some (.ref S.length, S ++ [.lst ((Txt.split a b).map .str)]) else none
  | .str a, [], S => if a.length + 2 ≤ LINE then some (.ref S.length, S ++ [.lst ((Txt.words a).map .str)]) else none
  | _, _, _ => none
theorem mc_split : MtC X "str.split" mSplit := MtR.imp (MtR.or mt_split mt_words) fun x xs H Q ⟨m, S, e, ds, d, S', R, re, r, h, q⟩ => by
  match e, ds, h with
  | .str z, [.str y], h =>
    cases re
    obtain ⟨y', rfl, ry⟩ := r.one
    cases ry
    have h : (if (y.length == 0) = false ∧ z.length + 2 ≤ LINE then some (D.ref S.length, S ++ [.lst ((Txt.split z y).map .str)]) else none) = some (d, S') := h
    by_cases hz : (y.length == 0) = false ∧ z.length + 2 ≤ LINE
    · rw [if_pos hz] at h; cases h
      exact .inl ⟨z, y, rfl, rfl, hz.1, by rw [line_eq]; exact hz.2, fun p hp => q _ _ _ (goes_more hp) (R.more hp ⟨_, upd_same, reps_strs _⟩) (.ref (new_place R))⟩
    · rw [if_neg hz] at h; cases h
  | .str z, [], h =>
    cases re
    obtain rfl := r.zero
    have h : (if z.length + 2 ≤ LINE then some (D.ref S.length, S ++ [.lst ((Txt.words z).map .str)]) else none) = some (d, S') := h
    by_cases hz : z.length + 2 ≤ LINE
    · rw [if_pos hz] at h; cases h
      exact .inr ⟨z, rfl, rfl, by rw [line_eq]; exact hz, fun p hp => q _ _ _ (goes_more hp) (R.more hp ⟨_, upd_same, reps_strs _⟩) (.ref (new_place R))⟩
    · rw [if_neg hz] at h; cases h
end
end CL

set_option Elab.async false
set_option linter.all false
set_option maxRecDepth 100000
set_option maxHeartbeats 4000000
namespace CL
open PySem PySem.Spec PyProof.Rows L2
section
variable {X : Cx} {W : WX} {pos : Pos}
/-- a name of the def -/
theorem cv (i : Nat) {x : Str} (hN : X.N[i]? = some x := by rfl) (hv : Vis X.env.scope x := by first | exact Or.inl rfl | exact Or.inr (Or.inl rfl) | exact Or.inr (Or.inr rfl)) (hd : (x == ("__debug__" : Str)) = false := by decide) (hcd : (x == ("__classdict__" : Str)) = false := by decide) :
    CE X W (.Name x pos) (fVar i) := ce_var hN hv hd hcd
theorem ce_gstr {x z : Str} (h : ∃ t, X.mg x = some (.str z t)) (hg : Gl X x := by rfl) (hd : (x == ("__debug__" : Str)) = false := by decide) : CE X W (.Name x pos) (fC (.str z)) := by
  obtain ⟨t, h⟩ := h
  exact ce_glob (v := .str z) hg h ⟨t, rfl⟩ (fun _ _ => .str z) hd
theorem ce_gint {x : Str} {i : Int} (h : ∃ t, X.mg x = some (.int i t)) (hg : Gl X x := by rfl) (hd : (x == ("__debug__" : Str)) = false := by decide) : CE X W (.Name x pos) (fC (.int i)) := by
  obtain ⟨t, h⟩ := h
  exact ce_glob (v := .int i) hg h ⟨t, rfl⟩ (fun _ _ => .int i) hd
/-- a tuple of texts, of ints, that the module has -/
theorem ce_gtupS {x : Str} {a : Addr} {zs : List Str} (h : X.mg x = some (.ref a)) (hs : ∀ H, SqT X.K H a (zs.map V.str)) (hg : Gl X x := by rfl) (hd : (x == ("__debug__" : Str)) = false := by decide) : CE X W (.Name x pos) (fC (.tup (zs.map .str))) :=
  ce_glob (v := .ref a) hg h rfl (fun _ H => .tup (hs H) (reps_strs zs)) hd
theorem reps_ints {K : PySem.W.Frag} {mg : MG} {m : List Addr} {H : Hp} : ∀ ys : List Int, Reps K mg m H (ys.map D.int) (ys.map V.int)
  | [] => .nil
  | y :: ys => .cons (.int y) (reps_ints ys)
theorem ce_gtupI {x : Str} {a : Addr} {zs : List Int} (h : X.mg x = some (.ref a)) (hs : ∀ H, SqT X.K H a (zs.map V.int)) (hg : Gl X x := by rfl) (hd : (x == ("__debug__" : Str)) = false := by decide) : CE X W (.Name x pos) (fC (.tup (zs.map .int))) :=
  ce_glob (v := .ref a) hg h rfl (fun _ H => .tup (hs H) (reps_ints zs)) hd
end
theorem hu64 {k : Nat} {A : Around} (hr : Room k A) : A.units + 64 < cLine := by have := hr.un; omega
theorem hu65 {k : Nat} {A : Around} (hr : Room k A) : A.units + 65 < cLine := by have := hr.un; omega
/-- a def (a method) of the text keeps F -/
def OkD (P : Program) (w : World) (K : PySem.W.Frag) (mg : MGf) (base : Heap) (k : Nat) (f : Addr) (ps : List Str) (F : FF) : Prop := ∃ fd, FnC P w K mg base k f fd ps F ∧ Binds K fd ps [] ∧ PySem.W.keepIn K (.ref f) = true ∧ (∀ (s : Shared) (us : List Value), (us.length = ps.length → BindsTo s fd ⟨us, []⟩ (ps.zip us))) ∧ ∃ oc od osl, K.lookup f = some ⟨oc, od, .func fd, osl⟩
section
variable {X : Cx} {W : WX} {pos p apos : Pos} {k : Nat} {f C : Addr} {ps : List Str} {F : FF} {x m : Str} {e o : Expr} {es : List Expr} {fas : FA} {fo : FE}
/-- f(e, ..) -/
theorem ck_call (O : OkD X.prog X.w X.K X.mg X.base k f ps F) (hr : Room k X.A) (tk : Takes X W) (hm : X.mg x = some (.ref f)) (ha : CA X W (e :: es) fas) (hg : Gl X x := by rfl) (hdb : (x == ("__debug__" : Str)) = false := by decide)
    (he : starEach (e :: es) X.env = (false, eval e X.env) :: starEach es X.env := by rfl) (hpl : (backTo pos (starEach es X.env)).any (·.1) = false := by rfl) : CE X W (.Call (.Name x p) (e :: es) [] pos) (fCallN ps.length F fas) := by
  obtain ⟨fd, Fn, hb, hk, _⟩ := O
  exact ce_call Fn hr tk hg hm hk hb ha hdb he hpl
theorem ck_meth {pl : Sem Bool} {c : Str} (O : OkD X.prog X.w X.K X.mg X.base k f ps F) (hr : Room k X.A) (tk : Takes X W) (hc : X.mg c = some (.ref C)) (cl : Cls X.K C) (hm : Meth X.K C m f) (ho : CE X W o fo) (ha : CA X W (e :: es) fas)
    (hst : starEach (e :: es) X.env = (false, eval e X.env) :: starEach es X.env := by rfl) (hpl : (backTo pos (starEach es X.env)).any (·.1) = false := by rfl)
    (ht : eval (.Call (.Attribute o m apos) (e :: es) [] pos) X.env = (do
      let ov ← eval o X.env
      standAt apos.atName
      let (f, first) ← holding [ov] (getMethod ov m pl)
      callWith pos f first (backTo pos (starEach (e :: es) X.env)) (backToKw pos (keywordEach [] X.env))) := by rfl) : CE X W (.Call (.Attribute o m apos) (e :: es) [] pos) (fMeth c m ps.length F fo fas) := by
  obtain ⟨fd, Fn, hb, hk, _⟩ := O
  exact ce_meth ho hc cl hm Fn hr tk hb ha hst hpl ht
theorem ck_meth0 {pl : Sem Bool} {c : Str} (O : OkD X.prog X.w X.K X.mg X.base k f ps F) (hr : Room k X.A) (tk : Takes X W) (hc : X.mg c = some (.ref C)) (cl : Cls X.K C) (hm : Meth X.K C m f) (ho : CE X W o fo)
    (ht : eval (.Call (.Attribute o m apos) [] [] pos) X.env = (do
      let ov ← eval o X.env
      standAt apos.atName
      let (f, first) ← holding [ov] (getMethod ov m pl)
      callWith pos f first (backTo pos (starEach [] X.env)) (backToKw pos (keywordEach [] X.env))) := by rfl) : CE X W (.Call (.Attribute o m apos) [] [] pos) (fMeth c m ps.length F fo fNil) := by
  obtain ⟨fd, Fn, hb, hk, _⟩ := O
  exact ce_meth0 ho hc cl hm Fn hr tk hb ht
theorem ck_make (M : Mk X.K C f) (O : OkD X.prog X.w X.K X.mg X.base k f ps F) (hr : Room (k + 1) X.A) (tk : Takes X W) (hm : X.mg x = some (.ref C)) (ha : CA X W (e :: es) fas) (hg : Gl X x := by rfl) (hdb : (x == ("__debug__" : Str)) = false := by decide)
    (he : starEach (e :: es) X.env = (false, eval e X.env) :: starEach es X.env := by rfl) (hpl : (backTo pos (starEach es X.env)).any (·.1) = false := by rfl) : CE X W (.Call (.Name x p) (e :: es) [] pos) (fMake x ps.length F fas) := by
  obtain ⟨fd, Fn, hb, hk, _⟩ := O
  exact ce_make M Fn hr tk hg hm hb ha hdb he hpl
end
section
variable {P : Program} {w : World} {K : PySem.W.Frag} {mg : MGf} {base : Heap}
/-- a def without defaults, by its body -/
theorem okD_def {x qual : Str} {st : Stmt} {f : Addr} {N ps : List Str} {k n : Nat} {b : FS} (hn : N.length = n) (hF : ∃ fd, FunD K x qual (defArgs st) (defBody st) (defScope st) [] [] f fd) (S : FnScope N ps (defScope st))
    (hbind : ∀ (kV doc pm : Value) (an : Option Addr) (cdv ct : Value) (us : List Value), us.length = ps.length → bindArgs (PySem.W.fnOf x qual (defArgs st) (defBody st) (defScope st) .none kV doc pm an cdv ct) ⟨us, []⟩ = pure (ps.zip us))
    (hbody : ∀ (cdv : Value) (A : Around) (outer : List PySem.Env) (s : Shared) (H : Hp) (E : XK), Room k (A.deeper (envOfC qual (defScope st) s.heap.objs.size f cdv)) →
      Takes (cxOf (L2.CX P w) P w K mg base N qual (defScope st) f cdv A outer s H E) (fun c d _ H => E c d H) → PassesOwn (model P w) (cxOf (L2.CX P w) P w K mg base N qual (defScope st) f cdv A outer s H E).A (cxOf (L2.CX P w) P w K mg base N qual (defScope st) f cdv A outer s H E).env (cxOf (L2.CX P w) P w K mg base N qual (defScope st) f cdv A outer s H E).xe →
      CSs (cxOf (L2.CX P w) P w K mg base N qual (defScope st) f cdv A outer s H E) (fun c d _ H => E c d H) (defBody st) b) : OkD P w K mg base (k + 1) f ps (fDef n b) := by
  subst hn
  obtain ⟨fd, F⟩ := hF
  have kp := F.kp
  have l : ∃ oc od osl, K.lookup f = some ⟨oc, od, .func fd, osl⟩ := by
    obtain ⟨oc, od, dV, kV, doc, pm, an, cdv, ct, osl, _, lk, _⟩ := F.ex
    exact ⟨oc, od, osl, lk⟩
  exact ⟨fd, fn_def F S hbody, F.bindsN hbind, F.kp, F.bindsA hbind, l⟩
end
end CL

set_option Elab.async false
set_option linter.all false
set_option maxRecDepth 100000
set_option maxHeartbeats 4000000
namespace CL
open PySem PySem.Spec PyProof.Rows L2
/-! ### enumerate -/
theorem pairs_get : ∀ (ds : List D) (k i : Nat), (pairs k ds)[i]? = ds[i]?.map fun d => .tup [.int ((k + i : Nat) : Int), d]
  | [], k, i => by simp [pairs]
  | d :: ds, k, 0 => by simp [pairs]
  | d :: ds, k, i + 1 => by
    simp only [pairs, List.getElem?_cons_succ]
    rw [pairs_get ds (k + 1) i]
    have e : k + 1 + i = k + (i + 1) := by omega
    rw [e]
theorem pairs_length : ∀ (ds : List D) (k : Nat), (pairs k ds).length = ds.length
  | [], _ => rfl
  | _ :: ds, k => by simp [pairs, pairs_length ds (k + 1)]
theorem src_enum {K : PySem.W.Frag} {mg : MG} {m : List Addr} {H : Hp} {ds : List D} {l : Nat} {a : Addr} (ha : m[l]? = some a) : SrcR K mg m H ⟨pairs 0 ds, some (l, ds)⟩ (Ite K a) := by
  intro i m2 S2 H2 g R st
  have key : ∃ vs, SqL K H2 a vs ∧ Reps K mg m2 H2 ds vs := by
    rcases still_at rfl st with e | e
    · obtain ⟨vs, h1, h2⟩ := R.ob l _ a e (g.ad l a ha)
      exact ⟨vs, SqL.of h1, h2⟩
    · obtain ⟨o, vs, h1, h2⟩ := R.ob l _ a e (g.ad l a ha)
      exact ⟨vs, .inl (.inr ⟨o, h1⟩), h2⟩
  obtain ⟨vs, h1, h2⟩ := key
  refine ⟨fun e => ⟨vs, h1, by rw [← h2.length]; rw [show i = (pairs 0 ds).length from e, pairs_length]; exact Nat.le_refl _⟩, fun d hd => ?_⟩
  have hd : (pairs 0 ds)[i]? = some d := hd
  rw [pairs_get] at hd
  cases e : ds[i]? with
  | none => rw [e] at hd; cases hd
  | some d0 =>
    rw [e] at hd
    cases hd
    obtain ⟨v, hv, q⟩ := h2.get e
    refine ⟨⟨vs, v, h1, hv⟩, fun x H3 hy => ?_⟩
    obtain ⟨T, y, rfl, hT, rfl, hy⟩ := hy
    have e2 := (hy vs h1).symm.trans hv
    cases e2
    have gn : Goes K m2 H2 m2 (upd H2 T (.tup [.int (i : Nat), v])) := goes_new hT
    refine ⟨gn, R.beside hT, .tup (SqT.of upd_same) (.cons ?_ (.cons (q.go gn) .nil))⟩
    rw [Nat.zero_add]
    exact .int _
section
variable {X : Cx} {W : WX} {pos p tpos : Pos}
def iEnumL (a : FE) : FI := fun r S => (a r S).bind fun x S1 => match x with
  | .ref l => (match lstAt S1 l with
    | some ds => .ok ⟨pairs 0 ds, some (l, ds)⟩ S1
    | none => .stuck)
  | _ => .stuck
theorem ci_enumL {e : Expr} {f : FE} {elts : List Expr} {kk : Nat} (hg : Gl X "enumerate") (hm : X.mg "enumerate" = none) (he : CE X W e f) (hs : starEach [e] X.env = [(false, eval e X.env)] := by rfl) : CI X W (.Tuple elts kk tpos) (.Call (.Name "enumerate" p) [e] [] pos) (iEnumL f) := by
  have hA : CA X W [e] (fCons f fNil) := ca_cons he ca_nil (by rw [hs]; rfl)
  refine ⟨fun pins s σ H Rr I h => ?_⟩
  obtain ⟨m, r, S, R, E, h⟩ := h
  refine (pi_enum hg hm hA hs).run pins s σ H Rr I ⟨m, r, S, R, E, ?_⟩
  unfold fCons fNil
  unfold iEnumL at h
  cases e1 : f r S with
  | stuck => rw [e1] at h; exact h.elim
  | exc x S1 => rw [e1] at h; exact h
  | ok d S1 =>
    rw [e1] at h
    intro m' H' vs g R' q
    obtain ⟨x, rfl, rx⟩ := q.one
    cases rx with
    | @ref l a ha =>
      have h : Po X.K X.MG (SrcR X.K X.MG) W σ m H Rr (match lstAt S1 l with | some ds => .ok ⟨pairs 0 ds, some (l, ds)⟩ S1 | none => .stuck) := h
      cases e2 : lstAt S1 l with
      | none => rw [e2] at h; exact h.elim
      | some ds =>
        rw [e2] at h
        obtain ⟨us, q1, q2⟩ := R'.list ha (lstAt_or e2)
        exact ⟨a, us, rfl, q1, h m' H' _ g R' (src_enum ha)⟩
    | _ => exact h.elim
/-! ### a, b = x, y of local names -/
theorem cs_par2 {i1 i2 : Nat} {x y : Str} {a b : Expr} {fas : FA} {px py pt pt2 : Pos} {kt k2 : Nat} (ha : CA X W [a, b] fas) (hN : X.N.Nodup := by first | assumption | exact FnScope.nd ‹_›) (hc : X.calm = true := by rfl) (hi : X.N[i1]? = some x := by rfl) (hj : X.N[i2]? = some y := by rfl) (hij : i1 ≠ i2 := by decide)
    (hx : X.env.scope.names.lookup x = some .local := by rfl) (hy : X.env.scope.names.lookup y = some .local := by rfl)
    (hw : swappedStores [.Tuple [.Name x px, .Name y py] kt pt] (.Tuple [a, b] k2 pt2) X.env = pure (some [x, y]) := by rfl) (hs : swapsWithSole [.Tuple [.Name x px, .Name y py] kt pt] (.Tuple [a, b] k2 pt2) pos.line X.env = pure false := by rfl) :
    CS X W (.Assign [.Tuple [.Name x px, .Name y py] kt pt] (.Tuple [a, b] k2 pt2) pos) (fAsg (fTup fas) (gTupl 2 (gsCons (gNm i1) (gsCons (gNm i2) gsNil)))) :=
  PS.imp (ps_par hc hN hi hj hij hx hy ha hw hs) fun D σ H ⟨m, r, S, R, E, h⟩ => by
    refine ⟨m, r, S, R, E, ?_⟩
    unfold fAsg fTup at h
    cases e : fas r S with
    | stuck => rw [e] at h; exact h
    | exc x S1 => rw [e] at h; exact fun m' H' cls dd g R' q => h m' H' σ cls dd g R' (E.go g) q
    | ok ds S1 =>
      rw [e] at h
      intro m' H' vs g R' q
      have h : PoS X.K X.MG W m H D (match (if ds.length ≤ LINE then Out.ok (CL.D.tup ds) S1 else .stuck) with | .ok d S1 => gTupl 2 (gsCons (gNm i1) (gsCons (gNm i2) gsNil)) d r S1 | .exc x S1 => .exc x r S1 | .stuck => .stuck) := h
      by_cases hz : ds.length ≤ LINE
      · rw [if_pos hz] at h
        have h : PoS X.K X.MG W m H D (if ds.length = 2 then gsCons (gNm i1) (gsCons (gNm i2) gsNil) ds r S1 else .stuck) := h
        by_cases hl : ds.length = 2
        · rw [if_pos hl] at h
          match ds, hl with
          | [d1, d2], _ =>
            obtain ⟨v, w, rfl, rv, rw'⟩ := q.two
            exact ⟨v, w, rfl, h m' H' _ g R' (((E.go g).set rv i1).set rw' i2)⟩
        · rw [if_neg hl] at h; exact h.elim
      · rw [if_neg hz] at h; exact h.elim
theorem Reps.three {K : PySem.W.Frag} {mg : MG} {m : List Addr} {H : Hp} {d e f : D} {xs : List V} (r : Reps K mg m H [d, e, f] xs) : ∃ x y z, xs = [x, y, z] ∧ Rep K mg m H d x ∧ Rep K mg m H e y ∧ Rep K mg m H f z := by
  cases r with
  | cons a b => obtain ⟨x, y, rfl, h1, h2⟩ := b.two; exact ⟨_, _, _, rfl, a, h1, h2⟩
theorem cs_par3 {i1 i2 i3 : Nat} {x y z : Str} {a b c : Expr} {fas : FA} {px py pz pt pt2 : Pos} {kt k2 : Nat} (ha : CA X W [a, b, c] fas) (hN : X.N.Nodup := by first | assumption | exact FnScope.nd ‹_›) (hc : X.calm = true := by rfl) (hi : X.N[i1]? = some x := by rfl) (hj : X.N[i2]? = some y := by rfl) (hk : X.N[i3]? = some z := by rfl) (hij : i1 ≠ i2 := by decide) (hil : i1 ≠ i3 := by decide) (hjl : i2 ≠ i3 := by decide)
    (hx : X.env.scope.names.lookup x = some .local := by rfl) (hy : X.env.scope.names.lookup y = some .local := by rfl) (hz : X.env.scope.names.lookup z = some .local := by rfl)
    (hw : swappedStores [.Tuple [.Name x px, .Name y py, .Name z pz] kt pt] (.Tuple [a, b, c] k2 pt2) X.env = pure (some [x, y, z]) := by rfl) (hs : swapsWithSole [.Tuple [.Name x px, .Name y py, .Name z pz] kt pt] (.Tuple [a, b, c] k2 pt2) pos.line X.env = pure false := by rfl) :
    CS X W (.Assign [.Tuple [.Name x px, .Name y py, .Name z pz] kt pt] (.Tuple [a, b, c] k2 pt2) pos) (fAsg (fTup fas) (gTupl 3 (gsCons (gNm i1) (gsCons (gNm i2) (gsCons (gNm i3) gsNil))))) :=
  PS.imp (ps_par3 hc hN hi hj hk hij hil hjl hx hy hz ha hw hs) fun D σ H ⟨m, r, S, R, E, h⟩ => by
    refine ⟨m, r, S, R, E, ?_⟩
    unfold fAsg fTup at h
    cases e : fas r S with
    | stuck => rw [e] at h; exact h
    | exc x S1 => rw [e] at h; exact fun m' H' cls dd g R' q => h m' H' σ cls dd g R' (E.go g) q
    | ok ds S1 =>
      rw [e] at h
      intro m' H' vs g R' q
      have h : PoS X.K X.MG W m H D (match (if ds.length ≤ LINE then Out.ok (CL.D.tup ds) S1 else .stuck) with | .ok d S1 => gTupl 3 (gsCons (gNm i1) (gsCons (gNm i2) (gsCons (gNm i3) gsNil))) d r S1 | .exc x S1 => .exc x r S1 | .stuck => .stuck) := h
      by_cases hz : ds.length ≤ LINE
      · rw [if_pos hz] at h
        have h : PoS X.K X.MG W m H D (if ds.length = 3 then gsCons (gNm i1) (gsCons (gNm i2) (gsCons (gNm i3) gsNil)) ds r S1 else .stuck) := h
        by_cases hl : ds.length = 3
        · rw [if_pos hl] at h
          match ds, hl with
          | [d1, d2, d3], _ =>
            obtain ⟨u, v, w, rfl, ru, rv, rw'⟩ := q.three
            exact ⟨u, v, w, rfl, h m' H' _ g R' ((((E.go g).set ru i1).set rv i2).set rw' i3)⟩
        · rw [if_neg hl] at h; exact h.elim
      · rw [if_neg hz] at h; exact h.elim
/-! ### T.index(text), T a tuple of texts that the module has -/
def idxOf (z : Str) : List Str → Option Nat
  | [] => none
  | y :: ys => if y = z then some 0 else (idxOf z ys).map (· + 1)
theorem idxOf_ok {z : Str} : ∀ {ys : List Str} {j : Nat}, idxOf z ys = some j → ys[j]? = some z ∧ ∀ k, k < j → ys[k]? ≠ some z
  | [], _, h => by cases h
  | y :: ys, j, h => by
    unfold idxOf at h
    by_cases e : y = z
    · rw [if_pos e] at h
      cases h
      exact ⟨by simp [e], fun k hk => absurd hk (Nat.not_lt_zero k)⟩
    · rw [if_neg e] at h
      cases e2 : idxOf z ys with
      | none => rw [e2] at h; cases h
      | some i =>
        rw [e2] at h
        cases h
        obtain ⟨h1, h2⟩ := idxOf_ok e2
        refine ⟨by simpa using h1, fun k hk => ?_⟩
        cases k with
        | zero => simpa using e
        | succ k => simpa using h2 k (by have hk : k + 1 < i + 1 := hk; omega)
def fTIx (zs : List Str) (a : FA) : FE := fun r S => (a r S).bind fun xs S1 => match xs with
  | [.str z] => (match idxOf z zs with
    | some j => .ok (.int (j : Nat)) S1
    | none => .stuck)
  | _ => .stuck
theorem ce_tix {x : Str} {a : Addr} {zs : List Str} {e : Expr} {fas : FA} {apos : Pos} (hm : X.mg x = some (.ref a)) (hs : ∀ H, SqT X.K H a (zs.map V.str)) (hw : ∃ o, X.K.lookup a = some o ∧ o.cls = .type "tuple" ∧ o.dict = none) (ha : CA X W [e] fas) (hg : Gl X x := by rfl) (hd : (x == ("__debug__" : Str)) = false := by decide)
    (hbase : attributeBase (.Name x p) "index" X.env (eval (.Name x p) X.env) = eval (.Name x p) X.env := by rfl)
    (hfew : ((backTo pos (starEach [e] X.env)).all (fun x => !x.1) && (backToKw pos (keywordEach [] X.env)).all (fun x => x.1.isSome)
      && decide ([e].length + ([] : List Keyword).length + (if ([] : List Keyword).isEmpty then 0 else 1) < 30)) = true := by rfl)
    (hline : (apos.endLine == pos.line) = true := by rfl) (hst : starEach [e] X.env = (false, eval e X.env) :: starEach [] X.env := by rfl) (hplain : (backTo pos (starEach [] X.env)).any (·.1) = false := by rfl) :
    CE X W (.Call (.Attribute (.Name x p) "index" apos) [e] [] pos) (fTIx zs fas) :=
  PE.imp (pe_bm PySem.F.plainAttrs_tuple PySem.F.slot_tuple_index PySem.F.type_tuple_index mt_tup_index (pe_glob (v := .ref a) hg hm rfl hd) ha hbase hfew hline hst hplain) fun σ H Q ⟨m, r, S, R, E, h⟩ => by
    refine ⟨.inr (.inl ⟨rfl, hw⟩), ?_⟩
    refine rdA_mono (seqA R E h) fun vs H1 ⟨m1, S1, ds, R1, E1, g1, p1, h1⟩ => ?_
    match ds, h1 with
    | [.str z], h1 =>
      obtain ⟨y, rfl, ry⟩ := p1.one
      cases ry
      dsimp only at h1
      cases e2 : idxOf z zs with
      | none => rw [e2] at h1; exact h1.elim
      | some j =>
        rw [e2] at h1
        obtain ⟨h2, h3⟩ := idxOf_ok e2
        exact ⟨a, zs, z, j, rfl, rfl, hs H1, h2, h3, h1 m1 H1 _ .refl R1 (.int _)⟩
end
/-! ### raise X('..') -/
def fRaiseT (c : Str) : FS := fun r S => .exc ⟨c, []⟩ r S
/-- what the top says of an exception class without __init__ -/
structure ExcT (K : PySem.W.Frag) (C : Addr) : Prop where
  ex : PySem.W.excIn K C He.veBase "ValueError.__new__" = true
  kp : PySem.W.keepIn K (.ref C) = true
  sb : PySem.W.subIn K (.ref C) (.type "BaseException") = some true
  ty : PySem.W.typeIn K (.ref C) = some (.type "type")
section
variable {X : Cx} {W : WX} {pos pos2 p p2 : Pos} {C : Addr} {x : Str}
theorem cs_raiseT {t : Str} {j : Nat} (T : ExcT X.K C) (tk : Takes X W) (gC : X.mg x = some (.ref C)) (hg : Gl X x := by rfl) (hc : X.calm = true := by rfl) (hdb : (x == ("__debug__" : Str)) = false := by decide) :
    CS X W (.Raise (some (.Call (.Name x p) [.Constant (.str t) j p2] [] pos)) none pos2) (fRaiseT x) :=
  PS.imp (ps_raise hc tk (pmk_own PySem.F.excBase_ValueError T.ex gC T.kp (raises_own T.sb T.ty) hg hdb)) fun D σ H ⟨m, r, S, R, E, h⟩ => h m H σ (.ref C) none .refl R E ⟨C, rfl, gC, .inl ⟨rfl, rfl⟩⟩
end
/-! ### raise X(e, ..), X's __init__ hands its arguments to DeckError's and keeps them as fields -/
def fRaise (c : Str) (ns : List Str) (a : FA) : FS := fun r S => match a r S with
  | .ok ds S1 => if ds.length = ns.length then .exc ⟨c, (ns.zip ds).reverse⟩ r S1 else .stuck
  | .exc x S1 => .exc x r S1
  | .stuck => .stuck
/-- the heap behind such an __init__ -/
def hInit (H : Hp) (a C dx : Addr) (fs : List (Str × V)) : Hp := upd (upd H a (exo a C (some dx))) dx (exd dx fs)
def spInit (C : Addr) (ns : List Str) : Sp := fun vs H Q _ => ∃ a ws, vs = .ref a :: ws ∧ ws.length = ns.length ∧ H a = some (exo a C none) ∧ ∀ dx, H dx = none → dx ≠ a → Q .non (hInit H a C dx (ns.zip ws).reverse)
/-- what the top says of an exception class with such an __init__ -/
structure OexT (P : Program) (w : World) (K : PySem.W.Frag) (mg : MGf) (base : Heap) (C : Addr) (ns : List Str) : Prop where
  o : OexC K C
  init : ∃ fI fd, PySem.W.findIn K (.ref C) "__init__" = some (some (.ref fI)) ∧ PySem.W.typeIn K (.ref fI) = some (.type "function") ∧ FnOk P w K mg base (L2.CX P w) 3 fI fd ("self" :: ns) (spInit C ns) ∧ Binds K fd ("self" :: ns) []
section
variable {X : Cx} {W : WX} {pos pos2 p p2 : Pos} {C : Addr} {x : Str} {e : Expr} {es : List Expr} {fas : FA} {ns : List Str}
theorem cs_raiseI (T : OexT X.prog X.w X.K X.mg X.base C ns) (hr : Room 4 X.A) (tk : Takes X W) (gC : X.mg x = some (.ref C)) (ha : CA X W (e :: es) fas) (hn : ns.length ≤ 1000 := by decide) (hg : Gl X x := by rfl) (hc : X.calm = true := by rfl) (hdb : (x == ("__debug__" : Str)) = false := by decide)
    (he : starEach (e :: es) X.env = (false, eval e X.env) :: starEach es X.env := by rfl) (hpl : (backTo pos (starEach es X.env)).any (·.1) = false := by rfl) :
    CS X W (.Raise (some (.Call (.Name x p) (e :: es) [] pos)) none pos2) (fRaise x ns fas) := by
  obtain ⟨fI, fd, iC, tI, F1, hb⟩ := T.init
  have px : Passes (L2.CX X.prog X.w) X (fun _ _ _ => False) := fun _ _ _ _ _ _ _ ⟨_, _, _, _, _, _, _, _, _, _, _, _, z⟩ => z.elim
  refine PS.imp (ps_raise hc tk (pmk_oex T.o iC tI F1 hr hb .nil px hg gC ha hdb he hpl)) fun D σ H ⟨m, r, S, R, E, h⟩ => ?_
  refine ⟨m, r, S, R, E, ?_⟩
  unfold fRaise at h
  cases e1 : fas r S with
  | stuck => rw [e1] at h; exact h
  | exc x S1 => rw [e1] at h; exact fun m' H' cls dd g R' q => h m' H' σ cls dd g R' (E.go g) q
  | ok ds S1 =>
    rw [e1] at h
    intro m1 H1 vs g1 R1 q1
    dsimp only at h
    by_cases hl : ds.length = ns.length
    · rw [if_pos hl] at h
      have hvl : vs.length = ns.length := by rw [← q1.length]; exact hl
      refine ⟨by rw [hvl]; exact hn, fun a hna => ⟨a, vs, by rw [List.append_nil], hvl, upd_same, fun d hd hda => ⟨rfl, d, (ns.zip vs).reverse, ?_, ?_, ?_, ?_⟩⟩⟩
      · unfold hInit; rw [upd_ne (Ne.symm hda), upd_same]
      · unfold hInit; rw [upd_same]
      · rw [upd_ne hda] at hd; exact hd
      · have hd1 : H1 d = none := by rw [upd_ne hda] at hd; exact hd
        have eh : upd (del (hInit (upd H1 a (exo a C none)) a C d (ns.zip vs).reverse) a) d (.xd (ns.zip vs).reverse) = upd H1 d (.xd (ns.zip vs).reverse) := by
          funext b
          by_cases hb : b = d
          · subst hb; rw [upd_same, upd_same]
          · rw [upd_ne hb, upd_ne hb]
            by_cases hba : b = a
            · subst hba; rw [del_same]; exact hna.symm
            · rw [del_ne hba]; unfold hInit; rw [upd_ne hb, upd_ne hba, upd_ne hba]
        rw [eh]
        have gn : Goes X.K m1 H1 m1 (upd H1 d (.xd (ns.zip vs).reverse)) := goes_new hd1
        refine h m1 _ σ (.ref C) (some d) (g1.trans gn) (R1.beside hd1) (E.go (g1.trans gn)) ⟨C, rfl, gC, .inr ⟨d, _, rfl, upd_same, ?_, ?_⟩⟩
        · show (ns.zip vs).reverse.map (·.1) = (ns.zip ds).reverse.map (·.1)
          rw [List.map_reverse, List.map_reverse, List.map_fst_zip (by omega), List.map_fst_zip (by omega)]
        · show Reps X.K X.MG m1 _ ((ns.zip ds).reverse.map (·.2)) ((ns.zip vs).reverse.map (·.2))
          rw [List.map_reverse, List.map_reverse, List.map_snd_zip (by omega), List.map_snd_zip (by omega)]
          have rev : ∀ {as : List CL.D} {bs : List V}, Reps X.K X.MG m1 (upd H1 d (.xd (ns.zip vs).reverse)) as bs → Reps X.K X.MG m1 (upd H1 d (.xd (ns.zip vs).reverse)) as.reverse bs.reverse := by
            intro as
            induction as with
            | nil => intro bs r; cases r; exact .nil
            | cons a as ih =>
              intro bs r
              cases r with
              | cons r1 r2 =>
                rw [List.reverse_cons, List.reverse_cons]
                exact (ih r2).append (.cons r1 .nil)
          exact rev (q1.go gn)
    · rw [if_neg hl] at h; exact h.elim
end
/-! ### such an __init__ keeps spInit -/
/-- what the top says of DeckError, whose __init__ is ValueError's -/
structure DkT (K : PySem.W.Frag) (mg : MGf) (C : Addr) : Prop where
  g : mg "DeckError" = some (.ref C)
  rd : PySem.W.readsIn K C (.type "type") = true
  ga : PySem.W.specialIn K (.ref C) "__getattribute__" = some (some (.builtin "type.__getattribute__"))
  at_ : PySem.W.findCls K (.ref C) (.type "type") "__init__" = some (.val (.builtin "ValueError.__init__"))
section
variable {X : Cx} {DC : Addr} {e : Expr} {es : List Expr} {ta : TA} {p1 p2 pos : Pos}
theorem pe_dkinit {pl : Sem Bool} (T : DkT X.K X.MG DC) (ha : PA X (e :: es) ta) (hg : Gl X "DeckError" := by rfl)
    (hc : eval (.Call (.Attribute (.Name "DeckError" p1) "__init__" p2) (e :: es) [] pos) X.env = (do
      let ov ← eval (.Name "DeckError" p1) X.env
      standAt p2.atName
      let (f, first) ← holding [ov] (getMethod ov "__init__" pl)
      callWith pos f first (backTo pos (starEach (e :: es) X.env)) (backToKw pos (keywordEach [] X.env))) := by rfl)
    (he : starEach (e :: es) X.env = (false, eval e X.env) :: starEach es X.env := by rfl) (hpl : (backTo pos (starEach es X.env)).any (·.1) = false := by rfl) :
    PE X (.Call (.Attribute (.Name "DeckError" p1) "__init__" p2) (e :: es) [] pos) (tVeI X.K ta) := by
  refine ⟨fun pins s σ H Q I h => ?_⟩
  refine PySem.W.methodCall_KW (ld_glob I hg T.g ?_ (by decide)) hc
  refine PySem.W.method_cls I.kIn T.ga (PySem.W.cls_value I.kIn T.rd T.at_ rfl ?_)
  show wpAny _ _ (callWith pos (Value.builtin "ValueError.__init__") [] (backTo pos (starEach (e :: es) X.env)) []) _ _ _
  refine PyProof.Rows.callWith_method1 (thn (ha.run pos pins _ σ H _ (I.tok _) h) fun us s1 ⟨vs, H1, I1, r1, a, C, ws, ev, hl, T, ea, q⟩ => ?_) he hpl
  subst ev
  cases r1 with
  | @cons _ u0 _ ur ra rw' =>
    obtain rfl : u0 = Value.ref a := ra
    have hlen : ur.length ≤ sizeLine := by
      rw [← Paired.length rw', sizeLine_eq]
      omega
    exact oinit_ok T I1 ea hlen fun s' J => ⟨.non, H1, J, rfl, q⟩
end
theorem hInit_one {H : Hp} {a C dx : Addr} {f : Str} {y : V} (hda : dx ≠ a) : upd (upd H dx (exd dx [(f, y)])) a (exo a C (some dx)) = hInit H a C dx [(f, y)] := by
  funext b
  unfold hInit
  by_cases hb : b = a
  · subst hb; rw [upd_same, upd_ne (Ne.symm hda), upd_same]
  · rw [upd_ne hb]
    by_cases hd : b = dx
    · subst hd; rw [upd_same, upd_same]
    · rw [upd_ne hd, upd_ne hd, upd_ne hb]
theorem hInit_more {H : Hp} {a C dx : Addr} {fs : List (Str × V)} {f : Str} {y : V} : upd (hInit H a C dx fs) dx (exd dx ((f, y) :: fs)) = hInit H a C dx ((f, y) :: fs) := by
  unfold hInit
  rw [upd_upd]
theorem hInit_a {H : Hp} {a C dx : Addr} {fs : List (Str × V)} (hda : dx ≠ a) : hInit H a C dx fs a = some (exo a C (some dx)) := by
  unfold hInit
  rw [upd_ne (Ne.symm hda), upd_same]
theorem hInit_d {H : Hp} {a C dx : Addr} {fs : List (Str × V)} : hInit H a C dx fs dx = some (exd dx fs) := by
  unfold hInit
  rw [upd_same]
section
variable {P : Program} {w : World} {K : PySem.W.Frag} {mg : MGf} {base : Heap} {C DC f : Addr} {st : Stmt} {qual n1 n2 n3 : Str}
theorem init_ok1 (D : DkT K mg DC) (T : OexC K C) (h1 : PySem.W.findIn K (.ref C) n1 = some none) (S : FnScope ["self", n1] ["self", n1] (defScope st)) {fd : FuncData} (F : FunD K "__init__" qual (defArgs st) (defBody st) (defScope st) [] [] f fd)
    (hbody : ∀ (cdv : Value) (A : Around) (outer : List PySem.Env) (s : Shared) (H : Hp) (E : XK), PSs (cxOf (L2.CX P w) P w K mg base ["self", n1] qual (defScope st) f cdv A outer s H E) (defBody st) (tSeq (tDrop (tVeI K (tCons (tVar 0) (tCons (tVar 1) tNil)))) (tOst K n1 (tVar 0) (tVar 1)))) :
    FnOk P w K mg base (L2.CX P w) 3 f fd ["self", n1] (spInit C [n1]) := by
  refine FnOk.mono (F.ok (k := 0) S (fun vs H Q E ⟨a, ws, e, hl, _⟩ => by rw [e]; simpa using hl) fun cdv A outer s H vs Q E hr h => ⟨_, hbody cdv A outer s H E, ?_⟩) (by decide)
  obtain ⟨a, ws, rfl, hl, ha, k⟩ := h
  match ws, hl with
  | [y1], _ =>
    refine ⟨_, rfl, _, rfl, a, C, [y1], rfl, by simp, T, ha, ?_⟩
    refine ⟨_, rfl, _, rfl, a, C, rfl, T, h1, .inl ⟨ha, fun dx hd hda => ?_⟩⟩
    rw [hInit_one hda]
    exact k dx hd hda
theorem init_ok2 (D : DkT K mg DC) (T : OexC K C) (h1 : PySem.W.findIn K (.ref C) n1 = some none) (h2 : PySem.W.findIn K (.ref C) n2 = some none) (S : FnScope ["self", n1, n2] ["self", n1, n2] (defScope st)) {fd : FuncData} (F : FunD K "__init__" qual (defArgs st) (defBody st) (defScope st) [] [] f fd)
    (hbody : ∀ (cdv : Value) (A : Around) (outer : List PySem.Env) (s : Shared) (H : Hp) (E : XK), PSs (cxOf (L2.CX P w) P w K mg base ["self", n1, n2] qual (defScope st) f cdv A outer s H E) (defBody st) (tSeq (tDrop (tVeI K (tCons (tVar 0) (tCons (tVar 1) (tCons (tVar 2) tNil))))) (tSeq (tOst K n1 (tVar 0) (tVar 1)) (tOst K n2 (tVar 0) (tVar 2))))) :
    FnOk P w K mg base (L2.CX P w) 3 f fd ["self", n1, n2] (spInit C [n1, n2]) := by
  refine FnOk.mono (F.ok (k := 0) S (fun vs H Q E ⟨a, ws, e, hl, _⟩ => by rw [e]; simpa using hl) fun cdv A outer s H vs Q E hr h => ⟨_, hbody cdv A outer s H E, ?_⟩) (by decide)
  obtain ⟨a, ws, rfl, hl, ha, k⟩ := h
  match ws, hl with
  | [y1, y2], _ =>
    refine ⟨_, rfl, _, rfl, _, rfl, a, C, [y1, y2], rfl, by simp, T, ha, ?_⟩
    refine ⟨_, rfl, _, rfl, a, C, rfl, T, h1, .inl ⟨ha, fun dx hd hda => ?_⟩⟩
    rw [hInit_one hda]
    refine ⟨_, rfl, _, rfl, a, C, rfl, T, h2, .inr ⟨dx, _, hInit_a hda, hInit_d, by simp, ?_⟩⟩
    rw [hInit_more]
    exact k dx hd hda
theorem init_ok3 (D : DkT K mg DC) (T : OexC K C) (h1 : PySem.W.findIn K (.ref C) n1 = some none) (h2 : PySem.W.findIn K (.ref C) n2 = some none) (h3 : PySem.W.findIn K (.ref C) n3 = some none) (S : FnScope ["self", n1, n2, n3] ["self", n1, n2, n3] (defScope st)) {fd : FuncData} (F : FunD K "__init__" qual (defArgs st) (defBody st) (defScope st) [] [] f fd)
    (hbody : ∀ (cdv : Value) (A : Around) (outer : List PySem.Env) (s : Shared) (H : Hp) (E : XK), PSs (cxOf (L2.CX P w) P w K mg base ["self", n1, n2, n3] qual (defScope st) f cdv A outer s H E) (defBody st) (tSeq (tDrop (tVeI K (tCons (tVar 0) (tCons (tVar 1) (tCons (tVar 2) (tCons (tVar 3) tNil)))))) (tSeq (tOst K n1 (tVar 0) (tVar 1)) (tSeq (tOst K n2 (tVar 0) (tVar 2)) (tOst K n3 (tVar 0) (tVar 3)))))) :
    FnOk P w K mg base (L2.CX P w) 3 f fd ["self", n1, n2, n3] (spInit C [n1, n2, n3]) := by
  refine FnOk.mono (F.ok (k := 0) S (fun vs H Q E ⟨a, ws, e, hl, _⟩ => by rw [e]; simpa using hl) fun cdv A outer s H vs Q E hr h => ⟨_, hbody cdv A outer s H E, ?_⟩) (by decide)
  obtain ⟨a, ws, rfl, hl, ha, k⟩ := h
  match ws, hl with
  | [y1, y2, y3], _ =>
    refine ⟨_, rfl, _, rfl, _, rfl, _, rfl, a, C, [y1, y2, y3], rfl, by simp, T, ha, ?_⟩
    refine ⟨_, rfl, _, rfl, a, C, rfl, T, h1, .inl ⟨ha, fun dx hd hda => ?_⟩⟩
    rw [hInit_one hda]
    refine ⟨_, rfl, _, rfl, a, C, rfl, T, h2, .inr ⟨dx, _, hInit_a hda, hInit_d, by simp, ?_⟩⟩
    rw [hInit_more]
    refine ⟨_, rfl, _, rfl, a, C, rfl, T, h3, .inr ⟨dx, _, hInit_a hda, hInit_d, by simp, ?_⟩⟩
    rw [hInit_more]
    exact k dx hd hda
end
end CL

set_option Elab.async false
set_option linter.all false
set_option maxRecDepth 100000
set_option maxHeartbeats 4000000
/-! the facts that the head hands on -/
namespace CL
open PySem PySem.Spec PyProof.Rows L2 He
abbrev AlC : Type := AlD × Bool
def asC (g : Addr → Option Obj) (n : Nat) : List Addr := asD g n ++ [cStatics]
def obsC (fa : List Fa) (fn : List DefD) (ex : PySem.W.Frag → Bool) (K : PySem.W.Frag) : AlC := (obsD fa fn K, ex K)
def valC (fn : List DefD) : AlC := (valD fn, true)
def SaysC (fa : List Fa) (fn : List DefD) (ex : PySem.W.Frag → Bool) (K : PySem.W.Frag) : Prop := obsC fa fn ex K = valC fn
def obsCG (n : Nat) (fa : List Fa) (fn : List DefD) (ex : PySem.W.Frag → Bool) (g : Addr → Option Obj) : AlC := obsC fa fn ex (frG g (asC g n))
def hookC (n : Nat) (fa : List Fa) (fn : List DefD) (ex : PySem.W.Frag → Bool) : PySem.W.Hook where
  α := AlC
  obs := fun s => obsCG n fa fn ex s.heap.get?
  val := fun _ => valC fn
  says := fun _ h => ∃ K : PySem.W.Frag, K.In h ∧ SaysC fa fn ex K
  of := fun _ _ e => ⟨_, frG_in, e⟩
  keeps := fun _ _ _ ⟨K, hK, c⟩ k => ⟨K, PySem.W.Frag.In.keeps hK k, c⟩
theorem obsCG_eq {n : Nat} {fa : List Fa} {fn : List DefD} {ex : PySem.W.Frag → Bool} {g : Addr → Option Obj} {s : Shared} (h : ∀ a, g a = s.heap.get? a) : obsCG n fa fn ex g = (hookC n fa fn ex).obs s := by
  have e : g = s.heap.get? := funext h
  rw [e] <;> rfl
theorem SaysC.d {fa : List Fa} {fn : List DefD} {ex : PySem.W.Frag → Bool} {K : PySem.W.Frag} (c : SaysC fa fn ex K) : SaysD fa fn K := congrArg (fun z : AlC => z.1) c
theorem SaysC.x {fa : List Fa} {fn : List DefD} {ex : PySem.W.Frag → Bool} {K : PySem.W.Frag} (c : SaysC fa fn ex K) : ex K = true := congrArg (fun z : AlC => z.2) c
/-! ### further facts as Bools -/
def wtupB (K : PySem.W.Frag) (x : Str) : Bool := match K.lookup (ga K x) with
  | some ⟨.type c, none, _, _⟩ => decide (c = "tuple")
  | _ => false
theorem wtupB_ok {K : PySem.W.Frag} {x : Str} (h : wtupB K x = true) : ∃ o, K.lookup (ga K x) = some o ∧ o.cls = .type "tuple" ∧ o.dict = none := by
  unfold wtupB at h
  split at h
  · rename_i c dt sl e
    exact ⟨_, e, by rw [of_decide_eq_true h], rfl⟩
  · cases h
def oexB (K : PySem.W.Frag) (C : Addr) : Bool := (match K.lookup C with
  | some ⟨.type t, dd, .cls cd, sl⟩ => (match cd.mro, sl.toList with
    | .ref C' :: bm, [_, _, _, _, some (.builtin n), _] => decide (t = "type") && (C' == C && (n == "ValueError.__new__" && (!cd.hasDel && (cd.hasDict && PySem.HandSPX.refsVE bm))))
    | _, _ => false)
  | _ => false) && (eqO (PySem.W.findIn K (.ref C) "__setattr__") (some (some (.builtin "object.__setattr__"))) && (decide (PySem.W.subIn K (.ref C) (.type "BaseException") = some true) && (decide (PySem.W.typeIn K (.ref C) = some (.type "type")) && PySem.W.keepIn K (.ref C))))
theorem oexB_ok {K : PySem.W.Frag} {C : Addr} (h : oexB K C = true) : OexC K C := by
  obtain ⟨h1, h⟩ := ba h
  obtain ⟨h2, h⟩ := ba h
  obtain ⟨h3, h⟩ := ba h
  obtain ⟨h4, h5⟩ := ba h
  refine ⟨?_, eqO_ok h2, of_decide_eq_true h3, of_decide_eq_true h4, h5⟩
  split at h1
  · rename_i t dd cd sl e
    split at h1
    · rename_i C' bm k0 k1 k2 k3 n k5 hm hs
      obtain ⟨g1, h1⟩ := ba h1
      obtain ⟨g2, h1⟩ := ba h1
      obtain ⟨g3, h1⟩ := ba h1
      obtain ⟨g4, h1⟩ := ba h1
      obtain ⟨g5, g6⟩ := ba h1
      have e1 := of_decide_eq_true g1
      have e2 := eq_of_beq g2
      have e3 := eq_of_beq g3
      subst e1 e2 e3
      obtain ⟨nm, bs, mro, ns, qn, hd, sn, sub, ab, col, del⟩ := cd
      dsimp only at hm g4 g5
      subst hm
      have e4 : del = false := by simpa using g4
      subst e4 g5
      have hsl : sl = #[k0, k1, k2, k3, some (.builtin "ValueError.__new__"), k5] := by
        obtain ⟨l⟩ := sl
        simp only at hs
        rw [hs]
      subst hsl
      exact ⟨nm, qn, ns, bs, bm, sn, sub, ab, col, dd, k0, k1, k2, k3, k5, e, g6⟩
    · cases h1
  · cases h1
/-- an exception class's __init__ is a function -/
def initB (K : PySem.W.Frag) (C : Addr) : Bool := eqO (PySem.W.findIn K (.ref C) "__init__") (some (some (.ref (ma K C "__init__")))) && decide (PySem.W.typeIn K (.ref (ma K C "__init__")) = some (.type "function"))
theorem initB_ok {K : PySem.W.Frag} {C : Addr} (h : initB K C = true) : PySem.W.findIn K (.ref C) "__init__" = some (some (.ref (ma K C "__init__"))) ∧ PySem.W.typeIn K (.ref (ma K C "__init__")) = some (.type "function") := by
  obtain ⟨h1, h2⟩ := ba h
  exact ⟨eqO_ok h1, of_decide_eq_true h2⟩
def dkB (K : PySem.W.Frag) (C : Addr) : Bool := PySem.W.readsIn K C (.type "type") && (eqO (PySem.W.specialIn K (.ref C) "__getattribute__") (some (some (.builtin "type.__getattribute__"))) && (match PySem.W.findCls K (.ref C) (.type "type") "__init__" with
  | some (.val (.builtin n)) => n == "ValueError.__init__"
  | _ => false))
theorem dkB_ok {K : PySem.W.Frag} {mg : MGf} {C : Addr} (g : mg "DeckError" = some (.ref C)) (h : dkB K C = true) : DkT K mg C := by
  obtain ⟨h1, h⟩ := ba h
  obtain ⟨h2, h3⟩ := ba h
  refine ⟨g, h1, eqO_ok h2, ?_⟩
  split at h3
  · rename_i n e
    have e2 := eq_of_beq h3
    subst e2
    exact e
  · cases h3
theorem excT_of {K : PySem.W.Frag} {x : Str} (c : (Fa.exc x).ok K = true) : ExcT K (ga K x) := by
  obtain ⟨a, b, d, e⟩ := exc_ok c
  exact ⟨a, b, d, e⟩
/-! ### the law's own end -/
/-- no list stands in the written part -/
def noLstB (K : PySem.W.Frag) : Bool := K.all fun q => match q.2.cls with
  | .type c => !(c == "list")
  | _ => true
theorem lookup_mem {a : Addr} {o : Obj} : ∀ {K : PySem.W.Frag}, K.lookup a = some o → (a, o) ∈ K
  | [], h => by cases h
  | (b, u) :: r, h => by
    have h : (match a == b with | true => some u | false => List.lookup a r) = some o := h
    cases e : (a == b) with
    | true =>
      rw [e] at h
      cases h
      rw [eq_of_beq e]
      exact List.mem_cons_self
    | false =>
      rw [e] at h
      exact List.mem_cons_of_mem _ (lookup_mem h)
theorem noLst_ok {K : PySem.W.Frag} (h : noLstB K = true) {a : Addr} {o : Obj} (e : K.lookup a = some o) : o.cls ≠ .type "list" := by
  have q := List.all_eq_true.mp h _ (lookup_mem e)
  intro z
  have q : (match o.cls with | .type c => !(c == "list") | _ => true) = true := q
  rw [z] at q
  cases q
theorem law_sp {K : PySem.W.Frag} {mg : MG} {F : FF} {n : Nat} (hno : noLstB K = true) (hF : ∀ ns : List Int, ns.length ≤ n → ∃ S', F [.fro (ns.map .int)] [.ref 0] = .ok (.bool true) S') (H : Hp) (a : Addr) (ns : List Int) (hl : ns.length ≤ n)
    (hO : Only H) (hS : SqL K H a (ns.map V.int)) : spC K mg 1 F [.ref a] H (fun v _ => v = .bl true) fun _ _ _ => False := by
  have hS : ∃ o, H a = some (.frz o (.lst (ns.map V.int))) := by
    rcases hS with (h | h) | ⟨o, its, k, h, hc, _⟩
    · rcases hO a with z | ⟨o, xs, z⟩
      · rw [h] at z; cases z
      · rw [h] at z; cases z
    · exact h
    · exact absurd hc (noLst_ok hno h)
  obtain ⟨o, hS⟩ := hS
  refine ⟨[a], [.fro (ns.map .int)], [.ref 0], ⟨rfl, by simp, fun l ob b h1 h2 => ?_⟩, .cons (.ref rfl) .nil, rfl, ?_⟩
  · cases l with
    | zero =>
      cases h1
      cases h2
      exact ⟨o, _, hS, reps_ints ns⟩
    | succ l => simp at h1
  · obtain ⟨S', e⟩ := hF ns hl
    rw [e]
    intro m' H' v g R' q
    cases q
    rfl
/-- the law's def, for every base, that lets nothing out -/
theorem law_fn {P : Program} {w : World} {K : PySem.W.Frag} {mg : MGf} {k : Nat} {f : Addr} {x : Str} {F : FF} (O : ∀ base, OkD P w K mg base k f [x] F) :
    ∃ fd, (∀ (s : Shared) (u : Value), BindsTo s fd ⟨[u], []⟩ [(x, u)]) ∧ ∀ base, FnOk P w K mg base CX0 k f fd [x] (fun vs H Q _ => spC K ⟨mg, P, w⟩ 1 F vs H Q (fun _ _ _ => False)) := by
  obtain ⟨fd, _, _, _, b, oc, od, osl, l⟩ := O default
  refine ⟨fd, fun s u => b s [u] rfl, fun base => ?_⟩
  obtain ⟨fd2, Fn, _, _, _, oc2, od2, osl2, l2⟩ := O base
  rw [l] at l2
  cases l2
  refine ⟨fun vs H Q E h => Fn.len vs H Q _ h, fun A outer s H args us vs Q E hr e hb hv h => ?_⟩
  refine codeAny_mono (Fn.run A outer s H args us vs Q (fun _ _ _ => False) hr e hb hv h) fun r s' q => ?_
  cases r with
  | ok fl => cases fl <;> exact q
  | error e =>
    obtain ⟨_, _, _, _, _, _, _, _, _, _, _, _, z⟩ := q
    exact z.elim
end CL

set_option Elab.async false
set_option linter.all false
set_option maxRecDepth 100000
set_option maxHeartbeats 4000000
namespace CL
open PySem PySem.Spec PyProof.Rows L2
/-! ### more methods of lists and texts -/
section
variable {X : Cx}
def idxD (y : PyData) : Nat → List PyData → Option Nat
  | _, [] => none
  | j, z :: zs => if PyData.eqv z y = true then some j else idxD y (j + 1) zs
theorem idxD_ok {y : PyData} : ∀ {zs : List PyData} {j k : Nat}, idxD y j zs = some k → ∃ z, j ≤ k ∧ zs[k - j]? = some z ∧ PyData.eqv z y = true ∧ ∀ (m : Nat) (z' : PyData), m < k - j → zs[m]? = some z' → PyData.eqv z' y = false
  | [], j, k, h => by cases h
  | z :: zs, j, k, h => by
    unfold idxD at h
    by_cases hz : PyData.eqv z y = true
    · rw [if_pos hz] at h; cases h
      exact ⟨z, Nat.le_refl _, by simp, hz, fun m z' hm => by omega⟩
    · rw [if_neg hz] at h
      obtain ⟨w, h1, h2, h3, h4⟩ := idxD_ok h
      refine ⟨w, by omega, ?_, h3, fun m z' hm hm' => ?_⟩
      · rw [show k - j = (k - (j + 1)) + 1 by omega]; simpa using h2
      · cases m with
        | zero => simp at hm'; subst hm'; simpa using hz
        | succ m => exact h4 m z' (by omega) (by simpa using hm')
def mIndex : BM
  | .ref l, [d], S => (match toD S 60 (.ref l) with
    | some (.list zs) => (match toD S 60 d with
      | some y => (idxD y 0 zs).map fun (j : Nat) => (.int j, S)
      | none => none)
    | _ => none)
  | _, _, _ => none
theorem mc_index (hu : X.A.units + 65 < cLine) : MtC X "list.index" mIndex := MtR.imp (mt_indexD hu) fun x xs H Q ⟨m, S, e, ds, d, S', R, re, r, h, q⟩ => by
  match e, ds, h with
  | .ref l, [y], h =>
    obtain ⟨y', rfl, ry⟩ := r.one
    simp only [mIndex] at h
    cases e1 : toD S 60 (.ref l) with
    | none => rw [e1] at h; cases h
    | some z =>
      rw [e1] at h
      cases z with
      | list zs =>
        dsimp only at h
        cases e2 : toD S 60 y with
        | none => rw [e2] at h; cases h
        | some w =>
          rw [e2] at h
          dsimp only at h
          cases e3 : idxD w 0 zs with
          | none => rw [e3] at h; cases h
          | some j =>
            rw [e3] at h; cases h
            obtain ⟨z, _, h2, h3, h4⟩ := idxD_ok e3
            obtain ⟨a1, a2⟩ := toD_shaped R e1 re
            obtain ⟨b1, b2⟩ := toD_shaped R e2 ry
            cases re with
            | @ref _ a ha => exact ⟨a, y', w, zs, j, z, rfl, rfl, a1, b1, a2, b2, by simpa using h2, h3, fun m z' hm => h4 m z' (by omega), q m H _ .refl R (.int _)⟩
      | _ => cases h
def mSIndex : BM
  | .str a, [.str b], S => (match Builtin.Str.occurrences a b 0 a.length 1 with
    | i :: _ => some (.int (i : Nat), S)
    | [] => none)
  | _, _, _ => none
theorem mc_sindex : MtC X "str.index" mSIndex := MtR.imp mt_sindex fun x xs H Q ⟨m, S, e, ds, d, S', R, re, r, h, q⟩ => by
  match e, ds, h with
  | .str z, [.str y], h =>
    cases re
    obtain ⟨y', rfl, ry⟩ := r.one
    cases ry
    simp only [mSIndex] at h
    cases e1 : Builtin.Str.occurrences z y 0 z.length 1 with
    | nil => rw [e1] at h; cases h
    | cons i rest =>
      rw [e1] at h; cases h
      exact ⟨z, y, i, rest, rfl, rfl, e1, q m H _ .refl R (.int _)⟩
def mCount : BM
  | .ref l, [.int k], S => (match intsAt S (.ref l) with
    | some ns => some (.int (ns.count k : Nat), S)
    | none => none)
  | _, _, _ => none
theorem mc_count : MtC X "list.count" mCount := MtR.imp mt_lcount fun x xs H Q ⟨m, S, e, ds, d, S', R, re, r, h, q⟩ => by
  match e, ds, h with
  | .ref l, [.int k], h =>
    obtain ⟨y', rfl, ry⟩ := r.one
    cases ry
    simp only [mCount] at h
    cases e1 : intsAt S (.ref l) with
    | none => rw [e1] at h; cases h
    | some ns =>
      rw [e1] at h; cases h
      obtain ⟨a, rfl, hs⟩ := intsAt_ok R re e1
      exact ⟨a, ns, k, rfl, rfl, hs, q m H _ .refl R (.int _)⟩
def mSCount : BM
  | .str a, [.str b], S => some (.int (Txt.count a b), S)
  | _, _, _ => none
theorem mc_scount : MtC X "str.count" mSCount := MtR.imp mt_count fun x xs H Q ⟨m, S, e, ds, d, S', R, re, r, h, q⟩ => by
  match e, ds, h with
  | .str z, [.str y], h =>
    cases re
    obtain ⟨y', rfl, ry⟩ := r.one
    cases ry
    cases h
    exact ⟨z, y, rfl, rfl, q m H _ .refl R (.int _)⟩
def mRfind : BM
  | .str a, [.str b], S => some (.int (Txt.rfind a b), S)
  | _, _, _ => none
theorem mc_rfind : MtC X "str.rfind" mRfind := MtR.imp mt_rfind fun x xs H Q ⟨m, S, e, ds, d, S', R, re, r, h, q⟩ => by
  match e, ds, h with
  | .str z, [.str y], h =>
    cases re
    obtain ⟨y', rfl, ry⟩ := r.one
    cases ry
    cases h
    exact ⟨z, y, rfl, rfl, q m H _ .refl R (.int _)⟩
def mStrip : BM
  | .str a, [], S => if a.length ≤ LINE then some (.str (Txt.strip a), S) else none
  | _, _, _ => none
theorem mc_strip : MtC X "str.strip" mStrip := MtR.imp mt_strip fun x xs H Q ⟨m, S, e, ds, d, S', R, re, r, h, q⟩ => by
  match e, ds, h with
  | .str z, [], h =>
    cases re
    obtain rfl := r.zero
    simp only [mStrip] at h
    by_cases hz : z.length ≤ LINE
    · rw [if_pos hz] at h; cases h
      exact ⟨z, rfl, rfl, by rw [line_eq]; exact hz, q m H _ .refl R (.str _)⟩
    · rw [if_neg hz] at h; cases h
/-! ### divmod -/
def bDivmod : BF
  | [.int i, .int j], S => if 0 < j ∧ j < 1073741824 then some (.tup [.int (i / j), .int (i % j)], S) else none
  | _, _ => none
theorem cc_divmod : CallC X (.builtin "divmod") bDivmod := CallR.imp call_divmod fun xs H Q ⟨m, S, ds, d, S', R, r, h, q⟩ => by
  match ds, h with
  | [.int i, .int j], h =>
    obtain ⟨x, y, rfl, rx, ry⟩ := r.two
    cases rx; cases ry
    simp only [bDivmod] at h
    by_cases hz : 0 < j ∧ j < 1073741824
    · rw [if_pos hz] at h; cases h
      exact ⟨i, j, rfl, hz, fun p hp => q _ _ _ (goes_new hp) (R.beside hp) (.tup (SqT.of upd_same) (.cons (.int _) (.cons (.int _) .nil)))⟩
    · rw [if_neg hz] at h; cases h
end
end CL

set_option Elab.async false
set_option linter.all false
set_option maxRecDepth 100000
set_option maxHeartbeats 4000000
namespace CL
open PySem PySem.Spec PyProof.Rows L2
/-! ### match of a tuple against sequences -/
inductive Pt where
  | s (x : Str)
  | cap (i : Nat)
  | any
  | non
def pm : Pt → D → Option (Option (List (Nat × D)))
  | .s x, .str y => some (if y = x then some [] else none)
  | .s _, _ => none
  | .cap i, d => some (some [(i, d)])
  | .any, _ => some (some [])
  | .non, d => some (if isNone d = true then some [] else none)
def pms : List Pt → List D → Option (Option (List (Nat × D)))
  | [], [] => some (some [])
  | q :: qs, d :: ds => match pm q d with
    | none => none
    | some none => some none
    | some (some bs) => match pms qs ds with
      | none => none
      | some none => some none
      | some (some cs) => some (some (bs ++ cs))
  | _, _ => none
def pmt (qs : List Pt) : D → Option (Option (List (Nat × D)))
  | .tup ds => if ds.length = qs.length then pms qs ds else some none
  | _ => none
def binds : List (Nat × D) → Env → Env
  | [], r => r
  | b :: bs, r => binds bs (r.set b.1 (some b.2))
def fCases : List (List Pt × FS) → D → FS
  | [], _ => fun r S => .next r S
  | c :: cs, d => fun r S => match pmt c.1 d with
    | none => .stuck
    | some none => fCases cs d r S
    | some (some bs) => c.2 (binds bs r) S
def fMatch (a : FE) (cs : List (List Pt × FS)) : FS := fun r S => match a r S with
  | .ok d S1 => fCases cs d r S1
  | .exc x S1 => .exc x r S1
  | .stuck => .stuck
section
variable {X : Cx} {W : WX} {pos : Pos}
/-- what was caught -/
inductive BR (X : Cx) (m : List Addr) (H : Hp) : List (Nat × D) → List (Str × Value) → Prop
  | nil : BR X m H [] []
  | cons {i : Nat} {x : Str} {d : D} {v : V} {u : Value} {bs : List (Nat × D)} {ms : List (Str × Value)} : X.N[i]? = some x → Loc X.env.scope x → (X.fn x = true ∨ X.env.scope.names.lookup x = some .local) → Rep X.K X.MG m H d v → RelV v u → BR X m H bs ms → BR X m H ((i, d) :: bs) ((x, u) :: ms)
theorem BR.append {m : List Addr} {H : Hp} : ∀ {bs cs : List (Nat × D)} {ms ns : List (Str × Value)}, BR X m H bs ms → BR X m H cs ns → BR X m H (bs ++ cs) (ms ++ ns)
  | _, _, _, _, .nil, s => s
  | _, _, _, _, .cons a b c d e r, s => .cons a b c d e (BR.append r s)
def PmQ (X : Cx) (pins : List (Addr × Obj)) (σ : L2.St) (m : List Addr) (H : Hp) (Q : Option (List (Str × Value)) → Shared → Prop) : Option (Option (List (Nat × D))) → Prop
  | none => False
  | some none => ∀ s', Inv X pins σ H s' → Q none s'
  | some (some bs) => ∀ s' ms, Inv X pins σ H s' → BR X m H bs ms → Q (some ms) s'
def PtJ (X : Cx) (W : WX) (p : Pattern) (q : Pt) : Prop := p.isStar = false ∧ ∀ (pins : List (Addr × Obj)) (s : Shared) (σ : L2.St) (H : Hp) (m : List Addr) (S : Store) (d : D) (v : V) (u : Value) (Q : Option (List (Str × Value)) → Shared → Prop),
  Inv X pins σ H s → Rel X.K X.MG m S H → Rep X.K X.MG m H d v → RelV v u → PmQ X pins σ m H Q (pm q d) → wpAny (model X.prog X.w) X.A (matchPattern p X.env u) Q X.xe s
def PtsJ (X : Cx) (W : WX) (ps : List Pattern) (qs : List Pt) : Prop := ∀ (pins : List (Addr × Obj)) (s : Shared) (σ : L2.St) (H : Hp) (m : List Addr) (S : Store) (ds : List D) (vs : List V) (us : List Value) (Q : Option (List (Str × Value)) → Shared → Prop),
  Inv X pins σ H s → Rel X.K X.MG m S H → Reps X.K X.MG m H ds vs → Vals vs us → PmQ X pins σ m H Q (pms qs ds) → wpAny (model X.prog X.w) X.A (matchEach ps X.env us) Q X.xe s
theorem pt_any {nm : Option Str} (hn : nm = none) : PtJ X W (.MatchAs none nm pos) .any := by
  subst hn
  exact ⟨rfl, fun pins s σ H m S d v u Q I R r rv h => wpAny_matchPattern_Capture (h s [] I .nil)⟩
theorem pt_cap {i : Nat} {x : Str} (hi : X.N[i]? = some x) (hx : Loc X.env.scope x) (hf : X.fn x = true ∨ X.env.scope.names.lookup x = some .local := by first | exact .inl rfl | exact .inr rfl) : PtJ X W (.MatchAs none (some x) pos) (.cap i) :=
  ⟨rfl, fun pins s σ H m S d v u Q I R r rv h => wpAny_matchPattern_Capture (h s [(x, u)] I (.cons hi hx hf r rv .nil))⟩
theorem pt_non : PtJ X W (.MatchSingleton .none pos) .non := by
  refine ⟨rfl, fun pins s σ H m S d v u Q I R r rv h => ?_⟩
  have h : PmQ X pins σ m H Q (some (if isNone d = true then some [] else none)) := h
  rw [arm_matchPattern_MatchSingleton]
  refine wpAny_pure ?_
  cases r with
  | none => cases rv; exact h s [] I .nil
  | bool b => cases rv; exact h s I
  | int i => obtain ⟨t, rfl⟩ := rv; exact h s I
  | str x => obtain ⟨t, rfl⟩ := rv; exact h s I
  | tup _ _ => cases rv; exact h s I
  | ref _ => cases rv; exact h s I
  | gl _ => cases rv; exact h s I
theorem pt_s {x : String} {j : Nat} {p1 : Pos} : PtJ X W (.MatchValue (.Constant (.str x) j p1) pos) (.s x) := by
  refine ⟨rfl, fun pins s σ H m S d v u Q I R r rv h => ?_⟩
  cases r with
  | str y =>
    have h : PmQ X pins σ m H Q (some (if y = Str.ofString x then some [] else none)) := h
    refine wpAny_matchPattern_Value (thn ((pe_str (X := X)).run pins s σ H (fun v' H' => v' = .str x ∧ H' = H) I ⟨rfl, rfl⟩) fun z s1 ⟨v1, H1, I1, r1, e1, e2⟩ => ?_)
    subst e1 e2
    refine thn (op_eq pins s1 σ H1 (.str y) (.str x) u z (fun v' H' => v' = .bl (decide (y = Str.ofString x)) ∧ H' = H1) I1 rv r1 ?_) fun c s2 ⟨v2, H2, I2, r2, e1, e2⟩ => ?_
    · refine ⟨rfl, ?_, rfl⟩
      by_cases hy : y = Str.ofString x
      · simp [hy]
      · simp [hy]
    · subst e1 e2
      cases r2
      refine wpAny_truthy_bool ?_
      by_cases hy : y = Str.ofString x
      · rw [if_pos hy] at h
        rw [if_pos (by simp [hy])]
        exact h s2 [] I2 .nil
      · rw [if_neg hy] at h
        rw [if_neg (by simp [hy])]
        exact h s2 I2
  | none => exact h.elim
  | bool b => exact h.elim
  | int i => exact h.elim
  | tup _ _ => exact h.elim
  | ref _ => exact h.elim
  | gl _ => exact h.elim
theorem pts_nil : PtsJ X W [] [] := by
  intro pins s σ H m S ds vs us Q I R r rv h
  cases ds with
  | nil => cases r; cases rv; exact wpAny_matchEach_nil (h s [] I .nil)
  | cons => exact h.elim
theorem pts_cons {p : Pattern} {ps : List Pattern} {q : Pt} {qs : List Pt} (h1 : PtJ X W p q) (h2 : PtsJ X W ps qs) : PtsJ X W (p :: ps) (q :: qs) := by
  intro pins s σ H m S ds vs us Q I R r rv h
  cases r with
  | nil => exact h.elim
  | @cons d ds v vs rd rs =>
    cases rv with
    | cons ru rus =>
      refine wpAny_matchEach_cons ?_ h1.1
      refine h1.2 pins s σ H m S d v _ _ I R rd ru ?_
      have h : PmQ X pins σ m H Q (match pm q d with | none => none | some none => some none | some (some bs) => match pms qs ds with | none => none | some none => some none | some (some cs) => some (some (bs ++ cs))) := h
      cases e1 : pm q d with
      | none => rw [e1] at h; exact h.elim
      | some o =>
        rw [e1] at h
        cases o with
        | none => exact fun s' I' => h s' I'
        | some bs =>
          intro s' ms I' B
          refine h2 pins s' σ H m S ds vs _ _ I' R rs rus ?_
          dsimp only at h
          cases e2 : pms qs ds with
          | none => rw [e2] at h; exact h.elim
          | some o2 =>
            rw [e2] at h
            cases o2 with
            | none => exact fun s'' I'' => h s'' I''
            | some cs => exact fun s'' ms' I'' B' => h s'' _ I'' (B.append B')
/-- a case's pattern [p, ..] -/
def PtSeq (X : Cx) (W : WX) (p : Pattern) (qs : List Pt) : Prop := ∀ (pins : List (Addr × Obj)) (s : Shared) (σ : L2.St) (H : Hp) (m : List Addr) (S : Store) (d : D) (v : V) (u : Value) (Q : Option (List (Str × Value)) → Shared → Prop),
  Inv X pins σ H s → Rel X.K X.MG m S H → Rep X.K X.MG m H d v → RelV v u → PmQ X pins σ m H Q (pmt qs d) → wpAny (model X.prog X.w) X.A (matchPattern p X.env u) Q X.xe s
theorem pt_seq {ps : List Pattern} {qs : List Pt} (hc : X.calm = true) (h : PtsJ X W ps qs) (hl : ps.length = qs.length) (hstar : ps.findIdx? (·.isStar) = none := by rfl)
    (hwild : (ps.all fun p => p.isWildcard || (p.isStar && p.names.isEmpty)) = false := by rfl) : PtSeq X W (.MatchSequence ps pos) qs := by
  intro pins s σ H m S d v u Q I R r rv hq
  cases r with
  | @tup a ds vs hs hr =>
    cases rv
    obtain ⟨its, rvs, ht, hz⟩ := I.tuple hs
    have hlen : its.length = ds.length := by rw [hr.length]; exact (rvs.length).symm
    have hfit : (its.toArray.size : Int) < 2 ^ 63 := by
      rw [hr.length] at hlen
      rw [line_eq] at hz
      simp only [LINE] at hz
      simp
      omega
    have hq : PmQ X pins σ m H Q (if ds.length = qs.length then pms qs ds else some none) := hq
    by_cases hn : ds.length = qs.length
    · rw [if_pos hn] at hq
      have hsz : its.toArray.size = ps.length := by simp; omega
      refine matchSeq_tuple_hit ht hfit hsz ?_ hstar hwild
      rw [← hsz]
      have I0 : Inv X pins σ H { s with toks := s.toks + 1 + 1 } := I.kept (h' := s.heap) (t' := s.toks + 1 + 1) fun b o e => e
      refine unpackItems_tuple (I.ok.hd hc) (s := { s with toks := s.toks + 1 + 1 }) ht fun h' hx => ?_
      have I1 : Inv X pins σ H { s with heap := h', toks := s.toks + 1 + 1 } := I0.kept (t' := s.toks + 1 + 1) fun b o e => hx b o (Nat.ne_of_lt (Heap.lt_size e)) e
      exact h pins _ σ H m S ds vs _ Q I1 R hr (by simpa using rvs) hq
    · rw [if_neg hn] at hq
      refine matchSeq_tuple_miss ht hfit (by simp; omega) ?_ hstar hwild
      exact hq _ (I.kept (h' := s.heap) (t' := s.toks + 1 + 1) fun b o e => e)
  | none => exact hq.elim
  | bool b => exact hq.elim
  | int i => exact hq.elim
  | str _ => exact hq.elim
  | ref _ => exact hq.elim
  | gl _ => exact hq.elim
theorem bind_all {pins : List (Addr × Obj)} {H : Hp} {m : List Addr} (hN : X.N.Nodup) : ∀ {bs : List (Nat × D)} {ms : List (Str × Value)} {σ : L2.St} {r : CL.Env} {s : Shared} {Q : Unit → Shared → Prop}, BR X m H bs ms → Inv X pins σ H s → EnvR X.K X.MG m H r σ →
    (∀ σ' s', Inv X pins σ' H s' → EnvR X.K X.MG m H (binds bs r) σ' → Q () s') → wpAny (model X.prog X.w) X.A (assignInOrder (ms.map fun (n, _) => bindName X.env n) (ms.map (·.2))) Q X.xe s
  | _, _, σ, r, s, Q, .nil, I, E, h => wpAny_assignInOrder_none (h σ s I E)
  | _, _, σ, r, s, Q, .cons hi hx hf rd ru B, I, E, h => wpAny_assignInOrder_more (wpAny_bindName (store_ok I hN hi hx ru (fun s' I' => bind_all hN B I' (E.set rd _) h) hf))
/-- the cases -/
def CsJ (X : Cx) (W : WX) (cs : List MatchCase) (fs : List (List Pt × FS)) : Prop := ∀ (pins : List (Addr × Obj)) (s : Shared) (σ : L2.St) (H : Hp) (m : List Addr) (r : CL.Env) (S : Store) (d : D) (v : V) (u : Value) (first : Bool) (D1 : Ends),
  Inv X pins σ H s → Rel X.K X.MG m S H → EnvR X.K X.MG m H r σ → Rep X.K X.MG m H d v → RelV v u → PoS X.K X.MG W m H D1 (fCases fs d r S) → wpAny (model X.prog X.w) X.A (matchCases cs X.env u first) (SP X pins D1) X.xe s
theorem cj_nil : CsJ X W [] [] := fun pins s σ H m r S d v u first D1 I R E rd rv h => wpAny_matchCases_nil ⟨σ, H, I, h m H σ .refl R E⟩
theorem cj_cons {p : Pattern} {body : List Stmt} {cs : List MatchCase} {qs : List Pt} {f : FS} {fs : List (List Pt × FS)} (hN : X.N.Nodup) (hp : PtSeq X W p qs) (hb : CSs X W body f) (hr : CsJ X W cs fs) : CsJ X W (⟨p, none, body⟩ :: cs) ((qs, f) :: fs) := by
  intro pins s σ H m r S d v u first D1 I R E rd rv h
  refine wpAny_matchCases_cons (hp pins s σ H m S d v u _ I R rd rv ?_)
  have h : PoS X.K X.MG W m H D1 (match pmt qs d with | none => .stuck | some none => fCases fs d r S | some (some bs) => f (binds bs r) S) := h
  cases e : pmt qs d with
  | none => rw [e] at h; exact h.elim
  | some o =>
    rw [e] at h
    cases o with
    | none => exact fun s' I' => hr pins s' σ H m r S d v u false D1 I' R E rd rv h
    | some bs => exact fun s' ms I' B => bind_all hN B I' E fun σ' s'' I'' E' => hb.run pins s'' σ' H D1 I'' ⟨m, _, S, R, E', h⟩
theorem cs_match {a : Expr} {cs : List MatchCase} {fa : FE} {fs : List (List Pt × FS)} (ha : CE X W a fa) (hc : CsJ X W cs fs) : CS X W (.Match a cs pos) (fMatch fa fs) := by
  refine ⟨fun pins s σ H D1 I ⟨m, r, S, R, E, h⟩ => ?_⟩
  refine wpAny_Match (thn (ha.run pins s σ H _ I (seqS R E h)) fun u s1 ⟨v, H1, I1, rv, m1, S1, d, R1, E1, g1, p1, h1⟩ => ?_)
  exact hc pins s1 σ H1 m1 r S1 d v u true D1 I1 R1 E1 p1 rv h1
end
end CL

set_option Elab.async false
set_option linter.all false
set_option maxRecDepth 100000
set_option maxHeartbeats 4000000
namespace CL
open PySem PySem.Spec PyProof.Rows L2
/-! ### tuple(range(n)), list(range(n)) -/
def fTupRg (a : FE) : FE := fun r S => (a r S).bind fun x S1 => match x with
  | .int j => if 0 ≤ j ∧ j ≤ 16777216 then .ok (.tup (rngL 0 j.toNat)) S1 else .stuck
  | _ => .stuck
def fLstRg (a : FE) : FE := fun r S => (a r S).bind fun x S1 => match x with
  | .int j => if 0 ≤ j ∧ j ≤ 16777216 then .ok (.ref S1.length) (S1 ++ [.lst (rngL 0 j.toNat)]) else .stuck
  | _ => .stuck
section
variable {X : Cx} {W : WX} {pos p p2 pos2 : Pos} {a : Expr} {fa : FE}
theorem reps_rng {K : PySem.W.Frag} {mg : MG} {m : List Addr} {H : Hp} (lo : Int) : ∀ is : List Nat, Reps K mg m H (is.map fun (i : Nat) => .int (lo + i)) (is.map fun (i : Nat) => V.int (lo + i))
  | [] => .nil
  | i :: is => .cons (.int _) (reps_rng lo is)
theorem reps_rg {K : PySem.W.Frag} {mg : MG} {m : List Addr} {H : Hp} (j : Int) : Reps K mg m H (rngL 0 j.toNat) (rgV 0 j) := by
  unfold rngL rgV
  rw [Int.sub_zero]
  exact reps_rng 0 _
theorem ce_tupRg (hc : X.calm = true) (hg : Gl X "tuple") (hm : X.mg "tuple" = none) (hg2 : Gl X "range") (hm2 : X.mg "range" = none) (ha : CE X W a fa)
    (na : starEach [a] X.env = (false, eval a X.env) :: starEach [] X.env := by rfl) (nb : starEach [.Call (.Name "range" p2) [a] [] pos2] X.env = (false, eval (.Call (.Name "range" p2) [a] [] pos2) X.env) :: starEach [] X.env := by rfl) :
    CE X W (.Call (.Name "tuple" p) [.Call (.Name "range" p2) [a] [] pos2] [] pos) (fTupRg fa) :=
  PE.imp (pe_tupRg hc hg hm (prg_1 hg2 hm2 ha na) nb) fun σ H Q ⟨m, r, S, R, E, h⟩ => by
    obtain ⟨m', r', S', R', E', h⟩ := seqE R E h
    refine ⟨m', r', S', R', E', ?_⟩
    cases e : fa r' S' with
    | ok d S1 =>
      rw [e] at h
      intro m2 H2 v g R2 q
      obtain ⟨m1, S1', d', R1, E1, g1, p1, h1⟩ := h m2 H2 v g R2 q
      cases p1 with
      | int j =>
        dsimp only at h1
        by_cases hz : 0 ≤ j ∧ j ≤ 16777216
        · rw [if_pos hz] at h1
          exact ⟨j, rfl, RgOk.of_le (by omega) hz.2 (by omega) hz.1, fun q hq => h1 _ _ _ (goes_new hq) (R1.beside hq) (.tup (SqT.of upd_same) (reps_rg j))⟩
        · rw [if_neg hz] at h1; exact h1.elim
      | _ => exact h1.elim
    | exc x S1 => rw [e] at h; exact h
    | stuck => rw [e] at h; exact h
theorem ce_lstRg (hc : X.calm = true) (hg : Gl X "list") (hm : X.mg "list" = none) (hg2 : Gl X "range") (hm2 : X.mg "range" = none) (ha : CE X W a fa)
    (na : starEach [a] X.env = (false, eval a X.env) :: starEach [] X.env := by rfl) (nb : starEach [.Call (.Name "range" p2) [a] [] pos2] X.env = (false, eval (.Call (.Name "range" p2) [a] [] pos2) X.env) :: starEach [] X.env := by rfl) :
    CE X W (.Call (.Name "list" p) [.Call (.Name "range" p2) [a] [] pos2] [] pos) (fLstRg fa) :=
  PE.imp (pe_listRg hc hg hm (prg_1 hg2 hm2 ha na) nb) fun σ H Q ⟨m, r, S, R, E, h⟩ => by
    obtain ⟨m', r', S', R', E', h⟩ := seqE R E h
    refine ⟨m', r', S', R', E', ?_⟩
    cases e : fa r' S' with
    | ok d S1 =>
      rw [e] at h
      intro m2 H2 v g R2 q
      obtain ⟨m1, S1', d', R1, E1, g1, p1, h1⟩ := h m2 H2 v g R2 q
      cases p1 with
      | int j =>
        dsimp only at h1
        by_cases hz : 0 ≤ j ∧ j ≤ 16777216
        · rw [if_pos hz] at h1
          exact ⟨j, rfl, RgOk.of_le (by omega) hz.2 (by omega) hz.1, fun q hq => h1 _ _ _ (goes_more hq) (R1.more hq ⟨_, upd_same, reps_rg j⟩) (.ref (new_place R1))⟩
        · rw [if_neg hz] at h1; exact h1.elim
      | _ => exact h1.elim
    | exc x S1 => rw [e] at h; exact h
    | stuck => rw [e] at h; exact h
end
/-! ### defs with one keyword-only parameter that is None if it lacks -/
def OkK (P : Program) (w : World) (K : PySem.W.Frag) (mg : MGf) (base : Heap) (k : Nat) (f : Addr) (ps : List Str) (kx : Str) (F : FF) : Prop :=
  ∃ fd, FnC P w K mg base k f fd ps F ∧ (∃ ds, Vals [V.non] ds ∧ Binds K fd ps ds) ∧ KBn K fd ps (ps.length - 1) [kx] (fun us ws => us ++ ws) (fun vs zs => vs ++ zs) ∧ PySem.W.keepIn K (.ref f) = true
def fCallD (n : Nat) (F : FF) (a : FA) : FE := fun r S => (a r S).bind fun xs S1 => if xs.length + 1 = n then F S1 (xs ++ [.none]) else .stuck
def fCallK (n : Nat) (F : FF) (a : FA) (b : FE) : FE := fun r S => (a r S).bind fun xs S1 => (b r S1).bind fun y S2 => if xs.length + 1 = n then F S2 (xs ++ [y]) else .stuck
section
variable {X : Cx} {W : WX} {pos : Pos} {k : Nat} {f : Addr} {fd : FuncData} {ps : List Str} {F : FF} {x kx : Str} {p kpos : Pos} {e v : Expr} {es : List Expr} {fas : FA} {fv : FE}
theorem sp_of {n : Nat} {σ : L2.St} {H : Hp} {Q : VK} {vs : List V} {mm : List Addr} {S : Store} {ds : List D} (R : Rel X.K X.MG mm S H) (rp : Reps X.K X.MG mm H ds vs) (hl : ds.length = n) (h : PoE X.K X.MG W σ mm H Q (F S ds)) : spC X.K X.MG n F vs H Q (fun c d H' => W c d σ H') := ⟨mm, S, ds, R, rp, hl, by
    cases e : F S ds with
    | ok d S1 => rw [e] at h; exact h
    | exc x S1 => rw [e] at h; exact h
    | stuck => rw [e] at h; exact h⟩
theorem ck_callD (O : OkK X.prog X.w X.K X.mg X.base k f ps kx F) (hr : Room k X.A) (tk : Takes X W) (hm : X.mg x = some (.ref f)) (ha : CA X W (e :: es) fas) (hg : Gl X x := by rfl) (hdb : (x == ("__debug__" : Str)) = false := by decide)
    (he : starEach (e :: es) X.env = (false, eval e X.env) :: starEach es X.env := by rfl) (hpl : (backTo pos (starEach es X.env)).any (·.1) = false := by rfl) : CE X W (.Call (.Name x p) (e :: es) [] pos) (fCallD ps.length F fas) := by
  obtain ⟨fd, Fn, ⟨dd, rdd, hb⟩, _, hk⟩ := O
  refine ⟨fun pins s σ H Q I h => ?_⟩
  obtain ⟨mm, r, S, R, E, h⟩ := h
  refine wpAny_Call_Name_kw (ld_glob I hg hm ?_ hdb)
  refine PySem.W.callWith_K (h₀ := X.base) I.ok.mod.kin hk (thn (ha.run pos pins s σ H _ I (seqA R E h)) fun us s1 ⟨vs, H1, I1, r1, q⟩ => ⟨I1.kIn, ?_⟩) he hpl
  obtain ⟨m1, S1, ds, R1, E1, g1, p1, h1⟩ := q
  by_cases hl : ds.length + 1 = ps.length
  · rw [if_pos hl] at h1
    have rp : Reps X.K X.MG m1 H1 (ds ++ [.none]) (vs ++ [.non]) := p1.append (.cons .none .nil)
    have rv : Vals (vs ++ [V.non]) (us ++ dd) := r1.append rdd
    have hl2 : (us ++ dd).length = ps.length := by rw [← rv.length, ← rp.length]; simpa using hl
    refine wpAny_call (codeAny_mono (Fn.run X.A X.stack s1 H1 ⟨us, []⟩ (us ++ dd) (vs ++ [.non]) Q (fun c d H' => W c d σ H') hr I1.env0 (hb s1 us I1.kIn hl2) rv (sp_of R1 rp (by simpa using hl) h1)) fun r s' hq => ?_)
    cases r with
    | error e => exact tk e s' (XE.of_call I1 (fun cls d H' q => q) hq)
    | ok fl =>
      cases fl with
      | ret u => exact I1.after hq
      | next => exact False.elim hq
      | brk => exact False.elim hq
      | cont => exact False.elim hq
  · rw [if_neg hl] at h1; exact h1.elim
theorem ck_callK (O : OkK X.prog X.w X.K X.mg X.base k f ps kx F) (hr : Room k X.A) (tk : Takes X W) (hm : X.mg x = some (.ref f)) (ha : CA X W (e :: es) fas) (hv : CE X W v fv) (hg : Gl X x := by rfl)
    (hall : (backToKw pos (keywordEach [⟨some kx, v, kpos⟩] X.env)).all (·.1.isSome) = true := by rfl) (hks : (backToKw pos (keywordEach [⟨some kx, v, kpos⟩] X.env)).filterMap (·.1) = [kx] := by rfl)
    (hdb : (x == ("__debug__" : Str)) = false := by decide) (he : starEach (e :: es) X.env = (false, eval e X.env) :: starEach es X.env := by rfl)
    (hpl : ((backTo pos (starEach (e :: es) X.env)).any (·.1) || (backToKw pos (keywordEach [⟨some kx, v, kpos⟩] X.env)).any (·.1.isNone)) = false := by rfl) : CE X W (.Call (.Name x p) (e :: es) [⟨some kx, v, kpos⟩] pos) (fCallK ps.length F fas fv) := by
  obtain ⟨fd, Fn, _, hb, hk⟩ := O
  refine ⟨fun pins s σ H Q I h => ?_⟩
  obtain ⟨mm, r, S, R, E, h⟩ := h
  refine wpAny_Call_Name_kw (ld_glob I hg hm ?_ hdb)
  refine PySem.W.callWith_KW (h₀ := X.base) I.ok.mod.kin hk hall (thn (ha.run pos pins s σ H _ I (seqA R E h)) fun us s1 ⟨vs, H1, I1, r1, q⟩ => ?_) hpl he
  obtain ⟨m1, S1, ds, R1, E1, g1, p1, h1⟩ := q
  refine thn ((pk_cons (nm := some kx) (kpos := kpos) hv pk_nil).run pos pins s1 σ H1 (fun zs H2 => ∃ m2 S2 dz z, zs = [z] ∧ Rel X.K X.MG m2 S2 H2 ∧ EnvR X.K X.MG m2 H2 r σ ∧ Goes X.K m1 H1 m2 H2 ∧ Rep X.K X.MG m2 H2 dz z ∧ PoE X.K X.MG W σ m2 H2 Q (if ds.length + 1 = ps.length then F S2 (ds ++ [dz]) else .stuck)) I1 ?_) fun ws s2 ⟨zs, H2, I2, rz, m2, S2, dz, z, ez, R2, E2, g2, p2, h2⟩ => ⟨I2.kIn, ?_⟩
  · obtain ⟨m', r', S', R', E', h⟩ := seqE R1 E1 h1
    refine ⟨m', r', S', R', E', ?_⟩
    cases e : fv r' S' with
    | ok d S1 =>
      rw [e] at h
      intro m2 H2 v g R2 q
      obtain ⟨m3, S3, d3, R3, E3, g3, p3, h3⟩ := h m2 H2 v g R2 q
      exact ⟨m3, S3, d3, v, rfl, R3, E3, g3, p3, h3⟩
    | exc x S1 => rw [e] at h; exact h
    | stuck => rw [e] at h; exact h
  · subst ez
    rw [hks]
    by_cases hl : ds.length + 1 = ps.length
    · rw [if_pos hl] at h2
      have rp : Reps X.K X.MG m2 H2 (ds ++ [dz]) (vs ++ [z]) := (p1.go g2).append (.cons p2 .nil)
      have hn : vs.length = ps.length - 1 := by rw [← p1.length]; omega
      have rv := hb.rel r1 rz
      refine wpAny_call (codeAny_mono (Fn.run X.A X.stack s2 H2 ⟨us, [kx].zip ws⟩ (us ++ ws) (vs ++ [z]) Q (fun c d H' => W c d σ H') hr I2.env0 (hb.to s2 us ws I2.kIn (r1.length.symm.trans hn) rz.length.symm) rv (sp_of R2 rp (by simpa using hl) h2)) fun r s' hq => ?_)
      cases r with
      | error e => exact tk e s' (XE.of_call I2 (fun cls d H' q => q) hq)
      | ok fl =>
        cases fl with
        | ret u => exact I2.after hq
        | next => exact False.elim hq
        | brk => exact False.elim hq
        | cont => exact False.elim hq
    · rw [if_neg hl] at h2; exact h2.elim
end
section
variable {P : Program} {w : World} {K : PySem.W.Frag} {mg : MGf} {base : Heap}
/-- a def with one such parameter, by its body -/
theorem okK_def {x qual kx : Str} {st : Stmt} {f : Addr} {N ps : List Str} {k n : Nat} {b : FS} (hn : N.length = n) (hF : ∃ fd, FunD K x qual (defArgs st) (defBody st) (defScope st) [] [(kx, V.non)] f fd) (S : FnScope N ps (defScope st)) (hps : 0 < ps.length)
    (h0 : ∀ (D : Addr) (doc pm : Value) (an : Option Addr) (cdv ct : Value) (us ks : List Value), us.length = ps.length - 1 → ks.length = 1 → KwChain D ([kx].zip ks) (bindArgs (PySem.W.fnOf x qual (defArgs st) (defBody st) (defScope st) .none (.ref D) doc pm an cdv ct) ⟨us, []⟩) (ps.zip (us ++ ks)))
    (h1 : ∀ (kV doc pm : Value) (an : Option Addr) (cdv ct : Value) (us ws : List Value), us.length = ps.length - 1 → ws.length = 1 → bindArgs (PySem.W.fnOf x qual (defArgs st) (defBody st) (defScope st) .none kV doc pm an cdv ct) ⟨us, [kx].zip ws⟩ = pure (ps.zip (us ++ ws)))
    (hbody : ∀ (cdv : Value) (A : Around) (outer : List PySem.Env) (s : Shared) (H : Hp) (E : XK), Room k (A.deeper (envOfC qual (defScope st) s.heap.objs.size f cdv)) →
      Takes (cxOf (L2.CX P w) P w K mg base N qual (defScope st) f cdv A outer s H E) (fun c d _ H => E c d H) → PassesOwn (model P w) (cxOf (L2.CX P w) P w K mg base N qual (defScope st) f cdv A outer s H E).A (cxOf (L2.CX P w) P w K mg base N qual (defScope st) f cdv A outer s H E).env (cxOf (L2.CX P w) P w K mg base N qual (defScope st) f cdv A outer s H E).xe →
      CSs (cxOf (L2.CX P w) P w K mg base N qual (defScope st) f cdv A outer s H E) (fun c d _ H => E c d H) (defBody st) b) : OkK P w K mg base (k + 1) f ps kx (fDef n b) := by
  subst hn
  obtain ⟨fd, F⟩ := hF
  refine ⟨fd, fn_def F S hbody, F.binds0 (ps.length - 1) (by simp) (by simp; omega) h0, ?_, F.kp⟩
  obtain ⟨oc, od, dV, kV, doc, pm, an, cdv, ct, osl, rfl, lk, hcd, hD, hK⟩ := F.ex
  rcases hD with ⟨_, rfl⟩ | ⟨e, _⟩
  · exact ⟨fun s us ws _ l1 l2 => .of_eq (h1 kV doc pm an cdv ct us ws l1 l2), fun r1 r2 => r1.append r2⟩
  · exact absurd rfl e
end
end CL

set_option Elab.async false
set_option linter.all false
set_option maxRecDepth 100000
set_option maxHeartbeats 4000000
namespace CL
open PySem PySem.Spec PyProof.Rows L2
/-! ### dicts whose keys are tuples, nested -/
mutual
theorem kOf_inj : ∀ {a b : D}, plainK a = true → plainK b = true → kOf a = kOf b → a = b
  | .int i, b, ha, hb, h => by cases b <;> simp [kOf, plainK] at h hb ⊢; exact h
  | .str i, b, ha, hb, h => by cases b <;> simp [kOf, plainK] at h hb ⊢; exact h
  | .none, b, ha, hb, h => by cases b <;> simp [kOf, plainK] at h hb ⊢
  | .tup ds, b, ha, hb, h => by
    cases b with
    | tup es =>
      simp [kOf, plainK] at h hb ha
      rw [kOfs_inj ha hb h]
    | _ => simp [kOf, plainK] at h hb
  | .bool _, b, ha, hb, h => by simp [plainK] at ha
  | .ref _, b, ha, hb, h => by simp [plainK] at ha
  | .gl _, b, ha, hb, h => by simp [plainK] at ha
  | .exn _ _, b, ha, hb, h => by simp [plainK] at ha
theorem kOfs_inj : ∀ {a b : List D}, plainKs a = true → plainKs b = true → kOfs a = kOfs b → a = b
  | [], b, ha, hb, h => by cases b <;> simp [kOfs] at h ⊢
  | x :: xs, b, ha, hb, h => by
    cases b with
    | nil => simp [kOfs] at h
    | cons y ys =>
      simp [kOfs, plainKs] at h ha hb
      rw [kOf_inj ha.1 hb.1 h.1, kOfs_inj ha.2 hb.2 h.2]
end
theorem okKey_plain {d : D} (h : okKey d = true) : plainK d = true := by
  cases d with
  | tup ds => exact (and2 h).1
  | _ => cases h
theorem okKey_depth {d : D} (h : okKey d = true) : (kOf d).depth ≤ 8 := by
  cases d with
  | tup ds => exact of_decide_eq_true (and2 h).2
  | _ => cases h
section
variable {X : Cx} {pins : List (Addr × Obj)} {σ : L2.St} {H : Hp} {s : Shared} {m : List Addr}
mutual
theorem nk_is (I : Inv X pins σ H s) : ∀ {d : D} {v : V} {u : Value}, Rep X.K X.MG m H d v → plainK d = true → RelV v u → NestedIs s.heap (kOf d) u
  | _, _, _, .none, _, rv => by cases rv; exact .none
  | _, _, _, .int i, _, rv => by obtain ⟨t, rfl⟩ := rv; exact .int i t
  | _, _, _, .str x, _, rv => by obtain ⟨t, rfl⟩ := rv; exact .text x t
  | _, _, _, .tup hs hr, hp, rv => by
    cases rv
    obtain ⟨its, rvs, ⟨o, ho, hc, n, hd⟩, _⟩ := I.tuple hs
    exact .tup ho hc hd (by simpa using nks_are I hr hp rvs)
  | _, _, _, .bool _, hp, _ => by cases hp
  | _, _, _, .ref _, hp, _ => by cases hp
  | _, _, _, .gl _, hp, _ => by cases hp
theorem nks_are (I : Inv X pins σ H s) : ∀ {ds : List D} {vs : List V} {us : List Value}, Reps X.K X.MG m H ds vs → plainKs ds = true → Vals vs us → NestedAll s.heap (kOfs ds) us
  | _, _, _, .nil, _, rv => by cases rv; exact .nil
  | _, _, _, .cons r q, hp, rv => by
    cases rv with
    | cons r1 r2 => exact .cons (nk_is I r (and2 hp).1 r1) (nks_are I q (and2 hp).2 r2)
end
end
def dGet (kvs : List (D × D)) (k : D) : Option D := (kvs.find? fun p => D.beq p.1 k).map (·.2)
def dPut (kvs : List (D × D)) (k v : D) : List (D × D) := if (dGet kvs k).isSome = true then kvs.map (fun p => if D.beq p.1 k = true then (p.1, v) else p) else kvs ++ [(k, v)]
theorem dGet_pos {p : D × D} {r : List (D × D)} {k : D} (h : D.beq p.1 k = true) : dGet (p :: r) k = some p.2 := by simp [dGet, List.find?_cons, h]
theorem dGet_neg {p : D × D} {r : List (D × D)} {k : D} (h : D.beq p.1 k = false) : dGet (p :: r) k = dGet r k := by simp [dGet, List.find?_cons, h]
abbrev DicR (K : PySem.W.Frag) (mg : MG) (m : List Addr) (H : Hp) : List (D × D) → List (NestedKey × Addr × Value) → Prop := Paired (fun (p : D × D) (q : NestedKey × Addr × Value) => okKey p.1 = true ∧ kOf p.1 = q.1 ∧ Rep K mg m H p.1 (.ref q.2.1) ∧ ∃ v, Rep K mg m H p.2 v ∧ RelV v q.2.2)
theorem key_dec {a b : D} (ha : okKey a = true) (hb : okKey b = true) : (D.beq a b = true) ↔ kOf a = kOf b :=
  ⟨fun h => by rw [D.beq_eq h], fun h => by rw [kOf_inj (okKey_plain ha) (okKey_plain hb) h]; exact D.beq_refl _⟩
section
variable {K : PySem.W.Frag} {mg : MG} {m m' : List Addr} {H H' : Hp} {k : D}
theorem DicR.get (hk : okKey k = true) {kvs : List (D × D)} {xs : List (NestedKey × Addr × Value)} (r : DicR K mg m H kvs xs) :
    (dGet kvs k = none → atKey xs (kOf k) = none) ∧ ∀ e, dGet kvs k = some e → ∃ b u v, atKey xs (kOf k) = some (b, u) ∧ Rep K mg m H e v ∧ RelV v u := by
  unfold DicR at r
  induction r with
  | nil => exact ⟨fun _ => rfl, fun e h => by cases h⟩
  | @cons p q ps qs h t ih =>
    obtain ⟨h1, h2, h3, v, h4, h5⟩ := h
    cases hb : D.beq p.1 k with
    | true =>
      have e1 : q.1 = kOf k := by rw [← h2]; exact (key_dec h1 hk).mp hb
      have a : atKey (q :: qs) (kOf k) = some q.2 := by simp [atKey, List.find?_cons, e1]
      rw [dGet_pos hb]
      refine ⟨fun z => (nomatch z), fun e z => ?_⟩
      cases z
      exact ⟨q.2.1, q.2.2, v, a, h4, h5⟩
    | false =>
      have e1 : ¬ q.1 = kOf k := fun z => by
        rw [(key_dec h1 hk).mpr (h2.trans z)] at hb; cases hb
      have a : atKey (q :: qs) (kOf k) = atKey qs (kOf k) := by simp [atKey, List.find?_cons, e1]
      rw [dGet_neg hb, a]
      exact ih
theorem DicR.some_eq (hk : okKey k = true) {kvs : List (D × D)} {xs : List (NestedKey × Addr × Value)} (r : DicR K mg m H kvs xs) : (dGet kvs k).isSome = (atKey xs (kOf k)).isSome := by
  obtain ⟨h1, h2⟩ := r.get hk
  cases e : dGet kvs k with
  | none => rw [h1 e]; rfl
  | some x => obtain ⟨b, u, v, e2, _⟩ := h2 x e; rw [e2]; rfl
theorem DicR.go (g : Goes K m H m' H') {kvs : List (D × D)} {xs : List (NestedKey × Addr × Value)} (r : DicR K mg m H kvs xs) : DicR K mg m' H' kvs xs :=
  Paired.mapP r fun p q ⟨a1, a2, a3, v, a4, a5⟩ => ⟨a1, a2, a3.go g, v, a4.go g, a5⟩
theorem DicR.put (hk : okKey k = true) {b : Addr} {d : D} {v : V} {u : Value} (rk : Rep K mg m H k (.ref b)) (rd : Rep K mg m H d v) (ru : RelV v u) {kvs : List (D × D)} {xs : List (NestedKey × Addr × Value)} (r : DicR K mg m H kvs xs) : DicR K mg m H (dPut kvs k d) (storedH xs (kOf k) b u) := by
  unfold dPut storedH
  rw [r.some_eq hk]
  by_cases q : (atKey xs (kOf k)).isSome = true
  · rw [if_pos q, if_pos q]
    clear q
    unfold DicR at r ⊢
    induction r with
    | nil => exact .nil
    | @cons p q ps qs h t ih =>
      rw [List.map_cons, List.map_cons]
      refine .cons ?_ ih
      obtain ⟨h1, h2, h3, v', h4, h5⟩ := h
      unfold putAt
      cases hb : D.beq p.1 k with
      | true =>
        have e1 : q.1 = kOf k := by rw [← h2]; exact (key_dec h1 hk).mp hb
        rw [if_pos rfl, if_pos e1]
        exact ⟨h1, h2, h3, v, rd, ru⟩
      | false =>
        have e1 : ¬ q.1 = kOf k := fun z => by
          rw [(key_dec h1 hk).mpr (h2.trans z)] at hb; cases hb
        rw [if_neg (by decide), if_neg e1]
        exact ⟨h1, h2, h3, v', h4, h5⟩
  · rw [if_neg q, if_neg q]
    exact Paired.snoc r ⟨hk, rfl, rk, v, rd, ru⟩
theorem DicR.length {kvs : List (D × D)} {xs : List (NestedKey × Addr × Value)} (r : DicR K mg m H kvs xs) : kvs.length = xs.length := Paired.length r
end
theorem length_storedH (xs : List (NestedKey × Addr × Value)) (k : NestedKey) (b : Addr) (u : Value) : (storedH xs k b u).length ≤ xs.length + 1 := by
  unfold storedH
  split <;> simp
section
variable {X : Cx} {W : WX} {pos : Pos} {pins : List (Addr × Obj)} {σ : L2.St} {H : Hp} {s : Shared} {m : List Addr} {S : Store} {l : Nat} {a : Addr} {kvs : List (D × D)}
/-- the machine's dict -/
theorem dic_at (I : Inv X pins σ H s) {xs : List (NestedKey × Addr × Value)} (e : H a = some (DN X.prog X.w a xs)) (r : DicR X.K X.MG m H kvs xs) : xs.length ≤ sizeLine ∧ (a == sysModules) = false ∧ s.heap.DictOfH (nestedKind X.prog X.w) a xs := by
  obtain ⟨⟨h1, h2, o, es, ep, h3, h4, h5, h6, h7⟩, _, _⟩ := (show ObjOk X.prog X.w H s.heap a (DN X.prog X.w a xs) from I.hok a _ e)
  refine ⟨h1, h2, o, es, ep, h3, h4, h5, h6, ?_, h7⟩
  have all : ∀ {ps : List (D × D)} {qs : List (NestedKey × Addr × Value)}, DicR X.K X.MG m H ps qs → ∀ x ∈ qs, (nestedKind X.prog X.w).is s.heap x.1 x.2.1 := by
    intro ps qs r
    unfold DicR at r
    induction r with
    | nil => intro x hx; exact nomatch hx
    | @cons p q ps qs h t ih =>
      intro x hx
      rcases List.mem_cons.mp hx with z | hx
      · subst z
        obtain ⟨h1, h2, h3, _⟩ := h
        rw [← h2]
        exact ⟨nk_is I h3 (okKey_plain h1) rfl, okKey_depth h1⟩
      · exact ih x hx
  exact all r
theorem key_at (I : Inv X pins σ H s) {k : D} {b : Addr} (hk : okKey k = true) (rk : Rep X.K X.MG m H k (.ref b)) : (nestedKind X.prog X.w).is s.heap (kOf k) b := ⟨nk_is I rk (okKey_plain hk) rfl, okKey_depth hk⟩
theorem rep_key {k : D} {v : V} (hk : okKey k = true) (r : Rep X.K X.MG m H k v) : ∃ b, v = .ref b := by
  cases r with
  | tup hs hr => exact ⟨_, rfl⟩
  | _ => cases hk
def dicAt (S : Store) : D → Option (List (D × D))
  | .ref l => (match S[l]? with
    | some (.dic kvs) => some kvs
    | _ => none)
  | _ => none
theorem dicAt_ok (R : Rel X.K X.MG m S H) {d : D} {v : V} (h : dicAt S d = some kvs) (r : Rep X.K X.MG m H d v) : ∃ l a xs, d = .ref l ∧ v = .ref a ∧ m[l]? = some a ∧ H a = some (DN X.prog X.w a xs) ∧ DicR X.K X.MG m H kvs xs := by
  cases r with
  | @ref l a ha =>
    obtain ⟨ob, hob, hr⟩ := R.place ha
    simp only [dicAt, hob] at h
    cases ob with
    | dic kvs' => cases h; obtain ⟨xs, e1, e2⟩ := hr; exact ⟨l, a, xs, rfl, rfl, ha, e1, e2⟩
    | _ => cases h
  | _ => cases h
/-- k in d, k not in d -/
def opDIn (a b : D) (S : Store) : Out D := match dicAt S b with
  | some kvs => if okKey a = true then .ok (.bool (dGet kvs a).isSome) S else .stuck
  | none => .stuck
def opDNotIn (a b : D) (S : Store) : Out D := match dicAt S b with
  | some kvs => if okKey a = true then .ok (.bool (!(dGet kvs a).isSome)) S else .stuck
  | none => .stuck
theorem op2_din (hu : X.A.units + 65 < cLine) : Op2 X W (compareOp .In) opDIn := fun pins s σ H m S d e x y v u Q I R r1 r2 q1 q2 h => by
  unfold opDIn at h
  cases e1 : dicAt S e with
  | none => rw [e1] at h; exact h.elim
  | some kvs =>
    rw [e1] at h
    by_cases hk : okKey d = true
    · dsimp only at h
      rw [if_pos hk] at h
      obtain ⟨l, a, xs, rfl, rfl, ha, ea, er⟩ := dicAt_ok R e1 r2
      obtain ⟨b, rfl⟩ := rep_key hk r1
      obtain rfl : u = Value.ref a := q2
      obtain rfl : v = Value.ref b := q1
      obtain ⟨z, hd, dd⟩ := dic_at I ea er
      refine wpAny_in_heap (show X.A.in1.units + 8 < cLine by show X.A.units + 1 + 8 < cLine; omega) (key_at I hk r1) hd dd ?_
      rw [← er.some_eq hk]
      exact ⟨.bl (dGet kvs d).isSome, H, I.tok _, rfl, h m H _ .refl R (.bool _)⟩
    · dsimp only at h; rw [if_neg hk] at h; exact h.elim
theorem op2_dnotIn (hu : X.A.units + 65 < cLine) : Op2 X W (compareOp .NotIn) opDNotIn := fun pins s σ H m S d e x y v u Q I R r1 r2 q1 q2 h => by
  unfold opDNotIn at h
  cases e1 : dicAt S e with
  | none => rw [e1] at h; exact h.elim
  | some kvs =>
    rw [e1] at h
    by_cases hk : okKey d = true
    · dsimp only at h
      rw [if_pos hk] at h
      obtain ⟨l, a, xs, rfl, rfl, ha, ea, er⟩ := dicAt_ok R e1 r2
      obtain ⟨b, rfl⟩ := rep_key hk r1
      obtain rfl : u = Value.ref a := q2
      obtain rfl : v = Value.ref b := q1
      obtain ⟨z, hd, dd⟩ := dic_at I ea er
      refine wpAny_notIn_heap (show X.A.in1.units + 8 < cLine by show X.A.units + 1 + 8 < cLine; omega) (key_at I hk r1) hd dd ?_
      rw [← er.some_eq hk]
      exact ⟨.bl (!(dGet kvs d).isSome), H, I.tok _, rfl, h m H _ .refl R (.bool _)⟩
    · dsimp only at h; rw [if_neg hk] at h; exact h.elim
/-- {} -/
def fDic0 : FE := fun _ S => .ok (.ref S.length) (S ++ [.dic []])
theorem ce_dic0 : CE X W (.Dict [] [] pos) fDic0 := ⟨fun pins s σ H Q I ⟨m, r, S, R, E, h⟩ => by
  have hb := I.big
  have ok : ObjOk X.prog X.w H (s.heap.push { cls := .type "dict", data := .dict #[] }) s.heap.objs.size (DN X.prog X.w s.heap.objs.size []) := by
    refine ⟨⟨Nat.zero_le _, beq_eq_false_iff_ne.mpr (Ne.symm (Nat.ne_of_lt hb)), _, #[], 0, Heap.get?_push_size _ rfl, ⟨rfl, rfl, rfl⟩, rfl, rfl, List.nodup_nil⟩, ⟨_, Heap.get?_push_size _ rfl⟩, ?_⟩
    rintro h1 h2 ⟨z1, z2, o, es, ep, z3, z4⟩ st
    exact ⟨z1, z2, o, es, ep, st o z3, z4⟩
  have fr := I.hok.fresh (Nat.le_refl s.heap.objs.size)
  refine wpAny_Dict_empty ⟨.ref s.heap.objs.size, upd H s.heap.objs.size (DN X.prog X.w s.heap.objs.size []), I.laid (t' := s.toks) (fun _ _ q => Heap.get?_push_of_some _ q) (Nat.le_refl _) ok, rfl, ?_⟩
  exact h _ _ _ (goes_more fr) (R.more fr ⟨[], upd_same, .nil⟩) (.ref (new_place R))⟩
/-- d[k] = v -/
def setDic (S : Store) (o k v : D) : Option Store := match o with
  | .ref l => (match S[l]? with
    | some (.dic kvs) => if okKey k = true ∧ kvs.length < LINE then some (S.set l (.dic (dPut kvs k v))) else none
    | _ => none)
  | _ => none
def gDix (o i : FE) : FG := fun v r S => match o r S with
  | .ok x S1 => (match i r S1 with
    | .ok y S2 => (match setDic S2 x y v with
      | some S3 => .next r S3
      | none => .stuck)
    | .exc x S2 => .exc x r S2
    | .stuck => .stuck)
  | .exc x S1 => .exc x r S1
  | .stuck => .stuck
theorem set_dic (hu : X.A.units + 65 < cLine) : PSet X (fun x y v H Q => ∃ m kvs xs a b k, x = .ref a ∧ y = .ref b ∧ H a = some (DN X.prog X.w a xs) ∧ DicR X.K X.MG m H kvs xs ∧ okKey k = true ∧ Rep X.K X.MG m H k (.ref b) ∧ xs.length < sizeLine ∧ ∀ u, RelV v u → Q (upd H a (DN X.prog X.w a (storedH xs (kOf k) b u)))) := by
  rintro pins s σ H o i v ov iv u Q I ro ri rv ⟨m, kvs, xs, a, b, k, rfl, rfl, ea, er, hk, rk, hl, q⟩
  obtain rfl : ov = Value.ref a := ro
  obtain rfl : iv = Value.ref b := ri
  obtain ⟨z, hd, dd⟩ := dic_at I ea er
  refine wpAny_setItem_heap (hsz := z) (show X.A.in1.units + 8 < cLine by show X.A.units + 1 + 8 < cLine; omega) (key_at I hk rk) dd fun h' dd' hs => ⟨_, ?_, q u rv⟩
  obtain ⟨ob, es, ep, hq, h2, h3, h4, _, h5⟩ := dd'
  refine d_write I (by rw [ea]; exact True.intro) hs ⟨ob, hq⟩ ⟨⟨?_, hd, ob, es, ep, hq, h2, h3, h4, h5⟩, ⟨ob, hq⟩, ?_⟩
  · have := length_storedH xs (kOf k) b u; omega
  · rintro h1 h2 ⟨z1, z2, o, es, ep, z3, z4⟩ st
    exact ⟨z1, z2, o, es, ep, st o z3, z4⟩
theorem cg_dix {o i : Expr} {fo fi : FE} (hu : X.A.units + 65 < cLine) (ho : CE X W o fo) (hi : CE X W i fi) (ha : ∀ v, assign (.Subscript o i pos) X.env v = (do
      let ov ← holding [v] (eval o X.env)
      let iv ← holding [v, ov] (eval i X.env)
      standAt pos
      holding [v, ov, iv] (setItem ov iv v)
      release [v, ov, iv] []) := by intro _; rfl) : CG X W (.Subscript o i pos) (gDix fo fi) :=
  PG.imp (pg_sub ho hi (set_dic hu) ha) fun v σ H Q ⟨m, r, S, d, R, E, p, h⟩ => by
    unfold gDix at h
    refine ⟨m, r, S, R, E, ?_⟩
    cases e : fo r S with
    | ok x S1 =>
      rw [e] at h
      intro m1 H1 w g1 R1 p1
      refine ⟨m1, r, S1, R1, E.go g1, ?_⟩
      dsimp only at h
      have h := PoS.go g1 h
      cases e2 : fi r S1 with
      | ok y S2 =>
        rw [e2] at h
        intro m2 H2 u g2 R2 p2
        dsimp only at h
        cases e3 : setDic S2 x y d with
        | none => rw [e3] at h; exact h.elim
        | some S3 =>
          rw [e3] at h
          have p1' := p1.go g2
          cases p1' with
          | @ref l q hq =>
            obtain ⟨ob, hob, hr⟩ := R2.place hq
            simp only [setDic, hob] at e3
            cases ob with
            | dic kvs =>
              dsimp only at e3
              by_cases hk : okKey y = true ∧ kvs.length < LINE
              · rw [if_pos hk] at e3
                cases e3
                obtain ⟨xs, ea, er⟩ := hr
                obtain ⟨b, rfl⟩ := rep_key hk.1 p2
                have hm : Mut (H2 q) := by rw [ea]; trivial
                refine ⟨m2, kvs, xs, q, b, y, rfl, rfl, ea, er, hk.1, p2, by rw [← DicR.length er, line_eq]; exact hk.2, fun w' rw' => ?_⟩
                have gw : Goes X.K m2 H2 m2 (upd H2 q (DN X.prog X.w q (storedH xs (kOf y) b w'))) := goes_write hm
                have pd : Rep X.K X.MG m2 H2 d v := (p.go g1).go g2
                exact h m2 _ σ (g2.trans gw) (R2.put (ob := .dic (dPut kvs y d)) hq hm ⟨_, upd_same, (DicR.put hk.1 p2 pd rw' er).go gw⟩) (((E.go g1).go g2).go gw)
              · rw [if_neg hk] at e3; cases e3
            | _ => cases e3
          | _ => cases e3
      | exc x S2 => rw [e2] at h; exact fun m' H' cls dd g R' q => h m' H' σ cls dd g R' ((E.go g1).go g) q
      | stuck => rw [e2] at h; exact h
    | exc x S1 => rw [e] at h; exact fun m' H' cls dd g R' q => h m' H' σ cls dd g R' (E.go g) q
    | stuck => rw [e] at h; exact h
theorem plain_dix {fo fi : FE} : Plain (gDix fo fi) := fun d r S => by
  unfold gDix
  split
  · split
    · split <;> trivial
    · trivial
    · trivial
  · trivial
  · trivial
/-- d.get(k) -/
def fDGet (o k : FE) : FE := fun r S => (o r S).bind fun x S1 => match dicAt S1 x with
  | some _ => (k r S1).bind fun y S2 => (match dicAt S2 x with
    | some kvs => if okKey y = true then .ok ((dGet kvs y).getD .none) S2 else .stuck
    | none => .stuck)
  | none => .stuck
theorem ce_dget {o e : Expr} {fo fe : FE} {apos cpos : Pos} (hu : X.A.units + 65 < cLine) (ho : CE X W o fo) (he : CE X W e fe) (mm : M1 X o "get" apos e cpos) : CE X W (.Call (.Attribute o "get" apos) [e] [] cpos) (fDGet fo fe) := by
  refine ⟨fun pins s σ H Q I ⟨m, r, S, R, E, h⟩ => ?_⟩
  refine wpAny_Call_method mm.base mm.few mm.line PySem.F.plainAttrs_dict PySem.F.slot_dict_get PySem.F.type_dict_get (thn (ho.run pins s σ H _ I (seqE R E h)) fun u s1 ⟨x, H1, I1, rx, m1, S1, d, R1, E1, g1, p1, h1⟩ => ?_)
  cases e1 : dicAt S1 d with
  | none => rw [e1] at h1; exact h1.elim
  | some kvs =>
    rw [e1] at h1
    obtain ⟨l, a, xs, rfl, rfl, ha, ea, er⟩ := dicAt_ok R1 e1 p1
    obtain rfl : u = Value.ref a := rx
    obtain ⟨z, hd, dd⟩ := dic_at I1 ea er
    obtain ⟨ob, es, ep, hq1, hq2, hq3⟩ := id dd
    refine ⟨dd.typeIs, fun b q => by cases q; exact ⟨ob, hq1, hq2.2.1⟩, ?_⟩
    rw [mm.trees]
    refine Calls.callWith_builtin rfl (Calls.evalArgs_plain (Calls.spliced_cons (thn (he.run pins s1 σ H1 _ I1 (seqE R1 E1 h1)) fun iv s2 ⟨y, H2, I2, ry, m2, S2, k, R2, E2, g2, p2, h2⟩ => Calls.spliced_nil ?_)))
    cases e2 : dicAt S2 (.ref l) with
    | none => rw [e2] at h2; exact h2.elim
    | some kvs2 =>
      rw [e2] at h2
      dsimp only at h2
      by_cases hk : okKey k = true
      · rw [if_pos hk] at h2
        obtain ⟨l', a', xs2, e3, e4, ha2, ea2, er2⟩ := dicAt_ok R2 e2 (p1.go g2)
        cases e4
        obtain ⟨b, rfl⟩ := rep_key hk p2
        obtain rfl : iv = Value.ref b := ry
        obtain ⟨z2, hd2, dd2⟩ := dic_at I2 ea2 er2
        refine call_meetsIn PySem.F.slot_dict_get dd2.typeIs PySem.F.entry_dict_get (PySem.F.args_dict_get_2 _ _) (meetsH_dict_get (nestedKind X.prog X.w) a b hd2) ⟨show X.A.in1.units + 8 < cLine by show X.A.units + 1 + 8 < cLine; omega, kOf k, xs2, key_at I2 hk p2, dd2, ?_⟩
        obtain ⟨n1, n2⟩ := er2.get hk
        cases e5 : dGet kvs2 k with
        | none =>
          rw [e5] at h2
          rw [n1 e5]
          exact ⟨.non, H2, I2.tok _, rfl, h2 m2 H2 _ .refl R2 .none⟩
        | some w =>
          rw [e5] at h2
          obtain ⟨b', u', v', q1, q2, q3⟩ := n2 w e5
          rw [q1]
          exact ⟨v', H2, I2.tok _, q3, h2 m2 H2 _ .refl R2 q2⟩
      · rw [if_neg hk] at h2; exact h2.elim
end
end CL

set_option Elab.async false
set_option linter.all false
set_option maxRecDepth 100000
set_option maxHeartbeats 4000000
namespace CL
open PySem PySem.Spec PyProof.Rows L2
/-! ### enumerate of a tuple -/
section
variable {prog : Program} {w : World} {A : Around} {E : Value → Shared → Prop} {s : Shared}
theorem ent_new (t : Addr) (its : Array Value) (ct : Option Addr) (k : Nat) (sl : Array (Option Value)) :
    Meets (Builtin.«enumerate.__new__» ⟨[.type "enumerate", .ref t], []⟩) (fun _ R s => s.heap.get? t = some ⟨.type "tuple", ct, .seq its k, sl⟩ ∧
      R (.ok (.ret (.ref (s.heap.push { cls := .type "tuple_iterator", data := .fields #[.ref t, .int 0 0] }).objs.size)))
        { s with heap := (s.heap.push { cls := .type "tuple_iterator", data := .fields #[.ref t, .int 0 0] }).push { cls := .type "enumerate", data := .fields #[.none, .bool false, .ref s.heap.objs.size, rawInt 0, .none, .none] } }) :=
  .of_wp fun P v B R s ⟨ht, hr⟩ => by
    obtain ⟨hp, gg, dd, tk, os⟩ := s
    have hsub := sub_enumerate
    have hT : Heap.IsTuple (Shared.heap ⟨hp, gg, dd, tk, os⟩) t its := ⟨_, ht, rfl, k, rfl⟩
    wp_walk using AutoSeq1.wpAny_loadPart' ht
    refine wpAny_stack_any fun st => wpAny_pure ?_
    split
    · rename_i cc _ _ _ _ _
      cases (cc == Value.type "enumerate") <;> (wp_walk using AutoSeq1.wpAny_loadPart' ht, wpAny_pyIter_tuple hT; exact ⟨_, rfl, hr⟩)
    · wp_walk using AutoSeq1.wpAny_loadPart' ht, wpAny_pyIter_tuple hT
      exact ⟨_, rfl, hr⟩
theorem ent_call {t : Addr} {its : Array Value} {Q : Value → Shared → Prop} (ht : IsTup s.heap t its)
    (k : ∀ h2, IsEnum h2 (s.heap.objs.size + 1) s.heap.objs.size 0 .none → IsTupIter h2 s.heap.objs.size t 0 → (∀ b o, s.heap.get? b = some o → h2.get? b = some o) → Q (.ref (s.heap.objs.size + 1)) { s with heap := h2 }) :
    wpAny (model prog w) A (call (.type "enumerate") [.ref t]) Q E s := by
  obtain ⟨⟨c, ct, dt, sl⟩, h1, h2, n, h3⟩ := ht
  have e1 : c = .type "tuple" := h2
  have e2 : dt = .seq its n := h3
  subst e1 e2
  let p1 : Heap := s.heap.push { cls := .type "tuple_iterator", data := .fields #[.ref t, .int 0 0] }
  have sz : p1.objs.size = s.heap.objs.size + 1 := Heap.size_push ..
  refine callType_new F.called_enumerate (by decide) (F.typeCall_enumerate_1 _) (F.newCall_enumerate_1 _) (fun ob => F.args_object_init_2 ob _) F.entry_enumerate_new (ent_new t its ct n sl) ⟨h1, ?_⟩
  show _ ∧ _
  rw [show (s.heap.push { cls := .type "tuple_iterator", data := .fields #[.ref t, .int 0 0] }).objs.size = s.heap.objs.size + 1 from sz]
  have en : IsEnum (p1.push { cls := .type "enumerate", data := .fields #[.none, .bool false, .ref s.heap.objs.size, rawInt 0, .none, .none] }) (s.heap.objs.size + 1) s.heap.objs.size 0 .none := by
    have z := Heap.get?_push_size p1 (o := { cls := .type "enumerate", data := .fields #[.none, .bool false, .ref s.heap.objs.size, rawInt 0, .none, .none] }) rfl
    rw [sz] at z; exact z
  exact ⟨⟨_, en, rfl⟩, k _ en ⟨_, Heap.get?_push_of_some _ (Heap.get?_push_size _ rfl), rfl, rfl⟩ fun b o q => Heap.get?_push_of_some _ (Heap.get?_push_of_some _ q)⟩
theorem tupIter_ext {h h' : Heap} {b it t : Addr} {i : Nat} (x : IsTupIter h it t i) (sb : Heap.SameBut b h h') (hn : it ≠ b) : IsTupIter h' it t i := let ⟨o, ho, q⟩ := x; ⟨o, (sb.2 it hn).trans ho, q⟩
theorem ent_item {e it t : Addr} {i : Nat} {its : Array Value} {x old : Value} {Q : Option Value → Shared → Prop} (he : IsEnum s.heap e it i old) (hit : IsTupIter s.heap it t i) (ht : IsTup s.heap t its) (hx : its[i]? = some x) (hne : e ≠ it)
    (k : ∀ h2, IsEnumOut h2 e it ((i : Int) + 1) x s.heap.objs.size → IsTupIter h2 it t (i + 1) → h2.get? s.heap.objs.size = some { cls := .type "tuple", data := .seq #[.int i s.toks, x] } →
      (∀ b o, b ≠ e → b ≠ it → s.heap.get? b = some o → h2.get? b = some o) → Q (some (.ref s.heap.objs.size)) { s with heap := h2, toks := s.toks + 1 }) : wpAny (model prog w) A (pyNext (.ref e)) Q E s := by
  have ty : s.TypeIs (.ref e) "enumerate" := ⟨_, he, rfl⟩
  unfold pyNext
  refine wpAny_bind (wpAny_attempt (wpAny_callSpecial?_slot (name := Str.ofString "__next__") ty F.slot_enumerate_next (wpAny_call_entry F.slot_enumerate_next ty F.entry_enumerate_next ?_ (F.args_enumerate_next_1 _))))
  obtain ⟨hp, gg, dd, tk, os⟩ := s
  have hel : e < hp.objs.size := Heap.lt_size he
  show wpAny _ _ (field (.ref e) 2 >>= _) _ _ _
  refine wpAny_bind (wpAny_field he rfl (x := .ref it) rfl (wpAny_bind (RZ.nextOf_tuple_item hit ht hx fun g1 i1 s1 => ?_)))
  have s1 : Heap.SameBut it hp g1 := s1
  have e1 : IsEnum g1 e it i old := (s1.2 e hne).trans he
  show wpAny _ _ (field (.ref e) 3 >>= _) _ _ ⟨g1, gg, dd, tk, os⟩
  refine wpAny_bind (wpAny_field e1 rfl (x := rawInt i) rfl ?_)
  show wpAny _ _ (field (.ref e) 4 >>= _) _ _ ⟨g1, gg, dd, tk, os⟩
  refine wpAny_bind (wpAny_field e1 rfl (x := .none) rfl ?_)
  show wpAny _ _ (mkInt i >>= _) _ _ ⟨g1, gg, dd, tk, os⟩
  refine wpAny_bind (wpAny_mkInt ?_)
  show wpAny _ _ (setField (.ref e) 3 (rawInt ((i : Int) + 1)) >>= _) _ _ ⟨g1, gg, dd, tk + 1, os⟩
  refine wpAny_bind (wpAny_setField_rec e1 (by simp) fun g2 e2 s2 => ?_)
  have s2 : Heap.SameBut e g1 g2 := s2
  have e2 : IsEnum g2 e it ((i : Int) + 1) old := e2
  show wpAny _ _ (setField (.ref e) 4 .none >>= _) _ _ ⟨g2, gg, dd, tk + 1, os⟩
  refine wpAny_bind (wpAny_setField_rec e2 (by simp) fun g3 e3 s3 => ?_)
  have s3 : Heap.SameBut e g2 g3 := s3
  have e3 : IsEnum g3 e it ((i : Int) + 1) old := e3
  show wpAny _ _ (newTuple [.int i tk, x] >>= _) _ _ ⟨g3, gg, dd, tk + 1, os⟩
  refine wpAny_bind (wpAny_newTuple ?_)
  have z3 : g3.objs.size = hp.objs.size := by rw [s3.1, s2.1, s1.1]
  have i3 : IsTupIter g3 it t (i + 1) := tupIter_ext (tupIter_ext i1 s2 (Ne.symm hne)) s3 (Ne.symm hne)
  have e4 : IsEnum (g3.push { cls := .type "tuple", data := .seq #[.int i tk, x] }) e it ((i : Int) + 1) old := Heap.get?_push_of_some _ e3
  have t4 : (g3.push { cls := .type "tuple", data := .seq #[.int i tk, x] }).get? hp.objs.size = some { cls := .type "tuple", data := .seq #[.int i tk, x] } := by rw [← z3]; exact Heap.get?_push_size _ rfl
  have i4 : IsTupIter (g3.push { cls := .type "tuple", data := .seq #[.int i tk, x] }) it t (i + 1) := let ⟨o, ho, q⟩ := i3; ⟨o, Heap.get?_push_of_some _ ho, q⟩
  have k4 : ∀ b o, b ≠ e → b ≠ it → hp.get? b = some o → (g3.push { cls := .type "tuple", data := .seq #[.int i tk, x] }).get? b = some o := fun b o n1 n2 q => Heap.get?_push_of_some _ (s3.extBut b o n1 (s2.extBut b o n1 (s1.extBut b o n2 q)))
  generalize (g3.push { cls := .type "tuple", data := .seq #[.int i tk, x] }) = g4 at e4 t4 i4 k4 ⊢
  show wpAny _ _ (Builtin.SmallTypes.ownedTupleIsFree (.ref e) >>= _) _ _ ⟨g4, gg, dd, tk + 1, os⟩
  rw [z3]
  refine wpAny_bind ?_
  unfold Builtin.SmallTypes.ownedTupleIsFree
  refine wpAny_bind (wpAny_field e4 rfl (x := .none) rfl (wpAny_pure ?_))
  simp only [if_true]
  refine wpAny_bind (wpAny_rule (wpAny_bind (wpAny_field e4 rfl (x := old) rfl (wpAny_bind (wpAny_setField_rec e4 (by simp) fun g5 e5 s5 => ?_)))))
  have s5 : Heap.SameBut e g4 g5 := s5
  have e5 : IsEnum g5 e it ((i : Int) + 1) x := e5
  show wpAny _ _ (Builtin.SmallTypes.ownedTupleHandOut (.ref e) (.ref hp.objs.size) >>= _) _ _ ⟨g5, gg, dd, tk + 1, os⟩
  refine wpAny_bind ?_
  unfold Builtin.SmallTypes.ownedTupleHandOut
  refine wpAny_bind (wpAny_setField_rec e5 (by simp) fun g6 e6 s6 => ?_)
  have s6 : Heap.SameBut e g5 g6 := s6
  have e6 : IsEnumOut g6 e it ((i : Int) + 1) x hp.objs.size := e6
  refine wpAny_setField_rec e6 (by simp) fun g7 e7 s7 => ?_
  have s7 : Heap.SameBut e g6 g7 := s7
  refine wpAny_bind (wpAny_letGo (wpAny_pure ⟨_, rfl, wpAny_pure (k g7 e7 ?_ ?_ ?_)⟩))
  · exact tupIter_ext (tupIter_ext (tupIter_ext i4 s5 (Ne.symm hne)) s6 (Ne.symm hne)) s7 (Ne.symm hne)
  · exact s7.extBut _ _ (Nat.ne_of_gt hel) (s6.extBut _ _ (Nat.ne_of_gt hel) (s5.extBut _ _ (Nat.ne_of_gt hel) t4))
  · exact fun b o n1 n2 q => s7.extBut b o n1 (s6.extBut b o n1 (s5.extBut b o n1 (k4 b o n1 n2 q)))
theorem ent_end {e it t : Addr} {i : Nat} {its : Array Value} {old : Value} {Q : Option Value → Shared → Prop} (hh : A.handled = none) (he : IsEnum s.heap e it i old) (hit : IsTupIter s.heap it t i) (ht : IsTup s.heap t its) (hx : its[i]? = none)
    (k : ∀ h2, Heap.ExtBut it s.heap h2 → Q none { s with heap := h2 }) : wpAny (model prog w) A (pyNext (.ref e)) Q E s := by
  have ty : s.TypeIs (.ref e) "enumerate" := ⟨_, he, rfl⟩
  unfold pyNext
  refine wpAny_bind (wpAny_attempt (wpAny_callSpecial?_slot (name := Str.ofString "__next__") ty F.slot_enumerate_next (wpAny_call_entry F.slot_enumerate_next ty F.entry_enumerate_next ?_ (F.args_enumerate_next_1 _))))
  show wpAny _ _ (field (.ref e) 2 >>= _) _ _ _
  refine wpAny_bind (wpAny_field he rfl (x := .ref it) rfl (wpAny_bind (RZ.nextOf_tuple_end hh hit ht hx fun g z ex hz => ?_)))
  obtain ⟨o, ho, hc⟩ := hz
  exact wpAny_bind (wpAny_isInstance (T := "StopIteration") (b := true) ⟨o, ho, hc⟩ isSubtype_stop (wpAny_pure (k _ ex)))
end
/-- the tuple at a, each item in a new pair -/
def ItT (K : PySem.W.Frag) (a : Addr) : It :=
  ⟨fun i H => ∃ (xs : List V) (x : V), SqT K H a xs ∧ xs[i]? = some x, fun i H v H' => ∃ T x, v = .ref T ∧ H T = none ∧ H' = upd H T (.tup [.int (i : Nat), x]) ∧ ∀ xs, SqT K H a xs → xs[i]? = some x, fun i H => ∃ xs : List V, SqT K H a xs ∧ xs.length ≤ i⟩
theorem turn_ent {P : Program} {w : World} {K : PySem.W.Frag} {elts : List Expr} {kk : Nat} {tpos : Pos} (a e it : Addr) :
    Turn P w K (.Tuple elts kk tpos) (ItT K a) [e, it] e (fun i h => (∃ old, IsEnum h e it ((i : Nat) : Int) old) ∧ IsTupIter h it a i ∧ e ≠ it) where
  mem := by simp
  obj := fun i h ⟨⟨old, he⟩, ⟨o, ho, hc, hd⟩, _⟩ b hb => by
    rcases (by simpa using hb : b = e ∨ b = it) with z | z
    · subst z; exact ⟨_, he, fun v q => nomatch q⟩
    · subst z; exact ⟨o, ho, fun v q => by rw [hd] at q; cases q⟩
  keep := fun i h h2 ⟨⟨old, he⟩, ⟨o, ho, hi⟩, hne⟩ k => ⟨⟨old, k e (by simp) _ he⟩, ⟨o, k it (by simp) o ho, hi⟩, hne⟩
  item := by
    rintro X rfl rfl rfl hc i pins s σ H E I hf ⟨⟨old, he⟩, hit, hne⟩ ⟨xs, x, hq, hx⟩
    obtain ⟨its, rv, p, hz⟩ := I.tuple hq
    obtain ⟨u, hu, ru⟩ := rv.get hx
    have l1 : e < s.heap.objs.size := Heap.lt_size he
    have l2 : it < s.heap.objs.size := by obtain ⟨_, q, _⟩ := hit; exact Heap.lt_size q
    refine ent_item he hit p (x := u) (by simpa using hu) hne fun g ho hit2 hT hk => ⟨_, rfl, wpAny_letOwnedTupleGo_enum (s := { s with heap := g, toks := s.toks + 1 }) ho fun g2 he2 sb => ?_⟩
    have hT2 : g2.get? s.heap.objs.size = some { cls := .type "tuple", data := .seq #[.int i s.toks, u] } := (sb.2 _ (Nat.ne_of_gt l1)).trans hT
    have nw : ObjOk X.prog X.w (upd H s.heap.objs.size (.tup [.int (i : Nat), x])) g2 s.heap.objs.size (.tup [.int (i : Nat), x]) :=
      ⟨by show 2 ≤ sizeLine; decide, [.int i s.toks, u], .cons ⟨_, rfl⟩ (.cons ru .nil), ⟨_, hT2, rfl, _, rfl⟩⟩
    have I1 : Inv X pins σ (upd H s.heap.objs.size (.tup [.int (i : Nat), x])) { s with heap := g2, toks := s.toks + 1 } :=
      I.turnedNew (ch := [e, it]) (fun b ob hb q => (sb.2 b (fun z => hb (by simp [z]))).trans (hk b ob (fun z => hb (by simp [z])) (fun z => hb (by simp [z])) q)) hf (Nat.le_refl _) nw
    refine ⟨.ref s.heap.objs.size, _, I1, rfl, ⟨_, x, rfl, I.hok.fresh (Nat.le_refl _), rfl, fun ys hy => by rw [I.tuple_inj hy hq]; exact hx⟩, ⟨⟨u, ?_⟩, tupIter_ext hit2 sb (Ne.symm hne), hne⟩, fun b hb => ?_⟩
    · rw [show ((i + 1 : Nat) : Int) = (i : Int) + 1 by omega]; exact he2
    · have lb : b < s.heap.objs.size := by
        rcases (by simpa using hb : b = e ∨ b = it) with z | z
        · subst z; exact l1
        · subst z; exact l2
      rw [upd_ne (Nat.ne_of_lt lb)]; exact (hf b hb).1
  done := by
    rintro X rfl rfl rfl hc i pins s σ H E I hf ⟨⟨old, he⟩, hit, hne⟩ ⟨xs, hq, hx⟩
    obtain ⟨its, rv, p, hz⟩ := I.tuple hq
    obtain ⟨f0, f1, f2, f3, f4, f5⟩ := hf it (by simp)
    have l := rv.length
    exact ent_end (I.ok.hd hc) he hit p (by simp; omega) fun g eb => ⟨rfl, I.turned (t' := s.toks) (fun b o hb q => eb b o hb q) f0 f1 f3 f4 f5⟩
  self := fun A i s Q E ⟨⟨_, he⟩, _⟩ h => wpAny_pyIter_enum he h
def iEnT (K : PySem.W.Frag) (ta : TA) : TI := fun σ H R => ta σ H fun vs H1 => ∃ a xs, vs = [.ref a] ∧ SqT K H1 a xs ∧ R (ItT K a) H1
theorem pi_ent {X : Cx} {e : Expr} {ta : TA} {p pos tpos : Pos} {elts : List Expr} {kk : Nat} (hg : Gl X "enumerate") (hm : X.mg "enumerate" = none) (ha : PA X [e] ta) (hs : starEach [e] X.env = [(false, eval e X.env)] := by rfl) :
    PI X (.Tuple elts kk tpos) (.Call (.Name "enumerate" p) [e] [] pos) (iEnT X.K ta) := by
  refine ⟨fun pins s σ H R I h => Call_ (ld_blt I hg hm boot_enumerate (PyProof.Rows.callWith_type1 (thn (ha.run pos pins s σ H _ I h) fun us s1 ⟨vs, H1, I1, r1, a, xs, ex, hq, q⟩ => ?_) hs rfl))⟩
  subst ex
  cases r1 with
  | cons r rr =>
    cases rr; cases r
    obtain ⟨its, rv, p2, hz⟩ := I1.tuple hq
    refine ent_call p2 fun g he hit hk => wpAny_pyIter_enum he ?_
    have I2 : Inv X pins σ H1 { s1 with heap := g } := I1.kept (t' := s1.toks) hk
    refine ⟨s1.heap.objs.size + 1, [s1.heap.objs.size + 1, s1.heap.objs.size], _, _, H1, rfl, I2, turn_ent a (s1.heap.objs.size + 1) s1.heap.objs.size, ⟨⟨.none, he⟩, hit, Nat.succ_ne_self _⟩, fun b hb => ?_, q⟩
    have le : s1.heap.objs.size ≤ b := by
      rcases (by simpa using hb : b = s1.heap.objs.size + 1 ∨ b = s1.heap.objs.size) with z | z
      · rw [z]; exact Nat.le_succ _
      · rw [z]; exact Nat.le_refl _
    exact I1.fpOk le (I1.hok.fresh le)
theorem src_ent {K : PySem.W.Frag} {mg : MG} {m : List Addr} {H : Hp} {ds : List D} {a : Addr} {vs : List V} (hs : SqT K H a vs) (hr : Reps K mg m H ds vs) : SrcR K mg m H ⟨pairs 0 ds, none⟩ (ItT K a) := by
  intro i m2 S2 H2 g R st
  have h1 : SqT K H2 a vs := g.tu _ _ hs
  have h2 : Reps K mg m2 H2 ds vs := hr.go g
  refine ⟨fun e => ⟨vs, h1, by rw [← h2.length, show i = (pairs 0 ds).length from e, pairs_length]; exact Nat.le_refl _⟩, fun d hd => ?_⟩
  have hd : (pairs 0 ds)[i]? = some d := hd
  rw [pairs_get] at hd
  cases e : ds[i]? with
  | none => rw [e] at hd; cases hd
  | some d0 =>
    rw [e] at hd
    cases hd
    obtain ⟨v, hv, q⟩ := h2.get e
    refine ⟨⟨vs, v, h1, hv⟩, fun x H3 ⟨T, y, ex, hT, eH, hy⟩ => ?_⟩
    subst ex eH
    have e2 := (hy vs h1).symm.trans hv
    cases e2
    have gn : Goes K m2 H2 m2 (upd H2 T (.tup [.int (i : Nat), v])) := goes_new hT
    refine ⟨gn, R.beside hT, .tup (SqT.of upd_same) (.cons ?_ (.cons (q.go gn) .nil))⟩
    rw [Nat.zero_add]
    exact .int _
section
variable {X : Cx} {W : WX} {pos p tpos : Pos}
def iEnumT (a : FE) : FI := fun r S => (a r S).bind fun x S1 => match x with
  | .tup ds => .ok ⟨pairs 0 ds, none⟩ S1
  | _ => .stuck
theorem ci_enumT {e : Expr} {f : FE} {elts : List Expr} {kk : Nat} (hg : Gl X "enumerate") (hm : X.mg "enumerate" = none) (he : CE X W e f) (hs : starEach [e] X.env = [(false, eval e X.env)] := by rfl) : CI X W (.Tuple elts kk tpos) (.Call (.Name "enumerate" p) [e] [] pos) (iEnumT f) := by
  have hA : CA X W [e] (fCons f fNil) := ca_cons he ca_nil (by rw [hs]; rfl)
  refine ⟨fun pins s σ H Rr I ⟨m, r, S, R, E, h⟩ => (pi_ent hg hm hA hs).run pins s σ H Rr I ⟨m, r, S, R, E, ?_⟩⟩
  unfold fCons fNil
  unfold iEnumT at h
  cases e1 : f r S with
  | stuck => rw [e1] at h; exact h.elim
  | exc x S1 => rw [e1] at h; exact h
  | ok d S1 =>
    rw [e1] at h
    intro m' H' vs g R' q
    obtain ⟨x, rfl, rx⟩ := q.one
    cases rx with
    | @tup a ds us hs hr => exact ⟨a, us, rfl, hs, h m' H' _ g R' (src_ent hs hr)⟩
    | _ => exact h.elim
end
end CL

set_option linter.all false
set_option maxRecDepth 100000
namespace M
open PySem CL
def WFUEL : Nat := 100000
@[reducible] def b_law_random : FS := fSeq (fAsg (fVar 1) (gNm 2)) (fSeq (fFor (iSeq (fVar 0)) (gNm 3) (fAsg (fBin opMod (fBin opAdd (fBin opMul (fVar 2) (fC (.int 31))) (fCB bAbs (fCons (fVar 3) (fNil)))) (fC (.int 2147483647))) (gNm 2))) (fRet (fBin opAdd (fLst (fCons (fVar 2) (fCons (fC (.int 0)) (fNil)))) (fLc (iSeq (fVar 0)) (gNm 3) (fBl (fBin opGe (fVar 3) (fBin opPow (fC (.int 10)) (fC (.int 18))))) (fVar 3) [3]))))
def F_law_random : FF := fDef 4 b_law_random
@[reducible] def b_law_below : FS := fSeq (fIf (fAnd (fBl (fBin opEq (fBin opIx (fVar 0) (fC (.int 1))) (fC (.int 0)))) (fBl (fBin opGt (fCB bLen (fCons (fVar 0) (fNil))) (fC (.int 2))))) (fAsg (fBM "list" mPop (fVar 0) (fCons (fC (.int 2)) (fNil))) (gIx (fVar 0) (fC (.int 1)))) (fPass)) (fSeq (fIf (fBl (fBin opGt (fBin opIx (fVar 0) (fC (.int 1))) (fC (.int 0)))) (fSeq (fAsg (fBin opMod (fBin opIx (fVar 0) (fC (.int 1))) (fVar 1)) (gNm 2)) (fSeq (fAsg (fBin opDiv (fBin opIx (fVar 0) (fC (.int 1))) (fVar 1)) (gIx (fVar 0) (fC (.int 1)))) (fRet (fVar 2)))) (fPass)) (fSeq (fAsg (fBin opMod (fBin opAdd (fBin opMul (fBin opIx (fVar 0) (fC (.int 0))) (fC (.int 48271))) (fC (.int 11))) (fC (.int 2147483647))) (gIx (fVar 0) (fC (.int 0)))) (fRet (fBin opMod (fBin opDiv (fBin opIx (fVar 0) (fC (.int 0))) (fC (.int 64))) (fVar 1)))))
def F_law_below : FF := fDef 3 b_law_below
@[reducible] def b_law_shuffled : FS := fSeq (fAsg (fCB bList (fCons (fVar 1) (fNil))) (gNm 2)) (fSeq (fAsg (fLst (fNil)) (gNm 3)) (fSeq (fWhile WFUEL (fBl (fBin opNe (fVar 2) (fLst (fNil)))) (fExpr (fBM "list" mAppend (fVar 3) (fCons (fBM "list" mPop (fVar 2) (fCons (fCallN 2 F_law_below (fCons (fVar 0) (fCons (fCB bLen (fCons (fVar 2) (fNil))) (fNil)))) (fNil))) (fNil))))) (fRet (fVar 3))))
def F_law_shuffled : FF := fDef 4 b_law_shuffled
@[reducible] def b_law_action : FS := fSeq (fAsg (fTup (fCons (fCallN 2 F_law_below (fCons (fVar 0) (fCons (fC (.int 6)) (fNil)))) (fCons (fCallN 2 F_law_below (fCons (fVar 0) (fCons (fBin opIx (fLst (fCons (fC (.int 2)) (fCons (fC (.int 4)) (fNil)))) (fCallN 2 F_law_below (fCons (fVar 0) (fCons (fC (.int 2)) (fNil))))) (fNil)))) (fNil)))) (gTupl 2 (gsCons (gNm 2) (gsCons (gNm 3) (gsNil))))) (fSeq (fIf (fBl (fBin opLt (fVar 2) (fC (.int 2)))) (fRet (fTup (fCons (fC (.str "add")) (fCons (fVar 3) (fCons (fCallN 2 F_law_below (fCons (fVar 0) (fCons (fVar 1) (fNil)))) (fNil)))))) (fPass)) (fSeq (fIf (fBl (fBin opLt (fVar 2) (fC (.int 4)))) (fRet (fTup (fCons (fBin opIx (fLst (fCons (fC (.str "copy")) (fCons (fC (.str "swap")) (fNil)))) (fBin opSub (fVar 2) (fC (.int 2)))) (fCons (fVar 3) (fCons (fCallN 2 F_law_below (fCons (fVar 0) (fCons (fBin opIx (fLst (fCons (fC (.int 2)) (fCons (fC (.int 4)) (fNil)))) (fCallN 2 F_law_below (fCons (fVar 0) (fCons (fC (.int 2)) (fNil))))) (fNil)))) (fNil)))))) (fPass)) (fRet (fIfE (fBl (fBin opEq (fVar 2) (fC (.int 4)))) (fTup (fCons (fC (.str "emit")) (fCons (fVar 3) (fCons (fC (.int 0)) (fNil))))) (fTup (fCons (fC (.str "emit")) (fCons (fC .none) (fCons (fCallN 2 F_law_below (fCons (fVar 0) (fCons (fVar 1) (fNil)))) (fNil)))))))))
def F_law_action : FF := fDef 4 b_law_action
@[reducible] def b_law_put : FS := fSeq (fAsg (fTup (fCons (fCallN 2 F_law_below (fCons (fVar 0) (fCons (fC (.int 4)) (fNil)))) (fCons (fCallN 2 F_law_below (fCons (fVar 0) (fCons (fBin opIx (fLst (fCons (fC (.int 2)) (fCons (fC (.int 4)) (fNil)))) (fCallN 2 F_law_below (fCons (fVar 0) (fCons (fC (.int 2)) (fNil))))) (fNil)))) (fNil)))) (gTupl 2 (gsCons (gNm 2) (gsCons (gNm 3) (gsNil))))) (fSeq (fAsg (fLc (iRange1 (fC (.int 2))) (gNm 5) (fYes) (fCallN 2 F_law_below (fCons (fVar 0) (fCons (fBin opIx (fLst (fCons (fVar 1) (fCons (fBin opAdd (fVar 1) (fC (.int 1))) (fCons (fC (.int 10)) (fNil))))) (fCallN 2 F_law_below (fCons (fVar 0) (fCons (fC (.int 3)) (fNil))))) (fNil)))) [5]) (gNm 4)) (fSeq (fAsg (fLc (iSeq (fVar 4)) (gNm 6) (fYes) (fCB bMin (fCons (fC (.int 9)) (fCons (fVar 6) (fNil)))) [6]) (gNm 4)) (fSeq (fIf (fBl (fBin opLt (fVar 2) (fC (.int 2)))) (fRet (fTup (fCons (fC .none) (fCons (fBin opIx (fVar 4) (fC (.int 0))) (fCons (fBin opIx (fVar 4) (fC (.int 0))) (fNil)))))) (fPass)) (fRet (fIfE (fBl (fBin opEq (fVar 2) (fC (.int 2)))) (fTup (fCons (fVar 3) (fCons (fC (.int 0)) (fCons (fC .none) (fNil))))) (fTup (fCons (fVar 3) (fCons (fBin opIx (fVar 4) (fC (.int 0))) (fCons (fBin opIx (fVar 4) (fC (.int 1))) (fNil))))))))))
def F_law_put : FF := fDef 7 b_law_put
@[reducible] def b_law_deck : FS := fSeq (fAsg (fBin opAdd (fC (.int 1)) (fCallN 2 F_law_below (fCons (fVar 0) (fCons (fVar 1) (fNil))))) (gNm 2)) (fSeq (fAsg (fBin opIx (fLst (fCons (fC (.int 2)) (fCons (fC (.int 3)) (fCons (fBin opAdd (fC (.int 2)) (fCallN 2 F_law_below (fCons (fVar 0) (fCons (fC (.int 15)) (fNil))))) (fNil))))) (fCallN 2 F_law_below (fCons (fVar 0) (fCons (fC (.int 3)) (fNil))))) (gNm 3)) (fSeq (fAsg (fLst (fNil)) (gNm 4)) (fSeq (fFor (iSeq (fSlice (fCallN 2 F_law_shuffled (fCons (fVar 0) (fCons (fLst (fCons (fC (.str "a")) (fCons (fC (.str "b")) (fCons (fC (.str "cc")) (fCons (fC (.str "longname")) (fCons (fC (.str "x")) (fCons (fC (.str "y")) (fCons (fC (.str "zed")) (fCons (fC (.str "pq")) (fNil)))))))))) (fNil)))) (fNoPart) (fPart (fVar 2)))) (gNm 5) (fSeq (fAsg (fLc (iRange1 (fCallN 2 F_law_below (fCons (fVar 0) (fCons (fBin opIx (fLst (fCons (fC (.int 3)) (fCons (fC (.int 7)) (fNil)))) (fCallN 2 F_law_below (fCons (fVar 0) (fCons (fC (.int 2)) (fNil))))) (fNil))))) (gNm 7) (fYes) (fCallN 2 F_law_action (fCons (fVar 0) (fCons (fVar 3) (fNil)))) [7]) (gNm 6)) (fExpr (fBM "list" mAppend (fVar 4) (fCons (fTup (fCons (fVar 5) (fCons (fVar 6) (fCons (fCallN 2 F_law_put (fCons (fVar 0) (fCons (fVar 2) (fNil)))) (fNil))))) (fNil)))))) (fRet (fTup (fCons (fVar 3) (fCons (fVar 4) (fNil))))))))
def F_law_deck : FF := fDef 8 b_law_deck
@[reducible] def b_law_card_text : FS := fSeq (fAsg (fVar 0) (gTupl 3 (gsCons (gNm 1) (gsCons (gNm 2) (gsCons (gNm 3) (gsNil)))))) (fSeq (fAsg (fLst (fNil)) (gNm 4)) (fSeq (fFor (iSeq (fVar 2)) (gTupl 3 (gsCons (gNm 5) (gsCons (gNm 6) (gsCons (gNm 7) (gsNil))))) (fSeq (fAsg (fIfE (fOr (fBl (fBin opEq (fVar 5) (fC (.str "add")))) (fBl (fBin opIsN (fVar 6) (fC .none)))) (fCB bStr (fCons (fVar 7) (fNil))) (fBin opIx (fC (.str "pqrs")) (fVar 7))) (gNm 8)) (fExpr (fBM "list" mAppend (fVar 4) (fCons (fBin opAdd (fBin opAdd (fVar 5) (fC (.str " "))) (fIfE (fBl (fBin opIsN (fVar 6) (fC .none))) (fVar 8) (fBin opAdd (fBin opIx (fC (.str "pqrs")) (fVar 6)) (fIfE (fBl (fBin opEq (fVar 5) (fC (.str "emit")))) (fC (.str "")) (fBin opAdd (fC (.str " ")) (fVar 8)))))) (fNil)))))) (fSeq (fAsg (fVar 3) (gTupl 3 (gsCons (gNm 6) (gsCons (gNm 9) (gsCons (gNm 10) (gsNil)))))) (fSeq (fAsg (fIfE (fBl (fBin opIsN (fVar 6) (fC .none))) (fCB bStr (fCons (fVar 9) (fNil))) (fBin opIx (fC (.str "pqrs")) (fVar 6))) (gNm 11)) (fSeq (fIf (fAnd (fBl (fBin opNotN (fVar 6) (fC .none))) (fBl (fBin opNotN (fVar 10) (fC .none)))) (fAsg (fBin opAdd (fBin opAdd (fBin opAdd (fBin opAdd (fVar 11) (fC (.str " ? "))) (fCB bStr (fCons (fVar 9) (fNil)))) (fC (.str " : "))) (fCB bStr (fCons (fVar 10) (fNil)))) (gNm 11)) (fPass)) (fRet (fBin opAdd (fBin opAdd (fBin opAdd (fBin opAdd (fBin opAdd (fBin opAdd (fVar 1) (fC (.str ": "))) (fBM "str" mJoin (fC (.str ", ")) (fCons (fVar 4) (fNil)))) (fBin opMul (fC (.str " ")) (fCB bInt (fCons (fBin opNe (fVar 4) (fLst (fNil))) (fNil))))) (fC (.str "-> "))) (fVar 11)) (fC (.str ";")))))))))
def F_law_card_text : FF := fDef 12 b_law_card_text
@[reducible] def b_law_text : FS := fRet (fBM "str" mJoin (fC (.str "\n")) (fCons (fBin opAdd (fLst (fCons (fBin opAdd (fBin opAdd (fC (.str "wrap ")) (fCB bStr (fCons (fBin opIx (fVar 0) (fC (.int 0))) (fNil)))) (fC (.str ";"))) (fNil))) (fLc (iSeq (fBin opIx (fVar 0) (fC (.int 1)))) (gNm 1) (fYes) (fCallN 1 F_law_card_text (fCons (fVar 1) (fNil))) [1])) (fNil)))
def F_law_text : FF := fDef 2 b_law_text
@[reducible] def b_Token_init : FS := fSeq (fSetFld "Token" "kind" (fVar 0) (fVar 1)) (fSeq (fSetFld "Token" "text" (fVar 0) (fVar 2)) (fSeq (fSetFld "Token" "line" (fVar 0) (fVar 3)) (fSetFld "Token" "column" (fVar 0) (fVar 4))))
def F_Token_init : FF := fDef 5 b_Token_init
@[reducible] def b_run_length : FS := fSeq (fAsg (fC (.int 0)) (gNm 3)) (fSeq (fWhile WFUEL (fAnd (fBl (fBin opLt (fBin opAdd (fVar 1) (fVar 3)) (fCB bLen (fCons (fVar 0) (fNil))))) (fBl (fBin opIn (fBin opIx (fVar 0) (fBin opAdd (fVar 1) (fVar 3))) (fVar 2)))) (fAugNm 3 (fC (.int 1)))) (fRet (fVar 3)))
def F_run_length : FF := fDef 4 b_run_length
@[reducible] def b_read_token : FS := fSeq (fAsg (fBin opIx (fVar 0) (fVar 2)) (gNm 3)) (fSeq (fIf (fBl (fBin opEq (fSlice (fVar 0) (fPart (fVar 2)) (fPart (fBin opAdd (fVar 2) (fCB bLen (fCons (fC (.str "->")) (fNil)))))) (fC (.str "->")))) (fRet (fMake "Token" 5 F_Token_init (fCons (fC (.str "sign")) (fCons (fC (.str "->")) (fCons (fVar 1) (fCons (fVar 2) (fNil))))))) (fPass)) (fSeq (fIf (fBl (fBin opIn (fVar 3) (fC (.str ":,;?")))) (fRet (fMake "Token" 5 F_Token_init (fCons (fC (.str "sign")) (fCons (fVar 3) (fCons (fVar 1) (fCons (fVar 2) (fNil))))))) (fPass)) (fSeq (fIf (fBl (fBin opIn (fVar 3) (fC (.str "0123456789")))) (fSeq (fAsg (fSlice (fVar 0) (fPart (fVar 2)) (fPart (fBin opAdd (fVar 2) (fCallN 3 F_run_length (fCons (fVar 0) (fCons (fVar 2) (fCons (fC (.str "0123456789")) (fNil)))))))) (gNm 4)) (fSeq (fIf (fOr (fBl (fBin opGt (fCB bLen (fCons (fVar 4) (fNil))) (fC (.int 3)))) (fAnd (fBl (fBin opGt (fCB bLen (fCons (fVar 4) (fNil))) (fC (.int 1)))) (fBl (fBin opEq (fVar 3) (fC (.str "0")))))) (fRaise "SyntaxFault" ["line", "column"] (fCons (fVar 1) (fCons (fVar 2) (fNil)))) (fPass)) (fRet (fMake "Token" 5 F_Token_init (fCons (fC (.str "number")) (fCons (fVar 4) (fCons (fVar 1) (fCons (fVar 2) (fNil))))))))) (fPass)) (fSeq (fAsg (fSlice (fVar 0) (fPart (fVar 2)) (fPart (fBin opAdd (fVar 2) (fCallN 3 F_run_length (fCons (fVar 0) (fCons (fVar 2) (fCons (fC (.str "abcdefghijklmnopqrstuvwxyz")) (fNil)))))))) (gNm 5)) (fSeq (fIf (fNot (fBl (fChain pLe pLe (fC (.int 1)) (fCB bLen (fCons (fVar 5) (fNil))) (fC (.int 8))))) (fRaise "SyntaxFault" ["line", "column"] (fCons (fVar 1) (fCons (fVar 2) (fNil)))) (fPass)) (fSeq (fIf (fBl (fBin opIn (fVar 5) (fC (.tup ((["wrap", "add", "copy", "swap", "emit"] : List Str).map .str))))) (fRet (fMake "Token" 5 F_Token_init (fCons (fC (.str "sign")) (fCons (fVar 5) (fCons (fVar 1) (fCons (fVar 2) (fNil))))))) (fPass)) (fRet (fMake "Token" 5 F_Token_init (fCons (fIfE (fBl (fBin opIn (fVar 5) (fC (.tup ((["p", "q", "r", "s"] : List Str).map .str))))) (fC (.str "register")) (fC (.str "name"))) (fCons (fVar 5) (fCons (fVar 1) (fCons (fVar 2) (fNil)))))))))))))
def F_read_token : FF := fDef 6 b_read_token
@[reducible] def b_tokenize : FS := fSeq (fAsg (fLst (fNil)) (gNm 1)) (fSeq (fAsg (fBM "str" mSplit (fVar 0) (fCons (fC (.str "\n")) (fNil))) (gNm 2)) (fSeq (fFor (iEnumL (fVar 2)) (gTupl 2 (gsCons (gNm 3) (gsCons (gNm 4) (gsNil)))) (fSeq (fAsg (fC (.int 0)) (gNm 5)) (fWhile WFUEL (fBl (fBin opLt (fVar 5) (fCB bLen (fCons (fVar 4) (fNil))))) (fIf (fBl (fBin opEq (fBin opIx (fVar 4) (fVar 5)) (fC (.str " ")))) (fAugNm 5 (fC (.int 1))) (fSeq (fExpr (fBM "list" mAppend (fVar 1) (fCons (fCallN 3 F_read_token (fCons (fVar 4) (fCons (fVar 3) (fCons (fVar 5) (fNil))))) (fNil)))) (fAugNm 5 (fCB bLen (fCons (fFld "Token" "text" (fBin opIx (fVar 1) (fUn opNeg (fC (.int 1))))) (fNil))))))))) (fSeq (fExpr (fBM "list" mAppend (fVar 1) (fCons (fMake "Token" 5 F_Token_init (fCons (fC (.str "end")) (fCons (fC (.str "")) (fCons (fCB bLen (fCons (fVar 2) (fNil))) (fCons (fC (.int 0)) (fNil)))))) (fNil)))) (fRet (fVar 1)))))
def F_tokenize : FF := fDef 6 b_tokenize
@[reducible] def b_Parser_init : FS := fSeq (fSetFld "Parser" "tokens" (fVar 0) (fCallN 1 F_tokenize (fCons (fVar 1) (fNil)))) (fSeq (fSetFld "Parser" "at" (fVar 0) (fC (.int 0))) (fSeq (fSetFld "Parser" "wrap" (fVar 0) (fC (.int 16))) (fSetFld "Parser" "faults" (fVar 0) (fLst (fNil)))))
def F_Parser_init : FF := fDef 2 b_Parser_init
@[reducible] def b_Parser_peek : FS := fRet (fBin opIx (fFld "Parser" "tokens" (fVar 0)) (fFld "Parser" "at" (fVar 0)))
def F_Parser_peek : FF := fDef 1 b_Parser_peek
@[reducible] def b_Parser_expect : FS := fSeq (fAsg (fMeth "Parser" "peek" 1 F_Parser_peek (fVar 0) fNil) (gNm 2)) (fSeq (fIf (fBl (fBin opNe (fFld "Token" "text" (fVar 2)) (fVar 1))) (fRaise "SyntaxFault" ["line", "column"] (fCons (fFld "Token" "line" (fVar 2)) (fCons (fFld "Token" "column" (fVar 2)) (fNil)))) (fPass)) (fAugFld "Parser" "at" (fVar 0) (fC (.int 1))))
def F_Parser_expect : FF := fDef 3 b_Parser_expect
@[reducible] def b_Parser_take : FS := fSeq (fAsg (fMeth "Parser" "peek" 1 F_Parser_peek (fVar 0) fNil) (gNm 2)) (fSeq (fIf (fBl (fBin opNe (fFld "Token" "kind" (fVar 2)) (fVar 1))) (fRaise "SyntaxFault" ["line", "column"] (fCons (fFld "Token" "line" (fVar 2)) (fCons (fFld "Token" "column" (fVar 2)) (fNil)))) (fPass)) (fSeq (fAugFld "Parser" "at" (fVar 0) (fC (.int 1))) (fRet (fVar 2))))
def F_Parser_take : FF := fDef 3 b_Parser_take
@[reducible] def b_Parser_fault : FS := fExpr (fBM "list" mAppend (fFld "Parser" "faults" (fVar 0)) (fCons (fTup (fCons (fFld "Token" "line" (fVar 1)) (fCons (fFld "Token" "column" (fVar 1)) (fCons (fVar 2) (fNil))))) (fNil)))
def F_Parser_fault : FF := fDef 3 b_Parser_fault
@[reducible] def b_Parser_take_register : FS := fRet (fTIx (["p", "q", "r", "s"] : List Str) (fCons (fFld "Token" "text" (fMeth "Parser" "take" 2 F_Parser_take (fVar 0) (fCons (fC (.str "register")) (fNil)))) (fNil)))
def F_Parser_take_register : FF := fDef 1 b_Parser_take_register
@[reducible] def b_Parser_take_number : FS := fSeq (fAsg (fMeth "Parser" "take" 2 F_Parser_take (fVar 0) (fCons (fC (.str "number")) (fNil))) (gNm 2)) (fSeq (fIf (fBl (fBin opGt (fCB bInt (fCons (fFld "Token" "text" (fVar 2)) (fNil))) (fVar 1))) (fExpr (fMeth "Parser" "fault" 3 F_Parser_fault (fVar 0) (fCons (fVar 2) (fCons (fC (.str "number")) (fNil))))) (fPass)) (fRet (fCB bInt (fCons (fFld "Token" "text" (fVar 2)) (fNil)))))
def F_Parser_take_number : FF := fDef 3 b_Parser_take_number
@[reducible] def b_Parser_parse_put : FS := fSeq (fIf (fBl (fBin opEq (fFld "Token" "kind" (fMeth "Parser" "peek" 1 F_Parser_peek (fVar 0) fNil)) (fC (.str "number")))) (fSeq (fAsg (fMeth "Parser" "take_number" 2 F_Parser_take_number (fVar 0) (fCons (fC (.int 9)) (fNil))) (gNm 1)) (fRet (fTup (fCons (fC .none) (fCons (fVar 1) (fCons (fVar 1) (fNil))))))) (fPass)) (fSeq (fAsg (fMeth "Parser" "take_register" 1 F_Parser_take_register (fVar 0) fNil) (gNm 2)) (fSeq (fIf (fBl (fBin opNe (fFld "Token" "text" (fMeth "Parser" "peek" 1 F_Parser_peek (fVar 0) fNil)) (fC (.str "?")))) (fRet (fTup (fCons (fVar 2) (fCons (fC (.int 0)) (fCons (fC .none) (fNil)))))) (fPass)) (fSeq (fAugFld "Parser" "at" (fVar 0) (fC (.int 1))) (fSeq (fAsg (fMeth "Parser" "take_number" 2 F_Parser_take_number (fVar 0) (fCons (fC (.int 9)) (fNil))) (gNm 3)) (fSeq (fExpr (fMeth "Parser" "expect" 2 F_Parser_expect (fVar 0) (fCons (fC (.str ":")) (fNil)))) (fRet (fTup (fCons (fVar 2) (fCons (fVar 3) (fCons (fMeth "Parser" "take_number" 2 F_Parser_take_number (fVar 0) (fCons (fC (.int 9)) (fNil))) (fNil)))))))))))
def F_Parser_parse_put : FF := fDef 4 b_Parser_parse_put
@[reducible] def b_Parser_parse_action : FS := fSeq (fAsg (fMeth "Parser" "peek" 1 F_Parser_peek (fVar 0) fNil) (gNm 2)) (fSeq (fIf (fBl (fBin opNotIn (fFld "Token" "text" (fVar 2)) (fC (.tup ((["add", "copy", "swap", "emit"] : List Str).map .str))))) (fRaise "SyntaxFault" ["line", "column"] (fCons (fFld "Token" "line" (fVar 2)) (fCons (fFld "Token" "column" (fVar 2)) (fNil)))) (fPass)) (fSeq (fIf (fBl (fBin opEq (fVar 1) (fC (.int 6)))) (fExpr (fMeth "Parser" "fault" 3 F_Parser_fault (fVar 0) (fCons (fVar 2) (fCons (fC (.str "actions")) (fNil))))) (fPass)) (fSeq (fAugFld "Parser" "at" (fVar 0) (fC (.int 1))) (fSeq (fIf (fBl (fBin opEq (fFld "Token" "text" (fVar 2)) (fC (.str "emit")))) (fSeq (fIf (fBl (fBin opEq (fFld "Token" "kind" (fMeth "Parser" "peek" 1 F_Parser_peek (fVar 0) fNil)) (fC (.str "register")))) (fRet (fTup (fCons (fC (.str "emit")) (fCons (fMeth "Parser" "take_register" 1 F_Parser_take_register (fVar 0) fNil) (fCons (fC (.int 0)) (fNil)))))) (fPass)) (fRet (fTup (fCons (fC (.str "emit")) (fCons (fC .none) (fCons (fMeth "Parser" "take_number" 2 F_Parser_take_number (fVar 0) (fCons (fBin opSub (fFld "Parser" "wrap" (fVar 0)) (fC (.int 1))) (fNil))) (fNil))))))) (fPass)) (fSeq (fAsg (fMeth "Parser" "take_register" 1 F_Parser_take_register (fVar 0) fNil) (gNm 3)) (fSeq (fIf (fBl (fBin opEq (fFld "Token" "text" (fVar 2)) (fC (.str "add")))) (fRet (fTup (fCons (fC (.str "add")) (fCons (fVar 3) (fCons (fMeth "Parser" "take_number" 2 F_Parser_take_number (fVar 0) (fCons (fBin opSub (fFld "Parser" "wrap" (fVar 0)) (fC (.int 1))) (fNil))) (fNil)))))) (fPass)) (fRet (fTup (fCons (fFld "Token" "text" (fVar 2)) (fCons (fVar 3) (fCons (fMeth "Parser" "take_register" 1 F_Parser_take_register (fVar 0) fNil) (fNil))))))))))))
def F_Parser_parse_action : FF := fDef 4 b_Parser_parse_action
@[reducible] def b_Parser_parse_card : FS := fSeq (fAsg (fMeth "Parser" "take" 2 F_Parser_take (fVar 0) (fCons (fC (.str "name")) (fNil))) (gNm 2)) (fSeq (fIf (fBl (fBin opEq (fCB bLen (fCons (fVar 1) (fNil))) (fC (.int 8)))) (fExpr (fMeth "Parser" "fault" 3 F_Parser_fault (fVar 0) (fCons (fVar 2) (fCons (fC (.str "cards")) (fNil))))) (fIf (fBl (fBin opIn (fFld "Token" "text" (fVar 2)) (fLc (iSeq (fVar 1)) (gNm 5) (fYes) (fBin opIx (fVar 5) (fC (.int 0))) [5]))) (fExpr (fMeth "Parser" "fault" 3 F_Parser_fault (fVar 0) (fCons (fVar 2) (fCons (fC (.str "duplicate")) (fNil))))) (fPass))) (fSeq (fExpr (fMeth "Parser" "expect" 2 F_Parser_expect (fVar 0) (fCons (fC (.str ":")) (fNil)))) (fSeq (fAsg (fLst (fNil)) (gNm 3)) (fSeq (fIf (fBl (fBin opNe (fFld "Token" "text" (fMeth "Parser" "peek" 1 F_Parser_peek (fVar 0) fNil)) (fC (.str "->")))) (fSeq (fExpr (fBM "list" mAppend (fVar 3) (fCons (fMeth "Parser" "parse_action" 2 F_Parser_parse_action (fVar 0) (fCons (fC (.int 0)) (fNil))) (fNil)))) (fWhile WFUEL (fBl (fBin opEq (fFld "Token" "text" (fMeth "Parser" "peek" 1 F_Parser_peek (fVar 0) fNil)) (fC (.str ",")))) (fSeq (fAugFld "Parser" "at" (fVar 0) (fC (.int 1))) (fExpr (fBM "list" mAppend (fVar 3) (fCons (fMeth "Parser" "parse_action" 2 F_Parser_parse_action (fVar 0) (fCons (fCB bLen (fCons (fVar 3) (fNil))) (fNil))) (fNil))))))) (fPass)) (fSeq (fExpr (fMeth "Parser" "expect" 2 F_Parser_expect (fVar 0) (fCons (fC (.str "->")) (fNil)))) (fSeq (fAsg (fMeth "Parser" "parse_put" 1 F_Parser_parse_put (fVar 0) fNil) (gNm 4)) (fSeq (fExpr (fMeth "Parser" "expect" 2 F_Parser_expect (fVar 0) (fCons (fC (.str ";")) (fNil)))) (fRet (fTup (fCons (fFld "Token" "text" (fVar 2)) (fCons (fCB bTuple (fCons (fVar 3) (fNil))) (fCons (fVar 4) (fNil)))))))))))))
def F_Parser_parse_card : FF := fDef 6 b_Parser_parse_card
@[reducible] def b_Parser_parse_deck : FS := fSeq (fExpr (fMeth "Parser" "expect" 2 F_Parser_expect (fVar 0) (fCons (fC (.str "wrap")) (fNil)))) (fSeq (fAsg (fMeth "Parser" "take" 2 F_Parser_take (fVar 0) (fCons (fC (.str "number")) (fNil))) (gNm 1)) (fSeq (fIf (fBl (fChain pLe pLe (fC (.int 2)) (fCB bInt (fCons (fFld "Token" "text" (fVar 1)) (fNil))) (fC (.int 16)))) (fSetFld "Parser" "wrap" (fVar 0) (fCB bInt (fCons (fFld "Token" "text" (fVar 1)) (fNil)))) (fExpr (fMeth "Parser" "fault" 3 F_Parser_fault (fVar 0) (fCons (fVar 1) (fCons (fC (.str "wrap")) (fNil)))))) (fSeq (fExpr (fMeth "Parser" "expect" 2 F_Parser_expect (fVar 0) (fCons (fC (.str ";")) (fNil)))) (fSeq (fAsg (fLst (fCons (fMeth "Parser" "parse_card" 2 F_Parser_parse_card (fVar 0) (fCons (fLst (fNil)) (fNil))) (fNil))) (gNm 2)) (fSeq (fWhile WFUEL (fBl (fBin opNe (fFld "Token" "kind" (fMeth "Parser" "peek" 1 F_Parser_peek (fVar 0) fNil)) (fC (.str "end")))) (fExpr (fBM "list" mAppend (fVar 2) (fCons (fMeth "Parser" "parse_card" 2 F_Parser_parse_card (fVar 0) (fCons (fVar 2) (fNil))) (fNil))))) (fRet (fTup (fCons (fFld "Parser" "wrap" (fVar 0)) (fCons (fCB bTuple (fCons (fVar 2) (fNil))) (fNil))))))))))
def F_Parser_parse_deck : FF := fDef 3 b_Parser_parse_deck
@[reducible] def b_load : FS := fSeq (fAsg (fMake "Parser" 2 F_Parser_init (fCons (fVar 0) (fNil))) (gNm 1)) (fSeq (fAsg (fMeth "Parser" "parse_deck" 1 F_Parser_parse_deck (fVar 1) fNil) (gNm 2)) (fSeq (fIf (fBl (fBin opNe (fFld "Parser" "faults" (fVar 1)) (fLst (fNil)))) (fSeq (fAsg (fBin opIx (fFld "Parser" "faults" (fVar 1)) (fC (.int 0))) (gTupl 3 (gsCons (gNm 3) (gsCons (gNm 4) (gsCons (gNm 5) (gsNil)))))) (fRaise "CheckFault" ["reason", "line", "column"] (fCons (fVar 5) (fCons (fVar 3) (fCons (fVar 4) (fNil)))))) (fPass)) (fRet (fVar 2))))
def F_load : FF := fDef 6 b_load
@[reducible] def b_card_names : FS := fRet (fLc (iSeq (fBin opIx (fCallN 1 F_load (fCons (fVar 0) (fNil))) (fC (.int 1)))) (gNm 1) (fYes) (fBin opIx (fVar 1) (fC (.int 0))) [1])
def F_card_names : FF := fDef 2 b_card_names
@[reducible] def b_law_equal (Rec : FF) : FS := fSeq (fIf (fBl (fBin opIsN (fVar 1) (fC .none))) (fRet (fBin opIsN (fVar 0) (fC .none))) (fPass)) (fSeq (fIf (fTru (fIsi "bool" (fVar 1))) (fRet (fAndV (fIsi "bool" (fVar 0)) (fBin opEq (fVar 0) (fVar 1)))) (fPass)) (fSeq (fIf (fTru (fIsi "int" (fVar 1))) (fRet (fAndV (fIsi "int" (fVar 0)) (fAndV (fNotV (fIsi "bool" (fVar 0))) (fBin opEq (fVar 0) (fVar 1))))) (fPass)) (fSeq (fIf (fTru (fIsi "str" (fVar 1))) (fRet (fAndV (fIsi "str" (fVar 0)) (fBin opEq (fVar 0) (fVar 1)))) (fPass)) (fSeq (fIf (fBl (fBin opNe (fIsi "tuple" (fVar 1)) (fIsi "tuple" (fVar 0)))) (fRet (fC (.bool false))) (fPass)) (fSeq (fIf (fBl (fBin opNe (fIsi "list" (fVar 1)) (fIsi "list" (fVar 0)))) (fRet (fC (.bool false))) (fPass)) (fSeq (fIf (fBl (fBin opNe (fCB bLen (fCons (fVar 0) (fNil))) (fCB bLen (fCons (fVar 1) (fNil))))) (fRet (fC (.bool false))) (fPass)) (fRet (fCB bAll (fCons (fLc (iRange1 (fCB bLen (fCons (fVar 1) (fNil)))) (gNm 2) (fYes) (fCallN 2 Rec (fCons (fBin opIx (fVar 0) (fVar 2)) (fCons (fBin opIx (fVar 1) (fVar 2)) (fNil)))) [2]) (fNil))))))))))
def F_law_equal : Nat → FF
  | 0 => fun _ _ => .stuck
  | n + 1 => fDef 3 (b_law_equal (F_law_equal n))
@[reducible] def b_format_action : FS := fSeq (fAsg (fVar 0) (gTupl 3 (gsCons (gNm 1) (gsCons (gNm 2) (gsCons (gNm 3) (gsNil)))))) (fSeq (fIf (fBl (fBin opEq (fVar 1) (fC (.str "emit")))) (fRet (fBin opAdd (fC (.str "emit ")) (fIfE (fBl (fBin opIsN (fVar 2) (fC .none))) (fCB bStr (fCons (fVar 3) (fNil))) (fBin opIx (fC (.tup ((["p", "q", "r", "s"] : List Str).map .str))) (fVar 2))))) (fPass)) (fRet (fBin opAdd (fBin opAdd (fBin opAdd (fBin opAdd (fVar 1) (fC (.str " "))) (fBin opIx (fC (.tup ((["p", "q", "r", "s"] : List Str).map .str))) (fVar 2))) (fC (.str " "))) (fIfE (fBl (fBin opEq (fVar 1) (fC (.str "add")))) (fCB bStr (fCons (fVar 3) (fNil))) (fBin opIx (fC (.tup ((["p", "q", "r", "s"] : List Str).map .str))) (fVar 3))))))
def F_format_action : FF := fDef 4 b_format_action
@[reducible] def b_format_put : FS := fSeq (fAsg (fVar 0) (gTupl 3 (gsCons (gNm 1) (gsCons (gNm 2) (gsCons (gNm 3) (gsNil)))))) (fSeq (fIf (fBl (fBin opIsN (fVar 1) (fC .none))) (fRet (fCB bStr (fCons (fVar 2) (fNil)))) (fPass)) (fSeq (fIf (fBl (fBin opIsN (fVar 3) (fC .none))) (fRet (fBin opIx (fC (.tup ((["p", "q", "r", "s"] : List Str).map .str))) (fVar 1))) (fPass)) (fRet (fBin opAdd (fBin opAdd (fBin opAdd (fBin opAdd (fBin opIx (fC (.tup ((["p", "q", "r", "s"] : List Str).map .str))) (fVar 1)) (fC (.str " ? "))) (fCB bStr (fCons (fVar 2) (fNil)))) (fC (.str " : "))) (fCB bStr (fCons (fVar 3) (fNil)))))))
def F_format_put : FF := fDef 4 b_format_put
@[reducible] def b_format_card : FS := fSeq (fAsg (fVar 0) (gTupl 3 (gsCons (gNm 1) (gsCons (gNm 2) (gsCons (gNm 3) (gsNil)))))) (fSeq (fAsg (fBM "str" mJoin (fC (.str ", ")) (fCons (fLc (iSeq (fVar 2)) (gNm 5) (fYes) (fCallN 1 F_format_action (fCons (fVar 5) (fNil))) [5]) (fNil))) (gNm 4)) (fRet (fBin opAdd (fBin opAdd (fBin opAdd (fBin opAdd (fBin opAdd (fVar 1) (fC (.str ": "))) (fIfE (fBl (fBin opNe (fVar 4) (fC (.str "")))) (fBin opAdd (fVar 4) (fC (.str " "))) (fC (.str "")))) (fC (.str "-> "))) (fCallN 1 F_format_put (fCons (fVar 3) (fNil)))) (fC (.str ";")))))
def F_format_card : FF := fDef 6 b_format_card
@[reducible] def b_format_parsed : FS := fRet (fBM "str" mJoin (fC (.str "\n")) (fCons (fBin opAdd (fLst (fCons (fBin opAdd (fBin opAdd (fC (.str "wrap ")) (fCB bStr (fCons (fBin opIx (fVar 0) (fC (.int 0))) (fNil)))) (fC (.str ";"))) (fNil))) (fLc (iSeq (fBin opIx (fVar 0) (fC (.int 1)))) (gNm 1) (fYes) (fCallN 1 F_format_card (fCons (fVar 1) (fNil))) [1])) (fNil)))
def F_format_parsed : FF := fDef 2 b_format_parsed
@[reducible] def b_format_deck : FS := fRet (fCallN 1 F_format_parsed (fCons (fCallN 1 F_load (fCons (fVar 0) (fNil))) (fNil)))
def F_format_deck : FF := fDef 1 b_format_deck
@[reducible] def b_measure : FS := fRet (fCB bSum (fCons (fLc (iSeq (fBin opIx (fCallN 1 F_load (fCons (fVar 0) (fNil))) (fC (.int 1)))) (gNm 1) (fYes) (fCB bLen (fCons (fBin opIx (fVar 1) (fC (.int 1))) (fNil))) [1]) (fNil)))
def F_measure : FF := fDef 2 b_measure
@[reducible] def b_law_k03 : FS := fSeq (fAsg (fCallN 2 F_law_random (fCons (fVar 0) (fCons (fC (.int 3)) (fNil)))) (gNm 1)) (fSeq (fFor (iRange1 (fC (.int 4))) (gNm 2) (fSeq (fAsg (fCallN 2 F_law_deck (fCons (fVar 1) (fCons (fC (.int 8)) (fNil)))) (gNm 3)) (fSeq (fAsg (fCallN 1 F_law_text (fCons (fVar 3) (fNil))) (gNm 4)) (fSeq (fAsg (fC (.str "")) (gNm 5)) (fSeq (fFor (iRange1 (fCB bLen (fCons (fVar 4) (fNil)))) (gNm 6) (fSeq (fAsg (fBin opAdd (fSlice (fVar 4) (fPart (fCB bMax (fCons (fC (.int 0)) (fCons (fBin opSub (fVar 6) (fC (.int 1))) (fNil))))) (fPart (fVar 6))) (fSlice (fVar 4) (fPart (fBin opAdd (fVar 6) (fC (.int 1)))) (fPart (fBin opAdd (fVar 6) (fC (.int 2)))))) (gNm 7)) (fSeq (fAsg (fOrV (fBin opNe (fLc (iSeq (fVar 7)) (gNm 13) (fBl (fBin opIn (fVar 13) (fC (.str ":,;?>")))) (fVar 13) [13]) (fLst (fNil))) (fBin opEq (fSlice (fVar 4) (fPart (fBin opAdd (fVar 6) (fC (.int 1)))) (fPart (fBin opAdd (fVar 6) (fC (.int 2))))) (fC (.str "-")))) (gNm 8)) (fIf (fBl (fBin opIn (fBin opIx (fVar 4) (fVar 6)) (fLst (fCons (fC (.str " ")) (fCons (fC (.str "\n")) (fNil)))))) (fSeq (fAsg (fIfE (fTru (fVar 8)) (fLst (fCons (fC (.str "")) (fCons (fC (.str " ")) (fCons (fC (.str "\n")) (fNil))))) (fLst (fCons (fC (.str " ")) (fCons (fC (.str "  ")) (fCons (fC (.str "\n ")) (fNil)))))) (gNm 9)) (fAsg (fBin opAdd (fVar 5) (fBin opIx (fVar 9) (fCallN 2 F_law_below (fCons (fVar 1) (fCons (fC (.int 3)) (fNil)))))) (gNm 5))) (fAsg (fBin opAdd (fVar 5) (fBin opIx (fVar 4) (fVar 6))) (gNm 5)))))) (fSeq (fAsg (fLc (iSeq (fBin opIx (fVar 3) (fC (.int 1)))) (gNm 12) (fYes) (fBin opIx (fVar 12) (fC (.int 0))) [12]) (gNm 10)) (fSeq (fAsg (fCallN 1 F_card_names (fCons (fVar 5) (fNil))) (gNm 11)) (fSeq (fIf (fNot (fTru (fCallN 2 (F_law_equal 8) (fCons (fLst (fCons (fCallN 1 F_format_deck (fCons (fVar 4) (fNil))) (fCons (fCallN 1 F_format_deck (fCons (fVar 5) (fNil))) (fCons (fVar 11) (fNil))))) (fCons (fLst (fCons (fVar 4) (fCons (fVar 4) (fCons (fVar 10) (fNil))))) (fNil)))))) (fRet (fC (.bool false))) (fPass)) (fSeq (fExpr (fBM "list" mAppend (fVar 11) (fCons (fC (.int 0)) (fNil)))) (fIf (fOr (fNot (fTru (fCallN 2 (F_law_equal 8) (fCons (fCallN 1 F_measure (fCons (fVar 5) (fNil))) (fCons (fCB bSum (fCons (fLc (iSeq (fBin opIx (fVar 3) (fC (.int 1)))) (gNm 12) (fYes) (fCB bLen (fCons (fBin opIx (fVar 12) (fC (.int 1))) (fNil))) [12]) (fNil))) (fNil)))))) (fBl (fBin opNe (fCallN 1 F_card_names (fCons (fVar 4) (fNil))) (fVar 10)))) (fRet (fC (.bool false))) (fPass))))))))))) (fRet (fC (.bool true))))
def F_law_k03 : FF := fDef 14 b_law_k03
end M

set_option linter.all false
set_option maxRecDepth 100000
namespace M
open PySem CL
@[reducible] def b_law_word_bytes : FS := fRet (fBin opAdd (fLst (fCons (fCB bLen (fCons (fVar 0) (fNil))) (fNil))) (fLc (iSeq (fVar 0)) (gNm 1) (fYes) (fBM "str" mSIndex (fC (.str "abcdefghijklmnopqrstuvwxyz")) (fCons (fVar 1) (fNil))) [1]))
def F_law_word_bytes : FF := fDef 2 b_law_word_bytes
@[reducible] def b_law_bytes : FS := fSeq (fAsg (fLst (fCons (fC (.int 68)) (fCons (fBin opIx (fVar 0) (fC (.int 0))) (fCons (fCB bLen (fCons (fBin opIx (fVar 0) (fC (.int 1))) (fNil))) (fNil))))) (gNm 1)) (fSeq (fFor (iSeq (fBin opIx (fVar 0) (fC (.int 1)))) (gTupl 3 (gsCons (gNm 2) (gsCons (gNm 3) (gsCons (gNm 4) (gsNil))))) (fSeq (fAsg (fBin opAdd (fBin opAdd (fVar 1) (fCallN 1 F_law_word_bytes (fCons (fVar 2) (fNil)))) (fLst (fCons (fCB bLen (fCons (fVar 3) (fNil))) (fNil)))) (gNm 1)) (fSeq (fFor (iSeq (fVar 3)) (gTupl 3 (gsCons (gNm 5) (gsCons (gNm 6) (gsCons (gNm 7) (gsNil))))) (fIf (fBl (fBin opEq (fVar 5) (fC (.str "emit")))) (fAsg (fBin opAdd (fVar 1) (fIfE (fBl (fBin opIsN (fVar 6) (fC .none))) (fLst (fCons (fC (.int 4)) (fCons (fVar 7) (fNil)))) (fLst (fCons (fC (.int 3)) (fCons (fVar 6) (fNil)))))) (gNm 1)) (fAsg (fBin opAdd (fVar 1) (fLst (fCons (fBM "list" mIndex (fLst (fCons (fC (.str "add")) (fCons (fC (.str "copy")) (fCons (fC (.str "swap")) (fNil))))) (fCons (fVar 5) (fNil))) (fCons (fVar 6) (fCons (fVar 7) (fNil)))))) (gNm 1)))) (fSeq (fAsg (fVar 4) (gTupl 3 (gsCons (gNm 6) (gsCons (gNm 8) (gsCons (gNm 9) (gsNil)))))) (fSeq (fAsg (fLst (fCons (fC (.int 2)) (fCons (fVar 6) (fCons (fVar 8) (fCons (fVar 9) (fNil)))))) (gNm 10)) (fSeq (fIf (fBl (fBin opIsN (fVar 6) (fC .none))) (fAsg (fLst (fCons (fC (.int 0)) (fCons (fVar 8) (fNil)))) (gNm 10)) (fIf (fBl (fBin opIsN (fVar 9) (fC .none))) (fAsg (fLst (fCons (fC (.int 1)) (fCons (fVar 6) (fNil)))) (gNm 10)) (fPass))) (fAsg (fBin opAdd (fVar 1) (fVar 10)) (gNm 1)))))))) (fRet (fVar 1)))
def F_law_bytes : FF := fDef 11 b_law_bytes
@[reducible] def b_encode_put : FS := fSeq (fAsg (fVar 0) (gTupl 3 (gsCons (gNm 1) (gsCons (gNm 2) (gsCons (gNm 3) (gsNil)))))) (fSeq (fIf (fBl (fBin opIsN (fVar 1) (fC .none))) (fRet (fLst (fCons (fC (.int 0)) (fCons (fVar 2) (fNil))))) (fPass)) (fRet (fIfE (fBl (fBin opIsN (fVar 3) (fC .none))) (fLst (fCons (fC (.int 1)) (fCons (fVar 1) (fNil)))) (fLst (fCons (fC (.int 2)) (fCons (fVar 1) (fCons (fVar 2) (fCons (fVar 3) (fNil)))))))))
def F_encode_put : FF := fDef 4 b_encode_put
@[reducible] def b_encode_action : FS := fSeq (fAsg (fVar 0) (gTupl 3 (gsCons (gNm 1) (gsCons (gNm 2) (gsCons (gNm 3) (gsNil)))))) (fSeq (fIf (fBl (fBin opEq (fVar 1) (fC (.str "emit")))) (fRet (fIfE (fBl (fBin opIsN (fVar 2) (fC .none))) (fLst (fCons (fC (.int 4)) (fCons (fVar 3) (fNil)))) (fLst (fCons (fTIx (["add", "copy", "swap", "emit"] : List Str) (fCons (fVar 1) (fNil))) (fCons (fVar 2) (fNil)))))) (fPass)) (fRet (fLst (fCons (fTIx (["add", "copy", "swap", "emit"] : List Str) (fCons (fVar 1) (fNil))) (fCons (fVar 2) (fCons (fVar 3) (fNil)))))))
def F_encode_action : FF := fDef 4 b_encode_action
@[reducible] def b_encode : FS := fSeq (fAsg (fCallN 1 F_load (fCons (fVar 0) (fNil))) (gTupl 2 (gsCons (gNm 1) (gsCons (gNm 2) (gsNil))))) (fSeq (fAsg (fLst (fCons (fC (.int 68)) (fCons (fVar 1) (fCons (fCB bLen (fCons (fVar 2) (fNil))) (fNil))))) (gNm 3)) (fSeq (fFor (iSeq (fVar 2)) (gTupl 3 (gsCons (gNm 4) (gsCons (gNm 5) (gsCons (gNm 6) (gsNil))))) (fSeq (fExpr (fBM "list" mExtend (fVar 3) (fCons (fBin opAdd (fBin opAdd (fLst (fCons (fCB bLen (fCons (fVar 4) (fNil))) (fNil))) (fLc (iSeq (fVar 4)) (gNm 8) (fYes) (fBM "str" mSIndex (fC (.str "abcdefghijklmnopqrstuvwxyz")) (fCons (fVar 8) (fNil))) [8])) (fLst (fCons (fCB bLen (fCons (fVar 5) (fNil))) (fNil)))) (fNil)))) (fSeq (fFor (iSeq (fVar 5)) (gNm 7) (fExpr (fBM "list" mExtend (fVar 3) (fCons (fCallN 1 F_encode_action (fCons (fVar 7) (fNil))) (fNil))))) (fExpr (fBM "list" mExtend (fVar 3) (fCons (fCallN 1 F_encode_put (fCons (fVar 6) (fNil))) (fNil))))))) (fRet (fBin opAdd (fVar 3) (fLst (fCons (fBin opMod (fCB bSum (fCons (fVar 3) (fNil))) (fC (.int 256))) (fNil)))))))
def F_encode : FF := fDef 9 b_encode
@[reducible] def b_Reader_init : FS := fSeq (fSetFld "Reader" "code" (fVar 0) (fVar 1)) (fSeq (fSetFld "Reader" "place" (fVar 0) (fC (.int 0))) (fSetFld "Reader" "wrap" (fVar 0) (fC (.int 16))))
def F_Reader_init : FF := fDef 2 b_Reader_init
@[reducible] def b_is_int_in : FS := fRet (fAndV (fIsi "int" (fVar 0)) (fAndV (fNotV (fIsi "bool" (fVar 0))) (fChain pLe pLe (fVar 1) (fVar 0) (fVar 2))))
def F_is_int_in : FF := fDef 3 b_is_int_in
@[reducible] def b_Reader_read_byte : FS := fSeq (fIf (fOr (fBl (fBin opEq (fFld "Reader" "place" (fVar 0)) (fCB bLen (fCons (fFld "Reader" "code" (fVar 0)) (fNil))))) (fNot (fTru (fCallN 3 F_is_int_in (fCons (fBin opIx (fFld "Reader" "code" (fVar 0)) (fFld "Reader" "place" (fVar 0))) (fCons (fVar 1) (fCons (fVar 2) (fNil)))))))) (fRaise "InvalidCode" ["place"] (fCons (fFld "Reader" "place" (fVar 0)) (fNil))) (fPass)) (fSeq (fAugFld "Reader" "place" (fVar 0) (fC (.int 1))) (fRet (fBin opIx (fFld "Reader" "code" (fVar 0)) (fBin opSub (fFld "Reader" "place" (fVar 0)) (fC (.int 1))))))
def F_Reader_read_byte : FF := fDef 3 b_Reader_read_byte
@[reducible] def b_Reader_read_name : FS := fSeq (fAsg (fFld "Reader" "place" (fVar 0)) (gNm 1)) (fSeq (fAsg (fMeth "Reader" "read_byte" 3 F_Reader_read_byte (fVar 0) (fCons (fC (.int 1)) (fCons (fC (.int 8)) (fNil)))) (gNm 2)) (fSeq (fAsg (fBM "str" mJoin (fC (.str "")) (fCons (fLc (iRange1 (fVar 2)) (gNm 4) (fYes) (fBin opIx (fC (.str "abcdefghijklmnopqrstuvwxyz")) (fMeth "Reader" "read_byte" 3 F_Reader_read_byte (fVar 0) (fCons (fC (.int 0)) (fCons (fBin opSub (fCB bLen (fCons (fC (.str "abcdefghijklmnopqrstuvwxyz")) (fNil))) (fC (.int 1))) (fNil))))) [4]) (fNil))) (gNm 3)) (fSeq (fIf (fOr (fBl (fBin opIn (fVar 3) (fC (.tup ((["wrap", "add", "copy", "swap", "emit"] : List Str).map .str))))) (fBl (fBin opIn (fVar 3) (fC (.tup ((["p", "q", "r", "s"] : List Str).map .str)))))) (fRaise "InvalidCode" ["place"] (fCons (fVar 1) (fNil))) (fPass)) (fRet (fVar 3)))))
def F_Reader_read_name : FF := fDef 5 b_Reader_read_name
@[reducible] def b_Reader_read_slot : FS := fRet (fMeth "Reader" "read_byte" 3 F_Reader_read_byte (fVar 0) (fCons (fC (.int 0)) (fCons (fBin opSub (fCB bLen (fCons (fC (.tup ((["p", "q", "r", "s"] : List Str).map .str))) (fNil))) (fC (.int 1))) (fNil))))
def F_Reader_read_slot : FF := fDef 1 b_Reader_read_slot
@[reducible] def b_Reader_read_put : FS := fSeq (fAsg (fMeth "Reader" "read_byte" 3 F_Reader_read_byte (fVar 0) (fCons (fC (.int 0)) (fCons (fC (.int 2)) (fNil)))) (gNm 1)) (fSeq (fIf (fBl (fBin opEq (fVar 1) (fC (.int 0)))) (fSeq (fAsg (fMeth "Reader" "read_byte" 3 F_Reader_read_byte (fVar 0) (fCons (fC (.int 0)) (fCons (fC (.int 9)) (fNil)))) (gNm 2)) (fRet (fTup (fCons (fC .none) (fCons (fVar 2) (fCons (fVar 2) (fNil))))))) (fPass)) (fSeq (fAsg (fMeth "Reader" "read_slot" 1 F_Reader_read_slot (fVar 0) fNil) (gNm 3)) (fSeq (fIf (fBl (fBin opEq (fVar 1) (fC (.int 1)))) (fRet (fTup (fCons (fVar 3) (fCons (fC (.int 0)) (fCons (fC .none) (fNil)))))) (fPass)) (fSeq (fAsg (fMeth "Reader" "read_byte" 3 F_Reader_read_byte (fVar 0) (fCons (fC (.int 0)) (fCons (fC (.int 9)) (fNil)))) (gNm 4)) (fRet (fTup (fCons (fVar 3) (fCons (fVar 4) (fCons (fMeth "Reader" "read_byte" 3 F_Reader_read_byte (fVar 0) (fCons (fC (.int 0)) (fCons (fC (.int 9)) (fNil)))) (fNil))))))))))
def F_Reader_read_put : FF := fDef 5 b_Reader_read_put
@[reducible] def b_Reader_read_action : FS := fSeq (fAsg (fMeth "Reader" "read_byte" 3 F_Reader_read_byte (fVar 0) (fCons (fC (.int 0)) (fCons (fC (.int 4)) (fNil)))) (gNm 1)) (fSeq (fIf (fBl (fBin opEq (fVar 1) (fC (.int 4)))) (fRet (fTup (fCons (fC (.str "emit")) (fCons (fC .none) (fCons (fMeth "Reader" "read_byte" 3 F_Reader_read_byte (fVar 0) (fCons (fC (.int 0)) (fCons (fBin opSub (fFld "Reader" "wrap" (fVar 0)) (fC (.int 1))) (fNil)))) (fNil)))))) (fPass)) (fSeq (fAsg (fMeth "Reader" "read_slot" 1 F_Reader_read_slot (fVar 0) fNil) (gNm 2)) (fSeq (fIf (fBl (fBin opEq (fBin opIx (fC (.tup ((["add", "copy", "swap", "emit"] : List Str).map .str))) (fVar 1)) (fC (.str "emit")))) (fRet (fTup (fCons (fC (.str "emit")) (fCons (fVar 2) (fCons (fC (.int 0)) (fNil)))))) (fPass)) (fSeq (fIf (fBl (fBin opEq (fBin opIx (fC (.tup ((["add", "copy", "swap", "emit"] : List Str).map .str))) (fVar 1)) (fC (.str "add")))) (fRet (fTup (fCons (fC (.str "add")) (fCons (fVar 2) (fCons (fMeth "Reader" "read_byte" 3 F_Reader_read_byte (fVar 0) (fCons (fC (.int 0)) (fCons (fBin opSub (fFld "Reader" "wrap" (fVar 0)) (fC (.int 1))) (fNil)))) (fNil)))))) (fPass)) (fRet (fTup (fCons (fBin opIx (fC (.tup ((["add", "copy", "swap", "emit"] : List Str).map .str))) (fVar 1)) (fCons (fVar 2) (fCons (fMeth "Reader" "read_slot" 1 F_Reader_read_slot (fVar 0) fNil) (fNil))))))))))
def F_Reader_read_action : FF := fDef 3 b_Reader_read_action
@[reducible] def b_Reader_read_card : FS := fSeq (fAsg (fMeth "Reader" "read_name" 1 F_Reader_read_name (fVar 0) fNil) (gNm 1)) (fSeq (fAsg (fCB bTuple (fCons (fLc (iRange1 (fMeth "Reader" "read_byte" 3 F_Reader_read_byte (fVar 0) (fCons (fC (.int 0)) (fCons (fC (.int 6)) (fNil))))) (gNm 3) (fYes) (fMeth "Reader" "read_action" 1 F_Reader_read_action (fVar 0) fNil) [3]) (fNil))) (gNm 2)) (fRet (fTup (fCons (fVar 1) (fCons (fVar 2) (fCons (fMeth "Reader" "read_put" 1 F_Reader_read_put (fVar 0) fNil) (fNil)))))))
def F_Reader_read_card : FF := fDef 4 b_Reader_read_card
@[reducible] def b_decode : FS := fSeq (fIf (fNot (fTru (fIsi "list" (fVar 0)))) (fRaise "InvalidCode" ["place"] (fCons (fC (.int 0)) (fNil))) (fPass)) (fSeq (fAsg (fMake "Reader" 2 F_Reader_init (fCons (fVar 0) (fNil))) (gNm 1)) (fSeq (fExpr (fMeth "Reader" "read_byte" 3 F_Reader_read_byte (fVar 1) (fCons (fC (.int 68)) (fCons (fC (.int 68)) (fNil))))) (fSeq (fSetFld "Reader" "wrap" (fVar 1) (fMeth "Reader" "read_byte" 3 F_Reader_read_byte (fVar 1) (fCons (fC (.int 2)) (fCons (fC (.int 16)) (fNil))))) (fSeq (fAsg (fCB bTuple (fCons (fLc (iRange1 (fMeth "Reader" "read_byte" 3 F_Reader_read_byte (fVar 1) (fCons (fC (.int 1)) (fCons (fC (.int 8)) (fNil))))) (gNm 4) (fYes) (fMeth "Reader" "read_card" 1 F_Reader_read_card (fVar 1) fNil) [4]) (fNil))) (gNm 2)) (fSeq (fAsg (fBin opMod (fCB bSum (fCons (fSlice (fVar 0) (fNoPart) (fPart (fFld "Reader" "place" (fVar 1)))) (fNil))) (fC (.int 256))) (gNm 3)) (fSeq (fExpr (fMeth "Reader" "read_byte" 3 F_Reader_read_byte (fVar 1) (fCons (fVar 3) (fCons (fVar 3) (fNil))))) (fSeq (fIf (fBl (fBin opLt (fFld "Reader" "place" (fVar 1)) (fCB bLen (fCons (fVar 0) (fNil))))) (fRaise "InvalidCode" ["place"] (fCons (fFld "Reader" "place" (fVar 1)) (fNil))) (fPass)) (fRet (fCallN 1 F_format_deck (fCons (fCallN 1 F_format_parsed (fCons (fTup (fCons (fFld "Reader" "wrap" (fVar 1)) (fCons (fVar 2) (fNil)))) (fNil))) (fNil)))))))))))
def F_decode : FF := fDef 5 b_decode
@[reducible] def b_law_k15 : FS := fSeq (fAsg (fCallN 2 F_law_random (fCons (fVar 0) (fCons (fC (.int 15)) (fNil)))) (gNm 1)) (fSeq (fFor (iRange1 (fC (.int 4))) (gNm 2) (fSeq (fAsg (fCallN 2 F_law_deck (fCons (fVar 1) (fCons (fC (.int 8)) (fNil)))) (gNm 3)) (fSeq (fAsg (fTup (fCons (fCallN 1 F_law_text (fCons (fVar 3) (fNil))) (fCons (fCallN 1 F_law_bytes (fCons (fVar 3) (fNil))) (fNil)))) (gTupl 2 (gsCons (gNm 4) (gsCons (gNm 5) (gsNil))))) (fSeq (fExpr (fBM "list" mAppend (fVar 5) (fCons (fBin opMod (fCB bSum (fCons (fVar 5) (fNil))) (fC (.int 256))) (fNil)))) (fFor (iRange1 (fC (.int 2))) (gNm 6) (fSeq (fAsg (fCallN 1 F_encode (fCons (fVar 4) (fNil))) (gNm 7)) (fSeq (fIf (fOr (fNot (fTru (fCallN 2 (F_law_equal 8) (fCons (fVar 7) (fCons (fVar 5) (fNil)))))) (fOr (fNot (fTru (fCallN 2 (F_law_equal 8) (fCons (fCallN 1 F_decode (fCons (fVar 7) (fNil))) (fCons (fVar 4) (fNil)))))) (fBl (fBin opNe (fVar 7) (fVar 5))))) (fRet (fC (.bool false))) (fPass)) (fExpr (fBM "list" mAppend (fVar 7) (fCons (fC (.int 0)) (fNil))))))))))) (fRet (fC (.bool true))))
def F_law_k15 : FF := fDef 8 b_law_k15
end M

set_option linter.all false
set_option maxRecDepth 100000
namespace M
open PySem CL
@[reducible] def b_law_step : FS := fSeq (fAsg (fTup (fCons (fBin opIx (fVar 0) (fC (.int 0))) (fCons (fLst (fNil)) (fCons (fCB bList (fCons (fBin opIx (fVar 1) (fC (.int 1))) (fNil))) (fNil))))) (gTupl 3 (gsCons (gNm 2) (gsCons (gNm 3) (gsCons (gNm 4) (gsNil)))))) (fSeq (fAsg (fBin opIx (fBin opIx (fVar 1) (fC (.int 0))) (fC (.int 0))) (gTupl 3 (gsCons (gNm 5) (gsCons (gNm 6) (gsCons (gNm 7) (gsNil)))))) (fSeq (fFor (iSeq (fVar 6)) (gTupl 3 (gsCons (gNm 8) (gsCons (gNm 9) (gsCons (gNm 10) (gsNil))))) (fSeq (fIf (fBl (fBin opEq (fVar 8) (fC (.str "emit")))) (fExpr (fBM "list" mAppend (fVar 3) (fCons (fIfE (fBl (fBin opIsN (fVar 9) (fC .none))) (fVar 10) (fBin opIx (fVar 4) (fVar 9))) (fNil)))) (fPass)) (fSeq (fIf (fBl (fBin opEq (fVar 8) (fC (.str "add")))) (fAsg (fBin opMod (fBin opAdd (fBin opIx (fVar 4) (fVar 9)) (fVar 10)) (fVar 2)) (gIx (fVar 4) (fVar 9))) (fPass)) (fSeq (fIf (fBl (fBin opEq (fVar 8) (fC (.str "swap")))) (fAsg (fTup (fCons (fBin opIx (fVar 4) (fVar 10)) (fCons (fBin opIx (fVar 4) (fVar 9)) (fNil)))) (gTupl 2 (gsCons (gIx (fVar 4) (fVar 9)) (gsCons (gIx (fVar 4) (fVar 10)) (gsNil))))) (fPass)) (fIf (fBl (fBin opEq (fVar 8) (fC (.str "copy")))) (fAsg (fBin opIx (fVar 4) (fVar 10)) (gIx (fVar 4) (fVar 9))) (fPass)))))) (fSeq (fAsg (fVar 7) (gTupl 3 (gsCons (gNm 9) (gsCons (gNm 11) (gsCons (gNm 12) (gsNil)))))) (fSeq (fAsg (fVar 11) (gNm 13)) (fSeq (fIf (fAnd (fBl (fBin opNotN (fVar 9) (fC .none))) (fBl (fBin opIsN (fVar 12) (fC .none)))) (fAsg (fBin opIx (fVar 4) (fVar 9)) (gNm 13)) (fPass)) (fSeq (fIf (fAnd (fBl (fBin opNotN (fVar 9) (fC .none))) (fAnd (fBl (fBin opNotN (fVar 12) (fC .none))) (fBl (fBin opGt (fBin opIx (fVar 4) (fVar 9)) (fC (.int 0)))))) (fAsg (fVar 12) (gNm 13)) (fPass)) (fSeq (fAsg (fSlice (fBin opIx (fVar 1) (fC (.int 0))) (fPart (fC (.int 1))) (fNoPart)) (gNm 14)) (fSeq (fAsg (fCB bMin (fCons (fVar 13) (fCons (fCB bLen (fCons (fVar 14) (fNil))) (fNil)))) (gNm 13)) (fRet (fTup (fCons (fTup (fCons (fBin opAdd (fBin opAdd (fSlice (fVar 14) (fNoPart) (fPart (fVar 13))) (fLst (fCons (fBin opIx (fBin opIx (fVar 1) (fC (.int 0))) (fC (.int 0))) (fNil)))) (fSlice (fVar 14) (fPart (fVar 13)) (fNoPart))) (fCons (fVar 4) (fNil)))) (fCons (fVar 3) (fCons (fVar 13) (fNil))))))))))))))
def F_law_step : FF := fDef 15 b_law_step
@[reducible] def b_law_named : FS := fRet (fTup (fCons (fCB bTuple (fCons (fLc (iSeq (fBin opIx (fVar 0) (fC (.int 0)))) (gNm 1) (fYes) (fBin opIx (fVar 1) (fC (.int 0))) [1]) (fNil))) (fCons (fCB bTuple (fCons (fBin opIx (fVar 0) (fC (.int 1))) (fNil))) (fNil))))
def F_law_named : FF := fDef 2 b_law_named
@[reducible] def b_law_orbit : FS := fSeq (fAsg (fTup (fCons (fDic0) (fCons (fLst (fNil)) (fCons (fLst (fNil)) (fNil))))) (gTupl 3 (gsCons (gNm 3) (gsCons (gNm 4) (gsCons (gNm 5) (gsNil)))))) (fSeq (fWhile WFUEL (fAnd (fBl (fBin opDNotIn (fCallN 1 F_law_named (fCons (fVar 1) (fNil))) (fVar 3))) (fBl (fBin opLt (fCB bLen (fCons (fVar 4) (fNil))) (fVar 2)))) (fSeq (fAsg (fCB bLen (fCons (fVar 4) (fNil))) (gDix (fVar 3) (fCallN 1 F_law_named (fCons (fVar 1) (fNil))))) (fSeq (fExpr (fBM "list" mAppend (fVar 4) (fCons (fCallN 1 F_law_named (fCons (fVar 1) (fNil))) (fNil)))) (fSeq (fAsg (fCallN 2 F_law_step (fCons (fVar 0) (fCons (fVar 1) (fNil)))) (gTupl 3 (gsCons (gNm 1) (gsCons (gNm 6) (gsCons (gNm 7) (gsNil)))))) (fExpr (fBM "list" mAppend (fVar 5) (fCons (fVar 6) (fNil)))))))) (fRet (fTup (fCons (fVar 4) (fCons (fVar 5) (fCons (fDGet (fVar 3) (fCallN 1 F_law_named (fCons (fVar 1) (fNil)))) (fNil)))))))
def F_law_orbit : FF := fDef 8 b_law_orbit
@[reducible] def b_law_start : FS := fRet (fTup (fCons (fCB bList (fCons (fBin opIx (fVar 0) (fC (.int 1))) (fNil))) (fCons (fLst (fCons (fC (.int 0)) (fCons (fC (.int 0)) (fCons (fC (.int 0)) (fCons (fC (.int 0)) (fNil)))))) (fNil))))
def F_law_start : FF := fDef 1 b_law_start
@[reducible] def b_law_short_deck : FS := fSeq (fFor (iRange1 (fC (.int 5))) (gNm 2) (fSeq (fAsg (fCallN 2 F_law_deck (fCons (fVar 0) (fCons (fVar 1) (fNil)))) (gNm 3)) (fSeq (fAsg (fTup (fCons (fCallN 2 F_law_below (fCons (fVar 0) (fCons (fC (.int 9)) (fNil)))) (fCons (fBin opAdd (fC (.int 5)) (fCallN 2 F_law_below (fCons (fVar 0) (fCons (fC (.int 3)) (fNil))))) (fNil)))) (gTupl 2 (gsCons (gNm 4) (gsCons (gNm 5) (gsNil))))) (fSeq (fIf (fBl (fBin opEq (fVar 4) (fC (.int 0)))) (fAsg (fTup (fCons (fBin opAdd (fVar 5) (fC (.int 8))) (fCons (fLst (fCons (fTup (fCons (fC (.str "a")) (fCons (fLst (fCons (fTup (fCons (fC (.str "add")) (fCons (fC (.int 0)) (fCons (fC (.int 1)) (fNil))))) (fCons (fTup (fCons (fC (.str "emit")) (fCons (fC (.int 0)) (fCons (fC (.int 0)) (fNil))))) (fNil)))) (fCons (fTup (fCons (fC .none) (fCons (fC (.int 1)) (fCons (fC (.int 1)) (fNil))))) (fNil))))) (fCons (fTup (fCons (fC (.str "b")) (fCons (fLst (fNil)) (fCons (fTup (fCons (fC (.int 1)) (fCons (fC (.int 1)) (fCons (fC (.int 2)) (fNil))))) (fNil))))) (fNil)))) (fNil)))) (gNm 3)) (fPass)) (fSeq (fIf (fBl (fBin opEq (fVar 4) (fC (.int 1)))) (fSeq (fAsg (fLst (fCons (fTup (fCons (fC (.str "a")) (fCons (fLst (fCons (fTup (fCons (fC (.str "add")) (fCons (fC (.int 0)) (fCons (fC (.int 1)) (fNil))))) (fNil))) (fCons (fTup (fCons (fC (.int 0)) (fCons (fC (.int 1)) (fCons (fC (.int 0)) (fNil))))) (fNil))))) (fCons (fTup (fCons (fC (.str "b")) (fCons (fLst (fCons (fTup (fCons (fC (.str "add")) (fCons (fC (.int 1)) (fCons (fC (.int 1)) (fNil))))) (fNil))) (fCons (fTup (fCons (fC (.int 1)) (fCons (fC (.int 2)) (fCons (fC (.int 1)) (fNil))))) (fNil))))) (fNil)))) (gNm 6)) (fAsg (fTup (fCons (fVar 5) (fCons (fBin opAdd (fVar 6) (fLst (fCons (fTup (fCons (fC (.str "c")) (fCons (fLst (fCons (fTup (fCons (fC (.str "emit")) (fCons (fC .none) (fCons (fC (.int 1)) (fNil))))) (fNil))) (fCons (fTup (fCons (fC .none) (fCons (fC (.int 2)) (fCons (fC (.int 2)) (fNil))))) (fNil))))) (fNil)))) (fNil)))) (gNm 3))) (fPass)) (fSeq (fAsg (fCallN 3 F_law_orbit (fCons (fVar 3) (fCons (fCallN 1 F_law_start (fCons (fVar 3) (fNil))) (fCons (fC (.int 90)) (fNil))))) (gNm 7)) (fIf (fBl (fBin opNotN (fBin opIx (fVar 7) (fC (.int 2))) (fC .none))) (fRet (fTup (fCons (fVar 3) (fCons (fVar 7) (fNil))))) (fPass)))))))) (fSeq (fAsg (fTup (fCons (fC (.int 3)) (fCons (fLst (fCons (fTup (fCons (fC (.str "a")) (fCons (fLst (fCons (fTup (fCons (fC (.str "add")) (fCons (fC (.int 0)) (fCons (fC (.int 1)) (fNil))))) (fCons (fTup (fCons (fC (.str "emit")) (fCons (fC (.int 0)) (fCons (fC (.int 0)) (fNil))))) (fNil)))) (fCons (fTup (fCons (fC .none) (fCons (fC (.int 1)) (fCons (fC (.int 1)) (fNil))))) (fNil))))) (fCons (fTup (fCons (fC (.str "b")) (fCons (fLst (fNil)) (fCons (fTup (fCons (fC (.int 0)) (fCons (fC (.int 0)) (fCons (fC .none) (fNil))))) (fNil))))) (fNil)))) (fNil)))) (gNm 3)) (fRet (fTup (fCons (fVar 3) (fCons (fCallN 3 F_law_orbit (fCons (fVar 3) (fCons (fCallN 1 F_law_start (fCons (fVar 3) (fNil))) (fCons (fC (.int 90)) (fNil))))) (fNil))))))
def F_law_short_deck : FF := fDef 8 b_law_short_deck
@[reducible] def b_Orbit_index : FS := fSeq (fIf (fBl (fBin opLt (fVar 1) (fCB bLen (fCons (fFld "Orbit" "states" (fVar 0)) (fNil))))) (fRet (fVar 1)) (fPass)) (fRet (fBin opAdd (fFld "Orbit" "start" (fVar 0)) (fBin opMod (fBin opSub (fVar 1) (fFld "Orbit" "start" (fVar 0))) (fBin opSub (fCB bLen (fCons (fFld "Orbit" "states" (fVar 0)) (fNil))) (fFld "Orbit" "start" (fVar 0))))))
def F_Orbit_index : FF := fDef 2 b_Orbit_index
@[reducible] def b_acted : FS := fSeq (fAsg (fTup (fCons (fBin opIx (fVar 0) (fC (.int 0))) (fCons (fCB bList (fCons (fVar 2) (fNil))) (fCons (fLst (fNil)) (fNil))))) (gTupl 3 (gsCons (gNm 3) (gsCons (gNm 4) (gsCons (gNm 5) (gsNil)))))) (fSeq (fFor (iSeq (fVar 1)) (gNm 6) (fMatch (fVar 6) [([.s "add", .cap 7, .cap 8], fAsg (fBin opMod (fBin opAdd (fBin opIx (fVar 4) (fVar 7)) (fVar 8)) (fVar 3)) (gIx (fVar 4) (fVar 7))), ([.s "copy", .cap 7, .cap 9], fAsg (fBin opIx (fVar 4) (fVar 9)) (gIx (fVar 4) (fVar 7))), ([.s "swap", .cap 7, .cap 9], fAsg (fTup (fCons (fBin opIx (fVar 4) (fVar 9)) (fCons (fBin opIx (fVar 4) (fVar 7)) (fNil)))) (gTupl 2 (gsCons (gIx (fVar 4) (fVar 7)) (gsCons (gIx (fVar 4) (fVar 9)) (gsNil))))), ([.s "emit", .non, .cap 8], fExpr (fBM "list" mAppend (fVar 5) (fCons (fVar 8) (fNil)))), ([.s "emit", .cap 7, .any], fExpr (fBM "list" mAppend (fVar 5) (fCons (fBin opIx (fVar 4) (fVar 7)) (fNil))))])) (fRet (fTup (fCons (fCB bTuple (fCons (fVar 4) (fNil))) (fCons (fVar 5) (fNil))))))
def F_acted : FF := fDef 10 b_acted
@[reducible] def b_depth_of : FS := fSeq (fAsg (fVar 0) (gTupl 3 (gsCons (gNm 3) (gsCons (gNm 4) (gsCons (gNm 5) (gsNil)))))) (fSeq (fAsg (fVar 4) (gNm 6)) (fSeq (fIf (fAnd (fBl (fBin opNotN (fVar 3) (fC .none))) (fBl (fBin opIsN (fVar 5) (fC .none)))) (fAsg (fBin opIx (fVar 1) (fVar 3)) (gNm 6)) (fIf (fAnd (fBl (fBin opNotN (fVar 3) (fC .none))) (fBl (fBin opNe (fBin opIx (fVar 1) (fVar 3)) (fC (.int 0))))) (fAsg (fVar 5) (gNm 6)) (fPass))) (fRet (fCB bMin (fCons (fVar 6) (fCons (fVar 2) (fNil)))))))
def F_depth_of : FF := fDef 7 b_depth_of
@[reducible] def b_after_step : FS := fSeq (fAsg (fVar 1) (gTupl 2 (gsCons (gNm 2) (gsCons (gNm 3) (gsNil))))) (fSeq (fAsg (fBin opIx (fBin opIx (fVar 0) (fC (.int 1))) (fBin opIx (fVar 2) (fC (.int 0)))) (gTupl 3 (gsCons (gNm 4) (gsCons (gNm 5) (gsCons (gNm 6) (gsNil)))))) (fSeq (fAsg (fCallN 3 F_acted (fCons (fVar 0) (fCons (fVar 5) (fCons (fVar 3) (fNil))))) (gTupl 2 (gsCons (gNm 3) (gsCons (gNm 7) (gsNil))))) (fSeq (fAsg (fCallN 3 F_depth_of (fCons (fVar 6) (fCons (fVar 3) (fCons (fBin opSub (fCB bLen (fCons (fVar 2) (fNil))) (fC (.int 1))) (fNil))))) (gNm 8)) (fRet (fTup (fCons (fTup (fCons (fBin opAdd (fBin opAdd (fSlice (fVar 2) (fPart (fC (.int 1))) (fPart (fBin opAdd (fVar 8) (fC (.int 1))))) (fSlice (fVar 2) (fNoPart) (fPart (fC (.int 1))))) (fSlice (fVar 2) (fPart (fBin opAdd (fVar 8) (fC (.int 1)))) (fNoPart))) (fCons (fVar 3) (fNil)))) (fCons (fVar 7) (fCons (fVar 8) (fNil)))))))))
def F_after_step : FF := fDef 9 b_after_step
@[reducible] def b_Orbit_init : FS := fSeq (fSetFld "Orbit" "states" (fVar 0) (fLst (fNil))) (fSeq (fSetFld "Orbit" "emitted" (fVar 0) (fLst (fNil))) (fSeq (fSetFld "Orbit" "start" (fVar 0) (fC .none)) (fSeq (fAsg (fDic0) (gNm 4)) (fSeq (fWhile WFUEL (fAnd (fBl (fBin opDNotIn (fVar 2) (fVar 4))) (fBl (fBin opLt (fCB bLen (fCons (fFld "Orbit" "states" (fVar 0)) (fNil))) (fVar 3)))) (fSeq (fAsg (fCB bLen (fCons (fFld "Orbit" "states" (fVar 0)) (fNil))) (gDix (fVar 4) (fVar 2))) (fSeq (fExpr (fBM "list" mAppend (fFld "Orbit" "states" (fVar 0)) (fCons (fVar 2) (fNil)))) (fSeq (fAsg (fCallN 2 F_after_step (fCons (fVar 1) (fCons (fVar 2) (fNil)))) (gTupl 3 (gsCons (gNm 2) (gsCons (gNm 5) (gsCons (gNm 6) (gsNil)))))) (fExpr (fBM "list" mAppend (fFld "Orbit" "emitted" (fVar 0)) (fCons (fVar 5) (fNil)))))))) (fSeq (fSetFld "Orbit" "last" (fVar 0) (fVar 2)) (fSetFld "Orbit" "start" (fVar 0) (fDGet (fVar 4) (fVar 2))))))))
def F_Orbit_init : FF := fDef 7 b_Orbit_init
@[reducible] def b_orbit_of : FS := fSeq (fAsg (fMake "Orbit" 4 F_Orbit_init (fCons (fVar 0) (fCons (fVar 1) (fCons (fC (.int 3000)) (fNil))))) (gNm 2)) (fSeq (fIf (fBl (fBin opIsN (fFld "Orbit" "start" (fVar 2)) (fC .none))) (fRaiseT "TooLong") (fPass)) (fRet (fVar 2)))
def F_orbit_of : FF := fDef 3 b_orbit_of
@[reducible] def b_initial_state : FS := fRet (fTup (fCons (fTupRg (fCB bLen (fCons (fBin opIx (fVar 0) (fC (.int 1))) (fNil)))) (fCons (fC (.tup (([0, 0, 0, 0] : List Int).map .int))) (fNil))))
def F_initial_state : FF := fDef 1 b_initial_state
@[reducible] def b_is_state : FS := fSeq (fIf (fOr (fNot (fTru (fIsi "tuple" (fVar 1)))) (fOr (fBl (fBin opNe (fCB bLen (fCons (fVar 1) (fNil))) (fC (.int 2)))) (fNot (fTru (fIsi "tuple" (fBin opIx (fVar 1) (fC (.int 0)))))))) (fRet (fC (.bool false))) (fPass)) (fSeq (fAsg (fLc (iSeq (fBin opIx (fVar 0) (fC (.int 1)))) (gNm 3) (fYes) (fBin opIx (fVar 3) (fC (.int 0))) [3]) (gNm 2)) (fSeq (fIf (fOr (fBl (fBin opNe (fCB bLen (fCons (fBin opIx (fVar 1) (fC (.int 0))) (fNil))) (fCB bLen (fCons (fVar 2) (fNil))))) (fNot (fTru (fCB bAll (fCons (fLc (iSeq (fVar 2)) (gNm 5) (fYes) (fBin opIn (fVar 5) (fBin opIx (fVar 1) (fC (.int 0)))) [5]) (fNil)))))) (fRet (fC (.bool false))) (fPass)) (fSeq (fIf (fOr (fNot (fTru (fIsi "tuple" (fBin opIx (fVar 1) (fC (.int 1)))))) (fBl (fBin opNe (fCB bLen (fCons (fBin opIx (fVar 1) (fC (.int 1))) (fNil))) (fCB bLen (fCons (fC (.tup ((["p", "q", "r", "s"] : List Str).map .str))) (fNil)))))) (fRet (fC (.bool false))) (fPass)) (fRet (fCB bAll (fCons (fLc (iSeq (fBin opIx (fVar 1) (fC (.int 1)))) (gNm 4) (fYes) (fCallN 3 F_is_int_in (fCons (fVar 4) (fCons (fC (.int 0)) (fCons (fBin opSub (fBin opIx (fVar 0) (fC (.int 0))) (fC (.int 1))) (fNil))))) [4]) (fNil)))))))
def F_is_state : FF := fDef 6 b_is_state
@[reducible] def b_read_state : FS := fSeq (fIf (fBl (fBin opIsN (fVar 1) (fC .none))) (fRet (fCallN 1 F_initial_state (fCons (fVar 0) (fNil)))) (fPass)) (fSeq (fIf (fNot (fTru (fCallN 2 F_is_state (fCons (fVar 0) (fCons (fVar 1) (fNil)))))) (fRaiseT "InvalidState") (fPass)) (fSeq (fAsg (fLc (iSeq (fBin opIx (fVar 0) (fC (.int 1)))) (gNm 3) (fYes) (fBin opIx (fVar 3) (fC (.int 0))) [3]) (gNm 2)) (fRet (fTup (fCons (fCB bTuple (fCons (fLc (iSeq (fBin opIx (fVar 1) (fC (.int 0)))) (gNm 4) (fYes) (fBM "list" mIndex (fVar 2) (fCons (fVar 4) (fNil))) [4]) (fNil))) (fCons (fBin opIx (fVar 1) (fC (.int 1))) (fNil)))))))
def F_read_state : FF := fDef 5 b_read_state
@[reducible] def b_idle_cards : FS := fSeq (fAsg (fCallN 1 F_load (fCons (fVar 0) (fNil))) (gNm 2)) (fSeq (fAsg (fCallN 2 F_orbit_of (fCons (fVar 2) (fCons (fCallN 2 F_read_state (fCons (fVar 2) (fCons (fVar 1) (fNil)))) (fNil)))) (gNm 3)) (fSeq (fAsg (fLc (iSeq (fFld "Orbit" "states" (fVar 3))) (gNm 5) (fYes) (fBin opIx (fBin opIx (fVar 5) (fC (.int 0))) (fC (.int 0))) [5]) (gNm 4)) (fRet (fLc (iEnumT (fBin opIx (fVar 2) (fC (.int 1)))) (gTupl 2 (gsCons (gNm 6) (gsCons (gNm 7) (gsNil)))) (fBl (fBin opNotIn (fVar 6) (fVar 4))) (fBin opIx (fVar 7) (fC (.int 0))) [6, 7]))))
def F_idle_cards : FF := fDef 8 b_idle_cards
@[reducible] def b_find_cycle : FS := fSeq (fAsg (fCallN 1 F_load (fCons (fVar 0) (fNil))) (gNm 2)) (fSeq (fAsg (fCallN 2 F_orbit_of (fCons (fVar 2) (fCons (fCallN 2 F_read_state (fCons (fVar 2) (fCons (fVar 1) (fNil)))) (fNil)))) (gNm 3)) (fRet (fTup (fCons (fFld "Orbit" "start" (fVar 3)) (fCons (fBin opSub (fCB bLen (fCons (fFld "Orbit" "states" (fVar 3)) (fNil))) (fFld "Orbit" "start" (fVar 3))) (fNil))))))
def F_find_cycle : FF := fDef 4 b_find_cycle
@[reducible] def b_check_count : FS := fIf (fNot (fTru (fCallN 3 F_is_int_in (fCons (fVar 0) (fCons (fC (.int 0)) (fCons (fVar 1) (fNil))))))) (fRaiseT "InvalidCount") (fPass)
def F_check_count : FF := fDef 2 b_check_count
@[reducible] def b_named_state : FS := fRet (fTup (fCons (fCB bTuple (fCons (fLc (iSeq (fBin opIx (fVar 1) (fC (.int 0)))) (gNm 2) (fYes) (fBin opIx (fBin opIx (fBin opIx (fVar 0) (fC (.int 1))) (fVar 2)) (fC (.int 0))) [2]) (fNil))) (fCons (fBin opIx (fVar 1) (fC (.int 1))) (fNil))))
def F_named_state : FF := fDef 3 b_named_state
@[reducible] def b_state_after : FS := fSeq (fAsg (fCallN 1 F_load (fCons (fVar 0) (fNil))) (gNm 3)) (fSeq (fExpr (fCallN 2 F_check_count (fCons (fVar 1) (fCons (fC (.int 1000000000000000000)) (fNil))))) (fSeq (fAsg (fCallN 2 F_read_state (fCons (fVar 3) (fCons (fVar 2) (fNil)))) (gNm 4)) (fSeq (fAsg (fMake "Orbit" 4 F_Orbit_init (fCons (fVar 3) (fCons (fVar 4) (fCons (fCB bMin (fCons (fVar 1) (fCons (fC (.int 3000)) (fNil)))) (fNil))))) (gNm 5)) (fSeq (fIf (fAnd (fBl (fBin opIsN (fFld "Orbit" "start" (fVar 5)) (fC .none))) (fBl (fBin opEq (fVar 1) (fCB bLen (fCons (fFld "Orbit" "states" (fVar 5)) (fNil)))))) (fRet (fCallN 2 F_named_state (fCons (fVar 3) (fCons (fFld "Orbit" "last" (fVar 5)) (fNil))))) (fPass)) (fSeq (fAsg (fCallN 2 F_orbit_of (fCons (fVar 3) (fCons (fVar 4) (fNil)))) (gNm 5)) (fRet (fCallN 2 F_named_state (fCons (fVar 3) (fCons (fBin opIx (fFld "Orbit" "states" (fVar 5)) (fMeth "Orbit" "index" 2 F_Orbit_index (fVar 5) (fCons (fVar 1) (fNil)))) (fNil))))))))))
def F_state_after : FF := fDef 6 b_state_after
@[reducible] def b_law_k05 : FS := fSeq (fAsg (fCallN 2 F_law_random (fCons (fVar 0) (fCons (fC (.int 5)) (fNil)))) (gNm 1)) (fSeq (fFor (iRange1 (fC (.int 3))) (gNm 2) (fSeq (fAsg (fCallN 2 F_law_short_deck (fCons (fVar 1) (fCons (fC (.int 5)) (fNil)))) (gTupl 2 (gsCons (gNm 3) (gsCons (gNm 4) (gsNil))))) (fSeq (fAsg (fTup (fCons (fCallN 1 F_law_text (fCons (fVar 3) (fNil))) (fCons (fBin opSub (fCB bLen (fCons (fBin opIx (fVar 4) (fC (.int 0))) (fNil))) (fBin opIx (fVar 4) (fC (.int 2)))) (fNil)))) (gTupl 2 (gsCons (gNm 5) (gsCons (gNm 6) (gsNil))))) (fSeq (fIf (fNot (fTru (fCallN 2 (F_law_equal 8) (fCons (fCallD 2 F_find_cycle (fCons (fVar 5) (fNil))) (fCons (fTup (fCons (fBin opIx (fVar 4) (fC (.int 2))) (fCons (fVar 6) (fNil)))) (fNil)))))) (fRet (fC (.bool false))) (fPass)) (fSeq (fAsg (fBin opIx (fLst (fCons (fCallN 2 F_law_below (fCons (fVar 1) (fCons (fC (.int 400)) (fNil)))) (fCons (fBin opPow (fC (.int 10)) (fC (.int 18))) (fCons (fBin opSub (fBin opPow (fC (.int 10)) (fC (.int 18))) (fCallN 2 F_law_below (fCons (fVar 1) (fCons (fBin opPow (fC (.int 10)) (fC (.int 9))) (fNil))))) (fNil))))) (fCallN 2 F_law_below (fCons (fVar 1) (fCons (fC (.int 3)) (fNil))))) (gNm 7)) (fSeq (fAsg (fIfE (fBl (fBin opLt (fVar 7) (fBin opIx (fVar 4) (fC (.int 2))))) (fVar 7) (fBin opAdd (fBin opIx (fVar 4) (fC (.int 2))) (fBin opMod (fBin opSub (fVar 7) (fBin opIx (fVar 4) (fC (.int 2)))) (fVar 6)))) (gNm 8)) (fSeq (fIf (fNot (fTru (fCallN 2 (F_law_equal 8) (fCons (fCallD 3 F_state_after (fCons (fVar 5) (fCons (fVar 7) (fNil)))) (fCons (fBin opIx (fBin opIx (fVar 4) (fC (.int 0))) (fVar 8)) (fNil)))))) (fRet (fC (.bool false))) (fPass)) (fSeq (fAsg (fLc (iSeq (fBin opIx (fVar 4) (fC (.int 0)))) (gNm 13) (fYes) (fBin opIx (fBin opIx (fVar 13) (fC (.int 0))) (fC (.int 0))) [13]) (gNm 9)) (fSeq (fAsg (fLc (iSeq (fBin opIx (fVar 3) (fC (.int 1)))) (gNm 14) (fBl (fBin opNotIn (fBin opIx (fVar 14) (fC (.int 0))) (fVar 9))) (fBin opIx (fVar 14) (fC (.int 0))) [14]) (gNm 10)) (fSeq (fAsg (fCallD 2 F_idle_cards (fCons (fVar 5) (fNil))) (gNm 11)) (fSeq (fIf (fNot (fTru (fCallN 2 (F_law_equal 8) (fCons (fVar 11) (fCons (fVar 10) (fNil)))))) (fRet (fC (.bool false))) (fPass)) (fSeq (fExpr (fBM "list" mAppend (fVar 11) (fCons (fC (.int 0)) (fNil)))) (fSeq (fAsg (fBin opIx (fBin opIx (fVar 4) (fC (.int 0))) (fBin opAdd (fBin opIx (fVar 4) (fC (.int 2))) (fCallN 2 F_law_below (fCons (fVar 1) (fCons (fVar 6) (fNil)))))) (gNm 12)) (fIf (fNot (fTru (fCallN 2 (F_law_equal 8) (fCons (fCallK 2 F_find_cycle (fCons (fVar 5) (fNil)) (fVar 12)) (fCons (fTup (fCons (fC (.int 0)) (fCons (fVar 6) (fNil)))) (fNil)))))) (fRet (fC (.bool false))) (fPass))))))))))))))) (fRet (fC (.bool true))))
def F_law_k05 : FF := fDef 15 b_law_k05
@[reducible] def b_law_output : FS := fSeq (fAsg (fTup (fCons (fLst (fNil)) (fCons (fC (.int 0)) (fNil)))) (gTupl 2 (gsCons (gNm 3) (gsCons (gNm 4) (gsNil))))) (fSeq (fAsg (fBin opEq (fCB bSum (fCons (fLc (iSeq (fSlice (fVar 0) (fPart (fVar 1)) (fNoPart))) (gNm 6) (fYes) (fCB bLen (fCons (fVar 6) (fNil))) [6]) (fNil))) (fC (.int 0))) (gNm 5)) (fSeq (fWhile WFUEL (fAnd (fBl (fBin opLt (fCB bLen (fCons (fVar 3) (fNil))) (fVar 2))) (fNot (fAnd (fTru (fVar 5)) (fBl (fBin opEq (fVar 4) (fCB bLen (fCons (fVar 0) (fNil)))))))) (fSeq (fAsg (fBin opAdd (fVar 3) (fBin opIx (fVar 0) (fVar 4))) (gNm 3)) (fSeq (fAsg (fBin opAdd (fVar 4) (fC (.int 1))) (gNm 4)) (fIf (fAnd (fBl (fBin opEq (fVar 4) (fCB bLen (fCons (fVar 0) (fNil))))) (fNot (fTru (fVar 5)))) (fAsg (fVar 1) (gNm 4)) (fPass))))) (fRet (fSlice (fVar 3) (fNoPart) (fPart (fVar 2))))))
def F_law_output : FF := fDef 7 b_law_output
@[reducible] def b_Output_init : FS := fSeq (fSetFld "Output" "events" (fVar 0) (fLst (fNil))) (fSeq (fFor (iEnumL (fFld "Orbit" "emitted" (fVar 1))) (gTupl 2 (gsCons (gNm 2) (gsCons (gNm 3) (gsNil)))) (fExpr (fBM "list" mExtend (fFld "Output" "events" (fVar 0)) (fCons (fLc (iSeq (fVar 3)) (gNm 5) (fYes) (fTup (fCons (fVar 2) (fCons (fVar 5) (fNil)))) [5]) (fNil))))) (fSeq (fSetFld "Output" "again" (fVar 0) (fLc (iSeq (fFld "Output" "events" (fVar 0))) (gNm 4) (fBl (fBin opGe (fBin opIx (fVar 4) (fC (.int 0))) (fFld "Orbit" "start" (fVar 1)))) (fVar 4) [4])) (fSetFld "Output" "length" (fVar 0) (fBin opSub (fCB bLen (fCons (fFld "Orbit" "states" (fVar 1)) (fNil))) (fFld "Orbit" "start" (fVar 1))))))
def F_Output_init : FF := fDef 6 b_Output_init
@[reducible] def b_Output_event : FS := fSeq (fIf (fBl (fBin opLt (fVar 1) (fCB bLen (fCons (fFld "Output" "events" (fVar 0)) (fNil))))) (fRet (fBin opIx (fFld "Output" "events" (fVar 0)) (fVar 1))) (fPass)) (fSeq (fIf (fBl (fBin opEq (fFld "Output" "again" (fVar 0)) (fLst (fNil)))) (fRet (fC .none)) (fPass)) (fSeq (fAsg (fCB bDivmod (fCons (fBin opSub (fVar 1) (fBin opSub (fCB bLen (fCons (fFld "Output" "events" (fVar 0)) (fNil))) (fCB bLen (fCons (fFld "Output" "again" (fVar 0)) (fNil))))) (fCons (fCB bLen (fCons (fFld "Output" "again" (fVar 0)) (fNil))) (fNil)))) (gTupl 2 (gsCons (gNm 2) (gsCons (gNm 3) (gsNil))))) (fSeq (fAsg (fBin opIx (fFld "Output" "again" (fVar 0)) (fVar 3)) (gTupl 2 (gsCons (gNm 4) (gsCons (gNm 5) (gsNil))))) (fRet (fTup (fCons (fBin opAdd (fVar 4) (fBin opMul (fVar 2) (fFld "Output" "length" (fVar 0)))) (fCons (fVar 5) (fNil))))))))
def F_Output_event : FF := fDef 6 b_Output_event
@[reducible] def b_Output_value : FS := fSeq (fAsg (fMeth "Output" "event" 2 F_Output_event (fVar 0) (fCons (fVar 1) (fNil))) (gNm 2)) (fRet (fIfE (fBl (fBin opNotN (fVar 2) (fC .none))) (fBin opIx (fVar 2) (fC (.int 1))) (fC .none)))
def F_Output_value : FF := fDef 3 b_Output_value
@[reducible] def b_first_emitted : FS := fSeq (fAsg (fCallN 1 F_load (fCons (fVar 0) (fNil))) (gNm 3)) (fSeq (fExpr (fCallN 2 F_check_count (fCons (fVar 1) (fCons (fC (.int 500)) (fNil))))) (fSeq (fAsg (fMake "Output" 2 F_Output_init (fCons (fCallN 2 F_orbit_of (fCons (fVar 3) (fCons (fCallN 2 F_read_state (fCons (fVar 3) (fCons (fVar 2) (fNil)))) (fNil)))) (fNil))) (gNm 4)) (fSeq (fAsg (fLc (iRange1 (fVar 1)) (gNm 6) (fYes) (fMeth "Output" "value" 2 F_Output_value (fVar 4) (fCons (fVar 6) (fNil))) [6]) (gNm 5)) (fRet (fLc (iSeq (fVar 5)) (gNm 7) (fBl (fBin opNotN (fVar 7) (fC .none))) (fVar 7) [7])))))
def F_first_emitted : FF := fDef 8 b_first_emitted
@[reducible] def b_nth_emitted : FS := fSeq (fAsg (fCallN 1 F_load (fCons (fVar 0) (fNil))) (gNm 3)) (fSeq (fExpr (fCallN 2 F_check_count (fCons (fVar 1) (fCons (fC (.int 1000000000000000000)) (fNil))))) (fRet (fMeth "Output" "event" 2 F_Output_event (fMake "Output" 2 F_Output_init (fCons (fCallN 2 F_orbit_of (fCons (fVar 3) (fCons (fCallN 2 F_read_state (fCons (fVar 3) (fCons (fVar 2) (fNil)))) (fNil)))) (fNil))) (fCons (fVar 1) (fNil)))))
def F_nth_emitted : FF := fDef 4 b_nth_emitted
@[reducible] def b_long_orbit : FS := fSeq (fAsg (fMake "Orbit" 4 F_Orbit_init (fCons (fVar 0) (fCons (fVar 1) (fCons (fCB bMin (fCons (fVar 2) (fCons (fC (.int 3000)) (fNil)))) (fNil))))) (gNm 3)) (fSeq (fIf (fAnd (fBl (fBin opIsN (fFld "Orbit" "start" (fVar 3)) (fC .none))) (fBl (fBin opGt (fVar 2) (fCB bLen (fCons (fFld "Orbit" "states" (fVar 3)) (fNil)))))) (fRaiseT "TooLong") (fPass)) (fRet (fVar 3)))
def F_long_orbit : FF := fDef 4 b_long_orbit
@[reducible] def b_count_with : FS := fSeq (fIf (fBl (fBin opLe (fVar 2) (fCB bLen (fCons (fVar 1) (fNil))))) (fRet (fCB bSum (fCons (fSlice (fVar 1) (fNoPart) (fPart (fVar 2))) (fNil)))) (fPass)) (fSeq (fAsg (fBin opSub (fCB bLen (fCons (fVar 1) (fNil))) (fFld "Orbit" "start" (fVar 0))) (gNm 3)) (fSeq (fAsg (fCB bDivmod (fCons (fBin opSub (fVar 2) (fFld "Orbit" "start" (fVar 0))) (fCons (fVar 3) (fNil)))) (gTupl 2 (gsCons (gNm 4) (gsCons (gNm 5) (gsNil))))) (fSeq (fAsg (fTup (fCons (fCB bSum (fCons (fSlice (fVar 1) (fNoPart) (fPart (fFld "Orbit" "start" (fVar 0)))) (fNil))) (fCons (fSlice (fVar 1) (fPart (fFld "Orbit" "start" (fVar 0))) (fNoPart)) (fNil)))) (gTupl 2 (gsCons (gNm 6) (gsCons (gNm 7) (gsNil))))) (fRet (fBin opAdd (fBin opAdd (fVar 6) (fBin opMul (fVar 4) (fCB bSum (fCons (fVar 7) (fNil))))) (fCB bSum (fCons (fSlice (fVar 7) (fNoPart) (fPart (fVar 5))) (fNil))))))))
def F_count_with : FF := fDef 8 b_count_with
@[reducible] def b_count_emitted : FS := fSeq (fAsg (fCallN 1 F_load (fCons (fVar 0) (fNil))) (gNm 3)) (fSeq (fExpr (fCallN 2 F_check_count (fCons (fVar 1) (fCons (fC (.int 1000000000000000000)) (fNil))))) (fSeq (fAsg (fCallN 3 F_long_orbit (fCons (fVar 3) (fCons (fCallN 2 F_read_state (fCons (fVar 3) (fCons (fVar 2) (fNil)))) (fCons (fVar 1) (fNil))))) (gNm 4)) (fRet (fCallN 3 F_count_with (fCons (fVar 4) (fCons (fLc (iSeq (fFld "Orbit" "emitted" (fVar 4))) (gNm 5) (fYes) (fCB bLen (fCons (fVar 5) (fNil))) [5]) (fCons (fVar 1) (fNil))))))))
def F_count_emitted : FF := fDef 6 b_count_emitted
@[reducible] def b_card_number : FS := fSeq (fFor (iEnumT (fBin opIx (fVar 0) (fC (.int 1)))) (gTupl 2 (gsCons (gNm 2) (gsCons (gNm 3) (gsNil)))) (fIf (fAnd (fTru (fIsi "str" (fVar 1))) (fBl (fBin opEq (fBin opIx (fVar 3) (fC (.int 0))) (fVar 1)))) (fRet (fVar 2)) (fPass))) (fRaiseT "UnknownCard")
def F_card_number : FF := fDef 4 b_card_number
@[reducible] def b_count_acts : FS := fSeq (fAsg (fCallN 1 F_load (fCons (fVar 0) (fNil))) (gNm 4)) (fSeq (fAsg (fCallN 2 F_card_number (fCons (fVar 4) (fCons (fVar 1) (fNil)))) (gNm 5)) (fSeq (fExpr (fCallN 2 F_check_count (fCons (fVar 2) (fCons (fC (.int 1000000000000000000)) (fNil))))) (fSeq (fAsg (fCallN 3 F_long_orbit (fCons (fVar 4) (fCons (fCallN 2 F_read_state (fCons (fVar 4) (fCons (fVar 3) (fNil)))) (fCons (fVar 2) (fNil))))) (gNm 6)) (fRet (fCallN 3 F_count_with (fCons (fVar 6) (fCons (fLc (iSeq (fFld "Orbit" "states" (fVar 6))) (gNm 7) (fYes) (fCB bInt (fCons (fBin opEq (fBin opIx (fBin opIx (fVar 7) (fC (.int 0))) (fC (.int 0))) (fVar 5)) (fNil))) [7]) (fCons (fVar 2) (fNil)))))))))
def F_count_acts : FF := fDef 8 b_count_acts
@[reducible] def b_law_is_event : FS := fSeq (fAsg (fCallD 3 F_count_emitted (fCons (fVar 0) (fCons (fBin opIx (fVar 3) (fC (.int 0))) (fNil)))) (gNm 4)) (fSeq (fAsg (fBin opIx (fVar 3) (fC (.int 0))) (gNm 5)) (fSeq (fIf (fBl (fBin opGe (fVar 5) (fCB bLen (fCons (fBin opIx (fVar 1) (fC (.int 0))) (fNil))))) (fAsg (fBin opAdd (fBin opIx (fVar 1) (fC (.int 2))) (fBin opMod (fBin opSub (fVar 5) (fBin opIx (fVar 1) (fC (.int 2)))) (fBin opSub (fCB bLen (fCons (fBin opIx (fVar 1) (fC (.int 0))) (fNil))) (fBin opIx (fVar 1) (fC (.int 2)))))) (gNm 5)) (fPass)) (fRet (fAndV (fBin opLe (fVar 4) (fVar 2)) (fCallN 2 (F_law_equal 8) (fCons (fBin opIx (fBin opIx (fBin opIx (fVar 1) (fC (.int 1))) (fVar 5)) (fBin opSub (fVar 2) (fVar 4))) (fCons (fBin opIx (fVar 3) (fC (.int 1))) (fNil))))))))
def F_law_is_event : FF := fDef 6 b_law_is_event
@[reducible] def b_law_k06 : FS := fSeq (fAsg (fCallN 2 F_law_random (fCons (fVar 0) (fCons (fC (.int 6)) (fNil)))) (gNm 1)) (fSeq (fFor (iRange1 (fC (.int 3))) (gNm 2) (fSeq (fAsg (fCallN 2 F_law_short_deck (fCons (fVar 1) (fCons (fC (.int 5)) (fNil)))) (gTupl 2 (gsCons (gNm 3) (gsCons (gNm 4) (gsNil))))) (fSeq (fAsg (fTup (fCons (fCallN 1 F_law_text (fCons (fVar 3) (fNil))) (fCons (fBin opIx (fVar 4) (fC (.int 2))) (fNil)))) (gTupl 2 (gsCons (gNm 5) (gsCons (gNm 6) (gsNil))))) (fSeq (fAsg (fBin opSub (fCB bLen (fCons (fBin opIx (fVar 4) (fC (.int 0))) (fNil))) (fVar 6)) (gNm 7)) (fSeq (fAsg (fBin opIx (fLst (fCons (fCallN 2 F_law_below (fCons (fVar 1) (fCons (fC (.int 300)) (fNil)))) (fCons (fBin opPow (fC (.int 10)) (fC (.int 18))) (fCons (fBin opSub (fBin opPow (fC (.int 10)) (fC (.int 18))) (fCallN 2 F_law_below (fCons (fVar 1) (fCons (fBin opPow (fC (.int 10)) (fC (.int 9))) (fNil))))) (fNil))))) (fCallN 2 F_law_below (fCons (fVar 1) (fCons (fC (.int 3)) (fNil))))) (gNm 8)) (fSeq (fAsg (fTup (fCons (fC (.int 0)) (fCons (fVar 8) (fNil)))) (gTupl 2 (gsCons (gNm 9) (gsCons (gNm 10) (gsNil))))) (fSeq (fIf (fBl (fBin opGt (fVar 8) (fBin opAdd (fVar 6) (fVar 7)))) (fSeq (fAsg (fBin opSub (fBin opDiv (fBin opSub (fVar 8) (fVar 6)) (fVar 7)) (fC (.int 1))) (gNm 9)) (fAsg (fBin opSub (fVar 8) (fBin opMul (fVar 9) (fVar 7))) (gNm 10))) (fPass)) (fSeq (fAsg (fBin opAdd (fLstRg (fCB bLen (fCons (fBin opIx (fVar 4) (fC (.int 0))) (fNil)))) (fLc (iRange1 (fVar 7)) (gNm 22) (fYes) (fBin opAdd (fVar 6) (fVar 22)) [22])) (gNm 11)) (fSeq (fAsg (fLc (iSeq (fVar 11)) (gNm 21) (fYes) (fCB bLen (fCons (fBin opIx (fBin opIx (fVar 4) (fC (.int 1))) (fVar 21)) (fNil))) [21]) (gNm 12)) (fSeq (fAsg (fCB bSum (fCons (fSlice (fVar 12) (fPart (fVar 6)) (fPart (fBin opAdd (fVar 6) (fVar 7)))) (fNil))) (gNm 13)) (fSeq (fIf (fNot (fTru (fCallN 2 (F_law_equal 8) (fCons (fCallD 3 F_count_emitted (fCons (fVar 5) (fCons (fVar 8) (fNil)))) (fCons (fBin opAdd (fCB bSum (fCons (fSlice (fVar 12) (fNoPart) (fPart (fVar 10))) (fNil))) (fBin opMul (fVar 9) (fVar 13))) (fNil)))))) (fRet (fC (.bool false))) (fPass)) (fSeq (fAsg (fBin opIx (fBin opIx (fBin opIx (fVar 3) (fC (.int 1))) (fCallN 2 F_law_below (fCons (fVar 1) (fCons (fCB bLen (fCons (fBin opIx (fVar 3) (fC (.int 1))) (fNil))) (fNil))))) (fC (.int 0))) (gNm 14)) (fSeq (fAsg (fLc (iSeq (fVar 11)) (gNm 21) (fYes) (fCB bInt (fCons (fBin opEq (fBin opIx (fBin opIx (fBin opIx (fBin opIx (fVar 4) (fC (.int 0))) (fVar 21)) (fC (.int 0))) (fC (.int 0))) (fVar 14)) (fNil))) [21]) (gNm 15)) (fSeq (fAsg (fCB bSum (fCons (fSlice (fVar 15) (fPart (fVar 6)) (fPart (fBin opAdd (fVar 6) (fVar 7)))) (fNil))) (gNm 13)) (fSeq (fAsg (fBin opAdd (fCB bSum (fCons (fSlice (fVar 15) (fNoPart) (fPart (fVar 10))) (fNil))) (fBin opMul (fVar 9) (fVar 13))) (gNm 16)) (fSeq (fIf (fNot (fTru (fCallN 2 (F_law_equal 8) (fCons (fCallD 4 F_count_acts (fCons (fVar 5) (fCons (fVar 14) (fCons (fVar 8) (fNil))))) (fCons (fVar 16) (fNil)))))) (fRet (fC (.bool false))) (fPass)) (fSeq (fAsg (fCallN 2 F_law_below (fCons (fVar 1) (fCons (fC (.int 60)) (fNil)))) (gNm 17)) (fSeq (fAsg (fCallN 3 F_law_output (fCons (fBin opIx (fVar 4) (fC (.int 1))) (fCons (fVar 6) (fCons (fVar 17) (fNil))))) (gNm 18)) (fSeq (fAsg (fCallD 3 F_first_emitted (fCons (fVar 5) (fCons (fVar 17) (fNil)))) (gNm 19)) (fSeq (fIf (fNot (fTru (fCallN 2 (F_law_equal 8) (fCons (fVar 19) (fCons (fVar 18) (fNil)))))) (fRet (fC (.bool false))) (fPass)) (fSeq (fExpr (fBM "list" mAppend (fVar 19) (fCons (fC (.int 0)) (fNil)))) (fSeq (fIf (fBl (fBin opNe (fCallD 3 F_first_emitted (fCons (fVar 5) (fCons (fVar 17) (fNil)))) (fVar 18))) (fRet (fC (.bool false))) (fPass)) (fSeq (fAsg (fCallD 3 F_nth_emitted (fCons (fVar 5) (fCons (fVar 17) (fNil)))) (gNm 20)) (fSeq (fIf (fBl (fBin opNe (fBin opIsN (fVar 20) (fC .none)) (fBin opLe (fCB bLen (fCons (fCallN 3 F_law_output (fCons (fBin opIx (fVar 4) (fC (.int 1))) (fCons (fVar 6) (fCons (fBin opAdd (fVar 17) (fC (.int 1))) (fNil))))) (fNil))) (fVar 17)))) (fRet (fC (.bool false))) (fPass)) (fIf (fAnd (fBl (fBin opNotN (fVar 20) (fC .none))) (fNot (fTru (fCallN 4 F_law_is_event (fCons (fVar 5) (fCons (fVar 4) (fCons (fVar 17) (fCons (fVar 20) (fNil))))))))) (fRet (fC (.bool false))) (fPass)))))))))))))))))))))))))) (fRet (fC (.bool true))))
def F_law_k06 : FF := fDef 23 b_law_k06
@[reducible] def b_law_k07 : FS := fSeq (fAsg (fCallN 2 F_law_random (fCons (fVar 0) (fCons (fC (.int 7)) (fNil)))) (gNm 1)) (fSeq (fFor (iRange1 (fC (.int 3))) (gNm 2) (fSeq (fAsg (fCallN 2 F_law_short_deck (fCons (fVar 1) (fCons (fC (.int 5)) (fNil)))) (gTupl 2 (gsCons (gNm 3) (gsCons (gNm 4) (gsNil))))) (fSeq (fAsg (fTup (fCons (fCallN 1 F_law_text (fCons (fVar 3) (fNil))) (fCons (fBin opSub (fBin opPow (fC (.int 10)) (fC (.int 18))) (fCallN 2 F_law_below (fCons (fVar 1) (fCons (fBin opPow (fC (.int 10)) (fC (.int 6))) (fNil))))) (fNil)))) (gTupl 2 (gsCons (gNm 5) (gsCons (gNm 6) (gsNil))))) (fSeq (fAsg (fLst (fNil)) (gNm 7)) (fSeq (fFor (iRange2 (fBin opIx (fVar 4) (fC (.int 2))) (fCB bLen (fCons (fBin opIx (fVar 4) (fC (.int 0))) (fNil)))) (gNm 8) (fAsg (fBin opAdd (fVar 7) (fLc (iSeq (fBin opIx (fBin opIx (fVar 4) (fC (.int 1))) (fVar 8))) (gNm 15) (fYes) (fTup (fCons (fVar 8) (fCons (fVar 15) (fNil)))) [15])) (gNm 7))) (fSeq (fAsg (fCallD 3 F_nth_emitted (fCons (fVar 5) (fCons (fVar 6) (fNil)))) (gNm 9)) (fSeq (fIf (fBl (fBin opNe (fBin opIsN (fVar 9) (fC .none)) (fBin opEq (fVar 7) (fLst (fNil))))) (fRet (fC (.bool false))) (fPass)) (fIf (fBl (fBin opNotN (fVar 9) (fC .none))) (fSeq (fAsg (fCB bSum (fCons (fLc (iSeq (fSlice (fBin opIx (fVar 4) (fC (.int 1))) (fNoPart) (fPart (fBin opIx (fVar 4) (fC (.int 2)))))) (gNm 16) (fYes) (fCB bLen (fCons (fVar 16) (fNil))) [16]) (fNil))) (gNm 10)) (fSeq (fAsg (fBin opDiv (fBin opSub (fVar 6) (fVar 10)) (fCB bLen (fCons (fVar 7) (fNil)))) (gNm 11)) (fSeq (fAsg (fBin opSub (fBin opSub (fVar 6) (fVar 10)) (fBin opMul (fVar 11) (fCB bLen (fCons (fVar 7) (fNil))))) (gNm 12)) (fSeq (fAsg (fBin opAdd (fBin opIx (fBin opIx (fVar 7) (fVar 12)) (fC (.int 0))) (fBin opMul (fVar 11) (fBin opSub (fCB bLen (fCons (fBin opIx (fVar 4) (fC (.int 0))) (fNil))) (fBin opIx (fVar 4) (fC (.int 2)))))) (gNm 13)) (fSeq (fIf (fNot (fTru (fCallN 2 (F_law_equal 8) (fCons (fVar 9) (fCons (fTup (fCons (fVar 13) (fCons (fBin opIx (fBin opIx (fVar 7) (fVar 12)) (fC (.int 1))) (fNil)))) (fNil)))))) (fRet (fC (.bool false))) (fPass)) (fIf (fBl (fBin opLt (fVar 13) (fBin opPow (fC (.int 10)) (fC (.int 18))))) (fSeq (fAsg (fLst (fCons (fCallD 3 F_count_emitted (fCons (fVar 5) (fCons (fVar 13) (fNil)))) (fCons (fCallD 3 F_count_emitted (fCons (fVar 5) (fCons (fBin opAdd (fVar 13) (fC (.int 1))) (fNil)))) (fNil)))) (gNm 14)) (fIf (fNot (fBl (fChain pLe pLt (fBin opIx (fVar 14) (fC (.int 0))) (fVar 6) (fBin opIx (fVar 14) (fC (.int 1)))))) (fRet (fC (.bool false))) (fPass))) (fPass))))))) (fPass))))))))) (fRet (fC (.bool true))))
def F_law_k07 : FF := fDef 17 b_law_k07
end M

set_option linter.all false
set_option maxRecDepth 100000
namespace M
open PySem CL L2
/-! ### reading the clean programs: rows for simp -/
def kB2 (h : D → D → Store → Out D) (x : D) (o : Out (D)) : Out D := match o with | .ok v S => h x v S | .exc xx S => .exc xx S | .stuck => .stuck
@[simp] theorem kB2_ok (h : D → D → Store → Out D) (x : D) {v : D} {S : Store} : kB2 h x (.ok v S) = h x v S := rfl
@[simp] theorem kB2_ex (h : D → D → Store → Out D) (x : D) {xx : Exn} {S : Store} : kB2 h x (.exc xx S) = .exc xx S := rfl
def kB (h : D → D → Store → Out D) (b : FE) (r : CL.Env) (o : Out (D)) : Out D := match o with | .ok v S => kB2 h v (b r S) | .exc xx S => .exc xx S | .stuck => .stuck
@[simp] theorem kB_ok (h : D → D → Store → Out D) (b : FE) (r : CL.Env) {v : D} {S : Store} : kB h b r (.ok v S) = kB2 h v (b r S) := rfl
@[simp] theorem kB_ex (h : D → D → Store → Out D) (b : FE) (r : CL.Env) {xx : Exn} {S : Store} : kB h b r (.exc xx S) = .exc xx S := rfl
def kU (h : D → Store → Out D) (o : Out (D)) : Out D := match o with | .ok v S => h v S | .exc xx S => .exc xx S | .stuck => .stuck
@[simp] theorem kU_ok (h : D → Store → Out D) {v : D} {S : Store} : kU h (.ok v S) = h v S := rfl
@[simp] theorem kU_ex (h : D → Store → Out D) {xx : Exn} {S : Store} : kU h (.exc xx S) = .exc xx S := rfl
def kIfE (a b : FE) (r : CL.Env) (o : Out (Bool)) : Out D := match o with | .ok v S => (if v = true then a r S else b r S) | .exc xx S => .exc xx S | .stuck => .stuck
@[simp] theorem kIfE_ok (a b : FE) (r : CL.Env) {v : Bool} {S : Store} : kIfE a b r (.ok v S) = (if v = true then a r S else b r S) := rfl
@[simp] theorem kIfE_ex (a b : FE) (r : CL.Env) {xx : Exn} {S : Store} : kIfE a b r (.exc xx S) = .exc xx S := rfl
def kC2 (x : D) (o : Out (List D)) : Out (List D) := match o with | .ok v S => .ok (x :: v) S | .exc xx S => .exc xx S | .stuck => .stuck
@[simp] theorem kC2_ok (x : D) {v : List D} {S : Store} : kC2 x (.ok v S) = .ok (x :: v) S := rfl
@[simp] theorem kC2_ex (x : D) {xx : Exn} {S : Store} : kC2 x (.exc xx S) = .exc xx S := rfl
def kC (x : FA) (r : CL.Env) (o : Out (D)) : Out (List D) := match o with | .ok v S => kC2 v (x r S) | .exc xx S => .exc xx S | .stuck => .stuck
@[simp] theorem kC_ok (x : FA) (r : CL.Env) {v : D} {S : Store} : kC x r (.ok v S) = kC2 v (x r S) := rfl
@[simp] theorem kC_ex (x : FA) (r : CL.Env) {xx : Exn} {S : Store} : kC x r (.exc xx S) = .exc xx S := rfl
def kTup  (o : Out (List D)) : Out D := match o with | .ok v S => (if v.length ≤ LINE then .ok (.tup v) S else .stuck) | .exc xx S => .exc xx S | .stuck => .stuck
@[simp] theorem kTup_ok  {v : List D} {S : Store} : kTup  (.ok v S) = (if v.length ≤ LINE then .ok (.tup v) S else .stuck) := rfl
@[simp] theorem kTup_ex  {xx : Exn} {S : Store} : kTup  (.exc xx S) = .exc xx S := rfl
def kLst  (o : Out (List D)) : Out D := match o with | .ok v S => (if v.length ≤ LINE then .ok (.ref S.length) (S ++ [.lst v]) else .stuck) | .exc xx S => .exc xx S | .stuck => .stuck
@[simp] theorem kLst_ok  {v : List D} {S : Store} : kLst  (.ok v S) = (if v.length ≤ LINE then .ok (.ref S.length) (S ++ [.lst v]) else .stuck) := rfl
@[simp] theorem kLst_ex  {xx : Exn} {S : Store} : kLst  (.exc xx S) = .exc xx S := rfl
def kCallN (n : Nat) (F : FF) (o : Out (List D)) : Out D := match o with | .ok v S => (if v.length = n then F S v else .stuck) | .exc xx S => .exc xx S | .stuck => .stuck
@[simp] theorem kCallN_ok (n : Nat) (F : FF) {v : List D} {S : Store} : kCallN n F (.ok v S) = (if v.length = n then F S v else .stuck) := rfl
@[simp] theorem kCallN_ex (n : Nat) (F : FF) {xx : Exn} {S : Store} : kCallN n F (.exc xx S) = .exc xx S := rfl
def kTru  (o : Out (D)) : Out Bool := match o with | .ok v S => (match tru S v with | some b => .ok b S | Option.none => .stuck) | .exc xx S => .exc xx S | .stuck => .stuck
@[simp] theorem kTru_ok  {v : D} {S : Store} : kTru  (.ok v S) = (match tru S v with | some b => .ok b S | Option.none => .stuck) := rfl
@[simp] theorem kTru_ex  {xx : Exn} {S : Store} : kTru  (.exc xx S) = .exc xx S := rfl
def kBl  (o : Out (D)) : Out Bool := match o with | .ok v S => (match v with | .bool b => .ok b S | _ => .stuck) | .exc xx S => .exc xx S | .stuck => .stuck
@[simp] theorem kBl_ok  {v : D} {S : Store} : kBl  (.ok v S) = (match v with | .bool b => .ok b S | _ => .stuck) := rfl
@[simp] theorem kBl_ex  {xx : Exn} {S : Store} : kBl  (.exc xx S) = .exc xx S := rfl
def kAnd (u : FT) (r : CL.Env) (o : Out (Bool)) : Out Bool := match o with | .ok v S => (if v = true then u r S else .ok false S) | .exc xx S => .exc xx S | .stuck => .stuck
@[simp] theorem kAnd_ok (u : FT) (r : CL.Env) {v : Bool} {S : Store} : kAnd u r (.ok v S) = (if v = true then u r S else .ok false S) := rfl
@[simp] theorem kAnd_ex (u : FT) (r : CL.Env) {xx : Exn} {S : Store} : kAnd u r (.exc xx S) = .exc xx S := rfl
def kOr (u : FT) (r : CL.Env) (o : Out (Bool)) : Out Bool := match o with | .ok v S => (if v = true then .ok true S else u r S) | .exc xx S => .exc xx S | .stuck => .stuck
@[simp] theorem kOr_ok (u : FT) (r : CL.Env) {v : Bool} {S : Store} : kOr u r (.ok v S) = (if v = true then .ok true S else u r S) := rfl
@[simp] theorem kOr_ex (u : FT) (r : CL.Env) {xx : Exn} {S : Store} : kOr u r (.exc xx S) = .exc xx S := rfl
def kNot  (o : Out (Bool)) : Out Bool := match o with | .ok v S => .ok (!v) S | .exc xx S => .exc xx S | .stuck => .stuck
@[simp] theorem kNot_ok  {v : Bool} {S : Store} : kNot  (.ok v S) = .ok (!v) S := rfl
@[simp] theorem kNot_ex  {xx : Exn} {S : Store} : kNot  (.exc xx S) = .exc xx S := rfl
def kAndV (b : FE) (r : CL.Env) (o : Out (D)) : Out D := match o with | .ok v S => (match v with | .bool true => b r S | .bool false => .ok (.bool false) S | _ => .stuck) | .exc xx S => .exc xx S | .stuck => .stuck
@[simp] theorem kAndV_ok (b : FE) (r : CL.Env) {v : D} {S : Store} : kAndV b r (.ok v S) = (match v with | .bool true => b r S | .bool false => .ok (.bool false) S | _ => .stuck) := rfl
@[simp] theorem kAndV_ex (b : FE) (r : CL.Env) {xx : Exn} {S : Store} : kAndV b r (.exc xx S) = .exc xx S := rfl
def kOrV (b : FE) (r : CL.Env) (o : Out (D)) : Out D := match o with | .ok v S => (match v with | .bool false => b r S | .bool true => .ok (.bool true) S | _ => .stuck) | .exc xx S => .exc xx S | .stuck => .stuck
@[simp] theorem kOrV_ok (b : FE) (r : CL.Env) {v : D} {S : Store} : kOrV b r (.ok v S) = (match v with | .bool false => b r S | .bool true => .ok (.bool true) S | _ => .stuck) := rfl
@[simp] theorem kOrV_ex (b : FE) (r : CL.Env) {xx : Exn} {S : Store} : kOrV b r (.exc xx S) = .exc xx S := rfl
def kNotV  (o : Out (D)) : Out D := match o with | .ok v S => (match v with | .bool b => .ok (.bool (!b)) S | _ => .stuck) | .exc xx S => .exc xx S | .stuck => .stuck
@[simp] theorem kNotV_ok  {v : D} {S : Store} : kNotV  (.ok v S) = (match v with | .bool b => .ok (.bool (!b)) S | _ => .stuck) := rfl
@[simp] theorem kNotV_ex  {xx : Exn} {S : Store} : kNotV  (.exc xx S) = .exc xx S := rfl
def kCB (h : BF) (o : Out (List D)) : Out D := match o with | .ok v S => (match h v S with | some (d, S2) => .ok d S2 | none => .stuck) | .exc xx S => .exc xx S | .stuck => .stuck
@[simp] theorem kCB_ok (h : BF) {v : List D} {S : Store} : kCB h (.ok v S) = (match h v S with | some (d, S2) => .ok d S2 | none => .stuck) := rfl
@[simp] theorem kCB_ex (h : BF) {xx : Exn} {S : Store} : kCB h (.exc xx S) = .exc xx S := rfl
def kBM2 (h : BM) (o1 : D) (o : Out (List D)) : Out D := match o with | .ok v S => (match h o1 v S with | some (d, S3) => .ok d S3 | none => .stuck) | .exc xx S => .exc xx S | .stuck => .stuck
@[simp] theorem kBM2_ok (h : BM) (o1 : D) {v : List D} {S : Store} : kBM2 h o1 (.ok v S) = (match h o1 v S with | some (d, S3) => .ok d S3 | none => .stuck) := rfl
@[simp] theorem kBM2_ex (h : BM) (o1 : D) {xx : Exn} {S : Store} : kBM2 h o1 (.exc xx S) = .exc xx S := rfl
def kBM (T : String) (h : BM) (x : FA) (r : CL.Env) (o : Out (D)) : Out D := match o with | .ok v S => (if tyD S T v = true then kBM2 h v (x r S) else .stuck) | .exc xx S => .exc xx S | .stuck => .stuck
@[simp] theorem kBM_ok (T : String) (h : BM) (x : FA) (r : CL.Env) {v : D} {S : Store} : kBM T h x r (.ok v S) = (if tyD S T v = true then kBM2 h v (x r S) else .stuck) := rfl
@[simp] theorem kBM_ex (T : String) (h : BM) (x : FA) (r : CL.Env) {xx : Exn} {S : Store} : kBM T h x r (.exc xx S) = .exc xx S := rfl
def kISeq  (o : Out (D)) : Out Src := match o with | .ok v S => (match seqSrc S v with | some s => .ok s S | none => .stuck) | .exc xx S => .exc xx S | .stuck => .stuck
@[simp] theorem kISeq_ok  {v : D} {S : Store} : kISeq  (.ok v S) = (match seqSrc S v with | some s => .ok s S | none => .stuck) := rfl
@[simp] theorem kISeq_ex  {xx : Exn} {S : Store} : kISeq  (.exc xx S) = .exc xx S := rfl
def kIEn  (o : Out (D)) : Out Src := match o with | .ok v S => (match v with | .ref l => (match lstAt S l with | some ds => .ok ⟨pairs 0 ds, some (l, ds)⟩ S | none => .stuck) | _ => .stuck) | .exc xx S => .exc xx S | .stuck => .stuck
@[simp] theorem kIEn_ok  {v : D} {S : Store} : kIEn  (.ok v S) = (match v with | .ref l => (match lstAt S l with | some ds => .ok ⟨pairs 0 ds, some (l, ds)⟩ S | none => .stuck) | _ => .stuck) := rfl
@[simp] theorem kIEn_ex  {xx : Exn} {S : Store} : kIEn  (.exc xx S) = .exc xx S := rfl
def kIR1  (o : Out (D)) : Out Src := match o with | .ok v S => (match v with | .int j => if small62 j then .ok ⟨rngL 0 j.toNat, none⟩ S else .stuck | _ => .stuck) | .exc xx S => .exc xx S | .stuck => .stuck
@[simp] theorem kIR1_ok  {v : D} {S : Store} : kIR1  (.ok v S) = (match v with | .int j => if small62 j then .ok ⟨rngL 0 j.toNat, none⟩ S else .stuck | _ => .stuck) := rfl
@[simp] theorem kIR1_ex  {xx : Exn} {S : Store} : kIR1  (.exc xx S) = .exc xx S := rfl
def kLc2 (l : Nat) (o : Out (Unit)) : Out D := match o with | .ok v S => .ok (.ref l) S | .exc xx S => .exc xx S | .stuck => .stuck
@[simp] theorem kLc2_ok (l : Nat) {v : Unit} {S : Store} : kLc2 l (.ok v S) = .ok (.ref l) S := rfl
@[simp] theorem kLc2_ex (l : Nat) {xx : Exn} {S : Store} : kLc2 l (.exc xx S) = .exc xx S := rfl
def kLc (g : FG) (t : FT) (a : FE) (vs : List Nat) (r : CL.Env) (o : Out (Src)) : Out D := match o with | .ok v S => kLc2 S.length (lcGo v g t a S.length (wipeE r vs) v.its (S ++ [.lst []])) | .exc xx S => .exc xx S | .stuck => .stuck
@[simp] theorem kLc_ok (g : FG) (t : FT) (a : FE) (vs : List Nat) (r : CL.Env) {v : Src} {S : Store} : kLc g t a vs r (.ok v S) = kLc2 S.length (lcGo v g t a S.length (wipeE r vs) v.its (S ++ [.lst []])) := rfl
@[simp] theorem kLc_ex (g : FG) (t : FT) (a : FE) (vs : List Nat) (r : CL.Env) {xx : Exn} {S : Store} : kLc g t a vs r (.exc xx S) = .exc xx S := rfl
def kPart  (o : Out (D)) : Out (Option Int) := match o with | .ok v S => (match v with | .int i => .ok (some i) S | _ => .stuck) | .exc xx S => .exc xx S | .stuck => .stuck
@[simp] theorem kPart_ok  {v : D} {S : Store} : kPart  (.ok v S) = (match v with | .int i => .ok (some i) S | _ => .stuck) := rfl
@[simp] theorem kPart_ex  {xx : Exn} {S : Store} : kPart  (.exc xx S) = .exc xx S := rfl
def kSl3 (x : D) (l : Option Int) (o : Out (Option Int)) : Out D := match o with | .ok v S => opSl x l v S | .exc xx S => .exc xx S | .stuck => .stuck
@[simp] theorem kSl3_ok (x : D) (l : Option Int) {v : Option Int} {S : Store} : kSl3 x l (.ok v S) = opSl x l v S := rfl
@[simp] theorem kSl3_ex (x : D) (l : Option Int) {xx : Exn} {S : Store} : kSl3 x l (.exc xx S) = .exc xx S := rfl
def kSl2 (x : D) (hi : FO) (r : CL.Env) (o : Out (Option Int)) : Out D := match o with | .ok v S => kSl3 x v (hi r S) | .exc xx S => .exc xx S | .stuck => .stuck
@[simp] theorem kSl2_ok (x : D) (hi : FO) (r : CL.Env) {v : Option Int} {S : Store} : kSl2 x hi r (.ok v S) = kSl3 x v (hi r S) := rfl
@[simp] theorem kSl2_ex (x : D) (hi : FO) (r : CL.Env) {xx : Exn} {S : Store} : kSl2 x hi r (.exc xx S) = .exc xx S := rfl
def kSl (lo hi : FO) (r : CL.Env) (o : Out (D)) : Out D := match o with | .ok v S => kSl2 v hi r (lo r S) | .exc xx S => .exc xx S | .stuck => .stuck
@[simp] theorem kSl_ok (lo hi : FO) (r : CL.Env) {v : D} {S : Store} : kSl lo hi r (.ok v S) = kSl2 v hi r (lo r S) := rfl
@[simp] theorem kSl_ex (lo hi : FO) (r : CL.Env) {xx : Exn} {S : Store} : kSl lo hi r (.exc xx S) = .exc xx S := rfl
def kMeth2 (n : Nat) (F : FF) (o1 : D) (o : Out (List D)) : Out D := match o with | .ok v S => (if v.length + 1 = n then F S (o1 :: v) else .stuck) | .exc xx S => .exc xx S | .stuck => .stuck
@[simp] theorem kMeth2_ok (n : Nat) (F : FF) (o1 : D) {v : List D} {S : Store} : kMeth2 n F o1 (.ok v S) = (if v.length + 1 = n then F S (o1 :: v) else .stuck) := rfl
@[simp] theorem kMeth2_ex (n : Nat) (F : FF) (o1 : D) {xx : Exn} {S : Store} : kMeth2 n F o1 (.exc xx S) = .exc xx S := rfl
def kMeth (c m : Str) (n : Nat) (F : FF) (x : FA) (r : CL.Env) (o : Out (D)) : Out D := match o with | .ok v S => (match v with | .ref l => (match S[l]? with | some (.inst c2 fs) => (if c2 = c ∧ fs.lookup m = none then kMeth2 n F (.ref l) (x r S) else .stuck) | _ => .stuck) | _ => .stuck) | .exc xx S => .exc xx S | .stuck => .stuck
@[simp] theorem kMeth_ok (c m : Str) (n : Nat) (F : FF) (x : FA) (r : CL.Env) {v : D} {S : Store} : kMeth c m n F x r (.ok v S) = (match v with | .ref l => (match S[l]? with | some (.inst c2 fs) => (if c2 = c ∧ fs.lookup m = none then kMeth2 n F (.ref l) (x r S) else .stuck) | _ => .stuck) | _ => .stuck) := rfl
@[simp] theorem kMeth_ex (c m : Str) (n : Nat) (F : FF) (x : FA) (r : CL.Env) {xx : Exn} {S : Store} : kMeth c m n F x r (.exc xx S) = .exc xx S := rfl
def kMake2 (o1 : D) (o : Out (D)) : Out D := match o with | .ok v S => (match v with | .none => .ok o1 S | _ => .stuck) | .exc xx S => .exc xx S | .stuck => .stuck
@[simp] theorem kMake2_ok (o1 : D) {v : D} {S : Store} : kMake2 o1 (.ok v S) = (match v with | .none => .ok o1 S | _ => .stuck) := rfl
@[simp] theorem kMake2_ex (o1 : D) {xx : Exn} {S : Store} : kMake2 o1 (.exc xx S) = .exc xx S := rfl
def kMake (c : Str) (n : Nat) (F : FF) (o : Out (List D)) : Out D := match o with | .ok v S => (if v.length + 1 = n then kMake2 (.ref S.length) (F (S ++ [.inst c []]) (.ref S.length :: v)) else .stuck) | .exc xx S => .exc xx S | .stuck => .stuck
@[simp] theorem kMake_ok (c : Str) (n : Nat) (F : FF) {v : List D} {S : Store} : kMake c n F (.ok v S) = (if v.length + 1 = n then kMake2 (.ref S.length) (F (S ++ [.inst c []]) (.ref S.length :: v)) else .stuck) := rfl
@[simp] theorem kMake_ex (c : Str) (n : Nat) (F : FF) {xx : Exn} {S : Store} : kMake c n F (.exc xx S) = .exc xx S := rfl
def kFld (c f : Str) (o : Out (D)) : Out D := match o with | .ok v S => (match fldOf c f S v with | some d => .ok d S | none => .stuck) | .exc xx S => .exc xx S | .stuck => .stuck
@[simp] theorem kFld_ok (c f : Str) {v : D} {S : Store} : kFld c f (.ok v S) = (match fldOf c f S v with | some d => .ok d S | none => .stuck) := rfl
@[simp] theorem kFld_ex (c f : Str) {xx : Exn} {S : Store} : kFld c f (.exc xx S) = .exc xx S := rfl
def kTIx (zs : List Str) (o : Out (List D)) : Out D := match o with | .ok v S => (match v with | [.str z] => (match idxOf z zs with | some j => .ok (.int (j : Nat)) S | none => .stuck) | _ => .stuck) | .exc xx S => .exc xx S | .stuck => .stuck
@[simp] theorem kTIx_ok (zs : List Str) {v : List D} {S : Store} : kTIx zs (.ok v S) = (match v with | [.str z] => (match idxOf z zs with | some j => .ok (.int (j : Nat)) S | none => .stuck) | _ => .stuck) := rfl
@[simp] theorem kTIx_ex (zs : List Str) {xx : Exn} {S : Store} : kTIx zs (.exc xx S) = .exc xx S := rfl
def kIsi (T : String) (o : Out (D)) : Out D := match o with | .ok v S => (match kindD S v with | some t => .ok (.bool (isiT T t)) S | none => .stuck) | .exc xx S => .exc xx S | .stuck => .stuck
@[simp] theorem kIsi_ok (T : String) {v : D} {S : Store} : kIsi T (.ok v S) = (match kindD S v with | some t => .ok (.bool (isiT T t)) S | none => .stuck) := rfl
@[simp] theorem kIsi_ex (T : String) {xx : Exn} {S : Store} : kIsi T (.exc xx S) = .exc xx S := rfl
def kIf (p q : FS) (r : CL.Env) (o : Out (Bool)) : SOut := match o with | .ok v S => (if v = true then p r S else q r S) | .exc xx S => .exc xx r S | .stuck => .stuck
@[simp] theorem kIf_ok (p q : FS) (r : CL.Env) {v : Bool} {S : Store} : kIf p q r (.ok v S) = (if v = true then p r S else q r S) := rfl
@[simp] theorem kIf_ex (p q : FS) (r : CL.Env) {xx : Exn} {S : Store} : kIf p q r (.exc xx S) = .exc xx r S := rfl
def kRet (r : CL.Env) (o : Out (D)) : SOut := match o with | .ok v S => .ret v S | .exc xx S => .exc xx r S | .stuck => .stuck
@[simp] theorem kRet_ok (r : CL.Env) {v : D} {S : Store} : kRet r (.ok v S) = .ret v S := rfl
@[simp] theorem kRet_ex (r : CL.Env) {xx : Exn} {S : Store} : kRet r (.exc xx S) = .exc xx r S := rfl
def kExpr (r : CL.Env) (o : Out (D)) : SOut := match o with | .ok v S => .next r S | .exc xx S => .exc xx r S | .stuck => .stuck
@[simp] theorem kExpr_ok (r : CL.Env) {v : D} {S : Store} : kExpr r (.ok v S) = .next r S := rfl
@[simp] theorem kExpr_ex (r : CL.Env) {xx : Exn} {S : Store} : kExpr r (.exc xx S) = .exc xx r S := rfl
def kAsg (g : FG) (r : CL.Env) (o : Out (D)) : SOut := match o with | .ok v S => g v r S | .exc xx S => .exc xx r S | .stuck => .stuck
@[simp] theorem kAsg_ok (g : FG) (r : CL.Env) {v : D} {S : Store} : kAsg g r (.ok v S) = g v r S := rfl
@[simp] theorem kAsg_ex (g : FG) (r : CL.Env) {xx : Exn} {S : Store} : kAsg g r (.exc xx S) = .exc xx r S := rfl
def kFor (g : FG) (p : FS) (r : CL.Env) (o : Out (Src)) : SOut := match o with | .ok v S => forGo v g p v.its r S | .exc xx S => .exc xx r S | .stuck => .stuck
@[simp] theorem kFor_ok (g : FG) (p : FS) (r : CL.Env) {v : Src} {S : Store} : kFor g p r (.ok v S) = forGo v g p v.its r S := rfl
@[simp] theorem kFor_ex (g : FG) (p : FS) (r : CL.Env) {xx : Exn} {S : Store} : kFor g p r (.exc xx S) = .exc xx r S := rfl
def kSet2 (c f : Str) (y : D) (r : CL.Env) (o : Out (D)) : SOut := match o with | .ok v S => (match putFld c f S v y with | some S3 => .next r S3 | none => .stuck) | .exc xx S => .exc xx r S | .stuck => .stuck
@[simp] theorem kSet2_ok (c f : Str) (y : D) (r : CL.Env) {v : D} {S : Store} : kSet2 c f y r (.ok v S) = (match putFld c f S v y with | some S3 => .next r S3 | none => .stuck) := rfl
@[simp] theorem kSet2_ex (c f : Str) (y : D) (r : CL.Env) {xx : Exn} {S : Store} : kSet2 c f y r (.exc xx S) = .exc xx r S := rfl
def kSet (c f : Str) (a : FE) (r : CL.Env) (o : Out (D)) : SOut := match o with | .ok v S => kSet2 c f v r (a r S) | .exc xx S => .exc xx r S | .stuck => .stuck
@[simp] theorem kSet_ok (c f : Str) (a : FE) (r : CL.Env) {v : D} {S : Store} : kSet c f a r (.ok v S) = kSet2 c f v r (a r S) := rfl
@[simp] theorem kSet_ex (c f : Str) (a : FE) (r : CL.Env) {xx : Exn} {S : Store} : kSet c f a r (.exc xx S) = .exc xx r S := rfl
def kAuF2 (c f : Str) (x : D) (i : Int) (r : CL.Env) (o : Out (D)) : SOut := match o with | .ok v S => (match v with | .int j => (match putFld c f S x (.int (i + j)) with | some S3 => .next r S3 | none => .stuck) | _ => .stuck) | .exc xx S => .exc xx r S | .stuck => .stuck
@[simp] theorem kAuF2_ok (c f : Str) (x : D) (i : Int) (r : CL.Env) {v : D} {S : Store} : kAuF2 c f x i r (.ok v S) = (match v with | .int j => (match putFld c f S x (.int (i + j)) with | some S3 => .next r S3 | none => .stuck) | _ => .stuck) := rfl
@[simp] theorem kAuF2_ex (c f : Str) (x : D) (i : Int) (r : CL.Env) {xx : Exn} {S : Store} : kAuF2 c f x i r (.exc xx S) = .exc xx r S := rfl
def kAuF (c f : Str) (a : FE) (r : CL.Env) (o : Out (D)) : SOut := match o with | .ok v S => (match fldOf c f S v with | some (.int i) => kAuF2 c f v i r (a r S) | _ => .stuck) | .exc xx S => .exc xx r S | .stuck => .stuck
@[simp] theorem kAuF_ok (c f : Str) (a : FE) (r : CL.Env) {v : D} {S : Store} : kAuF c f a r (.ok v S) = (match fldOf c f S v with | some (.int i) => kAuF2 c f v i r (a r S) | _ => .stuck) := rfl
@[simp] theorem kAuF_ex (c f : Str) (a : FE) (r : CL.Env) {xx : Exn} {S : Store} : kAuF c f a r (.exc xx S) = .exc xx r S := rfl
def kAuN (i : Nat) (a : Int) (r : CL.Env) (o : Out (D)) : SOut := match o with | .ok v S => (match v with | .int j => .next (r.set i (some (.int (a + j)))) S | _ => .stuck) | .exc xx S => .exc xx r S | .stuck => .stuck
@[simp] theorem kAuN_ok (i : Nat) (a : Int) (r : CL.Env) {v : D} {S : Store} : kAuN i a r (.ok v S) = (match v with | .int j => .next (r.set i (some (.int (a + j)))) S | _ => .stuck) := rfl
@[simp] theorem kAuN_ex (i : Nat) (a : Int) (r : CL.Env) {xx : Exn} {S : Store} : kAuN i a r (.exc xx S) = .exc xx r S := rfl
def kRs (c : Str) (ns : List Str) (r : CL.Env) (o : Out (List D)) : SOut := match o with | .ok v S => (if v.length = ns.length then .exc ⟨c, (ns.zip v).reverse⟩ r S else .stuck) | .exc xx S => .exc xx r S | .stuck => .stuck
@[simp] theorem kRs_ok (c : Str) (ns : List Str) (r : CL.Env) {v : List D} {S : Store} : kRs c ns r (.ok v S) = (if v.length = ns.length then .exc ⟨c, (ns.zip v).reverse⟩ r S else .stuck) := rfl
@[simp] theorem kRs_ex (c : Str) (ns : List Str) (r : CL.Env) {xx : Exn} {S : Store} : kRs c ns r (.exc xx S) = .exc xx r S := rfl
def kGI2 (x d : D) (r : CL.Env) (o : Out (D)) : SOut := match o with | .ok v S => (match setIx S x v d with | some S3 => .next r S3 | none => .stuck) | .exc xx S => .exc xx r S | .stuck => .stuck
@[simp] theorem kGI2_ok (x d : D) (r : CL.Env) {v : D} {S : Store} : kGI2 x d r (.ok v S) = (match setIx S x v d with | some S3 => .next r S3 | none => .stuck) := rfl
@[simp] theorem kGI2_ex (x d : D) (r : CL.Env) {xx : Exn} {S : Store} : kGI2 x d r (.exc xx S) = .exc xx r S := rfl
def kGI (b : FE) (d : D) (r : CL.Env) (o : Out (D)) : SOut := match o with | .ok v S => kGI2 v d r (b r S) | .exc xx S => .exc xx r S | .stuck => .stuck
@[simp] theorem kGI_ok (b : FE) (d : D) (r : CL.Env) {v : D} {S : Store} : kGI b d r (.ok v S) = kGI2 v d r (b r S) := rfl
@[simp] theorem kGI_ex (b : FE) (d : D) (r : CL.Env) {xx : Exn} {S : Store} : kGI b d r (.exc xx S) = .exc xx r S := rfl
def kSeq (q : FS) (o : SOut) : SOut := match o with | .next r S => q r S | o => o
def kGs (h : FGs) (ds : List D) (o : SOut) : SOut := match o with | .next r S => h ds r S | o => o
def kDef (o : SOut) : Out D := match o with | .next _ S1 => .ok .none S1 | .ret d S1 => .ok d S1 | .exc x _ S1 => .exc x S1 | _ => .stuck
section
variable {r : CL.Env} {S : Store} {d : D} {q : FS} {e : Exn} {h : FGs} {ds : List D}
@[simp] theorem k_seq1 : kSeq q (.next r S) = q r S := rfl
@[simp] theorem k_seq2 : kSeq q (.ret d S) = .ret d S := rfl
@[simp] theorem k_seq3 : kSeq q (.exc e r S) = .exc e r S := rfl
@[simp] theorem k_seq4 : kSeq q .stuck = .stuck := rfl
@[simp] theorem k_seq5 : kSeq q (.brk r S) = .brk r S := rfl
@[simp] theorem k_seq6 : kSeq q (.cont r S) = .cont r S := rfl
@[simp] theorem k_gs1 : kGs h ds (.next r S) = h ds r S := rfl
@[simp] theorem k_def1 : kDef (.next r S) = .ok .none S := rfl
@[simp] theorem k_def2 : kDef (.ret d S) = .ok d S := rfl
@[simp] theorem k_def3 : kDef (.exc e r S) = .exc e S := rfl
end
theorem fDef_k (n : Nat) (b : FS) (S : Store) (ds : List D) : fDef n b S ds = kDef (b (ds.map some ++ List.replicate (n - ds.length) none) S) := by unfold fDef kDef; cases b (ds.map some ++ List.replicate (n - ds.length) none) S <;> rfl
section
variable {r : CL.Env} {S : Store} {i n k : Nat} {d : D} {a b c : FE} {t u : FT} {p q : FS} {g : FG} {x y : FA}
@[simp low] theorem x_var  : fVar i r S = (match r[i]? with | some (some d) => .ok d S | _ => .stuck) := rfl
@[simp low] theorem x_c  : fC d r S = .ok d S := rfl
@[simp low] theorem x_bin {h : D → D → Store → Out D} : fBin h a b r S = kB h b r (a r S) := by
  unfold fBin; cases a r S with
  | ok v S1 => show (b r S1).bind _ = kB2 h v (b r S1); cases b r S1 <;> rfl
  | exc => rfl
  | stuck => rfl
@[simp low] theorem x_un {h : D → Store → Out D} : fUn h a r S = kU h (a r S) := by unfold fUn; show _ = kU h (a r S); generalize a r S = o; cases o <;> rfl
@[simp low] theorem x_ifE  : fIfE t a b r S = kIfE a b r (t r S) := by unfold fIfE; show _ = kIfE a b r (t r S); generalize t r S = o; cases o <;> rfl
@[simp low] theorem x_nil  : fNil r S = .ok [] S := rfl
@[simp low] theorem x_cons  : fCons a x r S = kC x r (a r S) := by
  unfold fCons; cases a r S with
  | ok v S1 => show (x r S1).bind _ = kC2 v (x r S1); cases x r S1 <;> rfl
  | exc => rfl
  | stuck => rfl
@[simp low] theorem x_tup  : fTup x r S = kTup (x r S) := by unfold fTup; show _ = kTup (x r S); generalize x r S = o; cases o <;> rfl
@[simp low] theorem x_lst  : fLst x r S = kLst (x r S) := by unfold fLst; show _ = kLst (x r S); generalize x r S = o; cases o <;> rfl
@[simp low] theorem x_callN {F : FF} : fCallN n F x r S = kCallN n F (x r S) := by unfold fCallN; show _ = kCallN n F (x r S); generalize x r S = o; cases o <;> rfl
@[simp low] theorem x_tru  : fTru a r S = kTru (a r S) := by unfold fTru; show _ = kTru (a r S); generalize a r S = o; cases o <;> rfl
@[simp low] theorem x_bl  : fBl a r S = kBl (a r S) := by unfold fBl; show _ = kBl (a r S); generalize a r S = o; cases o <;> rfl
@[simp low] theorem x_and  : fAnd t u r S = kAnd u r (t r S) := by unfold fAnd; show _ = kAnd u r (t r S); generalize t r S = o; cases o <;> rfl
@[simp low] theorem x_or  : fOr t u r S = kOr u r (t r S) := by unfold fOr; show _ = kOr u r (t r S); generalize t r S = o; cases o <;> rfl
@[simp low] theorem x_not  : fNot t r S = kNot (t r S) := by unfold fNot; show _ = kNot (t r S); generalize t r S = o; cases o <;> rfl
@[simp low] theorem x_andV  : fAndV a b r S = kAndV b r (a r S) := by unfold fAndV; show _ = kAndV b r (a r S); generalize a r S = o; cases o <;> rfl
@[simp low] theorem x_orV  : fOrV a b r S = kOrV b r (a r S) := by unfold fOrV; show _ = kOrV b r (a r S); generalize a r S = o; cases o <;> rfl
@[simp low] theorem x_notV  : fNotV a r S = kNotV (a r S) := by unfold fNotV; show _ = kNotV (a r S); generalize a r S = o; cases o <;> rfl
@[simp low] theorem x_cb {h : BF} : fCB h x r S = kCB h (x r S) := by unfold fCB; show _ = kCB h (x r S); generalize x r S = o; cases o <;> rfl
@[simp low] theorem x_bm {T : String} {h : BM} : fBM T h a x r S = kBM T h x r (a r S) := by
  unfold fBM; cases a r S with
  | ok v S1 => show (if tyD S1 T v = true then (x r S1).bind _ else _) = (if tyD S1 T v = true then kBM2 h v (x r S1) else _); cases x r S1 <;> rfl
  | exc => rfl
  | stuck => rfl
@[simp low] theorem x_iSeq  : iSeq a r S = kISeq (a r S) := by unfold iSeq; show _ = kISeq (a r S); generalize a r S = o; cases o <;> rfl
@[simp low] theorem x_iEn  : iEnumL a r S = kIEn (a r S) := by unfold iEnumL; show _ = kIEn (a r S); generalize a r S = o; cases o <;> rfl
@[simp low] theorem x_iR1  : iRange1 a r S = kIR1 (a r S) := by unfold iRange1; show _ = kIR1 (a r S); generalize a r S = o; cases o <;> rfl
@[simp low] theorem x_lc {i : FI} {vs : List Nat} : fLc i g t a vs r S = kLc g t a vs r (i r S) := by
  unfold fLc; cases i r S with
  | ok v S1 => show (lcGo _ _ _ _ _ _ _ _).bind _ = kLc2 S1.length (lcGo v g t a S1.length (wipeE r vs) v.its (S1 ++ [.lst []])); cases lcGo v g t a S1.length (wipeE r vs) v.its (S1 ++ [.lst []]) <;> rfl
  | exc => rfl
  | stuck => rfl
@[simp low] theorem x_yes  : fYes r S = .ok true S := rfl
@[simp low] theorem x_noPart  : fNoPart r S = .ok none S := rfl
@[simp low] theorem x_part  : fPart a r S = kPart (a r S) := by unfold fPart; show _ = kPart (a r S); generalize a r S = o; cases o <;> rfl
@[simp low] theorem x_slice {lo hi : FO} : fSlice a lo hi r S = kSl lo hi r (a r S) := by
  unfold fSlice; cases a r S with
  | ok v S1 => 
    show (lo r S1).bind _ = kSl2 v hi r (lo r S1)
    cases lo r S1 with
    | ok w S2 => show (hi r S2).bind _ = kSl3 v w (hi r S2); cases hi r S2 <;> rfl
    | exc => rfl
    | stuck => rfl
  | exc => rfl
  | stuck => rfl
@[simp low] theorem x_meth {cc mm : Str} {F : FF} : fMeth cc mm n F a x r S = kMeth cc mm n F x r (a r S) := by
  unfold fMeth; cases a r S with
  | ok v S1 => 
    show (match v with | .ref l => (match S1[l]? with | some (.inst c2 fs) => (if c2 = cc ∧ fs.lookup mm = none then (x r S1).bind _ else .stuck) | _ => .stuck) | _ => .stuck) = (match v with | .ref l => (match S1[l]? with | some (.inst c2 fs) => (if c2 = cc ∧ fs.lookup mm = none then kMeth2 n F (.ref l) (x r S1) else .stuck) | _ => .stuck) | _ => .stuck)
    cases x r S1 <;> rfl
  | exc => rfl
  | stuck => rfl
@[simp low] theorem x_make {cc : Str} {F : FF} : fMake cc n F x r S = kMake cc n F (x r S) := by
  unfold fMake; cases x r S with
  | ok v S1 => show (if v.length + 1 = n then (F (S1 ++ [.inst cc []]) (.ref S1.length :: v)).bind _ else _) = (if v.length + 1 = n then kMake2 (.ref S1.length) (F (S1 ++ [.inst cc []]) (.ref S1.length :: v)) else _); cases F (S1 ++ [.inst cc []]) (.ref S1.length :: v) <;> rfl
  | exc => rfl
  | stuck => rfl
@[simp low] theorem x_fld {cc ff : Str} : fFld cc ff a r S = kFld cc ff (a r S) := by unfold fFld; show _ = kFld cc ff (a r S); generalize a r S = o; cases o <;> rfl
@[simp low] theorem x_tix {zs : List Str} : fTIx zs x r S = kTIx zs (x r S) := by unfold fTIx; show _ = kTIx zs (x r S); generalize x r S = o; cases o <;> rfl
@[simp low] theorem x_isi {T : String} : fIsi T a r S = kIsi T (a r S) := by unfold fIsi; show _ = kIsi T (a r S); generalize a r S = o; cases o <;> rfl
@[simp low] theorem x_seq  : fSeq p q r S = kSeq q (p r S) := by unfold fSeq; show _ = kSeq q (p r S); generalize p r S = o; cases o <;> rfl
@[simp low] theorem x_pass  : fPass r S = .next r S := rfl
@[simp low] theorem x_if  : fIf t p q r S = kIf p q r (t r S) := by unfold fIf; show _ = kIf p q r (t r S); generalize t r S = o; cases o <;> rfl
@[simp low] theorem x_ret  : fRet a r S = kRet r (a r S) := by unfold fRet; show _ = kRet r (a r S); generalize a r S = o; cases o <;> rfl
@[simp low] theorem x_retN  : fRetN r S = .ret .none S := rfl
@[simp low] theorem x_expr  : fExpr a r S = kExpr r (a r S) := by unfold fExpr; show _ = kExpr r (a r S); generalize a r S = o; cases o <;> rfl
@[simp low] theorem x_asg  : fAsg a g r S = kAsg g r (a r S) := by unfold fAsg; show _ = kAsg g r (a r S); generalize a r S = o; cases o <;> rfl
@[simp low] theorem x_for {i : FI} : fFor i g p r S = kFor g p r (i r S) := by unfold fFor; show _ = kFor g p r (i r S); generalize i r S = o; cases o <;> rfl
@[simp low] theorem x_set {cc ff : Str} : fSetFld cc ff a b r S = kSet cc ff a r (b r S) := by
  unfold fSetFld; cases b r S with
  | ok v S1 => simp only [kSet_ok, kSet2] <;> (cases a r S1 <;> rfl)
  | exc => rfl
  | stuck => rfl
@[simp low] theorem x_auF {cc ff : Str} : fAugFld cc ff a b r S = kAuF cc ff b r (a r S) := by
  unfold fAugFld; cases a r S with
  | ok v S1 => simp only [kAuF_ok, kAuF2] <;> (cases b r S1 <;> rfl)
  | exc => rfl
  | stuck => rfl
@[simp low] theorem x_auN  : fAugNm i a r S = (match r[i]? with | some (some (.int j)) => kAuN i j r (a r S) | _ => .stuck) := rfl
@[simp low] theorem x_rs {cc : Str} {ns : List Str} : fRaise cc ns x r S = kRs cc ns r (x r S) := by unfold fRaise; show _ = kRs cc ns r (x r S); generalize x r S = o; cases o <;> rfl
@[simp low] theorem x_nm : gNm i d r S = .next (r.set i (some d)) S := rfl
@[simp low] theorem x_gIx : gIx a b d r S = kGI b d r (a r S) := by
  unfold gIx kGI; cases a r S with
  | ok v S1 => simp only [kGI2] <;> (cases b r S1 <;> rfl)
  | exc => rfl
  | stuck => rfl
@[simp low] theorem x_gsNil : gsNil [] r S = .next r S := rfl
@[simp low] theorem x_gsCons {h : FGs} {ds : List D} : gsCons g h (d :: ds) r S = kGs h ds (g d r S) := by show (match g d r S with | .next r1 S1 => h ds r1 S1 | o => o) = _; cases g d r S <;> rfl
@[simp low] theorem x_tupl {h : FGs} : gTupl n h d r S = (match d with | .tup ds => if ds.length = n then h ds r S else .stuck | _ => .stuck) := rfl
end
/-! ### places -/
theorem atI_nat {α : Type} (xs : List α) (k : Nat) : atI xs (k : Int) = xs[k]? := by
  unfold atI ixN
  rw [if_pos (Int.natCast_nonneg k)]
  by_cases h : (k : Int) < xs.length
  · rw [if_pos h]; simp
  · rw [if_neg h]; simp; omega
theorem atI_lit {α : Type} (xs : List α) (k : Nat) : atI xs (OfNat.ofNat k : Int) = xs[k]? := atI_nat xs k
@[simp] theorem atI_0 {α : Type} (xs : List α) : atI xs 0 = xs[0]? := atI_nat xs 0
@[simp] theorem atI_1 {α : Type} (xs : List α) : atI xs 1 = xs[1]? := atI_nat xs 1
@[simp] theorem atI_2 {α : Type} (xs : List α) : atI xs 2 = xs[2]? := atI_nat xs 2
@[simp] theorem atI_m1 {α : Type} (xs : List α) (x : α) : atI (xs ++ [x]) (-1) = some x := by
  unfold atI ixN
  rw [if_neg (by decide), if_pos (by simp; omega)]
  have e : (-1 + ((xs.length : Int) + 1)).toNat = xs.length := by omega
  simp [e]
theorem ixN_nat (n k : Nat) (h : k < n) : ixN n (k : Int) = some k := by
  unfold ixN
  rw [if_pos (Int.natCast_nonneg k), if_pos (by omega)]; simp
/-! ### the law's source of numbers -/
def GoodD (ds : List D) : Prop := ∃ (a b : Int) (rest : List Int), ds = .int a :: .int b :: rest.map .int ∧ 0 ≤ a ∧ a < 2147483647 ∧ 0 ≤ b ∧ ∀ x ∈ rest, 0 < x
theorem set_get {S : Store} {l : Nat} {o : O} (hl : l < S.length) : (S.set l o)[l]? = some o := List.getElem?_set_self hl
theorem mod_nat (x : Int) (n : Nat) (h : 0 < n) : ∃ r : Nat, x % (n : Int) = (r : Int) ∧ r < n := by
  have h1 := Int.emod_nonneg x (show (n : Int) ≠ 0 by omega)
  have h2 := Int.emod_lt_of_pos x (show (0 : Int) < n by omega)
  exact ⟨(x % (n : Int)).toNat, by omega, by omega⟩
theorem below0 (S : Store) (l : Nat) (ds : List D) (lim : Nat) (h : S[l]? = some (.lst ds)) (g : GoodD ds) (h0 : 0 < lim) (h1 : lim ≤ 1000000000) :
    ∃ (r : Nat) (es : List D), F_law_below S [.ref l, .int lim] = .ok (.int r) (S.set l (.lst es)) ∧ r < lim ∧ GoodD es := by
  obtain ⟨a, b, rest, rfl, ha, ha2, hb, hr⟩ := g
  have hl : l < S.length := (List.getElem?_eq_some_iff.mp h).1
  have e1 : b64 a = true := by unfold b64; apply decide_eq_true; omega
  have L0 : (0 : Int) < lim := by omega
  have L1 : (lim : Int) < 1073741824 := by omega
  have L2 : 0 < lim ∧ (lim : Int) < 1073741824 := ⟨h0, L1⟩
  have n1 := Int.emod_nonneg (a * 48271 + 11) (show (2147483647 : Int) ≠ 0 by decide)
  have n2 := Int.emod_lt_of_pos (a * 48271 + 11) (show (0 : Int) < 2147483647 by decide)
  rw [F_law_below, fDef_k]
  by_cases hb0 : b = 0
  · subst hb0
    cases rest with
    | nil =>
      obtain ⟨q, hq, hq2⟩ := mod_nat ((a * 48271 + 11) % 2147483647 / 64) lim h0
      simp only [List.map_nil] at h
      refine ⟨q, .int ((a * 48271 + 11) % 2147483647) :: [.int 0], ?_, hq2, _, 0, [], rfl, n1, n2, by decide, by simp⟩
      simp [opIx, h, opEq, eqD, bLen, lenD, seqOf, lstAt, opGt, opMod, opAdd, opMul, e1, setIx, ixN, set_get hl, opDiv, L0, L1, L2, hq, h0]
    | cons x rest =>
      have hx : 0 < x := hr x (by simp)
      obtain ⟨q, hq, hq2⟩ := mod_nat x lim h0
      simp only [List.map_cons] at h
      refine ⟨q, .int a :: .int (x / lim) :: rest.map .int, ?_, hq2, a, x / lim, rest, rfl, ha, ha2, Int.ediv_nonneg (Int.le_of_lt hx) (Int.le_of_lt L0), fun y hy => hr y (by simp [hy])⟩
      have t0 : ¬ ((rest.length : Int) + 1 + 1 + 1 ≤ 2) := by omega
      have t1 : (2 : Int) < (rest.length : Int) + 1 + 1 + 1 := by omega
      have t2 : (1 : Int) < (rest.length : Int) + 1 + 1 := by omega
      have t3 : (0 : Int) < (rest.length : Int) + 1 + 1 := by omega
      simp [opIx, h, opEq, eqD, bLen, lenD, seqOf, lstAt, opGt, opMod, opAdd, opMul, e1, setIx, ixN, set_get hl, opDiv, L0, L1, L2, hq, h0, t0, t1, t2, t3, hx, tyD, mPop, seqIndex?]
  · have hb1 : 0 < b := by omega
    obtain ⟨q, hq, hq2⟩ := mod_nat b lim h0
    refine ⟨q, .int a :: .int (b / lim) :: rest.map .int, ?_, hq2, a, b / lim, rest, rfl, ha, ha2, Int.ediv_nonneg hb (Int.le_of_lt L0), hr⟩
    have t2 : (1 : Int) < (rest.length : Int) + 1 + 1 := by omega
    simp [opIx, h, opEq, eqD, bLen, lenD, seqOf, lstAt, opGt, opMod, opAdd, opMul, e1, setIx, ixN, set_get hl, opDiv, L0, L1, L2, hq, h0, hb0, hb1, t2]
end M

set_option linter.all false
set_option maxRecDepth 100000
namespace M
open PySem CL L2
/-! ### stores that grow, the source of numbers apart -/
def Gd (l : Nat) (S : Store) : Prop := ∃ es, S[l]? = some (.lst es) ∧ GoodD es
def Ev (l : Nat) (S S' : Store) : Prop := S.length ≤ S'.length ∧ (∀ k, k < S.length → k ≠ l → S'[k]? = S[k]?) ∧ Gd l S'
theorem Gd.lt {l : Nat} {S : Store} (h : Gd l S) : l < S.length := by
  obtain ⟨es, h, _⟩ := h
  exact (List.getElem?_eq_some_iff.mp h).1
theorem Ev.refl {l : Nat} {S : Store} (h : Gd l S) : Ev l S S := ⟨Nat.le_refl _, fun _ _ _ => rfl, h⟩
theorem Ev.trans {l : Nat} {S S1 S2 : Store} (h : Ev l S S1) (k : Ev l S1 S2) : Ev l S S2 :=
  ⟨Nat.le_trans h.1 k.1, fun j h1 h2 => (k.2.1 j (Nat.lt_of_lt_of_le h1 h.1) h2).trans (h.2.1 j h1 h2), k.2.2⟩
theorem Ev.get {l : Nat} {S S1 : Store} {j : Nat} {o : O} (h : Ev l S S1) (hj : S[j]? = some o) (hn : j ≠ l) : S1[j]? = some o := (h.2.1 j (List.getElem?_eq_some_iff.mp hj).1 hn).trans hj
theorem Gd.app {l : Nat} {S X : Store} (h : Gd l S) : Gd l (S ++ X) := by
  obtain ⟨es, h, g⟩ := h
  exact ⟨es, by rw [List.getElem?_append_left (List.getElem?_eq_some_iff.mp h).1, h], g⟩
theorem Ev.app {l : Nat} {S S1 X : Store} (h : Ev l S S1) : Ev l S (S1 ++ X) :=
  ⟨by simp; have := h.1; omega, fun j h1 h2 => by rw [List.getElem?_append_left (Nat.lt_of_lt_of_le h1 h.1)]; exact h.2.1 j h1 h2, h.2.2.app⟩
theorem Ev.ofApp {l : Nat} {S S1 X : Store} (h : Ev l (S ++ X) S1) : Ev l S S1 :=
  ⟨by have := h.1; simp at this; omega, fun j h1 h2 => (h.2.1 j (by simp; omega) h2).trans (List.getElem?_append_left h1), h.2.2⟩
theorem Ev.new {l : Nat} {S S1 : Store} {o : O} (g : Gd l S) (h : Ev l (S ++ [o]) S1) : S1[S.length]? = some o := h.get (by simp) (Nat.ne_of_gt g.lt)
theorem below {S : Store} {l : Nat} (lim : Nat) (g : Gd l S) (h0 : 0 < lim) (h1 : lim ≤ 1000000000) : ∃ (r : Nat) (S' : Store), F_law_below S [.ref l, .int lim] = .ok (.int r) S' ∧ r < lim ∧ Ev l S S' := by
  obtain ⟨ds, h, g⟩ := g
  obtain ⟨r, es, e, hr, ge⟩ := below0 S l ds lim h g h0 h1
  have hl := (List.getElem?_eq_some_iff.mp h).1
  exact ⟨r, _, e, hr, by simp, fun k _ h2 => List.getElem?_set_ne (Ne.symm h2), es, set_get hl, ge⟩
/-! ### decks -/
inductive Act where
  | add (s n : Nat)
  | copy (s t : Nat)
  | swap (s t : Nat)
  | emitR (s : Nat)
  | emitN (n : Nat)
inductive Put where
  | fix (n : Nat)
  | reg (s : Nat)
  | test (s a b : Nat)
def Act.d : Act → D
  | .add s n => .tup [.str "add", .int s, .int n]
  | .copy s t => .tup [.str "copy", .int s, .int t]
  | .swap s t => .tup [.str "swap", .int s, .int t]
  | .emitR s => .tup [.str "emit", .int s, .int 0]
  | .emitN n => .tup [.str "emit", .none, .int n]
def Act.ok (w : Nat) : Act → Prop
  | .add s n => s < 4 ∧ n < w
  | .copy s t => s < 4 ∧ t < 4
  | .swap s t => s < 4 ∧ t < 4
  | .emitR s => s < 4
  | .emitN n => n < w
def Put.d : Put → D
  | .fix n => .tup [.none, .int n, .int n]
  | .reg s => .tup [.int s, .int 0, .none]
  | .test s a b => .tup [.int s, .int a, .int b]
def Put.ok : Put → Prop
  | .fix n => n < 10
  | .reg s => s < 4
  | .test s a b => s < 4 ∧ a < 10 ∧ b < 10
/-- [2, 4][below(d, 2)] -/
abbrev fP24 : FE := fBin opIx (fLst (fCons (fC (.int 2)) (fCons (fC (.int 4)) (fNil)))) (fCallN 2 F_law_below (fCons (fVar 0) (fCons (fC (.int 2)) (fNil))))
theorem pick24 {S : Store} {l : Nat} (g : Gd l S) : ∃ (v : Nat) (S' : Store), (∀ r : CL.Env, r[0]? = some (some (.ref l)) → fP24 r S = .ok (.int v) S') ∧ 0 < v ∧ v ≤ 4 ∧ Ev l S S' := by
  obtain ⟨q, S1, e, hq, ev⟩ := below (S := S ++ [.lst [.int 2, .int 4]]) 2 g.app (by decide) (by decide)
  have hn := Ev.new g ev
  have e : F_law_below (S ++ [.lst [.int 2, .int 4]]) [.ref l, .int 2] = _ := e
  have hq' : q = 0 ∨ q = 1 := by omega
  rcases hq' with rfl | rfl
  · exact ⟨2, S1, fun r hr => by simp [hr, LINE, e, opIx, hn], by decide, by decide, ev.ofApp⟩
  · exact ⟨4, S1, fun r hr => by simp [hr, LINE, e, opIx, hn], by decide, by decide, ev.ofApp⟩
/-- below(d, [2, 4][below(d, 2)]) -/
abbrev fSlot : FE := fCallN 2 F_law_below (fCons (fVar 0) (fCons fP24 (fNil)))
theorem slot24 {S : Store} {l : Nat} (g : Gd l S) : ∃ (v : Nat) (S' : Store), (∀ r : CL.Env, r[0]? = some (some (.ref l)) → fSlot r S = .ok (.int v) S') ∧ v < 4 ∧ Ev l S S' := by
  obtain ⟨q, S1, e, h0, h4, ev⟩ := pick24 g
  obtain ⟨v, S2, e2, hv, ev2⟩ := below q ev.2.2 h0 (by omega)
  exact ⟨v, S2, fun r hr => by simp [e, hr, e2], by omega, ev.trans ev2⟩
theorem law_action {S : Store} {l : Nat} {w : Nat} (g : Gd l S) (h0 : 2 ≤ w) (h1 : w ≤ 16) : ∃ (a : Act) (S' : Store), F_law_action S [.ref l, .int w] = .ok a.d S' ∧ a.ok w ∧ Ev l S S' := by
  obtain ⟨k, S1, e1, hk, ev1⟩ := below 6 g (by decide) (by decide)
  have e1 : F_law_below S [.ref l, .int 6] = .ok (.int k) S1 := e1
  obtain ⟨s, S2, e2, hs, ev2⟩ := slot24 ev1.2.2
  have ev12 := ev1.trans ev2
  rw [F_law_action, fDef_k]
  have hk6 : k = 0 ∨ k = 1 ∨ k = 2 ∨ k = 3 ∨ k = 4 ∨ k = 5 := by omega
  rcases hk6 with rfl | rfl | rfl | rfl | rfl | rfl
  · obtain ⟨n, S3, e3, hn, ev3⟩ := below w ev2.2.2 (by omega) (by omega)
    exact ⟨.add s n, S3, by simp [e1, e2, e3, LINE, opLt, Act.d], ⟨hs, hn⟩, ev12.trans ev3⟩
  · obtain ⟨n, S3, e3, hn, ev3⟩ := below w ev2.2.2 (by omega) (by omega)
    exact ⟨.add s n, S3, by simp [e1, e2, e3, LINE, opLt, Act.d], ⟨hs, hn⟩, ev12.trans ev3⟩
  · obtain ⟨n, S3, e3, hn, ev3⟩ := slot24 (S := S2 ++ [.lst [.str "copy", .str "swap"]]) ev2.2.2.app
    exact ⟨.copy s n, S3, by simp [e1, e2, e3, LINE, opLt, opSub, opIx, Act.d], ⟨hs, hn⟩, ev12.trans ev3.ofApp⟩
  · obtain ⟨n, S3, e3, hn, ev3⟩ := slot24 (S := S2 ++ [.lst [.str "copy", .str "swap"]]) ev2.2.2.app
    exact ⟨.swap s n, S3, by simp [e1, e2, e3, LINE, opLt, opSub, opIx, Act.d], ⟨hs, hn⟩, ev12.trans ev3.ofApp⟩
  · exact ⟨.emitR s, S2, by simp [e1, e2, LINE, opLt, opEq, eqD, Act.d], hs, ev12⟩
  · obtain ⟨n, S3, e3, hn, ev3⟩ := below w ev2.2.2 (by omega) (by omega)
    exact ⟨.emitN n, S3, by simp [e1, e2, e3, LINE, opLt, opEq, eqD, Act.d], hn, ev12.trans ev3⟩
end M

set_option linter.all false
set_option maxRecDepth 100000
namespace M
open PySem CL L2
/-! ### loops -/
inductive All2 {α β : Type} (R : α → β → Prop) : List α → List β → Prop
  | nil : All2 R [] []
  | cons {a b as bs} : R a b → All2 R as bs → All2 R (a :: as) (b :: bs)
theorem All2.length {α β : Type} {R : α → β → Prop} {as : List α} {bs : List β} (h : All2 R as bs) : as.length = bs.length := by
  induction h with
  | nil => rfl
  | cons _ _ ih => simp [ih]
theorem All2.map {α β : Type} {f : α → β} {as : List α} {bs : List β} (h : All2 (fun a b => b = f a) as bs) : bs = as.map f := by
  induction h with
  | nil => rfl
  | cons h1 _ ih => simp [ih, h1]
theorem All2.imp {α β : Type} {R R' : α → β → Prop} {as : List α} {bs : List β} (h : All2 R as bs) (k : ∀ a b, R a b → R' a b) : All2 R' as bs := by
  induction h with
  | nil => exact .nil
  | cons h1 _ ih => exact .cons (k _ _ h1) ih
theorem All2.append {α β : Type} {R : α → β → Prop} {as as' : List α} {bs bs' : List β} (h : All2 R as bs) (k : All2 R as' bs') : All2 R (as ++ as') (bs ++ bs') := by
  induction h with
  | nil => exact k
  | cons h1 _ ih => exact .cons h1 ih
theorem All2.right {α β : Type} {R : α → β → Prop} {P : β → Prop} (hp : ∀ a b, R a b → P b) {as : List α} {bs : List β} (h : All2 R as bs) : ∀ b ∈ bs, P b := by
  induction h with
  | nil => simp
  | cons h1 _ ih => intro b hb; exact (List.mem_cons.mp hb).elim (fun e => e ▸ hp _ _ h1) (ih b)
theorem lc_run {s : Src} {i : Nat} {e : FE} {l : Nat} {r0 : CL.Env} {R : D → D → Prop} {Inv : Store → Prop} (hst : ∀ S, Inv S → s.still S = true) (hset : ∀ S o, Inv S → Inv (S.set l o)) :
    ∀ (ds : List D) (hstep : ∀ d ∈ ds, ∀ S acc, Inv S → S[l]? = some (.lst acc) → ∃ y S', e (r0.set i (some d)) S = .ok y S' ∧ Inv S' ∧ S'[l]? = some (.lst acc) ∧ R d y) (S : Store) (acc : List D), Inv S → S[l]? = some (.lst acc) → acc.length + ds.length ≤ LINE →
      ∃ ys S', lcGo s (gNm i) fYes e l r0 ds S = .ok () S' ∧ Inv S' ∧ S'[l]? = some (.lst (acc ++ ys)) ∧ All2 R ds ys
  | [], _, S, acc, hI, hl, _ => ⟨[], S, by simp [lcGo, hst S hI], hI, by simpa using hl, .nil⟩
  | d :: ds, hstep, S, acc, hI, hl, hn => by
    obtain ⟨y, S1, e1, hI1, hl1, hr⟩ := hstep d (by simp) S acc hI hl
    have hlt : l < S1.length := (List.getElem?_eq_some_iff.mp hl1).1
    simp at hn
    obtain ⟨ys, S2, e2, hI2, hl2, ha⟩ := lc_run hst hset ds (fun d' hd => hstep d' (by simp [hd])) (S1.set l (.lst (acc ++ [y]))) (acc ++ [y]) (hset _ _ hI1) (set_get hlt) (by simp; omega)
    refine ⟨y :: ys, S2, ?_, hI2, by simpa using hl2, .cons hr ha⟩
    have hlen : acc.length < LINE := by omega
    simp [lcGo, hst S hI, e1, hl1, e2, hlen]
theorem for_run {s : Src} {g : FG} {b : FS} {J : List D → CL.Env → Store → Prop} (hst : ∀ ds r S, J ds r S → s.still S = true)
    (hstep : ∀ d ds r S, J (d :: ds) r S → ∃ r1 S1 r2 S2, g d r S = .next r1 S1 ∧ b r1 S1 = .next r2 S2 ∧ J ds r2 S2) :
    ∀ ds r S, J ds r S → ∃ r' S', forGo s g b ds r S = .next r' S' ∧ J [] r' S'
  | [], r, S, h => ⟨r, S, by simp [forGo, hst _ _ _ h], h⟩
  | d :: ds, r, S, h => by
    obtain ⟨r1, S1, r2, S2, e1, e2, h2⟩ := hstep d ds r S h
    obtain ⟨r', S', e3, h3⟩ := for_run hst hstep ds r2 S2 h2
    exact ⟨r', S', by simp [forGo, hst _ _ _ h, e1, e2, e3], h3⟩
theorem while_run {t : FT} {b : FS} {J : Nat → CL.Env → Store → Prop} {Q : CL.Env → Store → Prop} (h0 : ∀ r S, J 0 r S → ∃ S1, t r S = .ok false S1 ∧ Q r S1)
    (hs : ∀ n r S, J (n + 1) r S → ∃ S1 r2 S2, t r S = .ok true S1 ∧ b r S1 = .next r2 S2 ∧ J n r2 S2) :
    ∀ n fuel r S, n < fuel → J n r S → ∃ r' S', fWhile fuel t b r S = .next r' S' ∧ Q r' S'
  | 0, fuel + 1, r, S, _, h => by
    obtain ⟨S1, e, q⟩ := h0 r S h
    exact ⟨r, S1, by simp [fWhile, e], q⟩
  | n + 1, fuel + 1, r, S, hf, h => by
    obtain ⟨S1, r2, S2, e1, e2, h2⟩ := hs n r S h
    obtain ⟨r', S', e3, q⟩ := while_run h0 hs n fuel r2 S2 (by omega) h2
    exact ⟨r', S', by simp [fWhile, e1, e2, e3], q⟩
theorem Ev.set {l : Nat} {S S' : Store} (h : Ev l S S') {k : Nat} {o : O} (hk : S.length ≤ k) (hn : k ≠ l) : Ev l S (S'.set k o) :=
  ⟨by simpa using h.1, fun j h1 h2 => by rw [List.getElem?_set_ne (by omega)]; exact h.2.1 j h1 h2, by
    obtain ⟨es, h3, g⟩ := h.2.2
    exact ⟨es, by rw [List.getElem?_set_ne hn]; exact h3, g⟩⟩
theorem still_none {ds : List D} {S : Store} : Src.still ⟨ds, none⟩ S = true := rfl
theorem still_lst {ds es : List D} {l : Nat} {S : Store} (h : S[l]? = some (.lst es)) : Src.still ⟨ds, some (l, es)⟩ S = true := by simp [Src.still, h, D.beqs_refl]
theorem still_fro {ds es : List D} {l : Nat} {S : Store} (h : S[l]? = some (.fro es)) : Src.still ⟨ds, some (l, es)⟩ S = true := by simp [Src.still, h, D.beqs_refl]
theorem Ev.ne {l : Nat} {S : Store} (g : Gd l S) : S.length ≠ l := Nat.ne_of_gt g.lt
/-! ### put -/
theorem law_put {S : Store} {l : Nat} {n : Nat} (g : Gd l S) (h0 : 1 ≤ n) (h1 : n ≤ 8) : ∃ (p : Put) (S' : Store), F_law_put S [.ref l, .int n] = .ok p.d S' ∧ p.ok ∧ Ev l S S' := by
  obtain ⟨k, S1, e1, hk, ev1⟩ := below 4 g (by decide) (by decide)
  have e1 : F_law_below S [.ref l, .int 4] = .ok (.int k) S1 := e1
  obtain ⟨s, S2, e2, hs, ev2⟩ := slot24 ev1.2.2
  have ev12 := ev1.trans ev2
  obtain ⟨ys, S3, e3, ev3, hl3, ha⟩ := lc_run (s := ⟨rngL 0 2, none⟩) (i := 5) (l := S2.length) (r0 := [some (.ref l), some (.int n), some (.int k), some (.int s), none, none, none])
    (e := fCallN 2 F_law_below (fCons (fVar 0) (fCons (fBin opIx (fLst (fCons (fVar 1) (fCons (fBin opAdd (fVar 1) (fC (.int 1))) (fCons (fC (.int 10)) (fNil))))) (fCallN 2 F_law_below (fCons (fVar 0) (fCons (fC (.int 3)) (fNil))))) (fNil))))
    (R := fun _ y => ∃ q : Nat, y = .int q ∧ q < 10) (Inv := fun S' => Ev l S2 S') (fun _ _ => still_none) (fun S o h => h.set (Nat.le_refl _) (Ev.ne ev2.2.2))
    (rngL 0 2) (by
      intro d hd S acc ev hacc
      obtain ⟨q, T, e, hq, evT⟩ := below (S := S ++ [.lst [.int n, .int (n + 1), .int 10]]) 3 ev.2.2.app (by decide) (by decide)
      have e : F_law_below (S ++ [.lst [.int n, .int (n + 1), .int 10]]) [.ref l, .int 3] = .ok (.int q) T := e
      have hn := Ev.new ev.2.2 evT
      obtain ⟨m, hm0, hm, hat⟩ : ∃ m : Nat, 0 < m ∧ m ≤ 10 ∧ atI [D.int n, .int (n + 1), .int 10] (q : Int) = some (.int m) := by
        rw [atI_nat]
        have : q = 0 ∨ q = 1 ∨ q = 2 := by omega
        rcases this with rfl | rfl | rfl
        · exact ⟨n, by omega, by omega, rfl⟩
        · exact ⟨n + 1, by omega, by omega, rfl⟩
        · exact ⟨10, by omega, by omega, rfl⟩
      obtain ⟨v, T2, e4, hv, evT2⟩ := below m evT.2.2 hm0 (by omega)
      refine ⟨.int v, T2, ?_, ev.trans (evT.ofApp.trans evT2), (evT.ofApp.trans evT2).get hacc (Ev.ne ev2.2.2), v, rfl, by omega⟩
      simp [LINE, opAdd, e, opIx, hn, hat, e4])
    (S2 ++ [.lst []]) [] (Ev.refl ev2.2.2).app (by simp) (by simp [rngL, LINE])
  have hd2 : ∃ a b : Nat, ys = [.int a, .int b] ∧ a < 10 ∧ b < 10 := by
    have h2 : rngL 0 2 = [.int 0, .int 1] := rfl
    rw [h2] at ha
    cases ha with
    | cons q1 ha =>
      cases ha with
      | cons q2 ha =>
        cases ha
        obtain ⟨a, rfl, qa⟩ := q1
        obtain ⟨b, rfl, qb⟩ := q2
        exact ⟨a, b, rfl, qa, qb⟩
  obtain ⟨a, b, rfl, qa, qb⟩ := hd2
  have hl3 : S3[S2.length]? = some (.lst [.int a, .int b]) := hl3
  have hlt : S2.length < S3.length := (List.getElem?_eq_some_iff.mp hl3).1
  have na : ¬ 9 < (a : Int) := by omega
  have nb : ¬ 9 < (b : Int) := by omega
  have ea : (if (a : Int) < 9 then (a : Int) else 9) = a := by split <;> omega
  have eb : (if (b : Int) < 9 then (b : Int) else 9) = b := by split <;> omega
  have st : (Src.mk [.int a, .int b] (some (S2.length, [.int a, .int b]))).still (S3 ++ [.lst []]) = true := still_lst (by rw [List.getElem?_append_left hlt, hl3])
  have st2 : ∀ x, (Src.mk [.int a, .int b] (some (S2.length, [.int a, .int b]))).still (S3 ++ [.lst x]) = true := fun x => still_lst (by rw [List.getElem?_append_left hlt, hl3])
  have ev := ev12.trans ev3
  rw [F_law_put, fDef_k]
  simp [e1, e2, LINE, small62, e3, wipeE, seqSrc, hl3, lcGo, st2, bMin, min2, ea, eb]
  have hk4 : k = 0 ∨ k = 1 ∨ k = 2 ∨ k = 3 := by omega
  rcases hk4 with rfl | rfl | rfl | rfl
  · exact ⟨.fix a, _, by simp [opLt, opIx, LINE, Put.d]; rfl, qa, ev.app⟩
  · exact ⟨.fix a, _, by simp [opLt, opIx, LINE, Put.d]; rfl, qa, ev.app⟩
  · exact ⟨.reg s, _, by simp [opLt, opEq, eqD, opIx, LINE, Put.d]; rfl, hs, ev.app⟩
  · exact ⟨.test s a b, _, by simp [opLt, opEq, eqD, opIx, LINE, Put.d]; rfl, ⟨hs, qa, qb⟩, ev.app⟩
end M

set_option linter.all false
set_option maxRecDepth 100000
namespace M
open PySem CL L2
theorem optAll_some {α β : Type} {f : α → Option β} : ∀ {ds : List α}, (∀ d ∈ ds, ∃ x, f d = some x) → ∃ xs, optAll f ds = some xs ∧ xs.length = ds.length
  | [], _ => ⟨[], rfl, rfl⟩
  | d :: ds, h => by
    obtain ⟨x, hx⟩ := h d (by simp)
    obtain ⟨xs, hxs, hl⟩ := optAll_some (ds := ds) fun d' hd => h d' (by simp [hd])
    exact ⟨x :: xs, by simp [optAll, hx, hxs], by simp [hl]⟩
theorem pop_at (S : Store) (l : Nat) (ds : List D) (q : Nat) (y : D) (h : S[l]? = some (.lst ds)) (hq : ds[q]? = some y) (hs : q < 1000000) : mPop (.ref l) [.int q] S = some (y, S.set l (.lst (ds.eraseIdx q))) := by
  have h1 : -(2 ^ 63) ≤ (q : Int) ∧ (q : Int) < 2 ^ 63 := by omega
  have hlt : q < ds.length := (List.getElem?_eq_some_iff.mp hq).1
  have h2 : seqIndex? (q : Int) ds.length = some q := by simp [seqIndex?]; omega
  have h3 : (q : Int) < 9223372036854775808 := by omega
  simp [mPop, h, h1, h2, hq, h3]
theorem erase_perm {α : Type} (xs : List α) (q : Nat) (h : q < xs.length) : (xs[q] :: xs.eraseIdx q).Perm xs := by
  have e : xs = xs.take q ++ xs[q] :: xs.drop (q + 1) := by
    rw [List.getElem_cons_drop, List.take_append_drop]
  rw [List.eraseIdx_eq_take_drop_succ]
  conv => rhs; rw [e]
  exact List.perm_middle.symm
theorem ne_nil (S : Store) (l k : Nat) (ds : List D) (h : S[l]? = some (.lst ds)) (hk : S[k]? = some (.lst [])) (hd : ∀ d ∈ ds, ∃ x, toD S 59 d = some x) : opNe (.ref l) (.ref k) S = .ok (.bool (!ds.isEmpty)) S := by
  obtain ⟨xs, e, hl⟩ := optAll_some hd
  have e1 : toD S 60 (.ref l) = some (.list xs) := by simp [toD, h, e]
  have e2 : toD S 60 (.ref k) = some (.list []) := by simp [toD, hk, optAll]
  cases ds with
  | nil => simp at hl; subst hl; simp [opNe, eqD, e1, e2, PyData.eqv, PyData.eqvAll]
  | cons d ds => cases xs with
    | nil => simp at hl
    | cons x xs => simp [opNe, eqD, e1, e2, PyData.eqv, PyData.eqvAll]
theorem law_shuffled {S : Store} {l ln : Nat} {items : List D} (g : Gd l S) (hi : S[ln]? = some (.lst items)) (hn : ln ≠ l) (hz : items.length < 1000) (hd : ∀ S', Ev l S S' → ∀ d ∈ items, ∃ x, toD S' 59 d = some x) :
    ∃ (ys : List D) (lr : Nat) (S' : Store), F_law_shuffled S [.ref l, .ref ln] = .ok (.ref lr) S' ∧ S'[lr]? = some (.lst ys) ∧ ys.Perm items ∧ Ev l S S' ∧ S.length ≤ lr := by
  have hll := g.lt
  obtain ⟨r', S', e, hr, ev, ys, hy, hp⟩ := while_run (b := fExpr (fBM "list" mAppend (fVar 3) (fCons (fBM "list" mPop (fVar 2) (fCons (fCallN 2 F_law_below (fCons (fVar 0) (fCons (fCB bLen (fCons (fVar 2) (fNil))) (fNil)))) (fNil))) (fNil))))
    (t := fBl (fBin opNe (fVar 2) (fLst (fNil))))
    (J := fun n r S' => r = [some (.ref l), some (.ref ln), some (.ref S.length), some (.ref (S.length + 1))] ∧ Ev l S S' ∧ ∃ pool res, S'[S.length]? = some (.lst pool) ∧ S'[S.length + 1]? = some (.lst res) ∧ pool.length = n ∧ (pool ++ res).Perm items)
    (Q := fun r S' => r = [some (.ref l), some (.ref ln), some (.ref S.length), some (.ref (S.length + 1))] ∧ Ev l S S' ∧ ∃ res, S'[S.length + 1]? = some (.lst res) ∧ res.Perm items)
    (by
      rintro r T ⟨rfl, ev, pool, res, hpool, hres, hlen, hperm⟩
      have hp0 : pool = [] := List.eq_nil_of_length_eq_zero hlen
      subst hp0
      have h1 : (T ++ [O.lst []])[S.length]? = some (.lst []) := by rw [List.getElem?_append_left (List.getElem?_eq_some_iff.mp hpool).1]; exact hpool
      have h2 : (T ++ [O.lst []])[T.length]? = some (.lst []) := by simp
      have := ne_nil _ _ _ _ h1 h2 (by simp)
      exact ⟨T ++ [.lst []], by simp [LINE, this], rfl, ev.app, res, by rw [List.getElem?_append_left (List.getElem?_eq_some_iff.mp hres).1]; exact hres, by simpa using hperm⟩)
    (by
      rintro n r T ⟨rfl, ev, pool, res, hpool, hres, hlen, hperm⟩
      have hpl : pool.length + res.length = items.length := by have := hperm.length_eq; simpa using this
      have h1 : (T ++ [O.lst []])[S.length]? = some (.lst pool) := by rw [List.getElem?_append_left (List.getElem?_eq_some_iff.mp hpool).1]; exact hpool
      have h1r : (T ++ [O.lst []])[S.length + 1]? = some (.lst res) := by rw [List.getElem?_append_left (List.getElem?_eq_some_iff.mp hres).1]; exact hres
      have h2 : (T ++ [O.lst []])[T.length]? = some (.lst []) := by simp
      have hne := ne_nil _ _ _ _ h1 h2 (fun d hdm => hd _ ev.app d (hperm.subset (by simp [hdm])))
      have hemp : pool.isEmpty = false := by cases pool with
        | nil => simp at hlen
        | cons => rfl
      rw [hemp] at hne
      obtain ⟨q, T1, e1, hq, ev1⟩ := below (S := T ++ [.lst []]) pool.length (ev.2.2.app) (by omega) (by omega)
      have hq1 : pool[q]? = some pool[q] := List.getElem?_eq_getElem hq
      have g1 : T1[S.length]? = some (.lst pool) := ev1.get h1 (Nat.ne_of_gt hll)
      have g2 : T1[S.length + 1]? = some (.lst res) := ev1.get h1r (by omega)
      have hpop := pop_at T1 S.length pool q pool[q] g1 hq1 (by omega)
      have hS1 : S.length < T1.length := (List.getElem?_eq_some_iff.mp g1).1
      have hS2 : S.length + 1 < T1.length := (List.getElem?_eq_some_iff.mp g2).1
      have g3 : (T1.set S.length (.lst (pool.eraseIdx q)))[S.length + 1]? = some (.lst res) := by rw [List.getElem?_set_ne (by omega)]; exact g2
      have hrl : res.length < LINE := by simp [LINE]; omega
      have hap : mAppend (.ref (S.length + 1)) [pool[q]] (T1.set S.length (.lst (pool.eraseIdx q))) = some (.none, (T1.set S.length (.lst (pool.eraseIdx q))).set (S.length + 1) (.lst (res ++ [pool[q]]))) := by simp only [mAppend, g3, if_pos hrl]
      refine ⟨T ++ [.lst []], _, (T1.set S.length (.lst (pool.eraseIdx q))).set (S.length + 1) (.lst (res ++ [pool[q]])), by simp [LINE, hne], ?_, rfl, ?_, pool.eraseIdx q, res ++ [pool[q]], ?_, ?_, ?_, ?_⟩
      · simp [tyD, h1, h1r, bLen, lenD, seqOf, lstAt, e1, hpop, hap]
      · exact ((ev.app.trans ev1).set (Nat.le_refl _) (Nat.ne_of_gt hll)).set (by omega) (by omega)
      · rw [List.getElem?_set_ne (by omega)]; exact set_get hS1
      · exact set_get (by simpa using hS2)
      · rw [List.length_eraseIdx]; simp [hq]; omega
      · refine List.Perm.trans ?_ hperm
        rw [← List.append_assoc]
        have := erase_perm pool q hq
        exact (List.perm_append_comm.trans ((List.Perm.append_left [pool[q]] (List.Perm.refl _)).trans (by simpa using List.Perm.append_right res this))))
    items.length WFUEL _ (S ++ [.lst items] ++ [.lst []]) (by simp [WFUEL]; omega) ⟨rfl, (Ev.refl g).app.app, items, [], by simp, by simp, rfl, by simp⟩
  refine ⟨ys, S.length + 1, S', ?_, hy, hp, ev, by omega⟩
  rw [F_law_shuffled, fDef_k]
  simp at e
  simp [bList, seqOf, lstAt, hi, LINE]
  simp [e, hr]
end M

set_option linter.all false
set_option maxRecDepth 100000
namespace M
open PySem CL L2
/-! ### random decks -/
structure Card where
  nm : Str
  acts : List Act
  put : Put
structure Deck where
  w : Nat
  cards : List Card
def NAMES : List Str := ["a", "b", "cc", "longname", "x", "y", "zed", "pq"]
def DG : List Nat := (Str.ofString "0123456789").cps.toList
def LT : List Nat := (Str.ofString "abcdefghijklmnopqrstuvwxyz").cps.toList
def KW : List Str := ["wrap", "add", "copy", "swap", "emit"]
def RG : List Str := ["p", "q", "r", "s"]
/-- a name of a card -/
def nameB (x : Str) : Bool := x.cps.toList.all (fun c => decide (c ∈ LT)) && (decide (x.cps.toList.length ≤ 8) && (decide (1 ≤ x.cps.toList.length) && (decide (¬ x ∈ KW) && decide (¬ x ∈ RG))))
theorem nameB_ok {x : Str} (h : nameB x = true) : (∀ c ∈ x.cps.toList, c ∈ LT) ∧ x.cps.toList.length ≤ 8 ∧ 1 ≤ x.cps.toList.length ∧ ¬ x ∈ KW ∧ ¬ x ∈ RG := by
  unfold nameB at h
  simp only [Bool.and_eq_true, decide_eq_true_eq, List.all_eq_true] at h
  exact h
theorem names_nameB : ∀ x ∈ NAMES, nameB x = true := by decide +kernel
structure Card.ok (w : Nat) (c : Card) : Prop where
  nm : nameB c.nm = true
  few : c.acts.length ≤ 6
  acts : ∀ a ∈ c.acts, a.ok w
  put : c.put.ok
structure Deck.ok (most : Nat) (k : Deck) : Prop where
  w2 : 2 ≤ k.w
  w16 : k.w ≤ 16
  some : k.cards ≠ []
  few : k.cards.length ≤ most
  cards : ∀ c ∈ k.cards, c.ok k.w
  nodup : (k.cards.map Card.nm).Nodup
def CardAt (l : Nat) (S : Store) (d : D) (c : Card) : Prop := ∃ la, d = .tup [.str c.nm, .ref la, c.put.d] ∧ la ≠ l ∧ S[la]? = some (.lst (c.acts.map Act.d))
def DeckAt (l : Nat) (S : Store) (d : D) (k : Deck) : Prop := ∃ lc ds, d = .tup [.int k.w, .ref lc] ∧ lc ≠ l ∧ S[lc]? = some (.lst ds) ∧ All2 (CardAt l S) ds k.cards
theorem CardAt.ev {l : Nat} {S S' : Store} {d : D} {c : Card} (h : CardAt l S d c) (e : Ev l S S') : CardAt l S' d c := by
  obtain ⟨la, h1, h2, h3⟩ := h
  exact ⟨la, h1, h2, e.get h3 h2⟩
theorem DeckAt.ev {l : Nat} {S S' : Store} {d : D} {k : Deck} (h : DeckAt l S d k) (e : Ev l S S') : DeckAt l S' d k := by
  obtain ⟨lc, ds, h1, h2, h3, h4⟩ := h
  exact ⟨lc, ds, h1, h2, e.get h3 h2, h4.imp fun _ _ h => h.ev e⟩
theorem getApp {S X : Store} {j : Nat} {o : O} (h : S[j]? = some o) : (S ++ X)[j]? = some o := by rw [List.getElem?_append_left (List.getElem?_eq_some_iff.mp h).1]; exact h
theorem getLt {S : Store} {j : Nat} {o : O} (h : S[j]? = some o) : j < S.length := (List.getElem?_eq_some_iff.mp h).1
/-- [3, 7][below(d, 2)] -/
abbrev fP37 : FE := fBin opIx (fLst (fCons (fC (.int 3)) (fCons (fC (.int 7)) (fNil)))) (fCallN 2 F_law_below (fCons (fVar 0) (fCons (fC (.int 2)) (fNil))))
theorem pick37 {S : Store} {l : Nat} (g : Gd l S) : ∃ (v : Nat) (S' : Store), (∀ r : CL.Env, r[0]? = some (some (.ref l)) → fP37 r S = .ok (.int v) S') ∧ 0 < v ∧ v ≤ 7 ∧ Ev l S S' := by
  obtain ⟨q, S1, e, hq, ev⟩ := below (S := S ++ [.lst [.int 3, .int 7]]) 2 g.app (by decide) (by decide)
  have hn := Ev.new g ev
  have e : F_law_below (S ++ [.lst [.int 3, .int 7]]) [.ref l, .int 2] = _ := e
  have hq' : q = 0 ∨ q = 1 := by omega
  rcases hq' with rfl | rfl
  · exact ⟨3, S1, fun r hr => by simp [hr, LINE, e, opIx, hn], by decide, by decide, ev.ofApp⟩
  · exact ⟨7, S1, fun r hr => by simp [hr, LINE, e, opIx, hn], by decide, by decide, ev.ofApp⟩
theorem acts_map : ∀ {ds ys : List D} {w : Nat}, All2 (fun (_ : D) y => ∃ a : Act, y = a.d ∧ a.ok w) ds ys → ∃ as : List Act, ys = as.map Act.d ∧ (∀ a ∈ as, a.ok w) ∧ as.length = ds.length
  | _, _, _, .nil => ⟨[], rfl, by simp, rfl⟩
  | _, _, _, .cons ⟨a, h1, h2⟩ t => by
    obtain ⟨as, e, h3, h4⟩ := acts_map t
    exact ⟨a :: as, by simp [h1, e], by simp [h2]; exact h3, by simp [h4]⟩
/-- [action(d, wrap) for k in range(below(d, [3, 7][below(d, 2)]))] -/
abbrev fActs : FE := fLc (iRange1 (fCallN 2 F_law_below (fCons (fVar 0) (fCons fP37 (fNil))))) (gNm 7) (fYes) (fCallN 2 F_law_action (fCons (fVar 0) (fCons (fVar 3) (fNil)))) [7]
theorem deck_acts {S : Store} {l w : Nat} (g : Gd l S) (h0 : 2 ≤ w) (h1 : w ≤ 16) : ∃ (as : List Act) (la : Nat) (S' : Store), (∀ a1 a2 a4 a5 a6 a7, fActs [some (.ref l), a1, a2, some (.int w), a4, a5, a6, a7] S = .ok (.ref la) S') ∧ (∀ a ∈ as, a.ok w) ∧ as.length ≤ 6 ∧ S'[la]? = some (.lst (as.map Act.d)) ∧ la ≠ l ∧ S.length ≤ la ∧ Ev l S S' := by
  obtain ⟨v, S1, e1, v0, v7, ev1⟩ := pick37 g
  obtain ⟨n, S2, e2, hn, ev2⟩ := below v ev1.2.2 v0 (by omega)
  have hlt := ev2.2.2.lt
  have key : ∀ a1 a2 a4 a5 a6, ∃ ys S', lcGo ⟨rngL 0 n, none⟩ (gNm 7) fYes (fCallN 2 F_law_action (fCons (fVar 0) (fCons (fVar 3) (fNil)))) S2.length [some (.ref l), a1, a2, some (.int w), a4, a5, a6, none] (rngL 0 n) (S2 ++ [.lst []]) = .ok () S' ∧ Ev l S2 S' ∧ S'[S2.length]? = some (.lst ([] ++ ys)) ∧ All2 (fun (_ : D) y => ∃ a : Act, y = a.d ∧ a.ok w) (rngL 0 n) ys := fun a1 a2 a4 a5 a6 =>
    lc_run (fun _ _ => still_none) (fun S o h => h.set (Nat.le_refl _) (Ev.ne ev2.2.2)) _ (fun d hd T acc ev hacc => by
      obtain ⟨a, T', e, ha, ev'⟩ := law_action ev.2.2 h0 h1
      exact ⟨a.d, T', by simp [e], ev.trans ev', ev'.get hacc (Ev.ne ev2.2.2), a, rfl, ha⟩) _ _ (Ev.refl ev2.2.2).app (by simp) (by simp [rngL, LINE]; omega)
  obtain ⟨ys, S3, e3, ev3, hl3, ha⟩ := key none none none none none
  obtain ⟨as, rfl, ok, hlen⟩ := acts_map ha
  have hs : small62 (n : Int) = true := by unfold small62; apply decide_eq_true; omega
  have same : ∀ a1 a2 a4 a5 a6 T ds, lcGo ⟨rngL 0 n, none⟩ (gNm 7) fYes (fCallN 2 F_law_action (fCons (fVar 0) (fCons (fVar 3) (fNil)))) S2.length [some (.ref l), a1, a2, some (.int w), a4, a5, a6, none] ds T = lcGo ⟨rngL 0 n, none⟩ (gNm 7) fYes (fCallN 2 F_law_action (fCons (fVar 0) (fCons (fVar 3) (fNil)))) S2.length [some (.ref l), none, none, some (.int w), none, none, none, none] ds T := by
    intro a1 a2 a4 a5 a6 T ds
    induction ds generalizing T with
    | nil => rfl
    | cons d ds ih =>
      have ih' := fun T => ih T
      simp only [lcGo]
      simp [ih']
  refine ⟨as, S2.length, S3, fun a1 a2 a4 a5 a6 a7 => ?_, ok, by simp [hlen, rngL]; omega, by simpa using hl3, Ev.ne ev2.2.2, Nat.le_trans ev1.1 ev2.1, ev1.trans (ev2.trans ev3)⟩
  simp [e1, e2, hs, wipeE]
  rw [same, e3]; rfl
end M

set_option linter.all false
set_option maxRecDepth 100000
namespace M
open PySem CL L2
theorem cut_take {α : Type} (xs : List α) (n : Nat) : cutL xs none (some (n : Int)) = xs.take n := by
  unfold cutL
  rw [HT.sIx_nat, HT.sIx_none, List.drop_zero, Nat.sub_zero, ← List.take_take, List.take_of_length_le (Nat.le_refl xs.length)]
theorem toD_str {S : Store} {n : Nat} {x : Str} (h : PyData.strOk x = true) : toD S (n + 1) (.str x) = some (.str x) := by simp [toD, h]
theorem lt_strOk : ∀ c ∈ LT, PyData.strOk ⟨#[c]⟩ = true := by decide +kernel
theorem names_ok (x : Str) (h : nameB x = true) : PyData.strOk x = true := by
  obtain ⟨h1, _⟩ := nameB_ok h
  unfold PyData.strOk
  rw [Array.all_eq_true']
  intro c hc
  have := lt_strOk c (h1 c (by simpa using hc))
  unfold PyData.strOk at this
  simpa using this
theorem names_nodup : NAMES.Nodup := by decide +kernel
/-- [2, 3, 2 + below(d, 15)][below(d, 3)] -/
abbrev fWrap : FE := fBin opIx (fLst (fCons (fC (.int 2)) (fCons (fC (.int 3)) (fCons (fBin opAdd (fC (.int 2)) (fCallN 2 F_law_below (fCons (fVar 0) (fCons (fC (.int 15)) (fNil))))) (fNil))))) (fCallN 2 F_law_below (fCons (fVar 0) (fCons (fC (.int 3)) (fNil))))
theorem pickWrap {S : Store} {l : Nat} (g : Gd l S) : ∃ (v : Nat) (S' : Store), (∀ r : CL.Env, r[0]? = some (some (.ref l)) → fWrap r S = .ok (.int v) S') ∧ 2 ≤ v ∧ v ≤ 16 ∧ Ev l S S' := by
  obtain ⟨q, S1, e, hq, ev⟩ := below 15 g (by decide) (by decide)
  have e : F_law_below S [.ref l, .int 15] = _ := e
  obtain ⟨p, S2, e2, hp, ev2⟩ := below (S := S1 ++ [.lst [.int 2, .int 3, .int (2 + q)]]) 3 ev.2.2.app (by decide) (by decide)
  have e2 : F_law_below (S1 ++ [.lst [.int 2, .int 3, .int (2 + q)]]) [.ref l, .int 3] = _ := e2
  have hn := Ev.new ev.2.2 ev2
  have hp' : p = 0 ∨ p = 1 ∨ p = 2 := by omega
  rcases hp' with rfl | rfl | rfl
  · exact ⟨2, S2, fun r hr => by simp [hr, LINE, e, e2, opIx, hn, opAdd], by decide, by decide, ev.trans ev2.ofApp⟩
  · exact ⟨3, S2, fun r hr => by simp [hr, LINE, e, e2, opIx, hn, opAdd], by decide, by decide, ev.trans ev2.ofApp⟩
  · exact ⟨2 + q, S2, fun r hr => by simp [hr, LINE, e, e2, opIx, hn, opAdd], by omega, by omega, ev.trans ev2.ofApp⟩
def CardAtX (l lc : Nat) (S : Store) (d : D) (c : Card) : Prop := ∃ la, d = .tup [.str c.nm, .ref la, c.put.d] ∧ la ≠ l ∧ la ≠ lc ∧ S[la]? = some (.lst (c.acts.map Act.d))
theorem law_deck {S : Store} {l most : Nat} (g : Gd l S) (h0 : 1 ≤ most) (h1 : most ≤ 8) : ∃ (k : Deck) (d : D) (S' : Store), F_law_deck S [.ref l, .int most] = .ok d S' ∧ k.ok most ∧ DeckAt l S' d k ∧ Ev l S S' := by
  obtain ⟨m, S1, e1, hm, ev1⟩ := below most g (by omega) (by omega)
  obtain ⟨w, S2, e2, w2, w16, ev2⟩ := pickWrap ev1.2.2
  have gl2 := ev2.2.2.lt
  -- the list of cards, the names
  obtain ⟨ys, lr, S3, e3, hy, hp, ev3, hlr⟩ := law_shuffled (S := S2 ++ [.lst []] ++ [.lst (NAMES.map .str)]) (l := l) (ln := S2.length + 1) (items := NAMES.map .str) ev2.2.2.app.app (by simp) (by omega) (by decide) (fun S' _ d hd => by
    obtain ⟨x, hx, rfl⟩ := List.mem_map.mp hd
    exact ⟨_, toD_str (names_ok x (names_nameB x hx))⟩)
  simp at hlr
  obtain ⟨ns, rfl⟩ : ∃ ns : List Str, ys = ns.map .str := by
    have : ∀ y ∈ ys, ∃ x, y = D.str x := fun y hy => by
      obtain ⟨x, _, rfl⟩ := List.mem_map.mp (hp.subset hy)
      exact ⟨x, rfl⟩
    clear hy hp e3
    induction ys with
    | nil => exact ⟨[], rfl⟩
    | cons y ys ih =>
      obtain ⟨ns, e⟩ := ih fun y hy => this y (by simp [hy])
      obtain ⟨x, hx⟩ := this y (by simp)
      exact ⟨x :: ns, by simp [e, hx]⟩
  have hpn : ns.Perm NAMES := by
    have := hp.map (fun d => match d with | D.str x => x | _ => (default : Str))
    simpa [List.map_map, Function.comp_def] using this
  have hnn : (ns.take (m + 1)).Nodup := (hpn.nodup_iff.mpr names_nodup).sublist (List.take_sublist _ _)
  have hnl : (ns.take (m + 1)).length = m + 1 := by rw [List.length_take, hpn.length_eq]; show min (m + 1) 8 = m + 1; omega
  have hnm : ∀ x ∈ ns.take (m + 1), nameB x = true := fun x hx => names_nameB x (hpn.subset (List.mem_of_mem_take hx))
  have evb : Ev l S2 S3 := ev3.ofApp.ofApp
  have hc3 : S3[S2.length]? = some (.lst []) := ev3.get (by simp) (by omega)
  obtain ⟨r', S', e, hJ⟩ := for_run (s := ⟨(ns.take (m + 1)).map .str, some (S3.length, (ns.take (m + 1)).map .str)⟩) (g := gNm 5)
    (b := fSeq (fAsg fActs (gNm 6)) (fExpr (fBM "list" mAppend (fVar 4) (fCons (fTup (fCons (fVar 5) (fCons (fVar 6) (fCons (fCallN 2 F_law_put (fCons (fVar 0) (fCons (fVar 2) (fNil)))) (fNil))))) (fNil)))))
    (J := fun rem r T => ∃ (a5 a6 : Option D) (todo : List Str) (done : List Card) (ds : List D), r = [some (.ref l), some (.int most), some (.int ((m + 1 : Nat) : Int)), some (.int w), some (.ref S2.length), a5, a6, none] ∧ rem = todo.map .str ∧
      done.map Card.nm ++ todo = ns.take (m + 1) ∧ Ev l S2 T ∧ T[S3.length]? = some (.lst ((ns.take (m + 1)).map .str)) ∧ T[S2.length]? = some (.lst ds) ∧ All2 (CardAtX l S2.length T) ds done ∧ ∀ c ∈ done, c.ok w)
    (by rintro ds r T ⟨_, _, _, _, _, _, _, _, _, h, _⟩; exact still_lst h)
    (by
      rintro d rem r T ⟨a5, a6, todo, done, ds, rfl, hrem, hdone, ev, hsl, hcl, hall, hok⟩
      cases todo with
      | nil => simp at hrem
      | cons nm todo =>
        simp at hrem
        obtain ⟨rfl, rfl⟩ := hrem
        obtain ⟨as, la, T1, f1, aok, afew, hla, lan, lage, evT1⟩ := deck_acts ev.2.2 w2 w16
        obtain ⟨p, T2, f2, pok, evT2⟩ := law_put (n := m + 1) evT1.2.2 (by omega) (by omega)
        have hne : S2.length ≠ l := by omega
        have hcl1 : T1[S2.length]? = some (.lst ds) := evT1.get hcl hne
        have hcl2 : T2[S2.length]? = some (.lst ds) := evT2.get hcl1 hne
        have hdl : ds.length < LINE := by
          have : ds.length = done.length := hall.length
          have h2 : (done.map Card.nm ++ nm :: todo).length = m + 1 := by rw [hdone, hnl]
          simp at h2
          simp [LINE]; omega
        have hla2 : T2[la]? = some (.lst (as.map Act.d)) := evT2.get hla lan
        have evT := evT1.trans evT2
        have hla3 : la ≠ S2.length := by
          have h9 : S2.length < T.length := getLt hcl
          omega
        refine ⟨_, T, _, T2.set S2.length (.lst (ds ++ [.tup [.str nm, .ref la, p.d]])), rfl, ?_, some (.str nm), some (.ref la), todo, done ++ [⟨nm, as, p⟩], _, rfl, rfl, by simp [← hdone], (ev.trans evT).set (Nat.le_refl _) hne, ?_, set_get (getLt hcl2), ?_, ?_⟩
        · have hdl2 : ds.length < 16777216 := hdl
          have f2 : F_law_put T1 [.ref l, .int ((m : Int) + 1)] = .ok p.d T2 := f2
          simp [f1, f2, LINE, tyD, hcl1, mAppend, hcl2, hdl2]
        · rw [List.getElem?_set_ne (by have := getLt hc3; omega)]
          exact evT.get hsl (by have := getLt hc3; omega)
        · refine All2.append (hall.imp fun d c h => ?_) (.cons ⟨la, rfl, lan, hla3, by rw [List.getElem?_set_ne (Ne.symm hla3)]; exact hla2⟩ .nil)
          obtain ⟨lb, h1, h2, h3, h4⟩ := h
          exact ⟨lb, h1, h2, h3, by rw [List.getElem?_set_ne (Ne.symm h3)]; exact evT.get h4 h2⟩
        · intro c hc
          rcases List.mem_append.mp hc with hc | hc
          · exact hok c hc
          · simp at hc; subst hc
            exact ⟨hnm nm (by rw [← hdone]; simp), afew, aok, pok⟩)
    ((ns.take (m + 1)).map .str) _ (S3 ++ [.lst ((ns.take (m + 1)).map .str)]) ⟨none, none, ns.take (m + 1), [], [], rfl, rfl, by simp, evb.app, by simp, getApp hc3, .nil, by simp⟩
  obtain ⟨a5, a6, todo, done, ds, rfl, hrem, hdone, ev, hsl, hcl, hall, hok⟩ := hJ
  have ht : todo = [] := by cases todo with
    | nil => rfl
    | cons => simp at hrem
  subst ht
  simp at hdone
  have hdl : done.length = m + 1 := by have := congrArg List.length hdone; simpa [hnl] using this
  refine ⟨⟨w, done⟩, _, S', ?_, ⟨w2, w16, by intro h; simp at h; subst h; simp at hdl, by simp [hdl]; omega, hok, by simp [hdone]; exact hnn⟩, ⟨S2.length, ds, rfl, by omega, hcl, hall.imp fun _ _ ⟨la, h1, h2, _, h4⟩ => ⟨la, h1, h2, h4⟩⟩, (ev1.trans ev2).trans ev⟩
  rw [F_law_deck, fDef_k]
  have e3 : F_law_shuffled (S2 ++ [.lst []] ++ [.lst (NAMES.map .str)]) [.ref l, .ref (S2.length + 1)] = .ok (.ref lr) S3 := e3
  simp [NAMES] at e3
  have hcut : cutL (ns.map D.str) none (some (1 + (m : Int))) = (ns.take (m + 1)).map D.str := by
    have : (1 + (m : Int)) = ((m + 1 : Nat) : Int) := by omega
    rw [this, cut_take, List.map_take]
  have hm1 : (1 + (m : Int)) = ((m + 1 : Nat) : Int) := by omega
  simp [e1, opAdd, e2, LINE, e3, opSl, hy, hcut, seqSrc]
  simp only [List.map_take] at e
  rw [hm1]
  erw [e]
  simp [LINE]
end M

set_option linter.all false
set_option maxRecDepth 100000
namespace M
open PySem CL L2
/-- the store, with more behind it -/
def Fr (S S' : Store) : Prop := ∃ X, S' = S ++ X
theorem Fr.refl {S : Store} : Fr S S := ⟨[], by simp⟩
theorem Fr.trans {S S1 S2 : Store} (h : Fr S S1) (k : Fr S1 S2) : Fr S S2 := by
  obtain ⟨X, rfl⟩ := h; obtain ⟨Y, rfl⟩ := k; exact ⟨X ++ Y, by simp⟩
theorem Fr.app {S S1 X : Store} (h : Fr S S1) : Fr S (S1 ++ X) := h.trans ⟨X, rfl⟩
theorem Fr.ofApp {S S1 X : Store} (h : Fr (S ++ X) S1) : Fr S S1 := Fr.trans ⟨X, rfl⟩ h
theorem Fr.len {S S1 : Store} (h : Fr S S1) : S.length ≤ S1.length := by obtain ⟨X, rfl⟩ := h; simp
theorem Fr.get {S S1 : Store} {j : Nat} {o : O} (h : Fr S S1) (hj : S[j]? = some o) : S1[j]? = some o := by obtain ⟨X, rfl⟩ := h; exact getApp hj
theorem Fr.set {S S1 : Store} {k : Nat} {o : O} (h : Fr S S1) (hk : S.length ≤ k) : Fr S (S1.set k o) := by
  obtain ⟨X, rfl⟩ := h
  exact ⟨X.set (k - S.length) o, by rw [List.set_append_right _ _ hk]⟩
theorem Fr.gd {S S1 : Store} {l : Nat} (h : Fr S S1) (g : Gd l S) : Gd l S1 := by obtain ⟨X, rfl⟩ := h; exact g.app
theorem Fr.ev {S S1 : Store} {l : Nat} (h : Fr S S1) (g : Gd l S) : Ev l S S1 := by obtain ⟨X, rfl⟩ := h; exact (Ev.refl g).app
/-- a comprehension with a filter -/
theorem lc_filter {s : Src} {i : Nat} {t : FT} {e : FE} {l : Nat} {r0 : CL.Env} {P : D → Prop} {Inv : Store → Prop} (hst : ∀ S, Inv S → s.still S = true) (hset : ∀ S o, Inv S → Inv (S.set l o)) :
    ∀ (ds : List D) (hstep : ∀ d ∈ ds, ∀ S acc, Inv S → S[l]? = some (.lst acc) → (∃ S', t (r0.set i (some d)) S = .ok false S' ∧ Inv S' ∧ S'[l]? = some (.lst acc)) ∨ ∃ S1 y S', t (r0.set i (some d)) S = .ok true S1 ∧ e (r0.set i (some d)) S1 = .ok y S' ∧ Inv S' ∧ S'[l]? = some (.lst acc) ∧ P y) (S : Store) (acc : List D), Inv S → S[l]? = some (.lst acc) → acc.length + ds.length ≤ LINE →
      ∃ ys S', lcGo s (gNm i) t e l r0 ds S = .ok () S' ∧ Inv S' ∧ S'[l]? = some (.lst (acc ++ ys)) ∧ (∀ y ∈ ys, P y) ∧ ys.length ≤ ds.length
  | [], _, S, acc, hI, hl, _ => ⟨[], S, by simp [lcGo, hst S hI], hI, by simpa using hl, by simp, by simp⟩
  | d :: ds, hstep, S, acc, hI, hl, hn => by
    simp at hn
    rcases hstep d (by simp) S acc hI hl with ⟨S1, e1, hI1, hl1⟩ | ⟨S0, y, S1, e0, e1, hI1, hl1, hr⟩
    · obtain ⟨ys, S2, e2, hI2, hl2, ha, hb⟩ := lc_filter hst hset ds (fun d' hd => hstep d' (by simp [hd])) S1 acc hI1 hl1 (by omega)
      exact ⟨ys, S2, by simp [lcGo, hst S hI, e1, e2], hI2, hl2, ha, by simp; omega⟩
    · have hlt : l < S1.length := (List.getElem?_eq_some_iff.mp hl1).1
      obtain ⟨ys, S2, e2, hI2, hl2, ha, hb⟩ := lc_filter hst hset ds (fun d' hd => hstep d' (by simp [hd])) (S1.set l (.lst (acc ++ [y]))) (acc ++ [y]) (hset _ _ hI1) (set_get hlt) (by simp; omega)
      refine ⟨y :: ys, S2, ?_, hI2, by simpa using hl2, by simp [hr]; exact ha, by simp; omega⟩
      have hlen : acc.length < LINE := by omega
      simp [lcGo, hst S hI, e0, e1, hl1, e2, hlen]
theorem ints_of {ys : List D} (h : ∀ y ∈ ys, ∃ i : Int, y = .int i ∧ 0 < i) : ∃ is : List Int, ys = is.map .int ∧ ∀ x ∈ is, 0 < x := by
  induction ys with
  | nil => exact ⟨[], rfl, by simp⟩
  | cons y ys ih =>
    obtain ⟨is, e, h2⟩ := ih fun y hy => h y (by simp [hy])
    obtain ⟨i, hi, h3⟩ := h y (by simp)
    exact ⟨i :: is, by simp [e, hi], by simp [h3]; exact h2⟩
theorem law_random {S : Store} {l0 : Nat} {ns : List Int} {salt : Int} (h : S[l0]? = some (.fro (ns.map .int))) (hn : ns.length ≤ 63) (h0 : 0 ≤ salt) (h1 : salt < 2147483647) : ∃ (lr : Nat) (S' : Store), F_law_random S [.ref l0, .int salt] = .ok (.ref lr) S' ∧ Gd lr S' ∧ Fr S S' ∧ S.length ≤ lr := by
  obtain ⟨r', S', e, hJ⟩ := for_run (s := ⟨ns.map .int, some (l0, ns.map .int)⟩) (g := gNm 3) (b := fAsg (fBin opMod (fBin opAdd (fBin opMul (fVar 2) (fC (.int 31))) (fCB bAbs (fCons (fVar 3) (fNil)))) (fC (.int 2147483647))) (gNm 2))
    (J := fun rem r T => ∃ (seed : Int) (a3 : Option D) (todo : List Int), T = S ∧ rem = todo.map .int ∧ r = [some (.ref l0), some (.int salt), some (.int seed), a3] ∧ 0 ≤ seed ∧ seed < 2147483647)
    (by rintro ds r T ⟨_, _, _, rfl, _⟩; exact still_fro h)
    (by
      rintro d rem r T ⟨seed, a3, todo, rfl, hrem, rfl, s0, s1⟩
      cases todo with
      | nil => simp at hrem
      | cons i todo =>
        simp at hrem
        obtain ⟨rfl, rfl⟩ := hrem
        have hb : b64 seed = true := by unfold b64; apply decide_eq_true; omega
        refine ⟨_, T, _, T, rfl, ?_, (seed * 31 + (if i < 0 then -i else i)) % 2147483647, some (.int i), todo, rfl, rfl, rfl, Int.emod_nonneg _ (by decide), Int.emod_lt_of_pos _ (by decide)⟩
        simp [opMul, hb, bAbs, opAdd, opMod])
    (ns.map .int) [some (.ref l0), some (.int salt), some (.int salt), none] S ⟨salt, none, ns, rfl, rfl, rfl, h0, h1⟩
  obtain ⟨seed, a3, todo, rfl, _, rfl, s0, s1⟩ := hJ
  obtain ⟨ys, S2, e2, fr2, hl2, hp, hyl⟩ := lc_filter (s := ⟨ns.map .int, some (l0, ns.map .int)⟩) (i := 3) (l := S'.length + 1) (t := fBl (fBin opGe (fVar 3) (fBin opPow (fC (.int 10)) (fC (.int 18))))) (e := fVar 3) (r0 := [some (.ref l0), some (.int salt), some (.int seed), none])
    (P := fun y => ∃ i : Int, y = .int i ∧ 0 < i) (Inv := fun T => Fr (S' ++ [.lst [.int seed, .int 0]]) T) (fun T hT => still_fro (hT.get (getApp h))) (fun T o hT => Fr.set (k := S'.length + 1) hT (by simp)) (ns.map .int)
    (by
      intro d hd T acc fr hacc
      obtain ⟨i, _, rfl⟩ := List.mem_map.mp hd
      by_cases hi : (1000000000000000000 : Int) ≤ i
      · exact .inr ⟨T, .int i, T, by simp [opPow, opGe, hi], by simp, fr, hacc, i, rfl, by omega⟩
      · exact .inl ⟨T, by simp [opPow, opGe, hi], fr, hacc⟩)
    (S' ++ [.lst [.int seed, .int 0]] ++ [.lst []]) [] ⟨_, rfl⟩ (by simp) (by simp [LINE]; omega)
  obtain ⟨is, rfl, his⟩ := ints_of hp
  have hl2 : S2[S'.length + 1]? = some (.lst (is.map .int)) := hl2
  have hg : S2[S'.length]? = some (.lst [.int seed, .int 0]) := fr2.get (by simp)
  refine ⟨S2.length, S2 ++ [.lst (.int seed :: .int 0 :: is.map .int)], ?_, ⟨_, by simp, seed, 0, is, rfl, s0, s1, by decide, his⟩, fr2.ofApp.app, ?_⟩
  · have hz : 2 + is.length ≤ 16777216 := by simp at hyl; omega
    rw [F_law_random, fDef_k]
    simp at e2
    simp [seqSrc, h, e, LINE, getApp h, wipeE, e2, opAdd, hg, hl2, hz]
  · have := fr2.ofApp.len; omega
end M

set_option linter.all false
set_option maxRecDepth 100000
namespace M
open PySem CL L2
/-! ### texts -/
@[simp] theorem len_emitB : (Str.ofString "emit ").length = 5 := rfl
@[simp] theorem len_sp : (Str.ofString " ").length = 1 := rfl
@[simp] theorem len_add : (Str.ofString "add").length = 3 := rfl
@[simp] theorem len_copy : (Str.ofString "copy").length = 4 := rfl
@[simp] theorem len_swap : (Str.ofString "swap").length = 4 := rfl
@[simp] theorem len_emit : (Str.ofString "emit").length = 4 := rfl
@[simp] theorem len_qm : (Str.ofString " ? ").length = 3 := rfl
@[simp] theorem len_cl : (Str.ofString " : ").length = 3 := rfl
@[simp] theorem len_cm : (Str.ofString ", ").length = 2 := rfl
@[simp] theorem len_cs : (Str.ofString ": ").length = 2 := rfl
@[simp] theorem len_ar : (Str.ofString "-> ").length = 3 := rfl
@[simp] theorem len_sc : (Str.ofString ";").length = 1 := rfl
@[simp] theorem len_nl : (Str.ofString "\n").length = 1 := rfl
@[simp] theorem len_wrapB : (Str.ofString "wrap ").length = 5 := rfl
@[simp] theorem len_no : (Str.ofString "").length = 0 := rfl
@[simp] theorem len_wrap : (Str.ofString "wrap").length = 4 := rfl
@[simp] theorem len_arr : (Str.ofString "->").length = 2 := rfl
@[simp] theorem len_col : (Str.ofString ":").length = 1 := rfl
@[simp] theorem len_com : (Str.ofString ",").length = 1 := rfl
@[simp] theorem len_que : (Str.ofString "?").length = 1 := rfl
@[simp] theorem len_app (a b : Str) : (a ++ b).length = a.length + b.length := Str.length_append a b
theorem app_no (x : Str) : x ++ Str.ofString "" = x := Str.append_right_empty rfl
def rgT (s : Nat) : Str := match s with | 0 => "p" | 1 => "q" | 2 => "r" | _ => "s"
def nmT (n : Nat) : Str := Str.ofString (toString (n : Int))
@[simp] theorem len_reg (s : Nat) : (rgT s).length = 1 := by unfold rgT; split <;> rfl
theorem reg_tup {s : Nat} (h : s < 4) : atI ((["p", "q", "r", "s"] : List Str).map D.str) (s : Int) = some (.str (rgT s)) := by
  rw [atI_nat]
  have : s = 0 ∨ s = 1 ∨ s = 2 ∨ s = 3 := by omega
  rcases this with rfl | rfl | rfl | rfl <;> rfl
theorem reg_str {s : Nat} (h : s < 4) : (atI (Str.ofString "pqrs").cps.toList (s : Int)).map (fun c => (⟨#[c]⟩ : Str)) = some (rgT s) := by
  rw [atI_nat]
  have : s = 0 ∨ s = 1 ∨ s = 2 ∨ s = 3 := by omega
  rcases this with rfl | rfl | rfl | rfl <;> rfl
theorem num_all : ∀ n : Fin 1000, (nmT n.1).length ≤ 3 := by decide +kernel
theorem len_num {n : Nat} (h : n < 1000) : (nmT n).length ≤ 3 := num_all ⟨n, h⟩
theorem str_num {n : Nat} (h : n < 1000) (S : Store) : bStr [.int n] S = some (.str (nmT n), S) := by
  have : n.log2 < 1920 := by
    by_cases h0 : n = 0
    · subst h0; decide
    · exact (Nat.log2_lt h0).mpr (Nat.lt_trans h (by decide +kernel))
  simp [bStr, this]; rfl
def Act.t : Act → Str
  | .add s n => "add" ++ " " ++ rgT s ++ " " ++ nmT n
  | .copy s t => "copy" ++ " " ++ rgT s ++ " " ++ rgT t
  | .swap s t => "swap" ++ " " ++ rgT s ++ " " ++ rgT t
  | .emitR s => "emit " ++ rgT s
  | .emitN n => "emit " ++ nmT n
def Put.t : Put → Str
  | .fix n => nmT n
  | .reg s => rgT s
  | .test s a b => rgT s ++ " ? " ++ nmT a ++ " : " ++ nmT b
theorem Act.len {w : Nat} {a : Act} (h : a.ok w) (hw : w ≤ 16) : a.t.length ≤ 10 := by
  cases a with
  | add s n => have := len_num (n := n) (by have := h.2; omega); simp [Act.t]; omega
  | copy s t => simp [Act.t]
  | swap s t => simp [Act.t]
  | emitR s => simp [Act.t]
  | emitN n => have := len_num (n := n) (by have : n < w := h; omega); simp [Act.t]; omega
theorem Put.len {p : Put} (h : p.ok) : p.t.length ≤ 13 := by
  cases p with
  | fix n => have := len_num (n := n) (by have : n < 10 := h; omega); simp [Put.t]; omega
  | reg s => simp [Put.t]
  | test s a b =>
    have := len_num (n := a) (by have := h.2.1; omega)
    have := len_num (n := b) (by have := h.2.2; omega)
    simp [Put.t]; omega
theorem format_action {w : Nat} {a : Act} (h : a.ok w) (hw : w ≤ 16) (S : Store) : F_format_action S [a.d] = .ok (.str a.t) S := by
  rw [F_format_action, fDef_k]
  cases a with
  | add s n =>
    have hn : n < 1000 := by have := h.2; omega
    have l1 := len_num hn
    have r1 := reg_tup h.1
    simp at r1
    have l2 : 6 + (nmT n).length ≤ 16777216 := by omega
    simp +decide [Act.d, Act.t, opEq, eqD, opIx, r1, str_num hn, opAdd, LINE, l2]
  | copy s t =>
    have r1 := reg_tup h.1
    have r2 := reg_tup h.2
    simp at r1 r2
    simp +decide [Act.d, Act.t, opEq, eqD, opIx, r1, r2, opAdd, LINE]
  | swap s t =>
    have r1 := reg_tup h.1
    have r2 := reg_tup h.2
    simp at r1 r2
    simp +decide [Act.d, Act.t, opEq, eqD, opIx, r1, r2, opAdd, LINE]
  | emitR s =>
    have r1 := reg_tup (show s < 4 from h)
    simp at r1
    simp +decide [Act.d, Act.t, opEq, eqD, opIx, r1, opAdd, LINE, opIsN, isNone]
  | emitN n =>
    have hn : n < 1000 := by have : n < w := h; omega
    have l1 := len_num hn
    have l2 : 5 + (nmT n).length ≤ 16777216 := by omega
    simp +decide [Act.d, Act.t, opEq, eqD, str_num hn, opAdd, LINE, opIsN, isNone, l2]
theorem format_put {p : Put} (h : p.ok) (S : Store) : F_format_put S [p.d] = .ok (.str p.t) S := by
  rw [F_format_put, fDef_k]
  cases p with
  | fix n =>
    have hn : n < 1000 := by have : n < 10 := h; omega
    simp +decide [Put.d, Put.t, str_num hn, opIsN, isNone]
  | reg s =>
    have r1 := reg_tup (show s < 4 from h)
    simp at r1
    simp +decide [Put.d, Put.t, opIx, r1, opIsN, isNone]
  | test s a b =>
    have ha : a < 1000 := by have := h.2.1; omega
    have hb : b < 1000 := by have := h.2.2; omega
    have r1 := reg_tup h.1
    simp at r1
    have l1 := len_num ha
    have l2 := len_num hb
    have l3 : 4 + (nmT a).length ≤ 16777216 := by omega
    have l4 : 4 + (nmT a).length + 3 ≤ 16777216 := by omega
    have l5 : 4 + (nmT a).length + 3 + (nmT b).length ≤ 16777216 := by omega
    simp +decide [Put.d, Put.t, opIx, r1, opIsN, isNone, str_num ha, str_num hb, opAdd, LINE, l3, l4, l5]
end M

set_option linter.all false
set_option maxRecDepth 100000
namespace M
open PySem CL L2
theorem lc_map {α : Type} {f h : α → D} {s : Src} {i : Nat} {e : FE} {l : Nat} {r0 : CL.Env} {Inv : Store → Prop} (hst : ∀ S, Inv S → s.still S = true) (hset : ∀ S o, Inv S → Inv (S.set l o)) :
    ∀ (xs : List α) (hstep : ∀ x ∈ xs, ∀ S acc, Inv S → S[l]? = some (.lst acc) → ∃ S', e (r0.set i (some (f x))) S = .ok (h x) S' ∧ Inv S' ∧ S'[l]? = some (.lst acc)) (S : Store) (acc : List D), Inv S → S[l]? = some (.lst acc) → acc.length + xs.length ≤ LINE →
      ∃ S', lcGo s (gNm i) fYes e l r0 (xs.map f) S = .ok () S' ∧ Inv S' ∧ S'[l]? = some (.lst (acc ++ xs.map h))
  | [], _, S, acc, hI, hl, _ => ⟨S, by simp [lcGo, hst S hI], hI, by simpa using hl⟩
  | x :: xs, hstep, S, acc, hI, hl, hn => by
    obtain ⟨S1, e1, hI1, hl1⟩ := hstep x (by simp) S acc hI hl
    have hlt : l < S1.length := getLt hl1
    simp at hn
    obtain ⟨S2, e2, hI2, hl2⟩ := lc_map hst hset xs (fun d' hd => hstep d' (by simp [hd])) (S1.set l (.lst (acc ++ [h x]))) (acc ++ [h x]) (hset _ _ hI1) (set_get hlt) (by simp; omega)
    refine ⟨S2, ?_, hI2, by simpa using hl2⟩
    have hlen : acc.length < LINE := by omega
    simp [lcGo, hst S hI, e1, hl1, e2, hlen]
theorem strsD_map {α : Type} (f : α → Str) (xs : List α) : strsD (xs.map fun x => D.str (f x)) = some (xs.map f) := by
  induction xs with
  | nil => rfl
  | cons x xs ih => simp [strsD, ih]
def Card.d (c : Card) : D := .tup [.str c.nm, .tup (c.acts.map Act.d), c.put.d]
def Card.at (c : Card) : Str := Txt.join ", " (c.acts.map Act.t)
def Card.t (c : Card) : Str := c.nm ++ ": " ++ (if c.acts = [] then Str.ofString "" else c.at ++ " ") ++ "-> " ++ c.put.t ++ ";"
theorem name_len (x : Str) (h : nameB x = true) : x.length ≤ 8 := by
  have := (nameB_ok h).2.1
  simpa [Str.length] using this
theorem join_len (sep : Str) (xs : List Str) : (Txt.join sep xs).length ≤ (xs.map (·.length)).sum + xs.length * sep.length := by
  rw [show Txt.join sep xs = Str.join sep xs from StrLaws.glued_eq_join sep xs]
  exact StrLaws.join_length_le sep xs
theorem sum_le {xs : List Nat} {b : Nat} (h : ∀ x ∈ xs, x ≤ b) : xs.sum ≤ xs.length * b := by
  induction xs with
  | nil => simp
  | cons x xs ih =>
    have h1 := h x (by simp)
    have h2 := ih fun y hy => h y (by simp [hy])
    simp [Nat.succ_mul]; omega
theorem Card.at_sum {w : Nat} {c : Card} (h : c.ok w) (hw : w ≤ 16) : ((c.acts.map Act.t).map (·.length)).sum + (c.acts.map Act.t).length * 2 ≤ 72 := by
  have h1 : ((c.acts.map Act.t).map (·.length)).sum ≤ ((c.acts.map Act.t).map (·.length)).length * 10 := sum_le fun x hx => by
    obtain ⟨y, hy, rfl⟩ := List.mem_map.mp hx
    obtain ⟨a, ha, rfl⟩ := List.mem_map.mp hy
    exact Act.len (h.acts a ha) hw
  have h2 := h.few
  simp at h1
  simp
  omega
theorem Card.at_len {w : Nat} {c : Card} (h : c.ok w) (hw : w ≤ 16) : c.at.length ≤ 72 := by
  refine Nat.le_trans (join_len _ _) ?_
  have := c.at_sum h hw
  simpa using this
theorem Card.len {w : Nat} {c : Card} (h : c.ok w) (hw : w ≤ 16) : c.t.length ≤ 110 := by
  have h1 := c.at_len h hw
  have h2 := name_len _ h.nm
  have h3 := Put.len h.put
  by_cases he : c.acts = []
  · simp [Card.t, he]; omega
  · simp [Card.t, he]; omega
theorem at_empty {c : Card} (h : c.acts = []) : c.at = Str.ofString "" := by simp [Card.at, h]; rfl
theorem at_some {c : Card} (h : c.acts ≠ []) : c.at.length ≠ 0 := by
  have e : c.at = Str.join ", " (c.acts.map Act.t) := StrLaws.glued_eq_join _ _
  cases ha : c.acts with
  | nil => exact absurd ha h
  | cons a as =>
    have hp : 0 < a.t.length := by cases a <;> simp [Act.t] <;> omega
    rw [e, ha]
    cases as with
    | nil => simp [Str.join]; omega
    | cons b bs => simp [Str.join]
theorem addS {x y : Str} {S : Store} (h : x.length + y.length ≤ 16777216) : opAdd (.str x) (.str y) S = .ok (.str (x ++ y)) S := if_pos h
theorem format_card {w : Nat} {c : Card} (h : c.ok w) (hw : w ≤ 16) (S : Store) : ∃ S', F_format_card S [c.d] = .ok (.str c.t) S' ∧ Fr S S' := by
  obtain ⟨S1, e1, fr1, hl1⟩ := lc_map (s := ⟨c.acts.map Act.d, none⟩) (f := Act.d) (h := fun a => .str a.t) (i := 5) (e := fCallN 1 F_format_action (fCons (fVar 5) (fNil))) (l := S.length) (r0 := [some c.d, some (.str c.nm), some (.tup (c.acts.map Act.d)), some c.put.d, none, none]) (Inv := Fr S)
    (fun _ _ => still_none) (fun T o hT => hT.set (Nat.le_refl _)) c.acts (fun a ha T acc fr hacc => ⟨T, by simp [format_action (h.acts a ha) hw], fr, hacc⟩) (S ++ [.lst []]) [] ⟨_, rfl⟩ (by simp) (by have := h.few; simp [LINE]; omega)
  have hl1 : S1[S.length]? = some (.lst (c.acts.map fun a => D.str a.t)) := hl1
  have hs := c.at_sum h hw
  have hs2 : (List.map (fun x => x.length) (List.map Act.t c.acts)).sum + (List.map Act.t c.acts).length * 2 ≤ 16777216 := by omega
  have h1 := c.at_len h hw
  have h2 := name_len _ h.nm
  have h3 := Put.len h.put
  refine ⟨S1, ?_, fr1⟩
  rw [F_format_card, fDef_k]
  have ej : mJoin (.str ", ") [.ref S.length] S1 = some (.str c.at, S1) := by
    simp only [mJoin, seqOf, lstAt, hl1, Option.bind_some, strsD_map]
    rw [if_pos (by rw [len_cm]; exact hs2)]; rfl
  have hne : decide (c.at = Str.ofString "") = decide (c.acts = []) := by
    by_cases he : c.acts = []
    · simp [he, at_empty he]
    · have := at_some he
      have : c.at ≠ Str.ofString "" := fun e => this (by rw [e]; rfl)
      simp [he, this]
  have e1' : lcGo ⟨c.acts.map Act.d, none⟩ (gNm 5) fYes (fCallN 1 F_format_action (fCons (fVar 5) (fNil))) S.length [some (.tup [.str c.nm, .tup (c.acts.map Act.d), c.put.d]), some (.str c.nm), some (.tup (c.acts.map Act.d)), some c.put.d, none, none] (c.acts.map Act.d) (S ++ [.lst []]) = .ok () S1 := e1
  have l1 : c.nm.length ≤ 16777214 := by omega
  have l2 : c.nm.length ≤ 16777211 := by omega
  have l3 : c.nm.length + 5 + c.put.t.length ≤ 16777216 := by omega
  have l4 : c.nm.length + 5 + c.put.t.length ≤ 16777215 := by omega
  have l5 : c.at.length ≤ 16777215 := by omega
  have l6 : c.nm.length + 2 + (c.at.length + 1) ≤ 16777216 := by omega
  have l7 : c.nm.length + 2 + (c.at.length + 1) + 3 ≤ 16777216 := by omega
  have l8 : c.nm.length + 2 + (c.at.length + 1) + 3 + c.put.t.length ≤ 16777216 := by omega
  have l9 : c.nm.length + 2 + (c.at.length + 1) + 3 + c.put.t.length + 1 ≤ 16777216 := by omega
  by_cases he : c.acts = []
  · simp only [he, List.map_nil] at e1'
    have hz := at_empty he
    rw [hz] at ej
    simp +decide [Card.d, he, seqSrc, wipeE, e1', tyD, ej, opNe, eqD, opAdd, LINE, l1, l2, l3, l4, l5, l6, l7, l8, l9, format_put h.put, Card.t]
  · have hne2 : ¬ c.at = Str.ofString "" := fun e => at_some he (by rw [e]; rfl)
    simp +decide [Card.d, he, seqSrc, wipeE, e1', tyD, ej, opNe, eqD, opAdd, LINE, l1, l2, l3, l4, l5, l6, l7, l8, l9, format_put h.put, Card.t, hne2]
end M

set_option linter.all false
set_option maxRecDepth 100000
namespace M
open PySem CL L2
def Deck.d (k : Deck) : D := .tup [.int k.w, .tup (k.cards.map Card.d)]
def Deck.rows (k : Deck) : List Str := (("wrap " ++ nmT k.w ++ ";") :: k.cards.map Card.t)
def Deck.t (k : Deck) : Str := Txt.join "\n" k.rows
theorem Deck.rows_sum {m : Nat} {k : Deck} (h : k.ok m) (hm : m ≤ 8) : (k.rows.map (·.length)).sum + k.rows.length * 1 ≤ 1008 := by
  have hw := h.w16
  have h1 : (k.rows.map (·.length)).sum ≤ (k.rows.map (·.length)).length * 110 := sum_le fun x hx => by
    obtain ⟨y, hy, rfl⟩ := List.mem_map.mp hx
    rcases List.mem_cons.mp hy with rfl | hy
    · have := len_num (n := k.w) (by omega)
      simp; omega
    · obtain ⟨c, hc, rfl⟩ := List.mem_map.mp hy
      exact Card.len (h.cards c hc) hw
  have h2 := h.few
  simp [Deck.rows] at h1 ⊢
  omega
theorem Deck.len {m : Nat} {k : Deck} (h : k.ok m) (hm : m ≤ 8) : k.t.length ≤ 1008 := by
  refine Nat.le_trans (join_len _ _) ?_
  have := k.rows_sum h hm
  simpa using this
theorem strsD_strs (xs : List Str) : strsD (xs.map D.str) = some xs := by
  have := strsD_map id xs
  simpa using this
theorem format_parsed {m : Nat} {k : Deck} (h : k.ok m) (hm : m ≤ 8) (S : Store) : ∃ S', F_format_parsed S [k.d] = .ok (.str k.t) S' ∧ Fr S S' := by
  have hw := h.w16
  have hwn : k.w < 1000 := by omega
  obtain ⟨S1, e1, fr1, hl1⟩ := lc_map (s := ⟨k.cards.map Card.d, none⟩) (f := Card.d) (h := fun c => .str c.t) (i := 1) (e := fCallN 1 F_format_card (fCons (fVar 1) (fNil))) (l := S.length + 1) (r0 := [some k.d, none]) (Inv := Fr (S ++ [.lst [.str ("wrap " ++ nmT k.w ++ ";")]]))
    (fun _ _ => still_none) (fun T o hT => Fr.set (k := S.length + 1) hT (by simp)) k.cards (fun c hc T acc fr hacc => by
      obtain ⟨T', e, f⟩ := format_card (h.cards c hc) hw T
      exact ⟨T', by simp [e], fr.trans f, f.get hacc⟩) (S ++ [.lst [.str ("wrap " ++ nmT k.w ++ ";")]] ++ [.lst []]) [] ⟨_, rfl⟩ (by simp) (by have := h.few; simp [LINE]; omega)
  have hl1 : S1[S.length + 1]? = some (.lst (k.cards.map fun c => D.str c.t)) := hl1
  have hl0 : S1[S.length]? = some (.lst [.str ("wrap " ++ nmT k.w ++ ";")]) := fr1.get (by simp)
  have hn := len_num hwn
  have l1 : 5 + (nmT k.w).length ≤ 16777216 := by omega
  have l2 : 5 + (nmT k.w).length + 1 ≤ 16777216 := by omega
  have l3 : 1 + k.cards.length ≤ 16777216 := by have := h.few; omega
  have hs := k.rows_sum h hm
  have ej : mJoin (.str "\n") [.ref S1.length] (S1 ++ [.lst (.str ("wrap " ++ nmT k.w ++ ";") :: k.cards.map fun c => D.str c.t)]) = some (.str k.t, S1 ++ [.lst (.str ("wrap " ++ nmT k.w ++ ";") :: k.cards.map fun c => D.str c.t)]) := by
    have : strsD (.str ("wrap " ++ nmT k.w ++ ";") :: k.cards.map fun c => D.str c.t) = some k.rows := by
      simp [strsD, strsD_map, Deck.rows]
    simp only [mJoin, seqOf, lstAt, List.getElem?_concat_length, Option.bind_some, this]
    rw [if_pos (by rw [len_nl]; omega)]; rfl
  refine ⟨S1 ++ [.lst (.str ("wrap " ++ nmT k.w ++ ";") :: k.cards.map fun c => D.str c.t)], ?_, fr1.ofApp.app⟩
  rw [F_format_parsed, fDef_k]
  simp only [Deck.d] at e1 ⊢
  simp at e1
  simp +decide [opIx, str_num hwn, opAdd, LINE, l1, l2, seqSrc, wipeE, e1, hl0, hl1, l3, tyD, ej]
end M

set_option linter.all false
set_option maxRecDepth 100000
namespace M
open PySem CL L2
theorem ix_pqrs {s : Nat} (h : s < 4) (S : Store) : opIx (.str "pqrs") (.int s) S = .ok (.str (rgT s)) S := by
  have : s = 0 ∨ s = 1 ∨ s = 2 ∨ s = 3 := by omega
  rcases this with rfl | rfl | rfl | rfl <;> rfl
theorem ix_pqrs0 (S : Store) : opIx (.str "pqrs") (.int 0) S = .ok (.str (rgT 0)) S := ix_pqrs (s := 0) (by decide) S
theorem rg_ok (s : Nat) : PyData.strOk (rgT s) = true := by unfold rgT; split <;> decide +kernel
theorem act_ok {w : Nat} {a : Act} (h : a.ok w) (hw : w ≤ 16) : PyData.strOk a.t = true := by
  have nk : ∀ n : Fin 1000, PyData.strOk (nmT n.1) = true := by decide +kernel
  have app : ∀ x y : Str, PyData.strOk x = true → PyData.strOk y = true → PyData.strOk (x ++ y) = true := fun x y hx hy => by
    unfold PyData.strOk at *
    rw [Str.cps_append, Array.all_append, hx, hy]; rfl
  cases a with
  | add s n => exact app _ _ (app _ _ (app _ _ (app _ _ (by decide +kernel) (by decide +kernel)) (rg_ok s)) (by decide +kernel)) (nk ⟨n, by have := h.2; omega⟩)
  | copy s t => exact app _ _ (app _ _ (app _ _ (app _ _ (by decide +kernel) (by decide +kernel)) (rg_ok s)) (by decide +kernel)) (rg_ok t)
  | swap s t => exact app _ _ (app _ _ (app _ _ (app _ _ (by decide +kernel) (by decide +kernel)) (rg_ok s)) (by decide +kernel)) (rg_ok t)
  | emitR s => exact app _ _ (by decide +kernel) (rg_ok s)
  | emitN n => exact app _ _ (by decide +kernel) (nk ⟨n, by have : n < w := h; omega⟩)
theorem law_card_text {w la : Nat} {c : Card} {S : Store} (h : c.ok w) (hw : w ≤ 16) (hla : S[la]? = some (.lst (c.acts.map Act.d))) : ∃ S', F_law_card_text S [.tup [.str c.nm, .ref la, c.put.d]] = .ok (.str c.t) S' ∧ Fr S S' := by
  obtain ⟨r', S1, e1, hJ⟩ := for_run (s := ⟨c.acts.map Act.d, some (la, c.acts.map Act.d)⟩) (g := gTupl 3 (gsCons (gNm 5) (gsCons (gNm 6) (gsCons (gNm 7) (gsNil)))))
    (b := (fSeq (fAsg (fIfE (fOr (fBl (fBin opEq (fVar 5) (fC (.str "add")))) (fBl (fBin opIsN (fVar 6) (fC .none)))) (fCB bStr (fCons (fVar 7) (fNil))) (fBin opIx (fC (.str "pqrs")) (fVar 7))) (gNm 8)) (fExpr (fBM "list" mAppend (fVar 4) (fCons (fBin opAdd (fBin opAdd (fVar 5) (fC (.str " "))) (fIfE (fBl (fBin opIsN (fVar 6) (fC .none))) (fVar 8) (fBin opAdd (fBin opIx (fC (.str "pqrs")) (fVar 6)) (fIfE (fBl (fBin opEq (fVar 5) (fC (.str "emit")))) (fC (.str "")) (fBin opAdd (fC (.str " ")) (fVar 8)))))) (fNil))))))
    (J := fun rem r T => ∃ (a5 a6 a7 a8 : Option D) (done todo : List Act), done ++ todo = c.acts ∧ rem = todo.map Act.d ∧ r = [some (.tup [.str c.nm, .ref la, c.put.d]), some (.str c.nm), some (.ref la), some c.put.d, some (.ref S.length), a5, a6, a7, a8, none, none, none] ∧ Fr S T ∧ T[S.length]? = some (.lst (done.map fun a => D.str a.t)))
    (by rintro ds r T ⟨_, _, _, _, _, _, _, _, _, fr, _⟩; exact still_lst (fr.get hla))
    (by
      rintro d rem r T ⟨a5, a6, a7, a8, done, todo, hd, hrem, rfl, fr, hl⟩
      cases todo with
      | nil => simp at hrem
      | cons a todo =>
        simp at hrem
        obtain ⟨rfl, rfl⟩ := hrem
        have ha : a.ok w := h.acts a (by rw [← hd]; simp)
        have hdl : done.length < 16777216 := by have h1 := h.few; rw [← hd] at h1; simp at h1; omega
        have fin : ∀ b5 b6 b7 b8, ∃ (a5 a6 a7 a8 : Option D) (done' todo' : List Act), done' ++ todo' = c.acts ∧ todo.map Act.d = todo'.map Act.d ∧ [some (.tup [.str c.nm, .ref la, c.put.d]), some (.str c.nm), some (.ref la), some c.put.d, some (.ref S.length), b5, b6, b7, b8, none, none, none] = [some (.tup [.str c.nm, .ref la, c.put.d]), some (.str c.nm), some (.ref la), some c.put.d, some (.ref S.length), a5, a6, a7, a8, none, none, none] ∧ Fr S (T.set S.length (.lst ((done ++ [a]).map fun a => D.str a.t))) ∧ (T.set S.length (.lst ((done ++ [a]).map fun a => D.str a.t)))[S.length]? = some (.lst (done'.map fun a => D.str a.t)) :=
          fun b5 b6 b7 b8 => ⟨b5, b6, b7, b8, done ++ [a], todo, by simp [← hd], rfl, rfl, fr.set (Nat.le_refl _), set_get (getLt hl)⟩
        cases a with
        | add s n =>
          have hn : n < 1000 := by have := ha.2; omega
          have ln := len_num hn
          have l2 : 2 + (nmT n).length ≤ 16777216 := by omega
          have l3 : 1 + (nmT n).length ≤ 16777216 := by omega
          have l4 : 1 + (1 + (nmT n).length) ≤ 16777216 := by omega
          have l5 : 4 + (1 + (1 + (nmT n).length)) ≤ 16777216 := by omega
          refine ⟨_, _, _, _, rfl, ?_, fin (some (.str "add")) (some (.int s)) (some (.int n)) (some (.str (nmT n)))⟩
          simp +decide [opEq, eqD, str_num hn, opIsN, isNone, ix_pqrs ha.1, opAdd, LINE, l2, l3, l4, l5, tyD, hl, mAppend, hdl, Act.t, Str.append_assoc]
        | copy s t =>
          refine ⟨_, _, _, _, rfl, ?_, fin (some (.str "copy")) (some (.int s)) (some (.int t)) (some (.str (rgT t)))⟩
          simp +decide [opEq, eqD, opIsN, isNone, ix_pqrs ha.1, ix_pqrs ha.2, opAdd, LINE, tyD, hl, mAppend, hdl, Act.t, Str.append_assoc]
        | swap s t =>
          refine ⟨_, _, _, _, rfl, ?_, fin (some (.str "swap")) (some (.int s)) (some (.int t)) (some (.str (rgT t)))⟩
          simp +decide [opEq, eqD, opIsN, isNone, ix_pqrs ha.1, ix_pqrs ha.2, opAdd, LINE, tyD, hl, mAppend, hdl, Act.t, Str.append_assoc]
        | emitR s =>
          have es : Str.ofString "emit" ++ (Str.ofString " " ++ rgT s) = Str.ofString "emit " ++ rgT s := by rw [← Str.append_assoc]; rfl
          refine ⟨_, _, _, _, rfl, ?_, fin (some (.str "emit")) (some (.int s)) (some (.int 0)) (some (.str (rgT 0)))⟩
          simp +decide [opEq, eqD, opIsN, isNone, ix_pqrs (show s < 4 from ha), ix_pqrs0, opAdd, LINE, tyD, hl, mAppend, hdl, Act.t, Str.append_assoc, app_no, es]
        | emitN n =>
          have hn : n < 1000 := by have : n < w := ha; omega
          have ln := len_num hn
          have l5 : 5 + (nmT n).length ≤ 16777216 := by omega
          have es : Str.ofString "emit" ++ (Str.ofString " " ++ nmT n) = Str.ofString "emit " ++ nmT n := by rw [← Str.append_assoc]; rfl
          refine ⟨_, _, _, _, rfl, ?_, fin (some (.str "emit")) (some .none) (some (.int n)) (some (.str (nmT n)))⟩
          simp +decide [opEq, eqD, opIsN, isNone, str_num hn, opAdd, LINE, l5, tyD, hl, mAppend, hdl, Act.t, Str.append_assoc, es])
    (c.acts.map Act.d) [some (.tup [.str c.nm, .ref la, c.put.d]), some (.str c.nm), some (.ref la), some c.put.d, some (.ref S.length), none, none, none, none, none, none, none] (S ++ [.lst []]) ⟨none, none, none, none, [], c.acts, rfl, rfl, rfl, ⟨_, rfl⟩, by simp⟩
  obtain ⟨a5, a6, a7, a8, done, todo, hd, hrem, rfl, fr, hl⟩ := hJ
  have ht : todo = [] := by cases todo with
    | nil => rfl
    | cons => simp at hrem
  subst ht
  simp at hd
  subst hd
  have h1 := c.at_len h hw
  have h2 := name_len _ h.nm
  have h3 := Put.len h.put
  have hs := c.at_sum h hw
  have ej : mJoin (.str ", ") [.ref S.length] S1 = some (.str c.at, S1) := by
    simp only [mJoin, seqOf, lstAt, hl, Option.bind_some, strsD_map]
    rw [if_pos (by rw [len_cm]; omega)]; rfl
  have hne := ne_nil (S1 ++ [.lst []]) S.length S1.length (c.acts.map fun a => D.str a.t) (getApp hl) (by simp) (by
    intro d hdm
    obtain ⟨a, ha, rfl⟩ := List.mem_map.mp hdm
    exact ⟨_, toD_str (act_ok (h.acts a ha) hw)⟩)
  refine ⟨S1 ++ [.lst []], ?_, fr.app⟩
  have hm : opMul (.str " ") (.int (if c.acts = [] then 0 else 1)) (S1 ++ [.lst []]) = .ok (.str (if c.acts = [] then Str.ofString "" else Str.ofString " ")) (S1 ++ [.lst []]) := by
    cases c.acts <;> rfl
  have hem : (c.acts.map fun a => D.str a.t).isEmpty = decide (c.acts = []) := by cases c.acts <;> rfl
  rw [hem] at hne
  rw [F_law_card_text, fDef_k]
  have hmid : (if c.acts = [] then Str.ofString "" else Str.ofString " ").length ≤ 1 := by split <;> simp
  have htxt : c.nm ++ Str.ofString ": " ++ c.at ++ (if c.acts = [] then Str.ofString "" else Str.ofString " ") ++ Str.ofString "-> " ++ c.put.t ++ Str.ofString ";" = c.t := by
    by_cases he : c.acts = []
    · simp [Card.t, he, at_empty he, app_no]
    · simp [Card.t, he, Str.append_assoc]
  generalize hmd : (if c.acts = [] then Str.ofString "" else Str.ofString " ") = md at hm hmid htxt
  have l1 : c.nm.length ≤ 16777214 := by omega
  have l2 : c.nm.length + 2 + c.at.length ≤ 16777216 := by omega
  have l3 : c.nm.length + 2 + c.at.length + md.length ≤ 16777216 := by omega
  have l4 : c.nm.length + 2 + c.at.length + md.length + 3 ≤ 16777216 := by omega
  have l5 : c.nm.length + 2 + c.at.length + md.length + 3 + c.put.t.length ≤ 16777216 := by omega
  have l6 : c.nm.length + 2 + c.at.length + md.length + 3 + c.put.t.length + 1 ≤ 16777216 := by omega
  rw [← htxt]
  cases hp : c.put with
  | fix n =>
    have hok := h.put
    rw [hp] at hok
    have hn : n < 1000 := by have : n < 10 := hok; omega
    simp only [hp, Put.d, Put.t] at e1 l5 l6 ⊢
    simp +decide [LINE, seqSrc, hla, getApp hla, e1, str_num hn, opIsN, opNotN, isNone, tyD, ej, opAdd, l1, l2, l3, l4, l5, l6, hne, bInt, hm]
  | reg s =>
    have hok := h.put
    rw [hp] at hok
    simp only [hp, Put.d, Put.t] at e1 l5 l6 ⊢
    simp at l5 l6
    simp +decide [LINE, seqSrc, hla, getApp hla, e1, ix_pqrs (show s < 4 from hok), opIsN, opNotN, isNone, tyD, ej, opAdd, l1, l2, l3, l4, l5, l6, hne, bInt, hm]
  | test s a b =>
    have hok := h.put
    rw [hp] at hok
    have ha : a < 1000 := by have := hok.2.1; omega
    have hb : b < 1000 := by have := hok.2.2; omega
    have na := len_num ha
    have nb := len_num hb
    have k1 : 4 + (nmT a).length ≤ 16777216 := by omega
    have k2 : 4 + (nmT a).length + 3 ≤ 16777216 := by omega
    have k3 : 4 + (nmT a).length + 3 + (nmT b).length ≤ 16777216 := by omega
    simp only [hp, Put.d, Put.t] at e1 l5 l6 ⊢
    simp at l5 l6
    simp +decide [LINE, seqSrc, hla, getApp hla, e1, ix_pqrs hok.1, str_num ha, str_num hb, k1, k2, k3, opIsN, opNotN, isNone, tyD, ej, opAdd, l1, l2, l3, l4, l5, l6, hne, bInt, hm]
end M

set_option linter.all false
set_option maxRecDepth 100000
namespace M
open PySem CL L2
theorem lc_zip {α : Type} {Q : D → α → Prop} {h : α → D} {s : Src} {i : Nat} {e : FE} {l : Nat} {r0 : CL.Env} {Inv : Store → Prop} (hst : ∀ S, Inv S → s.still S = true) (hset : ∀ S o, Inv S → Inv (S.set l o)) :
    ∀ (ds : List D) (xs : List α) (hq : All2 Q ds xs) (hstep : ∀ d x, x ∈ xs → Q d x → ∀ S acc, Inv S → S[l]? = some (.lst acc) → ∃ S', e (r0.set i (some d)) S = .ok (h x) S' ∧ Inv S' ∧ S'[l]? = some (.lst acc)) (S : Store) (acc : List D), Inv S → S[l]? = some (.lst acc) → acc.length + xs.length ≤ LINE →
      ∃ S', lcGo s (gNm i) fYes e l r0 ds S = .ok () S' ∧ Inv S' ∧ S'[l]? = some (.lst (acc ++ xs.map h))
  | _, _, .nil, _, S, acc, hI, hl, _ => ⟨S, by simp [lcGo, hst S hI], hI, by simpa using hl⟩
  | _, _, @All2.cons _ _ _ d x ds xs hx hq, hstep, S, acc, hI, hl, hn => by
    obtain ⟨S1, e1, hI1, hl1⟩ := hstep d x (by simp) hx S acc hI hl
    have hlt : l < S1.length := getLt hl1
    simp at hn
    obtain ⟨S2, e2, hI2, hl2⟩ := lc_zip hst hset ds xs hq (fun d' x' hm => hstep d' x' (by simp [hm])) (S1.set l (.lst (acc ++ [h x]))) (acc ++ [h x]) (hset _ _ hI1) (set_get hlt) (by simp; omega)
    refine ⟨S2, ?_, hI2, by simpa using hl2⟩
    have hlen : acc.length < LINE := by omega
    simp [lcGo, hst S hI, e1, hl1, e2, hlen]
theorem CardAt.fr {l : Nat} {S S' : Store} {d : D} {c : Card} (h : CardAt l S d c) (e : Fr S S') : CardAt l S' d c := by
  obtain ⟨la, h1, h2, h3⟩ := h
  exact ⟨la, h1, h2, e.get h3⟩
theorem DeckAt.fr {l : Nat} {S S' : Store} {d : D} {k : Deck} (h : DeckAt l S d k) (e : Fr S S') : DeckAt l S' d k := by
  obtain ⟨lc, ds, h1, h2, h3, h4⟩ := h
  exact ⟨lc, ds, h1, h2, e.get h3, h4.imp fun _ _ h => h.fr e⟩
theorem law_text {m l : Nat} {k : Deck} {d : D} {S : Store} (h : k.ok m) (hm : m ≤ 8) (hd : DeckAt l S d k) : ∃ S', F_law_text S [d] = .ok (.str k.t) S' ∧ Fr S S' := by
  obtain ⟨lc, ds, rfl, hne, hlc, hall⟩ := hd
  have hw := h.w16
  have hwn : k.w < 1000 := by omega
  obtain ⟨S1, e1, fr1, hl1⟩ := lc_zip (s := ⟨ds, some (lc, ds)⟩) (h := fun c : Card => .str c.t) (i := 1) (e := fCallN 1 F_law_card_text (fCons (fVar 1) (fNil))) (l := S.length + 1) (r0 := [some (.tup [.int k.w, .ref lc]), none]) (Inv := Fr (S ++ [.lst [.str ("wrap " ++ nmT k.w ++ ";")]]))
    (fun T hT => still_lst (hT.get (getApp hlc))) (fun T o hT => Fr.set (k := S.length + 1) hT (by simp)) ds k.cards hall (fun d c hc hq T acc fr hacc => by
      obtain ⟨la, rfl, _, hla⟩ := hq
      obtain ⟨T', e, f⟩ := law_card_text (S := T) (h.cards c hc) hw (fr.get (getApp hla))
      exact ⟨T', by simp [e], fr.trans f, f.get hacc⟩) (S ++ [.lst [.str ("wrap " ++ nmT k.w ++ ";")]] ++ [.lst []]) [] ⟨_, rfl⟩ (by simp) (by have := h.few; simp [LINE]; omega)
  have hl1 : S1[S.length + 1]? = some (.lst (k.cards.map fun c => D.str c.t)) := hl1
  have hl0 : S1[S.length]? = some (.lst [.str ("wrap " ++ nmT k.w ++ ";")]) := fr1.get (by simp)
  have hn := len_num hwn
  have l1 : 5 + (nmT k.w).length ≤ 16777216 := by omega
  have l2 : 5 + (nmT k.w).length + 1 ≤ 16777216 := by omega
  have l3 : 1 + k.cards.length ≤ 16777216 := by have := h.few; omega
  have hs := k.rows_sum h hm
  have ej : mJoin (.str "\n") [.ref S1.length] (S1 ++ [.lst (.str ("wrap " ++ nmT k.w ++ ";") :: k.cards.map fun c => D.str c.t)]) = some (.str k.t, S1 ++ [.lst (.str ("wrap " ++ nmT k.w ++ ";") :: k.cards.map fun c => D.str c.t)]) := by
    have : strsD (.str ("wrap " ++ nmT k.w ++ ";") :: k.cards.map fun c => D.str c.t) = some k.rows := by
      simp [strsD, strsD_map, Deck.rows]
    simp only [mJoin, seqOf, lstAt, List.getElem?_concat_length, Option.bind_some, this]
    rw [if_pos (by rw [len_nl]; omega)]; rfl
  refine ⟨S1 ++ [.lst (.str ("wrap " ++ nmT k.w ++ ";") :: k.cards.map fun c => D.str c.t)], ?_, fr1.ofApp.app⟩
  rw [F_law_text, fDef_k]
  simp at e1
  simp +decide [opIx, str_num hwn, opAdd, LINE, l1, l2, seqSrc, getApp hlc, hlc, wipeE, e1, hl0, hl1, l3, tyD, ej]
end M

set_option linter.all false
set_option maxRecDepth 100000
namespace M
open PySem CL L2
/-! ### texts as lists of signs -/
def mk (l : List Nat) : Str := ⟨l.toArray⟩
@[simp] theorem mk_len (l : List Nat) : (mk l).length = l.length := by simp [mk, Str.length]
@[simp] theorem mk_cps (l : List Nat) : (mk l).cps.toList = l := by simp [mk]
theorem mk_app (a b : List Nat) : mk a ++ mk b = mk (a ++ b) := by
  apply Str.ext'
  simp [mk, Str.cps_append]
theorem mk_of (x : Str) : x = mk x.cps.toList := by apply Str.ext'; simp [mk]
theorem mk_inj {a b : List Nat} : mk a = mk b ↔ a = b := by
  constructor
  · intro h
    have := congrArg (fun x : Str => x.cps.toList) h
    simpa using this
  · intro h; rw [h]
theorem cut_mk (l : List Nat) (a b : Nat) : cutS (mk l) (some (a : Int)) (some (b : Int)) = mk ((l.drop a).take (b - a)) := by
  unfold cutS
  rw [HT.sIx_nat, HT.sIx_nat]
  simp only [mk_cps, mk_len]
  apply congrArg mk
  by_cases h : a ≤ l.length
  · rw [Nat.min_eq_left h]
    by_cases hb : b ≤ l.length
    · rw [Nat.min_eq_left hb]
    · rw [show min b l.length = l.length from Nat.min_eq_right (by omega)]
      rw [List.take_of_length_le (by simp), List.take_of_length_le (by simp; omega)]
  · rw [show min a l.length = l.length from Nat.min_eq_right (by omega)]
    rw [List.drop_eq_nil_of_le (Nat.le_refl _), List.drop_eq_nil_of_le (show l.length ≤ a by omega)]; simp
/-- how many signs from a column on are among some -/
def runN (sg : List Nat) : List Nat → Nat
  | [] => 0
  | c :: cs => if c ∈ sg then runN sg cs + 1 else 0
theorem runN_in {sg : List Nat} {c : Nat} {cs : List Nat} (h : c ∈ sg) : runN sg (c :: cs) = runN sg cs + 1 := if_pos h
theorem runN_out {sg : List Nat} {c : Nat} {cs : List Nat} (h : ¬ c ∈ sg) : runN sg (c :: cs) = 0 := if_neg h
theorem runN_le (sg : List Nat) : ∀ l : List Nat, runN sg l ≤ l.length
  | [] => Nat.le_refl _
  | c :: cs => by
    have := runN_le sg cs
    by_cases h : c ∈ sg
    · rw [runN_in h]; simp; exact this
    · rw [runN_out h]; simp
theorem run_length {line : List Nat} {c : Nat} {sg : Str} {S : Store} (hl : line.length < 100000) : F_run_length S [.str (mk line), .int c, .str sg] = .ok (.int (runN sg.cps.toList (line.drop c) : Nat)) S := by
  obtain ⟨r', S', e, hq⟩ := while_run (t := fAnd (fBl (fBin opLt (fBin opAdd (fVar 1) (fVar 3)) (fCB bLen (fCons (fVar 0) (fNil))))) (fBl (fBin opIn (fBin opIx (fVar 0) (fBin opAdd (fVar 1) (fVar 3))) (fVar 2)))) (b := fAugNm 3 (fC (.int 1)))
    (J := fun n r T => ∃ k : Nat, T = S ∧ r = [some (.str (mk line)), some (.int c), some (.str sg), some (.int k)] ∧ n = runN sg.cps.toList (line.drop (c + k)) ∧ k + n = runN sg.cps.toList (line.drop c))
    (Q := fun r T => T = S ∧ r = [some (.str (mk line)), some (.int c), some (.str sg), some (.int (runN sg.cps.toList (line.drop c) : Nat))])
    (by
      rintro r T ⟨k, rfl, rfl, h0, hk⟩
      have hk : k = runN sg.cps.toList (line.drop c) := by omega
      refine ⟨T, ?_, rfl, by rw [← hk]⟩
      have hle : line.length ≤ LINE := by simp [LINE]; omega
      by_cases hc : c + k < line.length
      · have hc' : (c : Int) + k < line.length := by omega
        have hg : line[c + k]? = some line[c + k] := List.getElem?_eq_getElem hc
        have hni : ¬ line[c + k] ∈ sg.cps.toList := by
          intro hi
          rw [List.drop_eq_getElem_cons hc, runN_in hi] at h0
          omega
        have hat : atI line ((c : Int) + k) = some line[c + k] := by
          have := atI_nat line (c + k); rw [hg] at this; simpa using this
        simp at hni
        simp [opAdd, opLt, bLen, lenD, hle, hc', opIx, hat, opIn, inD, hni]
      · have hc' : ¬ (c : Int) + k < line.length := by omega
        simp [opAdd, opLt, bLen, lenD, hle, hc'])
    (by
      rintro n r T ⟨k, rfl, rfl, h0, hk⟩
      have hle : line.length ≤ LINE := by simp [LINE]; omega
      have hc : c + k < line.length := by
        apply Classical.byContradiction; intro hc
        rw [List.drop_eq_nil_of_le (by omega)] at h0
        simp [runN] at h0
      have hc' : (c : Int) + k < line.length := by omega
      have hg : line[c + k]? = some line[c + k] := List.getElem?_eq_getElem hc
      have hd := List.drop_eq_getElem_cons hc
      have hi : line[c + k] ∈ sg.cps.toList := by
        apply Classical.byContradiction; intro hi
        rw [hd, runN_out hi] at h0
        omega
      have hat : atI line ((c : Int) + k) = some line[c + k] := by
        have := atI_nat line (c + k); rw [hg] at this; simpa using this
      refine ⟨T, _, T, ?_, ?_, k + 1, rfl, rfl, ?_, by omega⟩
      · simp at hi
        simp [opAdd, opLt, bLen, lenD, hle, hc', opIx, hat, opIn, inD, hi]
      · simp
      · rw [hd] at h0
        rw [runN_in hi] at h0
        have h0 := Nat.succ.inj h0
        rw [show c + (k + 1) = c + k + 1 by omega]
        exact h0)
    (runN sg.cps.toList (line.drop c)) WFUEL [some (.str (mk line)), some (.int c), some (.str sg), some (.int 0)] S
    (by
      have h1 : runN sg.cps.toList (line.drop c) ≤ (line.drop c).length := runN_le _ _
      simp at h1
      show _ < 100000; omega)
    ⟨0, rfl, rfl, rfl, by simp⟩
  obtain ⟨rfl, rfl⟩ := hq
  rw [F_run_length, fDef_k]
  simp [e]
end M

set_option linter.all false
set_option maxRecDepth 100000
namespace M
open PySem CL L2
/-! ### tokens -/
def kindW (w : Str) : Str := if w ∈ KW then "sign" else if w ∈ RG then "register" else "name"
/-- the next sign does not go on with a word or number -/
def Bnd (rest : List Nat) : Prop := ∀ c, rest.head? = some c → ¬ c ∈ DG ∧ ¬ c ∈ LT
inductive TokOk : Str → List Nat → List Nat → Prop
  | arrow {rest} : TokOk "sign" [45, 62] rest
  | sign {x rest} : x ∈ [58, 44, 59, 63] → TokOk "sign" [x] rest
  | number {x xs rest} : (∀ c ∈ x :: xs, c ∈ DG) → xs.length ≤ 2 → (xs ≠ [] → x ≠ 48) → Bnd rest → TokOk "number" (x :: xs) rest
  | word {x xs rest} : (∀ c ∈ x :: xs, c ∈ LT) → xs.length ≤ 7 → Bnd rest → TokOk (kindW (mk (x :: xs))) (x :: xs) rest
def tokO (k : Str) (t : List Nat) (ln c : Nat) : O := .inst "Token" [("kind", .str k), ("text", .str (mk t)), ("line", .int ln), ("column", .int c)]
theorem tok_init (S : Store) (k t : Str) (ln c : Int) : F_Token_init (S ++ [.inst "Token" []]) [.ref S.length, .str k, .str t, .int ln, .int c] = .ok .none (S ++ [.inst "Token" [("kind", .str k), ("text", .str t), ("line", .int ln), ("column", .int c)]]) := by
  rw [F_Token_init, fDef_k]
  simp +decide [putFld, putD]
theorem run_all {sg : List Nat} : ∀ {w rest : List Nat}, (∀ c ∈ w, c ∈ sg) → (∀ c, rest.head? = some c → ¬ c ∈ sg) → runN sg (w ++ rest) = w.length
  | [], [], _, _ => rfl
  | [], c :: cs, _, h => runN_out (h c rfl)
  | x :: xs, rest, h, k => by
    rw [List.cons_append, runN_in (h x (by simp)), run_all (fun c hc => h c (by simp [hc])) k]; rfl
theorem take_mid {line w rest : List Nat} {c : Nat} (h : line.drop c = w ++ rest) (n : Nat) (hn : n = w.length) : (line.drop c).take (c + n - c) = w := by
  rw [h, show c + n - c = w.length by omega, List.take_left]
end M

set_option linter.all false
set_option maxRecDepth 100000
namespace M
open PySem CL L2
theorem arr_mk : Str.ofString "->" = mk [45, 62] := rfl
theorem flat_all (zs : List Str) : optAll flatD (zs.map D.str) = some (zs.map V.str) := by
  induction zs with
  | nil => rfl
  | cons z zs ih => simp [optAll, flatD, ih]
theorem inV_str (w : Str) (zs : List Str) : inV (.str w) (zs.map V.str) = decide (w ∈ zs) := by
  induction zs with
  | nil => rfl
  | cons z zs ih =>
    have step : inV (.str w) ((z :: zs).map V.str) = ((z == w) || inV (.str w) (zs.map V.str)) := rfl
    rw [step, ih]
    by_cases h : z = w
    · subst h; simp
    · have h' : ¬ w = z := fun e => h e.symm
      simp [h, h']
theorem in_tup (S : Store) (w : Str) (zs : List Str) : opIn (.str w) (.tup (zs.map D.str)) S = .ok (.bool (decide (w ∈ zs))) S := by
  simp only [opIn, inD, inSeq, flatD, flat_all, inV_str]
def kCh3 (q : Int → Int → Bool) (y : D) (o : Out D) : Out D := match o with | .ok z S => (match cmpI q y z with | some k => .ok (.bool k) S | none => .stuck) | .exc x S => .exc x S | .stuck => .stuck
def kCh2 (p q : Int → Int → Bool) (c : FE) (r : CL.Env) (x : D) (o : Out D) : Out D := match o with | .ok y S => (match cmpI p x y with | some true => kCh3 q y (c r S) | some false => .ok (.bool false) S | none => .stuck) | .exc x S => .exc x S | .stuck => .stuck
def kCh (p q : Int → Int → Bool) (b c : FE) (r : CL.Env) (o : Out D) : Out D := match o with | .ok x S => kCh2 p q c r x (b r S) | .exc x S => .exc x S | .stuck => .stuck
@[simp] theorem kCh3_ok {q : Int → Int → Bool} {j k : Int} {S : Store} : kCh3 q (.int j) (.ok (.int k) S) = .ok (.bool (q j k)) S := rfl
@[simp] theorem kCh2_ok {p q : Int → Int → Bool} {c : FE} {r : CL.Env} {i j : Int} {S : Store} : kCh2 p q c r (.int i) (.ok (.int j) S) = if p i j = true then kCh3 q (.int j) (c r S) else .ok (.bool false) S := by
  show (match some (p i j) with | some true => _ | some false => _ | none => _) = _
  cases p i j <;> rfl
@[simp] theorem kCh_ok {p q : Int → Int → Bool} {b c : FE} {r : CL.Env} {x : D} {S : Store} : kCh p q b c r (.ok x S) = kCh2 p q c r x (b r S) := rfl
@[simp low] theorem x_chain {p q : Int → Int → Bool} {a b c : FE} {r : CL.Env} {S : Store} : fChain p q a b c r S = kCh p q b c r (a r S) := by
  unfold fChain
  cases a r S with
  | ok x S1 =>
    show (b r S1).bind _ = kCh2 p q c r x (b r S1)
    cases b r S1 with
    | ok y S2 =>
      show (match cmpI p x y with | some true => (c r S2).bind _ | some false => _ | none => _) = (match cmpI p x y with | some true => kCh3 q y (c r S2) | some false => _ | none => _)
      cases c r S2 <;> rfl
    | exc => rfl
    | stuck => rfl
  | exc => rfl
  | stuck => rfl
theorem read_token {line w rest : List Nat} {c ln : Nat} {k : Str} {S : Store} (hl : line.length < 100000) (h : line.drop c = w ++ rest) (ht : TokOk k w rest) : F_read_token S [.str (mk line), .int ln, .int c] = .ok (.ref S.length) (S ++ [tokO k w ln c]) := by
  have hle : line.length ≤ 16777216 := by omega
  obtain ⟨x, xs, rfl⟩ : ∃ x xs, w = x :: xs := by
    cases ht with
    | arrow => exact ⟨_, _, rfl⟩
    | sign _ => exact ⟨_, _, rfl⟩
    | number => exact ⟨_, _, rfl⟩
    | word => exact ⟨_, _, rfl⟩
  have hx : line[c]? = some x := by
    have := congrArg (fun l => l[0]?) h
    simpa using this
  have hat : atI line (c : Int) = some x := by rw [atI_nat, hx]
  have cut2 : cutS (mk line) (some (c : Int)) (some ((c : Int) + 2)) = mk ((x :: (xs ++ rest)).take 2) := by
    have := cut_mk line c (c + 2)
    rw [h] at this
    simpa [show c + 2 - c = 2 by omega] using this
  have cutn : ∀ n : Nat, n = (x :: xs).length → cutS (mk line) (some (c : Int)) (some ((c : Int) + (n : Int))) = mk (x :: xs) := fun n hn => by
    have := cut_mk line c (c + n)
    rw [take_mid h n hn] at this
    simpa using this
  have no2 : x ≠ 45 → ¬ mk ((x :: (xs ++ rest)).take 2) = Str.ofString "->" := fun hx e => by
    rw [arr_mk, mk_inj] at e
    simp at e
    exact hx e.1
  have rl := fun sg => run_length (S := S) (line := line) (c := c) (sg := sg) hl
  rw [F_read_token, fDef_k]
  cases ht with
  | arrow =>
    have e2 : mk ((45 :: ([62] ++ rest)).take 2) = Str.ofString "->" := by rw [arr_mk]; rfl
    simp +decide [opIx, hle, LINE, hat, bLen, lenD, opAdd, opSl, cut2, opEq, eqD, e2, tok_init, tokO, arr_mk]
  | sign hs =>
    have hn : x ≠ 45 := by rintro rfl; revert hs; decide
    have hin : x ∈ (Str.ofString ":,;?").cps.toList := by
      have e : (Str.ofString ":,;?").cps.toList = [58, 44, 59, 63] := rfl
      rw [e]; exact hs
    simp at hin
    have n2 := no2 hn
    simp at n2 cut2
    simp +decide [opIx, hle, LINE, hat, bLen, lenD, opAdd, opSl, cut2, opEq, eqD, n2, opIn, inD, hin, tok_init, tokO]
    rfl
  | number hd h2 h0 hb =>
    have hxd : x ∈ DG := hd x (by simp)
    have hn : x ≠ 45 := by rintro rfl; revert hxd; decide
    have hns : ¬ x ∈ (Str.ofString ":,;?").cps.toList := by
      have : ∀ y ∈ DG, ¬ y ∈ (Str.ofString ":,;?").cps.toList := by decide
      exact this x hxd
    have hin : x ∈ (Str.ofString "0123456789").cps.toList := hxd
    have n2 := no2 hn
    have hrun : runN (Str.ofString "0123456789").cps.toList (line.drop c) = (x :: xs).length := by
      rw [h]; exact run_all hd fun c hc => (hb c hc).1
    have rl1 := rl "0123456789"
    rw [hrun] at rl1
    have cn := cutn _ rfl
    have l3 : ¬ 3 < ((xs.length : Int) + 1) := by omega
    have l1 : (1 < ((xs.length : Int) + 1)) ↔ xs ≠ [] := by
      cases xs with
      | nil => simp
      | cons => simp; omega
    have z0 : (⟨#[x]⟩ : Str) = Str.ofString "0" ↔ x = 48 := by
      have : Str.ofString "0" = mk [48] := rfl
      rw [this]
      exact (mk_inj (a := [x]) (b := [48])).trans (by simp)
    have hlx : xs.length + 1 ≤ 16777216 := by omega
    simp at n2 cut2 hns hin rl1 cn
    by_cases he : xs = []
    · subst he
      simp at n2 cut2 rl1 cn
      simp +decide [opIx, hle, LINE, hat, bLen, lenD, opAdd, opSl, cut2, opEq, eqD, n2, opIn, inD, hns, hin, rl1, cn, opGt, tok_init, tokO]
    · have hz := h0 he
      simp +decide [opIx, hle, LINE, hat, bLen, lenD, opAdd, opSl, cut2, opEq, eqD, n2, opIn, inD, hns, hin, rl1, cn, opGt, l3, l1, hlx, he, z0, hz, tok_init, tokO]
  | word hd h2 hb =>
    have hxd : x ∈ LT := hd x (by simp)
    have hn : x ≠ 45 := by rintro rfl; revert hxd; decide
    have hns : ¬ x ∈ (Str.ofString ":,;?").cps.toList := by
      have : ∀ y ∈ LT, ¬ y ∈ (Str.ofString ":,;?").cps.toList := by decide
      exact this x hxd
    have hnd : ¬ x ∈ (Str.ofString "0123456789").cps.toList := by
      have : ∀ y ∈ LT, ¬ y ∈ (Str.ofString "0123456789").cps.toList := by decide
      exact this x hxd
    have n2 := no2 hn
    have hrun : runN (Str.ofString "abcdefghijklmnopqrstuvwxyz").cps.toList (line.drop c) = (x :: xs).length := by
      rw [h]; exact run_all hd fun c hc => (hb c hc).2
    have rl1 := rl "abcdefghijklmnopqrstuvwxyz"
    rw [hrun] at rl1
    have cn := cutn _ rfl
    have hlx : xs.length + 1 ≤ 16777216 := by omega
    have l8 : (xs.length : Int) + 1 ≤ 8 := by omega
    have l0 : (1 : Int) ≤ (xs.length : Int) + 1 := by omega
    have k1 : opIn (.str (mk (x :: xs))) (.tup [.str "wrap", .str "add", .str "copy", .str "swap", .str "emit"]) S = .ok (.bool (decide (mk (x :: xs) ∈ KW))) S := in_tup S (mk (x :: xs)) KW
    have k2 : opIn (.str (mk (x :: xs))) (.tup [.str "p", .str "q", .str "r", .str "s"]) S = .ok (.bool (decide (mk (x :: xs) ∈ RG))) S := in_tup S (mk (x :: xs)) RG
    have o1 : opIn (.str ⟨#[x]⟩) (.str ":,;?") S = .ok (.bool false) S := by simp at hns; simp [opIn, inD, hns]
    have o2 : opIn (.str ⟨#[x]⟩) (.str "0123456789") S = .ok (.bool false) S := by simp at hnd; simp [opIn, inD, hnd]
    simp at n2 cut2 rl1 cn
    unfold kindW
    by_cases w1 : mk (x :: xs) ∈ KW
    · simp [opIx, hle, LINE, hat, bLen, lenD, opAdd, opSl, cut2, opEq, eqD, n2, rl1, cn, pLe, l0, l8, hlx, tok_init, tokO, o1, o2, k1, k2, w1]
    · by_cases w2 : mk (x :: xs) ∈ RG
      · simp [opIx, hle, LINE, hat, bLen, lenD, opAdd, opSl, cut2, opEq, eqD, n2, rl1, cn, pLe, l0, l8, hlx, tok_init, tokO, o1, o2, k1, k2, w1, w2]
      · simp [opIx, hle, LINE, hat, bLen, lenD, opAdd, opSl, cut2, opEq, eqD, n2, rl1, cn, pLe, l0, l8, hlx, tok_init, tokO, o1, o2, k1, k2, w1, w2]
end M

set_option linter.all false
set_option maxRecDepth 100000
namespace M
open PySem CL L2
/-! ### lines and texts as tokens -/
abbrev Tok := Str × List Nat
inductive LexL : Nat → List Nat → List Tok → Prop
  | nil : LexL 0 [] []
  | sp {n l ts} : LexL n l ts → LexL (n + 1) (32 :: l) ts
  | tok {n k w l ts} : TokOk k w l → LexL n l ts → LexL (n + 1) (w ++ l) ((k, w) :: ts)
inductive Lex : List Nat → List Tok → Prop
  | nil : Lex [] []
  | sp {l ts} : Lex l ts → Lex (32 :: l) ts
  | nl {l ts} : Lex l ts → Lex (10 :: l) ts
  | tok {k w l ts} : TokOk k w l → Lex l ts → Lex (w ++ l) ((k, w) :: ts)
theorem TokOk.pos {k : Str} {w rest : List Nat} (h : TokOk k w rest) : w ≠ [] := by cases h <;> simp
theorem dg_free : ∀ c ∈ DG, c ≠ 32 ∧ c ≠ 10 := by decide
theorem lt_free : ∀ c ∈ LT, c ≠ 32 ∧ c ≠ 10 := by decide
theorem TokOk.free {k : Str} {w rest : List Nat} (h : TokOk k w rest) : ∀ c ∈ w, c ≠ 32 ∧ c ≠ 10 := by
  cases h with
  | arrow => decide
  | sign h => 
    intro c hc
    simp at hc h
    omega
  | number h => exact fun c hc => dg_free c (h c hc)
  | word h => exact fun c hc => lt_free c (h c hc)
theorem TokOk.rest {k : Str} {w rest rest' : List Nat} (h : TokOk k w rest) (hb : Bnd rest → Bnd rest') : TokOk k w rest' := by
  cases h with
  | arrow => exact .arrow
  | sign h => exact .sign h
  | number h1 h2 h3 h4 => exact .number h1 h2 h3 (hb h4)
  | word h1 h2 h3 => exact .word h1 h2 (hb h3)
theorem bnd_nil : Bnd [] := fun c h => by simp at h
theorem LexL.le {n : Nat} {l : List Nat} {ts : List Tok} (h : LexL n l ts) : n ≤ l.length ∧ ts.length ≤ n := by
  induction h with
  | nil => simp
  | sp _ ih => simp; omega
  | tok h _ ih =>
    have := List.length_pos_iff.mpr h.pos
    simp; omega
theorem lex_line {s : List Nat} {ts : List Tok} (h : Lex s ts) : ∀ x r : List Nat, s = x ++ r → (∀ c ∈ x, c ≠ 10) → (∀ c, r.head? = some c → c = 10) → ∃ n t1 t2, LexL n x t1 ∧ Lex r t2 ∧ ts = t1 ++ t2 := by
  induction h with
  | nil =>
    intro x r e hx hr
    have : x = [] ∧ r = [] := by simpa using e.symm
    obtain ⟨rfl, rfl⟩ := this
    exact ⟨0, [], [], .nil, .nil, rfl⟩
  | @sp l ts hl ih =>
    intro x r e hx hr
    cases x with
    | nil =>
      simp at e; subst e
      have := hr 32 rfl
      exact absurd this (by decide)
    | cons c x =>
      simp at e
      obtain ⟨rfl, e⟩ := e
      obtain ⟨n, t1, t2, h1, h2, h3⟩ := ih x r e (fun c hc => hx c (by simp [hc])) hr
      exact ⟨n + 1, t1, t2, .sp h1, h2, h3⟩
  | @nl l ts hl ih =>
    intro x r e hx hr
    cases x with
    | nil =>
      simp at e; subst e
      exact ⟨0, [], ts, .nil, .nl hl, rfl⟩
    | cons c x =>
      simp at e
      exact absurd e.1.symm (hx c (by simp))
  | @tok k w l ts ht hl ih =>
    intro x r e hx hr
    have hw := ht.free
    have key : ∃ x', x = w ++ x' ∧ l = x' ++ r := by
      rcases List.append_eq_append_iff.mp e with ⟨a, h1, h2⟩ | ⟨a, h1, h2⟩
      · exact ⟨a, h1, h2⟩
      · cases a with
        | nil => exact ⟨[], by simpa using h1.symm, by simpa using h2.symm⟩
        | cons c a =>
          subst h2
          have := hr c rfl
          exact absurd this (hw c (by rw [h1]; simp)).2
    obtain ⟨x', rfl, rfl⟩ := key
    obtain ⟨n, t1, t2, h1, h2, h3⟩ := ih x' r rfl (fun c hc => hx c (by simp [hc])) hr
    refine ⟨n + 1, (k, w) :: t1, t2, .tok (ht.rest fun hb => ?_) h1, h2, by simp [h3]⟩
    cases x' with
    | nil => exact bnd_nil
    | cons c x' => exact fun c' hc => hb c' (by simpa using hc)
def jn : List (List Nat) → List Nat
  | [] => []
  | [x] => x
  | x :: rest => x ++ 10 :: jn rest
theorem lex_lines : ∀ (ls : List (List Nat)) (ts : List Tok), Lex (jn ls) ts → (∀ l ∈ ls, ∀ c ∈ l, c ≠ 10) → ∃ tss : List (List Tok), All2 (fun l t => ∃ n, LexL n l t) ls tss ∧ tss.flatten = ts
  | [], ts, h, _ => by
    refine ⟨[], .nil, ?_⟩
    generalize hs : jn [] = s at h
    cases h with
    | nil => rfl
    | sp => simp [jn] at hs
    | nl => simp [jn] at hs
    | tok ht _ => exact absurd (by simpa [jn] using hs) (fun e : _ ∧ _ => ht.pos e.1)
  | [x], ts, h, hf => by
    obtain ⟨n, t1, t2, h1, h2, h3⟩ := lex_line h x [] (by simp [jn]) (hf x (by simp)) (by simp)
    have : t2 = [] := by
      generalize hs : ([] : List Nat) = s at h2
      cases h2 with
      | nil => rfl
      | sp => simp at hs
      | nl => simp at hs
      | tok ht _ => exact absurd (by simpa using hs) (fun e : _ ∧ _ => ht.pos e.1)
    subst this
    exact ⟨[t1], .cons ⟨n, h1⟩ .nil, by simp [h3]⟩
  | x :: y :: rest, ts, h, hf => by
    obtain ⟨n, t1, t2, h1, h2, h3⟩ := lex_line h x (10 :: jn (y :: rest)) rfl (hf x (by simp)) (by simp)
    have h2' : Lex (jn (y :: rest)) t2 := by
      generalize hs : 10 :: jn (y :: rest) = s at h2
      cases h2 with
      | nil => simp at hs
      | sp => simp at hs
      | nl h => simp at hs; rw [hs]; exact h
      | @tok k w l ts ht _ =>
        have hw := ht.free
        have hp := ht.pos
        cases w with
        | nil => exact absurd rfl hp
        | cons c w =>
          simp at hs
          exact absurd hs.1.symm (hw c (by simp)).2
    obtain ⟨tss, h4, h5⟩ := lex_lines (y :: rest) t2 h2' (fun l hl => hf l (by simp [hl]))
    exact ⟨t1 :: tss, .cons ⟨n, h1⟩ h4, by simp [h5, h3]⟩
theorem join_jn : ∀ ls : List Str, (Str.join "\n" ls).cps.toList = jn (ls.map fun x => x.cps.toList)
  | [] => rfl
  | [x] => rfl
  | x :: y :: rest => by
    have ih := join_jn (y :: rest)
    show (x ++ Str.ofString "\n" ++ Str.join "\n" (y :: rest)).cps.toList = x.cps.toList ++ 10 :: jn _
    rw [Str.cps_append, Str.cps_append, Array.toList_append, Array.toList_append, ih, List.append_assoc]; rfl
theorem split_lex {s : List Nat} {ts : List Tok} (h : Lex s ts) : ∃ (ls : List (List Nat)) (tss : List (List Tok)), Txt.split (mk s) "\n" = ls.map mk ∧ All2 (fun l t => ∃ n, LexL n l t) ls tss ∧ tss.flatten = ts ∧ ∀ l ∈ ls, l.length ≤ s.length := by
  have e1 := StrLaws.join_split (mk s) "\n"
  have e2 := StrLaws.split_free (mk s) 10
  have e3 := join_jn (Txt.split (mk s) "\n")
  rw [e1, mk_cps] at e3
  obtain ⟨tss, h1, h2⟩ := lex_lines ((Txt.split (mk s) "\n").map fun x => x.cps.toList) ts (e3 ▸ h) (by
    intro l hl c hc
    obtain ⟨p, hp, rfl⟩ := List.mem_map.mp hl
    rintro rfl
    exact e2 p hp hc)
  refine ⟨_, tss, ?_, h1, h2, ?_⟩
  · rw [List.map_map]
    have : (mk ∘ fun x : Str => x.cps.toList) = id := by funext x; exact (mk_of x).symm
    rw [this, List.map_id]
  · have : ∀ (ls : List (List Nat)) (l : List Nat), l ∈ ls → l.length ≤ (jn ls).length := by
      intro ls
      induction ls with
      | nil => simp
      | cons x xs ih =>
        intro l hl
        cases xs with
        | nil => simp at hl; subst hl; simp [jn]
        | cons y ys =>
          rcases List.mem_cons.mp hl with rfl | hl
          · simp [jn]
          · have := ih l hl
            simp only [jn, List.length_append, List.length_cons]; omega
    intro l hl
    rw [e3]; exact this _ _ hl
end M

set_option linter.all false
set_option maxRecDepth 100000
namespace M
open PySem CL L2
/-! ### the tokenizer -/
def TokAt (B E : Nat) (T : Store) (d : D) (t : Tok) : Prop := ∃ j ln c : Nat, d = .ref j ∧ B < j ∧ j < E ∧ T[j]? = some (tokO t.1 t.2 ln c)
theorem TokAt.app {B E : Nat} {T X : Store} {d : D} {t : Tok} (h : TokAt B E T d t) : TokAt B E (T ++ X) d t := by
  obtain ⟨j, ln, c, h1, h2, h4, h3⟩ := h
  exact ⟨j, ln, c, h1, h2, h4, getApp h3⟩
theorem TokAt.setB {B E : Nat} {T : Store} {d : D} {t : Tok} {k : Nat} {o : O} (h : TokAt B E T d t) (hk : k ≤ B) : TokAt B E (T.set k o) d t := by
  obtain ⟨j, ln, c, h1, h2, h4, h3⟩ := h
  exact ⟨j, ln, c, h1, h2, h4, by rw [List.getElem?_set_ne (by omega)]; exact h3⟩
theorem TokAt.more {B E E' : Nat} {T : Store} {d : D} {t : Tok} (h : TokAt B E T d t) (hk : E ≤ E') : TokAt B E' T d t := by
  obtain ⟨j, ln, c, h1, h2, h4, h3⟩ := h
  exact ⟨j, ln, c, h1, h2, by omega, h3⟩
/-- the tokenizer's store: the tokens so far -/
structure TI (S : Store) (lines : List D) (done : List Tok) (T : Store) : Prop where
  fr : Fr S T
  toks : ∃ ds, T[S.length]? = some (.lst ds) ∧ All2 (TokAt (S.length + 1) T.length T) ds done
  ls : T[S.length + 1]? = some (.lst lines)
abbrev tkBody : FS := fIf (fBl (fBin opEq (fBin opIx (fVar 4) (fVar 5)) (fC (.str " ")))) (fAugNm 5 (fC (.int 1))) (fSeq (fExpr (fBM "list" mAppend (fVar 1) (fCons (fCallN 3 F_read_token (fCons (fVar 4) (fCons (fVar 3) (fCons (fVar 5) (fNil))))) (fNil)))) (fAugNm 5 (fCB bLen (fCons (fFld "Token" "text" (fBin opIx (fVar 1) (fUn opNeg (fC (.int 1))))) (fNil)))))
abbrev tkTest : FT := fBl (fBin opLt (fVar 5) (fCB bLen (fCons (fVar 4) (fNil))))
theorem tok_field {T : Store} {j ln c : Nat} {k : Str} {w : List Nat} (h : T[j]? = some (tokO k w ln c)) : fldOf "Token" "text" T (.ref j) = some (.str (mk w)) := by
  have b1 : (Str.ofString "text" == Str.ofString "kind") = false := by decide
  simp +decide [fldOf, h, tokO, List.lookup, b1]
theorem line_run {S : Store} {lines : List D} {d0 d2 : Option D} {ln : Nat} {line : List Nat} {n : Nat} {done ts : List Tok} {T : Store} (hl : line.length < 100000) (hx : LexL n line ts) (hd : done.length + ts.length ≤ 1000000) (hI : TI S lines done T) :
    ∃ (T' : Store) (c : Nat), fWhile WFUEL tkTest tkBody [d0, some (.ref S.length), d2, some (.int ln), some (.str (mk line)), some (.int 0)] T = .next [d0, some (.ref S.length), d2, some (.int ln), some (.str (mk line)), some (.int c)] T' ∧ TI S lines (done ++ ts) T' := by
  have hle : line.length ≤ 16777216 := by omega
  obtain ⟨r', T', e, c, e2, h⟩ := while_run (t := tkTest) (b := tkBody)
    (J := fun m r U => ∃ (c : Nat) (dn rem : List Tok), r = [d0, some (.ref S.length), d2, some (.int ln), some (.str (mk line)), some (.int c)] ∧ LexL m (line.drop c) rem ∧ c ≤ line.length ∧ dn ++ rem = done ++ ts ∧ TI S lines dn U)
    (Q := fun r U => ∃ c : Nat, r = [d0, some (.ref S.length), d2, some (.int ln), some (.str (mk line)), some (.int c)] ∧ TI S lines (done ++ ts) U)
    (by
      rintro r U ⟨c, dn, rem, rfl, hlx, hc, hdn, hU⟩
      generalize hs : line.drop c = s at hlx
      cases hlx
      have hc2 : ¬ c < line.length := by intro h; simp at hs; omega
      simp at hdn; subst hdn
      refine ⟨U, ?_, c, rfl, hU⟩
      simp [bLen, lenD, LINE, hle, opLt, hc2])
    (by
      rintro m r U ⟨c, dn, rem, rfl, hlx, hc, hdn, hU⟩
      generalize hs : line.drop c = s at hlx
      cases hlx with
      | @sp m l ts' hlx =>
        have hc2 : c < line.length := by
          apply Classical.byContradiction; intro h
          rw [List.drop_eq_nil_of_le (by omega)] at hs; simp at hs
        have hg : atI line (c : Int) = some 32 := by
          rw [atI_nat]
          have := congrArg (fun l => l[0]?) hs
          simpa using this
        have hd1 : line.drop (c + 1) = l := by
          have := congrArg List.tail hs
          simpa [List.tail_drop] using this
        refine ⟨U, _, U, ?_, ?_, c + 1, dn, rem, rfl, by rw [hd1]; exact hlx, by omega, hdn, hU⟩
        · simp [bLen, lenD, LINE, hle, opLt, hc2]
        · have e32 : (⟨#[32]⟩ : Str) = Str.ofString " " := rfl
          simp [opIx, hg, opEq, eqD, e32, hle, LINE]
      | @tok m k w l ts' ht hlx =>
        have hp := ht.pos
        have hwl := List.length_pos_iff.mpr hp
        have hlen : line.length - c = w.length + l.length := by
          have := congrArg List.length hs
          simpa using this
        have hc2 : c < line.length := by omega
        have hd1 : line.drop (c + w.length) = l := by
          rw [← List.drop_drop, hs, List.drop_left]
        obtain ⟨x, xs, rfl⟩ : ∃ x xs, w = x :: xs := by
          cases w with
          | nil => exact absurd rfl hp
          | cons x xs => exact ⟨x, xs, rfl⟩
        have hg : atI line (c : Int) = some x := by
          rw [atI_nat]
          have := congrArg (fun l => l[0]?) hs
          simpa using this
        have hx32 : x ≠ 32 := (ht.free x (by simp)).1
        have ne : ¬ (⟨#[x]⟩ : Str) = Str.ofString " " := by
          have : Str.ofString " " = mk [32] := rfl
          rw [this]
          intro e
          have := (mk_inj (a := [x]) (b := [32])).mp e
          simp at this
          exact hx32 this
        obtain ⟨fr, ⟨ds, hds, hall⟩, hls⟩ := hU
        have rt := read_token (S := U) (ln := ln) hl hs ht
        have hdl := hall.length
        have hdnl : dn.length ≤ 1000000 := by
          have := congrArg List.length hdn
          simp at this; omega
        have hds2 : (U ++ [tokO k (x :: xs) ln c])[S.length]? = some (.lst ds) := getApp hds
        have hlt : S.length < U.length := getLt hds
        have hn : (U.set S.length (.lst (ds ++ [.ref U.length])) ++ [tokO k (x :: xs) ln c])[U.length]? = some (tokO k (x :: xs) ln c) := by
          rw [List.getElem?_append_right (by simp)]; simp
        have hn0 : (U.set S.length (.lst (ds ++ [.ref U.length])) ++ [tokO k (x :: xs) ln c])[S.length]? = some (.lst (ds ++ [.ref U.length])) := getApp (set_get hlt)
        have hset : (U ++ [tokO k (x :: xs) ln c]).set S.length (.lst (ds ++ [.ref U.length])) = U.set S.length (.lst (ds ++ [.ref U.length])) ++ [tokO k (x :: xs) ln c] := List.set_append_left _ _ hlt
        have hfld := tok_field hn
        have hl1 : S.length + 1 < U.length := getLt hls
        have hlx1 : xs.length + 1 ≤ 16777216 := by simp at hlen; omega
        have hdl2 : ds.length < 16777216 := by omega
        refine ⟨U, _, U.set S.length (.lst (ds ++ [.ref U.length])) ++ [tokO k (x :: xs) ln c], ?_, ?_, c + (x :: xs).length, dn ++ [(k, x :: xs)], ts', rfl, by rw [hd1]; exact hlx, by omega, by rw [← hdn]; simp, ?_, ?_, ?_⟩
        · simp [bLen, lenD, LINE, hle, opLt, hc2]
        · simp [opIx, hg, hle, opEq, eqD, ne, rt, tyD, hds, hds2, mAppend, hdl2, hset, hn0, opNeg, hfld, bLen, lenD, LINE, hlx1]
        · exact (fr.set (Nat.le_refl _)).app
        · refine ⟨_, hn0, ?_⟩
          refine All2.append ?_ (.cons ⟨U.length, ln, c, rfl, hl1, by simp, hn⟩ .nil)
          exact hall.imp fun _ _ h => ((h.setB (by omega)).app).more (by simp)
        · exact getApp (by rw [List.getElem?_set_ne (by omega)]; exact hls))
    n WFUEL _ T (by have := hx.le; show n < 100000; omega) ⟨0, done, ts, rfl, by simpa using hx, by omega, rfl, hI⟩
  subst e2
  exact ⟨T', c, e, h⟩
end M

set_option linter.all false
set_option maxRecDepth 100000
namespace M
open PySem CL L2
theorem flat_len {tss : List (List Tok)} {ls : List (List Nat)} {s : Nat} (h : All2 (fun l t => ∃ n, LexL n l t) ls tss) (hs : (ls.map List.length).sum ≤ s) : tss.flatten.length ≤ s := by
  induction h generalizing s with
  | nil => simp
  | cons h1 _ ih =>
    obtain ⟨n, h1⟩ := h1
    have := h1.le
    simp at hs ⊢
    have := ih (Nat.le_refl _)
    simp at this
    omega
theorem Lex.le {s : List Nat} {ts : List Tok} (h : Lex s ts) : ts.length ≤ s.length := by
  induction h with
  | nil => simp
  | sp _ ih => simp; omega
  | nl _ ih => simp; omega
  | tok h _ ih =>
    have := List.length_pos_iff.mpr h.pos
    simp; omega
theorem tokenize {S : Store} {s : List Nat} {ts : List Tok} (h : Lex s ts) (hs : s.length < 100000) : ∃ (S' : Store) (ds : List D), F_tokenize S [.str (mk s)] = .ok (.ref S.length) S' ∧ Fr S S' ∧ S'[S.length]? = some (.lst ds) ∧ All2 (TokAt (S.length + 1) S'.length S') ds (ts ++ ([(Str.ofString "end", [])] : List Tok)) := by
  obtain ⟨ls, tss, e1, h1, h2, h3⟩ := split_lex h
  have hts := h.le
  obtain ⟨r', S1, e2, hJ⟩ := for_run (s := ⟨pairs 0 ((ls.map mk).map D.str), some (S.length + 1, (ls.map mk).map D.str)⟩) (g := gTupl 2 (gsCons (gNm 3) (gsCons (gNm 4) (gsNil)))) (b := fSeq (fAsg (fC (.int 0)) (gNm 5)) (fWhile WFUEL tkTest tkBody))
    (J := fun rem r T => ∃ (i : Nat) (lr : List (List Nat)) (tr : List (List Tok)) (done : List Tok) (a3 a4 a5 : Option D), rem = pairs i ((lr.map mk).map D.str) ∧ All2 (fun l t => ∃ n, LexL n l t) lr tr ∧ (∀ l ∈ lr, l.length ≤ s.length) ∧ done ++ tr.flatten = ts ∧ TI S ((ls.map mk).map D.str) done T ∧ r = [some (.str (mk s)), some (.ref S.length), some (.ref (S.length + 1)), a3, a4, a5])
    (by rintro ds r T ⟨_, _, _, _, _, _, _, _, _, _, _, hT, _⟩; exact still_lst hT.ls)
    (by
      rintro d rem r T ⟨i, lr, tr, done, a3, a4, a5, hrem, ha, hle, hd, hT, rfl⟩
      cases ha with
      | nil => simp [pairs] at hrem
      | @cons l t lr tr hl ha =>
        obtain ⟨n, hl⟩ := hl
        simp [pairs] at hrem
        obtain ⟨rfl, rfl⟩ := hrem
        have hll := hle l (by simp)
        obtain ⟨T', c, e3, hT'⟩ := line_run (d0 := some (.str (mk s))) (d2 := some (.ref (S.length + 1))) (ln := i) (show l.length < 100000 by omega) hl (by have := congrArg List.length hd; simp at this; omega) hT
        refine ⟨[some (.str (mk s)), some (.ref S.length), some (.ref (S.length + 1)), some (.int i), some (.str (mk l)), a5], T, [some (.str (mk s)), some (.ref S.length), some (.ref (S.length + 1)), some (.int i), some (.str (mk l)), some (.int c)], T', by simp, ?_, i + 1, lr, tr, done ++ t, some (.int i), some (.str (mk l)), some (.int c), by simp, ha, fun l hl => hle l (by simp [hl]), by rw [← hd]; simp, hT', rfl⟩
        simp [e3])
    (pairs 0 ((ls.map mk).map D.str)) [some (.str (mk s)), some (.ref S.length), some (.ref (S.length + 1)), none, none, none] (S ++ [.lst []] ++ [.lst ((ls.map mk).map D.str)])
    ⟨0, ls, tss, [], none, none, none, rfl, h1, h3, by simpa using h2, ⟨⟨[.lst [], .lst ((ls.map mk).map D.str)], by simp⟩, ⟨[], by simp, .nil⟩, by simp⟩, rfl⟩
  obtain ⟨i, lr, tr, done, a3, a4, a5, hrem, ha, _, hd, hT, rfl⟩ := hJ
  have : tr = [] := by
    cases ha with
    | nil => rfl
    | cons => simp [pairs] at hrem
  subst this
  simp at hd
  subst hd
  obtain ⟨fr, ⟨ds, hds, hall⟩, hls⟩ := hT
  have hdl := hall.length
  have hds2 : (S1 ++ [tokO "end" [] ls.length 0])[S.length]? = some (.lst ds) := getApp hds
  have hlt : S.length < S1.length := getLt hds
  have hl1 : S.length + 1 < S1.length := getLt hls
  have hset : (S1 ++ [tokO "end" [] ls.length 0]).set S.length (.lst (ds ++ [.ref S1.length])) = S1.set S.length (.lst (ds ++ [.ref S1.length])) ++ [tokO "end" [] ls.length 0] := List.set_append_left _ _ hlt
  have hn : (S1.set S.length (.lst (ds ++ [.ref S1.length])) ++ [tokO "end" [] ls.length 0])[S1.length]? = some (tokO "end" [] ls.length 0) := by
    rw [List.getElem?_append_right (by simp)]; simp
  have hdl2 : ds.length < 16777216 := by omega
  refine ⟨S1.set S.length (.lst (ds ++ [.ref S1.length])) ++ [tokO "end" [] ls.length 0], ds ++ [.ref S1.length], ?_, (fr.set (Nat.le_refl _)).app, getApp (set_get hlt), ?_⟩
  · have eno : Str.ofString "" = mk [] := rfl
    have hti := tok_init S1 "end" "" (ls.length : Nat) 0
    have hsp : mSplit (.str (mk s)) [.str "\n"] (S ++ [.lst []]) = some (.ref (S.length + 1), S ++ [.lst []] ++ [.lst ((ls.map mk).map D.str)]) := by
      have l1 : s.length ≤ 16777214 := by omega
      simp [mSplit, e1, LINE, l1]
    have hto : tokO "end" [] ls.length 0 = .inst "Token" [("kind", .str "end"), ("text", .str ""), ("line", .int ls.length), ("column", .int 0)] := rfl
    rw [← hto] at hti
    simp at e2 hls hsp
    rw [F_tokenize, fDef_k]
    simp [LINE, tyD, hsp, lstAt, e2, hds, hds2, hls, bLen, lenD, seqOf, hti, mAppend, hdl2, hset]
  · refine All2.append ?_ (.cons ⟨S1.length, ls.length, 0, rfl, hl1, by simp, hn⟩ .nil)
    exact hall.imp fun _ _ h => ((h.setB (by omega)).app).more (by simp)
end M

set_option linter.all false
set_option maxRecDepth 100000
namespace M
open PySem CL L2
/-! ### the parser's state -/
def ch (x : Str) : List Nat := x.cps.toList
@[simp] theorem mk_ch (x : Str) : mk (ch x) = x := (mk_of x).symm
def tk (k x : Str) : Tok := (k, ch x)
def parserO (lt a w lf : Nat) : O := .inst "Parser" [("tokens", .ref lt), ("at", .int a), ("wrap", .int w), ("faults", .ref lf)]
def PA (lp B w : Nat) (ts : List Tok) (S : Store) : Prop := ∃ lt lf a : Nat, ∃ ds : List D, lp < lt ∧ lt < B ∧ lp < lf ∧ lf < B ∧ S[lp]? = some (parserO lt a w lf) ∧ S[lt]? = some (.lst ds) ∧ S[lf]? = some (.lst []) ∧ All2 (TokAt lp B S) (ds.drop a) ts ∧ B ≤ S.length
def Pv (lp : Nat) (S S' : Store) : Prop := S.length ≤ S'.length ∧ ∀ k, k < S.length → k ≠ lp → S'[k]? = S[k]?
theorem Pv.refl {lp : Nat} {S : Store} : Pv lp S S := ⟨Nat.le_refl _, fun _ _ _ => rfl⟩
theorem Pv.trans {lp : Nat} {S S1 S2 : Store} (h : Pv lp S S1) (k : Pv lp S1 S2) : Pv lp S S2 :=
  ⟨Nat.le_trans h.1 k.1, fun j h1 h2 => (k.2 j (Nat.lt_of_lt_of_le h1 h.1) h2).trans (h.2 j h1 h2)⟩
theorem Pv.get {lp : Nat} {S S1 : Store} {j : Nat} {o : O} (h : Pv lp S S1) (hj : S[j]? = some o) (hn : j ≠ lp) : S1[j]? = some o := (h.2 j (getLt hj) hn).trans hj
theorem Pv.app {lp : Nat} {S X : Store} : Pv lp S (S ++ X) := ⟨by simp, fun j h1 _ => List.getElem?_append_left h1⟩
theorem Pv.setP {lp : Nat} {S : Store} {o : O} : Pv lp S (S.set lp o) := ⟨by simp, fun j _ h2 => List.getElem?_set_ne (Ne.symm h2)⟩
theorem Pv.setN {lp k : Nat} {S S' : Store} {o : O} (h : Pv lp S S') (hk : S.length ≤ k) : Pv lp S (S'.set k o) := ⟨by simpa using h.1, fun j h1 h2 => (List.getElem?_set_ne (by omega)).trans (h.2 j h1 h2)⟩
theorem PA.lt {lp B w : Nat} {ts : List Tok} {S : Store} (h : PA lp B w ts S) : B ≤ S.length ∧ lp < B := by
  obtain ⟨lt, lf, a, ds, h1, h2, h3, h4, h5, h6, h7, h8, h9⟩ := h
  exact ⟨h9, by omega⟩
theorem TokAt.keep {lp B : Nat} {S S' : Store} {d : D} {t : Tok} (h : TokAt lp B S d t) (hk : ∀ k, k < B → k ≠ lp → S'[k]? = S[k]?) : TokAt lp B S' d t := by
  obtain ⟨j, ln, c, h1, h2, h4, h3⟩ := h
  exact ⟨j, ln, c, h1, h2, h4, by rw [hk j h4 (by omega)]; exact h3⟩
theorem PA.keep {lp B w : Nat} {ts : List Tok} {S S' : Store} (h : PA lp B w ts S) (hl : B ≤ S'.length) (hk : ∀ k, k < B → S'[k]? = S[k]?) : PA lp B w ts S' := by
  obtain ⟨lt, lf, a, ds, h1, h2, h3, h4, h5, h6, h7, h8, h9⟩ := h
  exact ⟨lt, lf, a, ds, h1, h2, h3, h4, by rw [hk lp (by omega)]; exact h5, by rw [hk lt h2]; exact h6, by rw [hk lf h4]; exact h7, h8.imp fun _ _ h => h.keep fun k hkB _ => hk k hkB, hl⟩
theorem PA.app {lp B w : Nat} {ts : List Tok} {S X : Store} (h : PA lp B w ts S) : PA lp B w ts (S ++ X) :=
  h.keep (by have := h.lt.1; simp; omega) fun k hk => List.getElem?_append_left (Nat.lt_of_lt_of_le hk h.lt.1)
theorem PA.set {lp B w k : Nat} {ts : List Tok} {S : Store} {o : O} (h : PA lp B w ts S) (hk : B ≤ k) : PA lp B w ts (S.set k o) :=
  h.keep (by have := h.lt.1; simp; omega) fun j hj => List.getElem?_set_ne (by omega)
theorem lk_t {v1 v2 v3 v4 : D} : List.lookup (Str.ofString "tokens") [(Str.ofString "tokens", v1), (Str.ofString "at", v2), (Str.ofString "wrap", v3), (Str.ofString "faults", v4)] = some v1 := rfl
theorem lk_a {v1 v2 v3 v4 : D} : List.lookup (Str.ofString "at") [(Str.ofString "tokens", v1), (Str.ofString "at", v2), (Str.ofString "wrap", v3), (Str.ofString "faults", v4)] = some v2 := rfl
theorem lk_w {v1 v2 v3 v4 : D} : List.lookup (Str.ofString "wrap") [(Str.ofString "tokens", v1), (Str.ofString "at", v2), (Str.ofString "wrap", v3), (Str.ofString "faults", v4)] = some v3 := rfl
theorem lk_f {v1 v2 v3 v4 : D} : List.lookup (Str.ofString "faults") [(Str.ofString "tokens", v1), (Str.ofString "at", v2), (Str.ofString "wrap", v3), (Str.ofString "faults", v4)] = some v4 := rfl
def MTH : List Str := ["peek", "take", "expect", "fault", "take_number", "take_register", "parse_deck", "parse_card", "parse_action", "parse_put"]
theorem lk_m {v1 v2 v3 v4 : D} {m : Str} (hm : m ∈ MTH) : List.lookup m [(Str.ofString "tokens", v1), (Str.ofString "at", v2), (Str.ofString "wrap", v3), (Str.ofString "faults", v4)] = none := by
  have : ∀ m ∈ MTH, (m == Str.ofString "tokens") = false ∧ (m == Str.ofString "at") = false ∧ (m == Str.ofString "wrap") = false ∧ (m == Str.ofString "faults") = false := by decide +kernel
  obtain ⟨h1, h2, h3, h4⟩ := this m hm
  simp [List.lookup, h1, h2, h3, h4]
theorem pm {lp B w n : Nat} {ts : List Tok} {S : Store} {m : Str} {F : FF} {x : FA} {r : CL.Env} (h : PA lp B w ts S) (hm : m ∈ MTH) (hr : r[0]? = some (some (.ref lp))) : fMeth "Parser" m n F (fVar 0) x r S = kMeth2 n F (.ref lp) (x r S) := by
  obtain ⟨lt, lf, a, ds, h1, h2, h3, h4, h5, h6, h7, h8, h9⟩ := h
  simp [hr, h5, parserO, lk_m hm]
theorem pw {lp B w : Nat} {ts : List Tok} {S : Store} (h : PA lp B w ts S) : fldOf "Parser" "wrap" S (.ref lp) = some (.int w) := by
  obtain ⟨lt, lf, a, ds, h1, h2, h3, h4, h5, h6, h7, h8, h9⟩ := h
  simp [fldOf, h5, parserO, lk_w]
theorem tok_kind {T : Store} {j ln c : Nat} {k : Str} {w : List Nat} (h : T[j]? = some (tokO k w ln c)) : fldOf "Token" "kind" T (.ref j) = some (.str k) := by
  simp [fldOf, h, tokO]
theorem peek {lp B w : Nat} {k : Str} {x : List Nat} {ts : List Tok} {S : Store} (h : PA lp B w ((k, x) :: ts) S) : ∃ j ln c : Nat, F_Parser_peek S [.ref lp] = .ok (.ref j) S ∧ S[j]? = some (tokO k x ln c) ∧ j ≠ lp ∧ fldOf "Token" "kind" S (.ref j) = some (.str k) ∧ fldOf "Token" "text" S (.ref j) = some (.str (mk x)) := by
  obtain ⟨lt, lf, a, ds, h1, h2, h3, h4, h5, h6, h7, h8, h9⟩ := h
  generalize hs : ds.drop a = s at h8
  cases h8 with
  | @cons d _ _ _ hd h8 =>
    obtain ⟨j, ln, c, rfl, g1, g2, g3⟩ := hd
    refine ⟨j, ln, c, ?_, g3, by omega, tok_kind g3, tok_field g3⟩
    have hat : atI ds (a : Int) = some (.ref j) := by
      rw [atI_nat]
      have := congrArg (fun l => l[0]?) hs
      simpa using this
    rw [F_Parser_peek, fDef_k]
    simp [fldOf, h5, parserO, lk_t, lk_a, opIx, h6, hat]
theorem adv {lp B w : Nat} {t : Tok} {ts : List Tok} {S : Store} (h : PA lp B w (t :: ts) S) : ∃ S', (∀ r : CL.Env, r[0]? = some (some (.ref lp)) → fAugFld "Parser" "at" (fVar 0) (fC (.int 1)) r S = .next r S') ∧ PA lp B w ts S' ∧ Pv lp S S' := by
  obtain ⟨lt, lf, a, ds, h1, h2, h3, h4, h5, h6, h7, h8, h9⟩ := h
  generalize hs : ds.drop a = s at h8
  cases h8 with
  | @cons d _ s' _ hd h8 =>
    have hd1 : ds.drop (a + 1) = s' := by
      have := congrArg List.tail hs
      simpa [List.tail_drop] using this
    have hlp := getLt h5
    refine ⟨S.set lp (parserO lt (a + 1) w lf), ?_, ⟨lt, lf, a + 1, ds, h1, h2, h3, h4, set_get hlp, ?_, ?_, ?_, by simpa using h9⟩, Pv.setP⟩
    · intro r hr
      have e1 : putD (Str.ofString "at") (.int ((a : Int) + 1)) [(Str.ofString "tokens", .ref lt), (Str.ofString "at", .int a), (Str.ofString "wrap", .int w), (Str.ofString "faults", .ref lf)] = [(Str.ofString "tokens", .ref lt), (Str.ofString "at", .int ((a : Int) + 1)), (Str.ofString "wrap", .int w), (Str.ofString "faults", .ref lf)] := rfl
      simp [hr, fldOf, h5, parserO, lk_a, putFld, e1]
    · rw [List.getElem?_set_ne (by omega)]; exact h6
    · rw [List.getElem?_set_ne (by omega)]; exact h7
    · rw [hd1]
      exact h8.imp fun _ _ h => h.keep fun k _ hk => List.getElem?_set_ne (Ne.symm hk)
theorem take {lp B w : Nat} {k : Str} {x : List Nat} {ts : List Tok} {S : Store} (h : PA lp B w ((k, x) :: ts) S) : ∃ (j ln c : Nat) (S' : Store), F_Parser_take S [.ref lp, .str k] = .ok (.ref j) S' ∧ S'[j]? = some (tokO k x ln c) ∧ j ≠ lp ∧ fldOf "Token" "text" S' (.ref j) = some (.str (mk x)) ∧ PA lp B w ts S' ∧ Pv lp S S' := by
  obtain ⟨j, ln, c, e1, g1, g2, g3, g4⟩ := peek h
  obtain ⟨S1, e2, p2, v2⟩ := adv h
  have g5 := v2.get g1 g2
  refine ⟨j, ln, c, S1, ?_, g5, g2, tok_field g5, p2, v2⟩
  rw [F_Parser_take, fDef_k]
  simp [pm h (show Str.ofString "peek" ∈ MTH by decide), e1, g3, opNe, eqD, e2]
theorem expect {lp B w : Nat} {k : Str} {x : Str} {ts : List Tok} {S : Store} (h : PA lp B w (tk k x :: ts) S) : ∃ (S' : Store), F_Parser_expect S [.ref lp, .str x] = .ok .none S' ∧ PA lp B w ts S' ∧ Pv lp S S' := by
  obtain ⟨j, ln, c, e1, g1, g2, g3, g4⟩ := peek h
  obtain ⟨S1, e2, p2, v2⟩ := adv h
  simp at g4
  refine ⟨S1, ?_, p2, v2⟩
  rw [F_Parser_expect, fDef_k]
  simp [pm h (show Str.ofString "peek" ∈ MTH by decide), e1, g4, opNe, eqD, e2]
theorem int_num : ∀ n : Fin 17, intText? (nmT n.1) = some (n.1 : Int) := by decide +kernel
theorem take_number {lp B w n hi : Nat} {ts : List Tok} {S : Store} (h : PA lp B w (tk "number" (nmT n) :: ts) S) (hn : n ≤ hi) (h16 : n ≤ 16) : ∃ (S' : Store), F_Parser_take_number S [.ref lp, .int hi] = .ok (.int n) S' ∧ PA lp B w ts S' ∧ Pv lp S S' := by
  obtain ⟨j, ln, c, S1, e1, g1, g2, g4, p1, v1⟩ := take h
  simp at g4
  have l1 : (nmT n).length ≤ 640 := by have := len_num (n := n) (by omega); omega
  have i1 : intText? (nmT n) = some (n : Int) := int_num ⟨n, by omega⟩
  have hn' : ¬ (hi : Int) < n := by omega
  refine ⟨S1, ?_, p1, v1⟩
  rw [F_Parser_take_number, fDef_k]
  simp [pm h (show Str.ofString "take" ∈ MTH by decide), e1, g4, bInt, l1, i1, opGt, hn']
theorem rg_ix {s : Nat} (h : s < 4) : idxOf (rgT s) [Str.ofString "p", Str.ofString "q", Str.ofString "r", Str.ofString "s"] = some s := by
  have : s = 0 ∨ s = 1 ∨ s = 2 ∨ s = 3 := by omega
  rcases this with rfl | rfl | rfl | rfl <;> rfl
theorem take_register {lp B w s : Nat} {ts : List Tok} {S : Store} (h : PA lp B w (tk "register" (rgT s) :: ts) S) (hs : s < 4) : ∃ (S' : Store), F_Parser_take_register S [.ref lp] = .ok (.int s) S' ∧ PA lp B w ts S' ∧ Pv lp S S' := by
  obtain ⟨j, ln, c, S1, e1, g1, g2, g4, p1, v1⟩ := take h
  simp at g4
  refine ⟨S1, ?_, p1, v1⟩
  rw [F_Parser_take_register, fDef_k]
  simp [pm h (show Str.ofString "take" ∈ MTH by decide), e1, g4, rg_ix hs]
end M

set_option linter.all false
set_option maxRecDepth 100000
namespace M
open PySem CL L2
def Act.toks : Act → List Tok
  | .add s n => [tk "sign" "add", tk "register" (rgT s), tk "number" (nmT n)]
  | .copy s t => [tk "sign" "copy", tk "register" (rgT s), tk "register" (rgT t)]
  | .swap s t => [tk "sign" "swap", tk "register" (rgT s), tk "register" (rgT t)]
  | .emitR s => [tk "sign" "emit", tk "register" (rgT s)]
  | .emitN n => [tk "sign" "emit", tk "number" (nmT n)]
def Put.toks : Put → List Tok
  | .fix n => [tk "number" (nmT n)]
  | .reg s => [tk "register" (rgT s)]
  | .test s a b => [tk "register" (rgT s), tk "sign" "?", tk "number" (nmT a), tk "sign" ":", tk "number" (nmT b)]
theorem parse_put {lp B w : Nat} {p : Put} {ts : List Tok} {S : Store} (h : PA lp B w (p.toks ++ tk "sign" ";" :: ts) S) (hp : p.ok) : ∃ (S' : Store), F_Parser_parse_put S [.ref lp] = .ok p.d S' ∧ PA lp B w (tk "sign" ";" :: ts) S' ∧ Pv lp S S' := by
  rw [F_Parser_parse_put, fDef_k]
  cases p with
  | fix n =>
    have hn : n < 10 := hp
    have h : PA lp B w (tk "number" (nmT n) :: tk "sign" ";" :: ts) S := h
    obtain ⟨j, ln, c, e1, g1, g2, g3, g4⟩ := peek h
    obtain ⟨S1, e2, p2, v2⟩ := take_number (hi := 9) h (by omega) (by omega)
    have e2 : F_Parser_take_number S [.ref lp, .int 9] = _ := e2
    refine ⟨S1, ?_, p2, v2⟩
    simp [pm h (show Str.ofString "peek" ∈ MTH by decide), pm h (show Str.ofString "take_number" ∈ MTH by decide), e1, g3, opEq, eqD, e2, LINE, Put.d]
  | reg s =>
    have h : PA lp B w (tk "register" (rgT s) :: tk "sign" ";" :: ts) S := h
    obtain ⟨j, ln, c, e1, g1, g2, g3, g4⟩ := peek h
    obtain ⟨S1, e2, p2, v2⟩ := take_register h hp
    obtain ⟨j3, ln3, c3, e3, g31, g32, g33, g34⟩ := peek p2
    have b1 : ¬ Str.ofString "register" = Str.ofString "number" := by decide
    have b2 : ¬ Str.ofString ";" = Str.ofString "?" := by decide
    simp at g34
    refine ⟨S1, ?_, p2, v2⟩
    simp [pm h (show Str.ofString "peek" ∈ MTH by decide), pm h (show Str.ofString "take_register" ∈ MTH by decide), pm p2 (show Str.ofString "peek" ∈ MTH by decide), e1, g3, opEq, opNe, eqD, e2, LINE, Put.d, b1, e3, g34, b2]
  | test s a b =>
    have h : PA lp B w (tk "register" (rgT s) :: tk "sign" "?" :: tk "number" (nmT a) :: tk "sign" ":" :: tk "number" (nmT b) :: tk "sign" ";" :: ts) S := h
    have ha := hp.2.1
    have hb := hp.2.2
    obtain ⟨j, ln, c, e1, g1, g2, g3, g4⟩ := peek h
    obtain ⟨S1, e2, p2, v2⟩ := take_register h hp.1
    obtain ⟨j3, ln3, c3, e3, g31, g32, g33, g34⟩ := peek p2
    obtain ⟨S4, e4, p4, v4⟩ := adv p2
    obtain ⟨S5, e5, p5, v5⟩ := take_number (hi := 9) p4 (by omega) (by omega)
    obtain ⟨S6, e6, p6, v6⟩ := expect p5
    obtain ⟨S7, e7, p7, v7⟩ := take_number (hi := 9) p6 (by omega) (by omega)
    have e5 : F_Parser_take_number S4 [.ref lp, .int 9] = _ := e5
    have e7 : F_Parser_take_number S6 [.ref lp, .int 9] = _ := e7
    have b1 : ¬ Str.ofString "register" = Str.ofString "number" := by decide
    simp at g34
    refine ⟨S7, ?_, p7, v2.trans (v4.trans (v5.trans (v6.trans v7)))⟩
    simp [pm h (show Str.ofString "peek" ∈ MTH by decide), pm h (show Str.ofString "take_register" ∈ MTH by decide), pm p2 (show Str.ofString "peek" ∈ MTH by decide), pm p4 (show Str.ofString "take_number" ∈ MTH by decide), pm p5 (show Str.ofString "expect" ∈ MTH by decide), pm p6 (show Str.ofString "take_number" ∈ MTH by decide), e1, g3, opEq, opNe, eqD, e2, LINE, Put.d, b1, e3, g34, e4, e5, e6, e7]
theorem nin_acts {S : Store} (x : Str) (h : x ∈ (["add", "copy", "swap", "emit"] : List Str)) : opNotIn (.str x) (.tup [.str "add", .str "copy", .str "swap", .str "emit"]) S = .ok (.bool false) S := by
  have := in_tup S x ["add", "copy", "swap", "emit"]
  rw [decide_eq_true h] at this
  have this : opIn (.str x) (.tup [.str "add", .str "copy", .str "swap", .str "emit"]) S = _ := this
  unfold opIn at this
  unfold opNotIn
  cases he : inD S (.str x) (.tup [.str "add", .str "copy", .str "swap", .str "emit"]) with
  | none => rw [he] at this; cases this
  | some b => rw [he] at this; cases b with
    | true => rfl
    | false => cases this
theorem parse_action {lp B w : Nat} {a : Act} {ts : List Tok} {S : Store} {cnt : Nat} (h : PA lp B w (a.toks ++ ts) S) (ha : a.ok w) (hw : w ≤ 16) (hc : cnt < 6) : ∃ (S' : Store), F_Parser_parse_action S [.ref lp, .int cnt] = .ok a.d S' ∧ PA lp B w ts S' ∧ Pv lp S S' := by
  have hc6 : ¬ (cnt : Int) = 6 := by omega
  rw [F_Parser_parse_action, fDef_k]
  cases a with
  | add s n =>
    have hn := ha.2
    have h : PA lp B w (tk "sign" "add" :: tk "register" (rgT s) :: tk "number" (nmT n) :: ts) S := h
    obtain ⟨j, ln, c, e1, g1, g2, g3, g4⟩ := peek h
    obtain ⟨S2, e2, p2, v2⟩ := adv h
    have f2 := tok_field (v2.get g1 g2)
    obtain ⟨S3, e3, p3, v3⟩ := take_register p2 ha.1
    have f3 := tok_field ((v2.trans v3).get g1 g2)
    obtain ⟨S4, e4, p4, v4⟩ := take_number (hi := w - 1) p3 (by omega) (by omega)
    have ew : ((w - 1 : Nat) : Int) = (w : Int) - 1 := by omega
    rw [ew] at e4
    simp at g4 f2 f3
    refine ⟨S4, ?_, p4, v2.trans (v3.trans v4)⟩
    simp +decide [pm h (show Str.ofString "peek" ∈ MTH by decide), pm p2 (show Str.ofString "take_register" ∈ MTH by decide), pm p3 (show Str.ofString "take_number" ∈ MTH by decide), e1, g4, opEq, eqD, nin_acts, hc6, e2, f2, e3, f3, pw p3, opSub, e4, LINE, Act.d]
  | copy s t =>
    have h : PA lp B w (tk "sign" "copy" :: tk "register" (rgT s) :: tk "register" (rgT t) :: ts) S := h
    obtain ⟨j, ln, c, e1, g1, g2, g3, g4⟩ := peek h
    obtain ⟨S2, e2, p2, v2⟩ := adv h
    have f2 := tok_field (v2.get g1 g2)
    obtain ⟨S3, e3, p3, v3⟩ := take_register p2 ha.1
    have f3 := tok_field ((v2.trans v3).get g1 g2)
    obtain ⟨S4, e4, p4, v4⟩ := take_register p3 ha.2
    simp at g4 f2 f3
    refine ⟨S4, ?_, p4, v2.trans (v3.trans v4)⟩
    simp +decide [pm h (show Str.ofString "peek" ∈ MTH by decide), pm p2 (show Str.ofString "take_register" ∈ MTH by decide), pm p3 (show Str.ofString "take_register" ∈ MTH by decide), e1, g4, opEq, eqD, nin_acts, hc6, e2, f2, e3, f3, e4, LINE, Act.d]
  | swap s t =>
    have h : PA lp B w (tk "sign" "swap" :: tk "register" (rgT s) :: tk "register" (rgT t) :: ts) S := h
    obtain ⟨j, ln, c, e1, g1, g2, g3, g4⟩ := peek h
    obtain ⟨S2, e2, p2, v2⟩ := adv h
    have f2 := tok_field (v2.get g1 g2)
    obtain ⟨S3, e3, p3, v3⟩ := take_register p2 ha.1
    have f3 := tok_field ((v2.trans v3).get g1 g2)
    obtain ⟨S4, e4, p4, v4⟩ := take_register p3 ha.2
    simp at g4 f2 f3
    refine ⟨S4, ?_, p4, v2.trans (v3.trans v4)⟩
    simp +decide [pm h (show Str.ofString "peek" ∈ MTH by decide), pm p2 (show Str.ofString "take_register" ∈ MTH by decide), pm p3 (show Str.ofString "take_register" ∈ MTH by decide), e1, g4, opEq, eqD, nin_acts, hc6, e2, f2, e3, f3, e4, LINE, Act.d]
  | emitR s =>
    have h : PA lp B w (tk "sign" "emit" :: tk "register" (rgT s) :: ts) S := h
    obtain ⟨j, ln, c, e1, g1, g2, g3, g4⟩ := peek h
    obtain ⟨S2, e2, p2, v2⟩ := adv h
    have f2 := tok_field (v2.get g1 g2)
    obtain ⟨j3, ln3, c3, e3, g31, g32, g33, g34⟩ := peek p2
    obtain ⟨S4, e4, p4, v4⟩ := take_register p2 ha
    simp at g4 f2
    refine ⟨S4, ?_, p4, v2.trans v4⟩
    simp +decide [pm h (show Str.ofString "peek" ∈ MTH by decide), pm p2 (show Str.ofString "peek" ∈ MTH by decide), pm p2 (show Str.ofString "take_register" ∈ MTH by decide), e1, g4, opEq, eqD, nin_acts, hc6, e2, f2, e3, g33, e4, LINE, Act.d]
  | emitN n =>
    have hn : n < w := ha
    have h : PA lp B w (tk "sign" "emit" :: tk "number" (nmT n) :: ts) S := h
    obtain ⟨j, ln, c, e1, g1, g2, g3, g4⟩ := peek h
    obtain ⟨S2, e2, p2, v2⟩ := adv h
    have f2 := tok_field (v2.get g1 g2)
    obtain ⟨j3, ln3, c3, e3, g31, g32, g33, g34⟩ := peek p2
    obtain ⟨S4, e4, p4, v4⟩ := take_number (hi := w - 1) p2 (by omega) (by omega)
    have ew : ((w - 1 : Nat) : Int) = (w : Int) - 1 := by omega
    rw [ew] at e4
    simp at g4 f2
    refine ⟨S4, ?_, p4, v2.trans v4⟩
    simp +decide [pm h (show Str.ofString "peek" ∈ MTH by decide), pm p2 (show Str.ofString "peek" ∈ MTH by decide), pm p2 (show Str.ofString "take_number" ∈ MTH by decide), e1, g4, opEq, eqD, nin_acts, hc6, e2, f2, e3, g33, pw p2, opSub, e4, LINE, Act.d]
end M

set_option linter.all false
set_option maxRecDepth 100000
namespace M
open PySem CL L2
def moreT (as : List Act) : List Tok := as.flatMap fun a => tk "sign" "," :: a.toks
def actsT : List Act → List Tok
  | [] => []
  | a :: as => a.toks ++ moreT as
def Card.toks (c : Card) : List Tok := tk "name" c.nm :: tk "sign" ":" :: (actsT c.acts ++ tk "sign" "->" :: (c.put.toks ++ [tk "sign" ";"]))
abbrev caTest : FT := fBl (fBin opEq (fFld "Token" "text" (fMeth "Parser" "peek" 1 F_Parser_peek (fVar 0) fNil)) (fC (.str ",")))
abbrev caBody : FS := fSeq (fAugFld "Parser" "at" (fVar 0) (fC (.int 1))) (fExpr (fBM "list" mAppend (fVar 3) (fCons (fMeth "Parser" "parse_action" 2 F_Parser_parse_action (fVar 0) (fCons (fCB bLen (fCons (fVar 3) (fNil))) (fNil))) (fNil))))
theorem acts_run {lp B w la : Nat} {as done : List Act} {ts : List Tok} {S T : Store} {x1 x2 x4 x5 : Option D} (h : PA lp B w (moreT as ++ tk "sign" "->" :: ts) T) (hw : w ≤ 16) (hla : T[la]? = some (.lst (done.map Act.d))) (hB : B ≤ la) (hS : S.length ≤ la) (hv : Pv lp S T) (hok : ∀ a ∈ as, a.ok w) (hn : done.length + as.length ≤ 6) :
    ∃ T', fWhile WFUEL caTest caBody [some (.ref lp), x1, x2, some (.ref la), x4, x5] T = .next [some (.ref lp), x1, x2, some (.ref la), x4, x5] T' ∧ PA lp B w (tk "sign" "->" :: ts) T' ∧ T'[la]? = some (.lst ((done ++ as).map Act.d)) ∧ Pv lp S T' := by
  obtain ⟨r', T', e, h1, h2, h3, h4⟩ := while_run (t := caTest) (b := caBody)
    (J := fun m r U => ∃ (dn rem : List Act), r = [some (.ref lp), x1, x2, some (.ref la), x4, x5] ∧ m = rem.length ∧ dn ++ rem = done ++ as ∧ (∀ a ∈ rem, a.ok w) ∧ PA lp B w (moreT rem ++ tk "sign" "->" :: ts) U ∧ U[la]? = some (.lst (dn.map Act.d)) ∧ Pv lp S U)
    (Q := fun r U => r = [some (.ref lp), x1, x2, some (.ref la), x4, x5] ∧ PA lp B w (tk "sign" "->" :: ts) U ∧ U[la]? = some (.lst ((done ++ as).map Act.d)) ∧ Pv lp S U)
    (by
      rintro r U ⟨dn, rem, rfl, hm, hd, ho, hp, hl, hv⟩
      have : rem = [] := List.eq_nil_of_length_eq_zero hm.symm
      subst this
      simp at hd
      have hp : PA lp B w (tk "sign" "->" :: ts) U := hp
      obtain ⟨j, ln, c, e1, g1, g2, g3, g4⟩ := peek hp
      simp at g4
      refine ⟨U, ?_, rfl, hp, by rw [← hd]; exact hl, hv⟩
      simp +decide [pm hp (show Str.ofString "peek" ∈ MTH by decide), e1, g4, opEq, eqD])
    (by
      rintro m r U ⟨dn, rem, rfl, hm, hd, ho, hp, hl, hv⟩
      cases rem with
      | nil => simp at hm
      | cons a rem =>
        have hp : PA lp B w (tk "sign" "," :: (a.toks ++ (moreT rem ++ tk "sign" "->" :: ts))) U := by
          have e : moreT (a :: rem) ++ tk "sign" "->" :: ts = tk "sign" "," :: (a.toks ++ (moreT rem ++ tk "sign" "->" :: ts)) := by simp [moreT]
          rw [← e]; exact hp
        have hlp := hp.lt
        obtain ⟨j, ln, c, e1, g1, g2, g3, g4⟩ := peek hp
        simp at g4
        obtain ⟨U2, e2, p2, v2⟩ := adv hp
        have hl2 := v2.get hl (by omega)
        have hlen : dn.length < 6 := by
          have := congrArg List.length hd
          simp at this; omega
        obtain ⟨U3, e3, p3, v3⟩ := parse_action (cnt := dn.length) p2 (ho a (by simp)) hw hlen
        have hl3 := v3.get hl2 (by omega)
        have hlen2 : dn.length ≤ 16777216 := by omega
        have hlen3 : dn.length < 16777216 := by omega
        refine ⟨U, _, U3.set la (.lst ((dn ++ [a]).map Act.d)), ?_, ?_, dn ++ [a], rem, rfl, by simpa using hm, by simpa using hd, fun b hb => ho b (by simp [hb]), p3.set hB, set_get (getLt hl3), (hv.trans (v2.trans v3)).setN hS⟩
        · simp +decide [pm hp (show Str.ofString "peek" ∈ MTH by decide), e1, g4, opEq, eqD]
        · simp [e2, tyD, hl2, bLen, lenD, seqOf, lstAt, LINE, hlen2, pm p2 (show Str.ofString "parse_action" ∈ MTH by decide), e3, mAppend, hl3, hlen3])
    as.length WFUEL _ T (by show _ < 100000; omega) ⟨done, as, rfl, rfl, rfl, hok, h, hla, hv⟩
  subst h1
  exact ⟨T', e, h2, h3, h4⟩
theorem in_ref {S : Store} {l : Nat} {w : Str} {zs : List Str} (h : S[l]? = some (.lst (zs.map D.str))) : opIn (.str w) (.ref l) S = .ok (.bool (decide (w ∈ zs))) S := by
  simp only [opIn, inD, h, inSeq, flatD, flat_all, inV_str]
theorem Fr.pv {lp : Nat} {S S' : Store} (h : Fr S S') : Pv lp S S' := by obtain ⟨X, rfl⟩ := h; exact Pv.app
theorem PA.fr {lp B w : Nat} {ts : List Tok} {S S' : Store} (h : PA lp B w ts S) (f : Fr S S') : PA lp B w ts S' := by obtain ⟨X, rfl⟩ := f; exact h.app
theorem parse_card {lp B w lc : Nat} {prev : List Card} {c : Card} {ts : List Tok} {S : Store} (h : PA lp B w (c.toks ++ ts) S) (hlc : S[lc]? = some (.lst (prev.map Card.d))) (hne : lc ≠ lp) (hc : c.ok w) (hw : w ≤ 16) (hn : prev.length < 8) (hnew : ¬ c.nm ∈ prev.map Card.nm) : ∃ S', F_Parser_parse_card S [.ref lp, .ref lc] = .ok c.d S' ∧ PA lp B w ts S' ∧ Pv lp S S' := by
  have h : PA lp B w (tk "name" c.nm :: tk "sign" ":" :: (actsT c.acts ++ tk "sign" "->" :: (c.put.toks ++ tk "sign" ";" :: ts))) S := by
    have e : c.toks ++ ts = tk "name" c.nm :: tk "sign" ":" :: (actsT c.acts ++ tk "sign" "->" :: (c.put.toks ++ tk "sign" ";" :: ts)) := by simp [Card.toks]
    rw [← e]; exact h
  obtain ⟨j, ln, cl, S1, e1, g1, g2, g3, p1, v1⟩ := take h
  simp at g3
  have hlc1 := v1.get hlc hne
  have hlp1 := p1.lt
  obtain ⟨S2, e2, fr2, hl2⟩ := lc_map (s := ⟨prev.map Card.d, some (lc, prev.map Card.d)⟩) (f := Card.d) (h := fun c => .str c.nm) (i := 5) (e := fBin opIx (fVar 5) (fC (.int 0))) (l := S1.length) (r0 := [some (.ref lp), some (.ref lc), some (.ref j), none, none, none]) (Inv := Fr S1)
    (fun T hT => still_lst (hT.get hlc1)) (fun T o hT => hT.set (Nat.le_refl _)) prev (fun x hx T acc fr hacc => ⟨T, by simp [opIx, Card.d], fr, hacc⟩) (S1 ++ [.lst []]) [] ⟨_, rfl⟩ (by simp) (by simp [LINE]; omega)
  have hl2 : S2[S1.length]? = some (.lst ((prev.map Card.nm).map D.str)) := by rw [hl2]; simp
  have i2 := in_ref (w := c.nm) hl2
  rw [decide_eq_false hnew] at i2
  have p2 := p1.fr fr2
  have v2 := Fr.pv (lp := lp) fr2
  obtain ⟨S3, e3, p3, v3⟩ := expect p2
  have v3 := v2.trans v3
  have hlp3 := p3.lt
  have p4 := p3.app (X := [.lst []])
  have v4 : Pv lp S1 (S3 ++ [.lst []]) := v3.trans Pv.app
  have hla4 : (S3 ++ [O.lst []])[S3.length]? = some (.lst (([] : List Act).map Act.d)) := by simp
  have hne8 : ¬ (prev.length : Int) = 8 := by omega
  have hpl : prev.length ≤ 16777216 := by omega
  have v3l := v3.1
  -- the actions
  have key : ∃ S5, (fIf (fBl (fBin opNe (fFld "Token" "text" (fMeth "Parser" "peek" 1 F_Parser_peek (fVar 0) fNil)) (fC (.str "->")))) (fSeq (fExpr (fBM "list" mAppend (fVar 3) (fCons (fMeth "Parser" "parse_action" 2 F_Parser_parse_action (fVar 0) (fCons (fC (.int 0)) (fNil))) (fNil)))) (fWhile WFUEL caTest caBody)) (fPass)) [some (.ref lp), some (.ref lc), some (.ref j), some (.ref S3.length), none, none] (S3 ++ [.lst []]) = .next [some (.ref lp), some (.ref lc), some (.ref j), some (.ref S3.length), none, none] S5 ∧ PA lp B w (tk "sign" "->" :: (c.put.toks ++ tk "sign" ";" :: ts)) S5 ∧ S5[S3.length]? = some (.lst (c.acts.map Act.d)) ∧ Pv lp S1 S5 := by
    cases hacts : c.acts with
    | nil =>
      rw [hacts] at p4
      have p4 : PA lp B w (tk "sign" "->" :: (c.put.toks ++ tk "sign" ";" :: ts)) (S3 ++ [.lst []]) := p4
      obtain ⟨j5, ln5, c5, e5, g51, g52, g53, g54⟩ := peek p4
      simp at g54
      refine ⟨S3 ++ [.lst []], ?_, p4, by simp, v4⟩
      simp [pm p4 (show Str.ofString "peek" ∈ MTH by decide), e5, g54, opNe, eqD]
    | cons a as =>
      rw [hacts] at p4
      have p4 : PA lp B w (a.toks ++ (moreT as ++ tk "sign" "->" :: (c.put.toks ++ tk "sign" ";" :: ts))) (S3 ++ [.lst []]) := by
        have e : actsT (a :: as) ++ tk "sign" "->" :: (c.put.toks ++ tk "sign" ";" :: ts) = a.toks ++ (moreT as ++ tk "sign" "->" :: (c.put.toks ++ tk "sign" ";" :: ts)) := by simp [actsT]
        rw [← e]; exact p4
      have hfew := hc.few
      have hok := hc.acts
      rw [hacts] at hfew hok
      simp at hfew
      obtain ⟨k0, x0, t0, et0, hx0⟩ : ∃ (k x : Str) (t : List Tok), a.toks = tk k x :: t ∧ x ≠ Str.ofString "->" := by
        cases a <;> exact ⟨_, _, _, rfl, by decide⟩
      have p4' := p4
      rw [et0] at p4'
      obtain ⟨j5, ln5, c5, e5, g51, g52, g53, g54⟩ := peek p4'
      simp at g54
      obtain ⟨S6, e6, p6, v6⟩ := parse_action (cnt := 0) p4 (hok a (by simp)) hw (by omega)
      have e6 : F_Parser_parse_action (S3 ++ [.lst []]) [.ref lp, .int 0] = _ := e6
      have hl6 := v6.get hla4 (by omega)
      simp at hl6
      obtain ⟨S7, e7, p7, hl7, v7⟩ := acts_run (S := S1) (la := S3.length) (done := [a]) (x1 := some (.ref lc)) (x2 := some (.ref j)) (x4 := none) (x5 := none) (p6.set hlp3.1 (o := .lst [a.d])) hw (set_get (getLt hl6)) hlp3.1 v3l ((v4.trans v6).setN v3l) (fun b hb => hok b (by simp [hb])) (by simp; omega)
      refine ⟨S7, ?_, p7, hl7, v7⟩
      simp [pm p4 (show Str.ofString "peek" ∈ MTH by decide), pm p4 (show Str.ofString "parse_action" ∈ MTH by decide), e5, g54, opNe, eqD, hx0, tyD, e6, mAppend, hl6, LINE, e7]
  obtain ⟨S5, e5, p5, hl5, v5⟩ := key
  obtain ⟨S6, e6, p6, v6⟩ := expect p5
  obtain ⟨S7, e7, p7, v7⟩ := parse_put p6 hc.put
  obtain ⟨S8, e8, p8, v8⟩ := expect p7
  have v678 := v6.trans (v7.trans v8)
  have hl8 := v678.get hl5 (by omega)
  have hj := tok_field ((v5.trans v678).get g1 g2)
  simp at hj
  have hal := hc.few
  have hal2 : c.acts.length ≤ 16777216 := by omega
  refine ⟨S8, ?_, p8, v1.trans (v5.trans v678)⟩
  rw [F_Parser_parse_card, fDef_k]
  simp [pm h (show Str.ofString "take" ∈ MTH by decide), e1, bLen, lenD, seqOf, lstAt, hlc1, opEq, eqD, hne8, hpl, LINE, g3, seqSrc, wipeE, e2, i2, pm p2 (show Str.ofString "expect" ∈ MTH by decide), e3, e5, pm p5 (show Str.ofString "expect" ∈ MTH by decide), e6, pm p6 (show Str.ofString "parse_put" ∈ MTH by decide), e7, pm p7 (show Str.ofString "expect" ∈ MTH by decide), e8, hj, bTuple, hl8, Card.d]
end M

set_option linter.all false
set_option maxRecDepth 100000
namespace M
open PySem CL L2
def endT : Tok := (Str.ofString "end", [])
def Deck.toks (k : Deck) : List Tok := tk "sign" "wrap" :: tk "number" (nmT k.w) :: tk "sign" ";" :: k.cards.flatMap Card.toks
theorem setw {lp B w : Nat} {ts : List Tok} {S : Store} (w' : Nat) (h : PA lp B w ts S) : ∃ S', putFld "Parser" "wrap" S (.ref lp) (.int w') = some S' ∧ PA lp B w' ts S' ∧ Pv lp S S' := by
  obtain ⟨lt, lf, a, ds, h1, h2, h3, h4, h5, h6, h7, h8, h9⟩ := h
  have hlp := getLt h5
  refine ⟨S.set lp (parserO lt a w' lf), ?_, ⟨lt, lf, a, ds, h1, h2, h3, h4, set_get hlp, ?_, ?_, ?_, by simpa using h9⟩, Pv.setP⟩
  · have e1 : putD (Str.ofString "wrap") (.int w') [(Str.ofString "tokens", .ref lt), (Str.ofString "at", .int a), (Str.ofString "wrap", .int w), (Str.ofString "faults", .ref lf)] = [(Str.ofString "tokens", .ref lt), (Str.ofString "at", .int a), (Str.ofString "wrap", .int w'), (Str.ofString "faults", .ref lf)] := rfl
    simp [putFld, h5, parserO, e1]
  · rw [List.getElem?_set_ne (by omega)]; exact h6
  · rw [List.getElem?_set_ne (by omega)]; exact h7
  · exact h8.imp fun _ _ h => h.keep fun k _ hk => List.getElem?_set_ne (Ne.symm hk)
abbrev dkTest : FT := fBl (fBin opNe (fFld "Token" "kind" (fMeth "Parser" "peek" 1 F_Parser_peek (fVar 0) fNil)) (fC (.str "end")))
abbrev dkBody : FS := fExpr (fBM "list" mAppend (fVar 2) (fCons (fMeth "Parser" "parse_card" 2 F_Parser_parse_card (fVar 0) (fCons (fVar 2) (fNil))) (fNil)))
theorem cards_run {lp B w la : Nat} {cs done : List Card} {S T : Store} {x1 : Option D} (h : PA lp B w (cs.flatMap Card.toks ++ [endT]) T) (hw : w ≤ 16) (hla : T[la]? = some (.lst (done.map Card.d))) (hB : B ≤ la) (hS : S.length ≤ la) (hv : Pv lp S T) (hok : ∀ a ∈ cs, a.ok w) (hn : done.length + cs.length ≤ 8) (hnd : ((done ++ cs).map Card.nm).Nodup) :
    ∃ T', fWhile WFUEL dkTest dkBody [some (.ref lp), x1, some (.ref la)] T = .next [some (.ref lp), x1, some (.ref la)] T' ∧ PA lp B w [endT] T' ∧ T'[la]? = some (.lst ((done ++ cs).map Card.d)) ∧ Pv lp S T' := by
  obtain ⟨r', T', e, h1, h2, h3, h4⟩ := while_run (t := dkTest) (b := dkBody)
    (J := fun m r U => ∃ (dn rem : List Card), r = [some (.ref lp), x1, some (.ref la)] ∧ m = rem.length ∧ dn ++ rem = done ++ cs ∧ (∀ a ∈ rem, a.ok w) ∧ PA lp B w (rem.flatMap Card.toks ++ [endT]) U ∧ U[la]? = some (.lst (dn.map Card.d)) ∧ Pv lp S U)
    (Q := fun r U => r = [some (.ref lp), x1, some (.ref la)] ∧ PA lp B w [endT] U ∧ U[la]? = some (.lst ((done ++ cs).map Card.d)) ∧ Pv lp S U)
    (by
      rintro r U ⟨dn, rem, rfl, hm, hd, ho, hp, hl, hv⟩
      have : rem = [] := List.eq_nil_of_length_eq_zero hm.symm
      subst this
      simp at hd
      have hp : PA lp B w [endT] U := hp
      obtain ⟨j, ln, c, e1, g1, g2, g3, g4⟩ := peek hp
      refine ⟨U, ?_, rfl, hp, by rw [← hd]; exact hl, hv⟩
      simp [pm hp (show Str.ofString "peek" ∈ MTH by decide), e1, g3, opNe, eqD])
    (by
      rintro m r U ⟨dn, rem, rfl, hm, hd, ho, hp, hl, hv⟩
      cases rem with
      | nil => simp at hm
      | cons c rem =>
        have hp : PA lp B w (c.toks ++ (rem.flatMap Card.toks ++ [endT])) U := by
          have e : (c :: rem).flatMap Card.toks ++ [endT] = c.toks ++ (rem.flatMap Card.toks ++ [endT]) := by simp
          rw [← e]; exact hp
        have hlp := hp.lt
        have hp' : PA lp B w (tk "name" c.nm :: ((tk "sign" ":" :: (actsT c.acts ++ tk "sign" "->" :: (c.put.toks ++ [tk "sign" ";"]))) ++ (rem.flatMap Card.toks ++ [endT]))) U := hp
        obtain ⟨j, ln, cc, e1, g1, g2, g3, g4⟩ := peek hp'
        have hlen : dn.length < 8 := by
          have := congrArg List.length hd
          simp at this; omega
        have hnew : ¬ c.nm ∈ dn.map Card.nm := by
          rw [← hd] at hnd
          simp [List.nodup_append] at hnd
          intro hx
          obtain ⟨y, hy, e⟩ := List.mem_map.mp hx
          exact (hnd.2.2 y hy).1 e
        obtain ⟨U3, e3, p3, v3⟩ := parse_card hp hl (by omega) (ho c (by simp)) hw hlen hnew
        have hl3 := v3.get hl (by omega)
        have hlen3 : dn.length < 16777216 := by omega
        refine ⟨U, _, U3.set la (.lst ((dn ++ [c]).map Card.d)), ?_, ?_, dn ++ [c], rem, rfl, by simpa using hm, by simpa using hd, fun b hb => ho b (by simp [hb]), p3.set hB, set_get (getLt hl3), (hv.trans v3).setN hS⟩
        · simp +decide [pm hp (show Str.ofString "peek" ∈ MTH by decide), e1, g3, opNe, eqD]
        · simp [tyD, hl, pm hp (show Str.ofString "parse_card" ∈ MTH by decide), e3, mAppend, hl3, LINE, hlen3])
    cs.length WFUEL _ T (by show _ < 100000; omega) ⟨done, cs, rfl, rfl, rfl, hok, h, hla, hv⟩
  subst h1
  exact ⟨T', e, h2, h3, h4⟩
theorem parse_deck {lp B m : Nat} {k : Deck} {S : Store} (h : PA lp B 16 (k.toks ++ [endT]) S) (hk : k.ok m) (hm : m ≤ 8) : ∃ S', F_Parser_parse_deck S [.ref lp] = .ok k.d S' ∧ PA lp B k.w [endT] S' ∧ Pv lp S S' := by
  have hw := hk.w16
  have hw2 := hk.w2
  have hfew := hk.few
  obtain ⟨c, cs, hcs⟩ : ∃ c cs, k.cards = c :: cs := by
    cases he : k.cards with
    | nil => exact absurd he hk.some
    | cons c cs => exact ⟨c, cs, rfl⟩
  have hok := hk.cards
  have hnd := hk.nodup
  rw [hcs] at hok hnd hfew
  simp at hfew
  have h : PA lp B 16 (tk "sign" "wrap" :: tk "number" (nmT k.w) :: tk "sign" ";" :: (c.toks ++ (cs.flatMap Card.toks ++ [endT]))) S := by
    have e : k.toks ++ [endT] = tk "sign" "wrap" :: tk "number" (nmT k.w) :: tk "sign" ";" :: (c.toks ++ (cs.flatMap Card.toks ++ [endT])) := by simp [Deck.toks, hcs]
    rw [← e]; exact h
  obtain ⟨S1, e1, p1, v1⟩ := expect h
  obtain ⟨j, ln, cl, S2, e2, g21, g22, g23, p2, v2⟩ := take p1
  simp at g23
  obtain ⟨S3, e3, p3, v3⟩ := setw k.w p2
  obtain ⟨S4, e4, p4, v4⟩ := expect p3
  have hlp4 := p4.lt
  obtain ⟨S5, e5, p5, v5⟩ := parse_card (lc := S4.length) (prev := []) (p4.app (X := [.lst []])) (by simp) (by omega) (hok c (by simp)) hw (by simp) (by simp)
  have hlp5 := p5.lt
  have vv : Pv lp S S5 := v1.trans (v2.trans (v3.trans (v4.trans (Pv.app.trans v5))))
  obtain ⟨S6, e6, p6, hl6, v6⟩ := cards_run (S := S) (la := S5.length) (done := [c]) (x1 := some (.ref j)) (p5.app (X := [.lst [c.d]])) hw (by simp) hlp5.1 vv.1 (vv.trans Pv.app) (fun b hb => hok b (by simp [hb])) (by simp; omega) hnd
  have i1 : intText? (nmT k.w) = some (k.w : Int) := int_num ⟨k.w, by omega⟩
  have l1 : (nmT k.w).length ≤ 640 := by have := len_num (n := k.w) (by omega); omega
  have c1 : (2 : Int) ≤ k.w := by omega
  have c2 : (k.w : Int) ≤ 16 := by omega
  have hl6' : S6[S5.length]? = some (.lst (k.cards.map Card.d)) := by rw [hcs]; exact hl6
  refine ⟨S6, ?_, p6, v6⟩
  rw [F_Parser_parse_deck, fDef_k]
  simp [pm h (show Str.ofString "expect" ∈ MTH by decide), e1, pm p1 (show Str.ofString "take" ∈ MTH by decide), e2, g23, bInt, l1, i1, pLe, c1, c2, hw, hw2, e3, pm p3 (show Str.ofString "expect" ∈ MTH by decide), e4, pm p4 (show Str.ofString "parse_card" ∈ MTH by decide), pm (p4.app (X := [.lst []])) (show Str.ofString "parse_card" ∈ MTH by decide), e5, LINE, e6, pw p6, bTuple, seqOf, lstAt, hl6', Deck.d]
theorem load {S : Store} {s : List Nat} {m : Nat} {k : Deck} (h : Lex s k.toks) (hs : s.length < 100000) (hk : k.ok m) (hm : m ≤ 8) : ∃ S', F_load S [.str (mk s)] = .ok k.d S' ∧ Fr S S' := by
  obtain ⟨S1, ds, e1, fr1, hd1, ha1⟩ := tokenize (S := S ++ [.inst "Parser" []]) h hs
  simp at e1 hd1 ha1
  have hp0 : S1[S.length]? = some (.inst "Parser" []) := fr1.get (by simp)
  have hlp := getLt hp0
  have hlt := getLt hd1
  have q1 : putFld "Parser" "tokens" S1 (.ref S.length) (.ref (S.length + 1)) = some (S1.set S.length (.inst "Parser" [("tokens", .ref (S.length + 1))])) := by
    simp [putFld, hp0, putD]
  have q2 : putFld "Parser" "at" (S1.set S.length (.inst "Parser" [("tokens", .ref (S.length + 1))])) (.ref S.length) (.int 0) = some (S1.set S.length (.inst "Parser" [("tokens", .ref (S.length + 1)), ("at", .int 0)])) := by
    simp +decide [putFld, set_get hlp, putD]
  have q3 : putFld "Parser" "wrap" (S1.set S.length (.inst "Parser" [("tokens", .ref (S.length + 1)), ("at", .int 0)])) (.ref S.length) (.int 16) = some (S1.set S.length (.inst "Parser" [("tokens", .ref (S.length + 1)), ("at", .int 0), ("wrap", .int 16)])) := by
    simp +decide [putFld, set_get hlp, putD]
  have q4 : putFld "Parser" "faults" (S1.set S.length (.inst "Parser" [("tokens", .ref (S.length + 1)), ("at", .int 0), ("wrap", .int 16)]) ++ [.lst []]) (.ref S.length) (.ref S1.length) = some (S1.set S.length (parserO (S.length + 1) 0 16 S1.length) ++ [.lst []]) := by
    have hget : (S1.set S.length (.inst "Parser" [("tokens", .ref (S.length + 1)), ("at", .int 0), ("wrap", .int 16)]) ++ [O.lst []])[S.length]? = some (.inst "Parser" [("tokens", .ref (S.length + 1)), ("at", .int 0), ("wrap", .int 16)]) := getApp (set_get hlp)
    have hset : ∀ o, (S1.set S.length (.inst "Parser" [("tokens", .ref (S.length + 1)), ("at", .int 0), ("wrap", .int 16)]) ++ [O.lst []]).set S.length o = S1.set S.length o ++ [.lst []] := fun o => by
      rw [List.set_append_left _ _ (by simpa using hlp), List.set_set]
    simp +decide [putFld, hget, putD, hset, parserO]
  have pa : PA S.length (S1.length + 1) 16 (k.toks ++ [endT]) (S1.set S.length (parserO (S.length + 1) 0 16 S1.length) ++ [.lst []]) := by
    refine ⟨S.length + 1, S1.length, 0, ds, by omega, by omega, by omega, by omega, getApp (set_get hlp), getApp (by rw [List.getElem?_set_ne (by omega)]; exact hd1), by rw [List.getElem?_append_right (by simp)]; simp, ?_, by simp⟩
    refine ha1.imp fun d t ht => ?_
    obtain ⟨j, ln, c, h1, h2, h4, h3⟩ := ht
    exact ⟨j, ln, c, h1, by omega, by omega, getApp (by rw [List.getElem?_set_ne (by omega)]; exact h3)⟩
  obtain ⟨S2, e2, p2, v2⟩ := parse_deck pa hk hm
  obtain ⟨lt, lf, a, ds', h1, h2, h3, h4, h5, h6, h7, h8, h9⟩ := id p2
  have fr : Fr S S2 := by
    have hfr : Fr S (S1.set S.length (parserO (S.length + 1) 0 16 S1.length) ++ [.lst []]) := (fr1.ofApp.set (Nat.le_refl _)).app
    obtain ⟨X, hX⟩ := hfr
    refine ⟨S2.drop S.length, ?_⟩
    have hlen : S.length ≤ S2.length := by have := v2.1; simp at this; omega
    apply List.ext_getElem?
    intro i
    by_cases hi : i < S.length
    · rw [List.getElem?_append_left hi, v2.2 i (by simp; omega) (by omega), hX, List.getElem?_append_left hi]
    · rw [List.getElem?_append_right (by omega), List.getElem?_drop]
      congr 1; omega
  have hne := ne_nil (S2 ++ [.lst []]) lf S2.length [] (getApp h7) (by simp) (by simp)
  have hf : fldOf "Parser" "faults" S2 (.ref S.length) = some (.ref lf) := by simp [fldOf, h5, parserO, lk_f]
  refine ⟨S2 ++ [.lst []], ?_, fr.app⟩
  have ei : F_Parser_init (S ++ [.inst "Parser" []]) [.ref S.length, .str (mk s)] = .ok .none (S1.set S.length (parserO (S.length + 1) 0 16 S1.length) ++ [.lst []]) := by
    rw [F_Parser_init, fDef_k]
    simp [e1, q1, q2, q3, LINE, q4]
  have hm5 : ∀ (r : CL.Env) (x : FA), r[1]? = some (some (.ref S.length)) → fMeth "Parser" "parse_deck" 1 F_Parser_parse_deck (fVar 1) x r (S1.set S.length (parserO (S.length + 1) 0 16 S1.length) ++ [.lst []]) = kMeth2 1 F_Parser_parse_deck (.ref S.length) (x r (S1.set S.length (parserO (S.length + 1) 0 16 S1.length) ++ [.lst []])) := fun r x hr => by
    have hg : (S1.set S.length (parserO (S.length + 1) 0 16 S1.length) ++ [O.lst []])[S.length]? = some (parserO (S.length + 1) 0 16 S1.length) := getApp (set_get hlp)
    generalize (S1.set S.length (parserO (S.length + 1) 0 16 S1.length) ++ [O.lst []]) = T at hg ⊢
    simp [hr, hg, parserO, lk_m (show Str.ofString "parse_deck" ∈ MTH by decide)]
  rw [F_load, fDef_k]
  simp [ei, hm5, e2, hf, LINE, hne]
end M

set_option linter.all false
set_option maxRecDepth 100000
namespace M
open PySem CL L2
/-! ### a deck's text, lexed -/
@[simp] theorem ch_app (a b : Str) : ch (a ++ b) = ch a ++ ch b := by simp [ch, Str.cps_append]
theorem ch_of (l : List Nat) : ch (mk l) = l := mk_cps l
theorem rg_lex : ∀ s : Nat, ∃ x, ch (rgT s) = [x] ∧ x ∈ LT ∧ kindW (mk [x]) = Str.ofString "register" := by
  intro s
  unfold rgT
  split <;> exact ⟨_, rfl, by decide, by decide +kernel⟩
theorem TokOk.reg {s : Nat} {rest : List Nat} (hb : Bnd rest) : TokOk "register" (ch (rgT s)) rest := by
  obtain ⟨x, e, h1, h2⟩ := rg_lex s
  rw [e, ← h2]
  exact .word (by simpa using h1) (by simp) hb
theorem num_lex : ∀ n : Fin 1000, (∀ c ∈ ch (nmT n.1), c ∈ DG) ∧ (ch (nmT n.1)).length ≤ 3 ∧ ((ch (nmT n.1)).length ≥ 1) ∧ ((ch (nmT n.1)).tail ≠ [] → (ch (nmT n.1)).head? ≠ some 48) := by decide +kernel
theorem TokOk.num {n : Nat} {rest : List Nat} (hn : n < 1000) (hb : Bnd rest) : TokOk "number" (ch (nmT n)) rest := by
  obtain ⟨h1, h2, h3, h4⟩ := num_lex ⟨n, hn⟩
  simp only at h1 h2 h3 h4
  cases e : ch (nmT n) with
  | nil => rw [e] at h3; simp at h3
  | cons x xs =>
    rw [e] at h1 h2 h3 h4
    simp at h2 h4
    exact .number h1 h2 h4 hb
def wordB (k w : Str) : Bool := (ch w).all (fun c => decide (c ∈ LT)) && decide ((ch w).length ≤ 8) && decide (1 ≤ (ch w).length) && decide (kindW w = k)
theorem TokOk.wordOf {k w : Str} {rest : List Nat} (h : wordB k w = true) (hb : Bnd rest) : TokOk k (ch w) rest := by
  unfold wordB at h
  simp only [Bool.and_eq_true, decide_eq_true_eq, List.all_eq_true] at h
  obtain ⟨⟨⟨h1, h2⟩, h3⟩, h4⟩ := h
  have hm : w = mk (ch w) := mk_of w
  cases e : ch w with
  | nil => rw [e] at h3; simp at h3
  | cons x xs =>
    rw [e] at h1 h2 h3 hm
    rw [hm] at h4
    rw [← h4]
    exact .word h1 (by simpa using h2) hb
theorem names_word (x : Str) (h : nameB x = true) : wordB "name" x = true := by
  obtain ⟨h1, h2, h3, h4, h5⟩ := nameB_ok h
  unfold wordB kindW
  simp only [Bool.and_eq_true, decide_eq_true_eq, List.all_eq_true, if_neg h4, if_neg h5]
  exact ⟨⟨⟨h1, h2⟩, h3⟩, trivial⟩
theorem bnd_sp {l : List Nat} : Bnd (32 :: l) := fun c h => by simp at h; subst h; decide
theorem bnd_nl {l : List Nat} : Bnd (10 :: l) := fun c h => by simp at h; subst h; decide
theorem bnd_of {c : Nat} {l : List Nat} (h : c ∈ [32, 10, 58, 44, 59, 63, 45, 62]) : Bnd (c :: l) := fun c' h' => by
  simp at h'; subst h'
  have : ∀ c ∈ [32, 10, 58, 44, 59, 63, 45, 62], ¬ c ∈ DG ∧ ¬ c ∈ LT := by decide
  exact this c h
theorem Lex.tk {k x : Str} {l : List Nat} {ts : List Tok} (h : TokOk k (ch x) l) (hl : Lex l ts) : Lex (ch x ++ l) (tk k x :: ts) := .tok h hl
theorem lex_reg {s : Nat} {l : List Nat} {ts : List Tok} (hb : Bnd l) (h : Lex l ts) : Lex (ch (rgT s) ++ l) (tk "register" (rgT s) :: ts) := .tk (.reg hb) h
theorem lex_num {n : Nat} {l : List Nat} {ts : List Tok} (hn : n < 1000) (hb : Bnd l) (h : Lex l ts) : Lex (ch (nmT n) ++ l) (tk "number" (nmT n) :: ts) := .tk (.num hn hb) h
theorem lex_word {k w : Str} {l : List Nat} {ts : List Tok} (hw : wordB k w = true) (hb : Bnd l) (h : Lex l ts) : Lex (ch w ++ l) (tk k w :: ts) := .tk (.wordOf hw hb) h
theorem lex_sign {x : Nat} {w : Str} {l : List Nat} {ts : List Tok} (hx : x ∈ [58, 44, 59, 63]) (e : ch w = [x]) (h : Lex l ts) : Lex (x :: l) (tk "sign" w :: ts) := by
  have := Lex.tok (k := "sign") (w := [x]) (l := l) (ts := ts) (.sign hx) h
  simpa [tk, e] using this
theorem lex_arrow {l : List Nat} {ts : List Tok} (h : Lex l ts) : Lex (45 :: 62 :: l) (tk "sign" "->" :: ts) := Lex.tok (k := "sign") (w := [45, 62]) .arrow h
theorem ch_lit {x : Str} {l : List Nat} (h : x.cps.toList = l) : ch x = l := h
theorem ch_sp : ch (Str.ofString " ") = [32] := rfl
theorem ch_emitB : ch (Str.ofString "emit ") = ch (Str.ofString "emit") ++ [32] := rfl
theorem ch_wrapB : ch (Str.ofString "wrap ") = ch (Str.ofString "wrap") ++ [32] := rfl
theorem ch_qm : ch (Str.ofString " ? ") = [32, 63, 32] := rfl
theorem ch_cl : ch (Str.ofString " : ") = [32, 58, 32] := rfl
theorem ch_cm : ch (Str.ofString ", ") = [44, 32] := rfl
theorem ch_cs : ch (Str.ofString ": ") = [58, 32] := rfl
theorem ch_ar : ch (Str.ofString "-> ") = [45, 62, 32] := rfl
theorem ch_sc : ch (Str.ofString ";") = [59] := rfl
theorem ch_no : ch (Str.ofString "") = [] := rfl
theorem lex_act {w : Nat} {a : Act} {l : List Nat} {ts : List Tok} (ha : a.ok w) (hw : w ≤ 16) (hb : Bnd l) (h : Lex l ts) : Lex (ch a.t ++ l) (a.toks ++ ts) := by
  cases a with
  | add s n =>
    simp only [Act.t, Act.toks, ch_app, ch_sp, List.append_assoc, List.cons_append, List.nil_append]
    exact lex_word (by decide +kernel) bnd_sp (.sp (lex_reg bnd_sp (.sp (lex_num (by have := ha.2; omega) hb h))))
  | copy s t =>
    simp only [Act.t, Act.toks, ch_app, ch_sp, List.append_assoc, List.cons_append, List.nil_append]
    exact lex_word (by decide +kernel) bnd_sp (.sp (lex_reg bnd_sp (.sp (lex_reg hb h))))
  | swap s t =>
    simp only [Act.t, Act.toks, ch_app, ch_sp, List.append_assoc, List.cons_append, List.nil_append]
    exact lex_word (by decide +kernel) bnd_sp (.sp (lex_reg bnd_sp (.sp (lex_reg hb h))))
  | emitR s =>
    simp only [Act.t, Act.toks, ch_app, ch_emitB, List.append_assoc, List.cons_append, List.nil_append]
    exact lex_word (by decide +kernel) bnd_sp (.sp (lex_reg hb h))
  | emitN n =>
    simp only [Act.t, Act.toks, ch_app, ch_emitB, List.append_assoc, List.cons_append, List.nil_append]
    exact lex_word (by decide +kernel) bnd_sp (.sp (lex_num (by have : n < w := ha; omega) hb h))
theorem lex_put {p : Put} {l : List Nat} {ts : List Tok} (hp : p.ok) (hb : Bnd l) (h : Lex l ts) : Lex (ch p.t ++ l) (p.toks ++ ts) := by
  cases p with
  | fix n => exact lex_num (by have : n < 10 := hp; omega) hb h
  | reg s => exact lex_reg hb h
  | test s a b =>
    simp only [Put.t, Put.toks, ch_app, ch_qm, ch_cl, List.append_assoc, List.cons_append, List.nil_append]
    exact lex_reg bnd_sp (.sp (lex_sign (by decide) rfl (.sp (lex_num (by have := hp.2.1; omega) bnd_sp (.sp (lex_sign (by decide) rfl (.sp (lex_num (by have := hp.2.2; omega) hb h))))))))
theorem join_cons2 (sep x y : Str) (zs : List Str) : Txt.join sep (x :: y :: zs) = x ++ sep ++ Txt.join sep (y :: zs) := by
  rw [show Txt.join sep (x :: y :: zs) = Str.join sep (x :: y :: zs) from StrLaws.glued_eq_join _ _, show Txt.join sep (y :: zs) = Str.join sep (y :: zs) from StrLaws.glued_eq_join _ _]
  rfl
theorem join_one (sep x : Str) : Txt.join sep [x] = x := by
  rw [show Txt.join sep [x] = Str.join sep [x] from StrLaws.glued_eq_join _ _]; rfl
theorem lex_acts {w : Nat} {l : List Nat} {ts : List Tok} (hw : w ≤ 16) (hb : Bnd l) (h : Lex l ts) : ∀ (a : Act) (as : List Act), (∀ b ∈ a :: as, b.ok w) → Lex (ch (Txt.join ", " ((a :: as).map Act.t)) ++ l) (actsT (a :: as) ++ ts)
  | a, [], ho => by
    rw [show List.map Act.t [a] = [a.t] from rfl, join_one]
    have := lex_act (ho a (by simp)) hw hb h
    simpa [actsT, moreT] using this
  | a, b :: bs, ho => by
    have ih := lex_acts hw hb h b bs fun c hc => ho c (by simp at hc ⊢; right; exact hc)
    rw [show List.map Act.t (a :: b :: bs) = a.t :: b.t :: bs.map Act.t from rfl, join_cons2]
    have ih2 : Lex (ch (Txt.join ", " (b.t :: bs.map Act.t)) ++ l) (actsT (b :: bs) ++ ts) := ih
    have e : actsT (a :: b :: bs) ++ ts = a.toks ++ (tk "sign" "," :: (actsT (b :: bs) ++ ts)) := by simp [actsT, moreT]
    rw [e]
    simp only [ch_app, ch_cm, List.append_assoc, List.cons_append, List.nil_append]
    exact lex_act (ho a (by simp)) hw (bnd_of (by decide)) (lex_sign (by decide) rfl (.sp ih2))
theorem lex_card {w : Nat} {c : Card} {l : List Nat} {ts : List Tok} (hc : c.ok w) (hw : w ≤ 16) (h : Lex l ts) : Lex (ch c.t ++ l) (c.toks ++ ts) := by
  have tail : Lex (45 :: 62 :: 32 :: (ch c.put.t ++ 59 :: l)) (tk "sign" "->" :: (c.put.toks ++ tk "sign" ";" :: ts)) :=
    lex_arrow (.sp (lex_put hc.put (bnd_of (by decide)) (lex_sign (by decide) rfl h)))
  have e : c.toks ++ ts = tk "name" c.nm :: tk "sign" ":" :: (actsT c.acts ++ tk "sign" "->" :: (c.put.toks ++ tk "sign" ";" :: ts)) := by simp [Card.toks]
  rw [e]
  by_cases he : c.acts = []
  · simp only [Card.t, he, if_pos, ch_app, ch_cs, ch_no, ch_ar, ch_sc, List.append_assoc, List.cons_append, List.nil_append]
    exact lex_word (names_word _ hc.nm) (bnd_of (by decide)) (lex_sign (by decide) rfl (.sp tail))
  · simp only [Card.t, if_neg he, ch_app, ch_cs, ch_no, ch_sp, ch_ar, ch_sc, List.append_assoc, List.cons_append, List.nil_append]
    refine lex_word (names_word _ hc.nm) (bnd_of (by decide)) (lex_sign (by decide) rfl (.sp ?_))
    have ho := hc.acts
    cases ha : c.acts with
    | nil => exact absurd ha he
    | cons a as =>
      have := lex_acts hw bnd_sp (.sp tail) a as (by rw [← ha]; exact ho)
      simpa [Card.at, ha] using this
theorem lex_rows {w : Nat} (hw : w ≤ 16) : ∀ (r : Str) (cs : List Card) (tr : List Tok), (∀ l ts, Lex l ts → Lex (ch r ++ l) (tr ++ ts)) → (∀ c ∈ cs, c.ok w) → Lex (ch (Txt.join "\n" (r :: cs.map Card.t))) (tr ++ cs.flatMap Card.toks)
  | r, [], tr, hr, _ => by
    rw [show List.map Card.t [] = [] from rfl, join_one]
    have := hr [] [] .nil
    simpa using this
  | r, c :: cs, tr, hr, ho => by
    have ih := lex_rows hw c.t cs c.toks (fun l ts h => lex_card (ho c (by simp)) hw h) fun x hx => ho x (by simp [hx])
    rw [show List.map Card.t (c :: cs) = c.t :: cs.map Card.t from rfl, join_cons2]
    have e : ch (r ++ "\n" ++ Txt.join "\n" (c.t :: cs.map Card.t)) = ch r ++ 10 :: ch (Txt.join "\n" (c.t :: cs.map Card.t)) := by
      rw [ch_app, ch_app, List.append_assoc]; rfl
    rw [e]
    have := hr _ _ (Lex.nl ih)
    simpa using this
theorem lex_deck {m : Nat} {k : Deck} (h : k.ok m) : Lex (ch k.t) k.toks := by
  have hw := h.w16
  have := lex_rows hw ("wrap " ++ nmT k.w ++ ";") k.cards [tk "sign" "wrap", tk "number" (nmT k.w), tk "sign" ";"] (fun l ts hl => by
    simp only [ch_app, ch_wrapB, ch_sc, List.append_assoc, List.cons_append, List.nil_append]
    exact lex_word (by decide +kernel) bnd_sp (.sp (lex_num (by omega) (bnd_of (by decide)) (lex_sign (by decide) rfl hl)))) h.cards
  exact this
/-! ### other blanks between the tokens -/
def SG : List Nat := [58, 44, 59, 63, 62]
def freeB (p : Option Nat) (s : List Nat) : Prop := (∃ c, p = some c ∧ c ∈ SG) ∨ (∃ c, s.head? = some c ∧ (c ∈ SG ∨ c = 45))
inductive Loose : Option Nat → List Nat → List Nat → Prop
  | nil {p} : Loose p [] []
  | keep {p c s t} : c ≠ 32 → c ≠ 10 → Loose (some c) s t → Loose p (c :: s) (c :: t)
  | gap {p c s t g} : c = 32 ∨ c = 10 → (freeB p s ∧ g ∈ [[], [32], [10]] ∨ g ∈ [[32], [32, 32], [10, 32]]) → Loose (some c) s t → Loose p (c :: s) (g ++ t)
theorem lex_blanks {g l : List Nat} {ts : List Tok} (hg : ∀ c ∈ g, c = 32 ∨ c = 10) (h : Lex l ts) : Lex (g ++ l) ts := by
  induction g with
  | nil => exact h
  | cons c g ih =>
    have ih := ih fun c' hc => hg c' (by simp [hc])
    rcases hg c (by simp) with rfl | rfl
    · exact .sp ih
    · exact .nl ih
theorem gap_mem {g : List Nat} {P : Prop} (h : P ∧ g ∈ [[], [32], [10]] ∨ g ∈ [[32], [32, 32], [10, 32]]) : g ∈ ([[], [32], [10], [32], [32, 32], [10, 32]] : List (List Nat)) := by
  rcases h with ⟨_, h⟩ | h
  · exact (by decide : ∀ g ∈ ([[], [32], [10]] : List (List Nat)), g ∈ ([[], [32], [10], [32], [32, 32], [10, 32]] : List (List Nat))) g h
  · exact (by decide : ∀ g ∈ ([[32], [32, 32], [10, 32]] : List (List Nat)), g ∈ ([[], [32], [10], [32], [32, 32], [10, 32]] : List (List Nat))) g h
theorem gap_blank {g : List Nat} {P : Prop} (h : P ∧ g ∈ [[], [32], [10]] ∨ g ∈ [[32], [32, 32], [10, 32]]) : ∀ c ∈ g, c = 32 ∨ c = 10 := by
  have : ∀ g ∈ ([[], [32], [10], [32], [32, 32], [10, 32]] : List (List Nat)), ∀ c ∈ g, c = 32 ∨ c = 10 := by decide
  exact this g (gap_mem h)
def lastOr : Option Nat → List Nat → Option Nat
  | p, [] => p
  | _, x :: w => lastOr (some x) w
theorem lastOr_mem : ∀ (w : List Nat) (x : Nat), ∃ c, lastOr (some x) w = some c ∧ c ∈ x :: w
  | [], x => ⟨x, rfl, by simp⟩
  | y :: w, x => by
    obtain ⟨c, h1, h2⟩ := lastOr_mem w y
    exact ⟨c, h1, List.mem_cons_of_mem _ h2⟩
theorem loose_word : ∀ {w : List Nat} {p : Option Nat} {l t : List Nat}, (∀ c ∈ w, c ≠ 32 ∧ c ≠ 10) → Loose p (w ++ l) t → ∃ t', t = w ++ t' ∧ Loose (lastOr p w) l t'
  | [], p, l, t, _, h => ⟨t, rfl, h⟩
  | x :: w, p, l, t, hw, h => by
    cases h with
    | keep h1 h2 h3 =>
      obtain ⟨t', e, h4⟩ := loose_word (fun c hc => hw c (by simp [hc])) h3
      exact ⟨t', by rw [e]; rfl, h4⟩
    | gap h1 _ _ =>
      have := hw x (by simp)
      rcases h1 with h1 | h1
      · exact absurd h1 this.1
      · exact absurd h1 this.2
theorem loose_bnd {p : Option Nat} {l t : List Nat} (hp : ∀ c, p = some c → ¬ c ∈ SG) (h : Loose p l t) (hb : Bnd l) : Bnd t := by
  cases h with
  | nil => exact bnd_nil
  | keep => exact fun c' hc => hb c' (by simpa using hc)
  | @gap _ c s t g h1 h2 h3 =>
    have hg := gap_blank h2
    cases g with
    | cons x g =>
      intro c' hc
      simp at hc; subst hc
      rcases hg x (by simp) with rfl | rfl <;> decide
    | nil =>
      rcases h2 with ⟨h2, _⟩ | h2
      · rcases h2 with ⟨c', e, hc⟩ | ⟨c', e, hc⟩
        · exact absurd hc (hp c' e)
        · cases s with
          | nil => simp at e
          | cons y s =>
            simp at e; subst e
            have h9 : y ∈ [32, 10, 58, 44, 59, 63, 45, 62] := by
              rcases hc with hc | rfl
              · simp [SG] at hc ⊢; omega
              · decide
            have hnb : y ≠ 32 ∧ y ≠ 10 := by
              rcases hc with hc | rfl
              · simp [SG] at hc; omega
              · decide
            cases h3 with
            | keep => exact bnd_of h9
            | gap h1 _ _ => rcases h1 with h1 | h1 <;> simp [h1] at hnb
      · simp at h2
theorem dg_sg : ∀ c ∈ DG, ¬ c ∈ SG := by decide
theorem lt_sg : ∀ c ∈ LT, ¬ c ∈ SG := by decide
theorem loose_lex {s : List Nat} {ts : List Tok} (h : Lex s ts) : ∀ {p : Option Nat} {t : List Nat}, Loose p s t → Lex t ts := by
  induction h with
  | nil => intro p t h; cases h; exact .nil
  | sp _ ih =>
    intro p t h
    cases h with
    | keep h1 => exact absurd rfl h1
    | gap h1 h2 h3 => exact lex_blanks (gap_blank h2) (ih h3)
  | nl _ ih =>
    intro p t h
    cases h with
    | keep _ h1 => exact absurd rfl h1
    | gap h1 h2 h3 => exact lex_blanks (gap_blank h2) (ih h3)
  | @tok k w l ts ht hl ih =>
    intro p t h
    obtain ⟨t', rfl, h2⟩ := loose_word ht.free h
    refine .tok ?_ (ih h2)
    cases ht with
    | arrow => exact .arrow
    | sign hs => exact .sign hs
    | @number x xs _ h1 h3 h4 hb =>
      refine .number h1 h3 h4 (loose_bnd (fun c e => ?_) h2 hb)
      obtain ⟨c', e1, e2⟩ := lastOr_mem xs x
      have : lastOr p (x :: xs) = some c' := e1
      rw [this] at e; cases e
      exact dg_sg _ (h1 _ e2)
    | @word x xs _ h1 h3 hb =>
      refine .word h1 h3 (loose_bnd (fun c e => ?_) h2 hb)
      obtain ⟨c', e1, e2⟩ := lastOr_mem xs x
      have : lastOr p (x :: xs) = some c' := e1
      rw [this] at e; cases e
      exact lt_sg _ (h1 _ e2)
theorem loose_len {p : Option Nat} {s t : List Nat} (h : Loose p s t) : t.length ≤ 2 * s.length := by
  induction h with
  | nil => simp
  | keep _ _ _ ih => simp; omega
  | @gap _ c s t g h1 h2 h3 ih =>
    have : g.length ≤ 2 := by
      have : ∀ g ∈ ([[], [32], [10], [32], [32, 32], [10, 32]] : List (List Nat)), g.length ≤ 2 := by decide
      exact this g (gap_mem h2)
    simp; omega
end M

set_option linter.all false
set_option maxRecDepth 100000
namespace M
open PySem CL L2
/-! ### equal -/
theorem All2.get {α β : Type} {R : α → β → Prop} {as : List α} {bs : List β} (h : All2 R as bs) : ∀ {i : Nat}, i < as.length → ∃ a b, as[i]? = some a ∧ bs[i]? = some b ∧ R a b := by
  induction h with
  | nil => intro i hi; simp at hi
  | @cons a b as bs h1 _ ih =>
    intro i hi
    cases i with
    | zero => exact ⟨a, b, rfl, rfl, h1⟩
    | succ i =>
      obtain ⟨a', b', h2, h3, h4⟩ := ih (i := i) (by simpa using hi)
      exact ⟨a', b', by simpa using h2, by simpa using h3, h4⟩
def flatB : D → Bool
  | .none => true
  | .bool _ => true
  | .int _ => true
  | .str _ => true
  | _ => false
def Same (S : Store) : Nat → D → D → Prop
  | 0, _, _ => False
  | n + 1, d, e => (d = e ∧ flatB d = true) ∨ (∃ ds es, d = .tup ds ∧ e = .tup es ∧ All2 (Same S n) ds es ∧ ds.length ≤ 1000000) ∨ (∃ l k ds es, d = .ref l ∧ e = .ref k ∧ S[l]? = some (.lst ds) ∧ S[k]? = some (.lst es) ∧ All2 (Same S n) ds es ∧ ds.length ≤ 1000000)
theorem Same.fr {S S' : Store} (f : Fr S S') : ∀ {n : Nat} {d e : D}, Same S n d e → Same S' n d e
  | 0, _, _, h => h.elim
  | n + 1, d, e, h => by
    rcases h with h | ⟨ds, es, h1, h2, h3, h4⟩ | ⟨l, k, ds, es, h1, h2, h3, h4, h5, h6⟩
    · exact .inl h
    · exact .inr (.inl ⟨ds, es, h1, h2, h3.imp fun _ _ h => h.fr f, h4⟩)
    · exact .inr (.inr ⟨l, k, ds, es, h1, h2, f.get h3, f.get h4, h5.imp fun _ _ h => h.fr f, h6⟩)
theorem small_nat {n : Nat} (h : n ≤ 1000000) : small62 (n : Int) = true := by unfold small62; apply decide_eq_true; omega
theorem bools_true {n : Nat} : boolsD ((List.range n).map fun _ => D.bool true) = some (List.replicate n true) := by
  have : ∀ l : List Nat, boolsD (l.map fun _ => D.bool true) = some (List.replicate l.length true) := by
    intro l
    induction l with
    | nil => rfl
    | cons x xs ih => simp [boolsD, ih, List.replicate_succ]
  simpa using this (List.range n)
theorem rng_eq (n : Nat) : rngL 0 n = (List.range n).map fun (i : Nat) => D.int i := by simp [rngL]
theorem equal_list {n : Nat} {S : Store} {d e : D} {ds es : List D} {Rec : FF} (ih : ∀ S d e, Same S n d e → ∃ S', Rec S [d, e] = .ok (.bool true) S' ∧ Fr S S')
    (h : All2 (Same S n) ds es) (hl : ds.length ≤ 1000000) (hd : ∀ T, Fr S T → ∀ i : Nat, i < ds.length → ∃ x y, opIx d (.int i) T = .ok x T ∧ opIx e (.int i) T = .ok y T ∧ Same S n x y) :
    ∃ S', lcGo ⟨rngL 0 es.length, none⟩ (gNm 2) fYes (fCallN 2 Rec (fCons (fBin opIx (fVar 0) (fVar 2)) (fCons (fBin opIx (fVar 1) (fVar 2)) (fNil)))) S.length [some d, some e, none] (rngL 0 es.length) (S ++ [.lst []]) = .ok () S' ∧ Fr S S' ∧ bAll [.ref S.length] S' = some (.bool true, S') := by
  obtain ⟨S1, e1, fr1, hl1⟩ := lc_map (s := ⟨rngL 0 es.length, none⟩) (f := fun (i : Nat) => D.int i) (h := fun _ => D.bool true) (i := 2) (e := fCallN 2 Rec (fCons (fBin opIx (fVar 0) (fVar 2)) (fCons (fBin opIx (fVar 1) (fVar 2)) (fNil)))) (l := S.length) (r0 := [some d, some e, none]) (Inv := Fr S)
    (fun _ _ => still_none) (fun T o hT => hT.set (Nat.le_refl _)) (List.range es.length) (fun i hi T acc fr hacc => by
      have hi' : i < ds.length := by rw [h.length]; simpa using hi
      obtain ⟨x, y, hx, hy, hs⟩ := hd T fr i hi'
      obtain ⟨T', e2, f2⟩ := ih T x y (hs.fr fr)
      exact ⟨T', by simp [hx, hy, e2], fr.trans f2, f2.get hacc⟩) (S ++ [.lst []]) [] ⟨_, rfl⟩ (by simp) (by have := h.length; simp [LINE]; omega)
  rw [← rng_eq] at e1
  refine ⟨S1, e1, fr1, ?_⟩
  have hl1 : S1[S.length]? = some (.lst ((List.range es.length).map fun _ => D.bool true)) := hl1
  simp only [bAll, boolsAt, lstAt, hl1, Option.bind_some, bools_true]
  simp
theorem eqS {x y : Bool} {S : Store} : opNe (.bool x) (.bool y) S = .ok (.bool (!(x == y))) S := by
  cases x <;> cases y <;> rfl
theorem neI {a b : Int} {S : Store} : opNe (.int a) (.int b) S = .ok (.bool (!decide (a = b))) S := rfl
theorem eqB {x : Bool} {S : Store} : opEq (.bool x) (.bool x) S = .ok (.bool true) S := by
  cases x <;> rfl
theorem i1 : isiT "bool" "int" = false := by decide
theorem i2 : isiT "int" "int" = true := by decide
theorem i3 : isiT "bool" "str" = false := by decide
theorem i4 : isiT "int" "str" = false := by decide
theorem i5 : isiT "str" "str" = true := by decide
theorem i6 : isiT "bool" "tuple" = false := by decide
theorem i7 : isiT "int" "tuple" = false := by decide
theorem i8 : isiT "str" "tuple" = false := by decide
theorem i9 : isiT "tuple" "tuple" = true := by decide
theorem i10 : isiT "list" "tuple" = false := by decide
theorem i11 : isiT "bool" "list" = false := by decide
theorem i12 : isiT "int" "list" = false := by decide
theorem i13 : isiT "str" "list" = false := by decide
theorem i14 : isiT "tuple" "list" = false := by decide
theorem i15 : isiT "list" "list" = true := by decide
theorem i16 : isiT "bool" "bool" = true := by decide
theorem equal_flat {n : Nat} {S : Store} {d : D} (h : flatB d = true) : F_law_equal (n + 1) S [d, d] = .ok (.bool true) S := by
  rw [F_law_equal, fDef_k]
  cases d with
  | none => simp [opIsN, isNone]
  | bool b => simp [opIsN, isNone, kindD, i16, tru, eqB]
  | int i => simp [opIsN, isNone, kindD, i1, i2, tru, opEq, eqD]
  | str x => simp [opIsN, isNone, kindD, i3, i4, i5, tru, opEq, eqD]
  | _ => simp [flatB] at h
theorem len_tup {S : Store} {ds : List D} : bLen [.tup ds] S = some (.int ds.length, S) := rfl
theorem eqt1 {S : Store} {ds es : List D} (hlen : ds.length = es.length) : (fIf (fBl (fBin opIsN (fVar 1) (fC .none))) (fRet (fBin opIsN (fVar 0) (fC .none))) (fPass)) [some (.tup ds), some (.tup es), none] S = .next [some (.tup ds), some (.tup es), none] S := by
  simp [opIsN, isNone]
theorem eqt2 {S : Store} {ds es : List D} (hlen : ds.length = es.length) : (fIf (fTru (fIsi "bool" (fVar 1))) (fRet (fAndV (fIsi "bool" (fVar 0)) (fBin opEq (fVar 0) (fVar 1)))) (fPass)) [some (.tup ds), some (.tup es), none] S = .next [some (.tup ds), some (.tup es), none] S := by
  simp [kindD, i6, tru]
theorem eqt3 {S : Store} {ds es : List D} (hlen : ds.length = es.length) : (fIf (fBl (fBin opNe (fIsi "tuple" (fVar 1)) (fIsi "tuple" (fVar 0)))) (fRet (fC (.bool false))) (fPass)) [some (.tup ds), some (.tup es), none] S = .next [some (.tup ds), some (.tup es), none] S := by
  simp [kindD, i9, eqS]
theorem eqt4 {S : Store} {ds es : List D} (hlen : ds.length = es.length) : (fIf (fBl (fBin opNe (fIsi "list" (fVar 1)) (fIsi "list" (fVar 0)))) (fRet (fC (.bool false))) (fPass)) [some (.tup ds), some (.tup es), none] S = .next [some (.tup ds), some (.tup es), none] S := by
  simp [kindD, i10, eqS]
theorem eqt5 {S : Store} {ds es : List D} (hlen : ds.length = es.length) : (fIf (fBl (fBin opNe (fCB bLen (fCons (fVar 0) (fNil))) (fCB bLen (fCons (fVar 1) (fNil))))) (fRet (fC (.bool false))) (fPass)) [some (.tup ds), some (.tup es), none] S = .next [some (.tup ds), some (.tup es), none] S := by
  simp [len_tup, hlen, neI]
theorem eqt6 {n : Nat} {S S1 : Store} {ds es : List D} (hlen : ds.length = es.length) (hsm : small62 (es.length : Int) = true) 
    (e1 : lcGo ⟨rngL 0 es.length, none⟩ (gNm 2) fYes (fCallN 2 (F_law_equal n) (fCons (fBin opIx (fVar 0) (fVar 2)) (fCons (fBin opIx (fVar 1) (fVar 2)) (fNil)))) S.length [some (.tup ds), some (.tup es), none] (rngL 0 es.length) (S ++ [.lst []]) = .ok () S1) (hb : bAll [.ref S.length] S1 = some (.bool true, S1)) : (fRet (fCB bAll (fCons (fLc (iRange1 (fCB bLen (fCons (fVar 1) (fNil)))) (gNm 2) (fYes) (fCallN 2 (F_law_equal n) (fCons (fBin opIx (fVar 0) (fVar 2)) (fCons (fBin opIx (fVar 1) (fVar 2)) (fNil)))) [2]) (fNil)))) [some (.tup ds), some (.tup es), none] S = .ret (.bool true) S1 := by
  simp [len_tup, hsm, wipeE, e1, hb]
theorem eqt7 {S : Store} {ds es : List D} : (fIf (fTru (fIsi "int" (fVar 1))) (fRet (fAndV (fIsi "int" (fVar 0)) (fAndV (fNotV (fIsi "bool" (fVar 0))) (fBin opEq (fVar 0) (fVar 1))))) (fPass)) [some (.tup ds), some (.tup es), none] S = .next [some (.tup ds), some (.tup es), none] S := by
  simp [kindD, i7, tru]
theorem eqt8 {S : Store} {ds es : List D} : (fIf (fTru (fIsi "str" (fVar 1))) (fRet (fAndV (fIsi "str" (fVar 0)) (fBin opEq (fVar 0) (fVar 1)))) (fPass)) [some (.tup ds), some (.tup es), none] S = .next [some (.tup ds), some (.tup es), none] S := by
  simp [kindD, i8, tru]
theorem equal_tup {n : Nat} {S S1 : Store} {ds es : List D} (hlen : ds.length = es.length) (hsm : small62 (es.length : Int) = true)
    (e1 : lcGo ⟨rngL 0 es.length, none⟩ (gNm 2) fYes (fCallN 2 (F_law_equal n) (fCons (fBin opIx (fVar 0) (fVar 2)) (fCons (fBin opIx (fVar 1) (fVar 2)) (fNil)))) S.length [some (.tup ds), some (.tup es), none] (rngL 0 es.length) (S ++ [.lst []]) = .ok () S1) (hb : bAll [.ref S.length] S1 = some (.bool true, S1)) : F_law_equal (n + 1) S [.tup ds, .tup es] = .ok (.bool true) S1 := by
  rw [F_law_equal, fDef_k]
  show kDef (b_law_equal (F_law_equal n) [some (.tup ds), some (.tup es), none] S) = _
  unfold b_law_equal
  rw [x_seq, eqt1 hlen, k_seq1, x_seq, eqt2 hlen, k_seq1, x_seq, eqt7, k_seq1, x_seq, eqt8, k_seq1, x_seq, eqt3 hlen, k_seq1, x_seq, eqt4 hlen, k_seq1, x_seq, eqt5 hlen, k_seq1, eqt6 hlen hsm e1 hb, k_def2]
theorem equal_lst {n l k : Nat} {S S1 : Store} {ds es : List D} (h3 : S[l]? = some (.lst ds)) (h4 : S[k]? = some (.lst es)) (hlen : ds.length = es.length) (hsm : small62 (es.length : Int) = true)
    (e1 : lcGo ⟨rngL 0 es.length, none⟩ (gNm 2) fYes (fCallN 2 (F_law_equal n) (fCons (fBin opIx (fVar 0) (fVar 2)) (fCons (fBin opIx (fVar 1) (fVar 2)) (fNil)))) S.length [some (.ref l), some (.ref k), none] (rngL 0 es.length) (S ++ [.lst []]) = .ok () S1) (hb : bAll [.ref S.length] S1 = some (.bool true, S1)) : F_law_equal (n + 1) S [.ref l, .ref k] = .ok (.bool true) S1 := by
  rw [F_law_equal, fDef_k]
  simp [opIsN, isNone, kindD, i11, i12, i13, i14, i15, tru, eqS, neI, bLen, lenD, seqOf, lstAt, h3, h4, hlen, hsm, wipeE, e1, hb]
theorem same_cases {S : Store} {n : Nat} {d e : D} (h : Same S (n + 1) d e) : (d = e ∧ flatB d = true) ∨ (∃ ds es, d = .tup ds ∧ e = .tup es ∧ All2 (Same S n) ds es ∧ ds.length ≤ 1000000) ∨ (∃ l k ds es, d = .ref l ∧ e = .ref k ∧ S[l]? = some (.lst ds) ∧ S[k]? = some (.lst es) ∧ All2 (Same S n) ds es ∧ ds.length ≤ 1000000) := h
theorem law_equal (n : Nat) : ∀ (S : Store) (d e : D), Same S n d e → ∃ S', F_law_equal n S [d, e] = .ok (.bool true) S' ∧ Fr S S' := by
  induction n with
  | zero => exact fun _ _ _ h => h.elim
  | succ n ih =>
    intro S d e h
    rcases same_cases h with ⟨rfl, hf⟩ | ⟨ds, es, rfl, rfl, h3, h4⟩ | ⟨l, k, ds, es, rfl, rfl, h3, h4, h5, h6⟩
    · exact ⟨S, equal_flat hf, .refl⟩
    · obtain ⟨S1, e1, f1, hb⟩ := equal_list (d := .tup ds) (e := .tup es) ih h3 h4 (fun T fr i hi => by
        obtain ⟨x, y, hx, hy, hs⟩ := h3.get hi
        exact ⟨x, y, by simp [opIx, atI_nat, hx], by simp [opIx, atI_nat, hy], hs⟩)
      have hlen := h3.length
      exact ⟨S1, equal_tup hlen (small_nat (by omega)) e1 hb, f1⟩
    · have hlen := h5.length
      obtain ⟨S1, e1, f1, hb⟩ := equal_list (d := .ref l) (e := .ref k) ih h5 h6 (fun T fr i hi => by
        obtain ⟨x, y, hx, hy, hs⟩ := h5.get hi
        exact ⟨x, y, by simp [opIx, atI_nat, fr.get h3, hx], by simp [opIx, atI_nat, fr.get h4, hy], hs⟩)
      exact ⟨S1, equal_lst h3 h4 hlen (small_nat (by omega)) e1 hb, f1⟩
/-! ### what the law asks -/
theorem format_deck {S : Store} {s : List Nat} {m : Nat} {k : Deck} (h : Lex s k.toks) (hs : s.length < 100000) (hk : k.ok m) (hm : m ≤ 8) : ∃ S', F_format_deck S [.str (mk s)] = .ok (.str k.t) S' ∧ Fr S S' := by
  obtain ⟨S1, e1, f1⟩ := load (S := S) h hs hk hm
  obtain ⟨S2, e2, f2⟩ := format_parsed hk hm S1
  refine ⟨S2, ?_, f1.trans f2⟩
  rw [F_format_deck, fDef_k]
  simp [e1, e2]
theorem card_names {S : Store} {s : List Nat} {m : Nat} {k : Deck} (h : Lex s k.toks) (hs : s.length < 100000) (hk : k.ok m) (hm : m ≤ 8) : ∃ (l : Nat) (S' : Store), F_card_names S [.str (mk s)] = .ok (.ref l) S' ∧ Fr S S' ∧ S'[l]? = some (.lst (k.cards.map fun c => D.str c.nm)) ∧ S.length ≤ l := by
  obtain ⟨S1, e1, f1⟩ := load (S := S) h hs hk hm
  obtain ⟨S2, e2, fr2, hl2⟩ := lc_map (s := ⟨k.cards.map Card.d, none⟩) (f := Card.d) (h := fun c => .str c.nm) (i := 1) (e := fBin opIx (fVar 1) (fC (.int 0))) (l := S1.length) (r0 := [some (.str (mk s)), none]) (Inv := Fr S1)
    (fun T hT => still_none) (fun T o hT => hT.set (Nat.le_refl _)) k.cards (fun x hx T acc fr hacc => ⟨T, by simp [opIx, Card.d], fr, hacc⟩) (S1 ++ [.lst []]) [] ⟨_, rfl⟩ (by simp) (by have := hk.few; simp [LINE]; omega)
  refine ⟨S1.length, S2, ?_, f1.trans fr2, hl2, f1.len⟩
  rw [F_card_names, fDef_k]
  simp [e1, Deck.d, opIx, seqSrc, wipeE, e2]
def Deck.acts (k : Deck) : Int := (k.cards.map fun c => (c.acts.length : Int)).sum
theorem intsD_map {α : Type} (f : α → Int) (xs : List α) : intsD (xs.map fun x => D.int (f x)) = some (xs.map f) := by
  induction xs with
  | nil => rfl
  | cons x xs ih => simp [intsD, ih]
theorem measure {S : Store} {s : List Nat} {m : Nat} {k : Deck} (h : Lex s k.toks) (hs : s.length < 100000) (hk : k.ok m) (hm : m ≤ 8) : ∃ S', F_measure S [.str (mk s)] = .ok (.int k.acts) S' ∧ Fr S S' := by
  obtain ⟨S1, e1, f1⟩ := load (S := S) h hs hk hm
  obtain ⟨S2, e2, fr2, hl2⟩ := lc_map (s := ⟨k.cards.map Card.d, none⟩) (f := Card.d) (h := fun c => .int c.acts.length) (i := 1) (e := fCB bLen (fCons (fBin opIx (fVar 1) (fC (.int 1))) (fNil))) (l := S1.length) (r0 := [some (.str (mk s)), none]) (Inv := Fr S1)
    (fun T hT => still_none) (fun T o hT => hT.set (Nat.le_refl _)) k.cards (fun x hx T acc fr hacc => ⟨T, by simp [opIx, Card.d, bLen, lenD, seqOf], fr, hacc⟩) (S1 ++ [.lst []]) [] ⟨_, rfl⟩ (by simp) (by have := hk.few; simp [LINE]; omega)
  have hl2 : S2[S1.length]? = some (.lst (k.cards.map fun c => D.int c.acts.length)) := hl2
  have hsum : bSum [.ref S1.length] S2 = some (.int k.acts, S2) := by
    simp only [bSum, intsAt, lstAt, hl2, Option.bind_some, intsD_map, Option.map_some, Deck.acts]
  refine ⟨S2, ?_, f1.trans fr2⟩
  rw [F_measure, fDef_k]
  simp [e1, Deck.d, opIx, seqSrc, wipeE, e2, hsum]
theorem append_ok {S : Store} {l : Nat} {ds : List D} {y : D} (h : S[l]? = some (.lst ds)) (hl : ds.length < 1000000) : mAppend (.ref l) [y] S = some (.none, S.set l (.lst (ds ++ [y]))) := by
  simp only [mAppend, h]
  exact if_pos (by simp only [LINE]; omega)
theorem lenS_ok {S : Store} {x : Str} (h : x.length ≤ 1000000) : lenD S (.str x) = some x.length := if_pos (by simp only [LINE]; omega)
theorem same_strs (S : Store) (n : Nat) (xs : List Str) : All2 (Same S (n + 1)) (xs.map D.str) (xs.map D.str) := by
  induction xs with
  | nil => exact .nil
  | cons x xs ih => exact .cons (.inl ⟨rfl, rfl⟩) ih
theorem Same.str (S : Store) (n : Nat) (x : Str) : Same S (n + 1) (.str x) (.str x) := .inl ⟨rfl, rfl⟩
theorem Same.int (S : Store) (n : Nat) (x : Int) : Same S (n + 1) (.int x) (.int x) := .inl ⟨rfl, rfl⟩
theorem Same.list {S : Store} {n l k : Nat} {ds es : List D} (h1 : S[l]? = some (.lst ds)) (h2 : S[k]? = some (.lst es)) (h : All2 (Same S n) ds es) (hl : ds.length ≤ 1000000) : Same S (n + 1) (.ref l) (.ref k) := .inr (.inr ⟨l, k, ds, es, rfl, rfl, h1, h2, h, hl⟩)
theorem optAll_strs {S : Store} {n : Nat} {xs : List Str} (h : ∀ x ∈ xs, PyData.strOk x = true) : optAll (toD S (n + 1)) (xs.map D.str) = some (xs.map PyData.str) := by
  induction xs with
  | nil => rfl
  | cons x xs ih =>
    have h1 := toD_str (S := S) (n := n) (h x (by simp))
    simp [optAll, h1, ih fun y hy => h y (by simp [hy])]
theorem eqv_strs (xs : List Str) : PyData.eqvAll (xs.map PyData.str) (xs.map PyData.str) = true := by
  induction xs with
  | nil => rfl
  | cons x xs ih => simp [PyData.eqvAll, PyData.eqv, ih]
theorem ne_strs {S : Store} {l k : Nat} {xs : List Str} (h1 : S[l]? = some (.lst (xs.map D.str))) (h2 : S[k]? = some (.lst (xs.map D.str))) (h : ∀ x ∈ xs, PyData.strOk x = true) : opNe (.ref l) (.ref k) S = .ok (.bool false) S := by
  simp [opNe, eqD, toD, h1, h2, optAll_strs h, PyData.eqv, eqv_strs]
end M

set_option linter.all false
set_option maxRecDepth 100000
namespace M
open PySem CL L2
/-! ### the law's other blanks -/
theorem lc_fm {α : Type} {f h : α → D} {p : α → Bool} {s : Src} {i : Nat} {t : FT} {e : FE} {l : Nat} {r0 : CL.Env} {Inv : Store → Prop} (hst : ∀ S, Inv S → s.still S = true) (hset : ∀ S o, Inv S → Inv (S.set l o)) :
    ∀ (xs : List α) (hstep : ∀ x ∈ xs, ∀ S acc, Inv S → S[l]? = some (.lst acc) → ∃ S1, t (r0.set i (some (f x))) S = .ok (p x) S1 ∧ Inv S1 ∧ S1[l]? = some (.lst acc) ∧ (p x = true → ∃ S', e (r0.set i (some (f x))) S1 = .ok (h x) S' ∧ Inv S' ∧ S'[l]? = some (.lst acc))) (S : Store) (acc : List D), Inv S → S[l]? = some (.lst acc) → acc.length + xs.length ≤ LINE →
      ∃ S', lcGo s (gNm i) t e l r0 (xs.map f) S = .ok () S' ∧ Inv S' ∧ S'[l]? = some (.lst (acc ++ (xs.filter p).map h))
  | [], _, S, acc, hI, hl, _ => ⟨S, by simp [lcGo, hst S hI], hI, by simpa using hl⟩
  | x :: xs, hstep, S, acc, hI, hl, hn => by
    obtain ⟨S0, e0, hI0, hl0, hk⟩ := hstep x (by simp) S acc hI hl
    simp at hn
    cases hp : p x with
    | false =>
      obtain ⟨S2, e2, hI2, hl2⟩ := lc_fm hst hset xs (fun d' hd => hstep d' (by simp [hd])) S0 acc hI0 hl0 (by omega)
      exact ⟨S2, by simp [lcGo, hst S hI, e0, hp, e2], hI2, by simpa [hp] using hl2⟩
    | true =>
      obtain ⟨S1, e1, hI1, hl1⟩ := hk hp
      have hlt : l < S1.length := getLt hl1
      obtain ⟨S2, e2, hI2, hl2⟩ := lc_fm hst hset xs (fun d' hd => hstep d' (by simp [hd])) (S1.set l (.lst (acc ++ [h x]))) (acc ++ [h x]) (hset _ _ hI1) (set_get hlt) (by simp; omega)
      refine ⟨S2, ?_, hI2, by simpa [hp] using hl2⟩
      have hlen : acc.length < LINE := by omega
      simp [lcGo, hst S hI, e0, hp, e1, hl1, e2, hlen]
theorem for_range {g : FG} {b : FS} {J : Nat → CL.Env → Store → Prop} {n : Nat}
    (hstep : ∀ i, i < n → ∀ r S, J i r S → ∃ r1 S1 r2 S2, g (.int i) r S = .next r1 S1 ∧ b r1 S1 = .next r2 S2 ∧ J (i + 1) r2 S2) {r : CL.Env} {S : Store} (h : J 0 r S) :
    ∃ r' S', forGo ⟨rngL 0 n, none⟩ g b (rngL 0 n) r S = .next r' S' ∧ J n r' S' := by
  obtain ⟨r', S', e, i, hi, hr, hJ⟩ := for_run (s := ⟨rngL 0 n, none⟩) (g := g) (b := b) (J := fun rem r T => ∃ i, i ≤ n ∧ rem = ((List.range n).drop i).map (fun (i : Nat) => D.int i) ∧ J i r T) (fun _ _ _ _ => still_none)
    (by
      rintro d ds r T ⟨i, hi, hrem, hJ⟩
      by_cases h : i < n
      · rw [List.drop_eq_getElem_cons (by simpa using h)] at hrem
        simp at hrem
        obtain ⟨rfl, rfl⟩ := hrem
        obtain ⟨r1, S1, r2, S2, e1, e2, h2⟩ := hstep i h r T hJ
        exact ⟨r1, S1, r2, S2, e1, e2, i + 1, h, by simp, h2⟩
      · rw [List.drop_eq_nil_of_le (by simp; omega)] at hrem
        simp at hrem)
    (rngL 0 n) r S ⟨0, by omega, by rw [rng_eq]; rfl, h⟩
  refine ⟨r', S', e, ?_⟩
  have : i = n := by
    have := congrArg List.length hr
    simp at this; omega
  rw [← this]; exact hJ
def oneS (c : Nat) : Str := ⟨#[c]⟩
theorem oneS_mk (c : Nat) : oneS c = mk [c] := rfl
theorem one_eq {c d : Nat} : oneS c = mk [d] ↔ c = d := by rw [oneS_mk, mk_inj]; simp
def SGT : Str := ":,;?>"
theorem sg_cps : SGT.cps.toList = [58, 44, 59, 63, 62] := rfl
theorem sg_strOk : ∀ c ∈ SG, PyData.strOk (oneS c) = true := by decide +kernel
abbrev frLc : FE := fLc (iSeq (fVar 7)) (gNm 13) (fBl (fBin opIn (fVar 13) (fC (.str ":,;?>")))) (fVar 13) [13]
theorem free_lc {T : Store} {bs : List Nat} (hb : bs.length ≤ 10) {r : CL.Env} (h7 : r[7]? = some (some (.str (mk bs)))) (hr : r.length = 14) : ∃ S', frLc r T = .ok (.ref T.length) S' ∧ Fr T S' ∧ S'[T.length]? = some (.lst ((bs.filter fun c => decide (c ∈ SG)).map fun c => D.str (oneS c))) := by
  obtain ⟨S1, e1, fr1, hl1⟩ := lc_fm (s := ⟨bs.map fun c => D.str (oneS c), none⟩) (f := fun c => D.str (oneS c)) (h := fun c => D.str (oneS c)) (p := fun c => decide (c ∈ SG)) (i := 13) (t := fBl (fBin opIn (fVar 13) (fC (.str ":,;?>")))) (e := fVar 13) (l := T.length) (r0 := r.set 13 none) (Inv := Fr T)
    (fun _ _ => still_none) (fun U o hU => hU.set (Nat.le_refl _)) bs (fun c hc U acc fr hacc => by
      have h13 : ((r.set 13 none).set 13 (some (D.str (oneS c))))[13]? = some (some (D.str (oneS c))) := List.getElem?_set_self (by simp [hr])
      refine ⟨U, ?_, fr, hacc, fun _ => ⟨U, by simp only [x_var, h13], fr, hacc⟩⟩
      have : inD U (.str (oneS c)) (.str ":,;?>") = some (decide (c ∈ SG)) := by
        show (if (oneS c).cps.size = 1 then some (decide ((oneS c).cps.getD 0 0 ∈ (Str.ofString ":,;?>").cps.toList)) else none) = _
        rfl
      simp only [x_bl, x_bin, x_var, h13, kB_ok, x_c, kB2_ok, opIn, this, kBl_ok]) (T ++ [.lst []]) [] ⟨_, rfl⟩ (by simp) (by simp [LINE]; omega)
  refine ⟨S1, ?_, fr1, hl1⟩
  have hs : seqSrc T (.str (mk bs)) = some ⟨bs.map fun c => D.str (oneS c), none⟩ := by
    simp only [seqSrc, mk_cps]; rfl
  simp only [x_lc, x_iSeq, x_var, h7, kISeq_ok, hs, kLc_ok, wipeE, e1, kLc2_ok]
def gapsF : List Str := ["", " ", "\n"]
def gapsN : List Str := [" ", "  ", "\n "]
abbrev gapBody : FS := fSeq (fAsg (fBin opAdd (fSlice (fVar 4) (fPart (fCB bMax (fCons (fC (.int 0)) (fCons (fBin opSub (fVar 6) (fC (.int 1))) (fNil))))) (fPart (fVar 6))) (fSlice (fVar 4) (fPart (fBin opAdd (fVar 6) (fC (.int 1)))) (fPart (fBin opAdd (fVar 6) (fC (.int 2)))))) (gNm 7)) (fSeq (fAsg (fOrV (fBin opNe frLc (fLst (fNil))) (fBin opEq (fSlice (fVar 4) (fPart (fBin opAdd (fVar 6) (fC (.int 1)))) (fPart (fBin opAdd (fVar 6) (fC (.int 2))))) (fC (.str "-")))) (gNm 8)) (fIf (fBl (fBin opIn (fBin opIx (fVar 4) (fVar 6)) (fLst (fCons (fC (.str " ")) (fCons (fC (.str "\n")) (fNil)))))) (fSeq (fAsg (fIfE (fTru (fVar 8)) (fLst (fCons (fC (.str "")) (fCons (fC (.str " ")) (fCons (fC (.str "\n")) (fNil))))) (fLst (fCons (fC (.str " ")) (fCons (fC (.str "  ")) (fCons (fC (.str "\n ")) (fNil)))))) (gNm 9)) (fAsg (fBin opAdd (fVar 5) (fBin opIx (fVar 9) (fCallN 2 F_law_below (fCons (fVar 1) (fCons (fC (.int 3)) (fNil)))))) (gNm 5))) (fAsg (fBin opAdd (fVar 5) (fBin opIx (fVar 4) (fVar 6))) (gNm 5))))
def prevAt (s : List Nat) (i : Nat) : Option Nat := if i = 0 then none else s[i - 1]?
theorem gap_step {S T : Store} {l i : Nat} {s td : List Nat} {c : Nat} {d0 d2 d3 a6 a7 a8 a9 a10 a11 : Option D} (hs : s.length ≤ 2000) (hc : s[i]? = some c) (htd : td.length ≤ 2 * i) (ev : Ev l S T) :
    ∃ (g : List Nat) (T' : Store) (b7 b8 b9 : Option D), gapBody [d0, some (.ref l), d2, d3, some (.str (mk s)), some (.str (mk td)), some (.int i), a7, a8, a9, a10, a11, none, none] T = .next [d0, some (.ref l), d2, d3, some (.str (mk s)), some (.str (mk (td ++ g))), some (.int i), b7, b8, b9, a10, a11, none, none] T' ∧ Ev l S T' ∧ ((c ≠ 32 ∧ c ≠ 10 ∧ g = [c]) ∨ ((c = 32 ∨ c = 10) ∧ (freeB (prevAt s i) (s.drop (i + 1)) ∧ g ∈ [[], [32], [10]] ∨ g ∈ [[32], [32, 32], [10, 32]]))) := by
  have hi : i < s.length := (List.getElem?_eq_some_iff.mp hc).1
  have hle : s.length ≤ 16777216 := by omega
  let pv := (s.drop (i - 1)).take (i - (i - 1))
  let nx := (s.drop (i + 1)).take 1
  have hpv : pv.length ≤ 1 := by simp [pv]; omega
  have hnx : nx.length ≤ 1 := by simp [nx]; omega
  have c1 : cutS (mk s) (some (((i - 1 : Nat)) : Int)) (some (i : Int)) = mk pv := cut_mk s (i - 1) i
  have c2 : cutS (mk s) (some ((i : Int) + 1)) (some ((i : Int) + 2)) = mk nx := by
    have := cut_mk s (i + 1) (i + 2)
    simpa [show i + 2 - (i + 1) = 1 by omega, nx] using this
  have mx : ∀ U : Store, bMax [.int 0, .int ((i : Int) - 1)] U = some (.int ((i - 1 : Nat) : Int), U) := fun U => by
    have : (if (i : Int) - 1 > 0 then (i : Int) - 1 else 0) = ((i - 1 : Nat) : Int) := by split <;> omega
    simp only [bMax, max2, Option.map_some, this]
  have hb10 : (pv ++ nx).length ≤ 10 := by simp; omega
  obtain ⟨T1, e1, f1, hl1⟩ := free_lc (T := T) (bs := pv ++ nx) hb10 (r := [d0, some (.ref l), d2, d3, some (.str (mk s)), some (.str (mk td)), some (.int i), some (.str (mk (pv ++ nx))), a8, a9, a10, a11, none, none]) rfl rfl
  let fl := (pv ++ nx).filter fun c => decide (c ∈ SG)
  have hne := ne_nil (T1 ++ [.lst []]) T.length T1.length (fl.map fun c => D.str (oneS c)) (getApp hl1) (by simp) (by
    intro d hd
    obtain ⟨x, hx, rfl⟩ := List.mem_map.mp hd
    have hx2 := (List.mem_filter.mp hx).2
    exact ⟨_, toD_str (sg_strOk x (by simpa using hx2))⟩)
  have ev1 : Ev l S (T1 ++ [.lst []]) := (ev.trans (f1.ev ev.2.2)).app
  have hmk : Str.ofString "-" = mk [45] := rfl
  let fb : Bool := (!(fl.map fun c => D.str (oneS c)).isEmpty) || decide (mk nx = mk [45])
  have hfb : fb = true → freeB (prevAt s i) (s.drop (i + 1)) := by
    intro h
    have hh : (∃ x, x ∈ fl) ∨ nx = [45] := by
      simp only [fb, Bool.or_eq_true, decide_eq_true_eq, mk_inj] at h
      rcases h with h | h
      · left
        cases hf : fl with
        | nil => rw [hf] at h; simp at h
        | cons x xs => exact ⟨x, by simp⟩
      · exact .inr h
    have hnxh : ∀ x, x ∈ nx → (s.drop (i + 1)).head? = some x := by
      intro x hx
      cases hd : s.drop (i + 1) with
      | nil => simp [nx, hd] at hx
      | cons y ys => simp [nx, hd] at hx; simp [hx]
    rcases hh with ⟨x, hx⟩ | hh
    · obtain ⟨hx1, hx2⟩ := List.mem_filter.mp hx
      have hx2 : x ∈ SG := by simpa using hx2
      rcases List.mem_append.mp hx1 with hx1 | hx1
      · refine .inl ⟨x, ?_, hx2⟩
        by_cases h0 : i = 0
        · subst h0; simp [pv] at hx1
        · unfold prevAt
          rw [if_neg h0]
          have h1 : i - (i - 1) = 1 := by omega
          simp only [pv, h1] at hx1
          rw [List.drop_eq_getElem_cons (by omega : i - 1 < s.length)] at hx1
          have hx1 : x = s[i - 1] := by simpa only [List.take_succ_cons, List.take_zero, List.mem_singleton] using hx1
          rw [List.getElem?_eq_getElem (by omega : i - 1 < s.length), hx1]
      · exact .inr ⟨x, hnxh x hx1, .inl hx2⟩
    · exact .inr ⟨45, hnxh 45 (by rw [hh]; simp), .inr rfl⟩
  have hat : atI s (i : Int) = some c := by rw [atI_nat, hc]
  have lz1 : pv.length + nx.length ≤ 16777216 := by omega
  have ctt : opIn (.str (oneS c)) (.ref (T1 ++ [O.lst []]).length) (T1 ++ [.lst []] ++ [.lst [.str " ", .str "\n"]]) = .ok (.bool (decide (oneS c ∈ ([" ", "\n"] : List Str)))) (T1 ++ [.lst []] ++ [.lst [.str " ", .str "\n"]]) := in_ref (zs := [" ", "\n"]) (by simp)
  have hbl : oneS c ∈ ([" ", "\n"] : List Str) ↔ c = 32 ∨ c = 10 := by
    have e1 : Str.ofString " " = mk [32] := rfl
    have e2 : Str.ofString "\n" = mk [10] := rfl
    simp only [List.mem_cons, List.not_mem_nil, or_false, e1, e2, one_eq]
  have e1' : fBin opNe frLc (fLst fNil) [d0, some (.ref l), d2, d3, some (.str (mk s)), some (.str (mk td)), some (.int i), some (.str (mk (pv ++ nx))), a8, a9, a10, a11, none, none] T = .ok (.bool (!(fl.map fun c => D.str (oneS c)).isEmpty)) (T1 ++ [.lst []]) := by
    rw [x_bin, e1]
    simp only [kB_ok, x_lst, x_nil, kLst_ok, List.length_nil, LINE]
    simp only [Nat.zero_le, if_true, kB2_ok]
    exact hne
  have free : (fOrV (fBin opNe frLc (fLst (fNil))) (fBin opEq (fSlice (fVar 4) (fPart (fBin opAdd (fVar 6) (fC (.int 1)))) (fPart (fBin opAdd (fVar 6) (fC (.int 2))))) (fC (.str "-")))) [d0, some (.ref l), d2, d3, some (.str (mk s)), some (.str (mk td)), some (.int i), some (.str (mk (pv ++ nx))), a8, a9, a10, a11, none, none] T = .ok (.bool fb) (T1 ++ [.lst []]) := by
    rw [x_orV, e1']
    simp only [kOrV_ok, fb]
    cases (fl.map fun c => D.str (oneS c)).isEmpty with
    | false => rfl
    | true => simp [opAdd, opSl, hle, LINE, c2, opEq, eqD, hmk]
  have hlast : ∀ (g : List Nat) (U : Store), opAdd (.str (mk td)) (.str (mk g)) U = (if td.length + g.length ≤ 16777216 then .ok (.str (mk (td ++ g))) U else .stuck) := by
    intro g U
    simp only [opAdd, mk_len, mk_app]; rfl
  have st1 : fAsg (fBin opAdd (fSlice (fVar 4) (fPart (fCB bMax (fCons (fC (.int 0)) (fCons (fBin opSub (fVar 6) (fC (.int 1))) (fNil))))) (fPart (fVar 6))) (fSlice (fVar 4) (fPart (fBin opAdd (fVar 6) (fC (.int 1)))) (fPart (fBin opAdd (fVar 6) (fC (.int 2)))))) (gNm 7) [d0, some (.ref l), d2, d3, some (.str (mk s)), some (.str (mk td)), some (.int i), a7, a8, a9, a10, a11, none, none] T = .next [d0, some (.ref l), d2, d3, some (.str (mk s)), some (.str (mk td)), some (.int i), some (.str (mk (pv ++ nx))), a8, a9, a10, a11, none, none] T := by
    simp [opSub, mx, opSl, hle, LINE, c1, opAdd, c2, mk_app, lz1]
  have st2 : fAsg (fOrV (fBin opNe frLc (fLst (fNil))) (fBin opEq (fSlice (fVar 4) (fPart (fBin opAdd (fVar 6) (fC (.int 1)))) (fPart (fBin opAdd (fVar 6) (fC (.int 2))))) (fC (.str "-")))) (gNm 8) [d0, some (.ref l), d2, d3, some (.str (mk s)), some (.str (mk td)), some (.int i), some (.str (mk (pv ++ nx))), a8, a9, a10, a11, none, none] T = .next [d0, some (.ref l), d2, d3, some (.str (mk s)), some (.str (mk td)), some (.int i), some (.str (mk (pv ++ nx))), some (.bool fb), a9, a10, a11, none, none] (T1 ++ [.lst []]) := by
    rw [x_asg, free]; rfl
  have st3 : fBl (fBin opIn (fBin opIx (fVar 4) (fVar 6)) (fLst (fCons (fC (.str " ")) (fCons (fC (.str "\n")) (fNil))))) [d0, some (.ref l), d2, d3, some (.str (mk s)), some (.str (mk td)), some (.int i), some (.str (mk (pv ++ nx))), some (.bool fb), a9, a10, a11, none, none] (T1 ++ [.lst []]) = .ok (decide (oneS c ∈ ([" ", "\n"] : List Str))) (T1 ++ [.lst []] ++ [.lst [.str " ", .str "\n"]]) := by
    have hix : ∀ U, opIx (.str (mk s)) (.int i) U = .ok (.str (oneS c)) U := fun U => by simp [opIx, hle, LINE, hat]; rfl
    simp only [x_bl, x_bin, x_var, x_lst, x_cons, x_c, x_nil, List.getElem?_cons_succ, List.getElem?_cons_zero, kB_ok, kB2_ok, hix, kC_ok, kC2_ok, kLst_ok, List.length_cons, List.length_nil, LINE]
    simp only [show 0 + 1 + 1 ≤ 16777216 by decide, if_true, kB2_ok, ctt, kBl_ok]
  by_cases hbc : c = 32 ∨ c = 10
  · have hdec : decide (oneS c ∈ ([" ", "\n"] : List Str)) = true := decide_eq_true (hbl.mpr hbc)
    rw [hdec] at ctt
    let gs : List Str := if fb = true then gapsF else gapsN
    have ev2 : Ev l S (T1 ++ [.lst []] ++ [.lst [.str " ", .str "\n"]] ++ [.lst (gs.map D.str)]) := ev1.app.app
    obtain ⟨q, T3, e3, hq, ev3⟩ := below 3 ev2.2.2 (by decide) (by decide)
    have e3 : F_law_below (T1 ++ [.lst []] ++ [.lst [.str " ", .str "\n"]] ++ [.lst (gs.map D.str)]) [.ref l, .int 3] = .ok (.int q) T3 := e3
    have hg3 : T3[(T1 ++ [O.lst []] ++ [O.lst [.str " ", .str "\n"]]).length]? = some (.lst (gs.map D.str)) := ev3.get (by simp) (by have := ev1.2.2.lt; simp at this ⊢; omega)
    obtain ⟨g, hg1, hg2⟩ : ∃ g, gs[q]? = some (mk g) ∧ (freeB (prevAt s i) (s.drop (i + 1)) ∧ g ∈ [[], [32], [10]] ∨ g ∈ [[32], [32, 32], [10, 32]]) := by
      have hq3 : q = 0 ∨ q = 1 ∨ q = 2 := by omega
      by_cases hf : fb = true
      · have : gs = gapsF := if_pos hf
        rw [this]
        rcases hq3 with rfl | rfl | rfl
        · exact ⟨[], rfl, .inl ⟨hfb hf, by simp⟩⟩
        · exact ⟨[32], rfl, .inl ⟨hfb hf, by simp⟩⟩
        · exact ⟨[10], rfl, .inl ⟨hfb hf, by simp⟩⟩
      · have : gs = gapsN := if_neg hf
        rw [this]
        rcases hq3 with rfl | rfl | rfl
        · exact ⟨[32], rfl, .inr (by simp)⟩
        · exact ⟨[32, 32], rfl, .inr (by simp)⟩
        · exact ⟨[10, 32], rfl, .inr (by simp)⟩
    have hgl : td.length + g.length ≤ 16777216 := by
      have : g.length ≤ 2 := by
        have : ∀ g ∈ ([[], [32], [10], [32], [32, 32], [10, 32]] : List (List Nat)), g.length ≤ 2 := by decide
        exact this g (gap_mem hg2)
      omega
    have hix : opIx (.ref (T1 ++ [O.lst []] ++ [O.lst [.str " ", .str "\n"]]).length) (.int q) T3 = .ok (.str (mk g)) T3 := by
      simp only [opIx, hg3, atI_nat, List.getElem?_map, hg1, Option.map_some]
    rw [hdec] at st3
    have st4 : fAsg (fIfE (fTru (fVar 8)) (fLst (fCons (fC (.str "")) (fCons (fC (.str " ")) (fCons (fC (.str "\n")) (fNil))))) (fLst (fCons (fC (.str " ")) (fCons (fC (.str "  ")) (fCons (fC (.str "\n ")) (fNil)))))) (gNm 9) [d0, some (.ref l), d2, d3, some (.str (mk s)), some (.str (mk td)), some (.int i), some (.str (mk (pv ++ nx))), some (.bool fb), a9, a10, a11, none, none] (T1 ++ [.lst []] ++ [.lst [.str " ", .str "\n"]]) = .next [d0, some (.ref l), d2, d3, some (.str (mk s)), some (.str (mk td)), some (.int i), some (.str (mk (pv ++ nx))), some (.bool fb), some (.ref (T1 ++ [O.lst []] ++ [O.lst [.str " ", .str "\n"]]).length), a10, a11, none, none] (T1 ++ [.lst []] ++ [.lst [.str " ", .str "\n"]] ++ [.lst (gs.map D.str)]) := by
      cases hf : fb with
      | true =>
        have : gs = gapsF := if_pos hf
        rw [this]; rfl
      | false =>
        have : gs = gapsN := if_neg (by rw [hf]; decide)
        rw [this]; rfl
    refine ⟨g, T3, some (.str (mk (pv ++ nx))), some (.bool fb), some (.ref (T1 ++ [O.lst []] ++ [O.lst [.str " ", .str "\n"]]).length), ?_, ev2.trans ev3, .inr ⟨hbc, hg2⟩⟩
    show (fSeq _ (fSeq _ (fIf _ (fSeq _ _) _))) _ _ = _
    rw [x_seq, st1, k_seq1, x_seq, st2, k_seq1, x_if, st3, kIf_ok, if_pos rfl, x_seq, st4, k_seq1]
    simp only [x_asg, x_bin, x_var, x_callN, x_cons, x_c, x_nil, List.getElem?_cons_succ, List.getElem?_cons_zero, kB_ok, kC_ok, kC2_ok, kCallN_ok, List.length_cons, List.length_nil, if_true, e3, kB2_ok, hix, hlast, if_pos hgl, kAsg_ok, x_nm]
    rfl
  · have hdec : decide (oneS c ∈ ([" ", "\n"] : List Str)) = false := decide_eq_false fun h => hbc (hbl.mp h)
    rw [hdec] at ctt st3
    refine ⟨[c], T1 ++ [.lst []] ++ [.lst [.str " ", .str "\n"]], some (.str (mk (pv ++ nx))), some (.bool fb), a9, ?_, ev1.app, .inl ⟨fun h => hbc (.inl h), fun h => hbc (.inr h), rfl⟩⟩
    show (fSeq _ (fSeq _ (fIf _ (fSeq _ _) _))) _ _ = _
    rw [x_seq, st1, k_seq1, x_seq, st2, k_seq1, x_if, st3, kIf_ok, if_neg (by decide)]
    have hgl : td.length + [c].length ≤ 16777216 := by simp; omega
    have hix : ∀ U, opIx (.str (mk s)) (.int i) U = .ok (.str (mk [c])) U := fun U => by simp [opIx, hle, LINE, hat]; rfl
    simp only [x_asg, x_bin, x_var, List.getElem?_cons_succ, List.getElem?_cons_zero, kB_ok, kB2_ok, hix, hlast, if_pos hgl, kAsg_ok, x_nm]
    rfl
end M

set_option linter.all false
set_option maxRecDepth 100000
set_option maxHeartbeats 1000000
namespace M
open PySem CL L2
/-! ### help for lists and loops -/
theorem if_le {α : Type} {n : Nat} {a b : α} (h : n ≤ 1000000) : (if n ≤ LINE then a else b) = a := if_pos (by simp only [LINE]; omega)
section
variable {a b c d e f : D} {S : Store}
@[simp high] theorem kLst_0 : kLst (.ok [] S) = .ok (.ref S.length) (S ++ [.lst []]) := by rw [kLst_ok]; exact if_le (by simp)
@[simp high] theorem kTup_0 : kTup (.ok [] S) = .ok (.tup []) S := by rw [kTup_ok]; exact if_le (by simp)
@[simp high] theorem kLst_1 : kLst (.ok [a] S) = .ok (.ref S.length) (S ++ [.lst [a]]) := by rw [kLst_ok]; exact if_le (by simp)
@[simp high] theorem kTup_1 : kTup (.ok [a] S) = .ok (.tup [a]) S := by rw [kTup_ok]; exact if_le (by simp)
@[simp high] theorem kLst_2 : kLst (.ok [a, b] S) = .ok (.ref S.length) (S ++ [.lst [a, b]]) := by rw [kLst_ok]; exact if_le (by simp)
@[simp high] theorem kTup_2 : kTup (.ok [a, b] S) = .ok (.tup [a, b]) S := by rw [kTup_ok]; exact if_le (by simp)
@[simp high] theorem kLst_3 : kLst (.ok [a, b, c] S) = .ok (.ref S.length) (S ++ [.lst [a, b, c]]) := by rw [kLst_ok]; exact if_le (by simp)
@[simp high] theorem kTup_3 : kTup (.ok [a, b, c] S) = .ok (.tup [a, b, c]) S := by rw [kTup_ok]; exact if_le (by simp)
@[simp high] theorem kLst_4 : kLst (.ok [a, b, c, d] S) = .ok (.ref S.length) (S ++ [.lst [a, b, c, d]]) := by rw [kLst_ok]; exact if_le (by simp)
@[simp high] theorem kTup_4 : kTup (.ok [a, b, c, d] S) = .ok (.tup [a, b, c, d]) S := by rw [kTup_ok]; exact if_le (by simp)
@[simp high] theorem kLst_5 : kLst (.ok [a, b, c, d, e] S) = .ok (.ref S.length) (S ++ [.lst [a, b, c, d, e]]) := by rw [kLst_ok]; exact if_le (by simp)
@[simp high] theorem kTup_5 : kTup (.ok [a, b, c, d, e] S) = .ok (.tup [a, b, c, d, e]) S := by rw [kTup_ok]; exact if_le (by simp)
@[simp high] theorem kLst_6 : kLst (.ok [a, b, c, d, e, f] S) = .ok (.ref S.length) (S ++ [.lst [a, b, c, d, e, f]]) := by rw [kLst_ok]; exact if_le (by simp)
@[simp high] theorem kTup_6 : kTup (.ok [a, b, c, d, e, f] S) = .ok (.tup [a, b, c, d, e, f]) S := by rw [kTup_ok]; exact if_le (by simp)
end
theorem for_zip {α : Type} {Q : D → α → Prop} {s : Src} {g : FG} {b : FS} {J : List α → CL.Env → Store → Prop} {xs : List α} {ds : List D} (hq : All2 Q ds xs)
    (hst : ∀ done r S, J done r S → s.still S = true)
    (hstep : ∀ done x rest d, xs = done ++ x :: rest → Q d x → ∀ r S, J done r S → ∃ r1 S1 r2 S2, g d r S = .next r1 S1 ∧ b r1 S1 = .next r2 S2 ∧ J (done ++ [x]) r2 S2) {r : CL.Env} {S : Store} (h : J [] r S) :
    ∃ r' S', forGo s g b ds r S = .next r' S' ∧ J xs r' S' := by
  obtain ⟨r', S', e, done, rest, hx, hr, hJ⟩ := for_run (s := s) (g := g) (b := b) (J := fun rem r T => ∃ done rest, xs = done ++ rest ∧ All2 Q rem rest ∧ J done r T) (fun _ r T ⟨done, rest, _, _, hJ⟩ => hst done r T hJ)
    (by
      rintro d rem r T ⟨done, rest, hx, hr, hJ⟩
      cases hr with
      | @cons _ x _ rest hd hr =>
        obtain ⟨r1, S1, r2, S2, e1, e2, h2⟩ := hstep done x rest d hx hd r T hJ
        exact ⟨r1, S1, r2, S2, e1, e2, done ++ [x], rest, by simp [hx], hr, h2⟩)
    ds r S ⟨[], xs, rfl, hq, h⟩
  cases hr
  simp at hx
  subst hx
  exact ⟨r', S', e, hJ⟩
theorem All2.ofMap {α β : Type} {R : β → α → Prop} {f : α → β} (h : ∀ x, R (f x) x) : ∀ xs : List α, All2 R (xs.map f) xs
  | [] => .nil
  | x :: xs => .cons (h x) (All2.ofMap h xs)
theorem All2.self {α β : Type} {f : α → β} (xs : List α) : All2 (fun d x => d = f x) (xs.map f) xs := All2.ofMap (R := fun d x => d = f x) (fun _ => rfl) xs
def il (bs : List Int) : List D := bs.map .int
@[simp] theorem il_len (bs : List Int) : (il bs).length = bs.length := by simp [il]
theorem il_app (a b : List Int) : il a ++ il b = il (a ++ b) := by simp [il]
theorem addL {S : Store} {l k : Nat} {a b : List D} (h1 : S[l]? = some (.lst a)) (h2 : S[k]? = some (.lst b)) (hl : a.length + b.length ≤ 1000000) : opAdd (.ref l) (.ref k) S = .ok (.ref S.length) (S ++ [.lst (a ++ b)]) := by
  simp only [opAdd, h1, h2]
  exact if_pos (by simp only [LINE]; omega)
theorem extendL {S : Store} {l k : Nat} {a b : List D} (h1 : S[l]? = some (.lst a)) (h2 : S[k]? = some (.lst b)) (hl : a.length + b.length ≤ 1000000) : mExtend (.ref l) [.ref k] S = some (.none, S.set l (.lst (a ++ b))) := by
  simp only [mExtend, h1, h2]
  exact if_pos (by simp only [LINE]; omega)
theorem tyL {S : Store} {l : Nat} {a : List D} (h1 : S[l]? = some (.lst a)) : tyD S "list" (.ref l) = true := by simp [tyD, h1]
theorem lenL {S : Store} {l : Nat} {a : List D} (h1 : S[l]? = some (.lst a)) : bLen [.ref l] S = some (.int a.length, S) := by simp [bLen, lenD, seqOf, lstAt, h1]
theorem lenS {S : Store} {x : Str} (h : x.length ≤ 1000000) : bLen [.str x] S = some (.int x.length, S) := by simp only [bLen, lenS_ok h, Option.map_some]
theorem flat_len_le {α : Type} {f : α → List Int} {n : Nat} : ∀ {xs : List α}, (∀ x ∈ xs, (f x).length ≤ n) → (xs.flatMap f).length ≤ xs.length * n
  | [], _ => by simp
  | x :: xs, h => by
    have h1 := h x (by simp)
    have h2 := flat_len_le (xs := xs) fun y hy => h y (by simp [hy])
    simp [Nat.succ_mul] at h2 ⊢; omega
theorem ch_len (x : Str) : (ch x).length = x.length := by
  conv => rhs; rw [← mk_ch x]
  rw [mk_len]
theorem seqL {S : Store} {l : Nat} {ds : List D} (h : S[l]? = some (.lst ds)) : seqSrc S (.ref l) = some ⟨ds, some (l, ds)⟩ := by simp [seqSrc, h]
theorem seqT {S : Store} {ds : List D} : seqSrc S (.tup ds) = some ⟨ds, none⟩ := rfl
theorem get_last2 {A : Store} {x y : O} : (A ++ [x] ++ [y])[A.length + 1]? = some y := by
  rw [List.getElem?_append_right (by simp)]; simp
theorem add_new {S : Store} {l : Nat} {a b : List Int} (h1 : S[l]? = some (.lst (il a))) (hl : a.length + b.length ≤ 1000000) : opAdd (.ref l) (.ref S.length) (S ++ [.lst (il b)]) = .ok (.ref (S.length + 1)) (S ++ [.lst (il b)] ++ [.lst (il (a ++ b))]) := by
  have := addL (S := S ++ [.lst (il b)]) (l := l) (k := S.length) (a := il a) (b := il b) (getApp h1) (by simp) (by simpa using hl)
  rw [this, il_app]; simp
theorem intsD_il (bs : List Int) : intsD (il bs) = some bs := by
  have := intsD_map id bs
  simpa [il] using this
theorem sum_il {S : Store} {l : Nat} {bs : List Int} (h : S[l]? = some (.lst (il bs))) : bSum [.ref l] S = some (.int bs.sum, S) := by
  simp only [bSum, intsAt, lstAt, h, Option.bind_some, intsD_il, Option.map_some]
theorem lc_zipJ {α : Type} {Q : D → α → Prop} {h : α → D} {s : Src} {i : Nat} {e : FE} {l : Nat} {r0 : CL.Env} {J : List α → Store → Prop} {xs : List α} (hst : ∀ done S, J done S → s.still S = true) (hset : ∀ done S o, J done S → J done (S.set l o))
    (hstep : ∀ done x rest d, xs = done ++ x :: rest → Q d x → ∀ S acc, J done S → S[l]? = some (.lst acc) → ∃ S', e (r0.set i (some d)) S = .ok (h x) S' ∧ J (done ++ [x]) S' ∧ S'[l]? = some (.lst acc)) :
    ∀ (ds : List D) (done rest : List α), xs = done ++ rest → All2 Q ds rest → ∀ (S : Store) (acc : List D), J done S → S[l]? = some (.lst acc) → acc.length + rest.length ≤ LINE →
      ∃ S', lcGo s (gNm i) fYes e l r0 ds S = .ok () S' ∧ J xs S' ∧ S'[l]? = some (.lst (acc ++ rest.map h))
  | [], done, [], hx, .nil, S, acc, hI, hl, _ => ⟨S, by simp [lcGo, hst done S hI], by simp at hx; rw [hx]; exact hI, by simpa using hl⟩
  | d :: ds, done, x :: rest, hx, .cons hq hr, S, acc, hI, hl, hn => by
    obtain ⟨S1, e1, hI1, hl1⟩ := hstep done x rest d hx hq S acc hI hl
    have hlt : l < S1.length := getLt hl1
    simp at hn
    obtain ⟨S2, e2, hI2, hl2⟩ := lc_zipJ hst hset hstep ds (done ++ [x]) rest (by simp [hx]) hr (S1.set l (.lst (acc ++ [h x]))) (acc ++ [h x]) (hset _ _ _ hI1) (set_get hlt) (by simp; omega)
    refine ⟨S2, ?_, hI2, by simpa using hl2⟩
    have hlen : acc.length < LINE := by omega
    simp [lcGo, hst done S hI, e1, hl1, e2, hlen]
theorem All2.any {α : Type} : ∀ (ds : List D) (xs : List α), ds.length = xs.length → All2 (fun _ _ => True) ds xs
  | [], [], _ => .nil
  | _ :: ds, _ :: xs, h => .cons trivial (All2.any ds xs (by simpa using h))
theorem same_ints (S : Store) (n : Nat) (xs : List Int) : All2 (Same S (n + 1)) (il xs) (il xs) := by
  induction xs with
  | nil => exact .nil
  | cons x xs ih => exact .cons (.inl ⟨rfl, rfl⟩) ih
theorem optAll_ints {S : Store} {n : Nat} {xs : List Int} : optAll (toD S (n + 1)) (il xs) = some (xs.map PyData.int) := by
  induction xs with
  | nil => rfl
  | cons x xs ih =>
    have h1 : toD S (n + 1) (.int x) = some (.int x) := rfl
    have ih : optAll (toD S (n + 1)) (List.map D.int xs) = _ := ih
    simp [il, optAll, h1, ih]
theorem eqv_ints (xs : List Int) : PyData.eqvAll (xs.map PyData.int) (xs.map PyData.int) = true := by
  induction xs with
  | nil => rfl
  | cons x xs ih =>
    have : PyData.eqv (.int x) (.int x) = true := by simp [PyData.eqv]
    simp [PyData.eqvAll, ih, this]
theorem ne_ints {S : Store} {l k : Nat} {xs : List Int} (h1 : S[l]? = some (.lst (il xs))) (h2 : S[k]? = some (.lst (il xs))) : opNe (.ref l) (.ref k) S = .ok (.bool false) S := by
  simp [opNe, eqD, toD, h1, h2, optAll_ints, PyData.eqv, eqv_ints]
theorem seq_str {S : Store} {x : Str} : seqSrc S (.str x) = some ⟨(ch x).map fun c => D.str (oneS c), none⟩ := rfl
end M

set_option linter.all false
set_option maxRecDepth 100000
set_option maxHeartbeats 1000000
namespace M
open PySem CL L2
/-! ### rows for simp: matches, dicts, keyword calls -/
def kCallD (n : Nat) (F : FF) (o : Out (List D)) : Out D := match o with | .ok v S => (if v.length + 1 = n then F S (v ++ [.none]) else .stuck) | .exc xx S => .exc xx S | .stuck => .stuck
@[simp] theorem kCallD_ok (n : Nat) (F : FF) {v : List D} {S : Store} : kCallD n F (.ok v S) = (if v.length + 1 = n then F S (v ++ [.none]) else .stuck) := rfl
@[simp] theorem kCallD_ex (n : Nat) (F : FF) {xx : Exn} {S : Store} : kCallD n F (.exc xx S) = .exc xx S := rfl
def kCallK2 (n : Nat) (F : FF) (xs : List D) (o : Out D) : Out D := match o with | .ok v S => (if xs.length + 1 = n then F S (xs ++ [v]) else .stuck) | .exc xx S => .exc xx S | .stuck => .stuck
@[simp] theorem kCallK2_ok (n : Nat) (F : FF) (xs : List D) {v : D} {S : Store} : kCallK2 n F xs (.ok v S) = (if xs.length + 1 = n then F S (xs ++ [v]) else .stuck) := rfl
def kCallK (n : Nat) (F : FF) (b : FE) (r : CL.Env) (o : Out (List D)) : Out D := match o with | .ok v S => kCallK2 n F v (b r S) | .exc xx S => .exc xx S | .stuck => .stuck
@[simp] theorem kCallK_ok (n : Nat) (F : FF) (b : FE) (r : CL.Env) {v : List D} {S : Store} : kCallK n F b r (.ok v S) = kCallK2 n F v (b r S) := rfl
def kMatch (cs : List (List Pt × FS)) (r : CL.Env) (o : Out D) : SOut := match o with | .ok v S => fCases cs v r S | .exc xx S => .exc xx r S | .stuck => .stuck
@[simp] theorem kMatch_ok (cs : List (List Pt × FS)) (r : CL.Env) {v : D} {S : Store} : kMatch cs r (.ok v S) = fCases cs v r S := rfl
def kTupRg (o : Out D) : Out D := match o with | .ok v S => (match v with | .int j => (if 0 ≤ j ∧ j ≤ 16777216 then .ok (.tup (rngL 0 j.toNat)) S else .stuck) | _ => .stuck) | .exc xx S => .exc xx S | .stuck => .stuck
@[simp] theorem kTupRg_ok {j : Int} {S : Store} : kTupRg (.ok (.int j) S) = (if 0 ≤ j ∧ j ≤ 16777216 then .ok (.tup (rngL 0 j.toNat)) S else .stuck) := rfl
def kLstRg (o : Out D) : Out D := match o with | .ok v S => (match v with | .int j => (if 0 ≤ j ∧ j ≤ 16777216 then .ok (.ref S.length) (S ++ [.lst (rngL 0 j.toNat)]) else .stuck) | _ => .stuck) | .exc xx S => .exc xx S | .stuck => .stuck
@[simp] theorem kLstRg_ok {j : Int} {S : Store} : kLstRg (.ok (.int j) S) = (if 0 ≤ j ∧ j ≤ 16777216 then .ok (.ref S.length) (S ++ [.lst (rngL 0 j.toNat)]) else .stuck) := rfl
def kEnT (o : Out D) : Out Src := match o with | .ok v S => (match v with | .tup ds => .ok ⟨pairs 0 ds, none⟩ S | _ => .stuck) | .exc xx S => .exc xx S | .stuck => .stuck
@[simp] theorem kEnT_ok {ds : List D} {S : Store} : kEnT (.ok (.tup ds) S) = .ok ⟨pairs 0 ds, none⟩ S := rfl
def kDix2 (x d : D) (r : CL.Env) (o : Out D) : SOut := match o with | .ok v S => (match setDic S x v d with | some S3 => .next r S3 | none => .stuck) | .exc xx S => .exc xx r S | .stuck => .stuck
@[simp] theorem kDix2_ok (x d : D) (r : CL.Env) {v : D} {S : Store} : kDix2 x d r (.ok v S) = (match setDic S x v d with | some S3 => .next r S3 | none => .stuck) := rfl
def kDix (b : FE) (d : D) (r : CL.Env) (o : Out D) : SOut := match o with | .ok v S => kDix2 v d r (b r S) | .exc xx S => .exc xx r S | .stuck => .stuck
@[simp] theorem kDix_ok (b : FE) (d : D) (r : CL.Env) {v : D} {S : Store} : kDix b d r (.ok v S) = kDix2 v d r (b r S) := rfl
def kDGet2 (x : D) (o : Out D) : Out D := match o with | .ok y S => (match dicAt S x with | some kvs => (if okKey y = true then .ok ((dGet kvs y).getD .none) S else .stuck) | none => .stuck) | .exc xx S => .exc xx S | .stuck => .stuck
@[simp] theorem kDGet2_ok (x : D) {y : D} {S : Store} : kDGet2 x (.ok y S) = (match dicAt S x with | some kvs => (if okKey y = true then .ok ((dGet kvs y).getD .none) S else .stuck) | none => .stuck) := rfl
def kDGet (b : FE) (r : CL.Env) (o : Out D) : Out D := match o with | .ok x S => (match dicAt S x with | some _ => kDGet2 x (b r S) | none => .stuck) | .exc xx S => .exc xx S | .stuck => .stuck
@[simp] theorem kDGet_ok (b : FE) (r : CL.Env) {x : D} {S : Store} : kDGet b r (.ok x S) = (match dicAt S x with | some _ => kDGet2 x (b r S) | none => .stuck) := rfl
section
variable {r : CL.Env} {S : Store} {n : Nat} {d : D} {a b : FE} {x : FA} {F : FF}
@[simp low] theorem x_callD : fCallD n F x r S = kCallD n F (x r S) := by unfold fCallD; show _ = kCallD n F (x r S); generalize x r S = o; cases o <;> rfl
@[simp low] theorem x_callK : fCallK n F x b r S = kCallK n F b r (x r S) := by
  unfold fCallK
  cases x r S with
  | ok v S1 => show (b r S1).bind _ = kCallK2 n F v (b r S1); cases b r S1 <;> rfl
  | exc => rfl
  | stuck => rfl
@[simp low] theorem x_match {cs : List (List Pt × FS)} : fMatch a cs r S = kMatch cs r (a r S) := by unfold fMatch; show _ = kMatch cs r (a r S); generalize a r S = o; cases o <;> rfl
@[simp low] theorem x_tupRg : fTupRg a r S = kTupRg (a r S) := by unfold fTupRg; show _ = kTupRg (a r S); generalize a r S = o; cases o with | ok v S1 => cases v <;> rfl | exc => rfl | stuck => rfl
@[simp low] theorem x_lstRg : fLstRg a r S = kLstRg (a r S) := by unfold fLstRg; show _ = kLstRg (a r S); generalize a r S = o; cases o with | ok v S1 => cases v <;> rfl | exc => rfl | stuck => rfl
@[simp low] theorem x_enT : iEnumT a r S = kEnT (a r S) := by unfold iEnumT; show _ = kEnT (a r S); generalize a r S = o; cases o with | ok v S1 => cases v <;> rfl | exc => rfl | stuck => rfl
@[simp low] theorem x_dic0 : fDic0 r S = .ok (.ref S.length) (S ++ [.dic []]) := rfl
@[simp low] theorem x_dix : gDix a b d r S = kDix b d r (a r S) := by
  unfold gDix
  cases a r S with
  | ok v S1 => dsimp only [kDix]; cases b r S1 <;> rfl
  | exc => rfl
  | stuck => rfl
@[simp low] theorem x_dgt : fDGet a b r S = kDGet b r (a r S) := by
  unfold fDGet
  cases a r S with
  | ok v S1 =>
    show (match dicAt S1 v with | some _ => (b r S1).bind _ | none => Out.stuck) = (match dicAt S1 v with | some _ => kDGet2 v (b r S1) | none => .stuck)
    cases dicAt S1 v with
    | none => rfl
    | some _ => cases b r S1 <;> rfl
  | exc => rfl
  | stuck => rfl
end
end M

set_option linter.all false
set_option maxRecDepth 100000
set_option maxHeartbeats 1000000
namespace M
open PySem CL L2
/-! ### a step of a deck -/
def Act.run (w : Nat) : Act → List Nat × List Nat → List Nat × List Nat
  | .add s n, p => (p.1.set s ((p.1.getD s 0 + n) % w), p.2)
  | .copy s t, p => (p.1.set s (p.1.getD t 0), p.2)
  | .swap s t, p => ((p.1.set s (p.1.getD t 0)).set t (p.1.getD s 0), p.2)
  | .emitR s, p => (p.1, p.2 ++ [p.1.getD s 0])
  | .emitN n, p => (p.1, p.2 ++ [n])
def runs (w : Nat) (as : List Act) (p : List Nat × List Nat) : List Nat × List Nat := as.foldl (fun p a => a.run w p) p
structure RegOk (w : Nat) (v : List Nat) : Prop where
  len : v.length = 4
  lt : ∀ x ∈ v, x < w
theorem RegOk.get {w : Nat} {v : List Nat} (h : RegOk w v) {s : Nat} (hs : s < 4) : v[s]? = some (v.getD s 0) ∧ v.getD s 0 < w := by
  have hl : s < v.length := by rw [h.len]; exact hs
  have e : v[s]? = some v[s] := List.getElem?_eq_getElem hl
  have e2 : v.getD s 0 = v[s] := by simp [List.getD, e]
  rw [e2]
  exact ⟨e, h.lt _ (List.getElem_mem hl)⟩
theorem RegOk.set {w : Nat} {v : List Nat} (h : RegOk w v) {s x : Nat} (hx : x < w) : RegOk w (v.set s x) :=
  ⟨by simp [h.len], fun y hy => by
    rcases List.mem_or_eq_of_mem_set hy with z | z
    · exact h.lt y z
    · rw [z]; exact hx⟩
theorem Act.run_ok {w : Nat} {a : Act} (ha : a.ok w) {p : List Nat × List Nat} (h : RegOk w p.1) : RegOk w (a.run w p).1 := by
  cases a with
  | add s n => exact h.set (Nat.mod_lt _ (by have := ha.2; omega))
  | copy s t => exact h.set (h.get ha.2).2
  | swap s t => exact (h.set (h.get ha.2).2).set (h.get ha.1).2
  | emitR s => exact h
  | emitN n => exact h
theorem Act.run_em {w : Nat} {a : Act} (ha : a.ok w) {p : List Nat × List Nat} (h : RegOk w p.1) (he : ∀ x ∈ p.2, x < w) : ∀ x ∈ (a.run w p).2, x < w := by
  cases a with
  | add s n => exact he
  | copy s t => exact he
  | swap s t => exact he
  | emitR s =>
    intro x hx
    rcases List.mem_append.mp hx with z | z
    · exact he x z
    · simp at z; rw [z]; exact (h.get ha).2
  | emitN n =>
    intro x hx
    rcases List.mem_append.mp hx with z | z
    · exact he x z
    · simp at z; rw [z]; exact ha
theorem runs_snoc (w : Nat) (as : List Act) (a : Act) (p : List Nat × List Nat) : runs w (as ++ [a]) p = a.run w (runs w as p) := by simp [runs]
theorem runs_ok {w : Nat} : ∀ {as : List Act}, (∀ a ∈ as, a.ok w) → ∀ {p : List Nat × List Nat}, RegOk w p.1 → RegOk w (runs w as p).1
  | [], _, _, h => h
  | a :: as, ha, p, h => runs_ok (as := as) (fun b hb => ha b (by simp [hb])) (p := a.run w p) (Act.run_ok (ha a (by simp)) h)
theorem runs_em {w : Nat} : ∀ {as : List Act}, (∀ a ∈ as, a.ok w) → ∀ {p : List Nat × List Nat}, RegOk w p.1 → (∀ x ∈ p.2, x < w) → ∀ x ∈ (runs w as p).2, x < w
  | [], _, _, _, h => h
  | a :: as, ha, p, h, he => runs_em (as := as) (fun b hb => ha b (by simp [hb])) (p := a.run w p) (Act.run_ok (ha a (by simp)) h) (Act.run_em (ha a (by simp)) h he)
theorem Act.run_len (w : Nat) (a : Act) (p : List Nat × List Nat) : (a.run w p).2.length ≤ p.2.length + 1 := by cases a <;> simp [Act.run]
theorem runs_len (w : Nat) : ∀ (as : List Act) (p : List Nat × List Nat), (runs w as p).2.length ≤ p.2.length + as.length
  | [], p => by simp [runs]
  | a :: as, p => by
    have h1 := runs_len w as (a.run w p)
    have h2 := a.run_len w p
    show (runs w as (a.run w p)).2.length ≤ _
    simp; omega
/-- numbers as values -/
def nl (ns : List Nat) : List D := ns.map fun (n : Nat) => D.int n
@[simp] theorem nl_len (ns : List Nat) : (nl ns).length = ns.length := by simp [nl]
theorem nl_app (a b : List Nat) : nl a ++ nl b = nl (a ++ b) := by simp [nl]
theorem nl_set (v : List Nat) (s x : Nat) : (nl v).set s (.int x) = nl (v.set s x) := by simp [nl, List.map_set]
theorem nl_get (v : List Nat) (s : Nat) : (nl v)[s]? = v[s]?.map fun (n : Nat) => D.int n := by simp [nl]
theorem ix_nl {S : Store} {l s x : Nat} {v : List Nat} (h : S[l]? = some (.lst (nl v))) (hs : v[s]? = some x) : opIx (.ref l) (.int s) S = .ok (.int x) S := by
  simp only [opIx, h, atI_nat, nl_get, hs, Option.map_some]
theorem ix_nlT {S : Store} {s x : Nat} {v : List Nat} (hs : v[s]? = some x) : opIx (.tup (nl v)) (.int s) S = .ok (.int x) S := by
  simp only [opIx, atI_nat, nl_get, hs, Option.map_some]
theorem set_nl {S : Store} {l s x : Nat} {v : List Nat} (h : S[l]? = some (.lst (nl v))) (hs : s < v.length) : setIx S (.ref l) (.int s) (.int x) = some (S.set l (.lst (nl (v.set s x)))) := by
  simp only [setIx, h, nl_len, ixN_nat _ _ hs, nl_set]
abbrev acBody : FS := fMatch (fVar 6) [([.s "add", .cap 7, .cap 8], fAsg (fBin opMod (fBin opAdd (fBin opIx (fVar 4) (fVar 7)) (fVar 8)) (fVar 3)) (gIx (fVar 4) (fVar 7))), ([.s "copy", .cap 7, .cap 9], fAsg (fBin opIx (fVar 4) (fVar 9)) (gIx (fVar 4) (fVar 7))), ([.s "swap", .cap 7, .cap 9], fAsg (fTup (fCons (fBin opIx (fVar 4) (fVar 9)) (fCons (fBin opIx (fVar 4) (fVar 7)) (fNil)))) (gTupl 2 (gsCons (gIx (fVar 4) (fVar 7)) (gsCons (gIx (fVar 4) (fVar 9)) (gsNil))))), ([.s "emit", .non, .cap 8], fExpr (fBM "list" mAppend (fVar 5) (fCons (fVar 8) (fNil)))), ([.s "emit", .cap 7, .any], fExpr (fBM "list" mAppend (fVar 5) (fCons (fBin opIx (fVar 4) (fVar 7)) (fNil))))]
theorem ac_step {S T : Store} {l4 l5 w : Nat} {a : Act} {p : List Nat × List Nat} {x0 x1 x2 x7 x8 x9 : Option D} (ha : a.ok w) (hw : 0 < w) (hr : RegOk w p.1) (fr : Fr S T) (h4 : S.length ≤ l4) (h5 : S.length ≤ l5) (hne : l4 ≠ l5) (g4 : T[l4]? = some (.lst (nl p.1))) (g5 : T[l5]? = some (.lst (nl p.2))) (hl : p.2.length < 1000) :
    ∃ (T' : Store) (y7 y8 y9 : Option D), acBody [x0, x1, x2, some (.int w), some (.ref l4), some (.ref l5), some a.d, x7, x8, x9] T = .next [x0, x1, x2, some (.int w), some (.ref l4), some (.ref l5), some a.d, y7, y8, y9] T' ∧ Fr S T' ∧ T'[l4]? = some (.lst (nl (a.run w p).1)) ∧ T'[l5]? = some (.lst (nl (a.run w p).2)) := by
  have q4 := getLt g4
  have q5 := getLt g5
  have hlen := hr.len
  have w0 : (0 : Int) < w := by omega
  cases a with
  | add s n =>
    obtain ⟨e1, _⟩ := hr.get ha.1
    have hm : ((p.1.getD s 0 : Nat) : Int) + (n : Int) = ((p.1.getD s 0 + n : Nat) : Int) := by omega
    have hm2 : ((p.1.getD s 0 + n : Nat) : Int) % (w : Int) = (((p.1.getD s 0 + n) % w : Nat) : Int) := by omega
    refine ⟨T.set l4 (.lst (nl (p.1.set s ((p.1.getD s 0 + n) % w)))), some (.int s), some (.int n), x9, ?_, fr.set h4, set_get q4, by rw [List.getElem?_set_ne hne]; exact g5⟩
    have sx := set_nl (x := (p.1.getD s 0 + n) % w) g4 (show s < p.1.length by rw [hlen]; exact ha.1)
    have st : acBody [x0, x1, x2, some (.int w), some (.ref l4), some (.ref l5), some (Act.add s n).d, x7, x8, x9] T = fAsg (fBin opMod (fBin opAdd (fBin opIx (fVar 4) (fVar 7)) (fVar 8)) (fVar 3)) (gIx (fVar 4) (fVar 7)) [x0, x1, x2, some (.int w), some (.ref l4), some (.ref l5), some (Act.add s n).d, some (.int s), some (.int n), x9] T := by
      simp +decide [Act.d, fCases, pmt, pms, CL.pm, binds]
    rw [st]
    have om : opMod (.int (((p.1.getD s 0 : Nat) : Int) + n)) (.int w) T = .ok (.int (((p.1.getD s 0 + n) % w : Nat) : Int)) T := by
      simp only [opMod, hm, hm2, decide_eq_true w0, if_true]
    simp only [x_asg, x_bin, x_var, List.getElem?_cons_succ, List.getElem?_cons_zero, kB_ok, kB2_ok, ix_nl g4 e1, opAdd, om, kAsg_ok, x_gIx, kGI_ok, kGI2_ok, sx]
  | copy s t =>
    obtain ⟨e1, _⟩ := hr.get ha.2
    have sx := set_nl (x := p.1.getD t 0) g4 (show s < p.1.length by rw [hlen]; exact ha.1)
    refine ⟨T.set l4 (.lst (nl (p.1.set s (p.1.getD t 0)))), some (.int s), x8, some (.int t), ?_, fr.set h4, set_get q4, by rw [List.getElem?_set_ne hne]; exact g5⟩
    have st : acBody [x0, x1, x2, some (.int w), some (.ref l4), some (.ref l5), some (Act.copy s t).d, x7, x8, x9] T = fAsg (fBin opIx (fVar 4) (fVar 9)) (gIx (fVar 4) (fVar 7)) [x0, x1, x2, some (.int w), some (.ref l4), some (.ref l5), some (Act.copy s t).d, some (.int s), x8, some (.int t)] T := by
      simp +decide [Act.d, fCases, pmt, pms, CL.pm, binds]
    rw [st]
    simp only [x_asg, x_bin, x_var, List.getElem?_cons_succ, List.getElem?_cons_zero, kB_ok, kB2_ok, ix_nl g4 e1, kAsg_ok, x_gIx, kGI_ok, kGI2_ok, sx]
  | swap s t =>
    obtain ⟨e1, _⟩ := hr.get ha.1
    obtain ⟨e2, _⟩ := hr.get ha.2
    have sx := set_nl (x := p.1.getD t 0) g4 (show s < p.1.length by rw [hlen]; exact ha.1)
    have g4' : (T.set l4 (O.lst (nl (p.1.set s (p.1.getD t 0)))))[l4]? = some (.lst (nl (p.1.set s (p.1.getD t 0)))) := set_get q4
    have sx2 := set_nl (x := p.1.getD s 0) g4' (show t < (p.1.set s (p.1.getD t 0)).length by simp [hlen]; exact ha.2)
    refine ⟨(T.set l4 (.lst (nl (p.1.set s (p.1.getD t 0))))).set l4 (.lst (nl ((p.1.set s (p.1.getD t 0)).set t (p.1.getD s 0)))), some (.int s), x8, some (.int t), ?_, (fr.set h4).set h4, set_get (by simpa using q4), by rw [List.getElem?_set_ne hne, List.getElem?_set_ne hne]; exact g5⟩
    have st : acBody [x0, x1, x2, some (.int w), some (.ref l4), some (.ref l5), some (Act.swap s t).d, x7, x8, x9] T = fAsg (fTup (fCons (fBin opIx (fVar 4) (fVar 9)) (fCons (fBin opIx (fVar 4) (fVar 7)) (fNil)))) (gTupl 2 (gsCons (gIx (fVar 4) (fVar 7)) (gsCons (gIx (fVar 4) (fVar 9)) (gsNil)))) [x0, x1, x2, some (.int w), some (.ref l4), some (.ref l5), some (Act.swap s t).d, some (.int s), x8, some (.int t)] T := by
      simp +decide [Act.d, fCases, pmt, pms, CL.pm, binds]
    rw [st]
    simp only [x_asg, x_tup, x_cons, x_nil, x_bin, x_var, List.getElem?_cons_succ, List.getElem?_cons_zero, kB_ok, kB2_ok, ix_nl g4 e1, ix_nl g4 e2, kC_ok, kC2_ok, kTup_2, kAsg_ok, x_tupl, List.length_cons, List.length_nil, if_true, x_gsCons, x_gsNil, x_gIx, kGI_ok, kGI2_ok, sx, sx2, k_gs1]
  | emitR s =>
    obtain ⟨e1, _⟩ := hr.get (show s < 4 from ha)
    have ap := append_ok (y := .int (p.1.getD s 0 : Nat)) g5 (by simp; omega)
    rw [show nl p.2 ++ [D.int (p.1.getD s 0 : Nat)] = nl (p.2 ++ [p.1.getD s 0]) by simp [nl]] at ap
    refine ⟨T.set l5 (.lst (nl (p.2 ++ [p.1.getD s 0]))), some (.int s), x8, x9, ?_, fr.set h5, by rw [List.getElem?_set_ne hne.symm]; exact g4, set_get q5⟩
    have st : acBody [x0, x1, x2, some (.int w), some (.ref l4), some (.ref l5), some (Act.emitR s).d, x7, x8, x9] T = fExpr (fBM "list" mAppend (fVar 5) (fCons (fBin opIx (fVar 4) (fVar 7)) (fNil))) [x0, x1, x2, some (.int w), some (.ref l4), some (.ref l5), some (Act.emitR s).d, some (.int s), x8, x9] T := by
      simp +decide [Act.d, fCases, pmt, pms, CL.pm, binds, isNone]
    rw [st]
    simp only [x_expr, x_bm, x_cons, x_nil, x_bin, x_var, List.getElem?_cons_succ, List.getElem?_cons_zero, kBM_ok, tyL g5, if_true, kB_ok, kB2_ok, ix_nl g4 e1, kC_ok, kC2_ok, kBM2_ok, ap, kExpr_ok]
  | emitN n =>
    have ap := append_ok (y := .int (n : Nat)) g5 (by simp; omega)
    rw [show nl p.2 ++ [D.int (n : Nat)] = nl (p.2 ++ [n]) by simp [nl]] at ap
    refine ⟨T.set l5 (.lst (nl (p.2 ++ [n]))), x7, some (.int n), x9, ?_, fr.set h5, by rw [List.getElem?_set_ne hne.symm]; exact g4, set_get q5⟩
    have st : acBody [x0, x1, x2, some (.int w), some (.ref l4), some (.ref l5), some (Act.emitN n).d, x7, x8, x9] T = fExpr (fBM "list" mAppend (fVar 5) (fCons (fVar 8) (fNil))) [x0, x1, x2, some (.int w), some (.ref l4), some (.ref l5), some (Act.emitN n).d, x7, some (.int n), x9] T := by
      simp +decide [Act.d, fCases, pmt, pms, CL.pm, binds, isNone]
    rw [st]
    simp only [x_expr, x_bm, x_cons, x_nil, x_var, List.getElem?_cons_succ, List.getElem?_cons_zero, kBM_ok, tyL g5, if_true, kC_ok, kC2_ok, kBM2_ok, ap, kExpr_ok]
theorem acted {S : Store} {k : Deck} {as : List Act} {v : List Nat} (ha : ∀ a ∈ as, a.ok k.w) (hn : as.length ≤ 100) (hw : 0 < k.w) (hv : RegOk k.w v) :
    ∃ (le : Nat) (S' : Store), F_acted S [k.d, .tup (as.map Act.d), .tup (nl v)] = .ok (.tup [.tup (nl (runs k.w as (v, [])).1), .ref le]) S' ∧ Fr S S' ∧ S'[le]? = some (.lst (nl (runs k.w as (v, [])).2)) ∧ S.length ≤ le := by
  obtain ⟨r', S', e, y6, y7, y8, y9, rfl, fr, g4, g5⟩ := for_zip (s := ⟨as.map Act.d, none⟩) (g := gNm 6) (b := acBody)
    (J := fun done r T => ∃ (y6 y7 y8 y9 : Option D), r = [some k.d, some (.tup (as.map Act.d)), some (.tup (nl v)), some (.int k.w), some (.ref S.length), some (.ref (S.length + 1)), y6, y7, y8, y9] ∧ Fr S T ∧ T[S.length]? = some (.lst (nl (runs k.w done (v, [])).1)) ∧ T[S.length + 1]? = some (.lst (nl (runs k.w done (v, [])).2)))
    (All2.self (f := Act.d) as) (fun _ _ _ _ => still_none)
    (by
      rintro done a rest d hx rfl r T ⟨y6, y7, y8, y9, rfl, fr, g4, g5⟩
      have hok : ∀ b ∈ done, b.ok k.w := fun b hb => ha b (by rw [hx]; simp [hb])
      have hd := runs_len k.w done (v, [])
      have hdl : done.length ≤ 100 := by rw [hx] at hn; simp at hn; omega
      simp at hd
      obtain ⟨T', z7, z8, z9, e1, f1, q4, q5⟩ := ac_step (x0 := some k.d) (x1 := some (.tup (as.map Act.d))) (x2 := some (.tup (nl v))) (x7 := y7) (x8 := y8) (x9 := y9) (ha a (by rw [hx]; simp)) hw (runs_ok hok hv) fr (Nat.le_refl _) (Nat.le_succ _) (by omega) g4 g5 (by omega)
      refine ⟨_, T, _, T', rfl, e1, some a.d, z7, z8, z9, rfl, f1, by rw [runs_snoc]; exact q4, by rw [runs_snoc]; exact q5⟩)
    (r := [some k.d, some (.tup (as.map Act.d)), some (.tup (nl v)), some (.int k.w), some (.ref S.length), some (.ref (S.length + 1)), none, none, none, none]) (S := S ++ [.lst (nl v)] ++ [.lst []]) ⟨none, none, none, none, rfl, Fr.refl.app.app, by simp [runs], by simp [runs, nl]⟩
  refine ⟨S.length + 1, S', ?_, fr, g5, by omega⟩
  rw [F_acted, fDef_k]
  show kDef ((fSeq _ (fSeq (fFor _ _ acBody) _)) [some k.d, some (.tup (as.map Act.d)), some (.tup (nl v)), none, none, none, none, none, none, none] S) = _
  have bl : bList [.tup (nl v)] S = some (.ref S.length, S ++ [.lst (nl v)]) := by simp [bList, seqOf]
  have st1 : fAsg (fTup (fCons (fBin opIx (fVar 0) (fC (.int 0))) (fCons (fCB bList (fCons (fVar 2) (fNil))) (fCons (fLst (fNil)) (fNil))))) (gTupl 3 (gsCons (gNm 3) (gsCons (gNm 4) (gsCons (gNm 5) (gsNil))))) [some k.d, some (.tup (as.map Act.d)), some (.tup (nl v)), none, none, none, none, none, none, none] S = .next [some k.d, some (.tup (as.map Act.d)), some (.tup (nl v)), some (.int k.w), some (.ref S.length), some (.ref (S.length + 1)), none, none, none, none] (S ++ [.lst (nl v)] ++ [.lst []]) := by
    simp [Deck.d, opIx, bl]
  have bt : bTuple [.ref S.length] S' = some (.tup (nl (runs k.w as (v, [])).1), S') := by simp [bTuple, seqOf, lstAt, g4]
  rw [x_seq, st1, k_seq1, x_seq, x_for]
  simp only [x_iSeq, x_var, List.getElem?_cons_succ, List.getElem?_cons_zero, kISeq_ok, seqT, kFor_ok]
  rw [e]
  simp only [k_seq1, x_ret, x_tup, x_cons, x_cb, x_nil, x_var, List.getElem?_cons_succ, List.getElem?_cons_zero, kC_ok, kC2_ok, kCB_ok, bt, kTup_2, kRet_ok, k_def2]
/-! ### depth, step -/
def Put.depth (p : Put) (v : List Nat) : Nat := match p with
  | .fix n => n
  | .reg s => v.getD s 0
  | .test s a b => if v.getD s 0 = 0 then a else b
theorem min_nat {a b : Nat} {S : Store} : bMin [.int a, .int b] S = some (.int ((min a b : Nat) : Int), S) := by
  have : (if (b : Int) < a then (b : Int) else a) = ((min a b : Nat) : Int) := by split <;> omega
  simp only [bMin, min2, Option.map_some, this]
theorem depth_of {S : Store} {p : Put} {w : Nat} {v : List Nat} (hp : p.ok) (hv : RegOk w v) (n : Nat) : F_depth_of S [p.d, .tup (nl v), .int n] = .ok (.int ((min (p.depth v) n : Nat) : Int)) S := by
  rw [F_depth_of, fDef_k]
  cases p with
  | fix m => simp [Put.d, opNotN, isNone, min_nat, Put.depth]
  | reg s =>
    obtain ⟨e1, _⟩ := hv.get (show s < 4 from hp)
    have ix := ix_nlT (S := S) e1
    have hd : (Put.reg s).depth v = v.getD s 0 := rfl
    rw [hd]
    generalize v.getD s 0 = x at ix
    simp [Put.d, opNotN, opIsN, isNone, ix, min_nat]
  | test s a b =>
    obtain ⟨e1, _⟩ := hv.get hp.1
    have ix := ix_nlT (S := S) e1
    have hd : (Put.test s a b).depth v = if v.getD s 0 = 0 then a else b := rfl
    rw [hd]
    generalize v.getD s 0 = x at ix
    by_cases hz : x = 0
    · subst hz
      simp [Put.d, opNotN, opIsN, isNone, ix, opNe, eqD, min_nat]
    · have hz' : ¬ (x : Int) = 0 := by omega
      simp [Put.d, opNotN, opIsN, isNone, ix, opNe, eqD, hz, min_nat]
structure St where
  ord : List Nat
  reg : List Nat
  deriving DecidableEq
def St.d (s : St) : D := .tup [.tup (nl s.ord), .tup (nl s.reg)]
structure St.ok (k : Deck) (s : St) : Prop where
  perm : s.ord.Perm (List.range k.cards.length)
  reg : RegOk k.w s.reg
def Deck.top (k : Deck) (s : St) : Card := k.cards.getD (s.ord.headD 0) ⟨"", [], .fix 0⟩
/-- registers and values after the top card's actions -/
def Deck.acts2 (k : Deck) (s : St) : List Nat × List Nat := runs k.w (k.top s).acts (s.reg, [])
def Deck.dep (k : Deck) (s : St) : Nat := min ((k.top s).put.depth (k.acts2 s).1) (s.ord.length - 1)
def Deck.next (k : Deck) (s : St) : St := ⟨s.ord.tail.take (k.dep s) ++ [s.ord.headD 0] ++ s.ord.tail.drop (k.dep s), (k.acts2 s).1⟩
def Deck.em (k : Deck) (s : St) : List Nat := (k.acts2 s).2
end M

set_option linter.all false
set_option maxRecDepth 100000
set_option maxHeartbeats 1000000
namespace M
open PySem CL L2
theorem cut_drop {α : Type} (xs : List α) (n : Nat) : cutL xs (some (n : Int)) none = xs.drop n := by
  unfold cutL
  rw [HT.sIx_nat]
  have e : HT.sIx xs.length xs.length none = xs.length := rfl
  rw [e]
  by_cases h : n ≤ xs.length
  · rw [Nat.min_eq_left h, List.take_of_length_le (by simp)]
  · rw [show min n xs.length = xs.length from Nat.min_eq_right (by omega), List.drop_eq_nil_of_le (Nat.le_refl _), List.drop_eq_nil_of_le (show xs.length ≤ n by omega)]; simp
theorem cut_mid {α : Type} (xs : List α) (a b : Nat) : cutL xs (some (a : Int)) (some (b : Int)) = (xs.drop a).take (b - a) := by
  unfold cutL
  rw [HT.sIx_nat, HT.sIx_nat]
  by_cases h : a ≤ xs.length
  · rw [Nat.min_eq_left h]
    by_cases hb : b ≤ xs.length
    · rw [Nat.min_eq_left hb]
    · rw [show min b xs.length = xs.length from Nat.min_eq_right (by omega)]
      rw [List.take_of_length_le (by simp), List.take_of_length_le (by simp; omega)]
  · rw [show min a xs.length = xs.length from Nat.min_eq_right (by omega)]
    rw [List.drop_eq_nil_of_le (Nat.le_refl _), List.drop_eq_nil_of_le (show xs.length ≤ a by omega)]; simp
theorem addT {S : Store} {a b : List D} (h : a.length + b.length ≤ 1000000) : opAdd (.tup a) (.tup b) S = .ok (.tup (a ++ b)) S := by
  show (if a.length + b.length ≤ LINE then Out.ok (D.tup (a ++ b)) S else .stuck) = _
  exact if_le h
theorem nl_drop (v : List Nat) (n : Nat) : (nl v).drop n = nl (v.drop n) := by simp [nl]
theorem nl_take (v : List Nat) (n : Nat) : (nl v).take n = nl (v.take n) := by simp [nl]
theorem St.ok.shape {m : Nat} {k : Deck} {s : St} (hk : k.ok m) (hs : s.ok k) : ∃ o rest c, s.ord = o :: rest ∧ o < k.cards.length ∧ k.cards[o]? = some c ∧ k.top s = c ∧ rest.length + 1 = k.cards.length := by
  have hl := hs.perm.length_eq
  have hp : 0 < k.cards.length := List.length_pos_iff.mpr hk.some
  cases ho : s.ord with
  | nil => rw [ho] at hl; simp at hl; omega
  | cons o rest =>
    have hm : o ∈ List.range k.cards.length := hs.perm.subset (by rw [ho]; simp)
    have hlt : o < k.cards.length := by simpa using hm
    refine ⟨o, rest, k.cards[o], rfl, hlt, List.getElem?_eq_getElem hlt, ?_, ?_⟩
    · simp [Deck.top, ho, List.getD, hlt]
    · rw [ho] at hl; simpa using hl
theorem Deck.next_ok {m : Nat} {k : Deck} {s : St} (hk : k.ok m) (hs : s.ok k) : (k.next s).ok k := by
  obtain ⟨o, rest, c, ho, hlt, hc, ht, _⟩ := hs.shape hk
  have hcm : c ∈ k.cards := List.mem_of_getElem? hc
  constructor
  · refine List.Perm.trans ?_ hs.perm
    show (s.ord.tail.take (k.dep s) ++ [s.ord.headD 0] ++ s.ord.tail.drop (k.dep s)).Perm s.ord
    rw [ho]
    simp only [List.tail_cons, List.headD_cons, List.append_assoc, List.singleton_append]
    have := List.perm_middle (a := o) (l₁ := rest.take (k.dep s)) (l₂ := rest.drop (k.dep s))
    rw [List.take_append_drop] at this
    exact this
  · show RegOk k.w (runs k.w (k.top s).acts (s.reg, [])).1
    rw [ht]
    exact runs_ok (hk.cards c hcm).acts hs.reg
theorem Deck.em_lt {m : Nat} {k : Deck} {s : St} (hk : k.ok m) (hs : s.ok k) : (∀ x ∈ k.em s, x < k.w) ∧ (k.em s).length ≤ 6 := by
  obtain ⟨o, rest, c, ho, hlt, hc, ht, _⟩ := hs.shape hk
  have hcm : c ∈ k.cards := List.mem_of_getElem? hc
  unfold Deck.em Deck.acts2
  rw [ht]
  refine ⟨runs_em (hk.cards c hcm).acts hs.reg (by simp), ?_⟩
  have := runs_len k.w c.acts (s.reg, [])
  have h6 := (hk.cards c hcm).few
  simp at this; omega
theorem ix_tup {S : Store} {ds : List D} {i : Nat} {d : D} (h : ds[i]? = some d) : opIx (.tup ds) (.int i) S = .ok d S := by simp only [opIx, atI_nat, h]
theorem ix_lst {S : Store} {l : Nat} {ds : List D} {i : Nat} {d : D} (hl : S[l]? = some (.lst ds)) (h : ds[i]? = some d) : opIx (.ref l) (.int i) S = .ok d S := by simp only [opIx, hl, atI_nat, h]
theorem after_step {S : Store} {m : Nat} {k : Deck} {s : St} (hk : k.ok m) (hm : m ≤ 8) (hs : s.ok k) : ∃ (le : Nat) (S' : Store), F_after_step S [k.d, s.d] = .ok (.tup [(k.next s).d, .ref le, .int (k.dep s : Nat)]) S' ∧ Fr S S' ∧ S'[le]? = some (.lst (nl (k.em s))) ∧ S.length ≤ le := by
  obtain ⟨o, rest, c, ho, hlt, hc, ht, hrl⟩ := hs.shape hk
  have hcm : c ∈ k.cards := List.mem_of_getElem? hc
  have cok := hk.cards c hcm
  have hw : 0 < k.w := by have := hk.w2; omega
  have hfew := hk.few
  have h6 := cok.few
  obtain ⟨le, S1, e1, f1, hl1, hle⟩ := acted (S := S) cok.acts (by omega) hw hs.reg
  have rok := runs_ok cok.acts (p := (s.reg, [])) hs.reg
  have e2 := depth_of (S := S1) cok.put rok rest.length
  have hdep : k.dep s = min (c.put.depth (runs k.w c.acts (s.reg, [])).1) rest.length := by
    simp only [Deck.dep, Deck.acts2, ht, ho]; simp
  rw [← hdep] at e2
  have hdl : k.dep s ≤ rest.length := by rw [hdep]; exact Nat.min_le_right _ _
  refine ⟨le, S1, ?_, f1, ?_, hle⟩
  · have hd : (k.next s).d = .tup [.tup (nl (rest.take (k.dep s)) ++ nl [o] ++ nl (rest.drop (k.dep s))), .tup (nl (runs k.w c.acts (s.reg, [])).1)] := by
      simp only [Deck.next, St.d, ho, Deck.acts2, ht, List.tail_cons, List.headD_cons, nl_app]
    rw [hd]
    have sd : s.d = .tup [.tup (nl (o :: rest)), .tup (nl s.reg)] := by simp only [St.d, ho]
    rw [sd]
    generalize hrr : (runs k.w c.acts (s.reg, [])).1 = rr at e1 e2
    have st1 : fAsg (fVar 1) (gTupl 2 (gsCons (gNm 2) (gsCons (gNm 3) (gsNil)))) [some k.d, some (.tup [.tup (nl (o :: rest)), .tup (nl s.reg)]), none, none, none, none, none, none, none] S = .next [some k.d, some (.tup [.tup (nl (o :: rest)), .tup (nl s.reg)]), some (.tup (nl (o :: rest))), some (.tup (nl s.reg)), none, none, none, none, none] S := by
      simp
    have ixc : opIx (.tup (k.cards.map Card.d)) (.int o) S = .ok c.d S := ix_tup (by simp [hc])
    have ixo : opIx (.tup (nl (o :: rest))) (.int 0) S = .ok (.int o) S := ix_tup (i := 0) (by simp [nl])
    have ix1 : opIx k.d (.int 1) S = .ok (.tup (k.cards.map Card.d)) S := by simp [Deck.d, opIx]
    have st2 : fAsg (fBin opIx (fBin opIx (fVar 0) (fC (.int 1))) (fBin opIx (fVar 2) (fC (.int 0)))) (gTupl 3 (gsCons (gNm 4) (gsCons (gNm 5) (gsCons (gNm 6) (gsNil))))) [some k.d, some (.tup [.tup (nl (o :: rest)), .tup (nl s.reg)]), some (.tup (nl (o :: rest))), some (.tup (nl s.reg)), none, none, none, none, none] S = .next [some k.d, some (.tup [.tup (nl (o :: rest)), .tup (nl s.reg)]), some (.tup (nl (o :: rest))), some (.tup (nl s.reg)), some (.str c.nm), some (.tup (c.acts.map Act.d)), some c.put.d, none, none] S := by
      simp only [x_asg, x_bin, x_var, x_c, List.getElem?_cons_succ, List.getElem?_cons_zero, kB_ok, kB2_ok, ix1, ixo, ixc, kAsg_ok]
      simp [Card.d]
    have st3 : fAsg (fCallN 3 F_acted (fCons (fVar 0) (fCons (fVar 5) (fCons (fVar 3) (fNil))))) (gTupl 2 (gsCons (gNm 3) (gsCons (gNm 7) (gsNil)))) [some k.d, some (.tup [.tup (nl (o :: rest)), .tup (nl s.reg)]), some (.tup (nl (o :: rest))), some (.tup (nl s.reg)), some (.str c.nm), some (.tup (c.acts.map Act.d)), some c.put.d, none, none] S = .next [some k.d, some (.tup [.tup (nl (o :: rest)), .tup (nl s.reg)]), some (.tup (nl (o :: rest))), some (.tup (nl rr)), some (.str c.nm), some (.tup (c.acts.map Act.d)), some c.put.d, some (.ref le), none] S1 := by
      simp [e1]
    have sb : opSub (.int ((nl (o :: rest)).length : Nat)) (.int 1) S1 = .ok (.int (rest.length : Nat)) S1 := by
      simp [opSub]
    have st4 : fAsg (fCallN 3 F_depth_of (fCons (fVar 6) (fCons (fVar 3) (fCons (fBin opSub (fCB bLen (fCons (fVar 2) (fNil))) (fC (.int 1))) (fNil))))) (gNm 8) [some k.d, some (.tup [.tup (nl (o :: rest)), .tup (nl s.reg)]), some (.tup (nl (o :: rest))), some (.tup (nl rr)), some (.str c.nm), some (.tup (c.acts.map Act.d)), some c.put.d, some (.ref le), none] S1 = .next [some k.d, some (.tup [.tup (nl (o :: rest)), .tup (nl s.reg)]), some (.tup (nl (o :: rest))), some (.tup (nl rr)), some (.str c.nm), some (.tup (c.acts.map Act.d)), some c.put.d, some (.ref le), some (.int (k.dep s : Nat))] S1 := by
      simp only [x_asg, x_callN, x_cons, x_nil, x_bin, x_cb, x_var, x_c, List.getElem?_cons_succ, List.getElem?_cons_zero, kC_ok, kC2_ok, kB_ok, kB2_ok, kCB_ok, len_tup, sb, kCallN_ok, List.length_cons, List.length_nil, if_true, e2, kAsg_ok, x_nm]
      rfl
    have c1 : opSl (.tup (nl (o :: rest))) (some 1) (some ((k.dep s : Int) + 1)) S1 = .ok (.tup (nl (rest.take (k.dep s)))) S1 := by
      have := cut_mid (nl (o :: rest)) 1 (k.dep s + 1)
      simp only [opSl]
      rw [show ((k.dep s : Int) + 1) = ((k.dep s + 1 : Nat) : Int) by omega, show (1 : Int) = ((1 : Nat) : Int) from rfl, this, nl_drop, nl_take]
      simp
    have c2 : opSl (.tup (nl (o :: rest))) none (some 1) S1 = .ok (.tup (nl [o])) S1 := by
      have := cut_take (nl (o :: rest)) 1
      simp only [opSl]
      rw [show (1 : Int) = ((1 : Nat) : Int) from rfl, this, nl_take]
      simp
    have c3 : opSl (.tup (nl (o :: rest))) (some ((k.dep s : Int) + 1)) none S1 = .ok (.tup (nl (rest.drop (k.dep s)))) S1 := by
      have := cut_drop (nl (o :: rest)) (k.dep s + 1)
      simp only [opSl]
      rw [show ((k.dep s : Int) + 1) = ((k.dep s + 1 : Nat) : Int) by omega, this, nl_drop]
      simp
    have a1 : opAdd (.tup (nl (rest.take (k.dep s)))) (.tup (nl [o])) S1 = .ok (.tup (nl (rest.take (k.dep s)) ++ nl [o])) S1 := addT (by simp; omega)
    have a2 : opAdd (.tup (nl (rest.take (k.dep s)) ++ nl [o])) (.tup (nl (rest.drop (k.dep s)))) S1 = .ok (.tup (nl (rest.take (k.dep s)) ++ nl [o] ++ nl (rest.drop (k.dep s)))) S1 := addT (by simp; omega)
    rw [F_after_step, fDef_k]
    show kDef ((fSeq _ (fSeq _ (fSeq _ (fSeq _ _)))) [some k.d, some (.tup [.tup (nl (o :: rest)), .tup (nl s.reg)]), none, none, none, none, none, none, none] S) = _
    rw [x_seq, st1, k_seq1, x_seq, st2, k_seq1, x_seq, st3, k_seq1, x_seq, st4, k_seq1]
    have ad : ∀ U : Store, opAdd (.int (k.dep s : Nat)) (.int 1) U = .ok (.int ((k.dep s : Int) + 1)) U := fun U => rfl
    simp only [x_ret, x_tup, x_cons, x_nil, x_bin, x_slice, x_part, x_noPart, x_var, x_c, List.getElem?_cons_succ, List.getElem?_cons_zero, kB_ok, kB2_ok, kPart_ok, kSl_ok, kSl2_ok, kSl3_ok, ad, c1, c2, c3, a1, a2, kC_ok, kC2_ok, kTup_2, kTup_3, kRet_ok, k_def2]
  · rw [hl1]; simp only [Deck.em, Deck.acts2, ht]
/-! ### states with names -/
def Deck.nmOf (k : Deck) (o : Nat) : Str := (k.cards.getD o ⟨"", [], .fix 0⟩).nm
def St.nd (k : Deck) (s : St) : D := .tup [.tup (s.ord.map fun o => D.str (k.nmOf o)), .tup (nl s.reg)]
def Deck.init (k : Deck) : St := ⟨List.range k.cards.length, [0, 0, 0, 0]⟩
theorem Deck.init_ok {m : Nat} {k : Deck} (hk : k.ok m) : k.init.ok k := ⟨.refl _, ⟨rfl, fun x hx => by have := hk.w2; simp [Deck.init] at hx; omega⟩⟩
theorem initial_state {S : Store} {m : Nat} {k : Deck} (hk : k.ok m) (hm : m ≤ 8) : F_initial_state S [k.d] = .ok k.init.d S := by
  have hfew := hk.few
  have ix1 : opIx k.d (.int 1) S = .ok (.tup (k.cards.map Card.d)) S := by simp [Deck.d, opIx]
  have c1 : (0 : Int) ≤ (k.cards.length : Int) ∧ (k.cards.length : Int) ≤ 16777216 := by omega
  rw [F_initial_state, fDef_k]
  show kDef (b_initial_state [some k.d] S) = _
  unfold b_initial_state
  simp only [x_ret, x_tup, x_cons, x_nil, x_tupRg, x_cb, x_bin, x_var, x_c, List.getElem?_cons_succ, List.getElem?_cons_zero, kB_ok, kB2_ok, ix1, kC_ok, kC2_ok, kCB_ok, len_tup, List.length_map, kTupRg_ok, if_pos c1, kTup_2, kRet_ok, k_def2]
  simp [Deck.init, St.d, rng_eq, nl]
end M

set_option linter.all false
set_option maxRecDepth 100000
set_option maxHeartbeats 1000000
namespace M
open PySem CL L2
theorem nm_get {k : Deck} {o : Nat} (h : o < k.cards.length) : ∃ c, k.cards[o]? = some c ∧ k.nmOf o = c.nm ∧ c ∈ k.cards := by
  have e : k.cards[o]? = some k.cards[o] := List.getElem?_eq_getElem h
  exact ⟨k.cards[o], e, by simp [Deck.nmOf, List.getD, e], List.getElem_mem h⟩
theorem St.ok.lt {k : Deck} {s : St} (hs : s.ok k) : ∀ o ∈ s.ord, o < k.cards.length := fun o ho => by simpa using hs.perm.subset ho
theorem St.ok.len {k : Deck} {s : St} (hs : s.ok k) : s.ord.length = k.cards.length := by simpa using hs.perm.length_eq
theorem named_state {S : Store} {m : Nat} {k : Deck} {s : St} (hk : k.ok m) (hm : m ≤ 8) (hs : s.ok k) : ∃ S', F_named_state S [k.d, s.d] = .ok (s.nd k) S' ∧ Fr S S' := by
  have hfew := hk.few
  have hl := hs.len
  obtain ⟨S1, e1, f1, hl1⟩ := lc_map (s := ⟨nl s.ord, none⟩) (f := fun (n : Nat) => D.int n) (h := fun o => D.str (k.nmOf o)) (i := 2) (e := fBin opIx (fBin opIx (fBin opIx (fVar 0) (fC (.int 1))) (fVar 2)) (fC (.int 0))) (l := S.length) (r0 := [some k.d, some s.d, none]) (Inv := Fr S)
    (fun _ _ => still_none) (fun T o hT => hT.set (Nat.le_refl _)) s.ord (fun o ho T acc fr hacc => by
      obtain ⟨c, hc, hn, _⟩ := nm_get (hs.lt o ho)
      have ix1 : opIx k.d (.int 1) T = .ok (.tup (k.cards.map Card.d)) T := by simp [Deck.d, opIx]
      have ixc : opIx (.tup (k.cards.map Card.d)) (.int o) T = .ok c.d T := ix_tup (by simp [hc])
      have ix0 : opIx c.d (.int 0) T = .ok (.str c.nm) T := by simp [Card.d, opIx]
      refine ⟨T, ?_, fr, hacc⟩
      simp only [x_bin, x_var, x_c, List.set_cons_succ, List.set_cons_zero, List.getElem?_cons_succ, List.getElem?_cons_zero, kB_ok, kB2_ok, ix1, ixc, ix0, hn]) (S ++ [.lst []]) [] ⟨_, rfl⟩ (by simp) (by simp [LINE]; omega)
  have hl1 : S1[S.length]? = some (.lst (s.ord.map fun o => D.str (k.nmOf o))) := hl1
  have bt : bTuple [.ref S.length] S1 = some (.tup (s.ord.map fun o => D.str (k.nmOf o)), S1) := by simp [bTuple, seqOf, lstAt, hl1]
  refine ⟨S1, ?_, f1⟩
  have i0 : ∀ U, opIx s.d (.int 0) U = .ok (.tup (nl s.ord)) U := fun U => by simp [St.d, opIx]
  have i1 : ∀ U, opIx s.d (.int 1) U = .ok (.tup (nl s.reg)) U := fun U => by simp [St.d, opIx]
  have e1 : lcGo ⟨nl s.ord, none⟩ (gNm 2) fYes (fBin opIx (fBin opIx (fBin opIx (fVar 0) (fC (.int 1))) (fVar 2)) (fC (.int 0))) S.length [some k.d, some s.d, none] (nl s.ord) (S ++ [.lst []]) = .ok () S1 := e1
  rw [F_named_state, fDef_k]
  show kDef (b_named_state [some k.d, some s.d, none] S) = _
  unfold b_named_state
  simp only [x_ret, x_tup, x_cons, x_nil, x_cb, x_lc, x_iSeq, x_bin, x_var, x_c, List.getElem?_cons_succ, List.getElem?_cons_zero, kB_ok, kB2_ok, i0, kISeq_ok, seqT, kLc_ok, wipeE, List.set_cons_succ, List.set_cons_zero, e1, kLc2_ok, kC_ok, kC2_ok, kCB_ok, bt, i1, kTup_2, kRet_ok, k_def2, St.nd]
/-- the names, as a new list -/
theorem names_lc {S : Store} {m i : Nat} {k : Deck} {r : CL.Env} (hk : k.ok m) (hm : m ≤ 8) (h0 : r[0]? = some (some k.d)) (hi : i < r.length) : ∃ S', fLc (iSeq (fBin opIx (fVar 0) (fC (.int 1)))) (gNm i) (fYes) (fBin opIx (fVar i) (fC (.int 0))) [i] r S = .ok (.ref S.length) S' ∧ Fr S S' ∧ S'[S.length]? = some (.lst ((k.cards.map Card.nm).map D.str)) := by
  have hfew := hk.few
  obtain ⟨S1, e1, f1, hl1⟩ := lc_map (s := ⟨k.cards.map Card.d, none⟩) (f := Card.d) (h := fun c => D.str c.nm) (i := i) (e := fBin opIx (fVar i) (fC (.int 0))) (l := S.length) (r0 := r.set i none) (Inv := Fr S)
    (fun _ _ => still_none) (fun T o hT => hT.set (Nat.le_refl _)) k.cards (fun c hc T acc fr hacc => by
      have hx : ((r.set i none).set i (some c.d))[i]? = some (some c.d) := List.getElem?_set_self (by simpa using hi)
      have ix0 : opIx c.d (.int 0) T = .ok (.str c.nm) T := by simp [Card.d, opIx]
      exact ⟨T, by simp only [x_bin, x_var, x_c, hx, kB_ok, kB2_ok, ix0], fr, hacc⟩) (S ++ [.lst []]) [] ⟨_, rfl⟩ (by simp) (by simp [LINE]; omega)
  refine ⟨S1, ?_, f1, by rw [hl1]; simp⟩
  have ix1 : opIx k.d (.int 1) S = .ok (.tup (k.cards.map Card.d)) S := by simp [Deck.d, opIx]
  simp only [x_lc, x_iSeq, x_bin, x_var, x_c, h0, kB_ok, kB2_ok, ix1, kISeq_ok, seqT, kLc_ok, wipeE, e1, kLc2_ok]
theorem idx_strs : ∀ {xs : List Str} {i j : Nat} {x : Str}, xs.Nodup → xs[i]? = some x → idxD (.str x) j (xs.map PyData.str) = some (j + i)
  | [], i, j, x, _, h => by simp at h
  | y :: ys, 0, j, x, _, h => by
    simp at h; subst h
    simp [idxD, PyData.eqv]
  | y :: ys, i + 1, j, x, hn, h => by
    have hn' := List.nodup_cons.mp hn
    have hx : x ∈ ys := List.mem_of_getElem? (by simpa using h)
    have hne : ¬ y = x := fun e => hn'.1 (e ▸ hx)
    have ih := idx_strs (j := j + 1) hn'.2 (show ys[i]? = some x by simpa using h)
    simp only [List.map_cons, idxD]
    have : PyData.eqv (.str y) (.str x) = false := by simp [PyData.eqv, hne]
    rw [this, if_neg (by decide), ih]
    congr 1; omega
theorem index_strs {S : Store} {l i : Nat} {xs : List Str} {x : Str} (h : S[l]? = some (.lst (xs.map D.str))) (hok : ∀ y ∈ xs, PyData.strOk y = true) (hn : xs.Nodup) (hx : xs[i]? = some x) : mIndex (.ref l) [.str x] S = some (.int i, S) := by
  have e : toD S 60 (.ref l) = some (.list (xs.map PyData.str)) := by
    simp only [toD, h]
    rw [optAll_strs (n := 58) hok]; rfl
  have ex : toD S 60 (.str x) = some (.str x) := toD_str (hok x (List.mem_of_getElem? hx))
  have hi := idx_strs (j := 0) hn hx
  simp only [mIndex, e, ex, hi, Option.map_some, Nat.zero_add]
theorem Deck.nm_ok {m : Nat} {k : Deck} (hk : k.ok m) : ∀ y ∈ k.cards.map Card.nm, PyData.strOk y = true := fun y hy => by
  obtain ⟨c, hc, rfl⟩ := List.mem_map.mp hy
  exact names_ok _ (hk.cards c hc).nm
theorem int_inT {S : Store} {b : Int} {lo hi : Int} (h1 : lo ≤ b) (h2 : b ≤ hi) : F_is_int_in S [.int b, .int lo, .int hi] = .ok (.bool true) S := by
  rw [F_is_int_in, fDef_k]
  simp [kindD, i1, i2, pLe, h1, h2]
theorem all_true {α : Type} {S : Store} {l : Nat} {xs : List α} (h : S[l]? = some (.lst (xs.map fun _ => D.bool true))) : bAll [.ref l] S = some (.bool true, S) := by
  have : ∀ xs : List α, boolsD (xs.map fun _ => D.bool true) = some (xs.map fun _ => true) := by
    intro xs
    induction xs with
    | nil => rfl
    | cons x xs ih => simp [boolsD, ih]
  simp only [bAll, boolsAt, lstAt, h, Option.bind_some, this, Option.map_some]
  simp
theorem is_state {S : Store} {m : Nat} {k : Deck} {s : St} (hk : k.ok m) (hm : m ≤ 8) (hs : s.ok k) : ∃ S', F_is_state S [k.d, s.nd k] = .ok (.bool true) S' ∧ Fr S S' := by
  have hfew := hk.few
  have hl := hs.len
  have hw := hk.w2
  let r0 : CL.Env := [some k.d, some (s.nd k), none, none, none, none]
  obtain ⟨S1, e1, f1, hl1⟩ := names_lc (S := S) (i := 3) (r := r0) hk hm rfl (by simp [r0])
  let r1 : CL.Env := [some k.d, some (s.nd k), some (.ref S.length), none, none, none]
  have i0 : ∀ U, opIx (s.nd k) (.int 0) U = .ok (.tup (s.ord.map fun o => D.str (k.nmOf o))) U := fun U => by simp [St.nd, opIx]
  have i1 : ∀ U, opIx (s.nd k) (.int 1) U = .ok (.tup (nl s.reg)) U := fun U => by simp [St.nd, opIx]
  have hin : ∀ x ∈ k.cards.map Card.nm, x ∈ s.ord.map k.nmOf := by
    intro x hx
    obtain ⟨i, hi⟩ := List.mem_iff_getElem?.mp hx
    have hil : i < k.cards.length := by have := (List.getElem?_eq_some_iff.mp hi).1; simpa using this
    obtain ⟨c, hc, hn, _⟩ := nm_get hil
    have : i ∈ s.ord := hs.perm.symm.subset (by simpa using hil)
    refine List.mem_map.mpr ⟨i, this, ?_⟩
    rw [hn]
    simp [hc] at hi
    exact hi
  obtain ⟨S2, e2, f2, hl2⟩ := lc_map (s := ⟨(k.cards.map Card.nm).map D.str, some (S.length, (k.cards.map Card.nm).map D.str)⟩) (f := D.str) (h := fun _ => D.bool true) (i := 5) (e := fBin opIn (fVar 5) (fBin opIx (fVar 1) (fC (.int 0)))) (l := S1.length) (r0 := r1) (Inv := Fr S1)
    (fun T hT => still_lst (hT.get hl1)) (fun T o hT => hT.set (Nat.le_refl _)) (k.cards.map Card.nm) (fun x hx T acc fr hacc => by
      have ins : opIn (.str x) (.tup (s.ord.map fun o => D.str (k.nmOf o))) T = .ok (.bool true) T := by
        have := in_tup T x (s.ord.map k.nmOf)
        rw [decide_eq_true (hin x hx)] at this
        rw [List.map_map] at this; exact this
      exact ⟨T, by simp only [r1, x_bin, x_var, x_c, List.set_cons_succ, List.set_cons_zero, List.getElem?_cons_succ, List.getElem?_cons_zero, kB_ok, kB2_ok, i0, ins], fr, hacc⟩) (S1 ++ [.lst []]) [] ⟨_, rfl⟩ (by simp) (by simp [LINE]; omega)
  have hl2 : S2[S1.length]? = some (.lst ((k.cards.map Card.nm).map fun _ => D.bool true)) := hl2
  obtain ⟨S3, e3, f3, hl3⟩ := lc_map (s := ⟨nl s.reg, none⟩) (f := fun (n : Nat) => D.int n) (h := fun _ => D.bool true) (i := 4) (e := fCallN 3 F_is_int_in (fCons (fVar 4) (fCons (fC (.int 0)) (fCons (fBin opSub (fBin opIx (fVar 0) (fC (.int 0))) (fC (.int 1))) (fNil))))) (l := S2.length) (r0 := r1) (Inv := Fr S2)
    (fun _ _ => still_none) (fun T o hT => hT.set (Nat.le_refl _)) s.reg (fun x hx T acc fr hacc => by
      have hlt := hs.reg.lt x hx
      have q : opIx k.d (.int 0) T = .ok (.int k.w) T := by simp [Deck.d, opIx]
      have ii := int_inT (S := T) (b := (x : Int)) (lo := 0) (hi := (k.w : Int) - 1) (by omega) (by omega)
      have sb : opSub (.int k.w) (.int 1) T = .ok (.int ((k.w : Int) - 1)) T := rfl
      exact ⟨T, by simp only [r1, x_callN, x_cons, x_nil, x_bin, x_var, x_c, List.set_cons_succ, List.set_cons_zero, List.getElem?_cons_succ, List.getElem?_cons_zero, kB_ok, kB2_ok, q, sb, kC_ok, kC2_ok, kCallN_ok, List.length_cons, List.length_nil, if_true, ii], fr, hacc⟩) (S2 ++ [.lst []]) [] ⟨_, rfl⟩ (by simp) (by have := hs.reg.len; simp [LINE]; omega)
  have hl3 : S3[S2.length]? = some (.lst (s.reg.map fun _ => D.bool true)) := hl3
  refine ⟨S3, ?_, f1.trans (f2.trans f3)⟩
  have kd : kindD S (s.nd k) = some "tuple" := rfl
  have ln : bLen [s.nd k] S = some (.int 2, S) := rfl
  have st1 : (fIf (fOr (fNot (fTru (fIsi "tuple" (fVar 1)))) (fOr (fBl (fBin opNe (fCB bLen (fCons (fVar 1) (fNil))) (fC (.int 2)))) (fNot (fTru (fIsi "tuple" (fBin opIx (fVar 1) (fC (.int 0)))))))) (fRet (fC (.bool false))) (fPass)) r0 S = .next r0 S := by
    have kdT : ∀ (ds : List D) (U : Store), kindD U (.tup ds) = some "tuple" := fun _ _ => rfl
    simp [r0, kd, i9, tru, ln, neI, i0, kdT]
  have st2 : fAsg (fLc (iSeq (fBin opIx (fVar 0) (fC (.int 1)))) (gNm 3) (fYes) (fBin opIx (fVar 3) (fC (.int 0))) [3]) (gNm 2) r0 S = .next r1 S1 := by
    rw [x_asg, e1]; rfl
  have e2 : lcGo ⟨(k.cards.map Card.nm).map D.str, some (S.length, (k.cards.map Card.nm).map D.str)⟩ (gNm 5) fYes (fBin opIn (fVar 5) (fBin opIx (fVar 1) (fC (.int 0)))) S1.length r1 ((k.cards.map Card.nm).map D.str) (S1 ++ [.lst []]) = .ok () S2 := e2
  have st3 : (fIf (fOr (fBl (fBin opNe (fCB bLen (fCons (fBin opIx (fVar 1) (fC (.int 0))) (fNil))) (fCB bLen (fCons (fVar 2) (fNil))))) (fNot (fTru (fCB bAll (fCons (fLc (iSeq (fVar 2)) (gNm 5) (fYes) (fBin opIn (fVar 5) (fBin opIx (fVar 1) (fC (.int 0)))) [5]) (fNil)))))) (fRet (fC (.bool false))) (fPass)) r1 S1 = .next r1 S2 := by
    have l1 : bLen [.tup (s.ord.map fun o => D.str (k.nmOf o))] S1 = some (.int k.cards.length, S1) := by rw [len_tup]; simp [hl]
    have l2 : bLen [.ref S.length] S1 = some (.int k.cards.length, S1) := by rw [lenL hl1]; simp
    have nn : opNe (.int (k.cards.length : Nat)) (.int (k.cards.length : Nat)) S1 = .ok (.bool false) S1 := by rw [neI]; simp
    have al := all_true hl2
    have hr1 : ∀ x, r1.set 5 x = [some k.d, some (s.nd k), some (.ref S.length), none, none, x] := fun x => rfl
    simp only [r1, x_if, x_or, x_bl, x_not, x_tru, x_bin, x_cb, x_cons, x_nil, x_lc, x_iSeq, x_var, x_c, x_pass, List.getElem?_cons_succ, List.getElem?_cons_zero, kB_ok, kB2_ok, i0, kC_ok, kC2_ok, kCB_ok, l1, l2, nn, kBl_ok, kOr_ok, kISeq_ok, seqL hl1, kLc_ok, wipeE, List.set_cons_succ, List.set_cons_zero]
    have e2' : lcGo ⟨(k.cards.map Card.nm).map D.str, some (S.length, (k.cards.map Card.nm).map D.str)⟩ (gNm 5) fYes (fBin opIn (fVar 5) (fBin opIx (fVar 1) (fC (.int 0)))) S1.length [some k.d, some (s.nd k), some (.ref S.length), none, none, none] ((k.cards.map Card.nm).map D.str) (S1 ++ [.lst []]) = .ok () S2 := e2
    rw [if_neg (by decide), e2']
    simp only [kLc2_ok, kC_ok, x_nil, kC2_ok, kCB_ok, al, kTru_ok, tru, kNot_ok, kIf_ok]
    rfl
  have st4 : (fIf (fOr (fNot (fTru (fIsi "tuple" (fBin opIx (fVar 1) (fC (.int 1)))))) (fBl (fBin opNe (fCB bLen (fCons (fBin opIx (fVar 1) (fC (.int 1))) (fNil))) (fCB bLen (fCons (fC (.tup ((["p", "q", "r", "s"] : List Str).map .str))) (fNil)))))) (fRet (fC (.bool false))) (fPass)) r1 S2 = .next r1 S2 := by
    have l1 : bLen [.tup (nl s.reg)] S2 = some (.int 4, S2) := by rw [len_tup]; simp [hs.reg.len]
    simp [r1, i1, kindD, i9, tru, l1, len_tup, neI]
  have e3 : lcGo ⟨nl s.reg, none⟩ (gNm 4) fYes (fCallN 3 F_is_int_in (fCons (fVar 4) (fCons (fC (.int 0)) (fCons (fBin opSub (fBin opIx (fVar 0) (fC (.int 0))) (fC (.int 1))) (fNil))))) S2.length [some k.d, some (s.nd k), some (.ref S.length), none, none, none] (nl s.reg) (S2 ++ [.lst []]) = .ok () S3 := e3
  have st5 : (fRet (fCB bAll (fCons (fLc (iSeq (fBin opIx (fVar 1) (fC (.int 1)))) (gNm 4) (fYes) (fCallN 3 F_is_int_in (fCons (fVar 4) (fCons (fC (.int 0)) (fCons (fBin opSub (fBin opIx (fVar 0) (fC (.int 0))) (fC (.int 1))) (fNil))))) [4]) (fNil)))) r1 S2 = .ret (.bool true) S3 := by
    have al := all_true hl3
    simp only [r1, x_ret, x_cb, x_cons, x_nil, x_lc, x_iSeq, x_bin, x_var, x_c, List.getElem?_cons_succ, List.getElem?_cons_zero, kB_ok, kB2_ok, i1, kISeq_ok, seqT, kLc_ok, wipeE, List.set_cons_succ, List.set_cons_zero, e3, kLc2_ok, kC_ok, kC2_ok, kCB_ok, al, kRet_ok]
  rw [F_is_state, fDef_k]
  show kDef ((fSeq _ (fSeq _ (fSeq _ (fSeq _ _)))) r0 S) = _
  rw [x_seq, st1, k_seq1, x_seq, st2, k_seq1, x_seq, st3, k_seq1, x_seq, st4, k_seq1, st5, k_def2]
theorem read_none {S : Store} {m : Nat} {k : Deck} (hk : k.ok m) (hm : m ≤ 8) : F_read_state S [k.d, .none] = .ok k.init.d S := by
  have e := initial_state (S := S) hk hm
  rw [F_read_state, fDef_k]
  simp [opIsN, isNone, e]
theorem read_state {S : Store} {m : Nat} {k : Deck} {s : St} (hk : k.ok m) (hm : m ≤ 8) (hs : s.ok k) : ∃ S', F_read_state S [k.d, s.nd k] = .ok s.d S' ∧ Fr S S' := by
  have hfew := hk.few
  have hl := hs.len
  obtain ⟨S1, e1, f1⟩ := is_state (S := S) hk hm hs
  let r0 : CL.Env := [some k.d, some (s.nd k), none, none, none]
  obtain ⟨S2, e2, f2, hl2⟩ := names_lc (S := S1) (i := 3) (r := r0) hk hm rfl (by simp [r0])
  let r1 : CL.Env := [some k.d, some (s.nd k), some (.ref S1.length), none, none]
  have i0 : ∀ U, opIx (s.nd k) (.int 0) U = .ok (.tup (s.ord.map fun o => D.str (k.nmOf o))) U := fun U => by simp [St.nd, opIx]
  have i1 : ∀ U, opIx (s.nd k) (.int 1) U = .ok (.tup (nl s.reg)) U := fun U => by simp [St.nd, opIx]
  obtain ⟨S3, e3, f3, hl3⟩ := lc_map (s := ⟨s.ord.map fun o => D.str (k.nmOf o), none⟩) (f := fun o => D.str (k.nmOf o)) (h := fun (n : Nat) => D.int n) (i := 4) (e := fBM "list" mIndex (fVar 2) (fCons (fVar 4) (fNil))) (l := S2.length) (r0 := r1) (Inv := Fr S2)
    (fun _ _ => still_none) (fun T o hT => hT.set (Nat.le_refl _)) s.ord (fun o ho T acc fr hacc => by
      obtain ⟨c, hc, hn, _⟩ := nm_get (hs.lt o ho)
      have g := fr.get hl2
      have ix := index_strs g (Deck.nm_ok hk) hk.nodup (show (k.cards.map Card.nm)[o]? = some (k.nmOf o) by simp [hc, hn])
      exact ⟨T, by simp only [r1, x_bm, x_cons, x_nil, x_var, List.set_cons_succ, List.set_cons_zero, List.getElem?_cons_succ, List.getElem?_cons_zero, kBM_ok, tyL g, if_true, kC_ok, kC2_ok, kBM2_ok, ix], fr, hacc⟩) (S2 ++ [.lst []]) [] ⟨_, rfl⟩ (by simp) (by simp [LINE]; omega)
  have hl3 : S3[S2.length]? = some (.lst (nl s.ord)) := hl3
  have bt : bTuple [.ref S2.length] S3 = some (.tup (nl s.ord), S3) := by simp [bTuple, seqOf, lstAt, hl3]
  refine ⟨S3, ?_, f1.trans (f2.trans f3)⟩
  have e3 : lcGo ⟨s.ord.map fun o => D.str (k.nmOf o), none⟩ (gNm 4) fYes (fBM "list" mIndex (fVar 2) (fCons (fVar 4) (fNil))) S2.length [some k.d, some (s.nd k), some (.ref S1.length), none, none] (s.ord.map fun o => D.str (k.nmOf o)) (S2 ++ [.lst []]) = .ok () S3 := e3
  have st1 : (fIf (fBl (fBin opIsN (fVar 1) (fC .none))) (fRet (fCallN 1 F_initial_state (fCons (fVar 0) (fNil)))) (fPass)) r0 S = .next r0 S := by
    have : opIsN (s.nd k) .none S = .ok (.bool false) S := rfl
    simp [r0, this]
  have st2 : (fIf (fNot (fTru (fCallN 2 F_is_state (fCons (fVar 0) (fCons (fVar 1) (fNil)))))) (fRaiseT "InvalidState") (fPass)) r0 S = .next r0 S1 := by
    simp [r0, e1, tru]
  have st3 : fAsg (fLc (iSeq (fBin opIx (fVar 0) (fC (.int 1)))) (gNm 3) (fYes) (fBin opIx (fVar 3) (fC (.int 0))) [3]) (gNm 2) r0 S1 = .next r1 S2 := by
    rw [x_asg, e2]; rfl
  rw [F_read_state, fDef_k]
  show kDef ((fSeq _ (fSeq _ (fSeq _ _))) r0 S) = _
  rw [x_seq, st1, k_seq1, x_seq, st2, k_seq1, x_seq, st3, k_seq1]
  simp only [r1, x_ret, x_tup, x_cons, x_nil, x_cb, x_lc, x_iSeq, x_bin, x_var, x_c, List.getElem?_cons_succ, List.getElem?_cons_zero, kB_ok, kB2_ok, i0, kISeq_ok, seqT, kLc_ok, wipeE, List.set_cons_succ, List.set_cons_zero, e3, kLc2_ok, kC_ok, kC2_ok, kCB_ok, bt, i1, kTup_2, kRet_ok, k_def2, St.d]
end M

set_option linter.all false
set_option maxRecDepth 100000
set_option maxHeartbeats 1000000
namespace M
open PySem CL L2
/-! ### states one after another -/
def Deck.it (k : Deck) (s : St) : Nat → St
  | 0 => s
  | n + 1 => k.next (k.it s n)
theorem Deck.it_ok {m : Nat} {k : Deck} {s : St} (hk : k.ok m) (hs : s.ok k) : ∀ n, (k.it s n).ok k
  | 0 => hs
  | n + 1 => Deck.next_ok hk (Deck.it_ok hk hs n)
theorem nl_inj {a b : List Nat} (h : nl a = nl b) : a = b := by
  unfold nl at h
  exact (List.map_inj_right (fun x y e => by injection e with e; omega)).mp h
theorem St.d_inj {a b : St} (h : a.d = b.d) : a = b := by
  unfold St.d at h
  injection h with h
  injection h with h1 h2
  injection h2 with h2 _
  injection h1 with h1
  injection h2 with h2
  cases a; cases b
  simp only [St.mk.injEq]
  exact ⟨nl_inj h1, nl_inj h2⟩
theorem St.beq (a b : St) : D.beq a.d b.d = decide (a = b) := by
  by_cases h : a = b
  · subst h; simp [D.beq_refl]
  · have : D.beq a.d b.d ≠ true := fun e => h (St.d_inj (D.beq_eq e))
    simp [h]
    simpa using this
theorem plain_nl (v : List Nat) : plainKs (nl v) = true := by
  induction v with
  | nil => rfl
  | cons x v ih => exact ih
theorem depth_nl (v : List Nat) : NestedKey.depthAll (kOfs (nl v)) = 0 := by
  induction v with
  | nil => rfl
  | cons x v ih =>
    show max 0 (NestedKey.depthAll (kOfs (nl v))) = 0
    rw [ih]; rfl
theorem St.key (s : St) : okKey s.d = true := by
  have h1 := plain_nl s.ord
  have h2 := plain_nl s.reg
  have d1 := depth_nl s.ord
  have d2 := depth_nl s.reg
  show (plainKs [.tup (nl s.ord), .tup (nl s.reg)] && decide ((kOf (.tup [.tup (nl s.ord), .tup (nl s.reg)])).depth ≤ 8)) = true
  have e1 : plainKs [.tup (nl s.ord), .tup (nl s.reg)] = true := by simp [plainKs, plainK, h1, h2]
  have e2 : (kOf (.tup [.tup (nl s.ord), .tup (nl s.reg)])).depth = 2 := by simp [kOf, kOfs, NestedKey.depth, NestedKey.depthAll, d1, d2]
  rw [e1, e2]; rfl
/-- a state that was seen before -/
def Deck.again (k : Deck) (s : St) (i : Nat) : Prop := ∃ j, j < i ∧ k.it s j = k.it s i
/-- the orbit: so many states, the index that comes again -/
structure Orb (k : Deck) (s : St) (limit N : Nat) (st : Option Nat) : Prop where
  new : ∀ i, i < N → ¬ k.again s i
  le : N ≤ limit
  some : ∀ j, st = some j → j < N ∧ k.it s j = k.it s N
  none : st = none → N = limit ∧ ¬ k.again s N
theorem orb_ex (k : Deck) (s : St) : ∀ limit, ∃ N st, Orb k s limit N st
  | 0 => ⟨0, none, (fun i h => absurd h (Nat.not_lt_zero i)), Nat.le_refl _, (fun j h => nomatch h), fun _ => ⟨rfl, fun ⟨j, h, _⟩ => absurd h (Nat.not_lt_zero j)⟩⟩
  | L + 1 => by
    obtain ⟨N, st, h⟩ := orb_ex k s L
    cases st with
    | some j => exact ⟨N, some j, h.new, by have := h.le; omega, h.some, fun z => nomatch z⟩
    | none =>
      obtain ⟨hN, hna⟩ := h.none rfl
      subst hN
      by_cases ha : k.again s (N + 1)
      · obtain ⟨j, hj, e⟩ := ha
        have hnew : ∀ i, i < N + 1 → ¬ k.again s i := fun i hi => by
          by_cases z : i < N
          · exact h.new i z
          · have : i = N := by omega
            subst this; exact hna
        exact ⟨N + 1, some j, hnew, Nat.le_refl _, fun j' hj' => (by cases hj'; exact ⟨hj, e⟩), fun z => nomatch z⟩
      · have hnew : ∀ i, i < N + 1 → ¬ k.again s i := fun i hi => by
          by_cases z : i < N
          · exact h.new i z
          · have : i = N := by omega
            subst this; exact hna
        exact ⟨N + 1, none, hnew, Nat.le_refl _, (fun j' hj' => nomatch hj'), fun _ => ⟨rfl, ha⟩⟩
def seenL (k : Deck) (s : St) (i : Nat) : List (D × D) := (List.range i).map fun j => ((k.it s j).d, D.int j)
theorem find_first {α : Type} {p : α → Bool} : ∀ {l : List α} {x : α}, x ∈ l → p x = true → ∃ y, l.find? p = some y ∧ p y = true ∧ y ∈ l
  | a :: l, x, hx, hp => by
    by_cases h : p a = true
    · exact ⟨a, by simp [List.find?_cons, h], h, by simp⟩
    · rcases List.mem_cons.mp hx with rfl | hx
      · exact absurd hp h
      · obtain ⟨y, h1, h2, h3⟩ := find_first hx hp
        exact ⟨y, by simp [List.find?_cons, h, h1], h2, by simp [h3]⟩
theorem seen_none {k : Deck} {s : St} {i n : Nat} (h : ∀ j, j < i → k.it s j ≠ k.it s n) : dGet (seenL k s i) (k.it s n).d = none := by
  unfold dGet seenL
  rw [List.find?_eq_none.mpr]
  · rfl
  · intro p hp
    obtain ⟨j, hj, rfl⟩ := List.mem_map.mp hp
    rw [St.beq]
    simp [h j (by simpa using hj)]
theorem seen_some {k : Deck} {s : St} {i n j : Nat} (hj : j < i) (e : k.it s j = k.it s n) (hd : ∀ a b, a < i → b < i → k.it s a = k.it s b → a = b) : dGet (seenL k s i) (k.it s n).d = some (.int j) := by
  unfold dGet
  obtain ⟨y, h1, h2, h3⟩ := find_first (p := fun p => D.beq p.1 (k.it s n).d) (l := seenL k s i) (x := ((k.it s j).d, D.int j)) (List.mem_map.mpr ⟨j, by simpa using hj, rfl⟩) (by rw [St.beq]; simp [e])
  rw [h1]
  obtain ⟨a, ha, rfl⟩ := List.mem_map.mp h3
  have ha : a < i := by simpa using ha
  rw [St.beq] at h2
  have : k.it s a = k.it s n := by simpa using h2
  rw [hd a j ha hj (this.trans e.symm)]; rfl
theorem Orb.inj {k : Deck} {s : St} {limit N : Nat} {st : Option Nat} (h : Orb k s limit N st) : ∀ a b, a < N → b < N → k.it s a = k.it s b → a = b := by
  intro a b ha hb e
  rcases Nat.lt_trichotomy a b with z | z | z
  · exact absurd ⟨a, z, e⟩ (h.new b hb)
  · exact z
  · exact absurd ⟨b, z, e.symm⟩ (h.new a ha)
def orbO (ls lm : Nat) (sd d : D) : O := .inst "Orbit" [("states", .ref ls), ("emitted", .ref lm), ("start", sd), ("last", d)]
def EmAt (k : Deck) (s : St) (S : Store) (d : D) (j : Nat) : Prop := ∃ le, d = .ref le ∧ S[le]? = some (.lst (nl (k.em (k.it s j))))
def optI (o : Option Nat) : D := match o with | some j => .int j | none => .none
/-- the orbit of a state, in the store; B: nothing of it lies below -/
structure OrbAt (k : Deck) (s : St) (limit : Nat) (B : Nat) (S : Store) (lo N : Nat) (st : Option Nat) : Prop where
  orb : Orb k s limit N st
  low : B ≤ lo
  ex : ∃ ls lm es, S[lo]? = some (orbO ls lm (optI st) (k.it s N).d) ∧ S[ls]? = some (.lst ((List.range N).map fun j => (k.it s j).d)) ∧ S[lm]? = some (.lst es) ∧ All2 (EmAt k s S) es (List.range N) ∧ B ≤ ls ∧ B ≤ lm ∧ ∀ d ∈ es, ∃ le, d = .ref le ∧ B ≤ le
abbrev oTest : FT := fAnd (fBl (fBin opDNotIn (fVar 2) (fVar 4))) (fBl (fBin opLt (fCB bLen (fCons (fFld "Orbit" "states" (fVar 0)) (fNil))) (fVar 3)))
abbrev oBody : FS := fSeq (fAsg (fCB bLen (fCons (fFld "Orbit" "states" (fVar 0)) (fNil))) (gDix (fVar 4) (fVar 2))) (fSeq (fExpr (fBM "list" mAppend (fFld "Orbit" "states" (fVar 0)) (fCons (fVar 2) (fNil)))) (fSeq (fAsg (fCallN 2 F_after_step (fCons (fVar 1) (fCons (fVar 2) (fNil)))) (gTupl 3 (gsCons (gNm 2) (gsCons (gNm 5) (gsCons (gNm 6) (gsNil)))))) (fExpr (fBM "list" mAppend (fFld "Orbit" "emitted" (fVar 0)) (fCons (fVar 5) (fNil))))))
def orb3 (ls lm : Nat) : O := .inst "Orbit" [("states", .ref ls), ("emitted", .ref lm), ("start", .none)]
/-- the loop's store after i turns -/
structure OI (k : Deck) (s : St) (S : Store) (i : Nat) (T : Store) : Prop where
  fr : Fr S T
  ob : T[S.length]? = some (orb3 (S.length + 1) (S.length + 2))
  sts : T[S.length + 1]? = some (.lst ((List.range i).map fun j => (k.it s j).d))
  dic : T[S.length + 3]? = some (.dic (seenL k s i))
  ems : ∃ es, T[S.length + 2]? = some (.lst es) ∧ All2 (EmAt k s T) es (List.range i) ∧ ∀ d ∈ es, ∃ le, d = .ref le ∧ S.length + 3 < le
theorem fld_states {T : Store} {lo ls lm : Nat} (h : T[lo]? = some (orb3 ls lm)) : fldOf "Orbit" "states" T (.ref lo) = some (.ref ls) := by simp [fldOf, h, orb3]
theorem fld_emitted {T : Store} {lo ls lm : Nat} (h : T[lo]? = some (orb3 ls lm)) : fldOf "Orbit" "emitted" T (.ref lo) = some (.ref lm) := by
  have b1 : (Str.ofString "emitted" == Str.ofString "states") = false := by decide
  simp [fldOf, h, orb3, List.lookup, b1]
theorem dic_at {T : Store} {l : Nat} {kvs : List (D × D)} (h : T[l]? = some (.dic kvs)) : dicAt T (.ref l) = some kvs := by simp only [dicAt, h]
theorem set_dict {T : Store} {l : Nat} {kvs : List (D × D)} {key v : D} (h : T[l]? = some (.dic kvs)) (hk : okKey key = true) (hl : kvs.length ≤ 1000000) : setDic T (.ref l) key v = some (T.set l (.dic (dPut kvs key v))) := by
  have : kvs.length < LINE := by simp only [LINE]; omega
  simp only [setDic, h, hk, this, and_self, if_true]
theorem put_new {kvs : List (D × D)} {key v : D} (h : dGet kvs key = none) : dPut kvs key v = kvs ++ [(key, v)] := by simp [dPut, h]
theorem EmAt.fr {k : Deck} {s : St} {S S' : Store} {d : D} {j : Nat} (h : EmAt k s S d j) (f : Fr S S') : EmAt k s S' d j := by
  obtain ⟨le, h1, h2⟩ := h
  exact ⟨le, h1, f.get h2⟩
theorem o_turn {S T : Store} {m i limit : Nat} {k : Deck} {s : St} {a5 a6 : Option D} (hk : k.ok m) (hm : m ≤ 8) (hs : s.ok k) (hI : OI k s S i T) (hna : ¬ k.again s i) (hi : i < limit) (hl : limit ≤ 3000) :
    ∃ (T' : Store) (b5 b6 : Option D), oTest [some (.ref S.length), some k.d, some (k.it s i).d, some (.int limit), some (.ref (S.length + 3)), a5, a6] T = .ok true T ∧
      oBody [some (.ref S.length), some k.d, some (k.it s i).d, some (.int limit), some (.ref (S.length + 3)), a5, a6] T = .next [some (.ref S.length), some k.d, some (k.it s (i + 1)).d, some (.int limit), some (.ref (S.length + 3)), b5, b6] T' ∧ OI k s S (i + 1) T' := by
  obtain ⟨fr, ob, sts, dic, es, hes, hall, hle⟩ := hI
  have hkey := (k.it s i).key
  have hnone : dGet (seenL k s i) (k.it s i).d = none := seen_none fun j hj e => hna ⟨j, hj, e⟩
  have hsl : (seenL k s i).length ≤ 1000000 := by simp [seenL]; omega
  have hlen : ∀ U : Store, U[S.length + 1]? = some (.lst ((List.range i).map fun j => (k.it s j).d)) → bLen [.ref (S.length + 1)] U = some (.int (i : Nat), U) := fun U h => by rw [lenL h]; simp
  let T1 : Store := T.set (S.length + 3) (.dic (seenL k s (i + 1)))
  have sd : setDic T (.ref (S.length + 3)) (k.it s i).d (.int (i : Nat)) = some T1 := by
    rw [set_dict dic hkey hsl, put_new hnone]
    simp [T1, seenL, List.range_succ]
  have d1 : T1[S.length + 3]? = some (.dic (seenL k s (i + 1))) := set_get (getLt dic)
  have o1 : T1[S.length]? = some (orb3 (S.length + 1) (S.length + 2)) := by rw [List.getElem?_set_ne (by omega)]; exact ob
  have s1 : T1[S.length + 1]? = some (.lst ((List.range i).map fun j => (k.it s j).d)) := by rw [List.getElem?_set_ne (by omega)]; exact sts
  have m1 : T1[S.length + 2]? = some (.lst es) := by rw [List.getElem?_set_ne (by omega)]; exact hes
  have f1 : Fr S T1 := fr.set (by omega)
  let T2 : Store := T1.set (S.length + 1) (.lst ((List.range (i + 1)).map fun j => (k.it s j).d))
  have ap1 : mAppend (.ref (S.length + 1)) [(k.it s i).d] T1 = some (.none, T2) := by
    rw [append_ok s1 (by simp; omega)]
    simp [T2, List.range_succ]
  have f2 : Fr S T2 := f1.set (by omega)
  have o2 : T2[S.length]? = some (orb3 (S.length + 1) (S.length + 2)) := by rw [List.getElem?_set_ne (by omega)]; exact o1
  have s2 : T2[S.length + 1]? = some (.lst ((List.range (i + 1)).map fun j => (k.it s j).d)) := set_get (getLt s1)
  have m2 : T2[S.length + 2]? = some (.lst es) := by rw [List.getElem?_set_ne (by omega)]; exact m1
  have d2 : T2[S.length + 3]? = some (.dic (seenL k s (i + 1))) := by rw [List.getElem?_set_ne (by omega)]; exact d1
  obtain ⟨le, T3, e3, f3, hl3, hle3⟩ := after_step (S := T2) hk hm (Deck.it_ok hk hs i)
  have m3 := f3.get m2
  have o3 := f3.get o2
  let T4 : Store := T3.set (S.length + 2) (.lst (es ++ [.ref le]))
  have hesl := hall.length
  have ap2 : mAppend (.ref (S.length + 2)) [.ref le] T3 = some (.none, T4) := append_ok m3 (by simp at hesl; omega)
  have l2 : S.length + 3 < T2.length := getLt d2
  have keepE : ∀ d j, (∃ le, d = .ref le ∧ S.length + 3 < le) → EmAt k s T d j → EmAt k s T4 d j := by
    rintro d j ⟨le', rfl, h1⟩ ⟨le'', h2, h3⟩
    cases h2
    refine ⟨le', rfl, ?_⟩
    have : T2[le']? = T[le']? := by
      show ((T.set (S.length + 3) _).set (S.length + 1) _)[le']? = _
      rw [List.getElem?_set_ne (by omega), List.getElem?_set_ne (by omega)]
    rw [List.getElem?_set_ne (by omega)]
    exact f3.get (this.trans h3)
  refine ⟨T4, some (.ref le), some (.int (k.dep (k.it s i) : Nat)), ?_, ?_, (f2.trans f3).set (by omega), by rw [List.getElem?_set_ne (by omega)]; exact o3, by rw [List.getElem?_set_ne (by omega)]; exact f3.get s2, by rw [List.getElem?_set_ne (by omega)]; exact f3.get d2, es ++ [.ref le], set_get (getLt m3), ?_, ?_⟩
  · have ni : opDNotIn (k.it s i).d (.ref (S.length + 3)) T = .ok (.bool true) T := by
      simp only [opDNotIn, dic_at dic, hkey, if_true, hnone]; rfl
    have lt : opLt (.int (i : Nat)) (.int (limit : Nat)) T = .ok (.bool true) T := by
      have : (i : Int) < limit := by omega
      simp only [opLt, decide_eq_true this]
    simp only [x_and, x_bl, x_bin, x_cb, x_cons, x_nil, x_fld, x_var, List.getElem?_cons_succ, List.getElem?_cons_zero, kB_ok, kB2_ok, ni, kBl_ok, kAnd_ok, if_true, kFld_ok, fld_states ob, kC_ok, kC2_ok, kCB_ok, hlen T sts, lt]
  · have st1 : fAsg (fCB bLen (fCons (fFld "Orbit" "states" (fVar 0)) (fNil))) (gDix (fVar 4) (fVar 2)) [some (.ref S.length), some k.d, some (k.it s i).d, some (.int limit), some (.ref (S.length + 3)), a5, a6] T = .next [some (.ref S.length), some k.d, some (k.it s i).d, some (.int limit), some (.ref (S.length + 3)), a5, a6] T1 := by
      simp only [x_asg, x_cb, x_cons, x_nil, x_fld, x_var, List.getElem?_cons_succ, List.getElem?_cons_zero, kFld_ok, fld_states ob, kC_ok, kC2_ok, kCB_ok, hlen T sts, kAsg_ok, x_dix, kDix_ok, kDix2_ok, sd]
    have st2 : fExpr (fBM "list" mAppend (fFld "Orbit" "states" (fVar 0)) (fCons (fVar 2) (fNil))) [some (.ref S.length), some k.d, some (k.it s i).d, some (.int limit), some (.ref (S.length + 3)), a5, a6] T1 = .next [some (.ref S.length), some k.d, some (k.it s i).d, some (.int limit), some (.ref (S.length + 3)), a5, a6] T2 := by
      simp only [x_expr, x_bm, x_fld, x_var, x_cons, x_nil, List.getElem?_cons_succ, List.getElem?_cons_zero, kFld_ok, fld_states o1, kBM_ok, tyL s1, if_true, kC_ok, kC2_ok, kBM2_ok, ap1, kExpr_ok]
    have st3 : fAsg (fCallN 2 F_after_step (fCons (fVar 1) (fCons (fVar 2) (fNil)))) (gTupl 3 (gsCons (gNm 2) (gsCons (gNm 5) (gsCons (gNm 6) (gsNil))))) [some (.ref S.length), some k.d, some (k.it s i).d, some (.int limit), some (.ref (S.length + 3)), a5, a6] T2 = .next [some (.ref S.length), some k.d, some (k.it s (i + 1)).d, some (.int limit), some (.ref (S.length + 3)), some (.ref le), some (.int (k.dep (k.it s i) : Nat))] T3 := by
      simp only [x_asg, x_callN, x_cons, x_nil, x_var, List.getElem?_cons_succ, List.getElem?_cons_zero, kC_ok, kC2_ok, kCallN_ok, List.length_cons, List.length_nil, if_true, e3, kAsg_ok, x_tupl, x_gsCons, x_gsNil, x_nm, k_gs1]
      rfl
    have st4 : fExpr (fBM "list" mAppend (fFld "Orbit" "emitted" (fVar 0)) (fCons (fVar 5) (fNil))) [some (.ref S.length), some k.d, some (k.it s (i + 1)).d, some (.int limit), some (.ref (S.length + 3)), some (.ref le), some (.int (k.dep (k.it s i) : Nat))] T3 = .next [some (.ref S.length), some k.d, some (k.it s (i + 1)).d, some (.int limit), some (.ref (S.length + 3)), some (.ref le), some (.int (k.dep (k.it s i) : Nat))] T4 := by
      simp only [x_expr, x_bm, x_fld, x_var, x_cons, x_nil, List.getElem?_cons_succ, List.getElem?_cons_zero, kFld_ok, fld_emitted o3, kBM_ok, tyL m3, if_true, kC_ok, kC2_ok, kBM2_ok, ap2, kExpr_ok]
    show (fSeq _ (fSeq _ (fSeq _ _))) _ T = _
    rw [x_seq, st1, k_seq1, x_seq, st2, k_seq1, x_seq, st3, k_seq1, st4]
  · rw [List.range_succ]
    refine All2.append ?_ (.cons ⟨le, rfl, by rw [List.getElem?_set_ne (by omega)]; exact hl3⟩ .nil)
    have aux : ∀ {xs : List D} {ys : List Nat}, (∀ d ∈ xs, ∃ le, d = .ref le ∧ S.length + 3 < le) → All2 (EmAt k s T) xs ys → All2 (EmAt k s T4) xs ys := by
      intro xs ys hx h
      induction h with
      | nil => exact .nil
      | cons h1 _ ih => exact .cons (keepE _ _ (hx _ (by simp)) h1) (ih fun d hd => hx d (by simp [hd]))
    exact aux hle hall
  · intro d hd
    rcases List.mem_append.mp hd with z | z
    · exact hle d z
    · simp at z; exact ⟨le, z, by omega⟩
end M

set_option linter.all false
set_option maxRecDepth 100000
set_option maxHeartbeats 1000000
namespace M
open PySem CL L2
theorem orb_run {S T : Store} {m limit N : Nat} {k : Deck} {s : St} {st : Option Nat} (hk : k.ok m) (hm : m ≤ 8) (hs : s.ok k) (hl : limit ≤ 3000) (ho : Orb k s limit N st) (hI : OI k s S 0 T) :
    ∃ (T' : Store) (b5 b6 : Option D), fWhile WFUEL oTest oBody [some (.ref S.length), some k.d, some s.d, some (.int limit), some (.ref (S.length + 3)), none, none] T = .next [some (.ref S.length), some k.d, some (k.it s N).d, some (.int limit), some (.ref (S.length + 3)), b5, b6] T' ∧ OI k s S N T' := by
  have hN := ho.le
  obtain ⟨r', T', e, b5, b6, rfl, hI'⟩ := while_run (t := oTest) (b := oBody)
    (J := fun n r U => ∃ (i : Nat) (a5 a6 : Option D), i + n = N ∧ r = [some (.ref S.length), some k.d, some (k.it s i).d, some (.int limit), some (.ref (S.length + 3)), a5, a6] ∧ OI k s S i U)
    (Q := fun r U => ∃ (a5 a6 : Option D), r = [some (.ref S.length), some k.d, some (k.it s N).d, some (.int limit), some (.ref (S.length + 3)), a5, a6] ∧ OI k s S N U)
    (by
      rintro r U ⟨i, a5, a6, hi, rfl, hU⟩
      have hi : i = N := by omega
      subst hi
      refine ⟨U, ?_, a5, a6, rfl, hU⟩
      have hkey := (k.it s i).key
      cases hst : st with
      | some j =>
        obtain ⟨hj, e⟩ := ho.some j hst
        have hsome := seen_some hj e ho.inj
        have ni : opDNotIn (k.it s i).d (.ref (S.length + 3)) U = .ok (.bool false) U := by
          simp only [opDNotIn, dic_at hU.dic, hkey, if_true, hsome]; rfl
        simp only [x_and, x_bl, x_bin, x_var, List.getElem?_cons_succ, List.getElem?_cons_zero, kB_ok, kB2_ok, ni, kBl_ok, kAnd_ok]
        rfl
      | none =>
        obtain ⟨hiL, hna⟩ := ho.none hst
        have hnone : dGet (seenL k s i) (k.it s i).d = none := seen_none fun j hj e => hna ⟨j, hj, e⟩
        have ni : opDNotIn (k.it s i).d (.ref (S.length + 3)) U = .ok (.bool true) U := by
          simp only [opDNotIn, dic_at hU.dic, hkey, if_true, hnone]; rfl
        have hlen : bLen [.ref (S.length + 1)] U = some (.int (i : Nat), U) := by rw [lenL hU.sts]; simp
        have lt : opLt (.int (i : Nat)) (.int (limit : Nat)) U = .ok (.bool false) U := by
          have : ¬ (i : Int) < limit := by omega
          simp only [opLt, decide_eq_false this]
        simp only [x_and, x_bl, x_bin, x_cb, x_cons, x_nil, x_fld, x_var, List.getElem?_cons_succ, List.getElem?_cons_zero, kB_ok, kB2_ok, ni, kBl_ok, kAnd_ok, if_true, kFld_ok, fld_states hU.ob, kC_ok, kC2_ok, kCB_ok, hlen, lt])
    (by
      rintro n r U ⟨i, a5, a6, hi, rfl, hU⟩
      obtain ⟨T', c5, c6, t1, t2, hU'⟩ := o_turn (a5 := a5) (a6 := a6) hk hm hs hU (ho.new i (by omega)) (show i < limit by omega) hl
      exact ⟨U, _, T', t1, t2, i + 1, c5, c6, by omega, rfl, hU'⟩)
    N WFUEL _ T (by show N < 100000; omega) ⟨0, none, none, by omega, rfl, hI⟩
  exact ⟨T', b5, b6, e, hI'⟩
theorem make_orbit {S : Store} {m limit : Nat} {k : Deck} {s : St} (hk : k.ok m) (hm : m ≤ 8) (hs : s.ok k) (hl : limit ≤ 3000) : ∃ (S' : Store) (N : Nat) (st : Option Nat), kMake2 (.ref S.length) (F_Orbit_init (S ++ [.inst "Orbit" []]) [.ref S.length, k.d, s.d, .int limit]) = .ok (.ref S.length) S' ∧ Fr S S' ∧ OrbAt k s limit S.length S' S.length N st := by
  obtain ⟨N, st, ho⟩ := orb_ex k s limit
  let T0 : Store := S ++ [orb3 (S.length + 1) (S.length + 2)] ++ [.lst []] ++ [.lst []] ++ [.dic []]
  have hI : OI k s S 0 T0 := by
    refine ⟨Fr.refl.app.app.app.app, by simp [T0], by simp [T0], by simp [T0, seenL], [], by simp [T0], .nil, by simp⟩
  obtain ⟨T1, b5, b6, e1, hI1⟩ := orb_run hk hm hs hl ho hI
  obtain ⟨fr, ob, sts, dic, es, hes, hall, hle⟩ := hI1
  have hkey := (k.it s N).key
  have hlt := getLt ob
  let T2 : Store := T1.set S.length (.inst "Orbit" [("states", .ref (S.length + 1)), ("emitted", .ref (S.length + 2)), ("start", .none), ("last", (k.it s N).d)])
  let T3 : Store := T1.set S.length (orbO (S.length + 1) (S.length + 2) (optI st) (k.it s N).d)
  have p1 : putFld "Orbit" "last" T1 (.ref S.length) (k.it s N).d = some T2 := by
    simp +decide [putFld, ob, orb3, putD, T2]
  have o2 : T2[S.length]? = some (.inst "Orbit" [("states", .ref (S.length + 1)), ("emitted", .ref (S.length + 2)), ("start", .none), ("last", (k.it s N).d)]) := set_get hlt
  have p2 : putFld "Orbit" "start" T2 (.ref S.length) (optI st) = some T3 := by
    simp +decide [putFld, o2, putD, T2, T3, orbO]
  have d2 : T2[S.length + 3]? = some (.dic (seenL k s N)) := by rw [List.getElem?_set_ne (by omega)]; exact dic
  have hget : (dGet (seenL k s N) (k.it s N).d).getD .none = optI st := by
    cases hst : st with
    | some j =>
      obtain ⟨hj, e⟩ := ho.some j hst
      rw [seen_some hj e ho.inj]; rfl
    | none =>
      obtain ⟨_, hna⟩ := ho.none hst
      rw [seen_none fun j hj e => hna ⟨j, hj, e⟩]; rfl
  refine ⟨T3, N, st, ?_, fr.set (Nat.le_refl _), ho, Nat.le_refl _, S.length + 1, S.length + 2, es, set_get hlt, by rw [List.getElem?_set_ne (by omega)]; exact sts, by rw [List.getElem?_set_ne (by omega)]; exact hes, ?_, by omega, by omega, fun d hd => ?_⟩
  · have ei : F_Orbit_init (S ++ [.inst "Orbit" []]) [.ref S.length, k.d, s.d, .int limit] = .ok .none T3 := by
      rw [F_Orbit_init, fDef_k]
      show kDef ((fSeq _ (fSeq _ (fSeq _ (fSeq _ (fSeq (fWhile _ oTest oBody) (fSeq _ _)))))) [some (.ref S.length), some k.d, some s.d, some (.int limit), none, none, none] _) = _
      have st1 : fSetFld "Orbit" "states" (fVar 0) (fLst (fNil)) [some (.ref S.length), some k.d, some s.d, some (.int limit), none, none, none] (S ++ [.inst "Orbit" []]) = .next [some (.ref S.length), some k.d, some s.d, some (.int limit), none, none, none] (S ++ [.inst "Orbit" [("states", .ref (S.length + 1))]] ++ [.lst []]) := by
        simp +decide [putFld, putD]
      have st2 : fSetFld "Orbit" "emitted" (fVar 0) (fLst (fNil)) [some (.ref S.length), some k.d, some s.d, some (.int limit), none, none, none] (S ++ [.inst "Orbit" [("states", .ref (S.length + 1))]] ++ [.lst []]) = .next [some (.ref S.length), some k.d, some s.d, some (.int limit), none, none, none] (S ++ [.inst "Orbit" [("states", .ref (S.length + 1)), ("emitted", .ref (S.length + 2))]] ++ [.lst []] ++ [.lst []]) := by
        simp +decide [putFld, putD]
      have st3 : fSetFld "Orbit" "start" (fVar 0) (fC .none) [some (.ref S.length), some k.d, some s.d, some (.int limit), none, none, none] (S ++ [.inst "Orbit" [("states", .ref (S.length + 1)), ("emitted", .ref (S.length + 2))]] ++ [.lst []] ++ [.lst []]) = .next [some (.ref S.length), some k.d, some s.d, some (.int limit), none, none, none] (S ++ [orb3 (S.length + 1) (S.length + 2)] ++ [.lst []] ++ [.lst []]) := by
        simp +decide [putFld, putD, orb3]
      have st4 : fAsg (fDic0) (gNm 4) [some (.ref S.length), some k.d, some s.d, some (.int limit), none, none, none] (S ++ [orb3 (S.length + 1) (S.length + 2)] ++ [.lst []] ++ [.lst []]) = .next [some (.ref S.length), some k.d, some s.d, some (.int limit), some (.ref (S.length + 3)), none, none] T0 := by
        simp [T0]
      rw [x_seq, st1, k_seq1, x_seq, st2, k_seq1, x_seq, st3, k_seq1, x_seq, st4, k_seq1, x_seq, e1, k_seq1, x_seq]
      have st6 : fSetFld "Orbit" "last" (fVar 0) (fVar 2) [some (.ref S.length), some k.d, some (k.it s N).d, some (.int limit), some (.ref (S.length + 3)), b5, b6] T1 = .next [some (.ref S.length), some k.d, some (k.it s N).d, some (.int limit), some (.ref (S.length + 3)), b5, b6] T2 := by
        simp only [x_set, x_var, List.getElem?_cons_succ, List.getElem?_cons_zero, kSet_ok, kSet2_ok, p1]
      rw [st6, k_seq1]
      simp only [x_set, x_dgt, x_var, List.getElem?_cons_succ, List.getElem?_cons_zero, kDGet_ok, dic_at d2, kDGet2_ok, hkey, if_true, hget, kSet_ok, kSet2_ok, p2, k_def1]
    rw [ei]; rfl
  · have aux : ∀ {xs : List D} {ys : List Nat}, (∀ d ∈ xs, ∃ le, d = .ref le ∧ S.length + 3 < le) → All2 (EmAt k s T1) xs ys → All2 (EmAt k s T3) xs ys := by
      intro xs ys hx h
      induction h with
      | nil => exact .nil
      | @cons d j _ _ h1 _ ih =>
        refine .cons ?_ (ih fun d hd => hx d (by simp [hd]))
        obtain ⟨le, h2, h3⟩ := h1
        obtain ⟨le', h4, h5⟩ := hx d (by simp)
        rw [h2] at h4; cases h4
        exact ⟨le, h2, by rw [List.getElem?_set_ne (by omega)]; exact h3⟩
    exact aux hle hall
  · obtain ⟨le, h1, h2⟩ := hle d hd
    exact ⟨le, h1, by omega⟩
theorem OrbAt.fr {k : Deck} {s : St} {limit B lo N : Nat} {S S' : Store} {st : Option Nat} (h : OrbAt k s limit B S lo N st) (f : Fr S S') : OrbAt k s limit B S' lo N st := by
  obtain ⟨h1, h2, ls, lm, es, h3, h4, h5, h6, h7⟩ := h
  exact ⟨h1, h2, ls, lm, es, f.get h3, f.get h4, f.get h5, h6.imp fun _ _ h => h.fr f, h7⟩
theorem orb_start {T : Store} {lo ls lm : Nat} {sd d : D} (h : T[lo]? = some (orbO ls lm sd d)) : fldOf "Orbit" "start" T (.ref lo) = some sd := by
  have b1 : (Str.ofString "start" == Str.ofString "states") = false := by decide
  have b2 : (Str.ofString "start" == Str.ofString "emitted") = false := by decide
  simp [fldOf, h, orbO, List.lookup, b1, b2]
theorem orb_states {T : Store} {lo ls lm : Nat} {sd d : D} (h : T[lo]? = some (orbO ls lm sd d)) : fldOf "Orbit" "states" T (.ref lo) = some (.ref ls) := by simp [fldOf, h, orbO]
theorem orb_emitted {T : Store} {lo ls lm : Nat} {sd d : D} (h : T[lo]? = some (orbO ls lm sd d)) : fldOf "Orbit" "emitted" T (.ref lo) = some (.ref lm) := by
  have b1 : (Str.ofString "emitted" == Str.ofString "states") = false := by decide
  simp [fldOf, h, orbO, List.lookup, b1]
theorem orb_last {T : Store} {lo ls lm : Nat} {sd d : D} (h : T[lo]? = some (orbO ls lm sd d)) : fldOf "Orbit" "last" T (.ref lo) = some d := by
  have b1 : (Str.ofString "last" == Str.ofString "states") = false := by decide
  have b2 : (Str.ofString "last" == Str.ofString "emitted") = false := by decide
  have b3 : (Str.ofString "last" == Str.ofString "start") = false := by decide
  simp [fldOf, h, orbO, List.lookup, b1, b2, b3]
/-- orbit_of, where the deck is short -/
theorem orbit_of {S : Store} {m N : Nat} {k : Deck} {s : St} {j : Nat} (hk : k.ok m) (hm : m ≤ 8) (hs : s.ok k) (hj : Orb k s 3000 N (some j)) : ∃ (S' : Store), F_orbit_of S [k.d, s.d] = .ok (.ref S.length) S' ∧ Fr S S' ∧ OrbAt k s 3000 S.length S' S.length N (some j) := by
  obtain ⟨S1, N', st, e1, f1, h1⟩ := make_orbit (S := S) (limit := 3000) hk hm hs (by decide)
  obtain ⟨eN, eS⟩ : N' = N ∧ st = some j := by
    have ho := h1.orb
    obtain ⟨a1, a2⟩ := hj.some j rfl
    have hN : N' = N := by
      rcases Nat.lt_trichotomy N' N with z | z | z
      · exfalso
        cases hst : st with
        | none => have := (ho.none hst).1; have := hj.le; omega
        | some i => obtain ⟨b1, b2⟩ := ho.some i hst; exact hj.new N' z ⟨i, b1, b2⟩
      · exact z
      · exact absurd ⟨j, a1, a2⟩ (ho.new N z)
    subst hN
    refine ⟨rfl, ?_⟩
    cases hst : st with
    | none => exact absurd ⟨j, a1, a2⟩ (ho.none hst).2
    | some i =>
      obtain ⟨b1, b2⟩ := ho.some i hst
      rw [ho.inj i j b1 a1 (b2.trans a2.symm)]
  subst eN eS
  obtain ⟨_, _, ls, lm, es, h3, h4, h5⟩ := id h1
  refine ⟨S1, ?_, f1, h1⟩
  rw [F_orbit_of, fDef_k]
  show kDef ((fSeq _ (fSeq _ _)) [some k.d, some s.d, none] S) = _
  have e1 : kMake2 (.ref S.length) (F_Orbit_init (S ++ [.inst "Orbit" []]) [.ref S.length, k.d, s.d, .int 3000]) = .ok (.ref S.length) S1 := e1
  have st1 : fAsg (fMake "Orbit" 4 F_Orbit_init (fCons (fVar 0) (fCons (fVar 1) (fCons (fC (.int 3000)) (fNil))))) (gNm 2) [some k.d, some s.d, none] S = .next [some k.d, some s.d, some (.ref S.length)] S1 := by
    simp only [x_asg, x_make, x_cons, x_nil, x_var, x_c, List.getElem?_cons_succ, List.getElem?_cons_zero, kC_ok, kC2_ok, kMake_ok, List.length_cons, List.length_nil, if_true, e1, kAsg_ok, x_nm]
    rfl
  rw [x_seq, st1, k_seq1]
  have isn : opIsN (.int (j : Nat)) .none S1 = .ok (.bool false) S1 := rfl
  have os : fldOf "Orbit" "start" S1 (.ref S.length) = some (.int j) := orb_start h3
  simp only [x_seq, x_if, x_bl, x_bin, x_fld, x_var, x_c, List.getElem?_cons_succ, List.getElem?_cons_zero, kFld_ok, os, kB_ok, kB2_ok, isn, kBl_ok, kIf_ok]
  rw [if_neg (by decide)]
  simp only [x_pass, k_seq1, x_ret, x_var, List.getElem?_cons_succ, List.getElem?_cons_zero, kRet_ok, k_def2]
end M

set_option linter.all false
set_option maxRecDepth 100000
set_option maxHeartbeats 1000000
namespace M
open PySem CL L2
/-! ### the law's own step -/
abbrev lsBody : FS := (fSeq (fIf (fBl (fBin opEq (fVar 8) (fC (.str "emit")))) (fExpr (fBM "list" mAppend (fVar 3) (fCons (fIfE (fBl (fBin opIsN (fVar 9) (fC .none))) (fVar 10) (fBin opIx (fVar 4) (fVar 9))) (fNil)))) (fPass)) (fSeq (fIf (fBl (fBin opEq (fVar 8) (fC (.str "add")))) (fAsg (fBin opMod (fBin opAdd (fBin opIx (fVar 4) (fVar 9)) (fVar 10)) (fVar 2)) (gIx (fVar 4) (fVar 9))) (fPass)) (fSeq (fIf (fBl (fBin opEq (fVar 8) (fC (.str "swap")))) (fAsg (fTup (fCons (fBin opIx (fVar 4) (fVar 10)) (fCons (fBin opIx (fVar 4) (fVar 9)) (fNil)))) (gTupl 2 (gsCons (gIx (fVar 4) (fVar 9)) (gsCons (gIx (fVar 4) (fVar 10)) (gsNil))))) (fPass)) (fIf (fBl (fBin opEq (fVar 8) (fC (.str "copy")))) (fAsg (fBin opIx (fVar 4) (fVar 10)) (gIx (fVar 4) (fVar 9))) (fPass)))))
theorem if_no {r : CL.Env} {S : Store} {x y : Str} {p : FS} (h8 : r[8]? = some (some (.str x))) (hne : ¬ x = y) : fIf (fBl (fBin opEq (fVar 8) (fC (.str y)))) p fPass r S = .next r S := by
  simp [h8, opEq, eqD, hne]
theorem if_yes {r : CL.Env} {S : Store} {x : Str} {p : FS} (h8 : r[8]? = some (some (.str x))) : fIf (fBl (fBin opEq (fVar 8) (fC (.str x)))) p fPass r S = p r S := by
  simp [h8, opEq, eqD]
theorem ls_step {S T : Store} {l4 l5 w : Nat} {a : Act} {p : List Nat × List Nat} {x0 x1 x5 x6 x7 x11 x12 x13 x14 : Option D} (ha : a.ok w) (hw : 0 < w) (hr : RegOk w p.1) (fr : Fr S T) (h4 : S.length ≤ l4) (h5 : S.length ≤ l5) (hne : l4 ≠ l5) (g4 : T[l4]? = some (.lst (nl p.1))) (g5 : T[l5]? = some (.lst (nl p.2))) (hl : p.2.length < 1000) :
    ∃ (T' : Store) (y8 y9 y10 : D), a.d = .tup [y8, y9, y10] ∧ lsBody [x0, x1, some (.int w), some (.ref l5), some (.ref l4), x5, x6, x7, some y8, some y9, some y10, x11, x12, x13, x14] T = .next [x0, x1, some (.int w), some (.ref l5), some (.ref l4), x5, x6, x7, some y8, some y9, some y10, x11, x12, x13, x14] T' ∧ Fr S T' ∧ T'[l4]? = some (.lst (nl (a.run w p).1)) ∧ T'[l5]? = some (.lst (nl (a.run w p).2)) := by
  have q4 := getLt g4
  have q5 := getLt g5
  have hlen := hr.len
  have w0 : (0 : Int) < w := by omega
  cases a with
  | add s n =>
    obtain ⟨e1, _⟩ := hr.get ha.1
    have hm : ((p.1.getD s 0 : Nat) : Int) + (n : Nat) = ((p.1.getD s 0 + n : Nat) : Int) := by omega
    have hm2 : (((p.1.getD s 0 : Nat) : Int) + (n : Nat)) % (w : Int) = (((p.1.getD s 0 + n) % w : Nat) : Int) := by rw [hm]; exact (Int.natCast_emod _ _).symm
    have sx := set_nl (x := (p.1.getD s 0 + n) % w) g4 (show s < p.1.length by rw [hlen]; exact ha.1)
    refine ⟨T.set l4 (.lst (nl (p.1.set s ((p.1.getD s 0 + n) % w)))), _, _, _, rfl, ?_, fr.set h4, set_get q4, by rw [List.getElem?_set_ne hne]; exact g5⟩
    have om : opMod (.int (((p.1.getD s 0 : Nat) : Int) + n)) (.int w) T = .ok (.int (((p.1.getD s 0 + n) % w : Nat) : Int)) T := by
      simp only [opMod, hm2, decide_eq_true w0, if_true]
    show (fSeq _ (fSeq _ (fSeq _ _))) _ T = _
    rw [x_seq, if_no rfl (by decide), k_seq1, x_seq, if_yes rfl]
    simp only [x_asg, x_bin, x_var, List.getElem?_cons_succ, List.getElem?_cons_zero, kB_ok, kB2_ok, ix_nl g4 e1, opAdd, om, kAsg_ok, x_gIx, kGI_ok, kGI2_ok, sx, k_seq1]
    rw [x_seq, if_no rfl (by decide), k_seq1, if_no rfl (by decide)]
  | copy s t =>
    obtain ⟨e1, _⟩ := hr.get ha.2
    have sx := set_nl (x := p.1.getD t 0) g4 (show s < p.1.length by rw [hlen]; exact ha.1)
    refine ⟨T.set l4 (.lst (nl (p.1.set s (p.1.getD t 0)))), _, _, _, rfl, ?_, fr.set h4, set_get q4, by rw [List.getElem?_set_ne hne]; exact g5⟩
    show (fSeq _ (fSeq _ (fSeq _ _))) _ T = _
    rw [x_seq, if_no rfl (by decide), k_seq1, x_seq, if_no rfl (by decide), k_seq1, x_seq, if_no rfl (by decide), k_seq1, if_yes rfl]
    simp only [x_asg, x_bin, x_var, List.getElem?_cons_succ, List.getElem?_cons_zero, kB_ok, kB2_ok, ix_nl g4 e1, kAsg_ok, x_gIx, kGI_ok, kGI2_ok, sx]
  | swap s t =>
    obtain ⟨e1, _⟩ := hr.get ha.1
    obtain ⟨e2, _⟩ := hr.get ha.2
    have sx := set_nl (x := p.1.getD t 0) g4 (show s < p.1.length by rw [hlen]; exact ha.1)
    have g4' : (T.set l4 (O.lst (nl (p.1.set s (p.1.getD t 0)))))[l4]? = some (.lst (nl (p.1.set s (p.1.getD t 0)))) := set_get q4
    have sx2 := set_nl (x := p.1.getD s 0) g4' (show t < (p.1.set s (p.1.getD t 0)).length by simp [hlen]; exact ha.2)
    refine ⟨(T.set l4 (.lst (nl (p.1.set s (p.1.getD t 0))))).set l4 (.lst (nl ((p.1.set s (p.1.getD t 0)).set t (p.1.getD s 0)))), _, _, _, rfl, ?_, (fr.set h4).set h4, set_get (by simpa using q4), by rw [List.getElem?_set_ne hne, List.getElem?_set_ne hne]; exact g5⟩
    show (fSeq _ (fSeq _ (fSeq _ _))) _ T = _
    rw [x_seq, if_no rfl (by decide), k_seq1, x_seq, if_no rfl (by decide), k_seq1, x_seq, if_yes rfl]
    simp only [x_asg, x_tup, x_cons, x_nil, x_bin, x_var, List.getElem?_cons_succ, List.getElem?_cons_zero, kB_ok, kB2_ok, ix_nl g4 e1, ix_nl g4 e2, kC_ok, kC2_ok, kTup_2, kAsg_ok, x_tupl, List.length_cons, List.length_nil, if_true, x_gsCons, x_gsNil, x_gIx, kGI_ok, kGI2_ok, sx, sx2, k_gs1, k_seq1]
    rw [if_no rfl (by decide)]
  | emitR s =>
    obtain ⟨e1, _⟩ := hr.get (show s < 4 from ha)
    have ap := append_ok (y := .int (p.1.getD s 0 : Nat)) g5 (by simp; omega)
    rw [show nl p.2 ++ [D.int (p.1.getD s 0 : Nat)] = nl (p.2 ++ [p.1.getD s 0]) by simp [nl]] at ap
    refine ⟨T.set l5 (.lst (nl (p.2 ++ [p.1.getD s 0]))), _, _, _, rfl, ?_, fr.set h5, by rw [List.getElem?_set_ne hne.symm]; exact g4, set_get q5⟩
    have isn : opIsN (.int (s : Nat)) .none T = .ok (.bool false) T := rfl
    show (fSeq _ (fSeq _ (fSeq _ _))) _ T = _
    rw [x_seq, if_yes rfl]
    simp only [x_expr, x_bm, x_cons, x_nil, x_ifE, x_bl, x_bin, x_c, x_var, List.getElem?_cons_succ, List.getElem?_cons_zero, kBM_ok, tyL g5, if_true, kB_ok, kB2_ok, isn, kBl_ok, kIfE_ok, ix_nl g4 e1]
    rw [if_neg (by decide)]
    simp only [kC_ok, x_nil, kC2_ok, kBM2_ok, ap, kExpr_ok, k_seq1]
    rw [x_seq, if_no rfl (by decide), k_seq1, x_seq, if_no rfl (by decide), k_seq1, if_no rfl (by decide)]
  | emitN n =>
    have ap := append_ok (y := .int (n : Nat)) g5 (by simp; omega)
    rw [show nl p.2 ++ [D.int (n : Nat)] = nl (p.2 ++ [n]) by simp [nl]] at ap
    refine ⟨T.set l5 (.lst (nl (p.2 ++ [n]))), _, _, _, rfl, ?_, fr.set h5, by rw [List.getElem?_set_ne hne.symm]; exact g4, set_get q5⟩
    have isn : opIsN .none .none T = .ok (.bool true) T := rfl
    show (fSeq _ (fSeq _ (fSeq _ _))) _ T = _
    rw [x_seq, if_yes rfl]
    simp only [x_expr, x_bm, x_cons, x_nil, x_ifE, x_bl, x_bin, x_c, x_var, List.getElem?_cons_succ, List.getElem?_cons_zero, kBM_ok, tyL g5, if_true, kB_ok, kB2_ok, isn, kBl_ok, kIfE_ok, kC_ok, kC2_ok, kBM2_ok, ap, kExpr_ok, k_seq1]
    rw [x_seq, if_no rfl (by decide), k_seq1, x_seq, if_no rfl (by decide), k_seq1, if_no rfl (by decide)]
/-- a state as the law has it -/
def LAt (Q : Nat → Prop) (S : Store) (ds : List D) (d : D) (s : St) : Prop := ∃ lo lr, d = .tup [.ref lo, .ref lr] ∧ S[lo]? = some (.lst (s.ord.map fun o => ds.getD o .none)) ∧ S[lr]? = some (.lst (nl s.reg)) ∧ ¬ Q lo ∧ ¬ Q lr
theorem LAt.fr {Q : Nat → Prop} {S S' : Store} {ds : List D} {d : D} {s : St} (h : LAt Q S ds d s) (f : Fr S S') : LAt Q S' ds d s := by
  obtain ⟨lo, lr, h1, h2, h3, h4⟩ := h
  exact ⟨lo, lr, h1, f.get h2, f.get h3, h4⟩
theorem LAt.ev {Q : Nat → Prop} {l : Nat} {S S' : Store} {ds : List D} {d : D} {s : St} (h : LAt Q S ds d s) (f : Ev l S S') (hl : Q l) : LAt Q S' ds d s := by
  obtain ⟨lo, lr, h1, h2, h3, h4, h5⟩ := h
  exact ⟨lo, lr, h1, f.get h2 (fun e => h4 (e ▸ hl)), f.get h3 (fun e => h5 (e ▸ hl)), h4, h5⟩
theorem LAt.set {Q : Nat → Prop} {l : Nat} {S : Store} {o : O} {ds : List D} {d : D} {s : St} (h : LAt Q S ds d s) (hl : Q l) : LAt Q (S.set l o) ds d s := by
  obtain ⟨lo, lr, h1, h2, h3, h4, h5⟩ := h
  exact ⟨lo, lr, h1, by rw [List.getElem?_set_ne (show l ≠ lo from fun e => h4 (e ▸ hl))]; exact h2, by rw [List.getElem?_set_ne (show l ≠ lr from fun e => h5 (e ▸ hl))]; exact h3, h4, h5⟩
theorem LAt.mono {Q R : Nat → Prop} {S : Store} {ds : List D} {d : D} {s : St} (h : LAt Q S ds d s) (hl : ∀ q, R q → Q q) : LAt R S ds d s := by
  obtain ⟨lo, lr, h1, h2, h3, h4, h5⟩ := h
  exact ⟨lo, lr, h1, h2, h3, fun z => h4 (hl _ z), fun z => h5 (hl _ z)⟩
theorem cardAt_get {l : Nat} {S : Store} {ds : List D} {cs : List Card} (h : All2 (CardAt l S) ds cs) {o : Nat} {c : Card} (hc : cs[o]? = some c) : CardAt l S (ds.getD o .none) c := by
  have hl := h.length
  have ho : o < ds.length := by rw [hl]; exact (List.getElem?_eq_some_iff.mp hc).1
  obtain ⟨a, b, h1, h2, h3⟩ := h.get ho
  rw [hc] at h2; cases h2
  simp [List.getD, h1]; exact h3
theorem sl_lst {S : Store} {l : Nat} {ds : List D} {lo hi : Option Int} (h : S[l]? = some (.lst ds)) : opSl (.ref l) lo hi S = .ok (.ref S.length) (S ++ [.lst (cutL ds lo hi)]) := by simp only [opSl, h]
theorem ls_depth {T : Store} {p : Put} {w : Nat} {v : List Nat} {l4 : Nat} {x0 x1 x2 x3 x5 x6 x8 x9 x10 x11 x12 x13 x14 : Option D} (hp : p.ok) (hv : RegOk w v) (g4 : T[l4]? = some (.lst (nl v))) :
    ∃ (y9 y11 y12 : Option D), ∀ q : FS, (fSeq (fAsg (fVar 7) (gTupl 3 (gsCons (gNm 9) (gsCons (gNm 11) (gsCons (gNm 12) (gsNil)))))) (fSeq (fAsg (fVar 11) (gNm 13)) (fSeq (fIf (fAnd (fBl (fBin opNotN (fVar 9) (fC .none))) (fBl (fBin opIsN (fVar 12) (fC .none)))) (fAsg (fBin opIx (fVar 4) (fVar 9)) (gNm 13)) (fPass)) (fSeq (fIf (fAnd (fBl (fBin opNotN (fVar 9) (fC .none))) (fAnd (fBl (fBin opNotN (fVar 12) (fC .none))) (fBl (fBin opGt (fBin opIx (fVar 4) (fVar 9)) (fC (.int 0)))))) (fAsg (fVar 12) (gNm 13)) (fPass)) q)))) [x0, x1, x2, x3, some (.ref l4), x5, x6, some p.d, x8, x9, x10, x11, x12, x13, x14] T = q [x0, x1, x2, x3, some (.ref l4), x5, x6, some p.d, x8, y9, x10, y11, y12, some (.int (p.depth v : Nat)), x14] T := by
  cases p with
  | fix n => exact ⟨_, _, _, fun q => by simp [Put.d, opNotN, isNone, Put.depth]; rfl⟩
  | reg s =>
    obtain ⟨e1, _⟩ := hv.get (show s < 4 from hp)
    have ix := ix_nl g4 e1
    have hd : (Put.reg s).depth v = v.getD s 0 := rfl
    rw [hd]
    generalize v.getD s 0 = x at ix
    exact ⟨_, _, _, fun q => by simp [Put.d, opNotN, opIsN, isNone, ix]; rfl⟩
  | test s a b =>
    obtain ⟨e1, _⟩ := hv.get hp.1
    have ix := ix_nl g4 e1
    have hd : (Put.test s a b).depth v = if v.getD s 0 = 0 then a else b := rfl
    rw [hd]
    generalize v.getD s 0 = x at ix
    by_cases hz : x = 0
    · subst hz
      exact ⟨_, _, _, fun q => by simp [Put.d, opNotN, opIsN, isNone, ix, opGt]; rfl⟩
    · have hz' : (0 : Int) < x := by omega
      exact ⟨_, _, _, fun q => by simp [Put.d, opNotN, opIsN, isNone, ix, opGt, hz, hz', show 0 < x by omega]; rfl⟩
theorem law_step {S : Store} {m l : Nat} {k : Deck} {s : St} {lc : Nat} {ds : List D} {d : D} (hk : k.ok m) (hm : m ≤ 8) (hs : s.ok k) {Q : Nat → Prop} (hall : All2 (CardAt l S) ds k.cards) (hd : LAt Q S ds d s) :
    ∃ (d' : D) (le : Nat) (S' : Store), F_law_step S [.tup [.int k.w, .ref lc], d] = .ok (.tup [d', .ref le, .int (k.dep s : Nat)]) S' ∧ Fr S S' ∧ S'[le]? = some (.lst (nl (k.em s))) ∧ S.length ≤ le ∧ LAt (fun q => q < S.length) S' ds d' (k.next s) := by
  obtain ⟨lo, lr, rfl, hlo, hlr, hnl, hnr⟩ := hd
  obtain ⟨o, rest, c, ho, hlt, hc, ht, hrl⟩ := hs.shape hk
  have hcm : c ∈ k.cards := List.mem_of_getElem? hc
  have cok := hk.cards c hcm
  have hw : 0 < k.w := by have := hk.w2; omega
  have hfew := hk.few
  have h6 := cok.few
  obtain ⟨la, hcd, hna, hla⟩ := cardAt_get hall hc
  have hdl := hall.length
  rw [ho] at hlo
  simp only [List.map_cons, hcd] at hlo
  generalize hrest : rest.map (fun o => ds.getD o .none) = rd at hlo
  have hrdl : rd.length = rest.length := by rw [← hrest]; simp
  let l5 := S.length
  let l4 := S.length + 1
  obtain ⟨r', T, e, y8, y9, y10, rfl, fr, g4, g5⟩ := for_zip (s := ⟨c.acts.map Act.d, some (la, c.acts.map Act.d)⟩) (g := gTupl 3 (gsCons (gNm 8) (gsCons (gNm 9) (gsCons (gNm 10) (gsNil))))) (b := lsBody)
    (J := fun done r T => ∃ (y8 y9 y10 : Option D), r = [some (.tup [.int k.w, .ref lc]), some (.tup [.ref lo, .ref lr]), some (.int k.w), some (.ref l5), some (.ref l4), some (.str c.nm), some (.ref la), some c.put.d, y8, y9, y10, none, none, none, none] ∧ Fr S T ∧ T[l4]? = some (.lst (nl (runs k.w done (s.reg, [])).1)) ∧ T[l5]? = some (.lst (nl (runs k.w done (s.reg, [])).2)))
    (All2.self (f := Act.d) c.acts) (by rintro done r T ⟨_, _, _, _, fr, _⟩; exact still_lst (fr.get hla))
    (by
      rintro done a rst d hx rfl r T ⟨y8, y9, y10, rfl, fr, g4, g5⟩
      have hok : ∀ b ∈ done, b.ok k.w := fun b hb => cok.acts b (by rw [hx]; simp [hb])
      have hd := runs_len k.w done (s.reg, [])
      have hdn : done.length ≤ 100 := by rw [hx] at h6; simp at h6; omega
      simp at hd
      obtain ⟨T', z8, z9, z10, ed, e1, f1, q4, q5⟩ := ls_step (x0 := some (.tup [.int k.w, .ref lc])) (x1 := some (.tup [.ref lo, .ref lr])) (x5 := some (.str c.nm)) (x6 := some (.ref la)) (x7 := some c.put.d) (x11 := none) (x12 := none) (x13 := none) (x14 := none) (cok.acts a (by rw [hx]; simp)) hw (runs_ok hok hs.reg) fr (show S.length ≤ l4 by simp [l4]) (show S.length ≤ l5 by simp [l5]) (by simp [l4, l5]) g4 g5 (by omega)
      refine ⟨[some (.tup [.int k.w, .ref lc]), some (.tup [.ref lo, .ref lr]), some (.int k.w), some (.ref l5), some (.ref l4), some (.str c.nm), some (.ref la), some c.put.d, some z8, some z9, some z10, none, none, none, none], T, _, T', by rw [ed]; rfl, e1, some z8, some z9, some z10, rfl, f1, by rw [runs_snoc]; exact q4, by rw [runs_snoc]; exact q5⟩)
    (r := [some (.tup [.int k.w, .ref lc]), some (.tup [.ref lo, .ref lr]), some (.int k.w), some (.ref l5), some (.ref l4), some (.str c.nm), some (.ref la), some c.put.d, none, none, none, none, none, none, none]) (S := S ++ [.lst []] ++ [.lst (nl s.reg)]) ⟨none, none, none, rfl, Fr.refl.app.app, by simp [runs, l4], by simp [runs, nl, l5]⟩
  have rok := runs_ok cok.acts (p := (s.reg, [])) hs.reg
  generalize hrr : (runs k.w c.acts (s.reg, [])).1 = rr at g4 rok
  have hem : (runs k.w c.acts (s.reg, [])).2 = k.em s := by simp only [Deck.em, Deck.acts2, ht]
  rw [hem] at g5
  obtain ⟨z9, z11, z12, hdep⟩ := ls_depth (T := T) (p := c.put) (x0 := some (.tup [.int k.w, .ref lc])) (x1 := some (.tup [.ref lo, .ref lr])) (x2 := some (.int k.w)) (x3 := some (.ref l5)) (x5 := some (.str c.nm)) (x6 := some (.ref la)) (x8 := y8) (x9 := y9) (x10 := y10) (x11 := none) (x12 := none) (x13 := none) (x14 := none) cok.put rok g4
  have hdp : k.dep s = min (c.put.depth rr) rest.length := by
    simp only [Deck.dep, Deck.acts2, ht, ho, hrr]; simp
  have hdl2 : k.dep s ≤ rest.length := by rw [hdp]; exact Nat.min_le_right _ _
  have hloT := fr.get hlo
  let cd : D := .tup [.str c.nm, .ref la, c.put.d]
  let T1 : Store := T ++ [.lst rd]
  let T2 : Store := T1 ++ [.lst (rd.take (k.dep s))]
  let T3 : Store := T2 ++ [.lst [cd]]
  let T4 : Store := T3 ++ [.lst (rd.take (k.dep s) ++ [cd])]
  let T5 : Store := T4 ++ [.lst (rd.drop (k.dep s))]
  let T6 : Store := T5 ++ [.lst (rd.take (k.dep s) ++ [cd] ++ rd.drop (k.dep s))]
  have f6 : Fr T T6 := Fr.refl.app.app.app.app.app.app
  have cut1 : opSl (.ref lo) (some 1) none T = .ok (.ref T.length) T1 := by
    rw [sl_lst hloT, show (1 : Int) = ((1 : Nat) : Int) from rfl, cut_drop]; rfl
  have g1 : T1[T.length]? = some (.lst rd) := by simp [T1]
  have ln : bLen [.ref T.length] T1 = some (.int (rest.length : Nat), T1) := by rw [lenL g1, hrdl]
  have cut2 : opSl (.ref T.length) none (some (k.dep s : Int)) T1 = .ok (.ref T1.length) T2 := by rw [sl_lst g1, cut_take]
  have lt1 : T1.length = T.length + 1 := by simp [T1]
  have lt2 : T2.length = T.length + 2 := by simp [T2, T1]
  have lt3 : T3.length = T.length + 3 := by simp [T3, T2, T1]
  have lt4 : T4.length = T.length + 4 := by simp [T4, T3, T2, T1]
  have lt5 : T5.length = T.length + 5 := by simp [T5, T4, T3, T2, T1]
  have ix0 : opIx (.tup [.ref lo, .ref lr]) (.int 0) T2 = .ok (.ref lo) T2 := rfl
  have ix00 : opIx (.ref lo) (.int 0) T2 = .ok cd T2 := ix_lst (i := 0) (getApp (getApp hloT)) rfl
  have ad1 : opAdd (.ref T1.length) (.ref T2.length) T3 = .ok (.ref T3.length) T4 := by
    have := addL (S := T3) (l := T1.length) (k := T2.length) (a := rd.take (k.dep s)) (b := [cd]) (getApp (by simp [T2])) (by simp [T3]) (by simp; omega)
    exact this
  have g1' : T4[T.length]? = some (.lst rd) := getApp (getApp (getApp g1))
  have cut3 : opSl (.ref T.length) (some (k.dep s : Int)) none T4 = .ok (.ref T4.length) T5 := by rw [sl_lst g1', cut_drop]
  have ad2 : opAdd (.ref T3.length) (.ref T4.length) T5 = .ok (.ref T5.length) T6 := by
    have := addL (S := T5) (l := T3.length) (k := T4.length) (a := rd.take (k.dep s) ++ [cd]) (b := rd.drop (k.dep s)) (getApp (by simp [T4])) (by simp [T5]) (by simp; omega)
    exact this
  have fTl := fr.len
  have l4lt := getLt g4
  have l5lt := getLt g5
  refine ⟨.tup [.ref T5.length, .ref l4], l5, T6, ?_, fr.trans f6, f6.get g5, Nat.le_refl _, T5.length, l4, rfl, ?_, ?_, by show ¬ T5.length < S.length; omega, by show ¬ S.length + 1 < S.length; omega⟩
  · rw [F_law_step, fDef_k]
    show kDef ((fSeq _ (fSeq _ (fSeq (fFor _ _ lsBody) (fSeq _ (fSeq _ (fSeq _ (fSeq _ (fSeq _ (fSeq _ _))))))))) [some (.tup [.int k.w, .ref lc]), some (.tup [.ref lo, .ref lr]), none, none, none, none, none, none, none, none, none, none, none, none, none] S) = _
    have bl : bList [.ref lr] (S ++ [.lst []]) = some (.ref (S.length + 1), S ++ [.lst []] ++ [.lst (nl s.reg)]) := by simp [bList, seqOf, lstAt, getApp hlr]
    have st1 : fAsg (fTup (fCons (fBin opIx (fVar 0) (fC (.int 0))) (fCons (fLst (fNil)) (fCons (fCB bList (fCons (fBin opIx (fVar 1) (fC (.int 1))) (fNil))) (fNil))))) (gTupl 3 (gsCons (gNm 2) (gsCons (gNm 3) (gsCons (gNm 4) (gsNil))))) [some (.tup [.int k.w, .ref lc]), some (.tup [.ref lo, .ref lr]), none, none, none, none, none, none, none, none, none, none, none, none, none] S = .next [some (.tup [.int k.w, .ref lc]), some (.tup [.ref lo, .ref lr]), some (.int k.w), some (.ref l5), some (.ref l4), none, none, none, none, none, none, none, none, none, none] (S ++ [.lst []] ++ [.lst (nl s.reg)]) := by
      simp at bl
      simp [opIx, bl, l4, l5]
    have jx : opIx (.ref lo) (.int 0) (S ++ [.lst []] ++ [.lst (nl s.reg)]) = .ok cd (S ++ [.lst []] ++ [.lst (nl s.reg)]) := ix_lst (i := 0) (getApp (getApp hlo)) rfl
    have jx0 : opIx (.tup [.ref lo, .ref lr]) (.int 0) (S ++ [.lst []] ++ [.lst (nl s.reg)]) = .ok (.ref lo) (S ++ [.lst []] ++ [.lst (nl s.reg)]) := rfl
    have st2 : fAsg (fBin opIx (fBin opIx (fVar 1) (fC (.int 0))) (fC (.int 0))) (gTupl 3 (gsCons (gNm 5) (gsCons (gNm 6) (gsCons (gNm 7) (gsNil))))) [some (.tup [.int k.w, .ref lc]), some (.tup [.ref lo, .ref lr]), some (.int k.w), some (.ref l5), some (.ref l4), none, none, none, none, none, none, none, none, none, none] (S ++ [.lst []] ++ [.lst (nl s.reg)]) = .next [some (.tup [.int k.w, .ref lc]), some (.tup [.ref lo, .ref lr]), some (.int k.w), some (.ref l5), some (.ref l4), some (.str c.nm), some (.ref la), some c.put.d, none, none, none, none, none, none, none] (S ++ [.lst []] ++ [.lst (nl s.reg)]) := by
      simp only [x_asg, x_bin, x_var, x_c, List.getElem?_cons_succ, List.getElem?_cons_zero, kB_ok, kB2_ok, jx0, jx, kAsg_ok, cd, x_tupl, x_gsCons, x_gsNil, x_nm, k_gs1, List.length_cons, List.length_nil, if_true]
      rfl
    rw [x_seq, st1, k_seq1, x_seq, st2, k_seq1, x_seq, x_for]
    simp only [x_iSeq, x_var, List.getElem?_cons_succ, List.getElem?_cons_zero, kISeq_ok, seqL (getApp (getApp hla)), kFor_ok]
    rw [e, k_seq1, hdep]
    have mn := min_nat (a := c.put.depth rr) (b := rest.length) (S := T1)
    rw [← hdp] at mn
    have jy0 : opIx (.tup [.ref lo, .ref lr]) (.int 0) T = .ok (.ref lo) T := rfl
    have st5 : fAsg (fSlice (fBin opIx (fVar 1) (fC (.int 0))) (fPart (fC (.int 1))) (fNoPart)) (gNm 14) [some (.tup [.int k.w, .ref lc]), some (.tup [.ref lo, .ref lr]), some (.int k.w), some (.ref l5), some (.ref l4), some (.str c.nm), some (.ref la), some c.put.d, y8, z9, y10, z11, z12, some (.int (c.put.depth rr : Nat)), none] T = .next [some (.tup [.int k.w, .ref lc]), some (.tup [.ref lo, .ref lr]), some (.int k.w), some (.ref l5), some (.ref l4), some (.str c.nm), some (.ref la), some c.put.d, y8, z9, y10, z11, z12, some (.int (c.put.depth rr : Nat)), some (.ref T.length)] T1 := by
      simp only [x_asg, x_slice, x_bin, x_part, x_noPart, x_var, x_c, List.getElem?_cons_succ, List.getElem?_cons_zero, kB_ok, kB2_ok, jy0, kSl_ok, kPart_ok, kSl2_ok, kSl3_ok, cut1, kAsg_ok, x_nm]
      rfl
    have st6 : fAsg (fCB bMin (fCons (fVar 13) (fCons (fCB bLen (fCons (fVar 14) (fNil))) (fNil)))) (gNm 13) [some (.tup [.int k.w, .ref lc]), some (.tup [.ref lo, .ref lr]), some (.int k.w), some (.ref l5), some (.ref l4), some (.str c.nm), some (.ref la), some c.put.d, y8, z9, y10, z11, z12, some (.int (c.put.depth rr : Nat)), some (.ref T.length)] T1 = .next [some (.tup [.int k.w, .ref lc]), some (.tup [.ref lo, .ref lr]), some (.int k.w), some (.ref l5), some (.ref l4), some (.str c.nm), some (.ref la), some c.put.d, y8, z9, y10, z11, z12, some (.int (k.dep s : Nat)), some (.ref T.length)] T1 := by
      simp only [x_asg, x_cb, x_cons, x_nil, x_var, List.getElem?_cons_succ, List.getElem?_cons_zero, kC_ok, kC2_ok, kCB_ok, ln, mn, kAsg_ok, x_nm]
      rfl
    rw [x_seq, st5, k_seq1, x_seq, st6, k_seq1]
    simp only [x_ret, x_tup, x_cons, x_nil, x_bin, x_slice, x_lst, x_part, x_noPart, x_var, x_c, List.getElem?_cons_succ, List.getElem?_cons_zero, kB_ok, kB2_ok, kPart_ok, kSl_ok, kSl2_ok, kSl3_ok, cut2, ix0, ix00, kC_ok, kC2_ok, kLst_1]
    rw [show T2 ++ [O.lst [cd]] = T3 from rfl, ad1]
    simp only [kB_ok, x_slice, x_part, x_noPart, x_var, List.getElem?_cons_succ, List.getElem?_cons_zero, kPart_ok, kSl_ok, kSl2_ok, kSl3_ok, cut3, kB2_ok, ad2, kC_ok, x_cons, x_var, x_nil, List.getElem?_cons_succ, List.getElem?_cons_zero, kC2_ok, kTup_2, kTup_3, kRet_ok, k_def2]
  · have e6 : T6[T5.length]? = some (.lst (rd.take (k.dep s) ++ [cd] ++ rd.drop (k.dep s))) := by simp [T6]
    rw [e6]
    have hn : (k.next s).ord = rest.take (k.dep s) ++ [o] ++ rest.drop (k.dep s) := by simp only [Deck.next, ho, List.tail_cons, List.headD_cons]
    rw [hn]
    simp only [List.map_append, List.map_take, List.map_drop, hrest, List.map_cons, List.map_nil, hcd]
    rfl
  · have hreg : (k.next s).reg = rr := by simp only [Deck.next, Deck.acts2, ht, hrr]
    rw [hreg]
    exact f6.get g4
end M

set_option linter.all false
set_option maxRecDepth 100000
set_option maxHeartbeats 1000000
namespace M
open PySem CL L2
/-! ### the law's own orbit -/
theorem nmOf_inj {m : Nat} {k : Deck} (hk : k.ok m) {a b : Nat} (ha : a < k.cards.length) (hb : b < k.cards.length) (h : k.nmOf a = k.nmOf b) : a = b := by
  obtain ⟨c, h1, h2, _⟩ := nm_get ha
  obtain ⟨e, h3, h4, _⟩ := nm_get hb
  have h1' : (k.cards.map Card.nm)[a]? = some (k.nmOf a) := by simp [h1, h2]
  have h3' : (k.cards.map Card.nm)[b]? = some (k.nmOf a) := by simp [h3, h, h4]
  have i1 := idx_strs (j := 0) hk.nodup h1'
  have i2 := idx_strs (j := 0) hk.nodup h3'
  rw [i1] at i2
  simpa using i2
theorem map_inj_on {α β : Type} {f : α → β} : ∀ {a b : List α}, (∀ x ∈ a, ∀ y ∈ b, f x = f y → x = y) → a.map f = b.map f → a = b
  | [], [], _, _ => rfl
  | [], y :: b, _, h => by simp at h
  | x :: a, [], _, h => by simp at h
  | x :: a, y :: b, hi, h => by
    simp only [List.map_cons, List.cons.injEq] at h
    rw [hi x (by simp) y (by simp) h.1, map_inj_on (fun x hx y hy => hi x (by simp [hx]) y (by simp [hy])) h.2]
theorem St.nd_inj {m : Nat} {k : Deck} {a b : St} (hk : k.ok m) (ha : a.ok k) (hb : b.ok k) (h : a.nd k = b.nd k) : a = b := by
  unfold St.nd at h
  injection h with h
  injection h with h1 h2
  injection h2 with h2 _
  injection h1 with h1
  injection h2 with h2
  have e2 := nl_inj h2
  have e1 := map_inj_on (fun x hx y hy e => nmOf_inj hk (ha.lt x hx) (hb.lt y hy) (by injection e)) h1
  cases a; cases b; simp at e1 e2; rw [e1, e2]
theorem St.nbeq {m : Nat} {k : Deck} {a b : St} (hk : k.ok m) (ha : a.ok k) (hb : b.ok k) : D.beq (a.nd k) (b.nd k) = decide (a = b) := by
  by_cases h : a = b
  · subst h; simp [D.beq_refl]
  · have : D.beq (a.nd k) (b.nd k) ≠ true := fun e => h (St.nd_inj hk ha hb (D.beq_eq e))
    simp [h]
    simpa using this
theorem plain_sl (f : Nat → Str) (v : List Nat) : plainKs (v.map fun o => D.str (f o)) = true := by
  induction v with
  | nil => rfl
  | cons x v ih => exact ih
theorem depth_sl (f : Nat → Str) (v : List Nat) : NestedKey.depthAll (kOfs (v.map fun o => D.str (f o))) = 0 := by
  induction v with
  | nil => rfl
  | cons x v ih =>
    show max 0 (NestedKey.depthAll (kOfs (v.map fun o => D.str (f o)))) = 0
    rw [ih]; rfl
theorem St.nkey (k : Deck) (s : St) : okKey (s.nd k) = true := by
  have h1 := plain_sl k.nmOf s.ord
  have h2 := plain_nl s.reg
  have d1 := depth_sl k.nmOf s.ord
  have d2 := depth_nl s.reg
  show (plainKs [.tup (s.ord.map fun o => D.str (k.nmOf o)), .tup (nl s.reg)] && decide ((kOf (.tup [.tup (s.ord.map fun o => D.str (k.nmOf o)), .tup (nl s.reg)])).depth ≤ 8)) = true
  have e1 : plainKs [.tup (s.ord.map fun o => D.str (k.nmOf o)), .tup (nl s.reg)] = true := by simp [plainKs, plainK, h1, h2]
  have e2 : (kOf (.tup [.tup (s.ord.map fun o => D.str (k.nmOf o)), .tup (nl s.reg)])).depth = 2 := by simp [kOf, kOfs, NestedKey.depth, NestedKey.depthAll, d1, d2]
  rw [e1, e2]; rfl
def seenN (k : Deck) (s : St) (i : Nat) : List (D × D) := (List.range i).map fun j => ((k.it s j).nd k, D.int j)
theorem seenN_none {m : Nat} {k : Deck} {s : St} {i n : Nat} (hk : k.ok m) (hs : s.ok k) (h : ∀ j, j < i → k.it s j ≠ k.it s n) : dGet (seenN k s i) ((k.it s n).nd k) = none := by
  unfold dGet seenN
  rw [List.find?_eq_none.mpr]
  · rfl
  · intro p hp
    obtain ⟨j, hj, rfl⟩ := List.mem_map.mp hp
    rw [St.nbeq hk (Deck.it_ok hk hs j) (Deck.it_ok hk hs n)]
    simp [h j (by simpa using hj)]
theorem seenN_some {m : Nat} {k : Deck} {s : St} {i n j : Nat} (hk : k.ok m) (hs : s.ok k) (hj : j < i) (e : k.it s j = k.it s n) (hd : ∀ a b, a < i → b < i → k.it s a = k.it s b → a = b) : dGet (seenN k s i) ((k.it s n).nd k) = some (.int j) := by
  unfold dGet
  obtain ⟨y, h1, h2, h3⟩ := find_first (p := fun p => D.beq p.1 ((k.it s n).nd k)) (l := seenN k s i) (x := ((k.it s j).nd k, D.int j)) (List.mem_map.mpr ⟨j, by simpa using hj, rfl⟩) (by rw [St.nbeq hk (Deck.it_ok hk hs j) (Deck.it_ok hk hs n)]; simp [e])
  rw [h1]
  obtain ⟨a, ha, rfl⟩ := List.mem_map.mp h3
  have ha : a < i := by simpa using ha
  rw [St.nbeq hk (Deck.it_ok hk hs a) (Deck.it_ok hk hs n)] at h2
  have : k.it s a = k.it s n := by simpa using h2
  rw [hd a j ha hj (this.trans e.symm)]; rfl
theorem law_named {S : Store} {m l : Nat} {k : Deck} {s : St} {ds : List D} {d : D} {Q : Nat → Prop} (hk : k.ok m) (hm : m ≤ 8) (hs : s.ok k) (hall : All2 (CardAt l S) ds k.cards) (hd : LAt Q S ds d s) : ∃ S', F_law_named S [d] = .ok (s.nd k) S' ∧ Fr S S' := by
  obtain ⟨lo, lr, rfl, hlo, hlr, hnl, hnr⟩ := hd
  have hfew := hk.few
  have hl := hs.len
  obtain ⟨S1, e1, f1, hl1⟩ := lc_map (s := ⟨s.ord.map fun o => ds.getD o .none, some (lo, s.ord.map fun o => ds.getD o .none)⟩) (f := fun (o : Nat) => ds.getD o .none) (h := fun o => D.str (k.nmOf o)) (i := 1) (e := fBin opIx (fVar 1) (fC (.int 0))) (l := S.length) (r0 := [some (.tup [.ref lo, .ref lr]), none]) (Inv := Fr S)
    (fun T hT => still_lst (hT.get hlo)) (fun T o hT => hT.set (Nat.le_refl _)) s.ord (fun o ho T acc fr hacc => by
      obtain ⟨c, hc, hn, _⟩ := nm_get (hs.lt o ho)
      obtain ⟨la, hcd, _, _⟩ := cardAt_get hall hc
      have ix0 : opIx (ds.getD o .none) (.int 0) T = .ok (.str c.nm) T := by rw [hcd]; simp [opIx]
      refine ⟨T, ?_, fr, hacc⟩
      simp only [x_bin, x_var, x_c, List.set_cons_succ, List.set_cons_zero, List.getElem?_cons_succ, List.getElem?_cons_zero, kB_ok, kB2_ok, ix0, hn]) (S ++ [.lst []]) [] ⟨_, rfl⟩ (by simp) (by simp [LINE]; omega)
  have hl1 : S1[S.length]? = some (.lst (s.ord.map fun o => D.str (k.nmOf o))) := hl1
  have bt : bTuple [.ref S.length] S1 = some (.tup (s.ord.map fun o => D.str (k.nmOf o)), S1) := by simp [bTuple, seqOf, lstAt, hl1]
  have bt2 : bTuple [.ref lr] S1 = some (.tup (nl s.reg), S1) := by simp [bTuple, seqOf, lstAt, f1.get hlr]
  refine ⟨S1, ?_, f1⟩
  have i0 : ∀ U, opIx (.tup [.ref lo, .ref lr]) (.int 0) U = .ok (.ref lo) U := fun U => rfl
  have i1 : ∀ U, opIx (.tup [.ref lo, .ref lr]) (.int 1) U = .ok (.ref lr) U := fun U => rfl
  rw [F_law_named, fDef_k]
  show kDef (b_law_named [some (.tup [.ref lo, .ref lr]), none] S) = _
  unfold b_law_named
  simp only [x_ret, x_tup, x_cons, x_nil, x_cb, x_lc, x_iSeq, x_bin, x_var, x_c, List.getElem?_cons_succ, List.getElem?_cons_zero, kB_ok, kB2_ok, i0, kISeq_ok, seqL hlo, kLc_ok, wipeE, List.set_cons_succ, List.set_cons_zero, e1, kLc2_ok, kC_ok, kC2_ok, kCB_ok, bt, bt2, i1, kTup_2, kRet_ok, k_def2, St.nd]
theorem map_getD {α : Type} (d : α) : ∀ (xs : List α), (List.range xs.length).map (fun o => xs.getD o d) = xs
  | [] => rfl
  | x :: xs => by
    rw [List.length_cons, List.range_succ_eq_map, List.map_cons, List.map_map]
    have := map_getD d xs
    simp only [List.getD_cons_zero]
    congr 1
theorem law_start {S : Store} {k : Deck} {lc : Nat} {ds : List D} (hl : ds.length = k.cards.length) (hlc : S[lc]? = some (.lst ds)) :
    ∃ (S' : Store), F_law_start S [.tup [.int k.w, .ref lc]] = .ok (.tup [.ref S.length, .ref (S.length + 1)]) S' ∧ Fr S S' ∧ LAt (fun q => q < S.length) S' ds (.tup [.ref S.length, .ref (S.length + 1)]) k.init := by
  refine ⟨S ++ [.lst ds] ++ [.lst (nl [0, 0, 0, 0])], ?_, Fr.refl.app.app, S.length, S.length + 1, rfl, ?_, by rw [get_last2]; rfl, by show ¬ S.length < S.length; omega, by show ¬ S.length + 1 < S.length; omega⟩
  · have bl : bList [.ref lc] S = some (.ref S.length, S ++ [.lst ds]) := by simp [bList, seqOf, lstAt, hlc]
    rw [F_law_start, fDef_k]
    simp [opIx, bl, LINE, nl]
  · have : k.init.ord = List.range ds.length := by rw [hl]; rfl
    rw [this, map_getD]; simp
abbrev loTest : FT := fAnd (fBl (fBin opDNotIn (fCallN 1 F_law_named (fCons (fVar 1) (fNil))) (fVar 3))) (fBl (fBin opLt (fCB bLen (fCons (fVar 4) (fNil))) (fVar 2)))
abbrev loBody : FS := fSeq (fAsg (fCB bLen (fCons (fVar 4) (fNil))) (gDix (fVar 3) (fCallN 1 F_law_named (fCons (fVar 1) (fNil))))) (fSeq (fExpr (fBM "list" mAppend (fVar 4) (fCons (fCallN 1 F_law_named (fCons (fVar 1) (fNil))) (fNil)))) (fSeq (fAsg (fCallN 2 F_law_step (fCons (fVar 0) (fCons (fVar 1) (fNil)))) (gTupl 3 (gsCons (gNm 1) (gsCons (gNm 6) (gsCons (gNm 7) (gsNil)))))) (fExpr (fBM "list" mAppend (fVar 5) (fCons (fVar 6) (fNil))))))
/-- the loop's store after i turns -/
structure LO (k : Deck) (s : St) (ds : List D) (S : Store) (i : Nat) (d : D) (T : Store) : Prop where
  fr : Fr S T
  cur : LAt (fun q => S.length ≤ q ∧ q ≤ S.length + 2) T ds d (k.it s i)
  dic : T[S.length]? = some (.dic (seenN k s i))
  sts : T[S.length + 1]? = some (.lst ((List.range i).map fun j => (k.it s j).nd k))
  ems : ∃ es, T[S.length + 2]? = some (.lst es) ∧ All2 (EmAt k s T) es (List.range i) ∧ ∀ d ∈ es, ∃ le, d = .ref le ∧ S.length + 2 < le
theorem LO.app {k : Deck} {s : St} {ds : List D} {S T U : Store} {i : Nat} {d : D} (h : LO k s ds S i d T) (f : Fr T U) : LO k s ds S i d U := by
  obtain ⟨h1, h2, h3, h4, es, h5, h6, h7⟩ := h
  exact ⟨h1.trans f, h2.fr f, f.get h3, f.get h4, es, f.get h5, h6.imp fun _ _ h => h.fr f, h7⟩
theorem lo_turn {S T : Store} {m l i limit lc : Nat} {k : Deck} {s : St} {ds : List D} {d : D} {a6 a7 : Option D} (hk : k.ok m) (hm : m ≤ 8) (hs : s.ok k) (hall : All2 (CardAt l S) ds k.cards) (hI : LO k s ds S i d T) (hna : ¬ k.again s i) (hi : i < limit) (hl : limit ≤ 3000) :
    ∃ (T1 T' : Store) (d' : D) (b6 b7 : Option D), loTest [some (.tup [.int k.w, .ref lc]), some d, some (.int limit), some (.ref S.length), some (.ref (S.length + 1)), some (.ref (S.length + 2)), a6, a7] T = .ok true T1 ∧
      loBody [some (.tup [.int k.w, .ref lc]), some d, some (.int limit), some (.ref S.length), some (.ref (S.length + 1)), some (.ref (S.length + 2)), a6, a7] T1 = .next [some (.tup [.int k.w, .ref lc]), some d', some (.int limit), some (.ref S.length), some (.ref (S.length + 1)), some (.ref (S.length + 2)), b6, b7] T' ∧ LO k s ds S (i + 1) d' T' := by
  have hsi := Deck.it_ok hk hs i
  have hkey := (k.it s i).nkey k
  have hnone : dGet (seenN k s i) ((k.it s i).nd k) = none := seenN_none hk hs fun j hj e => hna ⟨j, hj, e⟩
  have hsl : (seenN k s i).length ≤ 1000000 := by simp [seenN]; omega
  have hlen : ∀ U : Store, U[S.length + 1]? = some (.lst ((List.range i).map fun j => (k.it s j).nd k)) → bLen [.ref (S.length + 1)] U = some (.int (i : Nat), U) := fun U h => by rw [lenL h]; simp
  have halT : ∀ {U : Store}, Fr S U → All2 (CardAt l U) ds k.cards := fun f => hall.imp fun _ _ h => h.fr f
  -- the test
  obtain ⟨T1, e1, f1⟩ := law_named hk hm hsi (halT hI.fr) hI.cur
  have hI1 := hI.app f1
  -- the dict
  obtain ⟨T2, e2, f2⟩ := law_named hk hm hsi (halT hI1.fr) hI1.cur
  have hI2 := hI1.app f2
  let T3 : Store := T2.set S.length (.dic (seenN k s (i + 1)))
  have sd : setDic T2 (.ref S.length) ((k.it s i).nd k) (.int (i : Nat)) = some T3 := by
    rw [set_dict hI2.dic hkey hsl, put_new hnone]
    simp [T3, seenN, List.range_succ]
  obtain ⟨es, m2, hall2, hle⟩ := hI2.ems
  have fr3 : Fr S T3 := hI2.fr.set (Nat.le_refl _)
  have cur3 : LAt (fun q => S.length ≤ q ∧ q ≤ S.length + 2) T3 ds d (k.it s i) := hI2.cur.set (show S.length ≤ S.length ∧ S.length ≤ S.length + 2 by omega)
  have d3 : T3[S.length]? = some (.dic (seenN k s (i + 1))) := set_get (getLt hI2.dic)
  have s3 : T3[S.length + 1]? = some (.lst ((List.range i).map fun j => (k.it s j).nd k)) := by rw [List.getElem?_set_ne (by omega)]; exact hI2.sts
  have m3 : T3[S.length + 2]? = some (.lst es) := by rw [List.getElem?_set_ne (by omega)]; exact m2
  -- the list of states
  obtain ⟨T4, e4, f4⟩ := law_named hk hm hsi (halT fr3) cur3
  let T5 : Store := T4.set (S.length + 1) (.lst ((List.range (i + 1)).map fun j => (k.it s j).nd k))
  have ap1 : mAppend (.ref (S.length + 1)) [(k.it s i).nd k] T4 = some (.none, T5) := by
    rw [append_ok (f4.get s3) (by simp; omega)]
    simp [T5, List.range_succ]
  have fr5 : Fr S T5 := (fr3.trans f4).set (by omega)
  have cur5 : LAt (fun q => S.length ≤ q ∧ q ≤ S.length + 2) T5 ds d (k.it s i) := (cur3.fr f4).set (show S.length ≤ S.length + 1 ∧ S.length + 1 ≤ S.length + 2 by omega)
  have d5 : T5[S.length]? = some (.dic (seenN k s (i + 1))) := by rw [List.getElem?_set_ne (by omega)]; exact f4.get d3
  have s5 : T5[S.length + 1]? = some (.lst ((List.range (i + 1)).map fun j => (k.it s j).nd k)) := set_get (getLt (f4.get s3))
  have m5 : T5[S.length + 2]? = some (.lst es) := by rw [List.getElem?_set_ne (by omega)]; exact f4.get m3
  -- the step
  obtain ⟨d', le, T6, e6, f6, hl6, hle6, cur6⟩ := law_step (S := T5) (lc := lc) hk hm hsi (halT fr5) cur5
  have l5 : S.length + 2 < T5.length := getLt m5
  let T7 : Store := T6.set (S.length + 2) (.lst (es ++ [.ref le]))
  have m6 := f6.get m5
  have hesl := hall2.length
  have ap2 : mAppend (.ref (S.length + 2)) [.ref le] T6 = some (.none, T7) := append_ok m6 (by simp at hesl; omega)
  have keepE : ∀ d j, (∃ le, d = .ref le ∧ S.length + 2 < le) → EmAt k s T2 d j → EmAt k s T7 d j := by
    rintro d j ⟨le', rfl, h1⟩ ⟨le'', h2, h3⟩
    cases h2
    refine ⟨le', rfl, ?_⟩
    have h4 : T3[le']? = some (.lst (nl (k.em (k.it s j)))) := by rw [List.getElem?_set_ne (by omega)]; exact h3
    have h5 : T5[le']? = some (.lst (nl (k.em (k.it s j)))) := by rw [List.getElem?_set_ne (by omega)]; exact f4.get h4
    rw [List.getElem?_set_ne (by omega)]
    exact f6.get h5
  refine ⟨T1, T7, d', some (.ref le), some (.int (k.dep (k.it s i) : Nat)), ?_, ?_, (fr5.trans f6).set (by omega), ?_, by rw [List.getElem?_set_ne (by omega)]; exact f6.get d5, by rw [List.getElem?_set_ne (by omega)]; exact f6.get s5, es ++ [.ref le], set_get (getLt m6), ?_, ?_⟩
  · have ni : opDNotIn ((k.it s i).nd k) (.ref S.length) T1 = .ok (.bool true) T1 := by
      simp only [opDNotIn, dic_at hI1.dic, hkey, if_true, hnone]; rfl
    have lt : opLt (.int (i : Nat)) (.int (limit : Nat)) T1 = .ok (.bool true) T1 := by
      have : (i : Int) < limit := by omega
      simp only [opLt, decide_eq_true this]
    simp only [x_and, x_bl, x_bin, x_cb, x_cons, x_nil, x_callN, x_var, List.getElem?_cons_succ, List.getElem?_cons_zero, kC_ok, kC2_ok, kCallN_ok, List.length_cons, List.length_nil, if_true, e1, kB_ok, kB2_ok, ni, kBl_ok, kAnd_ok, kCB_ok, hlen T1 hI1.sts, lt]
  · have st1 : fAsg (fCB bLen (fCons (fVar 4) (fNil))) (gDix (fVar 3) (fCallN 1 F_law_named (fCons (fVar 1) (fNil)))) [some (.tup [.int k.w, .ref lc]), some d, some (.int limit), some (.ref S.length), some (.ref (S.length + 1)), some (.ref (S.length + 2)), a6, a7] T1 = .next [some (.tup [.int k.w, .ref lc]), some d, some (.int limit), some (.ref S.length), some (.ref (S.length + 1)), some (.ref (S.length + 2)), a6, a7] T3 := by
      simp only [x_asg, x_cb, x_cons, x_nil, x_callN, x_var, List.getElem?_cons_succ, List.getElem?_cons_zero, kC_ok, kC2_ok, kCB_ok, hlen T1 hI1.sts, kAsg_ok, x_dix, kDix_ok, kDix2_ok, kCallN_ok, List.length_cons, List.length_nil, if_true, e2, sd]
    have st2 : fExpr (fBM "list" mAppend (fVar 4) (fCons (fCallN 1 F_law_named (fCons (fVar 1) (fNil))) (fNil))) [some (.tup [.int k.w, .ref lc]), some d, some (.int limit), some (.ref S.length), some (.ref (S.length + 1)), some (.ref (S.length + 2)), a6, a7] T3 = .next [some (.tup [.int k.w, .ref lc]), some d, some (.int limit), some (.ref S.length), some (.ref (S.length + 1)), some (.ref (S.length + 2)), a6, a7] T5 := by
      simp only [x_expr, x_bm, x_var, x_cons, x_nil, x_callN, List.getElem?_cons_succ, List.getElem?_cons_zero, kBM_ok, tyL s3, if_true, kC_ok, kC2_ok, kCallN_ok, List.length_cons, List.length_nil, e4, kBM2_ok, ap1, kExpr_ok]
    have st3 : fAsg (fCallN 2 F_law_step (fCons (fVar 0) (fCons (fVar 1) (fNil)))) (gTupl 3 (gsCons (gNm 1) (gsCons (gNm 6) (gsCons (gNm 7) (gsNil))))) [some (.tup [.int k.w, .ref lc]), some d, some (.int limit), some (.ref S.length), some (.ref (S.length + 1)), some (.ref (S.length + 2)), a6, a7] T5 = .next [some (.tup [.int k.w, .ref lc]), some d', some (.int limit), some (.ref S.length), some (.ref (S.length + 1)), some (.ref (S.length + 2)), some (.ref le), some (.int (k.dep (k.it s i) : Nat))] T6 := by
      simp only [x_asg, x_callN, x_cons, x_nil, x_var, List.getElem?_cons_succ, List.getElem?_cons_zero, kC_ok, kC2_ok, kCallN_ok, List.length_cons, List.length_nil, if_true, e6, kAsg_ok, x_tupl, x_gsCons, x_gsNil, x_nm, k_gs1]
      rfl
    have st4 : fExpr (fBM "list" mAppend (fVar 5) (fCons (fVar 6) (fNil))) [some (.tup [.int k.w, .ref lc]), some d', some (.int limit), some (.ref S.length), some (.ref (S.length + 1)), some (.ref (S.length + 2)), some (.ref le), some (.int (k.dep (k.it s i) : Nat))] T6 = .next [some (.tup [.int k.w, .ref lc]), some d', some (.int limit), some (.ref S.length), some (.ref (S.length + 1)), some (.ref (S.length + 2)), some (.ref le), some (.int (k.dep (k.it s i) : Nat))] T7 := by
      simp only [x_expr, x_bm, x_var, x_cons, x_nil, List.getElem?_cons_succ, List.getElem?_cons_zero, kBM_ok, tyL m6, if_true, kC_ok, kC2_ok, kBM2_ok, ap2, kExpr_ok]
    show (fSeq _ (fSeq _ (fSeq _ _))) _ T1 = _
    rw [x_seq, st1, k_seq1, x_seq, st2, k_seq1, x_seq, st3, k_seq1, st4]
  · exact (cur6.mono fun q hq => by show q < T5.length; omega).set (show S.length ≤ S.length + 2 ∧ S.length + 2 ≤ S.length + 2 by omega)
  · rw [List.range_succ]
    refine All2.append ?_ (.cons ⟨le, rfl, by rw [List.getElem?_set_ne (by omega)]; exact hl6⟩ .nil)
    have aux : ∀ {xs : List D} {ys : List Nat}, (∀ d ∈ xs, ∃ le, d = .ref le ∧ S.length + 2 < le) → All2 (EmAt k s T2) xs ys → All2 (EmAt k s T7) xs ys := by
      intro xs ys hx h
      induction h with
      | nil => exact .nil
      | cons h1 _ ih => exact .cons (keepE _ _ (hx _ (by simp)) h1) (ih fun d hd => hx d (by simp [hd]))
    exact aux hle hall2
  · intro d hd
    rcases List.mem_append.mp hd with z | z
    · exact hle d z
    · simp at z; exact ⟨le, z, by omega⟩
/-- the orbit that the law has computed -/
structure LOrb (k : Deck) (s : St) (limit B : Nat) (S : Store) (d : D) (N : Nat) (st : Option Nat) : Prop where
  orb : Orb k s limit N st
  ex : ∃ ls lm es, d = .tup [.ref ls, .ref lm, optI st] ∧ S[ls]? = some (.lst ((List.range N).map fun j => (k.it s j).nd k)) ∧ S[lm]? = some (.lst es) ∧ All2 (EmAt k s S) es (List.range N) ∧ B ≤ ls ∧ B ≤ lm ∧ ∀ d ∈ es, ∃ le, d = .ref le ∧ B ≤ le
theorem law_orbit {S : Store} {m l limit lc : Nat} {k : Deck} {s : St} {ds : List D} {d : D} (hk : k.ok m) (hm : m ≤ 8) (hs : s.ok k) (hall : All2 (CardAt l S) ds k.cards) (hd : LAt (fun q => S.length ≤ q) S ds d s) (hl : limit ≤ 3000) :
    ∃ (d' : D) (N : Nat) (st : Option Nat) (S' : Store), F_law_orbit S [.tup [.int k.w, .ref lc], d, .int limit] = .ok d' S' ∧ Fr S S' ∧ LOrb k s limit S.length S' d' N st := by
  obtain ⟨N, st, ho⟩ := orb_ex k s limit
  have hN := ho.le
  let T0 : Store := S ++ [.dic []] ++ [.lst []] ++ [.lst []]
  have hI : LO k s ds S 0 d T0 := by
    refine ⟨Fr.refl.app.app.app, (hd.fr Fr.refl.app.app.app).mono fun q hq => hq.1, by simp [T0, seenN], by simp [T0], [], by simp [T0], .nil, by simp⟩
  have halT : ∀ {U : Store}, Fr S U → All2 (CardAt l U) ds k.cards := fun f => hall.imp fun _ _ h => h.fr f
  obtain ⟨r', T', e, d', b6, b7, rfl, hI'⟩ := while_run (t := loTest) (b := loBody)
    (J := fun n r U => ∃ (i : Nat) (d' : D) (a6 a7 : Option D), i + n = N ∧ r = [some (.tup [.int k.w, .ref lc]), some d', some (.int limit), some (.ref S.length), some (.ref (S.length + 1)), some (.ref (S.length + 2)), a6, a7] ∧ LO k s ds S i d' U)
    (Q := fun r U => ∃ (d' : D) (a6 a7 : Option D), r = [some (.tup [.int k.w, .ref lc]), some d', some (.int limit), some (.ref S.length), some (.ref (S.length + 1)), some (.ref (S.length + 2)), a6, a7] ∧ LO k s ds S N d' U)
    (by
      rintro r U ⟨i, d', a6, a7, hi, rfl, hU⟩
      have hi : i = N := by omega
      subst hi
      have hkey := (k.it s i).nkey k
      obtain ⟨U1, e1, f1⟩ := law_named hk hm (Deck.it_ok hk hs i) (halT hU.fr) hU.cur
      have hU1 := hU.app f1
      refine ⟨U1, ?_, d', a6, a7, rfl, hU1⟩
      cases hst : st with
      | some j =>
        obtain ⟨hj, e⟩ := ho.some j hst
        have hsome := seenN_some hk hs hj e ho.inj
        have ni : opDNotIn ((k.it s i).nd k) (.ref S.length) U1 = .ok (.bool false) U1 := by
          simp only [opDNotIn, dic_at hU1.dic, hkey, if_true, hsome]; rfl
        simp only [x_and, x_bl, x_bin, x_callN, x_cons, x_nil, x_var, List.getElem?_cons_succ, List.getElem?_cons_zero, kC_ok, kC2_ok, kCallN_ok, List.length_cons, List.length_nil, if_true, e1, kB_ok, kB2_ok, ni, kBl_ok, kAnd_ok]
        rfl
      | none =>
        obtain ⟨hiL, hna⟩ := ho.none hst
        have hnone : dGet (seenN k s i) ((k.it s i).nd k) = none := seenN_none hk hs fun j hj e => hna ⟨j, hj, e⟩
        have ni : opDNotIn ((k.it s i).nd k) (.ref S.length) U1 = .ok (.bool true) U1 := by
          simp only [opDNotIn, dic_at hU1.dic, hkey, if_true, hnone]; rfl
        have hlen : bLen [.ref (S.length + 1)] U1 = some (.int (i : Nat), U1) := by rw [lenL hU1.sts]; simp
        have lt : opLt (.int (i : Nat)) (.int (limit : Nat)) U1 = .ok (.bool false) U1 := by
          have : ¬ (i : Int) < limit := by omega
          simp only [opLt, decide_eq_false this]
        simp only [x_and, x_bl, x_bin, x_cb, x_callN, x_cons, x_nil, x_var, List.getElem?_cons_succ, List.getElem?_cons_zero, kC_ok, kC2_ok, kCallN_ok, List.length_cons, List.length_nil, if_true, e1, kB_ok, kB2_ok, ni, kBl_ok, kAnd_ok, kCB_ok, hlen, lt])
    (by
      rintro n r U ⟨i, d', a6, a7, hi, rfl, hU⟩
      obtain ⟨U1, U', d'', c6, c7, t1, t2, hU'⟩ := lo_turn (lc := lc) (a6 := a6) (a7 := a7) hk hm hs hall hU (ho.new i (by omega)) (show i < limit by omega) hl
      exact ⟨U1, _, U', t1, t2, i + 1, d'', c6, c7, by omega, rfl, hU'⟩)
    N WFUEL [some (.tup [.int k.w, .ref lc]), some d, some (.int limit), some (.ref S.length), some (.ref (S.length + 1)), some (.ref (S.length + 2)), none, none] T0 (by show N < 100000; omega) ⟨0, d, none, none, by omega, rfl, hI⟩
  obtain ⟨T'', e2, f2⟩ := law_named hk hm (Deck.it_ok hk hs N) (halT hI'.fr) hI'.cur
  have hI2 := hI'.app f2
  obtain ⟨es, m2, hall2, hle⟩ := hI2.ems
  have hkey := (k.it s N).nkey k
  have hget : (dGet (seenN k s N) ((k.it s N).nd k)).getD .none = optI st := by
    cases hst : st with
    | some j =>
      obtain ⟨hj, e⟩ := ho.some j hst
      rw [seenN_some hk hs hj e ho.inj]; rfl
    | none =>
      obtain ⟨_, hna⟩ := ho.none hst
      rw [seenN_none hk hs fun j hj e => hna ⟨j, hj, e⟩]; rfl
  refine ⟨.tup [.ref (S.length + 1), .ref (S.length + 2), optI st], N, st, T'', ?_, hI2.fr, ho, S.length + 1, S.length + 2, es, rfl, hI2.sts, m2, hall2, by omega, by omega, fun d hd => ?_⟩
  · rw [F_law_orbit, fDef_k]
    show kDef ((fSeq _ (fSeq (fWhile _ loTest loBody) _)) [some (.tup [.int k.w, .ref lc]), some d, some (.int limit), none, none, none, none, none] S) = _
    have st1 : fAsg (fTup (fCons (fDic0) (fCons (fLst (fNil)) (fCons (fLst (fNil)) (fNil))))) (gTupl 3 (gsCons (gNm 3) (gsCons (gNm 4) (gsCons (gNm 5) (gsNil))))) [some (.tup [.int k.w, .ref lc]), some d, some (.int limit), none, none, none, none, none] S = .next [some (.tup [.int k.w, .ref lc]), some d, some (.int limit), some (.ref S.length), some (.ref (S.length + 1)), some (.ref (S.length + 2)), none, none] T0 := by
      simp [T0]
    rw [x_seq, st1, k_seq1, x_seq, e, k_seq1]
    simp only [x_ret, x_tup, x_cons, x_nil, x_dgt, x_callN, x_var, List.getElem?_cons_succ, List.getElem?_cons_zero, kC_ok, kC2_ok, kDGet_ok, dic_at hI'.dic, dic_at hI2.dic, kCallN_ok, List.length_cons, List.length_nil, if_true, e2, kDGet2_ok, hkey, hget, kTup_3, kRet_ok, k_def2]
  · obtain ⟨le, h1, h2⟩ := hle d hd
    exact ⟨le, h1, by omega⟩
end M

set_option linter.all false
set_option maxRecDepth 100000
set_option maxHeartbeats 1000000
namespace M
open PySem CL L2
/-! ### decks whose states repeat early -/
theorem for_early {s : Src} {g : FG} {b : FS} {J : CL.Env → Store → Prop} {R : D → Store → Prop} (hst : ∀ r S, J r S → s.still S = true)
    (hstep : ∀ d r S, J r S → ∃ r1 S1, g d r S = .next r1 S1 ∧ ((∃ r2 S2, b r1 S1 = .next r2 S2 ∧ J r2 S2) ∨ ∃ v S2, b r1 S1 = .ret v S2 ∧ R v S2)) :
    ∀ ds r S, J r S → (∃ r' S', forGo s g b ds r S = .next r' S' ∧ J r' S') ∨ ∃ v S', forGo s g b ds r S = .ret v S' ∧ R v S'
  | [], r, S, h => .inl ⟨r, S, by simp [forGo, hst _ _ h], h⟩
  | d :: ds, r, S, h => by
    obtain ⟨r1, S1, e1, h2⟩ := hstep d r S h
    rcases h2 with ⟨r2, S2, e2, h2⟩ | ⟨v, S2, e2, h2⟩
    · rcases for_early hst hstep ds r2 S2 h2 with ⟨r', S', e3, h3⟩ | ⟨v, S', e3, h3⟩
      · exact .inl ⟨r', S', by simp [forGo, hst _ _ h, e1, e2, e3], h3⟩
      · exact .inr ⟨v, S', by simp [forGo, hst _ _ h, e1, e2, e3], h3⟩
    · exact .inr ⟨v, S2, by simp [forGo, hst _ _ h, e1, e2], h2⟩
theorem LAt.lt {Q : Nat → Prop} {S : Store} {ds : List D} {d : D} {s : St} (h : LAt Q S ds d s) : LAt (fun q => S.length ≤ q) S ds d s := by
  obtain ⟨lo, lr, h1, h2, h3, _⟩ := h
  exact ⟨lo, lr, h1, h2, h3, Nat.not_le.mpr (getLt h2), Nat.not_le.mpr (getLt h3)⟩
theorem LOrb.fr {k : Deck} {s : St} {limit B N : Nat} {S S' : Store} {d : D} {st : Option Nat} (h : LOrb k s limit B S d N st) (f : Fr S S') : LOrb k s limit B S' d N st := by
  obtain ⟨h1, ls, lm, es, h2, h3, h4, h5, h6⟩ := h
  exact ⟨h1, ls, lm, es, h2, f.get h3, f.get h4, h5.imp fun _ _ h => h.fr f, h6⟩
theorem LOrb.ev {k : Deck} {s : St} {limit B N l : Nat} {S S' : Store} {d : D} {st : Option Nat} (h : LOrb k s limit B S d N st) (f : Ev l S S') (hB : l < B) : LOrb k s limit B S' d N st := by
  obtain ⟨h1, ls, lm, es, h2, h3, h4, h5, h6, h7, h8⟩ := h
  refine ⟨h1, ls, lm, es, h2, f.get h3 (by omega), f.get h4 (by omega), ?_, h6, h7, h8⟩
  have aux : ∀ {xs : List D} {ys : List Nat}, (∀ d ∈ xs, ∃ le, d = .ref le ∧ B ≤ le) → All2 (EmAt k s S) xs ys → All2 (EmAt k s S') xs ys := by
    intro xs ys hx h
    induction h with
    | nil => exact .nil
    | @cons d j _ _ h1 _ ih =>
      refine .cons ?_ (ih fun d hd => hx d (by simp [hd]))
      obtain ⟨le, e1, e2⟩ := h1
      obtain ⟨le', e3, e4⟩ := hx d (by simp)
      rw [e1] at e3; cases e3
      exact ⟨le, e1, f.get e2 (by omega)⟩
  exact aux h8 h5
theorem LOrb.low {k : Deck} {s : St} {limit B C N : Nat} {S : Store} {d : D} {st : Option Nat} (h : LOrb k s limit B S d N st) (hc : C ≤ B) : LOrb k s limit C S d N st := by
  obtain ⟨h1, ls, lm, es, h2, h3, h4, h5, h6, h7, h8⟩ := h
  refine ⟨h1, ls, lm, es, h2, h3, h4, h5, by omega, by omega, fun d hd => ?_⟩
  obtain ⟨le, e1, e2⟩ := h8 d hd
  exact ⟨le, e1, by omega⟩
abbrev fOrb : FE := fCallN 3 F_law_orbit (fCons (fVar 3) (fCons (fCallN 1 F_law_start (fCons (fVar 3) (fNil))) (fCons (fC (.int 90)) (fNil))))
theorem orb_from {S : Store} {m l : Nat} {k : Deck} {d : D} (hk : k.ok m) (hm : m ≤ 8) (hd : DeckAt l S d k) :
    ∃ (od : D) (N : Nat) (st : Option Nat) (S' : Store), (∀ r : CL.Env, r[3]? = some (some d) → fOrb r S = .ok od S') ∧ Fr S S' ∧ LOrb k k.init 90 S.length S' od N st := by
  obtain ⟨lc, ds, rfl, hne, hlc, hall⟩ := hd
  obtain ⟨S1, e1, f1, hL⟩ := law_start (k := k) hall.length hlc
  obtain ⟨od, N, st, S2, e2, f2, ho⟩ := law_orbit (limit := 90) (lc := lc) hk hm (Deck.init_ok hk) (hall.imp fun _ _ h => h.fr f1) hL.lt (by decide)
  have e2 : F_law_orbit S1 [.tup [.int k.w, .ref lc], .tup [.ref S.length, .ref (S.length + 1)], .int 90] = .ok od S2 := e2
  refine ⟨od, N, st, S2, fun r hr => ?_, f1.trans f2, ho.low f1.len⟩
  simp only [x_callN, x_cons, x_nil, x_var, x_c, hr, kC_ok, kC2_ok, kCallN_ok, List.length_cons, List.length_nil, if_true, e1, e2]
def deck0 (w : Nat) : Deck := ⟨w + 8, [⟨"a", [.add 0 1, .emitR 0], .fix 1⟩, ⟨"b", [], .test 1 1 2⟩]⟩
def deck1 (w : Nat) : Deck := ⟨w, [⟨"a", [.add 0 1], .test 0 1 0⟩, ⟨"b", [.add 1 1], .test 1 2 1⟩, ⟨"c", [.emitN 1], .fix 2⟩]⟩
def deck2 : Deck := ⟨3, [⟨"a", [.add 0 1, .emitR 0], .fix 1⟩, ⟨"b", [], .reg 0⟩]⟩
theorem deck0_ok {w m : Nat} (hw : w < 3) (hm : 3 ≤ m) : (deck0 (5 + w)).ok m := by
  refine ⟨by simp [deck0], by simp [deck0]; omega, by simp [deck0], by simp [deck0]; omega, ?_, by show (["a", "b"] : List Str).Nodup; decide +kernel⟩
  intro c hc
  simp [deck0] at hc
  rcases hc with rfl | rfl
  · exact ⟨by decide +kernel, by decide, by intro a ha; simp at ha; rcases ha with rfl | rfl <;> simp [Act.ok, deck0], by simp [Put.ok]⟩
  · exact ⟨by decide +kernel, by decide, by simp, by simp [Put.ok]⟩
theorem deck1_ok {w m : Nat} (hw : w < 3) (hm : 3 ≤ m) : (deck1 (5 + w)).ok m := by
  refine ⟨by simp [deck1]; omega, by simp [deck1]; omega, by simp [deck1], by simp [deck1]; omega, ?_, by show (["a", "b", "c"] : List Str).Nodup; decide +kernel⟩
  intro c hc
  simp [deck1] at hc
  rcases hc with rfl | rfl | rfl
  · exact ⟨by decide +kernel, by decide, by intro a ha; simp at ha; subst ha; simp [Act.ok, deck1]; omega, by simp [Put.ok]⟩
  · exact ⟨by decide +kernel, by decide, by intro a ha; simp at ha; subst ha; simp [Act.ok, deck1]; omega, by simp [Put.ok]⟩
  · exact ⟨by decide +kernel, by decide, by intro a ha; simp at ha; subst ha; simp [Act.ok, deck1]; omega, by simp [Put.ok]⟩
theorem deck2_ok {m : Nat} (hm : 3 ≤ m) : deck2.ok m := by
  refine ⟨by simp [deck2], by simp [deck2], by simp [deck2], by simp [deck2]; omega, ?_, by decide +kernel⟩
  intro c hc
  simp [deck2] at hc
  rcases hc with rfl | rfl
  · exact ⟨by decide +kernel, by decide, by intro a ha; simp at ha; rcases ha with rfl | rfl <;> simp [Act.ok, deck2], by simp [Put.ok]⟩
  · exact ⟨by decide +kernel, by decide, by simp, by simp [Put.ok]⟩
theorem deck2_again : deck2.again deck2.init 6 := ⟨5, by decide, by rfl⟩
theorem deck2_short {N : Nat} {st : Option Nat} (h : Orb deck2 deck2.init 90 N st) : ∃ j, st = some j := by
  cases st with
  | some j => exact ⟨j, rfl⟩
  | none =>
    have := (h.none rfl).1
    exact absurd deck2_again (h.new 6 (by omega))
theorem Deck.ok.wide {k : Deck} {m n : Nat} (h : k.ok m) (hn : m ≤ n) : k.ok n := by
  obtain ⟨h1, h2, h3, h4, h5, h6⟩ := h
  exact ⟨h1, h2, h3, by omega, h5, h6⟩
/-- what law_short_deck returns -/
structure Short (l m : Nat) (B : Nat) (S : Store) (d od : D) (k : Deck) (N j : Nat) : Prop where
  ok : k.ok m
  at_ : DeckAt l S d k
  orb : LOrb k k.init 90 B S od N (some j)
abbrev mk0 : FS := fAsg (fTup (fCons (fBin opAdd (fVar 5) (fC (.int 8))) (fCons (fLst (fCons (fTup (fCons (fC (.str "a")) (fCons (fLst (fCons (fTup (fCons (fC (.str "add")) (fCons (fC (.int 0)) (fCons (fC (.int 1)) (fNil))))) (fCons (fTup (fCons (fC (.str "emit")) (fCons (fC (.int 0)) (fCons (fC (.int 0)) (fNil))))) (fNil)))) (fCons (fTup (fCons (fC .none) (fCons (fC (.int 1)) (fCons (fC (.int 1)) (fNil))))) (fNil))))) (fCons (fTup (fCons (fC (.str "b")) (fCons (fLst (fNil)) (fCons (fTup (fCons (fC (.int 1)) (fCons (fC (.int 1)) (fCons (fC (.int 2)) (fNil))))) (fNil))))) (fNil)))) (fNil)))) (gNm 3)
abbrev mk1 : FS := fSeq (fAsg (fLst (fCons (fTup (fCons (fC (.str "a")) (fCons (fLst (fCons (fTup (fCons (fC (.str "add")) (fCons (fC (.int 0)) (fCons (fC (.int 1)) (fNil))))) (fNil))) (fCons (fTup (fCons (fC (.int 0)) (fCons (fC (.int 1)) (fCons (fC (.int 0)) (fNil))))) (fNil))))) (fCons (fTup (fCons (fC (.str "b")) (fCons (fLst (fCons (fTup (fCons (fC (.str "add")) (fCons (fC (.int 1)) (fCons (fC (.int 1)) (fNil))))) (fNil))) (fCons (fTup (fCons (fC (.int 1)) (fCons (fC (.int 2)) (fCons (fC (.int 1)) (fNil))))) (fNil))))) (fNil)))) (gNm 6)) (fAsg (fTup (fCons (fVar 5) (fCons (fBin opAdd (fVar 6) (fLst (fCons (fTup (fCons (fC (.str "c")) (fCons (fLst (fCons (fTup (fCons (fC (.str "emit")) (fCons (fC .none) (fCons (fC (.int 1)) (fNil))))) (fNil))) (fCons (fTup (fCons (fC .none) (fCons (fC (.int 2)) (fCons (fC (.int 2)) (fNil))))) (fNil))))) (fNil)))) (fNil)))) (gNm 3))
abbrev mk2 : FS := fAsg (fTup (fCons (fC (.int 3)) (fCons (fLst (fCons (fTup (fCons (fC (.str "a")) (fCons (fLst (fCons (fTup (fCons (fC (.str "add")) (fCons (fC (.int 0)) (fCons (fC (.int 1)) (fNil))))) (fCons (fTup (fCons (fC (.str "emit")) (fCons (fC (.int 0)) (fCons (fC (.int 0)) (fNil))))) (fNil)))) (fCons (fTup (fCons (fC .none) (fCons (fC (.int 1)) (fCons (fC (.int 1)) (fNil))))) (fNil))))) (fCons (fTup (fCons (fC (.str "b")) (fCons (fLst (fNil)) (fCons (fTup (fCons (fC (.int 0)) (fCons (fC (.int 0)) (fCons (fC .none) (fNil))))) (fNil))))) (fNil)))) (fNil)))) (gNm 3)
theorem mk0_run {S : Store} {l q : Nat} (g : Gd l S) {x0 x1 x2 x3 x4 x6 x7 : Option D} : ∃ (d : D) (S' : Store), mk0 [x0, x1, x2, x3, x4, some (.int (5 + (q : Nat))), x6, x7] S = .next [x0, x1, x2, some d, x4, some (.int (5 + (q : Nat))), x6, x7] S' ∧ Fr S S' ∧ DeckAt l S' d (deck0 (5 + q)) := by
  let A : Store := S ++ [.lst [.tup [.str "add", .int 0, .int 1], .tup [.str "emit", .int 0, .int 0]]] ++ [.lst []] ++ [.lst [.tup [.str "a", .ref S.length, .tup [.none, .int 1, .int 1]], .tup [.str "b", .ref (S.length + 1), .tup [.int 1, .int 1, .int 2]]]]
  have gl := g.lt
  refine ⟨.tup [.int (5 + (q : Nat) + 8), .ref (S.length + 2)], A, by simp [opAdd, LINE, A], Fr.refl.app.app.app, S.length + 2, [.tup [.str "a", .ref S.length, .tup [.none, .int 1, .int 1]], .tup [.str "b", .ref (S.length + 1), .tup [.int 1, .int 1, .int 2]]], by simp [deck0], by omega, by simp [A], ?_⟩
  refine .cons ⟨S.length, rfl, by omega, by simp [A, Act.d]⟩ (.cons ⟨S.length + 1, rfl, by omega, by simp [A]⟩ .nil)
theorem mk1_run {S : Store} {l q : Nat} (g : Gd l S) {x0 x1 x2 x3 x4 x6 x7 : Option D} : ∃ (d : D) (y6 : Option D) (S' : Store), mk1 [x0, x1, x2, x3, x4, some (.int (5 + (q : Nat))), x6, x7] S = .next [x0, x1, x2, some d, x4, some (.int (5 + (q : Nat))), y6, x7] S' ∧ Fr S S' ∧ DeckAt l S' d (deck1 (5 + q)) := by
  let c1 : D := .tup [.str "a", .ref S.length, .tup [.int 0, .int 1, .int 0]]
  let c2 : D := .tup [.str "b", .ref (S.length + 1), .tup [.int 1, .int 2, .int 1]]
  let c3 : D := .tup [.str "c", .ref (S.length + 3), .tup [.none, .int 2, .int 2]]
  let A : Store := S ++ [.lst [.tup [.str "add", .int 0, .int 1]]] ++ [.lst [.tup [.str "add", .int 1, .int 1]]] ++ [.lst [c1, c2]] ++ [.lst [.tup [.str "emit", .none, .int 1]]] ++ [.lst [c3]]
  let A' : Store := A ++ [.lst [c1, c2, c3]]
  have gl := g.lt
  have h1 : A[S.length + 2]? = some (.lst [c1, c2]) := by simp [A]
  have h2 : A[S.length + 4]? = some (.lst [c3]) := by simp [A]
  have ad : opAdd (.ref (S.length + 2)) (.ref (S.length + 4)) A = .ok (.ref (S.length + 5)) A' := by
    have := addL h1 h2 (by simp)
    rw [show A.length = S.length + 5 by simp [A]] at this
    exact this
  simp [A] at ad
  refine ⟨.tup [.int (5 + (q : Nat)), .ref (S.length + 5)], some (.ref (S.length + 2)), A', by simp [LINE, c1, c2, c3] at ad ⊢; simp [ad], Fr.refl.app.app.app.app.app.app, S.length + 5, [c1, c2, c3], by simp [deck1], by omega, by simp [A, A'], ?_⟩
  refine .cons ⟨S.length, rfl, by omega, by simp [A, A', Act.d]⟩ (.cons ⟨S.length + 1, rfl, by omega, by simp [A, A', Act.d]⟩ (.cons ⟨S.length + 3, rfl, by omega, by simp [A, A', Act.d]⟩ .nil))
theorem mk2_run {S : Store} {l : Nat} (g : Gd l S) {x0 x1 x2 x3 x4 x5 x6 x7 : Option D} : ∃ (d : D) (S' : Store), mk2 [x0, x1, x2, x3, x4, x5, x6, x7] S = .next [x0, x1, x2, some d, x4, x5, x6, x7] S' ∧ Fr S S' ∧ DeckAt l S' d deck2 := by
  let A : Store := S ++ [.lst [.tup [.str "add", .int 0, .int 1], .tup [.str "emit", .int 0, .int 0]]] ++ [.lst []] ++ [.lst [.tup [.str "a", .ref S.length, .tup [.none, .int 1, .int 1]], .tup [.str "b", .ref (S.length + 1), .tup [.int 0, .int 0, .none]]]]
  have gl := g.lt
  refine ⟨.tup [.int 3, .ref (S.length + 2)], A, by simp [opAdd, LINE, A], Fr.refl.app.app.app, S.length + 2, [.tup [.str "a", .ref S.length, .tup [.none, .int 1, .int 1]], .tup [.str "b", .ref (S.length + 1), .tup [.int 0, .int 0, .none]]], by simp [deck2], by omega, by simp [A], ?_⟩
  refine .cons ⟨S.length, rfl, by omega, by simp [A, Act.d]⟩ (.cons ⟨S.length + 1, rfl, by omega, by simp [A]⟩ .nil)
abbrev sdBody : FS := (fSeq (fAsg (fCallN 2 F_law_deck (fCons (fVar 0) (fCons (fVar 1) (fNil)))) (gNm 3)) (fSeq (fAsg (fTup (fCons (fCallN 2 F_law_below (fCons (fVar 0) (fCons (fC (.int 9)) (fNil)))) (fCons (fBin opAdd (fC (.int 5)) (fCallN 2 F_law_below (fCons (fVar 0) (fCons (fC (.int 3)) (fNil))))) (fNil)))) (gTupl 2 (gsCons (gNm 4) (gsCons (gNm 5) (gsNil))))) (fSeq (fIf (fBl (fBin opEq (fVar 4) (fC (.int 0)))) mk0 (fPass)) (fSeq (fIf (fBl (fBin opEq (fVar 4) (fC (.int 1)))) mk1 (fPass)) (fSeq (fAsg fOrb (gNm 7)) (fIf (fBl (fBin opNotN (fBin opIx (fVar 7) (fC (.int 2))) (fC .none))) (fRet (fTup (fCons (fVar 3) (fCons (fVar 7) (fNil))))) (fPass)))))))
theorem sd_pick {S : Store} {l most m q c : Nat} {d : D} {k : Deck} {x2 x6 x7 : Option D} (g : Gd l S) (hk : k.ok m) (h3 : 3 ≤ m) (hq : q < 3) (hd : DeckAt l S d k) (p : FS) : ∃ (k' : Deck) (d' : D) (y6 : Option D) (S' : Store), (fSeq (fIf (fBl (fBin opEq (fVar 4) (fC (.int 0)))) mk0 (fPass)) (fSeq (fIf (fBl (fBin opEq (fVar 4) (fC (.int 1)))) mk1 (fPass)) p)) [some (.ref l), some (.int most), x2, some d, some (.int c), some (.int (5 + (q : Nat))), x6, x7] S = p [some (.ref l), some (.int most), x2, some d', some (.int c), some (.int (5 + (q : Nat))), y6, x7] S' ∧ Fr S S' ∧ k'.ok m ∧ DeckAt l S' d' k' := by
  have eq : ∀ (a b : Nat) (U : Store), opEq (.int a) (.int b) U = .ok (.bool (decide (a = b))) U := fun a b U => by
    simp only [opEq, eqD]; congr 2; exact decide_eq_decide.mpr Int.ofNat_inj
  have eq0 : ∀ U, opEq (.int c) (.int 0) U = .ok (.bool (decide (c = 0))) U := fun U => eq c 0 U
  have eq1 : ∀ U, opEq (.int c) (.int 1) U = .ok (.bool (decide (c = 1))) U := fun U => eq c 1 U
  by_cases h0 : c = 0
  · obtain ⟨d', S', e, f, h⟩ := mk0_run (q := q) g (x0 := some (.ref l)) (x1 := some (.int most)) (x2 := x2) (x3 := some d) (x4 := some (.int c)) (x6 := x6) (x7 := x7)
    refine ⟨deck0 (5 + q), d', x6, S', ?_, f, deck0_ok hq h3, h⟩
    have a0 : fIf (fBl (fBin opEq (fVar 4) (fC (.int 0)))) mk0 (fPass) [some (.ref l), some (.int most), x2, some d, some (.int c), some (.int (5 + (q : Nat))), x6, x7] S = .next [some (.ref l), some (.int most), x2, some d', some (.int c), some (.int (5 + (q : Nat))), x6, x7] S' := by
      simp only [x_if, x_bl, x_bin, x_var, x_c, List.getElem?_cons_succ, List.getElem?_cons_zero, kB_ok, kB2_ok, eq0, kBl_ok, kIf_ok, decide_eq_true h0, if_true, e]
    have a1 : fIf (fBl (fBin opEq (fVar 4) (fC (.int 1)))) mk1 (fPass) [some (.ref l), some (.int most), x2, some d', some (.int c), some (.int (5 + (q : Nat))), x6, x7] S' = .next [some (.ref l), some (.int most), x2, some d', some (.int c), some (.int (5 + (q : Nat))), x6, x7] S' := by
      simp only [x_if, x_bl, x_bin, x_var, x_c, List.getElem?_cons_succ, List.getElem?_cons_zero, kB_ok, kB2_ok, eq1, kBl_ok, kIf_ok, decide_eq_false (show ¬ c = 1 by omega)]
      rfl
    rw [x_seq, a0, k_seq1, x_seq, a1, k_seq1]
  · have a0 : fIf (fBl (fBin opEq (fVar 4) (fC (.int 0)))) mk0 (fPass) [some (.ref l), some (.int most), x2, some d, some (.int c), some (.int (5 + (q : Nat))), x6, x7] S = .next [some (.ref l), some (.int most), x2, some d, some (.int c), some (.int (5 + (q : Nat))), x6, x7] S := by
      simp only [x_if, x_bl, x_bin, x_var, x_c, List.getElem?_cons_succ, List.getElem?_cons_zero, kB_ok, kB2_ok, eq0, kBl_ok, kIf_ok, decide_eq_false h0]
      rfl
    by_cases h1 : c = 1
    · obtain ⟨d', y6, S', e, f, h⟩ := mk1_run (q := q) g (x0 := some (.ref l)) (x1 := some (.int most)) (x2 := x2) (x3 := some d) (x4 := some (.int c)) (x6 := x6) (x7 := x7)
      refine ⟨deck1 (5 + q), d', y6, S', ?_, f, deck1_ok hq h3, h⟩
      have a1 : fIf (fBl (fBin opEq (fVar 4) (fC (.int 1)))) mk1 (fPass) [some (.ref l), some (.int most), x2, some d, some (.int c), some (.int (5 + (q : Nat))), x6, x7] S = .next [some (.ref l), some (.int most), x2, some d', some (.int c), some (.int (5 + (q : Nat))), y6, x7] S' := by
        simp only [x_if, x_bl, x_bin, x_var, x_c, List.getElem?_cons_succ, List.getElem?_cons_zero, kB_ok, kB2_ok, eq1, kBl_ok, kIf_ok, decide_eq_true h1, if_true]
        exact e
      rw [x_seq, a0, k_seq1, x_seq, a1, k_seq1]
    · refine ⟨k, d, x6, S, ?_, Fr.refl, hk, hd⟩
      have a1 : fIf (fBl (fBin opEq (fVar 4) (fC (.int 1)))) mk1 (fPass) [some (.ref l), some (.int most), x2, some d, some (.int c), some (.int (5 + (q : Nat))), x6, x7] S = .next [some (.ref l), some (.int most), x2, some d, some (.int c), some (.int (5 + (q : Nat))), x6, x7] S := by
        simp only [x_if, x_bl, x_bin, x_var, x_c, List.getElem?_cons_succ, List.getElem?_cons_zero, kB_ok, kB2_ok, eq1, kBl_ok, kIf_ok, decide_eq_false h1]
        rfl
      rw [x_seq, a0, k_seq1, x_seq, a1, k_seq1]
theorem law_short_deck {S : Store} {l most : Nat} (g : Gd l S) (h0 : 1 ≤ most) (h1 : most ≤ 8) : ∃ (d od : D) (k : Deck) (N j : Nat) (S' : Store), F_law_short_deck S [.ref l, .int most] = .ok (.tup [d, od]) S' ∧ Ev l S S' ∧ Short l (max most 3) S.length S' d od k N j := by
  have hm8 : max most 3 ≤ 8 := by omega
  let R : D → Store → Prop := fun v T => ∃ (d od : D) (k : Deck) (N j : Nat), v = .tup [d, od] ∧ Ev l S T ∧ Short l (max most 3) S.length T d od k N j
  let J : CL.Env → Store → Prop := fun r T => ∃ (x2 x3 x4 x5 x6 x7 : Option D), r = [some (.ref l), some (.int most), x2, x3, x4, x5, x6, x7] ∧ Ev l S T
  have hloop := for_early (s := ⟨rngL 0 5, none⟩) (g := gNm 2) (b := sdBody) (J := J) (R := R) (fun _ _ _ => still_none)
    (by
      rintro dd r T ⟨x2, x3, x4, x5, x6, x7, rfl, ev⟩
      refine ⟨[some (.ref l), some (.int most), some dd, x3, x4, x5, x6, x7], T, rfl, ?_⟩
      obtain ⟨k, d, T1, e1, hk, hd, ev1⟩ := law_deck (most := most) ev.2.2 h0 h1
      obtain ⟨c, T2, e2, hc, ev2⟩ := below 9 ev1.2.2 (by decide) (by decide)
      have e2 : F_law_below T1 [.ref l, .int 9] = .ok (.int c) T2 := e2
      obtain ⟨q, T3, e3, hq, ev3⟩ := below 3 ev2.2.2 (by decide) (by decide)
      have e3 : F_law_below T2 [.ref l, .int 3] = .ok (.int q) T3 := e3
      have ev03 := ev.trans (ev1.trans (ev2.trans ev3))
      obtain ⟨k', d', y6, T4, e4, f4, hk', hd'⟩ := sd_pick (x2 := some dd) (x6 := x6) (x7 := x7) (most := most) (c := c) ev3.2.2 (hk.wide (Nat.le_max_left most 3)) (Nat.le_max_right most 3) hq ((hd.ev ev2).ev ev3) (fSeq (fAsg fOrb (gNm 7)) (fIf (fBl (fBin opNotN (fBin opIx (fVar 7) (fC (.int 2))) (fC .none))) (fRet (fTup (fCons (fVar 3) (fCons (fVar 7) (fNil))))) (fPass)))
      have ev4 := ev03.trans (f4.ev ev03.2.2)
      obtain ⟨od, N, st, T5, e5, f5, ho⟩ := orb_from hk' hm8 hd'
      have ev5 := ev4.trans (f5.ev ev4.2.2)
      have st1 : fAsg (fCallN 2 F_law_deck (fCons (fVar 0) (fCons (fVar 1) (fNil)))) (gNm 3) [some (.ref l), some (.int most), some dd, x3, x4, x5, x6, x7] T = .next [some (.ref l), some (.int most), some dd, some d, x4, x5, x6, x7] T1 := by
        simp [e1]
      have ad : opAdd (.int 5) (.int q) T3 = .ok (.int (5 + (q : Nat))) T3 := rfl
      have st2 : fAsg (fTup (fCons (fCallN 2 F_law_below (fCons (fVar 0) (fCons (fC (.int 9)) (fNil)))) (fCons (fBin opAdd (fC (.int 5)) (fCallN 2 F_law_below (fCons (fVar 0) (fCons (fC (.int 3)) (fNil))))) (fNil)))) (gTupl 2 (gsCons (gNm 4) (gsCons (gNm 5) (gsNil)))) [some (.ref l), some (.int most), some dd, some d, x4, x5, x6, x7] T1 = .next [some (.ref l), some (.int most), some dd, some d, some (.int c), some (.int (5 + (q : Nat))), x6, x7] T3 := by
        simp [e2, e3, ad]
      have st5 : fAsg fOrb (gNm 7) [some (.ref l), some (.int most), some dd, some d', some (.int c), some (.int (5 + (q : Nat))), y6, x7] T4 = .next [some (.ref l), some (.int most), some dd, some d', some (.int c), some (.int (5 + (q : Nat))), y6, some od] T5 := by
        rw [x_asg, e5 _ rfl]; rfl
      have hst := ho.ex
      obtain ⟨ls, lm, es, rfl, _⟩ := hst
      cases st with
      | some j =>
        refine .inr ⟨.tup [d', .tup [.ref ls, .ref lm, .int j]], T5, ?_, d', _, k', N, j, rfl, ev5, hk', hd'.fr f5, ho.low ev4.1⟩
        show (fSeq _ (fSeq _ _)) _ T = _
        rw [x_seq, st1, k_seq1, x_seq, st2, k_seq1, e4, x_seq, st5, k_seq1]
        simp [opIx, optI, opNotN, isNone]
      | none =>
        refine .inl ⟨_, T5, ?_, some dd, some d', some (.int c), some (.int (5 + (q : Nat))), y6, some (.tup [.ref ls, .ref lm, optI none]), rfl, ev5⟩
        show (fSeq _ (fSeq _ _)) _ T = _
        rw [x_seq, st1, k_seq1, x_seq, st2, k_seq1, e4, x_seq, st5, k_seq1]
        simp [opIx, optI, opNotN, isNone])
    (rngL 0 5) [some (.ref l), some (.int most), none, none, none, none, none, none] S ⟨none, none, none, none, none, none, rfl, .refl g⟩
  rcases hloop with ⟨r', T, e, x2, x3, x4, x5, x6, x7, rfl, ev⟩ | ⟨v, T, e, d, od, k, N, j, rfl, ev, hsh⟩
  · obtain ⟨d, T1, e1, f1, hd⟩ := mk2_run ev.2.2 (x0 := some (.ref l)) (x1 := some (.int most)) (x2 := x2) (x3 := x3) (x4 := x4) (x5 := x5) (x6 := x6) (x7 := x7)
    have hk : deck2.ok (max most 3) := deck2_ok (Nat.le_max_right most 3)
    obtain ⟨od, N, st, T2, e2, f2, ho⟩ := orb_from hk hm8 hd
    obtain ⟨j, rfl⟩ := deck2_short ho.orb
    have ev1 := ev.trans (f1.ev ev.2.2)
    have ev2 := ev1.trans (f2.ev ev1.2.2)
    refine ⟨d, od, deck2, N, j, T2, ?_, ev2, hk, hd.fr f2, ho.low ev1.1⟩
    rw [F_law_short_deck, fDef_k]
    show kDef ((fSeq (fFor _ _ sdBody) (fSeq mk2 (fRet (fTup (fCons (fVar 3) (fCons fOrb (fNil))))))) [some (.ref l), some (.int most), none, none, none, none, none, none] S) = _
    rw [x_seq, x_for]
    have rg : (iRange1 (fC (.int 5))) [some (.ref l), some (.int most), none, none, none, none, none, none] S = .ok ⟨rngL 0 5, none⟩ S := by simp; decide
    rw [rg]
    simp only [kFor_ok]
    rw [e, k_seq1, x_seq, e1, k_seq1]
    have e2' := e2 [some (.ref l), some (.int most), x2, some d, x4, x5, x6, x7] rfl
    simp only [x_ret, x_tup, x_cons, x_var, List.getElem?_cons_succ, List.getElem?_cons_zero, kC_ok]
    rw [e2']
    simp only [kC_ok, x_nil, kC2_ok, kTup_2, kRet_ok, k_def2]
  · refine ⟨d, od, k, N, j, T, ?_, ev, hsh⟩
    rw [F_law_short_deck, fDef_k]
    show kDef ((fSeq (fFor _ _ sdBody) (fSeq mk2 (fRet (fTup (fCons (fVar 3) (fCons fOrb (fNil))))))) [some (.ref l), some (.int most), none, none, none, none, none, none] S) = _
    rw [x_seq, x_for]
    have rg : (iRange1 (fC (.int 5))) [some (.ref l), some (.int most), none, none, none, none, none, none] S = .ok ⟨rngL 0 5, none⟩ S := by simp; decide
    rw [rg]
    simp only [kFor_ok]
    rw [e]
    rfl
end M

set_option linter.all false
set_option maxRecDepth 100000
set_option maxHeartbeats 1000000
namespace M
open PySem CL L2
/-! ### states come again -/
theorem Deck.it_add (k : Deck) (s : St) (a : Nat) : ∀ b, k.it s (a + b) = k.it (k.it s a) b
  | 0 => rfl
  | b + 1 => by show k.next (k.it s (a + b)) = k.next (k.it (k.it s a) b); rw [Deck.it_add k s a b]
theorem Orb.shift {k : Deck} {s : St} {L N j : Nat} (h : Orb k s L N (.some j)) {i : Nat} (hi : j ≤ i) : k.it s (i + (N - j)) = k.it s i := by
  obtain ⟨h1, h2⟩ := h.some j rfl
  rw [show i + (N - j) = N + (i - j) by omega, Deck.it_add, ← h2, ← Deck.it_add, show j + (i - j) = i by omega]
theorem Orb.shifts {k : Deck} {s : St} {L N j : Nat} (h : Orb k s L N (.some j)) {i : Nat} (hi : j ≤ i) : ∀ c, k.it s (i + c * (N - j)) = k.it s i
  | 0 => by simp
  | c + 1 => by
    rw [show i + (c + 1) * (N - j) = (i + c * (N - j)) + (N - j) by rw [Nat.succ_mul]; omega, h.shift (by omega)]
    exact Orb.shifts h hi c
/-- the index of the state after i steps -/
def idx (N j i : Nat) : Nat := if i < j then i else j + (i - j) % (N - j)
theorem idx_lt {N j : Nat} (h : j < N) (i : Nat) : idx N j i < N := by
  unfold idx
  split
  · omega
  · have := Nat.mod_lt (i - j) (show 0 < N - j by omega)
    omega
theorem idx_self {N j i : Nat} (h : i < N) : idx N j i = i := by
  unfold idx
  split
  · rfl
  · rw [Nat.mod_eq_of_lt (by omega)]; omega
theorem Orb.it_idx {k : Deck} {s : St} {L N j : Nat} (h : Orb k s L N (.some j)) (i : Nat) : k.it s (idx N j i) = k.it s i := by
  unfold idx
  split
  · rfl
  · have e : i = (j + (i - j) % (N - j)) + (i - j) / (N - j) * (N - j) := by
      have := Nat.mod_add_div (i - j) (N - j)
      rw [Nat.mul_comm] at this
      omega
    conv => rhs; rw [e]
    exact (h.shifts (by omega) _).symm
theorem Orb.uniq {k : Deck} {s : St} {L L' N N' j : Nat} {st : Option Nat} (hj : Orb k s L N (.some j)) (ho : Orb k s L' N' st) (hL : N ≤ L') : N' = N ∧ st = .some j := by
  obtain ⟨a1, a2⟩ := hj.some j rfl
  have hN : N' = N := by
    rcases Nat.lt_trichotomy N' N with z | z | z
    · exfalso
      cases hst : st with
      | none => have := (ho.none hst).1; omega
      | some i => obtain ⟨b1, b2⟩ := ho.some i hst; exact hj.new N' z ⟨i, b1, b2⟩
    · exact z
    · exact absurd ⟨j, a1, a2⟩ (ho.new N z)
  subst hN
  refine ⟨rfl, ?_⟩
  cases hst : st with
  | none => exact absurd ⟨j, a1, a2⟩ (ho.none hst).2
  | some i =>
    obtain ⟨b1, b2⟩ := ho.some i hst
    rw [ho.inj i j b1 a1 (b2.trans a2.symm)]
theorem Orb.widen {k : Deck} {s : St} {L L' N j : Nat} (h : Orb k s L N (.some j)) (hL : N ≤ L') : Orb k s L' N (.some j) := ⟨h.new, hL, h.some, fun z => nomatch z⟩
theorem Orb.idx_inj {k : Deck} {s : St} {L N j a b : Nat} (h : Orb k s L N (.some j)) (e : k.it s a = k.it s b) : idx N j a = idx N j b :=
  h.inj _ _ (idx_lt (h.some j rfl).1 a) (idx_lt (h.some j rfl).1 b) (by rw [h.it_idx, h.it_idx, e])
/-- from inside of the cycle -/
theorem Orb.inside {k : Deck} {s : St} {L N j i : Nat} (h : Orb k s L N (.some j)) (hi : j ≤ i) : Orb k (k.it s i) L (N - j) (.some 0) := by
  obtain ⟨h1, h2⟩ := h.some j rfl
  refine ⟨?_, by have := h.le; omega, fun j' hj' => ?_, fun z => nomatch z⟩
  · rintro a ha ⟨b, hb, e⟩
    rw [← Deck.it_add, ← Deck.it_add] at e
    have e := h.idx_inj e
    unfold idx at e
    rw [if_neg (by omega), if_neg (by omega)] at e
    have e : (i + a - j) % (N - j) = (i + b - j) % (N - j) := by omega
    have := Nat.sub_mod_eq_zero_of_mod_eq e
    rw [show i + a - j - (i + b - j) = a - b by omega, Nat.mod_eq_of_lt (by omega)] at this
    omega
  · cases hj'
    refine ⟨by omega, ?_⟩
    show k.it s i = k.it (k.it s i) (N - j)
    rw [← Deck.it_add, h.shift hi]
/-! ### what the machine answers -/
theorem load_t {S : Store} {m : Nat} {k : Deck} (hk : k.ok m) (hm : m ≤ 8) : ∃ S', F_load S [.str k.t] = .ok k.d S' ∧ Fr S S' := by
  have htl := k.len hk hm
  have hsl : (ch k.t).length = k.t.length := by rw [ch_len]
  obtain ⟨S', e, f⟩ := load (S := S) (lex_deck hk) (by omega) hk hm
  rw [mk_ch] at e
  exact ⟨S', e, f⟩
def Start (k : Deck) (sd : D) (s : St) : Prop := (sd = .none ∧ s = k.init) ∨ sd = s.nd k
theorem read_any {S : Store} {m : Nat} {k : Deck} {s : St} {sd : D} (hk : k.ok m) (hm : m ≤ 8) (hs : s.ok k) (h : Start k sd s) : ∃ S', F_read_state S [k.d, sd] = .ok s.d S' ∧ Fr S S' := by
  rcases h with ⟨rfl, rfl⟩ | rfl
  · exact ⟨S, read_none hk hm, Fr.refl⟩
  · exact read_state hk hm hs
theorem find_cycle {S : Store} {m N j : Nat} {k : Deck} {s : St} {sd : D} (hk : k.ok m) (hm : m ≤ 8) (hs : s.ok k) (hst : Start k sd s) (ho : Orb k s 3000 N (some j)) : ∃ S', F_find_cycle S [.str k.t, sd] = .ok (.tup [.int j, .int ((N : Int) - j)]) S' ∧ Fr S S' := by
  obtain ⟨S1, e1, f1⟩ := load_t (S := S) hk hm
  obtain ⟨S2, e2, f2⟩ := read_any (S := S1) hk hm hs hst
  obtain ⟨S3, e3, f3, hO⟩ := orbit_of (S := S2) hk hm hs ho
  obtain ⟨_, _, ls, lm, es, h3, h4, h5⟩ := hO
  have os : fldOf "Orbit" "start" S3 (.ref S2.length) = some (.int j) := orb_start h3
  have ss := orb_states h3
  have ln : bLen [.ref ls] S3 = some (.int (N : Nat), S3) := by rw [lenL h4]; simp
  refine ⟨S3, ?_, f1.trans (f2.trans f3)⟩
  rw [F_find_cycle, fDef_k]
  show kDef ((fSeq _ (fSeq _ _)) [some (.str k.t), some sd, none, none] S) = _
  have st1 : fAsg (fCallN 1 F_load (fCons (fVar 0) (fNil))) (gNm 2) [some (.str k.t), some sd, none, none] S = .next [some (.str k.t), some sd, some k.d, none] S1 := by simp [e1]
  have st2 : fAsg (fCallN 2 F_orbit_of (fCons (fVar 2) (fCons (fCallN 2 F_read_state (fCons (fVar 2) (fCons (fVar 1) (fNil)))) (fNil)))) (gNm 3) [some (.str k.t), some sd, some k.d, none] S1 = .next [some (.str k.t), some sd, some k.d, some (.ref S2.length)] S3 := by simp [e2, e3]
  rw [x_seq, st1, k_seq1, x_seq, st2, k_seq1]
  simp only [x_ret, x_tup, x_cons, x_nil, x_fld, x_bin, x_cb, x_var, List.getElem?_cons_succ, List.getElem?_cons_zero, kFld_ok, os, ss, kC_ok, kC2_ok, kCB_ok, ln, kB_ok, kB2_ok, opSub, kTup_2, kRet_ok, k_def2]
theorem check_count {S : Store} {c : Nat} {hi : Int} (h : (c : Int) ≤ hi) : F_check_count S [.int c, .int hi] = .ok .none S := by
  have e := int_inT (S := S) (b := (c : Int)) (lo := 0) (hi := hi) (by omega) h
  rw [F_check_count, fDef_k]
  simp [e, tru]
theorem orbit_index {S : Store} {lo ls lm N j c : Nat} {d : D} {xs : List D} (h3 : S[lo]? = some (orbO ls lm (.int j) d)) (h4 : S[ls]? = some (.lst xs)) (hx : xs.length = N) (hj : j < N) : F_Orbit_index S [.ref lo, .int c] = .ok (.int (idx N j c : Nat)) S := by
  have os : fldOf "Orbit" "start" S (.ref lo) = some (.int j) := orb_start h3
  have ss := orb_states h3
  have ln : bLen [.ref ls] S = some (.int (N : Nat), S) := by rw [lenL h4, hx]
  rw [F_Orbit_index, fDef_k]
  show kDef ((fSeq _ _) [some (.ref lo), some (.int c)] S) = _
  by_cases hc : c < N
  · have lt : opLt (.int (c : Nat)) (.int (N : Nat)) S = .ok (.bool true) S := by
      have : (c : Int) < N := by omega
      simp only [opLt, decide_eq_true this]
    simp [ss, ln, lt, idx_self hc]
  · have lt : opLt (.int (c : Nat)) (.int (N : Nat)) S = .ok (.bool false) S := by
      have : ¬ (c : Int) < N := by omega
      simp only [opLt, decide_eq_false this]
    have hp : (0 : Int) < (N : Int) - j := by omega
    have e1 : ((c : Int) - j) = ((c - j : Nat) : Int) := by omega
    have e2 : ((N : Int) - j) = ((N - j : Nat) : Int) := by omega
    have e3 : (j : Int) + ((c : Int) - j) % ((N : Int) - j) = ((idx N j c : Nat) : Int) := by
      unfold idx
      rw [if_neg (by omega), e1, e2, ← Int.natCast_emod]
      omega
    have om : opMod (.int ((c : Int) - j)) (.int ((N : Int) - j)) S = .ok (.int (((c : Int) - j) % ((N : Int) - j))) S := by
      simp only [opMod, decide_eq_true hp, if_true]
    have st1 : fIf (fBl (fBin opLt (fVar 1) (fCB bLen (fCons (fFld "Orbit" "states" (fVar 0)) (fNil))))) (fRet (fVar 1)) (fPass) [some (.ref lo), some (.int c)] S = .next [some (.ref lo), some (.int c)] S := by
      simp [ss, ln, lt]
    rw [x_seq, st1, k_seq1]
    simp only [x_ret, x_bin, x_fld, x_cb, x_cons, x_nil, x_var, List.getElem?_cons_succ, List.getElem?_cons_zero, kFld_ok, os, ss, kB_ok, kB2_ok, opSub, kC_ok, kC2_ok, kCB_ok, ln, om, opAdd, e3, kRet_ok, k_def2]
end M

set_option linter.all false
set_option maxRecDepth 100000
set_option maxHeartbeats 1000000
namespace M
open PySem CL L2
theorem min_lit {a : Nat} {S : Store} : bMin [.int a, .int 3000] S = some (.int ((min a 3000 : Nat) : Int), S) := min_nat (b := 3000)
theorem meth_ok {S : Store} {l n : Nat} {c mm : Str} {F : FF} {x : FA} {r : CL.Env} {fs : List (Str × D)} (h : S[l]? = some (.inst c fs)) (hn : fs.lookup mm = none) : kMeth c mm n F x r (.ok (.ref l) S) = kMeth2 n F (.ref l) (x r S) := by
  simp only [kMeth_ok, h, hn, and_self, if_true]
theorem orb_noidx (ls lm : Nat) (sd d : D) : ([("states", .ref ls), ("emitted", .ref lm), ("start", sd), ("last", d)] : List (Str × D)).lookup (Str.ofString "index") = none := by
  have b1 : (Str.ofString "index" == Str.ofString "states") = false := by decide
  have b2 : (Str.ofString "index" == Str.ofString "emitted") = false := by decide
  have b3 : (Str.ofString "index" == Str.ofString "start") = false := by decide
  have b4 : (Str.ofString "index" == Str.ofString "last") = false := by decide
  simp [List.lookup, b1, b2, b3, b4]
theorem state_after {S : Store} {m c : Nat} {k : Deck} {s : St} {sd : D} (hk : k.ok m) (hm : m ≤ 8) (hs : s.ok k) (hst : Start k sd s) (hc : c ≤ 1000000000000000000) (ho : c ≤ 3000 ∨ ∃ N j, Orb k s 3000 N (some j)) : ∃ S', F_state_after S [.str k.t, .int c, sd] = .ok ((k.it s c).nd k) S' ∧ Fr S S' := by
  obtain ⟨S1, e1, f1⟩ := load_t (S := S) hk hm
  have e2 := check_count (S := S1) (c := c) (hi := 1000000000000000000) (by omega)
  obtain ⟨S3, e3, f3⟩ := read_any (S := S1) hk hm hs hst
  obtain ⟨S4, N', st', e4, f4, hO⟩ := make_orbit (S := S3) (limit := min c 3000) hk hm hs (Nat.min_le_right _ _)
  have hOr := hO.orb
  obtain ⟨_, _, ls, lm, es, h3, h4, h5⟩ := hO
  have os := orb_start h3
  have ss := orb_states h3
  have ol := orb_last h3
  have ln : bLen [.ref ls] S4 = some (.int (N' : Nat), S4) := by rw [lenL h4]; simp
  have f14 := f1.trans (f3.trans f4)
  let r : Option D → Option D → Option D → CL.Env := fun a b c' => [some (.str k.t), some (.int c), some sd, a, b, c']
  have st1 : fAsg (fCallN 1 F_load (fCons (fVar 0) (fNil))) (gNm 3) (r none none none) S = .next (r (some k.d) none none) S1 := by simp [r, e1]
  have st2 : fExpr (fCallN 2 F_check_count (fCons (fVar 1) (fCons (fC (.int 1000000000000000000)) (fNil)))) (r (some k.d) none none) S1 = .next (r (some k.d) none none) S1 := by simp [r, e2]
  have st3 : fAsg (fCallN 2 F_read_state (fCons (fVar 3) (fCons (fVar 2) (fNil)))) (gNm 4) (r (some k.d) none none) S1 = .next (r (some k.d) (some s.d) none) S3 := by simp [r, e3]
  have st4 : fAsg (fMake "Orbit" 4 F_Orbit_init (fCons (fVar 3) (fCons (fVar 4) (fCons (fCB bMin (fCons (fVar 1) (fCons (fC (.int 3000)) (fNil)))) (fNil))))) (gNm 5) (r (some k.d) (some s.d) none) S3 = .next (r (some k.d) (some s.d) (some (.ref S3.length))) S4 := by
    simp only [r, x_asg, x_make, x_cons, x_nil, x_cb, x_var, x_c, List.getElem?_cons_succ, List.getElem?_cons_zero, kC_ok, kC2_ok, kCB_ok, min_lit, kMake_ok, List.length_cons, List.length_nil, if_true, e4, kAsg_ok, x_nm]
    rfl
  rw [F_state_after, fDef_k]
  by_cases hret : st' = none ∧ c = N'
  · obtain ⟨rfl, rfl⟩ := hret
    obtain ⟨S5, e5, f5⟩ := named_state (S := S4) hk hm (Deck.it_ok hk hs c)
    refine ⟨S5, ?_, f14.trans f5⟩
    show kDef ((fSeq _ (fSeq _ (fSeq _ (fSeq _ (fSeq _ _))))) (r none none none) S) = _
    rw [x_seq, st1, k_seq1, x_seq, st2, k_seq1, x_seq, st3, k_seq1, x_seq, st4, k_seq1]
    have isn : opIsN (optI none) .none S4 = .ok (.bool true) S4 := rfl
    have eq : opEq (.int (c : Nat)) (.int (c : Nat)) S4 = .ok (.bool true) S4 := by simp [opEq, eqD]
    simp only [r, x_seq, x_if, x_and, x_bl, x_bin, x_fld, x_cb, x_cons, x_nil, x_var, x_c, x_ret, x_callN, List.getElem?_cons_succ, List.getElem?_cons_zero, kFld_ok, os, ss, ol, kB_ok, kB2_ok, isn, kBl_ok, kAnd_ok, if_true, kC_ok, kC2_ok, kCB_ok, ln, eq, kIf_ok, kCallN_ok, List.length_cons, List.length_nil, e5, kRet_ok, k_seq2, k_def2]
  · -- the deck is short
    have hsh : ∃ N j, Orb k s 3000 N (some j) := by
      cases hz : st' with
      | some j =>
        rw [hz] at hOr
        exact ⟨N', j, hOr.widen (by have := hOr.le; omega)⟩
      | none =>
        have hN := (hOr.none hz).1
        rcases ho with ho | ho
        · exact absurd ⟨hz, by omega⟩ hret
        · exact ho
    obtain ⟨N, j, hsh⟩ := hsh
    obtain ⟨S5, e5, f5, hO5⟩ := orbit_of (S := S4) hk hm hs hsh
    obtain ⟨_, _, ls', lm', es', h3', h4', h5'⟩ := hO5
    have hj := (hsh.some j rfl).1
    have ss' := orb_states h3'
    have ei := orbit_index (c := c) (N := N) h3' h4' (by simp) hj
    have hil := idx_lt hj c
    obtain ⟨S6, e6, f6⟩ := named_state (S := S5) hk hm (Deck.it_ok hk hs (idx N j c))
    rw [hsh.it_idx c] at e6
    have ix : opIx (.ref ls') (.int (idx N j c : Nat)) S5 = .ok (k.it s c).d S5 := by
      refine ix_lst h4' ?_
      rw [List.getElem?_map, List.getElem?_range hil]
      simp [hsh.it_idx c]
    refine ⟨S6, ?_, f14.trans (f5.trans f6)⟩
    show kDef ((fSeq _ (fSeq _ (fSeq _ (fSeq _ (fSeq _ (fSeq _ _)))))) (r none none none) S) = _
    have st5 : fIf (fAnd (fBl (fBin opIsN (fFld "Orbit" "start" (fVar 5)) (fC .none))) (fBl (fBin opEq (fVar 1) (fCB bLen (fCons (fFld "Orbit" "states" (fVar 5)) (fNil)))))) (fRet (fCallN 2 F_named_state (fCons (fVar 3) (fCons (fFld "Orbit" "last" (fVar 5)) (fNil))))) (fPass) (r (some k.d) (some s.d) (some (.ref S3.length))) S4 = .next (r (some k.d) (some s.d) (some (.ref S3.length))) S4 := by
      cases hz : st' with
      | some i =>
        rw [hz] at os
        have isn : opIsN (optI (some i)) .none S4 = .ok (.bool false) S4 := rfl
        simp only [r, x_if, x_and, x_bl, x_bin, x_fld, x_var, x_c, List.getElem?_cons_succ, List.getElem?_cons_zero, kFld_ok, os, kB_ok, kB2_ok, isn, kBl_ok, kAnd_ok, kIf_ok]
        rfl
      | none =>
        rw [hz] at os
        have isn : opIsN (optI none) .none S4 = .ok (.bool true) S4 := rfl
        have hne : ¬ (c : Int) = (N' : Nat) := fun e => hret ⟨hz, by omega⟩
        have eq : opEq (.int (c : Nat)) (.int (N' : Nat)) S4 = .ok (.bool false) S4 := by simp only [opEq, eqD, decide_eq_false hne]
        simp only [r, x_if, x_and, x_bl, x_bin, x_fld, x_cb, x_cons, x_nil, x_var, x_c, List.getElem?_cons_succ, List.getElem?_cons_zero, kFld_ok, os, ss, kB_ok, kB2_ok, isn, kBl_ok, kAnd_ok, if_true, kC_ok, kC2_ok, kCB_ok, ln, eq, kIf_ok]
        rfl
    have st6 : fAsg (fCallN 2 F_orbit_of (fCons (fVar 3) (fCons (fVar 4) (fNil)))) (gNm 5) (r (some k.d) (some s.d) (some (.ref S3.length))) S4 = .next (r (some k.d) (some s.d) (some (.ref S4.length))) S5 := by simp [r, e5]
    rw [x_seq, st1, k_seq1, x_seq, st2, k_seq1, x_seq, st3, k_seq1, x_seq, st4, k_seq1, x_seq, st5, k_seq1, x_seq, st6, k_seq1]
    have hmeth := meth_ok (n := 2) (F := F_Orbit_index) (x := fCons (fVar 1) fNil) (r := r (some k.d) (some s.d) (some (.ref S4.length))) (mm := "index") (show S5[S4.length]? = some (.inst "Orbit" _) from h3') (orb_noidx _ _ _ _)
    simp only [r, x_cons, x_nil, x_var, List.getElem?_cons_succ, List.getElem?_cons_zero, kC_ok, kC2_ok, kMeth2_ok, List.length_cons, List.length_nil, if_true, ei] at hmeth
    simp only [r, x_ret, x_callN, x_cons, x_nil, x_bin, x_fld, x_meth, x_var, List.getElem?_cons_succ, List.getElem?_cons_zero, kFld_ok, ss', kB_ok, hmeth, kB2_ok, ix, kC_ok, kC2_ok, kCallN_ok, List.length_cons, List.length_nil, if_true, e6, kRet_ok, k_def2]
/-! ### cards that never act -/
def Deck.tops (k : Deck) (s : St) (N : Nat) : List Nat := (List.range N).map fun i => (k.it s i).ord.headD 0
def Deck.idle (k : Deck) (s : St) (N : Nat) : List Nat := (List.range k.cards.length).filter fun o => !decide (o ∈ k.tops s N)
theorem flat_ints (zs : List Nat) : optAll flatD (nl zs) = some (zs.map fun (n : Nat) => V.int n) := by
  induction zs with
  | nil => rfl
  | cons z zs ih => simp [optAll, flatD, nl] at ih ⊢; simp [ih]
theorem inV_int (w : Nat) (zs : List Nat) : inV (.int w) (zs.map fun (n : Nat) => V.int n) = decide (w ∈ zs) := by
  induction zs with
  | nil => rfl
  | cons z zs ih =>
    have step : inV (.int w) ((z :: zs).map fun (n : Nat) => V.int n) = (decide ((z : Int) = w) || inV (.int w) (zs.map fun (n : Nat) => V.int n)) := rfl
    rw [step, ih]
    by_cases h : z = w
    · subst h; simp
    · have h' : ¬ w = z := fun e => h e.symm
      have h2 : ¬ (z : Int) = w := by omega
      simp [h2, h']
theorem nin_ref {S : Store} {l w : Nat} {zs : List Nat} (h : S[l]? = some (.lst (nl zs))) : opNotIn (.int w) (.ref l) S = .ok (.bool (!decide (w ∈ zs))) S := by
  simp only [opNotIn, inD, h, inSeq, flatD, flat_ints, inV_int]
theorem nin_strs {S : Store} {l : Nat} {w : Str} {zs : List Str} (h : S[l]? = some (.lst (zs.map D.str))) : opNotIn (.str w) (.ref l) S = .ok (.bool (!decide (w ∈ zs))) S := by
  simp only [opNotIn, inD, h, inSeq, flatD, flat_all, inV_str]
theorem lc_fz {α : Type} {Q : D → α → Prop} {h : α → D} {p : α → Bool} {s : Src} {g : FG} {t : FT} {e : FE} {l : Nat} {r0 : CL.Env} {Inv : Store → Prop} (hst : ∀ S, Inv S → s.still S = true) (hset : ∀ S o, Inv S → Inv (S.set l o)) :
    ∀ (ds : List D) (xs : List α) (hq : All2 Q ds xs) (hstep : ∀ d x, x ∈ xs → Q d x → ∀ S acc, Inv S → S[l]? = some (.lst acc) → ∃ r1 S0 S1, g d r0 S = .next r1 S0 ∧ t r1 S0 = .ok (p x) S1 ∧ Inv S1 ∧ S1[l]? = some (.lst acc) ∧ (p x = true → ∃ S', e r1 S1 = .ok (h x) S' ∧ Inv S' ∧ S'[l]? = some (.lst acc))) (S : Store) (acc : List D), Inv S → S[l]? = some (.lst acc) → acc.length + xs.length ≤ LINE →
      ∃ S', lcGo s g t e l r0 ds S = .ok () S' ∧ Inv S' ∧ S'[l]? = some (.lst (acc ++ (xs.filter p).map h))
  | _, _, .nil, _, S, acc, hI, hl, _ => ⟨S, by simp [lcGo, hst S hI], hI, by simpa using hl⟩
  | _, _, .cons (a := d) (b := x) (as := ds) (bs := xs) hd hq, hstep, S, acc, hI, hl, hn => by
    obtain ⟨r1, S0, S1, eg, e0, hI0, hl0, hk⟩ := hstep d x (by simp) hd S acc hI hl
    simp at hn
    cases hp : p x with
    | false =>
      obtain ⟨S2, e2, hI2, hl2⟩ := lc_fz hst hset ds xs hq (fun d' x' hx => hstep d' x' (by simp [hx])) S1 acc hI0 hl0 (by omega)
      exact ⟨S2, by simp [lcGo, hst S hI, eg, e0, hp, e2], hI2, by simpa [hp] using hl2⟩
    | true =>
      obtain ⟨S3, e1, hI1, hl1⟩ := hk hp
      have hlt : l < S3.length := getLt hl1
      obtain ⟨S2, e2, hI2, hl2⟩ := lc_fz hst hset ds xs hq (fun d' x' hx => hstep d' x' (by simp [hx])) (S3.set l (.lst (acc ++ [h x]))) (acc ++ [h x]) (hset _ _ hI1) (set_get hlt) (by simp; omega)
      refine ⟨S2, ?_, hI2, by simpa [hp] using hl2⟩
      have hlen : acc.length < LINE := by omega
      simp [lcGo, hst S hI, eg, e0, hp, e1, hl1, e2, hlen]
theorem pairs_all (f : Card → D) : ∀ (cs : List Card) (i : Nat), All2 (fun d o => ∃ c, cs[o - i]? = some c ∧ i ≤ o ∧ d = .tup [.int (o : Nat), f c]) (pairs i (cs.map f)) ((List.range cs.length).map fun o => i + o)
  | [], i => .nil
  | c :: cs, i => by
    rw [List.length_cons, List.range_succ_eq_map]
    show All2 _ (_ :: pairs (i + 1) (cs.map f)) ((i + 0) :: ((List.range cs.length).map Nat.succ).map fun o => i + o)
    rw [List.map_map]
    refine .cons ⟨c, by simp, by omega, rfl⟩ ?_
    have := pairs_all f cs (i + 1)
    have hfun : ((fun o => i + o) ∘ Nat.succ) = fun o => (i + 1) + o := by funext o; simp; omega
    rw [hfun]
    refine this.imp fun d o h => ?_
    obtain ⟨c', h1, h2, h3⟩ := h
    refine ⟨c', ?_, by omega, h3⟩
    rw [show o - i = (o - (i + 1)) + 1 by omega]
    simpa using h1
theorem idle_cards {S : Store} {m N j : Nat} {k : Deck} {s : St} {sd : D} (hk : k.ok m) (hm : m ≤ 8) (hs : s.ok k) (hst : Start k sd s) (ho : Orb k s 3000 N (some j)) : ∃ (lf : Nat) (S' : Store), F_idle_cards S [.str k.t, sd] = .ok (.ref lf) S' ∧ Fr S S' ∧ S'[lf]? = some (.lst ((k.idle s N).map fun o => D.str (k.nmOf o))) ∧ S.length ≤ lf := by
  have hfew := hk.few
  have hN := ho.le
  obtain ⟨S1, e1, f1⟩ := load_t (S := S) hk hm
  obtain ⟨S2, e2, f2⟩ := read_any (S := S1) hk hm hs hst
  obtain ⟨S3, e3, f3, hO⟩ := orbit_of (S := S2) hk hm hs ho
  obtain ⟨_, _, ls, lm, es, h3, h4, h5⟩ := hO
  have ss := orb_states h3
  let r : Option D → Option D → Option D → Option D → Option D → Option D → CL.Env := fun a b c d e f => [some (.str k.t), some sd, a, b, c, d, e, f]
  obtain ⟨S4, e4, f4, h4l⟩ := lc_map (s := ⟨(List.range N).map fun i => (k.it s i).d, some (ls, (List.range N).map fun i => (k.it s i).d)⟩) (f := fun i => (k.it s i).d) (h := fun i => D.int ((k.it s i).ord.headD 0 : Nat)) (i := 5) (e := fBin opIx (fBin opIx (fVar 5) (fC (.int 0))) (fC (.int 0))) (l := S3.length) (r0 := r (some k.d) (some (.ref S2.length)) none none none none) (Inv := Fr S3)
    (fun T hT => still_lst (hT.get h4)) (fun T o hT => hT.set (Nat.le_refl _)) (List.range N) (fun i hi T acc fr hacc => by
      obtain ⟨o, rest, c, ho, _⟩ := (Deck.it_ok hk hs i).shape hk
      have i0 : opIx (k.it s i).d (.int 0) T = .ok (.tup (nl (k.it s i).ord)) T := rfl
      have i00 : opIx (.tup (nl (k.it s i).ord)) (.int 0) T = .ok (.int ((k.it s i).ord.headD 0 : Nat)) T := by rw [ho]; simp [nl, opIx]
      exact ⟨T, by simp only [r, x_bin, x_var, x_c, List.set_cons_succ, List.set_cons_zero, List.getElem?_cons_succ, List.getElem?_cons_zero, kB_ok, kB2_ok, i0, i00], fr, hacc⟩) (S3 ++ [.lst []]) [] ⟨_, rfl⟩ (by simp) (by simp [LINE]; omega)
  have h4l : S4[S3.length]? = some (.lst (nl (k.tops s N))) := by rw [h4l]; simp [nl, Deck.tops, Function.comp_def]
  have hpa := pairs_all Card.d k.cards 0
  have hr0 : (List.range k.cards.length).map (fun o => 0 + o) = List.range k.cards.length := by simp
  rw [hr0] at hpa
  obtain ⟨S5, e5, f5, h5l⟩ := lc_fz (s := ⟨pairs 0 (k.cards.map Card.d), none⟩) (h := fun o => D.str (k.nmOf o)) (p := fun o => !decide (o ∈ k.tops s N)) (g := gTupl 2 (gsCons (gNm 6) (gsCons (gNm 7) (gsNil)))) (t := fBl (fBin opNotIn (fVar 6) (fVar 4))) (e := fBin opIx (fVar 7) (fC (.int 0))) (l := S4.length) (r0 := r (some k.d) (some (.ref S2.length)) (some (.ref S3.length)) none none none) (Inv := Fr S4)
    (fun _ _ => still_none) (fun T o hT => hT.set (Nat.le_refl _)) _ _ hpa (fun d o ho hq T acc fr hacc => by
      obtain ⟨c, hc, _, rfl⟩ := hq
      have hc : k.cards[o]? = some c := by simpa using hc
      obtain ⟨c', hc', hn, _⟩ := nm_get (show o < k.cards.length by simpa using ho)
      rw [hc] at hc'; cases hc'
      have ni := nin_ref (w := o) (fr.get h4l)
      have ix : opIx c.d (.int 0) T = .ok (.str c.nm) T := by simp [Card.d, opIx]
      refine ⟨r (some k.d) (some (.ref S2.length)) (some (.ref S3.length)) none (some (.int (o : Nat))) (some c.d), T, T, by simp [r], by simp only [r, x_bl, x_bin, x_var, List.getElem?_cons_succ, List.getElem?_cons_zero, kB_ok, kB2_ok, ni, kBl_ok], fr, hacc, fun _ => ⟨T, by simp only [r, x_bin, x_var, x_c, List.getElem?_cons_succ, List.getElem?_cons_zero, kB_ok, kB2_ok, ix, hn], fr, hacc⟩⟩) (S4 ++ [.lst []]) [] ⟨_, rfl⟩ (by simp) (by simp [LINE]; omega)
  have h5l : S5[S4.length]? = some (.lst ((k.idle s N).map fun o => D.str (k.nmOf o))) := h5l
  have f14 := f1.trans (f2.trans (f3.trans f4))
  refine ⟨S4.length, S5, ?_, f14.trans f5, h5l, f14.len⟩
  rw [F_idle_cards, fDef_k]
  show kDef ((fSeq _ (fSeq _ (fSeq _ _))) (r none none none none none none) S) = _
  have st1 : fAsg (fCallN 1 F_load (fCons (fVar 0) (fNil))) (gNm 2) (r none none none none none none) S = .next (r (some k.d) none none none none none) S1 := by simp [r, e1]
  have st2 : fAsg (fCallN 2 F_orbit_of (fCons (fVar 2) (fCons (fCallN 2 F_read_state (fCons (fVar 2) (fCons (fVar 1) (fNil)))) (fNil)))) (gNm 3) (r (some k.d) none none none none none) S1 = .next (r (some k.d) (some (.ref S2.length)) none none none none) S3 := by simp [r, e2, e3]
  have st3 : fAsg (fLc (iSeq (fFld "Orbit" "states" (fVar 3))) (gNm 5) (fYes) (fBin opIx (fBin opIx (fVar 5) (fC (.int 0))) (fC (.int 0))) [5]) (gNm 4) (r (some k.d) (some (.ref S2.length)) none none none none) S3 = .next (r (some k.d) (some (.ref S2.length)) (some (.ref S3.length)) none none none) S4 := by
    simp only [r] at e4
    simp only [r, x_asg, x_lc, x_iSeq, x_fld, x_var, List.getElem?_cons_succ, List.getElem?_cons_zero, kFld_ok, ss, kISeq_ok, seqL h4, kLc_ok, wipeE, List.set_cons_succ, List.set_cons_zero, e4, kLc2_ok, kAsg_ok, x_nm]
  have i1 : opIx k.d (.int 1) S4 = .ok (.tup (k.cards.map Card.d)) S4 := by simp [Deck.d, opIx]
  simp only [r] at e5
  rw [x_seq, st1, k_seq1, x_seq, st2, k_seq1, x_seq, st3, k_seq1]
  simp only [r, x_ret, x_lc, x_enT, x_bin, x_var, x_c, List.getElem?_cons_succ, List.getElem?_cons_zero, kB_ok, kB2_ok, i1, kEnT_ok, kLc_ok, wipeE, List.set_cons_succ, List.set_cons_zero, e5, kLc2_ok, kRet_ok, k_def2]
end M

set_option linter.all false
set_option maxRecDepth 100000
set_option maxHeartbeats 1000000
namespace M
open PySem CL L2
theorem same_flat {S : Store} {n : Nat} (f : Nat → D) (hf : ∀ x, flatB (f x) = true) (xs : List Nat) : All2 (Same S (n + 1)) (xs.map f) (xs.map f) := by
  induction xs with
  | nil => exact .nil
  | cons x xs ih => exact .cons (.inl ⟨rfl, hf x⟩) ih
theorem Same.tup {S : Store} {n : Nat} {ds es : List D} (h : All2 (Same S n) ds es) (hl : ds.length ≤ 1000000) : Same S (n + 1) (.tup ds) (.tup es) := .inr (.inl ⟨ds, es, rfl, rfl, h, hl⟩)
theorem same_nd {S : Store} {m n : Nat} {k : Deck} {s : St} (hk : k.ok m) (hm : m ≤ 8) (hs : s.ok k) : Same S (n + 3) (s.nd k) (s.nd k) := by
  have h1 := hs.len
  have h2 := hs.reg.len
  have h3 := hk.few
  refine Same.tup (.cons (Same.tup (same_flat _ (fun _ => rfl) _) (by simp; omega)) (.cons (Same.tup (same_flat (fun (n : Nat) => D.int n) (fun _ => rfl) s.reg) (by simp; omega)) .nil)) (by simp)
theorem idle_eq {m N : Nat} {k : Deck} {s : St} (hk : k.ok m) (hs : s.ok k) : (k.cards.filter fun c => !decide (c.nm ∈ (k.tops s N).map k.nmOf)).map (fun c => D.str c.nm) = (k.idle s N).map fun o => D.str (k.nmOf o) := by
  have hc := (map_getD (⟨"", [], .fix 0⟩ : Card) k.cards).symm
  conv => lhs; rw [hc]
  rw [List.filter_map, List.map_map]
  unfold Deck.idle
  have hfil : (List.range k.cards.length).filter ((fun c : Card => !decide (c.nm ∈ (k.tops s N).map k.nmOf)) ∘ fun o => k.cards.getD o ⟨"", [], .fix 0⟩) = (List.range k.cards.length).filter fun o => !decide (o ∈ k.tops s N) := by
    apply List.filter_congr
    intro o ho
    have ho : o < k.cards.length := by simpa using ho
    show (!decide (k.nmOf o ∈ (k.tops s N).map k.nmOf)) = !decide (o ∈ k.tops s N)
    congr 1
    apply decide_eq_decide.mpr
    constructor
    · intro h
      obtain ⟨o', h1, h2⟩ := List.mem_map.mp h
      have : o' < k.cards.length := by
        obtain ⟨i, _, rfl⟩ := List.mem_map.mp h1
        obtain ⟨q, rest, c, hq, hlt, _⟩ := (Deck.it_ok hk hs i).shape hk
        rw [hq]; exact hlt
      rw [nmOf_inj hk this ho h2] at h1
      exact h1
    · exact fun h => List.mem_map.mpr ⟨o, h, rfl⟩
  rw [hfil]
  rfl
abbrev fCount : FE := fBin opIx (fLst (fCons (fCallN 2 F_law_below (fCons (fVar 1) (fCons (fC (.int 400)) (fNil)))) (fCons (fBin opPow (fC (.int 10)) (fC (.int 18))) (fCons (fBin opSub (fBin opPow (fC (.int 10)) (fC (.int 18))) (fCallN 2 F_law_below (fCons (fVar 1) (fCons (fBin opPow (fC (.int 10)) (fC (.int 9))) (fNil))))) (fNil))))) (fCallN 2 F_law_below (fCons (fVar 1) (fCons (fC (.int 3)) (fNil))))
theorem pow18 (S : Store) : opPow (.int 10) (.int 18) S = .ok (.int 1000000000000000000) S := by simp [opPow]
theorem pow9 (S : Store) : opPow (.int 10) (.int 9) S = .ok (.int 1000000000) S := by simp [opPow]
theorem pickCount {S : Store} {l : Nat} (g : Gd l S) : ∃ (c : Nat) (S' : Store), (∀ r : CL.Env, r[1]? = some (some (.ref l)) → fCount r S = .ok (.int (c : Nat)) S') ∧ c ≤ 1000000000000000000 ∧ Ev l S S' := by
  obtain ⟨a, S1, e1, ha, ev1⟩ := below 400 g (by decide) (by decide)
  have e1 : F_law_below S [.ref l, .int 400] = .ok (.int a) S1 := e1
  obtain ⟨b, S2, e2, hb, ev2⟩ := below 1000000000 ev1.2.2 (by decide) (by decide)
  have e2 : F_law_below S1 [.ref l, .int 1000000000] = .ok (.int b) S2 := e2
  obtain ⟨p, S3, e3, hp, ev3⟩ := below (S := S2 ++ [.lst [.int a, .int 1000000000000000000, .int (1000000000000000000 - b)]]) 3 ev2.2.2.app (by decide) (by decide)
  have e3 : F_law_below (S2 ++ [.lst [.int a, .int 1000000000000000000, .int (1000000000000000000 - b)]]) [.ref l, .int 3] = .ok (.int p) S3 := e3
  have hn := Ev.new ev2.2.2 ev3
  have ev := ev1.trans (ev2.trans ev3.ofApp)
  have hp' : p = 0 ∨ p = 1 ∨ p = 2 := by omega
  rcases hp' with rfl | rfl | rfl
  · exact ⟨a, S3, fun r hr => by simp [hr, LINE, e1, pow18, pow9, e2, opSub, e3, opIx, hn], by omega, ev⟩
  · exact ⟨1000000000000000000, S3, fun r hr => by simp [hr, LINE, e1, pow18, pow9, e2, opSub, e3, opIx, hn], by omega, ev⟩
  · refine ⟨1000000000000000000 - b, S3, fun r hr => ?_, by omega, ev⟩
    have : ((1000000000000000000 - b : Nat) : Int) = 1000000000000000000 - b := by omega
    rw [this]
    simp [hr, LINE, e1, pow18, pow9, e2, opSub, e3, opIx, hn]
end M

set_option linter.all false
set_option maxRecDepth 100000
set_option maxHeartbeats 1000000
namespace M
open PySem CL L2
abbrev lawBody05 : FS := (fSeq (fAsg (fCallN 2 F_law_short_deck (fCons (fVar 1) (fCons (fC (.int 5)) (fNil)))) (gTupl 2 (gsCons (gNm 3) (gsCons (gNm 4) (gsNil))))) (fSeq (fAsg (fTup (fCons (fCallN 1 F_law_text (fCons (fVar 3) (fNil))) (fCons (fBin opSub (fCB bLen (fCons (fBin opIx (fVar 4) (fC (.int 0))) (fNil))) (fBin opIx (fVar 4) (fC (.int 2)))) (fNil)))) (gTupl 2 (gsCons (gNm 5) (gsCons (gNm 6) (gsNil))))) (fSeq (fIf (fNot (fTru (fCallN 2 (F_law_equal 8) (fCons (fCallD 2 F_find_cycle (fCons (fVar 5) (fNil))) (fCons (fTup (fCons (fBin opIx (fVar 4) (fC (.int 2))) (fCons (fVar 6) (fNil)))) (fNil)))))) (fRet (fC (.bool false))) (fPass)) (fSeq (fAsg (fBin opIx (fLst (fCons (fCallN 2 F_law_below (fCons (fVar 1) (fCons (fC (.int 400)) (fNil)))) (fCons (fBin opPow (fC (.int 10)) (fC (.int 18))) (fCons (fBin opSub (fBin opPow (fC (.int 10)) (fC (.int 18))) (fCallN 2 F_law_below (fCons (fVar 1) (fCons (fBin opPow (fC (.int 10)) (fC (.int 9))) (fNil))))) (fNil))))) (fCallN 2 F_law_below (fCons (fVar 1) (fCons (fC (.int 3)) (fNil))))) (gNm 7)) (fSeq (fAsg (fIfE (fBl (fBin opLt (fVar 7) (fBin opIx (fVar 4) (fC (.int 2))))) (fVar 7) (fBin opAdd (fBin opIx (fVar 4) (fC (.int 2))) (fBin opMod (fBin opSub (fVar 7) (fBin opIx (fVar 4) (fC (.int 2)))) (fVar 6)))) (gNm 8)) (fSeq (fIf (fNot (fTru (fCallN 2 (F_law_equal 8) (fCons (fCallD 3 F_state_after (fCons (fVar 5) (fCons (fVar 7) (fNil)))) (fCons (fBin opIx (fBin opIx (fVar 4) (fC (.int 0))) (fVar 8)) (fNil)))))) (fRet (fC (.bool false))) (fPass)) (fSeq (fAsg (fLc (iSeq (fBin opIx (fVar 4) (fC (.int 0)))) (gNm 13) (fYes) (fBin opIx (fBin opIx (fVar 13) (fC (.int 0))) (fC (.int 0))) [13]) (gNm 9)) (fSeq (fAsg (fLc (iSeq (fBin opIx (fVar 3) (fC (.int 1)))) (gNm 14) (fBl (fBin opNotIn (fBin opIx (fVar 14) (fC (.int 0))) (fVar 9))) (fBin opIx (fVar 14) (fC (.int 0))) [14]) (gNm 10)) (fSeq (fAsg (fCallD 2 F_idle_cards (fCons (fVar 5) (fNil))) (gNm 11)) (fSeq (fIf (fNot (fTru (fCallN 2 (F_law_equal 8) (fCons (fVar 11) (fCons (fVar 10) (fNil)))))) (fRet (fC (.bool false))) (fPass)) (fSeq (fExpr (fBM "list" mAppend (fVar 11) (fCons (fC (.int 0)) (fNil)))) (fSeq (fAsg (fBin opIx (fBin opIx (fVar 4) (fC (.int 0))) (fBin opAdd (fBin opIx (fVar 4) (fC (.int 2))) (fCallN 2 F_law_below (fCons (fVar 1) (fCons (fVar 6) (fNil)))))) (gNm 12)) (fIf (fNot (fTru (fCallN 2 (F_law_equal 8) (fCons (fCallK 2 F_find_cycle (fCons (fVar 5) (fNil)) (fVar 12)) (fCons (fTup (fCons (fC (.int 0)) (fCons (fVar 6) (fNil)))) (fNil)))))) (fRet (fC (.bool false))) (fPass))))))))))))))
theorem if_not_eq {r : CL.Env} {S S1 : Store} {a : FE} (h : a r S = .ok (.bool true) S1) : fIf (fNot (fTru a)) (fRet (fC (.bool false))) fPass r S = .next r S1 := by
  simp [h, tru]
theorem law_step05 {S : Store} {l : Nat} {d0 d2 a3 a4 a5 a6 a7 a8 a9 a10 a11 a12 : Option D} (g : Gd l S) :
    ∃ (S' : Store) (b3 b4 b5 b6 b7 b8 b9 b10 b11 b12 : Option D), lawBody05 [d0, some (.ref l), d2, a3, a4, a5, a6, a7, a8, a9, a10, a11, a12, none, none] S = .next [d0, some (.ref l), d2, b3, b4, b5, b6, b7, b8, b9, b10, b11, b12, none, none] S' ∧ Gd l S' := by
  obtain ⟨d, od, k, N, j, S1, e1, ev1, hk, hd, hO⟩ := law_short_deck (most := 5) g (by decide) (by decide)
  have e1 : F_law_short_deck S [.ref l, .int 5] = .ok (.tup [d, od]) S1 := e1
  have hm : max 5 3 ≤ 8 := by decide
  have gl := g.lt
  have hOr := hO.orb
  obtain ⟨_, ls, lm, es, rfl, hls, hlm, hem, hBs, hBm, hBe⟩ := hO
  obtain ⟨hj, hjN⟩ := hOr.some j rfl
  have hN := hOr.le
  have hfew := hk.few
  have hoW := hOr.widen (L' := 3000) (by omega)
  have hs := Deck.init_ok hk
  let od : D := .tup [.ref ls, .ref lm, optI (some j)]
  let ln : Int := (N : Int) - j
  have hln : ln = ((N - j : Nat) : Int) := by show (N : Int) - j = _; omega
  -- 1
  have st1 : fAsg (fCallN 2 F_law_short_deck (fCons (fVar 1) (fCons (fC (.int 5)) (fNil)))) (gTupl 2 (gsCons (gNm 3) (gsCons (gNm 4) (gsNil)))) [d0, some (.ref l), d2, a3, a4, a5, a6, a7, a8, a9, a10, a11, a12, none, none] S = .next [d0, some (.ref l), d2, some d, some od, a5, a6, a7, a8, a9, a10, a11, a12, none, none] S1 := by
    simp [e1, od]
  -- 2
  obtain ⟨S2, e2, f2⟩ := law_text hk hm hd
  have i40 : ∀ U, opIx od (.int 0) U = .ok (.ref ls) U := fun U => rfl
  have i42 : ∀ U, opIx od (.int 2) U = .ok (.int (j : Nat)) U := fun U => rfl
  have len2 : bLen [.ref ls] S2 = some (.int (N : Nat), S2) := by rw [lenL (f2.get hls)]; simp
  have st2 : fAsg (fTup (fCons (fCallN 1 F_law_text (fCons (fVar 3) (fNil))) (fCons (fBin opSub (fCB bLen (fCons (fBin opIx (fVar 4) (fC (.int 0))) (fNil))) (fBin opIx (fVar 4) (fC (.int 2)))) (fNil)))) (gTupl 2 (gsCons (gNm 5) (gsCons (gNm 6) (gsNil)))) [d0, some (.ref l), d2, some d, some od, a5, a6, a7, a8, a9, a10, a11, a12, none, none] S1 = .next [d0, some (.ref l), d2, some d, some od, some (.str k.t), some (.int ln), a7, a8, a9, a10, a11, a12, none, none] S2 := by
    simp only [x_asg, x_tup, x_cons, x_nil, x_callN, x_bin, x_cb, x_var, x_c, List.getElem?_cons_succ, List.getElem?_cons_zero, kC_ok, kC2_ok, kCallN_ok, List.length_cons, List.length_nil, if_true, e2, kB_ok, kB2_ok, i40, i42, kCB_ok, len2, opSub, kTup_2, kAsg_ok, x_tupl, x_gsCons, x_gsNil, x_nm, k_gs1]
    rfl
  -- 3
  obtain ⟨S3, e3, f3⟩ := find_cycle (S := S2) hk hm hs (.inl ⟨rfl, rfl⟩) hoW
  obtain ⟨S3', e3', f3'⟩ := law_equal 8 S3 (.tup [.int (j : Nat), .int ln]) (.tup [.int (j : Nat), .int ln]) (Same.tup (.cons (Same.int _ _ _) (.cons (Same.int _ _ _) .nil)) (by simp))
  have st3 : fIf (fNot (fTru (fCallN 2 (F_law_equal 8) (fCons (fCallD 2 F_find_cycle (fCons (fVar 5) (fNil))) (fCons (fTup (fCons (fBin opIx (fVar 4) (fC (.int 2))) (fCons (fVar 6) (fNil)))) (fNil)))))) (fRet (fC (.bool false))) (fPass) [d0, some (.ref l), d2, some d, some od, some (.str k.t), some (.int ln), a7, a8, a9, a10, a11, a12, none, none] S2 = .next [d0, some (.ref l), d2, some d, some od, some (.str k.t), some (.int ln), a7, a8, a9, a10, a11, a12, none, none] S3' := by
    refine if_not_eq ?_
    simp only [x_callN, x_cons, x_nil, x_callD, x_tup, x_bin, x_var, x_c, List.getElem?_cons_succ, List.getElem?_cons_zero, kC_ok, kC2_ok, kCallD_ok, List.length_cons, List.length_nil, if_true, List.cons_append, List.nil_append, e3, kB_ok, kB2_ok, i42, kTup_2, kCallN_ok]
    exact e3'
  have f13 := f2.trans (f3.trans f3')
  have g3 := f13.gd ev1.2.2
  -- 4
  obtain ⟨c, S4, e4, hc, ev4⟩ := pickCount g3
  have st4 : fAsg (fBin opIx (fLst (fCons (fCallN 2 F_law_below (fCons (fVar 1) (fCons (fC (.int 400)) (fNil)))) (fCons (fBin opPow (fC (.int 10)) (fC (.int 18))) (fCons (fBin opSub (fBin opPow (fC (.int 10)) (fC (.int 18))) (fCallN 2 F_law_below (fCons (fVar 1) (fCons (fBin opPow (fC (.int 10)) (fC (.int 9))) (fNil))))) (fNil))))) (fCallN 2 F_law_below (fCons (fVar 1) (fCons (fC (.int 3)) (fNil))))) (gNm 7) [d0, some (.ref l), d2, some d, some od, some (.str k.t), some (.int ln), a7, a8, a9, a10, a11, a12, none, none] S3' = .next [d0, some (.ref l), d2, some d, some od, some (.str k.t), some (.int ln), some (.int (c : Nat)), a8, a9, a10, a11, a12, none, none] S4 := by
    show fAsg fCount (gNm 7) _ _ = _
    rw [x_asg, e4 _ rfl]; rfl
  -- 5
  have st5 : fAsg (fIfE (fBl (fBin opLt (fVar 7) (fBin opIx (fVar 4) (fC (.int 2))))) (fVar 7) (fBin opAdd (fBin opIx (fVar 4) (fC (.int 2))) (fBin opMod (fBin opSub (fVar 7) (fBin opIx (fVar 4) (fC (.int 2)))) (fVar 6)))) (gNm 8) [d0, some (.ref l), d2, some d, some od, some (.str k.t), some (.int ln), some (.int (c : Nat)), a8, a9, a10, a11, a12, none, none] S4 = .next [d0, some (.ref l), d2, some d, some od, some (.str k.t), some (.int ln), some (.int (c : Nat)), some (.int (idx N j c : Nat)), a9, a10, a11, a12, none, none] S4 := by
    have hp : (0 : Int) < ln := by omega
    by_cases hcj : c < j
    · have lt : opLt (.int (c : Nat)) (.int (j : Nat)) S4 = .ok (.bool true) S4 := by
        have : (c : Int) < j := by omega
        simp only [opLt, decide_eq_true this]
      have hi : idx N j c = c := by unfold idx; rw [if_pos hcj]
      rw [hi]
      simp only [x_asg, x_ifE, x_bl, x_bin, x_var, x_c, List.getElem?_cons_succ, List.getElem?_cons_zero, kB_ok, kB2_ok, i42, lt, kBl_ok, kIfE_ok, if_true, kAsg_ok, x_nm]
      rfl
    · have lt : opLt (.int (c : Nat)) (.int (j : Nat)) S4 = .ok (.bool false) S4 := by
        have : ¬ (c : Int) < j := by omega
        simp only [opLt, decide_eq_false this]
      have e1 : ((c : Int) - j) = ((c - j : Nat) : Int) := by omega
      have e3 : (j : Int) + ((c : Int) - j) % ln = ((idx N j c : Nat) : Int) := by
        unfold idx
        rw [if_neg hcj, e1, hln, ← Int.natCast_emod]
        omega
      have om : opMod (.int ((c : Int) - j)) (.int ln) S4 = .ok (.int (((c : Int) - j) % ln)) S4 := by
        simp only [opMod, decide_eq_true hp, if_true]
      simp only [x_asg, x_ifE, x_bl, x_bin, x_var, x_c, List.getElem?_cons_succ, List.getElem?_cons_zero, kB_ok, kB2_ok, i42, lt, kBl_ok, kIfE_ok]
      rw [if_neg (by decide)]
      simp only [x_bin, x_var, x_c, List.getElem?_cons_succ, List.getElem?_cons_zero, kB_ok, kB2_ok, i42, opSub, om, opAdd, e3, kAsg_ok, x_nm]
      rfl
  -- 6
  obtain ⟨S5, e5, f5⟩ := state_after (S := S4) (c := c) hk hm hs (.inl ⟨rfl, rfl⟩) hc (.inr ⟨N, j, hoW⟩)
  have hls4 : S4[ls]? = some (.lst ((List.range N).map fun i => (k.it k.init i).nd k)) := ev4.get (f13.get hls) (by omega)
  have hls5 := f5.get hls4
  have nth : ∀ {i : Nat} {U : Store}, i < N → U[ls]? = some (.lst ((List.range N).map fun i => (k.it k.init i).nd k)) → opIx (.ref ls) (.int (i : Nat)) U = .ok ((k.it k.init i).nd k) U := fun {i U} hi hU => by
    refine ix_lst hU ?_
    rw [List.getElem?_map, List.getElem?_range hi]; rfl
  have ix5 := nth (idx_lt hj c) hls5
  rw [hOr.it_idx c] at ix5
  obtain ⟨S6, e6, f6⟩ := law_equal 8 S5 ((k.it k.init c).nd k) ((k.it k.init c).nd k) (same_nd hk hm (Deck.it_ok hk hs c))
  have st6 : fIf (fNot (fTru (fCallN 2 (F_law_equal 8) (fCons (fCallD 3 F_state_after (fCons (fVar 5) (fCons (fVar 7) (fNil)))) (fCons (fBin opIx (fBin opIx (fVar 4) (fC (.int 0))) (fVar 8)) (fNil)))))) (fRet (fC (.bool false))) (fPass) [d0, some (.ref l), d2, some d, some od, some (.str k.t), some (.int ln), some (.int (c : Nat)), some (.int (idx N j c : Nat)), a9, a10, a11, a12, none, none] S4 = .next [d0, some (.ref l), d2, some d, some od, some (.str k.t), some (.int ln), some (.int (c : Nat)), some (.int (idx N j c : Nat)), a9, a10, a11, a12, none, none] S6 := by
    refine if_not_eq ?_
    simp only [x_callN, x_cons, x_nil, x_callD, x_tup, x_bin, x_var, x_c, List.getElem?_cons_succ, List.getElem?_cons_zero, kC_ok, kC2_ok, kCallD_ok, List.length_cons, List.length_nil, if_true, List.cons_append, List.nil_append, e5, kB_ok, kB2_ok, i40, ix5, kCallN_ok]
    exact e6
  have hls6 := f6.get hls5
  -- 7
  obtain ⟨S7, e7, f7, h7⟩ := lc_map (s := ⟨(List.range N).map fun i => (k.it k.init i).nd k, some (ls, (List.range N).map fun i => (k.it k.init i).nd k)⟩) (f := fun i => (k.it k.init i).nd k) (h := fun i => D.str (k.nmOf ((k.it k.init i).ord.headD 0))) (i := 13) (e := fBin opIx (fBin opIx (fVar 13) (fC (.int 0))) (fC (.int 0))) (l := S6.length) (r0 := [d0, some (.ref l), d2, some d, some od, some (.str k.t), some (.int ln), some (.int (c : Nat)), some (.int (idx N j c : Nat)), a9, a10, a11, a12, none, none]) (Inv := Fr S6)
    (fun T hT => still_lst (hT.get hls6)) (fun T o hT => hT.set (Nat.le_refl _)) (List.range N) (fun i hi T acc fr hacc => by
      obtain ⟨o, rest, cc, ho, _⟩ := (Deck.it_ok hk hs i).shape hk
      have i0 : opIx ((k.it k.init i).nd k) (.int 0) T = .ok (.tup ((k.it k.init i).ord.map fun o => D.str (k.nmOf o))) T := rfl
      have i00 : opIx (.tup ((k.it k.init i).ord.map fun o => D.str (k.nmOf o))) (.int 0) T = .ok (.str (k.nmOf ((k.it k.init i).ord.headD 0))) T := by rw [ho]; simp [opIx]
      exact ⟨T, by simp only [x_bin, x_var, x_c, List.set_cons_succ, List.set_cons_zero, List.getElem?_cons_succ, List.getElem?_cons_zero, kB_ok, kB2_ok, i0, i00], fr, hacc⟩) (S6 ++ [.lst []]) [] ⟨_, rfl⟩ (by simp) (by simp [LINE]; omega)
  have h7 : S7[S6.length]? = some (.lst (((k.tops k.init N).map k.nmOf).map D.str)) := by rw [h7]; simp [Deck.tops, Function.comp_def]
  have st7 : fAsg (fLc (iSeq (fBin opIx (fVar 4) (fC (.int 0)))) (gNm 13) (fYes) (fBin opIx (fBin opIx (fVar 13) (fC (.int 0))) (fC (.int 0))) [13]) (gNm 9) [d0, some (.ref l), d2, some d, some od, some (.str k.t), some (.int ln), some (.int (c : Nat)), some (.int (idx N j c : Nat)), a9, a10, a11, a12, none, none] S6 = .next [d0, some (.ref l), d2, some d, some od, some (.str k.t), some (.int ln), some (.int (c : Nat)), some (.int (idx N j c : Nat)), some (.ref S6.length), a10, a11, a12, none, none] S7 := by
    simp only [x_asg, x_lc, x_iSeq, x_bin, x_var, x_c, List.getElem?_cons_succ, List.getElem?_cons_zero, kB_ok, kB2_ok, i40, kISeq_ok, seqL hls6, kLc_ok, wipeE, List.set_cons_succ, List.set_cons_zero, e7, kLc2_ok, kAsg_ok, x_nm]
    try rfl
  -- 8
  have hd7 : DeckAt l S7 d k := (((hd.fr f13).ev ev4).fr (f5.trans (f6.trans f7)))
  obtain ⟨lc, ds, rfl, hne, hlc, hall⟩ := hd7
  let dk : D := .tup [.int k.w, .ref lc]
  have i31 : ∀ U, opIx dk (.int 1) U = .ok (.ref lc) U := fun U => rfl
  obtain ⟨S8, e8, f8, h8⟩ := lc_fz (s := ⟨ds, some (lc, ds)⟩) (h := fun c : Card => D.str c.nm) (p := fun c : Card => !decide (c.nm ∈ (k.tops k.init N).map k.nmOf)) (g := gNm 14) (t := fBl (fBin opNotIn (fBin opIx (fVar 14) (fC (.int 0))) (fVar 9))) (e := fBin opIx (fVar 14) (fC (.int 0))) (l := S7.length) (r0 := [d0, some (.ref l), d2, some dk, some od, some (.str k.t), some (.int ln), some (.int (c : Nat)), some (.int (idx N j c : Nat)), some (.ref S6.length), a10, a11, a12, none, none]) (Inv := Fr S7)
    (fun T hT => still_lst (hT.get hlc)) (fun T o hT => hT.set (Nat.le_refl _)) _ _ hall (fun dd cc hc hq T acc fr hacc => by
      obtain ⟨la, rfl, _, _⟩ := hq
      have ni := nin_strs (w := cc.nm) (fr.get h7)
      have ix : opIx (.tup [.str cc.nm, .ref la, cc.put.d]) (.int 0) T = .ok (.str cc.nm) T := rfl
      refine ⟨_, T, T, rfl, by simp only [x_bl, x_bin, x_var, x_c, List.set_cons_succ, List.set_cons_zero, List.getElem?_cons_succ, List.getElem?_cons_zero, kB_ok, kB2_ok, ix, ni, kBl_ok], fr, hacc, fun _ => ⟨T, by simp only [x_bin, x_var, x_c, List.set_cons_succ, List.set_cons_zero, List.getElem?_cons_succ, List.getElem?_cons_zero, kB_ok, kB2_ok, ix], fr, hacc⟩⟩) (S7 ++ [.lst []]) [] ⟨_, rfl⟩ (by simp) (by simp [LINE]; omega)
  have h8 : S8[S7.length]? = some (.lst ((k.idle k.init N).map fun o => D.str (k.nmOf o))) := by rw [h8, ← idle_eq hk hs]; rfl
  have st8 : fAsg (fLc (iSeq (fBin opIx (fVar 3) (fC (.int 1)))) (gNm 14) (fBl (fBin opNotIn (fBin opIx (fVar 14) (fC (.int 0))) (fVar 9))) (fBin opIx (fVar 14) (fC (.int 0))) [14]) (gNm 10) [d0, some (.ref l), d2, some dk, some od, some (.str k.t), some (.int ln), some (.int (c : Nat)), some (.int (idx N j c : Nat)), some (.ref S6.length), a10, a11, a12, none, none] S7 = .next [d0, some (.ref l), d2, some dk, some od, some (.str k.t), some (.int ln), some (.int (c : Nat)), some (.int (idx N j c : Nat)), some (.ref S6.length), some (.ref S7.length), a11, a12, none, none] S8 := by
    simp only [x_asg, x_lc, x_iSeq, x_bin, x_var, x_c, List.getElem?_cons_succ, List.getElem?_cons_zero, kB_ok, kB2_ok, i31, kISeq_ok, seqL hlc, kLc_ok, wipeE, List.set_cons_succ, List.set_cons_zero, e8, kLc2_ok, kAsg_ok, x_nm]
    try rfl
  -- 9
  obtain ⟨lf, S9, e9, f9, h9, hlf⟩ := idle_cards (S := S8) hk hm hs (.inl ⟨rfl, rfl⟩) hoW
  have st9 : fAsg (fCallD 2 F_idle_cards (fCons (fVar 5) (fNil))) (gNm 11) [d0, some (.ref l), d2, some dk, some od, some (.str k.t), some (.int ln), some (.int (c : Nat)), some (.int (idx N j c : Nat)), some (.ref S6.length), some (.ref S7.length), a11, a12, none, none] S8 = .next [d0, some (.ref l), d2, some dk, some od, some (.str k.t), some (.int ln), some (.int (c : Nat)), some (.int (idx N j c : Nat)), some (.ref S6.length), some (.ref S7.length), some (.ref lf), a12, none, none] S9 := by
    simp [e9]
  -- 10
  have hil : (k.idle k.init N).length ≤ 8 := by
    have : (k.idle k.init N).length ≤ (List.range k.cards.length).length := List.length_filter_le _ _
    simp at this; omega
  obtain ⟨S10, e10, f10⟩ := law_equal 8 S9 (.ref lf) (.ref S7.length) (Same.list h9 (f9.get h8) (same_flat _ (fun _ => rfl) _) (by simp; omega))
  have st10 : fIf (fNot (fTru (fCallN 2 (F_law_equal 8) (fCons (fVar 11) (fCons (fVar 10) (fNil)))))) (fRet (fC (.bool false))) (fPass) [d0, some (.ref l), d2, some dk, some od, some (.str k.t), some (.int ln), some (.int (c : Nat)), some (.int (idx N j c : Nat)), some (.ref S6.length), some (.ref S7.length), some (.ref lf), a12, none, none] S9 = .next [d0, some (.ref l), d2, some dk, some od, some (.str k.t), some (.int ln), some (.int (c : Nat)), some (.int (idx N j c : Nat)), some (.ref S6.length), some (.ref S7.length), some (.ref lf), a12, none, none] S10 := by
    refine if_not_eq ?_
    simp only [x_callN, x_cons, x_nil, x_var, List.getElem?_cons_succ, List.getElem?_cons_zero, kC_ok, kC2_ok, kCallN_ok, List.length_cons, List.length_nil, if_true, e10]
  -- 11
  have h10 := f10.get h9
  have f610 : Fr S6 S10 := f7.trans (f8.trans (f9.trans f10))
  have f78 : Fr S6 S8 := f7.trans f8
  let S11 : Store := S10.set lf (.lst ((k.idle k.init N).map (fun o => D.str (k.nmOf o)) ++ [.int 0]))
  have ap : mAppend (.ref lf) [.int 0] S10 = some (.none, S11) := append_ok h10 (by simp; omega)
  have st11 : fExpr (fBM "list" mAppend (fVar 11) (fCons (fC (.int 0)) (fNil))) [d0, some (.ref l), d2, some dk, some od, some (.str k.t), some (.int ln), some (.int (c : Nat)), some (.int (idx N j c : Nat)), some (.ref S6.length), some (.ref S7.length), some (.ref lf), a12, none, none] S10 = .next [d0, some (.ref l), d2, some dk, some od, some (.str k.t), some (.int ln), some (.int (c : Nat)), some (.int (idx N j c : Nat)), some (.ref S6.length), some (.ref S7.length), some (.ref lf), a12, none, none] S11 := by
    simp only [x_expr, x_bm, x_var, x_c, x_cons, x_nil, List.getElem?_cons_succ, List.getElem?_cons_zero, kBM_ok, tyL h10, if_true, kC_ok, kC2_ok, kBM2_ok, ap, kExpr_ok]
  have fr611 : Fr S6 S11 := f610.set (by have := f78.len; omega)
  have g6 : Gd l S6 := (f5.trans f6).gd ev4.2.2
  have g11 : Gd l S11 := fr611.gd g6
  have hls11 := fr611.get hls6
  -- 12
  obtain ⟨q, S12, e12, hq, ev12⟩ := below (N - j) g11 (by omega) (by omega)
  rw [← hln] at e12
  have hls12 := ev12.get hls11 (by omega)
  have hjq : (j : Int) + (q : Nat) = ((j + q : Nat) : Int) := by omega
  have ix12 := nth (show j + q < N by omega) hls12
  have st12 : fAsg (fBin opIx (fBin opIx (fVar 4) (fC (.int 0))) (fBin opAdd (fBin opIx (fVar 4) (fC (.int 2))) (fCallN 2 F_law_below (fCons (fVar 1) (fCons (fVar 6) (fNil)))))) (gNm 12) [d0, some (.ref l), d2, some dk, some od, some (.str k.t), some (.int ln), some (.int (c : Nat)), some (.int (idx N j c : Nat)), some (.ref S6.length), some (.ref S7.length), some (.ref lf), a12, none, none] S11 = .next [d0, some (.ref l), d2, some dk, some od, some (.str k.t), some (.int ln), some (.int (c : Nat)), some (.int (idx N j c : Nat)), some (.ref S6.length), some (.ref S7.length), some (.ref lf), some ((k.it k.init (j + q)).nd k), none, none] S12 := by
    simp only [x_asg, x_bin, x_callN, x_cons, x_nil, x_var, x_c, List.getElem?_cons_succ, List.getElem?_cons_zero, kB_ok, kB2_ok, i40, i42, kC_ok, kC2_ok, kCallN_ok, List.length_cons, List.length_nil, if_true, e12, opAdd, hjq, ix12, kAsg_ok, x_nm]
    rfl
  -- 13
  obtain ⟨S13, e13, f13'⟩ := find_cycle (S := S12) hk hm (Deck.it_ok hk hs (j + q)) (.inr rfl) (hoW.inside (i := j + q) (by omega))
  have hz : ((N - j : Nat) : Int) - ((0 : Nat) : Int) = ln := by omega
  rw [hz] at e13
  have e13 : F_find_cycle S12 [.str k.t, (k.it k.init (j + q)).nd k] = .ok (.tup [.int 0, .int ln]) S13 := e13
  obtain ⟨S14, e14, f14⟩ := law_equal 8 S13 (.tup [.int 0, .int ln]) (.tup [.int 0, .int ln]) (Same.tup (.cons (Same.int _ _ _) (.cons (Same.int _ _ _) .nil)) (by simp))
  have st13 : fIf (fNot (fTru (fCallN 2 (F_law_equal 8) (fCons (fCallK 2 F_find_cycle (fCons (fVar 5) (fNil)) (fVar 12)) (fCons (fTup (fCons (fC (.int 0)) (fCons (fVar 6) (fNil)))) (fNil)))))) (fRet (fC (.bool false))) (fPass) [d0, some (.ref l), d2, some dk, some od, some (.str k.t), some (.int ln), some (.int (c : Nat)), some (.int (idx N j c : Nat)), some (.ref S6.length), some (.ref S7.length), some (.ref lf), some ((k.it k.init (j + q)).nd k), none, none] S12 = .next [d0, some (.ref l), d2, some dk, some od, some (.str k.t), some (.int ln), some (.int (c : Nat)), some (.int (idx N j c : Nat)), some (.ref S6.length), some (.ref S7.length), some (.ref lf), some ((k.it k.init (j + q)).nd k), none, none] S14 := by
    refine if_not_eq ?_
    simp only [x_callN, x_cons, x_nil, x_callK, x_tup, x_var, x_c, List.getElem?_cons_succ, List.getElem?_cons_zero, kC_ok, kC2_ok, kCallK_ok, kCallK2_ok, List.length_cons, List.length_nil, if_true, List.cons_append, List.nil_append, e13, kTup_2, kCallN_ok, e14]
  refine ⟨S14, some dk, some od, some (.str k.t), some (.int ln), some (.int (c : Nat)), some (.int (idx N j c : Nat)), some (.ref S6.length), some (.ref S7.length), some (.ref lf), some ((k.it k.init (j + q)).nd k), ?_, (f13'.trans f14).gd ev12.2.2⟩
  show (fSeq _ (fSeq _ (fSeq _ (fSeq _ (fSeq _ (fSeq _ (fSeq _ (fSeq _ (fSeq _ (fSeq _ (fSeq _ (fSeq _ _)))))))))))) _ _ = _
  rw [x_seq, st1, k_seq1, x_seq, st2, k_seq1, x_seq, st3, k_seq1, x_seq, st4, k_seq1, x_seq, st5, k_seq1, x_seq, st6, k_seq1, x_seq, st7, k_seq1, x_seq, st8, k_seq1, x_seq, st9, k_seq1, x_seq, st10, k_seq1, x_seq, st11, k_seq1, x_seq, st12, k_seq1, st13]
theorem law_true_k05 (ns : List Int) (hn : ns.length ≤ 63) : ∃ S', F_law_k05 [.fro (ns.map .int)] [.ref 0] = .ok (.bool true) S' := by
  obtain ⟨lr, S1, e1, g1, f1, _⟩ := law_random (S := [.fro (ns.map .int)]) (l0 := 0) (salt := 5) rfl hn (by decide) (by decide)
  obtain ⟨r', S', e, a2, a3, a4, a5, a6, a7, a8, a9, a10, a11, a12, rfl, g2⟩ := for_range (g := gNm 2) (b := lawBody05) (n := 3)
    (J := fun i r T => ∃ (a2 a3 a4 a5 a6 a7 a8 a9 a10 a11 a12 : Option D), r = [some (.ref 0), some (.ref lr), a2, a3, a4, a5, a6, a7, a8, a9, a10, a11, a12, none, none] ∧ Gd lr T)
    (by
      rintro i hi r T ⟨a2, a3, a4, a5, a6, a7, a8, a9, a10, a11, a12, rfl, g⟩
      obtain ⟨S', b3, b4, b5, b6, b7, b8, b9, b10, b11, b12, e, g'⟩ := law_step05 (S := T) (l := lr) (d0 := some (.ref 0)) (d2 := some (.int i)) (a3 := a3) (a4 := a4) (a5 := a5) (a6 := a6) (a7 := a7) (a8 := a8) (a9 := a9) (a10 := a10) (a11 := a11) (a12 := a12) g
      exact ⟨_, T, _, S', rfl, e, _, _, _, _, _, _, _, _, _, _, _, rfl, g'⟩)
    (r := [some (.ref 0), some (.ref lr), none, none, none, none, none, none, none, none, none, none, none, none, none]) (S := S1) ⟨none, none, none, none, none, none, none, none, none, none, none, rfl, g1⟩
  refine ⟨S', ?_⟩
  rw [F_law_k05, fDef_k]
  have st1 : fAsg (fCallN 2 F_law_random (fCons (fVar 0) (fCons (fC (.int 5)) (fNil)))) (gNm 1) [some (.ref 0), none, none, none, none, none, none, none, none, none, none, none, none, none, none] [.fro (ns.map .int)] = .next [some (.ref 0), some (.ref lr), none, none, none, none, none, none, none, none, none, none, none, none, none] S1 := by
    simp [e1]
  show kDef ((fSeq _ (fSeq (fFor _ _ lawBody05) _)) [some (.ref 0), none, none, none, none, none, none, none, none, none, none, none, none, none, none] _) = _
  rw [x_seq, st1, k_seq1, x_seq, x_for]
  have e : kFor (gNm 2) lawBody05 [some (.ref 0), some (.ref lr), none, none, none, none, none, none, none, none, none, none, none, none, none] (iRange1 (fC (.int 3)) [some (.ref 0), some (.ref lr), none, none, none, none, none, none, none, none, none, none, none, none, none] S1) = .next [some (.ref 0), some (.ref lr), a2, a3, a4, a5, a6, a7, a8, a9, a10, a11, a12, none, none] S' := e
  rw [e]
  rfl
end M

set_option Elab.async false
set_option linter.all false
set_option maxRecDepth 100000
set_option maxHeartbeats 4000000
namespace M
open PySem PySem.Spec PyProof.Rows L2 CL
def top (i : Nat) : Stmt := PySem.Challenge.pw_deckwork_k05_cycles_of_decks.main.body.getD i (.Pass ⟨0, 0, 0, 0⟩)
def clsBody (s : Stmt) : List Stmt := match s with
  | .ClassDef _ _ _ b _ _ _ _ _ _ _ => b
  | _ => []
def q_law_random : {s : Stmt // s = top 54} := by
  refine ⟨?s, ?h⟩
  case h => conv => rhs; whnf
abbrev s_law_random : Stmt := q_law_random.1
def q_law_below : {s : Stmt // s = top 55} := by
  refine ⟨?s, ?h⟩
  case h => conv => rhs; whnf
abbrev s_law_below : Stmt := q_law_below.1
def q_law_shuffled : {s : Stmt // s = top 56} := by
  refine ⟨?s, ?h⟩
  case h => conv => rhs; whnf
abbrev s_law_shuffled : Stmt := q_law_shuffled.1
def q_law_action : {s : Stmt // s = top 57} := by
  refine ⟨?s, ?h⟩
  case h => conv => rhs; whnf
abbrev s_law_action : Stmt := q_law_action.1
def q_law_put : {s : Stmt // s = top 58} := by
  refine ⟨?s, ?h⟩
  case h => conv => rhs; whnf
abbrev s_law_put : Stmt := q_law_put.1
def q_law_deck : {s : Stmt // s = top 59} := by
  refine ⟨?s, ?h⟩
  case h => conv => rhs; whnf
abbrev s_law_deck : Stmt := q_law_deck.1
def q_law_step : {s : Stmt // s = top 61} := by
  refine ⟨?s, ?h⟩
  case h => conv => rhs; whnf
abbrev s_law_step : Stmt := q_law_step.1
def q_law_named : {s : Stmt // s = top 60} := by
  refine ⟨?s, ?h⟩
  case h => conv => rhs; whnf
abbrev s_law_named : Stmt := q_law_named.1
def q_law_orbit : {s : Stmt // s = top 62} := by
  refine ⟨?s, ?h⟩
  case h => conv => rhs; whnf
abbrev s_law_orbit : Stmt := q_law_orbit.1
def q_law_start : {s : Stmt // s = top 63} := by
  refine ⟨?s, ?h⟩
  case h => conv => rhs; whnf
abbrev s_law_start : Stmt := q_law_start.1
def q_law_short_deck : {s : Stmt // s = top 64} := by
  refine ⟨?s, ?h⟩
  case h => conv => rhs; whnf
abbrev s_law_short_deck : Stmt := q_law_short_deck.1
def q_Token_init : {s : Stmt // s = (clsBody (top 21)).getD 0 (.Pass ⟨0, 0, 0, 0⟩)} := by
  refine ⟨?s, ?h⟩
  case h => conv => rhs; whnf
abbrev s_Token_init : Stmt := q_Token_init.1
def q_run_length : {s : Stmt // s = top 22} := by
  refine ⟨?s, ?h⟩
  case h => conv => rhs; whnf
abbrev s_run_length : Stmt := q_run_length.1
def q_read_token : {s : Stmt // s = top 23} := by
  refine ⟨?s, ?h⟩
  case h => conv => rhs; whnf
abbrev s_read_token : Stmt := q_read_token.1
def q_tokenize : {s : Stmt // s = top 24} := by
  refine ⟨?s, ?h⟩
  case h => conv => rhs; whnf
abbrev s_tokenize : Stmt := q_tokenize.1
def q_Parser_init : {s : Stmt // s = (clsBody (top 32)).getD 0 (.Pass ⟨0, 0, 0, 0⟩)} := by
  refine ⟨?s, ?h⟩
  case h => conv => rhs; whnf
abbrev s_Parser_init : Stmt := q_Parser_init.1
def q_Parser_peek : {s : Stmt // s = (clsBody (top 32)).getD 1 (.Pass ⟨0, 0, 0, 0⟩)} := by
  refine ⟨?s, ?h⟩
  case h => conv => rhs; whnf
abbrev s_Parser_peek : Stmt := q_Parser_peek.1
def q_Parser_expect : {s : Stmt // s = (clsBody (top 32)).getD 3 (.Pass ⟨0, 0, 0, 0⟩)} := by
  refine ⟨?s, ?h⟩
  case h => conv => rhs; whnf
abbrev s_Parser_expect : Stmt := q_Parser_expect.1
def q_Parser_take : {s : Stmt // s = (clsBody (top 32)).getD 2 (.Pass ⟨0, 0, 0, 0⟩)} := by
  refine ⟨?s, ?h⟩
  case h => conv => rhs; whnf
abbrev s_Parser_take : Stmt := q_Parser_take.1
def q_Parser_fault : {s : Stmt // s = (clsBody (top 32)).getD 4 (.Pass ⟨0, 0, 0, 0⟩)} := by
  refine ⟨?s, ?h⟩
  case h => conv => rhs; whnf
abbrev s_Parser_fault : Stmt := q_Parser_fault.1
def q_Orbit_index : {s : Stmt // s = (clsBody (top 47)).getD 1 (.Pass ⟨0, 0, 0, 0⟩)} := by
  refine ⟨?s, ?h⟩
  case h => conv => rhs; whnf
abbrev s_Orbit_index : Stmt := q_Orbit_index.1
def q_Parser_take_register : {s : Stmt // s = (clsBody (top 32)).getD 6 (.Pass ⟨0, 0, 0, 0⟩)} := by
  refine ⟨?s, ?h⟩
  case h => conv => rhs; whnf
abbrev s_Parser_take_register : Stmt := q_Parser_take_register.1
def q_Parser_take_number : {s : Stmt // s = (clsBody (top 32)).getD 5 (.Pass ⟨0, 0, 0, 0⟩)} := by
  refine ⟨?s, ?h⟩
  case h => conv => rhs; whnf
abbrev s_Parser_take_number : Stmt := q_Parser_take_number.1
def q_Parser_parse_put : {s : Stmt // s = (clsBody (top 32)).getD 10 (.Pass ⟨0, 0, 0, 0⟩)} := by
  refine ⟨?s, ?h⟩
  case h => conv => rhs; whnf
abbrev s_Parser_parse_put : Stmt := q_Parser_parse_put.1
def q_Parser_parse_action : {s : Stmt // s = (clsBody (top 32)).getD 9 (.Pass ⟨0, 0, 0, 0⟩)} := by
  refine ⟨?s, ?h⟩
  case h => conv => rhs; whnf
abbrev s_Parser_parse_action : Stmt := q_Parser_parse_action.1
def q_Parser_parse_card : {s : Stmt // s = (clsBody (top 32)).getD 8 (.Pass ⟨0, 0, 0, 0⟩)} := by
  refine ⟨?s, ?h⟩
  case h => conv => rhs; whnf
abbrev s_Parser_parse_card : Stmt := q_Parser_parse_card.1
def q_Parser_parse_deck : {s : Stmt // s = (clsBody (top 32)).getD 7 (.Pass ⟨0, 0, 0, 0⟩)} := by
  refine ⟨?s, ?h⟩
  case h => conv => rhs; whnf
abbrev s_Parser_parse_deck : Stmt := q_Parser_parse_deck.1
def q_load : {s : Stmt // s = top 33} := by
  refine ⟨?s, ?h⟩
  case h => conv => rhs; whnf
abbrev s_load : Stmt := q_load.1
def q_acted : {s : Stmt // s = top 40} := by
  refine ⟨?s, ?h⟩
  case h => conv => rhs; whnf
abbrev s_acted : Stmt := q_acted.1
def q_depth_of : {s : Stmt // s = top 41} := by
  refine ⟨?s, ?h⟩
  case h => conv => rhs; whnf
abbrev s_depth_of : Stmt := q_depth_of.1
def q_after_step : {s : Stmt // s = top 42} := by
  refine ⟨?s, ?h⟩
  case h => conv => rhs; whnf
abbrev s_after_step : Stmt := q_after_step.1
def q_Orbit_init : {s : Stmt // s = (clsBody (top 47)).getD 0 (.Pass ⟨0, 0, 0, 0⟩)} := by
  refine ⟨?s, ?h⟩
  case h => conv => rhs; whnf
abbrev s_Orbit_init : Stmt := q_Orbit_init.1
def q_orbit_of : {s : Stmt // s = top 48} := by
  refine ⟨?s, ?h⟩
  case h => conv => rhs; whnf
abbrev s_orbit_of : Stmt := q_orbit_of.1
def q_initial_state : {s : Stmt // s = top 43} := by
  refine ⟨?s, ?h⟩
  case h => conv => rhs; whnf
abbrev s_initial_state : Stmt := q_initial_state.1
def q_is_int_in : {s : Stmt // s = top 38} := by
  refine ⟨?s, ?h⟩
  case h => conv => rhs; whnf
abbrev s_is_int_in : Stmt := q_is_int_in.1
def q_is_state : {s : Stmt // s = top 44} := by
  refine ⟨?s, ?h⟩
  case h => conv => rhs; whnf
abbrev s_is_state : Stmt := q_is_state.1
def q_read_state : {s : Stmt // s = top 45} := by
  refine ⟨?s, ?h⟩
  case h => conv => rhs; whnf
abbrev s_read_state : Stmt := q_read_state.1
def q_idle_cards : {s : Stmt // s = top 52} := by
  refine ⟨?s, ?h⟩
  case h => conv => rhs; whnf
abbrev s_idle_cards : Stmt := q_idle_cards.1
def q_law_card_text : {s : Stmt // s = top 65} := by
  refine ⟨?s, ?h⟩
  case h => conv => rhs; whnf
abbrev s_law_card_text : Stmt := q_law_card_text.1
def q_law_text : {s : Stmt // s = top 66} := by
  refine ⟨?s, ?h⟩
  case h => conv => rhs; whnf
abbrev s_law_text : Stmt := q_law_text.1
def q_law_equal : {s : Stmt // s = top 67} := by
  refine ⟨?s, ?h⟩
  case h => conv => rhs; whnf
abbrev s_law_equal : Stmt := q_law_equal.1
def q_find_cycle : {s : Stmt // s = top 50} := by
  refine ⟨?s, ?h⟩
  case h => conv => rhs; whnf
abbrev s_find_cycle : Stmt := q_find_cycle.1
def q_check_count : {s : Stmt // s = top 39} := by
  refine ⟨?s, ?h⟩
  case h => conv => rhs; whnf
abbrev s_check_count : Stmt := q_check_count.1
def q_named_state : {s : Stmt // s = top 46} := by
  refine ⟨?s, ?h⟩
  case h => conv => rhs; whnf
abbrev s_named_state : Stmt := q_named_state.1
def q_state_after : {s : Stmt // s = top 49} := by
  refine ⟨?s, ?h⟩
  case h => conv => rhs; whnf
abbrev s_state_after : Stmt := q_state_after.1
def q_law : {s : Stmt // s = top 68} := by
  refine ⟨?s, ?h⟩
  case h => conv => rhs; whnf
abbrev s_law : Stmt := q_law.1
def q_CheckFault_init : {s : Stmt // s = (clsBody (top 3)).getD 0 (.Pass ⟨0, 0, 0, 0⟩)} := by
  refine ⟨?s, ?h⟩
  case h => conv => rhs; whnf
abbrev s_CheckFault_init : Stmt := q_CheckFault_init.1
def q_SyntaxFault_init : {s : Stmt // s = (clsBody (top 2)).getD 0 (.Pass ⟨0, 0, 0, 0⟩)} := by
  refine ⟨?s, ?h⟩
  case h => conv => rhs; whnf
abbrev s_SyntaxFault_init : Stmt := q_SyntaxFault_init.1
def dd_law_random : He.DefD := ⟨("_law_random", none), "_law_random", "_law_random", defArgs s_law_random, defBody s_law_random, defScope s_law_random, [], []⟩
def dd_law_below : He.DefD := ⟨("_law_below", none), "_law_below", "_law_below", defArgs s_law_below, defBody s_law_below, defScope s_law_below, [], []⟩
def dd_law_shuffled : He.DefD := ⟨("_law_shuffled", none), "_law_shuffled", "_law_shuffled", defArgs s_law_shuffled, defBody s_law_shuffled, defScope s_law_shuffled, [], []⟩
def dd_law_action : He.DefD := ⟨("_law_action", none), "_law_action", "_law_action", defArgs s_law_action, defBody s_law_action, defScope s_law_action, [], []⟩
def dd_law_put : He.DefD := ⟨("_law_put", none), "_law_put", "_law_put", defArgs s_law_put, defBody s_law_put, defScope s_law_put, [], []⟩
def dd_law_deck : He.DefD := ⟨("_law_deck", none), "_law_deck", "_law_deck", defArgs s_law_deck, defBody s_law_deck, defScope s_law_deck, [], []⟩
def dd_law_step : He.DefD := ⟨("_law_step", none), "_law_step", "_law_step", defArgs s_law_step, defBody s_law_step, defScope s_law_step, [], []⟩
def dd_law_named : He.DefD := ⟨("_law_named", none), "_law_named", "_law_named", defArgs s_law_named, defBody s_law_named, defScope s_law_named, [], []⟩
def dd_law_orbit : He.DefD := ⟨("_law_orbit", none), "_law_orbit", "_law_orbit", defArgs s_law_orbit, defBody s_law_orbit, defScope s_law_orbit, [], []⟩
def dd_law_start : He.DefD := ⟨("_law_start", none), "_law_start", "_law_start", defArgs s_law_start, defBody s_law_start, defScope s_law_start, [], []⟩
def dd_law_short_deck : He.DefD := ⟨("_law_short_deck", none), "_law_short_deck", "_law_short_deck", defArgs s_law_short_deck, defBody s_law_short_deck, defScope s_law_short_deck, [], []⟩
def dd_Token_init : He.DefD := ⟨("Token", some "__init__"), "__init__", "Token.__init__", defArgs s_Token_init, defBody s_Token_init, defScope s_Token_init, [], []⟩
def dd_run_length : He.DefD := ⟨("run_length", none), "run_length", "run_length", defArgs s_run_length, defBody s_run_length, defScope s_run_length, [], []⟩
def dd_read_token : He.DefD := ⟨("read_token", none), "read_token", "read_token", defArgs s_read_token, defBody s_read_token, defScope s_read_token, [], []⟩
def dd_tokenize : He.DefD := ⟨("tokenize", none), "tokenize", "tokenize", defArgs s_tokenize, defBody s_tokenize, defScope s_tokenize, [], []⟩
def dd_Parser_init : He.DefD := ⟨("Parser", some "__init__"), "__init__", "Parser.__init__", defArgs s_Parser_init, defBody s_Parser_init, defScope s_Parser_init, [], []⟩
def dd_Parser_peek : He.DefD := ⟨("Parser", some "peek"), "peek", "Parser.peek", defArgs s_Parser_peek, defBody s_Parser_peek, defScope s_Parser_peek, [], []⟩
def dd_Parser_expect : He.DefD := ⟨("Parser", some "expect"), "expect", "Parser.expect", defArgs s_Parser_expect, defBody s_Parser_expect, defScope s_Parser_expect, [], []⟩
def dd_Parser_take : He.DefD := ⟨("Parser", some "take"), "take", "Parser.take", defArgs s_Parser_take, defBody s_Parser_take, defScope s_Parser_take, [], []⟩
def dd_Parser_fault : He.DefD := ⟨("Parser", some "fault"), "fault", "Parser.fault", defArgs s_Parser_fault, defBody s_Parser_fault, defScope s_Parser_fault, [], []⟩
def dd_Orbit_index : He.DefD := ⟨("Orbit", some "index"), "index", "Orbit.index", defArgs s_Orbit_index, defBody s_Orbit_index, defScope s_Orbit_index, [], []⟩
def dd_Parser_take_register : He.DefD := ⟨("Parser", some "take_register"), "take_register", "Parser.take_register", defArgs s_Parser_take_register, defBody s_Parser_take_register, defScope s_Parser_take_register, [], []⟩
def dd_Parser_take_number : He.DefD := ⟨("Parser", some "take_number"), "take_number", "Parser.take_number", defArgs s_Parser_take_number, defBody s_Parser_take_number, defScope s_Parser_take_number, [], []⟩
def dd_Parser_parse_put : He.DefD := ⟨("Parser", some "parse_put"), "parse_put", "Parser.parse_put", defArgs s_Parser_parse_put, defBody s_Parser_parse_put, defScope s_Parser_parse_put, [], []⟩
def dd_Parser_parse_action : He.DefD := ⟨("Parser", some "parse_action"), "parse_action", "Parser.parse_action", defArgs s_Parser_parse_action, defBody s_Parser_parse_action, defScope s_Parser_parse_action, [], []⟩
def dd_Parser_parse_card : He.DefD := ⟨("Parser", some "parse_card"), "parse_card", "Parser.parse_card", defArgs s_Parser_parse_card, defBody s_Parser_parse_card, defScope s_Parser_parse_card, [], []⟩
def dd_Parser_parse_deck : He.DefD := ⟨("Parser", some "parse_deck"), "parse_deck", "Parser.parse_deck", defArgs s_Parser_parse_deck, defBody s_Parser_parse_deck, defScope s_Parser_parse_deck, [], []⟩
def dd_load : He.DefD := ⟨("load", none), "load", "load", defArgs s_load, defBody s_load, defScope s_load, [], []⟩
def dd_acted : He.DefD := ⟨("acted", none), "acted", "acted", defArgs s_acted, defBody s_acted, defScope s_acted, [], []⟩
def dd_depth_of : He.DefD := ⟨("depth_of", none), "depth_of", "depth_of", defArgs s_depth_of, defBody s_depth_of, defScope s_depth_of, [], []⟩
def dd_after_step : He.DefD := ⟨("after_step", none), "after_step", "after_step", defArgs s_after_step, defBody s_after_step, defScope s_after_step, [], []⟩
def dd_Orbit_init : He.DefD := ⟨("Orbit", some "__init__"), "__init__", "Orbit.__init__", defArgs s_Orbit_init, defBody s_Orbit_init, defScope s_Orbit_init, [], []⟩
def dd_orbit_of : He.DefD := ⟨("orbit_of", none), "orbit_of", "orbit_of", defArgs s_orbit_of, defBody s_orbit_of, defScope s_orbit_of, [], []⟩
def dd_initial_state : He.DefD := ⟨("initial_state", none), "initial_state", "initial_state", defArgs s_initial_state, defBody s_initial_state, defScope s_initial_state, [], []⟩
def dd_is_int_in : He.DefD := ⟨("is_int_in", none), "is_int_in", "is_int_in", defArgs s_is_int_in, defBody s_is_int_in, defScope s_is_int_in, [], []⟩
def dd_is_state : He.DefD := ⟨("is_state", none), "is_state", "is_state", defArgs s_is_state, defBody s_is_state, defScope s_is_state, [], []⟩
def dd_read_state : He.DefD := ⟨("read_state", none), "read_state", "read_state", defArgs s_read_state, defBody s_read_state, defScope s_read_state, [], []⟩
def dd_idle_cards : He.DefD := ⟨("idle_cards", none), "idle_cards", "idle_cards", defArgs s_idle_cards, defBody s_idle_cards, defScope s_idle_cards, [], [("start", .non)]⟩
def dd_law_card_text : He.DefD := ⟨("_law_card_text", none), "_law_card_text", "_law_card_text", defArgs s_law_card_text, defBody s_law_card_text, defScope s_law_card_text, [], []⟩
def dd_law_text : He.DefD := ⟨("_law_text", none), "_law_text", "_law_text", defArgs s_law_text, defBody s_law_text, defScope s_law_text, [], []⟩
def dd_law_equal : He.DefD := ⟨("_law_equal", none), "_law_equal", "_law_equal", defArgs s_law_equal, defBody s_law_equal, defScope s_law_equal, [], []⟩
def dd_find_cycle : He.DefD := ⟨("find_cycle", none), "find_cycle", "find_cycle", defArgs s_find_cycle, defBody s_find_cycle, defScope s_find_cycle, [], [("start", .non)]⟩
def dd_check_count : He.DefD := ⟨("check_count", none), "check_count", "check_count", defArgs s_check_count, defBody s_check_count, defScope s_check_count, [], []⟩
def dd_named_state : He.DefD := ⟨("named_state", none), "named_state", "named_state", defArgs s_named_state, defBody s_named_state, defScope s_named_state, [], []⟩
def dd_state_after : He.DefD := ⟨("state_after", none), "state_after", "state_after", defArgs s_state_after, defBody s_state_after, defScope s_state_after, [], [("start", .non)]⟩
def dd_law : He.DefD := ⟨("law", none), "law", "law", defArgs s_law, defBody s_law, defScope s_law, [], []⟩
def dd_CheckFault_init : He.DefD := ⟨("CheckFault", some "__init__"), "__init__", "CheckFault.__init__", defArgs s_CheckFault_init, defBody s_CheckFault_init, defScope s_CheckFault_init, [], []⟩
def dd_SyntaxFault_init : He.DefD := ⟨("SyntaxFault", some "__init__"), "__init__", "SyntaxFault.__init__", defArgs s_SyntaxFault_init, defBody s_SyntaxFault_init, defScope s_SyntaxFault_init, [], []⟩
structure Tx (K : PySem.W.Frag) (mg : MGf) : Prop where
  g_law : mg "law" = some (.ref (He.ga K "law"))
  n_abs : mg "abs" = none
  n_len : mg "len" = none
  n_list : mg "list" = none
  g__law_below : mg "_law_below" = some (.ref (He.ga K "_law_below"))
  n_range : mg "range" = none
  n_min : mg "min" = none
  g__law_shuffled : mg "_law_shuffled" = some (.ref (He.ga K "_law_shuffled"))
  g__law_action : mg "_law_action" = some (.ref (He.ga K "_law_action"))
  g__law_put : mg "_law_put" = some (.ref (He.ga K "_law_put"))
  n_tuple : mg "tuple" = none
  g__law_named : mg "_law_named" = some (.ref (He.ga K "_law_named"))
  g__law_step : mg "_law_step" = some (.ref (He.ga K "_law_step"))
  g__law_deck : mg "_law_deck" = some (.ref (He.ga K "_law_deck"))
  g__law_orbit : mg "_law_orbit" = some (.ref (He.ga K "_law_orbit"))
  g__law_start : mg "_law_start" = some (.ref (He.ga K "_law_start"))
  g_Token : mg "Token" = some (.ref (He.ga K "Token"))
  c_Token : Cls K (He.ga K "Token")
  a_Token_kind : NoAttr K (He.ga K "Token") "kind"
  a_Token_text : NoAttr K (He.ga K "Token") "text"
  a_Token_line : NoAttr K (He.ga K "Token") "line"
  a_Token_column : NoAttr K (He.ga K "Token") "column"
  k_ARROW : ∃ t, mg "ARROW" = some (.str "->" t)
  mk_Token : Mk K (He.ga K "Token") (He.ma K (He.ga K "Token") "__init__")
  k_SIGN : ∃ t, mg "SIGN" = some (.str "sign" t)
  k_SIGNS : ∃ t, mg "SIGNS" = some (.str ":,;?" t)
  k_DIGITS : ∃ t, mg "DIGITS" = some (.str "0123456789" t)
  g_run_length : mg "run_length" = some (.ref (He.ga K "run_length"))
  k_MAX_DIGITS : ∃ t, mg "MAX_DIGITS" = some (.int 3 t)
  o_SyntaxFault : OexC K (He.ga K "SyntaxFault")
  i_SyntaxFault : PySem.W.findIn K (.ref (He.ga K "SyntaxFault")) "__init__" = some (some (.ref (He.ma K (He.ga K "SyntaxFault") "__init__"))) ∧ PySem.W.typeIn K (.ref (He.ma K (He.ga K "SyntaxFault") "__init__")) = some (.type "function")
  a_SyntaxFault_line : PySem.W.findIn K (.ref (He.ga K "SyntaxFault")) "line" = some none
  a_SyntaxFault_column : PySem.W.findIn K (.ref (He.ga K "SyntaxFault")) "column" = some none
  g_SyntaxFault : mg "SyntaxFault" = some (.ref (He.ga K "SyntaxFault"))
  k_NUMBER : ∃ t, mg "NUMBER" = some (.str "number" t)
  k_LETTERS : ∃ t, mg "LETTERS" = some (.str "abcdefghijklmnopqrstuvwxyz" t)
  k_MAX_LETTERS : ∃ t, mg "MAX_LETTERS" = some (.int 8 t)
  g_KEYWORDS : mg "KEYWORDS" = some (.ref (He.ga K "KEYWORDS"))
  k_KEYWORDS : ∀ H, SqT K H (He.ga K "KEYWORDS") ((["wrap", "add", "copy", "swap", "emit"] : List Str).map V.str)
  g_REGISTERS : mg "REGISTERS" = some (.ref (He.ga K "REGISTERS"))
  k_REGISTERS : ∀ H, SqT K H (He.ga K "REGISTERS") ((["p", "q", "r", "s"] : List Str).map V.str)
  k_REGISTER : ∃ t, mg "REGISTER" = some (.str "register" t)
  k_NAME : ∃ t, mg "NAME" = some (.str "name" t)
  n_enumerate : mg "enumerate" = none
  g_read_token : mg "read_token" = some (.ref (He.ga K "read_token"))
  k_END : ∃ t, mg "END" = some (.str "end" t)
  g_tokenize : mg "tokenize" = some (.ref (He.ga K "tokenize"))
  g_Parser : mg "Parser" = some (.ref (He.ga K "Parser"))
  c_Parser : Cls K (He.ga K "Parser")
  a_Parser_tokens : NoAttr K (He.ga K "Parser") "tokens"
  a_Parser_at : NoAttr K (He.ga K "Parser") "at"
  k_MAX_WRAP : ∃ t, mg "MAX_WRAP" = some (.int 16 t)
  a_Parser_wrap : NoAttr K (He.ga K "Parser") "wrap"
  a_Parser_faults : NoAttr K (He.ga K "Parser") "faults"
  m_Parser_peek : Meth K (He.ga K "Parser") "peek" (He.ma K (He.ga K "Parser") "peek")
  g_Orbit : mg "Orbit" = some (.ref (He.ga K "Orbit"))
  c_Orbit : Cls K (He.ga K "Orbit")
  a_Orbit_states : NoAttr K (He.ga K "Orbit") "states"
  a_Orbit_start : NoAttr K (He.ga K "Orbit") "start"
  w_REGISTERS : ∃ o, K.lookup (He.ga K "REGISTERS") = some o ∧ o.cls = .type "tuple" ∧ o.dict = none
  m_Parser_take : Meth K (He.ga K "Parser") "take" (He.ma K (He.ga K "Parser") "take")
  n_int : mg "int" = none
  m_Parser_fault : Meth K (He.ga K "Parser") "fault" (He.ma K (He.ga K "Parser") "fault")
  m_Parser_take_number : Meth K (He.ga K "Parser") "take_number" (He.ma K (He.ga K "Parser") "take_number")
  k_MAX_DEPTH : ∃ t, mg "MAX_DEPTH" = some (.int 9 t)
  m_Parser_take_register : Meth K (He.ga K "Parser") "take_register" (He.ma K (He.ga K "Parser") "take_register")
  m_Parser_expect : Meth K (He.ga K "Parser") "expect" (He.ma K (He.ga K "Parser") "expect")
  g_ACTIONS : mg "ACTIONS" = some (.ref (He.ga K "ACTIONS"))
  k_ACTIONS : ∀ H, SqT K H (He.ga K "ACTIONS") ((["add", "copy", "swap", "emit"] : List Str).map V.str)
  k_MAX_ACTIONS : ∃ t, mg "MAX_ACTIONS" = some (.int 6 t)
  k_MAX_CARDS : ∃ t, mg "MAX_CARDS" = some (.int 8 t)
  m_Parser_parse_action : Meth K (He.ga K "Parser") "parse_action" (He.ma K (He.ga K "Parser") "parse_action")
  m_Parser_parse_put : Meth K (He.ga K "Parser") "parse_put" (He.ma K (He.ga K "Parser") "parse_put")
  k_MIN_WRAP : ∃ t, mg "MIN_WRAP" = some (.int 2 t)
  m_Parser_parse_card : Meth K (He.ga K "Parser") "parse_card" (He.ma K (He.ga K "Parser") "parse_card")
  mk_Parser : Mk K (He.ga K "Parser") (He.ma K (He.ga K "Parser") "__init__")
  m_Parser_parse_deck : Meth K (He.ga K "Parser") "parse_deck" (He.ma K (He.ga K "Parser") "parse_deck")
  o_CheckFault : OexC K (He.ga K "CheckFault")
  i_CheckFault : PySem.W.findIn K (.ref (He.ga K "CheckFault")) "__init__" = some (some (.ref (He.ma K (He.ga K "CheckFault") "__init__"))) ∧ PySem.W.typeIn K (.ref (He.ma K (He.ga K "CheckFault") "__init__")) = some (.type "function")
  a_CheckFault_reason : PySem.W.findIn K (.ref (He.ga K "CheckFault")) "reason" = some none
  a_CheckFault_line : PySem.W.findIn K (.ref (He.ga K "CheckFault")) "line" = some none
  a_CheckFault_column : PySem.W.findIn K (.ref (He.ga K "CheckFault")) "column" = some none
  g_CheckFault : mg "CheckFault" = some (.ref (He.ga K "CheckFault"))
  g_acted : mg "acted" = some (.ref (He.ga K "acted"))
  g_depth_of : mg "depth_of" = some (.ref (He.ga K "depth_of"))
  a_Orbit_emitted : NoAttr K (He.ga K "Orbit") "emitted"
  g_after_step : mg "after_step" = some (.ref (He.ga K "after_step"))
  a_Orbit_last : NoAttr K (He.ga K "Orbit") "last"
  mk_Orbit : Mk K (He.ga K "Orbit") (He.ma K (He.ga K "Orbit") "__init__")
  k_MAX_STATES : ∃ t, mg "MAX_STATES" = some (.int 3000 t)
  x_TooLong : ExcT K (He.ga K "TooLong")
  g_TooLong : mg "TooLong" = some (.ref (He.ga K "TooLong"))
  g_ZEROS : mg "ZEROS" = some (.ref (He.ga K "ZEROS"))
  k_ZEROS : ∀ H, SqT K H (He.ga K "ZEROS") (([0, 0, 0, 0] : List Int).map V.int)
  n_isinstance : mg "isinstance" = none
  n_bool : mg "bool" = none
  n_all : mg "all" = none
  g_is_int_in : mg "is_int_in" = some (.ref (He.ga K "is_int_in"))
  g_initial_state : mg "initial_state" = some (.ref (He.ga K "initial_state"))
  g_is_state : mg "is_state" = some (.ref (He.ga K "is_state"))
  x_InvalidState : ExcT K (He.ga K "InvalidState")
  g_InvalidState : mg "InvalidState" = some (.ref (He.ga K "InvalidState"))
  g_load : mg "load" = some (.ref (He.ga K "load"))
  g_orbit_of : mg "orbit_of" = some (.ref (He.ga K "orbit_of"))
  g_read_state : mg "read_state" = some (.ref (He.ga K "read_state"))
  n_str : mg "str" = none
  g__law_card_text : mg "_law_card_text" = some (.ref (He.ga K "_law_card_text"))
  g__law_equal : mg "_law_equal" = some (.ref (He.ga K "_law_equal"))
  x_InvalidCount : ExcT K (He.ga K "InvalidCount")
  g_InvalidCount : mg "InvalidCount" = some (.ref (He.ga K "InvalidCount"))
  g_check_count : mg "check_count" = some (.ref (He.ga K "check_count"))
  k_MAX_COUNT : ∃ t, mg "MAX_COUNT" = some (.int 1000000000000000000 t)
  g_named_state : mg "named_state" = some (.ref (He.ga K "named_state"))
  m_Orbit_index : Meth K (He.ga K "Orbit") "index" (He.ma K (He.ga K "Orbit") "index")
  g__law_random : mg "_law_random" = some (.ref (He.ga K "_law_random"))
  g__law_short_deck : mg "_law_short_deck" = some (.ref (He.ga K "_law_short_deck"))
  g__law_text : mg "_law_text" = some (.ref (He.ga K "_law_text"))
  g_find_cycle : mg "find_cycle" = some (.ref (He.ga K "find_cycle"))
  g_state_after : mg "state_after" = some (.ref (He.ga K "state_after"))
  g_idle_cards : mg "idle_cards" = some (.ref (He.ga K "idle_cards"))
  g_DeckError : mg "DeckError" = some (.ref (He.ga K "DeckError"))
  dk : DkT K mg (He.ga K "DeckError")
  d_law_random : ∃ fd, FunD K "_law_random" "_law_random" (defArgs s_law_random) (defBody s_law_random) (defScope s_law_random) [] [] (He.ga K "_law_random") fd
  d_law_below : ∃ fd, FunD K "_law_below" "_law_below" (defArgs s_law_below) (defBody s_law_below) (defScope s_law_below) [] [] (He.ga K "_law_below") fd
  d_law_shuffled : ∃ fd, FunD K "_law_shuffled" "_law_shuffled" (defArgs s_law_shuffled) (defBody s_law_shuffled) (defScope s_law_shuffled) [] [] (He.ga K "_law_shuffled") fd
  d_law_action : ∃ fd, FunD K "_law_action" "_law_action" (defArgs s_law_action) (defBody s_law_action) (defScope s_law_action) [] [] (He.ga K "_law_action") fd
  d_law_put : ∃ fd, FunD K "_law_put" "_law_put" (defArgs s_law_put) (defBody s_law_put) (defScope s_law_put) [] [] (He.ga K "_law_put") fd
  d_law_deck : ∃ fd, FunD K "_law_deck" "_law_deck" (defArgs s_law_deck) (defBody s_law_deck) (defScope s_law_deck) [] [] (He.ga K "_law_deck") fd
  d_law_step : ∃ fd, FunD K "_law_step" "_law_step" (defArgs s_law_step) (defBody s_law_step) (defScope s_law_step) [] [] (He.ga K "_law_step") fd
  d_law_named : ∃ fd, FunD K "_law_named" "_law_named" (defArgs s_law_named) (defBody s_law_named) (defScope s_law_named) [] [] (He.ga K "_law_named") fd
  d_law_orbit : ∃ fd, FunD K "_law_orbit" "_law_orbit" (defArgs s_law_orbit) (defBody s_law_orbit) (defScope s_law_orbit) [] [] (He.ga K "_law_orbit") fd
  d_law_start : ∃ fd, FunD K "_law_start" "_law_start" (defArgs s_law_start) (defBody s_law_start) (defScope s_law_start) [] [] (He.ga K "_law_start") fd
  d_law_short_deck : ∃ fd, FunD K "_law_short_deck" "_law_short_deck" (defArgs s_law_short_deck) (defBody s_law_short_deck) (defScope s_law_short_deck) [] [] (He.ga K "_law_short_deck") fd
  d_Token_init : ∃ fd, FunD K "__init__" "Token.__init__" (defArgs s_Token_init) (defBody s_Token_init) (defScope s_Token_init) [] [] (He.ma K (He.ga K "Token") "__init__") fd
  d_run_length : ∃ fd, FunD K "run_length" "run_length" (defArgs s_run_length) (defBody s_run_length) (defScope s_run_length) [] [] (He.ga K "run_length") fd
  d_read_token : ∃ fd, FunD K "read_token" "read_token" (defArgs s_read_token) (defBody s_read_token) (defScope s_read_token) [] [] (He.ga K "read_token") fd
  d_tokenize : ∃ fd, FunD K "tokenize" "tokenize" (defArgs s_tokenize) (defBody s_tokenize) (defScope s_tokenize) [] [] (He.ga K "tokenize") fd
  d_Parser_init : ∃ fd, FunD K "__init__" "Parser.__init__" (defArgs s_Parser_init) (defBody s_Parser_init) (defScope s_Parser_init) [] [] (He.ma K (He.ga K "Parser") "__init__") fd
  d_Parser_peek : ∃ fd, FunD K "peek" "Parser.peek" (defArgs s_Parser_peek) (defBody s_Parser_peek) (defScope s_Parser_peek) [] [] (He.ma K (He.ga K "Parser") "peek") fd
  d_Parser_expect : ∃ fd, FunD K "expect" "Parser.expect" (defArgs s_Parser_expect) (defBody s_Parser_expect) (defScope s_Parser_expect) [] [] (He.ma K (He.ga K "Parser") "expect") fd
  d_Parser_take : ∃ fd, FunD K "take" "Parser.take" (defArgs s_Parser_take) (defBody s_Parser_take) (defScope s_Parser_take) [] [] (He.ma K (He.ga K "Parser") "take") fd
  d_Parser_fault : ∃ fd, FunD K "fault" "Parser.fault" (defArgs s_Parser_fault) (defBody s_Parser_fault) (defScope s_Parser_fault) [] [] (He.ma K (He.ga K "Parser") "fault") fd
  d_Orbit_index : ∃ fd, FunD K "index" "Orbit.index" (defArgs s_Orbit_index) (defBody s_Orbit_index) (defScope s_Orbit_index) [] [] (He.ma K (He.ga K "Orbit") "index") fd
  d_Parser_take_register : ∃ fd, FunD K "take_register" "Parser.take_register" (defArgs s_Parser_take_register) (defBody s_Parser_take_register) (defScope s_Parser_take_register) [] [] (He.ma K (He.ga K "Parser") "take_register") fd
  d_Parser_take_number : ∃ fd, FunD K "take_number" "Parser.take_number" (defArgs s_Parser_take_number) (defBody s_Parser_take_number) (defScope s_Parser_take_number) [] [] (He.ma K (He.ga K "Parser") "take_number") fd
  d_Parser_parse_put : ∃ fd, FunD K "parse_put" "Parser.parse_put" (defArgs s_Parser_parse_put) (defBody s_Parser_parse_put) (defScope s_Parser_parse_put) [] [] (He.ma K (He.ga K "Parser") "parse_put") fd
  d_Parser_parse_action : ∃ fd, FunD K "parse_action" "Parser.parse_action" (defArgs s_Parser_parse_action) (defBody s_Parser_parse_action) (defScope s_Parser_parse_action) [] [] (He.ma K (He.ga K "Parser") "parse_action") fd
  d_Parser_parse_card : ∃ fd, FunD K "parse_card" "Parser.parse_card" (defArgs s_Parser_parse_card) (defBody s_Parser_parse_card) (defScope s_Parser_parse_card) [] [] (He.ma K (He.ga K "Parser") "parse_card") fd
  d_Parser_parse_deck : ∃ fd, FunD K "parse_deck" "Parser.parse_deck" (defArgs s_Parser_parse_deck) (defBody s_Parser_parse_deck) (defScope s_Parser_parse_deck) [] [] (He.ma K (He.ga K "Parser") "parse_deck") fd
  d_load : ∃ fd, FunD K "load" "load" (defArgs s_load) (defBody s_load) (defScope s_load) [] [] (He.ga K "load") fd
  d_acted : ∃ fd, FunD K "acted" "acted" (defArgs s_acted) (defBody s_acted) (defScope s_acted) [] [] (He.ga K "acted") fd
  d_depth_of : ∃ fd, FunD K "depth_of" "depth_of" (defArgs s_depth_of) (defBody s_depth_of) (defScope s_depth_of) [] [] (He.ga K "depth_of") fd
  d_after_step : ∃ fd, FunD K "after_step" "after_step" (defArgs s_after_step) (defBody s_after_step) (defScope s_after_step) [] [] (He.ga K "after_step") fd
  d_Orbit_init : ∃ fd, FunD K "__init__" "Orbit.__init__" (defArgs s_Orbit_init) (defBody s_Orbit_init) (defScope s_Orbit_init) [] [] (He.ma K (He.ga K "Orbit") "__init__") fd
  d_orbit_of : ∃ fd, FunD K "orbit_of" "orbit_of" (defArgs s_orbit_of) (defBody s_orbit_of) (defScope s_orbit_of) [] [] (He.ga K "orbit_of") fd
  d_initial_state : ∃ fd, FunD K "initial_state" "initial_state" (defArgs s_initial_state) (defBody s_initial_state) (defScope s_initial_state) [] [] (He.ga K "initial_state") fd
  d_is_int_in : ∃ fd, FunD K "is_int_in" "is_int_in" (defArgs s_is_int_in) (defBody s_is_int_in) (defScope s_is_int_in) [] [] (He.ga K "is_int_in") fd
  d_is_state : ∃ fd, FunD K "is_state" "is_state" (defArgs s_is_state) (defBody s_is_state) (defScope s_is_state) [] [] (He.ga K "is_state") fd
  d_read_state : ∃ fd, FunD K "read_state" "read_state" (defArgs s_read_state) (defBody s_read_state) (defScope s_read_state) [] [] (He.ga K "read_state") fd
  d_idle_cards : ∃ fd, FunD K "idle_cards" "idle_cards" (defArgs s_idle_cards) (defBody s_idle_cards) (defScope s_idle_cards) [] [("start", V.non)] (He.ga K "idle_cards") fd
  d_law_card_text : ∃ fd, FunD K "_law_card_text" "_law_card_text" (defArgs s_law_card_text) (defBody s_law_card_text) (defScope s_law_card_text) [] [] (He.ga K "_law_card_text") fd
  d_law_text : ∃ fd, FunD K "_law_text" "_law_text" (defArgs s_law_text) (defBody s_law_text) (defScope s_law_text) [] [] (He.ga K "_law_text") fd
  d_law_equal : ∃ fd, FunD K "_law_equal" "_law_equal" (defArgs s_law_equal) (defBody s_law_equal) (defScope s_law_equal) [] [] (He.ga K "_law_equal") fd
  d_find_cycle : ∃ fd, FunD K "find_cycle" "find_cycle" (defArgs s_find_cycle) (defBody s_find_cycle) (defScope s_find_cycle) [] [("start", V.non)] (He.ga K "find_cycle") fd
  d_check_count : ∃ fd, FunD K "check_count" "check_count" (defArgs s_check_count) (defBody s_check_count) (defScope s_check_count) [] [] (He.ga K "check_count") fd
  d_named_state : ∃ fd, FunD K "named_state" "named_state" (defArgs s_named_state) (defBody s_named_state) (defScope s_named_state) [] [] (He.ga K "named_state") fd
  d_state_after : ∃ fd, FunD K "state_after" "state_after" (defArgs s_state_after) (defBody s_state_after) (defScope s_state_after) [] [("start", V.non)] (He.ga K "state_after") fd
  d_law : ∃ fd, FunD K "law" "law" (defArgs s_law) (defBody s_law) (defScope s_law) [] [] (He.ga K "law") fd
  d_CheckFault_init : ∃ fd, FunD K "__init__" "CheckFault.__init__" (defArgs s_CheckFault_init) (defBody s_CheckFault_init) (defScope s_CheckFault_init) [] [] (He.ma K (He.ga K "CheckFault") "__init__") fd
  d_SyntaxFault_init : ∃ fd, FunD K "__init__" "SyntaxFault.__init__" (defArgs s_SyntaxFault_init) (defBody s_SyntaxFault_init) (defScope s_SyntaxFault_init) [] [] (He.ma K (He.ga K "SyntaxFault") "__init__") fd
section
variable {P : Program} {w : World} {K : PySem.W.Frag} {mg : MGf} {base : Heap}
theorem sc_CheckFault_init : FnScope ["self", "reason", "line", "column"] ["self", "reason", "line", "column"] (defScope s_CheckFault_init) := ⟨rfl, rfl, rfl, by decide +kernel, rfl, by decide +kernel, by decide +kernel⟩
theorem x_CheckFault (T : Tx K mg) : OexT P w K mg base (He.ga K "CheckFault") ["reason", "line", "column"] := by
  obtain ⟨fd, F⟩ := T.d_CheckFault_init
  exact ⟨T.o_CheckFault, _, fd, T.i_CheckFault.1, T.i_CheckFault.2, init_ok3 T.dk T.o_CheckFault T.a_CheckFault_reason T.a_CheckFault_line T.a_CheckFault_column sc_CheckFault_init F (fun cdv A outer s H E => pss_cons (ps_expr (pe_dkinit T.dk (pa_cons (pv 0) (pa_cons (pv 1) (pa_cons (pv 2) (pa_cons (pv 3) (pa_nil))))))) (pss_cons (ps_ost (pv 0) (pv 1)) (pss_cons (ps_ost (pv 0) (pv 2)) (pss_one (ps_ost (pv 0) (pv 3)))))), F.bindsN fun _ _ _ _ _ _ us hl => match us, hl with | [_, _, _, _], _ => rfl⟩
theorem sc_SyntaxFault_init : FnScope ["self", "line", "column"] ["self", "line", "column"] (defScope s_SyntaxFault_init) := ⟨rfl, rfl, rfl, by decide +kernel, rfl, by decide +kernel, by decide +kernel⟩
theorem x_SyntaxFault (T : Tx K mg) : OexT P w K mg base (He.ga K "SyntaxFault") ["line", "column"] := by
  obtain ⟨fd, F⟩ := T.d_SyntaxFault_init
  exact ⟨T.o_SyntaxFault, _, fd, T.i_SyntaxFault.1, T.i_SyntaxFault.2, init_ok2 T.dk T.o_SyntaxFault T.a_SyntaxFault_line T.a_SyntaxFault_column sc_SyntaxFault_init F (fun cdv A outer s H E => pss_cons (ps_expr (pe_dkinit T.dk (pa_cons (pv 0) (pa_cons (pv 1) (pa_cons (pv 2) (pa_nil)))))) (pss_cons (ps_ost (pv 0) (pv 1)) (pss_one (ps_ost (pv 0) (pv 2))))), F.bindsN fun _ _ _ _ _ _ us hl => match us, hl with | [_, _, _], _ => rfl⟩
abbrev n_law_random : List Str := ["_law_script", "_law_salt", "_law_seed", "_law_cell"]
theorem sc_law_random : FnScope n_law_random ["_law_script", "_law_salt"] (defScope s_law_random) := ⟨rfl, rfl, rfl, by decide +kernel, rfl, by decide +kernel, by decide +kernel⟩
theorem ok_law_random (T : Tx K mg) : OkD P w K mg base 1 (He.ga K "_law_random") ["_law_script", "_law_salt"] F_law_random := by
  show OkD P w K mg base 1 (He.ga K "_law_random") ["_law_script", "_law_salt"] (fDef 4 b_law_random)
  refine okD_def (k := 0) (N := n_law_random) rfl T.d_law_random sc_law_random (fun _ _ _ _ _ _ us hl => match us, hl with | [_, _], _ => rfl) (fun cdv A outer s H E hr tk po => ?_)
  exact css_cons (cs_set (i := 2) sc_law_random.nd rfl (by first | exact Or.inl rfl | exact Or.inr rfl) (cv 1)) (css_cons (cs_for po rfl (ci_seq (cv 0)) (cg_name (i := 3) sc_law_random.nd rfl (by first | exact Or.inl rfl | exact Or.inr rfl)) (plain_name) (css_one (cs_set (i := 2) sc_law_random.nd rfl (by first | exact Or.inl rfl | exact Or.inr rfl) (ce_bin op2_mod (ce_bin op2_add (ce_bin op2_mul (cv 2) (ce_int)) (ce_callB cc_abs (by rfl) T.n_abs (by decide +kernel) (ca_cons (cv 3) (ca_nil)))) (ce_int))))) (css_one (cs_ret (ce_bin op2_add (ce_lst (ca_cons (cv 2) (ca_cons (ce_int) (ca_nil)))) (ce_lc (own := [("_law_cell", 3)]) rfl sc_law_random.nd (ci_seq (cv 0)) (blkOk_by (N := n_law_random) (sc := defScope s_law_random) (own := [("_law_cell", 3)]) (by decide +kernel)) (tgOk_name (by decide)) (fun _ _ _ _ _ => pg_name (i := 3) sc_law_random.nd rfl (by first | exact Or.inl rfl | exact Or.inr rfl)) (fun _ _ _ _ _ => cts_one (ct_cmp op2_ge (cv 3) (ce_bin op2_pow (ce_int) (ce_int)) (nomark _))) (fun _ _ _ _ _ => cv 3))))))
abbrev n_law_below : List Str := ["_law_d", "_law_limit", "_law_result"]
theorem sc_law_below : FnScope n_law_below ["_law_d", "_law_limit"] (defScope s_law_below) := ⟨rfl, rfl, rfl, by decide +kernel, rfl, by decide +kernel, by decide +kernel⟩
theorem ok_law_below (T : Tx K mg) : OkD P w K mg base 1 (He.ga K "_law_below") ["_law_d", "_law_limit"] F_law_below := by
  show OkD P w K mg base 1 (He.ga K "_law_below") ["_law_d", "_law_limit"] (fDef 3 b_law_below)
  refine okD_def (k := 0) (N := n_law_below) rfl T.d_law_below sc_law_below (fun _ _ _ _ _ _ us hl => match us, hl with | [_, _], _ => rfl) (fun cdv A outer s H E hr tk po => ?_)
  exact css_cons (cs_if (PW.pt (cw_and (ct_cmp (op2_eq (hu64 hr)) (ce_ix (cv 0) (ce_int)) (ce_int) (nomark _)) (cw_and1 (ct_cmp op2_gt (ce_callB cc_len (by rfl) T.n_len (by decide +kernel) (ca_cons (cv 0) (ca_nil))) (ce_int) (nomark _))))) (css_one (cs_asg (ce_bm PySem.F.plainAttrs_list PySem.F.slot_list_pop PySem.F.type_list_pop mc_pop (cv 0) (ca_cons (ce_int) (ca_nil))) (cg_ix (cv 0) (ce_int)) (plain_ix))) (css_nil)) (css_cons (cs_if (ct_cmp op2_gt (ce_ix (cv 0) (ce_int)) (ce_int) (nomark _)) (css_cons (cs_set (i := 2) sc_law_below.nd rfl (by first | exact Or.inl rfl | exact Or.inr rfl) (ce_bin op2_mod (ce_ix (cv 0) (ce_int)) (cv 1))) (css_cons (cs_asg (ce_bin op2_div (ce_ix (cv 0) (ce_int)) (cv 1)) (cg_ix (cv 0) (ce_int)) (plain_ix)) (css_one (cs_ret (cv 2))))) (css_nil)) (css_cons (cs_asg (ce_bin op2_mod (ce_bin op2_add (ce_bin op2_mul (ce_ix (cv 0) (ce_int)) (ce_int)) (ce_int)) (ce_int)) (cg_ix (cv 0) (ce_int)) (plain_ix)) (css_one (cs_ret (ce_bin op2_mod (ce_bin op2_div (ce_ix (cv 0) (ce_int)) (ce_int)) (cv 1))))))
abbrev n_law_shuffled : List Str := ["_law_d", "_law_items", "_law_pool", "_law_result"]
theorem sc_law_shuffled : FnScope n_law_shuffled ["_law_d", "_law_items"] (defScope s_law_shuffled) := ⟨rfl, rfl, rfl, by decide +kernel, rfl, by decide +kernel, by decide +kernel⟩
theorem ok_law_shuffled (T : Tx K mg) : OkD P w K mg base 2 (He.ga K "_law_shuffled") ["_law_d", "_law_items"] F_law_shuffled := by
  show OkD P w K mg base 2 (He.ga K "_law_shuffled") ["_law_d", "_law_items"] (fDef 4 b_law_shuffled)
  refine okD_def (k := 1) (N := n_law_shuffled) rfl T.d_law_shuffled sc_law_shuffled (fun _ _ _ _ _ _ us hl => match us, hl with | [_, _], _ => rfl) (fun cdv A outer s H E hr tk po => ?_)
  exact css_cons (cs_set (i := 2) sc_law_shuffled.nd rfl (by first | exact Or.inl rfl | exact Or.inr rfl) (ce_callTy cc_list (by rfl) T.n_list (by decide +kernel) (ca_cons (cv 1) (ca_nil)))) (css_cons (cs_set (i := 3) sc_law_shuffled.nd rfl (by first | exact Or.inl rfl | exact Or.inr rfl) (ce_lst (ca_nil))) (css_cons (cs_while po (ct_cmp (op2_ne (hu64 hr)) (cv 2) (ce_lst (ca_nil)) (nomark _)) (css_one (cs_expr (ce_bm PySem.F.plainAttrs_list PySem.F.slot_list_append PySem.F.type_list_append mc_append (cv 3) (ca_cons (ce_bm PySem.F.plainAttrs_list PySem.F.slot_list_pop PySem.F.type_list_pop mc_pop (cv 2) (ca_cons (ck_call (ok_law_below T) (hr.mono (by decide)) tk T.g__law_below (ca_cons (cv 0) (ca_cons (ce_callB cc_len (by rfl) T.n_len (by decide +kernel) (ca_cons (cv 2) (ca_nil))) (ca_nil)))) (ca_nil))) (ca_nil)))))) (css_one (cs_ret (cv 3)))))
abbrev n_law_action : List Str := ["_law_d", "_law_wrap", "_law_kind", "_law_slot"]
theorem sc_law_action : FnScope n_law_action ["_law_d", "_law_wrap"] (defScope s_law_action) := ⟨rfl, rfl, rfl, by decide +kernel, rfl, by decide +kernel, by decide +kernel⟩
theorem ok_law_action (T : Tx K mg) : OkD P w K mg base 2 (He.ga K "_law_action") ["_law_d", "_law_wrap"] F_law_action := by
  show OkD P w K mg base 2 (He.ga K "_law_action") ["_law_d", "_law_wrap"] (fDef 4 b_law_action)
  refine okD_def (k := 1) (N := n_law_action) rfl T.d_law_action sc_law_action (fun _ _ _ _ _ _ us hl => match us, hl with | [_, _], _ => rfl) (fun cdv A outer s H E hr tk po => ?_)
  exact css_cons (cs_par2 (i1 := 2) (i2 := 3) (hN := sc_law_action.nd) (ca_cons (ck_call (ok_law_below T) (hr.mono (by decide)) tk T.g__law_below (ca_cons (cv 0) (ca_cons (ce_int) (ca_nil)))) (ca_cons (ck_call (ok_law_below T) (hr.mono (by decide)) tk T.g__law_below (ca_cons (cv 0) (ca_cons (ce_ix (ce_lst (ca_cons (ce_int) (ca_cons (ce_int) (ca_nil)))) (ck_call (ok_law_below T) (hr.mono (by decide)) tk T.g__law_below (ca_cons (cv 0) (ca_cons (ce_int) (ca_nil))))) (ca_nil)))) (ca_nil)))) (css_cons (cs_if (ct_cmp op2_lt (cv 2) (ce_int) (nomark _)) (css_one (cs_ret (ce_tup (ca_cons (ce_str) (ca_cons (cv 3) (ca_cons (ck_call (ok_law_below T) (hr.mono (by decide)) tk T.g__law_below (ca_cons (cv 0) (ca_cons (cv 1) (ca_nil)))) (ca_nil))))))) (css_nil)) (css_cons (cs_if (ct_cmp op2_lt (cv 2) (ce_int) (nomark _)) (css_one (cs_ret (ce_tup (ca_cons (ce_ix (ce_lst (ca_cons (ce_str) (ca_cons (ce_str) (ca_nil)))) (ce_bin op2_sub (cv 2) (ce_int))) (ca_cons (cv 3) (ca_cons (ck_call (ok_law_below T) (hr.mono (by decide)) tk T.g__law_below (ca_cons (cv 0) (ca_cons (ce_ix (ce_lst (ca_cons (ce_int) (ca_cons (ce_int) (ca_nil)))) (ck_call (ok_law_below T) (hr.mono (by decide)) tk T.g__law_below (ca_cons (cv 0) (ca_cons (ce_int) (ca_nil))))) (ca_nil)))) (ca_nil))))))) (css_nil)) (css_one (cs_ret (ce_if (ct_cmp (op2_eq (hu64 hr)) (cv 2) (ce_int) (nomark _)) (ce_tup (ca_cons (ce_str) (ca_cons (cv 3) (ca_cons (ce_int) (ca_nil))))) (ce_tup (ca_cons (ce_str) (ca_cons (ce_none) (ca_cons (ck_call (ok_law_below T) (hr.mono (by decide)) tk T.g__law_below (ca_cons (cv 0) (ca_cons (cv 1) (ca_nil)))) (ca_nil))))))))))
abbrev n_law_put : List Str := ["_law_d", "_law_many", "_law_kind", "_law_slot", "_law_depths", "_law_k", "_law_depth"]
theorem sc_law_put : FnScope n_law_put ["_law_d", "_law_many"] (defScope s_law_put) := ⟨rfl, rfl, rfl, by decide +kernel, rfl, by decide +kernel, by decide +kernel⟩
theorem ok_law_put (T : Tx K mg) : OkD P w K mg base 2 (He.ga K "_law_put") ["_law_d", "_law_many"] F_law_put := by
  show OkD P w K mg base 2 (He.ga K "_law_put") ["_law_d", "_law_many"] (fDef 7 b_law_put)
  refine okD_def (k := 1) (N := n_law_put) rfl T.d_law_put sc_law_put (fun _ _ _ _ _ _ us hl => match us, hl with | [_, _], _ => rfl) (fun cdv A outer s H E hr tk po => ?_)
  exact css_cons (cs_par2 (i1 := 2) (i2 := 3) (hN := sc_law_put.nd) (ca_cons (ck_call (ok_law_below T) (hr.mono (by decide)) tk T.g__law_below (ca_cons (cv 0) (ca_cons (ce_int) (ca_nil)))) (ca_cons (ck_call (ok_law_below T) (hr.mono (by decide)) tk T.g__law_below (ca_cons (cv 0) (ca_cons (ce_ix (ce_lst (ca_cons (ce_int) (ca_cons (ce_int) (ca_nil)))) (ck_call (ok_law_below T) (hr.mono (by decide)) tk T.g__law_below (ca_cons (cv 0) (ca_cons (ce_int) (ca_nil))))) (ca_nil)))) (ca_nil)))) (css_cons (cs_setLc (i := 4) (own := [("_law_k", 5)]) rfl sc_law_put.nd rfl rfl (sw_true rfl rfl rfl (by decide +kernel)) (ci_range1 (by rfl) T.n_range (ce_int)) (blkOk_by (N := n_law_put) (sc := defScope s_law_put) (own := [("_law_k", 5)]) (by decide +kernel)) (tgOk_name (by decide)) (fun _ _ _ _ _ => pg_name (i := 5) sc_law_put.nd rfl (by first | exact Or.inl rfl | exact Or.inr rfl)) (fun _ _ _ _ _ => cts_nil) (fun _ _ _ _ _ => ck_call (ok_law_below T) (hr.mono (by decide)) takes0' T.g__law_below (ca_cons (cv 0) (ca_cons (ce_ix (ce_lst (ca_cons (cv 1) (ca_cons (ce_bin op2_add (cv 1) (ce_int)) (ca_cons (ce_int) (ca_nil))))) (ck_call (ok_law_below T) (hr.mono (by decide)) takes0' T.g__law_below (ca_cons (cv 0) (ca_cons (ce_int) (ca_nil))))) (ca_nil))))) (css_cons (cs_setLc (i := 4) (own := [("_law_depth", 6)]) rfl sc_law_put.nd rfl rfl (sw_true rfl rfl rfl (by decide +kernel)) (ci_seq (cv 4)) (blkOk_by (N := n_law_put) (sc := defScope s_law_put) (own := [("_law_depth", 6)]) (by decide +kernel)) (tgOk_name (by decide)) (fun _ _ _ _ _ => pg_name (i := 6) sc_law_put.nd rfl (by first | exact Or.inl rfl | exact Or.inr rfl)) (fun _ _ _ _ _ => cts_nil) (fun _ _ _ _ _ => ce_callB (cc_min rfl) (by rfl) T.n_min (by decide +kernel) (ca_cons (ce_int) (ca_cons (cv 6) (ca_nil))))) (css_cons (cs_if (ct_cmp op2_lt (cv 2) (ce_int) (nomark _)) (css_one (cs_ret (ce_tup (ca_cons (ce_none) (ca_cons (ce_ix (cv 4) (ce_int)) (ca_cons (ce_ix (cv 4) (ce_int)) (ca_nil))))))) (css_nil)) (css_one (cs_ret (ce_if (ct_cmp (op2_eq (hu64 hr)) (cv 2) (ce_int) (nomark _)) (ce_tup (ca_cons (cv 3) (ca_cons (ce_int) (ca_cons (ce_none) (ca_nil))))) (ce_tup (ca_cons (cv 3) (ca_cons (ce_ix (cv 4) (ce_int)) (ca_cons (ce_ix (cv 4) (ce_int)) (ca_nil)))))))))))
abbrev n_law_deck : List Str := ["_law_d", "_law_most", "_law_many", "_law_wrap", "_law_cards", "_law_name", "_law_actions", "_law_k"]
theorem sc_law_deck : FnScope n_law_deck ["_law_d", "_law_most"] (defScope s_law_deck) := ⟨rfl, rfl, rfl, by decide +kernel, rfl, by decide +kernel, by decide +kernel⟩
theorem ok_law_deck (T : Tx K mg) : OkD P w K mg base 3 (He.ga K "_law_deck") ["_law_d", "_law_most"] F_law_deck := by
  show OkD P w K mg base 3 (He.ga K "_law_deck") ["_law_d", "_law_most"] (fDef 8 b_law_deck)
  refine okD_def (k := 2) (N := n_law_deck) rfl T.d_law_deck sc_law_deck (fun _ _ _ _ _ _ us hl => match us, hl with | [_, _], _ => rfl) (fun cdv A outer s H E hr tk po => ?_)
  exact css_cons (cs_set (i := 2) sc_law_deck.nd rfl (by first | exact Or.inl rfl | exact Or.inr rfl) (ce_bin op2_add (ce_int) (ck_call (ok_law_below T) (hr.mono (by decide)) tk T.g__law_below (ca_cons (cv 0) (ca_cons (cv 1) (ca_nil)))))) (css_cons (cs_set (i := 3) sc_law_deck.nd rfl (by first | exact Or.inl rfl | exact Or.inr rfl) (ce_ix (ce_lst (ca_cons (ce_int) (ca_cons (ce_int) (ca_cons (ce_bin op2_add (ce_int) (ck_call (ok_law_below T) (hr.mono (by decide)) tk T.g__law_below (ca_cons (cv 0) (ca_cons (ce_int) (ca_nil))))) (ca_nil))))) (ck_call (ok_law_below T) (hr.mono (by decide)) tk T.g__law_below (ca_cons (cv 0) (ca_cons (ce_int) (ca_nil)))))) (css_cons (cs_set (i := 4) sc_law_deck.nd rfl (by first | exact Or.inl rfl | exact Or.inr rfl) (ce_lst (ca_nil))) (css_cons (cs_for po rfl (ci_seq (ce_slice (ck_call (ok_law_shuffled T) (hr.mono (by decide)) tk T.g__law_shuffled (ca_cons (cv 0) (ca_cons (ce_lst (ca_cons (ce_str) (ca_cons (ce_str) (ca_cons (ce_str) (ca_cons (ce_str) (ca_cons (ce_str) (ca_cons (ce_str) (ca_cons (ce_str) (ca_cons (ce_str) (ca_nil)))))))))) (ca_nil)))) (co_none) (co_some (cv 2)))) (cg_name (i := 5) sc_law_deck.nd rfl (by first | exact Or.inl rfl | exact Or.inr rfl)) (plain_name) (css_cons (cs_setLc (i := 6) (own := [("_law_k", 7)]) rfl sc_law_deck.nd rfl rfl (sw_true rfl rfl rfl (by decide +kernel)) (ci_range1 (by rfl) T.n_range (ck_call (ok_law_below T) (hr.mono (by decide)) tk T.g__law_below (ca_cons (cv 0) (ca_cons (ce_ix (ce_lst (ca_cons (ce_int) (ca_cons (ce_int) (ca_nil)))) (ck_call (ok_law_below T) (hr.mono (by decide)) tk T.g__law_below (ca_cons (cv 0) (ca_cons (ce_int) (ca_nil))))) (ca_nil))))) (blkOk_by (N := n_law_deck) (sc := defScope s_law_deck) (own := [("_law_k", 7)]) (by decide +kernel)) (tgOk_name (by decide)) (fun _ _ _ _ _ => pg_name (i := 7) sc_law_deck.nd rfl (by first | exact Or.inl rfl | exact Or.inr rfl)) (fun _ _ _ _ _ => cts_nil) (fun _ _ _ _ _ => ck_call (ok_law_action T) (hr.mono (by decide)) takes0' T.g__law_action (ca_cons (cv 0) (ca_cons (cv 3) (ca_nil))))) (css_one (cs_expr (ce_bm PySem.F.plainAttrs_list PySem.F.slot_list_append PySem.F.type_list_append mc_append (cv 4) (ca_cons (ce_tup (ca_cons (cv 5) (ca_cons (cv 6) (ca_cons (ck_call (ok_law_put T) (hr.mono (by decide)) tk T.g__law_put (ca_cons (cv 0) (ca_cons (cv 2) (ca_nil)))) (ca_nil))))) (ca_nil))))))) (css_one (cs_ret (ce_tup (ca_cons (cv 3) (ca_cons (cv 4) (ca_nil)))))))))
abbrev n_law_step : List Str := ["_law_deck_here", "_law_state", "_law_wrap", "_law_emitted", "_law_values", "_law_name", "_law_actions", "_law_put_here", "_law_word", "_law_slot", "_law_other", "_law_first", "_law_second", "_law_depth", "_law_others"]
theorem sc_law_step : FnScope n_law_step ["_law_deck_here", "_law_state"] (defScope s_law_step) := ⟨rfl, rfl, rfl, by decide +kernel, rfl, by decide +kernel, by decide +kernel⟩
theorem ok_law_step (T : Tx K mg) : OkD P w K mg base 1 (He.ga K "_law_step") ["_law_deck_here", "_law_state"] F_law_step := by
  show OkD P w K mg base 1 (He.ga K "_law_step") ["_law_deck_here", "_law_state"] (fDef 15 b_law_step)
  refine okD_def (k := 0) (N := n_law_step) rfl T.d_law_step sc_law_step (fun _ _ _ _ _ _ us hl => match us, hl with | [_, _], _ => rfl) (fun cdv A outer s H E hr tk po => ?_)
  exact css_cons (cs_par3 (i1 := 2) (i2 := 3) (i3 := 4) (hN := sc_law_step.nd) (ca_cons (ce_ix (cv 0) (ce_int)) (ca_cons (ce_lst (ca_nil)) (ca_cons (ce_callTy cc_list (by rfl) T.n_list (by decide +kernel) (ca_cons (ce_ix (cv 1) (ce_int)) (ca_nil))) (ca_nil))))) (css_cons (cs_asg (ce_ix (ce_ix (cv 1) (ce_int)) (ce_int)) (cg_tup rfl (cgs_cons (cg_name (i := 5) sc_law_step.nd rfl (by first | exact Or.inl rfl | exact Or.inr rfl)) (cgs_cons (cg_name (i := 6) sc_law_step.nd rfl (by first | exact Or.inl rfl | exact Or.inr rfl)) (cgs_cons (cg_name (i := 7) sc_law_step.nd rfl (by first | exact Or.inl rfl | exact Or.inr rfl)) (cgs_nil) (plain_name)) (plain_name)) (plain_name))) (plain_tup (plains_cons (plain_name) (plains_cons (plain_name) (plains_cons (plain_name) (plains_nil)))))) (css_cons (cs_for po rfl (ci_seq (cv 6)) (cg_tup rfl (cgs_cons (cg_name (i := 8) sc_law_step.nd rfl (by first | exact Or.inl rfl | exact Or.inr rfl)) (cgs_cons (cg_name (i := 9) sc_law_step.nd rfl (by first | exact Or.inl rfl | exact Or.inr rfl)) (cgs_cons (cg_name (i := 10) sc_law_step.nd rfl (by first | exact Or.inl rfl | exact Or.inr rfl)) (cgs_nil) (plain_name)) (plain_name)) (plain_name))) (plain_tup (plains_cons (plain_name) (plains_cons (plain_name) (plains_cons (plain_name) (plains_nil))))) (css_cons (cs_if (ct_cmp (op2_eq (hu64 hr)) (cv 8) (ce_str) (nomark _)) (css_one (cs_expr (ce_bm PySem.F.plainAttrs_list PySem.F.slot_list_append PySem.F.type_list_append mc_append (cv 3) (ca_cons (ce_if (ct_cmp op2_isN (cv 9) (ce_none) (nomark _)) (cv 10) (ce_ix (cv 4) (cv 9))) (ca_nil))))) (css_nil)) (css_cons (cs_if (ct_cmp (op2_eq (hu64 hr)) (cv 8) (ce_str) (nomark _)) (css_one (cs_asg (ce_bin op2_mod (ce_bin op2_add (ce_ix (cv 4) (cv 9)) (cv 10)) (cv 2)) (cg_ix (cv 4) (cv 9)) (plain_ix))) (css_nil)) (css_cons (cs_if (ct_cmp (op2_eq (hu64 hr)) (cv 8) (ce_str) (nomark _)) (css_one (cs_asg (ce_tup (ca_cons (ce_ix (cv 4) (cv 10)) (ca_cons (ce_ix (cv 4) (cv 9)) (ca_nil)))) (cg_tup rfl (cgs_cons (cg_ix (cv 4) (cv 9)) (cgs_cons (cg_ix (cv 4) (cv 10)) (cgs_nil) (plain_ix)) (plain_ix))) (plain_tup (plains_cons (plain_ix) (plains_cons (plain_ix) (plains_nil)))))) (css_nil)) (css_one (cs_if (ct_cmp (op2_eq (hu64 hr)) (cv 8) (ce_str) (nomark _)) (css_one (cs_asg (ce_ix (cv 4) (cv 10)) (cg_ix (cv 4) (cv 9)) (plain_ix))) (css_nil))))))) (css_cons (cs_asg (cv 7) (cg_tup rfl (cgs_cons (cg_name (i := 9) sc_law_step.nd rfl (by first | exact Or.inl rfl | exact Or.inr rfl)) (cgs_cons (cg_name (i := 11) sc_law_step.nd rfl (by first | exact Or.inl rfl | exact Or.inr rfl)) (cgs_cons (cg_name (i := 12) sc_law_step.nd rfl (by first | exact Or.inl rfl | exact Or.inr rfl)) (cgs_nil) (plain_name)) (plain_name)) (plain_name))) (plain_tup (plains_cons (plain_name) (plains_cons (plain_name) (plains_cons (plain_name) (plains_nil)))))) (css_cons (cs_set (i := 13) sc_law_step.nd rfl (by first | exact Or.inl rfl | exact Or.inr rfl) (cv 11)) (css_cons (cs_if (PW.pt (cw_and (ct_cmp op2_notN (cv 9) (ce_none) (nomark _)) (cw_and1 (ct_cmp op2_isN (cv 12) (ce_none) (nomark _))))) (css_one (cs_set (i := 13) sc_law_step.nd rfl (by first | exact Or.inl rfl | exact Or.inr rfl) (ce_ix (cv 4) (cv 9)))) (css_nil)) (css_cons (cs_if (PW.pt (cw_and (ct_cmp op2_notN (cv 9) (ce_none) (nomark _)) (cw_and (ct_cmp op2_notN (cv 12) (ce_none) (nomark _)) (cw_and1 (ct_cmp op2_gt (ce_ix (cv 4) (cv 9)) (ce_int) (nomark _)))))) (css_one (cs_set (i := 13) sc_law_step.nd rfl (by first | exact Or.inl rfl | exact Or.inr rfl) (cv 12))) (css_nil)) (css_cons (cs_set (i := 14) sc_law_step.nd rfl (by first | exact Or.inl rfl | exact Or.inr rfl) (ce_slice (ce_ix (cv 1) (ce_int)) (co_some (ce_int)) (co_none))) (css_cons (cs_set (i := 13) sc_law_step.nd rfl (by first | exact Or.inl rfl | exact Or.inr rfl) (ce_callB (cc_min rfl) (by rfl) T.n_min (by decide +kernel) (ca_cons (cv 13) (ca_cons (ce_callB cc_len (by rfl) T.n_len (by decide +kernel) (ca_cons (cv 14) (ca_nil))) (ca_nil))))) (css_one (cs_ret (ce_tup (ca_cons (ce_tup (ca_cons (ce_bin op2_add (ce_bin op2_add (ce_slice (cv 14) (co_none) (co_some (cv 13))) (ce_lst (ca_cons (ce_ix (ce_ix (cv 1) (ce_int)) (ce_int)) (ca_nil)))) (ce_slice (cv 14) (co_some (cv 13)) (co_none))) (ca_cons (cv 4) (ca_nil)))) (ca_cons (cv 3) (ca_cons (cv 13) (ca_nil)))))))))))))))
abbrev n_law_named : List Str := ["_law_state", "_law_card"]
theorem sc_law_named : FnScope n_law_named ["_law_state"] (defScope s_law_named) := ⟨rfl, rfl, rfl, by decide +kernel, rfl, by decide +kernel, by decide +kernel⟩
theorem ok_law_named (T : Tx K mg) : OkD P w K mg base 1 (He.ga K "_law_named") ["_law_state"] F_law_named := by
  show OkD P w K mg base 1 (He.ga K "_law_named") ["_law_state"] (fDef 2 b_law_named)
  refine okD_def (k := 0) (N := n_law_named) rfl T.d_law_named sc_law_named (fun _ _ _ _ _ _ us hl => match us, hl with | [_], _ => rfl) (fun cdv A outer s H E hr tk po => ?_)
  exact css_one (cs_ret (ce_tup (ca_cons (ce_callTy cc_tuple (by rfl) T.n_tuple (by decide +kernel) (ca_cons (ce_lc (own := [("_law_card", 1)]) rfl sc_law_named.nd (ci_seq (ce_ix (cv 0) (ce_int))) (blkOk_by (N := n_law_named) (sc := defScope s_law_named) (own := [("_law_card", 1)]) (by decide +kernel)) (tgOk_name (by decide)) (fun _ _ _ _ _ => pg_name (i := 1) sc_law_named.nd rfl (by first | exact Or.inl rfl | exact Or.inr rfl)) (fun _ _ _ _ _ => cts_nil) (fun _ _ _ _ _ => ce_ix (cv 1) (ce_int))) (ca_nil))) (ca_cons (ce_callTy cc_tuple (by rfl) T.n_tuple (by decide +kernel) (ca_cons (ce_ix (cv 0) (ce_int)) (ca_nil))) (ca_nil)))))
abbrev n_law_orbit : List Str := ["_law_deck_here", "_law_state", "_law_limit", "_law_seen", "_law_states", "_law_outputs", "_law_emitted", "_law_depth"]
theorem sc_law_orbit : FnScope n_law_orbit ["_law_deck_here", "_law_state", "_law_limit"] (defScope s_law_orbit) := ⟨rfl, rfl, rfl, by decide +kernel, rfl, by decide +kernel, by decide +kernel⟩
theorem ok_law_orbit (T : Tx K mg) : OkD P w K mg base 2 (He.ga K "_law_orbit") ["_law_deck_here", "_law_state", "_law_limit"] F_law_orbit := by
  show OkD P w K mg base 2 (He.ga K "_law_orbit") ["_law_deck_here", "_law_state", "_law_limit"] (fDef 8 b_law_orbit)
  refine okD_def (k := 1) (N := n_law_orbit) rfl T.d_law_orbit sc_law_orbit (fun _ _ _ _ _ _ us hl => match us, hl with | [_, _, _], _ => rfl) (fun cdv A outer s H E hr tk po => ?_)
  exact css_cons (cs_par3 (i1 := 3) (i2 := 4) (i3 := 5) (hN := sc_law_orbit.nd) (ca_cons (ce_dic0) (ca_cons (ce_lst (ca_nil)) (ca_cons (ce_lst (ca_nil)) (ca_nil))))) (css_cons (cs_while po (PW.pt (cw_and (ct_cmp (op2_dnotIn (hu65 hr)) (ck_call (ok_law_named T) (hr.mono (by decide)) tk T.g__law_named (ca_cons (cv 1) (ca_nil))) (cv 3) rfl) (cw_and1 (ct_cmp op2_lt (ce_callB cc_len (by rfl) T.n_len (by decide +kernel) (ca_cons (cv 4) (ca_nil))) (cv 2) (nomark _))))) (css_cons (cs_asg (ce_callB cc_len (by rfl) T.n_len (by decide +kernel) (ca_cons (cv 4) (ca_nil))) (cg_dix (hu65 hr) (cv 3) (ck_call (ok_law_named T) (hr.mono (by decide)) tk T.g__law_named (ca_cons (cv 1) (ca_nil)))) (plain_dix)) (css_cons (cs_expr (ce_bm PySem.F.plainAttrs_list PySem.F.slot_list_append PySem.F.type_list_append mc_append (cv 4) (ca_cons (ck_call (ok_law_named T) (hr.mono (by decide)) tk T.g__law_named (ca_cons (cv 1) (ca_nil))) (ca_nil)))) (css_cons (cs_asg (ck_call (ok_law_step T) (hr.mono (by decide)) tk T.g__law_step (ca_cons (cv 0) (ca_cons (cv 1) (ca_nil)))) (cg_tup rfl (cgs_cons (cg_name (i := 1) sc_law_orbit.nd rfl (by first | exact Or.inl rfl | exact Or.inr rfl)) (cgs_cons (cg_name (i := 6) sc_law_orbit.nd rfl (by first | exact Or.inl rfl | exact Or.inr rfl)) (cgs_cons (cg_name (i := 7) sc_law_orbit.nd rfl (by first | exact Or.inl rfl | exact Or.inr rfl)) (cgs_nil) (plain_name)) (plain_name)) (plain_name))) (plain_tup (plains_cons (plain_name) (plains_cons (plain_name) (plains_cons (plain_name) (plains_nil)))))) (css_one (cs_expr (ce_bm PySem.F.plainAttrs_list PySem.F.slot_list_append PySem.F.type_list_append mc_append (cv 5) (ca_cons (cv 6) (ca_nil))))))))) (css_one (cs_ret (ce_tup (ca_cons (cv 4) (ca_cons (cv 5) (ca_cons (ce_dget (hu65 hr) (cv 3) (ck_call (ok_law_named T) (hr.mono (by decide)) tk T.g__law_named (ca_cons (cv 1) (ca_nil))) ⟨rfl, rfl, rfl, rfl⟩) (ca_nil))))))))
abbrev n_law_start : List Str := ["_law_deck_here"]
theorem sc_law_start : FnScope n_law_start ["_law_deck_here"] (defScope s_law_start) := ⟨rfl, rfl, rfl, by decide +kernel, rfl, by decide +kernel, by decide +kernel⟩
theorem ok_law_start (T : Tx K mg) : OkD P w K mg base 1 (He.ga K "_law_start") ["_law_deck_here"] F_law_start := by
  show OkD P w K mg base 1 (He.ga K "_law_start") ["_law_deck_here"] (fDef 1 b_law_start)
  refine okD_def (k := 0) (N := n_law_start) rfl T.d_law_start sc_law_start (fun _ _ _ _ _ _ us hl => match us, hl with | [_], _ => rfl) (fun cdv A outer s H E hr tk po => ?_)
  exact css_one (cs_ret (ce_tup (ca_cons (ce_callTy cc_list (by rfl) T.n_list (by decide +kernel) (ca_cons (ce_ix (cv 0) (ce_int)) (ca_nil))) (ca_cons (ce_lst (ca_cons (ce_int) (ca_cons (ce_int) (ca_cons (ce_int) (ca_cons (ce_int) (ca_nil)))))) (ca_nil)))))
abbrev n_law_short_deck : List Str := ["_law_d", "_law_most", "_law_turn", "_law_deck_here", "_law_kind", "_law_wrap", "_law_first", "_law_orbit_here"]
theorem sc_law_short_deck : FnScope n_law_short_deck ["_law_d", "_law_most"] (defScope s_law_short_deck) := ⟨rfl, rfl, rfl, by decide +kernel, rfl, by decide +kernel, by decide +kernel⟩
theorem ok_law_short_deck (T : Tx K mg) : OkD P w K mg base 4 (He.ga K "_law_short_deck") ["_law_d", "_law_most"] F_law_short_deck := by
  show OkD P w K mg base 4 (He.ga K "_law_short_deck") ["_law_d", "_law_most"] (fDef 8 b_law_short_deck)
  refine okD_def (k := 3) (N := n_law_short_deck) rfl T.d_law_short_deck sc_law_short_deck (fun _ _ _ _ _ _ us hl => match us, hl with | [_, _], _ => rfl) (fun cdv A outer s H E hr tk po => ?_)
  exact css_cons (cs_for po rfl (ci_range1 (by rfl) T.n_range (ce_int)) (cg_name (i := 2) sc_law_short_deck.nd rfl (by first | exact Or.inl rfl | exact Or.inr rfl)) (plain_name) (css_cons (cs_set (i := 3) sc_law_short_deck.nd rfl (by first | exact Or.inl rfl | exact Or.inr rfl) (ck_call (ok_law_deck T) (hr.mono (by decide)) tk T.g__law_deck (ca_cons (cv 0) (ca_cons (cv 1) (ca_nil))))) (css_cons (cs_par2 (i1 := 4) (i2 := 5) (hN := sc_law_short_deck.nd) (ca_cons (ck_call (ok_law_below T) (hr.mono (by decide)) tk T.g__law_below (ca_cons (cv 0) (ca_cons (ce_int) (ca_nil)))) (ca_cons (ce_bin op2_add (ce_int) (ck_call (ok_law_below T) (hr.mono (by decide)) tk T.g__law_below (ca_cons (cv 0) (ca_cons (ce_int) (ca_nil))))) (ca_nil)))) (css_cons (cs_if (ct_cmp (op2_eq (hu64 hr)) (cv 4) (ce_int) (nomark _)) (css_one (cs_set (i := 3) sc_law_short_deck.nd rfl (by first | exact Or.inl rfl | exact Or.inr rfl) (ce_tup (ca_cons (ce_bin op2_add (cv 5) (ce_int)) (ca_cons (ce_lst (ca_cons (ce_tup (ca_cons (ce_str) (ca_cons (ce_lst (ca_cons (ce_tup (ca_cons (ce_str) (ca_cons (ce_int) (ca_cons (ce_int) (ca_nil))))) (ca_cons (ce_tup (ca_cons (ce_str) (ca_cons (ce_int) (ca_cons (ce_int) (ca_nil))))) (ca_nil)))) (ca_cons (ce_tup (ca_cons (ce_none) (ca_cons (ce_int) (ca_cons (ce_int) (ca_nil))))) (ca_nil))))) (ca_cons (ce_tup (ca_cons (ce_str) (ca_cons (ce_lst (ca_nil)) (ca_cons (ce_tup (ca_cons (ce_int) (ca_cons (ce_int) (ca_cons (ce_int) (ca_nil))))) (ca_nil))))) (ca_nil)))) (ca_nil)))))) (css_nil)) (css_cons (cs_if (ct_cmp (op2_eq (hu64 hr)) (cv 4) (ce_int) (nomark _)) (css_cons (cs_set (i := 6) sc_law_short_deck.nd rfl (by first | exact Or.inl rfl | exact Or.inr rfl) (ce_lst (ca_cons (ce_tup (ca_cons (ce_str) (ca_cons (ce_lst (ca_cons (ce_tup (ca_cons (ce_str) (ca_cons (ce_int) (ca_cons (ce_int) (ca_nil))))) (ca_nil))) (ca_cons (ce_tup (ca_cons (ce_int) (ca_cons (ce_int) (ca_cons (ce_int) (ca_nil))))) (ca_nil))))) (ca_cons (ce_tup (ca_cons (ce_str) (ca_cons (ce_lst (ca_cons (ce_tup (ca_cons (ce_str) (ca_cons (ce_int) (ca_cons (ce_int) (ca_nil))))) (ca_nil))) (ca_cons (ce_tup (ca_cons (ce_int) (ca_cons (ce_int) (ca_cons (ce_int) (ca_nil))))) (ca_nil))))) (ca_nil))))) (css_one (cs_set (i := 3) sc_law_short_deck.nd rfl (by first | exact Or.inl rfl | exact Or.inr rfl) (ce_tup (ca_cons (cv 5) (ca_cons (ce_bin op2_add (cv 6) (ce_lst (ca_cons (ce_tup (ca_cons (ce_str) (ca_cons (ce_lst (ca_cons (ce_tup (ca_cons (ce_str) (ca_cons (ce_none) (ca_cons (ce_int) (ca_nil))))) (ca_nil))) (ca_cons (ce_tup (ca_cons (ce_none) (ca_cons (ce_int) (ca_cons (ce_int) (ca_nil))))) (ca_nil))))) (ca_nil)))) (ca_nil))))))) (css_nil)) (css_cons (cs_set (i := 7) sc_law_short_deck.nd rfl (by first | exact Or.inl rfl | exact Or.inr rfl) (ck_call (ok_law_orbit T) (hr.mono (by decide)) tk T.g__law_orbit (ca_cons (cv 3) (ca_cons (ck_call (ok_law_start T) (hr.mono (by decide)) tk T.g__law_start (ca_cons (cv 3) (ca_nil))) (ca_cons (ce_int) (ca_nil)))))) (css_one (cs_if (ct_cmp op2_notN (ce_ix (cv 7) (ce_int)) (ce_none) (nomark _)) (css_one (cs_ret (ce_tup (ca_cons (cv 3) (ca_cons (cv 7) (ca_nil)))))) (css_nil))))))))) (css_cons (cs_set (i := 3) sc_law_short_deck.nd rfl (by first | exact Or.inl rfl | exact Or.inr rfl) (ce_tup (ca_cons (ce_int) (ca_cons (ce_lst (ca_cons (ce_tup (ca_cons (ce_str) (ca_cons (ce_lst (ca_cons (ce_tup (ca_cons (ce_str) (ca_cons (ce_int) (ca_cons (ce_int) (ca_nil))))) (ca_cons (ce_tup (ca_cons (ce_str) (ca_cons (ce_int) (ca_cons (ce_int) (ca_nil))))) (ca_nil)))) (ca_cons (ce_tup (ca_cons (ce_none) (ca_cons (ce_int) (ca_cons (ce_int) (ca_nil))))) (ca_nil))))) (ca_cons (ce_tup (ca_cons (ce_str) (ca_cons (ce_lst (ca_nil)) (ca_cons (ce_tup (ca_cons (ce_int) (ca_cons (ce_int) (ca_cons (ce_none) (ca_nil))))) (ca_nil))))) (ca_nil)))) (ca_nil))))) (css_one (cs_ret (ce_tup (ca_cons (cv 3) (ca_cons (ck_call (ok_law_orbit T) (hr.mono (by decide)) tk T.g__law_orbit (ca_cons (cv 3) (ca_cons (ck_call (ok_law_start T) (hr.mono (by decide)) tk T.g__law_start (ca_cons (cv 3) (ca_nil))) (ca_cons (ce_int) (ca_nil))))) (ca_nil)))))))
abbrev n_Token_init : List Str := ["self", "kind", "text", "line", "column"]
theorem sc_Token_init : FnScope n_Token_init ["self", "kind", "text", "line", "column"] (defScope s_Token_init) := ⟨rfl, rfl, rfl, by decide +kernel, rfl, by decide +kernel, by decide +kernel⟩
theorem ok_Token_init (T : Tx K mg) : OkD P w K mg base 1 (He.ma K (He.ga K "Token") "__init__") ["self", "kind", "text", "line", "column"] F_Token_init := by
  show OkD P w K mg base 1 (He.ma K (He.ga K "Token") "__init__") ["self", "kind", "text", "line", "column"] (fDef 5 b_Token_init)
  refine okD_def (k := 0) (N := n_Token_init) rfl T.d_Token_init sc_Token_init (fun _ _ _ _ _ _ us hl => match us, hl with | [_, _, _, _, _], _ => rfl) (fun cdv A outer s H E hr tk po => ?_)
  exact css_cons (cs_fld (c := "Token") (cv 0) (cv 1) T.g_Token T.c_Token T.a_Token_kind) (css_cons (cs_fld (c := "Token") (cv 0) (cv 2) T.g_Token T.c_Token T.a_Token_text) (css_cons (cs_fld (c := "Token") (cv 0) (cv 3) T.g_Token T.c_Token T.a_Token_line) (css_one (cs_fld (c := "Token") (cv 0) (cv 4) T.g_Token T.c_Token T.a_Token_column))))
abbrev n_run_length : List Str := ["text", "column", "signs", "length"]
theorem sc_run_length : FnScope n_run_length ["text", "column", "signs"] (defScope s_run_length) := ⟨rfl, rfl, rfl, by decide +kernel, rfl, by decide +kernel, by decide +kernel⟩
theorem ok_run_length (T : Tx K mg) : OkD P w K mg base 1 (He.ga K "run_length") ["text", "column", "signs"] F_run_length := by
  show OkD P w K mg base 1 (He.ga K "run_length") ["text", "column", "signs"] (fDef 4 b_run_length)
  refine okD_def (k := 0) (N := n_run_length) rfl T.d_run_length sc_run_length (fun _ _ _ _ _ _ us hl => match us, hl with | [_, _, _], _ => rfl) (fun cdv A outer s H E hr tk po => ?_)
  exact css_cons (cs_set (i := 3) sc_run_length.nd rfl (by first | exact Or.inl rfl | exact Or.inr rfl) (ce_int)) (css_cons (cs_while po (PW.pt (cw_and (ct_cmp op2_lt (ce_bin op2_add (cv 1) (cv 3)) (ce_callB cc_len (by rfl) T.n_len (by decide +kernel) (ca_cons (cv 0) (ca_nil))) (nomark _)) (cw_and1 (ct_cmp (op2_in (hu65 hr)) (ce_ix (cv 0) (ce_bin op2_add (cv 1) (cv 3))) (cv 2) rfl)))) (css_one (cs_augNm (i := 3) sc_run_length.nd rfl (by first | exact Or.inl rfl | exact Or.inr rfl) (ce_int)))) (css_one (cs_ret (cv 3))))
abbrev n_read_token : List Str := ["text", "line", "column", "first", "number", "word"]
theorem sc_read_token : FnScope n_read_token ["text", "line", "column"] (defScope s_read_token) := ⟨rfl, rfl, rfl, by decide +kernel, rfl, by decide +kernel, by decide +kernel⟩
theorem ok_read_token (T : Tx K mg) : OkD P w K mg base 5 (He.ga K "read_token") ["text", "line", "column"] F_read_token := by
  show OkD P w K mg base 5 (He.ga K "read_token") ["text", "line", "column"] (fDef 6 b_read_token)
  refine okD_def (k := 4) (N := n_read_token) rfl T.d_read_token sc_read_token (fun _ _ _ _ _ _ us hl => match us, hl with | [_, _, _], _ => rfl) (fun cdv A outer s H E hr tk po => ?_)
  exact css_cons (cs_set (i := 3) sc_read_token.nd rfl (by first | exact Or.inl rfl | exact Or.inr rfl) (ce_ix (cv 0) (cv 2))) (css_cons (cs_if (ct_cmp (op2_eq (hu64 hr)) (ce_slice (cv 0) (co_some (cv 2)) (co_some (ce_bin op2_add (cv 2) (ce_callB cc_len (by rfl) T.n_len (by decide +kernel) (ca_cons (ce_gstr T.k_ARROW) (ca_nil)))))) (ce_gstr T.k_ARROW) (nomark _)) (css_one (cs_ret (ck_make T.mk_Token (ok_Token_init T) (hr.mono (by decide)) tk T.g_Token (ca_cons (ce_gstr T.k_SIGN) (ca_cons (ce_gstr T.k_ARROW) (ca_cons (cv 1) (ca_cons (cv 2) (ca_nil)))))))) (css_nil)) (css_cons (cs_if (ct_cmp (op2_in (hu65 hr)) (cv 3) (ce_gstr T.k_SIGNS) rfl) (css_one (cs_ret (ck_make T.mk_Token (ok_Token_init T) (hr.mono (by decide)) tk T.g_Token (ca_cons (ce_gstr T.k_SIGN) (ca_cons (cv 3) (ca_cons (cv 1) (ca_cons (cv 2) (ca_nil)))))))) (css_nil)) (css_cons (cs_if (ct_cmp (op2_in (hu65 hr)) (cv 3) (ce_gstr T.k_DIGITS) rfl) (css_cons (cs_set (i := 4) sc_read_token.nd rfl (by first | exact Or.inl rfl | exact Or.inr rfl) (ce_slice (cv 0) (co_some (cv 2)) (co_some (ce_bin op2_add (cv 2) (ck_call (ok_run_length T) (hr.mono (by decide)) tk T.g_run_length (ca_cons (cv 0) (ca_cons (cv 2) (ca_cons (ce_gstr T.k_DIGITS) (ca_nil))))))))) (css_cons (cs_if (PW.pt (cw_or (ct_cmp op2_gt (ce_callB cc_len (by rfl) T.n_len (by decide +kernel) (ca_cons (cv 4) (ca_nil))) (ce_gint T.k_MAX_DIGITS) (nomark _)) (cw_or1 (PW.pt (cw_and (ct_cmp op2_gt (ce_callB cc_len (by rfl) T.n_len (by decide +kernel) (ca_cons (cv 4) (ca_nil))) (ce_int) (nomark _)) (cw_and1 (ct_cmp (op2_eq (hu64 hr)) (cv 3) (ce_str) (nomark _)))))))) (css_one (cs_raiseI (x_SyntaxFault T) (hr.mono (by decide)) tk T.g_SyntaxFault (ca_cons (cv 1) (ca_cons (cv 2) (ca_nil))))) (css_nil)) (css_one (cs_ret (ck_make T.mk_Token (ok_Token_init T) (hr.mono (by decide)) tk T.g_Token (ca_cons (ce_gstr T.k_NUMBER) (ca_cons (cv 4) (ca_cons (cv 1) (ca_cons (cv 2) (ca_nil)))))))))) (css_nil)) (css_cons (cs_set (i := 5) sc_read_token.nd rfl (by first | exact Or.inl rfl | exact Or.inr rfl) (ce_slice (cv 0) (co_some (cv 2)) (co_some (ce_bin op2_add (cv 2) (ck_call (ok_run_length T) (hr.mono (by decide)) tk T.g_run_length (ca_cons (cv 0) (ca_cons (cv 2) (ca_cons (ce_gstr T.k_LETTERS) (ca_nil))))))))) (css_cons (cs_if (ct_not (ct_chain opr_le opr_le (ce_int) (ce_callB cc_len (by rfl) T.n_len (by decide +kernel) (ca_cons (cv 5) (ca_nil))) (ce_gint T.k_MAX_LETTERS))) (css_one (cs_raiseI (x_SyntaxFault T) (hr.mono (by decide)) tk T.g_SyntaxFault (ca_cons (cv 1) (ca_cons (cv 2) (ca_nil))))) (css_nil)) (css_cons (cs_if (ct_cmp (op2_in (hu65 hr)) (cv 5) (ce_gtupS T.g_KEYWORDS T.k_KEYWORDS) rfl) (css_one (cs_ret (ck_make T.mk_Token (ok_Token_init T) (hr.mono (by decide)) tk T.g_Token (ca_cons (ce_gstr T.k_SIGN) (ca_cons (cv 5) (ca_cons (cv 1) (ca_cons (cv 2) (ca_nil)))))))) (css_nil)) (css_one (cs_ret (ck_make T.mk_Token (ok_Token_init T) (hr.mono (by decide)) tk T.g_Token (ca_cons (ce_if (ct_cmp (op2_in (hu65 hr)) (cv 5) (ce_gtupS T.g_REGISTERS T.k_REGISTERS) rfl) (ce_gstr T.k_REGISTER) (ce_gstr T.k_NAME)) (ca_cons (cv 5) (ca_cons (cv 1) (ca_cons (cv 2) (ca_nil))))))))))))))
abbrev n_tokenize : List Str := ["deck", "tokens", "lines", "line", "text", "column"]
theorem sc_tokenize : FnScope n_tokenize ["deck"] (defScope s_tokenize) := ⟨rfl, rfl, rfl, by decide +kernel, rfl, by decide +kernel, by decide +kernel⟩
theorem ok_tokenize (T : Tx K mg) : OkD P w K mg base 6 (He.ga K "tokenize") ["deck"] F_tokenize := by
  show OkD P w K mg base 6 (He.ga K "tokenize") ["deck"] (fDef 6 b_tokenize)
  refine okD_def (k := 5) (N := n_tokenize) rfl T.d_tokenize sc_tokenize (fun _ _ _ _ _ _ us hl => match us, hl with | [_], _ => rfl) (fun cdv A outer s H E hr tk po => ?_)
  exact css_cons (cs_set (i := 1) sc_tokenize.nd rfl (by first | exact Or.inl rfl | exact Or.inr rfl) (ce_lst (ca_nil))) (css_cons (cs_set (i := 2) sc_tokenize.nd rfl (by first | exact Or.inl rfl | exact Or.inr rfl) (ce_bm PySem.F.plainAttrs_str PySem.F.slot_str_split PySem.F.type_str_split mc_split (cv 0) (ca_cons (ce_str) (ca_nil)))) (css_cons (cs_for po rfl (ci_enumL (by rfl) T.n_enumerate (cv 2)) (cg_tup rfl (cgs_cons (cg_name (i := 3) sc_tokenize.nd rfl (by first | exact Or.inl rfl | exact Or.inr rfl)) (cgs_cons (cg_name (i := 4) sc_tokenize.nd rfl (by first | exact Or.inl rfl | exact Or.inr rfl)) (cgs_nil) (plain_name)) (plain_name))) (plain_tup (plains_cons (plain_name) (plains_cons (plain_name) (plains_nil)))) (css_cons (cs_set (i := 5) sc_tokenize.nd rfl (by first | exact Or.inl rfl | exact Or.inr rfl) (ce_int)) (css_one (cs_while po (ct_cmp op2_lt (cv 5) (ce_callB cc_len (by rfl) T.n_len (by decide +kernel) (ca_cons (cv 4) (ca_nil))) (nomark _)) (css_one (cs_if (ct_cmp (op2_eq (hu64 hr)) (ce_ix (cv 4) (cv 5)) (ce_str) (nomark _)) (css_one (cs_augNm (i := 5) sc_tokenize.nd rfl (by first | exact Or.inl rfl | exact Or.inr rfl) (ce_int))) (css_cons (cs_expr (ce_bm PySem.F.plainAttrs_list PySem.F.slot_list_append PySem.F.type_list_append mc_append (cv 1) (ca_cons (ck_call (ok_read_token T) (hr.mono (by decide)) tk T.g_read_token (ca_cons (cv 4) (ca_cons (cv 3) (ca_cons (cv 5) (ca_nil))))) (ca_nil)))) (css_one (cs_augNm (i := 5) sc_tokenize.nd rfl (by first | exact Or.inl rfl | exact Or.inr rfl) (ce_callB cc_len (by rfl) T.n_len (by decide +kernel) (ca_cons (ce_fld (c := "Token") (ce_ix (cv 1) (ce_neg (ce_int))) T.g_Token T.c_Token T.a_Token_text) (ca_nil)))))))))))) (css_cons (cs_expr (ce_bm PySem.F.plainAttrs_list PySem.F.slot_list_append PySem.F.type_list_append mc_append (cv 1) (ca_cons (ck_make T.mk_Token (ok_Token_init T) (hr.mono (by decide)) tk T.g_Token (ca_cons (ce_gstr T.k_END) (ca_cons (ce_str) (ca_cons (ce_callB cc_len (by rfl) T.n_len (by decide +kernel) (ca_cons (cv 2) (ca_nil))) (ca_cons (ce_int) (ca_nil)))))) (ca_nil)))) (css_one (cs_ret (cv 1))))))
abbrev n_Parser_init : List Str := ["self", "deck"]
theorem sc_Parser_init : FnScope n_Parser_init ["self", "deck"] (defScope s_Parser_init) := ⟨rfl, rfl, rfl, by decide +kernel, rfl, by decide +kernel, by decide +kernel⟩
theorem ok_Parser_init (T : Tx K mg) : OkD P w K mg base 7 (He.ma K (He.ga K "Parser") "__init__") ["self", "deck"] F_Parser_init := by
  show OkD P w K mg base 7 (He.ma K (He.ga K "Parser") "__init__") ["self", "deck"] (fDef 2 b_Parser_init)
  refine okD_def (k := 6) (N := n_Parser_init) rfl T.d_Parser_init sc_Parser_init (fun _ _ _ _ _ _ us hl => match us, hl with | [_, _], _ => rfl) (fun cdv A outer s H E hr tk po => ?_)
  exact css_cons (cs_fld (c := "Parser") (cv 0) (ck_call (ok_tokenize T) (hr.mono (by decide)) tk T.g_tokenize (ca_cons (cv 1) (ca_nil))) T.g_Parser T.c_Parser T.a_Parser_tokens) (css_cons (cs_fld (c := "Parser") (cv 0) (ce_int) T.g_Parser T.c_Parser T.a_Parser_at) (css_cons (cs_fld (c := "Parser") (cv 0) (ce_gint T.k_MAX_WRAP) T.g_Parser T.c_Parser T.a_Parser_wrap) (css_one (cs_fld (c := "Parser") (cv 0) (ce_lst (ca_nil)) T.g_Parser T.c_Parser T.a_Parser_faults))))
abbrev n_Parser_peek : List Str := ["self"]
theorem sc_Parser_peek : FnScope n_Parser_peek ["self"] (defScope s_Parser_peek) := ⟨rfl, rfl, rfl, by decide +kernel, rfl, by decide +kernel, by decide +kernel⟩
theorem ok_Parser_peek (T : Tx K mg) : OkD P w K mg base 1 (He.ma K (He.ga K "Parser") "peek") ["self"] F_Parser_peek := by
  show OkD P w K mg base 1 (He.ma K (He.ga K "Parser") "peek") ["self"] (fDef 1 b_Parser_peek)
  refine okD_def (k := 0) (N := n_Parser_peek) rfl T.d_Parser_peek sc_Parser_peek (fun _ _ _ _ _ _ us hl => match us, hl with | [_], _ => rfl) (fun cdv A outer s H E hr tk po => ?_)
  exact css_one (cs_ret (ce_ix (ce_fld (c := "Parser") (cv 0) T.g_Parser T.c_Parser T.a_Parser_tokens) (ce_fld (c := "Parser") (cv 0) T.g_Parser T.c_Parser T.a_Parser_at)))
abbrev n_Parser_expect : List Str := ["self", "text", "token"]
theorem sc_Parser_expect : FnScope n_Parser_expect ["self", "text"] (defScope s_Parser_expect) := ⟨rfl, rfl, rfl, by decide +kernel, rfl, by decide +kernel, by decide +kernel⟩
theorem ok_Parser_expect (T : Tx K mg) : OkD P w K mg base 5 (He.ma K (He.ga K "Parser") "expect") ["self", "text"] F_Parser_expect := by
  show OkD P w K mg base 5 (He.ma K (He.ga K "Parser") "expect") ["self", "text"] (fDef 3 b_Parser_expect)
  refine okD_def (k := 4) (N := n_Parser_expect) rfl T.d_Parser_expect sc_Parser_expect (fun _ _ _ _ _ _ us hl => match us, hl with | [_, _], _ => rfl) (fun cdv A outer s H E hr tk po => ?_)
  exact css_cons (cs_set (i := 2) sc_Parser_expect.nd rfl (by first | exact Or.inl rfl | exact Or.inr rfl) (ck_meth0 (c := "Parser") (ok_Parser_peek T) (hr.mono (by decide)) tk T.g_Parser T.c_Parser T.m_Parser_peek (cv 0))) (css_cons (cs_if (ct_cmp (op2_ne (hu64 hr)) (ce_fld (c := "Token") (cv 2) T.g_Token T.c_Token T.a_Token_text) (cv 1) (nomark _)) (css_one (cs_raiseI (x_SyntaxFault T) (hr.mono (by decide)) tk T.g_SyntaxFault (ca_cons (ce_fld (c := "Token") (cv 2) T.g_Token T.c_Token T.a_Token_line) (ca_cons (ce_fld (c := "Token") (cv 2) T.g_Token T.c_Token T.a_Token_column) (ca_nil))))) (css_nil)) (css_one (cs_augFld (c := "Parser") (cv 0) (ce_int) T.g_Parser T.c_Parser T.a_Parser_at)))
abbrev n_Parser_take : List Str := ["self", "kind", "token"]
theorem sc_Parser_take : FnScope n_Parser_take ["self", "kind"] (defScope s_Parser_take) := ⟨rfl, rfl, rfl, by decide +kernel, rfl, by decide +kernel, by decide +kernel⟩
theorem ok_Parser_take (T : Tx K mg) : OkD P w K mg base 5 (He.ma K (He.ga K "Parser") "take") ["self", "kind"] F_Parser_take := by
  show OkD P w K mg base 5 (He.ma K (He.ga K "Parser") "take") ["self", "kind"] (fDef 3 b_Parser_take)
  refine okD_def (k := 4) (N := n_Parser_take) rfl T.d_Parser_take sc_Parser_take (fun _ _ _ _ _ _ us hl => match us, hl with | [_, _], _ => rfl) (fun cdv A outer s H E hr tk po => ?_)
  exact css_cons (cs_set (i := 2) sc_Parser_take.nd rfl (by first | exact Or.inl rfl | exact Or.inr rfl) (ck_meth0 (c := "Parser") (ok_Parser_peek T) (hr.mono (by decide)) tk T.g_Parser T.c_Parser T.m_Parser_peek (cv 0))) (css_cons (cs_if (ct_cmp (op2_ne (hu64 hr)) (ce_fld (c := "Token") (cv 2) T.g_Token T.c_Token T.a_Token_kind) (cv 1) (nomark _)) (css_one (cs_raiseI (x_SyntaxFault T) (hr.mono (by decide)) tk T.g_SyntaxFault (ca_cons (ce_fld (c := "Token") (cv 2) T.g_Token T.c_Token T.a_Token_line) (ca_cons (ce_fld (c := "Token") (cv 2) T.g_Token T.c_Token T.a_Token_column) (ca_nil))))) (css_nil)) (css_cons (cs_augFld (c := "Parser") (cv 0) (ce_int) T.g_Parser T.c_Parser T.a_Parser_at) (css_one (cs_ret (cv 2)))))
abbrev n_Parser_fault : List Str := ["self", "token", "reason"]
theorem sc_Parser_fault : FnScope n_Parser_fault ["self", "token", "reason"] (defScope s_Parser_fault) := ⟨rfl, rfl, rfl, by decide +kernel, rfl, by decide +kernel, by decide +kernel⟩
theorem ok_Parser_fault (T : Tx K mg) : OkD P w K mg base 1 (He.ma K (He.ga K "Parser") "fault") ["self", "token", "reason"] F_Parser_fault := by
  show OkD P w K mg base 1 (He.ma K (He.ga K "Parser") "fault") ["self", "token", "reason"] (fDef 3 b_Parser_fault)
  refine okD_def (k := 0) (N := n_Parser_fault) rfl T.d_Parser_fault sc_Parser_fault (fun _ _ _ _ _ _ us hl => match us, hl with | [_, _, _], _ => rfl) (fun cdv A outer s H E hr tk po => ?_)
  exact css_one (cs_expr (ce_bm PySem.F.plainAttrs_list PySem.F.slot_list_append PySem.F.type_list_append mc_append (ce_fld (c := "Parser") (cv 0) T.g_Parser T.c_Parser T.a_Parser_faults) (ca_cons (ce_tup (ca_cons (ce_fld (c := "Token") (cv 1) T.g_Token T.c_Token T.a_Token_line) (ca_cons (ce_fld (c := "Token") (cv 1) T.g_Token T.c_Token T.a_Token_column) (ca_cons (cv 2) (ca_nil))))) (ca_nil))))
abbrev n_Orbit_index : List Str := ["self", "count"]
theorem sc_Orbit_index : FnScope n_Orbit_index ["self", "count"] (defScope s_Orbit_index) := ⟨rfl, rfl, rfl, by decide +kernel, rfl, by decide +kernel, by decide +kernel⟩
theorem ok_Orbit_index (T : Tx K mg) : OkD P w K mg base 1 (He.ma K (He.ga K "Orbit") "index") ["self", "count"] F_Orbit_index := by
  show OkD P w K mg base 1 (He.ma K (He.ga K "Orbit") "index") ["self", "count"] (fDef 2 b_Orbit_index)
  refine okD_def (k := 0) (N := n_Orbit_index) rfl T.d_Orbit_index sc_Orbit_index (fun _ _ _ _ _ _ us hl => match us, hl with | [_, _], _ => rfl) (fun cdv A outer s H E hr tk po => ?_)
  exact css_cons (cs_if (ct_cmp op2_lt (cv 1) (ce_callB cc_len (by rfl) T.n_len (by decide +kernel) (ca_cons (ce_fld (c := "Orbit") (cv 0) T.g_Orbit T.c_Orbit T.a_Orbit_states) (ca_nil))) (nomark _)) (css_one (cs_ret (cv 1))) (css_nil)) (css_one (cs_ret (ce_bin op2_add (ce_fld (c := "Orbit") (cv 0) T.g_Orbit T.c_Orbit T.a_Orbit_start) (ce_bin op2_mod (ce_bin op2_sub (cv 1) (ce_fld (c := "Orbit") (cv 0) T.g_Orbit T.c_Orbit T.a_Orbit_start)) (ce_bin op2_sub (ce_callB cc_len (by rfl) T.n_len (by decide +kernel) (ca_cons (ce_fld (c := "Orbit") (cv 0) T.g_Orbit T.c_Orbit T.a_Orbit_states) (ca_nil))) (ce_fld (c := "Orbit") (cv 0) T.g_Orbit T.c_Orbit T.a_Orbit_start))))))
abbrev n_Parser_take_register : List Str := ["self"]
theorem sc_Parser_take_register : FnScope n_Parser_take_register ["self"] (defScope s_Parser_take_register) := ⟨rfl, rfl, rfl, by decide +kernel, rfl, by decide +kernel, by decide +kernel⟩
theorem ok_Parser_take_register (T : Tx K mg) : OkD P w K mg base 6 (He.ma K (He.ga K "Parser") "take_register") ["self"] F_Parser_take_register := by
  show OkD P w K mg base 6 (He.ma K (He.ga K "Parser") "take_register") ["self"] (fDef 1 b_Parser_take_register)
  refine okD_def (k := 5) (N := n_Parser_take_register) rfl T.d_Parser_take_register sc_Parser_take_register (fun _ _ _ _ _ _ us hl => match us, hl with | [_], _ => rfl) (fun cdv A outer s H E hr tk po => ?_)
  exact css_one (cs_ret (ce_tix T.g_REGISTERS T.k_REGISTERS T.w_REGISTERS (ca_cons (ce_fld (c := "Token") (ck_meth (c := "Parser") (ok_Parser_take T) (hr.mono (by decide)) tk T.g_Parser T.c_Parser T.m_Parser_take (cv 0) (ca_cons (ce_gstr T.k_REGISTER) (ca_nil))) T.g_Token T.c_Token T.a_Token_text) (ca_nil))))
abbrev n_Parser_take_number : List Str := ["self", "high", "token"]
theorem sc_Parser_take_number : FnScope n_Parser_take_number ["self", "high"] (defScope s_Parser_take_number) := ⟨rfl, rfl, rfl, by decide +kernel, rfl, by decide +kernel, by decide +kernel⟩
theorem ok_Parser_take_number (T : Tx K mg) : OkD P w K mg base 6 (He.ma K (He.ga K "Parser") "take_number") ["self", "high"] F_Parser_take_number := by
  show OkD P w K mg base 6 (He.ma K (He.ga K "Parser") "take_number") ["self", "high"] (fDef 3 b_Parser_take_number)
  refine okD_def (k := 5) (N := n_Parser_take_number) rfl T.d_Parser_take_number sc_Parser_take_number (fun _ _ _ _ _ _ us hl => match us, hl with | [_, _], _ => rfl) (fun cdv A outer s H E hr tk po => ?_)
  exact css_cons (cs_set (i := 2) sc_Parser_take_number.nd rfl (by first | exact Or.inl rfl | exact Or.inr rfl) (ck_meth (c := "Parser") (ok_Parser_take T) (hr.mono (by decide)) tk T.g_Parser T.c_Parser T.m_Parser_take (cv 0) (ca_cons (ce_gstr T.k_NUMBER) (ca_nil)))) (css_cons (cs_if (ct_cmp op2_gt (ce_callTy cc_int (by rfl) T.n_int (by decide +kernel) (ca_cons (ce_fld (c := "Token") (cv 2) T.g_Token T.c_Token T.a_Token_text) (ca_nil))) (cv 1) (nomark _)) (css_one (cs_expr (ck_meth (c := "Parser") (ok_Parser_fault T) (hr.mono (by decide)) tk T.g_Parser T.c_Parser T.m_Parser_fault (cv 0) (ca_cons (cv 2) (ca_cons (ce_str) (ca_nil)))))) (css_nil)) (css_one (cs_ret (ce_callTy cc_int (by rfl) T.n_int (by decide +kernel) (ca_cons (ce_fld (c := "Token") (cv 2) T.g_Token T.c_Token T.a_Token_text) (ca_nil))))))
abbrev n_Parser_parse_put : List Str := ["self", "depth", "slot", "first"]
theorem sc_Parser_parse_put : FnScope n_Parser_parse_put ["self"] (defScope s_Parser_parse_put) := ⟨rfl, rfl, rfl, by decide +kernel, rfl, by decide +kernel, by decide +kernel⟩
theorem ok_Parser_parse_put (T : Tx K mg) : OkD P w K mg base 7 (He.ma K (He.ga K "Parser") "parse_put") ["self"] F_Parser_parse_put := by
  show OkD P w K mg base 7 (He.ma K (He.ga K "Parser") "parse_put") ["self"] (fDef 4 b_Parser_parse_put)
  refine okD_def (k := 6) (N := n_Parser_parse_put) rfl T.d_Parser_parse_put sc_Parser_parse_put (fun _ _ _ _ _ _ us hl => match us, hl with | [_], _ => rfl) (fun cdv A outer s H E hr tk po => ?_)
  exact css_cons (cs_if (ct_cmp (op2_eq (hu64 hr)) (ce_fld (c := "Token") (ck_meth0 (c := "Parser") (ok_Parser_peek T) (hr.mono (by decide)) tk T.g_Parser T.c_Parser T.m_Parser_peek (cv 0)) T.g_Token T.c_Token T.a_Token_kind) (ce_gstr T.k_NUMBER) (nomark _)) (css_cons (cs_set (i := 1) sc_Parser_parse_put.nd rfl (by first | exact Or.inl rfl | exact Or.inr rfl) (ck_meth (c := "Parser") (ok_Parser_take_number T) (hr.mono (by decide)) tk T.g_Parser T.c_Parser T.m_Parser_take_number (cv 0) (ca_cons (ce_gint T.k_MAX_DEPTH) (ca_nil)))) (css_one (cs_ret (ce_tup (ca_cons (ce_none) (ca_cons (cv 1) (ca_cons (cv 1) (ca_nil)))))))) (css_nil)) (css_cons (cs_set (i := 2) sc_Parser_parse_put.nd rfl (by first | exact Or.inl rfl | exact Or.inr rfl) (ck_meth0 (c := "Parser") (ok_Parser_take_register T) (hr.mono (by decide)) tk T.g_Parser T.c_Parser T.m_Parser_take_register (cv 0))) (css_cons (cs_if (ct_cmp (op2_ne (hu64 hr)) (ce_fld (c := "Token") (ck_meth0 (c := "Parser") (ok_Parser_peek T) (hr.mono (by decide)) tk T.g_Parser T.c_Parser T.m_Parser_peek (cv 0)) T.g_Token T.c_Token T.a_Token_text) (ce_str) (nomark _)) (css_one (cs_ret (ce_tup (ca_cons (cv 2) (ca_cons (ce_int) (ca_cons (ce_none) (ca_nil))))))) (css_nil)) (css_cons (cs_augFld (c := "Parser") (cv 0) (ce_int) T.g_Parser T.c_Parser T.a_Parser_at) (css_cons (cs_set (i := 3) sc_Parser_parse_put.nd rfl (by first | exact Or.inl rfl | exact Or.inr rfl) (ck_meth (c := "Parser") (ok_Parser_take_number T) (hr.mono (by decide)) tk T.g_Parser T.c_Parser T.m_Parser_take_number (cv 0) (ca_cons (ce_gint T.k_MAX_DEPTH) (ca_nil)))) (css_cons (cs_expr (ck_meth (c := "Parser") (ok_Parser_expect T) (hr.mono (by decide)) tk T.g_Parser T.c_Parser T.m_Parser_expect (cv 0) (ca_cons (ce_str) (ca_nil)))) (css_one (cs_ret (ce_tup (ca_cons (cv 2) (ca_cons (cv 3) (ca_cons (ck_meth (c := "Parser") (ok_Parser_take_number T) (hr.mono (by decide)) tk T.g_Parser T.c_Parser T.m_Parser_take_number (cv 0) (ca_cons (ce_gint T.k_MAX_DEPTH) (ca_nil))) (ca_nil))))))))))))
abbrev n_Parser_parse_action : List Str := ["self", "count", "token", "slot"]
theorem sc_Parser_parse_action : FnScope n_Parser_parse_action ["self", "count"] (defScope s_Parser_parse_action) := ⟨rfl, rfl, rfl, by decide +kernel, rfl, by decide +kernel, by decide +kernel⟩
theorem ok_Parser_parse_action (T : Tx K mg) : OkD P w K mg base 7 (He.ma K (He.ga K "Parser") "parse_action") ["self", "count"] F_Parser_parse_action := by
  show OkD P w K mg base 7 (He.ma K (He.ga K "Parser") "parse_action") ["self", "count"] (fDef 4 b_Parser_parse_action)
  refine okD_def (k := 6) (N := n_Parser_parse_action) rfl T.d_Parser_parse_action sc_Parser_parse_action (fun _ _ _ _ _ _ us hl => match us, hl with | [_, _], _ => rfl) (fun cdv A outer s H E hr tk po => ?_)
  exact css_cons (cs_set (i := 2) sc_Parser_parse_action.nd rfl (by first | exact Or.inl rfl | exact Or.inr rfl) (ck_meth0 (c := "Parser") (ok_Parser_peek T) (hr.mono (by decide)) tk T.g_Parser T.c_Parser T.m_Parser_peek (cv 0))) (css_cons (cs_if (ct_cmp (op2_notIn (hu65 hr)) (ce_fld (c := "Token") (cv 2) T.g_Token T.c_Token T.a_Token_text) (ce_gtupS T.g_ACTIONS T.k_ACTIONS) rfl) (css_one (cs_raiseI (x_SyntaxFault T) (hr.mono (by decide)) tk T.g_SyntaxFault (ca_cons (ce_fld (c := "Token") (cv 2) T.g_Token T.c_Token T.a_Token_line) (ca_cons (ce_fld (c := "Token") (cv 2) T.g_Token T.c_Token T.a_Token_column) (ca_nil))))) (css_nil)) (css_cons (cs_if (ct_cmp (op2_eq (hu64 hr)) (cv 1) (ce_gint T.k_MAX_ACTIONS) (nomark _)) (css_one (cs_expr (ck_meth (c := "Parser") (ok_Parser_fault T) (hr.mono (by decide)) tk T.g_Parser T.c_Parser T.m_Parser_fault (cv 0) (ca_cons (cv 2) (ca_cons (ce_str) (ca_nil)))))) (css_nil)) (css_cons (cs_augFld (c := "Parser") (cv 0) (ce_int) T.g_Parser T.c_Parser T.a_Parser_at) (css_cons (cs_if (ct_cmp (op2_eq (hu64 hr)) (ce_fld (c := "Token") (cv 2) T.g_Token T.c_Token T.a_Token_text) (ce_str) (nomark _)) (css_cons (cs_if (ct_cmp (op2_eq (hu64 hr)) (ce_fld (c := "Token") (ck_meth0 (c := "Parser") (ok_Parser_peek T) (hr.mono (by decide)) tk T.g_Parser T.c_Parser T.m_Parser_peek (cv 0)) T.g_Token T.c_Token T.a_Token_kind) (ce_gstr T.k_REGISTER) (nomark _)) (css_one (cs_ret (ce_tup (ca_cons (ce_str) (ca_cons (ck_meth0 (c := "Parser") (ok_Parser_take_register T) (hr.mono (by decide)) tk T.g_Parser T.c_Parser T.m_Parser_take_register (cv 0)) (ca_cons (ce_int) (ca_nil))))))) (css_nil)) (css_one (cs_ret (ce_tup (ca_cons (ce_str) (ca_cons (ce_none) (ca_cons (ck_meth (c := "Parser") (ok_Parser_take_number T) (hr.mono (by decide)) tk T.g_Parser T.c_Parser T.m_Parser_take_number (cv 0) (ca_cons (ce_bin op2_sub (ce_fld (c := "Parser") (cv 0) T.g_Parser T.c_Parser T.a_Parser_wrap) (ce_int)) (ca_nil))) (ca_nil)))))))) (css_nil)) (css_cons (cs_set (i := 3) sc_Parser_parse_action.nd rfl (by first | exact Or.inl rfl | exact Or.inr rfl) (ck_meth0 (c := "Parser") (ok_Parser_take_register T) (hr.mono (by decide)) tk T.g_Parser T.c_Parser T.m_Parser_take_register (cv 0))) (css_cons (cs_if (ct_cmp (op2_eq (hu64 hr)) (ce_fld (c := "Token") (cv 2) T.g_Token T.c_Token T.a_Token_text) (ce_str) (nomark _)) (css_one (cs_ret (ce_tup (ca_cons (ce_str) (ca_cons (cv 3) (ca_cons (ck_meth (c := "Parser") (ok_Parser_take_number T) (hr.mono (by decide)) tk T.g_Parser T.c_Parser T.m_Parser_take_number (cv 0) (ca_cons (ce_bin op2_sub (ce_fld (c := "Parser") (cv 0) T.g_Parser T.c_Parser T.a_Parser_wrap) (ce_int)) (ca_nil))) (ca_nil))))))) (css_nil)) (css_one (cs_ret (ce_tup (ca_cons (ce_fld (c := "Token") (cv 2) T.g_Token T.c_Token T.a_Token_text) (ca_cons (cv 3) (ca_cons (ck_meth0 (c := "Parser") (ok_Parser_take_register T) (hr.mono (by decide)) tk T.g_Parser T.c_Parser T.m_Parser_take_register (cv 0)) (ca_nil)))))))))))))
abbrev n_Parser_parse_card : List Str := ["self", "cards", "token", "actions", "put", "card"]
theorem sc_Parser_parse_card : FnScope n_Parser_parse_card ["self", "cards"] (defScope s_Parser_parse_card) := ⟨rfl, rfl, rfl, by decide +kernel, rfl, by decide +kernel, by decide +kernel⟩
theorem ok_Parser_parse_card (T : Tx K mg) : OkD P w K mg base 8 (He.ma K (He.ga K "Parser") "parse_card") ["self", "cards"] F_Parser_parse_card := by
  show OkD P w K mg base 8 (He.ma K (He.ga K "Parser") "parse_card") ["self", "cards"] (fDef 6 b_Parser_parse_card)
  refine okD_def (k := 7) (N := n_Parser_parse_card) rfl T.d_Parser_parse_card sc_Parser_parse_card (fun _ _ _ _ _ _ us hl => match us, hl with | [_, _], _ => rfl) (fun cdv A outer s H E hr tk po => ?_)
  exact css_cons (cs_set (i := 2) sc_Parser_parse_card.nd rfl (by first | exact Or.inl rfl | exact Or.inr rfl) (ck_meth (c := "Parser") (ok_Parser_take T) (hr.mono (by decide)) tk T.g_Parser T.c_Parser T.m_Parser_take (cv 0) (ca_cons (ce_gstr T.k_NAME) (ca_nil)))) (css_cons (cs_if (ct_cmp (op2_eq (hu64 hr)) (ce_callB cc_len (by rfl) T.n_len (by decide +kernel) (ca_cons (cv 1) (ca_nil))) (ce_gint T.k_MAX_CARDS) (nomark _)) (css_one (cs_expr (ck_meth (c := "Parser") (ok_Parser_fault T) (hr.mono (by decide)) tk T.g_Parser T.c_Parser T.m_Parser_fault (cv 0) (ca_cons (cv 2) (ca_cons (ce_str) (ca_nil)))))) (css_one (cs_if (ct_cmp (op2_in (hu65 hr)) (ce_fld (c := "Token") (cv 2) T.g_Token T.c_Token T.a_Token_text) (ce_lc (own := [("card", 5)]) rfl sc_Parser_parse_card.nd (ci_seq (cv 1)) (blkOk_by (N := n_Parser_parse_card) (sc := defScope s_Parser_parse_card) (own := [("card", 5)]) (by decide +kernel)) (tgOk_name (by decide)) (fun _ _ _ _ _ => pg_name (i := 5) sc_Parser_parse_card.nd rfl (by first | exact Or.inl rfl | exact Or.inr rfl)) (fun _ _ _ _ _ => cts_nil) (fun _ _ _ _ _ => ce_ix (cv 5) (ce_int))) rfl) (css_one (cs_expr (ck_meth (c := "Parser") (ok_Parser_fault T) (hr.mono (by decide)) tk T.g_Parser T.c_Parser T.m_Parser_fault (cv 0) (ca_cons (cv 2) (ca_cons (ce_str) (ca_nil)))))) (css_nil)))) (css_cons (cs_expr (ck_meth (c := "Parser") (ok_Parser_expect T) (hr.mono (by decide)) tk T.g_Parser T.c_Parser T.m_Parser_expect (cv 0) (ca_cons (ce_str) (ca_nil)))) (css_cons (cs_set (i := 3) sc_Parser_parse_card.nd rfl (by first | exact Or.inl rfl | exact Or.inr rfl) (ce_lst (ca_nil))) (css_cons (cs_if (ct_cmp (op2_ne (hu64 hr)) (ce_fld (c := "Token") (ck_meth0 (c := "Parser") (ok_Parser_peek T) (hr.mono (by decide)) tk T.g_Parser T.c_Parser T.m_Parser_peek (cv 0)) T.g_Token T.c_Token T.a_Token_text) (ce_gstr T.k_ARROW) (nomark _)) (css_cons (cs_expr (ce_bm PySem.F.plainAttrs_list PySem.F.slot_list_append PySem.F.type_list_append mc_append (cv 3) (ca_cons (ck_meth (c := "Parser") (ok_Parser_parse_action T) (hr.mono (by decide)) tk T.g_Parser T.c_Parser T.m_Parser_parse_action (cv 0) (ca_cons (ce_int) (ca_nil))) (ca_nil)))) (css_one (cs_while po (ct_cmp (op2_eq (hu64 hr)) (ce_fld (c := "Token") (ck_meth0 (c := "Parser") (ok_Parser_peek T) (hr.mono (by decide)) tk T.g_Parser T.c_Parser T.m_Parser_peek (cv 0)) T.g_Token T.c_Token T.a_Token_text) (ce_str) (nomark _)) (css_cons (cs_augFld (c := "Parser") (cv 0) (ce_int) T.g_Parser T.c_Parser T.a_Parser_at) (css_one (cs_expr (ce_bm PySem.F.plainAttrs_list PySem.F.slot_list_append PySem.F.type_list_append mc_append (cv 3) (ca_cons (ck_meth (c := "Parser") (ok_Parser_parse_action T) (hr.mono (by decide)) tk T.g_Parser T.c_Parser T.m_Parser_parse_action (cv 0) (ca_cons (ce_callB cc_len (by rfl) T.n_len (by decide +kernel) (ca_cons (cv 3) (ca_nil))) (ca_nil))) (ca_nil))))))))) (css_nil)) (css_cons (cs_expr (ck_meth (c := "Parser") (ok_Parser_expect T) (hr.mono (by decide)) tk T.g_Parser T.c_Parser T.m_Parser_expect (cv 0) (ca_cons (ce_gstr T.k_ARROW) (ca_nil)))) (css_cons (cs_set (i := 4) sc_Parser_parse_card.nd rfl (by first | exact Or.inl rfl | exact Or.inr rfl) (ck_meth0 (c := "Parser") (ok_Parser_parse_put T) (hr.mono (by decide)) tk T.g_Parser T.c_Parser T.m_Parser_parse_put (cv 0))) (css_cons (cs_expr (ck_meth (c := "Parser") (ok_Parser_expect T) (hr.mono (by decide)) tk T.g_Parser T.c_Parser T.m_Parser_expect (cv 0) (ca_cons (ce_str) (ca_nil)))) (css_one (cs_ret (ce_tup (ca_cons (ce_fld (c := "Token") (cv 2) T.g_Token T.c_Token T.a_Token_text) (ca_cons (ce_callTy cc_tuple (by rfl) T.n_tuple (by decide +kernel) (ca_cons (cv 3) (ca_nil))) (ca_cons (cv 4) (ca_nil))))))))))))))
abbrev n_Parser_parse_deck : List Str := ["self", "token", "cards"]
theorem sc_Parser_parse_deck : FnScope n_Parser_parse_deck ["self"] (defScope s_Parser_parse_deck) := ⟨rfl, rfl, rfl, by decide +kernel, rfl, by decide +kernel, by decide +kernel⟩
theorem ok_Parser_parse_deck (T : Tx K mg) : OkD P w K mg base 9 (He.ma K (He.ga K "Parser") "parse_deck") ["self"] F_Parser_parse_deck := by
  show OkD P w K mg base 9 (He.ma K (He.ga K "Parser") "parse_deck") ["self"] (fDef 3 b_Parser_parse_deck)
  refine okD_def (k := 8) (N := n_Parser_parse_deck) rfl T.d_Parser_parse_deck sc_Parser_parse_deck (fun _ _ _ _ _ _ us hl => match us, hl with | [_], _ => rfl) (fun cdv A outer s H E hr tk po => ?_)
  exact css_cons (cs_expr (ck_meth (c := "Parser") (ok_Parser_expect T) (hr.mono (by decide)) tk T.g_Parser T.c_Parser T.m_Parser_expect (cv 0) (ca_cons (ce_str) (ca_nil)))) (css_cons (cs_set (i := 1) sc_Parser_parse_deck.nd rfl (by first | exact Or.inl rfl | exact Or.inr rfl) (ck_meth (c := "Parser") (ok_Parser_take T) (hr.mono (by decide)) tk T.g_Parser T.c_Parser T.m_Parser_take (cv 0) (ca_cons (ce_gstr T.k_NUMBER) (ca_nil)))) (css_cons (cs_if (ct_chain opr_le opr_le (ce_gint T.k_MIN_WRAP) (ce_callTy cc_int (by rfl) T.n_int (by decide +kernel) (ca_cons (ce_fld (c := "Token") (cv 1) T.g_Token T.c_Token T.a_Token_text) (ca_nil))) (ce_gint T.k_MAX_WRAP)) (css_one (cs_fld (c := "Parser") (cv 0) (ce_callTy cc_int (by rfl) T.n_int (by decide +kernel) (ca_cons (ce_fld (c := "Token") (cv 1) T.g_Token T.c_Token T.a_Token_text) (ca_nil))) T.g_Parser T.c_Parser T.a_Parser_wrap)) (css_one (cs_expr (ck_meth (c := "Parser") (ok_Parser_fault T) (hr.mono (by decide)) tk T.g_Parser T.c_Parser T.m_Parser_fault (cv 0) (ca_cons (cv 1) (ca_cons (ce_str) (ca_nil))))))) (css_cons (cs_expr (ck_meth (c := "Parser") (ok_Parser_expect T) (hr.mono (by decide)) tk T.g_Parser T.c_Parser T.m_Parser_expect (cv 0) (ca_cons (ce_str) (ca_nil)))) (css_cons (cs_set (i := 2) sc_Parser_parse_deck.nd rfl (by first | exact Or.inl rfl | exact Or.inr rfl) (ce_lst (ca_cons (ck_meth (c := "Parser") (ok_Parser_parse_card T) (hr.mono (by decide)) tk T.g_Parser T.c_Parser T.m_Parser_parse_card (cv 0) (ca_cons (ce_lst (ca_nil)) (ca_nil))) (ca_nil)))) (css_cons (cs_while po (ct_cmp (op2_ne (hu64 hr)) (ce_fld (c := "Token") (ck_meth0 (c := "Parser") (ok_Parser_peek T) (hr.mono (by decide)) tk T.g_Parser T.c_Parser T.m_Parser_peek (cv 0)) T.g_Token T.c_Token T.a_Token_kind) (ce_gstr T.k_END) (nomark _)) (css_one (cs_expr (ce_bm PySem.F.plainAttrs_list PySem.F.slot_list_append PySem.F.type_list_append mc_append (cv 2) (ca_cons (ck_meth (c := "Parser") (ok_Parser_parse_card T) (hr.mono (by decide)) tk T.g_Parser T.c_Parser T.m_Parser_parse_card (cv 0) (ca_cons (cv 2) (ca_nil))) (ca_nil)))))) (css_one (cs_ret (ce_tup (ca_cons (ce_fld (c := "Parser") (cv 0) T.g_Parser T.c_Parser T.a_Parser_wrap) (ca_cons (ce_callTy cc_tuple (by rfl) T.n_tuple (by decide +kernel) (ca_cons (cv 2) (ca_nil))) (ca_nil)))))))))))
abbrev n_load : List Str := ["deck", "parser", "parsed", "line", "column", "reason"]
theorem sc_load : FnScope n_load ["deck"] (defScope s_load) := ⟨rfl, rfl, rfl, by decide +kernel, rfl, by decide +kernel, by decide +kernel⟩
theorem ok_load (T : Tx K mg) : OkD P w K mg base 10 (He.ga K "load") ["deck"] F_load := by
  show OkD P w K mg base 10 (He.ga K "load") ["deck"] (fDef 6 b_load)
  refine okD_def (k := 9) (N := n_load) rfl T.d_load sc_load (fun _ _ _ _ _ _ us hl => match us, hl with | [_], _ => rfl) (fun cdv A outer s H E hr tk po => ?_)
  exact css_cons (cs_set (i := 1) sc_load.nd rfl (by first | exact Or.inl rfl | exact Or.inr rfl) (ck_make T.mk_Parser (ok_Parser_init T) (hr.mono (by decide)) tk T.g_Parser (ca_cons (cv 0) (ca_nil)))) (css_cons (cs_set (i := 2) sc_load.nd rfl (by first | exact Or.inl rfl | exact Or.inr rfl) (ck_meth0 (c := "Parser") (ok_Parser_parse_deck T) (hr.mono (by decide)) tk T.g_Parser T.c_Parser T.m_Parser_parse_deck (cv 1))) (css_cons (cs_if (ct_cmp (op2_ne (hu64 hr)) (ce_fld (c := "Parser") (cv 1) T.g_Parser T.c_Parser T.a_Parser_faults) (ce_lst (ca_nil)) (nomark _)) (css_cons (cs_asg (ce_ix (ce_fld (c := "Parser") (cv 1) T.g_Parser T.c_Parser T.a_Parser_faults) (ce_int)) (cg_tup rfl (cgs_cons (cg_name (i := 3) sc_load.nd rfl (by first | exact Or.inl rfl | exact Or.inr rfl)) (cgs_cons (cg_name (i := 4) sc_load.nd rfl (by first | exact Or.inl rfl | exact Or.inr rfl)) (cgs_cons (cg_name (i := 5) sc_load.nd rfl (by first | exact Or.inl rfl | exact Or.inr rfl)) (cgs_nil) (plain_name)) (plain_name)) (plain_name))) (plain_tup (plains_cons (plain_name) (plains_cons (plain_name) (plains_cons (plain_name) (plains_nil)))))) (css_one (cs_raiseI (x_CheckFault T) (hr.mono (by decide)) tk T.g_CheckFault (ca_cons (cv 5) (ca_cons (cv 3) (ca_cons (cv 4) (ca_nil))))))) (css_nil)) (css_one (cs_ret (cv 2)))))
abbrev n_acted : List Str := ["parsed", "actions", "registers", "wrap", "values", "emitted", "action", "slot", "number", "other"]
theorem sc_acted : FnScope n_acted ["parsed", "actions", "registers"] (defScope s_acted) := ⟨rfl, rfl, rfl, by decide +kernel, rfl, by decide +kernel, by decide +kernel⟩
theorem ok_acted (T : Tx K mg) : OkD P w K mg base 1 (He.ga K "acted") ["parsed", "actions", "registers"] F_acted := by
  show OkD P w K mg base 1 (He.ga K "acted") ["parsed", "actions", "registers"] (fDef 10 b_acted)
  refine okD_def (k := 0) (N := n_acted) rfl T.d_acted sc_acted (fun _ _ _ _ _ _ us hl => match us, hl with | [_, _, _], _ => rfl) (fun cdv A outer s H E hr tk po => ?_)
  exact css_cons (cs_par3 (i1 := 3) (i2 := 4) (i3 := 5) (hN := sc_acted.nd) (ca_cons (ce_ix (cv 0) (ce_int)) (ca_cons (ce_callTy cc_list (by rfl) T.n_list (by decide +kernel) (ca_cons (cv 2) (ca_nil))) (ca_cons (ce_lst (ca_nil)) (ca_nil))))) (css_cons (cs_for po rfl (ci_seq (cv 1)) (cg_name (i := 6) sc_acted.nd rfl (by first | exact Or.inl rfl | exact Or.inr rfl)) (plain_name) (css_one (cs_match (cv 6) (cj_cons sc_acted.nd (pt_seq rfl (pts_cons (pt_s) (pts_cons (pt_cap (i := 7) rfl (by first | exact Or.inl rfl | exact Or.inr rfl)) (pts_cons (pt_cap (i := 8) rfl (by first | exact Or.inl rfl | exact Or.inr rfl)) (pts_nil)))) rfl) (css_one (cs_asg (ce_bin op2_mod (ce_bin op2_add (ce_ix (cv 4) (cv 7)) (cv 8)) (cv 3)) (cg_ix (cv 4) (cv 7)) (plain_ix))) (cj_cons sc_acted.nd (pt_seq rfl (pts_cons (pt_s) (pts_cons (pt_cap (i := 7) rfl (by first | exact Or.inl rfl | exact Or.inr rfl)) (pts_cons (pt_cap (i := 9) rfl (by first | exact Or.inl rfl | exact Or.inr rfl)) (pts_nil)))) rfl) (css_one (cs_asg (ce_ix (cv 4) (cv 9)) (cg_ix (cv 4) (cv 7)) (plain_ix))) (cj_cons sc_acted.nd (pt_seq rfl (pts_cons (pt_s) (pts_cons (pt_cap (i := 7) rfl (by first | exact Or.inl rfl | exact Or.inr rfl)) (pts_cons (pt_cap (i := 9) rfl (by first | exact Or.inl rfl | exact Or.inr rfl)) (pts_nil)))) rfl) (css_one (cs_asg (ce_tup (ca_cons (ce_ix (cv 4) (cv 9)) (ca_cons (ce_ix (cv 4) (cv 7)) (ca_nil)))) (cg_tup rfl (cgs_cons (cg_ix (cv 4) (cv 7)) (cgs_cons (cg_ix (cv 4) (cv 9)) (cgs_nil) (plain_ix)) (plain_ix))) (plain_tup (plains_cons (plain_ix) (plains_cons (plain_ix) (plains_nil)))))) (cj_cons sc_acted.nd (pt_seq rfl (pts_cons (pt_s) (pts_cons (pt_non) (pts_cons (pt_cap (i := 8) rfl (by first | exact Or.inl rfl | exact Or.inr rfl)) (pts_nil)))) rfl) (css_one (cs_expr (ce_bm PySem.F.plainAttrs_list PySem.F.slot_list_append PySem.F.type_list_append mc_append (cv 5) (ca_cons (cv 8) (ca_nil))))) (cj_cons sc_acted.nd (pt_seq rfl (pts_cons (pt_s) (pts_cons (pt_cap (i := 7) rfl (by first | exact Or.inl rfl | exact Or.inr rfl)) (pts_cons (pt_any rfl) (pts_nil)))) rfl) (css_one (cs_expr (ce_bm PySem.F.plainAttrs_list PySem.F.slot_list_append PySem.F.type_list_append mc_append (cv 5) (ca_cons (ce_ix (cv 4) (cv 7)) (ca_nil))))) (cj_nil))))))))) (css_one (cs_ret (ce_tup (ca_cons (ce_callTy cc_tuple (by rfl) T.n_tuple (by decide +kernel) (ca_cons (cv 4) (ca_nil))) (ca_cons (cv 5) (ca_nil)))))))
abbrev n_depth_of : List Str := ["put", "registers", "others", "slot", "first", "second", "depth"]
theorem sc_depth_of : FnScope n_depth_of ["put", "registers", "others"] (defScope s_depth_of) := ⟨rfl, rfl, rfl, by decide +kernel, rfl, by decide +kernel, by decide +kernel⟩
theorem ok_depth_of (T : Tx K mg) : OkD P w K mg base 1 (He.ga K "depth_of") ["put", "registers", "others"] F_depth_of := by
  show OkD P w K mg base 1 (He.ga K "depth_of") ["put", "registers", "others"] (fDef 7 b_depth_of)
  refine okD_def (k := 0) (N := n_depth_of) rfl T.d_depth_of sc_depth_of (fun _ _ _ _ _ _ us hl => match us, hl with | [_, _, _], _ => rfl) (fun cdv A outer s H E hr tk po => ?_)
  exact css_cons (cs_asg (cv 0) (cg_tup rfl (cgs_cons (cg_name (i := 3) sc_depth_of.nd rfl (by first | exact Or.inl rfl | exact Or.inr rfl)) (cgs_cons (cg_name (i := 4) sc_depth_of.nd rfl (by first | exact Or.inl rfl | exact Or.inr rfl)) (cgs_cons (cg_name (i := 5) sc_depth_of.nd rfl (by first | exact Or.inl rfl | exact Or.inr rfl)) (cgs_nil) (plain_name)) (plain_name)) (plain_name))) (plain_tup (plains_cons (plain_name) (plains_cons (plain_name) (plains_cons (plain_name) (plains_nil)))))) (css_cons (cs_set (i := 6) sc_depth_of.nd rfl (by first | exact Or.inl rfl | exact Or.inr rfl) (cv 4)) (css_cons (cs_if (PW.pt (cw_and (ct_cmp op2_notN (cv 3) (ce_none) (nomark _)) (cw_and1 (ct_cmp op2_isN (cv 5) (ce_none) (nomark _))))) (css_one (cs_set (i := 6) sc_depth_of.nd rfl (by first | exact Or.inl rfl | exact Or.inr rfl) (ce_ix (cv 1) (cv 3)))) (css_one (cs_if (PW.pt (cw_and (ct_cmp op2_notN (cv 3) (ce_none) (nomark _)) (cw_and1 (ct_cmp (op2_ne (hu64 hr)) (ce_ix (cv 1) (cv 3)) (ce_int) (nomark _))))) (css_one (cs_set (i := 6) sc_depth_of.nd rfl (by first | exact Or.inl rfl | exact Or.inr rfl) (cv 5))) (css_nil)))) (css_one (cs_ret (ce_callB (cc_min rfl) (by rfl) T.n_min (by decide +kernel) (ca_cons (cv 6) (ca_cons (cv 2) (ca_nil))))))))
abbrev n_after_step : List Str := ["parsed", "state", "order", "registers", "name", "actions", "put", "emitted", "depth"]
theorem sc_after_step : FnScope n_after_step ["parsed", "state"] (defScope s_after_step) := ⟨rfl, rfl, rfl, by decide +kernel, rfl, by decide +kernel, by decide +kernel⟩
theorem ok_after_step (T : Tx K mg) : OkD P w K mg base 2 (He.ga K "after_step") ["parsed", "state"] F_after_step := by
  show OkD P w K mg base 2 (He.ga K "after_step") ["parsed", "state"] (fDef 9 b_after_step)
  refine okD_def (k := 1) (N := n_after_step) rfl T.d_after_step sc_after_step (fun _ _ _ _ _ _ us hl => match us, hl with | [_, _], _ => rfl) (fun cdv A outer s H E hr tk po => ?_)
  exact css_cons (cs_asg (cv 1) (cg_tup rfl (cgs_cons (cg_name (i := 2) sc_after_step.nd rfl (by first | exact Or.inl rfl | exact Or.inr rfl)) (cgs_cons (cg_name (i := 3) sc_after_step.nd rfl (by first | exact Or.inl rfl | exact Or.inr rfl)) (cgs_nil) (plain_name)) (plain_name))) (plain_tup (plains_cons (plain_name) (plains_cons (plain_name) (plains_nil))))) (css_cons (cs_asg (ce_ix (ce_ix (cv 0) (ce_int)) (ce_ix (cv 2) (ce_int))) (cg_tup rfl (cgs_cons (cg_name (i := 4) sc_after_step.nd rfl (by first | exact Or.inl rfl | exact Or.inr rfl)) (cgs_cons (cg_name (i := 5) sc_after_step.nd rfl (by first | exact Or.inl rfl | exact Or.inr rfl)) (cgs_cons (cg_name (i := 6) sc_after_step.nd rfl (by first | exact Or.inl rfl | exact Or.inr rfl)) (cgs_nil) (plain_name)) (plain_name)) (plain_name))) (plain_tup (plains_cons (plain_name) (plains_cons (plain_name) (plains_cons (plain_name) (plains_nil)))))) (css_cons (cs_asg (ck_call (ok_acted T) (hr.mono (by decide)) tk T.g_acted (ca_cons (cv 0) (ca_cons (cv 5) (ca_cons (cv 3) (ca_nil))))) (cg_tup rfl (cgs_cons (cg_name (i := 3) sc_after_step.nd rfl (by first | exact Or.inl rfl | exact Or.inr rfl)) (cgs_cons (cg_name (i := 7) sc_after_step.nd rfl (by first | exact Or.inl rfl | exact Or.inr rfl)) (cgs_nil) (plain_name)) (plain_name))) (plain_tup (plains_cons (plain_name) (plains_cons (plain_name) (plains_nil))))) (css_cons (cs_set (i := 8) sc_after_step.nd rfl (by first | exact Or.inl rfl | exact Or.inr rfl) (ck_call (ok_depth_of T) (hr.mono (by decide)) tk T.g_depth_of (ca_cons (cv 6) (ca_cons (cv 3) (ca_cons (ce_bin op2_sub (ce_callB cc_len (by rfl) T.n_len (by decide +kernel) (ca_cons (cv 2) (ca_nil))) (ce_int)) (ca_nil)))))) (css_one (cs_ret (ce_tup (ca_cons (ce_tup (ca_cons (ce_bin op2_add (ce_bin op2_add (ce_slice (cv 2) (co_some (ce_int)) (co_some (ce_bin op2_add (cv 8) (ce_int)))) (ce_slice (cv 2) (co_none) (co_some (ce_int)))) (ce_slice (cv 2) (co_some (ce_bin op2_add (cv 8) (ce_int))) (co_none))) (ca_cons (cv 3) (ca_nil)))) (ca_cons (cv 7) (ca_cons (cv 8) (ca_nil))))))))))
abbrev n_Orbit_init : List Str := ["self", "parsed", "state", "limit", "seen", "values", "depth"]
theorem sc_Orbit_init : FnScope n_Orbit_init ["self", "parsed", "state", "limit"] (defScope s_Orbit_init) := ⟨rfl, rfl, rfl, by decide +kernel, rfl, by decide +kernel, by decide +kernel⟩
theorem ok_Orbit_init (T : Tx K mg) : OkD P w K mg base 3 (He.ma K (He.ga K "Orbit") "__init__") ["self", "parsed", "state", "limit"] F_Orbit_init := by
  show OkD P w K mg base 3 (He.ma K (He.ga K "Orbit") "__init__") ["self", "parsed", "state", "limit"] (fDef 7 b_Orbit_init)
  refine okD_def (k := 2) (N := n_Orbit_init) rfl T.d_Orbit_init sc_Orbit_init (fun _ _ _ _ _ _ us hl => match us, hl with | [_, _, _, _], _ => rfl) (fun cdv A outer s H E hr tk po => ?_)
  exact css_cons (cs_fld (c := "Orbit") (cv 0) (ce_lst (ca_nil)) T.g_Orbit T.c_Orbit T.a_Orbit_states) (css_cons (cs_fld (c := "Orbit") (cv 0) (ce_lst (ca_nil)) T.g_Orbit T.c_Orbit T.a_Orbit_emitted) (css_cons (cs_fld (c := "Orbit") (cv 0) (ce_none) T.g_Orbit T.c_Orbit T.a_Orbit_start) (css_cons (cs_set (i := 4) sc_Orbit_init.nd rfl (by first | exact Or.inl rfl | exact Or.inr rfl) (ce_dic0)) (css_cons (cs_while po (PW.pt (cw_and (ct_cmp (op2_dnotIn (hu65 hr)) (cv 2) (cv 4) rfl) (cw_and1 (ct_cmp op2_lt (ce_callB cc_len (by rfl) T.n_len (by decide +kernel) (ca_cons (ce_fld (c := "Orbit") (cv 0) T.g_Orbit T.c_Orbit T.a_Orbit_states) (ca_nil))) (cv 3) (nomark _))))) (css_cons (cs_asg (ce_callB cc_len (by rfl) T.n_len (by decide +kernel) (ca_cons (ce_fld (c := "Orbit") (cv 0) T.g_Orbit T.c_Orbit T.a_Orbit_states) (ca_nil))) (cg_dix (hu65 hr) (cv 4) (cv 2)) (plain_dix)) (css_cons (cs_expr (ce_bm PySem.F.plainAttrs_list PySem.F.slot_list_append PySem.F.type_list_append mc_append (ce_fld (c := "Orbit") (cv 0) T.g_Orbit T.c_Orbit T.a_Orbit_states) (ca_cons (cv 2) (ca_nil)))) (css_cons (cs_asg (ck_call (ok_after_step T) (hr.mono (by decide)) tk T.g_after_step (ca_cons (cv 1) (ca_cons (cv 2) (ca_nil)))) (cg_tup rfl (cgs_cons (cg_name (i := 2) sc_Orbit_init.nd rfl (by first | exact Or.inl rfl | exact Or.inr rfl)) (cgs_cons (cg_name (i := 5) sc_Orbit_init.nd rfl (by first | exact Or.inl rfl | exact Or.inr rfl)) (cgs_cons (cg_name (i := 6) sc_Orbit_init.nd rfl (by first | exact Or.inl rfl | exact Or.inr rfl)) (cgs_nil) (plain_name)) (plain_name)) (plain_name))) (plain_tup (plains_cons (plain_name) (plains_cons (plain_name) (plains_cons (plain_name) (plains_nil)))))) (css_one (cs_expr (ce_bm PySem.F.plainAttrs_list PySem.F.slot_list_append PySem.F.type_list_append mc_append (ce_fld (c := "Orbit") (cv 0) T.g_Orbit T.c_Orbit T.a_Orbit_emitted) (ca_cons (cv 5) (ca_nil))))))))) (css_cons (cs_fld (c := "Orbit") (cv 0) (cv 2) T.g_Orbit T.c_Orbit T.a_Orbit_last) (css_one (cs_fld (c := "Orbit") (cv 0) (ce_dget (hu65 hr) (cv 4) (cv 2) ⟨rfl, rfl, rfl, rfl⟩) T.g_Orbit T.c_Orbit T.a_Orbit_start)))))))
abbrev n_orbit_of : List Str := ["parsed", "state", "orbit"]
theorem sc_orbit_of : FnScope n_orbit_of ["parsed", "state"] (defScope s_orbit_of) := ⟨rfl, rfl, rfl, by decide +kernel, rfl, by decide +kernel, by decide +kernel⟩
theorem ok_orbit_of (T : Tx K mg) : OkD P w K mg base 5 (He.ga K "orbit_of") ["parsed", "state"] F_orbit_of := by
  show OkD P w K mg base 5 (He.ga K "orbit_of") ["parsed", "state"] (fDef 3 b_orbit_of)
  refine okD_def (k := 4) (N := n_orbit_of) rfl T.d_orbit_of sc_orbit_of (fun _ _ _ _ _ _ us hl => match us, hl with | [_, _], _ => rfl) (fun cdv A outer s H E hr tk po => ?_)
  exact css_cons (cs_set (i := 2) sc_orbit_of.nd rfl (by first | exact Or.inl rfl | exact Or.inr rfl) (ck_make T.mk_Orbit (ok_Orbit_init T) (hr.mono (by decide)) tk T.g_Orbit (ca_cons (cv 0) (ca_cons (cv 1) (ca_cons (ce_gint T.k_MAX_STATES) (ca_nil)))))) (css_cons (cs_if (ct_cmp op2_isN (ce_fld (c := "Orbit") (cv 2) T.g_Orbit T.c_Orbit T.a_Orbit_start) (ce_none) (nomark _)) (css_one (cs_raiseT T.x_TooLong tk T.g_TooLong)) (css_nil)) (css_one (cs_ret (cv 2))))
abbrev n_initial_state : List Str := ["parsed"]
theorem sc_initial_state : FnScope n_initial_state ["parsed"] (defScope s_initial_state) := ⟨rfl, rfl, rfl, by decide +kernel, rfl, by decide +kernel, by decide +kernel⟩
theorem ok_initial_state (T : Tx K mg) : OkD P w K mg base 1 (He.ga K "initial_state") ["parsed"] F_initial_state := by
  show OkD P w K mg base 1 (He.ga K "initial_state") ["parsed"] (fDef 1 b_initial_state)
  refine okD_def (k := 0) (N := n_initial_state) rfl T.d_initial_state sc_initial_state (fun _ _ _ _ _ _ us hl => match us, hl with | [_], _ => rfl) (fun cdv A outer s H E hr tk po => ?_)
  exact css_one (cs_ret (ce_tup (ca_cons (ce_tupRg rfl (by rfl) T.n_tuple (by rfl) T.n_range (ce_callB cc_len (by rfl) T.n_len (by decide +kernel) (ca_cons (ce_ix (cv 0) (ce_int)) (ca_nil)))) (ca_cons (ce_gtupI T.g_ZEROS T.k_ZEROS) (ca_nil)))))
abbrev n_is_int_in : List Str := ["value", "low", "high"]
theorem sc_is_int_in : FnScope n_is_int_in ["value", "low", "high"] (defScope s_is_int_in) := ⟨rfl, rfl, rfl, by decide +kernel, rfl, by decide +kernel, by decide +kernel⟩
theorem ok_is_int_in (T : Tx K mg) : OkD P w K mg base 1 (He.ga K "is_int_in") ["value", "low", "high"] F_is_int_in := by
  show OkD P w K mg base 1 (He.ga K "is_int_in") ["value", "low", "high"] (fDef 3 b_is_int_in)
  refine okD_def (k := 0) (N := n_is_int_in) rfl T.d_is_int_in sc_is_int_in (fun _ _ _ _ _ _ us hl => match us, hl with | [_, _, _], _ => rfl) (fun cdv A outer s H E hr tk po => ?_)
  exact css_one (cs_ret (ce_and (ce_isi (n := "int") (by simp) (by rfl) T.n_isinstance (by rfl) T.n_int (by decide +kernel) (cv 0)) (ce_and (ce_not (ce_isi (n := "bool") (by simp) (by rfl) T.n_isinstance (by rfl) T.n_bool (by decide +kernel) (cv 0))) (ce_one (ce_chain opr_le opr_le (cv 1) (cv 0) (cv 2))))))
abbrev n_is_state : List Str := ["parsed", "state", "names", "card", "value", "name"]
theorem sc_is_state : FnScope n_is_state ["parsed", "state"] (defScope s_is_state) := ⟨rfl, rfl, rfl, by decide +kernel, rfl, by decide +kernel, by decide +kernel⟩
theorem ok_is_state (T : Tx K mg) : OkD P w K mg base 2 (He.ga K "is_state") ["parsed", "state"] F_is_state := by
  show OkD P w K mg base 2 (He.ga K "is_state") ["parsed", "state"] (fDef 6 b_is_state)
  refine okD_def (k := 1) (N := n_is_state) rfl T.d_is_state sc_is_state (fun _ _ _ _ _ _ us hl => match us, hl with | [_, _], _ => rfl) (fun cdv A outer s H E hr tk po => ?_)
  exact css_cons (cs_if (PW.pt (cw_or (ct_not (ct_tru (ce_isi (n := "tuple") (by simp) (by rfl) T.n_isinstance (by rfl) T.n_tuple (by decide +kernel) (cv 1)))) (cw_or (ct_cmp (op2_ne (hu64 hr)) (ce_callB cc_len (by rfl) T.n_len (by decide +kernel) (ca_cons (cv 1) (ca_nil))) (ce_int) (nomark _)) (cw_or1 (ct_not (ct_tru (ce_isi (n := "tuple") (by simp) (by rfl) T.n_isinstance (by rfl) T.n_tuple (by decide +kernel) (ce_ix (cv 1) (ce_int))))))))) (css_one (cs_ret (ce_bool))) (css_nil)) (css_cons (cs_setLc (i := 2) (own := [("card", 3)]) rfl sc_is_state.nd rfl rfl (sw_true rfl rfl rfl (by decide +kernel)) (ci_seq (ce_ix (cv 0) (ce_int))) (blkOk_by (N := n_is_state) (sc := defScope s_is_state) (own := [("card", 3)]) (by decide +kernel)) (tgOk_name (by decide)) (fun _ _ _ _ _ => pg_name (i := 3) sc_is_state.nd rfl (by first | exact Or.inl rfl | exact Or.inr rfl)) (fun _ _ _ _ _ => cts_nil) (fun _ _ _ _ _ => ce_ix (cv 3) (ce_int))) (css_cons (cs_if (PW.pt (cw_or (ct_cmp (op2_ne (hu64 hr)) (ce_callB cc_len (by rfl) T.n_len (by decide +kernel) (ca_cons (ce_ix (cv 1) (ce_int)) (ca_nil))) (ce_callB cc_len (by rfl) T.n_len (by decide +kernel) (ca_cons (cv 2) (ca_nil))) (nomark _)) (cw_or1 (ct_not (ct_tru (ce_callB (cc_all rfl) (by rfl) T.n_all (by decide +kernel) (ca_cons (ce_lc (own := [("name", 5)]) rfl sc_is_state.nd (ci_seq (cv 2)) (blkOk_by (N := n_is_state) (sc := defScope s_is_state) (own := [("name", 5)]) (by decide +kernel)) (tgOk_name (by decide)) (fun _ _ _ _ _ => pg_name (i := 5) sc_is_state.nd rfl (by first | exact Or.inl rfl | exact Or.inr rfl)) (fun _ _ _ _ _ => cts_nil) (fun _ _ _ _ _ => ce_cmp (op2_in (hu65 hr)) (cv 5) (ce_ix (cv 1) (ce_int)) rfl)) (ca_nil)))))))) (css_one (cs_ret (ce_bool))) (css_nil)) (css_cons (cs_if (PW.pt (cw_or (ct_not (ct_tru (ce_isi (n := "tuple") (by simp) (by rfl) T.n_isinstance (by rfl) T.n_tuple (by decide +kernel) (ce_ix (cv 1) (ce_int))))) (cw_or1 (ct_cmp (op2_ne (hu64 hr)) (ce_callB cc_len (by rfl) T.n_len (by decide +kernel) (ca_cons (ce_ix (cv 1) (ce_int)) (ca_nil))) (ce_callB cc_len (by rfl) T.n_len (by decide +kernel) (ca_cons (ce_gtupS T.g_REGISTERS T.k_REGISTERS) (ca_nil))) (nomark _))))) (css_one (cs_ret (ce_bool))) (css_nil)) (css_one (cs_ret (ce_callB (cc_all rfl) (by rfl) T.n_all (by decide +kernel) (ca_cons (ce_lc (own := [("value", 4)]) rfl sc_is_state.nd (ci_seq (ce_ix (cv 1) (ce_int))) (blkOk_by (N := n_is_state) (sc := defScope s_is_state) (own := [("value", 4)]) (by decide +kernel)) (tgOk_name (by decide)) (fun _ _ _ _ _ => pg_name (i := 4) sc_is_state.nd rfl (by first | exact Or.inl rfl | exact Or.inr rfl)) (fun _ _ _ _ _ => cts_nil) (fun _ _ _ _ _ => ck_call (ok_is_int_in T) (hr.mono (by decide)) takes0' T.g_is_int_in (ca_cons (cv 4) (ca_cons (ce_int) (ca_cons (ce_bin op2_sub (ce_ix (cv 0) (ce_int)) (ce_int)) (ca_nil)))))) (ca_nil))))))))
abbrev n_read_state : List Str := ["parsed", "state", "names", "card", "name"]
theorem sc_read_state : FnScope n_read_state ["parsed", "state"] (defScope s_read_state) := ⟨rfl, rfl, rfl, by decide +kernel, rfl, by decide +kernel, by decide +kernel⟩
theorem ok_read_state (T : Tx K mg) : OkD P w K mg base 3 (He.ga K "read_state") ["parsed", "state"] F_read_state := by
  show OkD P w K mg base 3 (He.ga K "read_state") ["parsed", "state"] (fDef 5 b_read_state)
  refine okD_def (k := 2) (N := n_read_state) rfl T.d_read_state sc_read_state (fun _ _ _ _ _ _ us hl => match us, hl with | [_, _], _ => rfl) (fun cdv A outer s H E hr tk po => ?_)
  exact css_cons (cs_if (ct_cmp op2_isN (cv 1) (ce_none) (nomark _)) (css_one (cs_ret (ck_call (ok_initial_state T) (hr.mono (by decide)) tk T.g_initial_state (ca_cons (cv 0) (ca_nil))))) (css_nil)) (css_cons (cs_if (ct_not (ct_tru (ck_call (ok_is_state T) (hr.mono (by decide)) tk T.g_is_state (ca_cons (cv 0) (ca_cons (cv 1) (ca_nil)))))) (css_one (cs_raiseT T.x_InvalidState tk T.g_InvalidState)) (css_nil)) (css_cons (cs_set (i := 2) sc_read_state.nd rfl (by first | exact Or.inl rfl | exact Or.inr rfl) (ce_lc (own := [("card", 3)]) rfl sc_read_state.nd (ci_seq (ce_ix (cv 0) (ce_int))) (blkOk_by (N := n_read_state) (sc := defScope s_read_state) (own := [("card", 3)]) (by decide +kernel)) (tgOk_name (by decide)) (fun _ _ _ _ _ => pg_name (i := 3) sc_read_state.nd rfl (by first | exact Or.inl rfl | exact Or.inr rfl)) (fun _ _ _ _ _ => cts_nil) (fun _ _ _ _ _ => ce_ix (cv 3) (ce_int)))) (css_one (cs_ret (ce_tup (ca_cons (ce_callTy cc_tuple (by rfl) T.n_tuple (by decide +kernel) (ca_cons (ce_lc (own := [("name", 4)]) rfl sc_read_state.nd (ci_seq (ce_ix (cv 1) (ce_int))) (blkOk_by (N := n_read_state) (sc := defScope s_read_state) (own := [("name", 4)]) (by decide +kernel)) (tgOk_name (by decide)) (fun _ _ _ _ _ => pg_name (i := 4) sc_read_state.nd rfl (by first | exact Or.inl rfl | exact Or.inr rfl)) (fun _ _ _ _ _ => cts_nil) (fun _ _ _ _ _ => ce_bm PySem.F.plainAttrs_list PySem.F.slot_list_index PySem.F.type_list_index (mc_index (hu65 hr)) (cv 2) (ca_cons (cv 4) (ca_nil)))) (ca_nil))) (ca_cons (ce_ix (cv 1) (ce_int)) (ca_nil))))))))
abbrev n_idle_cards : List Str := ["deck", "start", "parsed", "orbit", "acting", "state", "number", "card"]
theorem sc_idle_cards : FnScope n_idle_cards ["deck", "start"] (defScope s_idle_cards) := ⟨rfl, rfl, rfl, by decide +kernel, rfl, by decide +kernel, by decide +kernel⟩
theorem ok_idle_cards (T : Tx K mg) : OkK P w K mg base 11 (He.ga K "idle_cards") ["deck", "start"] "start" F_idle_cards := by
  show OkK P w K mg base 11 (He.ga K "idle_cards") ["deck", "start"] "start" (fDef 8 b_idle_cards)
  refine okK_def (k := 10) (N := n_idle_cards) rfl T.d_idle_cards sc_idle_cards (by decide) (fun _ _ _ _ _ _ us ks h1 h2 => match us, ks, h1, h2 with | [_], [_], _, _ => ⟨_, _, _, _, _, _, rfl, rfl, rfl⟩) (fun _ _ _ _ _ _ us ws h1 h2 => match us, ws, h1, h2 with | [_], [_], _, _ => rfl) (fun cdv A outer s H E hr tk po => ?_)
  exact css_cons (cs_set (i := 2) sc_idle_cards.nd rfl (by first | exact Or.inl rfl | exact Or.inr rfl) (ck_call (ok_load T) (hr.mono (by decide)) tk T.g_load (ca_cons (cv 0) (ca_nil)))) (css_cons (cs_set (i := 3) sc_idle_cards.nd rfl (by first | exact Or.inl rfl | exact Or.inr rfl) (ck_call (ok_orbit_of T) (hr.mono (by decide)) tk T.g_orbit_of (ca_cons (cv 2) (ca_cons (ck_call (ok_read_state T) (hr.mono (by decide)) tk T.g_read_state (ca_cons (cv 2) (ca_cons (cv 1) (ca_nil)))) (ca_nil))))) (css_cons (cs_set (i := 4) sc_idle_cards.nd rfl (by first | exact Or.inl rfl | exact Or.inr rfl) (ce_lc (own := [("state", 5)]) rfl sc_idle_cards.nd (ci_seq (ce_fld (c := "Orbit") (cv 3) T.g_Orbit T.c_Orbit T.a_Orbit_states)) (blkOk_by (N := n_idle_cards) (sc := defScope s_idle_cards) (own := [("state", 5)]) (by decide +kernel)) (tgOk_name (by decide)) (fun _ _ _ _ _ => pg_name (i := 5) sc_idle_cards.nd rfl (by first | exact Or.inl rfl | exact Or.inr rfl)) (fun _ _ _ _ _ => cts_nil) (fun _ _ _ _ _ => ce_ix (ce_ix (cv 5) (ce_int)) (ce_int)))) (css_one (cs_ret (ce_lc (own := [("number", 6), ("card", 7)]) rfl sc_idle_cards.nd (ci_enumT (by rfl) T.n_enumerate (ce_ix (cv 2) (ce_int))) (blkOk_by (N := n_idle_cards) (sc := defScope s_idle_cards) (own := [("number", 6), ("card", 7)]) (by decide +kernel)) (tgOk_tup (tgsOk_cons (tgOk_name (by decide)) (tgsOk_cons (tgOk_name (by decide)) (tgsOk_nil) (fun _ _ _ _ _ z => by cases z; rfl)) (fun _ _ _ _ _ z => by cases z; rfl))) (fun _ _ _ _ _ => pg_tup rfl (pgs_cons (pg_name (i := 6) sc_idle_cards.nd rfl (by first | exact Or.inl rfl | exact Or.inr rfl)) (pgs_cons (pg_name (i := 7) sc_idle_cards.nd rfl (by first | exact Or.inl rfl | exact Or.inr rfl)) (pgs_nil)))) (fun _ _ _ _ _ => cts_one (ct_cmp (op2_notIn (hu65 hr)) (cv 6) (cv 4) rfl)) (fun _ _ _ _ _ => ce_ix (cv 7) (ce_int)))))))
abbrev n_law_card_text : List Str := ["_law_card", "_law_name", "_law_actions", "_law_put_here", "_law_texts", "_law_word", "_law_slot", "_law_other", "_law_last", "_law_first", "_law_second", "_law_rule"]
theorem sc_law_card_text : FnScope n_law_card_text ["_law_card"] (defScope s_law_card_text) := ⟨rfl, rfl, rfl, by decide +kernel, rfl, by decide +kernel, by decide +kernel⟩
theorem ok_law_card_text (T : Tx K mg) : OkD P w K mg base 1 (He.ga K "_law_card_text") ["_law_card"] F_law_card_text := by
  show OkD P w K mg base 1 (He.ga K "_law_card_text") ["_law_card"] (fDef 12 b_law_card_text)
  refine okD_def (k := 0) (N := n_law_card_text) rfl T.d_law_card_text sc_law_card_text (fun _ _ _ _ _ _ us hl => match us, hl with | [_], _ => rfl) (fun cdv A outer s H E hr tk po => ?_)
  exact css_cons (cs_asg (cv 0) (cg_tup rfl (cgs_cons (cg_name (i := 1) sc_law_card_text.nd rfl (by first | exact Or.inl rfl | exact Or.inr rfl)) (cgs_cons (cg_name (i := 2) sc_law_card_text.nd rfl (by first | exact Or.inl rfl | exact Or.inr rfl)) (cgs_cons (cg_name (i := 3) sc_law_card_text.nd rfl (by first | exact Or.inl rfl | exact Or.inr rfl)) (cgs_nil) (plain_name)) (plain_name)) (plain_name))) (plain_tup (plains_cons (plain_name) (plains_cons (plain_name) (plains_cons (plain_name) (plains_nil)))))) (css_cons (cs_set (i := 4) sc_law_card_text.nd rfl (by first | exact Or.inl rfl | exact Or.inr rfl) (ce_lst (ca_nil))) (css_cons (cs_for po rfl (ci_seq (cv 2)) (cg_tup rfl (cgs_cons (cg_name (i := 5) sc_law_card_text.nd rfl (by first | exact Or.inl rfl | exact Or.inr rfl)) (cgs_cons (cg_name (i := 6) sc_law_card_text.nd rfl (by first | exact Or.inl rfl | exact Or.inr rfl)) (cgs_cons (cg_name (i := 7) sc_law_card_text.nd rfl (by first | exact Or.inl rfl | exact Or.inr rfl)) (cgs_nil) (plain_name)) (plain_name)) (plain_name))) (plain_tup (plains_cons (plain_name) (plains_cons (plain_name) (plains_cons (plain_name) (plains_nil))))) (css_cons (cs_set (i := 8) sc_law_card_text.nd rfl (by first | exact Or.inl rfl | exact Or.inr rfl) (ce_if (PW.pt (cw_or (ct_cmp (op2_eq (hu64 hr)) (cv 5) (ce_str) (nomark _)) (cw_or1 (ct_cmp op2_isN (cv 6) (ce_none) (nomark _))))) (ce_callTy cc_str (by rfl) T.n_str (by decide +kernel) (ca_cons (cv 7) (ca_nil))) (ce_ix (ce_str) (cv 7)))) (css_one (cs_expr (ce_bm PySem.F.plainAttrs_list PySem.F.slot_list_append PySem.F.type_list_append mc_append (cv 4) (ca_cons (ce_bin op2_add (ce_bin op2_add (cv 5) (ce_str)) (ce_if (ct_cmp op2_isN (cv 6) (ce_none) (nomark _)) (cv 8) (ce_bin op2_add (ce_ix (ce_str) (cv 6)) (ce_if (ct_cmp (op2_eq (hu64 hr)) (cv 5) (ce_str) (nomark _)) (ce_str) (ce_bin op2_add (ce_str) (cv 8)))))) (ca_nil))))))) (css_cons (cs_asg (cv 3) (cg_tup rfl (cgs_cons (cg_name (i := 6) sc_law_card_text.nd rfl (by first | exact Or.inl rfl | exact Or.inr rfl)) (cgs_cons (cg_name (i := 9) sc_law_card_text.nd rfl (by first | exact Or.inl rfl | exact Or.inr rfl)) (cgs_cons (cg_name (i := 10) sc_law_card_text.nd rfl (by first | exact Or.inl rfl | exact Or.inr rfl)) (cgs_nil) (plain_name)) (plain_name)) (plain_name))) (plain_tup (plains_cons (plain_name) (plains_cons (plain_name) (plains_cons (plain_name) (plains_nil)))))) (css_cons (cs_set (i := 11) sc_law_card_text.nd rfl (by first | exact Or.inl rfl | exact Or.inr rfl) (ce_if (ct_cmp op2_isN (cv 6) (ce_none) (nomark _)) (ce_callTy cc_str (by rfl) T.n_str (by decide +kernel) (ca_cons (cv 9) (ca_nil))) (ce_ix (ce_str) (cv 6)))) (css_cons (cs_if (PW.pt (cw_and (ct_cmp op2_notN (cv 6) (ce_none) (nomark _)) (cw_and1 (ct_cmp op2_notN (cv 10) (ce_none) (nomark _))))) (css_one (cs_set (i := 11) sc_law_card_text.nd rfl (by first | exact Or.inl rfl | exact Or.inr rfl) (ce_bin op2_add (ce_bin op2_add (ce_bin op2_add (ce_bin op2_add (cv 11) (ce_str)) (ce_callTy cc_str (by rfl) T.n_str (by decide +kernel) (ca_cons (cv 9) (ca_nil)))) (ce_str)) (ce_callTy cc_str (by rfl) T.n_str (by decide +kernel) (ca_cons (cv 10) (ca_nil)))))) (css_nil)) (css_one (cs_ret (ce_bin op2_add (ce_bin op2_add (ce_bin op2_add (ce_bin op2_add (ce_bin op2_add (ce_bin op2_add (cv 1) (ce_str)) (ce_bm PySem.F.plainAttrs_str PySem.F.slot_str_join PySem.F.type_str_join mc_join (ce_str) (ca_cons (cv 4) (ca_nil)))) (ce_bin op2_mul (ce_str) (ce_callTy cc_int (by rfl) T.n_int (by decide +kernel) (ca_cons (ce_cmp (op2_ne (hu64 hr)) (cv 4) (ce_lst (ca_nil)) (nomark _)) (ca_nil))))) (ce_str)) (cv 11)) (ce_str)))))))))
abbrev n_law_text : List Str := ["_law_deck_here", "_law_card"]
theorem sc_law_text : FnScope n_law_text ["_law_deck_here"] (defScope s_law_text) := ⟨rfl, rfl, rfl, by decide +kernel, rfl, by decide +kernel, by decide +kernel⟩
theorem ok_law_text (T : Tx K mg) : OkD P w K mg base 2 (He.ga K "_law_text") ["_law_deck_here"] F_law_text := by
  show OkD P w K mg base 2 (He.ga K "_law_text") ["_law_deck_here"] (fDef 2 b_law_text)
  refine okD_def (k := 1) (N := n_law_text) rfl T.d_law_text sc_law_text (fun _ _ _ _ _ _ us hl => match us, hl with | [_], _ => rfl) (fun cdv A outer s H E hr tk po => ?_)
  exact css_one (cs_ret (ce_bm PySem.F.plainAttrs_str PySem.F.slot_str_join PySem.F.type_str_join mc_join (ce_str) (ca_cons (ce_bin op2_add (ce_lst (ca_cons (ce_bin op2_add (ce_bin op2_add (ce_str) (ce_callTy cc_str (by rfl) T.n_str (by decide +kernel) (ca_cons (ce_ix (cv 0) (ce_int)) (ca_nil)))) (ce_str)) (ca_nil))) (ce_lc (own := [("_law_card", 1)]) rfl sc_law_text.nd (ci_seq (ce_ix (cv 0) (ce_int))) (blkOk_by (N := n_law_text) (sc := defScope s_law_text) (own := [("_law_card", 1)]) (by decide +kernel)) (tgOk_name (by decide)) (fun _ _ _ _ _ => pg_name (i := 1) sc_law_text.nd rfl (by first | exact Or.inl rfl | exact Or.inr rfl)) (fun _ _ _ _ _ => cts_nil) (fun _ _ _ _ _ => ck_call (ok_law_card_text T) (hr.mono (by decide)) takes0' T.g__law_card_text (ca_cons (cv 1) (ca_nil))))) (ca_nil))))
abbrev n_law_equal : List Str := ["_law_actual", "_law_expected", "_law_k"]
theorem sc_law_equal : FnScope n_law_equal ["_law_actual", "_law_expected"] (defScope s_law_equal) := ⟨rfl, rfl, rfl, by decide +kernel, rfl, by decide +kernel, by decide +kernel⟩
theorem ok_law_equal (T : Tx K mg) : ∀ n : Nat, OkD P w K mg base (0 + n + 1) (He.ga K "_law_equal") ["_law_actual", "_law_expected"] (F_law_equal n)
  | 0 => by
    obtain ⟨fd, F⟩ := T.d_law_equal
    exact ⟨fd, ⟨fun vs H Q E ⟨m, S, ds, R, r, hl, h⟩ => h.elim, fun _ _ _ _ _ _ _ _ _ _ _ _ _ ⟨m, S, ds, R, r, hl, h⟩ => h.elim⟩, F.bindsN (fun _ _ _ _ _ _ us hl => match us, hl with | [_, _], _ => rfl), F.kp, F.bindsA (fun _ _ _ _ _ _ us hl => match us, hl with | [_, _], _ => rfl), by
      obtain ⟨oc, od, dV, kV, doc, pm, an, cdv, ct, osl, _, lk, _⟩ := F.ex
      exact ⟨oc, od, osl, lk⟩⟩
  | n + 1 => by
    have ih := ok_law_equal T n
    show OkD P w K mg base (0 + n + 1 + 1) (He.ga K "_law_equal") ["_law_actual", "_law_expected"] (fDef 3 (b_law_equal (F_law_equal n)))
    refine okD_def (N := n_law_equal) rfl T.d_law_equal sc_law_equal (fun _ _ _ _ _ _ us hl => match us, hl with | [_, _], _ => rfl) (fun cdv A outer s H E hr tk po => ?_)
    exact css_cons (cs_if (ct_cmp op2_isN (cv 1) (ce_none) (nomark _)) (css_one (cs_ret (ce_cmp op2_isN (cv 0) (ce_none) (nomark _)))) (css_nil)) (css_cons (cs_if (ct_tru (ce_isi (n := "bool") (by simp) (by rfl) T.n_isinstance (by rfl) T.n_bool (by decide +kernel) (cv 1))) (css_one (cs_ret (ce_and (ce_isi (n := "bool") (by simp) (by rfl) T.n_isinstance (by rfl) T.n_bool (by decide +kernel) (cv 0)) (ce_one (ce_cmp (op2_eq (hu64 hr)) (cv 0) (cv 1) (nomark _)))))) (css_nil)) (css_cons (cs_if (ct_tru (ce_isi (n := "int") (by simp) (by rfl) T.n_isinstance (by rfl) T.n_int (by decide +kernel) (cv 1))) (css_one (cs_ret (ce_and (ce_isi (n := "int") (by simp) (by rfl) T.n_isinstance (by rfl) T.n_int (by decide +kernel) (cv 0)) (ce_and (ce_not (ce_isi (n := "bool") (by simp) (by rfl) T.n_isinstance (by rfl) T.n_bool (by decide +kernel) (cv 0))) (ce_one (ce_cmp (op2_eq (hu64 hr)) (cv 0) (cv 1) (nomark _))))))) (css_nil)) (css_cons (cs_if (ct_tru (ce_isi (n := "str") (by simp) (by rfl) T.n_isinstance (by rfl) T.n_str (by decide +kernel) (cv 1))) (css_one (cs_ret (ce_and (ce_isi (n := "str") (by simp) (by rfl) T.n_isinstance (by rfl) T.n_str (by decide +kernel) (cv 0)) (ce_one (ce_cmp (op2_eq (hu64 hr)) (cv 0) (cv 1) (nomark _)))))) (css_nil)) (css_cons (cs_if (ct_cmp (op2_ne (hu64 hr)) (ce_isi (n := "tuple") (by simp) (by rfl) T.n_isinstance (by rfl) T.n_tuple (by decide +kernel) (cv 1)) (ce_isi (n := "tuple") (by simp) (by rfl) T.n_isinstance (by rfl) T.n_tuple (by decide +kernel) (cv 0)) (nomark _)) (css_one (cs_ret (ce_bool))) (css_nil)) (css_cons (cs_if (ct_cmp (op2_ne (hu64 hr)) (ce_isi (n := "list") (by simp) (by rfl) T.n_isinstance (by rfl) T.n_list (by decide +kernel) (cv 1)) (ce_isi (n := "list") (by simp) (by rfl) T.n_isinstance (by rfl) T.n_list (by decide +kernel) (cv 0)) (nomark _)) (css_one (cs_ret (ce_bool))) (css_nil)) (css_cons (cs_if (ct_cmp (op2_ne (hu64 hr)) (ce_callB cc_len (by rfl) T.n_len (by decide +kernel) (ca_cons (cv 0) (ca_nil))) (ce_callB cc_len (by rfl) T.n_len (by decide +kernel) (ca_cons (cv 1) (ca_nil))) (nomark _)) (css_one (cs_ret (ce_bool))) (css_nil)) (css_one (cs_ret (ce_callB (cc_all rfl) (by rfl) T.n_all (by decide +kernel) (ca_cons (ce_lc (own := [("_law_k", 2)]) rfl sc_law_equal.nd (ci_range1 (by rfl) T.n_range (ce_callB cc_len (by rfl) T.n_len (by decide +kernel) (ca_cons (cv 1) (ca_nil)))) (blkOk_by (N := n_law_equal) (sc := defScope s_law_equal) (own := [("_law_k", 2)]) (by decide +kernel)) (tgOk_name (by decide)) (fun _ _ _ _ _ => pg_name (i := 2) sc_law_equal.nd rfl (by first | exact Or.inl rfl | exact Or.inr rfl)) (fun _ _ _ _ _ => cts_nil) (fun _ _ _ _ _ => ck_call (ps := ["_law_actual", "_law_expected"]) ih hr takes0' T.g__law_equal (ca_cons (ce_ix (cv 0) (cv 2)) (ca_cons (ce_ix (cv 1) (cv 2)) (ca_nil))))) (ca_nil)))))))))))
abbrev n_find_cycle : List Str := ["deck", "start", "parsed", "orbit"]
theorem sc_find_cycle : FnScope n_find_cycle ["deck", "start"] (defScope s_find_cycle) := ⟨rfl, rfl, rfl, by decide +kernel, rfl, by decide +kernel, by decide +kernel⟩
theorem ok_find_cycle (T : Tx K mg) : OkK P w K mg base 11 (He.ga K "find_cycle") ["deck", "start"] "start" F_find_cycle := by
  show OkK P w K mg base 11 (He.ga K "find_cycle") ["deck", "start"] "start" (fDef 4 b_find_cycle)
  refine okK_def (k := 10) (N := n_find_cycle) rfl T.d_find_cycle sc_find_cycle (by decide) (fun _ _ _ _ _ _ us ks h1 h2 => match us, ks, h1, h2 with | [_], [_], _, _ => ⟨_, _, _, _, _, _, rfl, rfl, rfl⟩) (fun _ _ _ _ _ _ us ws h1 h2 => match us, ws, h1, h2 with | [_], [_], _, _ => rfl) (fun cdv A outer s H E hr tk po => ?_)
  exact css_cons (cs_set (i := 2) sc_find_cycle.nd rfl (by first | exact Or.inl rfl | exact Or.inr rfl) (ck_call (ok_load T) (hr.mono (by decide)) tk T.g_load (ca_cons (cv 0) (ca_nil)))) (css_cons (cs_set (i := 3) sc_find_cycle.nd rfl (by first | exact Or.inl rfl | exact Or.inr rfl) (ck_call (ok_orbit_of T) (hr.mono (by decide)) tk T.g_orbit_of (ca_cons (cv 2) (ca_cons (ck_call (ok_read_state T) (hr.mono (by decide)) tk T.g_read_state (ca_cons (cv 2) (ca_cons (cv 1) (ca_nil)))) (ca_nil))))) (css_one (cs_ret (ce_tup (ca_cons (ce_fld (c := "Orbit") (cv 3) T.g_Orbit T.c_Orbit T.a_Orbit_start) (ca_cons (ce_bin op2_sub (ce_callB cc_len (by rfl) T.n_len (by decide +kernel) (ca_cons (ce_fld (c := "Orbit") (cv 3) T.g_Orbit T.c_Orbit T.a_Orbit_states) (ca_nil))) (ce_fld (c := "Orbit") (cv 3) T.g_Orbit T.c_Orbit T.a_Orbit_start)) (ca_nil)))))))
abbrev n_check_count : List Str := ["count", "high"]
theorem sc_check_count : FnScope n_check_count ["count", "high"] (defScope s_check_count) := ⟨rfl, rfl, rfl, by decide +kernel, rfl, by decide +kernel, by decide +kernel⟩
theorem ok_check_count (T : Tx K mg) : OkD P w K mg base 2 (He.ga K "check_count") ["count", "high"] F_check_count := by
  show OkD P w K mg base 2 (He.ga K "check_count") ["count", "high"] (fDef 2 b_check_count)
  refine okD_def (k := 1) (N := n_check_count) rfl T.d_check_count sc_check_count (fun _ _ _ _ _ _ us hl => match us, hl with | [_, _], _ => rfl) (fun cdv A outer s H E hr tk po => ?_)
  exact css_one (cs_if (ct_not (ct_tru (ck_call (ok_is_int_in T) (hr.mono (by decide)) tk T.g_is_int_in (ca_cons (cv 0) (ca_cons (ce_int) (ca_cons (cv 1) (ca_nil))))))) (css_one (cs_raiseT T.x_InvalidCount tk T.g_InvalidCount)) (css_nil))
abbrev n_named_state : List Str := ["parsed", "state", "number"]
theorem sc_named_state : FnScope n_named_state ["parsed", "state"] (defScope s_named_state) := ⟨rfl, rfl, rfl, by decide +kernel, rfl, by decide +kernel, by decide +kernel⟩
theorem ok_named_state (T : Tx K mg) : OkD P w K mg base 1 (He.ga K "named_state") ["parsed", "state"] F_named_state := by
  show OkD P w K mg base 1 (He.ga K "named_state") ["parsed", "state"] (fDef 3 b_named_state)
  refine okD_def (k := 0) (N := n_named_state) rfl T.d_named_state sc_named_state (fun _ _ _ _ _ _ us hl => match us, hl with | [_, _], _ => rfl) (fun cdv A outer s H E hr tk po => ?_)
  exact css_one (cs_ret (ce_tup (ca_cons (ce_callTy cc_tuple (by rfl) T.n_tuple (by decide +kernel) (ca_cons (ce_lc (own := [("number", 2)]) rfl sc_named_state.nd (ci_seq (ce_ix (cv 1) (ce_int))) (blkOk_by (N := n_named_state) (sc := defScope s_named_state) (own := [("number", 2)]) (by decide +kernel)) (tgOk_name (by decide)) (fun _ _ _ _ _ => pg_name (i := 2) sc_named_state.nd rfl (by first | exact Or.inl rfl | exact Or.inr rfl)) (fun _ _ _ _ _ => cts_nil) (fun _ _ _ _ _ => ce_ix (ce_ix (ce_ix (cv 0) (ce_int)) (cv 2)) (ce_int))) (ca_nil))) (ca_cons (ce_ix (cv 1) (ce_int)) (ca_nil)))))
abbrev n_state_after : List Str := ["deck", "count", "start", "parsed", "state", "orbit"]
theorem sc_state_after : FnScope n_state_after ["deck", "count", "start"] (defScope s_state_after) := ⟨rfl, rfl, rfl, by decide +kernel, rfl, by decide +kernel, by decide +kernel⟩
theorem ok_state_after (T : Tx K mg) : OkK P w K mg base 11 (He.ga K "state_after") ["deck", "count", "start"] "start" F_state_after := by
  show OkK P w K mg base 11 (He.ga K "state_after") ["deck", "count", "start"] "start" (fDef 6 b_state_after)
  refine okK_def (k := 10) (N := n_state_after) rfl T.d_state_after sc_state_after (by decide) (fun _ _ _ _ _ _ us ks h1 h2 => match us, ks, h1, h2 with | [_, _], [_], _, _ => ⟨_, _, _, _, _, _, rfl, rfl, rfl⟩) (fun _ _ _ _ _ _ us ws h1 h2 => match us, ws, h1, h2 with | [_, _], [_], _, _ => rfl) (fun cdv A outer s H E hr tk po => ?_)
  exact css_cons (cs_set (i := 3) sc_state_after.nd rfl (by first | exact Or.inl rfl | exact Or.inr rfl) (ck_call (ok_load T) (hr.mono (by decide)) tk T.g_load (ca_cons (cv 0) (ca_nil)))) (css_cons (cs_expr (ck_call (ok_check_count T) (hr.mono (by decide)) tk T.g_check_count (ca_cons (cv 1) (ca_cons (ce_gint T.k_MAX_COUNT) (ca_nil))))) (css_cons (cs_set (i := 4) sc_state_after.nd rfl (by first | exact Or.inl rfl | exact Or.inr rfl) (ck_call (ok_read_state T) (hr.mono (by decide)) tk T.g_read_state (ca_cons (cv 3) (ca_cons (cv 2) (ca_nil))))) (css_cons (cs_set (i := 5) sc_state_after.nd rfl (by first | exact Or.inl rfl | exact Or.inr rfl) (ck_make T.mk_Orbit (ok_Orbit_init T) (hr.mono (by decide)) tk T.g_Orbit (ca_cons (cv 3) (ca_cons (cv 4) (ca_cons (ce_callB (cc_min rfl) (by rfl) T.n_min (by decide +kernel) (ca_cons (cv 1) (ca_cons (ce_gint T.k_MAX_STATES) (ca_nil)))) (ca_nil)))))) (css_cons (cs_if (PW.pt (cw_and (ct_cmp op2_isN (ce_fld (c := "Orbit") (cv 5) T.g_Orbit T.c_Orbit T.a_Orbit_start) (ce_none) (nomark _)) (cw_and1 (ct_cmp (op2_eq (hu64 hr)) (cv 1) (ce_callB cc_len (by rfl) T.n_len (by decide +kernel) (ca_cons (ce_fld (c := "Orbit") (cv 5) T.g_Orbit T.c_Orbit T.a_Orbit_states) (ca_nil))) (nomark _))))) (css_one (cs_ret (ck_call (ok_named_state T) (hr.mono (by decide)) tk T.g_named_state (ca_cons (cv 3) (ca_cons (ce_fld (c := "Orbit") (cv 5) T.g_Orbit T.c_Orbit T.a_Orbit_last) (ca_nil)))))) (css_nil)) (css_cons (cs_set (i := 5) sc_state_after.nd rfl (by first | exact Or.inl rfl | exact Or.inr rfl) (ck_call (ok_orbit_of T) (hr.mono (by decide)) tk T.g_orbit_of (ca_cons (cv 3) (ca_cons (cv 4) (ca_nil))))) (css_one (cs_ret (ck_call (ok_named_state T) (hr.mono (by decide)) tk T.g_named_state (ca_cons (cv 3) (ca_cons (ce_ix (ce_fld (c := "Orbit") (cv 5) T.g_Orbit T.c_Orbit T.a_Orbit_states) (ck_meth (c := "Orbit") (ok_Orbit_index T) (hr.mono (by decide)) tk T.g_Orbit T.c_Orbit T.m_Orbit_index (cv 5) (ca_cons (cv 1) (ca_nil)))) (ca_nil)))))))))))
abbrev n_law : List Str := ["_law_script", "_law_d", "_law_step_here", "_law_deck_here", "_law_orbit_here", "_law_text_here", "_law_length", "_law_count", "_law_index", "_law_acting", "_law_idle", "_law_found", "_law_inside", "_law_state", "_law_card"]
theorem sc_law : FnScope n_law ["_law_script"] (defScope s_law) := ⟨rfl, rfl, rfl, by decide +kernel, rfl, by decide +kernel, by decide +kernel⟩
theorem ok_law (T : Tx K mg) : OkD P w K mg base 12 (He.ga K "law") ["_law_script"] F_law_k05 := by
  show OkD P w K mg base 12 (He.ga K "law") ["_law_script"] (fDef 15 b_law_k05)
  refine okD_def (k := 11) (N := n_law) rfl T.d_law sc_law (fun _ _ _ _ _ _ us hl => match us, hl with | [_], _ => rfl) (fun cdv A outer s H E hr tk po => ?_)
  exact css_cons (cs_set (i := 1) sc_law.nd rfl (by first | exact Or.inl rfl | exact Or.inr rfl) (ck_call (ok_law_random T) (hr.mono (by decide)) tk T.g__law_random (ca_cons (cv 0) (ca_cons (ce_int) (ca_nil))))) (css_cons (cs_for po rfl (ci_range1 (by rfl) T.n_range (ce_int)) (cg_name (i := 2) sc_law.nd rfl (by first | exact Or.inl rfl | exact Or.inr rfl)) (plain_name) (css_cons (cs_asg (ck_call (ok_law_short_deck T) (hr.mono (by decide)) tk T.g__law_short_deck (ca_cons (cv 1) (ca_cons (ce_int) (ca_nil)))) (cg_tup rfl (cgs_cons (cg_name (i := 3) sc_law.nd rfl (by first | exact Or.inl rfl | exact Or.inr rfl)) (cgs_cons (cg_name (i := 4) sc_law.nd rfl (by first | exact Or.inl rfl | exact Or.inr rfl)) (cgs_nil) (plain_name)) (plain_name))) (plain_tup (plains_cons (plain_name) (plains_cons (plain_name) (plains_nil))))) (css_cons (cs_par2 (i1 := 5) (i2 := 6) (hN := sc_law.nd) (ca_cons (ck_call (ok_law_text T) (hr.mono (by decide)) tk T.g__law_text (ca_cons (cv 3) (ca_nil))) (ca_cons (ce_bin op2_sub (ce_callB cc_len (by rfl) T.n_len (by decide +kernel) (ca_cons (ce_ix (cv 4) (ce_int)) (ca_nil))) (ce_ix (cv 4) (ce_int))) (ca_nil)))) (css_cons (cs_if (ct_not (ct_tru (ck_call (ok_law_equal T 8) (hr.mono (by decide)) tk T.g__law_equal (ca_cons (ck_callD (ok_find_cycle T) (hr.mono (by decide)) tk T.g_find_cycle (ca_cons (cv 5) (ca_nil))) (ca_cons (ce_tup (ca_cons (ce_ix (cv 4) (ce_int)) (ca_cons (cv 6) (ca_nil)))) (ca_nil)))))) (css_one (cs_ret (ce_bool))) (css_nil)) (css_cons (cs_set (i := 7) sc_law.nd rfl (by first | exact Or.inl rfl | exact Or.inr rfl) (ce_ix (ce_lst (ca_cons (ck_call (ok_law_below T) (hr.mono (by decide)) tk T.g__law_below (ca_cons (cv 1) (ca_cons (ce_int) (ca_nil)))) (ca_cons (ce_bin op2_pow (ce_int) (ce_int)) (ca_cons (ce_bin op2_sub (ce_bin op2_pow (ce_int) (ce_int)) (ck_call (ok_law_below T) (hr.mono (by decide)) tk T.g__law_below (ca_cons (cv 1) (ca_cons (ce_bin op2_pow (ce_int) (ce_int)) (ca_nil))))) (ca_nil))))) (ck_call (ok_law_below T) (hr.mono (by decide)) tk T.g__law_below (ca_cons (cv 1) (ca_cons (ce_int) (ca_nil)))))) (css_cons (cs_set (i := 8) sc_law.nd rfl (by first | exact Or.inl rfl | exact Or.inr rfl) (ce_if (ct_cmp op2_lt (cv 7) (ce_ix (cv 4) (ce_int)) (nomark _)) (cv 7) (ce_bin op2_add (ce_ix (cv 4) (ce_int)) (ce_bin op2_mod (ce_bin op2_sub (cv 7) (ce_ix (cv 4) (ce_int))) (cv 6))))) (css_cons (cs_if (ct_not (ct_tru (ck_call (ok_law_equal T 8) (hr.mono (by decide)) tk T.g__law_equal (ca_cons (ck_callD (ok_state_after T) (hr.mono (by decide)) tk T.g_state_after (ca_cons (cv 5) (ca_cons (cv 7) (ca_nil)))) (ca_cons (ce_ix (ce_ix (cv 4) (ce_int)) (cv 8)) (ca_nil)))))) (css_one (cs_ret (ce_bool))) (css_nil)) (css_cons (cs_set (i := 9) sc_law.nd rfl (by first | exact Or.inl rfl | exact Or.inr rfl) (ce_lc (own := [("_law_state", 13)]) rfl sc_law.nd (ci_seq (ce_ix (cv 4) (ce_int))) (blkOk_by (N := n_law) (sc := defScope s_law) (own := [("_law_state", 13)]) (by decide +kernel)) (tgOk_name (by decide)) (fun _ _ _ _ _ => pg_name (i := 13) sc_law.nd rfl (by first | exact Or.inl rfl | exact Or.inr rfl)) (fun _ _ _ _ _ => cts_nil) (fun _ _ _ _ _ => ce_ix (ce_ix (cv 13) (ce_int)) (ce_int)))) (css_cons (cs_setLc (i := 10) (own := [("_law_card", 14)]) rfl sc_law.nd rfl rfl (sw_true rfl rfl rfl (by decide +kernel)) (ci_seq (ce_ix (cv 3) (ce_int))) (blkOk_by (N := n_law) (sc := defScope s_law) (own := [("_law_card", 14)]) (by decide +kernel)) (tgOk_name (by decide)) (fun _ _ _ _ _ => pg_name (i := 14) sc_law.nd rfl (by first | exact Or.inl rfl | exact Or.inr rfl)) (fun _ _ _ _ _ => cts_one (ct_cmp (op2_notIn (hu65 hr)) (ce_ix (cv 14) (ce_int)) (cv 9) rfl)) (fun _ _ _ _ _ => ce_ix (cv 14) (ce_int))) (css_cons (cs_set (i := 11) sc_law.nd rfl (by first | exact Or.inl rfl | exact Or.inr rfl) (ck_callD (ok_idle_cards T) (hr.mono (by decide)) tk T.g_idle_cards (ca_cons (cv 5) (ca_nil)))) (css_cons (cs_if (ct_not (ct_tru (ck_call (ok_law_equal T 8) (hr.mono (by decide)) tk T.g__law_equal (ca_cons (cv 11) (ca_cons (cv 10) (ca_nil)))))) (css_one (cs_ret (ce_bool))) (css_nil)) (css_cons (cs_expr (ce_bm PySem.F.plainAttrs_list PySem.F.slot_list_append PySem.F.type_list_append mc_append (cv 11) (ca_cons (ce_int) (ca_nil)))) (css_cons (cs_set (i := 12) sc_law.nd rfl (by first | exact Or.inl rfl | exact Or.inr rfl) (ce_ix (ce_ix (cv 4) (ce_int)) (ce_bin op2_add (ce_ix (cv 4) (ce_int)) (ck_call (ok_law_below T) (hr.mono (by decide)) tk T.g__law_below (ca_cons (cv 1) (ca_cons (cv 6) (ca_nil))))))) (css_one (cs_if (ct_not (ct_tru (ck_call (ok_law_equal T 8) (hr.mono (by decide)) tk T.g__law_equal (ca_cons (ck_callK (ok_find_cycle T) (hr.mono (by decide)) tk T.g_find_cycle (ca_cons (cv 5) (ca_nil)) (cv 12)) (ca_cons (ce_tup (ca_cons (ce_int) (ca_cons (cv 6) (ca_nil)))) (ca_nil)))))) (css_one (cs_ret (ce_bool))) (css_nil)))))))))))))))) (css_one (cs_ret (ce_bool))))
end
def fa : List He.Fa := [.glo "law", .free "abs", .free "len", .free "list", .glo "_law_below", .free "range", .free "min", .glo "_law_shuffled", .glo "_law_action", .glo "_law_put", .free "tuple", .glo "_law_named", .glo "_law_step", .glo "_law_deck", .glo "_law_orbit", .glo "_law_start", .glo "Token", .cls "Token", .noat "Token" "kind", .noat "Token" "text", .noat "Token" "line", .noat "Token" "column", .str "ARROW" "->", .mkr "Token", .str "SIGN" "sign", .str "SIGNS" ":,;?", .str "DIGITS" "0123456789", .glo "run_length", .int "MAX_DIGITS" 3, .noat "SyntaxFault" "line", .noat "SyntaxFault" "column", .glo "SyntaxFault", .str "NUMBER" "number", .str "LETTERS" "abcdefghijklmnopqrstuvwxyz", .int "MAX_LETTERS" 8, .glo "KEYWORDS", .glo "REGISTERS", .str "REGISTER" "register", .str "NAME" "name", .free "enumerate", .glo "read_token", .str "END" "end", .glo "tokenize", .glo "Parser", .cls "Parser", .noat "Parser" "tokens", .noat "Parser" "at", .int "MAX_WRAP" 16, .noat "Parser" "wrap", .noat "Parser" "faults", .meth "Parser" "peek", .glo "Orbit", .cls "Orbit", .noat "Orbit" "states", .noat "Orbit" "start", .meth "Parser" "take", .free "int", .meth "Parser" "fault", .meth "Parser" "take_number", .int "MAX_DEPTH" 9, .meth "Parser" "take_register", .meth "Parser" "expect", .glo "ACTIONS", .int "MAX_ACTIONS" 6, .int "MAX_CARDS" 8, .meth "Parser" "parse_action", .meth "Parser" "parse_put", .int "MIN_WRAP" 2, .meth "Parser" "parse_card", .mkr "Parser", .meth "Parser" "parse_deck", .noat "CheckFault" "reason", .noat "CheckFault" "line", .noat "CheckFault" "column", .glo "CheckFault", .glo "acted", .glo "depth_of", .noat "Orbit" "emitted", .glo "after_step", .noat "Orbit" "last", .mkr "Orbit", .int "MAX_STATES" 3000, .exc "TooLong", .glo "TooLong", .glo "ZEROS", .free "isinstance", .free "bool", .free "all", .glo "is_int_in", .glo "initial_state", .glo "is_state", .exc "InvalidState", .glo "InvalidState", .glo "load", .glo "orbit_of", .glo "read_state", .free "str", .glo "_law_card_text", .glo "_law_equal", .exc "InvalidCount", .glo "InvalidCount", .glo "check_count", .int "MAX_COUNT" 1000000000000000000, .glo "named_state", .meth "Orbit" "index", .glo "_law_random", .glo "_law_short_deck", .glo "_law_text", .glo "find_cycle", .glo "state_after", .glo "idle_cards", .glo "DeckError"]
def fn : List He.DefD := [dd_law_random, dd_law_below, dd_law_shuffled, dd_law_action, dd_law_put, dd_law_deck, dd_law_step, dd_law_named, dd_law_orbit, dd_law_start, dd_law_short_deck, dd_Token_init, dd_run_length, dd_read_token, dd_tokenize, dd_Parser_init, dd_Parser_peek, dd_Parser_expect, dd_Parser_take, dd_Parser_fault, dd_Orbit_index, dd_Parser_take_register, dd_Parser_take_number, dd_Parser_parse_put, dd_Parser_parse_action, dd_Parser_parse_card, dd_Parser_parse_deck, dd_load, dd_acted, dd_depth_of, dd_after_step, dd_Orbit_init, dd_orbit_of, dd_initial_state, dd_is_int_in, dd_is_state, dd_read_state, dd_idle_cards, dd_law_card_text, dd_law_text, dd_law_equal, dd_find_cycle, dd_check_count, dd_named_state, dd_state_after, dd_law, dd_CheckFault_init, dd_SyntaxFault_init]
def exq (K : PySem.W.Frag) : Bool := oexB K (He.ga K "SyntaxFault") && (initB K (He.ga K "SyntaxFault") && (He.tupB K "KEYWORDS" [.str "wrap", .str "add", .str "copy", .str "swap", .str "emit"] && (He.tupB K "REGISTERS" [.str "p", .str "q", .str "r", .str "s"] && (wtupB K "REGISTERS" && (He.tupB K "ACTIONS" [.str "add", .str "copy", .str "swap", .str "emit"] && (oexB K (He.ga K "CheckFault") && (initB K (He.ga K "CheckFault") && (He.tupB K "ZEROS" [.int 0, .int 0, .int 0, .int 0] && (dkB K (He.ga K "DeckError") && (noLstB K))))))))))
theorem tx_of {K : PySem.W.Frag} {h : Heap} {mg : MGf} (KX : K.In h) (G : h.Ns mainGlobals mg) (c : SaysC fa fn exq K) : Tx K mg ∧ noLstB K = true := by
  obtain ⟨x0, z0⟩ := He.ba c.x
  obtain ⟨x1, z1⟩ := He.ba z0
  obtain ⟨x2, z2⟩ := He.ba z1
  obtain ⟨x3, z3⟩ := He.ba z2
  obtain ⟨x4, z4⟩ := He.ba z3
  obtain ⟨x5, z5⟩ := He.ba z4
  obtain ⟨x6, z6⟩ := He.ba z5
  obtain ⟨x7, z7⟩ := He.ba z6
  obtain ⟨x8, z8⟩ := He.ba z7
  obtain ⟨x9, z9⟩ := He.ba z8
  exact ⟨⟨He.glo_ok KX G (c.d.fact 0 rfl),
    He.free_ok KX G (c.d.fact 1 rfl),
    He.free_ok KX G (c.d.fact 2 rfl),
    He.free_ok KX G (c.d.fact 3 rfl),
    He.glo_ok KX G (c.d.fact 4 rfl),
    He.free_ok KX G (c.d.fact 5 rfl),
    He.free_ok KX G (c.d.fact 6 rfl),
    He.glo_ok KX G (c.d.fact 7 rfl),
    He.glo_ok KX G (c.d.fact 8 rfl),
    He.glo_ok KX G (c.d.fact 9 rfl),
    He.free_ok KX G (c.d.fact 10 rfl),
    He.glo_ok KX G (c.d.fact 11 rfl),
    He.glo_ok KX G (c.d.fact 12 rfl),
    He.glo_ok KX G (c.d.fact 13 rfl),
    He.glo_ok KX G (c.d.fact 14 rfl),
    He.glo_ok KX G (c.d.fact 15 rfl),
    He.glo_ok KX G (c.d.fact 16 rfl),
    He.cls_ok (c.d.fact 17 rfl),
    He.noat_ok (c.d.fact 18 rfl),
    He.noat_ok (c.d.fact 19 rfl),
    He.noat_ok (c.d.fact 20 rfl),
    He.noat_ok (c.d.fact 21 rfl),
    He.str_ok KX G (c.d.fact 22 rfl),
    He.mkr_ok (c.d.fact 23 rfl),
    He.str_ok KX G (c.d.fact 24 rfl),
    He.str_ok KX G (c.d.fact 25 rfl),
    He.str_ok KX G (c.d.fact 26 rfl),
    He.glo_ok KX G (c.d.fact 27 rfl),
    He.int_ok KX G (c.d.fact 28 rfl),
    oexB_ok x0,
    initB_ok x1,
    He.noat_ok (c.d.fact 29 rfl),
    He.noat_ok (c.d.fact 30 rfl),
    He.glo_ok KX G (c.d.fact 31 rfl),
    He.str_ok KX G (c.d.fact 32 rfl),
    He.str_ok KX G (c.d.fact 33 rfl),
    He.int_ok KX G (c.d.fact 34 rfl),
    He.glo_ok KX G (c.d.fact 35 rfl),
    fun H => He.tupB_ok (vs := [.str "wrap", .str "add", .str "copy", .str "swap", .str "emit"]) x2 H,
    He.glo_ok KX G (c.d.fact 36 rfl),
    fun H => He.tupB_ok (vs := [.str "p", .str "q", .str "r", .str "s"]) x3 H,
    He.str_ok KX G (c.d.fact 37 rfl),
    He.str_ok KX G (c.d.fact 38 rfl),
    He.free_ok KX G (c.d.fact 39 rfl),
    He.glo_ok KX G (c.d.fact 40 rfl),
    He.str_ok KX G (c.d.fact 41 rfl),
    He.glo_ok KX G (c.d.fact 42 rfl),
    He.glo_ok KX G (c.d.fact 43 rfl),
    He.cls_ok (c.d.fact 44 rfl),
    He.noat_ok (c.d.fact 45 rfl),
    He.noat_ok (c.d.fact 46 rfl),
    He.int_ok KX G (c.d.fact 47 rfl),
    He.noat_ok (c.d.fact 48 rfl),
    He.noat_ok (c.d.fact 49 rfl),
    He.meth_ok (c.d.fact 50 rfl),
    He.glo_ok KX G (c.d.fact 51 rfl),
    He.cls_ok (c.d.fact 52 rfl),
    He.noat_ok (c.d.fact 53 rfl),
    He.noat_ok (c.d.fact 54 rfl),
    wtupB_ok x4,
    He.meth_ok (c.d.fact 55 rfl),
    He.free_ok KX G (c.d.fact 56 rfl),
    He.meth_ok (c.d.fact 57 rfl),
    He.meth_ok (c.d.fact 58 rfl),
    He.int_ok KX G (c.d.fact 59 rfl),
    He.meth_ok (c.d.fact 60 rfl),
    He.meth_ok (c.d.fact 61 rfl),
    He.glo_ok KX G (c.d.fact 62 rfl),
    fun H => He.tupB_ok (vs := [.str "add", .str "copy", .str "swap", .str "emit"]) x5 H,
    He.int_ok KX G (c.d.fact 63 rfl),
    He.int_ok KX G (c.d.fact 64 rfl),
    He.meth_ok (c.d.fact 65 rfl),
    He.meth_ok (c.d.fact 66 rfl),
    He.int_ok KX G (c.d.fact 67 rfl),
    He.meth_ok (c.d.fact 68 rfl),
    He.mkr_ok (c.d.fact 69 rfl),
    He.meth_ok (c.d.fact 70 rfl),
    oexB_ok x6,
    initB_ok x7,
    He.noat_ok (c.d.fact 71 rfl),
    He.noat_ok (c.d.fact 72 rfl),
    He.noat_ok (c.d.fact 73 rfl),
    He.glo_ok KX G (c.d.fact 74 rfl),
    He.glo_ok KX G (c.d.fact 75 rfl),
    He.glo_ok KX G (c.d.fact 76 rfl),
    He.noat_ok (c.d.fact 77 rfl),
    He.glo_ok KX G (c.d.fact 78 rfl),
    He.noat_ok (c.d.fact 79 rfl),
    He.mkr_ok (c.d.fact 80 rfl),
    He.int_ok KX G (c.d.fact 81 rfl),
    excT_of (c.d.fact 82 rfl),
    He.glo_ok KX G (c.d.fact 83 rfl),
    He.glo_ok KX G (c.d.fact 84 rfl),
    fun H => He.tupB_ok (vs := [.int 0, .int 0, .int 0, .int 0]) x8 H,
    He.free_ok KX G (c.d.fact 85 rfl),
    He.free_ok KX G (c.d.fact 86 rfl),
    He.free_ok KX G (c.d.fact 87 rfl),
    He.glo_ok KX G (c.d.fact 88 rfl),
    He.glo_ok KX G (c.d.fact 89 rfl),
    He.glo_ok KX G (c.d.fact 90 rfl),
    excT_of (c.d.fact 91 rfl),
    He.glo_ok KX G (c.d.fact 92 rfl),
    He.glo_ok KX G (c.d.fact 93 rfl),
    He.glo_ok KX G (c.d.fact 94 rfl),
    He.glo_ok KX G (c.d.fact 95 rfl),
    He.free_ok KX G (c.d.fact 96 rfl),
    He.glo_ok KX G (c.d.fact 97 rfl),
    He.glo_ok KX G (c.d.fact 98 rfl),
    excT_of (c.d.fact 99 rfl),
    He.glo_ok KX G (c.d.fact 100 rfl),
    He.glo_ok KX G (c.d.fact 101 rfl),
    He.int_ok KX G (c.d.fact 102 rfl),
    He.glo_ok KX G (c.d.fact 103 rfl),
    He.meth_ok (c.d.fact 104 rfl),
    He.glo_ok KX G (c.d.fact 105 rfl),
    He.glo_ok KX G (c.d.fact 106 rfl),
    He.glo_ok KX G (c.d.fact 107 rfl),
    He.glo_ok KX G (c.d.fact 108 rfl),
    He.glo_ok KX G (c.d.fact 109 rfl),
    He.glo_ok KX G (c.d.fact 110 rfl),
    He.glo_ok KX G (c.d.fact 111 rfl),
    dkB_ok (He.glo_ok KX G (c.d.fact 111 rfl)) x9,
    c.d.def_ 0 (d := dd_law_random) rfl,
    c.d.def_ 1 (d := dd_law_below) rfl,
    c.d.def_ 2 (d := dd_law_shuffled) rfl,
    c.d.def_ 3 (d := dd_law_action) rfl,
    c.d.def_ 4 (d := dd_law_put) rfl,
    c.d.def_ 5 (d := dd_law_deck) rfl,
    c.d.def_ 6 (d := dd_law_step) rfl,
    c.d.def_ 7 (d := dd_law_named) rfl,
    c.d.def_ 8 (d := dd_law_orbit) rfl,
    c.d.def_ 9 (d := dd_law_start) rfl,
    c.d.def_ 10 (d := dd_law_short_deck) rfl,
    c.d.def_ 11 (d := dd_Token_init) rfl,
    c.d.def_ 12 (d := dd_run_length) rfl,
    c.d.def_ 13 (d := dd_read_token) rfl,
    c.d.def_ 14 (d := dd_tokenize) rfl,
    c.d.def_ 15 (d := dd_Parser_init) rfl,
    c.d.def_ 16 (d := dd_Parser_peek) rfl,
    c.d.def_ 17 (d := dd_Parser_expect) rfl,
    c.d.def_ 18 (d := dd_Parser_take) rfl,
    c.d.def_ 19 (d := dd_Parser_fault) rfl,
    c.d.def_ 20 (d := dd_Orbit_index) rfl,
    c.d.def_ 21 (d := dd_Parser_take_register) rfl,
    c.d.def_ 22 (d := dd_Parser_take_number) rfl,
    c.d.def_ 23 (d := dd_Parser_parse_put) rfl,
    c.d.def_ 24 (d := dd_Parser_parse_action) rfl,
    c.d.def_ 25 (d := dd_Parser_parse_card) rfl,
    c.d.def_ 26 (d := dd_Parser_parse_deck) rfl,
    c.d.def_ 27 (d := dd_load) rfl,
    c.d.def_ 28 (d := dd_acted) rfl,
    c.d.def_ 29 (d := dd_depth_of) rfl,
    c.d.def_ 30 (d := dd_after_step) rfl,
    c.d.def_ 31 (d := dd_Orbit_init) rfl,
    c.d.def_ 32 (d := dd_orbit_of) rfl,
    c.d.def_ 33 (d := dd_initial_state) rfl,
    c.d.def_ 34 (d := dd_is_int_in) rfl,
    c.d.def_ 35 (d := dd_is_state) rfl,
    c.d.def_ 36 (d := dd_read_state) rfl,
    c.d.def_ 37 (d := dd_idle_cards) rfl,
    c.d.def_ 38 (d := dd_law_card_text) rfl,
    c.d.def_ 39 (d := dd_law_text) rfl,
    c.d.def_ 40 (d := dd_law_equal) rfl,
    c.d.def_ 41 (d := dd_find_cycle) rfl,
    c.d.def_ 42 (d := dd_check_count) rfl,
    c.d.def_ 43 (d := dd_named_state) rfl,
    c.d.def_ 44 (d := dd_state_after) rfl,
    c.d.def_ 45 (d := dd_law) rfl,
    c.d.def_ 46 (d := dd_CheckFault_init) rfl,
    c.d.def_ 47 (d := dd_SyntaxFault_init) rfl⟩, z9⟩
def nm0 : List PySem.Str := ["__name__", "DeckError", "SyntaxFault", "CheckFault", "InvalidState", "InvalidCount", "TooLong", "LETTERS", "DIGITS", "REGISTERS", "KEYWORDS", "ARROW", "SIGNS", "MAX_LETTERS", "MAX_DIGITS", "NAME", "REGISTER", "NUMBER", "SIGN", "END", "Token", "run_length", "read_token", "tokenize", "MIN_WRAP", "MAX_WRAP", "MAX_CARDS", "MAX_ACTIONS", "MAX_DEPTH", "ACTIONS"]
def nm1 : List PySem.Str := ["Parser", "load", "MAX_COUNT", "MAX_STATES", "ZEROS", "is_int_in", "check_count", "acted", "depth_of", "after_step", "initial_state", "is_state", "read_state", "named_state", "Orbit", "orbit_of", "state_after", "find_cycle", "idle_cards", "_law_random", "_law_below", "_law_shuffled", "_law_action", "_law_put", "_law_deck", "_law_named", "_law_step", "_law_orbit", "_law_start", "_law_short_deck"]
def nm2 : List PySem.Str := ["_law_card_text", "_law_text", "_law_equal"]
def names : List PySem.Str := nm0 ++ nm1 ++ nm2
abbrev R : PySem.W.OpenRow := PySem.W.OpenLaw.row PySem.Challenge.rw_deckwork_k05_cycles_of_decks
abbrev hk : PySem.W.Hook := hookC 5 fa fn exq
def ob (s : PySem.W.SharedT) : AlC := obsCG 5 fa fn exq (HandSHeadRun.getT s)
theorem ob_eq (s : PySem.W.SharedT) : ob s = hk.obs s.abs := obsCG_eq (HandSHeadRun.getT_eq s)
end M

set_option Elab.async false
set_option linter.all false
set_option maxRecDepth 100000
set_option maxHeartbeats 0
namespace M
open PySem PySem.Spec PyProof.Rows L2 CL
theorem run (w : World) : HandSHeadRun.RunEq R (PySem.W.view R.prog [68]) hk ob 60000 names w := by
  intro os
  kernel_rfl
end M
open PySem PySem.W PySem.Calls PyProof.Rows
theorem PySem.Challenge.cw_deckwork_k05_cycles_of_decks_holds : PySem.Challenge.rw_deckwork_k05_cycles_of_decks.Holds := by
  w_on; o_law
  refine HandSHeadRun.head_any (r := OpenLaw.row PySem.Challenge.rw_deckwork_k05_cycles_of_decks) (q := view (OpenLaw.row PySem.Challenge.rw_deckwork_k05_cycles_of_decks).prog [68]) (H := M.hk) (ob := M.ob) (M := 60000) (loose := M.names) (d := HandSHeadRun.topDef (OpenLaw.row PySem.Challenge.rw_deckwork_k05_cycles_of_decks).prog 68) (kwd := []) M.ob_eq
    (by kernel_rfl) (fun s => by kernel_rfl) M.run (by kernel_rfl) (by kernel_rfl) (by kernel_rfl) (by rfl) (by first | assumption | decide +kernel) (by decide +kernel) ⟨rfl, rfl, rfl, rfl, rfl, by decide +kernel⟩ ?hw ?hc
  case hw => w_witness2
  case hc =>
    refine L2.walk_ofE (l := PySem.Challenge.rw_deckwork_k05_cycles_of_decks) (n := 63) (k := 12) (x := "_law_script") (CX := L2.CX0) rfl (by decide) (by kernel_rfl) ⟨rfl, by decide, by decide⟩ ?F (fun _ _ _ _ z => z)
    intro w mg fa h Y G hmg0
    obtain ⟨K, KX, c⟩ := Y
    have hmg : mg ("law" : PySem.Str) = some (.ref fa) := by
      have e : (HandSHeadRun.topDef (OpenLaw.row PySem.Challenge.rw_deckwork_k05_cycles_of_decks).prog 68).name = ("law" : PySem.Str) := by kernel_rfl
      rw [← e]
      exact hmg0
    obtain ⟨T, no⟩ := M.tx_of KX G c
    have e := hmg.symm.trans T.g_law
    cases e
    obtain ⟨fd, hb, hF⟩ := CL.law_fn (P := (PySem.Challenge.rw_deckwork_k05_cycles_of_decks).prog) (w := w) (x := "_law_script") fun base => M.ok_law (P := (PySem.Challenge.rw_deckwork_k05_cycles_of_decks).prog) (w := w) (base := base) T
    exact ⟨K, fd, fun vs H Q _ => CL.spC K ⟨mg, (PySem.Challenge.rw_deckwork_k05_cycles_of_decks).prog, w⟩ 1 M.F_law_k05 vs H Q (fun _ _ _ => False), KX, hb, fun H a ns hl hO hS => CL.law_sp no M.law_true_k05 H a ns hl hO hS, fun base _ _ => hF base⟩

