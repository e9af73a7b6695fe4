import PyProof.Rows.All
import Wide.All
import OpenK.AllK
import Wide.FinOn
import HandS.ForMost
import HandS.Deep
import HandS.IsInst
import HandS.Zip
import HandS.SortInts
import HandS.Defaults
import HandS.Flow
import HandS.TupAny
import HandS.StrMore
import HandS.Replace
import HandS.More
import HandS.Exc
import HandS.HeadEnd
import KE.KStateDown
import HandS.WordsExc
import HandS.Head0
import HandS.Head1
import HandS.Head2
import HandS.HeadHook1
import HandS.HeadHook2
import PySem.Challenge.RW_atomglass_k13_settled_rows
set_option Elab.async false
set_option linter.all false
set_option maxRecDepth 100000
/-! AtA: values, store, results, the relation to the abstract heap of HandS. -/
namespace At
open PySem PySem.Spec PyProof.Rows L2

abbrev Nm := List Nat
def toS (l : Nm) : Str := ⟨l.toArray⟩
theorem toS_inj {a b : Nm} (h : toS a = toS b) : a = b := by
  have := congrArg Str.cps h
  simpa [toS] using this

inductive W where
  | un | non | bl (b : Bool) | int (i : Int) | str (s : List Nat) | tup (xs : List W) | ob (n : Nat)

mutual
def W.beq : W → W → Bool
  | .un, .un => true
  | .non, .non => true
  | .bl a, .bl b => a == b
  | .int a, .int b => decide (a = b)
  | .str a, .str b => decide (a = b)
  | .tup a, .tup b => W.beqs a b
  | .ob a, .ob b => decide (a = b)
  | _, _ => false
def W.beqs : List W → List W → Bool
  | [], [] => true
  | x :: xs, y :: ys => W.beq x y && W.beqs xs ys
  | _, _ => false
end
mutual
theorem W.beq_iff : ∀ x y : W, W.beq x y = true ↔ x = y
  | .un, y => by cases y <;> simp [W.beq]
  | .non, y => by cases y <;> simp [W.beq]
  | .bl a, y => by cases y <;> simp [W.beq]
  | .int a, y => by cases y <;> simp [W.beq]
  | .str a, y => by cases y <;> simp [W.beq]
  | .ob a, y => by cases y <;> simp [W.beq]
  | .tup a, y => by
    cases y with
    | tup b => simp [W.beq, W.beqs_iff a b]
    | _ => simp [W.beq]
theorem W.beqs_iff : ∀ xs ys : List W, W.beqs xs ys = true ↔ xs = ys
  | [], [] => by simp [W.beqs]
  | [], _ :: _ => by simp [W.beqs]
  | _ :: _, [] => by simp [W.beqs]
  | x :: xs, y :: ys => by simp [W.beqs, W.beq_iff x y, W.beqs_iff xs ys]
end
instance : DecidableEq W := fun x y => if h : W.beq x y = true then isTrue ((W.beq_iff x y).mp h) else isFalse fun e => h ((W.beq_iff x y).mpr e)
instance : Inhabited W := ⟨.un⟩

/-- objects of the store -/
inductive O where
  | lst (xs : List W)
  /-- a list that is read only -/
  | rol (xs : List W)
  /-- an instance -/
  | ins (c : Nm) (fs : List (Nm × W))
  /-- a dict -/
  | dct (kvs : List (W × W))
  /-- a dict of the module's top, read only -/
  | rod (kvs : List (W × W))
  deriving DecidableEq
abbrev Sto := List O

inductive R (α : Type) where
  | ok (a : α) (s : Sto)
  | ex (c : Nm) (fs : List (Nm × W)) (s : Sto)
  | bad
def R.bind {α β : Type} (r : R α) (f : α → Sto → R β) : R β :=
  match r with
  | .ok a s => f a s
  | .ex c fs s => .ex c fs s
  | .bad => .bad
abbrev M (α : Type) := Sto → R α
instance : Monad M where
  pure a := fun s => .ok a s
  bind m f := fun s => (m s).bind fun a s' => f a s'
def M.bad {α : Type} : M α := fun _ => .bad
theorem M.bind_def {α β : Type} (m : M α) (f : α → M β) (s : Sto) : (m >>= f) s = (m s).bind fun a s' => f a s' := rfl
theorem M.pure_def {α : Type} (a : α) (s : Sto) : (pure a : M α) s = .ok a s := rfl
@[simp] theorem R.bind_ok {α β : Type} (a : α) (s : Sto) (f : α → Sto → R β) : (R.ok a s).bind f = f a s := rfl
@[simp] theorem R.bind_ex {α β : Type} (c : Nm) (fs : List (Nm × W)) (s : Sto) (f : α → Sto → R β) : (R.ex c fs s).bind f = .ex c fs s := rfl
@[simp] theorem R.bind_bad {α β : Type} (f : α → Sto → R β) : (R.bad : R α).bind f = .bad := rfl

/-! ### the relation -/
def LINE : Nat := 16777216
/-- a text that may stand -/
def SOk (s : List Nat) : Prop := s.length ≤ LINE ∧ ∀ c ∈ s, c < 1114112
mutual
def VR (K : PySem.W.Frag) (ι : List Addr) (H : Hp) : W → V → Prop
  | .un, _ => False
  | .non, v => v = .non
  | .bl b, v => v = .bl b
  | .int i, v => v = .int i
  | .str s, v => v = .str (toS s) ∧ SOk s
  | .tup ws, v => ∃ a vs, v = .ref a ∧ SqT K H a vs ∧ VRs K ι H ws vs
  | .ob n, v => ∃ a, v = .ref a ∧ ι[n]? = some a
def VRs (K : PySem.W.Frag) (ι : List Addr) (H : Hp) : List W → List V → Prop
  | [], vs => vs = []
  | w :: ws, vs => ∃ v r, vs = v :: r ∧ VR K ι H w v ∧ VRs K ι H ws r
end

structure Ext (ι : List Addr) (H : Hp) (ι' : List Addr) (H' : Hp) : Prop where
  pre : ∀ (n : Nat) (a : Addr), ι[n]? = some a → ι'[n]? = some a
  tup : ∀ a xs, H a = some (.tup xs) → H' a = some (.tup xs)
  frt : ∀ a o xs, H a = some (.frz o (.tup xs)) → H' a = some (.frz o (.tup xs))
theorem Ext.refl {ι : List Addr} {H : Hp} : Ext ι H ι H := ⟨fun _ _ h => h, fun _ _ h => h, fun _ _ _ h => h⟩
theorem Ext.trans {ι ι1 ι2 : List Addr} {H H1 H2 : Hp} (a : Ext ι H ι1 H1) (b : Ext ι1 H1 ι2 H2) : Ext ι H ι2 H2 :=
  ⟨fun n x h => b.pre n x (a.pre n x h), fun x xs h => b.tup x xs (a.tup x xs h), fun x o xs h => b.frt x o xs (a.frt x o xs h)⟩
theorem Ext.sqt {K : PySem.W.Frag} {ι ι1 : List Addr} {H H1 : Hp} (e : Ext ι H ι1 H1) {a : Addr} {xs : List V} (h : SqT K H a xs) : SqT K H1 a xs := by
  rcases h with (h | ⟨o, h⟩) | h
  · exact .inl (.inl (e.tup _ _ h))
  · exact .inl (.inr ⟨o, e.frt _ _ _ h⟩)
  · exact .inr h
section
variable {K : PySem.W.Frag} {ι ι1 : List Addr} {H H1 : Hp}
mutual
theorem VR.ext (e : Ext ι H ι1 H1) : ∀ (w : W) {v : V}, VR K ι H w v → VR K ι1 H1 w v
  | .un, _, h => h
  | .non, _, h => h
  | .bl _, _, h => h
  | .int _, _, h => h
  | .str _, _, h => h
  | .tup ws, _, h => by
    simp only [VR] at h ⊢
    obtain ⟨a, vs, e1, e2, e3⟩ := h
    exact ⟨a, vs, e1, e.sqt e2, VRs.ext e ws e3⟩
  | .ob n, _, h => by
    simp only [VR] at h ⊢
    obtain ⟨a, e1, e2⟩ := h
    exact ⟨a, e1, e.pre _ _ e2⟩
theorem VRs.ext (e : Ext ι H ι1 H1) : ∀ (ws : List W) {vs : List V}, VRs K ι H ws vs → VRs K ι1 H1 ws vs
  | [], _, h => h
  | w :: ws, _, h => by
    simp only [VRs] at h ⊢
    obtain ⟨v, r, e1, e2, e3⟩ := h
    exact ⟨v, r, e1, VR.ext e w e2, VRs.ext e ws e3⟩
end
end
end At

set_option Elab.async false
set_option linter.all false
set_option maxRecDepth 100000
/-! AtB: the position-free syntax and its meaning over values and store. -/
namespace At
open PySem PySem.Spec PyProof.Rows L2

inductive BO where | add | sub | mul | fdiv | mod | pow deriving DecidableEq
inductive CO where | eq | ne | lt | le | gt | ge | isn | notn | inn | nin deriving DecidableEq
/-- targets of loops and assignments -/
inductive G where
  | n (i : Nat)
  | t (gs : List G)
/-- what a loop walks -/
inductive IK where | ex | rng | en | zp | vals deriving DecidableEq
inductive E where
  | sl (i : Nat) | gl (x : Nm)
  | kn | kb (b : Bool) | ki (i : Int) | ks (s : List Nat)
  | bin (op : BO) (a b : E) | neg (a : E) | not (a : E)
  | cmp (op : CO) (a b : E) | chain (o1 o2 : CO) (a b c : E)
  | and (es : List E) | or (es : List E) | ite (c a b : E)
  | tup (es : List E) | lst (es : List E) | dic (ks vs : List E)
  | ix (a i : E) | sli (a lo hi : E)
  | fld (a : E) (f : Nm)
  | call (f : Nm) (es : List E) (kn : List Nm) (kv : List E)
  | bi (f : Nm) (es : List E)
  | bm (m : Nm) (a : E) (es : List E)
  | me (m : Nm) (a : E) (es : List E) (kn : List Nm) (kv : List E)
  | isi (a : E) (cs : List Nm)
  | lc (tg : G) (own : List Nat) (k : IK) (its : List E) (conds : List E) (el : E)
  | fst (es : List E)
inductive T where
  | ex (e : E) | set (i : Nat) (e : E) | asg (g : G) (e : E) | star (pre : List Nat) (s : Nat) (post : List Nat) (e : E)
  | set2 (i j : Nat) (e : E)
  | sub (a i e : E) | fld (a : E) (f : Nm) (e : E)
  | aug (i : Nat) (op : BO) (e : E) | augf (a : E) (f : Nm) (op : BO) (e : E) | augs (a i : E) (op : BO) (e : E)
  | ret (e : E) | retn | ife (c : E) (a b : List T) | whl (c : E) (b : List T) | for (g : G) (k : IK) (its : List E) (b : List T)
  | pass | rais (c : Nm) (es : List E)
  | tryx (b : List T) (c : Nm) (nm : Option Nat) (h : List T)
  | tryf (b f : List T)

/-! ### weights -/
mutual
def dw : PyData → Nat
  | .none => 4
  | .bool _ => 5
  | .int _ => 1921
  | .str x => 10 * x.length + 2
  | .list xs => dws xs + 2
  | .tuple xs => dws xs + 3
  | .dict _ => 0
def dws : List PyData → Nat
  | [] => 0
  | x :: xs => dw x + 2 + dws xs
end
/-! ### primitives -/
def getO (n : Nat) : M O := fun s => match s[n]? with | some o => .ok o s | none => .bad
def putO (n : Nat) (o : O) : M Unit := fun s => .ok () (s.set n o)
def newO (o : O) : M W := fun s => .ok (.ob s.length) (s ++ [o])
def newL (xs : List W) : M W := if xs.length ≤ LINE then newO (.lst xs) else M.bad
def mkT (xs : List W) : M W := if xs.length ≤ LINE then pure (.tup xs) else M.bad
def mkS (s : List Nat) : M W := if s.length ≤ LINE then pure (.str s) else M.bad
/-- the items of a list, read only or not -/
def O.items? : O → Option (List W)
  | .lst xs => some xs
  | .rol xs => some xs
  | _ => none
def itemsOf (n : Nat) : M (List W) := fun s => match s[n]? with
  | some (.lst xs) => .ok xs s
  | some (.rol xs) => .ok xs s
  | _ => .bad
def lstOf (n : Nat) : M (List W) := fun s => match s[n]? with
  | some (.lst xs) => .ok xs s
  | _ => .bad
def getSl (ρ : List W) (i : Nat) : M W := match ρ[i]? with
  | some .un => M.bad
  | some w => pure w
  | none => M.bad
/-- what is read, as data -/
def mapO {α β : Type} (f : α → Option β) : List α → Option (List β)
  | [] => some []
  | x :: xs => match f x with
    | none => none
    | some y => match mapO f xs with
      | none => none
      | some ys => some (y :: ys)
def rd (s : Sto) : Nat → W → Option PyData
  | 0, _ => none
  | _ + 1, .un => none
  | _ + 1, .non => some .none
  | _ + 1, .bl b => some (.bool b)
  | _ + 1, .int i => some (.int i)
  | _ + 1, .str x => some (.str (toS x))
  | n + 1, .tup ws => (mapO (rd s n) ws).map .tuple
  | n + 1, .ob k => match s[k]? with
    | some (.lst xs) => (mapO (rd s n) xs).map .list
    | some (.rol xs) => (mapO (rd s n) xs).map .list
    | some (.dct []) => some (.dict [])
    | _ => none
def DEEP : Nat := 150
/-- == -/
def eqW (s : Sto) : W → W → Option Bool
  | .int a, .int b => some (decide (a = b))
  | .str a, .str b => some (decide (a = b))
  | .non, .non => some true
  | .bl a, .bl b => some (a == b)
  | .non, .int _ => some false
  | .int _, .non => some false
  | .non, .str _ => some false
  | .str _, .non => some false
  | .int _, .str _ => some false
  | .str _, .int _ => some false
  | x, y => match rd s DEEP x, rd s DEEP y with
    | some d, some e => if d.canLay0 && e.canLay0 then some (PyData.eqv d e) else none
    | _, _ => none
def truW (s : Sto) : W → Option Bool
  | .non => some false
  | .bl b => some b
  | .int i => some (i != 0)
  | .str x => some (!x.isEmpty)
  | .tup xs => some (!xs.isEmpty)
  | .ob n => match s[n]? with
    | some (.lst xs) => some (!xs.isEmpty)
    | some (.rol xs) => some (!xs.isEmpty)
    | _ => none
  | .un => none
def truM (w : W) : M Bool := fun s => match truW s w with | some b => .ok b s | none => .bad
def small64 (i : Int) : Bool := decide (-(2 ^ 64) < i) && decide (i < 2 ^ 64)
/-- a list times a number -/
def repM (xs : List W) (k : Int) : M W := if -(2 ^ 63) ≤ k ∧ k < 2 ^ 63 ∧ xs.length * k.toNat ≤ LINE then newO (.lst (List.replicate k.toNat xs).flatten) else M.bad
def binM : BO → W → W → M W
  | .add, .int a, .int b => pure (.int (a + b))
  | .add, .str a, .str b => mkS (a ++ b)
  | .add, .tup a, .tup b => mkT (a ++ b)
  | .add, .ob a, .ob b => do
    let xs ← lstOf a
    let ys ← lstOf b
    newL (xs ++ ys)
  | .sub, .int a, .int b => pure (.int (a - b))
  | .mul, .int a, .int b => if small64 a || small64 b then pure (.int (a * b)) else M.bad
  | .mul, .ob a, .int k => do
    let xs ← lstOf a
    repM xs k
  | .mod, .int a, .int b => if 0 < b then pure (.int (a % b)) else M.bad
  | .fdiv, .int a, .int b => if 0 < b ∧ b < 1073741824 then pure (.int (a / b)) else M.bad
  | .pow, .int a, .int b => if 0 ≤ b ∧ b ≤ 1000000 ∧ a.natAbs < 2 ^ 64 then pure (.int (a ^ b.toNat)) else M.bad
  | _, _, _ => M.bad
def pbl (o : Option Bool) : M W := match o with | some b => pure (.bl b) | none => M.bad
def flatW : W → Bool
  | .non => true | .bl _ => true | .int _ => true | .str _ => true | _ => false
def eqF : W → W → Bool
  | .non, .non => true
  | .bl a, .bl b => a == b
  | .bl a, .int b => (if a then 1 else 0) == b
  | .int a, .bl b => a == (if b then 1 else 0)
  | .int a, .int b => decide (a = b)
  | .str a, .str b => decide (a = b)
  | _, _ => false
/-- x among items: flat, or data of any depth -/
def inItems (s : Sto) (x : W) (xs : List W) : Option Bool :=
  if flatW x && xs.all flatW then some (xs.any fun y => eqF y x)
  else none
def inStr (a b : List Nat) : Bool := match a with
  | [c] => decide (c ∈ b)
  | _ => !(Builtin.Str.occurrences (toS b) (toS a) 0 (toS b).length 1).isEmpty
def inW (s : Sto) (x : W) : W → Option Bool
  | .str b => match x with | .str a => some (inStr a b) | _ => none
  | .tup ys => inItems s x ys
  | .ob n => match s[n]? with
    | some (.lst ys) => inItems s x ys
    | some (.rol ys) => inItems s x ys
    | _ => none
  | _ => none
def cmpW (s : Sto) : CO → W → W → Option Bool
  | .eq, x, y => eqW s x y
  | .ne, x, y => (eqW s x y).map (!·)
  | .lt, .int a, .int b => some (decide (a < b))
  | .le, .int a, .int b => some (decide (a ≤ b))
  | .gt, .int a, .int b => some (decide (b < a))
  | .ge, .int a, .int b => some (decide (b ≤ a))
  | .isn, x, .non => some (decide (x = .non))
  | .notn, x, .non => some (!decide (x = .non))
  | .inn, x, y => inW s x y
  | .nin, x, y => (inW s x y).map (!·)
  | _, _, _ => none
def cmpM (op : CO) (x y : W) : M W := fun s => match cmpW s op x y with | some b => .ok (.bl b) s | none => .bad
def atW {α : Type} (xs : List α) (i : Int) : Option α := atI xs i
def optM {α : Type} (o : Option α) : M α := match o with | some a => pure a | none => M.bad
def ixM : W → W → M W
  | .str x, .int i => optM ((atI x i).map fun c => .str [c])
  | .tup xs, .int i => optM (atI xs i)
  | .ob n, .int i => do
    let xs ← itemsOf n
    optM (atI xs i)
  | _, _ => M.bad
def cutL {α : Type} (xs : List α) (lo hi : Option Int) : List α := (xs.drop (HT.sIx xs.length 0 lo)).take (HT.sIx xs.length xs.length hi - HT.sIx xs.length 0 lo)
/-- a part of a slice: left out, or a number -/
def partM (out : Bool) (w : W) : M (Option Int) := if out then pure none else match w with
  | .int i => pure (some i)
  | _ => M.bad
def sliM (w : W) (lo hi : Option Int) : M W := match w with
  | .str x => pure (.str (cutL x lo hi))
  | .tup xs => pure (.tup (cutL xs lo hi))
  | .ob n => do
    let xs ← itemsOf n
    newO (.lst (cutL xs lo hi))
  | _ => M.bad
def E.isKn : E → Bool
  | .kn => true
  | _ => false
/-- a[i] = v -/
def setM (a i v : W) : M Unit := match a, i with
  | .ob n, .int k => do
    let o ← getO n
    match o with
    | .lst xs => match ixN xs.length k with
      | some j => putO n (.lst (xs.set j v))
      | none => M.bad
    | _ => M.bad
  | _, _ => M.bad
/-! names of what is built in -/
def n_len : Nm := [108, 101, 110]
def n_abs : Nm := [97, 98, 115]
def n_repr : Nm := [114, 101, 112, 114]
def n_int : Nm := [105, 110, 116]
def n_any : Nm := [97, 110, 121]
def n_all : Nm := [97, 108, 108]
def n_tuple : Nm := [116, 117, 112, 108, 101]
def n_list : Nm := [108, 105, 115, 116]
def n_find : Nm := [102, 105, 110, 100]
def n_upper : Nm := [117, 112, 112, 101, 114]
def n_lower : Nm := [108, 111, 119, 101, 114]
def n_islower : Nm := [105, 115, 108, 111, 119, 101, 114]
def n_index : Nm := [105, 110, 100, 101, 120]
def n_pop : Nm := [112, 111, 112]
def n_reverse : Nm := [114, 101, 118, 101, 114, 115, 101]
def n_extend : Nm := [101, 120, 116, 101, 110, 100]
def n_insert : Nm := [105, 110, 115, 101, 114, 116]
def n_min : Nm := [109, 105, 110]
def n_max : Nm := [109, 97, 120]
def n_isinstance : Nm := [105, 115, 105, 110, 115, 116, 97, 110, 99, 101]
def n_str : Nm := [115, 116, 114]
def n_bool : Nm := [98, 111, 111, 108]
def n_dict : Nm := [100, 105, 99, 116]
def n_append : Nm := [97, 112, 112, 101, 110, 100]
def n_join : Nm := [106, 111, 105, 110]
def n_range : Nm := [114, 97, 110, 103, 101]
def n_enumerate : Nm := [101, 110, 117, 109, 101, 114, 97, 116, 101]
def n_zip : Nm := [122, 105, 112]
def lenM (w : W) : M W := match w with
  | .str x => pure (.int x.length)
  | .tup xs => pure (.int xs.length)
  | .ob n => do
    let xs ← itemsOf n
    pure (.int xs.length)
  | _ => M.bad
def sokB (s : List Nat) : Bool := decide (s.length ≤ LINE) && s.all fun c => decide (c < 1114112)
def reprM (w : W) : M W := fun s => match rd s DEEP w with
  | some (.dict []) => .ok (.str [123, 125]) s
  | some d => if d.showable && decide (dw d ≤ LINE) && d.canLay0 then .ok (.str d.shown.cps.toList) s else .bad
  | none => .bad
def bools : List W → Option (List Bool)
  | [] => some []
  | .bl b :: r => match bools r with | some bs => some (b :: bs) | none => none
  | _ => none
def len1 (ws : List W) : M W := match ws with | [w] => lenM w | _ => M.bad
def repr1 (ws : List W) : M W := match ws with | [w] => reprM w | _ => M.bad
def absM (ws : List W) : M W := match ws with | [.int i] => pure (.int (if i < 0 then -i else i)) | _ => M.bad
def intM (ws : List W) : M W := match ws with | [.int i] => pure (.int i) | [.bl b] => pure (.int (if b then 1 else 0)) | _ => M.bad
def anyM (ws : List W) : M W := match ws with
  | [.ob n] => do
    let xs ← itemsOf n
    let bs ← optM (bools xs)
    pure (.bl (bs.any id))
  | _ => M.bad
def allM (ws : List W) : M W := match ws with
  | [.ob n] => do
    let xs ← itemsOf n
    let bs ← optM (bools xs)
    pure (.bl (bs.all id))
  | _ => M.bad
def tupM (ws : List W) : M W := match ws with
  | [.tup xs] => pure (.tup xs)
  | [.ob n] => do
    let xs ← itemsOf n
    pure (.tup xs)
  | _ => M.bad
def lstM (ws : List W) : M W := match ws with
  | [.tup xs] => newO (.lst xs)
  | [.ob n] => do
    let xs ← itemsOf n
    newO (.lst xs)
  | _ => M.bad
def minM (ws : List W) : M W := match ws with | [.int i, .int j] => pure (.int (if j < i then j else i)) | _ => M.bad
def maxM (ws : List W) : M W := match ws with | [.int i, .int j] => pure (.int (if j > i then j else i)) | _ => M.bad
def biNames : List Nm := [n_len, n_abs, n_repr, n_int, n_any, n_all, n_tuple, n_list, n_min, n_max]
def biM (f : Nm) : List W → M W :=
  if f = n_len then len1
  else if f = n_abs then absM
  else if f = n_repr then repr1
  else if f = n_int then intM
  else if f = n_any then anyM
  else if f = n_all then allM
  else if f = n_tuple then tupM
  else if f = n_list then lstM
  else if f = n_min then minM
  else if f = n_max then maxM
  else fun _ => M.bad
def joinW (x : List Nat) : List (List Nat) → List Nat
  | [] => []
  | [p] => p
  | p :: q :: r => p ++ (x ++ joinW x (q :: r))
/-- texts among values -/
def strsW : List W → Option (List (List Nat))
  | [] => some []
  | .str b :: r => match strsW r with | some bs => some (b :: bs) | none => none
  | _ => none
def seqM (w : W) : M (List W) := match w with
  | .tup xs => pure xs
  | .ob n => itemsOf n
  | _ => M.bad
def findM (x : List Nat) (ws : List W) : M W := match ws with
  | [.str y] => pure (.int (Txt.find (toS x) (toS y)))
  | _ => M.bad
def upperM (x : List Nat) (ws : List W) : M W := match ws with
  | [] => if x.all (· < 128) && decide (x.length ≤ 5592405) then pure (.str (x.map up1)) else M.bad
  | _ => M.bad
def lowerM (x : List Nat) (ws : List W) : M W := match ws with
  | [] => if x.all (· < 128) && decide (x.length ≤ 5592405) then pure (.str (x.map lo1)) else M.bad
  | _ => M.bad
def islowerM (x : List Nat) (ws : List W) : M W := match ws with
  | [] => pure (.bl (Txt.islower (toS x)))
  | _ => M.bad
def joinM (x : List Nat) (ws : List W) : M W := match ws with
  | [w] => do
    let xs ← seqM w
    let ss ← optM (strsW xs)
    if (ss.map (·.length)).sum + ss.length * x.length ≤ LINE then pure (.str (joinW x ss)) else M.bad
  | _ => M.bad
def appendM (n : Nat) (xs : List W) (ws : List W) : M W := match ws with
  | [w] => if xs.length < LINE then do
      putO n (.lst (xs ++ [w]))
      pure .non
    else M.bad
  | _ => M.bad
def indexM (x : List Nat) (ws : List W) : M W := match ws with
  | [.str y] => (match Builtin.Str.occurrences (toS x) (toS y) 0 (toS x).length 1 with
    | i :: _ => pure (.int (i : Nat))
    | [] => M.bad)
  | _ => M.bad
def popM (n : Nat) (xs : List W) (ws : List W) : M W := match ws with
  | [] => (match xs[xs.length - 1]? with
    | some w => do
      putO n (.lst xs.dropLast)
      pure w
    | none => M.bad)
  | [.int i] => if -(2 ^ 63) ≤ i ∧ i < 2 ^ 63 then (match ixN xs.length i with
    | some k => (match xs[k]? with
      | some w => do
        putO n (.lst (xs.eraseIdx k))
        pure w
      | none => M.bad)
    | none => M.bad) else M.bad
  | _ => M.bad
def reverseM (n : Nat) (xs : List W) (ws : List W) : M W := match ws with
  | [] => do
    putO n (.lst xs.reverse)
    pure .non
  | _ => M.bad
def extendM (n : Nat) (xs : List W) (ws : List W) : M W := match ws with
  | [.ob m] => do
    let ys ← lstOf m
    if xs.length + ys.length ≤ LINE then do
      putO n (.lst (xs ++ ys))
      pure .non
    else M.bad
  | _ => M.bad
def insertM (n : Nat) (xs : List W) (ws : List W) : M W := match ws with
  | [.int i, w] => if 0 ≤ i ∧ i < 2 ^ 63 ∧ xs.length < LINE then do
      putO n (.lst (xs.take i.toNat ++ [w] ++ xs.drop i.toNat))
      pure .non
    else M.bad
  | _ => M.bad
/-- methods of texts -/
def strNames : List Nm := [n_find, n_upper, n_lower, n_islower, n_join, n_index]
def strMe (m : Nm) : List Nat → List W → M W :=
  if m = n_find then findM
  else if m = n_upper then upperM
  else if m = n_lower then lowerM
  else if m = n_islower then islowerM
  else if m = n_join then joinM
  else if m = n_index then indexM
  else fun _ _ => M.bad
/-- methods of lists -/
def lstNames : List Nm := [n_append, n_pop, n_reverse, n_extend, n_insert]
def lstMe (m : Nm) : Nat → List W → List W → M W :=
  if m = n_append then appendM
  else if m = n_pop then popM
  else if m = n_reverse then reverseM
  else if m = n_extend then extendM
  else if m = n_insert then insertM
  else fun _ _ _ => M.bad
/-! isinstance -/
/-- the built-in type of a value -/
inductive Ty where | non | bool | int | str | list | tuple | dict deriving DecidableEq
def Ty.nm : Ty → String | .non => "NoneType" | .bool => "bool" | .int => "int" | .str => "str" | .list => "list" | .tuple => "tuple" | .dict => "dict"
def tyW (s : Sto) : W → Option Ty
  | .un => none
  | .non => some .non
  | .bl _ => some .bool
  | .int _ => some .int
  | .str _ => some .str
  | .tup _ => some .tuple
  | .ob n => match s[n]? with
    | some (.lst _) => some .list
    | some (.rol _) => some .list
    | some (.dct _) => some .dict
    | _ => none
def tyN (c : Nm) : Option Ty :=
  if c = n_str then some .str else if c = n_int then some .int else if c = n_bool then some .bool else if c = n_list then some .list else if c = n_tuple then some .tuple else if c = n_dict then some .dict else none
def isTy (t c : Ty) : Bool := decide (t = c) || (decide (t = .bool) && decide (c = .int))
def isiM (w : W) (cs : List Nm) : M W := fun s => match cs with
  | [c] => (match tyW s w, tyN c with
    | some t, some c => .ok (.bl (isTy t c)) s
    | _, _ => .bad)
  | _ => .bad
inductive Kd where | s (x : List Nat) | l (n : Nat) deriving DecidableEq
/-- what a built-in method's receiver is -/
def kdM (m : Nm) (w : W) : M Kd := fun s => match w with
  | .str x => if m ∈ strNames then .ok (.s x) s else .bad
  | .ob n => match s[n]? with
    | some (.lst _) => if m ∈ lstNames then .ok (.l n) s else .bad
    | _ => .bad
  | _ => .bad
def lstAt (m : Nm) (n : Nat) (ws : List W) : M W := fun s => match s[n]? with
  | some (.lst xs) => lstMe m n xs ws s
  | _ => .bad
def bmM (m : Nm) (k : Kd) (ws : List W) : M W := match k with
  | .s x => strMe m x ws
  | .l n => lstAt m n ws

/-- what the evaluation asks of the rest of the program -/
structure Wd where
  fns : List Nm
  mes : List (Nm × Nm)
  gv : Nm → Option W
  cf : Nm → List W → List Nm → List W → M W
  mf : Nm → Nm → List W → List Nm → List W → M W

/-- the class of a receiver that has the method m -/
def clsM (D : Wd) (m : Nm) (a : W) : M Nm := match a with
  | .ob n => fun s => match s[n]? with
    | some (.ins c fs) => if (c, m) ∈ D.mes ∧ fs.lookup m = none then .ok c s else .bad
    | _ => .bad
  | _ => M.bad

/-! ### targets, walks -/
mutual
def asgG (s : Sto) : G → W → List W → Option (List W)
  | .n i, w, ρ => if i < ρ.length then some (ρ.set i w) else none
  | .t gs, w, ρ => match w with
    | .tup ws => asgGs s gs ws ρ
    | _ => none
def asgGs (s : Sto) : List G → List W → List W → Option (List W)
  | [], [], ρ => some ρ
  | g :: gs, w :: ws, ρ => match asgG s g w ρ with
    | some ρ' => asgGs s gs ws ρ'
    | none => none
  | _, _, _ => none
end
/-- a walk's items, and the list that must stay as it is meanwhile -/
structure Wlk where
  items : List W
  gd : List (Nat × List W)
def gdOk (s : Sto) : List (Nat × List W) → Bool
  | [] => true
  | (n, xs) :: r => (match s[n]? with
    | some (.lst ys) => decide (ys = xs)
    | some (.rol ys) => decide (ys = xs)
    | _ => false) && gdOk s r
def rngL (lo : Int) (n : Nat) (c : Int) : List W := (List.range n).map fun (k : Nat) => .int (lo + c * (k : Int))
def R62 (i : Int) : Bool := decide (-(2 ^ 62) ≤ i) && decide (i < 2 ^ 62)
def seqI (w : W) : M (List W × List (Nat × List W)) := match w with
  | .tup xs => pure (xs, [])
  | .str x => pure (x.map fun c => .str [c], [])
  | .ob n => do
    let xs ← itemsOf n
    pure (xs, [(n, xs)])
  | _ => M.bad
def exM (ws : List W) : M Wlk := match ws with
  | [w] => do
    let (xs, g) ← seqI w
    pure ⟨xs, g⟩
  | _ => M.bad
def rngM (ws : List W) : M Wlk := match ws with
  | [.int j] => if R62 j then pure ⟨rngL 0 j.toNat 1, []⟩ else M.bad
  | [.int i, .int j] => if R62 i && R62 j then pure ⟨rngL i (j - i).toNat 1, []⟩ else M.bad
  | _ => M.bad
def enM (ws : List W) : M Wlk := match ws with
  | [.ob n] => do
    let xs ← itemsOf n
    pure ⟨(List.range xs.length).map fun (i : Nat) => .tup [.int (i : Int), xs.getD i .un], [(n, xs)]⟩
  | _ => M.bad
def zpM (ws : List W) : M Wlk := match ws with
  | [.ob a, .ob b] => do
    let xs ← itemsOf a
    let ys ← itemsOf b
    pure ⟨(xs.zip ys).map fun p => .tup [p.1, p.2], [(a, xs), (b, ys)]⟩
  | _ => M.bad
def itM : IK → List W → M Wlk
  | .ex => exM
  | .rng => rngM
  | .en => enM
  | .zp => zpM
  | .vals => fun _ => M.bad

/-! ### expressions -/
/-- no exception leaves a comprehension -/
def noEx {α : Type} (m : M α) : M α := fun s => match m s with
  | .ok a s' => .ok a s'
  | _ => .bad
def wipeW (ρ : List W) : List Nat → List W
  | [] => ρ
  | v :: vs => (wipeW ρ vs).set v .un
/-- the turns of a comprehension: D the new list -/
def lcGo (tg : G) (test el : List W → M W) (gd : List (Nat × List W)) (ρ : List W) (D : Nat) : List W → M Unit
  | [] => fun s => if gdOk s gd then .ok () s else .bad
  | x :: xs => fun s => if gdOk s gd then
      match asgG s tg x ρ with
      | none => .bad
      | some ρ' => (noEx (test ρ' >>= truM) s).bind fun b s1 =>
        if b then (noEx (el ρ') s1).bind fun w s2 => match s2[D]? with
          | some (.lst acc) => if acc.length < LINE then lcGo tg test el gd ρ D xs (s2.set D (.lst (acc ++ [w]))) else .bad
          | _ => .bad
        else lcGo tg test el gd ρ D xs s1
    else .bad
mutual
def ev (D : Wd) : E → List W → M W
  | .sl i, ρ => getSl ρ i
  | .gl x, _ => optM (D.gv x)
  | .kn, _ => pure .non
  | .kb b, _ => pure (.bl b)
  | .ki i, _ => pure (.int i)
  | .ks s, _ => pure (.str s)
  | .bin op a b, ρ => do
    let x ← ev D a ρ
    let y ← ev D b ρ
    binM op x y
  | .neg a, ρ => do
    let x ← ev D a ρ
    match x with
    | .int i => pure (.int (-i))
    | _ => M.bad
  | .not a, ρ => do
    let x ← ev D a ρ
    let b ← truM x
    pure (.bl (!b))
  | .cmp op a b, ρ => do
    let x ← ev D a ρ
    let y ← ev D b ρ
    cmpM op x y
  | .chain o1 o2 a b c, ρ => do
    let x ← ev D a ρ
    let y ← ev D b ρ
    let z ← cmpM o1 x y
    match z with
    | .bl true => do
      let w ← ev D c ρ
      cmpM o2 y w
    | .bl false => pure (.bl false)
    | _ => M.bad
  | .and es, ρ => evAnd D es ρ
  | .or es, ρ => evOr D es ρ
  | .ite c a b, ρ => do
    let x ← ev D c ρ
    let t ← truM x
    if t then ev D a ρ else ev D b ρ
  | .tup es, ρ => do
    let xs ← evs D es ρ
    mkT xs
  | .lst es, ρ => do
    let xs ← evs D es ρ
    newL xs
  | .dic ks _, _ => if ks.isEmpty then newO (.dct []) else M.bad
  | .ix a i, ρ => do
    let x ← ev D a ρ
    let y ← ev D i ρ
    ixM x y
  | .sli a lo hi, ρ => do
    let x ← ev D a ρ
    let l ← ev D lo ρ
    let lo' ← partM lo.isKn l
    let h ← ev D hi ρ
    let hi' ← partM hi.isKn h
    sliM x lo' hi'
  | .fld a f, ρ => do
    let x ← ev D a ρ
    match x with
    | .ob n => do
      let o ← getO n
      match o with
      | .ins _ fs => optM (fs.lookup f)
      | _ => M.bad
    | _ => M.bad
  | .call f es kn kv, ρ => do
    let xs ← evs D es ρ
    let ys ← evs D kv ρ
    if f ∈ D.fns then D.cf f xs kn ys else M.bad
  | .bi f es, ρ => do
    let xs ← evs D es ρ
    biM f xs
  | .bm m a es, ρ => do
    let x ← ev D a ρ
    let k ← kdM m x
    let xs ← evs D es ρ
    bmM m k xs
  | .me m a es kn kv, ρ => do
    let x ← ev D a ρ
    let c ← clsM D m x
    let xs ← evs D es ρ
    let ys ← evs D kv ρ
    D.mf c m (x :: xs) kn ys
  | .isi a cs, ρ => do
    let x ← ev D a ρ
    isiM x cs
  | .lc tg own k its conds el, ρ => do
    let ws ← evs D its ρ
    let it ← itM k ws
    let d ← newO (.lst [])
    match d with
    | .ob n => do
      lcGo tg (fun ρ' => evAll D conds ρ') (fun ρ' => ev D el ρ') it.gd (wipeW ρ own) n it.items
      pure d
    | _ => M.bad
  | .fst _, _ => M.bad
def evs (D : Wd) : List E → List W → M (List W)
  | [], _ => pure []
  | e :: es, ρ => do
    let x ← ev D e ρ
    let xs ← evs D es ρ
    pure (x :: xs)
def evAnd (D : Wd) : List E → List W → M W
  | [], _ => M.bad
  | [e], ρ => ev D e ρ
  | e :: e' :: es, ρ => do
    let x ← ev D e ρ
    let t ← truM x
    if t then evAnd D (e' :: es) ρ else pure x
def evOr (D : Wd) : List E → List W → M W
  | [], _ => M.bad
  | [e], ρ => ev D e ρ
  | e :: e' :: es, ρ => do
    let x ← ev D e ρ
    let t ← truM x
    if t then pure x else evOr D (e' :: es) ρ
/-- a comprehension's tests: none, or one -/
def evAll (D : Wd) : List E → List W → M W
  | [], _ => pure (.bl true)
  | [e], ρ => ev D e ρ
  | _ :: _ :: _, _ => M.bad
end

/-! ### statements -/
inductive Fl where
  | nx (ρ : List W) | rt (w : W)
def augM (op : BO) (x y : W) : M W := match op, x, y with
  | .add, .int a, .int b => pure (.int (a + b))
  | .add, .str a, .str b => mkS (a ++ b)
  | .sub, .int a, .int b => pure (.int (a - b))
  | _, _, _ => M.bad
/-- the old value that a[i] op= e reads -/
def getI (x y : W) : M W := match x, y with
  | .ob n, .int i => do
    let xs ← itemsOf n
    optM (atI xs i)
  | _, _ => M.bad
/-- how many rounds a while has: enough (chosen, so that nothing unfolds it) -/
theorem fuel_ex : ∃ n : Nat, 1000000000000 ≤ n := ⟨_, Nat.le_refl _⟩
noncomputable def FUEL : Nat := Classical.choose fuel_ex
theorem fuel_le : 1000000000000 ≤ FUEL := Classical.choose_spec fuel_ex
def whlGo (c : List W → M Bool) (b : List W → M Fl) : Nat → List W → M Fl
  | 0, _ => M.bad
  | n + 1, ρ => do
    let t ← c ρ
    if t then do
      let f ← b ρ
      match f with
      | .nx ρ' => whlGo c b n ρ'
      | .rt w => pure (.rt w)
    else pure (.nx ρ)
def forGo (g : G) (b : List W → M Fl) (gd : List (Nat × List W)) : List W → List W → M Fl
  | [], ρ => fun s => if gdOk s gd then .ok (.nx ρ) s else .bad
  | x :: xs, ρ => fun s => if gdOk s gd then
      match asgG s g x ρ with
      | none => .bad
      | some ρ' => (b ρ' s).bind fun f s1 => match f with
        | .nx ρ2 => forGo g b gd xs ρ2 s1
        | .rt w => .ok (.rt w) s1
    else .bad
noncomputable section
mutual
def exs (D : Wd) : List T → List W → M Fl
  | [], ρ => pure (.nx ρ)
  | t :: ts, ρ => do
    let f ← ex1 D t ρ
    match f with
    | .nx ρ' => exs D ts ρ'
    | .rt w => pure (.rt w)
def ex1 (D : Wd) : T → List W → M Fl
  | .ex e, ρ => do
    let _ ← ev D e ρ
    pure (.nx ρ)
  | .set i e, ρ => do
    let w ← ev D e ρ
    pure (.nx (ρ.set i w))
  | .asg g e, ρ => do
    let w ← ev D e ρ
    fun s => match asgG s g w ρ with
      | some ρ' => .ok (.nx ρ') s
      | none => .bad
  | .star _ _ _ _, _ => M.bad
  | .set2 i j e, ρ => do
    let w ← ev D e ρ
    pure (.nx ((ρ.set i w).set j w))
  | .sub a i e, ρ => do
    let v ← ev D e ρ
    let x ← ev D a ρ
    let y ← ev D i ρ
    setM x y v
    pure (.nx ρ)
  | .fld a f e, ρ => M.bad
  | .aug i op e, ρ => do
    let x ← getSl ρ i
    let y ← ev D e ρ
    let z ← augM op x y
    pure (.nx (ρ.set i z))
  | .augf _ _ _ _, _ => M.bad
  | .augs a i op e, ρ => do
    let x ← ev D a ρ
    let y ← ev D i ρ
    let o ← getI x y
    let v ← ev D e ρ
    let z ← augM op o v
    setM x y z
    pure (.nx ρ)
  | .ret e, ρ => do
    let w ← ev D e ρ
    pure (.rt w)
  | .retn, _ => pure (.rt .non)
  | .ife c a b, ρ => do
    let x ← ev D c ρ
    let t ← truM x
    if t then exs D a ρ else exs D b ρ
  | .whl c b, ρ => whlGo (fun ρ' => ev D c ρ' >>= truM) (fun ρ' => exs D b ρ') FUEL ρ
  | .for g k its b, ρ => do
    let ws ← evs D its ρ
    let it ← itM k ws
    forGo g (fun ρ' => exs D b ρ') it.gd it.items ρ
  | .pass, ρ => pure (.nx ρ)
  | .rais _ _, _ => M.bad
  | .tryx _ _ _ _, _ => M.bad
  | .tryf _ _, _ => M.bad
end
end
end At

set_option Elab.async false
set_option linter.all false
set_option maxRecDepth 100000
set_option maxHeartbeats 2000000
/-! AtC: stores and heaps; the primitives are what the machine does. -/
namespace At
open PySem PySem.Spec PyProof.Rows L2

theorem line_eq : sizeLine = LINE := by rw [sizeLine_eq]; rfl
/-- a list that is only read: locked, or of the written part -/
def RL (K : PySem.W.Frag) (H : Hp) (a : Addr) (xs : List V) : Prop :=
  (∃ o, H a = some (.frz o (.lst xs))) ∨
    ∃ (o : Obj) (its : Array Value) (n : Nat), K.lookup a = some o ∧ o.cls = .type "list" ∧ o.dict = none ∧ o.data = .seq its n ∧ its.size ≤ sizeLine ∧ Vals xs its.toList
theorem RL.sql {K : PySem.W.Frag} {H : Hp} {a : Addr} {xs : List V} (h : RL K H a xs) : SqL K H a xs := by
  rcases h with ⟨o, h⟩ | h
  · exact .inl (.inr ⟨o, h⟩)
  · exact .inr h
def FR (K : PySem.W.Frag) (ι : List Addr) (H : Hp) : List (Nm × W) → List (Str × V) → Prop
  | [], fvs => fvs = []
  | (n, w) :: fs, fvs => ∃ v r, fvs = (toS n, v) :: r ∧ VR K ι H w v ∧ FR K ι H fs r
def OR (K : PySem.W.Frag) (cl : Nm → Option Addr) (ι : List Addr) (H : Hp) (a : Addr) : O → Prop
  | .lst ws => ∃ vs, H a = some (.lst vs) ∧ VRs K ι H ws vs
  | .rol ws => ∃ vs, RL K H a vs ∧ VRs K ι H ws vs
  | .ins c fs => ∃ C dx fvs, cl c = some C ∧ H a = some (.ins C dx fvs) ∧ FR K ι H fs fvs
  | .dct kvs => kvs = [] ∧ H a = some (.dK [])
  | .rod _ => False
def O.wr : O → Bool
  | .lst _ => true | .ins _ _ => true | .dct _ => true | .rol _ => false | .rod _ => false
structure SR (K : PySem.W.Frag) (cl : Nm → Option Addr) (ι : List Addr) (H : Hp) (S : Sto) : Prop where
  len : ι.length = S.length
  obj : ∀ (n : Nat) (o : O), S[n]? = some o → ∃ a, ι[n]? = some a ∧ OR K cl ι H a o
  inj : ∀ (n m : Nat) (a : Addr) (o u : O), S[n]? = some o → S[m]? = some u → o.wr = true → u.wr = true → ι[n]? = some a → ι[m]? = some a → n = m
  /-- the module's own objects stand first: their addresses under names that no text has -/
  pre : ∀ (n : Nat) (a : Addr), cl [0, n] = some a → ι[n]? = some a
def EnvR (K : PySem.W.Frag) (ι : List Addr) (H : Hp) (ρ : List W) (σ : L2.St) : Prop :=
  ρ.length = σ.length ∧ ∀ (i : Nat) (w : W), ρ[i]? = some w → w ≠ .un → ∃ v, σ[i]? = some (some v) ∧ VR K ι H w v
section
variable {K : PySem.W.Frag} {cl : Nm → Option Addr} {ι ι1 ι2 : List Addr} {H H1 H2 : Hp} {S : Sto}
theorem FR.ext (e : Ext ι H ι1 H1) : ∀ {fs : List (Nm × W)} {fvs : List (Str × V)}, FR K ι H fs fvs → FR K ι1 H1 fs fvs
  | [], _, h => h
  | (n, w) :: fs, _, h => by
    obtain ⟨v, r, e1, e2, e3⟩ := h
    exact ⟨v, r, e1, VR.ext e w e2, FR.ext e e3⟩
theorem EnvR.ext {ρ : List W} {σ : L2.St} (h : EnvR K ι H ρ σ) (e : Ext ι H ι1 H1) : EnvR K ι1 H1 ρ σ :=
  ⟨h.1, fun i w a b => let ⟨v, x, y⟩ := h.2 i w a b; ⟨v, x, VR.ext e w y⟩⟩
/-- the wish of a result -/
def Res {α : Type} (K : PySem.W.Frag) (cl : Nm → Option Addr) (r : R α) (ι : List Addr) (H : Hp) (Q : α → Sto → List Addr → Hp → Prop) (E : XK) : Prop :=
  match r with
  | .ok a S => ∀ ι' H', Ext ι H ι' H' → SR K cl ι' H' S → Q a S ι' H'
  | .ex c fs S => ∀ ι' H' C d fvs, Ext ι H ι' H' → SR K cl ι' H' S → cl c = some C → H' d = some (.xd fvs) → FR K ι' H' fs fvs → E (.ref C) (some d) H'
  | .bad => False
theorem Res.mono {α : Type} {r : R α} {Q Q' : α → Sto → List Addr → Hp → Prop} {E : XK} (h : Res K cl r ι H Q E)
    (q : ∀ a S ι' H', Ext ι H ι' H' → SR K cl ι' H' S → Q a S ι' H' → Q' a S ι' H') : Res K cl r ι H Q' E := by
  cases r with
  | ok a S => exact fun ι' H' e sr => q a S ι' H' e sr (h ι' H' e sr)
  | ex c fs S => exact h
  | bad => exact h
theorem Res.on {α : Type} {r : R α} {Q : α → Sto → List Addr → Hp → Prop} {E : XK} (h : Res K cl r ι H Q E) (e : Ext ι H ι1 H1) : Res K cl r ι1 H1 Q E := by
  cases r with
  | ok a S => exact fun ι' H' e' sr => h ι' H' (e.trans e') sr
  | ex c fs S => exact fun ι' H' C d fvs e' sr => h ι' H' C d fvs (e.trans e') sr
  | bad => exact h
theorem Res.bind {α β : Type} {r : R α} {f : α → Sto → R β} {Q : β → Sto → List Addr → Hp → Prop} {E : XK} (h : Res K cl (r.bind f) ι H Q E) :
    Res K cl r ι H (fun a S ι' H' => Res K cl (f a S) ι' H' Q E) E := by
  cases r with
  | ok a S => exact fun ι' H' e sr => Res.on (show Res K cl (f a S) ι H Q E from h) e
  | ex c fs S => exact h
  | bad => exact h
/-! ### stores change -/
theorem wr_some {a : Addr} {o : O} (h : OR K cl ι H a o) (w : o.wr = true) : ∃ u, H a = some u := by
  cases o with
  | lst ws => obtain ⟨vs, h, _⟩ := h; exact ⟨_, h⟩
  | ins c fs => obtain ⟨C, dx, fvs, _, h, _⟩ := h; exact ⟨_, h⟩
  | dct _ => exact ⟨_, h.2⟩
  | rol _ => cases w
  | rod _ => cases w
theorem ext_new {p : Addr} {u : HO} (hp : H p = none) : Ext ι H (ι ++ [p]) (upd H p u) := by
  refine ⟨fun n a h => ?_, fun a xs h => ?_, fun a o xs h => ?_⟩
  · rw [List.getElem?_append_left (List.getElem?_eq_some_iff.mp h).1]; exact h
  · rw [upd_ne (ne_of_none h hp)]; exact h
  · rw [upd_ne (ne_of_none h hp)]; exact h
theorem ext_tup {p : Addr} {u : HO} (hp : H p = none) : Ext ι H ι (upd H p u) :=
  ⟨fun n a h => h, fun a xs h => by rw [upd_ne (ne_of_none h hp)]; exact h, fun a o xs h => by rw [upd_ne (ne_of_none h hp)]; exact h⟩
theorem RL.upd {a p : Addr} {xs : List V} {u : HO} (h : RL K H a xs) (hp : ∀ o, H p ≠ some (.frz o (.lst xs))) : RL K (L2.upd H p u) a xs := by
  rcases h with ⟨o, h⟩ | h
  · exact .inl ⟨o, by
      rw [upd_ne (fun e => hp o (by rw [← e]; exact h))]; exact h⟩
  · exact .inr h
/-- an object stays where another address is written -/
theorem OR.stay {a p : Addr} {u : HO} {o : O} (e : Ext ι H ι1 (upd H p u)) (h : OR K cl ι H a o) (hp : (o.wr = true → a ≠ p)) (hf : ∀ o xs, H p ≠ some (.frz o (.lst xs))) : OR K cl ι1 (upd H p u) a o := by
  cases o with
  | lst ws => obtain ⟨vs, h, r⟩ := h; exact ⟨vs, by rw [upd_ne (hp rfl)]; exact h, VRs.ext e ws r⟩
  | ins c fs => obtain ⟨C, dx, fvs, hc, h, r⟩ := h; exact ⟨C, dx, fvs, hc, by rw [upd_ne (hp rfl)]; exact h, r.ext e⟩
  | dct _ => exact ⟨h.1, by rw [upd_ne (hp rfl)]; exact h.2⟩
  | rod _ => exact h.elim
  | rol ws => obtain ⟨vs, h, r⟩ := h; exact ⟨vs, h.upd fun o => hf o _, VRs.ext e ws r⟩
theorem SR.tup {p : Addr} {u : HO} (sr : SR K cl ι H S) (hp : H p = none) : SR K cl ι (upd H p u) S where
  len := sr.len
  obj := fun n o h => by
    obtain ⟨a, ha, r⟩ := sr.obj n o h
    refine ⟨a, ha, r.stay (ext_tup hp) (fun w => ?_) fun o xs => by rw [hp]; exact fun z => nomatch z⟩
    obtain ⟨v, hv⟩ := wr_some r w
    exact ne_of_none hv hp
  inj := sr.inj
  pre := sr.pre
theorem SR.new {p : Addr} {u : HO} {o : O} (sr : SR K cl ι H S) (hp : H p = none) (new : OR K cl (ι ++ [p]) (upd H p u) p o) : SR K cl (ι ++ [p]) (upd H p u) (S ++ [o]) where
  len := by rw [List.length_append, List.length_append, sr.len]; rfl
  pre := fun n a h => (ext_new (u := u) hp).pre n a (sr.pre n a h)
  obj := fun n x h => by
    by_cases hn : n < S.length
    · rw [List.getElem?_append_left hn] at h
      obtain ⟨a, ha, r⟩ := sr.obj n x h
      refine ⟨a, (ext_new (u := u) hp).pre n a ha, r.stay (ext_new hp) (fun w => ?_) fun o xs => by rw [hp]; exact fun z => nomatch z⟩
      obtain ⟨v, hv⟩ := wr_some r w
      exact ne_of_none hv hp
    · rw [List.getElem?_append_right (by omega)] at h
      have e : n = S.length := by
        have := (List.getElem?_eq_some_iff.mp h).1
        simp at this; omega
      subst e
      have e2 : o = x := by simpa using h
      subst e2
      exact ⟨p, by rw [← sr.len]; simp, new⟩
  inj := fun n m a x y h1 h2 w1 w2 g1 g2 => by
    have old : ∀ (k : Nat) (z : O), k < S.length → (S ++ [o])[k]? = some z → z.wr = true → (ι ++ [p])[k]? = some a → a ≠ p ∧ ι[k]? = some a ∧ S[k]? = some z := fun k z hk h w g => by
      rw [List.getElem?_append_left hk] at h
      rw [List.getElem?_append_left (by rw [sr.len]; exact hk)] at g
      obtain ⟨b, hb, r⟩ := sr.obj k z h
      rw [g] at hb; cases hb
      obtain ⟨v, hv⟩ := wr_some r w
      exact ⟨ne_of_none hv hp, g, h⟩
    have last : ∀ (k : Nat) (z : O), ¬ k < S.length → (S ++ [o])[k]? = some z → (ι ++ [p])[k]? = some a → k = S.length ∧ a = p := fun k z hk h g => by
      have hk2 : k = S.length := by
        have := (List.getElem?_eq_some_iff.mp h).1
        simp at this; omega
      subst hk2
      rw [← sr.len] at g
      exact ⟨rfl, by simpa using g.symm⟩
    by_cases hn : n < S.length
    · obtain ⟨a1, a2, a3⟩ := old n x hn h1 w1 g1
      by_cases hm : m < S.length
      · obtain ⟨b1, b2, b3⟩ := old m y hm h2 w2 g2
        exact sr.inj n m a x y a3 b3 w1 w2 a2 b2
      · exact absurd (last m y hm h2 g2).2 a1
    · obtain ⟨e1, e2⟩ := last n x hn h1 g1
      by_cases hm : m < S.length
      · exact absurd e2 (old m y hm h2 w2 g2).1
      · rw [e1, (last m y hm h2 g2).1]
theorem ext_put {p : Addr} {u v : HO} (hp : H p = some v) (h1 : ∀ xs, v ≠ .tup xs) (h2 : ∀ o xs, v ≠ .frz o xs) : Ext ι H ι (upd H p u) := by
  refine ⟨fun n a h => h, fun a xs h => ?_, fun a o xs h => ?_⟩
  · rw [upd_ne (ne_of h hp fun z => h1 _ z.symm)]; exact h
  · rw [upd_ne (ne_of h hp fun z => h2 _ _ z.symm)]; exact h
theorem SR.put {n : Nat} {p : Addr} {u v : HO} {o x : O} (sr : SR K cl ι H S) (hn : S[n]? = some x) (wx : x.wr = true) (hι : ι[n]? = some p) (hp : H p = some v) (h1 : ∀ xs, v ≠ .tup xs) (h2 : ∀ o xs, v ≠ .frz o xs)
    (wo : o.wr = true) (new : OR K cl ι (upd H p u) p o) : SR K cl ι (upd H p u) (S.set n o) where
  len := by rw [List.length_set]; exact sr.len
  pre := sr.pre
  obj := fun m y h => by
    by_cases e : n = m
    · subst e
      rw [List.getElem?_set_self (List.getElem?_eq_some_iff.mp hn).1] at h
      cases h
      exact ⟨p, hι, new⟩
    · rw [List.getElem?_set_ne e] at h
      obtain ⟨a, ha, r⟩ := sr.obj m y h
      refine ⟨a, ha, r.stay (ext_put hp h1 h2) (fun w z => e ?_) fun o xs => by rw [hp]; exact fun z => h2 o _ (Option.some.inj z)⟩
      subst z
      exact sr.inj n m a x y hn h wx w hι ha
  inj := fun m k a y z h1 h2 w1 w2 g1 g2 => by
    have get : ∀ (m : Nat) (y : O), (S.set n o)[m]? = some y → y.wr = true → ∃ y', S[m]? = some y' ∧ y'.wr = true := fun m y h w => by
      by_cases e : n = m
      · subst e; exact ⟨x, hn, wx⟩
      · rw [List.getElem?_set_ne e] at h; exact ⟨y, h, w⟩
    obtain ⟨y', a1, a2⟩ := get m y h1 w1
    obtain ⟨z', b1, b2⟩ := get k z h2 w2
    exact sr.inj m k a y' z' a1 b1 a2 b2 g1 g2
/-! ### values in lists -/
theorem VRs.length : ∀ {ws : List W} {vs : List V}, VRs K ι H ws vs → ws.length = vs.length
  | [], _, h => by simp only [VRs] at h; rw [h]; rfl
  | w :: ws, _, h => by
    simp only [VRs] at h
    obtain ⟨v, r, e, _, h⟩ := h
    rw [e, List.length_cons, List.length_cons, VRs.length h]
theorem VRs.get : ∀ {ws : List W} {vs : List V} {i : Nat} {w : W}, VRs K ι H ws vs → ws[i]? = some w → ∃ v, vs[i]? = some v ∧ VR K ι H w v
  | [], _, _, _, _, e => by simp at e
  | w :: ws, _, 0, _, h, e => by
    simp only [VRs] at h
    obtain ⟨v, r, e1, h1, h⟩ := h
    simp at e; subst e
    exact ⟨v, by rw [e1]; rfl, h1⟩
  | w :: ws, _, i + 1, _, h, e => by
    simp only [VRs] at h
    obtain ⟨v, r, e1, h1, h⟩ := h
    obtain ⟨v', a, b⟩ := VRs.get (i := i) h (by simpa using e)
    exact ⟨v', by rw [e1]; simpa using a, b⟩
theorem VRs.append : ∀ {ws us : List W} {vs ts : List V}, VRs K ι H ws vs → VRs K ι H us ts → VRs K ι H (ws ++ us) (vs ++ ts)
  | [], _, _, _, h, g => by simp only [VRs] at h; rw [h]; exact g
  | w :: ws, _, _, _, h, g => by
    simp only [VRs] at h
    obtain ⟨v, r, e, h1, h⟩ := h
    rw [e]
    show VRs K ι H (w :: (ws ++ _)) (v :: (r ++ _))
    simp only [VRs]
    exact ⟨v, _, rfl, h1, VRs.append h g⟩
theorem VRs.take : ∀ {ws : List W} {vs : List V} (n : Nat), VRs K ι H ws vs → VRs K ι H (ws.take n) (vs.take n)
  | [], _, n, h => by simp only [VRs] at h; rw [h]; simp [VRs]
  | w :: ws, _, 0, h => by simp [VRs]
  | w :: ws, _, n + 1, h => by
    simp only [VRs] at h
    obtain ⟨v, r, e, h1, h⟩ := h
    rw [e, List.take_succ_cons, List.take_succ_cons]
    simp only [VRs]
    exact ⟨v, _, rfl, h1, VRs.take n h⟩
theorem VRs.drop : ∀ {ws : List W} {vs : List V} (n : Nat), VRs K ι H ws vs → VRs K ι H (ws.drop n) (vs.drop n)
  | [], _, n, h => by simp only [VRs] at h; rw [h]; simp [VRs]
  | w :: ws, _, 0, h => by rw [List.drop_zero, List.drop_zero]; exact h
  | w :: ws, _, n + 1, h => by
    simp only [VRs] at h
    obtain ⟨v, r, e, h1, h⟩ := h
    rw [e, List.drop_succ_cons, List.drop_succ_cons]
    exact VRs.drop n h
theorem VRs.set : ∀ {ws : List W} {vs : List V} {w : W} {v : V} (i : Nat), VRs K ι H ws vs → VR K ι H w v → VRs K ι H (ws.set i w) (vs.set i v)
  | [], _, _, _, i, h, _ => by simp only [VRs] at h; rw [h]; simp [VRs]
  | w :: ws, _, _, _, 0, h, g => by
    simp only [VRs] at h
    obtain ⟨v, r, e, h1, h⟩ := h
    rw [e, List.set_cons_zero, List.set_cons_zero]
    simp only [VRs]
    exact ⟨_, _, rfl, g, h⟩
  | w :: ws, _, _, _, i + 1, h, g => by
    simp only [VRs] at h
    obtain ⟨v, r, e, h1, h⟩ := h
    rw [e, List.set_cons_succ, List.set_cons_succ]
    simp only [VRs]
    exact ⟨_, _, rfl, h1, VRs.set i h g⟩
theorem VRs.cut {ws : List W} {vs : List V} (lo hi : Option Int) (h : VRs K ι H ws vs) : VRs K ι H (cutL ws lo hi) (cutV vs lo hi) := by
  unfold cutL cutV
  rw [h.length]
  exact (h.drop _).take _
theorem VRs.rep {ws : List W} {vs : List V} (h : VRs K ι H ws vs) : ∀ n : Nat, VRs K ι H (List.replicate n ws).flatten (List.replicate n vs).flatten
  | 0 => by simp [VRs]
  | n + 1 => by
    rw [List.replicate_succ, List.replicate_succ, List.flatten_cons, List.flatten_cons]
    exact h.append (VRs.rep h n)
theorem VRs.reverse : ∀ {ws : List W} {vs : List V}, VRs K ι H ws vs → VRs K ι H ws.reverse vs.reverse
  | [], _, h => by simp only [VRs] at h; rw [h]; simp [VRs]
  | w :: ws, _, h => by
    simp only [VRs] at h
    obtain ⟨v, r, e, h1, h⟩ := h
    rw [e, List.reverse_cons, List.reverse_cons]
    refine (VRs.reverse h).append ?_
    simp only [VRs]
    exact ⟨v, [], rfl, h1, rfl⟩
theorem VRs.dropLast {ws : List W} {vs : List V} (h : VRs K ι H ws vs) : VRs K ι H ws.dropLast vs.dropLast := by
  rw [List.dropLast_eq_take, List.dropLast_eq_take, h.length]
  exact h.take _
theorem VRs.eraseIdx {ws : List W} {vs : List V} (k : Nat) (h : VRs K ι H ws vs) : VRs K ι H (ws.eraseIdx k) (vs.eraseIdx k) := by
  rw [List.eraseIdx_eq_take_drop_succ, List.eraseIdx_eq_take_drop_succ]
  exact (h.take _).append (h.drop _)
theorem VRs.one {w : W} {v : V} (h : VR K ι H w v) : VRs K ι H [w] [v] := by
  simp only [VRs]; exact ⟨v, [], rfl, h, rfl⟩
theorem VRs.cons {w : W} {v : V} {ws : List W} {vs : List V} (h : VR K ι H w v) (g : VRs K ι H ws vs) : VRs K ι H (w :: ws) (v :: vs) := by
  simp only [VRs]; exact ⟨v, vs, rfl, h, g⟩
theorem VRs.nil : VRs K ι H [] [] := by simp only [VRs]
theorem VRs.cons_inv {w : W} {ws : List W} {vs : List V} (h : VRs K ι H (w :: ws) vs) : ∃ v r, vs = v :: r ∧ VR K ι H w v ∧ VRs K ι H ws r := by simpa only [VRs] using h
theorem VRs.nil_inv {vs : List V} (h : VRs K ι H [] vs) : vs = [] := by simpa only [VRs] using h
end
/-- a list that is read, by its place in the store -/
theorem items_ok {K : PySem.W.Frag} {cl : Nm → Option Addr} {ι : List Addr} {H : Hp} {S S' : Sto} {n : Nat} {xs : List W} {v : V} (sr : SR K cl ι H S) (h : itemsOf n S = .ok xs S') (r : VR K ι H (.ob n) v) :
    S' = S ∧ ∃ a vs, v = .ref a ∧ SqL K H a vs ∧ VRs K ι H xs vs := by
  unfold itemsOf at h
  simp only [VR] at r
  obtain ⟨a, e, ha⟩ := r
  split at h
  · rename_i ys hy
    cases h
    obtain ⟨b, hb, vs, h1, h2⟩ := sr.obj n _ hy
    rw [ha] at hb; cases hb
    exact ⟨rfl, a, vs, e, .inl (.inl h1), h2⟩
  · rename_i ys hy
    cases h
    obtain ⟨b, hb, vs, h1, h2⟩ := sr.obj n _ hy
    rw [ha] at hb; cases hb
    exact ⟨rfl, a, vs, e, h1.sql, h2⟩
  · cases h
theorem lst_ok {K : PySem.W.Frag} {cl : Nm → Option Addr} {ι : List Addr} {H : Hp} {S S' : Sto} {n : Nat} {xs : List W} {v : V} (sr : SR K cl ι H S) (h : lstOf n S = .ok xs S') (r : VR K ι H (.ob n) v) :
    S' = S ∧ S[n]? = some (.lst xs) ∧ ∃ a vs, v = .ref a ∧ ι[n]? = some a ∧ H a = some (.lst vs) ∧ VRs K ι H xs vs := by
  unfold lstOf at h
  simp only [VR] at r
  obtain ⟨a, e, ha⟩ := r
  split at h
  · rename_i ys hy
    cases h
    obtain ⟨b, hb, vs, h1, h2⟩ := sr.obj n _ hy
    rw [ha] at hb; cases hb
    exact ⟨rfl, hy, a, vs, e, ha, h1, h2⟩
  · cases h
end At

set_option Elab.async false
set_option linter.all false
set_option maxRecDepth 100000
set_option maxHeartbeats 2000000
/-! AtD: the primitives: operators, comparisons, truth, subscripts. -/
namespace At
open PySem PySem.Spec PyProof.Rows L2

theorem toS_len (a : List Nat) : (toS a).length = a.length := by simp [toS, Str.length]
theorem toS_app (a b : List Nat) : toS a ++ toS b = toS (a ++ b) := by
  show (⟨a.toArray ++ b.toArray⟩ : Str) = ⟨(a ++ b).toArray⟩
  rw [List.append_toArray]
theorem toS_eq {a b : List Nat} : (toS a = toS b) ↔ a = b := ⟨toS_inj, fun h => by rw [h]⟩
theorem toS_cps (a : List Nat) : (toS a).cps.toList = a := by simp [toS]
theorem of_toS (x : Str) : toS x.cps.toList = x := by cases x; simp [toS]

def EQ (K : PySem.W.Frag) (Q : VK) : W → Sto → List Addr → Hp → Prop := fun w _ ι H => ∀ v, VR K ι H w v → Q v H
section
variable {K : PySem.W.Frag} {cl : Nm → Option Addr} {ι : List Addr} {H : Hp} {S : Sto} {Q : VK} {E : XK}
/-- a result without an object -/
theorem Res.val {w : W} {v : V} (h : Res K cl (.ok w S) ι H (EQ K Q) E) (sr : SR K cl ι H S) (r : VR K ι H w v) : Q v H := h ι H Ext.refl sr v r
theorem Res.int {i : Int} (h : Res K cl (.ok (.int i) S) ι H (EQ K Q) E) (sr : SR K cl ι H S) : Q (.int i) H := h.val sr (by simp only [VR])
theorem Res.bl {b : Bool} (h : Res K cl (.ok (.bl b) S) ι H (EQ K Q) E) (sr : SR K cl ι H S) : Q (.bl b) H := h.val sr (by simp only [VR])
theorem Res.non (h : Res K cl (.ok .non S) ι H (EQ K Q) E) (sr : SR K cl ι H S) : Q .non H := h.val sr (by simp only [VR])
theorem Res.str {s : List Nat} (h : Res K cl (.ok (.str s) S) ι H (EQ K Q) E) (sr : SR K cl ι H S) (ok : SOk s) : Q (.str (toS s)) H := h.val sr (by simp only [VR]; exact ⟨trivial, ok⟩)
/-- a new tuple -/
theorem Res.tup {ws : List W} {vs : List V} {p : Addr} (h : Res K cl (.ok (.tup ws) S) ι H (EQ K Q) E) (sr : SR K cl ι H S) (r : VRs K ι H ws vs) (hp : H p = none) : Q (.ref p) (upd H p (.tup vs)) :=
  h ι _ (ext_tup hp) (sr.tup hp) _ (by simp only [VR]; exact ⟨p, vs, rfl, .inl (.inl upd_same), VRs.ext (ext_tup hp) ws r⟩)
/-- a new list -/
theorem Res.lst {ws : List W} {vs : List V} {p : Addr} (h : Res K cl (newO (.lst ws) S) ι H (EQ K Q) E) (sr : SR K cl ι H S) (r : VRs K ι H ws vs) (hp : H p = none) : Q (.ref p) (upd H p (.lst vs)) := by
  refine h (ι ++ [p]) _ (ext_new hp) (sr.new hp ⟨vs, upd_same, VRs.ext (ext_new hp) ws r⟩) _ ?_
  simp only [VR]
  exact ⟨p, rfl, by rw [← sr.len]; simp⟩
theorem sok_app {a b : List Nat} (ha : SOk a) (hb : SOk b) (h : (a ++ b).length ≤ LINE) : SOk (a ++ b) :=
  ⟨h, fun c hc => (List.mem_append.mp hc).elim (ha.2 c) (hb.2 c)⟩
theorem sok_sub {a b : List Nat} (ha : SOk a) (hl : b.length ≤ a.length) (h : ∀ c ∈ b, c ∈ a) : SOk b := ⟨Nat.le_trans hl ha.1, fun c hc => ha.2 c (h c hc)⟩
theorem VR.str_inv {s : List Nat} {v : V} (h : VR K ι H (.str s) v) : v = .str (toS s) ∧ SOk s := by simpa only [VR] using h
theorem VR.int_inv {i : Int} {v : V} (h : VR K ι H (.int i) v) : v = .int i := by simpa only [VR] using h
theorem VR.bl_inv {i : Bool} {v : V} (h : VR K ι H (.bl i) v) : v = .bl i := by simpa only [VR] using h
theorem VR.non_inv {v : V} (h : VR K ι H .non v) : v = .non := by simpa only [VR] using h
theorem VR.tup_inv {ws : List W} {v : V} (h : VR K ι H (.tup ws) v) : ∃ a vs, v = .ref a ∧ SqT K H a vs ∧ VRs K ι H ws vs := by simpa only [VR] using h
theorem VR.ob_inv {n : Nat} {v : V} (h : VR K ι H (.ob n) v) : ∃ a, v = .ref a ∧ ι[n]? = some a := by simpa only [VR] using h
theorem VR.un_inv {v : V} (h : VR K ι H .un v) : False := by simpa only [VR] using h
end

/-! ### two-place operators -/
def r2 (K : PySem.W.Frag) (cl : Nm → Option Addr) (E : XK) (m : W → W → M W) : R2 := fun x y H Q =>
  ∃ (ι : List Addr) (S : Sto) (w1 w2 : W), SR K cl ι H S ∧ VR K ι H w1 x ∧ VR K ι H w2 y ∧ Res K cl (m w1 w2 S) ι H (EQ K Q) E
def boOf : BO → Operator
  | .add => .Add | .sub => .Sub | .mul => .Mult | .fdiv => .FloorDiv | .mod => .Mod | .pow => .Pow
section
variable {X : Cx} {cl : Nm → Option Addr} {E : XK}
theorem bad_res {α : Type} {K : PySem.W.Frag} {ι : List Addr} {H : Hp} {Q : α → Sto → List Addr → Hp → Prop} {E : XK} (h : Res K cl (.bad : R α) ι H Q E) : False := h
theorem small64_iff {i : Int} (h : small64 i = true) : -(2 ^ 64) < i ∧ i < 2 ^ 64 := by
  unfold small64 at h
  rw [Bool.and_eq_true, decide_eq_true_eq, decide_eq_true_eq] at h
  exact h
theorem op_bin (op : BO) : OpR X (binaryOp (boOf op)) (r2 X.K cl E (binM op)) := by
  intro pins s σ H x y v u Q I rx ry h
  obtain ⟨ι, S, w1, w2, sr, r1, r2, hr⟩ := h
  cases op with
  | add =>
    cases w1 with
    | int a =>
      cases w2 with
      | int b =>
        have e1 := r1.int_inv; have e2 := r2.int_inv; subst e1 e2
        exact op_add pins s σ H _ _ v u Q I rx ry ⟨a, b, rfl, rfl, hr.int sr⟩
      | _ => exact (hr : False).elim
    | str a =>
      cases w2 with
      | str b =>
        obtain ⟨e1, o1⟩ := r1.str_inv; obtain ⟨e2, o2⟩ := r2.str_inv; subst e1 e2
        simp only [binM, mkS] at hr
        split at hr
        · rename_i hl
          refine op_add_str pins s σ H _ _ v u Q I rx ry ⟨toS a, toS b, rfl, rfl, ?_, ?_⟩
          · rw [toS_len, toS_len, line_eq, ← List.length_append]; exact hl
          · rw [toS_app]; exact hr.str sr (sok_app o1 o2 hl)
        · exact (hr : False).elim
      | _ => exact (hr : False).elim
    | tup a =>
      cases w2 with
      | tup b =>
        obtain ⟨p, vs, e1, h1, q1⟩ := r1.tup_inv; obtain ⟨p2, vs2, e2, h2, q2⟩ := r2.tup_inv; subst e1 e2
        simp only [binM, mkT] at hr
        split at hr
        · rename_i hl
          have hl' : vs.length + vs2.length ≤ sizeLine := by rw [← q1.length, ← q2.length, line_eq, ← List.length_append]; exact hl
          refine op_catA pins s σ H _ _ v u Q I rx ry ⟨p, p2, vs, vs2, rfl, rfl, h1, h2, hl', fun e => ?_, fun _ e => ?_, fun _ _ a ha => ?_⟩
          · subst e
            have : a = [] := by have := q1.length; simpa using this
            subst this
            exact hr.val sr r2
          · subst e
            have : b = [] := by have := q2.length; simpa using this
            subst this
            rw [List.append_nil] at hr
            exact hr.val sr r1
          · exact Res.tup hr sr (q1.append q2) ha
        · exact (hr : False).elim
      | _ => exact (hr : False).elim
    | ob a =>
      cases w2 with
      | ob b =>
        simp only [binM] at hr
        have hr2 := Res.bind hr
        cases hx : lstOf a S with
        | bad => rw [hx] at hr2; exact (hr2 : False).elim
        | ex _ _ _ => unfold lstOf at hx; split at hx <;> cases hx
        | ok xs S1 =>
          rw [hx] at hr2
          obtain ⟨e1, _, p, vs, e2, i2, h1, q1⟩ := lst_ok sr hx r1
          subst e1
          have hr3 := Res.bind (hr2 ι H Ext.refl sr)
          cases hy : lstOf b S1 with
          | bad => rw [hy] at hr3; exact (hr3 : False).elim
          | ex _ _ _ => unfold lstOf at hy; split at hy <;> cases hy
          | ok ys S2 =>
            rw [hy] at hr3
            obtain ⟨e3, _, p2, vs2, e4, i4, h2, q2⟩ := lst_ok sr hy r2
            subst e3 e2 e4
            have hr4 := hr3 ι H Ext.refl sr
            simp only [newL] at hr4
            split at hr4
            · rename_i hl
              have hl' : vs.length + vs2.length ≤ sizeLine := by rw [← q1.length, ← q2.length, line_eq, ← List.length_append]; exact hl
              exact op_cat pins s σ H _ _ v u Q I rx ry ⟨p, p2, vs, vs2, rfl, rfl, h1, h2, hl', fun a ha => Res.lst hr4 sr (q1.append q2) ha⟩
            · exact (hr4 : False).elim
      | _ => exact (hr : False).elim
    | _ => cases w2 <;> exact (hr : False).elim
  | sub =>
    cases w1 with
    | int a =>
      cases w2 with
      | int b =>
        have e1 := r1.int_inv; have e2 := r2.int_inv; subst e1 e2
        exact op_sub pins s σ H _ _ v u Q I rx ry ⟨a, b, rfl, rfl, hr.int sr⟩
      | _ => exact (hr : False).elim
    | _ => cases w2 <;> exact (hr : False).elim
  | mul =>
    cases w1 with
    | int a =>
      cases w2 with
      | int b =>
        have e1 := r1.int_inv; have e2 := r2.int_inv; subst e1 e2
        simp only [binM] at hr
        split at hr
        · rename_i hl
          rw [Bool.or_eq_true] at hl
          exact op_mul pins s σ H _ _ v u Q I rx ry ⟨a, b, rfl, rfl, hl.imp small64_iff small64_iff, Res.int hr sr⟩
        · exact (hr : False).elim
      | _ => exact (hr : False).elim
    | ob a =>
      cases w2 with
      | int k =>
        have e2 := r2.int_inv; subst e2
        have hr2 := Res.bind (show Res X.K cl ((lstOf a S).bind fun xs s => repM xs k s) ι H (EQ X.K Q) E from hr)
        cases hx : lstOf a S with
        | bad => rw [hx] at hr2; exact (hr2 : False).elim
        | ex _ _ _ => unfold lstOf at hx; split at hx <;> cases hx
        | ok xs S1 =>
          rw [hx] at hr2
          obtain ⟨e1, _, p, vs, e2, i2, h1, q1⟩ := lst_ok sr hx r1
          subst e1 e2
          have hr3 : Res X.K cl (repM xs k S1) ι H (EQ X.K Q) E := hr2 ι H Ext.refl sr
          unfold repM at hr3
          split at hr3
          · rename_i hc
            obtain ⟨k1, k2, k3⟩ := hc
            exact op_rep pins s σ H _ _ v u Q I rx ry ⟨p, k, vs, rfl, rfl, h1, k1, k2, by rw [← q1.length, line_eq]; exact k3, fun a ha => Res.lst hr3 sr (q1.rep _) ha⟩
          · exact (hr3 : False).elim
      | _ => exact (hr : False).elim
    | _ => cases w2 <;> exact (hr : False).elim
  | mod =>
    cases w1 with
    | int a =>
      cases w2 with
      | int b =>
        have e1 := r1.int_inv; have e2 := r2.int_inv; subst e1 e2
        simp only [binM] at hr
        split at hr
        · rename_i hl
          exact op_mod pins s σ H _ _ v u Q I rx ry ⟨a, b, rfl, rfl, hl, Res.int hr sr⟩
        · exact (hr : False).elim
      | _ => exact (hr : False).elim
    | _ => cases w2 <;> exact (hr : False).elim
  | fdiv =>
    cases w1 with
    | int a =>
      cases w2 with
      | int b =>
        have e1 := r1.int_inv; have e2 := r2.int_inv; subst e1 e2
        simp only [binM] at hr
        split at hr
        · rename_i hl
          exact op_fdiv pins s σ H _ _ v u Q I rx ry ⟨a, b, rfl, rfl, hl, Res.int hr sr⟩
        · exact (hr : False).elim
      | _ => exact (hr : False).elim
    | _ => cases w2 <;> exact (hr : False).elim
  | pow =>
    cases w1 with
    | int a =>
      cases w2 with
      | int b =>
        have e1 := r1.int_inv; have e2 := r2.int_inv; subst e1 e2
        simp only [binM] at hr
        split at hr
        · rename_i hl
          exact op_pow pins s σ H _ _ v u Q I rx ry ⟨a, b, rfl, rfl, hl, Res.int hr sr⟩
        · exact (hr : False).elim
      | _ => exact (hr : False).elim
    | _ => cases w2 <;> exact (hr : False).elim
end

/-! ### data -/
section
variable {K : PySem.W.Frag} {cl : Nm → Option Addr} {ι : List Addr} {H : Hp} {S : Sto}
theorem mapO_ok {α β : Type} {f : α → Option β} : ∀ {xs : List α} {ys : List β}, mapO f xs = some ys → ys.length = xs.length ∧ ∀ (i : Nat) (x : α), xs[i]? = some x → ∃ y, ys[i]? = some y ∧ f x = some y
  | [], ys, h => by simp [mapO] at h; subst h; exact ⟨rfl, fun i x e => by simp at e⟩
  | x :: xs, ys, h => by
    simp only [mapO] at h
    split at h
    · cases h
    · rename_i y hy
      split at h
      · cases h
      · rename_i zs hz
        cases h
        obtain ⟨l, g⟩ := mapO_ok hz
        refine ⟨by simp [l], fun i z e => ?_⟩
        cases i with
        | zero => simp at e; subst e; exact ⟨y, rfl, hy⟩
        | succ i => simpa using g i z (by simpa using e)
theorem dpAll_of {f : W → Option PyData} (hf : ∀ w d v, f w = some d → VR K ι H w v → Dp K H v d ∧ d.canLay0 = true) : ∀ {ws : List W} {ds : List PyData} {vs : List V}, mapO f ws = some ds → VRs K ι H ws vs → DpAll K H vs ds ∧ PyData.canLayAll0 ds = true
  | [], ds, vs, h, r => by
    simp [mapO] at h; subst h
    rw [r.nil_inv]; exact ⟨.nil, by simp [PyData.canLayAll0]⟩
  | w :: ws, ds, vs, h, r => by
    obtain ⟨v, rest, rfl, r1, r2⟩ := r.cons_inv
    simp only [mapO] at h
    split at h
    · cases h
    · rename_i y hy
      split at h
      · cases h
      · rename_i zs hz
        cases h
        obtain ⟨a1, a2⟩ := hf w y v hy r1
        obtain ⟨b1, b2⟩ := dpAll_of hf hz r2
        exact ⟨.cons a1 b1, by simp [PyData.canLayAll0, a2, b2]⟩
/-- what rd reads stands there -/
theorem rd_ok (sr : SR K cl ι H S) : ∀ (n : Nat) (w : W) (d : PyData) (v : V), rd S n w = some d → d.hasDict = false → VR K ι H w v → Dp K H v d ∧ d.canLay0 = true
  | 0, w, d, v, h, _, r => by simp [rd] at h
  | n + 1, w, d, v, h, hd, r => by
    cases w with
    | un => exact r.un_inv.elim
    | non => simp [rd] at h; subst h; rw [r.non_inv]; exact ⟨.non, by simp [PyData.canLay0]⟩
    | bl b => simp [rd] at h; subst h; rw [r.bl_inv]; exact ⟨.bl b, by simp [PyData.canLay0]⟩
    | int b => simp [rd] at h; subst h; rw [r.int_inv]; exact ⟨.int b, by simp [PyData.canLay0]⟩
    | str b =>
      simp [rd] at h; subst h
      obtain ⟨e, o⟩ := r.str_inv
      rw [e]
      refine ⟨.str _, ?_⟩
      simp only [PyData.canLay0, PyData.strOk, toS, List.all_toArray, List.all_eq_true, decide_eq_true_eq]
      exact o.2
    | tup ws =>
      simp only [rd, Option.map_eq_some_iff] at h
      obtain ⟨ds, h, e⟩ := h
      subst e
      obtain ⟨a, vs, e, h1, h2⟩ := r.tup_inv
      subst e
      have hd' : PyData.hasDictAll ds = false := by simpa [PyData.hasDict] using hd
      obtain ⟨g1, g2⟩ := dpAll_of' sr n ws ds vs h hd' h2
      exact ⟨.tup h1 g1, by simpa [PyData.canLay0] using g2⟩
    | ob k =>
      obtain ⟨a, e, ha⟩ := r.ob_inv
      subst e
      simp only [rd] at h
      split at h
      · rename_i xs hx
        simp only [Option.map_eq_some_iff] at h
        obtain ⟨ds, h, e⟩ := h
        subst e
        obtain ⟨b, hb, vs, h1, h2⟩ := sr.obj k _ hx
        rw [ha] at hb; cases hb
        have hd' : PyData.hasDictAll ds = false := by simpa [PyData.hasDict] using hd
        obtain ⟨g1, g2⟩ := dpAll_of' sr n xs ds vs h hd' h2
        exact ⟨.lst (.inl (.inl h1)) g1, by simpa [PyData.canLay0] using g2⟩
      · rename_i xs hx
        simp only [Option.map_eq_some_iff] at h
        obtain ⟨ds, h, e⟩ := h
        subst e
        obtain ⟨b, hb, vs, h1, h2⟩ := sr.obj k _ hx
        rw [ha] at hb; cases hb
        have hd' : PyData.hasDictAll ds = false := by simpa [PyData.hasDict] using hd
        obtain ⟨g1, g2⟩ := dpAll_of' sr n xs ds vs h hd' h2
        exact ⟨.lst h1.sql g1, by simpa [PyData.canLay0] using g2⟩
      · cases h; simp [PyData.hasDict] at hd
      · cases h
where dpAll_of' (sr : SR K cl ι H S) (n : Nat) : ∀ (ws : List W) (ds : List PyData) (vs : List V), mapO (rd S n) ws = some ds → PyData.hasDictAll ds = false → VRs K ι H ws vs → DpAll K H vs ds ∧ PyData.canLayAll0 ds = true
  | [], ds, vs, h, _, r => by
    simp [mapO] at h; subst h
    rw [r.nil_inv]; exact ⟨.nil, by simp [PyData.canLayAll0]⟩
  | w :: ws, ds, vs, h, hd, r => by
    obtain ⟨v, rest, rfl, r1, r2⟩ := r.cons_inv
    simp only [mapO] at h
    split at h
    · cases h
    · rename_i y hy
      split at h
      · cases h
      · rename_i zs hz
        cases h
        simp only [PyData.hasDictAll, Bool.or_eq_false_iff] at hd
        obtain ⟨a1, a2⟩ := rd_ok sr n w y v hy hd.1 r1
        obtain ⟨b1, b2⟩ := dpAll_of' sr n ws zs rest hz hd.2 r2
        exact ⟨.cons a1 b1, by simp [PyData.canLayAll0, a2, b2]⟩
/-- how deep -/
theorem rd_deep : ∀ (n : Nat) (w : W) (d : PyData), rd S n w = some d → d.depth ≤ n
  | 0, w, d, h => by simp [rd] at h
  | n + 1, w, d, h => by
    have all : ∀ (ws : List W) (ds : List PyData), mapO (rd S n) ws = some ds → PyData.depthAll ds ≤ n := by
      intro ws
      induction ws with
      | nil => intro ds h; simp [mapO] at h; subst h; simp [PyData.depthAll]
      | cons w ws ih =>
        intro ds h
        simp only [mapO] at h
        split at h
        · cases h
        · rename_i y hy
          split at h
          · cases h
          · rename_i zs hz
            cases h
            have := rd_deep n w y hy
            have := ih zs hz
            simp only [PyData.depthAll]
            omega
    cases w with
    | un => simp [rd] at h
    | non => simp [rd] at h; subst h; simp [PyData.depth]
    | bl b => simp [rd] at h; subst h; simp [PyData.depth]
    | int b => simp [rd] at h; subst h; simp [PyData.depth]
    | str b => simp [rd] at h; subst h; simp [PyData.depth]
    | tup ws =>
      simp only [rd, Option.map_eq_some_iff] at h
      obtain ⟨ds, h, e⟩ := h
      subst e
      have := all ws ds h
      simp only [PyData.depth]; omega
    | ob k =>
      simp only [rd] at h
      split at h
      · simp only [Option.map_eq_some_iff] at h
        obtain ⟨ds, h, e⟩ := h
        subst e
        have := all _ ds h
        simp only [PyData.depth]; omega
      · simp only [Option.map_eq_some_iff] at h
        obtain ⟨ds, h, e⟩ := h
        subst e
        have := all _ ds h
        simp only [PyData.depth]; omega
      · cases h; simp [PyData.depth, PyData.depthKv]
      · cases h
mutual
theorem canLay_noDict : ∀ (d : PyData), d.canLay0 = true → d.hasDict = false
  | .none, _ => by simp [PyData.hasDict]
  | .bool _, _ => by simp [PyData.hasDict]
  | .int _, _ => by simp [PyData.hasDict]
  | .str _, _ => by simp [PyData.hasDict]
  | .list xs, h => by
    simp only [PyData.hasDict]
    exact canLay_noDicts xs (by simpa [PyData.canLay0] using h)
  | .tuple xs, h => by
    simp only [PyData.hasDict]
    exact canLay_noDicts xs (by simpa [PyData.canLay0] using h)
  | .dict _, h => by simp [PyData.canLay0] at h
theorem canLay_noDicts : ∀ (ds : List PyData), PyData.canLayAll0 ds = true → PyData.hasDictAll ds = false
  | [], _ => by simp [PyData.hasDictAll]
  | d :: ds, h => by
    simp only [PyData.canLayAll0, Bool.and_eq_true] at h
    simp only [PyData.hasDictAll, canLay_noDict d h.1, canLay_noDicts ds h.2, Bool.or_self]
end
end
end At

set_option Elab.async false
set_option linter.all false
set_option maxRecDepth 100000
set_option maxHeartbeats 2000000
/-! AtE: comparisons, truth, repr, subscripts, stores, built-in calls and methods. -/
namespace At
open PySem PySem.Spec PyProof.Rows L2

def coOf : CO → CmpOp
  | .eq => .Eq | .ne => .NotEq | .lt => .Lt | .le => .LtE | .gt => .Gt | .ge => .GtE | .isn => .Is | .notn => .IsNot | .inn => .In | .nin => .NotIn
section
variable {X : Cx} {cl : Nm → Option Addr} {E : XK}
theorem eqS {a b : List Nat} : decide (V.str (toS a) = V.str (toS b)) = decide (a = b) := by
  by_cases h : a = b
  · subst h; simp
  · rw [decide_eq_false h, decide_eq_false fun e => h (toS_inj (V.str.inj e))]
theorem eqI {a b : Int} : decide (V.int a = V.int b) = decide (a = b) := by
  by_cases h : a = b
  · subst h; simp
  · rw [decide_eq_false h, decide_eq_false fun e => h (V.int.inj e)]
theorem eqB {a b : Bool} : decide (V.bl a = V.bl b) = (a == b) := dec_bl
/-- == by data -/
theorem eq_data (hu : X.A.units + 200 < cLine) {pins : List (Addr × Obj)} {s : Shared} {σ : L2.St} {H : Hp} {ι : List Addr} {S : Sto} {w1 w2 : W} {x y : V} {v u : Value} {d e : PyData} (I : Inv X pins σ H s) (rx : RelV x v) (ry : RelV y u)
    (sr : SR X.K cl ι H S) (r1 : VR X.K ι H w1 x) (r2 : VR X.K ι H w2 y) (h1 : rd S DEEP w1 = some d) (h2 : rd S DEEP w2 = some e) (c1 : d.canLay0 = true) (c2 : e.canLay0 = true) {Q : VK} (q : Q (.bl (PyData.eqv d e)) H) (q2 : Q (.bl (!PyData.eqv d e)) H ∨ True) :
    wpAny (model X.prog X.w) X.A (compareOp .Eq v u) (EP X pins σ Q) X.xe s := by
  obtain ⟨d1, _⟩ := rd_ok sr DEEP w1 d x h1 (canLay_noDict d c1) r1
  obtain ⟨d2, _⟩ := rd_ok sr DEEP w2 e y h2 (canLay_noDict e c2) r2
  obtain ⟨as, a1⟩ := Dp.reads I d x v d1 rx
  obtain ⟨bs, a2⟩ := Dp.reads I e y u d2 ry
  have := rd_deep DEEP w1 d h1
  have hD : DEEP = 150 := rfl
  exact SeqAt.compareEq_reads a1 a2 c1 c2 (by omega) ⟨.bl _, H, I, rfl, q⟩
theorem ne_data (hu : X.A.units + 200 < cLine) {pins : List (Addr × Obj)} {s : Shared} {σ : L2.St} {H : Hp} {ι : List Addr} {S : Sto} {w1 w2 : W} {x y : V} {v u : Value} {d e : PyData} (I : Inv X pins σ H s) (rx : RelV x v) (ry : RelV y u)
    (sr : SR X.K cl ι H S) (r1 : VR X.K ι H w1 x) (r2 : VR X.K ι H w2 y) (h1 : rd S DEEP w1 = some d) (h2 : rd S DEEP w2 = some e) (c1 : d.canLay0 = true) (c2 : e.canLay0 = true) {Q : VK} (q : Q (.bl (!PyData.eqv d e)) H) :
    wpAny (model X.prog X.w) X.A (compareOp .NotEq v u) (EP X pins σ Q) X.xe s := by
  obtain ⟨d1, _⟩ := rd_ok sr DEEP w1 d x h1 (canLay_noDict d c1) r1
  obtain ⟨d2, _⟩ := rd_ok sr DEEP w2 e y h2 (canLay_noDict e c2) r2
  obtain ⟨as, a1⟩ := Dp.reads I d x v d1 rx
  obtain ⟨bs, a2⟩ := Dp.reads I e y u d2 ry
  have := rd_deep DEEP w1 d h1
  have hD : DEEP = 150 := rfl
  exact SeqAt.compareNe_reads a1 a2 c1 c2 (by omega) ⟨.bl _, H, I, rfl, q⟩
theorem eqW_data {S : Sto} {w1 w2 : W} {b : Bool} (h : (match rd S DEEP w1, rd S DEEP w2 with
    | some d, some e => if d.canLay0 && e.canLay0 then some (PyData.eqv d e) else none
    | _, _ => none) = some b) : ∃ d e, rd S DEEP w1 = some d ∧ rd S DEEP w2 = some e ∧ d.canLay0 = true ∧ e.canLay0 = true ∧ b = PyData.eqv d e := by
  split at h
  · rename_i d e h1 h2
    split at h
    · rename_i hc
      rw [Bool.and_eq_true] at hc
      cases h
      exact ⟨d, e, h1, h2, hc.1, hc.2, rfl⟩
    · cases h
  · cases h
/-- what eqW tells: by the scalars' rule, or by data -/
theorem eqW_cases {S : Sto} {w1 w2 : W} {b : Bool} (h : eqW S w1 w2 = some b) {K : PySem.W.Frag} {ι : List Addr} {H : Hp} {x y : V} (r1 : VR K ι H w1 x) (r2 : VR K ι H w2 y) :
    (scal x y = true ∧ b = decide (x = y)) ∨ ∃ d e, rd S DEEP w1 = some d ∧ rd S DEEP w2 = some e ∧ d.canLay0 = true ∧ e.canLay0 = true ∧ b = PyData.eqv d e := by
  unfold eqW at h
  split at h
  · cases h; rw [r1.int_inv, r2.int_inv]; exact .inl ⟨rfl, eqI.symm⟩
  · cases h; rw [r1.str_inv.1, r2.str_inv.1]; exact .inl ⟨rfl, eqS.symm⟩
  · cases h; rw [r1.non_inv, r2.non_inv]; exact .inl ⟨rfl, by simp⟩
  · cases h; rw [r1.bl_inv, r2.bl_inv]; exact .inl ⟨rfl, eqB.symm⟩
  · cases h; rw [r1.non_inv, r2.int_inv]; exact .inl ⟨rfl, by simp⟩
  · cases h; rw [r1.int_inv, r2.non_inv]; exact .inl ⟨rfl, by simp⟩
  · cases h; rw [r1.non_inv, r2.str_inv.1]; exact .inl ⟨rfl, by simp⟩
  · cases h; rw [r1.str_inv.1, r2.non_inv]; exact .inl ⟨rfl, by simp⟩
  · cases h; rw [r1.int_inv, r2.str_inv.1]; exact .inl ⟨rfl, by simp⟩
  · cases h; rw [r1.str_inv.1, r2.int_inv]; exact .inl ⟨rfl, by simp⟩
  · exact .inr (eqW_data h)
theorem flat_V {K : PySem.W.Frag} {ι : List Addr} {H : Hp} {w : W} {x : V} (r : VR K ι H w x) (f : flatW w = true) : flatV x = true := by
  cases w with
  | non => rw [r.non_inv]; rfl
  | bl b => rw [r.bl_inv]; rfl
  | int i => rw [r.int_inv]; rfl
  | str s => rw [r.str_inv.1]; rfl
  | _ => cases f
theorem flat_eq {K : PySem.W.Frag} {ι : List Addr} {H : Hp} {w1 w2 : W} {x y : V} (r1 : VR K ι H w1 x) (r2 : VR K ι H w2 y) (f1 : flatW w1 = true) (f2 : flatW w2 = true) : eqV x y = eqF w1 w2 := by
  have hs : ∀ a b : List Nat, (toS a == toS b) = decide (a = b) := fun a b => by
    by_cases h : a = b
    · subst h; simp
    · rw [decide_eq_false h]; exact beq_eq_false_iff_ne.mpr fun e => h (toS_inj e)
  cases w1 with
  | non =>
    rw [r1.non_inv]
    cases w2 with
    | non => rw [r2.non_inv]; rfl
    | bl b => rw [r2.bl_inv]; rfl
    | int i => rw [r2.int_inv]; rfl
    | str s => rw [r2.str_inv.1]; rfl
    | _ => cases f2
  | bl b =>
    rw [r1.bl_inv]
    cases w2 with
    | non => rw [r2.non_inv]; rfl
    | bl b => rw [r2.bl_inv]; rfl
    | int i => rw [r2.int_inv]; rfl
    | str s => rw [r2.str_inv.1]; rfl
    | _ => cases f2
  | int i =>
    rw [r1.int_inv]
    cases w2 with
    | non => rw [r2.non_inv]; rfl
    | bl b => rw [r2.bl_inv]; rfl
    | int i => rw [r2.int_inv]; show (_ == _) = _; rw [Bool.beq_eq_decide_eq]; rfl
    | str s => rw [r2.str_inv.1]; rfl
    | _ => cases f2
  | str s =>
    rw [r1.str_inv.1]
    cases w2 with
    | non => rw [r2.non_inv]; rfl
    | bl b => rw [r2.bl_inv]; rfl
    | int i => rw [r2.int_inv]; rfl
    | str s => rw [r2.str_inv.1]; exact hs _ _
    | _ => cases f2
  | _ => cases f1
theorem flat_all {K : PySem.W.Frag} {ι : List Addr} {H : Hp} {w : W} {x : V} (r : VR K ι H w x) (f : flatW w = true) : ∀ {ws : List W} {vs : List V}, VRs K ι H ws vs → ws.all flatW = true → vs.all flatV = true ∧ inV x vs = ws.any fun y => eqF y w
  | [], vs, h, _ => by rw [h.nil_inv]; exact ⟨rfl, rfl⟩
  | w' :: ws, vs, h, g => by
    obtain ⟨v, r', rfl, h1, h2⟩ := h.cons_inv
    rw [List.all_cons, Bool.and_eq_true] at g
    obtain ⟨a, b⟩ := flat_all r f h2 g.2
    refine ⟨by rw [List.all_cons, flat_V h1 g.1, a]; rfl, ?_⟩
    unfold inV at b ⊢
    rw [List.any_cons, List.any_cons, b, flat_eq h1 r g.1 f]
theorem in_items {K : PySem.W.Frag} {ι : List Addr} {H : Hp} {S : Sto} {w : W} {ws : List W} {x : V} {vs : List V} {b : Bool} (h : inItems S w ws = some b) (r : VR K ι H w x) (rs : VRs K ι H ws vs) :
    flatV x = true ∧ vs.all flatV = true ∧ b = inV x vs := by
  unfold inItems at h
  split at h
  · rename_i hc
    rw [Bool.and_eq_true] at hc
    cases h
    obtain ⟨a, e⟩ := flat_all r hc.1 rs hc.2
    exact ⟨flat_V r hc.1, a, e.symm⟩
  · cases h
/-- in -/
theorem in_ok {pins : List (Addr × Obj)} {s : Shared} {σ : L2.St} {H : Hp} {ι : List Addr} {S : Sto} {w1 w2 : W} {x y : V} {v u : Value} {b : Bool} {Q : VK} (I : Inv X pins σ H s) (rx : RelV x v) (ry : RelV y u)
    (sr : SR X.K cl ι H S) (r1 : VR X.K ι H w1 x) (r2 : VR X.K ι H w2 y) (h : inW S w1 w2 = some b) :
    (Q (.bl b) H → wpAny (model X.prog X.w) X.A (compareOp .In v u) (EP X pins σ Q) X.xe s) ∧ (Q (.bl (!b)) H → wpAny (model X.prog X.w) X.A (compareOp .NotIn v u) (EP X pins σ Q) X.xe s) := by
  have seq : ∀ {ws : List W} {vs : List V} {a : Addr}, y = .ref a → (SqL X.K H a vs ∨ SqT X.K H a vs) → VRs X.K ι H ws vs → inItems S w1 ws = some b →
      (Q (.bl b) H → wpAny (model X.prog X.w) X.A (compareOp .In v u) (EP X pins σ Q) X.xe s) ∧ (Q (.bl (!b)) H → wpAny (model X.prog X.w) X.A (compareOp .NotIn v u) (EP X pins σ Q) X.xe s) := fun {ws vs a} e hs rs hi => by
    obtain ⟨f1, f2, e2⟩ := in_items hi r1 rs
    subst e2
    exact ⟨fun q => op_in_seq pins s σ H x y v u Q I rx ry ⟨a, vs, e, hs, f1, f2, q⟩, fun q => op_notIn_seq pins s σ H x y v u Q I rx ry ⟨a, vs, e, hs, f1, f2, q⟩⟩
  unfold inW at h
  split at h
  · rename_i bs
    split at h
    · rename_i as
      cases h
      have e1 := r1.str_inv.1
      have e2 := r2.str_inv.1
      unfold inStr
      split
      · rename_i c
        have e3 : toS [c] = ⟨#[c]⟩ := rfl
        rw [e3] at e1
        refine ⟨fun q => op_in_sign pins s σ H x y v u Q I rx ry ⟨c, toS bs, e1, e2, by rw [toS_cps]; exact q⟩, fun q => op_notIn_sign pins s σ H x y v u Q I rx ry ⟨c, toS bs, e1, e2, by rw [toS_cps]; exact q⟩⟩
      · exact ⟨fun q => op_in_str pins s σ H x y v u Q I rx ry ⟨_, _, e1, e2, q⟩, fun q => op_notin_str pins s σ H x y v u Q I rx ry ⟨_, _, e1, e2, q⟩⟩
    · cases h
  · rename_i ys
    obtain ⟨a, vs, e, h1, h2⟩ := r2.tup_inv
    exact seq e (.inr h1) h2 h
  · rename_i n
    obtain ⟨a, e, ha⟩ := r2.ob_inv
    split at h
    · rename_i ys hy
      obtain ⟨b', hb, vs, h1, h2⟩ := sr.obj n _ hy
      rw [ha] at hb; cases hb
      exact seq e (.inl (.inl (.inl h1))) h2 h
    · rename_i ys hy
      obtain ⟨b', hb, vs, h1, h2⟩ := sr.obj n _ hy
      rw [ha] at hb; cases hb
      exact seq e (.inl h1.sql) h2 h
    · cases h
  · cases h
theorem op_cmp (hu : X.A.units + 200 < cLine) (op : CO) : OpR X (compareOp (coOf op)) (r2 X.K cl E (cmpM op)) := by
  intro pins s σ H x y v u Q I rx ry h
  obtain ⟨ι, S, w1, w2, sr, r1, r2, hr⟩ := h
  unfold cmpM at hr
  split at hr
  · rename_i b hb
    have hq := hr.bl sr
    cases op with
    | eq =>
      rcases eqW_cases hb r1 r2 with ⟨h1, e⟩ | ⟨d, e, h1, h2, c1, c2, e'⟩
      · subst e; exact op_eq pins s σ H x y v u Q I rx ry ⟨h1, hq⟩
      · subst e'; exact eq_data hu I rx ry sr r1 r2 h1 h2 c1 c2 hq (.inr trivial)
    | ne =>
      have hb' : (eqW S w1 w2).map (!·) = some b := hb
      rw [Option.map_eq_some_iff] at hb'
      obtain ⟨b0, hb', e0⟩ := hb'
      subst e0
      rcases eqW_cases hb' r1 r2 with ⟨h1, e⟩ | ⟨d, e, h1, h2, c1, c2, e'⟩
      · subst e; exact op_ne pins s σ H x y v u Q I rx ry ⟨h1, hq⟩
      · subst e'; exact ne_data hu I rx ry sr r1 r2 h1 h2 c1 c2 hq
    | lt =>
      cases w1 with
      | int a =>
        cases w2 with
        | int c => cases hb; rw [r1.int_inv] at rx; rw [r2.int_inv] at ry; exact op_lt pins s σ H _ _ v u Q I rx ry ⟨a, c, rfl, rfl, hq⟩
        | _ => cases hb
      | _ => cases w2 <;> cases hb
    | le =>
      cases w1 with
      | int a =>
        cases w2 with
        | int c => cases hb; rw [r1.int_inv] at rx; rw [r2.int_inv] at ry; exact op_le pins s σ H _ _ v u Q I rx ry ⟨a, c, rfl, rfl, hq⟩
        | _ => cases hb
      | _ => cases w2 <;> cases hb
    | gt =>
      cases w1 with
      | int a =>
        cases w2 with
        | int c => cases hb; rw [r1.int_inv] at rx; rw [r2.int_inv] at ry; exact op_gt pins s σ H _ _ v u Q I rx ry ⟨a, c, rfl, rfl, hq⟩
        | _ => cases hb
      | _ => cases w2 <;> cases hb
    | ge =>
      cases w1 with
      | int a =>
        cases w2 with
        | int c => cases hb; rw [r1.int_inv] at rx; rw [r2.int_inv] at ry; exact op_ge pins s σ H _ _ v u Q I rx ry ⟨a, c, rfl, rfl, hq⟩
        | _ => cases hb
      | _ => cases w2 <;> cases hb
    | isn =>
      cases w2 with
      | non =>
        have hb' : some (decide (w1 = .non)) = some b := by cases w1 <;> exact hb
        cases hb'
        have hx : decide (x = V.non) = decide (w1 = .non) := by
          cases w1 with
          | un => exact r1.un_inv.elim
          | non => rw [r1.non_inv]; rfl
          | bl b => rw [r1.bl_inv]; rfl
          | int b => rw [r1.int_inv]; rfl
          | str b => rw [r1.str_inv.1]; rfl
          | tup b => obtain ⟨_, _, e, _⟩ := r1.tup_inv; rw [e]; rfl
          | ob b => obtain ⟨_, e, _⟩ := r1.ob_inv; rw [e]; rfl
        exact op_isN pins s σ H x y v u Q I rx ry ⟨r2.non_inv, by rw [hx]; exact hq⟩
      | _ => cases w1 <;> cases hb
    | notn =>
      cases w2 with
      | non =>
        have hb' : some (!decide (w1 = .non)) = some b := by cases w1 <;> exact hb
        cases hb'
        have hx : decide (x = V.non) = decide (w1 = .non) := by
          cases w1 with
          | un => exact r1.un_inv.elim
          | non => rw [r1.non_inv]; rfl
          | bl b => rw [r1.bl_inv]; rfl
          | int b => rw [r1.int_inv]; rfl
          | str b => rw [r1.str_inv.1]; rfl
          | tup b => obtain ⟨_, _, e, _⟩ := r1.tup_inv; rw [e]; rfl
          | ob b => obtain ⟨_, e, _⟩ := r1.ob_inv; rw [e]; rfl
        exact op_notN pins s σ H x y v u Q I rx ry ⟨r2.non_inv, by rw [hx]; exact hq⟩
      | _ => cases w1 <;> cases hb
    | inn =>
      have hb' : inW S w1 w2 = some b := by cases w1 <;> exact hb
      exact (in_ok I rx ry sr r1 r2 hb').1 hq
    | nin =>
      have hb' : (inW S w1 w2).map (!·) = some b := by cases w1 <;> exact hb
      rw [Option.map_eq_some_iff] at hb'
      obtain ⟨b0, hb', e0⟩ := hb'
      subst e0
      exact (in_ok I rx ry sr r1 r2 hb').2 hq
  · exact (hr : False).elim
/-- truth -/
theorem tru_V {K : PySem.W.Frag} {cl : Nm → Option Addr} {ι : List Addr} {H : Hp} {S : Sto} {w : W} {x : V} {b : Bool} (sr : SR K cl ι H S) (r : VR K ι H w x) (h : truW S w = some b) : TruV K x H b := by
  cases w with
  | un => cases h
  | non => cases h; rw [r.non_inv]; rfl
  | bl b => cases h; rw [r.bl_inv]; rfl
  | int i => cases h; rw [r.int_inv]; rfl
  | str s =>
    cases h
    obtain ⟨e, o⟩ := r.str_inv
    rw [e]
    refine ⟨by rw [toS_len, line_eq]; exact o.1, ?_⟩
    rw [toS_len]
    cases s with
    | nil => rfl
    | cons c s =>
      have : ((c :: s).length : Int) ≠ 0 := by rw [List.length_cons]; omega
      show true = _
      exact (bne_iff_ne.mpr this).symm
  | tup xs =>
    cases h
    obtain ⟨a, vs, e, h1, h2⟩ := r.tup_inv
    rw [e]
    refine .inr (.inl ⟨vs, h1, ?_⟩)
    have := h2.length
    cases xs <;> cases vs <;> simp_all
  | ob n =>
    obtain ⟨a, e, ha⟩ := r.ob_inv
    rw [e]
    have fin : ∀ {ws : List W} {vs : List V}, VRs K ι H ws vs → (!ws.isEmpty) = !vs.isEmpty := fun {ws vs} h => by
      have := h.length
      cases ws <;> cases vs <;> simp_all
    simp only [truW] at h
    split at h
    · rename_i ys hy
      cases h
      obtain ⟨b', hb, vs, h1, h2⟩ := sr.obj n _ hy
      rw [ha] at hb; cases hb
      exact .inl ⟨vs, .inl (.inl h1), fin h2⟩
    · rename_i ys hy
      cases h
      obtain ⟨b', hb, vs, h1, h2⟩ := sr.obj n _ hy
      rw [ha] at hb; cases hb
      exact .inl ⟨vs, h1.sql, fin h2⟩
    · cases h
end
end At

set_option Elab.async false
set_option linter.all false
set_option maxRecDepth 100000
set_option maxHeartbeats 2000000
/-! AtF: subscripts, slices, stores by place, built-in calls, methods. -/
namespace At
open PySem PySem.Spec PyProof.Rows L2

section
variable {X : Cx} {cl : Nm → Option Addr} {E : XK}
theorem atI_map {K : PySem.W.Frag} {ι : List Addr} {H : Hp} {ws : List W} {vs : List V} {i : Int} {w : W} (r : VRs K ι H ws vs) (h : atI ws i = some w) : ∃ v, atI vs i = some v ∧ VR K ι H w v := by
  unfold atI at h ⊢
  rw [← r.length]
  cases e : ixN ws.length i with
  | none => rw [e] at h; cases h
  | some j =>
    rw [e] at h
    obtain ⟨v, a, b⟩ := r.get (i := j) (w := w) h
    exact ⟨v, a, b⟩
theorem optM_ok {α : Type} {o : Option α} {S S' : Sto} {a : α} (h : optM o S = .ok a S') : o = some a ∧ S' = S := by
  cases o with
  | none => cases h
  | some x => cases h; exact ⟨rfl, rfl⟩
theorem optM_ex {α : Type} {o : Option α} {S S' : Sto} {c : Nm} {fs : List (Nm × W)} (h : optM o S = .ex c fs S') : False := by
  cases o <;> cases h
theorem items_ex {n : Nat} {S S' : Sto} {c : Nm} {fs : List (Nm × W)} (h : itemsOf n S = .ex c fs S') : False := by
  unfold itemsOf at h; split at h <;> cases h
/-- what a list read first gives -/
theorem Res.items {α : Type} {K : PySem.W.Frag} {ι : List Addr} {H : Hp} {n : Nat} {S : Sto} {f : List W → Sto → R α} {Q : α → Sto → List Addr → Hp → Prop} {v : V} (h : Res K cl ((itemsOf n S).bind f) ι H Q E) (sr : SR K cl ι H S) (r : VR K ι H (.ob n) v) :
    ∃ xs a vs, v = .ref a ∧ SqL K H a vs ∧ VRs K ι H xs vs ∧ itemsOf n S = .ok xs S ∧ Res K cl (f xs S) ι H Q E := by
  cases hx : itemsOf n S with
  | bad => rw [hx] at h; exact (h : False).elim
  | ex _ _ _ => exact (items_ex hx).elim
  | ok xs S1 =>
    rw [hx] at h
    obtain ⟨e, a, vs, e2, h1, h2⟩ := items_ok sr hx r
    subst e
    exact ⟨xs, a, vs, e2, h1, h2, rfl, h⟩
theorem Res.opt {α β : Type} {K : PySem.W.Frag} {ι : List Addr} {H : Hp} {S : Sto} {o : Option β} {f : β → Sto → R α} {Q : α → Sto → List Addr → Hp → Prop} (h : Res K cl ((optM o S).bind f) ι H Q E) : ∃ b, o = some b ∧ Res K cl (f b S) ι H Q E := by
  cases o with
  | none => exact (h : False).elim
  | some b => exact ⟨b, rfl, h⟩
theorem Res.opt1 {β : Type} {K : PySem.W.Frag} {ι : List Addr} {H : Hp} {S : Sto} {o : Option β} {Q : β → Sto → List Addr → Hp → Prop} (h : Res K cl (optM o S) ι H Q E) : ∃ b, o = some b ∧ Res K cl (.ok b S : R β) ι H Q E := by
  cases o with
  | none => exact (h : False).elim
  | some b => exact ⟨b, rfl, h⟩
theorem ix_ok : IxR X (r2 X.K cl E ixM) := by
  intro value slice pins s σ H x y v u Q I rx ry h hs
  obtain ⟨ι, S, w1, w2, sr, r1, r2, hr⟩ := h
  cases w2 with
  | int i =>
    have ey := r2.int_inv
    cases w1 with
    | str a =>
      obtain ⟨e1, o1⟩ := r1.str_inv
      simp only [ixM] at hr
      obtain ⟨b, hb, hr⟩ := Res.opt1 hr
      rw [Option.map_eq_some_iff] at hb
      obtain ⟨c, hc, e⟩ := hb
      subst e
      refine ix_str value slice pins s σ H x y v u Q I rx ry ⟨toS a, i, c, e1, ey, by rw [toS_len, line_eq]; exact o1.1, by rw [toS_cps]; exact hc, ?_⟩ hs
      have hmem : c ∈ a := by
        obtain ⟨j, _, h2, _⟩ := atI_get hc
        exact List.mem_of_getElem? h2
      exact hr.str sr ⟨by simp [LINE], fun d hd => by
        have : d = c := by simpa using hd
        rw [this]; exact o1.2 c hmem⟩
    | tup ws =>
      obtain ⟨a, vs, e, h1, h2⟩ := r1.tup_inv
      simp only [ixM] at hr
      obtain ⟨b, hb, hr⟩ := Res.opt1 hr
      obtain ⟨z, hz, rz⟩ := atI_map h2 hb
      exact ix_tup value slice pins s σ H x y v u Q I rx ry ⟨a, vs, i, z, e, ey, h1, hz, hr.val sr rz⟩ hs
    | ob n =>
      simp only [ixM] at hr
      obtain ⟨xs, a, vs, e, h1, h2, _, hr⟩ := Res.items hr sr r1
      obtain ⟨b, hb, hr⟩ := Res.opt1 hr
      obtain ⟨z, hz, rz⟩ := atI_map h2 hb
      exact ix_list value slice pins s σ H x y v u Q I rx ry ⟨a, vs, i, z, e, ey, h1, hz, hr.val sr rz⟩ hs
    | _ => exact (hr : False).elim
  | _ => cases w1 <;> exact (hr : False).elim
def rSli (K : PySem.W.Frag) (cl : Nm → Option Addr) (E : XK) : V → Option Int → Option Int → Hp → VK → Prop := fun x lo hi H Q =>
  ∃ (ι : List Addr) (S : Sto) (w : W), SR K cl ι H S ∧ VR K ι H w x ∧ Res K cl (sliM w lo hi S) ι H (EQ K Q) E
theorem cutL_len {α : Type} (xs : List α) (lo hi : Option Int) : (cutL xs lo hi).length ≤ xs.length := by
  unfold cutL
  rw [List.length_take, List.length_drop]
  omega
theorem cutL_mem {α : Type} {xs : List α} {lo hi : Option Int} {a : α} (h : a ∈ cutL xs lo hi) : a ∈ xs := List.mem_of_mem_drop (List.mem_of_mem_take h)
theorem sl_ok : SlR X (rSli X.K cl E) := by
  intro pins s σ H x v vl vu lo hi sl Q I rx hs pl pu h
  obtain ⟨ι, S, w, sr, r, hr⟩ := h
  cases w with
  | str a =>
    obtain ⟨e, o⟩ := r.str_inv
    have ee : cutS (toS a) lo hi = toS (cutL a lo hi) := by
      unfold cutS cutL
      rw [toS_cps, toS_len]; rfl
    exact sl_str pins s σ H x v vl vu lo hi sl Q I rx hs pl pu ⟨toS a, e, by rw [toS_len, line_eq]; exact o.1, by
      rw [ee]; exact Res.str (show Res X.K cl (.ok (.str (cutL a lo hi)) S) ι H (EQ X.K Q) E from hr) sr (sok_sub o (cutL_len _ _ _) fun c hc => cutL_mem hc)⟩
  | tup ws =>
    obtain ⟨a, vs, e, h1, h2⟩ := r.tup_inv
    have hr' : Res X.K cl (.ok (.tup (cutL ws lo hi)) S) ι H (EQ X.K Q) E := hr
    refine sl_tupA pins s σ H x v vl vu lo hi sl Q I rx hs pl pu ⟨a, vs, e, h1, fun hw => ?_, fun hw p hp => Res.tup hr' sr (h2.cut lo hi) hp⟩
    have : cutL ws lo hi = ws := by
      unfold cutL
      rw [h2.length, hw.1, hw.2, List.drop_zero, Nat.sub_zero]
      exact List.take_of_length_le (Nat.le_of_eq h2.length)
    rw [this] at hr'
    rw [← e]
    exact hr'.val sr r
  | ob n =>
    simp only [sliM] at hr
    obtain ⟨xs, a, vs, e, h1, h2, _, hr⟩ := Res.items hr sr r
    exact sl_list pins s σ H x v vl vu lo hi sl Q I rx hs pl pu ⟨a, vs, e, h1, fun p hp => Res.lst hr sr (h2.cut lo hi) hp⟩
  | _ => exact (hr : False).elim
/-- a[i] = v -/
def rSetW (K : PySem.W.Frag) (cl : Nm → Option Addr) (E : XK) : V → V → V → Hp → (Hp → Prop) → Prop := fun o i v H Q =>
  ∃ (ι : List Addr) (S : Sto) (w1 w2 w3 : W), SR K cl ι H S ∧ VR K ι H w1 o ∧ VR K ι H w2 i ∧ VR K ι H w3 v ∧ Res K cl (setM w1 w2 w3 S) ι H (fun _ _ _ H' => Q H') E
theorem Res.get {α : Type} {K : PySem.W.Frag} {ι : List Addr} {H : Hp} {n : Nat} {S : Sto} {f : O → Sto → R α} {Q : α → Sto → List Addr → Hp → Prop} (h : Res K cl ((getO n S).bind f) ι H Q E) : ∃ o, S[n]? = some o ∧ Res K cl (f o S) ι H Q E := by
  unfold getO at h
  cases e : S[n]? with
  | none => rw [e] at h; exact (h : False).elim
  | some o => rw [e] at h; exact ⟨o, rfl, h⟩
theorem put_lst {K : PySem.W.Frag} {ι : List Addr} {H : Hp} {S : Sto} {n : Nat} {xs ys : List W} {vs : List V} {a : Addr} (sr : SR K cl ι H S) (hn : S[n]? = some (.lst xs)) (ha : ι[n]? = some a) (hH : ∃ us, H a = some (.lst us)) (r : VRs K ι H ys vs) :
    Ext ι H ι (upd H a (.lst vs)) ∧ SR K cl ι (upd H a (.lst vs)) (S.set n (.lst ys)) := by
  obtain ⟨us, hH⟩ := hH
  have e : Ext ι H ι (upd H a (.lst vs)) := ext_put hH (fun _ z => nomatch z) fun _ _ z => nomatch z
  exact ⟨e, sr.put hn rfl ha hH (fun _ z => nomatch z) (fun _ _ z => nomatch z) rfl ⟨vs, upd_same, VRs.ext e ys r⟩⟩
theorem set_ok : PSet X (rSetW X.K cl E) := by
  intro pins s σ H o i v ov iv u Q I ro ri rv h
  obtain ⟨ι, S, w1, w2, w3, sr, r1, r2, r3, hr⟩ := h
  cases w1 with
  | ob n =>
    cases w2 with
    | int k =>
      simp only [setM] at hr
      obtain ⟨ob, ho, hr⟩ := Res.get hr
      cases ob with
      | lst xs =>
        cases hj : ixN xs.length k with
        | none => simp only [hj] at hr; exact (hr : False).elim
        | some j =>
          simp only [hj] at hr
          obtain ⟨a, ea, ha⟩ := r1.ob_inv
          obtain ⟨b, hb, vs, h1, h2⟩ := sr.obj n _ ho
          rw [ha] at hb; cases hb
          have hl := h2.length
          obtain ⟨ex, sr'⟩ := put_lst sr ho ha ⟨vs, h1⟩ (h2.set j r3)
          exact set_list pins s σ H o i v ov iv u Q I ro ri rv ⟨a, vs, k, j, ea, r2.int_inv, h1, by rw [← hl]; exact hj, hr ι _ ex sr'⟩
      | _ => exact (hr : False).elim
    | _ => exact (hr : False).elim
  | _ => cases w2 <;> exact (hr : False).elim
end

/-! ### built-in calls -/
/-- by values -/
def rN (K : PySem.W.Frag) (cl : Nm → Option Addr) (E : XK) (m : List W → M W) : List V → Hp → VK → Prop := fun vs H Q =>
  ∃ (ι : List Addr) (S : Sto) (ws : List W), SR K cl ι H S ∧ VRs K ι H ws vs ∧ Res K cl (m ws S) ι H (EQ K Q) E
section
variable {X : Cx} {cl : Nm → Option Addr} {E : XK}
theorem vr1 {K : PySem.W.Frag} {ι : List Addr} {H : Hp} {w : W} {vs : List V} (h : VRs K ι H [w] vs) : ∃ v, vs = [v] ∧ VR K ι H w v := by
  obtain ⟨v, r, e, h1, h2⟩ := h.cons_inv
  rw [h2.nil_inv] at e
  exact ⟨v, e, h1⟩
theorem len_ok : CallR X (.builtin "len") (rN X.K cl E len1) := by
  intro pins s σ H xs us Q I r h
  obtain ⟨ι, S, ws, sr, rs, hr⟩ := h
  unfold len1 at hr
  split at hr
  · rename_i w
    obtain ⟨x, e, rx⟩ := vr1 rs
    subst e
    cases w with
    | str a =>
      obtain ⟨e, o⟩ := rx.str_inv
      exact call_len pins s σ H _ us Q I r ⟨x, a.length, rfl, by rw [e]; exact ⟨by rw [toS_len, line_eq]; exact o.1, (toS_len a).symm⟩, Res.int hr sr⟩
    | tup ws =>
      obtain ⟨a, vs, e, h1, h2⟩ := rx.tup_inv
      exact call_len pins s σ H _ us Q I r ⟨x, ws.length, rfl, by rw [e]; exact .inr ⟨vs, h1, h2.length⟩, Res.int hr sr⟩
    | ob n =>
      obtain ⟨ys, a, vs, e, h1, h2, _, hr⟩ := Res.items hr sr rx
      exact call_len pins s σ H _ us Q I r ⟨x, ys.length, rfl, by rw [e]; exact .inl ⟨vs, h1, h2.length⟩, Res.int hr sr⟩
    | _ => exact (hr : False).elim
  · exact (hr : False).elim
theorem abs_ok : CallR X (.builtin "abs") (rN X.K cl E absM) := by
  intro pins s σ H xs us Q I r h
  obtain ⟨ι, S, ws, sr, rs, hr⟩ := h
  unfold absM at hr
  split at hr
  · rename_i i
    obtain ⟨x, e, rx⟩ := vr1 rs
    subst e
    rw [rx.int_inv] at r
    exact call_abs pins s σ H _ us Q I r ⟨i, rfl, Res.int hr sr⟩
  · exact (hr : False).elim
theorem int_ok : CallR X (.type "int") (rN X.K cl E intM) := by
  intro pins s σ H xs us Q I r h
  obtain ⟨ι, S, ws, sr, rs, hr⟩ := h
  unfold intM at hr
  split at hr
  · rename_i i
    obtain ⟨x, e, rx⟩ := vr1 rs
    subst e
    rw [rx.int_inv] at r
    exact call_int1 pins s σ H _ us Q I r (.inl ⟨i, rfl, Res.int hr sr⟩)
  · rename_i i
    obtain ⟨x, e, rx⟩ := vr1 rs
    subst e
    rw [rx.bl_inv] at r
    exact call_int1 pins s σ H _ us Q I r (.inr ⟨i, rfl, Res.int hr sr⟩)
  · exact (hr : False).elim
theorem bools_of {K : PySem.W.Frag} {ι : List Addr} {H : Hp} : ∀ {ws : List W} {bs : List Bool} {vs : List V}, bools ws = some bs → VRs K ι H ws vs → vs = bs.map V.bl
  | [], bs, vs, h, r => by cases h; rw [r.nil_inv]; rfl
  | w :: ws, bs, vs, h, r => by
    obtain ⟨v, r', rfl, h1, h2⟩ := r.cons_inv
    cases w with
    | bl b =>
      simp only [bools] at h
      split at h
      · rename_i cs hc
        cases h
        rw [h1.bl_inv, bools_of hc h2]; rfl
      · cases h
    | _ => cases h
theorem any_ok (hc : X.calm = true) : CallR X (.builtin "any") (rN X.K cl E anyM) := by
  intro pins s σ H xs us Q I r h
  obtain ⟨ι, S, ws, sr, rs, hr⟩ := h
  unfold anyM at hr
  split at hr
  · rename_i n
    obtain ⟨x, e, rx⟩ := vr1 rs
    subst e
    obtain ⟨ys, a, vs, e, h1, h2, _, hr⟩ := Res.items hr sr rx
    obtain ⟨bs, hb, hr⟩ := Res.opt hr
    have ev := bools_of hb h2
    subst ev
    rw [e] at r
    exact cr_any hc pins s σ H _ us Q I r ⟨a, bs, rfl, h1, Res.bl hr sr⟩
  · exact (hr : False).elim
theorem all_ok (hc : X.calm = true) : CallR X (.builtin "all") (rN X.K cl E allM) := by
  intro pins s σ H xs us Q I r h
  obtain ⟨ι, S, ws, sr, rs, hr⟩ := h
  unfold allM at hr
  split at hr
  · rename_i n
    obtain ⟨x, e, rx⟩ := vr1 rs
    subst e
    obtain ⟨ys, a, vs, e, h1, h2, _, hr⟩ := Res.items hr sr rx
    obtain ⟨bs, hb, hr⟩ := Res.opt hr
    have ev := bools_of hb h2
    subst ev
    rw [e] at r
    exact cr_all hc pins s σ H _ us Q I r ⟨a, bs, rfl, h1, Res.bl hr sr⟩
  · exact (hr : False).elim
theorem tup_ok : CallR X (.type "tuple") (rN X.K cl E tupM) := by
  intro pins s σ H xs us Q I r h
  obtain ⟨ι, S, ws, sr, rs, hr⟩ := h
  unfold tupM at hr
  split at hr
  · rename_i ys
    obtain ⟨x, e, rx⟩ := vr1 rs
    subst e
    obtain ⟨a, vs, e, h1, h2⟩ := rx.tup_inv
    have q := Res.val hr sr rx
    rw [e] at r q
    exact call_tuple_of pins s σ H _ us Q I r ⟨a, vs, rfl, .inr ⟨h1, q⟩⟩
  · rename_i n
    obtain ⟨x, e, rx⟩ := vr1 rs
    subst e
    obtain ⟨ys, a, vs, e, h1, h2, _, hr⟩ := Res.items hr sr rx
    rw [e] at r
    exact call_tuple_of pins s σ H _ us Q I r ⟨a, vs, rfl, .inl ⟨h1, fun p hp => Res.tup hr sr h2 hp⟩⟩
  · exact (hr : False).elim
theorem lst_call_ok : CallR X (.type "list") (rN X.K cl E lstM) := by
  intro pins s σ H xs us Q I r h
  obtain ⟨ι, S, ws, sr, rs, hr⟩ := h
  unfold lstM at hr
  split at hr
  · rename_i ys
    obtain ⟨x, e, rx⟩ := vr1 rs
    subst e
    obtain ⟨a, vs, e, h1, h2⟩ := rx.tup_inv
    rw [e] at r
    exact call_list_of pins s σ H _ us Q I r ⟨a, vs, rfl, .inr h1, fun p hp => Res.lst hr sr h2 hp⟩
  · rename_i n
    obtain ⟨x, e, rx⟩ := vr1 rs
    subst e
    obtain ⟨ys, a, vs, e, h1, h2, _, hr⟩ := Res.items hr sr rx
    rw [e] at r
    exact call_list_of pins s σ H _ us Q I r ⟨a, vs, rfl, .inl h1, fun p hp => Res.lst hr sr h2 hp⟩
  · exact (hr : False).elim
end
end At

set_option Elab.async false
set_option linter.all false
set_option maxRecDepth 100000
set_option maxHeartbeats 2000000
/-! AtRp: how long a written value is. -/
namespace At
open PySem PySem.Spec PyProof.Rows L2

/-- all signs of a text are code points -/
def OkC (x : Str) : Prop := ∀ c ∈ x.cps.toList, c < 1114112
theorem okC_app {x y : Str} (hx : OkC x) (hy : OkC y) : OkC (x ++ y) := by
  intro c hc
  have e : (x ++ y).cps = x.cps ++ y.cps := rfl
  rw [e, Array.toList_append, List.mem_append] at hc
  exact hc.elim (hx c) (hy c)
theorem okC_of (s : String) : OkC (Str.ofString s) := by
  intro c hc
  have e : (Str.ofString s).cps.toList = s.toList.map Char.toNat := cpsOfBytes_string s
  rw [e, List.mem_map] at hc
  obtain ⟨d, _, rfl⟩ := hc
  have := d.valid
  have h2 : d.toNat = d.val.toNat := rfl
  rcases this with h | ⟨_, h⟩ <;> rw [h2] <;> omega
theorem okC_empty : OkC Str.empty := by
  intro c hc
  have e : (Str.empty).cps = #[] := rfl
  rw [e] at hc; simp at hc
theorem len_app {x y : Str} : (x ++ y).length = x.length + y.length := strLen_append x y
/-! texts -/
theorem hex_lt {c d : Nat} (h : d ∈ (Nat.toDigits 16 c).map Char.toNat) : d < 1114112 := by
  rw [List.mem_map] at h
  obtain ⟨e, _, rfl⟩ := h
  have := e.valid
  have h2 : e.toNat = e.val.toNat := rfl
  rcases this with h | ⟨_, h⟩ <;> rw [h2] <;> omega
theorem reprChar_ok {q c : Nat} (hc : c < 1114112) : ∀ d ∈ Builtin.Str.reprChar q c, d < 1114112 := by
  intro d hd
  have hx : ∀ w, ∀ d ∈ List.replicate (w - ((Nat.toDigits 16 c).map Char.toNat).length) 48 ++ (Nat.toDigits 16 c).map Char.toNat, d < 1114112 := fun w d hd => by
    rcases List.mem_append.mp hd with h | h
    · rw [(List.mem_replicate.mp h).2]; decide
    · exact hex_lt h
  have two : ∀ {a b : Nat}, a < 1114112 → b < 1114112 → d ∈ [a, b] → d < 1114112 := fun ha hb h => by
    rcases List.mem_cons.mp h with h | h
    · rw [h]; exact ha
    · rw [List.mem_singleton.mp h]; exact hb
  unfold Builtin.Str.reprChar at hd
  dsimp only at hd
  split at hd
  · exact two (by decide) hc hd
  · split at hd
    · exact two (by decide) (by decide) hd
    · split at hd
      · exact two (by decide) (by decide) hd
      · split at hd
        · exact two (by decide) (by decide) hd
        · split at hd
          · rw [List.mem_singleton.mp hd]; exact hc
          · split at hd
            · rcases List.mem_append.mp hd with h | h
              · exact two (by decide) (by decide) h
              · exact hx 2 d h
            · split at hd
              · rcases List.mem_append.mp hd with h | h
                · exact two (by decide) (by decide) h
                · exact hx 4 d h
              · rcases List.mem_append.mp hd with h | h
                · exact two (by decide) (by decide) h
                · exact hx 8 d h
theorem fold_ok {q : Nat} : ∀ {l : List Nat} {acc : Array Nat}, (∀ c ∈ l, c < 1114112) → (∀ c ∈ acc.toList, c < 1114112) → ∀ c ∈ (l.foldl (fun out c => out ++ (Builtin.Str.reprChar q c).toArray) acc).toList, c < 1114112
  | [], _, _, ha => ha
  | c :: r, acc, hl, ha => by
    refine fold_ok (l := r) (fun d hd => hl d (List.mem_cons_of_mem _ hd)) fun d hd => ?_
    rw [Array.toList_append, List.mem_append] at hd
    rcases hd with hd | hd
    · exact ha d hd
    · exact reprChar_ok (hl c List.mem_cons_self) d (by simpa using hd)
theorem quote_lt (x : Str) : reprQuote x < 1114112 := by unfold reprQuote; split <;> decide
theorem reprText_ok {x : Str} (h : OkC x) : OkC (reprText x) := by
  intro c hc
  unfold reprText at hc
  rw [Array.toList_push, List.mem_append] at hc
  rcases hc with hc | hc
  · rw [← Array.foldl_toList] at hc
    exact fold_ok h (fun d hd => by
      have : d = reprQuote x := by simpa using hd
      rw [this]; exact quote_lt x) c hc
  · have : c = reprQuote x := by simpa using hc
    rw [this]; exact quote_lt x
/-! lists -/
theorem textFrom_ok : ∀ (ts : List Str) (k : Nat) (acc : Str), OkC acc → (∀ t ∈ ts, OkC t) → OkC (textFrom k acc ts) ∧ (textFrom k acc ts).length ≤ acc.length + (ts.map fun t => t.length + 2).sum
  | [], k, acc, ha, _ => ⟨ha, Nat.le_refl _⟩
  | t :: r, k, acc, ha, ht => by
    have hc : OkC (acc ++ (if k > 0 then ", " else "" : String) ++ t) := okC_app (okC_app ha (okC_of _)) (ht t List.mem_cons_self)
    obtain ⟨i1, i2⟩ := textFrom_ok r (k + 1) _ hc fun u hu => ht u (List.mem_cons_of_mem _ hu)
    refine ⟨i1, Nat.le_trans i2 ?_⟩
    have e : ((if k > 0 then ", " else "" : String) : Str).length ≤ 2 := by split <;> decide
    rw [len_app, len_app, List.map_cons, List.sum_cons]
    omega
theorem join_ok2 : ∀ ts : List Str, (∀ t ∈ ts, OkC t) → OkC (Str.join ", " ts) ∧ (Str.join ", " ts).length ≤ (ts.map fun t => t.length + 2).sum
  | [], _ => ⟨okC_empty, Nat.le_refl _⟩
  | [t], h => ⟨h t List.mem_cons_self, by show t.length ≤ _; simp⟩
  | t :: u :: r, h => by
    obtain ⟨i1, i2⟩ := join_ok2 (u :: r) fun x hx => h x (List.mem_cons_of_mem _ hx)
    refine ⟨okC_app (okC_app (h t List.mem_cons_self) (okC_of _)) i1, ?_⟩
    show (t ++ ", " ++ Str.join ", " (u :: r)).length ≤ _
    have e : ((", " : String) : Str).length = 2 := rfl
    rw [len_app, len_app, e, List.map_cons, List.sum_cons]
    omega
theorem int_text_ok {i : Int} (h : i.natAbs.log2 < 1920) : OkC (Str.ofString (toString i)) ∧ (Str.ofString (toString i)).length ≤ 1921 := ⟨okC_of _, int_text_len_1921 h⟩
mutual
theorem shown_fits : ∀ d : PyData, d.canLay0 = true → d.showable = true → OkC d.shown ∧ d.shown.length ≤ dw d
  | .none, _, _ => by simp only [PyData.shown, dw]; exact ⟨okC_of _, by decide⟩
  | .bool b, _, _ => by
    simp only [PyData.shown, dw]
    cases b <;> exact ⟨okC_of _, by decide⟩
  | .int i, _, h => by
    simp only [PyData.shown, dw]
    exact int_text_ok (by simpa [PyData.showable] using h)
  | .str x, h, _ => by
    simp only [PyData.shown, dw]
    have hx : OkC x := by
      intro c hc
      have h' : PyData.strOk x = true := by simpa [PyData.canLay0] using h
      unfold PyData.strOk at h'
      have := Array.all_eq_true_iff_forall_mem.mp h' c (Array.mem_toList_iff.mp hc)
      exact of_decide_eq_true this
    exact ⟨reprText_ok hx, StrLaws.reprText_len x fun c hc => Nat.lt_trans (hx c hc) (by decide)⟩
  | .list xs, h, g => by
    simp only [PyData.shown, dw]
    obtain ⟨h1, h2⟩ := shown_fits_all xs (by simpa [PyData.canLay0] using h) (by simpa [PyData.showable] using g)
    unfold listText
    obtain ⟨i1, i2⟩ := textFrom_ok (PyData.shownAll xs) 0 "[" (okC_of _) h1
    refine ⟨okC_app i1 (okC_of _), ?_⟩
    have e1 : (("[" : String) : Str).length = 1 := rfl
    have e2 : (("]" : String) : Str).length = 1 := rfl
    rw [len_app, e2]
    omega
  | .tuple xs, h, g => by
    simp only [PyData.shown, dw]
    obtain ⟨h1, h2⟩ := shown_fits_all xs (by simpa [PyData.canLay0] using h) (by simpa [PyData.showable] using g)
    unfold tupleText
    obtain ⟨i1, i2⟩ := join_ok2 (PyData.shownAll xs) h1
    refine ⟨okC_app (okC_app (okC_of _) i1) (okC_of _), ?_⟩
    have e1 : (("(" : String) : Str).length = 1 := rfl
    have e2 : ((if (PyData.shownAll xs).length == 1 then ",)" else ")" : String) : Str).length ≤ 2 := by split <;> decide
    rw [len_app, len_app, e1]
    omega
  | .dict _, h, _ => by simp [PyData.canLay0] at h
theorem shown_fits_all : ∀ xs : List PyData, PyData.canLayAll0 xs = true → PyData.showableAll xs = true → (∀ t ∈ PyData.shownAll xs, OkC t) ∧ ((PyData.shownAll xs).map fun t => t.length + 2).sum ≤ dws xs
  | [], _, _ => by simp only [PyData.shownAll, dws]; exact ⟨fun t h => (nomatch h), Nat.le_refl _⟩
  | x :: xs, h, g => by
    simp only [PyData.canLayAll0, Bool.and_eq_true] at h
    simp only [PyData.showableAll, Bool.and_eq_true] at g
    obtain ⟨a1, a2⟩ := shown_fits x h.1 g.1
    obtain ⟨b1, b2⟩ := shown_fits_all xs h.2 g.2
    simp only [PyData.shownAll, dws]
    refine ⟨fun t ht => ?_, ?_⟩
    · rcases List.mem_cons.mp ht with e | e
      · rw [e]; exact a1
      · exact b1 t e
    · rw [List.map_cons, List.sum_cons]
      omega
end
end At

set_option Elab.async false
set_option linter.all false
set_option maxRecDepth 100000
set_option maxHeartbeats 2000000
/-! AtG: repr, the methods of texts and lists. -/
namespace At
open PySem PySem.Spec PyProof.Rows L2

section
variable {X : Cx} {cl : Nm → Option Addr} {E : XK}
theorem sokB_ok {s : List Nat} (h : sokB s = true) : SOk s := by
  unfold sokB at h
  rw [Bool.and_eq_true, decide_eq_true_eq, List.all_eq_true] at h
  exact ⟨h.1, fun c hc => of_decide_eq_true (h.2 c hc)⟩
theorem rd_dict {S : Sto} {w : W} {k : Nat} (h : rd S k w = some (.dict [])) : ∃ n, w = .ob n ∧ S[n]? = some (.dct []) := by
  cases k with
  | zero => simp [rd] at h
  | succ k =>
    cases w with
    | ob n =>
      simp only [rd] at h
      split at h
      · rw [Option.map_eq_some_iff] at h; obtain ⟨_, _, e⟩ := h; cases e
      · rw [Option.map_eq_some_iff] at h; obtain ⟨_, _, e⟩ := h; cases e
      · rename_i hn; exact ⟨n, rfl, hn⟩
      · cases h
    | tup ws => simp only [rd, Option.map_eq_some_iff] at h; obtain ⟨_, _, e⟩ := h; cases e
    | _ => simp [rd] at h
/-- repr: what stands there is written -/
theorem repr_ok (hg : X.A.guards = some []) (hu : X.A.units + 200 < cLine) : CallR X (.builtin "repr") (rN X.K cl E repr1) := by
  intro pins s σ H xs us Q I r h
  obtain ⟨ι, S, ws, sr, rs, hr⟩ := h
  unfold repr1 at hr
  split at hr
  · rename_i w
    obtain ⟨x, e, rx⟩ := vr1 rs
    subst e
    obtain ⟨u, rfl, ru⟩ := vals1 r
    unfold reprM at hr
    cases hd : rd S DEEP w with
    | none => simp only [hd] at hr; exact (hr : False).elim
    | some d =>
      simp only [hd] at hr
      have hcase : d = .dict [] ∨ Res X.K cl (if (d.showable && decide (dw d ≤ LINE) && d.canLay0) = true then .ok (.str d.shown.cps.toList) S else .bad) ι H (EQ X.K Q) E := by
        split at hr
        · rename_i he; cases he; exact .inl rfl
        · rename_i he; cases he; exact .inr hr
        · rename_i he; cases he
      rcases hcase with rfl | hr
      · have hr' : Res X.K cl (.ok (.str [123, 125]) S) ι H (EQ X.K Q) E := hr
        obtain ⟨n, rfl, hn⟩ := rd_dict hd
        obtain ⟨p, ep, hp⟩ := rx.ob_inv
        obtain ⟨q, hq, _, hH⟩ := sr.obj n _ hn
        rw [hp] at hq; cases hq
        subst ep
        obtain rfl : u = Value.ref p := ru
        obtain ⟨_, hne, vs, kv, o, es, ep, g1, g2, g3⟩ := (show ObjOk X.prog X.w H s.heap p (.dK []) from I.hok p _ hH)
        cases kv
        have hes : es.toList = [] := by
          obtain ⟨_, _, hp3, _⟩ := g3
          generalize es.toList = l at hp3
          cases hp3
          rfl
        have hrd : Reads s.heap (.ref p) (.dict []) (p :: [] ++ []) := Reads.dict (kvs := []) g1 g2.1 g3.1 (by rw [hes]; exact .nil) (by rw [hes]; exact .nil)
        have hq : Q (.str (PyData.dict []).shown) H := by
          have := Res.str hr' sr (⟨by decide, fun c hc => by
            simp only [List.mem_cons, List.not_mem_nil, or_false] at hc
            rcases hc with rfl | rfl <;> decide⟩ : SOk [123, 125])
          have e : (PyData.dict []).shown = toS [123, 125] := by decide +kernel
          rw [e]; exact this
        have hD : DEEP = 150 := rfl
        have hdp := rd_deep DEEP _ _ hd
        refine repr_of_reads' (h₀ := s.heap) hrd (by rfl) (fun _ z => ?_) hg (by omega) (fun _ _ e => e) (fun h' u tk k => ⟨.str _, H, I.kept k, ⟨_, rfl⟩, hq⟩) (by decide +kernel)
        have z' : sysModules = p := by simpa using z
        rw [← z'] at hne
        simp at hne
      split at hr
      · rename_i hc
        simp only [Bool.and_eq_true] at hc
        obtain ⟨⟨h1, h2⟩, h3⟩ := hc
        obtain ⟨dp, _⟩ := rd_ok sr DEEP w d x hd (canLay_noDict d h3) rx
        obtain ⟨as, hrd⟩ := Dp.reads I d x u dp ru
        obtain ⟨hok, hle⟩ := shown_fits d h3 h1
        have hsk : SOk d.shown.cps.toList := ⟨Nat.le_trans (by simpa [Str.length] using hle) (of_decide_eq_true h2), hok⟩
        have hq : Q (.str d.shown) H := by
          have := Res.str hr sr hsk
          rwa [of_toS] at this
        have hlen : d.shown.length ≤ sizeLine := by
          rw [line_eq]
          have := hsk.1
          simpa [Str.length] using this
        have hdp := rd_deep DEEP w d hd
        have hD : DEEP = 150 := rfl
        cases hrd with
        | none => exact PySem.P.repr_of_none ⟨.str _, H, I.tok _, ⟨_, rfl⟩, hq⟩
        | bool b => exact PySem.P.repr_of_bool ⟨.str _, H, I.tok _, ⟨_, rfl⟩, hq⟩
        | int i t => exact PySem.P.repr_of_int (by simpa [PyData.showable] using h1) ⟨.str _, H, I.tok _, ⟨_, rfl⟩, hq⟩
        | str y t => exact PySem.P.repr_of_str ⟨.str _, H, I.tok _, ⟨_, rfl⟩, hq⟩ hlen
        | list a1 a2 a3 a4 =>
          refine repr_of_reads' (h₀ := s.heap) (.list a1 a2 a3 a4) h1 (fun z => ?_) hg (by omega) (fun _ _ e => e) (fun h' u tk k => ⟨.str _, H, I.kept k, ⟨_, rfl⟩, hq⟩) hlen
          rw [canLay_noDict _ h3] at z; cases z
        | tuple a1 a2 a3 a4 =>
          refine repr_of_reads' (h₀ := s.heap) (.tuple a1 a2 a3 a4) h1 (fun z => ?_) hg (by omega) (fun _ _ e => e) (fun h' u tk k => ⟨.str _, H, I.kept k, ⟨_, rfl⟩, hq⟩) hlen
          rw [canLay_noDict _ h3] at z; cases z
        | dict a1 a2 a3 a4 a5 => simp [PyData.canLay0] at h3
      · exact (hr : False).elim
  · exact (hr : False).elim

/-! ### methods -/
def rMS (K : PySem.W.Frag) (cl : Nm → Option Addr) (E : XK) (m : List Nat → List W → M W) : V → List V → Hp → VK → Prop := fun x vs H Q =>
  ∃ (ι : List Addr) (S : Sto) (a : List Nat) (ws : List W), SR K cl ι H S ∧ VR K ι H (.str a) x ∧ VRs K ι H ws vs ∧ Res K cl (m a ws S) ι H (EQ K Q) E
def rML (K : PySem.W.Frag) (cl : Nm → Option Addr) (E : XK) (m : Nat → List W → List W → M W) : V → List V → Hp → VK → Prop := fun x vs H Q =>
  ∃ (ι : List Addr) (S : Sto) (n : Nat) (ys ws : List W), SR K cl ι H S ∧ VR K ι H (.ob n) x ∧ S[n]? = some (.lst ys) ∧ VRs K ι H ws vs ∧ Res K cl (m n ys ws S) ι H (EQ K Q) E
theorem find_ok : MtR X "str.find" (rMS X.K cl E findM) := by
  intro pins s σ H x xs v us Q I rx rv h
  obtain ⟨ι, S, a, ws, sr, r, rs, hr⟩ := h
  unfold findM at hr
  split at hr
  · rename_i y
    obtain ⟨z, e, rz⟩ := vr1 rs
    subst e
    exact mt_find pins s σ H x _ v us Q I rx rv ⟨toS a, toS y, r.str_inv.1, by rw [rz.str_inv.1], Res.int hr sr⟩
  · exact (hr : False).elim
theorem small_up {c : Nat} (h : c < 128) : up1 c < 1114112 := by unfold up1; split <;> omega
theorem small_lo {c : Nat} (h : c < 128) : lo1 c < 1114112 := by unfold lo1; split <;> omega
theorem upper_ok : MtR X "str.upper" (rMS X.K cl E upperM) := by
  intro pins s σ H x xs v us Q I rx rv h
  obtain ⟨ι, S, a, ws, sr, r, rs, hr⟩ := h
  unfold upperM at hr
  split at hr
  · rw [rs.nil_inv] at rv
    split at hr
    · rename_i hc
      rw [Bool.and_eq_true, List.all_eq_true, decide_eq_true_eq] at hc
      obtain ⟨h1, h2⟩ := hc
      have h1' : ∀ c ∈ (toS a).cps.toList, c < 128 := by rw [toS_cps]; exact fun c hc => of_decide_eq_true (h1 c hc)
      obtain ⟨e, o⟩ := r.str_inv
      refine mt_upper pins s σ H x _ v us Q I rx rv ⟨toS a, e, rfl, by rw [toS_len]; exact h2, ?_⟩
      rw [upper_ascii h1']
      have ee : (⟨(toS a).cps.map up1⟩ : Str) = toS (a.map up1) := by simp [toS]
      rw [ee]
      refine Res.str hr sr ⟨by rw [List.length_map]; exact o.1, fun c hc => ?_⟩
      obtain ⟨d, hd, e⟩ := List.mem_map.mp hc
      rw [← e]
      exact small_up (of_decide_eq_true (h1 d hd))
    · exact (hr : False).elim
  · exact (hr : False).elim
theorem lower_ok : MtR X "str.lower" (rMS X.K cl E lowerM) := by
  intro pins s σ H x xs v us Q I rx rv h
  obtain ⟨ι, S, a, ws, sr, r, rs, hr⟩ := h
  unfold lowerM at hr
  split at hr
  · rw [rs.nil_inv] at rv
    split at hr
    · rename_i hc
      rw [Bool.and_eq_true, List.all_eq_true, decide_eq_true_eq] at hc
      obtain ⟨h1, h2⟩ := hc
      have h1' : ∀ c ∈ (toS a).cps.toList, c < 128 := by rw [toS_cps]; exact fun c hc => of_decide_eq_true (h1 c hc)
      obtain ⟨e, o⟩ := r.str_inv
      refine mt_lower pins s σ H x _ v us Q I rx rv ⟨toS a, e, rfl, by rw [toS_len]; exact h2, ?_⟩
      rw [lower_ascii h1']
      have ee : (⟨(toS a).cps.map lo1⟩ : Str) = toS (a.map lo1) := by simp [toS]
      rw [ee]
      refine Res.str hr sr ⟨by rw [List.length_map]; exact o.1, fun c hc => ?_⟩
      obtain ⟨d, hd, e⟩ := List.mem_map.mp hc
      rw [← e]
      exact small_lo (of_decide_eq_true (h1 d hd))
    · exact (hr : False).elim
  · exact (hr : False).elim
theorem islower_ok : MtR X "str.islower" (rMS X.K cl E islowerM) := by
  intro pins s σ H x xs v us Q I rx rv h
  obtain ⟨ι, S, a, ws, sr, r, rs, hr⟩ := h
  unfold islowerM at hr
  split at hr
  · rw [rs.nil_inv] at rv
    exact mt_islower pins s σ H x _ v us Q I rx rv ⟨toS a, r.str_inv.1, rfl, trivial, Res.bl hr sr⟩
  · exact (hr : False).elim
theorem strsW_of {K : PySem.W.Frag} {ι : List Addr} {H : Hp} : ∀ {ws : List W} {ss : List (List Nat)} {vs : List V}, strsW ws = some ss → VRs K ι H ws vs → vs = (ss.map toS).map V.str ∧ ∀ s ∈ ss, SOk s
  | [], bs, vs, h, r => by cases h; rw [r.nil_inv]; exact ⟨rfl, fun _ h => nomatch h⟩
  | w :: ws, bs, vs, h, r => by
    obtain ⟨v, r', rfl, h1, h2⟩ := r.cons_inv
    cases w with
    | str b =>
      simp only [strsW] at h
      split at h
      · rename_i cs hc
        cases h
        obtain ⟨e, g⟩ := strsW_of hc h2
        obtain ⟨e1, o1⟩ := h1.str_inv
        rw [e1, e]
        exact ⟨rfl, fun s hs => (List.mem_cons.mp hs).elim (fun z => by rw [z]; exact o1) (g s)⟩
      · cases h
    | _ => cases h
theorem Res.seq {α : Type} {K : PySem.W.Frag} {ι : List Addr} {H : Hp} {w : W} {S : Sto} {f : List W → Sto → R α} {Q : α → Sto → List Addr → Hp → Prop} {v : V} (h : Res K cl ((seqM w S).bind f) ι H Q E) (sr : SR K cl ι H S) (r : VR K ι H w v) :
    ∃ xs a vs, v = .ref a ∧ (SqL K H a vs ∨ SqT K H a vs) ∧ VRs K ι H xs vs ∧ Res K cl (f xs S) ι H Q E := by
  cases w with
  | tup xs =>
    obtain ⟨a, vs, e, h1, h2⟩ := r.tup_inv
    exact ⟨xs, a, vs, e, .inr h1, h2, h⟩
  | ob n =>
    obtain ⟨xs, a, vs, e, h1, h2, _, h⟩ := Res.items h sr r
    exact ⟨xs, a, vs, e, .inl h1, h2, h⟩
  | _ => exact (h : False).elim
theorem join_len (x : List Nat) : ∀ ss : List (List Nat), (joinW x ss).length ≤ (ss.map (·.length)).sum + ss.length * x.length
  | [] => by simp [joinW]
  | [p] => by simp [joinW]
  | p :: q :: r => by
    have ih := join_len x (q :: r)
    simp only [joinW, List.length_append, List.map_cons, List.sum_cons, List.length_cons] at ih ⊢
    rw [Nat.add_mul (r.length + 1) 1]
    omega
theorem join_mem {x : List Nat} {c : Nat} : ∀ {ss : List (List Nat)}, c ∈ joinW x ss → c ∈ x ∨ ∃ s ∈ ss, c ∈ s
  | [], h => by simp [joinW] at h
  | [p], h => .inr ⟨p, by simp, h⟩
  | p :: q :: r, h => by
    simp only [joinW, List.mem_append] at h
    rcases h with h | h | h
    · exact .inr ⟨p, by simp, h⟩
    · exact .inl h
    · exact (join_mem h).imp id fun ⟨s, hs, hc⟩ => ⟨s, List.mem_cons_of_mem _ hs, hc⟩
theorem joinW_eq (x : List Nat) : ∀ ss : List (List Nat), joinW x ss = TL.joinL x ss
  | [] => rfl
  | [p] => rfl
  | p :: q :: r => by simp only [joinW, TL.joinL, joinW_eq x (q :: r)]
theorem join_toS (x : List Nat) (ss : List (List Nat)) : Txt.join (toS x) (ss.map toS) = toS (joinW x ss) := by
  have h := TL.tl_join (toS x) (ss.map toS)
  rw [TL.join_eq]
  have e1 : TL.tl (toS x) = x := by simp [TL.tl, toS]
  have e2 : (ss.map toS).map TL.tl = ss := by
    rw [List.map_map]
    have : (TL.tl ∘ toS) = id := by funext y; simp [TL.tl, toS]
    rw [this, List.map_id]
  rw [e1, e2, ← joinW_eq] at h
  rw [← h]
  simp [TL.tl, of_toS]
theorem join_ok : MtR X "str.join" (rMS X.K cl E joinM) := by
  intro pins s σ H x xs v us Q I rx rv h
  obtain ⟨ι, S, a, ws, sr, r, rs, hr⟩ := h
  unfold joinM at hr
  split at hr
  · rename_i w
    obtain ⟨z, e, rz⟩ := vr1 rs
    subst e
    obtain ⟨xs, b, vs, e, h1, h2, hr⟩ := Res.seq hr sr rz
    obtain ⟨ss, hs, hr⟩ := Res.opt hr
    obtain ⟨e2, ok⟩ := strsW_of hs h2
    obtain ⟨e1, o1⟩ := r.str_inv
    dsimp only at hr
    split at hr
    · rename_i hl
      rw [e] at rv
      have hl' : ((ss.map toS).map (·.length)).sum + (ss.map toS).length * (toS a).length ≤ 16777216 := by
        rw [List.map_map, List.length_map, toS_len]
        have : ((fun x : Str => x.length) ∘ toS) = List.length := by funext y; exact toS_len y
        rw [this]; exact hl
      refine mt_join pins s σ H x _ v us Q I rx rv ⟨toS a, b, ss.map toS, e1, rfl, by rw [← e2]; exact h1, hl', ?_⟩
      rw [join_toS]
      refine Res.str hr sr ⟨Nat.le_trans (join_len a ss) hl, fun c hc => ?_⟩
      rcases join_mem hc with h | ⟨t, ht, h⟩
      · exact o1.2 c h
      · exact (ok t ht).2 c h
    · exact (hr : False).elim
  · exact (hr : False).elim
theorem append_ok : MtR X "list.append" (rML X.K cl E appendM) := by
  intro pins s σ H x xs v us Q I rx rv h
  obtain ⟨ι, S, n, ys, ws, sr, r, hn, rs, hr⟩ := h
  unfold appendM at hr
  split at hr
  · rename_i w
    obtain ⟨z, e, rz⟩ := vr1 rs
    subst e
    split at hr
    · rename_i hl
      obtain ⟨a, ea, ha⟩ := r.ob_inv
      obtain ⟨b, hb, vs, h1, h2⟩ := sr.obj n _ hn
      rw [ha] at hb; cases hb
      obtain ⟨ex, sr'⟩ := put_lst sr hn ha ⟨vs, h1⟩ (h2.append (VRs.one rz))
      refine mt_append pins s σ H x _ v us Q I rx rv ⟨a, vs, z, ea, rfl, h1, by rw [← h2.length, line_eq]; exact hl, ?_⟩
      exact (show Res X.K cl (.ok .non (S.set n (.lst (ys ++ [w])))) ι H (EQ X.K Q) E from hr) ι _ ex sr' _ (by simp only [VR])
    · exact (hr : False).elim
  · exact (hr : False).elim
theorem index_ok : MtR X "str.index" (rMS X.K cl E indexM) := by
  intro pins s σ H x xs v us Q I rx rv h
  obtain ⟨ι, S, a, ws, sr, r, rs, hr⟩ := h
  unfold indexM at hr
  split at hr
  · rename_i y
    obtain ⟨z, e, rz⟩ := vr1 rs
    subst e
    cases ho : Builtin.Str.occurrences (toS a) (toS y) 0 (toS a).length 1 with
    | nil => simp only [ho] at hr; exact (hr : False).elim
    | cons i rest =>
      simp only [ho] at hr
      exact mt_sindex pins s σ H x _ v us Q I rx rv ⟨toS a, toS y, i, rest, r.str_inv.1, by rw [rz.str_inv.1], ho, Res.int hr sr⟩
  · exact (hr : False).elim
/-- a list's place and what stands there -/
theorem lst_at {K : PySem.W.Frag} {ι : List Addr} {H : Hp} {S : Sto} {n : Nat} {ys : List W} {x : V} (sr : SR K cl ι H S) (r : VR K ι H (.ob n) x) (hn : S[n]? = some (.lst ys)) : ∃ a vs, x = .ref a ∧ ι[n]? = some a ∧ H a = some (.lst vs) ∧ VRs K ι H ys vs := by
  obtain ⟨a, ea, ha⟩ := r.ob_inv
  obtain ⟨b, hb, vs, h1, h2⟩ := sr.obj n _ hn
  rw [ha] at hb; cases hb
  exact ⟨a, vs, ea, ha, h1, h2⟩
theorem pop_ok : MtM X "list.pop" (rML X.K cl E popM) := by
  intro pins s σ H x xs v us Q I rx rv h
  obtain ⟨ι, S, n, ys, ws, sr, r, hn, rs, hr⟩ := h
  obtain ⟨a, vs, ea, ha, h1, h2⟩ := lst_at sr r hn
  cases ws with
  | nil =>
    have e := rs.nil_inv
    subst e
    cases hw : ys[ys.length - 1]? with
    | none => simp only [popM, hw] at hr; exact (hr : False).elim
    | some w =>
      obtain ⟨y, hy, ry⟩ := h2.get hw
      obtain ⟨ex, sr'⟩ := put_lst sr hn ha ⟨vs, h1⟩ h2.dropLast
      simp only [popM, hw] at hr
      refine mt_pop pins s σ H x _ v us Q I rx rv ⟨a, vs, y, ea, rfl, h1, by rw [← h2.length]; exact hy, ?_⟩
      exact (show Res X.K cl (.ok w (S.set n (.lst ys.dropLast))) ι H (EQ X.K Q) E from hr) ι _ ex sr' _ (VR.ext ex w ry)
  | cons w1 rest =>
    cases rest with
    | cons _ _ => cases w1 <;> exact (hr : False).elim
    | nil =>
      cases w1 with
      | int i =>
        obtain ⟨z, e, rz⟩ := vr1 rs
        have ez := rz.int_inv
        subst e ez
        simp only [popM] at hr
        split at hr
        · rename_i hi
          cases hk : ixN ys.length i with
          | none => simp only [hk] at hr; exact (hr : False).elim
          | some k =>
            simp only [hk] at hr
            cases hw : ys[k]? with
            | none => simp only [hw] at hr; exact (hr : False).elim
            | some w =>
              simp only [hw] at hr
              obtain ⟨y, hy, ry⟩ := h2.get hw
              obtain ⟨ex, sr'⟩ := put_lst sr hn ha ⟨vs, h1⟩ (h2.eraseIdx k)
              refine mt_popAt pins s σ H x _ v us Q I rx rv ⟨a, vs, i, k, y, ea, rfl, h1, hi.1, hi.2, by rw [← h2.length]; exact (ixN_seq hk).1, hy, ?_⟩
              exact (show Res X.K cl (.ok w (S.set n (.lst (ys.eraseIdx k)))) ι H (EQ X.K Q) E from hr) ι _ ex sr' _ (VR.ext ex w ry)
        · exact (hr : False).elim
      | _ => exact (hr : False).elim
theorem reverse_ok : MtM X "list.reverse" (rML X.K cl E reverseM) := by
  intro pins s σ H x xs v us Q I rx rv h
  obtain ⟨ι, S, n, ys, ws, sr, r, hn, rs, hr⟩ := h
  obtain ⟨a, vs, ea, ha, h1, h2⟩ := lst_at sr r hn
  cases ws with
  | nil =>
    have e := rs.nil_inv
    subst e
    obtain ⟨ex, sr'⟩ := put_lst sr hn ha ⟨vs, h1⟩ h2.reverse
    refine mt_reverse pins s σ H x _ v us Q I rx rv ⟨a, vs, ea, rfl, h1, ?_⟩
    exact (show Res X.K cl (.ok .non (S.set n (.lst ys.reverse))) ι H (EQ X.K Q) E from hr) ι _ ex sr' _ (by simp only [VR])
  | cons _ _ => exact (hr : False).elim
theorem extend_ok : MtM X "list.extend" (rML X.K cl E extendM) := by
  intro pins s σ H x xs v us Q I rx rv h
  obtain ⟨ι, S, n, ys, ws, sr, r, hn, rs, hr⟩ := h
  obtain ⟨a, vs, ea, ha, h1, h2⟩ := lst_at sr r hn
  cases ws with
  | nil => exact (hr : False).elim
  | cons w1 rest =>
   cases rest with
   | cons _ _ => cases w1 <;> exact (hr : False).elim
   | nil =>
   cases w1 with
   | ob m =>
    obtain ⟨z, e, rz⟩ := vr1 rs
    subst e
    have hr2 := Res.bind (show Res X.K cl ((lstOf m S).bind fun zs s => (if ys.length + zs.length ≤ LINE then (do putO n (.lst (ys ++ zs)); pure .non) else M.bad : M W) s) ι H (EQ X.K Q) E from hr)
    cases hx : lstOf m S with
    | bad => rw [hx] at hr2; exact (hr2 : False).elim
    | ex _ _ _ => unfold lstOf at hx; split at hx <;> cases hx
    | ok zs S1 =>
      rw [hx] at hr2
      obtain ⟨e1, _, b, us2, e2, i2, g1, g2⟩ := lst_ok sr hx rz
      subst e1 e2
      have hr3 : Res X.K cl ((if ys.length + zs.length ≤ LINE then (do putO n (.lst (ys ++ zs)); pure .non) else M.bad : M W) S1) ι H (EQ X.K Q) E := hr2 ι H Ext.refl sr
      split at hr3
      · rename_i hl
        obtain ⟨ex, sr'⟩ := put_lst sr hn ha ⟨vs, h1⟩ (h2.append g2)
        refine mt_extend pins s σ H x _ v us Q I rx rv ⟨a, b, vs, us2, ea, rfl, h1, g1, by rw [← h2.length, ← g2.length, line_eq]; exact hl, ?_⟩
        exact (show Res X.K cl (.ok .non (S1.set n (.lst (ys ++ zs)))) ι H (EQ X.K Q) E from hr3) ι _ ex sr' _ (by simp only [VR])
      · exact (hr3 : False).elim
   | _ => exact (hr : False).elim
theorem insert_ok : MtR X "list.insert" (rML X.K cl E insertM) := by
  intro pins s σ H x xs v us Q I rx rv h
  obtain ⟨ι, S, n, ys, ws, sr, r, hn, rs, hr⟩ := h
  obtain ⟨a, vs, ea, ha, h1, h2⟩ := lst_at sr r hn
  unfold insertM at hr
  split at hr
  · rename_i i w
    obtain ⟨z, rest, e, rz, rs2⟩ := rs.cons_inv
    obtain ⟨y, e2, ry⟩ := vr1 rs2
    have ez := rz.int_inv
    subst e e2 ez
    split at hr
    · rename_i hc
      obtain ⟨c0, c1, c2⟩ := hc
      obtain ⟨ex, sr'⟩ := put_lst sr hn ha ⟨vs, h1⟩ (((h2.take i.toNat).append (VRs.one ry)).append (h2.drop i.toNat))
      refine mt_insert pins s σ H x _ v us Q I rx rv ⟨a, vs, i, y, ea, rfl, h1, by rw [← h2.length, line_eq]; exact c2, c0, c1, ?_⟩
      exact (show Res X.K cl (.ok .non (S.set n (.lst (ys.take i.toNat ++ [w] ++ ys.drop i.toNat)))) ι H (EQ X.K Q) E from hr) ι _ ex sr' _ (by simp only [VR])
    · exact (hr : False).elim
  · exact (hr : False).elim
theorem min_ok (hc : X.calm = true) : CallR X (.builtin "min") (rN X.K cl E minM) := by
  intro pins s σ H xs us Q I r h
  obtain ⟨ι, S, ws, sr, rs, hr⟩ := h
  unfold minM at hr
  split at hr
  · obtain ⟨z, rest, e, rz, rs2⟩ := rs.cons_inv
    obtain ⟨y, e2, ry⟩ := vr1 rs2
    have e3 := rz.int_inv; have e4 := ry.int_inv
    subst e e2 e3 e4
    exact call_min2 hc pins s σ H _ us Q I r ⟨_, _, rfl, Res.int hr sr⟩
  · exact (hr : False).elim
theorem max_ok (hc : X.calm = true) : CallR X (.builtin "max") (rN X.K cl E maxM) := by
  intro pins s σ H xs us Q I r h
  obtain ⟨ι, S, ws, sr, rs, hr⟩ := h
  unfold maxM at hr
  split at hr
  · obtain ⟨z, rest, e, rz, rs2⟩ := rs.cons_inv
    obtain ⟨y, e2, ry⟩ := vr1 rs2
    have e3 := rz.int_inv; have e4 := ry.int_inv
    subst e e2 e3 e4
    exact call_max2 hc pins s σ H _ us Q I r ⟨_, _, rfl, Res.int hr sr⟩
  · exact (hr : False).elim
/-! isinstance -/
theorem kit_tys : ∀ t c : Ty, c ≠ .non → kitB t.nm c.nm = some (isTy t c) := by
  intro t c h
  cases t <;> cases c <;> first | exact absurd rfl h | decide +kernel
theorem tyN_ne {c : Nm} {t : Ty} (h : tyN c = some t) : t ≠ .non := by
  unfold tyN at h
  repeat' split at h
  all_goals (cases h <;> exact fun z => nomatch z)
theorem ty_of {K : PySem.W.Frag} {ι : List Addr} {H : Hp} {S : Sto} {w : W} {v : V} {t : Ty} (sr : SR K cl ι H S) (r : VR K ι H w v) (h : tyW S w = some t) : TyX K H v (.type t.nm) := by
  cases w with
  | un => cases h
  | non => cases h; rw [r.non_inv]; exact .base .non
  | bl b => cases h; rw [r.bl_inv]; exact .base (.bl b)
  | int b => cases h; rw [r.int_inv]; exact .base (.int b)
  | str b => cases h; rw [r.str_inv.1]; exact .base (.str _)
  | tup ws =>
    cases h
    obtain ⟨a, vs, e, h1, _⟩ := r.tup_inv
    rw [e]
    rcases h1 with (h1 | ⟨o, h1⟩) | ⟨o, its, n, h1, h2, _⟩
    · exact .base (.tup h1)
    · exact .fTuple h1
    · exact .kTuple h1 h2
  | ob n =>
    obtain ⟨a, e, ha⟩ := r.ob_inv
    rw [e]
    unfold tyW at h
    dsimp only at h
    split at h
    · rename_i xs hx
      cases h
      obtain ⟨b, hb, vs, h1, _⟩ := sr.obj n _ hx
      rw [ha] at hb; cases hb
      exact .base (.lst h1)
    · rename_i xs hx
      cases h
      obtain ⟨b, hb, vs, h1, _⟩ := sr.obj n _ hx
      rw [ha] at hb; cases hb
      rcases h1 with ⟨o, h1⟩ | ⟨o, its, m, h1, h2, _⟩
      · exact .base (.frz h1)
      · exact .kList h1 h2
    · rename_i kvs hx
      cases h
      obtain ⟨b, hb, h1, h2⟩ := sr.obj n _ hx
      rw [ha] at hb; cases hb
      exact .base (.dK h2)
    · cases h
theorem strMe_ok {m : Nm} (hm : m ∈ strNames) : ∃ id, Slot "str" (toS m) id ∧ typeOf (.builtin id) = pure (.type "method_descriptor") ∧ MtR X id (rMS X.K cl E (strMe m)) := by
  simp only [strNames, List.mem_cons, List.not_mem_nil, or_false] at hm
  rcases hm with rfl | rfl | rfl | rfl | rfl | rfl
  · exact ⟨_, PySem.F.slot_str_find, PySem.F.type_str_find, find_ok⟩
  · exact ⟨_, PySem.F.slot_str_upper, PySem.F.type_str_upper, upper_ok⟩
  · exact ⟨_, PySem.F.slot_str_lower, PySem.F.type_str_lower, lower_ok⟩
  · exact ⟨_, PySem.F.slot_str_islower, PySem.F.type_str_islower, islower_ok⟩
  · exact ⟨_, PySem.F.slot_str_join, PySem.F.type_str_join, join_ok⟩
  · exact ⟨_, PySem.F.slot_str_index, PySem.F.type_str_index, index_ok⟩
theorem lstMe_ok {m : Nm} (hm : m ∈ lstNames) : ∃ id, Slot "list" (toS m) id ∧ typeOf (.builtin id) = pure (.type "method_descriptor") ∧ MtR X id (rML X.K cl E (lstMe m)) := by
  simp only [lstNames, List.mem_cons, List.not_mem_nil, or_false] at hm
  rcases hm with rfl | rfl | rfl | rfl | rfl
  · exact ⟨_, PySem.F.slot_list_append, PySem.F.type_list_append, append_ok⟩
  · exact ⟨_, PySem.F.slot_list_pop, PySem.F.type_list_pop, pop_ok⟩
  · exact ⟨_, PySem.F.slot_list_reverse, PySem.F.type_list_reverse, reverse_ok⟩
  · exact ⟨_, PySem.F.slot_list_extend, PySem.F.type_list_extend, extend_ok⟩
  · exact ⟨_, PySem.F.slot_list_insert, PySem.F.type_list_insert, insert_ok⟩
end
end At

set_option Elab.async false
set_option linter.all false
set_option maxRecDepth 100000
set_option maxHeartbeats 2000000
/-! AtH: the readings of the syntax over stores. -/
namespace At
open PySem PySem.Spec PyProof.Rows L2

/-- readings: an expression's, a test's, an argument list's -/
def tE (K : PySem.W.Frag) (cl : Nm → Option Addr) (wx : WX) (m : List W → M W) : TE := fun σ H Q =>
  ∃ (ι : List Addr) (ρ : List W) (S : Sto), EnvR K ι H ρ σ ∧ SR K cl ι H S ∧ Res K cl (m ρ S) ι H (EQ K Q) (fun c d H' => wx c d σ H')
def tTs (K : PySem.W.Frag) (cl : Nm → Option Addr) (wx : WX) (m : List W → M Bool) : TT := fun σ H Q =>
  ∃ (ι : List Addr) (ρ : List W) (S : Sto), EnvR K ι H ρ σ ∧ SR K cl ι H S ∧ Res K cl (m ρ S) ι H (fun b _ _ H' => Q b H') (fun c d H' => wx c d σ H')
def tAs (K : PySem.W.Frag) (cl : Nm → Option Addr) (wx : WX) (m : List W → M (List W)) : TA := fun σ H Q =>
  ∃ (ι : List Addr) (ρ : List W) (S : Sto), EnvR K ι H ρ σ ∧ SR K cl ι H S ∧ Res K cl (m ρ S) ι H (fun ws _ ι' H' => ∀ vs, VRs K ι' H' ws vs → Q vs H') (fun c d H' => wx c d σ H')
def tPO (K : PySem.W.Frag) (cl : Nm → Option Addr) (wx : WX) (m : List W → M (Option Int)) : TO := fun σ H Q =>
  ∃ (ι : List Addr) (ρ : List W) (S : Sto), EnvR K ι H ρ σ ∧ SR K cl ι H S ∧ Res K cl (m ρ S) ι H (fun o _ _ H' => Q o H') (fun c d H' => wx c d σ H')
section
variable {X : Cx}
theorem _root_.L2.PE.imp {e : Expr} {t t' : TE} (h : PE X e t) (q : ∀ σ H Q, t' σ H Q → t σ H Q) : PE X e t' := ⟨fun pins s σ H Q I z => h.run pins s σ H Q I (q σ H Q z)⟩
theorem _root_.L2.PT.imp {e : Expr} {t t' : TT} (h : PT X e t) (q : ∀ σ H Q, t' σ H Q → t σ H Q) : PT X e t' := ⟨fun pins s σ H Q I z => h.run pins s σ H Q I (q σ H Q z)⟩
theorem _root_.L2.PW.imp {e : Expr} {t t' : TT} (h : PW X e t) (q : ∀ σ H Q, t' σ H Q → t σ H Q) : PW X e t' := ⟨fun wh pins s σ H Q I z => h.run wh pins s σ H Q I (q σ H Q z)⟩
theorem _root_.L2.PA.imp {e : List Expr} {t t' : TA} (h : PA X e t) (q : ∀ σ H Q, t' σ H Q → t σ H Q) : PA X e t' := ⟨fun pos pins s σ H Q I z => h.run pos pins s σ H Q I (q σ H Q z)⟩
theorem _root_.L2.PO.imp {e : Option Expr} {t t' : TO} (h : PO X e t) (q : ∀ σ H Q, t' σ H Q → t σ H Q) : PO X e t' := ⟨fun pins s σ H Q I z => h.run pins s σ H Q I (q σ H Q z)⟩
theorem _root_.L2.PE.or {e : Expr} {t t' : TE} (h : PE X e t) (h' : PE X e t') : PE X e (fun σ H Q => t σ H Q ∨ t' σ H Q) :=
  ⟨fun pins s σ H Q I z => z.elim (h.run pins s σ H Q I) (h'.run pins s σ H Q I)⟩
end
section
variable {K : PySem.W.Frag} {cl : Nm → Option Addr} {wx : WX} {σ : L2.St} {H : Hp} {ι : List Addr} {S : Sto} {ρ : List W}
/-- evaluating on: a first part, then the rest -/
theorem tE_bind {α : Type} {m : List W → M W} {f : W → M α} {Q : α → Sto → List Addr → Hp → Prop} {R : V → Hp → Prop} (er : EnvR K ι H ρ σ) (sr : SR K cl ι H S)
    (h : Res K cl ((m ρ >>= f) S) ι H Q (fun c d H' => wx c d σ H'))
    (q : ∀ (ι' : List Addr) (H' : Hp) (S' : Sto) (w : W) (v : V), Ext ι H ι' H' → EnvR K ι' H' ρ σ → SR K cl ι' H' S' → VR K ι' H' w v → Res K cl (f w S') ι' H' Q (fun c d H' => wx c d σ H') → R v H') : tE K cl wx m σ H R :=
  ⟨ι, ρ, S, er, sr, (Res.bind h).mono fun w S' ι' H' e sr' r v rv => q ι' H' S' w v e (er.ext e) sr' rv r⟩
theorem tTs_bind {α : Type} {m : List W → M Bool} {f : Bool → M α} {Q : α → Sto → List Addr → Hp → Prop} {R : Bool → Hp → Prop} (er : EnvR K ι H ρ σ) (sr : SR K cl ι H S)
    (h : Res K cl ((m ρ >>= f) S) ι H Q (fun c d H' => wx c d σ H'))
    (q : ∀ (ι' : List Addr) (H' : Hp) (S' : Sto) (w : Bool), Ext ι H ι' H' → EnvR K ι' H' ρ σ → SR K cl ι' H' S' → Res K cl (f w S') ι' H' Q (fun c d H' => wx c d σ H') → R w H') : tTs K cl wx m σ H R :=
  ⟨ι, ρ, S, er, sr, (Res.bind h).mono fun w S' ι' H' e sr' r => q ι' H' S' w e (er.ext e) sr' r⟩
theorem tAs_bind {α : Type} {m : List W → M (List W)} {f : List W → M α} {Q : α → Sto → List Addr → Hp → Prop} {R : List V → Hp → Prop} (er : EnvR K ι H ρ σ) (sr : SR K cl ι H S)
    (h : Res K cl ((m ρ >>= f) S) ι H Q (fun c d H' => wx c d σ H'))
    (q : ∀ (ι' : List Addr) (H' : Hp) (S' : Sto) (w : List W) (v : List V), Ext ι H ι' H' → EnvR K ι' H' ρ σ → SR K cl ι' H' S' → VRs K ι' H' w v → Res K cl (f w S') ι' H' Q (fun c d H' => wx c d σ H') → R v H') : tAs K cl wx m σ H R :=
  ⟨ι, ρ, S, er, sr, (Res.bind h).mono fun w S' ι' H' e sr' r v rv => q ι' H' S' w v e (er.ext e) sr' rv r⟩
end

section
variable {X : Cx} {cl : Nm → Option Addr} {wx : WX} {a b c e : Expr} {es : List Expr} {ma mb mc : List W → M W} {ms : List W → M (List W)} {pos : Pos}
theorem se_sl {i : Nat} {x : Str} (hN : X.N[i]? = some x) (hv : Vis X.env.scope x) (hd : (x == ("__debug__" : Str)) = false) (hcd : (x == ("__classdict__" : Str)) = false) : PE X (.Name x pos) (tE X.K cl wx fun ρ => getSl ρ i) := by
  refine (pe_var hN hv hd hcd).imp fun σ H Q ⟨ι, ρ, S, er, sr, hr⟩ => ?_
  cases hw : ρ[i]? with
  | none => simp only [getSl, hw] at hr; exact (hr : False).elim
  | some w =>
    have hne : w ≠ .un := fun z => by subst z; simp only [getSl, hw] at hr; exact hr
    have hr' : Res X.K cl (.ok w S) ι H (EQ X.K Q) (fun c d H' => wx c d σ H') := by
      have : getSl ρ i = pure w := by
        unfold getSl; rw [hw]
        cases w <;> first | rfl | exact absurd rfl hne
      dsimp only at hr; rw [this] at hr; exact hr
    obtain ⟨v, h1, h2⟩ := er.2 i w hw hne
    exact ⟨v, h1, Res.val hr' sr h2⟩
theorem se_con {w : W} {v : V} (h : PE X e (tC v)) (r : ∀ ι H, VR X.K ι H w v) : PE X e (tE X.K cl wx fun _ => pure w) :=
  h.imp fun σ H Q ⟨ι, ρ, S, er, sr, hr⟩ => Res.val hr sr (r ι H)
theorem se_gv {w : W} {v : V} (h : PE X e (tC v)) (r : ∀ ι H S, SR X.K cl ι H S → VR X.K ι H w v) : PE X e (tE X.K cl wx fun _ => pure w) :=
  h.imp fun σ H Q ⟨ι, ρ, S, er, sr, hr⟩ => Res.val hr sr (r ι H S sr)
theorem se_bin {op : BO} (ha : PE X a (tE X.K cl wx ma)) (hb : PE X b (tE X.K cl wx mb)) : PE X (.BinOp a (boOf op) b pos) (tE X.K cl wx fun ρ => do
    let x ← ma ρ
    let y ← mb ρ
    binM op x y) := by
  refine ⟨fun pins s σ H Q I ⟨ι, ρ, S, er, sr, hr⟩ => (pe_op (op_bin (cl := cl) (E := fun c d H' => wx c d σ H') op) ha hb).run pins s σ H Q I ?_⟩
  refine tE_bind er sr hr fun ι1 H1 S1 w1 v1 e1 er1 sr1 r1 hr1 => tE_bind er1 sr1 hr1 fun ι2 H2 S2 w2 v2 e2 er2 sr2 r2 hr2 => ?_
  exact ⟨ι2, S2, w1, w2, sr2, VR.ext e2 w1 r1, r2, hr2⟩
theorem se_neg (ha : PE X a (tE X.K cl wx ma)) : PE X (.UnaryOp .USub a pos) (tE X.K cl wx fun ρ => do
    let x ← ma ρ
    match x with
    | .int i => pure (.int (-i))
    | _ => M.bad) := by
  refine (pe_un un_neg ha).imp fun σ H Q ⟨ι, ρ, S, er, sr, hr⟩ => ?_
  refine tE_bind er sr hr fun ι1 H1 S1 w1 v1 e1 er1 sr1 r1 hr1 => ?_
  cases w1 with
  | int i => exact ⟨i, r1.int_inv, Res.int hr1 sr1⟩
  | _ => exact (hr1 : False).elim
theorem se_cmp {op : CO} (hu : X.A.units + 200 < cLine) (ha : PE X a (tE X.K cl wx ma)) (hb : PE X b (tE X.K cl wx mb)) (hm : behindInMarks (coOf op) b = false) : PE X (.Compare a [coOf op] [b] pos) (tE X.K cl wx fun ρ => do
    let x ← ma ρ
    let y ← mb ρ
    cmpM op x y) := by
  refine ⟨fun pins s σ H Q I ⟨ι, ρ, S, er, sr, hr⟩ => (pe_cmpR (op_cmp (cl := cl) (E := fun c d H' => wx c d σ H') hu op) ha hb hm).run pins s σ H Q I ?_⟩
  refine tE_bind er sr hr fun ι1 H1 S1 w1 v1 e1 er1 sr1 r1 hr1 => tE_bind er1 sr1 hr1 fun ι2 H2 S2 w2 v2 e2 er2 sr2 r2 hr2 => ?_
  exact ⟨ι2, S2, w1, w2, sr2, VR.ext e2 w1 r1, r2, hr2⟩
/-- a comparison tells a truth value -/
theorem cmp_bl {op : CO} {x y : W} {S S' : Sto} {w : W} (h : cmpM op x y S = .ok w S') : ∃ b, w = .bl b ∧ S' = S := by
  unfold cmpM at h
  split at h
  · cases h; exact ⟨_, rfl, rfl⟩
  · cases h
theorem tru_bl (b : Bool) (S : Sto) : truM (.bl b) S = .ok b S := rfl
theorem st_cmp {op : CO} (hu : X.A.units + 200 < cLine) (ha : PE X a (tE X.K cl wx ma)) (hb : PE X b (tE X.K cl wx mb)) (hm : behindInMarks (coOf op) b = false) : PT X (.Compare a [coOf op] [b] pos) (tTs X.K cl wx fun ρ => (do
    let x ← ma ρ
    let y ← mb ρ
    cmpM op x y) >>= truM) := by
  refine ⟨fun pins s σ H Q I ⟨ι, ρ, S, er, sr, hr⟩ => (pt_cmpR (op_cmp (cl := cl) (E := fun c d H' => wx c d σ H') hu op) ha hb hm).run pins s σ H Q I ?_⟩
  have hr' : Res X.K cl ((ma ρ >>= fun x => (mb ρ >>= fun y => cmpM op x y) >>= truM) S) ι H (fun b _ _ H' => Q b H') (fun c d H' => wx c d σ H') := by
    have e : ((do let x ← ma ρ; let y ← mb ρ; cmpM op x y) >>= truM) S = (ma ρ >>= fun x => (mb ρ >>= fun y => cmpM op x y) >>= truM) S := by
      show ((ma ρ S).bind _).bind _ = (ma ρ S).bind _
      cases ma ρ S <;> rfl
    rw [← e]; exact hr
  refine tE_bind er sr hr' fun ι1 H1 S1 w1 v1 e1 er1 sr1 r1 hr1 => ?_
  have hr1' : Res X.K cl ((mb ρ >>= fun y => cmpM op w1 y >>= truM) S1) ι1 H1 (fun b _ _ H' => Q b H') (fun c d H' => wx c d σ H') := by
    have e : ((mb ρ >>= fun y => cmpM op w1 y) >>= truM) S1 = (mb ρ >>= fun y => cmpM op w1 y >>= truM) S1 := by
      show ((mb ρ S1).bind _).bind _ = (mb ρ S1).bind _
      cases mb ρ S1 <;> rfl
    rw [← e]; exact hr1
  refine tE_bind er1 sr1 hr1' fun ι2 H2 S2 w2 v2 e2 er2 sr2 r2 hr2 => ?_
  refine ⟨ι2, S2, w1, w2, sr2, VR.ext e2 w1 r1, r2, ?_⟩
  have hb := Res.bind hr2
  cases hc : cmpM op w1 w2 S2 with
  | bad => rw [hc] at hb; exact hb
  | ex c fs s' => rw [hc] at hb; exact hb
  | ok w S3 =>
    rw [hc] at hb
    obtain ⟨k, e3, e4⟩ := cmp_bl hc
    subst e3 e4
    intro ι3 H3 e sr3 v rv
    exact ⟨k, rv.bl_inv, hb ι3 H3 e sr3 ι3 H3 Ext.refl sr3⟩
theorem se_chain {o1 o2 : CO} (hu : X.A.units + 200 < cLine) (ha : PE X a (tE X.K cl wx ma)) (hb : PE X b (tE X.K cl wx mb)) (hc : PE X c (tE X.K cl wx mc)) (hm : lastMarks [coOf o1, coOf o2] [b, c] = false) :
    PE X (.Compare a [coOf o1, coOf o2] [b, c] pos) (tE X.K cl wx fun ρ => do
      let x ← ma ρ
      let y ← mb ρ
      let z ← cmpM o1 x y
      match z with
      | .bl true => do
        let w ← mc ρ
        cmpM o2 y w
      | .bl false => pure (.bl false)
      | _ => M.bad) := by
  refine ⟨fun pins s σ H Q I ⟨ι, ρ, S, er, sr, hr⟩ => (pe_chain (op_cmp (cl := cl) (E := fun c d H' => wx c d σ H') hu o1) (op_cmp (cl := cl) (E := fun c d H' => wx c d σ H') hu o2) ha hb hc hm).run pins s σ H Q I ?_⟩
  refine tE_bind er sr hr fun ι1 H1 S1 w1 v1 e1 er1 sr1 r1 hr1 => tE_bind er1 sr1 hr1 fun ι2 H2 S2 w2 v2 e2 er2 sr2 r2 hr2 => ?_
  refine ⟨ι2, S2, w1, w2, sr2, VR.ext e2 w1 r1, r2, ?_⟩
  have hb := Res.bind hr2
  cases hcc : cmpM o1 w1 w2 S2 with
  | bad => rw [hcc] at hb; exact hb
  | ex c fs s' => rw [hcc] at hb; exact hb
  | ok w S3 =>
    rw [hcc] at hb
    obtain ⟨k, e3, e4⟩ := cmp_bl hcc
    subst e3 e4
    intro ι3 H3 e sr3 v rv
    refine ⟨k, rv.bl_inv, ?_⟩
    have hb3 := hb ι3 H3 e sr3
    cases k with
    | false => rw [if_neg Bool.false_ne_true]; exact Res.bl hb3 sr3
    | true =>
      rw [if_pos rfl]
      refine tE_bind (er2.ext e) sr3 hb3 fun ι4 H4 S4 w4 v4 e4 er4 sr4 r4 hr4 => ?_
      exact ⟨ι4, S4, w2, w4, sr4, VR.ext (e.trans e4) w2 r2, r4, hr4⟩
/-- a chain as a test -/
def chF (o1 o2 : CO) (ma mb mc : List W → M W) : List W → M W := fun ρ => do
  let x ← ma ρ
  let y ← mb ρ
  let z ← cmpM o1 x y
  match z with
  | .bl true => do
    let w ← mc ρ
    cmpM o2 y w
  | .bl false => pure (.bl false)
  | _ => M.bad
theorem chF_bl {o1 o2 : CO} {ma mb mc : List W → M W} {ρ : List W} {S S' : Sto} {w : W} (h : chF o1 o2 ma mb mc ρ S = .ok w S') : ∃ b, w = .bl b := by
  unfold chF at h
  have h : ((ma ρ S).bind fun x s => (mb ρ s).bind fun y s => (cmpM o1 x y s).bind fun z s => (match z with
    | .bl true => (mc ρ >>= fun w => cmpM o2 y w : M W)
    | .bl false => pure (.bl false)
    | _ => M.bad) s) = .ok w S' := h
  cases h1 : ma ρ S with
  | bad => rw [h1] at h; cases h
  | ex _ _ _ => rw [h1] at h; cases h
  | ok x s =>
    rw [h1] at h
    simp only [R.bind_ok] at h
    cases h2 : mb ρ s with
    | bad => rw [h2] at h; cases h
    | ex _ _ _ => rw [h2] at h; cases h
    | ok y s1 =>
      rw [h2] at h
      simp only [R.bind_ok] at h
      cases h3 : cmpM o1 x y s1 with
      | bad => rw [h3] at h; cases h
      | ex _ _ _ => rw [h3] at h; cases h
      | ok z s2 =>
        rw [h3] at h
        simp only [R.bind_ok] at h
        obtain ⟨k, rfl, e⟩ := cmp_bl h3
        cases k with
        | false => cases h; exact ⟨false, rfl⟩
        | true =>
          have h : ((mc ρ s2).bind fun w s => cmpM o2 y w s) = .ok w S' := h
          cases h4 : mc ρ s2 with
          | bad => rw [h4] at h; cases h
          | ex _ _ _ => rw [h4] at h; cases h
          | ok u s3 =>
            rw [h4] at h
            obtain ⟨k, hk, _⟩ := cmp_bl h
            exact ⟨k, hk⟩
theorem st_chain {o1 o2 : CO} (hu : X.A.units + 200 < cLine) (ha : PE X a (tE X.K cl wx ma)) (hb : PE X b (tE X.K cl wx mb)) (hc : PE X c (tE X.K cl wx mc)) (hm : lastMarks [coOf o1, coOf o2] [b, c] = false) :
    PT X (.Compare a [coOf o1, coOf o2] [b, c] pos) (tTs X.K cl wx fun ρ => chF o1 o2 ma mb mc ρ >>= truM) := by
  refine ⟨fun pins s σ H Q I ⟨ι, ρ, S, er, sr, hr⟩ => (pt_chain (op_cmp (cl := cl) (E := fun c d H' => wx c d σ H') hu o1) (op_cmp (cl := cl) (E := fun c d H' => wx c d σ H') hu o2) ha hb hc hm).run pins s σ H Q I ?_⟩
  have hr' : Res X.K cl (chF o1 o2 ma mb mc ρ S) ι H (EQ X.K fun v H' => ∃ k, v = .bl k ∧ Q k H') (fun c d H' => wx c d σ H') := by
    have hb := Res.bind hr
    cases hx : chF o1 o2 ma mb mc ρ S with
    | bad => rw [hx] at hb; exact hb
    | ex _ _ _ => rw [hx] at hb; exact hb
    | ok w S1 =>
      rw [hx] at hb
      obtain ⟨k, rfl⟩ := chF_bl hx
      intro ι1 H1 e1 sr1 v rv
      exact ⟨k, rv.bl_inv, hb ι1 H1 e1 sr1 ι1 H1 Ext.refl sr1⟩
  unfold chF at hr'
  refine tE_bind er sr hr' fun ι1 H1 S1 w1 v1 e1 er1 sr1 r1 hr1 => tE_bind er1 sr1 hr1 fun ι2 H2 S2 w2 v2 e2 er2 sr2 r2 hr2 => ?_
  refine ⟨ι2, S2, w1, w2, sr2, VR.ext e2 w1 r1, r2, ?_⟩
  have hb := Res.bind hr2
  cases hcc : cmpM o1 w1 w2 S2 with
  | bad => rw [hcc] at hb; exact hb
  | ex c fs s' => rw [hcc] at hb; exact hb
  | ok w S3 =>
    rw [hcc] at hb
    obtain ⟨k, e3, e4⟩ := cmp_bl hcc
    subst e3 e4
    intro ι3 H3 e sr3 v rv
    refine ⟨k, rv.bl_inv, ?_⟩
    have hb3 := hb ι3 H3 e sr3
    cases k with
    | false => rw [if_neg Bool.false_ne_true]; exact Res.val hb3 sr3 (by simp only [VR])
    | true =>
      rw [if_pos rfl]
      refine tE_bind (er2.ext e) sr3 hb3 fun ι4 H4 S4 w4 v4 e4 er4 sr4 r4 hr4 => ?_
      exact ⟨ι4, S4, w2, w4, sr4, VR.ext (e.trans e4) w2 r2, r4, hr4⟩
/-- the truth of a value, as a test -/
theorem st_tru (ha : PE X a (tE X.K cl wx ma)) (he : ∀ whole, isTrue a X.env whole = (do let v ← whole; standAt a.pos; holding [v] (truthy v))) : PT X a (tTs X.K cl wx fun ρ => ma ρ >>= truM) := by
  refine (pt_truth ha he).imp fun σ H Q ⟨ι, ρ, S, er, sr, hr⟩ => ?_
  refine tE_bind er sr hr fun ι1 H1 S1 w1 v1 e1 er1 sr1 r1 hr1 => ?_
  unfold truM at hr1
  split at hr1
  · rename_i k hk
    exact ⟨k, tru_V sr1 r1 hk, hr1 ι1 H1 Ext.refl sr1⟩
  · exact (hr1 : False).elim
/-- not -/
theorem se_not (ha : PE X a (tE X.K cl wx ma)) : PE X (.UnaryOp .Not a pos) (tE X.K cl wx fun ρ => do
    let x ← ma ρ
    let b ← truM x
    pure (.bl (!b))) := by
  refine (pe_notT ha).imp fun σ H Q ⟨ι, ρ, S, er, sr, hr⟩ => ?_
  refine tE_bind er sr hr fun ι1 H1 S1 w1 v1 e1 er1 sr1 r1 hr1 => ?_
  have hb := Res.bind hr1
  unfold truM at hb
  split at hb
  · rename_i k hk
    exact ⟨k, tru_V sr1 r1 hk, Res.bl (hb ι1 H1 Ext.refl sr1) sr1⟩
  · exact (hb : False).elim
theorem st_not (ha : PT X a (tTs X.K cl wx fun ρ => ma ρ >>= truM)) : PT X (.UnaryOp .Not a pos) (tTs X.K cl wx fun ρ => (do
    let x ← ma ρ
    let b ← truM x
    pure (.bl (!b))) >>= truM) := by
  refine (pt_not ha).imp fun σ H Q ⟨ι, ρ, S, er, sr, hr⟩ => ⟨ι, ρ, S, er, sr, ?_⟩
  have e : ((do let x ← ma ρ; let b ← truM x; pure (.bl (!b))) >>= truM) S = ((ma ρ >>= truM) >>= fun b => (pure (!b) : M Bool)) S := by
    show (((ma ρ S).bind _).bind _) = (((ma ρ S).bind _).bind _)
    cases ma ρ S with
    | ok w s' =>
      show ((truM w s').bind _).bind _ = (truM w s').bind _
      cases truM w s' <;> rfl
    | ex => rfl
    | bad => rfl
  have hr' : Res X.K cl (((ma ρ >>= truM) >>= fun b => (pure (!b) : M Bool)) S) ι H (fun b _ _ H' => Q b H') (fun c d H' => wx c d σ H') := by rw [← e]; exact hr
  exact (Res.bind hr').mono fun b S' ι' H' _ sr' h => h ι' H' Ext.refl sr'
end
end At

set_option Elab.async false
set_option linter.all false
set_option maxRecDepth 100000
set_option maxHeartbeats 2000000
/-! AtI: more readings: and, or, if-else, displays, subscripts, fields, calls of built-ins, methods. -/
namespace At
open PySem PySem.Spec PyProof.Rows L2

section
variable {X : Cx} {cl : Nm → Option Addr} {wx : WX} {a b c e : Expr} {es rest : List Expr} {ma mb mc : List W → M W} {ms : List W → M (List W)} {pos : Pos}
/-- values by truth -/
theorem se_and (ha : PE X a (tE X.K cl wx ma)) (hb : PE X (.BoolOp .And (b :: rest) pos) (tE X.K cl wx mb)) : PE X (.BoolOp .And (a :: b :: rest) pos) (tE X.K cl wx fun ρ => do
    let x ← ma ρ
    let t ← truM x
    if t then mb ρ else pure x) := by
  refine (pe_andT ha hb).imp fun σ H Q ⟨ι, ρ, S, er, sr, hr⟩ => ?_
  refine tE_bind er sr hr fun ι1 H1 S1 w1 v1 e1 er1 sr1 r1 hr1 => ?_
  have hb := Res.bind hr1
  unfold truM at hb
  split at hb
  · rename_i k hk
    refine ⟨k, tru_V sr1 r1 hk, ?_⟩
    have h := hb ι1 H1 Ext.refl sr1
    cases k with
    | true => exact ⟨ι1, ρ, S1, er1, sr1, h⟩
    | false => exact Res.val h sr1 r1
  · exact (hb : False).elim
theorem se_or (ha : PE X a (tE X.K cl wx ma)) (hb : PE X (.BoolOp .Or (b :: rest) pos) (tE X.K cl wx mb)) : PE X (.BoolOp .Or (a :: b :: rest) pos) (tE X.K cl wx fun ρ => do
    let x ← ma ρ
    let t ← truM x
    if t then pure x else mb ρ) := by
  refine (pe_orT ha hb).imp fun σ H Q ⟨ι, ρ, S, er, sr, hr⟩ => ?_
  refine tE_bind er sr hr fun ι1 H1 S1 w1 v1 e1 er1 sr1 r1 hr1 => ?_
  have hb := Res.bind hr1
  unfold truM at hb
  split at hb
  · rename_i k hk
    refine ⟨k, tru_V sr1 r1 hk, ?_⟩
    have h := hb ι1 H1 Ext.refl sr1
    cases k with
    | false => exact ⟨ι1, ρ, S1, er1, sr1, h⟩
    | true => exact Res.val h sr1 r1
  · exact (hb : False).elim
/-- .. as tests -/
theorem sw_and (ha : PT X a (tTs X.K cl wx fun ρ => ma ρ >>= truM)) (hb : PW X (.BoolOp .And (b :: rest) pos) (tTs X.K cl wx fun ρ => mb ρ >>= truM)) : PW X (.BoolOp .And (a :: b :: rest) pos) (tTs X.K cl wx fun ρ => (do
    let x ← ma ρ
    let t ← truM x
    if t then mb ρ else pure x) >>= truM) := by
  refine (pw_and ha hb).imp fun σ H Q ⟨ι, ρ, S, er, sr, hr⟩ => ⟨ι, ρ, S, er, sr, ?_⟩
  have hr2 : Res X.K cl (((ma ρ >>= truM) >>= fun t => if t then mb ρ >>= truM else (pure false : M Bool)) S) ι H (fun b _ _ H' => Q b H') (fun c d H' => wx c d σ H') := by
    have e : ((do let x ← ma ρ; let t ← truM x; if t then mb ρ else pure x) >>= truM) S = ((ma ρ >>= truM) >>= fun t => if t then mb ρ >>= truM else (pure false : M Bool)) S := by
      show (((ma ρ S).bind _).bind _) = (((ma ρ S).bind _).bind _)
      cases ma ρ S with
      | ok w s' =>
        show ((truM w s').bind _).bind _ = (truM w s').bind _
        unfold truM
        cases hk : truW s' w with
        | none => rfl
        | some k =>
          cases k with
          | true => rfl
          | false =>
            show truM w s' = _
            unfold truM
            rw [hk]; rfl
      | ex => rfl
      | bad => rfl
    rw [← e]; exact hr
  refine (Res.bind hr2).mono fun b S' ι' H' e' sr' h => ?_
  cases b with
  | true => rw [if_pos rfl]; exact ⟨ι', ρ, S', er.ext e', sr', h⟩
  | false => rw [if_neg Bool.false_ne_true]; exact h ι' H' Ext.refl sr'
theorem sw_or (ha : PT X a (tTs X.K cl wx fun ρ => ma ρ >>= truM)) (hb : PW X (.BoolOp .Or (b :: rest) pos) (tTs X.K cl wx fun ρ => mb ρ >>= truM)) : PW X (.BoolOp .Or (a :: b :: rest) pos) (tTs X.K cl wx fun ρ => (do
    let x ← ma ρ
    let t ← truM x
    if t then pure x else mb ρ) >>= truM) := by
  refine (pw_or ha hb).imp fun σ H Q ⟨ι, ρ, S, er, sr, hr⟩ => ⟨ι, ρ, S, er, sr, ?_⟩
  have hr2 : Res X.K cl (((ma ρ >>= truM) >>= fun t => if t then (pure true : M Bool) else mb ρ >>= truM) S) ι H (fun b _ _ H' => Q b H') (fun c d H' => wx c d σ H') := by
    have e : ((do let x ← ma ρ; let t ← truM x; if t then pure x else mb ρ) >>= truM) S = ((ma ρ >>= truM) >>= fun t => if t then (pure true : M Bool) else mb ρ >>= truM) S := by
      show (((ma ρ S).bind _).bind _) = (((ma ρ S).bind _).bind _)
      cases ma ρ S with
      | ok w s' =>
        show ((truM w s').bind _).bind _ = (truM w s').bind _
        unfold truM
        cases hk : truW s' w with
        | none => rfl
        | some k =>
          cases k with
          | false => rfl
          | true =>
            show truM w s' = _
            unfold truM
            rw [hk]; rfl
      | ex => rfl
      | bad => rfl
    rw [← e]; exact hr
  refine (Res.bind hr2).mono fun b S' ι' H' e' sr' h => ?_
  cases b with
  | false => rw [if_neg Bool.false_ne_true]; exact ⟨ι', ρ, S', er.ext e', sr', h⟩
  | true => rw [if_pos rfl]; exact h ι' H' Ext.refl sr'
theorem se_ite (hc : PT X c (tTs X.K cl wx fun ρ => mc ρ >>= truM)) (ha : PE X a (tE X.K cl wx ma)) (hb : PE X b (tE X.K cl wx mb)) : PE X (.IfExp c a b pos) (tE X.K cl wx fun ρ => do
    let x ← mc ρ
    let t ← truM x
    if t then ma ρ else mb ρ) := by
  refine (pe_ifExp hc ha hb).imp fun σ H Q ⟨ι, ρ, S, er, sr, hr⟩ => ⟨ι, ρ, S, er, sr, ?_⟩
  have hr2 : Res X.K cl (((mc ρ >>= truM) >>= fun t => if t then ma ρ else mb ρ) S) ι H (EQ X.K Q) (fun c d H' => wx c d σ H') := by
    have e : (do let x ← mc ρ; let t ← truM x; if t then ma ρ else mb ρ) S = ((mc ρ >>= truM) >>= fun t => if t then ma ρ else mb ρ) S := by
      show ((mc ρ S).bind _) = (((mc ρ S).bind _).bind _)
      cases mc ρ S <;> rfl
    rw [← e]; exact hr
  refine (Res.bind hr2).mono fun b S' ι' H' e' sr' h => ?_
  cases b with
  | false => rw [if_neg Bool.false_ne_true]; exact ⟨ι', ρ, S', er.ext e', sr', h⟩
  | true => rw [if_pos rfl]; exact ⟨ι', ρ, S', er.ext e', sr', h⟩
/-- argument lists -/
theorem sa_nil : PA X [] (tAs X.K cl wx fun _ => pure []) :=
  pa_nil.imp fun σ H Q ⟨ι, ρ, S, er, sr, hr⟩ => hr ι H Ext.refl sr [] VRs.nil
theorem sa_cons (ha : PE X e (tE X.K cl wx ma)) (hs : PA X es (tAs X.K cl wx ms)) (hst : starEach (e :: es) X.env = (false, eval e X.env) :: starEach es X.env) : PA X (e :: es) (tAs X.K cl wx fun ρ => do
    let x ← ma ρ
    let xs ← ms ρ
    pure (x :: xs)) := by
  refine (pa_cons ha hs hst).imp fun σ H Q ⟨ι, ρ, S, er, sr, hr⟩ => ?_
  refine tE_bind er sr hr fun ι1 H1 S1 w1 v1 e1 er1 sr1 r1 hr1 => tAs_bind er1 sr1 hr1 fun ι2 H2 S2 w2 v2 e2 er2 sr2 r2 hr2 => ?_
  exact hr2 ι2 H2 Ext.refl sr2 _ (VRs.cons (VR.ext e2 w1 r1) r2)
theorem se_tup {k : Nat} (hs : PA X es (tAs X.K cl wx ms)) : PE X (.Tuple es k pos) (tE X.K cl wx fun ρ => do
    let xs ← ms ρ
    mkT xs) := by
  refine (pe_tup hs).imp fun σ H Q ⟨ι, ρ, S, er, sr, hr⟩ => ?_
  refine tAs_bind er sr hr fun ι1 H1 S1 w1 v1 e1 er1 sr1 r1 hr1 => ?_
  unfold mkT at hr1
  split at hr1
  · rename_i hl
    exact ⟨by rw [← r1.length, line_eq]; exact hl, fun p hp => Res.tup hr1 sr1 r1 hp⟩
  · exact (hr1 : False).elim
theorem se_lst (hs : PA X es (tAs X.K cl wx ms)) : PE X (.List es pos) (tE X.K cl wx fun ρ => do
    let xs ← ms ρ
    newL xs) := by
  refine (pe_lst hs).imp fun σ H Q ⟨ι, ρ, S, er, sr, hr⟩ => ?_
  refine tAs_bind er sr hr fun ι1 H1 S1 w1 v1 e1 er1 sr1 r1 hr1 => ?_
  unfold newL at hr1
  split at hr1
  · rename_i hl
    exact ⟨by rw [← r1.length, line_eq]; exact hl, fun p hp => Res.lst hr1 sr1 r1 hp⟩
  · exact (hr1 : False).elim
/-- subscripts -/
theorem se_ix (ha : PE X a (tE X.K cl wx ma)) (hb : PE X b (tE X.K cl wx mb)) (hp : PlainIx b) : PE X (.Subscript a b pos) (tE X.K cl wx fun ρ => do
    let x ← ma ρ
    let y ← mb ρ
    ixM x y) := by
  refine ⟨fun pins s σ H Q I ⟨ι, ρ, S, er, sr, hr⟩ => (pe_ix (ix_ok (cl := cl) (E := fun c d H' => wx c d σ H')) ha hb hp).run pins s σ H Q I ?_⟩
  refine tE_bind er sr hr fun ι1 H1 S1 w1 v1 e1 er1 sr1 r1 hr1 => tE_bind er1 sr1 hr1 fun ι2 H2 S2 w2 v2 e2 er2 sr2 r2 hr2 => ?_
  exact ⟨ι2, S2, w1, w2, sr2, VR.ext e2 w1 r1, r2, hr2⟩
theorem so_none : PO X none (tPO X.K cl wx fun _ => do
    let l ← (pure .non : M W)
    partM true l) := po_none.imp fun σ H Q ⟨ι, ρ, S, er, sr, hr⟩ => (show Res X.K cl (.ok none S) ι H (fun o _ _ H' => Q o H') (fun c d H' => wx c d σ H') from hr) ι H Ext.refl sr
theorem so_some (ha : PE X a (tE X.K cl wx ma)) : PO X (some a) (tPO X.K cl wx fun ρ => do
    let l ← ma ρ
    partM false l) := by
  refine (po_some ha).imp fun σ H Q ⟨ι, ρ, S, er, sr, hr⟩ => ?_
  refine tE_bind er sr hr fun ι1 H1 S1 w1 v1 e1 er1 sr1 r1 hr1 => ?_
  cases w1 with
  | int i => exact ⟨i, r1.int_inv, (show Res X.K cl (.ok (some i) S1) ι1 H1 (fun o _ _ H' => Q o H') (fun c d H' => wx c d σ H') from hr1) ι1 H1 Ext.refl sr1⟩
  | _ => exact (hr1 : False).elim
theorem se_sli {lo hi : Option Expr} {ml mh : List W → M (Option Int)} {p2 : Pos} (ha : PE X a (tE X.K cl wx ma)) (hl : PO X lo (tPO X.K cl wx ml)) (hh : PO X hi (tPO X.K cl wx mh)) : PE X (.Subscript a (.Slice lo hi none p2) pos) (tE X.K cl wx fun ρ => do
    let x ← ma ρ
    let l ← ml ρ
    let h ← mh ρ
    sliM x l h) := by
  refine ⟨fun pins s σ H Q I ⟨ι, ρ, S, er, sr, hr⟩ => (pe_slice (sl_ok (cl := cl) (E := fun c d H' => wx c d σ H')) ha hl hh).run pins s σ H Q I ?_⟩
  refine tE_bind er sr hr fun ι1 H1 S1 w1 v1 e1 er1 sr1 r1 hr1 => ?_
  refine ⟨ι1, ρ, S1, er1, sr1, (Res.bind hr1).mono fun l S2 ι2 H2 e2 sr2 hr2 => ?_⟩
  refine ⟨ι2, ρ, S2, er1.ext e2, sr2, (Res.bind hr2).mono fun h S3 ι3 H3 e3 sr3 hr3 => ?_⟩
  exact ⟨ι3, S3, w1, sr3, VR.ext (e2.trans e3) w1 r1, hr3⟩
/-- a built-in by its name -/
theorem se_bi {x : Str} {p : Pos} {id : String} {m : List W → M W} (hc : ∀ E, CallR X (.builtin id) (rN X.K cl E m)) (hg : Gl X x) (hm : X.mg x = none) (hv : bootBuiltins x = some (.builtin id)) (ha : PA X (e :: es) (tAs X.K cl wx ms)) (hn : x ≠ "__name__") (hdb : (x == ("__debug__" : Str)) = false)
    (he : starEach (e :: es) X.env = (false, eval e X.env) :: starEach es X.env) (hpl : (backTo pos (starEach es X.env)).any (·.1) = false) : PE X (.Call (.Name x p) (e :: es) [] pos) (tE X.K cl wx fun ρ => do
    let xs ← ms ρ
    m xs) := by
  refine ⟨fun pins s σ H Q I ⟨ι, ρ, S, er, sr, hr⟩ => (pe_callB (hc fun c d H' => wx c d σ H') hg hm hv ha hn hdb he hpl).run pins s σ H Q I ?_⟩
  exact tAs_bind er sr hr fun ι1 H1 S1 w1 v1 e1 er1 sr1 r1 hr1 => ⟨ι1, S1, w1, sr1, r1, hr1⟩
theorem se_bty {x : Str} {p : Pos} {T : String} {m : List W → M W} (hc : ∀ E, CallR X (.type T) (rN X.K cl E m)) (hg : Gl X x) (hm : X.mg x = none) (hv : bootBuiltins x = some (.type T)) (ha : PA X (e :: es) (tAs X.K cl wx ms)) (hn : x ≠ "__name__") (hdb : (x == ("__debug__" : Str)) = false)
    (he : starEach (e :: es) X.env = (false, eval e X.env) :: starEach es X.env) (hpl : (backTo pos (starEach es X.env)).any (·.1) = false) : PE X (.Call (.Name x p) (e :: es) [] pos) (tE X.K cl wx fun ρ => do
    let xs ← ms ρ
    m xs) := by
  refine ⟨fun pins s σ H Q I ⟨ι, ρ, S, er, sr, hr⟩ => (pe_callTy (hc fun c d H' => wx c d σ H') hg hm hv ha hn hdb he hpl).run pins s σ H Q I ?_⟩
  exact tAs_bind er sr hr fun ι1 H1 S1 w1 v1 e1 er1 sr1 r1 hr1 => ⟨ι1, S1, w1, sr1, r1, hr1⟩
/-- a field -/
theorem fr_look {K : PySem.W.Frag} {ι : List Addr} {H : Hp} {f : Nm} {w : W} : ∀ {fs : List (Nm × W)} {fvs : List (Str × V)}, FR K ι H fs fvs → fs.lookup f = some w → ∃ v, fvs.lookup (toS f) = some v ∧ VR K ι H w v
  | [], fvs, h, e => by simp at e
  | (n, w') :: fs, fvs, h, e => by
    obtain ⟨v, r, rfl, r1, r2⟩ := h
    rw [List.lookup_cons] at e ⊢
    by_cases hn : f = n
    · subst hn
      simp only [beq_self_eq_true] at e ⊢
      cases e
      exact ⟨v, rfl, r1⟩
    · have h1 : (f == n) = false := beq_eq_false_iff_ne.mpr hn
      have h2 : (toS f == toS n) = false := beq_eq_false_iff_ne.mpr fun z => hn (toS_inj z)
      rw [h1] at e; rw [h2]
      exact fr_look r2 e
/-- what of the text the fields of a class ask -/
structure ClOk (K : PySem.W.Frag) (cl : Nm → Option Addr) (fns : List Nm) : Prop where
  cls : ∀ c C, cl c = some C → Cls K C
  noa : ∀ c C f, cl c = some C → f ∈ fns → NoAttr K C (toS f)
theorem se_fld {f : Nm} {fns : List Nm} (k : ClOk X.K cl fns) (hf : f ∈ fns) (ha : PE X a (tE X.K cl wx ma)) (hb : attributeBase a (toS f) X.env (eval a X.env) = eval a X.env) : PE X (.Attribute a (toS f) pos) (tE X.K cl wx fun ρ => do
    let x ← ma ρ
    match x with
    | .ob n => do
      let o ← getO n
      match o with
      | .ins _ fs => optM (fs.lookup f)
      | _ => M.bad
    | _ => M.bad) := by
  refine (pe_fld ha hb).imp fun σ H Q ⟨ι, ρ, S, er, sr, hr⟩ => ?_
  refine tE_bind er sr hr fun ι1 H1 S1 w1 v1 e1 er1 sr1 r1 hr1 => ?_
  cases w1 with
  | ob n =>
    obtain ⟨o, ho, hr2⟩ := Res.get hr1
    cases o with
    | ins cn fs =>
      obtain ⟨w, hw, hr3⟩ := Res.opt1 hr2
      obtain ⟨p, ep, hp⟩ := r1.ob_inv
      obtain ⟨q, hq, C, dx, fvs, hC, hH, hF⟩ := sr1.obj n _ ho
      rw [hp] at hq; cases hq
      obtain ⟨v, hv, rv⟩ := fr_look hF hw
      exact ⟨p, C, dx, fvs, v, ep, hH, k.cls _ _ hC, k.noa _ _ _ hC hf, hv, Res.val hr3 sr1 rv⟩
    | _ => exact (hr2 : False).elim
  | _ => exact (hr1 : False).elim
/-- a method of a text or list -/
theorem kd_ok {K : PySem.W.Frag} {ι : List Addr} {H : Hp} {m : Nm} {w : W} {S S' : Sto} {k : Kd} (h : kdM m w S = .ok k S') : S' = S ∧ ((∃ x, w = .str x ∧ k = .s x ∧ m ∈ strNames) ∨ ∃ n ys, w = .ob n ∧ k = .l n ∧ S[n]? = some (.lst ys) ∧ m ∈ lstNames) := by
  unfold kdM at h
  split at h
  · split at h
    · cases h; rename_i x hm; exact ⟨rfl, .inl ⟨x, rfl, rfl, hm⟩⟩
    · cases h
  · split at h
    · split at h
      · cases h; rename_i n _ ys hn hm; exact ⟨rfl, .inr ⟨n, ys, rfl, rfl, hn, hm⟩⟩
      · cases h
    · cases h
  · cases h
theorem kd_ex {m : Nm} {w : W} {S S' : Sto} {c : Nm} {fs : List (Nm × W)} (h : kdM m w S = .ex c fs S') : False := by
  unfold kdM at h
  split at h
  · split at h <;> cases h
  · split at h
    · split at h <;> cases h
    · cases h
  · cases h
def bmF (m : Nm) (ma : List W → M W) (ms : List W → M (List W)) : List W → M W := fun ρ => do
  let x ← ma ρ
  let k ← kdM m x
  let xs ← ms ρ
  bmM m k xs
/-- what stands behind the receiver and its kind -/
theorem bm_core {m : Nm} {σ : L2.St} {H : Hp} {Q : VK} {ι : List Addr} {ρ : List W} {S : Sto} (er : EnvR X.K ι H ρ σ) (sr : SR X.K cl ι H S) (hr : Res X.K cl (bmF m ma ms ρ S) ι H (EQ X.K Q) (fun c d H' => wx c d σ H')) (hm : m ∈ strNames ∨ m ∈ lstNames) :
    (m ∈ strNames ∧ tE X.K cl wx ma σ H fun x H1 => tyV X.K "str" x H1 ∧ tAs X.K cl wx ms σ H1 fun xs H2 => rMS X.K cl (fun c d H' => wx c d σ H') (strMe m) x xs H2 Q) ∨
    (m ∈ lstNames ∧ tE X.K cl wx ma σ H fun x H1 => tyV X.K "list" x H1 ∧ tAs X.K cl wx ms σ H1 fun xs H2 => rML X.K cl (fun c d H' => wx c d σ H') (lstMe m) x xs H2 Q) := by
  have hr' : Res X.K cl ((ma ρ S).bind fun x s => ((kdM m x s).bind fun k s' => (ms ρ >>= fun xs => bmM m k xs) s')) ι H (EQ X.K Q) (fun c d H' => wx c d σ H') := hr
  cases hx : ma ρ S with
  | bad => rw [hx] at hr'; exact (hr' : False).elim
  | ex c fs s' =>
    rw [hx] at hr'
    rcases hm with hm | hm
    · exact .inl ⟨hm, ι, ρ, S, er, sr, by rw [hx]; exact hr'⟩
    · exact .inr ⟨hm, ι, ρ, S, er, sr, by rw [hx]; exact hr'⟩
  | ok w1 S1 =>
    rw [hx] at hr'
    have hr1 : Res X.K cl ((kdM m w1 S1).bind fun k s' => (ms ρ >>= fun xs => bmM m k xs) s') ι H (EQ X.K Q) (fun c d H' => wx c d σ H') := hr'
    cases hk1 : kdM m w1 S1 with
    | bad => rw [hk1] at hr1; exact (hr1 : False).elim
    | ex _ _ _ => exact (kd_ex hk1).elim
    | ok k S2 =>
      rw [hk1] at hr1
      obtain ⟨e2, hc⟩ := kd_ok (K := X.K) (ι := ι) (H := H) hk1
      subst e2
      rcases hc with ⟨x, rfl, rfl, hm1⟩ | ⟨n, ys, rfl, rfl, hn, hm1⟩
      · refine .inl ⟨hm1, ι, ρ, S, er, sr, ?_⟩
        rw [hx]
        intro ι1 H1 e1 sr1 v1 r1
        refine ⟨by rw [r1.str_inv.1]; rfl, ?_⟩
        exact tAs_bind (er.ext e1) sr1 (Res.on hr1 e1) fun ι3 H3 S3 w3 v3 e3 er3 sr3 r3 hr3 => ⟨ι3, S3, x, w3, sr3, VR.ext e3 (.str x) r1, r3, hr3⟩
      · refine .inr ⟨hm1, ι, ρ, S, er, sr, ?_⟩
        rw [hx]
        intro ι1 H1 e1 sr1 v1 r1
        obtain ⟨p, ep, hp⟩ := r1.ob_inv
        obtain ⟨q, hq, vs, h1, h2⟩ := sr1.obj n _ hn
        rw [hp] at hq; cases hq
        refine ⟨by rw [ep]; exact .inl ⟨rfl, vs, .inl (.inl h1)⟩, ?_⟩
        refine tAs_bind (er.ext e1) sr1 (Res.on hr1 e1) fun ι3 H3 S3 w3 v3 e3 er3 sr3 r3 hr3 => ?_
        have hr4 : Res X.K cl (lstAt m n w3 S3) ι3 H3 (EQ X.K Q) (fun c d H' => wx c d σ H') := hr3
        unfold lstAt at hr4
        split at hr4
        · rename_i xs hxs
          exact ⟨ι3, S3, n, xs, w3, sr3, VR.ext e3 (.ob n) r1, hxs, r3, hr4⟩
        · exact (hr4 : False).elim
theorem se_bm {m : Nm} {o : Expr} {apos cpos : Pos} (hm : m ∈ strNames ∨ m ∈ lstNames) (ho : PE X o (tE X.K cl wx ma)) (hs : PA X (e :: es) (tAs X.K cl wx ms))
    (hbase : attributeBase o (toS m) X.env (eval o X.env) = eval o X.env) (hline : (apos.endLine == cpos.line) = true)
    (hfew : ((backTo cpos (starEach (e :: es) X.env)).all (fun x => !x.1) && (backToKw cpos (keywordEach [] X.env)).all (fun x => x.1.isSome) && decide ((e :: es).length + ([] : List Keyword).length + (if ([] : List Keyword).isEmpty then 0 else 1) < 30)) = true)
    (hst : starEach (e :: es) X.env = (false, eval e X.env) :: starEach es X.env) (hpl : (backTo cpos (starEach es X.env)).any (·.1) = false) : PE X (.Call (.Attribute o (toS m) apos) (e :: es) [] cpos) (tE X.K cl wx (bmF m ma ms)) := by
  refine ⟨fun pins s σ H Q I ⟨ι, ρ, S, er, sr, hr⟩ => ?_⟩
  rcases bm_core er sr hr hm with ⟨h1, h2⟩ | ⟨h1, h2⟩
  · obtain ⟨id, slot, ty, rule⟩ := strMe_ok (X := X) (cl := cl) (E := fun c d H' => wx c d σ H') h1
    exact (pe_bm PySem.F.plainAttrs_str slot ty rule ho hs hbase hfew hline hst hpl).run pins s σ H Q I h2
  · obtain ⟨id, slot, ty, rule⟩ := lstMe_ok (X := X) (cl := cl) (E := fun c d H' => wx c d σ H') h1
    exact (pe_bm PySem.F.plainAttrs_list slot ty rule ho hs hbase hfew hline hst hpl).run pins s σ H Q I h2
theorem se_bm0 {m : Nm} {o : Expr} {apos cpos : Pos} (hm : m ∈ strNames ∨ m ∈ lstNames) (ho : PE X o (tE X.K cl wx ma))
    (hbase : attributeBase o (toS m) X.env (eval o X.env) = eval o X.env) (hline : (apos.endLine == cpos.line) = true) : PE X (.Call (.Attribute o (toS m) apos) [] [] cpos) (tE X.K cl wx (bmF m ma fun _ => pure [])) := by
  have one : ∀ {σ : L2.St} {H : Hp} {r : List V → Hp → Prop}, tAs X.K cl wx (fun _ => pure []) σ H r → r [] H := fun {σ H r} ⟨ι, ρ, S, er, sr, hr⟩ => hr ι H Ext.refl sr [] VRs.nil
  have shrink : ∀ {σ : L2.St} {H : Hp} {R R' : V → Hp → Prop}, (∀ v H', R v H' → R' v H') → tE X.K cl wx ma σ H R → tE X.K cl wx ma σ H R' := fun {σ H R R'} f ⟨ι, ρ, S, er, sr, hr⟩ => ⟨ι, ρ, S, er, sr, hr.mono fun w S' ι' H' _ _ q v rv => f v H' (q v rv)⟩
  refine ⟨fun pins s σ H Q I ⟨ι, ρ, S, er, sr, hr⟩ => ?_⟩
  rcases bm_core er sr hr hm with ⟨h1, h2⟩ | ⟨h1, h2⟩
  · obtain ⟨id, slot, ty, rule⟩ := strMe_ok (X := X) (cl := cl) (E := fun c d H' => wx c d σ H') h1
    exact (pe_bm0 PySem.F.plainAttrs_str slot ty rule ho hbase hline).run pins s σ H Q I (shrink (fun v H' q => ⟨q.1, one q.2⟩) h2)
  · obtain ⟨id, slot, ty, rule⟩ := lstMe_ok (X := X) (cl := cl) (E := fun c d H' => wx c d σ H') h1
    exact (pe_bm0 PySem.F.plainAttrs_list slot ty rule ho hbase hline).run pins s σ H Q I (shrink (fun v H' q => ⟨q.1, one q.2⟩) h2)
end
end At

set_option Elab.async false
set_option linter.all false
set_option maxRecDepth 100000
set_option maxHeartbeats 2000000
/-! AtJ: walks, targets, comprehensions. -/
namespace At
open PySem PySem.Spec PyProof.Rows L2

structure JOk (K : PySem.W.Frag) (cl : Nm → Option Addr) (ι0 : List Addr) (H0 : Hp) (it : Wlk) (J : It) : Prop where
  stop : ∀ (ι : List Addr) (H : Hp) (S : Sto) (i : Nat), Ext ι0 H0 ι H → SR K cl ι H S → gdOk S it.gd = true → it.items.length ≤ i → J.stop i H
  go : ∀ (ι : List Addr) (H : Hp) (S : Sto) (i : Nat) (w : W), Ext ι0 H0 ι H → SR K cl ι H S → gdOk S it.gd = true → it.items[i]? = some w → J.go i H ∧ ∀ x H', J.yld i H x H' → Ext ι H ι H' ∧ SR K cl ι H' S ∧ VR K ι H' w x
def tIt (K : PySem.W.Frag) (cl : Nm → Option Addr) (wx : WX) (m : List W → M Wlk) : TI := fun σ H R =>
  ∃ (ι : List Addr) (ρ : List W) (S : Sto), EnvR K ι H ρ σ ∧ SR K cl ι H S ∧ Res K cl (m ρ S) ι H (fun it _ ι' H' => ∀ J, JOk K cl ι' H' it J → R J H') (fun c d H' => wx c d σ H')
section
variable {K : PySem.W.Frag} {cl : Nm → Option Addr} {ι ι0 : List Addr} {H H0 : Hp} {S : Sto}
/-- a list that is walked stands as the guard says -/
theorem gd_one {n : Nat} {xs : List W} {v : V} {a : Addr} (h : gdOk S [(n, xs)] = true) (sr : SR K cl ι H S) (ha : ι[n]? = some a) : ∃ vs, SqL K H a vs ∧ VRs K ι H xs vs := by
  simp only [gdOk, Bool.and_true] at h
  split at h
  · rename_i ys hy
    rw [decide_eq_true_eq] at h
    subst h
    obtain ⟨b, hb, vs, h1, h2⟩ := sr.obj n _ hy
    rw [ha] at hb; cases hb
    exact ⟨vs, .inl (.inl h1), h2⟩
  · rename_i ys hy
    rw [decide_eq_true_eq] at h
    subst h
    obtain ⟨b, hb, vs, h1, h2⟩ := sr.obj n _ hy
    rw [ha] at hb; cases hb
    exact ⟨vs, h1.sql, h2⟩
  · cases h
theorem gd_two {n m : Nat} {xs ys : List W} (h : gdOk S [(n, xs), (m, ys)] = true) : gdOk S [(n, xs)] = true ∧ gdOk S [(m, ys)] = true := by
  simp only [gdOk, Bool.and_true, Bool.and_eq_true] at h ⊢
  exact h
theorem vrs_none {ws : List W} {vs : List V} {i : Nat} (r : VRs K ι H ws vs) (h : ws.length ≤ i) : vs.length ≤ i := by rw [← r.length]; exact h
theorem jok_list {n : Nat} {xs : List W} {a : Addr} (ha : ι0[n]? = some a) : JOk K cl ι0 H0 ⟨xs, [(n, xs)]⟩ (Itl K a) where
  stop := fun ι H S i e sr g hi => by
    obtain ⟨vs, h1, h2⟩ := gd_one (v := .non) g sr (e.pre n a ha)
    exact ⟨vs, h1, vrs_none h2 hi⟩
  go := fun ι H S i w e sr g hw => by
    obtain ⟨vs, h1, h2⟩ := gd_one (v := .non) g sr (e.pre n a ha)
    obtain ⟨v, hv, rv⟩ := h2.get hw
    refine ⟨⟨vs, v, h1, hv⟩, fun x H' hy => ?_⟩
    obtain ⟨e1, hy⟩ := hy
    subst e1
    have := hy vs h1
    rw [hv] at this; cases this
    exact ⟨Ext.refl, sr, rv⟩
theorem jok_tup {xs : List W} {a : Addr} {vs : List V} (h : SqT K H0 a vs) (r : VRs K ι0 H0 xs vs) : JOk K cl ι0 H0 ⟨xs, []⟩ (Itt K a) where
  stop := fun ι H S i e sr g hi => ⟨vs, e.sqt h, vrs_none r hi⟩
  go := fun ι H S i w e sr g hw => by
    obtain ⟨v, hv, rv⟩ := r.get hw
    refine ⟨⟨vs, v, e.sqt h, hv⟩, fun x H' hy => ?_⟩
    obtain ⟨e1, hy⟩ := hy
    subst e1
    have := hy vs (e.sqt h)
    rw [hv] at this; cases this
    exact ⟨Ext.refl, sr, VR.ext e w rv⟩
theorem jok_str {x : List Nat} (o : SOk x) : JOk K cl ι0 H0 ⟨x.map fun c => .str [c], []⟩ (Its (toS x)) where
  stop := fun ι H S i e sr g hi => by
    show (toS x).cps.size ≤ i
    have : (toS x).cps.size = x.length := by simp [toS]
    rw [this]; simpa using hi
  go := fun ι H S i w e sr g hw => by
    rw [List.getElem?_map, Option.map_eq_some_iff] at hw
    obtain ⟨c, hc, ew⟩ := hw
    subst ew
    have hs : (toS x).cps[i]? = some c := by simp [toS, hc]
    refine ⟨?_, fun v H' hy => ?_⟩
    · show i < (toS x).cps.size
      have h1 : (toS x).cps.size = x.length := by simp [toS]
      rw [h1]; exact (List.getElem?_eq_some_iff.mp hc).1
    · obtain ⟨e1, d, hd, ev⟩ := hy
      subst e1
      rw [hs] at hd; cases hd
      refine ⟨Ext.refl, sr, ?_⟩
      simp only [VR]
      exact ⟨ev, ⟨by simp [LINE], fun k hk => by
        have : k = c := by simpa using hk
        rw [this]; exact o.2 c (List.mem_of_getElem? hc)⟩⟩
theorem jok_rng {lo : Int} {n : Nat} : JOk K cl ι0 H0 ⟨rngL lo n 1, []⟩ (Itr lo n) where
  stop := fun ι H S i e sr g hi => by
    show n ≤ i
    simpa [rngL] using hi
  go := fun ι H S i w e sr g hw => by
    simp only [rngL, List.getElem?_map, Option.map_eq_some_iff] at hw
    obtain ⟨k, hk, ew⟩ := hw
    have hi : i < n := by
      have := (List.getElem?_eq_some_iff.mp hk).1
      simpa using this
    have hk2 : k = i := by
      rw [List.getElem?_range hi] at hk
      exact (Option.some.inj hk).symm
    subst ew hk2
    refine ⟨hi, fun x H' hy => ?_⟩
    obtain ⟨e1, e2⟩ := hy
    subst e1
    refine ⟨Ext.refl, sr, ?_⟩
    simp only [VR]
    rw [e2, Int.one_mul]
theorem new_pair {T : Addr} {w1 w2 : W} {v1 v2 : V} (sr : SR K cl ι H S) (hT : H T = none) (r1 : VR K ι H w1 v1) (r2 : VR K ι H w2 v2) :
    Ext ι H ι (upd H T (.tup [v1, v2])) ∧ SR K cl ι (upd H T (.tup [v1, v2])) S ∧ VR K ι (upd H T (.tup [v1, v2])) (.tup [w1, w2]) (.ref T) := by
  have e : Ext ι H ι (upd H T (.tup [v1, v2])) := ext_tup hT
  refine ⟨e, sr.tup hT, ?_⟩
  simp only [VR]
  exact ⟨T, _, rfl, .inl (.inl upd_same), VRs.cons (VR.ext e w1 r1) (VRs.one (VR.ext e w2 r2))⟩
theorem jok_en {n : Nat} {xs : List W} {a : Addr} (ha : ι0[n]? = some a) : JOk K cl ι0 H0 ⟨(List.range xs.length).map fun (i : Nat) => .tup [.int (i : Int), xs.getD i .un], [(n, xs)]⟩ (Ite K a) where
  stop := fun ι H S i e sr g hi => by
    obtain ⟨vs, h1, h2⟩ := gd_one (v := .non) g sr (e.pre n a ha)
    exact ⟨vs, h1, vrs_none h2 (by simpa using hi)⟩
  go := fun ι H S i w e sr g hw => by
    obtain ⟨vs, h1, h2⟩ := gd_one (v := .non) g sr (e.pre n a ha)
    simp only [List.getElem?_map, Option.map_eq_some_iff] at hw
    obtain ⟨k, hk, ew⟩ := hw
    have hi : i < xs.length := by
      have := (List.getElem?_eq_some_iff.mp hk).1
      simpa using this
    have hk2 : k = i := by
      rw [List.getElem?_range hi] at hk
      exact (Option.some.inj hk).symm
    subst hk2
    have hx : xs[k]? = some (xs.getD k .un) := by
      rw [List.getD_eq_getElem?_getD, List.getElem?_eq_getElem hi]; rfl
    obtain ⟨v, hv, rv⟩ := h2.get hx
    refine ⟨⟨vs, v, h1, hv⟩, fun x H' hy => ?_⟩
    obtain ⟨T, y, e1, hT, e2, hy⟩ := hy
    have := hy vs h1
    rw [hv] at this; cases this
    subst e1 e2 ew
    exact new_pair sr hT (by simp only [VR]) rv
theorem jok_zp {n m : Nat} {xs ys : List W} {a b : Addr} (ha : ι0[n]? = some a) (hb : ι0[m]? = some b) : JOk K cl ι0 H0 ⟨(xs.zip ys).map fun p => .tup [p.1, p.2], [(n, xs), (m, ys)]⟩ (Itz K a b) where
  stop := fun ι H S i e sr g hi => by
    obtain ⟨g1, g2⟩ := gd_two g
    obtain ⟨vs, h1, h2⟩ := gd_one (v := .non) g1 sr (e.pre n a ha)
    obtain ⟨us, h3, h4⟩ := gd_one (v := .non) g2 sr (e.pre m b hb)
    refine ⟨vs, us, h1, h3, ?_⟩
    rw [← h2.length, ← h4.length]
    have : min xs.length ys.length ≤ i := by simpa using hi
    omega
  go := fun ι H S i w e sr g hw => by
    obtain ⟨g1, g2⟩ := gd_two g
    obtain ⟨vs, h1, h2⟩ := gd_one (v := .non) g1 sr (e.pre n a ha)
    obtain ⟨us, h3, h4⟩ := gd_one (v := .non) g2 sr (e.pre m b hb)
    simp only [List.getElem?_map, Option.map_eq_some_iff] at hw
    obtain ⟨p, hp, ew⟩ := hw
    obtain ⟨p1, p2⟩ := List.getElem?_zip_eq_some.mp hp
    obtain ⟨v, hv, rv⟩ := h2.get p1
    obtain ⟨u, hu, ru⟩ := h4.get p2
    refine ⟨⟨vs, us, v, u, h1, h3, hv, hu⟩, fun x H' hy => ?_⟩
    obtain ⟨T, y, z, e1, hT, e2, hy, hz⟩ := hy
    have a1 := hy vs h1
    have a2 := hz us h3
    rw [hv] at a1; cases a1
    rw [hu] at a2; cases a2
    subst e1 e2 ew
    exact new_pair sr hT rv ru
end
section
variable {X : Cx} {cl : Nm → Option Addr} {wx : WX} {a e : Expr} {es : List Expr} {ma : List W → M W} {ms : List W → M (List W)} {tg : Expr} {pos p : Pos}
/-- over a list, a tuple, a text -/
theorem si_ex (ha : PE X a (tE X.K cl wx ma)) : PI X tg a (tIt X.K cl wx fun ρ => do
    let ws ← (do
      let x ← ma ρ
      let xs ← (pure [] : M (List W))
      pure (x :: xs))
    itM .ex ws) := by
  refine ⟨fun pins s σ H R I ⟨ι, ρ, S, er, sr, hr⟩ => ?_⟩
  have e0 : ((do let ws ← (do let x ← ma ρ; let xs ← (pure [] : M (List W)); pure (x :: xs)); itM .ex ws) S) = (ma ρ >>= fun x => itM .ex [x]) S := by
    show (((ma ρ S).bind _).bind _) = ((ma ρ S).bind _)
    cases ma ρ S <;> rfl
  have hr' : Res X.K cl ((ma ρ >>= fun x => itM .ex [x]) S) ι H (fun it _ ι' H' => ∀ J, JOk X.K cl ι' H' it J → R J H') (fun c d H' => wx c d σ H') := by rw [← e0]; exact hr
  have hb := Res.bind hr'
  cases hx : ma ρ S with
  | bad => rw [hx] at hb; exact (hb : False).elim
  | ex c fs s' =>
    rw [hx] at hb
    exact (pi_list ha).run pins s σ H R I ⟨ι, ρ, S, er, sr, by rw [hx]; exact hb⟩
  | ok w S1 =>
    rw [hx] at hb
    cases w with
    | str x =>
      refine (pi_str ha).run pins s σ H R I ⟨ι, ρ, S, er, sr, ?_⟩
      rw [hx]
      intro ι1 H1 e1 sr1 v rv
      obtain ⟨ev, o⟩ := rv.str_inv
      have h := hb ι1 H1 e1 sr1
      exact ⟨toS x, ev, h ι1 H1 Ext.refl sr1 _ (jok_str o)⟩
    | tup xs =>
      refine (pi_tup ha).run pins s σ H R I ⟨ι, ρ, S, er, sr, ?_⟩
      rw [hx]
      intro ι1 H1 e1 sr1 v rv
      obtain ⟨p, vs, ev, h1, h2⟩ := rv.tup_inv
      have h := hb ι1 H1 e1 sr1
      exact ⟨p, ev, ⟨vs, h1⟩, h ι1 H1 Ext.refl sr1 _ (jok_tup h1 h2)⟩
    | ob n =>
      refine (pi_list ha).run pins s σ H R I ⟨ι, ρ, S, er, sr, ?_⟩
      rw [hx]
      intro ι1 H1 e1 sr1 v rv
      have h := hb ι1 H1 e1 sr1
      have h' : Res X.K cl ((itemsOf n S1).bind fun xs s => .ok ⟨xs, [(n, xs)]⟩ s) ι1 H1 (fun it _ ι' H' => ∀ J, JOk X.K cl ι' H' it J → R J H') (fun c d H' => wx c d σ H') := by
        have e2 : (itM .ex [.ob n] S1) = ((itemsOf n S1).bind fun xs s => .ok ⟨xs, [(n, xs)]⟩ s) := by
          show ((itemsOf n S1).bind _).bind _ = _
          cases itemsOf n S1 <;> rfl
        rw [← e2]; exact h
      obtain ⟨xs, p, vs, ev, h1, h2, _, h3⟩ := Res.items h' sr1 rv
      obtain ⟨p', ev', hp⟩ := rv.ob_inv
      have : p = p' := by rw [ev] at ev'; cases ev'; rfl
      subst this
      exact ⟨p, ev, ⟨vs, h1⟩, h3 ι1 H1 Ext.refl sr1 _ (jok_list hp)⟩
    | _ =>
      refine (pi_list ha).run pins s σ H R I ⟨ι, ρ, S, er, sr, ?_⟩
      rw [hx]
      intro ι1 H1 e1 sr1 v rv
      exact (hb ι1 H1 e1 sr1 : False).elim
theorem r62 {i : Int} (h : R62 i = true) : -(2 ^ 62) ≤ i ∧ i < 2 ^ 62 := by
  unfold R62 at h
  rw [Bool.and_eq_true, decide_eq_true_eq, decide_eq_true_eq] at h
  exact h
/-- range(n), range(a, b) -/
theorem si_rng1 (hg : Gl X "range") (hm : X.mg "range" = none) (ha : PA X [e] (tAs X.K cl wx ms)) (hs : starEach [e] X.env = [(false, eval e X.env)]) (h1 : ∀ ρ S ws S', ms ρ S = .ok ws S' → ws.length = 1) : PI X tg (.Call (.Name "range" p) [e] [] pos) (tIt X.K cl wx fun ρ => do
    let ws ← ms ρ
    rngM ws) := by
  refine ⟨fun pins s σ H R I ⟨ι, ρ, S, er, sr, hr⟩ => (pi_range1 hg hm ha hs).run pins s σ H R I ?_⟩
  have hb := Res.bind hr
  refine ⟨ι, ρ, S, er, sr, ?_⟩
  cases hx : ms ρ S with
  | bad => rw [hx] at hb; exact hb
  | ex c fs s' => rw [hx] at hb; exact hb
  | ok ws S1 =>
    have hl := h1 ρ S ws S1 hx
    rw [hx] at hb
    intro ι1 H1 e1 sr1 vs r1
    have hr1 : Res X.K cl (rngM ws S1) ι1 H1 (fun it _ ι' H' => ∀ J, JOk X.K cl ι' H' it J → R J H') (fun c d H' => wx c d σ H') := hb ι1 H1 e1 sr1
    unfold rngM at hr1
    split at hr1
    · rename_i j
      obtain ⟨v, ev, rv⟩ := vr1 r1
      split at hr1
      · rename_i hj
        obtain ⟨h1, h2⟩ := r62 hj
        rw [rv.int_inv] at ev
        refine ⟨j, ev, h1, h2, ?_⟩
        exact (show Res X.K cl (.ok ⟨rngL 0 j.toNat 1, []⟩ S1) ι1 H1 (fun it _ ι' H' => ∀ J, JOk X.K cl ι' H' it J → R J H') (fun c d H' => wx c d σ H') from hr1) ι1 H1 Ext.refl sr1 _ jok_rng
      · exact (hr1 : False).elim
    · simp at hl
    · exact (hr1 : False).elim
theorem si_rng2 {e2 : Expr} (hg : Gl X "range") (hm : X.mg "range" = none) (ha : PA X [e, e2] (tAs X.K cl wx ms)) (hs : starEach [e, e2] X.env = [(false, eval e X.env), (false, eval e2 X.env)]) (hs2 : starEach [e2] X.env = [(false, eval e2 X.env)]) (hl2 : ∀ ρ S ws S', ms ρ S = .ok ws S' → ws.length = 2) : PI X tg (.Call (.Name "range" p) [e, e2] [] pos) (tIt X.K cl wx fun ρ => do
    let ws ← ms ρ
    rngM ws) := by
  refine ⟨fun pins s σ H R I ⟨ι, ρ, S, er, sr, hr⟩ => (pi_range2 hg hm ha hs hs2).run pins s σ H R I ?_⟩
  have hb := Res.bind hr
  refine ⟨ι, ρ, S, er, sr, ?_⟩
  cases hx : ms ρ S with
  | bad => rw [hx] at hb; exact hb
  | ex c fs s' => rw [hx] at hb; exact hb
  | ok ws S1 =>
    have hl := hl2 ρ S ws S1 hx
    rw [hx] at hb
    intro ι1 H1 e1 sr1 vs r1
    have hr1 : Res X.K cl (rngM ws S1) ι1 H1 (fun it _ ι' H' => ∀ J, JOk X.K cl ι' H' it J → R J H') (fun c d H' => wx c d σ H') := hb ι1 H1 e1 sr1
    unfold rngM at hr1
    split at hr1
    · simp at hl
    · rename_i i j
      obtain ⟨v, r', rfl, rv, r2⟩ := r1.cons_inv
      obtain ⟨v2, rfl, rv2⟩ := vr1 r2
      split at hr1
      · rename_i hj
        rw [Bool.and_eq_true] at hj
        obtain ⟨h1, h2⟩ := r62 hj.1
        obtain ⟨h3, h4⟩ := r62 hj.2
        refine ⟨i, j, by rw [rv.int_inv, rv2.int_inv], ⟨h1, h2, h3, h4⟩, ?_⟩
        exact (show Res X.K cl (.ok ⟨rngL i (j - i).toNat 1, []⟩ S1) ι1 H1 (fun it _ ι' H' => ∀ J, JOk X.K cl ι' H' it J → R J H') (fun c d H' => wx c d σ H') from hr1) ι1 H1 Ext.refl sr1 _ jok_rng
      · exact (hr1 : False).elim
    · exact (hr1 : False).elim
theorem si_en {elts : List Expr} {kk : Nat} {tpos : Pos} (hg : Gl X "enumerate") (hm : X.mg "enumerate" = none) (ha : PA X [e] (tAs X.K cl wx ms)) (hs : starEach [e] X.env = [(false, eval e X.env)]) : PI X (.Tuple elts kk tpos) (.Call (.Name "enumerate" p) [e] [] pos) (tIt X.K cl wx fun ρ => do
    let ws ← ms ρ
    enM ws) := by
  refine ⟨fun pins s σ H R I ⟨ι, ρ, S, er, sr, hr⟩ => (pi_enum hg hm ha hs).run pins s σ H R I ?_⟩
  refine tAs_bind er sr hr fun ι1 H1 S1 ws vs e1 er1 sr1 r1 hr1 => ?_
  unfold enM at hr1
  split at hr1
  · rename_i n
    obtain ⟨v, ev, rv⟩ := vr1 r1
    obtain ⟨xs, a, us, e2, h1, h2, _, h3⟩ := Res.items hr1 sr1 rv
    obtain ⟨a', e3, ha'⟩ := rv.ob_inv
    have : a = a' := by rw [e2] at e3; cases e3; rfl
    subst this
    refine ⟨a, us, by rw [ev, e2], h1, ?_⟩
    exact h3 ι1 H1 Ext.refl sr1 _ (jok_en ha')
  · exact (hr1 : False).elim
theorem si_zp {e2 : Expr} {elts : List Expr} {kk : Nat} {tpos : Pos} (hg : Gl X "zip") (hm : X.mg "zip" = none) (ha : PA X [e, e2] (tAs X.K cl wx ms)) (hs : starEach [e, e2] X.env = (false, eval e X.env) :: starEach [e2] X.env) (hpl : (backTo pos (starEach [e2] X.env)).any (·.1) = false) :
    PI X (.Tuple elts kk tpos) (.Call (.Name "zip" p) [e, e2] [] pos) (tIt X.K cl wx fun ρ => do
    let ws ← ms ρ
    zpM ws) := by
  refine ⟨fun pins s σ H R I ⟨ι, ρ, S, er, sr, hr⟩ => (pi_zip hg hm ha hs hpl).run pins s σ H R I ?_⟩
  refine tAs_bind er sr hr fun ι1 H1 S1 ws vs e1 er1 sr1 r1 hr1 => ?_
  unfold zpM at hr1
  split at hr1
  · rename_i n m
    obtain ⟨v, r', ev, rv, r2⟩ := r1.cons_inv
    obtain ⟨v2, ev2, rv2⟩ := vr1 r2
    obtain ⟨xs, a, us, e3, h1, h2, _, h3⟩ := Res.items hr1 sr1 rv
    obtain ⟨ys, b, ts, e4, h4, h5, _, h6⟩ := Res.items h3 sr1 rv2
    obtain ⟨a', e5, ha'⟩ := rv.ob_inv
    obtain ⟨b', e6, hb'⟩ := rv2.ob_inv
    have : a = a' := by rw [e3] at e5; cases e5; rfl
    subst this
    have : b = b' := by rw [e4] at e6; cases e6; rfl
    subst this
    refine ⟨a, b, us, ts, by rw [ev, ev2, e3, e4], h1, h4, ?_⟩
    exact h6 ι1 H1 Ext.refl sr1 _ (jok_zp ha' hb')
  · exact (hr1 : False).elim
end
end At

set_option Elab.async false
set_option linter.all false
set_option maxRecDepth 100000
set_option maxHeartbeats 2000000
/-! AtK: targets, comprehensions. -/
namespace At
open PySem PySem.Spec PyProof.Rows L2

/-- the slots outside V are kept -/
def Agr (V : Nat → Bool) (σ σ' : L2.St) : Prop := σ'.length = σ.length ∧ ∀ i : Nat, V i = false → σ'[i]? = σ[i]?
theorem Agr.refl {V : Nat → Bool} {σ : L2.St} : Agr V σ σ := ⟨rfl, fun _ _ => rfl⟩
theorem Agr.trans {V : Nat → Bool} {a b c : L2.St} (h : Agr V a b) (g : Agr V b c) : Agr V a c := ⟨g.1.trans h.1, fun i hi => (g.2 i hi).trans (h.2 i hi)⟩
theorem agr_set {V : Nat → Bool} {σ : L2.St} {i : Nat} {x : Option L2.V} (h : V i = true) : Agr V σ (σ.set i x) :=
  ⟨List.length_set, fun j hj => List.getElem?_set_ne (fun e => by rw [e, hj] at h; cases h)⟩
theorem env_set {K : PySem.W.Frag} {ι : List Addr} {H : Hp} {ρ : List W} {σ : L2.St} {i : Nat} {w : W} {v : L2.V} (er : EnvR K ι H ρ σ) (r : VR K ι H w v) : EnvR K ι H (ρ.set i w) (σ.set i (some v)) := by
  refine ⟨by rw [List.length_set, List.length_set]; exact er.1, fun j w' h hne => ?_⟩
  by_cases e : i = j
  · subst e
    have hl : i < ρ.length := by
      have := (List.getElem?_eq_some_iff.mp h).1
      rwa [List.length_set] at this
    rw [List.getElem?_set_self hl] at h
    cases h
    exact ⟨v, List.getElem?_set_self (by rw [← er.1]; exact hl), r⟩
  · rw [List.getElem?_set_ne e] at h
    obtain ⟨v', h1, h2⟩ := er.2 j w' h hne
    exact ⟨v', by rw [List.getElem?_set_ne e]; exact h1, h2⟩
/-! ### targets -/
def tG (K : PySem.W.Frag) (cl : Nm → Option Addr) (V : Nat → Bool) (g : G) : TG := fun v σ H Q =>
  ∃ (ι : List Addr) (S : Sto) (w : W) (ρ ρ' : List W), EnvR K ι H ρ σ ∧ SR K cl ι H S ∧ VR K ι H w v ∧ asgG S g w ρ = some ρ' ∧ ∀ σ', Agr V σ σ' → EnvR K ι H ρ' σ' → Q σ' H
def tGs (K : PySem.W.Frag) (cl : Nm → Option Addr) (V : Nat → Bool) (gs : List G) : TGs := fun vs σ H Q =>
  ∃ (ι : List Addr) (S : Sto) (ws : List W) (ρ ρ' : List W), EnvR K ι H ρ σ ∧ SR K cl ι H S ∧ VRs K ι H ws vs ∧ asgGs S gs ws ρ = some ρ' ∧ ∀ σ', Agr V σ σ' → EnvR K ι H ρ' σ' → Q σ' H
theorem _root_.L2.PG.imp {X : Cx} {e : Expr} {t t' : TG} (h : PG X e t) (q : ∀ v σ H Q, t' v σ H Q → t v σ H Q) : PG X e t' := ⟨fun pins s σ H v u Q I r z => h.run pins s σ H v u Q I r (q v σ H Q z)⟩
theorem _root_.L2.PGs.imp {X : Cx} {e : List Expr} {t t' : TGs} (h : PGs X e t) (q : ∀ v σ H Q, t' v σ H Q → t v σ H Q) : PGs X e t' := ⟨fun pins s σ H v u Q I r z => h.run pins s σ H v u Q I r (q v σ H Q z)⟩
section
variable {X : Cx} {cl : Nm → Option Addr} {wx : WX} {V : Nat → Bool} {pos : Pos}
theorem sg_n {i : Nat} {x : Str} (hN : X.N.Nodup) (hi : X.N[i]? = some x) (hx : Loc X.env.scope x) (hf : X.fn x = true ∨ X.env.scope.names.lookup x = some .local) (hV : V i = true) : PG X (.Name x pos) (tG X.K cl V (.n i)) := by
  refine (pg_name hN hi hx hf).imp fun v σ H Q ⟨ι, S, w, ρ, ρ', er, sr, r, h, q⟩ => ?_
  simp only [asgG] at h
  split at h
  · cases h
    exact q _ (agr_set hV) (env_set er r)
  · cases h
theorem sgs_nil : PGs X [] (tGs X.K cl V []) := by
  refine pgs_nil.imp fun vs σ H Q ⟨ι, S, ws, ρ, ρ', er, sr, r, h, q⟩ => ?_
  cases ws with
  | nil =>
    simp only [asgGs] at h
    cases h
    exact ⟨r.nil_inv, q σ Agr.refl er⟩
  | cons w ws => simp [asgGs] at h
theorem sgs_cons {e : Expr} {es : List Expr} {g : G} {gs : List G} (h1 : PG X e (tG X.K cl V g)) (h2 : PGs X es (tGs X.K cl V gs))
    (hs : (assignEach (e :: es) X.env).map (·.2) = assign e X.env :: (assignEach es X.env).map (·.2)) : PGs X (e :: es) (tGs X.K cl V (g :: gs)) := by
  refine (pgs_cons h1 h2 hs).imp fun vs σ H Q ⟨ι, S, ws, ρ, ρ', er, sr, r, h, q⟩ => ?_
  cases ws with
  | nil => simp [asgGs] at h
  | cons w ws =>
    obtain ⟨v, rest, rfl, r1, r2⟩ := r.cons_inv
    simp only [asgGs] at h
    split at h
    · rename_i ρ1 hρ
      refine ⟨v, rest, rfl, ι, S, w, ρ, ρ1, er, sr, r1, hρ, fun σ1 a1 er1 => ?_⟩
      exact ⟨ι, S, ws, ρ1, ρ', er1, sr, r2, h, fun σ2 a2 er2 => q σ2 (a1.trans a2) er2⟩
    · cases h
theorem asgGs_len {S : Sto} : ∀ {gs : List G} {ws ρ ρ' : List W}, asgGs S gs ws ρ = some ρ' → ws.length = gs.length
  | [], [], _, _, _ => rfl
  | [], _ :: _, _, _, h => by simp [asgGs] at h
  | _ :: _, [], _, _, h => by simp [asgGs] at h
  | g :: gs, w :: ws, _, _, h => by
    simp only [asgGs] at h
    split at h
    · rw [List.length_cons, List.length_cons, asgGs_len h]
    · cases h
theorem sg_t {es : List Expr} {k n : Nat} {gs : List G} (hc : X.calm = true) (h : PGs X es (tGs X.K cl V gs)) (hl : gs.length = n) (hn : (assignEach es X.env).length = n) (hst : (assignEach es X.env).findIdx? (·.1) = none) : PG X (.Tuple es k pos) (tG X.K cl V (.t gs)) := by
  refine (pg_tup hc h hn hst).imp fun v σ H Q ⟨ι, S, w, ρ, ρ', er, sr, r, h, q⟩ => ?_
  cases w with
  | tup ws =>
    simp only [asgG] at h
    obtain ⟨a, vs, e, h1, h2⟩ := r.tup_inv
    exact ⟨a, vs, e, h1, by rw [← h2.length, ← hl]; exact asgGs_len h, ι, S, ws, ρ, ρ', er, sr, h2, h, q⟩
  | _ => simp [asgG] at h
/-! ### comprehensions -/
def wF : WX := fun _ _ _ _ => False
theorem Res.noEx {α : Type} {K : PySem.W.Frag} {ι : List Addr} {H : Hp} {m : M α} {S : Sto} {Q : α → Sto → List Addr → Hp → Prop} {E : XK} (h : Res K cl (noEx m S) ι H Q E) : Res K cl (m S) ι H Q (fun _ _ _ => False) := by
  unfold At.noEx at h
  cases hm : m S with
  | ok a s' => rw [hm] at h; exact h
  | ex c fs s' => rw [hm] at h; exact (h : False).elim
  | bad => rw [hm] at h; exact h
theorem wipe_env {K : PySem.W.Frag} {ι : List Addr} {H : Hp} {ρ : List W} {σ : L2.St} (er : EnvR K ι H ρ σ) : ∀ own : List Nat, EnvR K ι H (wipeW ρ own) (wipe σ own)
  | [] => er
  | i :: own => by
    have ih := wipe_env er own
    refine ⟨by simp only [wipeW, wipe, List.length_set]; exact ih.1, fun j w h hne => ?_⟩
    simp only [wipeW] at h
    simp only [wipe]
    by_cases e : i = j
    · subst e
      by_cases hl : i < (wipeW ρ own).length
      · rw [List.getElem?_set_self hl] at h
        cases h
        exact absurd rfl hne
      · rw [List.getElem?_eq_none (by rw [List.length_set]; omega)] at h; cases h
    · rw [List.getElem?_set_ne e] at h
      obtain ⟨v, h1, h2⟩ := ih.2 j w h hne
      exact ⟨v, by rw [List.getElem?_set_ne e]; exact h1, h2⟩
theorem wipe_get {σ : L2.St} : ∀ {own : List Nat} {i : Nat}, i ∉ own → (wipe σ own)[i]? = σ[i]?
  | [], _, _ => rfl
  | j :: own, i, h => by
    simp only [List.mem_cons, not_or] at h
    simp only [wipe]
    rw [List.getElem?_set_ne (fun e => h.1 e.symm)]
    exact wipe_get h.2
theorem wipe_in {σ : L2.St} : ∀ {own : List Nat} {i : Nat}, i ∈ own → i < σ.length → (wipe σ own)[i]? = some none
  | [], _, h, _ => nomatch h
  | j :: own, i, h, hl => by
    simp only [wipe]
    by_cases e : j = i
    · subst e
      exact List.getElem?_set_self (by rw [wipe_length]; exact hl)
    · rw [List.getElem?_set_ne e]
      rcases List.mem_cons.mp h with h | h
      · exact absurd h.symm e
      · exact wipe_in h hl
theorem wipe_agr {σ σ' : L2.St} {own : List Nat} (a : Agr (fun i => decide (i ∈ own)) (wipe σ own) σ') : wipe σ' own = wipe σ own := by
  refine List.ext_getElem? fun i => ?_
  by_cases h : i ∈ own
  · by_cases hl : i < σ.length
    · rw [wipe_in h hl, wipe_in h (by have := a.1; rw [wipe_length] at this; omega)]
    · have h1 := a.1
      rw [wipe_length] at h1
      rw [List.getElem?_eq_none (by rw [wipe_length]; omega), List.getElem?_eq_none (by rw [wipe_length]; omega)]
  · rw [wipe_get h, a.2 i (by simpa using h)]
/-- the turns -/
theorem lc_turns {K : PySem.W.Frag} {tg : G} {own : List Nat} {test el : List W → M W} {it : Wlk} {J : It} {ι0 : List Addr} {H0 : Hp} {ρ : List W} {σ : L2.St} {n D : Nat} {QD : Hp → Prop} {E : XK} (jok : JOk K cl ι0 H0 it J)
    {ι1 : List Addr} {H1 : Hp} {S1 : Sto} (e1 : Ext ι0 H0 ι1 H1) (hn : ι1[n]? = some D) (er : EnvR K ι1 H1 (wipeW ρ own) (wipe σ own)) (sr : SR K cl ι1 H1 S1)
    (hr : Res K cl (lcGo tg test el it.gd (wipeW ρ own) n it.items S1) ι1 H1 (fun _ _ _ H' => QD H') E) :
    ∃ W : Nat → Nat → Hp → Prop, (∃ m, W 0 m H1) ∧ ∀ i m H, W i m H →
      (J.stop i H ∧ QD H) ∨ (J.go i H ∧ ∃ Nx : Hp → Prop, (∀ H', Nx H' → ∃ m', m' < m ∧ W (i + 1) m' H') ∧ ∀ x H', J.yld i H x H' → tG K cl (fun i => decide (i ∈ own)) tg x (wipe σ own) H' fun σ2 H2 => wipe σ2 own = wipe σ own ∧ tTs K cl wF (fun ρ' => test ρ' >>= truM) σ2 H2 fun b H3 =>
        if b = true then tE K cl wF el σ2 H3 fun y H4 => ∃ acc, H4 D = some (.lst acc) ∧ acc.length < sizeLine ∧ Nx (upd H4 D (.lst (acc ++ [y]))) else Nx H3) := by
  refine ⟨fun i m H => m = it.items.length - i ∧ i ≤ it.items.length ∧ ∃ (ι : List Addr) (S : Sto), Ext ι1 H1 ι H ∧ SR K cl ι H S ∧ Res K cl (lcGo tg test el it.gd (wipeW ρ own) n (it.items.drop i) S) ι H (fun _ _ _ H' => QD H') E,
    ⟨_, rfl, Nat.zero_le _, ι1, S1, Ext.refl, sr, hr⟩, ?_⟩
  rintro i m H ⟨rfl, hi, ι, S, e2, sr2, hr2⟩
  by_cases hlt : i < it.items.length
  · have hd : it.items.drop i = it.items[i] :: it.items.drop (i + 1) := List.drop_eq_getElem_cons hlt
    rw [hd] at hr2
    simp only [lcGo] at hr2
    split at hr2
    · rename_i hg
      obtain ⟨go, yld⟩ := jok.go ι H S i it.items[i] (e1.trans e2) sr2 hg (List.getElem?_eq_getElem hlt)
      refine .inr ⟨go, fun H' => ∃ (ι' : List Addr) (S' : Sto), Ext ι1 H1 ι' H' ∧ SR K cl ι' H' S' ∧ Res K cl (lcGo tg test el it.gd (wipeW ρ own) n (it.items.drop (i + 1)) S') ι' H' (fun _ _ _ H' => QD H') E,
        fun H' ⟨ι', S', a, b, c⟩ => ⟨it.items.length - (i + 1), by omega, rfl, hlt, ι', S', a, b, c⟩, fun x H' hy => ?_⟩
      obtain ⟨e3, sr3, r3⟩ := yld x H' hy
      cases hρ : asgG S tg it.items[i] (wipeW ρ own) with
      | none => simp only [hρ] at hr2; exact (hr2 : False).elim
      | some ρ' =>
        simp only [hρ] at hr2
        refine ⟨ι, S, _, wipeW ρ own, ρ', er.ext (e2.trans e3), sr3, r3, hρ, fun σ2 a2 er2 => ⟨wipe_agr a2, ?_⟩⟩
        refine ⟨ι, ρ', S, er2, sr3, ?_⟩
        refine (Res.noEx (Res.bind (Res.on hr2 e3))).mono fun b S4 ι4 H4 e4 sr4 h4 => ?_
        cases b with
        | false =>
          rw [if_neg Bool.false_ne_true]
          exact ⟨ι4, S4, (e2.trans e3).trans e4, sr4, h4⟩
        | true =>
          rw [if_pos rfl]
          refine ⟨ι4, ρ', S4, er2.ext e4, sr4, ?_⟩
          refine (Res.noEx (Res.bind (show Res K cl ((At.noEx (el ρ') S4).bind _) ι4 H4 _ E from h4))).mono fun w S5 ι5 H5 e5 sr5 h5 v rv => ?_
          have e15 := ((e2.trans e3).trans e4).trans e5
          split at h5
          · rename_i acc hacc
            split at h5
            · rename_i hl
              obtain ⟨q, hq, vs, g1, g2⟩ := sr5.obj n _ hacc
              have hnD := e15.pre n D hn
              rw [hnD] at hq; cases hq
              obtain ⟨e6, sr6⟩ := put_lst sr5 hacc hnD ⟨vs, g1⟩ (g2.append (VRs.one rv))
              exact ⟨vs, g1, by rw [← g2.length, line_eq]; exact hl, ι5, _, e15.trans e6, sr6, Res.on h5 e6⟩
            · exact (h5 : False).elim
          · exact (h5 : False).elim
    · exact (hr2 : False).elim
  · have hi2 : i = it.items.length := by omega
    rw [List.drop_of_length_le (by omega)] at hr2
    simp only [lcGo] at hr2
    split at hr2
    · rename_i hg
      exact .inl ⟨jok.stop ι H S i (e1.trans e2) sr2 hg (by omega), hr2 ι H Ext.refl sr2⟩
    · exact (hr2 : False).elim
def lcF (tg : G) (own : List Nat) (mi : List W → M Wlk) (test el : List W → M W) : List W → M W := fun ρ => do
  let it ← mi ρ
  let d ← newO (.lst [])
  match d with
  | .ob n => do
    lcGo tg test el it.gd (wipeW ρ own) n it.items
    pure d
  | _ => M.bad
/-- a comprehension's reading -/
theorem lc_read {K : PySem.W.Frag} {tg : G} {own : List Nat} {mi : List W → M Wlk} {test el : List W → M W} {σ : L2.St} {H : Hp} {Q : VK} (h : tE K cl wx (lcF tg own mi test el) σ H Q) :
    tLc (tIt K cl wx mi) (tG K cl (fun i => decide (i ∈ own)) tg) (tTs K cl wF (fun ρ' => test ρ' >>= truM)) (tE K cl wF el) own σ H Q := by
  obtain ⟨ι, ρ, S, er, sr, hr⟩ := h
  refine ⟨ι, ρ, S, er, sr, (Res.bind hr).mono fun it S1 ι1 H1 e1 sr1 hr1 J jok D hD => ?_⟩
  have hr2 : Res K cl ((lcGo tg test el it.gd (wipeW ρ own) S1.length it.items (S1 ++ [.lst []])).bind fun _ s => .ok (.ob S1.length) s) ι1 H1 (EQ K Q) (fun c d H' => wx c d σ H') := hr1
  have e2 : Ext ι1 H1 (ι1 ++ [D]) (upd H1 D (.lst [])) := ext_new hD
  have sr2 : SR K cl (ι1 ++ [D]) (upd H1 D (.lst [])) (S1 ++ [.lst []]) := sr1.new hD ⟨[], upd_same, VRs.nil⟩
  have hn : (ι1 ++ [D])[S1.length]? = some D := by rw [← sr1.len]; simp
  refine lc_turns (QD := fun H' => Q (.ref D) H') (E := fun c d H' => wx c d σ H') jok e2 hn (wipe_env (er.ext (e1.trans e2)) own) sr2 ?_
  refine (Res.bind (Res.on hr2 e2)).mono fun _ S' ι' H' e' sr' h => ?_
  exact h.val sr' (by simp only [VR]; exact ⟨D, rfl, e'.pre _ _ hn⟩)
end
end At

set_option Elab.async false
set_option linter.all false
set_option maxRecDepth 100000
set_option maxHeartbeats 2000000
/-! AtL: statements. -/
namespace At
open PySem PySem.Spec PyProof.Rows L2

def FQ (K : PySem.W.Frag) (V : Nat → Bool) (σ : L2.St) (D : Ends) : Fl → Sto → List Addr → Hp → Prop := fun f _ ι' H' => match f with
  | .nx ρ' => ∀ σ', Agr V σ σ' → EnvR K ι' H' ρ' σ' → D.nx σ' H'
  | .rt w => ∀ v, VR K ι' H' w v → D.rt v H'
def EQs (wx : WX) (V : Nat → Bool) (σ : L2.St) : XK := fun c d H' => ∀ σ', Agr V σ σ' → wx c d σ' H'
def tSt (K : PySem.W.Frag) (cl : Nm → Option Addr) (wx : WX) (V : Nat → Bool) (m : List W → M Fl) : TS := fun D σ H =>
  ∃ (ι : List Addr) (ρ : List W) (S : Sto), EnvR K ι H ρ σ ∧ SR K cl ι H S ∧ Res K cl (m ρ S) ι H (FQ K V σ D) (EQs wx V σ)
theorem _root_.L2.PS.imp {X : Cx} {e : Stmt} {t t' : TS} (h : PS X e t) (q : ∀ D σ H, t' D σ H → t D σ H) : PS X e t' := ⟨fun pins s σ H D I z => h.run pins s σ H D I (q D σ H z)⟩
theorem _root_.L2.PSs.imp {X : Cx} {e : List Stmt} {t t' : TS} (h : PSs X e t) (q : ∀ D σ H, t' D σ H → t D σ H) : PSs X e t' := ⟨fun pins s σ H D I z => h.run pins s σ H D I (q D σ H z)⟩
section
variable {K : PySem.W.Frag} {cl : Nm → Option Addr} {wx : WX} {V : Nat → Bool} {ι ι1 : List Addr} {H H1 : Hp} {S : Sto} {σ σ1 : L2.St} {D : Ends}
theorem Res.monoE {α : Type} {r : R α} {Q : α → Sto → List Addr → Hp → Prop} {E E' : XK} (h : Res K cl r ι H Q E) (q : ∀ c d H', E c d H' → E' c d H') : Res K cl r ι H Q E' := by
  cases r with
  | ok a S => exact h
  | ex c fs S => exact fun ι' H' C d fvs e sr h1 h2 h3 => q _ _ _ (h ι' H' C d fvs e sr h1 h2 h3)
  | bad => exact h
/-- an expression's wish out of a statement's -/
theorem Res.now {α : Type} {r : R α} {Q : α → Sto → List Addr → Hp → Prop} (h : Res K cl r ι H Q (EQs wx V σ)) : Res K cl r ι H Q (fun c d H' => wx c d σ H') := h.monoE fun c d H' q => q σ Agr.refl
/-- the wish from a later state -/
theorem Res.later {r : R Fl} (a : Agr V σ σ1) (h : Res K cl r ι H (FQ K V σ D) (EQs wx V σ)) : Res K cl r ι H (FQ K V σ1 D) (EQs wx V σ1) := by
  refine (h.mono fun f S' ι' H' e sr q => ?_).monoE fun c d H' q σ' a' => q σ' (a.trans a')
  cases f with
  | nx ρ' => exact fun σ' a' er => q σ' (a.trans a') er
  | rt w => exact q
/-- a statement that begins with an expression -/
theorem st_bind {m : List W → M W} {f : W → M Fl} {R : L2.V → Hp → Prop} {ρ : List W} (er : EnvR K ι H ρ σ) (sr : SR K cl ι H S) (h : Res K cl ((m ρ >>= f) S) ι H (FQ K V σ D) (EQs wx V σ))
    (q : ∀ (ι' : List Addr) (H' : Hp) (S' : Sto) (w : W) (v : L2.V), Ext ι H ι' H' → EnvR K ι' H' ρ σ → SR K cl ι' H' S' → VR K ι' H' w v → Res K cl (f w S') ι' H' (FQ K V σ D) (EQs wx V σ) → R v H') : tE K cl wx m σ H R :=
  ⟨ι, ρ, S, er, sr, ((Res.bind h).mono fun w S' ι' H' e sr' r v rv => q ι' H' S' w v e (er.ext e) sr' rv r).now⟩
theorem Res.nx {ρ' : List W} (h : Res K cl (.ok (.nx ρ') S) ι H (FQ K V σ D) (EQs wx V σ)) (sr : SR K cl ι H S) (a : Agr V σ σ1) (er : EnvR K ι H ρ' σ1) : D.nx σ1 H := h ι H Ext.refl sr σ1 a er
end
/-! ### rules -/
section
variable {X : Cx} {cl : Nm → Option Addr} {wx : WX} {V : Nat → Bool} {st : Stmt} {rest body orelse : List Stmt} {m1 m2 : List W → M Fl} {a b c e : Expr} {ma mb mc : List W → M W} {pos : Pos}
theorem ss_nil : PSs X [] (tSt X.K cl wx V fun ρ => pure (.nx ρ)) :=
  pss_nil.imp fun D σ H ⟨ι, ρ, S, er, sr, hr⟩ => Res.nx hr sr Agr.refl er
def sqF (m1 m2 : List W → M Fl) : List W → M Fl := fun ρ => do
  let f ← m1 ρ
  match f with
  | .nx ρ' => m2 ρ'
  | .rt w => pure (.rt w)
theorem ss_cons (h1 : PS X st (tSt X.K cl wx V m1)) (h2 : PSs X rest (tSt X.K cl wx V m2)) : PSs X (st :: rest) (tSt X.K cl wx V (sqF m1 m2)) := by
  refine (pss_cons h1 h2).imp fun D σ H ⟨ι, ρ, S, er, sr, hr⟩ => ⟨ι, ρ, S, er, sr, ?_⟩
  refine (Res.bind hr).mono fun f S' ι' H' e sr' h => ?_
  cases f with
  | nx ρ' => exact fun σ' a er' => ⟨ι', ρ', S', er', sr', Res.later a h⟩
  | rt w => exact fun v rv => h ι' H' Ext.refl sr' v rv
theorem s_pass : PS X (.Pass pos) (tSt X.K cl wx V fun ρ => pure (.nx ρ)) := ps_pass.imp fun D σ H ⟨ι, ρ, S, er, sr, hr⟩ => Res.nx hr sr Agr.refl er
theorem s_ex (ha : PE X a (tE X.K cl wx ma)) (hs : swapsWith a none pos.line X.env = pure false) : PS X (.Expr a pos) (tSt X.K cl wx V fun ρ => do
    let _ ← ma ρ
    pure (.nx ρ)) := by
  refine (ps_expr ha hs).imp fun D σ H ⟨ι, ρ, S, er, sr, hr⟩ => ?_
  exact st_bind er sr hr fun ι1 H1 S1 w v e1 er1 sr1 r1 hr1 => Res.nx hr1 sr1 Agr.refl er1
theorem s_ret (ha : PE X a (tE X.K cl wx ma)) : PS X (.Return (some a) pos) (tSt X.K cl wx V fun ρ => do
    let w ← ma ρ
    pure (.rt w)) := by
  refine (ps_ret ha).imp fun D σ H ⟨ι, ρ, S, er, sr, hr⟩ => ?_
  exact st_bind er sr hr fun ι1 H1 S1 w v e1 er1 sr1 r1 hr1 => hr1 ι1 H1 Ext.refl sr1 v r1
theorem s_retn : PS X (.Return none pos) (tSt X.K cl wx V fun _ => pure (.rt .non)) :=
  ps_retN.imp fun D σ H ⟨ι, ρ, S, er, sr, hr⟩ => hr ι H Ext.refl sr .non (by simp only [VR])
def ifF (mc : List W → M W) (m1 m2 : List W → M Fl) : List W → M Fl := fun ρ => do
  let x ← mc ρ
  let t ← truM x
  if t then m1 ρ else m2 ρ
theorem s_if (hc : PT X c (tTs X.K cl wx fun ρ => mc ρ >>= truM)) (h1 : PSs X body (tSt X.K cl wx V m1)) (h2 : PSs X orelse (tSt X.K cl wx V m2)) : PS X (.If c body orelse pos) (tSt X.K cl wx V (ifF mc m1 m2)) := by
  refine (ps_if hc h1 h2).imp fun D σ H ⟨ι, ρ, S, er, sr, hr⟩ => ⟨ι, ρ, S, er, sr, ?_⟩
  have hr2 : Res X.K cl (((mc ρ >>= truM) >>= fun t => if t then m1 ρ else m2 ρ) S) ι H (FQ X.K V σ D) (EQs wx V σ) := by
    have e : ifF mc m1 m2 ρ S = ((mc ρ >>= truM) >>= fun t => if t then m1 ρ else m2 ρ) S := by
      show ((mc ρ S).bind _) = (((mc ρ S).bind _).bind _)
      cases mc ρ S <;> rfl
    rw [← e]; exact hr
  refine ((Res.bind hr2).mono fun b S' ι' H' e' sr' h => ?_).now
  cases b with
  | false => rw [if_neg Bool.false_ne_true]; exact ⟨ι', ρ, S', er.ext e', sr', h⟩
  | true => rw [if_pos rfl]; exact ⟨ι', ρ, S', er.ext e', sr', h⟩
/-- while -/
theorem s_whl (hp : PassesOwn (model X.prog X.w) X.A X.env X.xe) (hc : PT X c (tTs X.K cl wx fun ρ => mc ρ >>= truM)) (h1 : PSs X body (tSt X.K cl wx V m1)) (n : Nat) : PS X (.While c body [] pos) (tSt X.K cl wx V (whlGo (fun ρ => mc ρ >>= truM) m1 n)) := by
  refine (ps_while hp hc h1).imp fun D σ H ⟨ι, ρ, S, er, sr, hr⟩ => ?_
  refine ⟨fun k σ1 H1 => ∃ (ι1 : List Addr) (ρ1 : List W) (S1 : Sto), EnvR X.K ι1 H1 ρ1 σ1 ∧ SR X.K cl ι1 H1 S1 ∧ Res X.K cl (whlGo (fun ρ => mc ρ >>= truM) m1 k ρ1 S1) ι1 H1 (FQ X.K V σ1 D) (EQs wx V σ1), ⟨n, ι, ρ, S, er, sr, hr⟩, ?_⟩
  rintro k σ1 H1 ⟨ι1, ρ1, S1, er1, sr1, hr1⟩
  cases k with
  | zero => exact (hr1 : False).elim
  | succ k =>
    have hr2 : Res X.K cl (((mc ρ1 >>= truM) >>= fun t => if t then sqF m1 (whlGo (fun ρ => mc ρ >>= truM) m1 k) ρ1 else pure (.nx ρ1)) S1) ι1 H1 (FQ X.K V σ1 D) (EQs wx V σ1) := by
      have e : whlGo (fun ρ => mc ρ >>= truM) m1 (k + 1) ρ1 S1 = ((mc ρ1 >>= truM) >>= fun t => if t then sqF m1 (whlGo (fun ρ => mc ρ >>= truM) m1 k) ρ1 else pure (.nx ρ1)) S1 := rfl
      rw [← e]; exact hr1
    refine ⟨ι1, ρ1, S1, er1, sr1, ((Res.bind hr2).mono fun t S2 ι2 H2 e2 sr2 h2 => ?_).now⟩
    cases t with
    | false => rw [if_neg Bool.false_ne_true]; exact Res.nx h2 sr2 Agr.refl (er1.ext e2)
    | true =>
      rw [if_pos rfl]
      refine ⟨fun σ' H' => ∃ (ι' : List Addr) (ρ' : List W) (S' : Sto), EnvR X.K ι' H' ρ' σ' ∧ SR X.K cl ι' H' S' ∧ Res X.K cl (whlGo (fun ρ => mc ρ >>= truM) m1 k ρ' S') ι' H' (FQ X.K V σ' D) (EQs wx V σ'), fun σ' H' z => ⟨k, Nat.lt_succ_self k, z⟩, ?_⟩
      refine ⟨ι2, ρ1, S2, er1.ext e2, sr2, ?_⟩
      refine (Res.bind (show Res X.K cl (sqF m1 (whlGo (fun ρ => mc ρ >>= truM) m1 k) ρ1 S2) ι2 H2 (FQ X.K V σ1 D) (EQs wx V σ1) from h2)).mono fun f S3 ι3 H3 e3 sr3 h3 => ?_
      cases f with
      | nx ρ' => exact fun σ' a' er' => ⟨ι3, ρ', S3, er', sr3, Res.later a' h3⟩
      | rt w => exact fun v rv => h3 ι3 H3 Ext.refl sr3 v rv
/-- for -/
theorem s_for {tg iter : Expr} {g : G} {mi : List W → M Wlk} (hp : PassesOwn (model X.prog X.w) X.A X.env X.xe) (hc : X.calm = true) (hi : PI X tg iter (tIt X.K cl wx mi)) (hg : PG X tg (tG X.K cl V g)) (hb : PSs X body (tSt X.K cl wx V m1)) (hs : ∀ x, foldedSetIterable iter X.env x = pure x) :
    PS X (.For tg iter body [] pos) (tSt X.K cl wx V fun ρ => do
      let it ← mi ρ
      forGo g m1 it.gd it.items ρ) := by
  refine (ps_for hp hc hi hg hb hs).imp fun D σ H ⟨ι, ρ, S, er, sr, hr⟩ => ?_
  refine ⟨ι, ρ, S, er, sr, ((Res.bind hr).mono fun it S0 ι0 H0 e0 sr0 h0 J jok => ?_).now⟩
  refine ⟨fun i m σ1 H1 => m = it.items.length - i ∧ i ≤ it.items.length ∧ ∃ (ι1 : List Addr) (ρ1 : List W) (S1 : Sto), Ext ι0 H0 ι1 H1 ∧ EnvR X.K ι1 H1 ρ1 σ1 ∧ SR X.K cl ι1 H1 S1 ∧ Res X.K cl (forGo g m1 it.gd (it.items.drop i) ρ1 S1) ι1 H1 (FQ X.K V σ1 D) (EQs wx V σ1),
    ⟨_, rfl, Nat.zero_le _, ι0, ρ, S0, Ext.refl, er.ext e0, sr0, h0⟩, ?_⟩
  rintro i m σ1 H1 ⟨rfl, hil, ι1, ρ1, S1, e1, er1, sr1, hr1⟩
  by_cases hlt : i < it.items.length
  · have hd : it.items.drop i = it.items[i] :: it.items.drop (i + 1) := List.drop_eq_getElem_cons hlt
    rw [hd] at hr1
    simp only [forGo] at hr1
    split at hr1
    · rename_i hgd
      obtain ⟨go, yld⟩ := jok.go ι1 H1 S1 i it.items[i] e1 sr1 hgd (List.getElem?_eq_getElem hlt)
      refine .inr ⟨go, fun σ' H' => ∃ (ι' : List Addr) (ρ' : List W) (S' : Sto), Ext ι0 H0 ι' H' ∧ EnvR X.K ι' H' ρ' σ' ∧ SR X.K cl ι' H' S' ∧ Res X.K cl (forGo g m1 it.gd (it.items.drop (i + 1)) ρ' S') ι' H' (FQ X.K V σ' D) (EQs wx V σ'),
        fun σ' H' z => ⟨it.items.length - (i + 1), by omega, rfl, hlt, z⟩, fun x H' hy => ?_⟩
      obtain ⟨e2, sr2, r2⟩ := yld x H' hy
      cases hρ : asgG S1 g it.items[i] ρ1 with
      | none => simp only [hρ] at hr1; exact (hr1 : False).elim
      | some ρ2 =>
        simp only [hρ] at hr1
        refine ⟨ι1, S1, _, ρ1, ρ2, er1.ext e2, sr2, r2, hρ, fun σ2 a2 er2 => ?_⟩
        refine ⟨ι1, ρ2, S1, er2, sr2, ?_⟩
        have h2 : Res X.K cl (sqF m1 (forGo g m1 it.gd (it.items.drop (i + 1))) ρ2 S1) ι1 H' (FQ X.K V σ2 D) (EQs wx V σ2) := by
          refine Res.later a2 (Res.on ?_ e2)
          have e : sqF m1 (forGo g m1 it.gd (it.items.drop (i + 1))) ρ2 S1 = ((m1 ρ2 S1).bind fun f s1 => match f with
            | .nx ρ2 => forGo g m1 it.gd (it.items.drop (i + 1)) ρ2 s1
            | .rt w => .ok (.rt w) s1) := by
            show (m1 ρ2 S1).bind _ = _
            cases m1 ρ2 S1 with
            | ok f s => cases f <;> rfl
            | ex => rfl
            | bad => rfl
          rw [e]; exact hr1
        refine (Res.bind h2).mono fun f S3 ι3 H3 e3 sr3 h3 => ?_
        cases f with
        | nx ρ' => exact fun σ' a' er' => ⟨ι3, ρ', S3, (e1.trans e2).trans e3, er', sr3, Res.later a' h3⟩
        | rt w => exact fun v rv => h3 ι3 H3 Ext.refl sr3 v rv
    · exact (hr1 : False).elim
  · rw [List.drop_of_length_le (by omega)] at hr1
    simp only [forGo] at hr1
    split at hr1
    · rename_i hgd
      exact .inl ⟨jok.stop ι1 H1 S1 i e1 sr1 hgd (by omega), Res.nx hr1 sr1 Agr.refl er1⟩
    · exact (hr1 : False).elim
/-- a name's store -/
theorem asg_read {i : Nat} {σ : L2.St} {H : Hp} {D : Ends} (hV : V i = true) (h : tSt X.K cl wx V (fun ρ => do
    let w ← ma ρ
    pure (.nx (ρ.set i w))) D σ H) : tAsg (tE X.K cl wx ma) (gName i) D σ H := by
  obtain ⟨ι, ρ, S, er, sr, hr⟩ := h
  exact st_bind er sr hr fun ι1 H1 S1 w v e1 er1 sr1 r1 hr1 => Res.nx hr1 sr1 (agr_set hV) (env_set er1 r1)
theorem s_set {i : Nat} {x : Str} {pos' : Pos} (hN : X.N.Nodup) (hi : X.N[i]? = some x) (hx : Loc X.env.scope x) (hf : X.fn x = true ∨ X.env.scope.names.lookup x = some .local) (hV : V i = true) (ha : PE X a (tE X.K cl wx ma)) (hs : swapsWith a (some (.Name x pos')) pos.line X.env = pure false) :
    PS X (.Assign [.Name x pos'] a pos) (tSt X.K cl wx V fun ρ => do
      let w ← ma ρ
      pure (.nx (ρ.set i w))) := (ps_set hN hi hx ha hs hf).imp fun D σ H h => asg_read hV h
/-- targets -/
theorem s_asg {tg : Expr} {g : G} (hg : PG X tg (tG X.K cl V g)) (ha : PE X a (tE X.K cl wx ma)) (hs : swapsWithSole [tg] a pos.line X.env = pure false) (hw : swappedStores [tg] a X.env = pure none) (h1 : (assignEach [tg] X.env).map (·.2) = [assign tg X.env]) :
    PS X (.Assign [tg] a pos) (tSt X.K cl wx V fun ρ => do
      let w ← ma ρ
      fun s => match asgG s g w ρ with
        | some ρ' => .ok (.nx ρ') s
        | none => .bad) := by
  refine (ps_asg ha hg hs hw h1).imp fun D σ H ⟨ι, ρ, S, er, sr, hr⟩ => ?_
  refine st_bind er sr hr fun ι1 H1 S1 w v e1 er1 sr1 r1 hr1 => ?_
  cases hρ : asgG S1 g w ρ with
  | none => simp only [hρ] at hr1; exact (hr1 : False).elim
  | some ρ' =>
    simp only [hρ] at hr1
    exact ⟨ι1, S1, w, ρ, ρ', er1, sr1, r1, hρ, fun σ' a' er' => Res.nx hr1 sr1 a' er'⟩
/-- a[i] = e -/
theorem s_sub {o i : Expr} {mo mi : List W → M W} {tpos : Pos} (ho : PE X o (tE X.K cl wx mo)) (hi : PE X i (tE X.K cl wx mi)) (ha : PE X a (tE X.K cl wx ma)) (hs : swapsWithSole [.Subscript o i tpos] a pos.line X.env = pure false) (hw : swappedStores [.Subscript o i tpos] a X.env = pure none)
    (h1 : (assignEach [.Subscript o i tpos] X.env).map (·.2) = [assign (.Subscript o i tpos) X.env])
    (hasg : ∀ v, assign (.Subscript o i tpos) X.env v = (do
      let ov ← holding [v] (eval o X.env)
      let iv ← holding [v, ov] (eval i X.env)
      standAt tpos
      holding [v, ov, iv] (setItem ov iv v)
      release [v, ov, iv] [])) :
    PS X (.Assign [.Subscript o i tpos] a pos) (tSt X.K cl wx V fun ρ => do
      let v ← ma ρ
      let x ← mo ρ
      let y ← mi ρ
      setM x y v
      pure (.nx ρ)) := by
  refine ⟨fun pins s σ H D I ⟨ι, ρ, S, er, sr, hr⟩ => (ps_asg ha (pg_sub ho hi (set_ok (cl := cl) (E := fun c d H' => wx c d σ H')) hasg) hs hw h1).run pins s σ H D I ?_⟩
  refine st_bind er sr hr fun ι1 H1 S1 w1 v1 e1 er1 sr1 r1 hr1 => st_bind er1 sr1 hr1 fun ι2 H2 S2 w2 v2 e2 er2 sr2 r2 hr2 => st_bind er2 sr2 hr2 fun ι3 H3 S3 w3 v3 e3 er3 sr3 r3 hr3 => ?_
  refine ⟨ι3, S3, w2, w3, w1, sr3, VR.ext e3 w2 r2, r3, VR.ext (e2.trans e3) w1 r1, ?_⟩
  exact ((Res.bind hr3).mono fun _ S4 ι4 H4 e4 sr4 h4 => Res.nx h4 sr4 Agr.refl (er3.ext e4)).now
/-- operators that store -/
def rIp (K : PySem.W.Frag) (cl : Nm → Option Addr) (E : XK) (m : W → W → M W) : TIp := fun x y H Q => ∃ (ι : List Addr) (S : Sto) (w1 w2 : W), SR K cl ι H S ∧ VR K ι H w1 x ∧ VR K ι H w2 y ∧ Res K cl (m w1 w2 S) ι H (EQ K Q) E
theorem aug_ok {E : XK} (op : BO) : PIp X (boOf op) (rIp X.K cl E (augM op)) := by
  intro pins s σ H x y v u Q I rx ry h
  obtain ⟨ι, S, w1, w2, sr, r1, r2, hr⟩ := h
  unfold augM at hr
  split at hr
  · have e1 := r1.int_inv; have e2 := r2.int_inv; subst e1 e2
    exact iop_add pins s σ H _ _ v u Q I rx ry ⟨_, _, rfl, rfl, Res.int hr sr⟩
  · obtain ⟨e1, o1⟩ := r1.str_inv; obtain ⟨e2, o2⟩ := r2.str_inv; subst e1 e2
    unfold mkS at hr
    split at hr
    · rename_i hl
      refine iop_add_str pins s σ H _ _ v u Q I rx ry ⟨_, _, rfl, rfl, ?_, ?_⟩
      · rw [toS_len, toS_len, line_eq, ← List.length_append]; exact hl
      · rw [toS_app]; exact Res.str hr sr (sok_app o1 o2 hl)
    · exact (hr : False).elim
  · have e1 := r1.int_inv; have e2 := r2.int_inv; subst e1 e2
    exact iop_sub pins s σ H _ _ v u Q I rx ry ⟨_, _, rfl, rfl, Res.int hr sr⟩
  · exact (hr : False).elim
theorem s_aug {i : Nat} {x : Str} {op : BO} {pos' : Pos} (hN : X.N.Nodup) (hi : X.N[i]? = some x) (hx : Loc X.env.scope x) (hf : X.fn x = true ∨ X.env.scope.names.lookup x = some .local) (hV : V i = true) (ha : PE X a (tE X.K cl wx ma)) :
    PS X (.AugAssign (.Name x pos') (boOf op) a pos) (tSt X.K cl wx V fun ρ => do
      let x ← getSl ρ i
      let y ← ma ρ
      let z ← augM op x y
      pure (.nx (ρ.set i z))) := by
  refine ⟨fun pins s σ H D I ⟨ι, ρ, S, er, sr, hr⟩ => (ps_aug hN hi hx ha (aug_ok (cl := cl) (E := fun c d H' => wx c d σ H') op) hf).run pins s σ H D I ?_⟩
  have hb := Res.bind hr
  cases hw : ρ[i]? with
  | none => simp only [getSl, hw] at hb; exact (hb : False).elim
  | some w =>
    have hne : w ≠ .un := fun z => by subst z; simp only [getSl, hw] at hb; exact hb
    have hg : getSl ρ i = pure w := by
      unfold getSl; rw [hw]
      cases w <;> first | rfl | exact absurd rfl hne
    obtain ⟨v, h1, h2⟩ := er.2 i w hw hne
    dsimp only at hr
    rw [hg] at hr
    refine ⟨v, h1, ?_⟩
    have hr' : Res X.K cl ((ma ρ >>= fun y => augM op w y >>= fun z => pure (.nx (ρ.set i z))) S) ι H (FQ X.K V σ D) (EQs wx V σ) := hr
    refine st_bind er sr hr' fun ι1 H1 S1 w1 v1 e1 er1 sr1 r1 hr1 => ?_
    refine ⟨ι1, S1, w, w1, sr1, VR.ext e1 w h2, r1, ?_⟩
    exact ((Res.bind hr1).mono fun z S2 ι2 H2 e2 sr2 h2 u ru => Res.nx h2 sr2 (agr_set hV) (env_set (er1.ext e2) ru)).now
/-- a[i] op= e -/
def rGetI (K : PySem.W.Frag) (cl : Nm → Option Addr) (E : XK) : L2.V → L2.V → Hp → VK → Prop := fun x y H Q => ∃ (ι : List Addr) (S : Sto) (w1 w2 : W), SR K cl ι H S ∧ VR K ι H w1 x ∧ VR K ι H w2 y ∧ Res K cl (getI w1 w2 S) ι H (EQ K Q) E
theorem get_ok {E : XK} : PGet X (rGetI X.K cl E) := by
  intro pins s σ H x y v u Q I rx ry h
  obtain ⟨ι, S, w1, w2, sr, r1, r2, hr⟩ := h
  unfold getI at hr
  split at hr
  · rename_i n i
    obtain ⟨xs, a, vs, e, h1, h2, _, hr⟩ := Res.items hr sr r1
    obtain ⟨b, hb, hr⟩ := Res.opt1 hr
    obtain ⟨z, hz, rz⟩ := atI_map h2 hb
    have e2 := r2.int_inv
    subst e e2
    cases rx
    obtain ⟨t, rfl⟩ := ry
    obtain ⟨its, r, pl, hzl⟩ := I.list h1
    obtain ⟨j, g1, g2, g3, g4, g5⟩ := atI_get hz
    obtain ⟨w, ew, rw'⟩ := r.get g2
    have hl := r.length
    have hn := line63
    have fin : EP X pins σ Q w s := ⟨z, H, I, rw', Res.val hr sr rz⟩
    by_cases h0 : 0 ≤ i
    · have hj : i.toNat = j := by
        rw [seqIndex_of h0 g5] at g1
        exact Option.some.inj g1
      exact wpAny_getItem_list pl.isList h0 (by omega) (by rw [hj]; simpa using ew) fin
    · have hj : (i + (its.toArray.size : Int)).toNat = j := by
        rw [seqIndex_neg (by omega) g4] at g1
        rw [List.size_toArray, ← hl]
        exact Option.some.inj g1
      exact wpAny_getItem_list_neg pl.isList (by omega) (by rw [List.size_toArray] <;> omega) (by omega) (by rw [hj]; simpa using ew) fin
  · exact (hr : False).elim
theorem s_augs {o i : Expr} {mo mi : List W → M W} {op : BO} {tpos : Pos} (ho : PE X o (tE X.K cl wx mo)) (hi : PE X i (tE X.K cl wx mi)) (ha : PE X a (tE X.K cl wx ma))
    (has : ∀ ov iv new, augStore i ov iv new = (do holding [new, ov, iv] (setItem ov iv new); release [new, ov, iv] []; pure .next)) :
    PS X (.AugAssign (.Subscript o i tpos) (boOf op) a pos) (tSt X.K cl wx V fun ρ => do
      let x ← mo ρ
      let y ← mi ρ
      let o ← getI x y
      let v ← ma ρ
      let z ← augM op o v
      setM x y z
      pure (.nx ρ)) := by
  refine ⟨fun pins s σ H D I ⟨ι, ρ, S, er, sr, hr⟩ => (ps_augS ho hi (get_ok (cl := cl) (E := fun c d H' => wx c d σ H')) ha (aug_ok (cl := cl) (E := fun c d H' => wx c d σ H') op) (set_ok (cl := cl) (E := fun c d H' => wx c d σ H')) has).run pins s σ H D I ?_⟩
  refine st_bind er sr hr fun ι1 H1 S1 w1 v1 e1 er1 sr1 r1 hr1 => st_bind er1 sr1 hr1 fun ι2 H2 S2 w2 v2 e2 er2 sr2 r2 hr2 => ?_
  refine ⟨ι2, S2, w1, w2, sr2, VR.ext e2 w1 r1, r2, ?_⟩
  refine ((Res.bind hr2).mono fun w3 S3 ι3 H3 e3 sr3 h3 v3 r3 => ?_).now
  refine st_bind (er2.ext e3) sr3 h3 fun ι4 H4 S4 w4 v4 e4 er4 sr4 r4 hr4 => ?_
  refine ⟨ι4, S4, w3, w4, sr4, VR.ext e4 w3 r3, r4, ?_⟩
  refine ((Res.bind hr4).mono fun w5 S5 ι5 H5 e5 sr5 h5 v5 r5 => ?_).now
  refine ⟨ι5, S5, w1, w2, w5, sr5, VR.ext (((e2.trans e3).trans e4).trans e5) w1 r1, VR.ext ((e3.trans e4).trans e5) w2 r2, r5, ?_⟩
  exact ((Res.bind h5).mono fun _ S6 ι6 H6 e6 sr6 h6 => Res.nx h6 sr6 Agr.refl ((er4.ext e5).ext e6)).now
end
end At

set_option Elab.async false
set_option linter.all false
set_option maxRecDepth 100000
set_option maxHeartbeats 2000000
/-! AtM: which text a syntax stands for. -/
namespace At
open PySem PySem.Spec PyProof.Rows L2

structure MP where
  N : List Str
  gls : List Nm
  fns : List Nm
  bis : List Nm
  fls : List Nm
  mns : List Nm
def visB (sc : Scope) (x : Str) : Bool := match sc.names.lookup x with
  | some .local => true | some .cell => true | some .free => true | _ => false
def glB (sc : Scope) (x : Str) : Bool := decide (sc.names.lookup x = some .globalImplicit) && !(x == ("__debug__" : Str)) && decide (x ≠ ("__name__" : Str))
def locB (sc : Scope) (x : Str) : Bool := match sc.names.lookup x with
  | some .local => true | some .cell => true | _ => false
def isSet : Expr → Bool | .Set .. => true | _ => false
def isSlice : Expr → Bool | .Slice .. => true | _ => false
def isStar : Expr → Bool | .Starred .. => true | _ => false
def isCall : Expr → Bool | .Call (.Name id _) [] [] _ => decide (id = ("super" : Str)) | _ => false
def isTup : Expr → Bool | .Tuple .. => true | _ => false
def isIfE : Expr → Bool | .IfExp .. => true | _ => false
def isComp : Expr → Bool | .ListComp .. => true | .SetComp .. => true | .DictComp .. => true | _ => false
def G.slots : G → List Nat
  | .n i => [i]
  | .t gs => slotsL gs
where slotsL : List G → List Nat
  | [] => []
  | g :: gs => g.slots ++ slotsL gs
mutual
def matchG (N : List Str) (osc : Scope) : G → Expr → Bool
  | .n i, e => match e with
    | .Name x _ => decide (N[i]? = some x) && locB osc x
    | _ => false
  | .t gs, e => match e with
    | .Tuple es _ _ => matchGs N osc gs es
    | _ => false
def matchGs (N : List Str) (osc : Scope) : List G → List Expr → Bool
  | [], es => es.isEmpty
  | g :: gs, es => match es with
    | [] => false
    | e :: es => !isStar e && matchG N osc g e && matchGs N osc gs es
end
mutual
def matchE (P : MP) (sc osc : Scope) : E → Expr → Bool
  | .sl i, e => match e with
    | .Name x _ => decide (P.N[i]? = some x) && visB sc x && !(x == ("__debug__" : Str)) && !(x == ("__classdict__" : Str))
    | _ => false
  | .gl x, e => match e with
    | .Name y _ => decide (y = toS x) && glB sc y && decide (x ∈ P.gls)
    | _ => false
  | .kn, e => match e with | .Constant .none _ _ => true | _ => false
  | .kb b, e => match e with | .Constant (.bool c) _ _ => b == c | _ => false
  | .ki i, e => match e with | .Constant (.int j) _ _ => decide (i = j) | _ => false
  | .ks s, e => match e with | .Constant (.str x) _ _ => decide (x = toS s) && sokB s | _ => false
  | .bin op a b, e => match e with
    | .BinOp l o r _ => decide (o = boOf op) && matchE P sc osc a l && matchE P sc osc b r
    | _ => false
  | .neg a, e => match e with
    | .UnaryOp .USub x _ => matchE P sc osc a x
    | _ => false
  | .not a, e => match e with
    | .UnaryOp .Not x _ => matchE P sc osc a x && !isIfE x
    | _ => false
  | .cmp op a b, e => match e with
    | .Compare l [o] [r] _ => decide (o = coOf op) && matchE P sc osc a l && matchE P sc osc b r && !isSet r
    | _ => false
  | .chain o1 o2 a b c, e => match e with
    | .Compare l [p, q] [m, r] _ => decide (p = coOf o1) && decide (q = coOf o2) && matchE P sc osc a l && matchE P sc osc b m && matchE P sc osc c r && !isSet r
    | _ => false
  | .and es, e => match e with
    | .BoolOp .And xs _ => matchEs P sc osc es xs && !xs.isEmpty && xs.all fun x => !isIfE x
    | _ => false
  | .or es, e => match e with
    | .BoolOp .Or xs _ => matchEs P sc osc es xs && !xs.isEmpty && xs.all fun x => !isIfE x
    | _ => false
  | .ite c a b, e => match e with
    | .IfExp t x y _ => !isIfE t && matchE P sc osc c t && matchE P sc osc a x && matchE P sc osc b y
    | _ => false
  | .tup es, e => match e with
    | .Tuple xs _ _ => matchEs P sc osc es xs
    | _ => false
  | .lst es, e => match e with
    | .List xs _ => matchEs P sc osc es xs
    | _ => false
  | .dic ks vs, e => match e with
    | .Dict [] [] _ => ks.isEmpty && vs.isEmpty
    | _ => false
  | .ix a i, e => match e with
    | .Subscript v s _ => matchE P sc osc a v && matchE P sc osc i s && !isSlice s
    | _ => false
  | .sli a lo hi, e => match e with
    | .Subscript v (.Slice l h none _) _ => matchE P sc osc a v &&
      (match l with | none => lo.isKn | some x => !lo.isKn && matchE P sc osc lo x) && (match h with | none => hi.isKn | some x => !hi.isKn && matchE P sc osc hi x)
    | _ => false
  | .fld a f, e => match e with
    | .Attribute v attr _ => matchE P sc osc a v && decide (attr = toS f) && decide (f ∈ P.fls) && !isCall v
    | _ => false
  | .call f es kn kv, e => match e with
    | .Call (.Name x _) args kws _ => decide (x = toS f) && glB sc x && decide (f ∈ P.fns) && matchEs P sc osc es args && matchKs P sc osc kn kv kws
    | _ => false
  | .bi f es, e => match e with
    | .Call (.Name x _) args [] _ => decide (x = toS f) && glB sc x && decide (f ∈ P.bis) && decide (f ∈ biNames) && !args.isEmpty && matchEs P sc osc es args
    | _ => false
  | .bm m a es, e => match e with
    | .Call (.Attribute o name apos) args [] cpos => decide (name = toS m) && decide (m ∈ strNames ∨ m ∈ lstNames) && matchE P sc osc a o && matchEs P sc osc es args && !isCall o && (apos.endLine == cpos.line) && decide (args.length < 29)
    | _ => false
  | .me m a es kn kv, e => match e with
    | .Call (.Attribute o name apos) args kws cpos => decide (name = toS m) && decide (m ∈ P.mns) && matchE P sc osc a o && matchEs P sc osc es args && matchKs P sc osc kn kv kws && !isCall o && (apos.endLine == cpos.line) && decide (args.length + kws.length < 29)
    | _ => false
  | .isi a cs, e => match e with
    | .Call (.Name f _) [x, .Name c _] [] _ => decide (f = toS n_isinstance) && glB sc f && decide (n_isinstance ∈ P.bis) && matchE P sc osc a x &&
      (match cs with
      | [d] => decide (c = toS d) && glB sc c && decide (d ∈ P.bis) && (tyN d).isSome
      | _ => false)
    | _ => false
  | .lc tg own k its conds el, e => match e with
    | .ListComp elt [⟨tgt, iter, ifs, 0⟩] scope _ => decide (own = tg.slots) && blkC P.N sc scope (own.map fun i => (P.N.getD i Str.empty, i)) && matchG P.N scope tg tgt && decide (conds.length ≤ 1) &&
      matchEs P (relS scope sc) scope conds ifs && (ifs.all fun x => !isIfE x) && matchE P (relS scope sc) scope el elt && !isSet iter &&
      (match k with
      | .ex => (match its with | [a] => matchE P sc osc a iter | _ => false)
      | .rng => (match iter with | .Call (.Name x _) args [] _ => decide (x = toS n_range) && glB sc x && decide (n_range ∈ P.bis) && decide (args.length = 1 ∨ args.length = 2) && matchEs P sc osc its args | _ => false)
      | .en => (match iter with | .Call (.Name x _) args [] _ => decide (x = toS n_enumerate) && glB sc x && decide (n_enumerate ∈ P.bis) && decide (args.length = 1) && isTup tgt && matchEs P sc osc its args | _ => false)
      | .zp => (match iter with | .Call (.Name x _) args [] _ => decide (x = toS n_zip) && glB sc x && decide (n_zip ∈ P.bis) && decide (args.length = 2) && isTup tgt && matchEs P sc osc its args | _ => false)
      | .vals => false)
    | _ => false
  | .fst _, _ => false
def matchEs (P : MP) (sc osc : Scope) : List E → List Expr → Bool
  | [], xs => xs.isEmpty
  | e :: es, xs => match xs with
    | [] => false
    | x :: xs => !isStar x && matchE P sc osc e x && matchEs P sc osc es xs
def matchKs (P : MP) (sc osc : Scope) : List Nm → List E → List Keyword → Bool
  | ns, [], ks => ns.isEmpty && ks.isEmpty
  | ns, e :: es, ks => match ns, ks with
    | n :: ns, ⟨some x, v, _⟩ :: ks => decide (x = toS n) && matchE P sc osc e v && matchKs P sc osc ns es ks
    | _, _ => false
end
/-! the recursions run -/
example : matchE ⟨[], [], [], [], [], []⟩ ⟨.function, [], false, false, []⟩ ⟨.function, [], false, false, []⟩ (.and [.ki 1, .tup [.kb true, .kn]]) (.BoolOp .And [.Constant (.int 1) 0 ⟨1,2,3,4⟩, .Tuple [.Constant (.bool true) 0 ⟨1,2,3,4⟩, .Constant .none 0 ⟨1,2,3,4⟩] 0 ⟨1,2,3,4⟩] ⟨1,2,3,4⟩) = true := rfl
example : ev ⟨[], [], fun _ => none, fun _ _ _ _ => M.bad, fun _ _ _ _ _ => M.bad⟩ (.and [.ki 1, .bin .add (.sl 0) (.ki 3)]) [.int 4] [] = .ok (.int 7) [] := rfl
end At

set_option Elab.async false
set_option linter.all false
set_option maxRecDepth 100000
set_option maxHeartbeats 4000000
/-! AtN: an expression that is matched has the syntax's meaning. -/
namespace At
open PySem PySem.Spec PyProof.Rows L2

structure GRoom (k : Nat) (A : Around) : Prop where
  room : Room k A
  gd : A.guards = some []
theorem GRoom.mono {j k : Nat} {A : Around} (r : GRoom k A) (h : j ≤ k) : GRoom j A := ⟨r.room.mono h, r.gd⟩
theorem GRoom.un {k : Nat} {A : Around} (r : GRoom k A) : A.units + 200 < cLine := by have := r.room.un; omega
/-- a call by values, keywords too -/
def rC (K : PySem.W.Frag) (cl : Nm → Option Addr) (E : XK) (m : List W → List W → M W) : List L2.V → List L2.V → Hp → VK → Prop := fun vs zs H Q =>
  ∃ (ι : List Addr) (S : Sto) (ws ys : List W), SR K cl ι H S ∧ VRs K ι H ws vs ∧ VRs K ι H ys zs ∧ Res K cl (m ws ys S) ι H (EQ K Q) E
def CallsR (X : Cx) (cl : Nm → Option Addr) (wx : WX) (f : Addr) (ks : List Str) (m : List W → List W → M W) : Prop :=
  ∀ (pins : List (Addr × Obj)) (s : Shared) (σ : L2.St) (H : Hp) (vs zs : List L2.V) (us ws : List Value) (Q : VK), Inv X pins σ H s → Vals vs us → Vals zs ws → rC X.K cl (fun c d H' => wx c d σ H') m vs zs H Q →
    wpAny (model X.prog X.w) X.A (call (.ref f) us (ks.zip ws)) (EP X pins σ Q) X.xe s
/-- what of the running program stands -/
structure Sys (P : Program) (w : World) (K : PySem.W.Frag) (mg : Str → Option Value) (base : Heap) (cl : Nm → Option Addr) (D : Wd) (p : MP) (k : Nat) : Prop where
  gv : ∀ x ∈ p.gls, ∃ wv u v, D.gv x = some wv ∧ mg (toS x) = some u ∧ RelV v u ∧ ∀ ι H S, SR K cl ι H S → VR K ι H wv v
  bi : ∀ x ∈ p.bis, mg (toS x) = none
  fn : ∀ f ∈ p.fns, f ∈ D.fns ∧ ∃ fa, mg (toS f) = some (.ref fa) ∧ PySem.W.keepIn K (.ref fa) = true ∧
    ∀ (X : Cx) (wx : WX), X.prog = P → X.w = w → X.K = K → X.mg = mg → X.base = base → GRoom k X.A → X.calm = true → Takes X wx → ∀ kn : List Nm, CallsR X cl wx fa (kn.map toS) (fun ws ys => D.cf f ws kn ys)
  me : ∀ c m C, (c, m) ∈ D.mes → cl c = some C → ∃ g, Meth K C (toS m) g ∧
    ∀ (X : Cx) (wx : WX), X.prog = P → X.w = w → X.K = K → X.mg = mg → X.base = base → GRoom k X.A → X.calm = true → Takes X wx → ∀ kn : List Nm, CallsR X cl wx g (kn.map toS) (fun ws ys => D.mf c m ws kn ys)
  cls : ClOk K cl p.fls
structure CxI (X : Cx) (P : Program) (w : World) (K : PySem.W.Frag) (mg : Str → Option Value) (base : Heap) (p : MP) (k : Nat) (sc osc : Scope) (wx : WX) : Prop where
  prog : X.prog = P
  w : X.w = w
  K : X.K = K
  mg : X.mg = mg
  base : X.base = base
  room : GRoom k X.A
  calm : X.calm = true
  N : X.N = p.N
  nd : p.N.Nodup
  scp : X.env.scope = sc
  kind : sc.kind = ScopeKind.function
  loc : ∀ x, locB osc x = true → Loc X.env.scope x ∧ (X.fn x = true ∨ X.env.scope.names.lookup x = some .local)
  tk : Takes X wx
theorem visB_ok {sc : Scope} {x : Str} (h : visB sc x = true) : Vis sc x := by
  unfold visB at h
  unfold Vis
  cases e : sc.names.lookup x with
  | none => rw [e] at h; cases h
  | some k =>
    rw [e] at h
    cases k <;> simp_all
theorem glB_ok {sc : Scope} {x : Str} (h : glB sc x = true) : sc.names.lookup x = some .globalImplicit ∧ (x == ("__debug__" : Str)) = false ∧ x ≠ ("__name__" : Str) := by
  unfold glB at h
  simp only [Bool.and_eq_true, decide_eq_true_eq, Bool.not_eq_true'] at h
  exact ⟨h.1.1, h.1.2, h.2⟩
/-! ### facts of the text -/
theorem star_of {e : Expr} (h : isStar e = false) (es : List Expr) (env : Env) : starEach (e :: es) env = (false, eval e env) :: starEach es env := by
  cases e <;> first | rfl | cases h
def noStar (es : List Expr) : Prop := ∀ e ∈ es, isStar e = false
theorem noStar_plain {pos : Pos} {env : Env} : ∀ {es : List Expr}, noStar es → (backTo pos (starEach es env)).any (·.1) = false
  | [], _ => rfl
  | e :: es, h => by
    rw [star_of (h e List.mem_cons_self)]
    have ih := noStar_plain (pos := pos) (env := env) (es := es) fun x hx => h x (List.mem_cons_of_mem _ hx)
    show (false || (backTo pos (starEach es env)).any (·.1)) = false
    rw [ih]; rfl
theorem noStar_all {pos : Pos} {env : Env} : ∀ {es : List Expr}, noStar es → (backTo pos (starEach es env)).all (fun x => !x.1) = true
  | [], _ => rfl
  | e :: es, h => by
    rw [star_of (h e List.mem_cons_self)]
    have ih := noStar_all (pos := pos) (env := env) (es := es) fun x hx => h x (List.mem_cons_of_mem _ hx)
    show (true && (backTo pos (starEach es env)).all (fun x => !x.1)) = true
    rw [ih]; rfl
theorem noSet_behind {op : CO} {e : Expr} (h : isSet e = false) : behindInMarks (coOf op) e = false := by
  cases e <;> first | rfl | cases h
theorem noSet_last {o1 o2 : CO} {b c : Expr} (h : isSet c = false) : lastMarks [coOf o1, coOf o2] [b, c] = false := by
  cases c <;> first | rfl | cases h
theorem plainIx_of {e : Expr} (h : isSlice e = false) : PlainIx e := by
  intro o i
  cases e <;> first | rfl | cases h
theorem base_of {o : Expr} {attr : Str} {env : Env} (h : isCall o = false) : attributeBase o attr env (eval o env) = eval o env := by
  unfold attributeBase
  split
  · rename_i id p1 p2
    have hid : id ≠ ("super" : Str) := by
      intro e; subst e; simp [isCall] at h
    rw [if_pos (by rw [show (id != ("super" : Str)) = true from bne_iff_ne.mpr hid]; rfl)]
  · rfl
theorem folded_of {e : Expr} (h : isSet e = false) (env : Env) (x : Value) : foldedSetIterable e env x = pure x := by
  cases e <;> first | rfl | cases h
def plainTest : Expr → Bool
  | .Compare .. => false | .BoolOp .. => false | .UnaryOp .Not _ _ => false | .NamedExpr .. => false | .IfExp .. => false
  | _ => true
theorem test_of {a : Expr} {env : Env} (h : plainTest a = true) : ∀ whole, isTrue a env whole = (do let v ← whole; standAt a.pos; holding [v] (truthy v)) := by
  intro whole
  cases a with
  | UnaryOp op x pos => cases op <;> first | rfl | cases h
  | Compare => cases h
  | BoolOp => cases h
  | NamedExpr => cases h
  | IfExp => cases h
  | _ => rfl
end At

set_option Elab.async false
set_option linter.all false
set_option maxRecDepth 100000
set_option maxHeartbeats 4000000
/-! AtO: the meaning of every expression that is matched. -/
namespace At
open PySem PySem.Spec PyProof.Rows L2

section
variable {P : Program} {w : World} {K : PySem.W.Frag} {mg : Str → Option Value} {base : Heap} {cl : Nm → Option Addr} {D : Wd} {p : MP} {k : Nat}
theorem noStar_nil : noStar [] := fun _ h => nomatch h
theorem noStar_cons {e : Expr} {es : List Expr} (h : isStar e = false) (g : noStar es) : noStar (e :: es) := fun x hx => (List.mem_cons.mp hx).elim (fun z => by rw [z]; exact h) (g x)
theorem matchEs_len {sc osc : Scope} : ∀ {es : List E} {xs : List Expr}, matchEs p sc osc es xs = true → es.length = xs.length ∧ noStar xs
  | [], [], _ => ⟨rfl, noStar_nil⟩
  | [], _ :: _, h => by simp [matchEs] at h
  | _ :: _, [], h => by simp [matchEs] at h
  | e :: es, x :: xs, h => by
    simp only [matchEs, Bool.and_eq_true, Bool.not_eq_true'] at h
    obtain ⟨a, b⟩ := matchEs_len h.2
    exact ⟨by rw [List.length_cons, List.length_cons, a], noStar_cons h.1.1 b⟩
/-! calls -/
theorem pk_plain {kws : List Keyword} {X : Cx} {pos : Pos} : (backToKw pos (keywordEach kws X.env)).filterMap (·.1) = kws.filterMap (·.arg) := by
  induction kws with
  | nil => rfl
  | cons k r ih =>
    obtain ⟨n, v, ps⟩ := k
    cases n with
    | none => exact ih
    | some n => exact congrArg (n :: ·) ih
theorem pk_some {kws : List Keyword} {X : Cx} {pos : Pos} (h : ∀ q ∈ kws, q.arg.isSome = true) : (backToKw pos (keywordEach kws X.env)).all (·.1.isSome) = true ∧ (backToKw pos (keywordEach kws X.env)).any (·.1.isNone) = false := by
  induction kws with
  | nil => exact ⟨rfl, rfl⟩
  | cons k r ih =>
    obtain ⟨i1, i2⟩ := ih fun q hq => h q (List.mem_cons_of_mem _ hq)
    obtain ⟨n, v, ps⟩ := k
    have hn := h ⟨n, v, ps⟩ List.mem_cons_self
    cases n with
    | none => cases hn
    | some n => exact ⟨i1, i2⟩
/-- keywords, then the call -/
theorem run_kws {X : Cx} {wx : WX} {f : Addr} {ks : List Str} {m : List W → List W → M W} {mk : List W → M (List W)} {first us : List Value} {fw xs : List W} {fv vs : List L2.V} {kws : List Keyword} {pos : Pos} {pins : List (Addr × Obj)} {s1 : Shared} {σ : L2.St} {H1 : Hp} {Q : VK}
    {ι1 : List Addr} {ρ : List W} {S1 : Sto} (hc : CallsR X cl wx f ks m) (hkw : PK X kws (tAs X.K cl wx mk)) (hks : kws.filterMap (·.arg) = ks)
    (hfirst : Vals fv first) (v1 : Vals vs us) (I1 : Inv X pins σ H1 s1) (er1 : EnvR X.K ι1 H1 ρ σ) (sr1 : SR X.K cl ι1 H1 S1) (hfw : VRs X.K ι1 H1 fw fv) (r1 : VRs X.K ι1 H1 xs vs)
    (hr1 : Res X.K cl ((mk ρ >>= fun ys => m (fw ++ xs) ys) S1) ι1 H1 (EQ X.K Q) (fun c d H' => wx c d σ H')) :
    wpAny (model X.prog X.w) X.A (evalAll ((backToKw pos (keywordEach kws X.env)).map (·.2))) (fun ws s2 => X.K.In s2.heap ∧ wpAny (model X.prog X.w) X.A (call (.ref f) (first ++ us) (((backToKw pos (keywordEach kws X.env)).filterMap (·.1)).zip ws)) (EP X pins σ Q) X.xe s2) X.xe s1 := by
  refine thn (hkw.run pos pins s1 σ H1 _ I1 (tAs_bind er1 sr1 hr1 (R := fun zs H2 => ∃ (ι2 : List Addr) (S2 : Sto) (ys : List W), Ext ι1 H1 ι2 H2 ∧ SR X.K cl ι2 H2 S2 ∧ VRs X.K ι2 H2 ys zs ∧ Res X.K cl (m (fw ++ xs) ys S2) ι2 H2 (EQ X.K Q) (fun c d H' => wx c d σ H')) fun ι2 H2 S2 ys zs e2 er2 sr2 r2 hr2 => ⟨ι2, S2, ys, e2, sr2, r2, hr2⟩)) fun ws s2 ⟨zs, H2, I2, rz, ι2, S2, ys, e2, sr2, r2, hr2⟩ => ⟨I2.kIn, ?_⟩
  rw [pk_plain, hks]
  refine hc pins s2 σ H2 (fv ++ vs) zs (first ++ us) ws Q I2 (hfirst.append v1) rz ⟨ι2, S2, fw ++ xs, ys, sr2, ?_, r2, hr2⟩
  exact (VRs.ext e2 fw hfw).append (VRs.ext e2 xs r1)
theorem run_call0 {X : Cx} {wx : WX} {f : Addr} {ks : List Str} {m : List W → List W → M W} {mk : List W → M (List W)} {first : List Value} {fw : List W} {fv : List L2.V} {kws : List Keyword} {pos : Pos} {pins : List (Addr × Obj)} {s : Shared} {σ : L2.St} {H : Hp} {Q : VK}
    {ι : List Addr} {ρ : List W} {S : Sto} (hc : CallsR X cl wx f ks m) (hk : PySem.W.keepIn X.K (.ref f) = true) (hkw : PK X kws (tAs X.K cl wx mk)) (hsome : ∀ q ∈ kws, q.arg.isSome = true) (hks : kws.filterMap (·.arg) = ks)
    (hfirst : Vals fv first) (I : Inv X pins σ H s) (er : EnvR X.K ι H ρ σ) (sr : SR X.K cl ι H S) (hfw : VRs X.K ι H fw fv)
    (hr : Res X.K cl ((mk ρ >>= fun ys => m (fw ++ []) ys) S) ι H (EQ X.K Q) (fun c d H' => wx c d σ H')) :
    wpAny (model X.prog X.w) X.A (callWith pos (.ref f) first (backTo pos (starEach [] X.env)) (backToKw pos (keywordEach kws X.env))) (EP X pins σ Q) X.xe s := by
  obtain ⟨k1, k2⟩ := pk_some (X := X) (pos := pos) hsome
  refine PySem.W.callWith_KW0 (h₀ := X.base) I.ok.mod.kin hk k1 ?_ k2
  exact run_kws hc hkw hks hfirst .nil I er sr hfw VRs.nil hr
/-- arguments and keywords, then the call -/
theorem run_call {X : Cx} {wx : WX} {f : Addr} {ks : List Str} {m : List W → List W → M W} {ms mk : List W → M (List W)} {first : List Value} {fw : List W} {fv : List L2.V} {e : Expr} {es : List Expr} {kws : List Keyword} {pos : Pos} {pins : List (Addr × Obj)} {s : Shared} {σ : L2.St} {H : Hp} {Q : VK}
    {ι : List Addr} {ρ : List W} {S : Sto} (hc : CallsR X cl wx f ks m) (hk : PySem.W.keepIn X.K (.ref f) = true) (hs : PA X (e :: es) (tAs X.K cl wx ms)) (hkw : PK X kws (tAs X.K cl wx mk)) (hns : noStar (e :: es)) (hsome : ∀ q ∈ kws, q.arg.isSome = true) (hks : kws.filterMap (·.arg) = ks)
    (hfirst : Vals fv first) (I : Inv X pins σ H s) (er : EnvR X.K ι H ρ σ) (sr : SR X.K cl ι H S) (hfw : VRs X.K ι H fw fv)
    (hr : Res X.K cl ((ms ρ >>= fun xs => mk ρ >>= fun ys => m (fw ++ xs) ys) S) ι H (EQ X.K Q) (fun c d H' => wx c d σ H')) :
    wpAny (model X.prog X.w) X.A (callWith pos (.ref f) first (backTo pos (starEach (e :: es) X.env)) (backToKw pos (keywordEach kws X.env))) (EP X pins σ Q) X.xe s := by
  obtain ⟨k1, k2⟩ := pk_some (X := X) (pos := pos) hsome
  refine PySem.W.callWith_KW (h₀ := X.base) I.ok.mod.kin hk k1 ?_ (by rw [noStar_plain hns, k2]; rfl) (star_of (hns e List.mem_cons_self) es X.env)
  refine thn (hs.run pos pins s σ H _ I (tAs_bind er sr hr (R := fun vs H1 => ∃ (ι1 : List Addr) (S1 : Sto) (xs : List W), Ext ι H ι1 H1 ∧ EnvR X.K ι1 H1 ρ σ ∧ SR X.K cl ι1 H1 S1 ∧ VRs X.K ι1 H1 xs vs ∧ Res X.K cl ((mk ρ >>= fun ys => m (fw ++ xs) ys) S1) ι1 H1 (EQ X.K Q) (fun c d H' => wx c d σ H')) fun ι1 H1 S1 xs vs e1 er1 sr1 r1 hr1 => ⟨ι1, S1, xs, e1, er1, sr1, r1, hr1⟩)) fun us s1 ⟨vs, H1, I1, v1, ι1, S1, xs, e1, er1, sr1, r1, hr1⟩ => ?_
  exact run_kws hc hkw hks hfirst v1 I1 er1 sr1 (VRs.ext e1 fw hfw) r1 hr1
end
end At

set_option Elab.async false
set_option linter.all false
set_option maxRecDepth 100000
set_option maxHeartbeats 4000000
/-! AtP: the meaning of every expression that is matched, case by case. -/
namespace At
open PySem PySem.Spec PyProof.Rows L2

/-- what an expression has for its meaning m -/
structure OkE (X : Cx) (cl : Nm → Option Addr) (wx : WX) (x : Expr) (m : List W → M W) : Prop where
  pe : PE X x (tE X.K cl wx m)
  pt : isIfE x = false → PT X x (tTs X.K cl wx fun ρ => m ρ >>= truM)
section
variable {P : Program} {w : World} {K : PySem.W.Frag} {mg : Str → Option Value} {base : Heap} {cl : Nm → Option Addr} {D : Wd} {p : MP} {k : Nat} {X : Cx} {sc osc : Scope} {wx : WX}
theorem OkE.plain {x : Expr} {m : List W → M W} (h : PE X x (tE X.K cl wx m)) (t : plainTest x = true) : OkE X cl wx x m := ⟨h, fun _ => st_tru h (test_of t)⟩
theorem Sys.gvX (sy : Sys P w K mg base cl D p k) (ci : CxI X P w K mg base p k sc osc wx) {x : Nm} (h : x ∈ p.gls) : ∃ wv u v, D.gv x = some wv ∧ X.mg (toS x) = some u ∧ RelV v u ∧ ∀ ι H S, SR X.K cl ι H S → VR X.K ι H wv v := by
  obtain ⟨a1, a2, a3, a4, a5, -, -, -, -, -, -, -, -⟩ := ci
  subst a1 a2 a3 a4 a5
  exact sy.gv x h
theorem Sys.biX (sy : Sys P w K mg base cl D p k) (ci : CxI X P w K mg base p k sc osc wx) {x : Nm} (h : x ∈ p.bis) : X.mg (toS x) = none := by
  rw [ci.mg]; exact sy.bi x h
theorem Sys.fnX (sy : Sys P w K mg base cl D p k) (ci : CxI X P w K mg base p k sc osc wx) {f : Nm} (h : f ∈ p.fns) (kn : List Nm) : f ∈ D.fns ∧ ∃ fa, X.mg (toS f) = some (.ref fa) ∧ PySem.W.keepIn X.K (.ref fa) = true ∧ CallsR X cl wx fa (kn.map toS) (fun ws ys => D.cf f ws kn ys) := by
  obtain ⟨a1, a2, a3, a4, a5, a6, a7, -, -, -, -, -, a8⟩ := ci
  subst a1 a2 a3 a4 a5
  obtain ⟨h1, fa, h2, h3, h4⟩ := sy.fn f h
  exact ⟨h1, fa, h2, h3, h4 X wx rfl rfl rfl rfl rfl a6 a7 a8 kn⟩
theorem Sys.meX (sy : Sys P w K mg base cl D p k) (ci : CxI X P w K mg base p k sc osc wx) {c m : Nm} {C : Addr} (h : (c, m) ∈ D.mes) (hC : cl c = some C) (kn : List Nm) : ∃ g, Meth X.K C (toS m) g ∧ CallsR X cl wx g (kn.map toS) (fun ws ys => D.mf c m ws kn ys) := by
  obtain ⟨a1, a2, a3, a4, a5, a6, a7, -, -, -, -, -, a8⟩ := ci
  subst a1 a2 a3 a4 a5
  obtain ⟨g, h2, h4⟩ := sy.me c m C h hC
  exact ⟨g, h2, h4 X wx rfl rfl rfl rfl rfl a6 a7 a8 kn⟩
theorem Sys.clX (sy : Sys P w K mg base cl D p k) (ci : CxI X P w K mg base p k sc osc wx) : ClOk X.K cl p.fls := by rw [ci.K]; exact sy.cls
theorem CxI.gl (ci : CxI X P w K mg base p k sc osc wx) {x : Str} (h : sc.names.lookup x = some .globalImplicit) : Gl X x := by
  show X.env.scope.names.lookup x = _
  rw [ci.scp]; exact h
theorem CxI.un (ci : CxI X P w K mg base p k sc osc wx) : X.A.units + 200 < cLine := ci.room.un
/-! names and constants -/
theorem ok_sl (ci : CxI X P w K mg base p k sc osc wx) {i : Nat} {x : Expr} (h : matchE p sc osc (.sl i) x = true) : OkE X cl wx x (ev D (.sl i)) := by
  simp only [matchE] at h
  split at h
  · simp only [Bool.and_eq_true, decide_eq_true_eq, Bool.not_eq_true'] at h
    obtain ⟨⟨⟨h1, h2⟩, h3⟩, h4⟩ := h
    refine OkE.plain ?_ rfl
    simp only [ev]
    exact se_sl (by rw [ci.N]; exact h1) (by rw [ci.scp]; exact visB_ok h2) h3 h4
  · cases h
theorem ok_gl (sy : Sys P w K mg base cl D p k) (ci : CxI X P w K mg base p k sc osc wx) {n : Nm} {x : Expr} (h : matchE p sc osc (.gl n) x = true) : OkE X cl wx x (ev D (.gl n)) := by
  simp only [matchE] at h
  split at h
  · simp only [Bool.and_eq_true, decide_eq_true_eq] at h
    obtain ⟨⟨h1, h2⟩, h3⟩ := h
    obtain ⟨g1, g2, g3⟩ := glB_ok h2
    subst h1
    obtain ⟨wv, u, v, e1, e2, e3, e4⟩ := sy.gvX ci h3
    refine OkE.plain ?_ rfl
    simp only [ev, e1]
    exact se_gv (pe_glob (ci.gl g1) e2 e3 g2) e4
  · cases h
theorem ok_con (ci : CxI X P w K mg base p k sc osc wx) {x : Expr} : (matchE p sc osc .kn x = true → OkE X cl wx x (ev D .kn)) ∧ (∀ b, matchE p sc osc (.kb b) x = true → OkE X cl wx x (ev D (.kb b))) ∧
    (∀ i, matchE p sc osc (.ki i) x = true → OkE X cl wx x (ev D (.ki i))) ∧ ∀ s, matchE p sc osc (.ks s) x = true → OkE X cl wx x (ev D (.ks s)) := by
  refine ⟨fun h => ?_, fun b h => ?_, fun i h => ?_, fun s h => ?_⟩ <;> simp only [matchE] at h <;> split at h <;> first | (cases h; done) | skip
  · refine OkE.plain ?_ rfl
    simp only [ev]
    exact se_con pe_non fun ι H => by simp only [VR]
  · rename_i c _ _
    have h : b = c := by simpa using h
    subst h
    refine OkE.plain ?_ rfl
    simp only [ev]
    exact se_con pe_bl fun ι H => by simp only [VR]
  · have h := of_decide_eq_true h
    subst h
    refine OkE.plain ?_ rfl
    simp only [ev]
    exact se_con pe_int fun ι H => by simp only [VR]
  · simp only [Bool.and_eq_true, decide_eq_true_eq] at h
    obtain ⟨h1, h2⟩ := h
    subst h1
    refine OkE.plain ?_ rfl
    simp only [ev]
    exact se_con pe_str fun ι H => by simp only [VR]; exact ⟨trivial, sokB_ok h2⟩
/-! operators -/
theorem ok_bin {op : BO} {a b : Expr} {pos : Pos} {ma mb : List W → M W} (ha : OkE X cl wx a ma) (hb : OkE X cl wx b mb) : OkE X cl wx (.BinOp a (boOf op) b pos) (fun ρ => do
    let x ← ma ρ
    let y ← mb ρ
    binM op x y) := OkE.plain (se_bin ha.pe hb.pe) rfl
theorem ok_not {a : Expr} {pos : Pos} {ma : List W → M W} (ha : OkE X cl wx a ma) (hi : isIfE a = false) : OkE X cl wx (.UnaryOp .Not a pos) (fun ρ => do
    let x ← ma ρ
    let b ← truM x
    pure (.bl (!b))) := ⟨se_not ha.pe, fun _ => st_not (ha.pt hi)⟩
theorem ok_cmp {op : CO} {a b : Expr} {pos : Pos} {ma mb : List W → M W} (hu : X.A.units + 200 < cLine) (ha : OkE X cl wx a ma) (hb : OkE X cl wx b mb) (hs : isSet b = false) : OkE X cl wx (.Compare a [coOf op] [b] pos) (fun ρ => do
    let x ← ma ρ
    let y ← mb ρ
    cmpM op x y) := ⟨se_cmp hu ha.pe hb.pe (noSet_behind hs), fun _ => st_cmp hu ha.pe hb.pe (noSet_behind hs)⟩
end
end At

set_option Elab.async false
set_option linter.all false
set_option maxRecDepth 100000
set_option maxHeartbeats 4000000
/-! AtQ: lists of expressions, calls, comprehensions. -/
namespace At
open PySem PySem.Spec PyProof.Rows L2

/-- pointwise: what every expression has -/
inductive OkL (X : Cx) (cl : Nm → Option Addr) (wx : WX) (D : Wd) : List E → List Expr → Prop where
  | nil : OkL X cl wx D [] []
  | cons {e : E} {x : Expr} {es : List E} {xs : List Expr} (h : OkE X cl wx x (ev D e)) (hs : OkL X cl wx D es xs) : OkL X cl wx D (e :: es) (x :: xs)
section
variable {P : Program} {w : World} {K : PySem.W.Frag} {mg : Str → Option Value} {base : Heap} {cl : Nm → Option Addr} {D : Wd} {p : MP} {k : Nat} {X : Cx} {sc osc : Scope} {wx : WX}
theorem OkL.pa : ∀ {es : List E} {xs : List Expr}, OkL X cl wx D es xs → noStar xs → PA X xs (tAs X.K cl wx (evs D es))
  | _, _, .nil, _ => by simp only [evs]; exact sa_nil
  | _, _, .cons h hs, ns => by
    simp only [evs]
    exact sa_cons h.pe (hs.pa fun x hx => ns x (List.mem_cons_of_mem _ hx)) (star_of (ns _ List.mem_cons_self) _ _)
theorem OkL.pk : ∀ {es : List E} {kws : List Keyword}, OkL X cl wx D es (kws.map (·.value)) → PK X kws (tAs X.K cl wx (evs D es))
  | es, [], h => by
    cases h
    simp only [evs]
    exact ⟨fun pos pins s σ H Q I ⟨ι, ρ, S, er, sr, hr⟩ => pk_nil.run pos pins s σ H Q I (hr ι H Ext.refl sr [] VRs.nil)⟩
  | es, ⟨n, v, ps⟩ :: kws, h => by
    cases h with
    | cons h hs =>
      simp only [evs]
      refine ⟨fun pos pins s σ H Q I ⟨ι, ρ, S, er, sr, hr⟩ => (pk_cons h.pe hs.pk).run pos pins s σ H Q I ?_⟩
      refine tE_bind er sr hr fun ι1 H1 S1 w1 v1 e1 er1 sr1 r1 hr1 => tAs_bind er1 sr1 hr1 fun ι2 H2 S2 w2 v2 e2 er2 sr2 r2 hr2 => ?_
      exact hr2 ι2 H2 Ext.refl sr2 _ (VRs.cons (VR.ext e2 w1 r1) r2)
theorem OkL.and {pos : Pos} : ∀ {es : List E} {xs : List Expr}, OkL X cl wx D es xs → xs ≠ [] → (∀ x ∈ xs, isIfE x = false) → PE X (.BoolOp .And xs pos) (tE X.K cl wx (evAnd D es)) ∧ PW X (.BoolOp .And xs pos) (tTs X.K cl wx fun ρ => evAnd D es ρ >>= truM)
  | _, _, .nil, h, _ => absurd rfl h
  | _, _, .cons h .nil, _, hi => by
    simp only [evAnd]
    exact ⟨pe_one h.pe, pw_and1 (h.pt (hi _ List.mem_cons_self))⟩
  | _, _, .cons h (.cons h2 hs), _, hi => by
    obtain ⟨i1, i2⟩ := OkL.and (pos := pos) (.cons h2 hs) (List.cons_ne_nil _ _) fun x hx => hi x (List.mem_cons_of_mem _ hx)
    simp only [evAnd]
    exact ⟨se_and h.pe i1, sw_and (h.pt (hi _ List.mem_cons_self)) i2⟩
theorem OkL.or {pos : Pos} : ∀ {es : List E} {xs : List Expr}, OkL X cl wx D es xs → xs ≠ [] → (∀ x ∈ xs, isIfE x = false) → PE X (.BoolOp .Or xs pos) (tE X.K cl wx (evOr D es)) ∧ PW X (.BoolOp .Or xs pos) (tTs X.K cl wx fun ρ => evOr D es ρ >>= truM)
  | _, _, .nil, h, _ => absurd rfl h
  | _, _, .cons h .nil, _, hi => by
    simp only [evOr]
    exact ⟨pe_one h.pe, pw_or1 (h.pt (hi _ List.mem_cons_self))⟩
  | _, _, .cons h (.cons h2 hs), _, hi => by
    obtain ⟨i1, i2⟩ := OkL.or (pos := pos) (.cons h2 hs) (List.cons_ne_nil _ _) fun x hx => hi x (List.mem_cons_of_mem _ hx)
    simp only [evOr]
    exact ⟨se_or h.pe i1, sw_or (h.pt (hi _ List.mem_cons_self)) i2⟩
/-- a comprehension's tests -/
theorem OkL.all : ∀ {es : List E} {xs : List Expr}, OkL X cl wx D es xs → es.length ≤ 1 → (∀ x ∈ xs, isIfE x = false) → PTs X xs (tTs X.K cl wx fun ρ => evAll D es ρ >>= truM)
  | _, _, .nil, _, _ => by
    simp only [evAll]
    exact ⟨fun pins s σ H Q I ⟨ι, ρ, S, er, sr, hr⟩ => pts_nil.run pins s σ H Q I (hr ι H Ext.refl sr)⟩
  | _, _, .cons h .nil, _, hi => by
    simp only [evAll]
    exact pts_one (h.pt (hi _ List.mem_cons_self))
  | _, _, .cons h (.cons h2 hs), hl, _ => by simp at hl
theorem matchKs_facts {sc osc : Scope} : ∀ {es : List E} {ns : List Nm} {kws : List Keyword}, matchKs p sc osc ns es kws = true → kws.filterMap (·.arg) = ns.map toS ∧ ∀ q ∈ kws, q.arg.isSome = true
  | [], ns, kws, h => by
    simp only [matchKs, Bool.and_eq_true, List.isEmpty_iff] at h
    obtain ⟨rfl, rfl⟩ := h
    exact ⟨rfl, fun q hq => nomatch hq⟩
  | e :: es, ns, kws, h => by
    unfold matchKs at h
    split at h
    · simp only [Bool.and_eq_true, decide_eq_true_eq] at h
      obtain ⟨⟨h1, h2⟩, h3⟩ := h
      obtain ⟨i1, i2⟩ := matchKs_facts h3
      subst h1
      refine ⟨?_, fun q hq => ?_⟩
      · show _ :: _ = _ :: _
        rw [i1]
      · rcases List.mem_cons.mp hq with z | z
        · rw [z]; rfl
        · exact i2 q z
    · cases h
/-- f(..) of a def of the module -/
theorem ok_call (sy : Sys P w K mg base cl D p k) (ci : CxI X P w K mg base p k sc osc wx) {f : Nm} {es kv : List E} {kn : List Nm} {args : List Expr} {kws : List Keyword} {p1 pos : Pos} (hf : f ∈ p.fns) (hg : glB sc (toS f) = true)
    (hs : OkL X cl wx D es args) (hn : noStar args) (hk : OkL X cl wx D kv (kws.map (·.value))) (k1 : kws.filterMap (·.arg) = kn.map toS) (k2 : ∀ q ∈ kws, q.arg.isSome = true) : OkE X cl wx (.Call (.Name (toS f) p1) args kws pos) (ev D (.call f es kn kv)) := by
  obtain ⟨hD, fa, hm, hkp, hc⟩ := sy.fnX ci hf kn
  obtain ⟨g1, g2, g3⟩ := glB_ok hg
  refine OkE.plain ?_ rfl
  simp only [ev, if_pos hD]
  refine ⟨fun pins s σ H Q I ⟨ι, ρ, S, er, sr, hr⟩ => ?_⟩
  refine wpAny_Call_Name_kw (ld_glob I (ci.gl g1) hm ?_ g2)
  cases hs with
  | nil =>
    simp only [evs] at hr
    exact run_call0 (fw := []) hc hkp hk.pk k2 k1 .nil I er sr VRs.nil hr
  | cons h hs =>
    exact run_call (fw := []) hc hkp (OkL.pa (.cons h hs) hn) hk.pk hn k2 k1 .nil I er sr VRs.nil hr
theorem fr_none {K : PySem.W.Frag} {ι : List Addr} {H : Hp} {f : Nm} : ∀ {fs : List (Nm × W)} {fvs : List (Str × V)}, FR K ι H fs fvs → fs.lookup f = none → fvs.lookup (toS f) = none
  | [], fvs, h, e => by simp only [FR] at h; subst h; rfl
  | (n, w') :: fs, fvs, h, e => by
    obtain ⟨v, r, rfl, r1, r2⟩ := h
    rw [List.lookup_cons] at e ⊢
    by_cases hn : f = n
    · subst hn
      simp at e
    · have h1 : (f == n) = false := beq_eq_false_iff_ne.mpr hn
      have h2 : (toS f == toS n) = false := beq_eq_false_iff_ne.mpr fun z => hn (toS_inj z)
      rw [h1] at e; rw [h2]
      exact fr_none r2 e
theorem cls_ok {m : Nm} {w : W} {S S' : Sto} {c : Nm} (h : clsM D m w S = .ok c S') : S' = S ∧ ∃ n fs, w = .ob n ∧ S[n]? = some (.ins c fs) ∧ (c, m) ∈ D.mes ∧ fs.lookup m = none := by
  unfold clsM at h
  split at h
  · split at h
    · split at h
      · cases h
        rename_i hm
        exact ⟨rfl, _, _, rfl, by assumption, hm.1, hm.2⟩
      · cases h
    · cases h
  · cases h
theorem cls_ex {m : Nm} {w : W} {S S' : Sto} {c : Nm} {fs : List (Nm × W)} (h : clsM D m w S = .ex c fs S') : False := by
  unfold clsM at h
  split at h
  · split at h
    · split at h <;> cases h
    · cases h
  · cases h
/-- o.m(..) as Python reads it -/
theorem eval_me {env : Env} {o : Expr} {name : Str} {apos pos : Pos} {args : List Expr} {kws : List Keyword} (hb : attributeBase o name env (eval o env) = eval o env) (hn : noStar args) (hk : ∀ q ∈ kws, q.arg.isSome = true) (hl : (apos.endLine == pos.line) = true) (hz : args.length + kws.length < 29) :
    eval (.Call (.Attribute o name apos) args kws pos) env = (do
      let ov ← eval o env
      standAt apos.atName
      let (f, first) ← holding [ov] (getMethod ov name (do return (← importBound o env).getD true))
      callWith pos f first (backTo pos (starEach args env)) (backToKw pos (keywordEach kws env))) := by
  have kall : ∀ {kws : List Keyword}, (∀ q ∈ kws, q.arg.isSome = true) → (backToKw pos (keywordEach kws env)).all (·.1.isSome) = true := by
    intro kws
    induction kws with
    | nil => intro _; rfl
    | cons q r ih =>
      intro hk
      have i1 := ih fun q hq => hk q (List.mem_cons_of_mem _ hq)
      obtain ⟨n, v, ps⟩ := q
      have hn := hk ⟨n, v, ps⟩ List.mem_cons_self
      cases n with
      | none => cases hn
      | some n => exact i1
  have hform : methodCallForm (args.length + kws.length) (backTo pos (starEach args env)) (backToKw pos (keywordEach kws env)) = true := by
    unfold methodCallForm
    rw [noStar_all hn, kall hk]
    simp only [Bool.true_and, decide_eq_true_eq]
    split <;> omega
  have hpos : methodCallPos true o env apos pos = pure pos := by unfold methodCallPos; simp [hl]
  rw [arm_eval_Call, hb]
  unfold methodCall
  rw [hform]
  unfold calleeOf
  rw [hpos]
  simp only [if_pos]
  rfl
end
end At

set_option Elab.async false
set_option linter.all false
set_option maxRecDepth 100000
set_option maxHeartbeats 4000000
/-! AtR: methods, built-ins, comprehensions, and the meaning of all expressions. -/
namespace At
open PySem PySem.Spec PyProof.Rows L2

section
variable {P : Program} {w : World} {K : PySem.W.Frag} {mg : Str → Option Value} {base : Heap} {cl : Nm → Option Addr} {D : Wd} {p : MP} {k : Nat} {X : Cx} {sc osc : Scope} {wx : WX}
/-- o.m(..) of an own class -/
theorem ok_me (sy : Sys P w K mg base cl D p k) (ci : CxI X P w K mg base p k sc osc wx) {m : Nm} {a : E} {es kv : List E} {kn : List Nm} {o : Expr} {args : List Expr} {kws : List Keyword} {apos pos : Pos}
    (ho : OkE X cl wx o (ev D a)) (hs : OkL X cl wx D es args) (hn : noStar args) (hk : OkL X cl wx D kv (kws.map (·.value))) (k1 : kws.filterMap (·.arg) = kn.map toS) (k2 : ∀ q ∈ kws, q.arg.isSome = true)
    (hc : isCall o = false) (hl : (apos.endLine == pos.line) = true) (hz : args.length + kws.length < 29) : OkE X cl wx (.Call (.Attribute o (toS m) apos) args kws pos) (ev D (.me m a es kn kv)) := by
  refine OkE.plain ?_ rfl
  simp only [ev]
  refine ⟨fun pins s σ H Q I ⟨ι, ρ, S, er, sr, hr⟩ => ?_⟩
  refine PySem.W.methodCall_KW (pl := do return (← importBound o X.env).getD true) (thn (ho.pe.run pins s σ H (fun x H1 => ∃ (ι1 : List Addr) (S1 : Sto) (n : Nat) (ad C dx : Addr) (fvs : List (Str × L2.V)) (c : Nm), x = .ref ad ∧ EnvR X.K ι1 H1 ρ σ ∧ SR X.K cl ι1 H1 S1 ∧ VR X.K ι1 H1 (.ob n) x ∧ cl c = some C ∧ H1 ad = some (.ins C dx fvs) ∧ fvs.lookup (toS m) = none ∧ (c, m) ∈ D.mes ∧
      Res X.K cl ((evs D es ρ >>= fun xs => evs D kv ρ >>= fun ys => D.mf c m (.ob n :: xs) kn ys) S1) ι1 H1 (EQ X.K Q) (fun c d H' => wx c d σ H')) I ?_) fun u s1 ⟨x, H1, I1, rx, ι1, S1, n, ad, C, dx, fvs, c, ex, er1, sr1, rv, hC, hH, hno, hm, hr1⟩ => ?_) (eval_me (base_of hc) hn k2 hl hz)
  · refine tE_bind er sr hr fun ι1 H1 S1 w1 v1 e1 er1 sr1 r1 hr1 => ?_
    have hb : Res X.K cl ((clsM D m w1 S1).bind fun c s' => (evs D es ρ >>= fun xs => evs D kv ρ >>= fun ys => D.mf c m (w1 :: xs) kn ys) s') ι1 H1 (EQ X.K Q) (fun c d H' => wx c d σ H') := hr1
    cases hcl : clsM D m w1 S1 with
    | bad => rw [hcl] at hb; exact (hb : False).elim
    | ex _ _ _ => exact (cls_ex hcl).elim
    | ok c S2 =>
      rw [hcl] at hb
      obtain ⟨rfl, n, fs, rfl, hn', hm, hno⟩ := cls_ok hcl
      obtain ⟨ad, ev1, hp⟩ := r1.ob_inv
      obtain ⟨q, hq, C, dx, fvs, hC, hH, hF⟩ := sr1.obj n _ hn'
      rw [hp] at hq; cases hq
      exact ⟨ι1, S2, n, ad, C, dx, fvs, c, ev1, er1, sr1, r1, hC, hH, fr_none hF hno, hm, hb⟩
  · subst ex
    obtain rfl : u = Value.ref ad := rx
    obtain ⟨g, hg, hcall⟩ := sy.meX ci hm hC kn
    refine getmeth_ok I1 hH ((sy.clX ci).cls _ _ hC) hg hno ?_
    have hfw : VRs X.K ι1 H1 [.ob n] [.ref ad] := VRs.one rv
    have hv : Vals [.ref ad] [Value.ref ad] := Paired.cons (show RelV (.ref ad) (Value.ref ad) from rfl) .nil
    cases hs with
    | nil =>
      simp only [evs] at hr1
      exact run_call0 (fw := [.ob n]) hcall hg.kp hk.pk k2 k1 hv I1 er1 sr1 hfw hr1
    | cons h hs =>
      exact run_call (fw := [.ob n]) hcall hg.kp (OkL.pa (.cons h hs) hn) hk.pk hn k2 k1 hv I1 er1 sr1 hfw hr1
/-! built-ins -/
theorem biM_ok (ci : CxI X P w K mg base p k sc osc wx) {f : Nm} (hf : f ∈ biNames) : (∃ id, bootBuiltins (toS f) = some (.builtin id) ∧ ∀ E, CallR X (.builtin id) (rN X.K cl E (biM f))) ∨ ∃ T, bootBuiltins (toS f) = some (.type T) ∧ ∀ E, CallR X (.type T) (rN X.K cl E (biM f)) := by
  simp only [biNames, List.mem_cons, List.not_mem_nil, or_false] at hf
  rcases hf with rfl | rfl | rfl | rfl | rfl | rfl | rfl | rfl | rfl | rfl
  · exact .inl ⟨"len", by decide +kernel, fun E => len_ok⟩
  · exact .inl ⟨"abs", by decide +kernel, fun E => abs_ok⟩
  · exact .inl ⟨"repr", by decide +kernel, fun E => repr_ok ci.room.gd ci.un⟩
  · exact .inr ⟨"int", by decide +kernel, fun E => int_ok⟩
  · exact .inl ⟨"any", by decide +kernel, fun E => any_ok ci.calm⟩
  · exact .inl ⟨"all", by decide +kernel, fun E => all_ok ci.calm⟩
  · exact .inr ⟨"tuple", by decide +kernel, fun E => tup_ok⟩
  · exact .inr ⟨"list", by decide +kernel, fun E => lst_call_ok⟩
  · exact .inl ⟨"min", by decide +kernel, fun E => min_ok ci.calm⟩
  · exact .inl ⟨"max", by decide +kernel, fun E => max_ok ci.calm⟩
theorem toS_isi : toS n_isinstance = ("isinstance" : Str) := by decide +kernel
theorem tyN_boot {c : Nm} {t : Ty} (h : tyN c = some t) : bootBuiltins (toS c) = some (.type t.nm) := by
  unfold tyN at h
  split at h
  · rename_i e; subst e; cases h; decide +kernel
  split at h
  · rename_i e; subst e; cases h; decide +kernel
  split at h
  · rename_i e; subst e; cases h; decide +kernel
  split at h
  · rename_i e; subst e; cases h; decide +kernel
  split at h
  · rename_i e; subst e; cases h; decide +kernel
  split at h
  · rename_i e; subst e; cases h; decide +kernel
  · cases h
/-- isinstance(a, T) of a built-in type -/
theorem ok_isi (sy : Sys P w K mg base cl D p k) (ci : CxI X P w K mg base p k sc osc wx) {a : E} {d : Nm} {t : Ty} {x : Expr} {p1 p2 pos : Pos} (ha : OkE X cl wx x (ev D a)) (hx : isStar x = false) (hf : glB sc (toS n_isinstance) = true) (hb : n_isinstance ∈ p.bis)
    (hc : glB sc (toS d) = true) (hd : d ∈ p.bis) (ht : tyN d = some t) : OkE X cl wx (.Call (.Name (toS n_isinstance) p1) [x, .Name (toS d) p2] [] pos) (ev D (.isi a [d])) := by
  obtain ⟨f1, f2, f3⟩ := glB_ok hf
  obtain ⟨c1, c2, c3⟩ := glB_ok hc
  refine OkE.plain ?_ rfl
  simp only [ev]
  have hT : PE X (.Name (toS d) p2) (tC (.ty t.nm)) := pe_bltn (ci.gl c1) (sy.biX ci hd) (tyN_boot ht) rfl c3 c2
  have hbi := sy.biX ci hb
  have hgl := ci.gl f1
  rw [toS_isi] at hbi hgl f2 f3 ⊢
  have hPA : PA X [x, .Name (toS d) p2] (tCons (tE X.K cl wx (ev D a)) (tCons (tC (.ty t.nm)) tNil)) := pa_cons ha.pe (pa_cons hT pa_nil (star_of rfl [] X.env)) (star_of hx _ X.env)
  refine ⟨fun pins s σ H Q I ⟨ι, ρ, S, er, sr, hr⟩ => (pe_callB (call_isi) hgl hbi (by decide +kernel) hPA f3 f2 (star_of hx _ X.env) (noStar_plain (noStar_cons rfl noStar_nil))).run pins s σ H Q I ?_⟩
  refine tE_bind er sr hr fun ι1 H1 S1 w1 v1 e1 er1 sr1 r1 hr1 => ?_
  have hr2 : Res X.K cl (isiM w1 [d] S1) ι1 H1 (EQ X.K Q) (fun c d H' => wx c d σ H') := hr1
  cases hw : tyW S1 w1 with
  | none => simp only [isiM, hw] at hr2; exact (hr2 : False).elim
  | some tt =>
    simp only [isiM, hw, ht] at hr2
    exact ⟨v1, .ty t.nm, .type tt.nm, .type t.nm, isTy tt t, rfl, .ty _, ty_of sr1 r1 hw, kit_ty (kit_tys tt t (tyN_ne ht)), Res.bl hr2 sr1⟩
/-- {} -/
theorem ok_dic {pos : Pos} : OkE X cl wx (.Dict [] [] pos) (ev D (.dic [] [])) := by
  refine OkE.plain ?_ rfl
  simp only [ev, List.isEmpty_nil, if_true]
  refine pe_dnewK.imp fun σ H Q ⟨ι, ρ, S, er, sr, hr⟩ p hp => ?_
  exact hr (ι ++ [p]) _ (ext_new hp) (sr.new hp ⟨rfl, upd_same⟩) _ (by simp only [VR]; exact ⟨p, rfl, by rw [← sr.len]; simp⟩)
theorem ok_bi (sy : Sys P w K mg base cl D p k) (ci : CxI X P w K mg base p k sc osc wx) {f : Nm} {es : List E} {args : List Expr} {p1 pos : Pos} (hf : f ∈ p.bis) (hf2 : f ∈ biNames) (hg : glB sc (toS f) = true)
    (hs : OkL X cl wx D es args) (hn : noStar args) (hne : args ≠ []) : OkE X cl wx (.Call (.Name (toS f) p1) args [] pos) (ev D (.bi f es)) := by
  obtain ⟨g1, g2, g3⟩ := glB_ok hg
  refine OkE.plain ?_ rfl
  cases args with
  | nil => exact absurd rfl hne
  | cons x xs =>
    simp only [ev]
    have h1 := star_of (hn x List.mem_cons_self) xs X.env
    have h2 : (backTo pos (starEach xs X.env)).any (·.1) = false := noStar_plain fun y hy => hn y (List.mem_cons_of_mem _ hy)
    rcases biM_ok (cl := cl) ci hf2 with ⟨id, hb, hc⟩ | ⟨T, hb, hc⟩
    · exact se_bi hc (ci.gl g1) (sy.biX ci hf) hb (hs.pa hn) g3 g2 h1 h2
    · exact se_bty hc (ci.gl g1) (sy.biX ci hf) hb (hs.pa hn) g3 g2 h1 h2
/-- o.m(..) of a text or list -/
theorem ok_bm {m : Nm} {a : E} {es : List E} {o : Expr} {args : List Expr} {apos pos : Pos} (hm : m ∈ strNames ∨ m ∈ lstNames) (ho : OkE X cl wx o (ev D a)) (hs : OkL X cl wx D es args) (hn : noStar args)
    (hc : isCall o = false) (hl : (apos.endLine == pos.line) = true) (hz : args.length < 29) : OkE X cl wx (.Call (.Attribute o (toS m) apos) args [] pos) (ev D (.bm m a es)) := by
  refine OkE.plain ?_ rfl
  simp only [ev]
  cases hs with
  | nil => simp only [evs]; exact se_bm0 hm ho.pe (base_of hc) hl
  | @cons e x es xs h hs =>
    have h2 : (backTo pos (starEach xs X.env)).any (·.1) = false := noStar_plain fun y hy => hn y (List.mem_cons_of_mem _ hy)
    refine se_bm hm ho.pe (OkL.pa (.cons h hs) hn) (base_of hc) hl ?_ (star_of (hn x List.mem_cons_self) xs X.env) h2
    rw [noStar_all hn]
    simp only [List.length_cons] at hz
    simp only [Bool.and_eq_true, decide_eq_true_eq]
    refine ⟨⟨trivial, rfl⟩, ?_⟩
    simp only [List.length_cons, List.length_nil, List.isEmpty_nil, if_true]
    omega
/-! targets -/
theorem asgEach_len {env : Env} : ∀ {es : List Expr}, noStar es → (assignEach es env).length = es.length ∧ (assignEach es env).findIdx? (·.1) = none
  | [], _ => ⟨rfl, rfl⟩
  | e :: es, h => by
    obtain ⟨i1, i2⟩ := asgEach_len (env := env) (es := es) fun x hx => h x (List.mem_cons_of_mem _ hx)
    have he : assignEach (e :: es) env = (false, assign e env) :: assignEach es env := by
      have h0 := h e List.mem_cons_self
      cases e <;> first | rfl | cases h0
    rw [he]
    refine ⟨by rw [List.length_cons, List.length_cons, i1], ?_⟩
    simp only [List.findIdx?_cons, i2]
    rfl
theorem asgEach_cons {env : Env} {e : Expr} {es : List Expr} (h0 : isStar e = false) : (assignEach (e :: es) env).map (·.2) = assign e env :: (assignEach es env).map (·.2) := by
  cases e <;> first | rfl | cases h0
theorem matchGs_len {N : List Str} {osc : Scope} : ∀ {gs : List G} {es : List Expr}, matchGs N osc gs es = true → gs.length = es.length ∧ noStar es
  | [], [], _ => ⟨rfl, noStar_nil⟩
  | [], _ :: _, h => by simp [matchGs] at h
  | _ :: _, [], h => by simp [matchGs] at h
  | g :: gs, x :: xs, h => by
    simp only [matchGs, Bool.and_eq_true, Bool.not_eq_true'] at h
    obtain ⟨a, b⟩ := matchGs_len h.2
    exact ⟨by rw [List.length_cons, List.length_cons, a], noStar_cons h.1.1 b⟩
section
variable {V : Nat → Bool}
mutual
theorem mG (ci : CxI X P w K mg base p k sc osc wx) : ∀ (g : G) (e : Expr), matchG p.N osc g e = true → (∀ i ∈ g.slots, V i = true) → PG X e (tG X.K cl V g)
  | .n i, e, h, hV => by
    simp only [matchG] at h
    split at h
    · simp only [Bool.and_eq_true, decide_eq_true_eq] at h
      obtain ⟨l1, l2⟩ := ci.loc _ h.2
      exact sg_n (by rw [ci.N]; exact ci.nd) (by rw [ci.N]; exact h.1) l1 l2 (hV i (by simp [G.slots]))
    · cases h
  | .t gs, e, h, hV => by
    simp only [matchG] at h
    split at h
    · rename_i es _ _
      obtain ⟨h1, h2⟩ := matchGs_len h
      obtain ⟨h3, h4⟩ := asgEach_len (env := X.env) h2
      exact sg_t ci.calm (mGs ci gs es h fun i hi => hV i (by simp only [G.slots]; exact hi)) h1 h3 h4
    · cases h
theorem mGs (ci : CxI X P w K mg base p k sc osc wx) : ∀ (gs : List G) (es : List Expr), matchGs p.N osc gs es = true → (∀ i ∈ G.slots.slotsL gs, V i = true) → PGs X es (tGs X.K cl V gs)
  | [], [], _, _ => sgs_nil
  | [], _ :: _, h, _ => by simp [matchGs] at h
  | _ :: _, [], h, _ => by simp [matchGs] at h
  | g :: gs, x :: xs, h, hV => by
    simp only [matchGs, Bool.and_eq_true, Bool.not_eq_true'] at h
    refine sgs_cons (mG ci g x h.1.2 fun i hi => hV i ?_) (mGs ci gs xs h.2 fun i hi => hV i ?_) (asgEach_cons h.1.1)
    · simp only [G.slots.slotsL, List.mem_append]; exact .inl hi
    · simp only [G.slots.slotsL, List.mem_append]; exact .inr hi
end
end
end
end At

set_option Elab.async false
set_option linter.all false
set_option maxRecDepth 100000
set_option maxHeartbeats 4000000
/-! AtS: comprehensions, and the meaning of all expressions. -/
namespace At
open PySem PySem.Spec PyProof.Rows L2

section
variable {P : Program} {w : World} {K : PySem.W.Frag} {mg : Str → Option Value} {base : Heap} {cl : Nm → Option Addr} {D : Wd} {p : MP} {k : Nat} {X : Cx} {sc osc : Scope} {wx : WX}
theorem evs_len : ∀ {es : List E} {ρ : List W} {S S' : Sto} {ws : List W}, evs D es ρ S = .ok ws S' → ws.length = es.length
  | [], ρ, S, S', ws, h => by
    simp only [evs] at h
    cases h; rfl
  | e :: es, ρ, S, S', ws, h => by
    simp only [evs] at h
    have h : ((ev D e ρ S).bind fun x s => (evs D es ρ s).bind fun xs s' => .ok (x :: xs) s') = .ok ws S' := h
    cases h1 : ev D e ρ S with
    | bad => rw [h1] at h; cases h
    | ex _ _ _ => rw [h1] at h; cases h
    | ok x s =>
      rw [h1] at h
      have h : ((evs D es ρ s).bind fun xs s' => .ok (x :: xs) s') = R.ok ws S' := h
      cases h2 : evs D es ρ s with
      | bad => rw [h2] at h; cases h
      | ex _ _ _ => rw [h2] at h; cases h
      | ok xs s' =>
        rw [h2] at h
        cases h
        rw [List.length_cons, List.length_cons, evs_len h2]
/-- a block's context -/
theorem CxI.blk (ci : CxI X P w K mg base p k sc osc wx) {scope : Scope} (hk : scope.kind = .function) (s : Shared) (H : Hp) (C : Addr) (cs : List (Str × Addr)) (fp : List Addr) :
    CxI (X.blk s H scope (compEnvC scope cs C X.env) fp) P w K mg base p k (relS scope sc) scope wF where
  prog := ci.prog
  w := ci.w
  K := ci.K
  mg := ci.mg
  base := ci.base
  room := ci.room
  calm := ci.calm
  N := ci.N
  nd := ci.nd
  scp := by rw [← ci.scp]; rfl
  kind := hk
  loc := fun x hx => by
    have hs : (X.blk s H scope (compEnvC scope cs C X.env) fp).env.scope = relS scope X.env.scope := rfl
    rw [hs]
    unfold locB at hx
    cases e : scope.names.lookup x with
    | none => rw [e] at hx; cases hx
    | some kd =>
      rw [e] at hx
      cases kd with
      | «local» =>
        have h1 : (relS scope X.env.scope).names.lookup x = some .local := lookup_relS_keep (fun z => nomatch z) e
        exact ⟨.inl h1, .inr h1⟩
      | cell =>
        have h1 : (relS scope X.env.scope).names.lookup x = some .cell := lookup_relS_keep (fun z => nomatch z) e
        exact ⟨.inr h1, .inl (by show (scope.names.lookup x == some .cell) = true; rw [e]; rfl)⟩
      | _ => cases hx
  tk := fun u s' ⟨a, B, sI, pins, σ, H, cls, d, e, I, nb, up, sky, na, os, ag, w⟩ => w.elim
theorem ok_lc (ci : CxI X P w K mg base p k sc osc wx) {tg : G} {own : List Nat} {kk : IK} {its conds : List E} {el : E} {elt tgt iter : Expr} {ifs : List Expr} {scope : Scope} {pos : Pos}
    (ho : own = tg.slots) (hb : blkC p.N sc scope (own.map fun i => (p.N.getD i Str.empty, i)) = true) (hg : matchG p.N scope tg tgt = true) (hl : conds.length ≤ 1) (hif : ∀ x ∈ ifs, isIfE x = false) (hset : isSet iter = false)
    (hi : PI X tgt iter (tIt X.K cl wx fun ρ => do
      let ws ← evs D its ρ
      itM kk ws))
    (ht : ∀ X' : Cx, CxI X' P w K mg base p k (relS scope sc) scope wF → OkL X' cl wF D conds ifs) (he : ∀ X' : Cx, CxI X' P w K mg base p k (relS scope sc) scope wF → OkE X' cl wF elt (ev D el)) :
    OkE X cl wx (.ListComp elt [⟨tgt, iter, ifs, 0⟩] scope pos) (ev D (.lc tg own kk its conds el)) := by
  refine OkE.plain ?_ rfl
  have bk : BlkOk X.N X.env.scope scope (own.map fun i => (p.N.getD i Str.empty, i)) := by
    rw [ci.N, ci.scp]; exact blkOk_by hb
  have C := fun s H C cs fp => ci.blk bk.kind s H C cs fp
  have ho2 : (own.map fun i => (p.N.getD i Str.empty, i)).map (·.2) = own := by
    rw [List.map_map]
    show List.map (fun i => i) own = own
    exact List.map_id' own
  have main := pe_lc (X := X) (g := tG X.K cl (fun i => decide (i ∈ own)) tg) (tt := tTs X.K cl wF (fun ρ' => evAll D conds ρ' >>= truM)) (te := tE X.K cl wF (ev D el)) (pos := pos) ci.calm (by rw [ci.N]; exact ci.nd) hi bk
    (fun s H Ca cs fp => mG (C s H Ca cs fp) tg tgt hg fun i hi => by rw [← ho] at hi; exact decide_eq_true hi)
    (fun s H Ca cs fp => (ht _ (C s H Ca cs fp)).all hl hif)
    (fun s H Ca cs fp => (he _ (C s H Ca cs fp)).pe) (fun x => folded_of hset X.env x)
  rw [ho2] at main
  refine main.imp fun σ H Q h => lc_read ?_
  have e : ev D (.lc tg own kk its conds el) = lcF tg own (fun ρ => do let ws ← evs D its ρ; itM kk ws) (evAll D conds) (ev D el) := by
    funext ρ S
    simp only [ev]
    show (evs D its ρ S).bind _ = ((evs D its ρ S).bind _).bind _
    cases evs D its ρ S <;> rfl
  rw [← e]; exact h
theorem matchE_noStar {sc osc : Scope} {e : E} {x : Expr} (h : matchE p sc osc e x = true) : isStar x = false := by
  cases x with
  | Starred a pos => cases e <;> simp [matchE] at h
  | _ => rfl
/-- what a comprehension or a loop walks -/
def itMatch (p : MP) (sc osc : Scope) (kk : IK) (its : List E) (tgt iter : Expr) : Bool :=
  match kk with
  | .ex => (match its with | [a] => matchE p sc osc a iter | _ => false)
  | .rng => (match iter with | .Call (.Name x _) args [] _ => decide (x = toS n_range) && glB sc x && decide (n_range ∈ p.bis) && decide (args.length = 1 ∨ args.length = 2) && matchEs p sc osc its args | _ => false)
  | .en => (match iter with | .Call (.Name x _) args [] _ => decide (x = toS n_enumerate) && glB sc x && decide (n_enumerate ∈ p.bis) && decide (args.length = 1) && isTup tgt && matchEs p sc osc its args | _ => false)
  | .zp => (match iter with | .Call (.Name x _) args [] _ => decide (x = toS n_zip) && glB sc x && decide (n_zip ∈ p.bis) && decide (args.length = 2) && isTup tgt && matchEs p sc osc its args | _ => false)
  | .vals => false
theorem len_two {α : Type} {l : List α} (h : l.length = 2) : ∃ a b, l = [a, b] := match l, h with | [a, b], _ => ⟨a, b, rfl⟩
theorem toS_range : toS n_range = ("range" : Str) := by decide +kernel
theorem toS_enum : toS n_enumerate = ("enumerate" : Str) := by decide +kernel
theorem toS_zip : toS n_zip = ("zip" : Str) := by decide +kernel
theorem it_ok (sy : Sys P w K mg base cl D p k) (ci : CxI X P w K mg base p k sc osc wx) {kk : IK} {its : List E} {tgt iter : Expr} (h : itMatch p sc osc kk its tgt iter = true)
    (hEs : ∀ args, matchEs p sc osc its args = true → OkL X cl wx D its args) : PI X tgt iter (tIt X.K cl wx fun ρ => do
      let ws ← evs D its ρ
      itM kk ws) := by
  unfold itMatch at h
  split at h
  · split at h
    · rename_i a
      have h1 : matchEs p sc osc [a] [iter] = true := by
        simp only [matchEs, Bool.and_eq_true, Bool.not_eq_true']
        exact ⟨⟨matchE_noStar h, h⟩, rfl⟩
      cases hEs [iter] h1 with
      | cons h _ =>
        simp only [evs]
        exact si_ex h.pe
    · cases h
  · split at h
    · rename_i x p1 args p2
      simp only [Bool.and_eq_true, decide_eq_true_eq] at h
      obtain ⟨⟨⟨⟨h1, h2⟩, h3⟩, h4⟩, h5⟩ := h
      obtain ⟨g1, g2, g3⟩ := glB_ok h2
      obtain ⟨hl, hn⟩ := matchEs_len h5
      have ol := hEs args h5
      have hgl := ci.gl g1
      have hm := sy.biX ci h3
      subst h1
      rw [toS_range] at hgl hm ⊢
      rcases h4 with h4 | h4
      · obtain ⟨e, rfl⟩ := List.length_eq_one_iff.mp h4
        refine si_rng1 hgl hm (ol.pa hn) (star_of (hn e List.mem_cons_self) [] X.env) fun ρ S ws S' hw => ?_
        rw [evs_len hw, hl]; rfl
      · obtain ⟨e, e2, rfl⟩ := len_two h4
        have s2 := star_of (hn e2 (by simp)) [] X.env
        have s1 := star_of (hn e List.mem_cons_self) [e2] X.env
        refine si_rng2 hgl hm (ol.pa hn) (by rw [s1, s2]; rfl) s2 fun ρ S ws S' hw => ?_
        rw [evs_len hw, hl]; rfl
    · cases h
  · split at h
    · rename_i x p1 args p2
      simp only [Bool.and_eq_true, decide_eq_true_eq] at h
      obtain ⟨⟨⟨⟨⟨h1, h2⟩, h3⟩, h4⟩, h6⟩, h5⟩ := h
      obtain ⟨g1, g2, g3⟩ := glB_ok h2
      obtain ⟨hl, hn⟩ := matchEs_len h5
      have ol := hEs args h5
      have hgl := ci.gl g1
      have hm := sy.biX ci h3
      subst h1
      rw [toS_enum] at hgl hm ⊢
      obtain ⟨e, rfl⟩ := List.length_eq_one_iff.mp h4
      unfold isTup at h6
      split at h6
      · exact si_en hgl hm (ol.pa hn) (star_of (hn e List.mem_cons_self) [] X.env)
      · cases h6
    · cases h
  · split at h
    · rename_i x p1 args p2
      simp only [Bool.and_eq_true, decide_eq_true_eq] at h
      obtain ⟨⟨⟨⟨⟨h1, h2⟩, h3⟩, h4⟩, h6⟩, h5⟩ := h
      obtain ⟨g1, g2, g3⟩ := glB_ok h2
      obtain ⟨hl, hn⟩ := matchEs_len h5
      have ol := hEs args h5
      have hgl := ci.gl g1
      have hm := sy.biX ci h3
      subst h1
      rw [toS_zip] at hgl hm ⊢
      obtain ⟨e, e2, rfl⟩ := len_two h4
      unfold isTup at h6
      split at h6
      · exact si_zp hgl hm (ol.pa hn) (star_of (hn e List.mem_cons_self) [e2] X.env) (noStar_plain fun y hy => hn y (List.mem_cons_of_mem _ hy))
      · cases h6
    · cases h
  · cases h
theorem all_noIf {xs : List Expr} (h : xs.all (fun x => !isIfE x) = true) : ∀ x ∈ xs, isIfE x = false := fun x hx => by
  have := List.all_eq_true.mp h x hx
  simpa using this
mutual
theorem mE (sy : Sys P w K mg base cl D p k) : ∀ (e : E) (X : Cx) (sc osc : Scope) (wx : WX) (x : Expr), CxI X P w K mg base p k sc osc wx → matchE p sc osc e x = true → OkE X cl wx x (ev D e)
  | .sl i, X, sc, osc, wx, x, ci, h => ok_sl ci h
  | .gl n, X, sc, osc, wx, x, ci, h => ok_gl sy ci h
  | .kn, X, sc, osc, wx, x, ci, h => (ok_con ci).1 h
  | .kb b, X, sc, osc, wx, x, ci, h => (ok_con ci).2.1 b h
  | .ki i, X, sc, osc, wx, x, ci, h => (ok_con ci).2.2.1 i h
  | .ks s, X, sc, osc, wx, x, ci, h => (ok_con ci).2.2.2 s h
  | .bin op a b, X, sc, osc, wx, x, ci, h => by
    simp only [matchE] at h
    split at h
    · simp only [Bool.and_eq_true, decide_eq_true_eq] at h
      obtain ⟨⟨rfl, h2⟩, h3⟩ := h
      simp only [ev]
      exact ok_bin (mE sy a X sc osc wx _ ci h2) (mE sy b X sc osc wx _ ci h3)
    · cases h
  | .neg a, X, sc, osc, wx, x, ci, h => by
    simp only [matchE] at h
    split at h
    · simp only [ev]
      exact OkE.plain (se_neg (mE sy a X sc osc wx _ ci h).pe) rfl
    · cases h
  | .not a, X, sc, osc, wx, x, ci, h => by
    simp only [matchE] at h
    split at h
    · simp only [Bool.and_eq_true, Bool.not_eq_true'] at h
      simp only [ev]
      exact ok_not (mE sy a X sc osc wx _ ci h.1) h.2
    · cases h
  | .cmp op a b, X, sc, osc, wx, x, ci, h => by
    simp only [matchE] at h
    split at h
    · simp only [Bool.and_eq_true, decide_eq_true_eq, Bool.not_eq_true'] at h
      obtain ⟨⟨⟨rfl, h2⟩, h3⟩, h4⟩ := h
      simp only [ev]
      exact ok_cmp ci.un (mE sy a X sc osc wx _ ci h2) (mE sy b X sc osc wx _ ci h3) h4
    · cases h
  | .chain o1 o2 a b c, X, sc, osc, wx, x, ci, h => by
    simp only [matchE] at h
    split at h
    · simp only [Bool.and_eq_true, decide_eq_true_eq, Bool.not_eq_true'] at h
      obtain ⟨⟨⟨⟨⟨rfl, rfl⟩, h2⟩, h3⟩, h4⟩, h5⟩ := h
      simp only [ev]
      exact ⟨se_chain ci.un (mE sy a X sc osc wx _ ci h2).pe (mE sy b X sc osc wx _ ci h3).pe (mE sy c X sc osc wx _ ci h4).pe (noSet_last h5), fun _ => st_chain ci.un (mE sy a X sc osc wx _ ci h2).pe (mE sy b X sc osc wx _ ci h3).pe (mE sy c X sc osc wx _ ci h4).pe (noSet_last h5)⟩
    · cases h
  | .and es, X, sc, osc, wx, x, ci, h => by
    simp only [matchE] at h
    split at h
    · simp only [Bool.and_eq_true, Bool.not_eq_true', List.isEmpty_eq_false_iff] at h
      obtain ⟨h1, h2⟩ := (mEs sy es X sc osc wx _ ci h.1.1).and h.1.2 (all_noIf h.2)
      simp only [ev]
      exact ⟨h1, fun _ => h2.pt⟩
    · cases h
  | .or es, X, sc, osc, wx, x, ci, h => by
    simp only [matchE] at h
    split at h
    · simp only [Bool.and_eq_true, Bool.not_eq_true', List.isEmpty_eq_false_iff] at h
      obtain ⟨h1, h2⟩ := (mEs sy es X sc osc wx _ ci h.1.1).or h.1.2 (all_noIf h.2)
      simp only [ev]
      exact ⟨h1, fun _ => h2.pt⟩
    · cases h
  | .ite c a b, X, sc, osc, wx, x, ci, h => by
    simp only [matchE] at h
    split at h
    · simp only [Bool.and_eq_true, Bool.not_eq_true'] at h
      obtain ⟨⟨⟨h1, h2⟩, h3⟩, h4⟩ := h
      simp only [ev]
      exact ⟨se_ite ((mE sy c X sc osc wx _ ci h2).pt h1) (mE sy a X sc osc wx _ ci h3).pe (mE sy b X sc osc wx _ ci h4).pe, fun z => nomatch z⟩
    · cases h
  | .tup es, X, sc, osc, wx, x, ci, h => by
    simp only [matchE] at h
    split at h
    · simp only [ev]
      exact OkE.plain (se_tup ((mEs sy es X sc osc wx _ ci h).pa (matchEs_len h).2)) rfl
    · cases h
  | .lst es, X, sc, osc, wx, x, ci, h => by
    simp only [matchE] at h
    split at h
    · simp only [ev]
      exact OkE.plain (se_lst ((mEs sy es X sc osc wx _ ci h).pa (matchEs_len h).2)) rfl
    · cases h
  | .dic ks vs, X, sc, osc, wx, x, ci, h => by
    simp only [matchE] at h
    split at h
    · simp only [Bool.and_eq_true, List.isEmpty_iff] at h
      obtain ⟨rfl, rfl⟩ := h
      exact ok_dic
    · cases h
  | .ix a i, X, sc, osc, wx, x, ci, h => by
    simp only [matchE] at h
    split at h
    · simp only [Bool.and_eq_true, Bool.not_eq_true'] at h
      simp only [ev]
      exact OkE.plain (se_ix (mE sy a X sc osc wx _ ci h.1.1).pe (mE sy i X sc osc wx _ ci h.1.2).pe (plainIx_of h.2)) rfl
    · cases h
  | .sli a lo hi, X, sc, osc, wx, x, ci, h => by
    simp only [matchE] at h
    split at h
    · rename_i v l hh p1 p2
      simp only [Bool.and_eq_true] at h
      obtain ⟨⟨h1, h2⟩, h3⟩ := h
      have L : PO X l (tPO X.K cl wx fun ρ => do
        let l ← ev D lo ρ
        partM lo.isKn l) := by
        cases l with
        | none =>
          cases lo <;> first | (cases h2; done) | skip
          simp only [ev, E.isKn]
          exact so_none
        | some y =>
          simp only [Bool.and_eq_true, Bool.not_eq_true'] at h2
          rw [h2.1]
          exact so_some (mE sy lo X sc osc wx _ ci h2.2).pe
      have U : PO X hh (tPO X.K cl wx fun ρ => do
        let l ← ev D hi ρ
        partM hi.isKn l) := by
        cases hh with
        | none =>
          cases hi <;> first | (cases h3; done) | skip
          simp only [ev, E.isKn]
          exact so_none
        | some y =>
          simp only [Bool.and_eq_true, Bool.not_eq_true'] at h3
          rw [h3.1]
          exact so_some (mE sy hi X sc osc wx _ ci h3.2).pe
      have e : ev D (.sli a lo hi) = fun ρ => (do
        let x ← ev D a ρ
        let l ← (do
          let l ← ev D lo ρ
          partM lo.isKn l)
        let h ← (do
          let l ← ev D hi ρ
          partM hi.isKn l)
        sliM x l h) := by
        funext ρ S
        simp only [ev]
        show (ev D a ρ S).bind _ = (ev D a ρ S).bind _
        congr 1
        funext x s
        show (ev D lo ρ s).bind _ = ((ev D lo ρ s).bind _).bind _
        cases ev D lo ρ s with
        | ok l s1 =>
          show (partM lo.isKn l s1).bind _ = (partM lo.isKn l s1).bind _
          congr 1
          funext l' s2
          show (ev D hi ρ s2).bind _ = ((ev D hi ρ s2).bind _).bind _
          cases ev D hi ρ s2 <;> rfl
        | ex => rfl
        | bad => rfl
      rw [e]
      exact OkE.plain (se_sli (mE sy a X sc osc wx _ ci h1).pe L U) rfl
    · cases h
  | .fld a f, X, sc, osc, wx, x, ci, h => by
    simp only [matchE] at h
    split at h
    · simp only [Bool.and_eq_true, decide_eq_true_eq, Bool.not_eq_true'] at h
      obtain ⟨⟨⟨h1, rfl⟩, h3⟩, h4⟩ := h
      simp only [ev]
      exact OkE.plain (se_fld (sy.clX ci) h3 (mE sy a X sc osc wx _ ci h1).pe (base_of h4)) rfl
    · cases h
  | .call f es kn kv, X, sc, osc, wx, x, ci, h => by
    simp only [matchE] at h
    split at h
    · simp only [Bool.and_eq_true, decide_eq_true_eq] at h
      obtain ⟨⟨⟨⟨rfl, h2⟩, h3⟩, h4⟩, h5⟩ := h
      obtain ⟨k1, k2⟩ := matchKs_facts h5
      exact ok_call sy ci h3 h2 (mEs sy es X sc osc wx _ ci h4) (matchEs_len h4).2 (mKs sy kv kn X sc osc wx _ ci h5) k1 k2
    · cases h
  | .bi f es, X, sc, osc, wx, x, ci, h => by
    simp only [matchE] at h
    split at h
    · simp only [Bool.and_eq_true, decide_eq_true_eq, Bool.not_eq_true', List.isEmpty_eq_false_iff] at h
      obtain ⟨⟨⟨⟨⟨rfl, h2⟩, h3⟩, h4⟩, h5⟩, h6⟩ := h
      exact ok_bi sy ci h3 h4 h2 (mEs sy es X sc osc wx _ ci h6) (matchEs_len h6).2 h5
    · cases h
  | .bm m a es, X, sc, osc, wx, x, ci, h => by
    simp only [matchE] at h
    split at h
    · simp only [Bool.and_eq_true, decide_eq_true_eq, Bool.not_eq_true'] at h
      obtain ⟨⟨⟨⟨⟨⟨rfl, h2⟩, h3⟩, h4⟩, h5⟩, h6⟩, h7⟩ := h
      exact ok_bm h2 (mE sy a X sc osc wx _ ci h3) (mEs sy es X sc osc wx _ ci h4) (matchEs_len h4).2 h5 h6 h7
    · cases h
  | .me m a es kn kv, X, sc, osc, wx, x, ci, h => by
    simp only [matchE] at h
    split at h
    · simp only [Bool.and_eq_true, decide_eq_true_eq, Bool.not_eq_true'] at h
      obtain ⟨⟨⟨⟨⟨⟨⟨rfl, h2⟩, h3⟩, h4⟩, h5⟩, h6⟩, h7⟩, h8⟩ := h
      obtain ⟨k1, k2⟩ := matchKs_facts h5
      exact ok_me sy ci (mE sy a X sc osc wx _ ci h3) (mEs sy es X sc osc wx _ ci h4) (matchEs_len h4).2 (mKs sy kv kn X sc osc wx _ ci h5) k1 k2 h6 h7 h8
    · cases h
  | .isi a cs, X, sc, osc, wx, x, ci, h => by
    simp only [matchE] at h
    split at h
    · simp only [Bool.and_eq_true, decide_eq_true_eq] at h
      obtain ⟨⟨⟨⟨rfl, h2⟩, h3⟩, h4⟩, h5⟩ := h
      split at h5
      · simp only [Bool.and_eq_true, decide_eq_true_eq] at h5
        obtain ⟨⟨⟨rfl, k2⟩, k3⟩, k4⟩ := h5
        obtain ⟨t, ht⟩ := Option.isSome_iff_exists.mp k4
        exact ok_isi sy ci (mE sy a X sc osc wx _ ci h4) (matchE_noStar h4) h2 h3 k2 k3 ht
      · cases h5
    · cases h
  | .lc tg own kk its conds el, X, sc, osc, wx, x, ci, h => by
    unfold matchE at h
    split at h
    · simp only [Bool.and_eq_true, decide_eq_true_eq, Bool.not_eq_true'] at h
      obtain ⟨⟨⟨⟨⟨⟨⟨⟨h1, h2⟩, h3⟩, h4⟩, h5⟩, h6⟩, h7⟩, h8⟩, h9⟩ := h
      exact ok_lc ci h1 h2 h3 h4 (all_noIf h6) h8 (it_ok sy ci h9 fun args ha => mEs sy its X sc osc wx _ ci ha)
        (fun X' c' => mEs sy conds X' _ _ wF _ c' h5) (fun X' c' => mE sy el X' _ _ wF _ c' h7)
    · cases h
  | .fst _, X, sc, osc, wx, x, ci, h => by simp [matchE] at h
theorem mEs (sy : Sys P w K mg base cl D p k) : ∀ (es : List E) (X : Cx) (sc osc : Scope) (wx : WX) (xs : List Expr), CxI X P w K mg base p k sc osc wx → matchEs p sc osc es xs = true → OkL X cl wx D es xs
  | [], X, sc, osc, wx, xs, ci, h => by
    simp only [matchEs, List.isEmpty_iff] at h
    subst h
    exact .nil
  | e :: es, X, sc, osc, wx, xs, ci, h => by
    cases xs with
    | nil => simp [matchEs] at h
    | cons x xs =>
      simp only [matchEs, Bool.and_eq_true] at h
      exact .cons (mE sy e X sc osc wx x ci h.1.2) (mEs sy es X sc osc wx xs ci h.2)
theorem mKs (sy : Sys P w K mg base cl D p k) : ∀ (es : List E) (ns : List Nm) (X : Cx) (sc osc : Scope) (wx : WX) (ks : List Keyword), CxI X P w K mg base p k sc osc wx → matchKs p sc osc ns es ks = true → OkL X cl wx D es (ks.map (·.value))
  | [], ns, X, sc, osc, wx, ks, ci, h => by
    simp only [matchKs, Bool.and_eq_true, List.isEmpty_iff] at h
    obtain ⟨-, rfl⟩ := h
    exact .nil
  | e :: es, ns, X, sc, osc, wx, ks, ci, h => by
    unfold matchKs at h
    split at h
    · simp only [Bool.and_eq_true, decide_eq_true_eq] at h
      exact .cons (mE sy e X sc osc wx _ ci h.1.2) (mKs sy es _ X sc osc wx _ ci h.2)
    · cases h
end
end
end At

set_option Elab.async false
set_option linter.all false
set_option maxRecDepth 100000
set_option maxHeartbeats 4000000
/-! AtT: statements that are matched have the syntax's meaning. -/
namespace At
open PySem PySem.Spec PyProof.Rows L2

/-! ### slots that a statement may change -/
mutual
def T.slots : T → List Nat
  | .set i _ => [i]
  | .asg g _ => g.slots
  | .star pre s post _ => pre ++ s :: post
  | .set2 i j _ => [i, j]
  | .aug i _ _ => [i]
  | .ife _ a b => slotsTs a ++ slotsTs b
  | .whl _ b => slotsTs b
  | .for g _ _ b => g.slots ++ slotsTs b
  | .tryx b _ nm h => slotsTs b ++ (match nm with | some i => [i] | none => []) ++ slotsTs h
  | .tryf b f => slotsTs b ++ slotsTs f
  | _ => []
def slotsTs : List T → List Nat
  | [] => []
  | t :: ts => t.slots ++ slotsTs ts
end
def isName : Expr → Bool | .Name .. => true | _ => false
/-- a name's store: which of the ways -/
def setB (p : MP) (sc : Scope) (x : Str) (px : Pos) (a : Expr) : Bool := match a with
  | .ListComp _ _ scope pos => (px.line != pos.line) || (decide (sc.names.lookup x = some .local) && !(scope.names.any fun (n, k) => n == x && (k == .local || k == .cell)))
  | .SetComp .. => false
  | .DictComp .. => false
  | _ => true
mutual
def matchT (p : MP) (sc : Scope) : T → Stmt → Bool
  | .ex e, st => match st with
    | .Expr a _ => matchE p sc sc e a && !isComp a
    | _ => false
  | .set i e, st => match st with
    | .Assign [.Name x px] a _ => decide (p.N[i]? = some x) && locB sc x && matchE p sc sc e a && setB p sc x px a
    | _ => false
  | .asg g e, st => match st with
    | .Assign [tg] a _ => matchG p.N sc g tg && isTup tg && matchE p sc sc e a && !isTup a && !isComp a
    | _ => false
  | .star _ _ _ _, _ => false
  | .set2 _ _ _, _ => false
  | .sub a i e, st => match st with
    | .Assign [.Subscript o s _] v _ => matchE p sc sc a o && matchE p sc sc i s && !isSlice s && matchE p sc sc e v && !isComp v
    | _ => false
  | .fld _ _ _, _ => false
  | .aug i op e, st => match st with
    | .AugAssign (.Name x _) o a _ => decide (o = boOf op) && decide (p.N[i]? = some x) && locB sc x && matchE p sc sc e a
    | _ => false
  | .augf _ _ _ _, _ => false
  | .augs a i op e, st => match st with
    | .AugAssign (.Subscript q s _) o v _ => decide (o = boOf op) && matchE p sc sc a q && matchE p sc sc i s && !isSlice s && matchE p sc sc e v
    | _ => false
  | .ret e, st => match st with
    | .Return (some a) _ => matchE p sc sc e a
    | _ => false
  | .retn, st => match st with
    | .Return none _ => true
    | _ => false
  | .ife c a b, st => match st with
    | .If t x y _ => matchE p sc sc c t && !isIfE t && matchTs p sc a x && matchTs p sc b y
    | _ => false
  | .whl c b, st => match st with
    | .While t x [] _ => matchE p sc sc c t && !isIfE t && matchTs p sc b x
    | _ => false
  | .for g kk its b, st => match st with
    | .For tg iter x [] _ => matchG p.N sc g tg && itMatch p sc sc kk its tg iter && !isSet iter && matchTs p sc b x
    | _ => false
  | .pass, st => match st with
    | .Pass _ => true
    | _ => false
  | .rais _ _, _ => false
  | .tryx _ _ _ _, _ => false
  | .tryf _ _, _ => false
def matchTs (p : MP) (sc : Scope) : List T → List Stmt → Bool
  | [], xs => xs.isEmpty
  | t :: ts, xs => match xs with
    | [] => false
    | x :: xs => matchT p sc t x && matchTs p sc ts xs
end
section
variable {P : Program} {w : World} {K : PySem.W.Frag} {mg : Str → Option Value} {base : Heap} {cl : Nm → Option Addr} {D : Wd} {p : MP} {k : Nat} {X : Cx} {sc osc : Scope} {wx : WX}
/-- what a comprehension's statement asks -/
structure LcD (X : Cx) (cl : Nm → Option Addr) (wx : WX) (D : Wd) (N : List Str) (tg : G) (own : List Nat) (kk : IK) (its conds : List E) (el : E) (elt tgt iter : Expr) (ifs : List Expr) (scope : Scope) : Prop where
  hi : PI X tgt iter (tIt X.K cl wx fun ρ => do
      let ws ← evs D its ρ
      itM kk ws)
  bk : BlkOk X.N X.env.scope scope (own.map fun i => (N.getD i Str.empty, i))
  hg : ∀ (s : Shared) (H : Hp) (C : Addr) (cs : List (Str × Addr)) (fp : List Addr), PG (X.blk s H scope (compEnvC scope cs C X.env) fp) tgt (tG X.K cl (fun i => decide (i ∈ own)) tg)
  ht : ∀ (s : Shared) (H : Hp) (C : Addr) (cs : List (Str × Addr)) (fp : List Addr), PTs (X.blk s H scope (compEnvC scope cs C X.env) fp) ifs (tTs X.K cl wF (fun ρ' => evAll D conds ρ' >>= truM))
  he : ∀ (s : Shared) (H : Hp) (C : Addr) (cs : List (Str × Addr)) (fp : List Addr), PE (X.blk s H scope (compEnvC scope cs C X.env) fp) elt (tE X.K cl wF (ev D el))
  hs : ∀ x, foldedSetIterable iter X.env x = pure x
theorem lcD_of (sy : Sys P w K mg base cl D p k) (ci : CxI X P w K mg base p k sc osc wx) {tg : G} {own : List Nat} {kk : IK} {its conds : List E} {el : E} {elt tgt iter : Expr} {ifs : List Expr} {scope : Scope} {pos : Pos}
    (h : matchE p sc osc (.lc tg own kk its conds el) (.ListComp elt [⟨tgt, iter, ifs, 0⟩] scope pos) = true) : LcD X cl wx D p.N tg own kk its conds el elt tgt iter ifs scope := by
  unfold matchE at h
  simp only [Bool.and_eq_true, decide_eq_true_eq, Bool.not_eq_true'] at h
  obtain ⟨⟨⟨⟨⟨⟨⟨⟨h1, h2⟩, h3⟩, h4⟩, h5⟩, h6⟩, h7⟩, h8⟩, h9⟩ := h
  have bk : BlkOk X.N X.env.scope scope (own.map fun i => (p.N.getD i Str.empty, i)) := by
    rw [ci.N, ci.scp]; exact blkOk_by h2
  have C := fun s H C cs fp => ci.blk bk.kind s H C cs fp
  exact { hi := it_ok sy ci h9 fun args ha => mEs sy its X sc osc wx _ ci ha
          bk := bk
          hg := fun s H Ca cs fp => mG (C s H Ca cs fp) tg tgt h3 fun i hi => by rw [← h1] at hi; exact decide_eq_true hi
          ht := fun s H Ca cs fp => (mEs sy conds _ _ _ wF _ (C s H Ca cs fp) h5).all h4 (all_noIf h6)
          he := fun s H Ca cs fp => (mE sy el _ _ _ wF _ (C s H Ca cs fp) h7).pe
          hs := fun x => folded_of h8 X.env x }
theorem lc_of {e : E} {elt : Expr} {gs : List Comprehension} {scope : Scope} {pos : Pos} (h : matchE p sc osc e (.ListComp elt gs scope pos) = true) : ∃ tg own kk its conds el, e = .lc tg own kk its conds el := by
  cases e with
  | lc tg own kk its conds el => exact ⟨tg, own, kk, its, conds, el, rfl⟩
  | _ => simp [matchE] at h
theorem own_snd {N : List Str} {own : List Nat} : (own.map fun i => (N.getD i Str.empty, i)).map (·.2) = own := by
  rw [List.map_map]
  show List.map (fun i => i) own = own
  exact List.map_id' own
theorem lc_ev {tg : G} {own : List Nat} {kk : IK} {its conds : List E} {el : E} : ev D (.lc tg own kk its conds el) = lcF tg own (fun ρ => do let ws ← evs D its ρ; itM kk ws) (evAll D conds) (ev D el) := by
  funext ρ S
  simp only [ev]
  show (evs D its ρ S).bind _ = ((evs D its ρ S).bind _).bind _
  cases evs D its ρ S <;> rfl
theorem fn_kind (ci : CxI X P w K mg base p k sc osc wx) : X.env.scope.kind = .function := by rw [ci.scp]; exact ci.kind
theorem blockKind_of {env : Env} (h : env.scope.kind = .function) : env.blockKind = .function := by unfold Env.blockKind; rw [h]; rfl
theorem sw_none {a : Expr} {l : Nat} {env : Env} (h : isComp a = false) : ∀ t, swapsWith a t l env = pure false := by
  intro t
  cases a <;> first | rfl | cases h
theorem sw_far {elt : Expr} {gs : List Comprehension} {scope : Scope} {pos py : Pos} {y : Str} {l : Nat} {env : Env} (hl : (py.line != pos.line) = true) : swapsWith (.ListComp elt gs scope pos) (some (.Name y py)) l env = pure false := by
  unfold swapsWith
  have : (py.line == pos.line) = false := by simpa using hl
  simp only [Expr.pos, this, Bool.and_false, Bool.false_and]
theorem sw_sole {a t : Expr} {l : Nat} {env : Env} (h : isComp a = false) : swapsWithSole [t] a l env = pure false := sw_none h (some t)
theorem ok_setlc (sy : Sys P w K mg base cl D p k) (ci : CxI X P w K mg base p k sc sc wx) {V : Nat → Bool} {i : Nat} {y : Str} {py pos spos : Pos} {elt tgt iter : Expr} {ifs : List Expr} {scope : Scope} {tg : G} {own : List Nat} {kk : IK} {its conds : List E} {el : E}
    (d : LcD X cl wx D p.N tg own kk its conds el elt tgt iter ifs scope) (hi : p.N[i]? = some y) (hV : V i = true) (hy : sc.names.lookup y = some .local) (hl : (py.line == pos.line) = true) (hn : (scope.names.any fun (n, k) => n == y && (k == .local || k == .cell)) = false) :
    PS X (.Assign [.Name y py] (.ListComp elt [⟨tgt, iter, ifs, 0⟩] scope pos) spos) (tSt X.K cl wx V fun ρ => do
      let w ← ev D (.lc tg own kk its conds el) ρ
      pure (.nx (ρ.set i w))) := by
  have hyX : X.env.scope.names.lookup y = some .local := by rw [ci.scp]; exact hy
  have main := ps_setLc (X := X) (spos := spos) (pos := pos) ci.calm (by rw [ci.N]; exact ci.nd) (by rw [ci.N]; exact hi) hyX (sw_true (fn_kind ci) hyX hl hn) d.hi d.bk d.hg d.ht d.he d.hs
  rw [own_snd] at main
  refine main.imp fun Dd σ H h => ?_
  have h1 := asg_read hV h
  have h2 : tE X.K cl wx (ev D (.lc tg own kk its conds el)) σ H (fun x H1 => gName i x σ H1 Dd.nx) := h1
  rw [lc_ev] at h2
  exact lc_read h2
theorem swaps_none {tg a : Expr} {env : Env} (h : isTup a = false) (ht : isTup tg = true) : swappedStores [tg] a env = pure none := by
  cases tg <;> first | (cases ht; done) | skip
  cases a <;> first | rfl | cases h
theorem as_one {tg : Expr} {env : Env} (h : isStar tg = false) : (assignEach [tg] env).map (·.2) = [assign tg env] := asgEach_cons h
theorem sub_asg {o i : Expr} {tpos : Pos} {env : Env} (h : isSlice i = false) : ∀ v, assign (.Subscript o i tpos) env v = (do
      let ov ← holding [v] (eval o env)
      let iv ← holding [v, ov] (eval i env)
      standAt tpos
      holding [v, ov, iv] (setItem ov iv v)
      release [v, ov, iv] []) := by
  intro v
  cases i <;> first | rfl | cases h
theorem mT_ex (sy : Sys P w K mg base cl D p k) (ci : CxI X P w K mg base p k sc sc wx) (hp : PassesOwn (model X.prog X.w) X.A X.env X.xe) {V : Nat → Bool} (e : E) (st : Stmt) (h : matchT p sc (.ex e) st = true) (hV : ∀ q ∈ (T.slots (.ex e)), V q = true) : PS X st (tSt X.K cl wx V (ex1 D (.ex e))) := by
  simp only [matchT] at h
  split at h
  · simp only [Bool.and_eq_true, Bool.not_eq_true'] at h
    simp only [ex1]
    exact s_ex (mE sy e X sc sc wx _ ci h.1).pe (sw_none h.2 none)
  · cases h
theorem mT_set (sy : Sys P w K mg base cl D p k) (ci : CxI X P w K mg base p k sc sc wx) (hp : PassesOwn (model X.prog X.w) X.A X.env X.xe) {V : Nat → Bool} (i : Nat) (e : E) (st : Stmt) (h : matchT p sc (.set i e) st = true) (hV : ∀ q ∈ (T.slots (.set i e)), V q = true) : PS X st (tSt X.K cl wx V (ex1 D (.set i e))) := by
  simp only [matchT] at h
  split at h
  · rename_i x px a pos
    simp only [Bool.and_eq_true, decide_eq_true_eq] at h
    obtain ⟨⟨⟨h1, h2⟩, h3⟩, h4⟩ := h
    obtain ⟨l1, l2⟩ := ci.loc _ h2
    have hVi := hV i (by simp [T.slots])
    have far : swapsWith a (some (.Name x px)) pos.line X.env = pure false → PS X (.Assign [.Name x px] a pos) (tSt X.K cl wx V (ex1 D (.set i e))) := fun hs => by
      simp only [ex1]
      exact s_set (by rw [ci.N]; exact ci.nd) (by rw [ci.N]; exact h1) l1 l2 hVi (mE sy e X sc sc wx _ ci h3).pe hs
    unfold setB at h4
    split at h4
    · rename_i elt gs scope lpos
      by_cases hl : (px.line != lpos.line) = true
      · exact far (sw_far hl)
      · rw [Bool.eq_false_iff.mpr hl] at h4
        simp only [Bool.false_or, Bool.and_eq_true, decide_eq_true_eq, Bool.not_eq_true'] at h4
        have hl2 : (px.line == lpos.line) = true := by simpa using hl
        obtain ⟨tg, own, kk, its, conds, el, rfl⟩ := lc_of h3
        have h3' := h3
        unfold matchE at h3'
        split at h3'
        · rename_i heq
          cases heq
          simp only [ex1]
          exact ok_setlc sy ci (lcD_of sy ci h3) h1 hVi h4.1 hl2 h4.2
        · cases h3'
    · cases h4
    · cases h4
    · rename_i n1 n2 n3
      refine far (sw_none ?_ _)
      cases a <;> first | rfl | exact absurd rfl (n1 _ _ _ _) | exact absurd rfl (n2 _ _ _ _) | exact absurd rfl (n3 _ _ _ _ _)
  · cases h
theorem mT_asg (sy : Sys P w K mg base cl D p k) (ci : CxI X P w K mg base p k sc sc wx) (hp : PassesOwn (model X.prog X.w) X.A X.env X.xe) {V : Nat → Bool} (g : G) (e : E) (st : Stmt) (h : matchT p sc (.asg g e) st = true) (hV : ∀ q ∈ (T.slots (.asg g e)), V q = true) : PS X st (tSt X.K cl wx V (ex1 D (.asg g e))) := by
  simp only [matchT] at h
  split at h
  · simp only [Bool.and_eq_true, Bool.not_eq_true'] at h
    obtain ⟨⟨⟨⟨h1, h2⟩, h3⟩, h4⟩, h5⟩ := h
    simp only [ex1]
    refine s_asg (mG ci g _ h1 fun i hi => hV i (by simpa only [T.slots] using hi)) (mE sy e X sc sc wx _ ci h3).pe (sw_sole h5) (swaps_none h4 h2) (as_one ?_)
    unfold isTup at h2
    split at h2
    · rfl
    · cases h2
  · cases h
theorem matchT_star {st : Stmt} {a b c d} (h : matchT p sc (.star a b c d) st = true) : False := by simp [matchT] at h
theorem matchT_set2 {st : Stmt} {a b c} (h : matchT p sc (.set2 a b c) st = true) : False := by simp [matchT] at h
theorem mT_sub (sy : Sys P w K mg base cl D p k) (ci : CxI X P w K mg base p k sc sc wx) (hp : PassesOwn (model X.prog X.w) X.A X.env X.xe) {V : Nat → Bool} (a i e : E) (st : Stmt) (h : matchT p sc (.sub a i e) st = true) (hV : ∀ q ∈ (T.slots (.sub a i e)), V q = true) : PS X st (tSt X.K cl wx V (ex1 D (.sub a i e))) := by
  simp only [matchT] at h
  split at h
  · simp only [Bool.and_eq_true, Bool.not_eq_true'] at h
    obtain ⟨⟨⟨⟨h1, h2⟩, h3⟩, h4⟩, h5⟩ := h
    simp only [ex1]
    exact s_sub (mE sy a X sc sc wx _ ci h1).pe (mE sy i X sc sc wx _ ci h2).pe (mE sy e X sc sc wx _ ci h4).pe (sw_sole h5) rfl rfl (sub_asg h3)
  · cases h
theorem matchT_fld {st : Stmt} {a b c} (h : matchT p sc (.fld a b c) st = true) : False := by simp [matchT] at h
theorem mT_aug (sy : Sys P w K mg base cl D p k) (ci : CxI X P w K mg base p k sc sc wx) (hp : PassesOwn (model X.prog X.w) X.A X.env X.xe) {V : Nat → Bool} (i : Nat) (op : BO) (e : E) (st : Stmt) (h : matchT p sc (.aug i op e) st = true) (hV : ∀ q ∈ (T.slots (.aug i op e)), V q = true) : PS X st (tSt X.K cl wx V (ex1 D (.aug i op e))) := by
  simp only [matchT] at h
  split at h
  · simp only [Bool.and_eq_true, decide_eq_true_eq] at h
    obtain ⟨⟨⟨rfl, h1⟩, h2⟩, h3⟩ := h
    obtain ⟨l1, l2⟩ := ci.loc _ h2
    simp only [ex1]
    exact s_aug (by rw [ci.N]; exact ci.nd) (by rw [ci.N]; exact h1) l1 l2 (hV i (by simp [T.slots])) (mE sy e X sc sc wx _ ci h3).pe
  · cases h
theorem matchT_augf {st : Stmt} {a b c d} (h : matchT p sc (.augf a b c d) st = true) : False := by simp [matchT] at h
theorem mT_augs (sy : Sys P w K mg base cl D p k) (ci : CxI X P w K mg base p k sc sc wx) (hp : PassesOwn (model X.prog X.w) X.A X.env X.xe) {V : Nat → Bool} (a i : E) (op : BO) (e : E) (st : Stmt) (h : matchT p sc (.augs a i op e) st = true) (hV : ∀ q ∈ (T.slots (.augs a i op e)), V q = true) : PS X st (tSt X.K cl wx V (ex1 D (.augs a i op e))) := by
  simp only [matchT] at h
  split at h
  · rename_i q s tpos o v pos
    simp only [Bool.and_eq_true, decide_eq_true_eq, Bool.not_eq_true'] at h
    obtain ⟨⟨⟨⟨rfl, h1⟩, h2⟩, h3⟩, h4⟩ := h
    simp only [ex1]
    exact s_augs (mE sy a X sc sc wx _ ci h1).pe (mE sy i X sc sc wx _ ci h2).pe (mE sy e X sc sc wx _ ci h4).pe (by
      intro ov iv new
      cases s <;> first | rfl | cases h3)
  · cases h
theorem mT_ret (sy : Sys P w K mg base cl D p k) (ci : CxI X P w K mg base p k sc sc wx) (hp : PassesOwn (model X.prog X.w) X.A X.env X.xe) {V : Nat → Bool} (e : E) (st : Stmt) (h : matchT p sc (.ret e) st = true) (hV : ∀ q ∈ (T.slots (.ret e)), V q = true) : PS X st (tSt X.K cl wx V (ex1 D (.ret e))) := by
  simp only [matchT] at h
  split at h
  · simp only [ex1]
    exact s_ret (mE sy e X sc sc wx _ ci h).pe
  · cases h
theorem mT_retn (sy : Sys P w K mg base cl D p k) (ci : CxI X P w K mg base p k sc sc wx) (hp : PassesOwn (model X.prog X.w) X.A X.env X.xe) {V : Nat → Bool}  (st : Stmt) (h : matchT p sc .retn st = true) (hV : ∀ q ∈ (T.slots .retn), V q = true) : PS X st (tSt X.K cl wx V (ex1 D .retn)) := by
  simp only [matchT] at h
  split at h
  · simp only [ex1]
    exact s_retn
  · cases h
theorem mT_ife (sy : Sys P w K mg base cl D p k) (ci : CxI X P w K mg base p k sc sc wx) (hp : PassesOwn (model X.prog X.w) X.A X.env X.xe) {V : Nat → Bool} (c : E) (a b : List T)
    (iha : ∀ st, matchTs p sc a st = true → (∀ i ∈ slotsTs a, V i = true) → PSs X st (tSt X.K cl wx V (exs D a))) (ihb : ∀ st, matchTs p sc b st = true → (∀ i ∈ slotsTs b, V i = true) → PSs X st (tSt X.K cl wx V (exs D b))) (st : Stmt) (h : matchT p sc (.ife c a b) st = true) (hV : ∀ q ∈ (T.slots (.ife c a b)), V q = true) : PS X st (tSt X.K cl wx V (ex1 D (.ife c a b))) := by
  simp only [matchT] at h
  split at h
  · simp only [Bool.and_eq_true, Bool.not_eq_true'] at h
    obtain ⟨⟨⟨h1, h2⟩, h3⟩, h4⟩ := h
    simp only [ex1]
    exact s_if ((mE sy c X sc sc wx _ ci h1).pt h2) (iha _ h3 fun i hi => hV i (by simp only [T.slots, List.mem_append]; exact .inl hi)) (ihb _ h4 fun i hi => hV i (by simp only [T.slots, List.mem_append]; exact .inr hi))
  · cases h
theorem mT_whl (sy : Sys P w K mg base cl D p k) (ci : CxI X P w K mg base p k sc sc wx) (hp : PassesOwn (model X.prog X.w) X.A X.env X.xe) {V : Nat → Bool} (c : E) (b : List T)
    (ihb : ∀ st, matchTs p sc b st = true → (∀ i ∈ slotsTs b, V i = true) → PSs X st (tSt X.K cl wx V (exs D b))) (st : Stmt) (h : matchT p sc (.whl c b) st = true) (hV : ∀ q ∈ (T.slots (.whl c b)), V q = true) : PS X st (tSt X.K cl wx V (ex1 D (.whl c b))) := by
  simp only [matchT] at h
  split at h
  · simp only [Bool.and_eq_true, Bool.not_eq_true'] at h
    obtain ⟨⟨h1, h2⟩, h3⟩ := h
    simp only [ex1]
    exact s_whl hp ((mE sy c X sc sc wx _ ci h1).pt h2) (ihb _ h3 fun i hi => hV i (by simp only [T.slots]; exact hi)) FUEL
  · cases h
theorem mT_for (sy : Sys P w K mg base cl D p k) (ci : CxI X P w K mg base p k sc sc wx) (hp : PassesOwn (model X.prog X.w) X.A X.env X.xe) {V : Nat → Bool} (g : G) (kk : IK) (its : List E) (b : List T)
    (ihb : ∀ st, matchTs p sc b st = true → (∀ i ∈ slotsTs b, V i = true) → PSs X st (tSt X.K cl wx V (exs D b))) (st : Stmt) (h : matchT p sc (.for g kk its b) st = true) (hV : ∀ q ∈ (T.slots (.for g kk its b)), V q = true) : PS X st (tSt X.K cl wx V (ex1 D (.for g kk its b))) := by
  simp only [matchT] at h
  split at h
  · simp only [Bool.and_eq_true, Bool.not_eq_true'] at h
    obtain ⟨⟨⟨h1, h2⟩, h3⟩, h4⟩ := h
    have e : ex1 D (.for g kk its b) = fun ρ => (do
        let it ← (do
          let ws ← evs D its ρ
          itM kk ws)
        forGo g (exs D b) it.gd it.items ρ) := by
      funext ρ S
      simp only [ex1]
      show (evs D its ρ S).bind _ = ((evs D its ρ S).bind _).bind _
      cases evs D its ρ S <;> rfl
    rw [e]
    exact s_for hp ci.calm (it_ok sy ci h2 fun args ha => mEs sy its X sc sc wx _ ci ha) (mG ci g _ h1 fun i hi => hV i (by simp only [T.slots, List.mem_append]; exact .inl hi))
      (ihb _ h4 fun i hi => hV i (by simp only [T.slots, List.mem_append]; exact .inr hi)) (fun x => folded_of h3 X.env x)
  · cases h
theorem mT_pass (sy : Sys P w K mg base cl D p k) (ci : CxI X P w K mg base p k sc sc wx) (hp : PassesOwn (model X.prog X.w) X.A X.env X.xe) {V : Nat → Bool}  (st : Stmt) (h : matchT p sc .pass st = true) (hV : ∀ q ∈ (T.slots .pass), V q = true) : PS X st (tSt X.K cl wx V (ex1 D .pass)) := by
  simp only [matchT] at h
  split at h
  · simp only [ex1]
    exact s_pass
  · cases h
theorem matchT_rais {st : Stmt} {a b} (h : matchT p sc (.rais a b) st = true) : False := by simp [matchT] at h
theorem matchT_tryx {st : Stmt} {a b c d} (h : matchT p sc (.tryx a b c d) st = true) : False := by simp [matchT] at h
theorem matchT_tryf {st : Stmt} {a b} (h : matchT p sc (.tryf a b) st = true) : False := by simp [matchT] at h
mutual
theorem mT (sy : Sys P w K mg base cl D p k) (ci : CxI X P w K mg base p k sc sc wx) (hp : PassesOwn (model X.prog X.w) X.A X.env X.xe) {V : Nat → Bool} : ∀ (t : T) (st : Stmt), matchT p sc t st = true → (∀ i ∈ t.slots, V i = true) → PS X st (tSt X.K cl wx V (ex1 D t))
  | .ex e, st, h, hV => mT_ex sy ci hp e st h hV
  | .set i e, st, h, hV => mT_set sy ci hp i e st h hV
  | .asg g e, st, h, hV => mT_asg sy ci hp g e st h hV
  | .star _ _ _ _, st, h, hV => (matchT_star h).elim
  | .set2 _ _ _, st, h, hV => (matchT_set2 h).elim
  | .sub a i e, st, h, hV => mT_sub sy ci hp a i e st h hV
  | .fld _ _ _, st, h, hV => (matchT_fld h).elim
  | .aug i op e, st, h, hV => mT_aug sy ci hp i op e st h hV
  | .augf _ _ _ _, st, h, hV => (matchT_augf h).elim
  | .augs a i op e, st, h, hV => mT_augs sy ci hp a i op e st h hV
  | .ret e, st, h, hV => mT_ret sy ci hp e st h hV
  | .retn, st, h, hV => mT_retn sy ci hp  st h hV
  | .ife c a b, st, h, hV => mT_ife sy ci hp c a b (mTs sy ci hp a) (mTs sy ci hp b) st h hV
  | .whl c b, st, h, hV => mT_whl sy ci hp c b (mTs sy ci hp b) st h hV
  | .for g kk its b, st, h, hV => mT_for sy ci hp g kk its b (mTs sy ci hp b) st h hV
  | .pass, st, h, hV => mT_pass sy ci hp  st h hV
  | .rais _ _, st, h, hV => (matchT_rais h).elim
  | .tryx _ _ _ _, st, h, hV => (matchT_tryx h).elim
  | .tryf _ _, st, h, hV => (matchT_tryf h).elim
theorem mTs (sy : Sys P w K mg base cl D p k) (ci : CxI X P w K mg base p k sc sc wx) (hp : PassesOwn (model X.prog X.w) X.A X.env X.xe) {V : Nat → Bool} : ∀ (ts : List T) (sts : List Stmt), matchTs p sc ts sts = true → (∀ i ∈ slotsTs ts, V i = true) → PSs X sts (tSt X.K cl wx V (exs D ts))
  | [], sts, h, hV => by
    simp only [matchTs, List.isEmpty_iff] at h
    subst h
    simp only [exs]
    exact ss_nil
  | t :: ts, sts, h, hV => by
    cases sts with
    | nil => simp [matchTs] at h
    | cons st sts =>
      simp only [matchTs, Bool.and_eq_true] at h
      simp only [exs]
      exact ss_cons (mT sy ci hp t st h.1 fun i hi => hV i (by simp only [slotsTs]; exact List.mem_append_left _ hi)) (mTs sy ci hp ts sts h.2 fun i hi => hV i (by simp only [slotsTs]; exact List.mem_append_right _ hi))
end
end
end At

set_option Elab.async false
set_option linter.all false
set_option maxRecDepth 100000
set_option maxHeartbeats 4000000
/-! AtU: defs, the running program, a law's end. -/
namespace At
open PySem PySem.Spec PyProof.Rows L2

theorem GRoom.deeper {k : Nat} {A : Around} (r : GRoom (k + 1) A) (env : Env) : GRoom k (A.deeper env) := ⟨r.room.deeper env, r.gd⟩
/-- a def's meaning: its body over its slots -/
def fnEnd : Fl → M W
  | .nx _ => pure .non
  | .rt w => pure w
noncomputable def fnM (D : Wd) (n : Nat) (ts : List T) (ws : List W) : M W := do
  let f ← exs D ts (ws ++ List.replicate (n - ws.length) .un)
  fnEnd f
/-- what a def does, at every call of it -/
def FnG (P : Program) (w : World) (K : PySem.W.Frag) (mg : Str → Option Value) (base : Heap) (cl : Nm → Option Addr) (k : Nat) (f : Addr) (fd : FuncData) (ps : List Str) (m : List W → M W) : Prop :=
  ∀ (A : Around) (outer : List Env) (s : Shared) (H : Hp) (args : Args) (us : List Value) (vs : List L2.V) (ws : List W) (Q : VK) (E : XK) (ι : List Addr) (S : Sto),
    GRoom k A → Env0 P w K mg base A outer s H → BindsTo s fd args (ps.zip us) → Vals vs us → vs.length = ps.length → SR K cl ι H S → VRs K ι H ws vs → Res K cl (m ws S) ι H (EQ K Q) E →
    codeAny (model P w) A (.call (.ref f) args) (CR (CX P w) outer P w H s Q E) s
section
variable {P : Program} {w : World} {K : PySem.W.Frag} {mg : Str → Option Value} {base : Heap} {cl : Nm → Option Addr} {D : Wd} {p : MP} {k : Nat}
theorem start_env {ι : List Addr} {H : Hp} {N : List Str} {ws : List W} {vs : List L2.V} (r : VRs K ι H ws vs) : EnvR K ι H (ws ++ List.replicate (N.length - ws.length) .un) (L2.start N vs) := by
  have hl := r.length
  refine ⟨?_, fun i x h hne => ?_⟩
  · unfold L2.start
    rw [List.length_append, List.length_append, List.length_replicate, List.length_replicate, List.length_map, hl]
  · by_cases hi : i < ws.length
    · rw [List.getElem?_append_left hi] at h
      obtain ⟨v, hv, rv⟩ := r.get h
      refine ⟨v, ?_, rv⟩
      unfold L2.start
      rw [List.getElem?_append_left (by rw [List.length_map, ← hl]; exact hi), List.getElem?_map, hv]
      rfl
    · rw [List.getElem?_append_right (by omega), List.getElem?_replicate] at h
      split at h
      · cases h; exact absurd rfl hne
      · cases h
theorem fn_ok {x qual : Str} {params : Arguments} {body : List Stmt} {scope : Scope} {dvs : List L2.V} {kws : List (Str × L2.V)} {f : Addr} {fd : FuncData} {ps : List Str} {ts : List T}
    (sy : Sys P w K mg base cl D p k) (F : FunD K x qual params body scope dvs kws f fd) (S : FnScope p.N ps scope) (hm : matchTs p scope ts body = true) : FnG P w K mg base cl (k + 1) f fd ps (fnM D p.N.length ts) := by
  obtain ⟨oc, od, dV, kV, doc, pm, an, cdv, ct, osl, rfl, lk, hcd, -, -⟩ := F.ex
  intro A outer s H args us vs ws Q E ι S0 hr e0 hb r hl sr rv hres
  have KX : K.In s.heap := e0.mod.kin.keeps fun b o e => (e0.bs b o e).1
  have lim := e0.mod.nolimit.keeps fun b o e => (e0.bs b o e).1
  have bound : ∀ y ∈ ps.zip us, scope.names.lookup y.1 = some .local ∨ (scope.names.lookup y.1 = some .cell ∧ ((cellsFrom (s.heap.objs.size + 1) scope.names []).lookup y.1).isSome = true) := by
    rintro ⟨n, v⟩ hy
    exact (S.par n (List.of_mem_zip hy).1).imp id fun q => ⟨q, PySem.W.cellsFrom_some _ _ _ (.inl q)⟩
  refine codeAny_call_function hr.room.depth (KX _ _ lk) rfl S.co S.gen rfl (PySem.W.codeRec_of KX hcd) (hb _ _ _ _ (wpAny_newFunctionEnv_cells S.kind bound fun env he s1 x => ?_))
  subst he
  refine ⟨lim.keeps x.toInCall.keep, codeAny_func ?_⟩
  generalize hX : cxOf (CX P w) P w K mg base p.N qual scope f cdv A outer s H E = X
  have I : Inv X [] (L2.start p.N vs) H s1 := by rw [← hX]; exact inv_start S hr.room.hd e0 hl r x
  have ci : CxI X P w K mg base p k scope scope (fun c d _ H => E c d H) := by
    rw [← hX]
    exact { prog := rfl, w := rfl, K := rfl, mg := rfl, base := rfl, room := hr.deeper _, calm := rfl, N := rfl, nd := S.nd, scp := rfl, kind := S.kind
            loc := fun y hy => by
              refine ⟨?_, .inl rfl⟩
              show scope.names.lookup y = _ ∨ scope.names.lookup y = _
              unfold locB at hy
              cases q : scope.names.lookup y with
              | none => rw [q] at hy; cases hy
              | some kd =>
                rw [q] at hy
                cases kd <;> first | exact .inl rfl | exact .inr rfl | cases hy
            tk := takes_of rfl rfl rfl rfl }
  have hp : PassesOwn (model X.prog X.w) X.A X.env X.xe := by
    rw [← hX]
    exact passes_of rfl
  have main := mTs sy ci hp (V := fun _ => true) ts body hm fun _ _ => rfl
  have hrun : tSt X.K cl (fun c d _ H => E c d H) (fun _ => true) (exs D ts) { nx := fun _ H' => Q .non H', rt := Q } (L2.start p.N vs) H := by
    rw [ci.K]
    refine ⟨ι, _, S0, start_env rv, sr, ?_⟩
    have h1 := Res.bind (show Res K cl ((exs D ts (ws ++ List.replicate (p.N.length - ws.length) .un) S0).bind fun f s => fnEnd f s) ι H (EQ K Q) E from hres)
    refine (h1.mono fun fl S' ι' H' e' sr' h => ?_).monoE fun c d H' q σ' _ => q
    cases fl with
    | nx ρ' => exact fun σ' _ _ => h ι' H' Ext.refl sr' .non (by simp only [VR])
    | rt u => exact fun v rv' => h ι' H' Ext.refl sr' v rv'
  have go := main.run [] s1 (L2.start p.N vs) H _ I hrun
  rw [← hX] at go
  refine wpAny_mono go (fun fl s' hs => ?_) fun e s' hs => hs
  cases fl with
  | ret u => obtain ⟨v, σ', H', J, rv', q⟩ := hs; exact ⟨v, H', J.os, J.bare, J.base, J.hok, rv', q⟩
  | next => obtain ⟨σ', H', J, q⟩ := hs; exact ⟨V.non, H', J.os, J.bare, J.base, J.hok, rfl, q⟩
  | brk => obtain ⟨_, _, _, q⟩ := hs; exact False.elim q
  | cont => obtain ⟨_, _, _, q⟩ := hs; exact False.elim q
/-- all arguments given, by place -/
def posM (n : Nat) (m : List W → M W) (kn : List Nm) (ws ys : List W) : M W := if ws.length = n ∧ kn = [] ∧ ys = [] then m ws else M.bad
theorem calls_pos {X : Cx} {wx : WX} {f : Addr} {fd : FuncData} {ps : List Str} {m : List W → M W} (G : FnG X.prog X.w X.K X.mg X.base cl k f fd ps m) (hb : Binds X.K fd ps []) (hr : GRoom k X.A) (tk : Takes X wx) (kn : List Nm) :
    CallsR X cl wx f (kn.map toS) (fun ws ys => posM ps.length m kn ws ys) := by
  intro pins s σ H vs zs us xs Q I r rz ⟨ι, S, ws, ys, sr, rv, ry, hres0⟩
  have hres : Res X.K cl (posM ps.length m kn ws ys S) ι H (EQ X.K Q) (fun c d H' => wx c d σ H') := hres0
  clear hres0
  unfold posM at hres
  split at hres
  · rename_i hc
    obtain ⟨h1, rfl, rfl⟩ := hc
    have e1 := ry.nil_inv
    subst e1
    cases rz
    have hl : vs.length = ps.length := by rw [← rv.length]; exact h1
    have hlu : us.length = ps.length := by rw [← hl]; exact r.length.symm
    have hbind := hb s us I.kIn (by rw [List.append_nil]; exact hlu)
    rw [List.append_nil] at hbind
    refine wpAny_call (codeAny_mono (G X.A X.stack s H ⟨us, []⟩ us vs ws Q (fun c d H' => wx c d σ H') ι S hr I.env0 hbind r hl sr rv hres) fun res s' hq => ?_)
    cases res with
    | error e => exact tk e s' (XE.of_call I (fun _ _ _ h => h) hq)
    | ok fl =>
      cases fl with
      | ret u => exact I.after hq
      | next => exact False.elim hq
      | brk => exact False.elim hq
      | cont => exact False.elim hq
  · exact (hres : False).elim
/-! ### the running program -/
/-- one def -/
structure Df where
  nm : Nm
  N : List Str
  np : Nat
  ts : List T
noncomputable def mkD (gv : Nm → Option W) (ds : List Df) : Nat → Wd
  | 0 => ⟨ds.map (·.nm), [], gv, fun _ _ _ _ => M.bad, fun _ _ _ _ _ => M.bad⟩
  | k + 1 => ⟨ds.map (·.nm), [], gv, fun f ws kn ys => match ds.find? (fun d => decide (d.nm = f)) with
    | some d => posM d.np (fnM (mkD gv ds k) d.N.length d.ts) kn ws ys
    | none => M.bad, fun _ _ _ _ _ => M.bad⟩
structure DfOk (K : PySem.W.Frag) (mg : Str → Option Value) (p : MP) (d : Df) : Prop where
  ex : ∃ (fa : Addr) (fd : FuncData) (x qual : Str) (params : Arguments) (body : List Stmt) (scope : Scope) (kws : List (Str × L2.V)),
    mg (toS d.nm) = some (.ref fa) ∧ FunD K x qual params body scope [] kws fa fd ∧ Binds K fd (d.N.take d.np) [] ∧ FnScope d.N (d.N.take d.np) scope ∧ d.np ≤ d.N.length ∧ matchTs { p with N := d.N } scope d.ts body = true
theorem Sys.withN (sy : Sys P w K mg base cl D p k) (N : List Str) : Sys P w K mg base cl D { p with N := N } k := ⟨sy.gv, sy.bi, sy.fn, sy.me, sy.cls⟩
theorem sys_of {gv : Nm → Option W} {ds : List Df} (hgv : ∀ x ∈ p.gls, ∃ wv u v, gv x = some wv ∧ mg (toS x) = some u ∧ RelV v u ∧ ∀ ι H S, SR K cl ι H S → VR K ι H wv v) (hbi : ∀ x ∈ p.bis, mg (toS x) = none) (hcls : ClOk K cl p.fls) (hf : p.fns = ds.map (·.nm))
    (hds : ∀ d ∈ ds, DfOk K mg p d) : ∀ k, Sys P w K mg base cl (mkD gv ds k) p k
  | 0 => { gv := hgv
           bi := hbi
           cls := hcls
           me := fun c m C h => nomatch h
           fn := fun f h => by
             rw [hf] at h
             refine ⟨h, ?_⟩
             obtain ⟨d, hd, rfl⟩ := List.mem_map.mp h
             obtain ⟨fa, fd, x, qual, params, body, scope, kws, h1, F, -, -, -, -⟩ := (hds d hd).ex
             exact ⟨fa, h1, F.kp, fun X wx _ _ _ _ _ _ _ _ kn pins s σ H vs zs us xs Q I r rz ⟨ι, S, ws, ys, sr, rv, ry, hres⟩ => (hres : False).elim⟩ }
  | k + 1 => { gv := hgv
               bi := hbi
               cls := hcls
               me := fun c m C h => nomatch h
               fn := fun f h => by
                 rw [hf] at h
                 refine ⟨h, ?_⟩
                 have hs : (ds.find? fun d => decide (d.nm = f)).isSome = true := by
                   rw [List.find?_isSome]
                   obtain ⟨d, hd, e⟩ := List.mem_map.mp h
                   exact ⟨d, hd, decide_eq_true e⟩
                 obtain ⟨d, hfd⟩ := Option.isSome_iff_exists.mp hs
                 have hd := List.mem_of_find?_eq_some hfd
                 have e : d.nm = f := by
                   have z := List.find?_some (p := fun d : Df => decide (d.nm = f)) hfd
                   exact of_decide_eq_true z
                 subst e
                 obtain ⟨fa, fd, x, qual, params, body, scope, kws, h1, F, hb, S, hn, hm⟩ := (hds d hd).ex
                 refine ⟨fa, h1, F.kp, fun X wx e1 e2 e3 e4 e5 hr hc tk kn => ?_⟩
                 have ih : Sys P w K mg base cl (mkD gv ds k) p k := sys_of hgv hbi hcls hf hds k
                 subst e1 e2 e3 e4 e5
                 have G := fn_ok (ih.withN d.N) F S hm
                 have hpl : (d.N.take d.np).length = d.np := by rw [List.length_take]; omega
                 have hc := calls_pos (wx := wx) G hb hr tk kn
                 rw [hpl] at hc
                 have hfd' : (fun ws ys => (mkD gv ds (k + 1)).cf d.nm ws kn ys) = fun ws ys => posM d.np (fnM (mkD gv ds k) d.N.length d.ts) kn ws ys := by
                   funext ws ys
                   show (match ds.find? (fun d' => decide (d'.nm = d.nm)) with
                     | some d => posM d.np (fnM (mkD gv ds k) d.N.length d.ts) kn ws ys
                     | none => M.bad) = _
                   rw [hfd]
                 rw [hfd']
                 exact hc }
end
/-! ### a law's end -/
theorem OR.more {K : PySem.W.Frag} {cl : Nm → Option Addr} {ι ι1 : List Addr} {H : Hp} {a : Addr} {o : O} (e : Ext ι H ι1 H) (h : OR K cl ι H a o) : OR K cl ι1 H a o := by
  cases o with
  | lst ws => obtain ⟨vs, h, r⟩ := h; exact ⟨vs, h, VRs.ext e ws r⟩
  | ins c fs => obtain ⟨C, dx, fvs, hc, h, r⟩ := h; exact ⟨C, dx, fvs, hc, h, r.ext e⟩
  | dct _ => exact h
  | rod _ => exact h.elim
  | rol ws => obtain ⟨vs, h, r⟩ := h; exact ⟨vs, h, VRs.ext e ws r⟩
theorem ints_vr {K : PySem.W.Frag} {ι : List Addr} {H : Hp} : ∀ ns : List Int, VRs K ι H (ns.map .int) (ns.map V.int)
  | [] => VRs.nil
  | n :: ns => VRs.cons (by simp only [VR]) (ints_vr ns)
/-- the objects that the module has of its own, read only -/
structure Own (K : PySem.W.Frag) (cl : Nm → Option Addr) (gas : List Addr) (gos : List O) : Prop where
  len : gas.length = gos.length
  pre : ∀ (n : Nat) (a : Addr), cl [0, n] = some a → gas[n]? = some a
  ok : ∀ (i : Nat) (o : O), gos[i]? = some o → o.wr = false ∧ ∃ b, gas[i]? = some b ∧ ∀ H, OR K cl gas H b o
theorem own_none {K : PySem.W.Frag} {cl : Nm → Option Addr} (h : ∀ n, cl [0, n] = none) : Own K cl [] [] := ⟨rfl, fun n a e => absurd e (by rw [h n]; exact fun z => nomatch z), fun i o e => absurd e (by simp)⟩
theorem first_sr {K : PySem.W.Frag} {cl : Nm → Option Addr} {gas : List Addr} {gos : List O} {H : Hp} {a : Addr} {ns : List Int} (g : Own K cl gas gos) (h : RL K H a (ns.map V.int)) : SR K cl (gas ++ [a]) H (gos ++ [.rol (ns.map .int)]) where
  len := by rw [List.length_append, List.length_append, g.len]; rfl
  obj := fun n o hn => by
    have e : Ext gas H (gas ++ [a]) H := ⟨fun n x hx => by rw [List.getElem?_append_left (List.getElem?_eq_some_iff.mp hx).1]; exact hx, fun _ _ h => h, fun _ _ _ h => h⟩
    by_cases hl : n < gos.length
    · rw [List.getElem?_append_left hl] at hn
      obtain ⟨_, b, hb, ho⟩ := g.ok n o hn
      exact ⟨b, e.pre _ _ hb, (ho H).more e⟩
    · rw [List.getElem?_append_right (by omega)] at hn
      have e2 : n = gos.length := by
        have := (List.getElem?_eq_some_iff.mp hn).1
        simp at this; omega
      subst e2
      have e3 : O.rol (ns.map .int) = o := by simpa using hn
      subst e3
      exact ⟨a, by rw [← g.len]; simp, _, h, ints_vr ns⟩
  inj := fun n m b o u h1 h2 w1 w2 g1 g2 => by
    have none : ∀ (k : Nat) (z : O), (gos ++ [.rol (ns.map .int)])[k]? = some z → z.wr = true → False := fun k z hz hw => by
      by_cases hl : k < gos.length
      · rw [List.getElem?_append_left hl] at hz
        rw [(g.ok k z hz).1] at hw; cases hw
      · rw [List.getElem?_append_right (by omega)] at hz
        have := List.mem_of_getElem? hz
        have e3 : z = O.rol (ns.map .int) := by simpa using this
        subst e3
        cases hw
    exact (none n o h1 w1).elim
  pre := fun n b e => by
    have hx := g.pre n b e
    rw [List.getElem?_append_left (List.getElem?_eq_some_iff.mp hx).1]; exact hx
theorem lawG {P : Program} {w : World} {K : PySem.W.Frag} {mg mb : Str → Option Value} {cl : Nm → Option Addr} {gas : List Addr} {gos : List O} {k : Nat} {fa a : Addr} {fd : FuncData} {x : Str} {m : List W → M W} {s₁ : Shared} {vs : List Value} {ns : List Int} {S' : Sto}
    (KX : K.In s₁.heap) (hns : s₁.heap.Ns mainGlobals mg) (hb : s₁.heap.Ns builtinsNs mb) (hbb : ∀ x : Str, x ≠ "__name__" → mb x = bootBuiltins x) (hlim : s₁.heap.NoLimit) (hg : s₁.gens = #[])
    (ha : s₁.heap.get? a = some { cls := .type "list", data := .seq vs.toArray }) (hi : IntsAre vs ns) (hl : ns.length ≤ sizeLine) (hr : GRoom k callerA)
    (F : ∀ base : Heap, K.In base → base.Ns mainGlobals mg → FnG P w K mg base cl k fa fd [x] m) (hbind : ∀ (s : Shared) (u : Value), BindsTo s fd ⟨[u], []⟩ [(x, u)])
    (own : Own K cl gas gos) (hm : m [.ob gos.length] (gos ++ [.rol (ns.map .int)]) = .ok (.bl true) S') :
    codeAny (model P w) callerA (.call (.ref fa) ⟨[.ref a], []⟩) (fun r s' => r = .ok (.ret (.bool true)) ∧ OldK s₁.heap s'.heap ∧ s'.os = s₁.os ∧ AllBare s'.gens) s₁ := by
  have lenV := hi.length
  -- over a heap in which nothing but the script may be tracked
  have over : ∀ H : Hp, (∀ b u, H b = some u → b = a ∧ ∃ o, u = .frz o (.lst (ns.map V.int))) → RL K H a (ns.map V.int) → HOk P w H s₁.heap → (H a ≠ none → K.lookup a = none) →
      codeAny (model P w) callerA (.call (.ref fa) ⟨[.ref a], []⟩) (fun r s' => r = .ok (.ret (.bool true)) ∧ OldK s₁.heap s'.heap ∧ s'.os = s₁.os ∧ AllBare s'.gens) s₁ := by
    intro H hO hS hok hK
    have stays : ∀ {b : Addr} {o : Obj}, s₁.heap.get? b = some o → H b = none → (hidT s₁.heap H).get? b = some o := fun e n => hidT_get e n
    have isD : ∀ {b : Addr} {o : Obj} {es : Array DictEntry} {ep : Nat}, s₁.heap.get? b = some o → o.data = .dict es ep → H b = none := by
      intro b o es ep e d
      cases q : H b with
      | none => rfl
      | some u =>
        obtain ⟨rfl, -⟩ := hO b u q
        rw [ha] at e; cases e
        exact nomatch (show Data.seq vs.toArray _ = Data.dict es ep from d)
    have names : ∀ {b : Addr} {t : Str → Option Value}, s₁.heap.Ns b t → (hidT s₁.heap H).Ns b t := by
      rintro b t ⟨o, es, ep, e, d, r⟩
      exact ⟨o, es, ep, stays e (isD e d), d, r⟩
    have inK : K.In (hidT s₁.heap H) := by
      intro b o e
      refine stays (KX b o e) ?_
      cases q : H b with
      | none => rfl
      | some u =>
        obtain ⟨rfl, -⟩ := hO b u q
        have z := hK (by rw [q]; simp)
        rw [z] at e; cases e
    have hM : Mod K mg (hidT s₁.heap H) := by
      obtain ⟨mc, h1, h2⟩ := hlim
      exact ⟨inK, names hns, ⟨mb, names hb, hbb⟩, mc, names h1, h2⟩
    have e0 : Env0 P w K mg (hidT s₁.heap H) callerA [] s₁ H :=
      { frames := rfl, mod := hM, bs := fun b o e => of_hidT e, bsz := Nat.le_of_eq (hidT_size _ _), funs := trivial, frf := fun b hb => absurd (show b ∈ ([] : List Addr) from hb) (by simp), hok := hok, bare := .of_eq hg }
    have sr := first_sr own hS
    have ra : VR K (gas ++ [a]) H (.ob gos.length) (.ref a) := by
      simp only [VR]
      exact ⟨a, rfl, by rw [← own.len]; simp⟩
    have wish : Res K cl (m [.ob gos.length] (gos ++ [.rol (ns.map .int)])) (gas ++ [a]) H (EQ K fun v _ => v = .bl true) (fun _ _ _ => False) := by
      rw [hm]
      intro ι' H' _ _ v rv
      exact rv.bl_inv
    refine codeAny_mono (F _ inK (names hns) callerA [] s₁ H ⟨[.ref a], []⟩ [.ref a] [.ref a] [.ob gos.length] _ _ _ _ hr e0 (hbind s₁ (.ref a)) (Paired.cons (show RelV (.ref a) (Value.ref a) from rfl) .nil) rfl sr (VRs.one ra) wish) fun r s' h => ?_
    cases r with
    | error e => obtain ⟨_, _, _, _, _, _, _, _, _, _, _, _, no⟩ := h; exact no.elim
    | ok fl =>
      cases fl with
      | ret u =>
        obtain ⟨v, H', os, bare, un, hok', r', rfl⟩ := h
        obtain rfl : u = Value.bool true := r'
        refine ⟨rfl, OldK.of_keep fun b o e => ?_, os, bare⟩
        cases q : H b with
        | none => exact un.keep b o e q (by intro z; exact absurd (show b ∈ ([] : List Addr) from z) (by simp)) (by simp)
        | some u =>
          obtain ⟨rfl, ob, rfl⟩ := hO b u q
          obtain ⟨e1, _⟩ := hok b _ q
          obtain ⟨e2, _⟩ := hok' b _ (un.frzs b ob _ q)
          rw [e] at e1; cases e1
          exact e2
      | _ => exact False.elim h
  have rv := vals_ints hi
  cases hk : K.lookup a with
  | some o =>
    have e := KX a o hk
    rw [ha] at e
    cases e
    exact over (fun _ => none) (fun b u z => nomatch (show (none : Option HO) = some u from z)) (.inr ⟨_, vs.toArray, _, hk, rfl, rfl, rfl, by rw [List.size_toArray, lenV]; exact hl, by simpa using rv⟩)
      (fun b u z => nomatch (show (none : Option HO) = some u from z)) (fun z => absurd rfl z)
  | none =>
    refine over (fun b => if b = a then some (.frz { cls := .type "list", data := .seq vs.toArray } (.lst (ns.map V.int))) else none) (fun b u z => ?_) (.inl ⟨_, if_pos rfl⟩) (fun b u z => ?_) fun _ => hk
    · by_cases hb : b = a
      · have z' := (if_pos hb).symm.trans z
        cases z'
        exact ⟨hb, _, rfl⟩
      · exact nomatch (if_neg hb).symm.trans z
    · by_cases hb : b = a
      · have z' := (if_pos hb).symm.trans z
        cases z'
        subst hb
        exact ⟨ha, by rw [List.length_map]; exact hl, vs, _, rv, ha⟩
      · exact nomatch (if_neg hb).symm.trans z
theorem walkG {l : PySem.W.OpenLaw} {n k : Nat} {q : Program} {loose : List Str} {XP : (Str → Option Value) → Heap → Prop} {YP : World → Heap → Prop} {d : DefRec} {x : Str}
    (hn : l.most = some n) (hn2 : n ≤ sizeLine) (hdf : d.params.defaults = []) (hr : GRoom k callerA)
    (F : ∀ (w : World) (mg : Str → Option Value) (fa : Addr) (h : Heap), YP w h → h.Ns mainGlobals mg → mg d.name = some (.ref fa) →
      ∃ (K : PySem.W.Frag) (fd : FuncData) (cl : Nm → Option Addr) (gas : List Addr) (gos : List O) (m : List W → M W), K.In h ∧ (∀ (s : Shared) (u : Value), BindsTo s fd ⟨[u], []⟩ [(x, u)]) ∧ Own K cl gas gos ∧
        (∀ ns : List Int, ns.length ≤ n → ∃ S', m [.ob gos.length] (gos ++ [.rol (ns.map .int)]) = .ok (.bl true) S') ∧
        ∀ base : Heap, K.In base → base.Ns mainGlobals mg → FnG l.prog w K mg base cl k fa fd [x] m) :
    PySem.W.WalkO q loose XP YP l.row.toRowW d [] (fun f vs => PySem.call f vs) := by
  refine Att.attach_call hn hdf fun w s₀ s₁ mg mb fa o pm cd doc a vs ns G Y ho hd hcd hmg hobj hints hlen hg => ?_
  obtain ⟨K, fd, cl, gas, gos, m, KX, hb, own, hm, hF⟩ := F w mg fa _ Y G.T.g hmg
  obtain ⟨S', hm'⟩ := hm ns hlen
  exact lawG KX G.T.g G.T.b G.T.builtins G.T.nolimit hg hobj hints (Nat.le_trans hlen hn2) hr hF hb own hm'
end At

set_option Elab.async false
set_option linter.all false
set_option maxRecDepth 100000
set_option maxHeartbeats 4000000
/-! AtV: reasoning about what is computed. -/
namespace At
open PySem PySem.Spec PyProof.Rows L2

@[irreducible] def Ok {α : Type} (r : R α) (Q : α → Sto → Prop) : Prop := match r with
  | .ok a s => Q a s
  | _ => False
section
variable {α β : Type} {D : Wd} {Q : W → Sto → Prop} {S : Sto} {ρ : List W} {r : R α}
@[simp] theorem ok_ok (a : α) (s : Sto) (Q : α → Sto → Prop) : Ok (.ok a s) Q = Q a s := by with_unfolding_all rfl
@[simp] theorem ok_bad (Q : α → Sto → Prop) : Ok .bad Q = False := by with_unfolding_all rfl
@[simp] theorem ok_exc (c : Nm) (fs : List (Nm × W)) (s : Sto) (Q : α → Sto → Prop) : Ok (.ex c fs s) Q = False := by with_unfolding_all rfl
@[simp] theorem ok_bind (r : R α) (f : α → Sto → R β) (Q : β → Sto → Prop) : Ok (r.bind f) Q = Ok r fun a s => Ok (f a s) Q := by
  cases r
  · simp only [R.bind_ok, ok_ok]
  · simp only [R.bind_ex, ok_exc]
  · simp only [R.bind_bad, ok_bad]
@[simp] theorem ok_mbind (m : M α) (f : α → M β) (s : Sto) (Q : β → Sto → Prop) : Ok ((m >>= f) s) Q = Ok (m s) fun a s => Ok (f a s) Q := ok_bind _ _ _
@[simp] theorem ok_pure (a : α) (s : Sto) (Q : α → Sto → Prop) : Ok ((pure a : M α) s) Q = Q a s := by with_unfolding_all rfl
@[simp] theorem ok_mbad (s : Sto) (Q : α → Sto → Prop) : Ok ((M.bad : M α) s) Q = False := by with_unfolding_all rfl
theorem Ok.mono {r : R α} {Q Q' : α → Sto → Prop} (h : Ok r Q) (q : ∀ a s, Q a s → Q' a s) : Ok r Q' := by
  cases r with
  | ok a s => rw [ok_ok] at h ⊢; exact q a s h
  | ex c fs s => rw [ok_exc] at h; exact h.elim
  | bad => rw [ok_bad] at h; exact h.elim
theorem Ok.ex {r : R α} {Q : α → Sto → Prop} (h : Ok r Q) : ∃ a s, r = .ok a s ∧ Q a s := by
  cases r with
  | ok a s => rw [ok_ok] at h; exact ⟨a, s, rfl, h⟩
  | ex c fs s => rw [ok_exc] at h; exact h.elim
  | bad => rw [ok_bad] at h; exact h.elim
theorem ok_of {r : R α} {a : α} {s : Sto} {Q : α → Sto → Prop} (e : r = .ok a s) (h : Q a s) : Ok r Q := by rw [e, ok_ok]; exact h
@[simp] theorem ok_ite {c : Prop} [Decidable c] (m m' : M α) (s : Sto) (Q : α → Sto → Prop) : Ok ((if c then m else m') s) Q = if c then Ok (m s) Q else Ok (m' s) Q := by split <;> with_unfolding_all rfl
/-! ### what follows, as data: nothing is looked at before its turn -/
def kE (D : Wd) (e : E) (ρ : List W) (k : W → W → Sto → Prop) : W → Sto → Prop := fun x s => Ok (ev D e ρ s) (k x)
def kbin (op : BO) (Q : W → Sto → Prop) : W → W → Sto → Prop := fun x y s => Ok (binM op x y s) Q
def kcmp (op : CO) (Q : W → Sto → Prop) : W → W → Sto → Prop := fun x y s => Ok (cmpM op x y s) Q
def kix (Q : W → Sto → Prop) : W → W → Sto → Prop := fun x y s => Ok (ixM x y s) Q
def knotb (Q : W → Sto → Prop) : Bool → Sto → Prop := fun b s => Q (.bl (!b)) s
def knot (Q : W → Sto → Prop) : W → Sto → Prop := fun x s => Ok (truM x s) (knotb Q)
def kneg (Q : W → Sto → Prop) : W → Sto → Prop := fun x s => match x with | .int i => Q (.int (-i)) s | _ => False
def kandb (D : Wd) (es : List E) (ρ : List W) (Q : W → Sto → Prop) (x : W) : Bool → Sto → Prop := fun t s => if t = true then Ok (evAnd D es ρ s) Q else Q x s
def kand (D : Wd) (es : List E) (ρ : List W) (Q : W → Sto → Prop) : W → Sto → Prop := fun x s => Ok (truM x s) (kandb D es ρ Q x)
def korb (D : Wd) (es : List E) (ρ : List W) (Q : W → Sto → Prop) (x : W) : Bool → Sto → Prop := fun t s => if t = true then Q x s else Ok (evOr D es ρ s) Q
def kor (D : Wd) (es : List E) (ρ : List W) (Q : W → Sto → Prop) : W → Sto → Prop := fun x s => Ok (truM x s) (korb D es ρ Q x)
def kiteb (D : Wd) (a b : E) (ρ : List W) (Q : W → Sto → Prop) : Bool → Sto → Prop := fun t s => if t = true then Ok (ev D a ρ s) Q else Ok (ev D b ρ s) Q
def kite (D : Wd) (a b : E) (ρ : List W) (Q : W → Sto → Prop) : W → Sto → Prop := fun x s => Ok (truM x s) (kiteb D a b ρ Q)
def kcons2 (Q : List W → Sto → Prop) (x : W) : List W → Sto → Prop := fun xs s => Q (x :: xs) s
def kcons (D : Wd) (es : List E) (ρ : List W) (Q : List W → Sto → Prop) : W → Sto → Prop := fun x s => Ok (evs D es ρ s) (kcons2 Q x)
def ktup (Q : W → Sto → Prop) : List W → Sto → Prop := fun xs s => Ok (mkT xs s) Q
def klst (Q : W → Sto → Prop) : List W → Sto → Prop := fun xs s => Ok (newL xs s) Q
def ksl5 (Q : W → Sto → Prop) (x : W) (l : Option Int) : Option Int → Sto → Prop := fun h s => Ok (sliM x l h s) Q
def ksl4 (hi : E) (Q : W → Sto → Prop) (x : W) (l : Option Int) : W → Sto → Prop := fun h s => Ok (partM hi.isKn h s) (ksl5 Q x l)
def ksl3 (D : Wd) (hi : E) (ρ : List W) (Q : W → Sto → Prop) (x : W) : Option Int → Sto → Prop := fun l s => Ok (ev D hi ρ s) (ksl4 hi Q x l)
def ksl2 (D : Wd) (lo hi : E) (ρ : List W) (Q : W → Sto → Prop) (x : W) : W → Sto → Prop := fun l s => Ok (partM lo.isKn l s) (ksl3 D hi ρ Q x)
def ksl1 (D : Wd) (lo hi : E) (ρ : List W) (Q : W → Sto → Prop) : W → Sto → Prop := fun x s => Ok (ev D lo ρ s) (ksl2 D lo hi ρ Q x)
def kcall2 (D : Wd) (f : Nm) (kn : List Nm) (Q : W → Sto → Prop) (xs : List W) : List W → Sto → Prop := fun ys s => f ∈ D.fns ∧ Ok (D.cf f xs kn ys s) Q
def kcall (D : Wd) (f : Nm) (kn : List Nm) (kv : List E) (ρ : List W) (Q : W → Sto → Prop) : List W → Sto → Prop := fun xs s => Ok (evs D kv ρ s) (kcall2 D f kn Q xs)
def kbi (f : Nm) (Q : W → Sto → Prop) : List W → Sto → Prop := fun xs s => Ok (biM f xs s) Q
def kbm3 (m : Nm) (Q : W → Sto → Prop) (k : Kd) : List W → Sto → Prop := fun xs s => Ok (bmM m k xs s) Q
def kbm2 (D : Wd) (m : Nm) (es : List E) (ρ : List W) (Q : W → Sto → Prop) : Kd → Sto → Prop := fun k s => Ok (evs D es ρ s) (kbm3 m Q k)
def kbm1 (D : Wd) (m : Nm) (es : List E) (ρ : List W) (Q : W → Sto → Prop) : W → Sto → Prop := fun x s => Ok (kdM m x s) (kbm2 D m es ρ Q)
def kch3 (o : CO) (Q : W → Sto → Prop) (y : W) : W → Sto → Prop := fun w s => Ok (cmpM o y w s) Q
def kch2 (D : Wd) (o : CO) (c : E) (ρ : List W) (Q : W → Sto → Prop) (y : W) : W → Sto → Prop := fun z s => match z with | .bl true => Ok (ev D c ρ s) (kch3 o Q y) | .bl false => Q (.bl false) s | _ => False
def kch1 (D : Wd) (o1 o2 : CO) (c : E) (ρ : List W) (Q : W → Sto → Prop) : W → W → Sto → Prop := fun x y s => Ok (cmpM o1 x y s) (kch2 D o2 c ρ Q y)
def klc3 (Q : W → Sto → Prop) (n : Nat) : Unit → Sto → Prop := fun _ s => Q (.ob n) s
def klc2 (D : Wd) (tg : G) (own : List Nat) (conds : List E) (el : E) (ρ : List W) (Q : W → Sto → Prop) : Wlk → Sto → Prop := fun it s => Ok (lcGo tg (evAll D conds) (ev D el) it.gd (wipeW ρ own) s.length it.items (s ++ [.lst []])) (klc3 Q s.length)
def klc1 (D : Wd) (tg : G) (own : List Nat) (k : IK) (conds : List E) (el : E) (ρ : List W) (Q : W → Sto → Prop) : List W → Sto → Prop := fun ws s => Ok (itM k ws s) (klc2 D tg own conds el ρ Q)
def kfld (f : Nm) (Q : W → Sto → Prop) : W → Sto → Prop := fun x s => match x with | .ob n => (match s[n]? with | some (.ins _ fs) => Ok (optM (fs.lookup f) s) Q | _ => False) | _ => False
def kisi (cs : List Nm) (Q : W → Sto → Prop) : W → Sto → Prop := fun x s => Ok (isiM x cs s) Q
/-! statements -/
def kex (ρ : List W) (F : Fl → Sto → Prop) : W → Sto → Prop := fun _ s => F (.nx ρ) s
def kset (i : Nat) (ρ : List W) (F : Fl → Sto → Prop) : W → Sto → Prop := fun w s => F (.nx (ρ.set i w)) s
def kasg (g : G) (ρ : List W) (F : Fl → Sto → Prop) : W → Sto → Prop := fun w s => match asgG s g w ρ with | some ρ' => F (.nx ρ') s | none => False
def ksub4 (ρ : List W) (F : Fl → Sto → Prop) : Unit → Sto → Prop := fun _ s => F (.nx ρ) s
def ksub3 (ρ : List W) (F : Fl → Sto → Prop) (v x : W) : W → Sto → Prop := fun y s => Ok (setM x y v s) (ksub4 ρ F)
def ksub2 (D : Wd) (i : E) (ρ : List W) (F : Fl → Sto → Prop) (v : W) : W → Sto → Prop := fun x s => Ok (ev D i ρ s) (ksub3 ρ F v x)
def ksub1 (D : Wd) (a i : E) (ρ : List W) (F : Fl → Sto → Prop) : W → Sto → Prop := fun v s => Ok (ev D a ρ s) (ksub2 D i ρ F v)
def kaug2 (op : BO) (i : Nat) (ρ : List W) (F : Fl → Sto → Prop) (x : W) : W → Sto → Prop := fun y s => Ok (augM op x y s) (kset i ρ F)
def kaug1 (D : Wd) (op : BO) (i : Nat) (e : E) (ρ : List W) (F : Fl → Sto → Prop) : W → Sto → Prop := fun x s => Ok (ev D e ρ s) (kaug2 op i ρ F x)
def kas5 (ρ : List W) (F : Fl → Sto → Prop) (x y : W) : W → Sto → Prop := fun z s => Ok (setM x y z s) (ksub4 ρ F)
def kas4 (op : BO) (ρ : List W) (F : Fl → Sto → Prop) (x y o : W) : W → Sto → Prop := fun v s => Ok (augM op o v s) (kas5 ρ F x y)
def kas3 (D : Wd) (op : BO) (e : E) (ρ : List W) (F : Fl → Sto → Prop) (x y : W) : W → Sto → Prop := fun o s => Ok (ev D e ρ s) (kas4 op ρ F x y o)
def kas2 (D : Wd) (op : BO) (e : E) (ρ : List W) (F : Fl → Sto → Prop) (x : W) : W → Sto → Prop := fun y s => Ok (getI x y s) (kas3 D op e ρ F x y)
def kas1 (D : Wd) (i : E) (op : BO) (e : E) (ρ : List W) (F : Fl → Sto → Prop) : W → Sto → Prop := fun x s => Ok (ev D i ρ s) (kas2 D op e ρ F x)
def kret (F : Fl → Sto → Prop) : W → Sto → Prop := fun w s => F (.rt w) s
def kifb (D : Wd) (a b : List T) (ρ : List W) (F : Fl → Sto → Prop) : Bool → Sto → Prop := fun t s => if t = true then Ok (exs D a ρ s) F else Ok (exs D b ρ s) F
def kif (D : Wd) (a b : List T) (ρ : List W) (F : Fl → Sto → Prop) : W → Sto → Prop := fun x s => Ok (truM x s) (kifb D a b ρ F)
def kfor2 (D : Wd) (g : G) (b : List T) (ρ : List W) (F : Fl → Sto → Prop) : Wlk → Sto → Prop := fun it s => Ok (forGo g (exs D b) it.gd it.items ρ s) F
def kfor1 (D : Wd) (g : G) (k : IK) (b : List T) (ρ : List W) (F : Fl → Sto → Prop) : List W → Sto → Prop := fun ws s => Ok (itM k ws s) (kfor2 D g b ρ F)
/-! ### unfolding -/
@[simp] theorem u_kE (D : Wd) (e : E) (ρ : List W) (k : W → W → Sto → Prop) (x : W) (s : Sto) : kE D e ρ k x s = (Ok (ev D e ρ s) (k x)) := id rfl
@[simp] theorem u_kbin (op : BO) (Q : W → Sto → Prop) (x : W) (y : W) (s : Sto) : kbin op Q x y s = (Ok (binM op x y s) Q) := id rfl
@[simp] theorem u_kcmp (op : CO) (Q : W → Sto → Prop) (x : W) (y : W) (s : Sto) : kcmp op Q x y s = (Ok (cmpM op x y s) Q) := id rfl
@[simp] theorem u_kix (Q : W → Sto → Prop) (x : W) (y : W) (s : Sto) : kix Q x y s = (Ok (ixM x y s) Q) := id rfl
@[simp] theorem u_knotb (Q : W → Sto → Prop) (b : Bool) (s : Sto) : knotb Q b s = (Q (.bl (!b)) s) := id rfl
@[simp] theorem u_knot (Q : W → Sto → Prop) (x : W) (s : Sto) : knot Q x s = (Ok (truM x s) (knotb Q)) := id rfl
@[simp] theorem u_kneg (Q : W → Sto → Prop) (x : W) (s : Sto) : kneg Q x s = (match x with | .int i => Q (.int (-i)) s | _ => False) := id rfl
theorem u_kandb (D : Wd) (es : List E) (ρ : List W) (Q : W → Sto → Prop) (x : W) (t : Bool) (s : Sto) : kandb D es ρ Q x t s = (if t = true then Ok (evAnd D es ρ s) Q else Q x s) := id rfl
@[simp] theorem u_kand (D : Wd) (es : List E) (ρ : List W) (Q : W → Sto → Prop) (x : W) (s : Sto) : kand D es ρ Q x s = (Ok (truM x s) (kandb D es ρ Q x)) := id rfl
theorem u_korb (D : Wd) (es : List E) (ρ : List W) (Q : W → Sto → Prop) (x : W) (t : Bool) (s : Sto) : korb D es ρ Q x t s = (if t = true then Q x s else Ok (evOr D es ρ s) Q) := id rfl
@[simp] theorem u_kor (D : Wd) (es : List E) (ρ : List W) (Q : W → Sto → Prop) (x : W) (s : Sto) : kor D es ρ Q x s = (Ok (truM x s) (korb D es ρ Q x)) := id rfl
theorem u_kiteb (D : Wd) (a b : E) (ρ : List W) (Q : W → Sto → Prop) (t : Bool) (s : Sto) : kiteb D a b ρ Q t s = (if t = true then Ok (ev D a ρ s) Q else Ok (ev D b ρ s) Q) := id rfl
@[simp] theorem u_kite (D : Wd) (a b : E) (ρ : List W) (Q : W → Sto → Prop) (x : W) (s : Sto) : kite D a b ρ Q x s = (Ok (truM x s) (kiteb D a b ρ Q)) := id rfl
@[simp] theorem u_kcons2 (Q : List W → Sto → Prop) (x : W) (xs : List W) (s : Sto) : kcons2 Q x xs s = (Q (x :: xs) s) := id rfl
@[simp] theorem u_kcons (D : Wd) (es : List E) (ρ : List W) (Q : List W → Sto → Prop) (x : W) (s : Sto) : kcons D es ρ Q x s = (Ok (evs D es ρ s) (kcons2 Q x)) := id rfl
@[simp] theorem u_ktup (Q : W → Sto → Prop) (xs : List W) (s : Sto) : ktup Q xs s = (Ok (mkT xs s) Q) := id rfl
@[simp] theorem u_klst (Q : W → Sto → Prop) (xs : List W) (s : Sto) : klst Q xs s = (Ok (newL xs s) Q) := id rfl
@[simp] theorem u_ksl5 (Q : W → Sto → Prop) (x : W) (l : Option Int) (h : Option Int) (s : Sto) : ksl5 Q x l h s = (Ok (sliM x l h s) Q) := id rfl
@[simp] theorem u_ksl4 (hi : E) (Q : W → Sto → Prop) (x : W) (l : Option Int) (h : W) (s : Sto) : ksl4 hi Q x l h s = (Ok (partM hi.isKn h s) (ksl5 Q x l)) := id rfl
@[simp] theorem u_ksl3 (D : Wd) (hi : E) (ρ : List W) (Q : W → Sto → Prop) (x : W) (l : Option Int) (s : Sto) : ksl3 D hi ρ Q x l s = (Ok (ev D hi ρ s) (ksl4 hi Q x l)) := id rfl
@[simp] theorem u_ksl2 (D : Wd) (lo hi : E) (ρ : List W) (Q : W → Sto → Prop) (x : W) (l : W) (s : Sto) : ksl2 D lo hi ρ Q x l s = (Ok (partM lo.isKn l s) (ksl3 D hi ρ Q x)) := id rfl
@[simp] theorem u_ksl1 (D : Wd) (lo hi : E) (ρ : List W) (Q : W → Sto → Prop) (x : W) (s : Sto) : ksl1 D lo hi ρ Q x s = (Ok (ev D lo ρ s) (ksl2 D lo hi ρ Q x)) := id rfl
@[simp] theorem u_kcall2 (D : Wd) (f : Nm) (kn : List Nm) (Q : W → Sto → Prop) (xs : List W) (ys : List W) (s : Sto) : kcall2 D f kn Q xs ys s = (f ∈ D.fns ∧ Ok (D.cf f xs kn ys s) Q) := id rfl
@[simp] theorem u_kcall (D : Wd) (f : Nm) (kn : List Nm) (kv : List E) (ρ : List W) (Q : W → Sto → Prop) (xs : List W) (s : Sto) : kcall D f kn kv ρ Q xs s = (Ok (evs D kv ρ s) (kcall2 D f kn Q xs)) := id rfl
@[simp] theorem u_kbi (f : Nm) (Q : W → Sto → Prop) (xs : List W) (s : Sto) : kbi f Q xs s = (Ok (biM f xs s) Q) := id rfl
@[simp] theorem u_kbm3 (m : Nm) (Q : W → Sto → Prop) (k : Kd) (xs : List W) (s : Sto) : kbm3 m Q k xs s = (Ok (bmM m k xs s) Q) := id rfl
@[simp] theorem u_kbm2 (D : Wd) (m : Nm) (es : List E) (ρ : List W) (Q : W → Sto → Prop) (k : Kd) (s : Sto) : kbm2 D m es ρ Q k s = (Ok (evs D es ρ s) (kbm3 m Q k)) := id rfl
@[simp] theorem u_kbm1 (D : Wd) (m : Nm) (es : List E) (ρ : List W) (Q : W → Sto → Prop) (x : W) (s : Sto) : kbm1 D m es ρ Q x s = (Ok (kdM m x s) (kbm2 D m es ρ Q)) := id rfl
@[simp] theorem u_kch3 (o : CO) (Q : W → Sto → Prop) (y : W) (w : W) (s : Sto) : kch3 o Q y w s = (Ok (cmpM o y w s) Q) := id rfl
@[simp] theorem u_kch2 (D : Wd) (o : CO) (c : E) (ρ : List W) (Q : W → Sto → Prop) (y : W) (z : W) (s : Sto) : kch2 D o c ρ Q y z s = (match z with | .bl true => Ok (ev D c ρ s) (kch3 o Q y) | .bl false => Q (.bl false) s | _ => False) := id rfl
@[simp] theorem u_kch1 (D : Wd) (o1 o2 : CO) (c : E) (ρ : List W) (Q : W → Sto → Prop) (x : W) (y : W) (s : Sto) : kch1 D o1 o2 c ρ Q x y s = (Ok (cmpM o1 x y s) (kch2 D o2 c ρ Q y)) := id rfl
@[simp] theorem u_klc3 (Q : W → Sto → Prop) (n : Nat) (z0 : Unit) (s : Sto) : klc3 Q n z0 s = (Q (.ob n) s) := id rfl
@[simp] theorem u_klc2 (D : Wd) (tg : G) (own : List Nat) (conds : List E) (el : E) (ρ : List W) (Q : W → Sto → Prop) (it : Wlk) (s : Sto) : klc2 D tg own conds el ρ Q it s = (Ok (lcGo tg (evAll D conds) (ev D el) it.gd (wipeW ρ own) s.length it.items (s ++ [.lst []])) (klc3 Q s.length)) := id rfl
@[simp] theorem u_klc1 (D : Wd) (tg : G) (own : List Nat) (k : IK) (conds : List E) (el : E) (ρ : List W) (Q : W → Sto → Prop) (ws : List W) (s : Sto) : klc1 D tg own k conds el ρ Q ws s = (Ok (itM k ws s) (klc2 D tg own conds el ρ Q)) := id rfl
@[simp] theorem u_kfld (f : Nm) (Q : W → Sto → Prop) (x : W) (s : Sto) : kfld f Q x s = (match x with | .ob n => (match s[n]? with | some (.ins _ fs) => Ok (optM (fs.lookup f) s) Q | _ => False) | _ => False) := id rfl
@[simp] theorem u_kisi (cs : List Nm) (Q : W → Sto → Prop) (x : W) (s : Sto) : kisi cs Q x s = (Ok (isiM x cs s) Q) := id rfl
@[simp] theorem u_kex (ρ : List W) (F : Fl → Sto → Prop) (z0 : W) (s : Sto) : kex ρ F z0 s = (F (.nx ρ) s) := id rfl
@[simp] theorem u_kset (i : Nat) (ρ : List W) (F : Fl → Sto → Prop) (w : W) (s : Sto) : kset i ρ F w s = (F (.nx (ρ.set i w)) s) := id rfl
@[simp] theorem u_kasg (g : G) (ρ : List W) (F : Fl → Sto → Prop) (w : W) (s : Sto) : kasg g ρ F w s = (match asgG s g w ρ with | some ρ' => F (.nx ρ') s | none => False) := id rfl
@[simp] theorem u_ksub4 (ρ : List W) (F : Fl → Sto → Prop) (z0 : Unit) (s : Sto) : ksub4 ρ F z0 s = (F (.nx ρ) s) := id rfl
@[simp] theorem u_ksub3 (ρ : List W) (F : Fl → Sto → Prop) (v x : W) (y : W) (s : Sto) : ksub3 ρ F v x y s = (Ok (setM x y v s) (ksub4 ρ F)) := id rfl
@[simp] theorem u_ksub2 (D : Wd) (i : E) (ρ : List W) (F : Fl → Sto → Prop) (v : W) (x : W) (s : Sto) : ksub2 D i ρ F v x s = (Ok (ev D i ρ s) (ksub3 ρ F v x)) := id rfl
@[simp] theorem u_ksub1 (D : Wd) (a i : E) (ρ : List W) (F : Fl → Sto → Prop) (v : W) (s : Sto) : ksub1 D a i ρ F v s = (Ok (ev D a ρ s) (ksub2 D i ρ F v)) := id rfl
@[simp] theorem u_kaug2 (op : BO) (i : Nat) (ρ : List W) (F : Fl → Sto → Prop) (x : W) (y : W) (s : Sto) : kaug2 op i ρ F x y s = (Ok (augM op x y s) (kset i ρ F)) := id rfl
@[simp] theorem u_kaug1 (D : Wd) (op : BO) (i : Nat) (e : E) (ρ : List W) (F : Fl → Sto → Prop) (x : W) (s : Sto) : kaug1 D op i e ρ F x s = (Ok (ev D e ρ s) (kaug2 op i ρ F x)) := id rfl
@[simp] theorem u_kas5 (ρ : List W) (F : Fl → Sto → Prop) (x y : W) (z : W) (s : Sto) : kas5 ρ F x y z s = (Ok (setM x y z s) (ksub4 ρ F)) := id rfl
@[simp] theorem u_kas4 (op : BO) (ρ : List W) (F : Fl → Sto → Prop) (x y o : W) (v : W) (s : Sto) : kas4 op ρ F x y o v s = (Ok (augM op o v s) (kas5 ρ F x y)) := id rfl
@[simp] theorem u_kas3 (D : Wd) (op : BO) (e : E) (ρ : List W) (F : Fl → Sto → Prop) (x y : W) (o : W) (s : Sto) : kas3 D op e ρ F x y o s = (Ok (ev D e ρ s) (kas4 op ρ F x y o)) := id rfl
@[simp] theorem u_kas2 (D : Wd) (op : BO) (e : E) (ρ : List W) (F : Fl → Sto → Prop) (x : W) (y : W) (s : Sto) : kas2 D op e ρ F x y s = (Ok (getI x y s) (kas3 D op e ρ F x y)) := id rfl
@[simp] theorem u_kas1 (D : Wd) (i : E) (op : BO) (e : E) (ρ : List W) (F : Fl → Sto → Prop) (x : W) (s : Sto) : kas1 D i op e ρ F x s = (Ok (ev D i ρ s) (kas2 D op e ρ F x)) := id rfl
@[simp] theorem u_kret (F : Fl → Sto → Prop) (w : W) (s : Sto) : kret F w s = (F (.rt w) s) := id rfl
theorem u_kifb (D : Wd) (a b : List T) (ρ : List W) (F : Fl → Sto → Prop) (t : Bool) (s : Sto) : kifb D a b ρ F t s = (if t = true then Ok (exs D a ρ s) F else Ok (exs D b ρ s) F) := id rfl
@[simp] theorem u_kif (D : Wd) (a b : List T) (ρ : List W) (F : Fl → Sto → Prop) (x : W) (s : Sto) : kif D a b ρ F x s = (Ok (truM x s) (kifb D a b ρ F)) := id rfl
@[simp] theorem u_kfor2 (D : Wd) (g : G) (b : List T) (ρ : List W) (F : Fl → Sto → Prop) (it : Wlk) (s : Sto) : kfor2 D g b ρ F it s = (Ok (forGo g (exs D b) it.gd it.items ρ s) F) := id rfl
@[simp] theorem u_kfor1 (D : Wd) (g : G) (k : IK) (b : List T) (ρ : List W) (F : Fl → Sto → Prop) (ws : List W) (s : Sto) : kfor1 D g k b ρ F ws s = (Ok (itM k ws s) (kfor2 D g b ρ F)) := id rfl
@[simp] theorem kand_t (es : List E) (x : W) : kandb D es ρ Q x true S = Ok (evAnd D es ρ S) Q := if_pos rfl
@[simp] theorem kand_f (es : List E) (x : W) : kandb D es ρ Q x false S = Q x S := if_neg Bool.false_ne_true
@[simp] theorem kor_t (es : List E) (x : W) : korb D es ρ Q x true S = Q x S := if_pos rfl
@[simp] theorem kor_f (es : List E) (x : W) : korb D es ρ Q x false S = Ok (evOr D es ρ S) Q := if_neg Bool.false_ne_true
@[simp] theorem kite_t (a b : E) : kiteb D a b ρ Q true S = Ok (ev D a ρ S) Q := if_pos rfl
@[simp] theorem kite_f (a b : E) : kiteb D a b ρ Q false S = Ok (ev D b ρ S) Q := if_neg Bool.false_ne_true
@[simp] theorem kif_t (a b : List T) (F : Fl → Sto → Prop) : kifb D a b ρ F true S = Ok (exs D a ρ S) F := if_pos rfl
@[simp] theorem kif_f (a b : List T) (F : Fl → Sto → Prop) : kifb D a b ρ F false S = Ok (exs D b ρ S) F := if_neg Bool.false_ne_true
theorem k_and {es : List E} {x : W} {t : Bool} (h1 : t = true → Ok (evAnd D es ρ S) Q) (h2 : t = false → Q x S) : kandb D es ρ Q x t S := by
  cases t
  · rw [kand_f]; exact h2 rfl
  · rw [kand_t]; exact h1 rfl
theorem k_or {es : List E} {x : W} {t : Bool} (h1 : t = true → Q x S) (h2 : t = false → Ok (evOr D es ρ S) Q) : korb D es ρ Q x t S := by
  cases t
  · rw [kor_f]; exact h2 rfl
  · rw [kor_t]; exact h1 rfl
theorem k_ite {a b : E} {t : Bool} (h1 : t = true → Ok (ev D a ρ S) Q) (h2 : t = false → Ok (ev D b ρ S) Q) : kiteb D a b ρ Q t S := by
  cases t
  · rw [kite_f]; exact h2 rfl
  · rw [kite_t]; exact h1 rfl
theorem k_if {a b : List T} {F : Fl → Sto → Prop} {t : Bool} (h1 : t = true → Ok (exs D a ρ S) F) (h2 : t = false → Ok (exs D b ρ S) F) : kifb D a b ρ F t S := by
  cases t
  · rw [kif_f]; exact h2 rfl
  · rw [kif_t]; exact h1 rfl
/-! expressions -/
@[simp] theorem ok_sl' (i : Nat) : Ok (ev D (.sl i) ρ S) Q = Ok (getSl ρ i S) Q := by simp only [ev]
@[simp] theorem ok_kn : Ok (ev D .kn ρ S) Q = Q .non S := by simp only [ev]; with_unfolding_all rfl
@[simp] theorem ok_kb (b : Bool) : Ok (ev D (.kb b) ρ S) Q = Q (.bl b) S := by simp only [ev]; with_unfolding_all rfl
@[simp] theorem ok_ki (i : Int) : Ok (ev D (.ki i) ρ S) Q = Q (.int i) S := by simp only [ev]; with_unfolding_all rfl
@[simp] theorem ok_ks (s : List Nat) : Ok (ev D (.ks s) ρ S) Q = Q (.str s) S := by simp only [ev]; with_unfolding_all rfl
@[simp] theorem ok_gl' (x : Nm) : Ok (ev D (.gl x) ρ S) Q = Ok (optM (D.gv x) S) Q := by simp only [ev]
@[simp] theorem ok_bin' (op : BO) (a b : E) : Ok (ev D (.bin op a b) ρ S) Q = Ok (ev D a ρ S) (kE D b ρ (kbin op Q)) := by
  simp only [ev, ok_mbind]; with_unfolding_all rfl
@[simp] theorem ok_neg' (a : E) : Ok (ev D (.neg a) ρ S) Q = Ok (ev D a ρ S) (kneg Q) := by
  simp only [ev, ok_mbind]
  congr 1
  funext x s
  cases x <;> with_unfolding_all rfl
@[simp] theorem ok_not' (a : E) : Ok (ev D (.not a) ρ S) Q = Ok (ev D a ρ S) (knot Q) := by
  simp only [ev, ok_mbind]; with_unfolding_all rfl
@[simp] theorem ok_cmp' (op : CO) (a b : E) : Ok (ev D (.cmp op a b) ρ S) Q = Ok (ev D a ρ S) (kE D b ρ (kcmp op Q)) := by
  simp only [ev, ok_mbind]; with_unfolding_all rfl
@[simp] theorem ok_chain' (o1 o2 : CO) (a b c : E) : Ok (ev D (.chain o1 o2 a b c) ρ S) Q = Ok (ev D a ρ S) (kE D b ρ (kch1 D o1 o2 c ρ Q)) := by
  simp only [ev, ok_mbind]
  congr 1
  funext x s
  show (Ok (ev D b ρ s) _) = Ok (ev D b ρ s) _
  congr 1
  funext y s
  show (Ok (cmpM o1 x y s) _) = Ok (cmpM o1 x y s) _
  congr 1
  funext z s
  cases z with
  | bl t =>
    cases t with
    | true =>
      show Ok ((ev D c ρ >>= fun w => cmpM o2 y w) s) Q = _
      rw [ok_mbind]; with_unfolding_all rfl
    | false => with_unfolding_all rfl
  | _ => with_unfolding_all rfl
@[simp] theorem ok_and1 (e : E) : Ok (evAnd D [e] ρ S) Q = Ok (ev D e ρ S) Q := by simp only [evAnd]
@[simp] theorem ok_and2 (e e' : E) (es : List E) : Ok (evAnd D (e :: e' :: es) ρ S) Q = Ok (ev D e ρ S) (kand D (e' :: es) ρ Q) := by
  simp only [evAnd, ok_mbind, ok_ite, ok_pure]; with_unfolding_all rfl
@[simp] theorem ok_or1 (e : E) : Ok (evOr D [e] ρ S) Q = Ok (ev D e ρ S) Q := by simp only [evOr]
@[simp] theorem ok_or2 (e e' : E) (es : List E) : Ok (evOr D (e :: e' :: es) ρ S) Q = Ok (ev D e ρ S) (kor D (e' :: es) ρ Q) := by
  simp only [evOr, ok_mbind, ok_ite, ok_pure]; with_unfolding_all rfl
@[simp] theorem ok_and' (es : List E) : Ok (ev D (.and es) ρ S) Q = Ok (evAnd D es ρ S) Q := by simp only [ev]
@[simp] theorem ok_or' (es : List E) : Ok (ev D (.or es) ρ S) Q = Ok (evOr D es ρ S) Q := by simp only [ev]
@[simp] theorem ok_ite' (c a b : E) : Ok (ev D (.ite c a b) ρ S) Q = Ok (ev D c ρ S) (kite D a b ρ Q) := by
  simp only [ev, ok_mbind, ok_ite]; with_unfolding_all rfl
@[simp] theorem ok_nil {Q : List W → Sto → Prop} : Ok (evs D [] ρ S) Q = Q [] S := by simp only [evs]; with_unfolding_all rfl
@[simp] theorem ok_cons (e : E) (es : List E) {Q : List W → Sto → Prop} : Ok (evs D (e :: es) ρ S) Q = Ok (ev D e ρ S) (kcons D es ρ Q) := by
  simp only [evs, ok_mbind]; with_unfolding_all rfl
@[simp] theorem ok_tup' (es : List E) : Ok (ev D (.tup es) ρ S) Q = Ok (evs D es ρ S) (ktup Q) := by simp only [ev, ok_mbind]; with_unfolding_all rfl
@[simp] theorem ok_lst' (es : List E) : Ok (ev D (.lst es) ρ S) Q = Ok (evs D es ρ S) (klst Q) := by simp only [ev, ok_mbind]; with_unfolding_all rfl
@[simp] theorem ok_ix' (a i : E) : Ok (ev D (.ix a i) ρ S) Q = Ok (ev D a ρ S) (kE D i ρ (kix Q)) := by simp only [ev, ok_mbind]; with_unfolding_all rfl
@[simp] theorem ok_sli' (a lo hi : E) : Ok (ev D (.sli a lo hi) ρ S) Q = Ok (ev D a ρ S) (ksl1 D lo hi ρ Q) := by
  simp only [ev, ok_mbind]; with_unfolding_all rfl
@[simp] theorem ok_fld' (a : E) (f : Nm) : Ok (ev D (.fld a f) ρ S) Q = Ok (ev D a ρ S) (kfld f Q) := by
  simp only [ev, ok_mbind]
  congr 1
  funext x s
  cases x with
  | ob n =>
    show Ok ((getO n >>= fun o => (match o with
      | .ins _ fs => optM (fs.lookup f)
      | _ => M.bad : M W)) s) Q = _
    rw [ok_mbind]
    cases h : s[n]? with
    | none => simp only [getO, kfld, h]; with_unfolding_all rfl
    | some o =>
      simp only [getO, kfld, h]
      cases o <;> with_unfolding_all rfl
  | _ => with_unfolding_all rfl
@[simp] theorem ok_call' (f : Nm) (es kv : List E) (kn : List Nm) : Ok (ev D (.call f es kn kv) ρ S) Q = Ok (evs D es ρ S) (kcall D f kn kv ρ Q) := by
  simp only [ev, ok_mbind]
  congr 1
  funext xs s
  show Ok (evs D kv ρ s) _ = Ok (evs D kv ρ s) _
  congr 1
  funext ys s
  unfold kcall2
  split
  · rename_i h
    exact propext ⟨fun q => ⟨h, q⟩, fun q => q.2⟩
  · rename_i h
    exact propext ⟨fun q => by rw [ok_mbad] at q; exact q.elim, fun q => absurd q.1 h⟩
@[simp] theorem ok_isi' (a : E) (cs : List Nm) : Ok (ev D (.isi a cs) ρ S) Q = Ok (ev D a ρ S) (kisi cs Q) := by simp only [ev, ok_mbind]; with_unfolding_all rfl
@[simp] theorem ok_dic' : Ok (ev D (.dic [] []) ρ S) Q = Q (.ob S.length) (S ++ [.dct []]) := by
  simp only [ev, List.isEmpty_nil, if_true]
  with_unfolding_all rfl
@[simp] theorem ok_bi' (f : Nm) (es : List E) : Ok (ev D (.bi f es) ρ S) Q = Ok (evs D es ρ S) (kbi f Q) := by simp only [ev, ok_mbind]; with_unfolding_all rfl
@[simp] theorem ok_bm' (m : Nm) (a : E) (es : List E) : Ok (ev D (.bm m a es) ρ S) Q = Ok (ev D a ρ S) (kbm1 D m es ρ Q) := by simp only [ev, ok_mbind]; with_unfolding_all rfl
@[simp] theorem ok_lc' (tg : G) (own : List Nat) (k : IK) (its conds : List E) (el : E) : Ok (ev D (.lc tg own k its conds el) ρ S) Q = Ok (evs D its ρ S) (klc1 D tg own k conds el ρ Q) := by
  simp only [ev, ok_mbind]
  congr 1
  funext ws s
  show Ok (itM k ws s) _ = Ok (itM k ws s) _
  congr 1
  funext it s
  show Ok (R.ok (W.ob s.length) (s ++ [O.lst []])) _ = _
  rw [ok_ok]
  show Ok ((lcGo tg (evAll D conds) (ev D el) it.gd (wipeW ρ own) s.length it.items >>= fun _ => (pure (.ob s.length) : M W)) (s ++ [.lst []])) Q = _
  rw [ok_mbind]
  with_unfolding_all rfl
/-! statements -/
variable {F : Fl → Sto → Prop}
@[simp] theorem ok_xnil : Ok (exs D [] ρ S) F = F (.nx ρ) S := by simp only [exs]; with_unfolding_all rfl
/-- what follows -/
def thenS (D : Wd) (ts : List T) (F : Fl → Sto → Prop) : Fl → Sto → Prop := fun f s => match f with
  | .nx ρ => Ok (exs D ts ρ s) F
  | .rt w => F (.rt w) s
@[simp] theorem thenS_nx (ts : List T) : thenS D ts F (.nx ρ) S = Ok (exs D ts ρ S) F := id rfl
@[simp] theorem thenS_rt (ts : List T) (w : W) : thenS D ts F (.rt w) S = F (.rt w) S := id rfl
@[simp] theorem ok_xcons (t : T) (ts : List T) : Ok (exs D (t :: ts) ρ S) F = Ok (ex1 D t ρ S) (thenS D ts F) := by
  simp only [exs, ok_mbind]
  congr 1
  funext f s
  cases f <;> with_unfolding_all rfl
@[simp] theorem ok_xex (e : E) : Ok (ex1 D (.ex e) ρ S) F = Ok (ev D e ρ S) (kex ρ F) := by simp only [ex1, ok_mbind]; with_unfolding_all rfl
@[simp] theorem ok_xset (i : Nat) (e : E) : Ok (ex1 D (.set i e) ρ S) F = Ok (ev D e ρ S) (kset i ρ F) := by simp only [ex1, ok_mbind]; with_unfolding_all rfl
@[simp] theorem ok_xasg (g : G) (e : E) : Ok (ex1 D (.asg g e) ρ S) F = Ok (ev D e ρ S) (kasg g ρ F) := by
  simp only [ex1, ok_mbind]
  congr 1
  funext w s
  unfold kasg
  cases asgG s g w ρ <;> with_unfolding_all rfl
@[simp] theorem ok_xsub (a i e : E) : Ok (ex1 D (.sub a i e) ρ S) F = Ok (ev D e ρ S) (ksub1 D a i ρ F) := by
  simp only [ex1, ok_mbind]; with_unfolding_all rfl
@[simp] theorem ok_xaug (i : Nat) (op : BO) (e : E) : Ok (ex1 D (.aug i op e) ρ S) F = Ok (getSl ρ i S) (kaug1 D op i e ρ F) := by
  simp only [ex1, ok_mbind]; with_unfolding_all rfl
@[simp] theorem ok_xaugs (a i : E) (op : BO) (e : E) : Ok (ex1 D (.augs a i op e) ρ S) F = Ok (ev D a ρ S) (kas1 D i op e ρ F) := by
  simp only [ex1, ok_mbind]; with_unfolding_all rfl
@[simp] theorem ok_xret (e : E) : Ok (ex1 D (.ret e) ρ S) F = Ok (ev D e ρ S) (kret F) := by simp only [ex1, ok_mbind]; with_unfolding_all rfl
@[simp] theorem ok_xretn : Ok (ex1 D .retn ρ S) F = F (.rt .non) S := by simp only [ex1]; with_unfolding_all rfl
@[simp] theorem ok_xpass : Ok (ex1 D .pass ρ S) F = F (.nx ρ) S := by simp only [ex1]; with_unfolding_all rfl
@[simp] theorem ok_xif (c : E) (a b : List T) : Ok (ex1 D (.ife c a b) ρ S) F = Ok (ev D c ρ S) (kif D a b ρ F) := by
  simp only [ex1, ok_mbind, ok_ite]; with_unfolding_all rfl
@[simp] theorem ok_xwhl (c : E) (b : List T) : Ok (ex1 D (.whl c b) ρ S) F = Ok (whlGo (fun ρ' => ev D c ρ' >>= truM) (exs D b) FUEL ρ S) F := by simp only [ex1]
@[simp] theorem ok_xfor (g : G) (k : IK) (its : List E) (b : List T) : Ok (ex1 D (.for g k its b) ρ S) F = Ok (evs D its ρ S) (kfor1 D g k b ρ F) := by
  simp only [ex1, ok_mbind]; with_unfolding_all rfl
/-- a def's call -/
theorem ok_fnM (n : Nat) (ts : List T) (ws : List W) : Ok (fnM D n ts ws S) Q = Ok (exs D ts (ws ++ List.replicate (n - ws.length) .un) S) (fun f s => match f with | .nx _ => Q .non s | .rt w => Q w s) := by
  unfold fnM
  rw [ok_mbind]
  congr 1
  funext f s
  cases f <;> with_unfolding_all rfl
/-! primitives -/
@[simp] theorem ok_get0 (w : W) (ρ : List W) (h : w ≠ .un) : Ok (getSl (w :: ρ) 0 S) Q = Q w S := by
  unfold getSl
  cases w <;> first | with_unfolding_all rfl | exact absurd rfl h
@[simp] theorem ok_gets (w : W) (ρ : List W) (i : Nat) : Ok (getSl (w :: ρ) (i + 1) S) Q = Ok (getSl ρ i S) Q := by
  unfold getSl
  rw [List.getElem?_cons_succ]
@[simp] theorem ok_opt (a : α) (Q : α → Sto → Prop) : Ok (optM (some a) S) Q = Q a S := by with_unfolding_all rfl
@[simp] theorem ok_opt0 (Q : α → Sto → Prop) : Ok (optM none S) Q = False := by with_unfolding_all rfl
@[simp] theorem ok_truB (b : Bool) (Q : Bool → Sto → Prop) : Ok (truM (.bl b) S) Q = Q b S := by with_unfolding_all rfl
@[simp] theorem ok_truI (i : Int) (Q : Bool → Sto → Prop) : Ok (truM (.int i) S) Q = Q (i != 0) S := by with_unfolding_all rfl
@[simp] theorem ok_truS (x : List Nat) (Q : Bool → Sto → Prop) : Ok (truM (.str x) S) Q = Q (!x.isEmpty) S := by with_unfolding_all rfl
@[simp] theorem ok_truN (Q : Bool → Sto → Prop) : Ok (truM .non S) Q = Q false S := by with_unfolding_all rfl
@[simp] theorem ok_truT (x : List W) (Q : Bool → Sto → Prop) : Ok (truM (.tup x) S) Q = Q (!x.isEmpty) S := by with_unfolding_all rfl
@[simp] theorem ok_addI (a b : Int) : Ok (binM .add (.int a) (.int b) S) Q = Q (.int (a + b)) S := by with_unfolding_all rfl
@[simp] theorem ok_subI (a b : Int) : Ok (binM .sub (.int a) (.int b) S) Q = Q (.int (a - b)) S := by with_unfolding_all rfl
theorem ok_mulI (a b : Int) : Ok (binM .mul (.int a) (.int b) S) Q = if small64 a || small64 b then Q (.int (a * b)) S else False := by
  unfold binM; rw [ok_ite]; with_unfolding_all rfl
theorem ok_modI (a b : Int) : Ok (binM .mod (.int a) (.int b) S) Q = if 0 < b then Q (.int (a % b)) S else False := by
  unfold binM; rw [ok_ite]; with_unfolding_all rfl
theorem ok_fdivI (a b : Int) : Ok (binM .fdiv (.int a) (.int b) S) Q = if 0 < b ∧ b < 1073741824 then Q (.int (a / b)) S else False := by
  unfold binM; rw [ok_ite]; with_unfolding_all rfl
theorem ok_addS (a b : List Nat) : Ok (binM .add (.str a) (.str b) S) Q = if (a ++ b).length ≤ LINE then Q (.str (a ++ b)) S else False := by
  show Ok (mkS (a ++ b) S) Q = _
  unfold mkS; rw [ok_ite]; with_unfolding_all rfl
theorem ok_addT (a b : List W) : Ok (binM .add (.tup a) (.tup b) S) Q = if (a ++ b).length ≤ LINE then Q (.tup (a ++ b)) S else False := by
  show Ok (mkT (a ++ b) S) Q = _
  unfold mkT; rw [ok_ite]; with_unfolding_all rfl
@[simp] theorem ok_augI (a b : Int) : Ok (augM .add (.int a) (.int b) S) Q = Q (.int (a + b)) S := by with_unfolding_all rfl
@[simp] theorem ok_augJ (a b : Int) : Ok (augM .sub (.int a) (.int b) S) Q = Q (.int (a - b)) S := by with_unfolding_all rfl
theorem ok_mkT (xs : List W) : Ok (mkT xs S) Q = if xs.length ≤ LINE then Q (.tup xs) S else False := by
  unfold mkT; rw [ok_ite]; with_unfolding_all rfl
theorem ok_newL (xs : List W) : Ok (newL xs S) Q = if xs.length ≤ LINE then Q (.ob S.length) (S ++ [.lst xs]) else False := by
  unfold newL; rw [ok_ite]; with_unfolding_all rfl
theorem ok_cmpM (op : CO) (x y : W) : Ok (cmpM op x y S) Q = match cmpW S op x y with | some b => Q (.bl b) S | none => False := by
  unfold cmpM
  cases cmpW S op x y <;> with_unfolding_all rfl
@[simp] theorem ok_lt (a b : Int) : Ok (cmpM .lt (.int a) (.int b) S) Q = Q (.bl (decide (a < b))) S := by with_unfolding_all rfl
@[simp] theorem ok_le (a b : Int) : Ok (cmpM .le (.int a) (.int b) S) Q = Q (.bl (decide (a ≤ b))) S := by with_unfolding_all rfl
@[simp] theorem ok_gt (a b : Int) : Ok (cmpM .gt (.int a) (.int b) S) Q = Q (.bl (decide (b < a))) S := by with_unfolding_all rfl
@[simp] theorem ok_ge (a b : Int) : Ok (cmpM .ge (.int a) (.int b) S) Q = Q (.bl (decide (b ≤ a))) S := by with_unfolding_all rfl
@[simp] theorem ok_eqI (a b : Int) : Ok (cmpM .eq (.int a) (.int b) S) Q = Q (.bl (decide (a = b))) S := by with_unfolding_all rfl
@[simp] theorem ok_neI (a b : Int) : Ok (cmpM .ne (.int a) (.int b) S) Q = Q (.bl (!decide (a = b))) S := by with_unfolding_all rfl
@[simp] theorem ok_eqS (a b : List Nat) : Ok (cmpM .eq (.str a) (.str b) S) Q = Q (.bl (decide (a = b))) S := by with_unfolding_all rfl
@[simp] theorem ok_neS (a b : List Nat) : Ok (cmpM .ne (.str a) (.str b) S) Q = Q (.bl (!decide (a = b))) S := by with_unfolding_all rfl
theorem ok_items {n : Nat} {xs : List W} {Q : List W → Sto → Prop} (h : S[n]? = some (.lst xs) ∨ S[n]? = some (.rol xs)) : Ok (itemsOf n S) Q = Q xs S := by
  unfold itemsOf
  rcases h with h | h <;> rw [h] <;> with_unfolding_all rfl
theorem ok_ixO {n : Nat} {i : Int} {xs : List W} (h : S[n]? = some (.lst xs) ∨ S[n]? = some (.rol xs)) : Ok (ixM (.ob n) (.int i) S) Q = Ok (optM (atI xs i) S) Q := by
  unfold ixM
  rw [ok_mbind, ok_items h]
theorem ok_getI {n : Nat} {i : Int} {xs : List W} (h : S[n]? = some (.lst xs) ∨ S[n]? = some (.rol xs)) : Ok (getI (.ob n) (.int i) S) Q = Ok (optM (atI xs i) S) Q := by
  unfold getI
  rw [ok_mbind, ok_items h]
theorem ok_setM {n : Nat} {i : Int} {xs : List W} {v : W} {Q : Unit → Sto → Prop} (h : S[n]? = some (.lst xs)) : Ok (setM (.ob n) (.int i) v S) Q = match ixN xs.length i with | some j => Q () (S.set n (.lst (xs.set j v))) | none => False := by
  unfold setM
  rw [ok_mbind]
  unfold getO
  rw [h]
  simp only [ok_ok]
  show Ok ((match ixN xs.length i with
    | some j => putO n (.lst (xs.set j v))
    | none => M.bad) S) Q = _
  cases ixN xs.length i <;> with_unfolding_all rfl
/-! loops -/
theorem for_ok {g : G} {b : List W → M Fl} {gd : List (Nat × List W)} (I : Nat → List W → Sto → Prop) : ∀ {items : List W} {i : Nat} {ρ : List W} {S : Sto}, I i ρ S →
    (∀ (j : Nat) (x : W) (ρ : List W) (S : Sto), items[j]? = some x → I (i + j) ρ S → gdOk S gd = true ∧ ∃ ρ', asgG S g x ρ = some ρ' ∧ Ok (b ρ' S) fun f s => match f with | .nx ρ2 => I (i + j + 1) ρ2 s | .rt w => F (.rt w) s) →
    (∀ ρ S, I (i + items.length) ρ S → gdOk S gd = true ∧ F (.nx ρ) S) → Ok (forGo g b gd items ρ S) F
  | [], i, ρ, S, h, _, e => by
    obtain ⟨a, b⟩ := e ρ S h
    simp only [forGo, a, if_true, ok_ok]
    exact b
  | x :: xs, i, ρ, S, h, st, e => by
    obtain ⟨a, ρ', hρ, hb⟩ := st 0 x ρ S rfl h
    simp only [forGo, a, if_true, hρ, ok_bind]
    refine hb.mono fun f s q => ?_
    cases f with
    | rt w => rw [ok_ok]; exact q
    | nx ρ2 =>
      refine for_ok I (i := i + 1) q (fun j y ρ S hy hI => ?_) (fun ρ S hI => e ρ S (by rw [List.length_cons]; rwa [show i + (xs.length + 1) = i + 1 + xs.length by omega]))
      have := st (j + 1) y ρ S hy (by rwa [show i + (j + 1) = i + 1 + j by omega])
      rwa [show i + (j + 1) + 1 = i + 1 + j + 1 by omega] at this
theorem whl_ok {c : List W → M Bool} {b : List W → M Fl} (I : Nat → List W → Sto → Prop) : ∀ {n fuel : Nat} {ρ : List W} {S : Sto}, n < fuel → I n ρ S →
    (∀ (n : Nat) (ρ : List W) (S : Sto), I n ρ S → Ok (c ρ S) fun t s => if t = true then Ok (b ρ s) fun f s => match f with | .nx ρ2 => ∃ m, m < n ∧ I m ρ2 s | .rt w => F (.rt w) s else F (.nx ρ) s) →
    Ok (whlGo c b fuel ρ S) F
  | n, 0, ρ, S, h, _, _ => absurd h (Nat.not_lt_zero _)
  | n, fuel + 1, ρ, S, h, hI, st => by
    simp only [whlGo, ok_mbind]
    refine (st n ρ S hI).mono fun t s q => ?_
    cases t with
    | false => simpa using q
    | true =>
      simp only [if_true, ok_mbind] at q ⊢
      refine q.mono fun f s q => ?_
      cases f with
      | rt w => rw [ok_pure]; exact q
      | nx ρ2 =>
        obtain ⟨m, hm, hI⟩ := q
        exact whl_ok I (n := m) (fuel := fuel) (by omega) hI st
end
end At

set_option Elab.async false
set_option linter.all false
set_option maxRecDepth 100000
set_option maxHeartbeats 4000000
/-! AtX: more rules about what is computed. -/
namespace At
open PySem PySem.Spec PyProof.Rows L2

section
variable {α β : Type} {D : Wd} {Q : W → Sto → Prop} {S : Sto} {ρ : List W} {r : R α}
@[simp] theorem g0i (i : Int) (ρ : List W) : Ok (getSl (.int i :: ρ) 0 S) Q = Q (.int i) S := by with_unfolding_all rfl
@[simp] theorem g0b (i : Bool) (ρ : List W) : Ok (getSl (.bl i :: ρ) 0 S) Q = Q (.bl i) S := by with_unfolding_all rfl
@[simp] theorem g0s (i : List Nat) (ρ : List W) : Ok (getSl (.str i :: ρ) 0 S) Q = Q (.str i) S := by with_unfolding_all rfl
@[simp] theorem g0t (i : List W) (ρ : List W) : Ok (getSl (.tup i :: ρ) 0 S) Q = Q (.tup i) S := by with_unfolding_all rfl
@[simp] theorem g0o (i : Nat) (ρ : List W) : Ok (getSl (.ob i :: ρ) 0 S) Q = Q (.ob i) S := by with_unfolding_all rfl
@[simp] theorem g0n (ρ : List W) : Ok (getSl (.non :: ρ) 0 S) Q = Q .non S := by with_unfolding_all rfl
/-- a def's end -/
def endQ (Q : W → Sto → Prop) : Fl → Sto → Prop := fun f s => match f with | .nx _ => Q .non s | .rt w => Q w s
@[simp] theorem endQ_nx (ρ : List W) : endQ Q (.nx ρ) S = Q .non S := id rfl
@[simp] theorem endQ_rt (w : W) : endQ Q (.rt w) S = Q w S := id rfl
theorem ok_fn {n : Nat} {ts : List T} {ws ρ : List W} (h : ws ++ List.replicate (n - ws.length) .un = ρ) : Ok (fnM D n ts ws S) Q = Ok (exs D ts ρ S) (endQ Q) := by rw [ok_fnM, h]; with_unfolding_all rfl
@[simp] theorem part_out (w : W) (Q : Option Int → Sto → Prop) : Ok (partM true w S) Q = Q none S := by with_unfolding_all rfl
@[simp] theorem part_int (i : Int) (Q : Option Int → Sto → Prop) : Ok (partM false (.int i) S) Q = Q (some i) S := by with_unfolding_all rfl
@[simp] theorem kn_kn : E.kn.isKn = true := rfl
@[simp] theorem kn_ki (i : Int) : (E.ki i).isKn = false := rfl
@[simp] theorem kn_sl (i : Nat) : (E.sl i).isKn = false := rfl
@[simp] theorem kn_bin (o : BO) (a b : E) : (E.bin o a b).isKn = false := rfl
theorem ok_newLk (k : Nat) {xs : List W} (h : xs.length = k) (hk : Nat.ble k 16777216 = true) : Ok (newL xs S) Q = Q (.ob S.length) (S ++ [.lst xs]) := by
  rw [ok_newL, if_pos (by rw [h]; exact Nat.le_of_ble_eq_true hk)]
theorem ok_mkTk (k : Nat) {xs : List W} (h : xs.length = k) (hk : Nat.ble k 16777216 = true) : Ok (mkT xs S) Q = Q (.tup xs) S := by
  rw [ok_mkT, if_pos (by rw [h]; exact Nat.le_of_ble_eq_true hk)]
@[simp] theorem nwl0 : Ok (newL [] S) Q = Q (.ob S.length) (S ++ [.lst []]) := ok_newLk 0 rfl rfl
@[simp] theorem nwl1 (a0 : W) : Ok (newL [a0] S) Q = Q (.ob S.length) (S ++ [.lst [a0]]) := ok_newLk 1 rfl rfl
@[simp] theorem nwl2 (a0 a1 : W) : Ok (newL [a0, a1] S) Q = Q (.ob S.length) (S ++ [.lst [a0, a1]]) := ok_newLk 2 rfl rfl
@[simp] theorem nwl3 (a0 a1 a2 : W) : Ok (newL [a0, a1, a2] S) Q = Q (.ob S.length) (S ++ [.lst [a0, a1, a2]]) := ok_newLk 3 rfl rfl
@[simp] theorem nwl4 (a0 a1 a2 a3 : W) : Ok (newL [a0, a1, a2, a3] S) Q = Q (.ob S.length) (S ++ [.lst [a0, a1, a2, a3]]) := ok_newLk 4 rfl rfl
@[simp] theorem nwl5 (a0 a1 a2 a3 a4 : W) : Ok (newL [a0, a1, a2, a3, a4] S) Q = Q (.ob S.length) (S ++ [.lst [a0, a1, a2, a3, a4]]) := ok_newLk 5 rfl rfl
@[simp] theorem nwl6 (a0 a1 a2 a3 a4 a5 : W) : Ok (newL [a0, a1, a2, a3, a4, a5] S) Q = Q (.ob S.length) (S ++ [.lst [a0, a1, a2, a3, a4, a5]]) := ok_newLk 6 rfl rfl
@[simp] theorem nwl7 (a0 a1 a2 a3 a4 a5 a6 : W) : Ok (newL [a0, a1, a2, a3, a4, a5, a6] S) Q = Q (.ob S.length) (S ++ [.lst [a0, a1, a2, a3, a4, a5, a6]]) := ok_newLk 7 rfl rfl
@[simp] theorem nwl8 (a0 a1 a2 a3 a4 a5 a6 a7 : W) : Ok (newL [a0, a1, a2, a3, a4, a5, a6, a7] S) Q = Q (.ob S.length) (S ++ [.lst [a0, a1, a2, a3, a4, a5, a6, a7]]) := ok_newLk 8 rfl rfl
@[simp] theorem nwl9 (a0 a1 a2 a3 a4 a5 a6 a7 a8 : W) : Ok (newL [a0, a1, a2, a3, a4, a5, a6, a7, a8] S) Q = Q (.ob S.length) (S ++ [.lst [a0, a1, a2, a3, a4, a5, a6, a7, a8]]) := ok_newLk 9 rfl rfl
@[simp] theorem nwl10 (a0 a1 a2 a3 a4 a5 a6 a7 a8 a9 : W) : Ok (newL [a0, a1, a2, a3, a4, a5, a6, a7, a8, a9] S) Q = Q (.ob S.length) (S ++ [.lst [a0, a1, a2, a3, a4, a5, a6, a7, a8, a9]]) := ok_newLk 10 rfl rfl
@[simp] theorem nwl11 (a0 a1 a2 a3 a4 a5 a6 a7 a8 a9 a10 : W) : Ok (newL [a0, a1, a2, a3, a4, a5, a6, a7, a8, a9, a10] S) Q = Q (.ob S.length) (S ++ [.lst [a0, a1, a2, a3, a4, a5, a6, a7, a8, a9, a10]]) := ok_newLk 11 rfl rfl
@[simp] theorem nwl12 (a0 a1 a2 a3 a4 a5 a6 a7 a8 a9 a10 a11 : W) : Ok (newL [a0, a1, a2, a3, a4, a5, a6, a7, a8, a9, a10, a11] S) Q = Q (.ob S.length) (S ++ [.lst [a0, a1, a2, a3, a4, a5, a6, a7, a8, a9, a10, a11]]) := ok_newLk 12 rfl rfl
@[simp] theorem mkt0 : Ok (mkT [] S) Q = Q (.tup []) S := ok_mkTk 0 rfl rfl
@[simp] theorem mkt1 (a0 : W) : Ok (mkT [a0] S) Q = Q (.tup [a0]) S := ok_mkTk 1 rfl rfl
@[simp] theorem mkt2 (a0 a1 : W) : Ok (mkT [a0, a1] S) Q = Q (.tup [a0, a1]) S := ok_mkTk 2 rfl rfl
@[simp] theorem mkt3 (a0 a1 a2 : W) : Ok (mkT [a0, a1, a2] S) Q = Q (.tup [a0, a1, a2]) S := ok_mkTk 3 rfl rfl
@[simp] theorem mkt4 (a0 a1 a2 a3 : W) : Ok (mkT [a0, a1, a2, a3] S) Q = Q (.tup [a0, a1, a2, a3]) S := ok_mkTk 4 rfl rfl
@[simp] theorem mkt5 (a0 a1 a2 a3 a4 : W) : Ok (mkT [a0, a1, a2, a3, a4] S) Q = Q (.tup [a0, a1, a2, a3, a4]) S := ok_mkTk 5 rfl rfl
@[simp] theorem mkt6 (a0 a1 a2 a3 a4 a5 : W) : Ok (mkT [a0, a1, a2, a3, a4, a5] S) Q = Q (.tup [a0, a1, a2, a3, a4, a5]) S := ok_mkTk 6 rfl rfl
@[simp] theorem mkt7 (a0 a1 a2 a3 a4 a5 a6 : W) : Ok (mkT [a0, a1, a2, a3, a4, a5, a6] S) Q = Q (.tup [a0, a1, a2, a3, a4, a5, a6]) S := ok_mkTk 7 rfl rfl
@[simp] theorem mkt8 (a0 a1 a2 a3 a4 a5 a6 a7 : W) : Ok (mkT [a0, a1, a2, a3, a4, a5, a6, a7] S) Q = Q (.tup [a0, a1, a2, a3, a4, a5, a6, a7]) S := ok_mkTk 8 rfl rfl
@[simp] theorem ok_sliS (x : List Nat) (l h : Option Int) : Ok (sliM (.str x) l h S) Q = Q (.str (cutL x l h)) S := by with_unfolding_all rfl
@[simp] theorem ok_sliT (x : List W) (l h : Option Int) : Ok (sliM (.tup x) l h S) Q = Q (.tup (cutL x l h)) S := by with_unfolding_all rfl
theorem ok_addL {a b : Nat} {xs ys : List W} (ha : S[a]? = some (.lst xs)) (hb : S[b]? = some (.lst ys)) (hl : (xs ++ ys).length ≤ LINE) : Ok (binM .add (.ob a) (.ob b) S) Q = Q (.ob S.length) (S ++ [.lst (xs ++ ys)]) := by
  show Ok ((lstOf a >>= fun xs => lstOf b >>= fun ys => newL (xs ++ ys)) S) Q = _
  have e1 : lstOf a S = .ok xs S := by unfold lstOf; rw [ha]
  have e2 : lstOf b S = .ok ys S := by unfold lstOf; rw [hb]
  rw [ok_mbind, e1, ok_ok, ok_mbind, e2, ok_ok, ok_newL, if_pos hl]
theorem ok_repL {n : Nat} {xs : List W} {k : Int} (h : S[n]? = some (.lst xs)) (hk : -(2 ^ 63) ≤ k ∧ k < 2 ^ 63 ∧ xs.length * k.toNat ≤ LINE) : Ok (binM .mul (.ob n) (.int k) S) Q = Q (.ob S.length) (S ++ [.lst (List.replicate k.toNat xs).flatten]) := by
  show Ok ((lstOf n >>= fun xs => repM xs k) S) Q = _
  rw [ok_mbind]
  have e : lstOf n S = .ok xs S := by unfold lstOf; rw [h]
  rw [e, ok_ok]
  unfold repM
  rw [ok_ite, if_pos hk]
  with_unfolding_all rfl
theorem ok_powP {a b : Int} (h : 0 ≤ b ∧ b ≤ 1000000 ∧ a.natAbs < 2 ^ 64) : Ok (binM .pow (.int a) (.int b) S) Q = Q (.int (a ^ b.toNat)) S := by
  show Ok ((if 0 ≤ b ∧ b ≤ 1000000 ∧ a.natAbs < 2 ^ 64 then pure (.int (a ^ b.toNat)) else M.bad : M W) S) Q = _
  rw [ok_ite, if_pos h, ok_pure]
theorem ok_mulP {a b : Int} (h : (small64 a || small64 b) = true) : Ok (binM .mul (.int a) (.int b) S) Q = Q (.int (a * b)) S := by rw [ok_mulI, if_pos h]
theorem ok_modP {a b : Int} (h : 0 < b) : Ok (binM .mod (.int a) (.int b) S) Q = Q (.int (a % b)) S := by rw [ok_modI, if_pos h]
theorem ok_fdivP {a b : Int} (h : 0 < b) (h2 : b < 1073741824) : Ok (binM .fdiv (.int a) (.int b) S) Q = Q (.int (a / b)) S := by rw [ok_fdivI, if_pos ⟨h, h2⟩]
theorem ok_addSP {a b : List Nat} (h : (a ++ b).length ≤ LINE) : Ok (binM .add (.str a) (.str b) S) Q = Q (.str (a ++ b)) S := by rw [ok_addS, if_pos h]
theorem ok_mkTP {xs : List W} (h : xs.length ≤ LINE) : Ok (mkT xs S) Q = Q (.tup xs) S := by rw [ok_mkT, if_pos h]
/-- a list of the store -/
def LstAt (S : Sto) (n : Nat) (xs : List W) : Prop := S[n]? = some (.lst xs) ∨ S[n]? = some (.rol xs)
theorem lstAt_l {n : Nat} {xs : List W} (h : S[n]? = some (.lst xs)) : LstAt S n xs := .inl h
theorem lstAt_lt {n : Nat} {xs : List W} (h : LstAt S n xs) : n < S.length := by
  rcases h with h | h <;> exact (List.getElem?_eq_some_iff.mp h).1
theorem lstAt_app {n : Nat} {xs : List W} (h : LstAt S n xs) (T : Sto) : LstAt (S ++ T) n xs := by
  have hl := lstAt_lt h
  unfold LstAt
  rw [List.getElem?_append_left hl]
  exact h
theorem gd_of {n : Nat} {xs : List W} (h : LstAt S n xs) : gdOk S [(n, xs)] = true := by
  unfold gdOk
  rcases h with h | h <;> rw [h] <;> simp [gdOk]
@[simp] theorem gd_nil : gdOk S [] = true := rfl
@[simp] theorem asg_n (i : Nat) (w : W) (ρ : List W) : asgG S (.n i) w ρ = if i < ρ.length then some (ρ.set i w) else none := by simp only [asgG]
@[simp] theorem asg_t (gs : List G) (ws : List W) (ρ : List W) : asgG S (.t gs) (.tup ws) ρ = asgGs S gs ws ρ := by simp only [asgG]
@[simp] theorem asgs_nil (ρ : List W) : asgGs S [] [] ρ = some ρ := by simp only [asgGs]
@[simp] theorem asgs_cons (g : G) (gs : List G) (w : W) (ws ρ : List W) : asgGs S (g :: gs) (w :: ws) ρ = match asgG S g w ρ with
    | some ρ' => asgGs S gs ws ρ'
    | none => none := by
  simp only [asgGs]
  try (cases asgG S g w ρ <;> rfl)
/-! walks -/
theorem ok_it_ex {n : Nat} {xs : List W} {Q : Wlk → Sto → Prop} (h : LstAt S n xs) : Ok (itM .ex [.ob n] S) Q = Q ⟨xs, [(n, xs)]⟩ S := by
  show Ok ((seqI (.ob n) >>= fun p => (pure ⟨p.1, p.2⟩ : M Wlk)) S) Q = _
  rw [ok_mbind]
  show Ok ((itemsOf n >>= fun xs => (pure (xs, [(n, xs)]) : M _)) S) _ = _
  rw [ok_mbind, ok_items h]
  with_unfolding_all rfl
@[simp] theorem ok_it_exT (xs : List W) (Q : Wlk → Sto → Prop) : Ok (itM .ex [.tup xs] S) Q = Q ⟨xs, []⟩ S := by with_unfolding_all rfl
@[simp] theorem ok_it_exS (x : List Nat) (Q : Wlk → Sto → Prop) : Ok (itM .ex [.str x] S) Q = Q ⟨x.map fun c => .str [c], []⟩ S := by with_unfolding_all rfl
theorem ok_it_rng (j : Int) (Q : Wlk → Sto → Prop) : Ok (itM .rng [.int j] S) Q = if R62 j = true then Q ⟨rngL 0 j.toNat 1, []⟩ S else False := by
  show Ok ((if R62 j = true then pure ⟨rngL 0 j.toNat 1, []⟩ else M.bad : M Wlk) S) Q = _
  rw [ok_ite]; with_unfolding_all rfl
theorem ok_it_rng2 (i j : Int) (Q : Wlk → Sto → Prop) : Ok (itM .rng [.int i, .int j] S) Q = if (R62 i && R62 j) = true then Q ⟨rngL i (j - i).toNat 1, []⟩ S else False := by
  show Ok ((if (R62 i && R62 j) = true then pure ⟨rngL i (j - i).toNat 1, []⟩ else M.bad : M Wlk) S) Q = _
  rw [ok_ite]; with_unfolding_all rfl
theorem rng_get {lo : Int} {n j : Nat} {x : W} (h : (rngL lo n 1)[j]? = some x) : x = .int (lo + j) ∧ j < n := by
  unfold rngL at h
  rw [List.getElem?_map, Option.map_eq_some_iff] at h
  obtain ⟨k, hk, rfl⟩ := h
  obtain ⟨hl, e⟩ := List.getElem?_eq_some_iff.mp hk
  rw [List.length_range] at hl
  rw [List.getElem_range] at e
  subst e
  exact ⟨by rw [Int.one_mul], hl⟩
theorem rng_len {lo : Int} {n : Nat} : (rngL lo n 1).length = n := by simp [rngL]
/-! comprehensions -/
@[simp] theorem ok_noEx (m : M α) (s : Sto) (Q : α → Sto → Prop) : Ok (noEx m s) Q = Ok (m s) Q := by
  unfold noEx
  cases m s <;> with_unfolding_all rfl
theorem lc_ok {tg : G} {test el : List W → M W} {gd : List (Nat × List W)} {ρ : List W} {d : Nat} {Q : Unit → Sto → Prop} (I : Nat → List W → Sto → Prop) : ∀ {items : List W} {i : Nat} {acc : List W} {S : Sto}, I i acc S →
    (∀ i acc S, I i acc S → gdOk S gd = true) →
    (∀ (j : Nat) (x : W) (acc : List W) (S : Sto), items[j]? = some x → I (i + j) acc S → ∃ ρ', asgG S tg x ρ = some ρ' ∧ Ok (test ρ' S) fun t s => Ok (truM t s) fun b s => if b = true then Ok (el ρ' s) fun w s2 => ∃ acc2, s2[d]? = some (.lst acc2) ∧ acc2.length < LINE ∧ I (i + j + 1) (acc2 ++ [w]) (s2.set d (.lst (acc2 ++ [w]))) else I (i + j + 1) acc s) →
    (∀ acc S, I (i + items.length) acc S → Q () S) → Ok (lcGo tg test el gd ρ d items S) Q
  | [], i, acc, S, h, g, _, e => by
    simp only [lcGo, g i acc S h, if_true, ok_ok]
    exact e acc S h
  | x :: xs, i, acc, S, h, g, st, e => by
    obtain ⟨ρ', hρ, hb⟩ := st 0 x acc S rfl h
    simp only [lcGo, g i acc S h, if_true, hρ, ok_bind, ok_noEx, ok_mbind]
    refine hb.mono fun t s q => q.mono fun b s q => ?_
    have next : ∀ acc s, I (i + 1) acc s → Ok (lcGo tg test el gd ρ d xs s) Q := fun acc s q => by
      refine lc_ok I (i := i + 1) q g (fun j y acc S hy hI => ?_) (fun acc S hI => e acc S (by rw [List.length_cons]; rwa [show i + (xs.length + 1) = i + 1 + xs.length by omega]))
      have := st (j + 1) y acc S hy (by rwa [show i + (j + 1) = i + 1 + j by omega])
      rwa [show i + (j + 1) + 1 = i + 1 + j + 1 by omega] at this
    cases b with
    | false =>
      simp only [Bool.false_eq_true, if_false] at q ⊢
      exact next acc s q
    | true =>
      simp only [if_true, ok_bind, ok_noEx] at q ⊢
      refine q.mono fun w s2 ⟨acc2, h1, h2, h3⟩ => ?_
      simp only [h1, h2, if_true]
      exact next _ _ h3
/-- a comprehension over pure elements: the new list at d, all else as it was -/
theorem lc_map {tg : G} {el : List W → M W} {gd : List (Nat × List W)} {ρ : List W} {items : List W} {S : Sto} {Q : Unit → Sto → Prop} (f : W → W) (hg : ∀ xs, gdOk (S ++ [.lst xs]) gd = true) (hl : items.length ≤ LINE)
    (st : ∀ x ∈ items, ∀ S' : Sto, ∃ ρ', asgG S' tg x ρ = some ρ' ∧ ∀ Q : W → Sto → Prop, Q (f x) S' → Ok (el ρ' S') Q) (e : Q () (S ++ [.lst (items.map f)])) : Ok (lcGo tg (evAll D []) el gd ρ S.length items (S ++ [.lst []])) Q := by
  refine lc_ok (fun i acc s => acc = (items.take i).map f ∧ s = S ++ [.lst acc] ∧ i ≤ items.length) (i := 0) (acc := []) ⟨rfl, rfl, Nat.zero_le _⟩ (fun i acc s ⟨_, h, _⟩ => by rw [h]; exact hg acc) (fun j x acc s hx ⟨h1, h2, h3⟩ => ?_) (fun acc s ⟨h1, h2, h3⟩ => ?_)
  · obtain ⟨ρ', hρ, hs⟩ := st x (List.mem_of_getElem? hx) s
    have hj := (List.getElem?_eq_some_iff.mp hx).1
    refine ⟨ρ', hρ, ?_⟩
    simp only [evAll, ok_pure, ok_truB, if_true]
    refine hs _ ⟨acc, ?_, ?_, ?_, ?_, ?_⟩
    · rw [h2]; simp
    · rw [h1, List.length_map, List.length_take]; omega
    · rw [Nat.zero_add] at h1 ⊢
      rw [h1, List.take_succ, hx]
      simp
    · rw [h2]; simp
    · omega
  · rw [Nat.zero_add, List.take_length] at h1
    rw [h2, h1]; exact e
/-! texts and lists -/
theorem ok_kdS (m : Nm) (x : List Nat) (Q : Kd → Sto → Prop) : Ok (kdM m (.str x) S) Q = if m ∈ strNames then Q (.s x) S else False := by
  show Ok ((if m ∈ strNames then R.ok (Kd.s x) S else R.bad)) Q = _
  split <;> with_unfolding_all rfl
theorem ok_kdP {m : Nm} (h : m ∈ strNames) (x : List Nat) (Q : Kd → Sto → Prop) : Ok (kdM m (.str x) S) Q = Q (.s x) S := by rw [ok_kdS, if_pos h]
@[simp] theorem kd_find (x : List Nat) (Q : Kd → Sto → Prop) : Ok (kdM n_find (.str x) S) Q = Q (.s x) S := ok_kdP (by decide) _ _
@[simp] theorem kd_islower (x : List Nat) (Q : Kd → Sto → Prop) : Ok (kdM n_islower (.str x) S) Q = Q (.s x) S := ok_kdP (by decide) _ _
@[simp] theorem kd_upper (x : List Nat) (Q : Kd → Sto → Prop) : Ok (kdM n_upper (.str x) S) Q = Q (.s x) S := ok_kdP (by decide) _ _
@[simp] theorem kd_lower (x : List Nat) (Q : Kd → Sto → Prop) : Ok (kdM n_lower (.str x) S) Q = Q (.s x) S := ok_kdP (by decide) _ _
@[simp] theorem kd_join (x : List Nat) (Q : Kd → Sto → Prop) : Ok (kdM n_join (.str x) S) Q = Q (.s x) S := ok_kdP (by decide) _ _
theorem ok_kdL {m : Nm} {n : Nat} {xs : List W} {Q : Kd → Sto → Prop} (h : S[n]? = some (.lst xs)) : Ok (kdM m (.ob n) S) Q = if m ∈ lstNames then Q (.l n) S else False := by
  unfold kdM
  simp only [h]
  split <;> with_unfolding_all rfl
theorem ok_sliO {n : Nat} {xs : List W} {l u : Option Int} (h : LstAt S n xs) : Ok (sliM (.ob n) l u S) Q = Q (.ob S.length) (S ++ [.lst (cutL xs l u)]) := by
  show Ok ((itemsOf n >>= fun xs => newO (.lst (cutL xs l u))) S) Q = _
  rw [ok_mbind, ok_items h]
  with_unfolding_all rfl
theorem kd_append {n : Nat} {xs : List W} {Q : Kd → Sto → Prop} (h : S[n]? = some (.lst xs)) : Ok (kdM n_append (.ob n) S) Q = Q (.l n) S := by rw [ok_kdL h, if_pos (by decide)]
theorem kd_pop {n : Nat} {xs : List W} {Q : Kd → Sto → Prop} (h : S[n]? = some (.lst xs)) : Ok (kdM n_pop (.ob n) S) Q = Q (.l n) S := by rw [ok_kdL h, if_pos (by decide)]
@[simp] theorem ok_find (x y : List Nat) : Ok (bmM n_find (.s x) [.str y] S) Q = Q (.int (Txt.find (toS x) (toS y))) S := by with_unfolding_all rfl
@[simp] theorem ok_islower (x : List Nat) : Ok (bmM n_islower (.s x) [] S) Q = Q (.bl (Txt.islower (toS x))) S := by with_unfolding_all rfl
theorem ok_upper (x : List Nat) : Ok (bmM n_upper (.s x) [] S) Q = if (x.all (· < 128) && decide (x.length ≤ 5592405)) = true then Q (.str (x.map up1)) S else False := by
  show Ok ((if (x.all (· < 128) && decide (x.length ≤ 5592405)) = true then pure (.str (x.map up1)) else M.bad : M W) S) Q = _
  rw [ok_ite]; with_unfolding_all rfl
theorem ok_lower (x : List Nat) : Ok (bmM n_lower (.s x) [] S) Q = if (x.all (· < 128) && decide (x.length ≤ 5592405)) = true then Q (.str (x.map lo1)) S else False := by
  show Ok ((if (x.all (· < 128) && decide (x.length ≤ 5592405)) = true then pure (.str (x.map lo1)) else M.bad : M W) S) Q = _
  rw [ok_ite]; with_unfolding_all rfl
theorem ok_append {n : Nat} {xs : List W} {w : W} (h : S[n]? = some (.lst xs)) : Ok (bmM n_append (.l n) [w] S) Q = if xs.length < LINE then Q .non (S.set n (.lst (xs ++ [w]))) else False := by
  show Ok (lstAt n_append n [w] S) Q = _
  unfold lstAt
  rw [h]
  show Ok ((if xs.length < LINE then (do putO n (.lst (xs ++ [w])); pure .non) else M.bad : M W) S) Q = _
  rw [ok_ite]; with_unfolding_all rfl
@[simp] theorem ok_lenS (x : List Nat) : Ok (biM n_len [.str x] S) Q = Q (.int x.length) S := by with_unfolding_all rfl
@[simp] theorem ok_lenT (x : List W) : Ok (biM n_len [.tup x] S) Q = Q (.int x.length) S := by with_unfolding_all rfl
theorem ok_lenO {n : Nat} {xs : List W} (h : LstAt S n xs) : Ok (biM n_len [.ob n] S) Q = Q (.int xs.length) S := by
  show Ok ((itemsOf n >>= fun xs => (pure (.int xs.length) : M W)) S) Q = _
  rw [ok_mbind, ok_items h]; with_unfolding_all rfl
@[simp] theorem ok_abs (i : Int) : Ok (biM n_abs [.int i] S) Q = Q (.int (if i < 0 then -i else i)) S := by with_unfolding_all rfl
@[simp] theorem ok_intI (i : Int) : Ok (biM n_int [.int i] S) Q = Q (.int i) S := by with_unfolding_all rfl
@[simp] theorem ok_intB (b : Bool) : Ok (biM n_int [.bl b] S) Q = Q (.int (if b then 1 else 0)) S := by with_unfolding_all rfl
@[simp] theorem ok_tupT (xs : List W) : Ok (biM n_tuple [.tup xs] S) Q = Q (.tup xs) S := by with_unfolding_all rfl
theorem ok_tupO {n : Nat} {xs : List W} (h : LstAt S n xs) : Ok (biM n_tuple [.ob n] S) Q = Q (.tup xs) S := by
  show Ok ((itemsOf n >>= fun xs => (pure (.tup xs) : M W)) S) Q = _
  rw [ok_mbind, ok_items h]; with_unfolding_all rfl
theorem ok_lstO {n : Nat} {xs : List W} (h : LstAt S n xs) : Ok (biM n_list [.ob n] S) Q = Q (.ob S.length) (S ++ [.lst xs]) := by
  show Ok ((itemsOf n >>= fun xs => newO (.lst xs)) S) Q = _
  rw [ok_mbind, ok_items h]; with_unfolding_all rfl
@[simp] theorem ok_lstT (xs : List W) : Ok (biM n_list [.tup xs] S) Q = Q (.ob S.length) (S ++ [.lst xs]) := by with_unfolding_all rfl
theorem ok_repr (w : W) {d : PyData} (h : rd S DEEP w = some d) (h1 : d.showable = true) (h2 : dw d ≤ LINE) (h3 : d.canLay0 = true) : Ok (biM n_repr [w] S) Q = Q (.str d.shown.cps.toList) S := by
  have hc : (d.showable && decide (dw d ≤ LINE) && d.canLay0) = true := by rw [h1, h3, decide_eq_true h2]; rfl
  have e : reprM w S = (if (d.showable && decide (dw d ≤ LINE) && d.canLay0) = true then R.ok (W.str d.shown.cps.toList) S else R.bad) := by
    unfold reprM
    rw [h]
    cases d with
    | dict kvs => simp [PyData.canLay0] at h3
    | _ => rfl
  show Ok (reprM w S) Q = _
  rw [e, if_pos hc]
  exact ok_ok _ _ _
theorem ok_reprD {w : W} (h : rd S DEEP w = some (.dict [])) : Ok (biM n_repr [w] S) Q = Q (.str [123, 125]) S := by
  have e : reprM w S = R.ok (W.str [123, 125]) S := by
    unfold reprM
    rw [h]
  show Ok (reprM w S) Q = _
  rw [e]
  exact ok_ok _ _ _
@[simp] theorem ok_ixS (x : List Nat) (i : Int) : Ok (ixM (.str x) (.int i) S) Q = Ok (optM ((atI x i).map fun c => W.str [c]) S) Q := by with_unfolding_all rfl
@[simp] theorem ok_ixT (x : List W) (i : Int) : Ok (ixM (.tup x) (.int i) S) Q = Ok (optM (atI x i) S) Q := by with_unfolding_all rfl
@[simp] theorem ok_inS (a b : List Nat) : Ok (cmpM .inn (.str a) (.str b) S) Q = Q (.bl (inStr a b)) S := by with_unfolding_all rfl
@[simp] theorem ok_ninS (a b : List Nat) : Ok (cmpM .nin (.str a) (.str b) S) Q = Q (.bl (!inStr a b)) S := by with_unfolding_all rfl
/-- equality of what is read -/
theorem ok_eqD {x y : W} {d e : PyData} (hx : rd S DEEP x = some d) (hy : rd S DEEP y = some e) (h1 : d.canLay0 = true) (h2 : e.canLay0 = true) (hn : (∃ n, x = .ob n) ∨ ∃ xs, x = .tup xs) : Ok (cmpM .eq x y S) Q = Q (.bl (PyData.eqv d e)) S := by
  have he : eqW S x y = some (PyData.eqv d e) := by
    have last : (match rd S DEEP x, rd S DEEP y with
      | some d, some e => if d.canLay0 && e.canLay0 then some (PyData.eqv d e) else none
      | _, _ => none) = some (PyData.eqv d e) := by rw [hx, hy]; simp [h1, h2]
    rcases hn with ⟨n, rfl⟩ | ⟨xs, rfl⟩ <;> cases y <;> exact last
  rw [ok_cmpM]
  show (match eqW S x y with | some b => Q (.bl b) S | none => False) = _
  rw [he]
theorem eqv_self {d : PyData} (h : d.canLay0 = true) : PyData.eqv d d = true := PySem.SeqAt.eqv_refl d h
theorem bools_map (bs : List Bool) : bools (bs.map W.bl) = some bs := by
  induction bs with
  | nil => rfl
  | cons b r ih => simp only [List.map_cons, bools, ih]
theorem ok_all {n : Nat} {bs : List Bool} (h : LstAt S n (bs.map W.bl)) : Ok (biM n_all [.ob n] S) Q = Q (.bl (bs.all id)) S := by
  show Ok ((itemsOf n >>= fun xs => optM (bools xs) >>= fun bs => (pure (.bl (bs.all id)) : M W)) S) Q = _
  rw [ok_mbind, ok_items h, ok_mbind, bools_map, ok_opt, ok_pure]
theorem ok_any {n : Nat} {bs : List Bool} (h : LstAt S n (bs.map W.bl)) : Ok (biM n_any [.ob n] S) Q = Q (.bl (bs.any id)) S := by
  show Ok ((itemsOf n >>= fun xs => optM (bools xs) >>= fun bs => (pure (.bl (bs.any id)) : M W)) S) Q = _
  rw [ok_mbind, ok_items h, ok_mbind, bools_map, ok_opt, ok_pure]
theorem any_false (bs : List Bool) : ((bs.map W.bl).any fun y => eqF y (.bl false)) = !(bs.all id) := by
  induction bs with
  | nil => rfl
  | cons b r ih =>
    rw [List.map_cons, List.any_cons, ih, List.all_cons]
    cases b <;> rfl
/-- False not in a list of truths -/
theorem ok_ninF {n : Nat} {bs : List Bool} (h : LstAt S n (bs.map W.bl)) : Ok (cmpM .nin (.bl false) (.ob n) S) Q = Q (.bl (bs.all id)) S := by
  have hf : (bs.map W.bl).all flatW = true := by
    rw [List.all_map]
    exact List.all_eq_true.mpr fun b _ => rfl
  have ha : ((bs.map W.bl).any fun y => eqF y (.bl false)) = !(bs.all id) := by
    exact any_false bs
  have e : inW S (.bl false) (.ob n) = some (!(bs.all id)) := by
    have hi : inItems S (.bl false) (bs.map W.bl) = some (!(bs.all id)) := by
      unfold inItems
      rw [hf, ha]; rfl
    rcases h with h | h <;> simp only [inW, h, hi]
  rw [ok_cmpM]
  show (match (inW S (.bl false) (.ob n)).map (!·) with | some b => Q (.bl b) S | none => False) = _
  rw [e]
  simp
/-! isinstance -/
theorem ok_isiM {x : W} {c : Nm} {t u : Ty} (h : tyW S x = some t) (hc : tyN c = some u) : Ok (isiM x [c] S) Q = Q (.bl (isTy t u)) S := by
  show Ok (match tyW S x, tyN c with
    | some t, some c => R.ok (W.bl (isTy t c)) S
    | _, _ => R.bad) Q = _
  rw [h, hc]
  exact ok_ok _ _ _
@[simp] theorem isi_str (x : List Nat) : Ok (isiM (.str x) [n_str] S) Q = Q (.bl true) S := ok_isiM (t := .str) (u := .str) rfl (by decide)
@[simp] theorem isi_int (x : Int) : Ok (isiM (.int x) [n_str] S) Q = Q (.bl false) S := ok_isiM (t := .int) (u := .str) rfl (by decide)
@[simp] theorem isi_bl (x : Bool) : Ok (isiM (.bl x) [n_str] S) Q = Q (.bl false) S := ok_isiM (t := .bool) (u := .str) rfl (by decide)
@[simp] theorem isi_non : Ok (isiM .non [n_str] S) Q = Q (.bl false) S := ok_isiM (t := .non) (u := .str) rfl (by decide)
@[simp] theorem isi_tup (x : List W) : Ok (isiM (.tup x) [n_str] S) Q = Q (.bl false) S := ok_isiM (t := .tuple) (u := .str) rfl (by decide)
theorem isi_ob {n : Nat} {t : Ty} (h : tyW S (.ob n) = some t) (ht : t ≠ .str) : Ok (isiM (.ob n) [n_str] S) Q = Q (.bl false) S := by
  rw [ok_isiM (u := .str) h (by decide)]
  cases t <;> first | rfl | exact absurd rfl ht
@[simp] theorem ok_min (i j : Int) : Ok (biM n_min [.int i, .int j] S) Q = Q (.int (if j < i then j else i)) S := by with_unfolding_all rfl
@[simp] theorem ok_max (i j : Int) : Ok (biM n_max [.int i, .int j] S) Q = Q (.int (if j > i then j else i)) S := by with_unfolding_all rfl
@[simp] theorem kd_index (x : List Nat) (Q : Kd → Sto → Prop) : Ok (kdM n_index (.str x) S) Q = Q (.s x) S := ok_kdP (by decide) _ _
theorem ok_index {x y : List Nat} {i : Nat} {rest : List Nat} (h : Builtin.Str.occurrences (toS x) (toS y) 0 (toS x).length 1 = i :: rest) : Ok (bmM n_index (.s x) [.str y] S) Q = Q (.int (i : Nat)) S := by
  show Ok ((match Builtin.Str.occurrences (toS x) (toS y) 0 (toS x).length 1 with
    | i :: _ => (pure (.int (i : Nat)) : M W)
    | [] => M.bad) S) Q = _
  rw [h]
  exact ok_pure _ _ _
theorem ok_pop {n : Nat} {xs : List W} {w : W} (h : S[n]? = some (.lst (xs ++ [w]))) : Ok (bmM n_pop (.l n) [] S) Q = Q w (S.set n (.lst xs)) := by
  show Ok (lstAt n_pop n [] S) Q = _
  unfold lstAt
  rw [h]
  have e : (xs ++ [w])[(xs ++ [w]).length - 1]? = some w := by simp
  have hp : popM n (xs ++ [w]) [] = (do
      putO n (.lst xs)
      pure w) := by
    show (match (xs ++ [w])[(xs ++ [w]).length - 1]? with
      | some w' => (do
        putO n (.lst (xs ++ [w]).dropLast)
        pure w' : M W)
      | none => M.bad) = _
    rw [e, List.dropLast_concat]
  show Ok (popM n (xs ++ [w]) [] S) Q = _
  rw [hp, ok_mbind]
  with_unfolding_all rfl
theorem ok_joinT {n : Nat} {x : List Nat} {xs : List W} {ss : List (List Nat)} (h : LstAt S n xs) (hs : strsW xs = some ss) (hl : (ss.map (·.length)).sum + ss.length * x.length ≤ LINE) : Ok (bmM n_join (.s x) [.ob n] S) Q = Q (.str (joinW x ss)) S := by
  show Ok (joinM x [.ob n] S) Q = _
  unfold joinM seqM
  rw [ok_mbind, ok_items h, ok_mbind, hs, ok_opt, ok_ite, if_pos hl, ok_pure]
/-! places -/
theorem ix4_0 : ixN 4 0 = some 0 := rfl
theorem ix4_1 : ixN 4 1 = some 1 := rfl
theorem ix4_2 : ixN 4 2 = some 2 := rfl
theorem ix4_3 : ixN 4 3 = some 3 := rfl
@[simp] theorem len4 {a b c d : W} : [a, b, c, d].length = 4 := rfl
theorem atI_n {α : Type} {xs : List α} {i : Nat} {x : α} (h : xs[i]? = some x) : atI xs (i : Int) = some x := by
  have hl := (List.getElem?_eq_some_iff.mp h).1
  unfold atI
  rw [show ixN xs.length (i : Int) = some i from by unfold ixN; simp; omega]
  exact h
theorem ixN_nat {n i : Nat} (h : i < n) : ixN n (i : Int) = some i := by unfold ixN; simp; omega
end
end At

set_option linter.all false
set_option maxRecDepth 100000
/-! AtNm: names, constants and defs that several laws have alike (printed by genshared.py). -/
namespace At
def nm_SIGNS : Nm := [83, 73, 71, 78, 83]
def nm_rank : Nm := [114, 97, 110, 107]
def nm_PLAIN : Nm := [80, 76, 65, 73, 78]
def nm_holds : Nm := [104, 111, 108, 100, 115]
def nm_come_to : Nm := [99, 111, 109, 101, 95, 116, 111]
def nm_plain_code : Nm := [112, 108, 97, 105, 110, 95, 99, 111, 100, 101]
def nm_at_first : Nm := [97, 116, 95, 102, 105, 114, 115, 116]
def nm_stood : Nm := [115, 116, 111, 111, 100]
def nm__law_order : Nm := [95, 108, 97, 119, 95, 111, 114, 100, 101, 114]
def nm__law_take : Nm := [95, 108, 97, 119, 95, 116, 97, 107, 101]
def nm__law_rank : Nm := [95, 108, 97, 119, 95, 114, 97, 110, 107]
def nm__law_pair : Nm := [95, 108, 97, 119, 95, 112, 97, 105, 114]
def nm__law_idle : Nm := [95, 108, 97, 119, 95, 105, 100, 108, 101]
def nm__law_size : Nm := [95, 108, 97, 119, 95, 115, 105, 122, 101]
def nm__law_tree : Nm := [95, 108, 97, 119, 95, 116, 114, 101, 101]
def nm__law_leaf : Nm := [95, 108, 97, 119, 95, 108, 101, 97, 102]
def nm__law_many : Nm := [95, 108, 97, 119, 95, 109, 97, 110, 121]
def nm__law_group : Nm := [95, 108, 97, 119, 95, 103, 114, 111, 117, 112]
def nm__law_odd_tree : Nm := [95, 108, 97, 119, 95, 111, 100, 100, 95, 116, 114, 101, 101]
def nm__law_twin : Nm := [95, 108, 97, 119, 95, 116, 119, 105, 110]
def nm__law_sample : Nm := [95, 108, 97, 119, 95, 115, 97, 109, 112, 108, 101]
def nm_begin : Nm := [98, 101, 103, 105, 110]
def nm_end : Nm := [101, 110, 100]
def nm_spans : Nm := [115, 112, 97, 110, 115]
def nm_choices : Nm := [99, 104, 111, 105, 99, 101, 115]
def nm__law_parts : Nm := [95, 108, 97, 119, 95, 112, 97, 114, 116, 115]
def nm__law_bag : Nm := [95, 108, 97, 119, 95, 98, 97, 103]
def nm__law_world : Nm := [95, 108, 97, 119, 95, 119, 111, 114, 108, 100]
def nm_need_plain : Nm := [110, 101, 101, 100, 95, 112, 108, 97, 105, 110]
def nm_moved_on : Nm := [109, 111, 118, 101, 100, 95, 111, 110]
def nm_stand_behind : Nm := [115, 116, 97, 110, 100, 95, 98, 101, 104, 105, 110, 100]
def nm__law_signs : Nm := [95, 108, 97, 119, 95, 115, 105, 103, 110, 115]
def nm__law_names : Nm := [95, 108, 97, 119, 95, 110, 97, 109, 101, 115]
def nm__law_text : Nm := [95, 108, 97, 119, 95, 116, 101, 120, 116]
def nm__law_made : Nm := [95, 108, 97, 119, 95, 109, 97, 100, 101]
def nm_law : Nm := [108, 97, 119]
def nm__law_held : Nm := [95, 108, 97, 119, 95, 104, 101, 108, 100]
def nm__law_edge : Nm := [95, 108, 97, 119, 95, 101, 100, 103, 101]
def nm__law_far : Nm := [95, 108, 97, 119, 95, 102, 97, 114]
def nm__law_at_word : Nm := [95, 108, 97, 119, 95, 97, 116, 95, 119, 111, 114, 100]
def nm__law_gone : Nm := [95, 108, 97, 119, 95, 103, 111, 110, 101]
def nm__law_walker_first : Nm := [95, 108, 97, 119, 95, 119, 97, 108, 107, 101, 114, 95, 102, 105, 114, 115, 116]
def nm_LONGEST_NAME : Nm := [76, 79, 78, 71, 69, 83, 84, 95, 78, 65, 77, 69]
def nm_SMALL : Nm := [83, 77, 65, 76, 76]
def nm_sign_text : Nm := [115, 105, 103, 110, 95, 116, 101, 120, 116]
def nm_BARRED : Nm := [66, 65, 82, 82, 69, 68]
def nm_option_text : Nm := [111, 112, 116, 105, 111, 110, 95, 116, 101, 120, 116]
def nm_item_text : Nm := [105, 116, 101, 109, 95, 116, 101, 120, 116]
def nm_atom_text : Nm := [97, 116, 111, 109, 95, 116, 101, 120, 116]
def nm_times_text : Nm := [116, 105, 109, 101, 115, 95, 116, 101, 120, 116]
def nm_choice_text : Nm := [99, 104, 111, 105, 99, 101, 95, 116, 101, 120, 116]
def nm_sign_of : Nm := [115, 105, 103, 110, 95, 111, 102]
def nm_rows_of : Nm := [114, 111, 119, 115, 95, 111, 102]
def nm_held_by : Nm := [104, 101, 108, 100, 95, 98, 121]
def nm_PART_AT : Nm := [80, 65, 82, 84, 95, 65, 84]
def nm_parts_of : Nm := [112, 97, 114, 116, 115, 95, 111, 102]
def nm_group_names : Nm := [103, 114, 111, 117, 112, 95, 110, 97, 109, 101, 115]
def nm_idle : Nm := [105, 100, 108, 101]
def nm_is_sign : Nm := [105, 115, 95, 115, 105, 103, 110]
def nm_MOST_PAIRS_faults : Nm := [77, 79, 83, 84, 95, 80, 65, 73, 82, 83, 95, 102, 97, 117, 108, 116, 115]
def nm_is_pair : Nm := [105, 115, 95, 112, 97, 105, 114]
def nm_is_number : Nm := [105, 115, 95, 110, 117, 109, 98, 101, 114]
def nm_MOST_ROUNDS_faults : Nm := [77, 79, 83, 84, 95, 82, 79, 85, 78, 68, 83, 95, 102, 97, 117, 108, 116, 115]
def nm_MOODS_faults : Nm := [77, 79, 79, 68, 83, 95, 102, 97, 117, 108, 116, 115]
def nm_is_one_of : Nm := [105, 115, 95, 111, 110, 101, 95, 111, 102]
def nm_FLAGS_faults : Nm := [70, 76, 65, 71, 83, 95, 102, 97, 117, 108, 116, 115]
def nm_SIZES : Nm := [83, 73, 90, 69, 83]
def nm_MOST_PARTS_faults : Nm := [77, 79, 83, 84, 95, 80, 65, 82, 84, 83, 95, 102, 97, 117, 108, 116, 115]
def nm_DEEPEST : Nm := [68, 69, 69, 80, 69, 83, 84]
def nm_is_formed : Nm := [105, 115, 95, 102, 111, 114, 109, 101, 100]
def nm_fault_of_form : Nm := [102, 97, 117, 108, 116, 95, 111, 102, 95, 102, 111, 114, 109]
def nm_MOST_GROUPS : Nm := [77, 79, 83, 84, 95, 71, 82, 79, 85, 80, 83]
def nm_fault_here : Nm := [102, 97, 117, 108, 116, 95, 104, 101, 114, 101]
def nm_fault_of_meaning : Nm := [102, 97, 117, 108, 116, 95, 111, 102, 95, 109, 101, 97, 110, 105, 110, 103]
def nm_rows_laid : Nm := [114, 111, 119, 115, 95, 108, 97, 105, 100]
def nm_MOST_ROWS : Nm := [77, 79, 83, 84, 95, 82, 79, 87, 83]
def nm_MOST_PARTS_plainer : Nm := [77, 79, 83, 84, 95, 80, 65, 82, 84, 83, 95, 112, 108, 97, 105, 110, 101, 114]
def nm_simpler : Nm := [115, 105, 109, 112, 108, 101, 114]
def nm_put_together : Nm := [112, 117, 116, 95, 116, 111, 103, 101, 116, 104, 101, 114]
def nm_laid_flat : Nm := [108, 97, 105, 100, 95, 102, 108, 97, 116]
def nm_joined_signs : Nm := [106, 111, 105, 110, 101, 100, 95, 115, 105, 103, 110, 115]
def nm_without_doubles : Nm := [119, 105, 116, 104, 111, 117, 116, 95, 100, 111, 117, 98, 108, 101, 115]
def nm_ONE_ROUTE : Nm := [79, 78, 69, 95, 82, 79, 85, 84, 69]
def nm_fault : Nm := [102, 97, 117, 108, 116]
def nm_read_pattern : Nm := [114, 101, 97, 100, 95, 112, 97, 116, 116, 101, 114, 110]
def nm_plainer : Nm := [112, 108, 97, 105, 110, 101, 114]
def nm_is_name : Nm := [105, 115, 95, 110, 97, 109, 101]
def nm_set_text : Nm := [115, 101, 116, 95, 116, 101, 120, 116]
def nm_flags_text : Nm := [102, 108, 97, 103, 115, 95, 116, 101, 120, 116]
def nm_show_pattern : Nm := [115, 104, 111, 119, 95, 112, 97, 116, 116, 101, 114, 110]
def nm_settled : Nm := [115, 101, 116, 116, 108, 101, 100]
def nm_is_set : Nm := [105, 115, 95, 115, 101, 116]
def nm_is_many : Nm := [105, 115, 95, 109, 97, 110, 121]
def nm_are_flags : Nm := [97, 114, 101, 95, 102, 108, 97, 103, 115]
def nm_is_many_parts : Nm := [105, 115, 95, 109, 97, 110, 121, 95, 112, 97, 114, 116, 115]
def nm_pairs_of : Nm := [112, 97, 105, 114, 115, 95, 111, 102]
def nm__law_right : Nm := [95, 108, 97, 119, 95, 114, 105, 103, 104, 116]
def nm_routes_from : Nm := [114, 111, 117, 116, 101, 115, 95, 102, 114, 111, 109]
def nm_first_held : Nm := [102, 105, 114, 115, 116, 95, 104, 101, 108, 100]
def nm_moves : Nm := [109, 111, 118, 101, 115]
def nm_wild_of : Nm := [119, 105, 108, 100, 95, 111, 102]
def nm_judged : Nm := [106, 117, 100, 103, 101, 100]
def nm__law_toil : Nm := [95, 108, 97, 119, 95, 116, 111, 105, 108]
def nm_MOST_ROUNDS : Nm := [77, 79, 83, 84, 95, 82, 79, 85, 78, 68, 83]
def nm_MOODS : Nm := [77, 79, 79, 68, 83]
def nm_FLAGS : Nm := [70, 76, 65, 71, 83]
def nm_marks : Nm := [109, 97, 114, 107, 115]
def nm_takes_whole : Nm := [116, 97, 107, 101, 115, 95, 119, 104, 111, 108, 101]
def nm_compared : Nm := [99, 111, 109, 112, 97, 114, 101, 100]
def nm__law_said : Nm := [95, 108, 97, 119, 95, 115, 97, 105, 100]
def nm__law_alike : Nm := [95, 108, 97, 119, 95, 97, 108, 105, 107, 101]
def nm__law_parted : Nm := [95, 108, 97, 119, 95, 112, 97, 114, 116, 101, 100]
def nm_FIGURES : Nm := [70, 73, 71, 85, 82, 69, 83]
def nm_need_sign : Nm := [110, 101, 101, 100, 95, 115, 105, 103, 110]
def nm_need_group : Nm := [110, 101, 101, 100, 95, 103, 114, 111, 117, 112]
def nm_need_place : Nm := [110, 101, 101, 100, 95, 112, 108, 97, 99, 101]
def nm_from_behind : Nm := [102, 114, 111, 109, 95, 98, 101, 104, 105, 110, 100]
def nm_finds : Nm := [102, 105, 110, 100, 115]
def nm_spots : Nm := [115, 112, 111, 116, 115]
def nm_pieces : Nm := [112, 105, 101, 99, 101, 115]
def nm_gap_at : Nm := [103, 97, 112, 95, 97, 116]
def nm_with_text : Nm := [119, 105, 116, 104, 95, 116, 101, 120, 116]
def nm_read_template : Nm := [114, 101, 97, 100, 95, 116, 101, 109, 112, 108, 97, 116, 101]
def nm_need_groups : Nm := [110, 101, 101, 100, 95, 103, 114, 111, 117, 112, 115]
def nm_filled : Nm := [102, 105, 108, 108, 101, 100]
def nm_replaced : Nm := [114, 101, 112, 108, 97, 99, 101, 100]
def nm__law_due : Nm := [95, 108, 97, 119, 95, 100, 117, 101]
def nm__law_scanned : Nm := [95, 108, 97, 119, 95, 115, 99, 97, 110, 110, 101, 100]
def nm__law_small : Nm := [95, 108, 97, 119, 95, 115, 109, 97, 108, 108]
def nm__law_found : Nm := [95, 108, 97, 119, 95, 102, 111, 117, 110, 100]
def nm__law_asked : Nm := [95, 108, 97, 119, 95, 97, 115, 107, 101, 100]
def nm__law_run : Nm := [95, 108, 97, 119, 95, 114, 117, 110]
def nm_GREAT : Nm := [71, 82, 69, 65, 84]
def nm_twin : Nm := [116, 119, 105, 110]
def nm__law_truths : Nm := [95, 108, 97, 119, 95, 116, 114, 117, 116, 104, 115]
def nm__law_settled : Nm := [95, 108, 97, 119, 95, 115, 101, 116, 116, 108, 101, 100]
def nm__law_some_rows : Nm := [95, 108, 97, 119, 95, 115, 111, 109, 101, 95, 114, 111, 119, 115]
def nm_turned : Nm := [116, 117, 114, 110, 101, 100]
def nm_with_twins : Nm := [119, 105, 116, 104, 95, 116, 119, 105, 110, 115]
def nm_common : Nm := [99, 111, 109, 109, 111, 110]
def nm_joined : Nm := [106, 111, 105, 110, 101, 100]
def nm__law_numbered : Nm := [95, 108, 97, 119, 95, 110, 117, 109, 98, 101, 114, 101, 100]
def nm__law_ways : Nm := [95, 108, 97, 119, 95, 119, 97, 121, 115]
def nm__law_rounds : Nm := [95, 108, 97, 119, 95, 114, 111, 117, 110, 100, 115]
def nm__law_unlike : Nm := [95, 108, 97, 119, 95, 117, 110, 108, 105, 107, 101]
def nm__law_takes : Nm := [95, 108, 97, 119, 95, 116, 97, 107, 101, 115]
def nm__law_row : Nm := [95, 108, 97, 119, 95, 114, 111, 119]
def nm__law_within : Nm := [95, 108, 97, 119, 95, 119, 105, 116, 104, 105, 110]
def nm__law_sees : Nm := [95, 108, 97, 119, 95, 115, 101, 101, 115]
def nm__law_back : Nm := [95, 108, 97, 119, 95, 98, 97, 99, 107]
def nm__law_all : Nm := [95, 108, 97, 119, 95, 97, 108, 108]
def nm__law_among : Nm := [95, 108, 97, 119, 95, 97, 109, 111, 110, 103]
def nm__law_wide : Nm := [95, 108, 97, 119, 95, 119, 105, 100, 101]
def nm_MOST_PAIRS : Nm := [77, 79, 83, 84, 95, 80, 65, 73, 82, 83]
def nm_MOST_PARTS : Nm := [77, 79, 83, 84, 95, 80, 65, 82, 84, 83]
def nm__law_sign : Nm := [95, 108, 97, 119, 95, 115, 105, 103, 110]
def nm__law_formed : Nm := [95, 108, 97, 119, 95, 102, 111, 114, 109, 101, 100]
def nm__law_form_fault : Nm := [95, 108, 97, 119, 95, 102, 111, 114, 109, 95, 102, 97, 117, 108, 116]
def nm__law_in_order : Nm := [95, 108, 97, 119, 95, 105, 110, 95, 111, 114, 100, 101, 114]
def nm__law_put : Nm := [95, 108, 97, 119, 95, 112, 117, 116]
def nm__law_odd : Nm := [95, 108, 97, 119, 95, 111, 100, 100]
def nm__law_spoilt : Nm := [95, 108, 97, 119, 95, 115, 112, 111, 105, 108, 116]
def nm__law_count : Nm := [95, 108, 97, 119, 95, 99, 111, 117, 110, 116]
def nm__law_name : Nm := [95, 108, 97, 119, 95, 110, 97, 109, 101]
def nm__law_set_formed : Nm := [95, 108, 97, 119, 95, 115, 101, 116, 95, 102, 111, 114, 109, 101, 100]
def nm__law_flags_formed : Nm := [95, 108, 97, 119, 95, 102, 108, 97, 103, 115, 95, 102, 111, 114, 109, 101, 100]
def nm__law_here : Nm := [95, 108, 97, 119, 95, 104, 101, 114, 101]
def nm__law_laid : Nm := [95, 108, 97, 119, 95, 108, 97, 105, 100]
def nm__law_fault : Nm := [95, 108, 97, 119, 95, 102, 97, 117, 108, 116]
def nm__law_chain : Nm := [95, 108, 97, 119, 95, 99, 104, 97, 105, 110]
def nm__law_beside : Nm := [95, 108, 97, 119, 95, 98, 101, 115, 105, 100, 101]
def nm__law_shown_sign : Nm := [95, 108, 97, 119, 95, 115, 104, 111, 119, 110, 95, 115, 105, 103, 110]
def nm__law_show : Nm := [95, 108, 97, 119, 95, 115, 104, 111, 119]
def nm__law_entry : Nm := [95, 108, 97, 119, 95, 101, 110, 116, 114, 121]
def nm__law_atom : Nm := [95, 108, 97, 119, 95, 97, 116, 111, 109]
def nm__law_times : Nm := [95, 108, 97, 119, 95, 116, 105, 109, 101, 115]
def nm__law_item : Nm := [95, 108, 97, 119, 95, 105, 116, 101, 109]
def nm__law_option : Nm := [95, 108, 97, 119, 95, 111, 112, 116, 105, 111, 110]
def nm__law_round : Nm := [95, 108, 97, 119, 95, 114, 111, 117, 110, 100]
def nm__law_long : Nm := [95, 108, 97, 119, 95, 108, 111, 110, 103]
def nm__law_refused : Nm := [95, 108, 97, 119, 95, 114, 101, 102, 117, 115, 101, 100]
def nm__law_times_put : Nm := [95, 108, 97, 119, 95, 116, 105, 109, 101, 115, 95, 112, 117, 116]
def nm__law_put_atom : Nm := [95, 108, 97, 119, 95, 112, 117, 116, 95, 97, 116, 111, 109]
def nm__law_closed : Nm := [95, 108, 97, 119, 95, 99, 108, 111, 115, 101, 100]
def nm__law_go_head : Nm := [95, 108, 97, 119, 95, 103, 111, 95, 104, 101, 97, 100]
def nm__law_frame : Nm := [95, 108, 97, 119, 95, 102, 114, 97, 109, 101]
def nm__law_go : Nm := [95, 108, 97, 119, 95, 103, 111]
def nm__law_word_modes : Nm := [95, 108, 97, 119, 95, 119, 111, 114, 100, 95, 109, 111, 100, 101, 115]
def nm__law_back_mode : Nm := [95, 108, 97, 119, 95, 98, 97, 99, 107, 95, 109, 111, 100, 101]
def nm__law_word : Nm := [95, 108, 97, 119, 95, 119, 111, 114, 100]
def nm__law_counts : Nm := [95, 108, 97, 119, 95, 99, 111, 117, 110, 116, 115]
def nm__law_begun : Nm := [95, 108, 97, 119, 95, 98, 101, 103, 117, 110]
def nm__law_sign_read : Nm := [95, 108, 97, 119, 95, 115, 105, 103, 110, 95, 114, 101, 97, 100]
def nm__law_name_text : Nm := [95, 108, 97, 119, 95, 110, 97, 109, 101, 95, 116, 101, 120, 116]
def nm__law_choice_text : Nm := [95, 108, 97, 119, 95, 99, 104, 111, 105, 99, 101, 95, 116, 101, 120, 116]
def nm__law_entry_text : Nm := [95, 108, 97, 119, 95, 101, 110, 116, 114, 121, 95, 116, 101, 120, 116]
def nm__law_atom_text : Nm := [95, 108, 97, 119, 95, 97, 116, 111, 109, 95, 116, 101, 120, 116]
def nm__law_times_text : Nm := [95, 108, 97, 119, 95, 116, 105, 109, 101, 115, 95, 116, 101, 120, 116]
def nm__law_one : Nm := [95, 108, 97, 119, 95, 111, 110, 101]
def nm__law_set_mode : Nm := [95, 108, 97, 119, 95, 115, 101, 116, 95, 109, 111, 100, 101]
def nm__law_strokes : Nm := [95, 108, 97, 119, 95, 115, 116, 114, 111, 107, 101, 115]
def nm__law_written : Nm := [95, 108, 97, 119, 95, 119, 114, 105, 116, 116, 101, 110]
def nm__law_bad : Nm := [95, 108, 97, 119, 95, 98, 97, 100]
def nm__law_walked : Nm := [95, 108, 97, 119, 95, 119, 97, 108, 107, 101, 100]
def nm__law_entered : Nm := [95, 108, 97, 119, 95, 101, 110, 116, 101, 114, 101, 100]
def nm__law_inner : Nm := [95, 108, 97, 119, 95, 105, 110, 110, 101, 114]
def nm__law_looked : Nm := [95, 108, 97, 119, 95, 108, 111, 111, 107, 101, 100]
def nm__law_counted : Nm := [95, 108, 97, 119, 95, 99, 111, 117, 110, 116, 101, 100]
def nm__law_behind : Nm := [95, 108, 97, 119, 95, 98, 101, 104, 105, 110, 100]
def nm__law_heavy : Nm := [95, 108, 97, 119, 95, 104, 101, 97, 118, 121]
def nm__law_part : Nm := [95, 108, 97, 119, 95, 112, 97, 114, 116]
def nm__law_step : Nm := [95, 108, 97, 119, 95, 115, 116, 101, 112]
def nm__law_told : Nm := [95, 108, 97, 119, 95, 116, 111, 108, 100]
def nm__law_on : Nm := [95, 108, 97, 119, 95, 111, 110]
def nm__law_doubled : Nm := [95, 108, 97, 119, 95, 100, 111, 117, 98, 108, 101, 100]
def nm__law_default_right : Nm := [95, 108, 97, 119, 95, 100, 101, 102, 97, 117, 108, 116, 95, 114, 105, 103, 104, 116]
def nm__law_come : Nm := [95, 108, 97, 119, 95, 99, 111, 109, 101]
def nm__law_with_none : Nm := [95, 108, 97, 119, 95, 119, 105, 116, 104, 95, 110, 111, 110, 101]
def nm__law_signed : Nm := [95, 108, 97, 119, 95, 115, 105, 103, 110, 101, 100]
def nm__law_classes : Nm := [95, 108, 97, 119, 95, 99, 108, 97, 115, 115, 101, 115]
def nm__law_alikes : Nm := [95, 108, 97, 119, 95, 97, 108, 105, 107, 101, 115]
def nm__law_compared : Nm := [95, 108, 97, 119, 95, 99, 111, 109, 112, 97, 114, 101, 100]
def nm__law_otherwise : Nm := [95, 108, 97, 119, 95, 111, 116, 104, 101, 114, 119, 105, 115, 101]
def nm__law_moves : Nm := [95, 108, 97, 119, 95, 109, 111, 118, 101, 115]
def nm__law_spread : Nm := [95, 108, 97, 119, 95, 115, 112, 114, 101, 97, 100]
def nm__law_unlike_two : Nm := [95, 108, 97, 119, 95, 117, 110, 108, 105, 107, 101, 95, 116, 119, 111]
def nm__law_leads : Nm := [95, 108, 97, 119, 95, 108, 101, 97, 100, 115]
def nm_MOST_ROWS_faults : Nm := [77, 79, 83, 84, 95, 82, 79, 87, 83, 95, 102, 97, 117, 108, 116, 115]
def nm__law_bent_part : Nm := [95, 108, 97, 119, 95, 98, 101, 110, 116, 95, 112, 97, 114, 116]
def nm__law_bent : Nm := [95, 108, 97, 119, 95, 98, 101, 110, 116]
def nm__law_apart : Nm := [95, 108, 97, 119, 95, 97, 112, 97, 114, 116]
def nm_engine : Nm := [101, 110, 103, 105, 110, 101]
def nm_THREADS : Nm := [84, 72, 82, 69, 65, 68, 83]
def nm__law_filled : Nm := [95, 108, 97, 119, 95, 102, 105, 108, 108, 101, 100]
def nm__law_place : Nm := [95, 108, 97, 119, 95, 112, 108, 97, 99, 101]
def nm__law_turn_right : Nm := [95, 108, 97, 119, 95, 116, 117, 114, 110, 95, 114, 105, 103, 104, 116]
def nm__law_together : Nm := [95, 108, 97, 119, 95, 116, 111, 103, 101, 116, 104, 101, 114]
def nm__law_let : Nm := [95, 108, 97, 119, 95, 108, 101, 116]
def nm__law_question : Nm := [95, 108, 97, 119, 95, 113, 117, 101, 115, 116, 105, 111, 110]
def nm__law_row_of : Nm := [95, 108, 97, 119, 95, 114, 111, 119, 95, 111, 102]
def nm__law_answer : Nm := [95, 108, 97, 119, 95, 97, 110, 115, 119, 101, 114]
def nm__law_class : Nm := [95, 108, 97, 119, 95, 99, 108, 97, 115, 115]
def gv_SIGNS : List Nat := [10, 32, 33, 34, 35, 36, 38, 39, 40, 41, 42, 43, 44, 45, 46, 47, 48, 49, 50, 51, 52, 53, 54, 55, 56, 57, 58, 59, 60, 61, 62, 63, 64, 65, 66, 67, 68, 69, 70, 71, 72, 73, 74, 75, 76, 77, 78, 79, 80, 81, 82, 83, 84, 85, 86, 87, 88, 89, 90, 91, 92, 93, 94, 95, 96, 97, 98, 99, 100, 101, 102, 103, 104, 105, 106, 107, 108, 109, 110, 111, 112, 113, 114, 115, 116, 117, 118, 119, 120, 121, 122, 123, 124, 125, 126]
def gv_SMALL : List Nat := [97, 98, 99, 100, 101, 102, 103, 104, 105, 106, 107, 108, 109, 110, 111, 112, 113, 114, 115, 116, 117, 118, 119, 120, 121, 122]
def gv_BARRED : List Nat := [93, 92, 94, 45]
def gv_FIGURES : List Nat := [48, 49, 50, 51, 52, 53, 54, 55, 56, 57]
def gv_GREAT : List Nat := [65, 66, 67, 68, 69, 70, 71, 72, 73, 74, 75, 76, 77, 78, 79, 80, 81, 82, 83, 84, 85, 86, 87, 88, 89, 90]
def gv_THREADS : List Nat := [116, 104, 114, 101, 97, 100, 115]
def N_rank : List PySem.Str := ["sign"]
def ts_rank : List T := [
  .ret (.bm n_find (.gl nm_SIGNS) [(.sl 0)])]
def N_holds : List PySem.Str := ["rows", "sign", "number", "low", "high"]
def ts_holds : List T := [
  .set 2 (.call nm_rank [(.sl 1)] [] []),
  .ret (.bi n_any [(.lc (.t [(.n 3), (.n 4)]) [3, 4] .ex [(.sl 0)] [] (.chain .le .le (.call nm_rank [(.sl 3)] [] []) (.sl 2) (.call nm_rank [(.sl 4)] [] [])))])]
def N_moved_on : List PySem.Str := ["code", "rows", "sign", "cut", "starts", "row"]
def ts_moved_on : List T := [
  .set 4 (.lc (.n 5) [5] .ex [(.sl 1)] [(.and [(.cmp .eq (.ix (.ix (.sl 0) (.sl 5)) (.ki 0)) (.ks [114, 101, 97, 100])), (.call nm_holds [(.ix (.ix (.sl 0) (.sl 5)) (.ki 1)), (.sl 2)] [] [])])] (.bin .add (.sl 5) (.ki 1))),
  .ret (.call nm_come_to [(.sl 0), (.sl 4), (.sl 3)] [] [])]
def N_stand_behind : List PySem.Str := ["pattern", "text", "code", "stand", "sign"]
def ts_stand_behind : List T := [
  .set 2 (.call nm_plain_code [(.sl 0)] [] []),
  .set 3 (.call nm_at_first [(.sl 2)] [] []),
  .for (.n 4) .ex [(.sl 1)] [.set 3 (.call nm_stood [(.sl 2), (.sl 3), (.sl 4)] [] [])],
  .ret (.sl 3)]
def N__law_bag : List PySem.Str := ["_law_script", "_law_cell"]
def ts__law_bag : List T := [
  .ret (.lst [(.ki 0), (.ki 1234567891), (.ki 0), (.lc (.n 1) [1] .ex [(.sli (.sl 0) .kn (.ki 63))] [] (.bi n_abs [(.sl 1)]))])]
def N__law_take : List PySem.Str := ["_law_bag_here", "_law_many_here", "_law_first", "_law_second", "_law_cell", "_law_value"]
def ts__law_take : List T := [
  .ife (.cmp .eq (.ix (.sl 0) (.ki 0)) (.ki 0)) [.set 4 (.ki 0), .ife (.cmp .lt (.ix (.sl 0) (.ki 2)) (.bi n_len [(.ix (.sl 0) (.ki 3))])) [.set 4 (.ix (.ix (.sl 0) (.ki 3)) (.ix (.sl 0) (.ki 2)))] [], .augs (.sl 0) (.ki 2) .add (.ki 1), .ife (.cmp .ge (.sl 4) (.ki 1000000000000000000)) [.sub (.sl 0) (.ki 0) (.sl 4)] [], .sub (.sl 0) (.ki 1) (.bin .mod (.bin .add (.bin .add (.bin .mul (.ix (.sl 0) (.ki 1)) (.ki 48271)) (.bin .mod (.sl 4) (.ki 2147483647))) (.bin .mul (.ki 7919) (.ix (.sl 0) (.ki 2)))) (.ki 2147483647))] [],
  .ife (.cmp .gt (.ix (.sl 0) (.ki 0)) (.ki 0)) [.set 5 (.bin .mod (.ix (.sl 0) (.ki 0)) (.sl 1)), .sub (.sl 0) (.ki 0) (.bin .fdiv (.ix (.sl 0) (.ki 0)) (.sl 1)), .ret (.sl 5)] [],
  .set 2 (.bin .mod (.bin .mul (.bin .add (.ix (.sl 0) (.ki 1)) (.ki 1)) (.ki 39373)) (.ki 1000000007)),
  .set 3 (.bin .mod (.bin .mul (.bin .mod (.bin .mul (.sl 2) (.sl 2)) (.ki 998244353)) (.ki 30011)) (.ki 998244353)),
  .ife (.cmp .gt (.sl 1) (.ki 1000000)) [.ret (.bin .mod (.bin .add (.bin .mul (.sl 3) (.ki 1000000007)) (.sl 2)) (.sl 1))] [],
  .ret (.bin .mod (.bin .fdiv (.sl 3) (.ki 7)) (.sl 1))]
def N__law_order : List PySem.Str := ["_law_letters", "_law_others"]
def ts__law_order : List T := [
  .set 0 (.ks [97, 98, 99, 100, 101, 102, 103, 104, 105, 106, 107, 108, 109, 110, 111, 112, 113, 114, 115, 116, 117, 118, 119, 120, 121, 122]),
  .set 1 (.ks [10, 32, 33, 34, 35, 36, 38, 39, 40, 41, 42, 43, 44, 45, 46, 47, 48, 49, 50, 51, 52, 53, 54, 55, 56, 57, 58, 59, 60, 61, 62, 63, 64]),
  .ret (.bin .add (.bin .add (.bin .add (.bin .add (.sl 1) (.bm n_upper (.sl 0) [])) (.ks [91, 92, 93, 94, 95, 96])) (.sl 0)) (.ks [123, 124, 125, 126]))]
def N__law_rank : List PySem.Str := ["_law_sign"]
def ts__law_rank : List T := [
  .ret (.bm n_index (.call nm__law_order [] [] []) [(.sl 0)])]
def N__law_signs : List PySem.Str := ["_law_bag_here", "_law_way", "_law_at", "_law_k"]
def ts__law_signs : List T := [
  .set 1 (.call nm__law_take [(.sl 0), (.ki 3)] [] []),
  .set 2 (.call nm__law_take [(.sl 0), (.ki 95)] [] []),
  .ife (.cmp .eq (.sl 1) (.ki 0)) [.ret (.lst [(.ks [97]), (.ks [98]), (.ks [65])])] [],
  .ife (.cmp .eq (.sl 1) (.ki 1)) [.ret (.lst [(.ks [97]), (.ks [65]), (.ks [95]), (.ks [10]), (.ks [32])])] [],
  .ret (.lc (.n 3) [3] .rng [(.ki 4)] [] (.ix (.call nm__law_order [] [] []) (.bin .mod (.bin .add (.sl 2) (.bin .mul (.ki 37) (.sl 3))) (.ki 95))))]
def N__law_names : List PySem.Str := ["_law_bag_here", "_law_many_here", "_law_letters", "_law_words", "_law_way", "_law_size_here", "_law_at", "_law_turn", "_law_base", "_law_names_here", "_law_k", "_law_word", "_law_j"]
def ts__law_names : List T := [
  .set 2 (.ks [97, 98, 99, 100, 101, 102, 103, 104, 105, 106, 107, 108, 109, 110, 111, 112, 113, 114, 115, 116, 117, 118, 119, 120, 121, 122]),
  .set 3 (.lst [(.ks [108, 101, 116]), (.ks [111, 110]), (.ks [100, 114, 111, 112]), (.ks [110, 97, 109, 101, 115]), (.ks [102, 105, 114, 115, 116]), (.ks [97, 108, 108]), (.ks [112, 105, 101, 99, 101, 115]), (.ks [102, 105, 108, 108]), (.ks [97, 108, 105, 107, 101]), (.ks [106, 117, 100, 103, 101]), (.ks [112, 108, 97, 105, 110]), (.ks [110, 111, 110, 101]), (.ks [111, 107])]),
  .set 3 (.bin .add (.sl 3) (.lst [(.ks [108, 105, 110, 101]), (.ks [116, 119, 105, 99, 101]), (.ks [119, 105, 108, 100]), (.ks [112, 97, 114, 116, 101, 100]), (.ks [115, 105, 103, 110]), (.ks [114, 111, 119]), (.ks [109, 97, 110, 121]), (.ks [103, 114, 111, 117, 112]), (.ks [97]), (.ks [98]), (.ks [97, 98]), (.ks [98, 97]), (.ks [110])])),
  .set 4 (.call nm__law_take [(.sl 0), (.ki 4)] [] []),
  .set 5 (.bin .add (.ki 1) (.call nm__law_take [(.sl 0), (.ki 7)] [] [])),
  .set 6 (.call nm__law_take [(.sl 0), (.sl 5)] [] []),
  .set 7 (.call nm__law_take [(.sl 0), (.ki 26)] [] []),
  .set 8 (.lc (.n 10) [10] .rng [(.sl 5)] [] (.call nm__law_take [(.sl 0), (.ki 26)] [] [])),
  .ife (.cmp .eq (.sl 4) (.ki 0)) [.ret (.sli (.bin .add (.sli (.sl 3) (.sl 7) .kn) (.sli (.sl 3) .kn (.sl 7))) .kn (.sl 1))] [],
  .set 9 (.lst []),
  .for (.n 10) .rng [(.sl 1)] [.set 11 (.bm n_join (.ks []) [(.lc (.n 12) [12] .rng [(.sl 5)] [] (.ix (.sl 2) (.ix (.lst [(.ix (.sl 8) (.sl 12)), (.bin .mod (.bin .add (.sl 7) (.sl 10)) (.ki 26))]) (.bi n_int [(.cmp .eq (.sl 12) (.sl 6))]))))]), .ex (.bm n_append (.sl 9) [(.bin .add (.sl 11) (.bin .mul (.ix (.sl 2) (.ix (.sl 8) (.ki 0))) (.bin .mod (.sl 10) (.ki 2))))])],
  .ret (.sl 9)]
def N__law_pair : List PySem.Str := ["_law_bag_here", "_law_signs_here", "_law_one", "_law_other"]
def ts__law_pair : List T := [
  .set 2 (.ix (.sl 1) (.call nm__law_take [(.sl 0), (.bi n_len [(.sl 1)])] [] [])),
  .set 3 (.ix (.sl 1) (.call nm__law_take [(.sl 0), (.bi n_len [(.sl 1)])] [] [])),
  .ife (.cmp .gt (.call nm__law_rank [(.sl 2)] [] []) (.call nm__law_rank [(.sl 3)] [] [])) [.ret (.tup [(.sl 3), (.sl 2)])] [],
  .ret (.tup [(.sl 2), (.sl 3)])]
def N__law_leaf : List PySem.Str := ["_law_bag_here", "_law_world_here", "_law_signs_here", "_law_way", "_law_pairs", "_law_k"]
def ts__law_leaf : List T := [
  .set 2 (.ix (.sl 1) (.ks [115, 105, 103, 110, 115])),
  .set 3 (.call nm__law_take [(.sl 0), (.ki 8)] [] []),
  .ife (.cmp .eq (.sl 3) (.ki 0)) [.ret (.tup [(.ks [97, 110, 121])])] [],
  .ife (.cmp .lt (.sl 3) (.ki 3)) [.set 4 (.lc (.n 5) [5] .rng [(.bin .add (.ki 1) (.call nm__law_take [(.sl 0), (.ki 3)] [] []))] [] (.call nm__law_pair [(.sl 0), (.sl 2)] [] [])), .ret (.tup [(.ks [115, 101, 116]), (.bi n_tuple [(.sl 4)]), (.cmp .eq (.call nm__law_take [(.sl 0), (.ki 3)] [] []) (.ki 0))])] [],
  .ret (.tup [(.ks [115, 105, 103, 110]), (.ix (.sl 2) (.call nm__law_take [(.sl 0), (.bi n_len [(.sl 2)])] [] []))])]
def N__law_idle : List PySem.Str := ["_law_tree_here", "_law_word", "_law_some", "_law_part"]
def ts__law_idle : List T := [
  .set 1 (.ix (.sl 0) (.ki 0)),
  .ife (.cmp .inn (.sl 1) (.tup [(.ks [114, 111, 119]), (.ks [99, 104, 111, 105, 99, 101])])) [.set 2 (.lc (.n 3) [3] .ex [(.ix (.sl 0) (.ki 1))] [] (.call nm__law_idle [(.sl 3)] [] [])), .ret (.ix (.lst [(.cmp .nin (.kb false) (.sl 2)), (.cmp .inn (.kb true) (.sl 2))]) (.bi n_int [(.cmp .eq (.sl 1) (.ks [99, 104, 111, 105, 99, 101]))]))] [],
  .ife (.cmp .eq (.sl 1) (.ks [109, 97, 110, 121])) [.ret (.or [(.cmp .eq (.ix (.sl 0) (.ki 2)) (.ki 0)), (.call nm__law_idle [(.ix (.sl 0) (.ki 1))] [] [])])] [],
  .ife (.cmp .inn (.sl 1) (.tup [(.ks [103, 114, 111, 117, 112]), (.ks [111, 110, 99, 101]), (.ks [102, 108, 97, 103, 115])])) [.ret (.call nm__law_idle [(.ix (.sl 0) (.neg (.ki 1)))] [] [])] [],
  .ret (.cmp .inn (.sl 1) (.tup [(.ks [108, 111, 111, 107]), (.ks [98, 97, 99, 107]), (.ks [101, 100, 103, 101])]))]
def N__law_many : List PySem.Str := ["_law_bag_here", "_law_world_here", "_law_part", "_law_least", "_law_top", "_law_mood"]
def ts__law_many : List T := [
  .set 3 (.bin .mul (.ix (.lst [(.ki 0), (.ki 1), (.ki 0), (.ki 2)]) (.call nm__law_take [(.sl 0), (.ki 4)] [] [])) (.bi n_int [(.cmp .le (.call nm__law_size [(.sl 2)] [] []) (.ki 20))])),
  .set 4 (.bi n_max [(.ki 1), (.bin .add (.sl 3) (.bin .mul (.call nm__law_take [(.sl 0), (.ki 3)] [] []) (.bi n_int [(.cmp .le (.call nm__law_size [(.sl 2)] [] []) (.ki 20))])))]),
  .ife (.and [(.cmp .gt (.call nm__law_take [(.sl 0), (.ki 3)] [] []) (.ki 0)), (.not (.call nm__law_idle [(.sl 2)] [] []))]) [.set 4 .kn] [],
  .set 5 (.ix (.lst [(.ks [109, 111, 115, 116]), (.ks [102, 101, 119]), (.ks [111, 110, 99, 101])]) (.call nm__law_take [(.sl 0), (.bin .add (.ki 2) (.bi n_int [(.cmp .gt (.ix (.sl 1) (.ks [107, 105, 110, 100, 115])) (.ki 1))]))] [] [])),
  .ret (.tup [(.ks [109, 97, 110, 121]), (.sl 2), (.sl 3), (.sl 4), (.sl 5)])]
def N__law_group : List PySem.Str := ["_law_bag_here", "_law_world_here", "_law_deep", "_law_name"]
def ts__law_group : List T := [
  .set 3 (.ks []),
  .ife (.cmp .eq (.call nm__law_take [(.sl 0), (.ki 2)] [] []) (.ki 0)) [.set 3 (.ix (.ix (.sl 1) (.ks [110, 97, 109, 101, 115])) (.bi n_len [(.ix (.sl 1) (.ks [116, 111, 108, 100]))]))] [],
  .ex (.bm n_append (.ix (.sl 1) (.ks [116, 111, 108, 100])) [(.sl 3)]),
  .ret (.tup [(.ks [103, 114, 111, 117, 112]), (.sl 3), (.call nm__law_tree [(.sl 0), (.sl 1), (.sl 2)] [] [])])]
def N__law_odd_tree : List PySem.Str := ["_law_bag_here", "_law_world_here", "_law_deep", "_law_way", "_law_part", "_law_at", "_law_on", "_law_off"]
def ts__law_odd_tree : List T := [
  .set 3 (.call nm__law_take [(.sl 0), (.bin .add (.ki 2) (.ix (.sl 1) (.ks [107, 105, 110, 100, 115])))] [] []),
  .ife (.cmp .eq (.sl 3) (.ki 2)) [.ret (.tup [(.ks [101, 100, 103, 101]), (.ix (.lst [(.ks [115, 116, 97, 114, 116]), (.ks [101, 110, 100]), (.ks [114, 111, 119, 115, 116, 97, 114, 116]), (.ks [114, 111, 119, 101, 110, 100]), (.ks [119, 111, 114, 100]), (.ks [105, 110, 110, 101, 114])]) (.call nm__law_take [(.sl 0), (.ki 6)] [] []))])] [],
  .ife (.and [(.cmp .eq (.sl 3) (.ki 3)), (.cmp .eq (.call nm__law_take [(.sl 0), (.ki 2)] [] []) (.ki 0))]) [.ret (.tup [(.ks [111, 110, 99, 101]), (.call nm__law_tree [(.sl 0), (.sl 1), (.sl 2)] [] [])])] [],
  .ife (.cmp .eq (.sl 3) (.ki 3)) [.augs (.sl 1) (.ks [108, 111, 111, 107]) .add (.ki 1), .set 4 (.call nm__law_tree [(.sl 0), (.sl 1), (.sl 2)] [] []), .augs (.sl 1) (.ks [108, 111, 111, 107]) .sub (.ki 1), .ret (.tup [(.ks [108, 111, 111, 107]), (.ix (.lst [(.ks [97, 104, 101, 97, 100]), (.ks [98, 101, 104, 105, 110, 100]), (.ks [110, 111, 97, 104, 101, 97, 100]), (.ks [110, 111, 98, 101, 104, 105, 110, 100])]) (.call nm__law_take [(.sl 0), (.ki 4)] [] [])), (.sl 4)])] [],
  .ife (.and [(.cmp .eq (.sl 3) (.ki 4)), (.cmp .ne (.ix (.sl 1) (.ks [116, 111, 108, 100])) (.lst []))]) [.set 5 (.call nm__law_take [(.sl 0), (.bi n_len [(.ix (.sl 1) (.ks [116, 111, 108, 100]))])] [] []), .ret (.tup [(.ks [98, 97, 99, 107]), (.ix (.lst [(.bin .add (.sl 5) (.ki 1)), (.or [(.ix (.ix (.sl 1) (.ks [116, 111, 108, 100])) (.sl 5)), (.bin .add (.sl 5) (.ki 1))])]) (.call nm__law_take [(.sl 0), (.ki 2)] [] []))])] [],
  .asg (.t [(.n 6), (.n 7)]) (.ix (.lst [(.tup [(.ks [97]), (.ks [])]), (.tup [(.ks [108]), (.ks [])]), (.tup [(.ks [97, 108]), (.ks [])]), (.tup [(.ks []), (.ks [97])]), (.tup [(.ks [97]), (.ks [108])]), (.tup [(.ks [108]), (.ks [97])]), (.tup [(.ks []), (.ks [97, 108])])]) (.call nm__law_take [(.sl 0), (.ki 7)] [] [])),
  .ret (.tup [(.ks [102, 108, 97, 103, 115]), (.sl 6), (.sl 7), (.call nm__law_tree [(.sl 0), (.sl 1), (.sl 2)] [] [])])]
def N__law_tree : List PySem.Str := ["_law_bag_here", "_law_world_here", "_law_deep", "_law_way", "_law_many_here", "_law_k"]
def ts__law_tree : List T := [
  .set 3 (.call nm__law_take [(.sl 0), (.ki 14)] [] []),
  .augs (.sl 1) (.ks [115, 105, 122, 101]) .sub (.ki 1),
  .ife (.or [(.cmp .eq (.sl 2) (.ki 0)), (.cmp .lt (.ix (.sl 1) (.ks [115, 105, 122, 101])) (.ki 1)), (.cmp .lt (.sl 3) (.ki 3))]) [.ret (.call nm__law_leaf [(.sl 0), (.sl 1)] [] [])] [],
  .ife (.cmp .lt (.sl 3) (.ki 7)) [.set 4 (.ix (.lst [(.ki 2), (.ki 3), (.ki 2), (.ki 0)]) (.call nm__law_take [(.sl 0), (.ki 4)] [] [])), .ret (.tup [(.ks [114, 111, 119]), (.bi n_tuple [(.lc (.n 5) [5] .rng [(.sl 4)] [] (.call nm__law_tree [(.sl 0), (.sl 1), (.bin .sub (.sl 2) (.ki 1))] [] []))])])] [],
  .ife (.cmp .lt (.sl 3) (.ki 9)) [.ret (.tup [(.ks [99, 104, 111, 105, 99, 101]), (.bi n_tuple [(.lc (.n 5) [5] .rng [(.bin .add (.ki 2) (.call nm__law_take [(.sl 0), (.ki 2)] [] []))] [] (.call nm__law_tree [(.sl 0), (.sl 1), (.bin .sub (.sl 2) (.ki 1))] [] []))])])] [],
  .ife (.cmp .lt (.sl 3) (.ki 11)) [.ret (.call nm__law_many [(.sl 0), (.sl 1), (.call nm__law_tree [(.sl 0), (.sl 1), (.bin .sub (.sl 2) (.ki 1))] [] [])] [] [])] [],
  .ife (.and [(.cmp .lt (.sl 3) (.ki 13)), (.cmp .eq (.ix (.sl 1) (.ks [108, 111, 111, 107])) (.ki 0)), (.cmp .lt (.bi n_len [(.ix (.sl 1) (.ks [116, 111, 108, 100]))]) (.ki 9))]) [.ret (.call nm__law_group [(.sl 0), (.sl 1), (.bin .sub (.sl 2) (.ki 1))] [] [])] [],
  .ret (.call nm__law_odd_tree [(.sl 0), (.sl 1), (.bin .sub (.sl 2) (.ki 1))] [] [])]
def N__law_twin : List PySem.Str := ["_law_sign"]
def ts__law_twin : List T := [
  .ife (.bm n_islower (.sl 0) []) [.ret (.bm n_upper (.sl 0) [])] [],
  .ret (.bm n_lower (.sl 0) [])]
def N__law_sample : List PySem.Str := ["_law_bag_here", "_law_tree_here", "_law_word", "_law_many_here", "_law_part", "_law_k"]
def ts__law_sample : List T := [
  .set 2 (.ix (.sl 1) (.ki 0)),
  .ife (.cmp .eq (.sl 2) (.ks [115, 105, 103, 110])) [.ret (.ix (.lst [(.ix (.sl 1) (.ki 1)), (.call nm__law_twin [(.ix (.sl 1) (.ki 1))] [] [])]) (.bi n_int [(.cmp .eq (.call nm__law_take [(.sl 0), (.ki 8)] [] []) (.ki 0))]))] [],
  .ife (.cmp .eq (.sl 2) (.ks [97, 110, 121])) [.ret (.ks [97])] [],
  .ife (.cmp .eq (.sl 2) (.ks [115, 101, 116])) [.ret (.ix (.ix (.ix (.sl 1) (.ki 1)) (.call nm__law_take [(.sl 0), (.bi n_len [(.ix (.sl 1) (.ki 1))])] [] [])) (.call nm__law_take [(.sl 0), (.ki 2)] [] []))] [],
  .ife (.cmp .eq (.sl 2) (.ks [114, 111, 119])) [.ret (.bm n_join (.ks []) [(.lc (.n 4) [4] .ex [(.ix (.sl 1) (.ki 1))] [] (.call nm__law_sample [(.sl 0), (.sl 4)] [] []))])] [],
  .ife (.cmp .eq (.sl 2) (.ks [99, 104, 111, 105, 99, 101])) [.ret (.call nm__law_sample [(.sl 0), (.ix (.ix (.sl 1) (.ki 1)) (.call nm__law_take [(.sl 0), (.bi n_len [(.ix (.sl 1) (.ki 1))])] [] []))] [] [])] [],
  .ife (.cmp .eq (.sl 2) (.ks [109, 97, 110, 121])) [.set 3 (.bin .add (.ix (.sl 1) (.ki 2)) (.call nm__law_take [(.sl 0), (.ki 3)] [] [])), .ret (.bm n_join (.ks []) [(.lc (.n 5) [5] .rng [(.sl 3)] [] (.call nm__law_sample [(.sl 0), (.ix (.sl 1) (.ki 1))] [] []))])] [],
  .ife (.cmp .inn (.sl 2) (.tup [(.ks [103, 114, 111, 117, 112]), (.ks [111, 110, 99, 101]), (.ks [102, 108, 97, 103, 115])])) [.ret (.call nm__law_sample [(.sl 0), (.ix (.sl 1) (.neg (.ki 1)))] [] [])] [],
  .ret (.ks [])]
def N__law_text : List PySem.Str := ["_law_bag_here", "_law_tree_here", "_law_signs_here", "_law_top", "_law_way", "_law_strange", "_law_text_here", "_law_at", "_law_k"]
def ts__law_text : List T := [
  .set 4 (.call nm__law_take [(.sl 0), (.ki 4)] [] []),
  .set 5 (.ix (.bin .add (.sl 2) (.lst [(.ix (.call nm__law_order [] [] []) (.call nm__law_take [(.sl 0), (.ki 95)] [] []))])) (.call nm__law_take [(.sl 0), (.bin .add (.bi n_len [(.sl 2)]) (.ki 1))] [] [])),
  .set 6 (.bm n_join (.ks []) [(.lc (.n 8) [8] .rng [(.call nm__law_take [(.sl 0), (.bin .add (.sl 3) (.ki 1))] [] [])] [] (.ix (.sl 2) (.call nm__law_take [(.sl 0), (.bi n_len [(.sl 2)])] [] [])))]),
  .ife (.cmp .lt (.sl 4) (.ki 2)) [.set 6 (.bin .add (.bin .add (.sli (.sl 6) .kn (.call nm__law_take [(.sl 0), (.ki 3)] [] [])) (.call nm__law_sample [(.sl 0), (.sl 1)] [] [])) (.sli (.sl 6) .kn (.call nm__law_take [(.sl 0), (.ki 3)] [] [])))] [],
  .ife (.cmp .gt (.sl 4) (.ki 1)) [.set 7 (.call nm__law_take [(.sl 0), (.bin .add (.bi n_len [(.sl 6)]) (.ki 1))] [] []), .set 6 (.bin .add (.bin .add (.sli (.sl 6) .kn (.sl 7)) (.sl 5)) (.sli (.sl 6) (.bin .sub (.bin .add (.sl 7) (.sl 4)) (.ki 2)) .kn))] [],
  .ret (.sli (.sl 6) .kn (.sl 3))]
def N__law_parts : List PySem.Str := ["_law_tree_here"]
def ts__law_parts : List T := [
  .ife (.cmp .inn (.ix (.sl 0) (.ki 0)) (.tup [(.ks [114, 111, 119]), (.ks [99, 104, 111, 105, 99, 101])])) [.ret (.bi n_list [(.ix (.sl 0) (.ki 1))])] [],
  .ife (.cmp .eq (.ix (.sl 0) (.ki 0)) (.ks [109, 97, 110, 121])) [.ret (.lst [(.ix (.sl 0) (.ki 1))])] [],
  .ife (.cmp .inn (.ix (.sl 0) (.ki 0)) (.tup [(.ks [103, 114, 111, 117, 112]), (.ks [111, 110, 99, 101]), (.ks [108, 111, 111, 107]), (.ks [102, 108, 97, 103, 115])])) [.ret (.lst [(.ix (.sl 0) (.neg (.ki 1)))])] [],
  .ret (.lst [])]
def N__law_at_word : List PySem.Str := ["_law_text_here", "_law_at", "_law_sides", "_law_word", "_law_found", "_law_one", "_law_k", "_law_side"]
def ts__law_at_word : List T := [
  .set 2 (.lst [(.sli (.sl 0) (.bi n_max [(.ki 0), (.bin .sub (.sl 1) (.ki 1))]) (.sl 1)), (.sli (.sl 0) (.sl 1) (.bin .add (.sl 1) (.ki 1)))]),
  .set 3 (.lc (.n 5) [5] .ex [(.lc (.n 7) [7] .ex [(.sl 2)] [] (.bm n_lower (.sl 7) []))] [] (.or [(.cmp .eq (.sl 5) (.ks [95])), (.cmp .inn (.sl 5) (.ks [97, 98, 99, 100, 101, 102, 103, 104, 105, 106, 107, 108, 109, 110, 111, 112, 113, 114, 115, 116, 117, 118, 119, 120, 121, 122, 48, 49, 50, 51, 52, 53, 54, 55, 56, 57]))])),
  .set 4 (.lc (.n 6) [6] .rng [(.ki 2)] [] (.and [(.ix (.sl 3) (.sl 6)), (.cmp .ne (.ix (.sl 2) (.sl 6)) (.ks []))])),
  .ret (.cmp .ne (.ix (.sl 4) (.ki 0)) (.ix (.sl 4) (.ki 1)))]
def N__law_far : List PySem.Str := ["_law_text_here", "_law_span", "_law_at", "_law_alike", "_law_taken", "_law_there"]
def ts__law_far : List T := [
  .ife (.cmp .isn (.sl 1) .kn) [.ret .kn] [],
  .set 4 (.sli (.sl 0) (.ix (.sl 1) (.ki 0)) (.ix (.sl 1) (.ki 1))),
  .set 5 (.sli (.sl 0) (.sl 2) (.bin .add (.sl 2) (.bi n_len [(.sl 4)]))),
  .ife (.or [(.cmp .eq (.sl 4) (.sl 5)), (.and [(.sl 3), (.cmp .eq (.bm n_lower (.sl 4) []) (.bm n_lower (.sl 5) []))])]) [.ret (.bin .add (.sl 2) (.bi n_len [(.sl 4)]))] [],
  .ret .kn]
def N__law_held : List PySem.Str := ["_law_rows", "_law_sign", "_law_number", "_law_low", "_law_high"]
def ts__law_held : List T := [
  .set 2 (.call nm__law_rank [(.sl 1)] [] []),
  .ret (.cmp .ne (.lc (.t [(.n 3), (.n 4)]) [3, 4] .ex [(.sl 0)] [(.chain .le .le (.call nm__law_rank [(.sl 3)] [] []) (.sl 2) (.call nm__law_rank [(.sl 4)] [] []))] (.ki 1)) (.lst []))]
def N_is_sign : List PySem.Str := ["thing"]
def ts_is_sign : List T := [
  .ret (.and [(.isi (.sl 0) [n_str]), (.cmp .eq (.bi n_len [(.sl 0)]) (.ki 1)), (.cmp .inn (.sl 0) (.gl nm_SIGNS))])]
def N_is_name : List PySem.Str := ["thing", "sign"]
def ts_is_name : List T := [
  .ife (.or [(.not (.isi (.sl 0) [n_str])), (.not (.chain .le .le (.ki 1) (.bi n_len [(.sl 0)]) (.gl nm_LONGEST_NAME)))]) [.ret (.kb false)] [],
  .ret (.bi n_all [(.lc (.n 1) [1] .ex [(.sl 0)] [] (.cmp .inn (.sl 1) (.gl nm_SMALL)))])]
def N_sign_of : List PySem.Str := ["number"]
def ts_sign_of : List T := [
  .ret (.ix (.gl nm_SIGNS) (.sl 0))]
def N_sign_text : List PySem.Str := ["sign", "some"]
def ts_sign_text : List T := [
  .ife (.cmp .eq (.sl 0) (.ks [10])) [.ret (.ks [92, 110])] [],
  .ife (.cmp .inn (.sl 0) (.sl 1)) [.ret (.bin .add (.ks [92]) (.sl 0))] [],
  .ret (.sl 0)]
def N_set_text : List PySem.Str := ["pairs", "others", "entries", "low", "high", "entry"]
def ts_set_text : List T := [
  .set 2 (.lst []),
  .for (.t [(.n 3), (.n 4)]) .ex [(.sl 0)] [.set 5 (.call nm_sign_text [(.sl 3), (.gl nm_BARRED)] [] []), .ife (.cmp .ne (.sl 3) (.sl 4)) [.aug 5 .add (.bin .add (.ks [45]) (.call nm_sign_text [(.sl 4), (.gl nm_BARRED)] [] []))] [], .ex (.bm n_append (.sl 2) [(.sl 5)])],
  .ret (.bin .add (.bin .add (.bin .add (.ks [91]) (.bin .mul (.ks [94]) (.bi n_int [(.sl 1)]))) (.bm n_join (.ks []) [(.sl 2)])) (.ks [93]))]
def N_flags_text : List PySem.Str := ["on", "off"]
def ts_flags_text : List T := [
  .ife (.cmp .eq (.sl 1) (.ks [])) [.ret (.sl 0)] [],
  .ret (.bin .add (.bin .add (.sl 0) (.ks [45])) (.sl 1))]
def N_choice_text : List PySem.Str := ["tree", "part"]
def ts_choice_text : List T := [
  .ife (.cmp .eq (.ix (.sl 0) (.ki 0)) (.ks [99, 104, 111, 105, 99, 101])) [.ret (.bm n_join (.ks [124]) [(.lc (.n 1) [1] .ex [(.ix (.sl 0) (.ki 1))] [] (.call nm_option_text [(.sl 1)] [] []))])] [],
  .ret (.call nm_option_text [(.sl 0)] [] [])]
def N_option_text : List PySem.Str := ["tree", "part"]
def ts_option_text : List T := [
  .ife (.cmp .eq (.ix (.sl 0) (.ki 0)) (.ks [114, 111, 119])) [.ret (.bm n_join (.ks []) [(.lc (.n 1) [1] .ex [(.ix (.sl 0) (.ki 1))] [] (.call nm_item_text [(.sl 1)] [] []))])] [],
  .ret (.call nm_item_text [(.sl 0)] [] [])]
def N_item_text : List PySem.Str := ["tree", "word", "part", "least", "most", "mood"]
def ts_item_text : List T := [
  .ife (.cmp .eq (.ix (.sl 0) (.ki 0)) (.ks [109, 97, 110, 121])) [.asg (.t [(.n 1), (.n 2), (.n 3), (.n 4), (.n 5)]) (.sl 0), .ret (.bin .add (.call nm_atom_text [(.sl 2)] [] []) (.call nm_times_text [(.sl 3), (.sl 4), (.sl 5)] [] []))] [],
  .ret (.call nm_atom_text [(.sl 0)] [] [])]
def N_show_pattern : List PySem.Str := ["tree"]
def ts_show_pattern : List T := [
  .ret (.call nm_choice_text [(.sl 0)] [] [])]
def N_held_by : List PySem.Str := ["rows", "held", "low", "high", "number"]
def ts_held_by : List T := [
  .set 1 (.bin .mul (.lst [(.kb false)]) (.bi n_len [(.gl nm_SIGNS)])),
  .for (.t [(.n 2), (.n 3)]) .ex [(.sl 0)] [.for (.n 4) .rng [(.call nm_rank [(.sl 2)] [] []), (.bin .add (.call nm_rank [(.sl 3)] [] []) (.ki 1))] [.sub (.sl 1) (.sl 4) (.kb true)]],
  .ret (.sl 1)]
def N_rows_of : List PySem.Str := ["held", "found", "ahead", "number", "here", "low", "high"]
def ts_rows_of : List T := [
  .set 1 (.lst []),
  .set 2 (.kb false),
  .for (.t [(.n 3), (.n 4)]) .en [(.sl 0)] [.ife (.and [(.sl 4), (.sl 2)]) [.asg (.t [(.n 5), (.n 6)]) (.bm n_pop (.sl 1) []), .ex (.bm n_append (.sl 1) [(.tup [(.sl 5), (.call nm_sign_of [(.sl 3)] [] [])])])] [.ife (.sl 4) [.ex (.bm n_append (.sl 1) [(.tup [(.call nm_sign_of [(.sl 3)] [] []), (.call nm_sign_of [(.sl 3)] [] [])])])] []], .set 2 (.sl 4)],
  .ret (.bi n_tuple [(.sl 1)])]
def N_settled : List PySem.Str := ["rows"]
def ts_settled : List T := [
  .ret (.call nm_rows_of [(.call nm_held_by [(.sl 0)] [] [])] [] [])]
def N_parts_of : List PySem.Str := ["tree", "word"]
def ts_parts_of : List T := [
  .set 1 (.ix (.sl 0) (.ki 0)),
  .ife (.cmp .inn (.sl 1) (.tup [(.ks [114, 111, 119]), (.ks [99, 104, 111, 105, 99, 101])])) [.ret (.bi n_list [(.ix (.sl 0) (.ki 1))])] [],
  .ife (.cmp .inn (.sl 1) (.gl nm_PART_AT)) [.ret (.lst [(.ix (.sl 0) (.ix (.gl nm_PART_AT) (.sl 1)))])] [],
  .ret (.lst [])]
def N_group_names : List PySem.Str := ["tree", "names", "part"]
def ts_group_names : List T := [
  .set 1 (.lst []),
  .ife (.cmp .eq (.ix (.sl 0) (.ki 0)) (.ks [103, 114, 111, 117, 112])) [.ex (.bm n_append (.sl 1) [(.ix (.sl 0) (.ki 1))])] [],
  .for (.n 2) .ex [(.call nm_parts_of [(.sl 0)] [] [])] [.ex (.bm n_extend (.sl 1) [(.call nm_group_names [(.sl 2)] [] [])])],
  .ret (.sl 1)]
def N_idle : List PySem.Str := ["tree", "word", "found", "part"]
def ts_idle : List T := [
  .set 1 (.ix (.sl 0) (.ki 0)),
  .ife (.cmp .inn (.sl 1) (.tup [(.ks [115, 105, 103, 110]), (.ks [97, 110, 121]), (.ks [115, 101, 116])])) [.ret (.kb false)] [],
  .ife (.cmp .inn (.sl 1) (.tup [(.ks [108, 111, 111, 107]), (.ks [98, 97, 99, 107]), (.ks [101, 100, 103, 101])])) [.ret (.kb true)] [],
  .set 2 (.lc (.n 3) [3] .ex [(.call nm_parts_of [(.sl 0)] [] [])] [] (.call nm_idle [(.sl 3)] [] [])),
  .ife (.cmp .eq (.sl 1) (.ks [99, 104, 111, 105, 99, 101])) [.ret (.bi n_any [(.sl 2)])] [],
  .ife (.and [(.cmp .eq (.sl 1) (.ks [109, 97, 110, 121])), (.cmp .eq (.ix (.sl 0) (.ki 2)) (.ki 0))]) [.ret (.kb true)] [],
  .ret (.bi n_all [(.sl 2)])]
def N_is_number : List PySem.Str := ["thing", "least", "most"]
def ts_is_number : List T := [
  .ret (.and [(.isi (.sl 0) [n_int]), (.not (.isi (.sl 0) [n_bool])), (.chain .le .le (.sl 1) (.sl 0) (.sl 2))])]
def N_is_pair : List PySem.Str := ["thing"]
def ts_is_pair : List T := [
  .ife (.or [(.not (.isi (.sl 0) [n_tuple])), (.cmp .ne (.bi n_len [(.sl 0)]) (.ki 2)), (.not (.call nm_is_sign [(.ix (.sl 0) (.ki 0))] [] [])), (.not (.call nm_is_sign [(.ix (.sl 0) (.ki 1))] [] []))]) [.ret (.kb false)] [],
  .ret (.cmp .le (.call nm_rank [(.ix (.sl 0) (.ki 0))] [] []) (.call nm_rank [(.ix (.sl 0) (.ki 1))] [] []))]
def N_is_set : List PySem.Str := ["pairs", "others", "pair"]
def ts_is_set : List T := [
  .ife (.or [(.not (.isi (.sl 0) [n_tuple])), (.not (.chain .le .le (.ki 1) (.bi n_len [(.sl 0)]) (.gl nm_MOST_PAIRS_faults))), (.not (.isi (.sl 1) [n_bool]))]) [.ret (.kb false)] [],
  .ret (.bi n_all [(.lc (.n 2) [2] .ex [(.sl 0)] [] (.call nm_is_pair [(.sl 2)] [] []))])]
def N_is_many : List PySem.Str := ["least", "most", "mood"]
def ts_is_many : List T := [
  .ife (.or [(.not (.call nm_is_number [(.sl 0), (.ki 0), (.gl nm_MOST_ROUNDS)] [] [])), (.not (.isi (.sl 2) [n_str])), (.cmp .nin (.sl 2) (.gl nm_MOODS))]) [.ret (.kb false)] [],
  .ret (.or [(.cmp .isn (.sl 1) .kn), (.call nm_is_number [(.sl 1), (.bi n_max [(.ki 1), (.sl 0)]), (.gl nm_MOST_ROUNDS)] [] [])])]
def N_is_one_of : List PySem.Str := ["thing", "some"]
def ts_is_one_of : List T := [
  .ret (.and [(.isi (.sl 0) [n_str]), (.cmp .inn (.sl 0) (.sl 1))])]
def N_are_flags : List PySem.Str := ["on", "off", "letter"]
def ts_are_flags : List T := [
  .ife (.or [(.not (.call nm_is_one_of [(.sl 0), (.gl nm_FLAGS)] [] [])), (.not (.call nm_is_one_of [(.sl 1), (.gl nm_FLAGS)] [] [])), (.cmp .eq (.bin .add (.sl 0) (.sl 1)) (.ks []))]) [.ret (.kb false)] [],
  .ret (.bi n_all [(.lc (.n 2) [2] .ex [(.sl 0)] [] (.cmp .nin (.sl 2) (.sl 1)))])]
def N_is_many_parts : List PySem.Str := ["word", "many"]
def ts_is_many_parts : List T := [
  .ife (.and [(.cmp .eq (.sl 0) (.ks [114, 111, 119])), (.cmp .eq (.sl 1) (.ki 0))]) [.ret (.kb true)] [],
  .ret (.chain .le .le (.ki 2) (.sl 1) (.ix (.gl nm_MOST_PARTS_faults) (.sl 0)))]
def N_fault_of_form : List PySem.Str := ["thing", "path", "k", "part", "found"]
def ts_fault_of_form : List T := [
  .ife (.cmp .gt (.bi n_len [(.sl 1)]) (.gl nm_DEEPEST)) [.ret (.tup [(.ks [100, 101, 101, 112]), (.sl 1)])] [],
  .ife (.not (.call nm_is_formed [(.sl 0)] [] [])) [.ret (.tup [(.ks [102, 111, 114, 109]), (.sl 1)])] [],
  .for (.t [(.n 2), (.n 3)]) .en [(.call nm_parts_of [(.sl 0)] [] [])] [.set 4 (.call nm_fault_of_form [(.sl 3), (.bin .add (.sl 1) (.tup [(.sl 2)]))] [] []), .ife (.cmp .notn (.sl 4) .kn) [.ret (.sl 4)] []],
  .ret .kn]
def N_fault_here : List PySem.Str := ["tree", "told", "names", "within", "word"]
def ts_fault_here : List T := [
  .set 4 (.ix (.sl 0) (.ki 0)),
  .ife (.cmp .eq (.sl 4) (.ks [103, 114, 111, 117, 112])) [.ife (.and [(.cmp .ne (.ix (.sl 0) (.ki 1)) (.ks [])), (.cmp .inn (.ix (.sl 0) (.ki 1)) (.sl 1))]) [.ret (.ks [116, 119, 105, 99, 101])] [], .ife (.cmp .eq (.bi n_len [(.sl 1)]) (.gl nm_MOST_GROUPS)) [.ret (.ks [103, 114, 111, 117, 112, 115])] [], .ife (.sl 3) [.ret (.ks [105, 110, 110, 101, 114])] []] [],
  .ife (.cmp .eq (.sl 4) (.ks [98, 97, 99, 107])) [.ife (.and [(.isi (.ix (.sl 0) (.ki 1)) [n_str]), (.cmp .nin (.ix (.sl 0) (.ki 1)) (.sl 2))]) [.ret (.ks [98, 97, 99, 107])] [], .ife (.and [(.not (.isi (.ix (.sl 0) (.ki 1)) [n_str])), (.cmp .gt (.ix (.sl 0) (.ki 1)) (.bi n_len [(.sl 2)]))]) [.ret (.ks [98, 97, 99, 107])] []] [],
  .ife (.and [(.cmp .eq (.sl 4) (.ks [109, 97, 110, 121])), (.cmp .isn (.ix (.sl 0) (.ki 3)) .kn), (.call nm_idle [(.ix (.sl 0) (.ki 1))] [] [])]) [.ret (.ks [101, 109, 112, 116, 121])] [],
  .ret .kn]
def N_fault_of_meaning : List PySem.Str := ["tree", "path", "told", "names", "within", "word", "k", "part", "found"]
def ts_fault_of_meaning : List T := [
  .set 5 (.call nm_fault_here [(.sl 0), (.sl 2), (.sl 3), (.sl 4)] [] []),
  .ife (.cmp .notn (.sl 5) .kn) [.ret (.tup [(.sl 5), (.sl 1)])] [],
  .ife (.cmp .eq (.ix (.sl 0) (.ki 0)) (.ks [103, 114, 111, 117, 112])) [.ex (.bm n_append (.sl 2) [(.ix (.sl 0) (.ki 1))])] [],
  .for (.t [(.n 6), (.n 7)]) .en [(.call nm_parts_of [(.sl 0)] [] [])] [.set 8 (.call nm_fault_of_meaning [(.sl 7), (.bin .add (.sl 1) (.tup [(.sl 6)])), (.sl 2), (.sl 3), (.or [(.sl 4), (.cmp .eq (.ix (.sl 0) (.ki 0)) (.ks [108, 111, 111, 107]))])] [] []), .ife (.cmp .notn (.sl 8) .kn) [.ret (.sl 8)] []],
  .ret .kn]
def N_fault : List PySem.Str := ["thing", "found"]
def ts_fault : List T := [
  .set 1 (.call nm_fault_of_form [(.sl 0), (.tup [])] [] []),
  .ife (.cmp .isn (.sl 1) .kn) [.set 1 (.call nm_fault_of_meaning [(.sl 0), (.tup []), (.lst []), (.call nm_group_names [(.sl 0)] [] []), (.kb false)] [] [])] [],
  .ife (.and [(.cmp .isn (.sl 1) .kn), (.cmp .gt (.bin .add (.call nm_rows_laid [(.sl 0)] [] []) (.ki 1)) (.gl nm_MOST_ROWS))]) [.set 1 (.tup [(.ks [108, 111, 110, 103]), (.tup [])])] [],
  .ret (.sl 1)]
def N_laid_flat : List PySem.Str := ["word", "parts", "many", "found", "part"]
def ts_laid_flat : List T := [
  .set 2 (.bi n_len [(.sl 1)]),
  .set 3 (.lst []),
  .for (.n 4) .ex [(.sl 1)] [.ife (.and [(.cmp .eq (.ix (.sl 4) (.ki 0)) (.sl 0)), (.cmp .le (.bin .add (.bin .sub (.sl 2) (.ki 1)) (.bi n_len [(.ix (.sl 4) (.ki 1))])) (.ix (.gl nm_MOST_PARTS_plainer) (.sl 0)))]) [.set 2 (.bin .add (.bin .sub (.sl 2) (.ki 1)) (.bi n_len [(.ix (.sl 4) (.ki 1))])), .ex (.bm n_extend (.sl 3) [(.ix (.sl 4) (.ki 1))])] [.ex (.bm n_append (.sl 3) [(.sl 4)])]],
  .ret (.sl 3)]
def N_pairs_of : List PySem.Str := ["tree"]
def ts_pairs_of : List T := [
  .ife (.cmp .eq (.ix (.sl 0) (.ki 0)) (.ks [115, 105, 103, 110])) [.ret (.tup [(.tup [(.ix (.sl 0) (.ki 1)), (.ix (.sl 0) (.ki 1))])])] [],
  .ife (.and [(.cmp .eq (.ix (.sl 0) (.ki 0)) (.ks [115, 101, 116])), (.not (.ix (.sl 0) (.ki 2)))]) [.ret (.ix (.sl 0) (.ki 1))] [],
  .ret .kn]
def N_without_doubles : List PySem.Str := ["parts", "found", "part"]
def ts_without_doubles : List T := [
  .set 1 (.lst []),
  .for (.n 2) .ex [(.sl 0)] [.ife (.or [(.cmp .nin (.sl 2) (.sl 1)), (.cmp .ne (.call nm_group_names [(.sl 2)] [] []) (.lst []))]) [.ex (.bm n_append (.sl 1) [(.sl 2)])] []],
  .ret (.sl 1)]
def N_put_together : List PySem.Str := ["word", "parts"]
def ts_put_together : List T := [
  .ife (.cmp .eq (.bi n_len [(.sl 1)]) (.ki 1)) [.ret (.ix (.sl 1) (.ki 0))] [],
  .ret (.tup [(.sl 0), (.bi n_tuple [(.sl 1)])])]
def N_simpler : List PySem.Str := ["tree", "word", "parts", "part"]
def ts_simpler : List T := [
  .set 1 (.ix (.sl 0) (.ki 0)),
  .ife (.cmp .eq (.sl 1) (.ks [114, 111, 119])) [.set 2 (.lc (.n 3) [3] .ex [(.lc (.n 3) [3] .ex [(.ix (.sl 0) (.ki 1))] [] (.call nm_simpler [(.sl 3)] [] []))] [(.cmp .ne (.sl 3) (.tup [(.ks [114, 111, 119]), (.tup [])]))] (.sl 3)), .ret (.call nm_put_together [(.ks [114, 111, 119]), (.call nm_laid_flat [(.ks [114, 111, 119]), (.sl 2)] [] [])] [] [])] [],
  .ife (.cmp .eq (.sl 1) (.ks [99, 104, 111, 105, 99, 101])) [.set 2 (.call nm_laid_flat [(.ks [99, 104, 111, 105, 99, 101]), (.lc (.n 3) [3] .ex [(.ix (.sl 0) (.ki 1))] [] (.call nm_simpler [(.sl 3)] [] []))] [] []), .ret (.call nm_put_together [(.ks [99, 104, 111, 105, 99, 101]), (.call nm_joined_signs [(.call nm_without_doubles [(.sl 2)] [] [])] [] [])] [] [])] [],
  .ife (.cmp .inn (.sl 1) (.tup [(.ks [103, 114, 111, 117, 112]), (.ks [108, 111, 111, 107]), (.ks [102, 108, 97, 103, 115])])) [.ret (.bin .add (.sli (.sl 0) .kn (.neg (.ki 1))) (.tup [(.call nm_simpler [(.ix (.sl 0) (.neg (.ki 1)))] [] [])]))] [],
  .ife (.cmp .eq (.sl 1) (.ks [109, 97, 110, 121])) [.set 3 (.call nm_simpler [(.ix (.sl 0) (.ki 1))] [] []), .ife (.and [(.cmp .eq (.ix (.sl 0) (.ki 2)) (.ki 1)), (.cmp .eq (.ix (.sl 0) (.ki 3)) (.ki 1))]) [.ife (.cmp .eq (.ix (.sl 0) (.ki 4)) (.ks [111, 110, 99, 101])) [.ret (.tup [(.ks [111, 110, 99, 101]), (.sl 3)])] [], .ret (.sl 3)] [], .ret (.bin .add (.tup [(.ks [109, 97, 110, 121]), (.sl 3)]) (.sli (.sl 0) (.ki 2) .kn))] [],
  .ife (.cmp .eq (.sl 1) (.ks [111, 110, 99, 101])) [.set 3 (.call nm_simpler [(.ix (.sl 0) (.ki 1))] [] []), .ife (.or [(.cmp .inn (.ix (.sl 3) (.ki 0)) (.gl nm_ONE_ROUTE)), (.and [(.cmp .eq (.ix (.sl 3) (.ki 0)) (.ks [109, 97, 110, 121])), (.cmp .eq (.ix (.sl 3) (.ki 4)) (.ks [111, 110, 99, 101]))])]) [.ret (.sl 3)] [], .ret (.tup [(.ks [111, 110, 99, 101]), (.sl 3)])] [],
  .ret (.sl 0)]
def N_first_held : List PySem.Str := ["rows", "held"]
def ts_first_held : List T := [
  .set 1 (.call nm_held_by [(.sl 0)] [] []),
  .ife (.cmp .nin (.kb true) (.sl 1)) [.ret .kn] [],
  .ret (.call nm_sign_of [(.bm n_index (.sl 1) [(.kb true)])] [] [])]
def N_moves : List PySem.Str := ["code", "at", "row"]
def ts_moves : List T := [
  .set 2 (.ix (.sl 0) (.sl 1)),
  .ife (.cmp .eq (.ix (.sl 2) (.ki 0)) (.ks [102, 111, 114, 107])) [.ret (.lst [(.tup [(.ix (.sl 2) (.ki 1)), (.tup [(.ki 0)])]), (.tup [(.ix (.sl 2) (.ki 2)), (.tup [(.ki 1)])])])] [],
  .ife (.cmp .eq (.ix (.sl 2) (.ki 0)) (.ks [103, 111])) [.ret (.lst [(.tup [(.ix (.sl 2) (.ki 1)), (.tup [])])])] [],
  .ife (.cmp .inn (.ix (.sl 2) (.ki 0)) (.tup [(.ks [111, 112, 101, 110]), (.ks [99, 108, 111, 115, 101])])) [.ret (.lst [(.tup [(.bin .add (.sl 1) (.ki 1)), (.tup [])])])] [],
  .ret (.lst [])]
def N_wild_of : List PySem.Str := ["code", "fork", "lead", "meetings", "row", "back", "text", "first", "second", "more", "choices", "head", "made"]
def ts_wild_of : List T := [
  .for (.t [(.n 4), (.t [(.n 6), (.n 7), (.n 8)])]) .ex [(.sl 3)] [.set 5 (.call nm_routes_from [(.sl 0), (.sl 4)] [] []), .ife (.cmp .inn (.sl 1) (.sl 5)) [.asg (.t [(.n 9), (.n 10)]) (.ix (.sl 5) (.sl 1)), .asg (.t [(.n 11), (.n 12)]) (.sl 2), .ret (.tup [(.ks [119, 105, 108, 100]), (.sl 11), (.bin .add (.sl 6) (.sl 9)), (.sl 1), (.sl 12), (.bin .add (.sl 7) (.sl 10)), (.bin .add (.sl 8) (.sl 10))])] []],
  .ret .kn]
def N_takes_whole : List PySem.Str := ["code", "stand"]
def ts_takes_whole : List T := [
  .ret (.cmp .inn (.bin .sub (.bi n_len [(.sl 0)]) (.ki 1)) (.sl 1))]
def N_from_behind : List PySem.Str := ["begin", "end"]
def ts_from_behind : List T := [
  .ife (.cmp .gt (.sl 1) (.sl 0)) [.ret (.sl 1)] [],
  .ret (.bin .add (.sl 1) (.ki 1))]
def N_need_groups : List PySem.Str := ["pattern", "parts", "part"]
def ts_need_groups : List T := [
  .for (.n 2) .ex [(.sl 1)] [.ife (.isi (.sl 2) [n_tuple]) [.ex (.call nm_need_group [(.sl 0), (.ix (.sl 2) (.ki 1))] [] [])] []]]
def N_filled : List PySem.Str := ["pattern", "way", "text", "parts", "told", "part", "spans", "span"]
def ts_filled : List T := [
  .set 4 (.ks []),
  .for (.n 5) .ex [(.sl 3)] [.ife (.isi (.sl 5) [n_str]) [.set 4 (.bin .add (.sl 4) (.sl 5))] [.set 6 (.bin .add (.tup [(.tup [(.fld (.sl 1) nm_begin), (.fld (.sl 1) nm_end)])]) (.fld (.sl 1) nm_spans)), .set 7 (.ix (.sl 6) (.call nm_need_group [(.sl 0), (.ix (.sl 5) (.ki 1))] [] [])), .ife (.cmp .notn (.sl 7) .kn) [.set 4 (.bin .add (.sl 4) (.sli (.sl 2) (.ix (.sl 7) (.ki 0)) (.ix (.sl 7) (.ki 1))))] []]],
  .ret (.sl 4)]
def N__law_small : List PySem.Str := ["_law_bag_here", "_law_atoms", "_law_times", "_law_parts", "_law_k"]
def ts__law_small : List T := [
  .set 1 (.lst [(.ks [97]), (.ks [98]), (.ks [46]), (.ks [91, 97, 45, 99, 93]), (.ks [40, 58, 97, 124, 98, 41]), (.ks [40, 110, 58, 97, 42, 41]), (.ks [40, 109, 58, 98, 63, 41]), (.ks [40, 97, 124, 97, 98, 41]), (.ks [64, 47]), (.ks [64, 94]), (.ks [40, 62, 97, 41]), (.ks [40, 33, 97, 43, 41])]),
  .set 1 (.bin .add (.sl 1) (.lst [(.ks [38, 49, 59]), (.ks [40, 35, 97, 58, 66, 41])])),
  .set 2 (.lst [(.ks []), (.ks []), (.ks []), (.ks []), (.ks [42]), (.ks [43]), (.ks [63]), (.ks [42, 126]), (.ks [123, 50, 125]), (.ks [123, 49, 44, 51, 125, 33])]),
  .set 3 (.lc (.n 4) [4] .rng [(.bin .add (.ki 1) (.call nm__law_take [(.sl 0), (.ki 4)] [] []))] [] (.bin .add (.ix (.sl 1) (.call nm__law_take [(.sl 0), (.ki 14)] [] [])) (.ix (.sl 2) (.call nm__law_take [(.sl 0), (.ki 10)] [] [])))),
  .ret (.bm n_join (.ix (.lst [(.ks []), (.ks [124])]) (.bi n_int [(.cmp .eq (.call nm__law_take [(.sl 0), (.ki 4)] [] []) (.ki 0))])) [(.sl 3)])]
def N__law_run : List PySem.Str := ["_law_text", "_law_state", "_law_at", "_law_sign"]
def ts__law_run : List T := [
  .set 1 (.call nm__law_begun [] [] []),
  .for (.t [(.n 2), (.n 3)]) .en [(.sl 0)] [.ife (.not (.call nm__law_sign_read [(.sl 1), (.sl 3)] [] [])) [.ret (.tup [(.sl 2), (.sl 1)])] []],
  .ret (.tup [.kn, (.sl 1)])]
def N__law_alike : List PySem.Str := ["_law_found", "_law_due"]
def ts__law_alike : List T := [
  .ret (.and [(.cmp .eq (.sl 0) (.sl 1)), (.cmp .eq (.bi n_repr [(.sl 0)]) (.bi n_repr [(.sl 1)]))])]
def N__law_due : List PySem.Str := ["_law_text", "_law_at", "_law_state"]
def ts__law_due : List T := [
  .asg (.t [(.n 1), (.n 2)]) (.call nm__law_run [(.sl 0)] [] []),
  .ife (.cmp .notn (.sl 1) .kn) [.ret (.tup [(.ks [110, 111]), (.sl 1)])] [],
  .ife (.or [(.cmp .gt (.bi n_len [(.ix (.sl 2) (.ks [102, 114, 97, 109, 101, 115]))]) (.ki 1)), (.cmp .nin (.ix (.sl 2) (.ks [109, 111, 100, 101])) (.tup [(.ks [103, 111]), (.ks [109, 111, 111, 100])]))]) [.ret (.tup [(.ks [110, 111]), (.bi n_len [(.sl 0)])])] [],
  .ret (.tup [(.ks [114, 101, 97, 100]), (.call nm__law_closed [(.ix (.ix (.sl 2) (.ks [102, 114, 97, 109, 101, 115])) (.ki 0))] [] [])])]
def N_twin : List PySem.Str := ["sign"]
def ts_twin : List T := [
  .ife (.cmp .inn (.sl 0) (.gl nm_SMALL)) [.ret (.ix (.gl nm_GREAT) (.bm n_find (.gl nm_SMALL) [(.sl 0)]))] [],
  .ife (.cmp .inn (.sl 0) (.gl nm_GREAT)) [.ret (.ix (.gl nm_SMALL) (.bm n_find (.gl nm_GREAT) [(.sl 0)]))] [],
  .ret (.sl 0)]
def N__law_some_rows : List PySem.Str := ["_law_bag_here", "_law_most", "_law_order_here", "_law_rows", "_law_k", "_law_low", "_law_high"]
def ts__law_some_rows : List T := [
  .set 2 (.call nm__law_order [] [] []),
  .set 3 (.lst []),
  .for (.n 4) .rng [(.ix (.lst [(.call nm__law_take [(.sl 0), (.ki 4)] [] []), (.call nm__law_take [(.sl 0), (.bin .add (.sl 1) (.ki 1))] [] [])]) (.call nm__law_take [(.sl 0), (.ki 2)] [] []))] [.set 5 (.call nm__law_take [(.sl 0), (.ki 95)] [] []), .set 6 (.bin .add (.sl 5) (.call nm__law_take [(.sl 0), (.bi n_min [(.ix (.lst [(.ki 1), (.ki 4), (.ki 95)]) (.call nm__law_take [(.sl 0), (.ki 3)] [] [])), (.bin .sub (.ki 95) (.sl 5))])] [] [])), .ex (.bm n_append (.sl 3) [(.tup [(.ix (.sl 2) (.sl 5)), (.ix (.sl 2) (.sl 6))])])],
  .ret (.bi n_tuple [(.sl 3)])]
def N__law_truths : List PySem.Str := ["_law_rows", "_law_bounds", "_law_held", "_law_number", "_law_low", "_law_high"]
def ts__law_truths : List T := [
  .set 1 (.lc (.t [(.n 4), (.n 5)]) [4, 5] .ex [(.sl 0)] [] (.tup [(.call nm__law_rank [(.sl 4)] [] []), (.call nm__law_rank [(.sl 5)] [] [])])),
  .set 2 (.lst []),
  .for (.n 3) .rng [(.ki 95)] [.ex (.bm n_append (.sl 2) [(.cmp .ne (.lc (.t [(.n 4), (.n 5)]) [4, 5] .ex [(.sl 1)] [(.chain .le .le (.sl 4) (.sl 3) (.sl 5))] (.ki 1)) (.lst []))])],
  .ret (.sl 2)]
def N__law_settled : List PySem.Str := ["_law_held", "_law_order_here", "_law_lows", "_law_highs", "_law_k", "_law_low", "_law_high"]
def ts__law_settled : List T := [
  .set 1 (.call nm__law_order [] [] []),
  .set 2 (.lc (.n 4) [4] .rng [(.ki 95)] [(.and [(.ix (.sl 0) (.sl 4)), (.not (.and [(.cmp .gt (.sl 4) (.ki 0)), (.ix (.sl 0) (.bin .sub (.sl 4) (.ki 1)))]))])] (.sl 4)),
  .set 3 (.lc (.n 4) [4] .rng [(.ki 95)] [(.and [(.ix (.sl 0) (.sl 4)), (.not (.and [(.cmp .lt (.sl 4) (.ki 94)), (.ix (.sl 0) (.bin .add (.sl 4) (.ki 1)))]))])] (.sl 4)),
  .ret (.bi n_tuple [(.lc (.t [(.n 5), (.n 6)]) [5, 6] .zp [(.sl 2), (.sl 3)] [] (.tup [(.ix (.sl 1) (.sl 5)), (.ix (.sl 1) (.sl 6))]))])]
def N_turned : List PySem.Str := ["rows", "here"]
def ts_turned : List T := [
  .ret (.call nm_rows_of [(.lc (.n 1) [1] .ex [(.call nm_held_by [(.sl 0)] [] [])] [] (.not (.sl 1)))] [] [])]
def N_joined : List PySem.Str := ["rows", "others"]
def ts_joined : List T := [
  .ret (.call nm_settled [(.bin .add (.sl 0) (.sl 1))] [] [])]
def N_common : List PySem.Str := ["rows", "others", "one", "other"]
def ts_common : List T := [
  .ret (.call nm_rows_of [(.lc (.t [(.n 2), (.n 3)]) [2, 3] .zp [(.call nm_held_by [(.sl 0)] [] []), (.call nm_held_by [(.sl 1)] [] [])] [] (.and [(.sl 2), (.sl 3)]))] [] [])]
def N_with_twins : List PySem.Str := ["rows", "held", "number", "here"]
def ts_with_twins : List T := [
  .set 1 (.call nm_held_by [(.sl 0)] [] []),
  .ret (.call nm_rows_of [(.lc (.t [(.n 2), (.n 3)]) [2, 3] .en [(.sl 1)] [] (.or [(.sl 3), (.ix (.sl 1) (.call nm_rank [(.call nm_twin [(.call nm_sign_of [(.sl 2)] [] [])] [] [])] [] []))]))] [] [])]
def N__law_numbered : List PySem.Str := ["_law_tree_here", "_law_many_here", "_law_word", "_law_parts", "_law_part", "_law_one", "_law_last"]
def ts__law_numbered : List T := [
  .set 2 (.ix (.sl 0) (.ki 0)),
  .ife (.cmp .inn (.sl 2) (.tup [(.ks [114, 111, 119]), (.ks [99, 104, 111, 105, 99, 101])])) [.set 3 (.lst []), .for (.n 4) .ex [(.ix (.sl 0) (.ki 1))] [.asg (.t [(.n 5), (.n 1)]) (.call nm__law_numbered [(.sl 4), (.sl 1)] [] []), .ex (.bm n_append (.sl 3) [(.sl 5)])], .ret (.tup [(.tup [(.sl 2), (.bi n_tuple [(.sl 3)])]), (.sl 1)])] [],
  .ife (.cmp .eq (.sl 2) (.ks [103, 114, 111, 117, 112])) [.asg (.t [(.n 5), (.n 6)]) (.call nm__law_numbered [(.ix (.sl 0) (.ki 2)), (.bin .add (.sl 1) (.ki 1))] [] []), .ret (.tup [(.tup [(.ks [103, 114, 111, 117, 112]), (.bin .add (.sl 1) (.ki 1)), (.sl 5)]), (.sl 6)])] [],
  .ife (.cmp .eq (.sl 2) (.ks [109, 97, 110, 121])) [.asg (.t [(.n 5), (.n 1)]) (.call nm__law_numbered [(.ix (.sl 0) (.ki 1)), (.sl 1)] [] []), .ret (.tup [(.bin .add (.tup [(.ks [109, 97, 110, 121]), (.sl 5)]) (.sli (.sl 0) (.ki 2) .kn)), (.sl 1)])] [],
  .ife (.cmp .inn (.sl 2) (.tup [(.ks [111, 110, 99, 101]), (.ks [108, 111, 111, 107]), (.ks [102, 108, 97, 103, 115])])) [.asg (.t [(.n 5), (.n 1)]) (.call nm__law_numbered [(.ix (.sl 0) (.neg (.ki 1))), (.sl 1)] [] []), .ret (.tup [(.bin .add (.sli (.sl 0) .kn (.neg (.ki 1))) (.tup [(.sl 5)])), (.sl 1)])] [],
  .ret (.tup [(.sl 0), (.sl 1)])]
def N__law_takes : List PySem.Str := ["_law_node", "_law_sign", "_law_flags", "_law_some", "_law_one", "_law_low", "_law_high"]
def ts__law_takes : List T := [
  .ife (.cmp .eq (.ix (.sl 0) (.ki 0)) (.ks [97, 110, 121])) [.ret (.or [(.ix (.sl 2) (.ki 1)), (.cmp .ne (.sl 1) (.ks [10]))])] [],
  .set 3 (.lst [(.sl 1)]),
  .ife (.ix (.sl 2) (.ki 0)) [.ex (.bm n_append (.sl 3) [(.call nm__law_twin [(.sl 1)] [] [])])] [],
  .ife (.cmp .eq (.ix (.sl 0) (.ki 0)) (.ks [115, 105, 103, 110])) [.ret (.cmp .inn (.ix (.sl 0) (.ki 1)) (.sl 3))] [],
  .for (.n 4) .ex [(.sl 3)] [.ife (.cmp .ne (.lc (.t [(.n 5), (.n 6)]) [5, 6] .ex [(.ix (.sl 0) (.ki 1))] [(.chain .le .le (.call nm__law_rank [(.sl 5)] [] []) (.call nm__law_rank [(.sl 4)] [] []) (.call nm__law_rank [(.sl 6)] [] []))] (.ki 1)) (.lst [])) [.ret (.not (.ix (.sl 0) (.ki 2)))] []],
  .ret (.ix (.sl 0) (.ki 2))]
def N__law_unlike : List PySem.Str := ["_law_rows", "_law_found", "_law_row_here"]
def ts__law_unlike : List T := [
  .set 1 (.lst []),
  .for (.n 2) .ex [(.sl 0)] [.ife (.cmp .nin (.sl 2) (.sl 1)) [.ex (.bm n_append (.sl 1) [(.sl 2)])] []],
  .ret (.sl 1)]
def N__law_sees : List PySem.Str := ["_law_node", "_law_case", "_law_at", "_law_spans", "_law_flags", "_law_way", "_law_found", "_law_begin", "_law_one"]
def ts__law_sees : List T := [
  .set 5 (.ix (.sl 0) (.ki 1)),
  .set 6 (.call nm__law_ways [(.ix (.sl 0) (.ki 2)), (.sl 1), (.sl 2), (.sl 3), (.sl 4)] [] []),
  .ife (.cmp .inn (.sl 5) (.tup [(.ks [98, 101, 104, 105, 110, 100]), (.ks [110, 111, 98, 101, 104, 105, 110, 100])])) [.set 6 (.lst []), .for (.n 7) .rng [(.bin .add (.sl 2) (.ki 1))] [.ex (.bm n_extend (.sl 6) [(.lc (.n 8) [8] .ex [(.call nm__law_ways [(.ix (.sl 0) (.ki 2)), (.sl 1), (.sl 7), (.sl 3), (.sl 4)] [] [])] [(.cmp .eq (.ix (.sl 8) (.ki 0)) (.sl 2))] (.sl 8))])]] [],
  .ret (.cmp .eq (.cmp .ne (.sl 6) (.lst [])) (.cmp .inn (.sl 5) (.tup [(.ks [97, 104, 101, 97, 100]), (.ks [98, 101, 104, 105, 110, 100])])))]
def N__law_back : List PySem.Str := ["_law_node", "_law_case", "_law_at", "_law_spans", "_law_flags", "_law_which", "_law_taken", "_law_there", "_law_begin", "_law_end"]
def ts__law_back : List T := [
  .set 5 (.ix (.sl 0) (.ki 1)),
  .ife (.isi (.sl 5) [n_str]) [.set 5 (.bin .add (.bm n_index (.ix (.sl 1) (.ki 1)) [(.sl 5)]) (.ki 1))] [],
  .ife (.cmp .isn (.ix (.sl 3) (.bin .sub (.sl 5) (.ki 1))) .kn) [.ret (.lst [])] [],
  .asg (.t [(.n 8), (.n 9)]) (.ix (.sl 3) (.bin .sub (.sl 5) (.ki 1))),
  .set 6 (.sli (.ix (.sl 1) (.ki 0)) (.sl 8) (.sl 9)),
  .set 7 (.sli (.ix (.sl 1) (.ki 0)) (.sl 2) (.bin .add (.sl 2) (.bi n_len [(.sl 6)]))),
  .ife (.or [(.cmp .eq (.sl 6) (.sl 7)), (.and [(.ix (.sl 4) (.ki 0)), (.cmp .eq (.bm n_lower (.sl 6) []) (.bm n_lower (.sl 7) []))])]) [.ret (.lst [(.tup [(.bin .add (.sl 2) (.bi n_len [(.sl 6)])), (.sl 3)])])] [],
  .ret (.lst [])]
def N__law_rounds : List PySem.Str := ["_law_node", "_law_case", "_law_at", "_law_spans", "_law_flags", "_law_done", "_law_been", "_law_state", "_law_further", "_law_here", "_law_part", "_law_least", "_law_top", "_law_mood", "_law_end", "_law_after"]
def ts__law_rounds : List T := [
  .asg (.t [(.n 10), (.n 11), (.n 12), (.n 13)]) (.sli (.sl 0) (.ki 1) .kn),
  .set 7 (.tup [(.sl 5), (.sl 2), (.sl 3)]),
  .ife (.cmp .isn (.sl 12) .kn) [.set 7 (.tup [(.bi n_min [(.sl 5), (.sl 11)]), (.sl 2), (.sl 3)])] [],
  .ife (.cmp .inn (.sl 7) (.sl 6)) [.ret (.lst [])] [],
  .sub (.sl 6) (.sl 7) (.kb true),
  .set 8 (.lst []),
  .ife (.or [(.cmp .isn (.sl 12) .kn), (.cmp .lt (.sl 5) (.sl 12))]) [.for (.t [(.n 14), (.n 15)]) .ex [(.call nm__law_ways [(.sl 10), (.sl 1), (.sl 2), (.sl 3), (.sl 4)] [] [])] [.ex (.bm n_extend (.sl 8) [(.call nm__law_rounds [(.sl 0), (.sl 1), (.sl 14), (.sl 15), (.sl 4), (.bin .add (.sl 5) (.ki 1)), (.sl 6)] [] [])])]] [],
  .set 9 (.bin .mul (.lst [(.tup [(.sl 2), (.sl 3)])]) (.bi n_int [(.cmp .ge (.sl 5) (.sl 11))])),
  .ife (.cmp .eq (.sl 13) (.ks [102, 101, 119])) [.ret (.call nm__law_unlike [(.bin .add (.sl 9) (.sl 8))] [] [])] [],
  .ret (.call nm__law_unlike [(.bin .add (.sl 8) (.sl 9))] [] [])]
def N__law_row : List PySem.Str := ["_law_parts", "_law_case", "_law_at", "_law_spans", "_law_flags", "_law_found", "_law_part", "_law_longer", "_law_end", "_law_after"]
def ts__law_row : List T := [
  .set 5 (.lst [(.tup [(.sl 2), (.sl 3)])]),
  .for (.n 6) .ex [(.sl 0)] [.set 7 (.lst []), .for (.t [(.n 8), (.n 9)]) .ex [(.sl 5)] [.ex (.bm n_extend (.sl 7) [(.call nm__law_ways [(.sl 6), (.sl 1), (.sl 8), (.sl 9), (.sl 4)] [] [])])], .set 5 (.call nm__law_unlike [(.sl 7)] [] [])],
  .ret (.sl 5)]
def N__law_within : List PySem.Str := ["_law_flags", "_law_node", "_law_found", "_law_k", "_law_letter"]
def ts__law_within : List T := [
  .set 2 (.lst []),
  .for (.t [(.n 3), (.n 4)]) .en [(.lst [(.ks [97]), (.ks [108])])] [.ex (.bm n_append (.sl 2) [(.and [(.or [(.ix (.sl 0) (.sl 3)), (.cmp .inn (.sl 4) (.ix (.sl 1) (.ki 1)))]), (.cmp .nin (.sl 4) (.ix (.sl 1) (.ki 2)))])])],
  .ret (.bi n_tuple [(.sl 2)])]
def N__law_ways : List PySem.Str := ["_law_node", "_law_case", "_law_at", "_law_spans", "_law_flags", "_law_word", "_law_taken", "_law_found", "_law_part", "_law_k", "_law_some", "_law_end", "_law_after"]
def ts__law_ways : List T := [
  .set 5 (.ix (.sl 0) (.ki 0)),
  .ife (.cmp .inn (.sl 5) (.tup [(.ks [115, 105, 103, 110]), (.ks [97, 110, 121]), (.ks [115, 101, 116])])) [.set 6 (.and [(.cmp .lt (.sl 2) (.bi n_len [(.ix (.sl 1) (.ki 0))])), (.call nm__law_takes [(.sl 0), (.ix (.ix (.sl 1) (.ki 0)) (.sl 2)), (.sl 4)] [] [])]), .ret (.bin .mul (.lst [(.tup [(.bin .add (.sl 2) (.ki 1)), (.sl 3)])]) (.bi n_int [(.sl 6)]))] [],
  .ife (.cmp .eq (.sl 5) (.ks [114, 111, 119])) [.ret (.call nm__law_row [(.ix (.sl 0) (.ki 1)), (.sl 1), (.sl 2), (.sl 3), (.sl 4)] [] [])] [],
  .ife (.cmp .eq (.sl 5) (.ks [99, 104, 111, 105, 99, 101])) [.set 7 (.lst []), .for (.n 8) .ex [(.ix (.sl 0) (.ki 1))] [.ex (.bm n_extend (.sl 7) [(.call nm__law_ways [(.sl 8), (.sl 1), (.sl 2), (.sl 3), (.sl 4)] [] [])])], .ret (.call nm__law_unlike [(.sl 7)] [] [])] [],
  .ife (.cmp .eq (.sl 5) (.ks [109, 97, 110, 121])) [.set 7 (.call nm__law_rounds [(.sl 0), (.sl 1), (.sl 2), (.sl 3), (.sl 4), (.ki 0), (.dic [] [])] [] []), .ret (.ix (.lst [(.sl 7), (.sli (.sl 7) .kn (.ki 1))]) (.bi n_int [(.cmp .eq (.ix (.sl 0) (.ki 4)) (.ks [111, 110, 99, 101]))]))] [],
  .ife (.cmp .eq (.sl 5) (.ks [103, 114, 111, 117, 112])) [.set 9 (.ix (.sl 0) (.ki 1)), .set 10 (.call nm__law_ways [(.ix (.sl 0) (.ki 2)), (.sl 1), (.sl 2), (.sl 3), (.sl 4)] [] []), .ret (.call nm__law_unlike [(.lc (.t [(.n 11), (.n 12)]) [11, 12] .ex [(.sl 10)] [] (.tup [(.sl 11), (.bin .add (.bin .add (.sli (.sl 12) .kn (.bin .sub (.sl 9) (.ki 1))) (.tup [(.tup [(.sl 2), (.sl 11)])])) (.sli (.sl 12) (.sl 9) .kn))]))] [] [])] [],
  .ife (.cmp .eq (.sl 5) (.ks [111, 110, 99, 101])) [.ret (.sli (.call nm__law_ways [(.ix (.sl 0) (.ki 1)), (.sl 1), (.sl 2), (.sl 3), (.sl 4)] [] []) .kn (.ki 1))] [],
  .ife (.cmp .eq (.sl 5) (.ks [102, 108, 97, 103, 115])) [.ret (.call nm__law_ways [(.ix (.sl 0) (.ki 3)), (.sl 1), (.sl 2), (.sl 3), (.call nm__law_within [(.sl 4), (.sl 0)] [] [])] [] [])] [],
  .ife (.cmp .eq (.sl 5) (.ks [108, 111, 111, 107])) [.ret (.bin .mul (.lst [(.tup [(.sl 2), (.sl 3)])]) (.bi n_int [(.call nm__law_sees [(.sl 0), (.sl 1), (.sl 2), (.sl 3), (.sl 4)] [] [])]))] [],
  .ife (.cmp .eq (.sl 5) (.ks [98, 97, 99, 107])) [.ret (.call nm__law_back [(.sl 0), (.sl 1), (.sl 2), (.sl 3), (.sl 4)] [] [])] [],
  .ret (.bin .mul (.lst [(.tup [(.sl 2), (.sl 3)])]) (.bi n_int [(.call nm__law_edge [(.ix (.sl 0) (.ki 1)), (.ix (.sl 1) (.ki 0)), (.sl 2)] [] [])]))]
def N__law_among : List PySem.Str := ["_law_thing", "_law_some"]
def ts__law_among : List T := [
  .ret (.and [(.isi (.sl 0) [n_str]), (.cmp .inn (.sl 0) (.sl 1))])]
def N__law_count : List PySem.Str := ["_law_thing", "_law_low", "_law_high"]
def ts__law_count : List T := [
  .ret (.and [(.isi (.sl 0) [n_int]), (.not (.isi (.sl 0) [n_bool])), (.chain .le .le (.sl 1) (.sl 0) (.sl 2))])]
def N__law_sign : List PySem.Str := ["_law_thing"]
def ts__law_sign : List T := [
  .ret (.and [(.isi (.sl 0) [n_str]), (.cmp .eq (.bi n_len [(.sl 0)]) (.ki 1)), (.cmp .inn (.sl 0) (.call nm__law_order [] [] []))])]
def N__law_name : List PySem.Str := ["_law_thing", "_law_sign_here"]
def ts__law_name : List T := [
  .ife (.or [(.not (.isi (.sl 0) [n_str])), (.not (.chain .le .le (.ki 1) (.bi n_len [(.sl 0)]) (.ki 8)))]) [.ret (.kb false)] [],
  .ret (.cmp .eq (.lc (.n 1) [1] .ex [(.sl 0)] [(.cmp .nin (.sl 1) (.ks [97, 98, 99, 100, 101, 102, 103, 104, 105, 106, 107, 108, 109, 110, 111, 112, 113, 114, 115, 116, 117, 118, 119, 120, 121, 122]))] (.sl 1)) (.lst []))]
def N__law_set_formed : List PySem.Str := ["_law_pairs", "_law_others", "_law_pair_here"]
def ts__law_set_formed : List T := [
  .ife (.or [(.not (.isi (.sl 0) [n_tuple])), (.not (.chain .le .le (.ki 1) (.bi n_len [(.sl 0)]) (.ki 9))), (.not (.isi (.sl 1) [n_bool]))]) [.ret (.kb false)] [],
  .for (.n 2) .ex [(.sl 0)] [.ife (.or [(.not (.isi (.sl 2) [n_tuple])), (.cmp .ne (.bi n_len [(.sl 2)]) (.ki 2)), (.not (.call nm__law_sign [(.ix (.sl 2) (.ki 0))] [] [])), (.not (.call nm__law_sign [(.ix (.sl 2) (.ki 1))] [] []))]) [.ret (.kb false)] [], .ife (.cmp .gt (.call nm__law_rank [(.ix (.sl 2) (.ki 0))] [] []) (.call nm__law_rank [(.ix (.sl 2) (.ki 1))] [] [])) [.ret (.kb false)] []],
  .ret (.kb true)]
def N__law_flags_formed : List PySem.Str := ["_law_on", "_law_off", "_law_letters", "_law_letter"]
def ts__law_flags_formed : List T := [
  .set 2 (.tup [(.ks []), (.ks [97]), (.ks [108]), (.ks [97, 108])]),
  .ife (.or [(.not (.call nm__law_among [(.sl 0), (.sl 2)] [] [])), (.not (.call nm__law_among [(.sl 1), (.sl 2)] [] []))]) [.ret (.kb false)] [],
  .ret (.and [(.cmp .ne (.tup [(.sl 0), (.sl 1)]) (.tup [(.ks []), (.ks [])])), (.cmp .eq (.lc (.n 3) [3] .ex [(.sl 0)] [(.cmp .inn (.sl 3) (.sl 1))] (.sl 3)) (.lst []))])]
def N__law_form_fault : List PySem.Str := ["_law_thing", "_law_path", "_law_k", "_law_part", "_law_found"]
def ts__law_form_fault : List T := [
  .ife (.cmp .gt (.bi n_len [(.sl 1)]) (.ki 39)) [.ret (.tup [(.ks [100, 101, 101, 112]), (.sl 1)])] [],
  .ife (.not (.call nm__law_formed [(.sl 0)] [] [])) [.ret (.tup [(.ks [102, 111, 114, 109]), (.sl 1)])] [],
  .for (.t [(.n 2), (.n 3)]) .en [(.call nm__law_parts [(.sl 0)] [] [])] [.set 4 (.call nm__law_form_fault [(.sl 3), (.bin .add (.sl 1) (.tup [(.sl 2)]))] [] []), .ife (.cmp .notn (.sl 4) .kn) [.ret (.sl 4)] []],
  .ret .kn]
def N__law_in_order : List PySem.Str := ["_law_tree_here", "_law_path", "_law_within", "_law_found", "_law_k", "_law_part"]
def ts__law_in_order : List T := [
  .set 3 (.lst [(.tup [(.sl 1), (.sl 0), (.sl 2)])]),
  .for (.t [(.n 4), (.n 5)]) .en [(.call nm__law_parts [(.sl 0)] [] [])] [.ex (.bm n_extend (.sl 3) [(.call nm__law_in_order [(.sl 5), (.bin .add (.sl 1) (.tup [(.sl 4)])), (.or [(.sl 2), (.cmp .eq (.ix (.sl 0) (.ki 0)) (.ks [108, 111, 111, 107]))])] [] [])])],
  .ret (.sl 3)]
def N__law_spoilt : List PySem.Str := ["_law_bag_here", "_law_text", "_law_signs", "_law_at", "_law_way", "_law_sign", "_law_ahead"]
def ts__law_spoilt : List T := [
  .set 2 (.ks [40, 41, 91, 93, 123, 125, 124, 42, 43, 63, 126, 33, 46, 92, 38, 59, 64, 58, 35, 60, 62, 94, 36, 47, 45, 44, 48, 49, 50, 57, 97, 110, 9]),
  .set 2 (.bin .add (.sl 2) (.ix (.call nm__law_order [] [] []) (.call nm__law_take [(.sl 0), (.ki 95)] [] []))),
  .set 3 (.call nm__law_take [(.sl 0), (.bin .add (.bi n_len [(.sl 1)]) (.ki 1))] [] []),
  .set 4 (.call nm__law_take [(.sl 0), (.ki 4)] [] []),
  .set 5 (.ix (.sl 2) (.call nm__law_take [(.sl 0), (.bi n_len [(.sl 2)])] [] [])),
  .ife (.cmp .lt (.sl 4) (.ki 2)) [.ret (.bin .add (.bin .add (.sli (.sl 1) .kn (.sl 3)) (.sl 5)) (.sli (.sl 1) (.bin .add (.sl 3) (.sl 4)) .kn))] [],
  .ife (.cmp .eq (.sl 4) (.ki 2)) [.ret (.bin .add (.sli (.sl 1) .kn (.sl 3)) (.sli (.sl 1) (.bin .add (.sl 3) (.ki 1)) .kn))] [],
  .set 6 (.bin .add (.sli (.sl 1) .kn (.sl 3)) (.sli (.sl 1) (.bin .add (.sl 3) (.ki 1)) (.bin .add (.sl 3) (.ki 2)))),
  .ret (.bin .add (.bin .add (.sl 6) (.sli (.sl 1) (.sl 3) (.bin .add (.sl 3) (.ki 1)))) (.sli (.sl 1) (.bin .add (.sl 3) (.ki 2)) .kn))]
def N__law_here : List PySem.Str := ["_law_tree_here", "_law_within", "_law_told", "_law_names_here", "_law_there"]
def ts__law_here : List T := [
  .ife (.and [(.cmp .eq (.ix (.sl 0) (.ki 0)) (.ks [103, 114, 111, 117, 112])), (.cmp .ne (.ix (.sl 0) (.ki 1)) (.ks [])), (.cmp .inn (.ix (.sl 0) (.ki 1)) (.sl 2))]) [.ret (.ks [116, 119, 105, 99, 101])] [],
  .ife (.and [(.cmp .eq (.ix (.sl 0) (.ki 0)) (.ks [103, 114, 111, 117, 112])), (.cmp .gt (.bi n_len [(.sl 2)]) (.ki 8))]) [.ret (.ks [103, 114, 111, 117, 112, 115])] [],
  .ife (.and [(.cmp .eq (.ix (.sl 0) (.ki 0)) (.ks [103, 114, 111, 117, 112])), (.sl 1)]) [.ret (.ks [105, 110, 110, 101, 114])] [],
  .ife (.cmp .eq (.ix (.sl 0) (.ki 0)) (.ks [98, 97, 99, 107])) [.set 4 (.ix (.lst [(.cmp .inn (.ix (.sl 0) (.ki 1)) (.sl 3)), (.and [(.isi (.ix (.sl 0) (.ki 1)) [n_int]), (.cmp .le (.ix (.sl 0) (.ki 1)) (.bi n_len [(.sl 3)]))])]) (.bi n_int [(.isi (.ix (.sl 0) (.ki 1)) [n_int])])), .ret (.ix (.lst [(.ks [98, 97, 99, 107]), (.ks [])]) (.bi n_int [(.sl 4)]))] [],
  .ife (.and [(.cmp .eq (.ix (.sl 0) (.ki 0)) (.ks [109, 97, 110, 121])), (.cmp .isn (.ix (.sl 0) (.ki 3)) .kn), (.call nm__law_idle [(.ix (.sl 0) (.ki 1))] [] [])]) [.ret (.ks [101, 109, 112, 116, 121])] [],
  .ret (.ks [])]
def N__law_shown_sign : List PySem.Str := ["_law_sign", "_law_some"]
def ts__law_shown_sign : List T := [
  .ife (.cmp .eq (.sl 0) (.ks [10])) [.ret (.ks [92, 110])] [],
  .ret (.bin .add (.bin .mul (.ks [92]) (.bi n_int [(.cmp .inn (.sl 0) (.sl 1))])) (.sl 0))]
def N__law_entry : List PySem.Str := ["_law_pair_here", "_law_some", "_law_sign"]
def ts__law_entry : List T := [
  .set 1 (.lc (.n 2) [2] .ex [(.sl 0)] [] (.call nm__law_shown_sign [(.sl 2), (.ks [93, 92, 94, 45])] [] [])),
  .ret (.bm n_join (.ks [45]) [(.sli (.sl 1) .kn (.bin .add (.ki 1) (.bi n_int [(.cmp .ne (.ix (.sl 0) (.ki 0)) (.ix (.sl 0) (.ki 1)))])))])]
def N__law_item : List PySem.Str := ["_law_tree_here"]
def ts__law_item : List T := [
  .ife (.cmp .eq (.ix (.sl 0) (.ki 0)) (.ks [109, 97, 110, 121])) [.ret (.bin .add (.call nm__law_atom [(.ix (.sl 0) (.ki 1))] [] []) (.call nm__law_times [(.ix (.sl 0) (.ki 2)), (.ix (.sl 0) (.ki 3)), (.ix (.sl 0) (.ki 4))] [] []))] [],
  .ret (.call nm__law_atom [(.sl 0)] [] [])]
def N__law_option : List PySem.Str := ["_law_tree_here", "_law_part"]
def ts__law_option : List T := [
  .ife (.cmp .eq (.ix (.sl 0) (.ki 0)) (.ks [114, 111, 119])) [.ret (.bm n_join (.ks []) [(.lc (.n 1) [1] .ex [(.ix (.sl 0) (.ki 1))] [] (.call nm__law_item [(.sl 1)] [] []))])] [],
  .ret (.call nm__law_item [(.sl 0)] [] [])]
def N__law_show : List PySem.Str := ["_law_tree_here", "_law_part"]
def ts__law_show : List T := [
  .ife (.cmp .eq (.ix (.sl 0) (.ki 0)) (.ks [99, 104, 111, 105, 99, 101])) [.ret (.bm n_join (.ks [124]) [(.lc (.n 1) [1] .ex [(.ix (.sl 0) (.ki 1))] [] (.call nm__law_option [(.sl 1)] [] []))])] [],
  .ret (.call nm__law_option [(.sl 0)] [] [])]
def N__law_closed : List PySem.Str := ["_law_frame_here", "_law_options", "_law_trees", "_law_tree", "_law_items"]
def ts__law_closed : List T := [
  .set 1 (.bin .add (.ix (.sl 0) (.ks [111, 112, 116, 105, 111, 110, 115])) (.lst [(.ix (.sl 0) (.ks [105, 116, 101, 109, 115]))])),
  .set 2 (.lc (.n 4) [4] .ex [(.sl 1)] [] (.ix (.lst [(.tup [(.ks [114, 111, 119]), (.bi n_tuple [(.sl 4)])]), (.ix (.bin .add (.sl 4) (.lst [.kn])) (.ki 0))]) (.bi n_int [(.cmp .eq (.bi n_len [(.sl 4)]) (.ki 1))]))),
  .set 3 (.ix (.lst [(.tup [(.ks [99, 104, 111, 105, 99, 101]), (.bi n_tuple [(.sl 2)])]), (.ix (.sl 2) (.ki 0))]) (.bi n_int [(.cmp .eq (.bi n_len [(.sl 2)]) (.ki 1))])),
  .ret (.ix (.lst [(.bin .add (.ix (.sl 0) (.ks [104, 101, 97, 100])) (.tup [(.sl 3)])), (.sl 3)]) (.bi n_int [(.cmp .eq (.ix (.sl 0) (.ks [104, 101, 97, 100])) (.tup []))]))]
def N__law_times_put : List PySem.Str := ["_law_state", "_law_least", "_law_top", "_law_frame_here"]
def ts__law_times_put : List T := [
  .set 3 (.ix (.ix (.sl 0) (.ks [102, 114, 97, 109, 101, 115])) (.neg (.ki 1))),
  .sub (.ix (.sl 3) (.ks [105, 116, 101, 109, 115])) (.neg (.ki 1)) (.tup [(.ks [109, 97, 110, 121]), (.ix (.ix (.sl 3) (.ks [105, 116, 101, 109, 115])) (.neg (.ki 1))), (.sl 1), (.sl 2), (.ks [109, 111, 115, 116])]),
  .sub (.sl 3) (.ks [102, 114, 101, 115, 104]) .kn,
  .sub (.sl 0) (.ks [116, 105, 109, 101, 100]) (.kb true),
  .sub (.sl 0) (.ks [109, 111, 100, 101]) (.ks [109, 111, 111, 100]),
  .ret (.kb true)]
def N__law_one : List PySem.Str := ["_law_state", "_law_sign", "_law_high", "_law_low"]
def ts__law_one : List T := [
  .set 3 (.ix (.sl 0) (.ks [108, 111, 119])),
  .ife (.and [(.sl 2), (.cmp .lt (.call nm__law_rank [(.sl 1)] [] []) (.call nm__law_rank [(.sl 3)] [] []))]) [.ret (.kb false)] [],
  .ife (.sl 2) [.sub (.ix (.sl 0) (.ks [112, 97, 105, 114, 115])) (.neg (.ki 1)) (.tup [(.sl 3), (.sl 1)]), .sub (.sl 0) (.ks [109, 111, 100, 101]) (.ks [101, 110, 116, 114, 121])] [.ex (.bm n_append (.ix (.sl 0) (.ks [112, 97, 105, 114, 115])) [(.tup [(.sl 1), (.sl 1)])]), .sub (.sl 0) (.ks [108, 111, 119]) (.sl 1), .sub (.sl 0) (.ks [109, 111, 100, 101]) (.ks [100, 97, 115, 104])],
  .ret (.kb true)]
def N__law_strokes : List PySem.Str := ["_law_state", "_law_found", "_law_sign"]
def ts__law_strokes : List T := [
  .set 1 (.lc (.n 2) [2] .ex [(.ks [93, 92, 94, 45])] [(.cmp .ge (.call nm__law_rank [(.sl 2)] [] []) (.call nm__law_rank [(.ix (.sl 0) (.ks [108, 111, 119]))] [] []))] (.sl 2)),
  .ret (.bin .add (.sl 1) (.bin .mul (.lst [(.ks [110])]) (.bi n_int [(.cmp .eq (.ix (.sl 0) (.ks [108, 111, 119])) (.ks [10]))])))]
def N__law_sign_read : List PySem.Str := ["_law_state", "_law_sign", "_law_mode", "_law_frame_here", "_law_kinds"]
def ts__law_sign_read : List T := [
  .set 2 (.ix (.sl 0) (.ks [109, 111, 100, 101])),
  .set 3 (.ix (.ix (.sl 0) (.ks [102, 114, 97, 109, 101, 115])) (.neg (.ki 1))),
  .ife (.cmp .eq (.sl 2) (.ks [109, 111, 111, 100])) [.sub (.sl 0) (.ks [109, 111, 100, 101]) (.ks [103, 111]), .ife (.cmp .inn (.sl 1) (.ks [126, 33])) [.sub (.ix (.sl 3) (.ks [105, 116, 101, 109, 115])) (.neg (.ki 1)) (.bin .add (.sli (.ix (.ix (.sl 3) (.ks [105, 116, 101, 109, 115])) (.neg (.ki 1))) .kn (.ki 4)) (.tup [(.ix (.lst [(.ks [102, 101, 119]), (.ks [111, 110, 99, 101])]) (.bi n_int [(.cmp .eq (.sl 1) (.ks [33]))]))])), .ret (.kb true)] [], .ret (.call nm__law_go [(.sl 0), (.sl 1)] [] [])] [],
  .ife (.cmp .eq (.sl 2) (.ks [108, 111, 111, 107])) [.sub (.sl 0) (.ks [109, 111, 100, 101]) (.ks [103, 111]), .ife (.cmp .eq (.sl 1) (.ks [126])) [.sub (.sl 3) (.ks [104, 101, 97, 100]) (.tup [(.ks [108, 111, 111, 107]), (.bin .add (.ks [110, 111]) (.ix (.ix (.sl 3) (.ks [104, 101, 97, 100])) (.ki 1)))]), .ret (.kb true)] [], .ret (.call nm__law_go [(.sl 0), (.sl 1)] [] [])] [],
  .ife (.cmp .eq (.sl 2) (.ks [103, 111])) [.ret (.call nm__law_go [(.sl 0), (.sl 1)] [] [])] [],
  .ife (.cmp .eq (.sl 2) (.ks [101, 115, 99, 97, 112, 101])) [.ife (.and [(.cmp .ne (.sl 1) (.ks [110])), (.cmp .nin (.sl 1) (.ks [40, 41, 91, 93, 123, 125, 124, 42, 43, 63, 126, 33, 46, 92, 38, 59, 64, 58, 35, 60, 62]))]) [.ret (.kb false)] [], .ret (.call nm__law_put_atom [(.sl 0), (.tup [(.ks [115, 105, 103, 110]), (.ix (.lst [(.sl 1), (.ks [10])]) (.bi n_int [(.cmp .eq (.sl 1) (.ks [110]))]))])] [] [])] [],
  .ife (.cmp .eq (.sl 2) (.ks [101, 100, 103, 101])) [.ife (.cmp .nin (.sl 1) (.ks [60, 62, 94, 36, 47, 45])) [.ret (.kb false)] [], .set 4 (.lst [(.ks [115, 116, 97, 114, 116]), (.ks [101, 110, 100]), (.ks [114, 111, 119, 115, 116, 97, 114, 116]), (.ks [114, 111, 119, 101, 110, 100]), (.ks [119, 111, 114, 100]), (.ks [105, 110, 110, 101, 114])]), .ret (.call nm__law_put_atom [(.sl 0), (.tup [(.ks [101, 100, 103, 101]), (.ix (.sl 4) (.bm n_index (.ks [60, 62, 94, 36, 47, 45]) [(.sl 1)]))])] [] [])] [],
  .ret (.call nm__law_word_modes [(.sl 0), (.sl 1)] [] [])]
def N__law_name_text : List PySem.Str := ["_law_bag_here", "_law_k"]
def ts__law_name_text : List T := [
  .ret (.bm n_join (.ks []) [(.lc (.n 1) [1] .rng [(.bin .add (.ki 1) (.call nm__law_take [(.sl 0), (.ki 8)] [] []))] [] (.ix (.ks [97, 98, 99, 100, 101, 102, 103, 104, 105, 106, 107, 108, 109, 110, 111, 112, 113, 114, 115, 116, 117, 118, 119, 120, 121, 122]) (.call nm__law_take [(.sl 0), (.ki 26)] [] [])))])]
def N__law_choice_text : List PySem.Str := ["_law_bag_here", "_law_deep", "_law_options", "_law_k", "_law_items", "_law_j"]
def ts__law_choice_text : List T := [
  .set 2 (.lst []),
  .for (.n 3) .rng [(.bin .add (.ki 1) (.call nm__law_take [(.sl 0), (.ix (.lst [(.ki 1), (.ki 3)]) (.call nm__law_take [(.sl 0), (.ki 2)] [] []))] [] []))] [.set 4 (.lst []), .for (.n 5) .rng [(.call nm__law_take [(.sl 0), (.ki 5)] [] [])] [.ex (.bm n_append (.sl 4) [(.bin .add (.call nm__law_atom_text [(.sl 0), (.sl 1)] [] []) (.ix (.lst [(.call nm__law_times_text [(.sl 0)] [] []), (.ks []), (.ks [])]) (.call nm__law_take [(.sl 0), (.ki 3)] [] [])))])], .ex (.bm n_append (.sl 2) [(.bm n_join (.ks []) [(.sl 4)])])],
  .ret (.bm n_join (.ks [124]) [(.sl 2)])]
def N__law_inner : List PySem.Str := ["_law_code", "_law_text_here", "_law_state", "_law_goal", "_law_there", "_law_told", "_law_was", "_law_found"]
def ts__law_inner : List T := [
  .set 6 (.ix (.sl 5) (.ks [97, 108, 108])),
  .sub (.sl 5) (.ks [97, 108, 108]) (.kb false),
  .set 7 (.call nm__law_entered [(.sl 0), (.sl 1), (.sl 2), (.sl 3), (.sl 4), (.sl 5)] [] []),
  .sub (.sl 5) (.ks [97, 108, 108]) (.sl 6),
  .ret (.ix (.bin .add (.sl 7) (.lst [.kn])) (.ki 0))]
def N__law_behind : List PySem.Str := ["_law_code", "_law_text_here", "_law_state", "_law_told", "_law_word", "_law_row", "_law_at", "_law_spans", "_law_noted", "_law_k", "_law_far_here", "_law_found", "_law_one"]
def ts__law_behind : List T := [
  .asg (.t [(.n 5), (.n 6), (.n 7), (.n 8)]) (.sl 2),
  .set 4 (.ix (.ix (.sl 0) (.sl 5)) (.ki 0)),
  .ife (.cmp .eq (.sl 4) (.ks [114, 101, 97, 100])) [.ret (.bin .mul (.lst [(.tup [(.bin .add (.sl 5) (.ki 1)), (.bin .add (.sl 6) (.ki 1)), (.sl 7), (.sl 8)])]) (.bi n_int [(.and [(.cmp .lt (.sl 6) (.bi n_len [(.sl 1)])), (.call nm__law_held [(.ix (.ix (.sl 0) (.sl 5)) (.ki 1)), (.ix (.sl 1) (.sl 6))] [] [])])]))] [],
  .ife (.cmp .eq (.sl 4) (.ks [102, 111, 114, 107])) [.ret (.lst [(.tup [(.ix (.ix (.sl 0) (.sl 5)) (.ki 1)), (.sl 6), (.sl 7), (.sl 8)]), (.tup [(.ix (.ix (.sl 0) (.sl 5)) (.ki 2)), (.sl 6), (.sl 7), (.sl 8)])])] [],
  .ife (.cmp .eq (.sl 4) (.ks [103, 111])) [.ret (.lst [(.tup [(.ix (.ix (.sl 0) (.sl 5)) (.ki 1)), (.sl 6), (.sl 7), (.sl 8)])])] [],
  .ife (.cmp .eq (.sl 4) (.ks [111, 112, 101, 110])) [.set 9 (.ix (.ix (.sl 0) (.sl 5)) (.ki 1)), .ret (.lst [(.tup [(.bin .add (.sl 5) (.ki 1)), (.sl 6), (.sl 7), (.bin .add (.bin .add (.sli (.sl 8) .kn (.bin .sub (.sl 9) (.ki 1))) (.tup [(.sl 6)])) (.sli (.sl 8) (.sl 9) .kn))])])] [],
  .ife (.cmp .eq (.sl 4) (.ks [99, 108, 111, 115, 101])) [.set 9 (.ix (.ix (.sl 0) (.sl 5)) (.ki 1)), .ret (.lst [(.tup [(.bin .add (.sl 5) (.ki 1)), (.sl 6), (.bin .add (.bin .add (.sli (.sl 7) .kn (.bin .sub (.sl 9) (.ki 1))) (.tup [(.tup [(.ix (.sl 8) (.bin .sub (.sl 9) (.ki 1))), (.sl 6)])])) (.sli (.sl 7) (.sl 9) .kn)), (.sl 8)])])] [],
  .ife (.cmp .eq (.sl 4) (.ks [101, 100, 103, 101])) [.ret (.bin .mul (.lst [(.tup [(.bin .add (.sl 5) (.ki 1)), (.sl 6), (.sl 7), (.sl 8)])]) (.bi n_int [(.call nm__law_edge [(.ix (.ix (.sl 0) (.sl 5)) (.ki 1)), (.sl 1), (.sl 6)] [] [])]))] [],
  .ife (.cmp .eq (.sl 4) (.ks [98, 97, 99, 107])) [.set 10 (.call nm__law_far [(.sl 1), (.ix (.sl 7) (.bin .sub (.ix (.ix (.sl 0) (.sl 5)) (.ki 1)) (.ki 1))), (.sl 6), (.ix (.ix (.sl 0) (.sl 5)) (.ki 2))] [] []), .ret (.bin .mul (.lst [(.tup [(.bin .add (.sl 5) (.ki 1)), (.sl 10), (.sl 7), (.sl 8)])]) (.bi n_int [(.cmp .notn (.sl 10) .kn)]))] [],
  .ife (.cmp .eq (.sl 4) (.ks [111, 110, 99, 101])) [.set 11 (.call nm__law_inner [(.sl 0), (.sl 1), (.tup [(.bin .add (.sl 5) (.ki 1)), (.sl 6), (.sl 7), (.sl 8)]), (.bin .sub (.ix (.ix (.sl 0) (.sl 5)) (.ki 1)) (.ki 1)), .kn, (.sl 3)] [] []), .ret (.lc (.n 12) [12] .ex [(.lst [(.sl 11)])] [(.cmp .notn (.sl 12) .kn)] (.tup [(.ix (.ix (.sl 0) (.sl 5)) (.ki 1)), (.ix (.sl 12) (.ki 1)), (.ix (.sl 12) (.ki 2)), (.ix (.sl 12) (.ki 3))]))] [],
  .ret (.call nm__law_looked [(.sl 0), (.sl 1), (.sl 2), (.sl 3)] [] [])]
def N__law_signed : List PySem.Str := ["_law_code", "_law_signs_here", "_law_found", "_law_row", "_law_sign"]
def ts__law_signed : List T := [
  .set 2 (.lst []),
  .for (.n 3) .ex [(.sl 0)] [.ife (.cmp .eq (.ix (.sl 3) (.ki 0)) (.ks [114, 101, 97, 100])) [.set 3 (.tup [(.ks [114, 101, 97, 100]), (.bm n_join (.ks []) [(.lc (.n 4) [4] .ex [(.sl 1)] [(.call nm__law_held [(.ix (.sl 3) (.ki 1)), (.sl 4)] [] [])] (.sl 4))])])] [], .ex (.bm n_append (.sl 2) [(.sl 3)])],
  .ret (.sl 2)]
def N__law_step : List PySem.Str := ["_law_code", "_law_stand", "_law_sign", "_law_row"]
def ts__law_step : List T := [
  .ret (.call nm__law_come [(.sl 0), (.lc (.n 3) [3] .ex [(.sl 1)] [(.and [(.cmp .eq (.ix (.ix (.sl 0) (.sl 3)) (.ki 0)) (.ks [114, 101, 97, 100])), (.cmp .inn (.sl 2) (.ix (.ix (.sl 0) (.sl 3)) (.ki 1)))])] (.bin .add (.sl 3) (.ki 1)))] [] [])]
def N__law_with_none : List PySem.Str := ["_law_bag_here", "_law_tree_here", "_law_none", "_law_some"]
def ts__law_with_none : List T := [
  .set 2 (.tup [(.ks [115, 101, 116]), (.tup [(.tup [(.ks [10]), (.ks [126])])]), (.kb true)]),
  .set 3 (.lst [(.tup [(.ks [99, 104, 111, 105, 99, 101]), (.tup [(.sl 1), (.tup [(.ks [114, 111, 119]), (.tup [(.sl 2), (.tup [(.ks [97, 110, 121])])])])])]), (.tup [(.ks [114, 111, 119]), (.tup [(.tup [(.ks [109, 97, 110, 121]), (.sl 2), (.ki 0), (.ki 1), (.ks [102, 101, 119])]), (.sl 1)])])]),
  .ret (.ix (.bin .add (.sl 3) (.lst [(.sl 1), (.sl 1)])) (.call nm__law_take [(.sl 0), (.ki 4)] [] []))]
def N__law_otherwise : List PySem.Str := ["_law_bag_here", "_law_world_here", "_law_tree_here", "_law_word", "_law_way", "_law_leaf_here", "_law_at", "_law_part"]
def ts__law_otherwise : List T := [
  .set 3 (.ix (.sl 2) (.ki 0)),
  .set 4 (.call nm__law_take [(.sl 0), (.ki 4)] [] []),
  .ife (.and [(.cmp .inn (.sl 3) (.tup [(.ks [114, 111, 119]), (.ks [99, 104, 111, 105, 99, 101])])), (.cmp .gt (.sl 4) (.ki 0)), (.cmp .ne (.ix (.sl 2) (.ki 1)) (.tup []))]) [.set 6 (.call nm__law_take [(.sl 0), (.bi n_len [(.ix (.sl 2) (.ki 1))])] [] []), .ret (.tup [(.sl 3), (.bin .add (.bin .add (.sli (.ix (.sl 2) (.ki 1)) .kn (.sl 6)) (.tup [(.call nm__law_otherwise [(.sl 0), (.sl 1), (.ix (.ix (.sl 2) (.ki 1)) (.sl 6))] [] [])])) (.sli (.ix (.sl 2) (.ki 1)) (.bin .add (.sl 6) (.ki 1)) .kn))])] [],
  .ife (.and [(.cmp .inn (.sl 3) (.tup [(.ks [103, 114, 111, 117, 112]), (.ks [102, 108, 97, 103, 115])])), (.cmp .gt (.sl 4) (.ki 0))]) [.ret (.bin .add (.sli (.sl 2) .kn (.neg (.ki 1))) (.tup [(.call nm__law_otherwise [(.sl 0), (.sl 1), (.ix (.sl 2) (.neg (.ki 1)))] [] [])]))] [],
  .ife (.and [(.cmp .eq (.sl 3) (.ks [109, 97, 110, 121])), (.cmp .eq (.sl 4) (.ki 1)), (.cmp .notn (.ix (.sl 2) (.ki 3)) .kn)]) [.ret (.bin .add (.sli (.sl 2) .kn (.ki 3)) (.tup [(.bin .add (.ix (.sl 2) (.ki 3)) (.ki 1)), (.ix (.sl 2) (.ki 4))]))] [],
  .ife (.and [(.cmp .eq (.sl 3) (.ks [109, 97, 110, 121])), (.cmp .gt (.sl 4) (.ki 0))]) [.set 7 (.call nm__law_otherwise [(.sl 0), (.sl 1), (.ix (.sl 2) (.ki 1))] [] []), .ife (.and [(.cmp .isn (.ix (.sl 2) (.ki 3)) .kn), (.call nm__law_idle [(.sl 7)] [] [])]) [.set 7 (.ix (.sl 2) (.ki 1))] [], .ret (.bin .add (.tup [(.ks [109, 97, 110, 121]), (.sl 7)]) (.sli (.sl 2) (.ki 2) .kn))] [],
  .set 5 (.call nm__law_leaf [(.sl 0), (.sl 1)] [] []),
  .ret (.ix (.lst [(.sl 5), (.tup [(.ks [114, 111, 119]), (.tup [(.sl 2), (.sl 5)])]), (.tup [(.ks [99, 104, 111, 105, 99, 101]), (.tup [(.sl 2), (.sl 5)])]), (.tup [(.ks [109, 97, 110, 121]), (.sl 2), (.ki 0), (.ki 1), (.ks [109, 111, 115, 116])])]) (.call nm__law_take [(.sl 0), (.ki 4)] [] []))]
def N__law_moves : List PySem.Str := ["_law_code", "_law_row", "_law_word"]
def ts__law_moves : List T := [
  .set 2 (.ix (.ix (.sl 0) (.sl 1)) (.ki 0)),
  .ife (.cmp .eq (.sl 2) (.ks [102, 111, 114, 107])) [.ret (.lst [(.ix (.ix (.sl 0) (.sl 1)) (.ki 1)), (.ix (.ix (.sl 0) (.sl 1)) (.ki 2))])] [],
  .ife (.cmp .eq (.sl 2) (.ks [103, 111])) [.ret (.lst [(.ix (.ix (.sl 0) (.sl 1)) (.ki 1))])] [],
  .ret (.bin .mul (.lst [(.bin .add (.sl 1) (.ki 1))]) (.bi n_int [(.cmp .inn (.sl 2) (.tup [(.ks [111, 112, 101, 110]), (.ks [99, 108, 111, 115, 101])]))]))]
def N__law_counts : List PySem.Str := ["_law_code", "_law_text", "_law_at", "_law_found", "_law_sign", "_law_base", "_law_row"]
def ts__law_counts : List T := [
  .set 3 (.lst [(.call nm__law_spread [(.sl 0), (.bin .add (.lst [(.ki 1)]) (.bin .mul (.lst [(.ki 0)]) (.bin .sub (.bi n_len [(.sl 0)]) (.ki 1))))] [] [])]),
  .for (.n 4) .ex [(.sli (.sl 1) (.sl 2) .kn)] [.set 5 (.bin .mul (.lst [(.ki 0)]) (.bi n_len [(.sl 0)])), .for (.n 6) .rng [(.bi n_len [(.sl 0)])] [.ife (.and [(.cmp .gt (.ix (.ix (.sl 3) (.neg (.ki 1))) (.sl 6)) (.ki 0)), (.cmp .eq (.ix (.ix (.sl 0) (.sl 6)) (.ki 0)) (.ks [114, 101, 97, 100])), (.call nm__law_held [(.ix (.ix (.sl 0) (.sl 6)) (.ki 1)), (.sl 4)] [] [])]) [.augs (.sl 5) (.bin .add (.sl 6) (.ki 1)) .add (.ix (.ix (.sl 3) (.neg (.ki 1))) (.sl 6))] []], .ex (.bm n_append (.sl 3) [(.call nm__law_spread [(.sl 0), (.sl 5)] [] [])])],
  .ret (.sl 3)]
def N__law_leads : List PySem.Str := ["_law_code", "_law_row", "_law_text", "_law_choices", "_law_goal", "_law_at", "_law_left", "_law_turn", "_law_word"]
def ts__law_leads : List T := [
  .set 5 (.ki 0),
  .set 6 (.bi n_list [(.sl 3)]),
  .for (.n 7) .rng [(.bin .add (.bin .mul (.bi n_len [(.sl 0)]) (.bin .add (.bi n_len [(.sl 2)]) (.ki 1))) (.ki 1))] [.ife (.and [(.cmp .eq (.sl 6) (.lst [])), (.cmp .eq (.sl 5) (.bi n_len [(.sl 2)])), (.cmp .eq (.sl 1) (.sl 4))]) [.ret (.kb true)] [], .set 8 (.ix (.ix (.sl 0) (.sl 1)) (.ki 0)), .ife (.cmp .eq (.sl 8) (.ks [114, 101, 97, 100])) [.ife (.or [(.cmp .eq (.sl 5) (.bi n_len [(.sl 2)])), (.not (.call nm__law_held [(.ix (.ix (.sl 0) (.sl 1)) (.ki 1)), (.ix (.sl 2) (.sl 5))] [] []))]) [.ret (.kb false)] [], .set 5 (.bin .add (.sl 5) (.ki 1)), .set 1 (.bin .add (.sl 1) (.ki 1))] [.ife (.cmp .eq (.sl 8) (.ks [102, 111, 114, 107])) [.ife (.cmp .eq (.sl 6) (.lst [])) [.ret (.kb false)] [], .set 1 (.ix (.ix (.sl 0) (.sl 1)) (.bin .add (.ki 1) (.bm n_pop (.sl 6) [(.ki 0)])))] [.ife (.cmp .eq (.sl 8) (.ks [100, 111, 110, 101])) [.ret (.kb false)] [.set 1 (.ix (.call nm__law_moves [(.sl 0), (.sl 1)] [] []) (.ki 0))]]]],
  .ret (.kb false)]
def N__law_unlike_two : List PySem.Str := ["_law_one", "_law_other", "_law_thing", "_law_size_here", "_law_part"]
def ts__law_unlike_two : List T := [
  .for (.n 2) .ex [(.tup [(.sl 0), (.sl 1)])] [.ife (.or [(.not (.isi (.sl 2) [n_tuple])), (.cmp .ne (.lc (.n 4) [4] .ex [(.sl 2)] [(.or [(.isi (.sl 4) [n_bool]), (.cmp .nin (.sl 4) (.tup [(.ki 0), (.ki 1)]))])] (.ki 1)) (.lst []))]) [.ret (.kb false)] []],
  .set 3 (.bi n_min [(.bi n_len [(.sl 0)]), (.bi n_len [(.sl 1)])]),
  .ret (.cmp .ne (.sli (.sl 0) .kn (.sl 3)) (.sli (.sl 1) .kn (.sl 3)))]
def N__law_bent_part : List PySem.Str := ["_law_bag_here", "_law_world_here", "_law_leaf_here", "_law_other", "_law_some"]
def ts__law_bent_part : List T := [
  .set 2 (.call nm__law_leaf [(.sl 0), (.sl 1)] [] []),
  .set 3 (.call nm__law_leaf [(.sl 0), (.sl 1)] [] []),
  .set 4 (.lst [(.tup [(.ks [114, 111, 119]), (.tup [])]), (.tup [(.ks [109, 97, 110, 121]), (.sl 2), (.ki 1), (.ki 1), (.ks [102, 101, 119])]), (.tup [(.ks [99, 104, 111, 105, 99, 101]), (.tup [(.sl 2), (.tup [(.ks [114, 111, 119]), (.tup [(.sl 3), (.sl 2)])]), (.sl 2)])])]),
  .ret (.tup [(.ks [114, 111, 119]), (.bi n_tuple [(.sli (.sl 4) (.call nm__law_take [(.sl 0), (.ki 2)] [] []) .kn)])])]
def N__law_bent : List PySem.Str := ["_law_bag_here", "_law_world_here", "_law_tree_here", "_law_turn", "_law_way", "_law_leaf_here", "_law_bare"]
def ts__law_bent : List T := [
  .for (.n 3) .rng [(.bin .add (.ki 1) (.call nm__law_take [(.sl 0), (.ki 3)] [] []))] [.set 4 (.call nm__law_take [(.sl 0), (.ki 12)] [] []), .set 5 (.call nm__law_leaf [(.sl 0), (.sl 1)] [] []), .set 6 (.cmp .eq (.ix (.sl 1) (.ks [116, 111, 108, 100])) (.lst [])), .ife (.cmp .eq (.sl 4) (.ki 0)) [.set 2 (.tup [(.ks [114, 111, 119]), (.tup [(.tup [(.ks [114, 111, 119]), (.tup [(.sl 5), (.sl 2)])]), (.tup [(.ks [114, 111, 119]), (.tup [])]), (.sl 5)])])] [.ife (.cmp .eq (.sl 4) (.ki 1)) [.set 2 (.tup [(.ks [99, 104, 111, 105, 99, 101]), (.tup [(.tup [(.ks [99, 104, 111, 105, 99, 101]), (.tup [(.sl 5), (.sl 2)])]), (.sl 5)])])] [.ife (.and [(.cmp .eq (.sl 4) (.ki 2)), (.sl 6), (.cmp .lt (.call nm__law_size [(.sl 2)] [] []) (.ki 60))]) [.set 2 (.tup [(.ks [99, 104, 111, 105, 99, 101]), (.tup [(.sl 2), (.sl 5), (.sl 2)])])] [.ife (.cmp .eq (.sl 4) (.ki 3)) [.set 2 (.tup [(.ks [109, 97, 110, 121]), (.sl 2), (.ki 1), (.ki 1), (.ix (.lst [(.ks [109, 111, 115, 116]), (.ks [102, 101, 119]), (.ks [111, 110, 99, 101])]) (.call nm__law_take [(.sl 0), (.ki 3)] [] []))])] [.ife (.cmp .eq (.sl 4) (.ki 4)) [.set 2 (.tup [(.ks [111, 110, 99, 101]), (.sl 2)])] [.ife (.cmp .eq (.sl 4) (.ki 5)) [.set 2 (.tup [(.ks [99, 104, 111, 105, 99, 101]), (.tup [(.sl 5), (.call nm__law_leaf [(.sl 0), (.sl 1)] [] []), (.sl 2), (.call nm__law_leaf [(.sl 0), (.sl 1)] [] []), (.sl 5)])])] [.ife (.cmp .eq (.sl 4) (.ki 6)) [.set 2 (.tup [(.ks [114, 111, 119]), (.tup [(.tup [(.ks [114, 111, 119]), (.tup [])]), (.sl 2)])])] [.ife (.cmp .eq (.sl 4) (.ki 7)) [.set 2 (.tup [(.ks [114, 111, 119]), (.tup [(.tup [(.ks [111, 110, 99, 101]), (.sl 5)]), (.sl 2), (.tup [(.ks [109, 97, 110, 121]), (.tup [(.ks [109, 97, 110, 121]), (.sl 5), (.ki 1), (.ki 1), (.ks [102, 101, 119])]), (.ki 0), (.ki 2), (.ks [111, 110, 99, 101])])])])] [.ife (.cmp .eq (.sl 4) (.ki 8)) [.set 2 (.tup [(.ks [102, 108, 97, 103, 115]), (.ks [97]), (.ks []), (.sl 2)])] [.ife (.cmp .eq (.sl 4) (.ki 9)) [.set 2 (.tup [(.ks [114, 111, 119]), (.tup [(.tup [(.ks [108, 111, 111, 107]), (.ix (.lst [(.ks [97, 104, 101, 97, 100]), (.ks [110, 111, 98, 101, 104, 105, 110, 100])]) (.call nm__law_take [(.sl 0), (.ki 2)] [] [])), (.call nm__law_bent_part [(.sl 0), (.sl 1)] [] [])]), (.sl 2)])])] [.ife (.or [(.cmp .eq (.sl 4) (.ki 10)), (.cmp .gt (.bi n_len [(.ix (.sl 1) (.ks [116, 111, 108, 100]))]) (.ki 8))]) [.set 2 (.tup [(.ks [99, 104, 111, 105, 99, 101]), (.tup [(.tup [(.ks [102, 108, 97, 103, 115]), (.ks [108]), (.ks [97]), (.tup [(.ks [111, 110, 99, 101]), (.call nm__law_bent_part [(.sl 0), (.sl 1)] [] [])])]), (.sl 2)])])] [.ex (.bm n_append (.ix (.sl 1) (.ks [116, 111, 108, 100])) [(.ks [])]), .set 2 (.tup [(.ks [114, 111, 119]), (.tup [(.sl 2), (.tup [(.ks [103, 114, 111, 117, 112]), (.ks []), (.call nm__law_bent_part [(.sl 0), (.sl 1)] [] [])])])])]]]]]]]]]]]],
  .ret (.sl 2)]
def N__law_together : List PySem.Str := ["_law_some"]
def ts__law_together : List T := [
  .ret (.ix (.lst [(.ks [110, 111, 110, 101]), (.bm n_join (.ks [32]) [(.sl 0)])]) (.bi n_int [(.cmp .ne (.sl 0) (.lst []))]))]
def N__law_row_of : List PySem.Str := ["_law_words", "_law_rest"]
def ts__law_row_of : List T := [
  .ret (.bm n_join (.ks [32]) [(.bin .add (.sl 0) (.bin .mul (.lst [(.sl 1)]) (.bi n_int [(.cmp .eq (.ix (.sl 0) (.ki 0)) (.ks [102, 105, 108, 108]))])))])]
def N__law_looked : List PySem.Str := ["_law_bag_here", "_law_signs", "_law_k"]
def ts__law_looked : List T := [
  .set 1 (.ks [97, 98, 32, 10, 65, 99, 95]),
  .ret (.bm n_join (.ks []) [(.lc (.n 2) [2] .rng [(.call nm__law_take [(.sl 0), (.ki 9)] [] [])] [] (.ix (.sl 1) (.call nm__law_take [(.sl 0), (.ki 7)] [] [])))])]
end At

set_option Elab.async false
set_option linter.all false
set_option maxRecDepth 100000
set_option maxHeartbeats 4000000
/-! AtY: what the defs that the laws share compute. -/
namespace At
open PySem PySem.Spec PyProof.Rows L2

section
variable {α β : Type} {D : Wd} {Q : W → Sto → Prop} {S : Sto} {ρ : List W} {r : R α}
theorem ok_itemsM {n : Nat} {Q : List W → Sto → Prop} : Ok (itemsOf n S) Q = match S[n]? with | some (.lst xs) => Q xs S | some (.rol xs) => Q xs S | _ => False := by
  unfold itemsOf
  rcases h : S[n]? with _ | o
  · with_unfolding_all rfl
  · cases o <;> with_unfolding_all rfl
theorem ok_ixM {n : Nat} {i : Int} : Ok (ixM (.ob n) (.int i) S) Q = match S[n]? with | some (.lst xs) => Ok (optM (atI xs i) S) Q | some (.rol xs) => Ok (optM (atI xs i) S) Q | _ => False := by
  unfold ixM
  rw [ok_mbind, ok_itemsM]
theorem ok_getIM {n : Nat} {i : Int} : Ok (getI (.ob n) (.int i) S) Q = match S[n]? with | some (.lst xs) => Ok (optM (atI xs i) S) Q | some (.rol xs) => Ok (optM (atI xs i) S) Q | _ => False := by
  unfold getI
  rw [ok_mbind, ok_itemsM]
theorem ok_lenM {n : Nat} : Ok (biM n_len [.ob n] S) Q = match S[n]? with | some (.lst xs) => Q (.int xs.length) S | some (.rol xs) => Q (.int xs.length) S | _ => False := by
  show Ok ((itemsOf n >>= fun xs => (pure (.int xs.length) : M W)) S) Q = _
  rw [ok_mbind, ok_itemsM]; with_unfolding_all rfl
theorem ok_setMM {n : Nat} {i : Int} {v : W} {Q : Unit → Sto → Prop} : Ok (setM (.ob n) (.int i) v S) Q = match S[n]? with | some (.lst xs) => (match ixN xs.length i with | some j => Q () (S.set n (.lst (xs.set j v))) | none => False) | _ => False := by
  cases h : S[n]? with
  | none =>
    unfold setM
    rw [ok_mbind]
    unfold getO
    rw [h]
    with_unfolding_all rfl
  | some o =>
    cases o with
    | lst xs => exact ok_setM h
    | _ =>
      unfold setM
      rw [ok_mbind]
      unfold getO
      rw [h]
      with_unfolding_all rfl
theorem at0 {α : Type} {a : α} {l : List α} : atI (a :: l) 0 = some a := atI_n (i := 0) rfl
theorem at1 {α : Type} {a b : α} {l : List α} : atI (a :: b :: l) 1 = some b := atI_n (i := 1) rfl
theorem at2 {α : Type} {a b c : α} {l : List α} : atI (a :: b :: c :: l) 2 = some c := atI_n (i := 2) rfl
theorem at3 {α : Type} {a b c d : α} {l : List α} : atI (a :: b :: c :: d :: l) 3 = some d := atI_n (i := 3) rfl
theorem at4 {α : Type} {a b c d e : α} {l : List α} : atI (a :: b :: c :: d :: e :: l) 4 = some e := atI_n (i := 4) rfl
/-! ### the bag of the script's numbers -/
/-- the bag at n, its cells at j -/
def Bag (S : Sto) (n j : Nat) (cs : List Int) : Prop := ∃ a b c : Int, S[n]? = some (.lst [.int a, .int b, .int c, .ob j]) ∧ 0 ≤ a ∧ 0 ≤ b ∧ b < 2147483647 ∧ 0 ≤ c ∧ n ≠ j ∧ S[j]? = some (.lst (cs.map .int)) ∧ ∀ x ∈ cs, 0 ≤ x
/-- all but the place n is as it was -/
def Same (n : Nat) (S S' : Sto) : Prop := S'.length = S.length ∧ ∀ m : Nat, m ≠ n → S'[m]? = S[m]?
theorem Bag.app {n j : Nat} {cs : List Int} (h : Bag S n j cs) (T : Sto) : Bag (S ++ T) n j cs := by
  obtain ⟨a, b, c, h1, h2, h3, h4, h5, h6, h7, h8⟩ := h
  exact ⟨a, b, c, by rw [List.getElem?_append_left (List.getElem?_eq_some_iff.mp h1).1]; exact h1, h2, h3, h4, h5, h6, by rw [List.getElem?_append_left (List.getElem?_eq_some_iff.mp h7).1]; exact h7, h8⟩
theorem Same.refl {n : Nat} : Same n S S := ⟨rfl, fun _ _ => rfl⟩
theorem Same.set {n : Nat} {S S' : Sto} (h : Same n S S') (o : O) : Same n S (S'.set n o) := ⟨by rw [List.length_set]; exact h.1, fun m hm => by rw [List.getElem?_set_ne (Ne.symm hm)]; exact h.2 m hm⟩
theorem cut_to {α : Type} (xs : List α) (k : Nat) : cutL xs none (some (k : Int)) = xs.take k := by
  unfold cutL
  rw [HT.sIx_none, HT.sIx_nat, List.drop_zero, Nat.sub_zero]
  by_cases h : k ≤ xs.length
  · rw [Nat.min_eq_left h]
  · rw [Nat.min_eq_right (by omega), List.take_length, List.take_of_length_le (by omega)]
theorem abs_map (ns : List Int) (f : W → W) (hf : ∀ i, f (.int i) = .int (if i < 0 then -i else i)) : (ns.map W.int).map f = (ns.map fun i => if i < 0 then -i else i).map .int := by
  induction ns with
  | nil => rfl
  | cons n r ih => simp only [List.map_cons, ih, hf]
/-- an integer's size -/
def absW : W → W
  | .int i => .int (if i < 0 then -i else i)
  | w => w
theorem bag_ok {D : Wd} {n : Nat} {ns : List Int} (h : S[n]? = some (.rol (ns.map .int)))
    (q : ∀ S', Bag (S ++ S') (S.length + 2) (S.length + 1) ((ns.take 63).map fun i => if i < 0 then -i else i) → S'.length = 3 → Q (.ob (S.length + 2)) (S ++ S')) : Ok (fnM D 2 ts__law_bag [.ob n] S) Q := by
  rw [ok_fn (ρ := [.ob n, .un]) rfl]
  unfold ts__law_bag
  simp only [ok_ok, ok_bad, ok_exc, ok_pure, ok_mbad, u_kE, u_kbin, u_kcmp, u_kix, u_knotb, u_knot, u_kneg, u_kand, u_kor, u_kite, u_kcons2, u_kcons, u_ktup, u_klst, u_ksl5, u_ksl4, u_ksl3, u_ksl2, u_ksl1, u_kcall2, u_kcall, u_kbi, u_kbm3, u_kbm2, u_kbm1, u_kch3, u_kch2, u_kch1, u_klc3, u_klc2, u_klc1, u_kfld, u_kisi, u_kex, u_kset, u_kasg, u_ksub4, u_ksub3, u_ksub2, u_ksub1, u_kaug2, u_kaug1, u_kas5, u_kas4, u_kas3, u_kas2, u_kas1, u_kret, u_kif, u_kfor2, u_kfor1, kand_t, kand_f, kor_t, kor_f, kite_t, kite_f, kif_t, kif_f, ok_sl', ok_kn, ok_kb, ok_ki, ok_ks, ok_gl', ok_bin', ok_neg', ok_not', ok_cmp', ok_chain', ok_and1, ok_and2, ok_or1, ok_or2, ok_and', ok_or', ok_ite', ok_nil, ok_cons, ok_tup', ok_lst', ok_ix', ok_sli', ok_fld', ok_call', ok_isi', ok_dic', ok_bi', ok_bm', ok_lc', ok_xnil, thenS_nx, thenS_rt, ok_xcons, ok_xex, ok_xset, ok_xasg, ok_xsub, ok_xaug, ok_xaugs, ok_xret, ok_xretn, ok_xpass, ok_xif, ok_xwhl, ok_xfor, ok_gets, ok_opt, ok_opt0, ok_truB, ok_truI, ok_truS, ok_truN, ok_truT, ok_addI, ok_subI, ok_augI, ok_augJ, ok_lt, ok_le, ok_gt, ok_ge, ok_eqI, ok_neI, ok_eqS, ok_neS, g0i, g0b, g0s, g0t, g0o, g0n, endQ_nx, endQ_rt, part_out, part_int, kn_kn, kn_ki, kn_sl, kn_bin, nwl0, nwl1, nwl2, nwl3, nwl4, nwl5, nwl6, nwl7, nwl8, nwl9, nwl10, nwl11, nwl12, mkt0, mkt1, mkt2, mkt3, mkt4, mkt5, mkt6, mkt7, mkt8, ok_sliS, ok_sliT, gd_nil, asg_n, asg_t, asgs_nil, asgs_cons, ok_it_exT, ok_it_exS, ok_noEx, kd_find, kd_islower, kd_upper, kd_lower, kd_join, ok_find, ok_islower, ok_lenS, ok_lenT, ok_abs, ok_intI, ok_intB, ok_tupT, ok_lstT, ok_ixS, ok_ixT, ok_inS, ok_ninS, isi_str, isi_int, isi_bl, isi_non, isi_tup, ok_min, ok_max, kd_index, len4, List.set_cons_zero, List.set_cons_succ, true_and, and_true, Bool.not_true, Bool.not_false, Bool.false_eq_true, if_true, if_false, decide_eq_true_eq, decide_true, Option.map_some]
  unfold sliM
  rw [ok_mbind, ok_items (.inr h), show (63 : Int) = ((63 : Nat) : Int) from rfl, cut_to, ← List.map_take]
  unfold newO
  simp only [ok_ok, ok_bad, ok_exc, ok_pure, ok_mbad, u_kE, u_kbin, u_kcmp, u_kix, u_knotb, u_knot, u_kneg, u_kand, u_kor, u_kite, u_kcons2, u_kcons, u_ktup, u_klst, u_ksl5, u_ksl4, u_ksl3, u_ksl2, u_ksl1, u_kcall2, u_kcall, u_kbi, u_kbm3, u_kbm2, u_kbm1, u_kch3, u_kch2, u_kch1, u_klc3, u_klc2, u_klc1, u_kfld, u_kisi, u_kex, u_kset, u_kasg, u_ksub4, u_ksub3, u_ksub2, u_ksub1, u_kaug2, u_kaug1, u_kas5, u_kas4, u_kas3, u_kas2, u_kas1, u_kret, u_kif, u_kfor2, u_kfor1, kand_t, kand_f, kor_t, kor_f, kite_t, kite_f, kif_t, kif_f, ok_sl', ok_kn, ok_kb, ok_ki, ok_ks, ok_gl', ok_bin', ok_neg', ok_not', ok_cmp', ok_chain', ok_and1, ok_and2, ok_or1, ok_or2, ok_and', ok_or', ok_ite', ok_nil, ok_cons, ok_tup', ok_lst', ok_ix', ok_sli', ok_fld', ok_call', ok_isi', ok_dic', ok_bi', ok_bm', ok_lc', ok_xnil, thenS_nx, thenS_rt, ok_xcons, ok_xex, ok_xset, ok_xasg, ok_xsub, ok_xaug, ok_xaugs, ok_xret, ok_xretn, ok_xpass, ok_xif, ok_xwhl, ok_xfor, ok_gets, ok_opt, ok_opt0, ok_truB, ok_truI, ok_truS, ok_truN, ok_truT, ok_addI, ok_subI, ok_augI, ok_augJ, ok_lt, ok_le, ok_gt, ok_ge, ok_eqI, ok_neI, ok_eqS, ok_neS, g0i, g0b, g0s, g0t, g0o, g0n, endQ_nx, endQ_rt, part_out, part_int, kn_kn, kn_ki, kn_sl, kn_bin, nwl0, nwl1, nwl2, nwl3, nwl4, nwl5, nwl6, nwl7, nwl8, nwl9, nwl10, nwl11, nwl12, mkt0, mkt1, mkt2, mkt3, mkt4, mkt5, mkt6, mkt7, mkt8, ok_sliS, ok_sliT, gd_nil, asg_n, asg_t, asgs_nil, asgs_cons, ok_it_exT, ok_it_exS, ok_noEx, kd_find, kd_islower, kd_upper, kd_lower, kd_join, ok_find, ok_islower, ok_lenS, ok_lenT, ok_abs, ok_intI, ok_intB, ok_tupT, ok_lstT, ok_ixS, ok_ixT, ok_inS, ok_ninS, isi_str, isi_int, isi_bl, isi_non, isi_tup, ok_min, ok_max, kd_index, len4, List.set_cons_zero, List.set_cons_succ, true_and, and_true, Bool.not_true, Bool.not_false, Bool.false_eq_true, if_true, if_false, decide_eq_true_eq, decide_true, Option.map_some]
  show Ok (itM .ex [.ob S.length] (S ++ [.lst ((ns.take 63).map W.int)])) _
  have hL : LstAt (S ++ [.lst ((ns.take 63).map W.int)]) S.length ((ns.take 63).map W.int) := .inl (by simp)
  rw [ok_it_ex hL]
  refine lc_map absW (fun xs => gd_of (lstAt_app hL _)) (by rw [List.length_map, List.length_take, LINE]; omega) (fun x hx S' => ?_) ?_
  · obtain ⟨i, _, rfl⟩ := List.mem_map.mp hx
    refine ⟨[.ob n, .int i], rfl, fun Q h => ?_⟩
    simp only [ok_ok, ok_bad, ok_exc, ok_pure, ok_mbad, u_kE, u_kbin, u_kcmp, u_kix, u_knotb, u_knot, u_kneg, u_kand, u_kor, u_kite, u_kcons2, u_kcons, u_ktup, u_klst, u_ksl5, u_ksl4, u_ksl3, u_ksl2, u_ksl1, u_kcall2, u_kcall, u_kbi, u_kbm3, u_kbm2, u_kbm1, u_kch3, u_kch2, u_kch1, u_klc3, u_klc2, u_klc1, u_kfld, u_kisi, u_kex, u_kset, u_kasg, u_ksub4, u_ksub3, u_ksub2, u_ksub1, u_kaug2, u_kaug1, u_kas5, u_kas4, u_kas3, u_kas2, u_kas1, u_kret, u_kif, u_kfor2, u_kfor1, kand_t, kand_f, kor_t, kor_f, kite_t, kite_f, kif_t, kif_f, ok_sl', ok_kn, ok_kb, ok_ki, ok_ks, ok_gl', ok_bin', ok_neg', ok_not', ok_cmp', ok_chain', ok_and1, ok_and2, ok_or1, ok_or2, ok_and', ok_or', ok_ite', ok_nil, ok_cons, ok_tup', ok_lst', ok_ix', ok_sli', ok_fld', ok_call', ok_isi', ok_dic', ok_bi', ok_bm', ok_lc', ok_xnil, thenS_nx, thenS_rt, ok_xcons, ok_xex, ok_xset, ok_xasg, ok_xsub, ok_xaug, ok_xaugs, ok_xret, ok_xretn, ok_xpass, ok_xif, ok_xwhl, ok_xfor, ok_gets, ok_opt, ok_opt0, ok_truB, ok_truI, ok_truS, ok_truN, ok_truT, ok_addI, ok_subI, ok_augI, ok_augJ, ok_lt, ok_le, ok_gt, ok_ge, ok_eqI, ok_neI, ok_eqS, ok_neS, g0i, g0b, g0s, g0t, g0o, g0n, endQ_nx, endQ_rt, part_out, part_int, kn_kn, kn_ki, kn_sl, kn_bin, nwl0, nwl1, nwl2, nwl3, nwl4, nwl5, nwl6, nwl7, nwl8, nwl9, nwl10, nwl11, nwl12, mkt0, mkt1, mkt2, mkt3, mkt4, mkt5, mkt6, mkt7, mkt8, ok_sliS, ok_sliT, gd_nil, asg_n, asg_t, asgs_nil, asgs_cons, ok_it_exT, ok_it_exS, ok_noEx, kd_find, kd_islower, kd_upper, kd_lower, kd_join, ok_find, ok_islower, ok_lenS, ok_lenT, ok_abs, ok_intI, ok_intB, ok_tupT, ok_lstT, ok_ixS, ok_ixT, ok_inS, ok_ninS, isi_str, isi_int, isi_bl, isi_non, isi_tup, ok_min, ok_max, kd_index, len4, List.set_cons_zero, List.set_cons_succ, true_and, and_true, Bool.not_true, Bool.not_false, Bool.false_eq_true, if_true, if_false, decide_eq_true_eq, decide_true, Option.map_some]
    exact h
  · rw [abs_map _ absW fun i => rfl]
    simp only [ok_ok, ok_bad, ok_exc, ok_pure, ok_mbad, u_kE, u_kbin, u_kcmp, u_kix, u_knotb, u_knot, u_kneg, u_kand, u_kor, u_kite, u_kcons2, u_kcons, u_ktup, u_klst, u_ksl5, u_ksl4, u_ksl3, u_ksl2, u_ksl1, u_kcall2, u_kcall, u_kbi, u_kbm3, u_kbm2, u_kbm1, u_kch3, u_kch2, u_kch1, u_klc3, u_klc2, u_klc1, u_kfld, u_kisi, u_kex, u_kset, u_kasg, u_ksub4, u_ksub3, u_ksub2, u_ksub1, u_kaug2, u_kaug1, u_kas5, u_kas4, u_kas3, u_kas2, u_kas1, u_kret, u_kif, u_kfor2, u_kfor1, kand_t, kand_f, kor_t, kor_f, kite_t, kite_f, kif_t, kif_f, ok_sl', ok_kn, ok_kb, ok_ki, ok_ks, ok_gl', ok_bin', ok_neg', ok_not', ok_cmp', ok_chain', ok_and1, ok_and2, ok_or1, ok_or2, ok_and', ok_or', ok_ite', ok_nil, ok_cons, ok_tup', ok_lst', ok_ix', ok_sli', ok_fld', ok_call', ok_isi', ok_dic', ok_bi', ok_bm', ok_lc', ok_xnil, thenS_nx, thenS_rt, ok_xcons, ok_xex, ok_xset, ok_xasg, ok_xsub, ok_xaug, ok_xaugs, ok_xret, ok_xretn, ok_xpass, ok_xif, ok_xwhl, ok_xfor, ok_gets, ok_opt, ok_opt0, ok_truB, ok_truI, ok_truS, ok_truN, ok_truT, ok_addI, ok_subI, ok_augI, ok_augJ, ok_lt, ok_le, ok_gt, ok_ge, ok_eqI, ok_neI, ok_eqS, ok_neS, g0i, g0b, g0s, g0t, g0o, g0n, endQ_nx, endQ_rt, part_out, part_int, kn_kn, kn_ki, kn_sl, kn_bin, nwl0, nwl1, nwl2, nwl3, nwl4, nwl5, nwl6, nwl7, nwl8, nwl9, nwl10, nwl11, nwl12, mkt0, mkt1, mkt2, mkt3, mkt4, mkt5, mkt6, mkt7, mkt8, ok_sliS, ok_sliT, gd_nil, asg_n, asg_t, asgs_nil, asgs_cons, ok_it_exT, ok_it_exS, ok_noEx, kd_find, kd_islower, kd_upper, kd_lower, kd_join, ok_find, ok_islower, ok_lenS, ok_lenT, ok_abs, ok_intI, ok_intB, ok_tupT, ok_lstT, ok_ixS, ok_ixT, ok_inS, ok_ninS, isi_str, isi_int, isi_bl, isi_non, isi_tup, ok_min, ok_max, kd_index, len4, List.set_cons_zero, List.set_cons_succ, true_and, and_true, Bool.not_true, Bool.not_false, Bool.false_eq_true, if_true, if_false, decide_eq_true_eq, decide_true, Option.map_some]
    have e : (S ++ [O.lst ((ns.take 63).map W.int)] ++ [O.lst (((ns.take 63).map fun i => if i < 0 then -i else i).map W.int)]).length = S.length + 2 := by simp
    have e1 : (S ++ [O.lst ((ns.take 63).map W.int)]).length = S.length + 1 := by simp
    rw [e, e1, List.append_assoc, List.append_assoc]
    refine q _ ⟨0, 1234567891, 0, ?_, by decide, by decide, by decide, by decide, by omega, ?_, ?_⟩ rfl
    · rw [List.getElem?_append_right (by omega), show S.length + 2 - S.length = 2 by omega]; with_unfolding_all rfl
    · rw [List.getElem?_append_right (by omega), show S.length + 1 - S.length = 1 by omega]; with_unfolding_all rfl
    · intro x hx
      obtain ⟨i, _, rfl⟩ := List.mem_map.mp hx
      split <;> omega
/-- one number drawn -/
theorem small_of {i : Int} (h0 : -(2 ^ 64) < i) (h1 : i < 2 ^ 64) : small64 i = true := by
  unfold small64
  rw [Bool.and_eq_true, decide_eq_true_eq, decide_eq_true_eq]
  exact ⟨h0, h1⟩
theorem small_mod {i m : Int} (h0 : 0 < m) (h1 : m < 2 ^ 64) : small64 (i % m) = true := by
  have a := Int.emod_nonneg i (show m ≠ 0 by omega)
  have b := Int.emod_lt_of_pos i h0
  exact small_of (by omega) (by omega)
theorem take_ok {D : Wd} {n j : Nat} {cs : List Int} {m : Int} (hb : Bag S n j cs) (h0 : 0 < m) (h1 : m < 1073741824)
    (q : ∀ v S', 0 ≤ v → v < m → Same n S S' → Bag S' n j cs → Q (.int v) S') : Ok (fnM D 6 ts__law_take [.ob n, .int m] S) Q := by
  obtain ⟨a, b, c, hn, ha, hb0, hb1, hc, hnj, hj, hcs⟩ := hb
  have hlt : n < S.length := (List.getElem?_eq_some_iff.mp hn).1
  rw [ok_fn (ρ := [.ob n, .int m, .un, .un, .un, .un]) rfl]
  -- the part behind the first if
  have rest : ∀ (S1 : Sto) (x : W) (a b c : Int), Same n S S1 → S1[n]? = some (.lst [.int a, .int b, .int c, .ob j]) → 0 ≤ a → 0 ≤ b → b < 2147483647 → 0 ≤ c →
      Ok (exs D (ts__law_take.drop 1) [.ob n, .int m, .un, .un, x, .un] S1) (endQ Q) := by
    intro S1 x a b c hs hn ha hb0 hb1 hc
    have hlt : n < S1.length := (List.getElem?_eq_some_iff.mp hn).1
    have hj1 : S1[j]? = some (.lst (cs.map .int)) := by rw [hs.2 j (Ne.symm hnj)]; exact hj
    unfold ts__law_take
    simp only [ok_ok, ok_bad, ok_exc, ok_pure, ok_mbad, u_kE, u_kbin, u_kcmp, u_kix, u_knotb, u_knot, u_kneg, u_kand, u_kor, u_kite, u_kcons2, u_kcons, u_ktup, u_klst, u_ksl5, u_ksl4, u_ksl3, u_ksl2, u_ksl1, u_kcall2, u_kcall, u_kbi, u_kbm3, u_kbm2, u_kbm1, u_kch3, u_kch2, u_kch1, u_klc3, u_klc2, u_klc1, u_kfld, u_kisi, u_kex, u_kset, u_kasg, u_ksub4, u_ksub3, u_ksub2, u_ksub1, u_kaug2, u_kaug1, u_kas5, u_kas4, u_kas3, u_kas2, u_kas1, u_kret, u_kif, u_kfor2, u_kfor1, kand_t, kand_f, kor_t, kor_f, kite_t, kite_f, kif_t, kif_f, ok_sl', ok_kn, ok_kb, ok_ki, ok_ks, ok_gl', ok_bin', ok_neg', ok_not', ok_cmp', ok_chain', ok_and1, ok_and2, ok_or1, ok_or2, ok_and', ok_or', ok_ite', ok_nil, ok_cons, ok_tup', ok_lst', ok_ix', ok_sli', ok_fld', ok_call', ok_isi', ok_dic', ok_bi', ok_bm', ok_lc', ok_xnil, thenS_nx, thenS_rt, ok_xcons, ok_xex, ok_xset, ok_xasg, ok_xsub, ok_xaug, ok_xaugs, ok_xret, ok_xretn, ok_xpass, ok_xif, ok_xwhl, ok_xfor, ok_gets, ok_opt, ok_opt0, ok_truB, ok_truI, ok_truS, ok_truN, ok_truT, ok_addI, ok_subI, ok_augI, ok_augJ, ok_lt, ok_le, ok_gt, ok_ge, ok_eqI, ok_neI, ok_eqS, ok_neS, g0i, g0b, g0s, g0t, g0o, g0n, endQ_nx, endQ_rt, part_out, part_int, kn_kn, kn_ki, kn_sl, kn_bin, nwl0, nwl1, nwl2, nwl3, nwl4, nwl5, nwl6, nwl7, nwl8, nwl9, nwl10, nwl11, nwl12, mkt0, mkt1, mkt2, mkt3, mkt4, mkt5, mkt6, mkt7, mkt8, ok_sliS, ok_sliT, gd_nil, asg_n, asg_t, asgs_nil, asgs_cons, ok_it_exT, ok_it_exS, ok_noEx, kd_find, kd_islower, kd_upper, kd_lower, kd_join, ok_find, ok_islower, ok_lenS, ok_lenT, ok_abs, ok_intI, ok_intB, ok_tupT, ok_lstT, ok_ixS, ok_ixT, ok_inS, ok_ninS, isi_str, isi_int, isi_bl, isi_non, isi_tup, ok_min, ok_max, kd_index, len4, List.set_cons_zero, List.set_cons_succ, true_and, and_true, Bool.not_true, Bool.not_false, Bool.false_eq_true, if_true, if_false, decide_eq_true_eq, decide_true, Option.map_some, List.drop_succ_cons, List.drop_zero, ok_ixM, hn, at0]
    refine k_if (fun hpos => ?_) fun hpos => ?_
    · simp only [ok_ok, ok_bad, ok_exc, ok_pure, ok_mbad, u_kE, u_kbin, u_kcmp, u_kix, u_knotb, u_knot, u_kneg, u_kand, u_kor, u_kite, u_kcons2, u_kcons, u_ktup, u_klst, u_ksl5, u_ksl4, u_ksl3, u_ksl2, u_ksl1, u_kcall2, u_kcall, u_kbi, u_kbm3, u_kbm2, u_kbm1, u_kch3, u_kch2, u_kch1, u_klc3, u_klc2, u_klc1, u_kfld, u_kisi, u_kex, u_kset, u_kasg, u_ksub4, u_ksub3, u_ksub2, u_ksub1, u_kaug2, u_kaug1, u_kas5, u_kas4, u_kas3, u_kas2, u_kas1, u_kret, u_kif, u_kfor2, u_kfor1, kand_t, kand_f, kor_t, kor_f, kite_t, kite_f, kif_t, kif_f, ok_sl', ok_kn, ok_kb, ok_ki, ok_ks, ok_gl', ok_bin', ok_neg', ok_not', ok_cmp', ok_chain', ok_and1, ok_and2, ok_or1, ok_or2, ok_and', ok_or', ok_ite', ok_nil, ok_cons, ok_tup', ok_lst', ok_ix', ok_sli', ok_fld', ok_call', ok_isi', ok_dic', ok_bi', ok_bm', ok_lc', ok_xnil, thenS_nx, thenS_rt, ok_xcons, ok_xex, ok_xset, ok_xasg, ok_xsub, ok_xaug, ok_xaugs, ok_xret, ok_xretn, ok_xpass, ok_xif, ok_xwhl, ok_xfor, ok_gets, ok_opt, ok_opt0, ok_truB, ok_truI, ok_truS, ok_truN, ok_truT, ok_addI, ok_subI, ok_augI, ok_augJ, ok_lt, ok_le, ok_gt, ok_ge, ok_eqI, ok_neI, ok_eqS, ok_neS, g0i, g0b, g0s, g0t, g0o, g0n, endQ_nx, endQ_rt, part_out, part_int, kn_kn, kn_ki, kn_sl, kn_bin, nwl0, nwl1, nwl2, nwl3, nwl4, nwl5, nwl6, nwl7, nwl8, nwl9, nwl10, nwl11, nwl12, mkt0, mkt1, mkt2, mkt3, mkt4, mkt5, mkt6, mkt7, mkt8, ok_sliS, ok_sliT, gd_nil, asg_n, asg_t, asgs_nil, asgs_cons, ok_it_exT, ok_it_exS, ok_noEx, kd_find, kd_islower, kd_upper, kd_lower, kd_join, ok_find, ok_islower, ok_lenS, ok_lenT, ok_abs, ok_intI, ok_intB, ok_tupT, ok_lstT, ok_ixS, ok_ixT, ok_inS, ok_ninS, isi_str, isi_int, isi_bl, isi_non, isi_tup, ok_min, ok_max, kd_index, len4, List.set_cons_zero, List.set_cons_succ, true_and, and_true, Bool.not_true, Bool.not_false, Bool.false_eq_true, if_true, if_false, decide_eq_true_eq, decide_true, Option.map_some, ok_ixM, hn, at0, ok_modP h0, ok_fdivP h0 h1, ok_setMM, ix4_0]
      refine q _ _ (Int.emod_nonneg _ (by omega)) (Int.emod_lt_of_pos _ h0) (hs.set _) ⟨a / m, b, c, ?_, Int.ediv_nonneg ha (by omega), hb0, hb1, hc, hnj, ?_, hcs⟩
      · exact List.getElem?_set_self hlt
      · rw [List.getElem?_set_ne hnj]; exact hj1
    · have m1 : ∀ (x : Int) (Q : W → Sto → Prop) (S : Sto), Ok (binM .mul (.int x) (.int 39373) S) Q = Q (.int (x * 39373)) S := fun x Q S => ok_mulP (by rw [show small64 39373 = true from by decide, Bool.or_true])
      have m2 : ∀ (x : Int) (Q : W → Sto → Prop) (S : Sto), Ok (binM .mul (.int x) (.int 30011) S) Q = Q (.int (x * 30011)) S := fun x Q S => ok_mulP (by rw [show small64 30011 = true from by decide, Bool.or_true])
      have m3 : ∀ (x : Int) (Q : W → Sto → Prop) (S : Sto), Ok (binM .mul (.int x) (.int 1000000007) S) Q = Q (.int (x * 1000000007)) S := fun x Q S => ok_mulP (by rw [show small64 1000000007 = true from by decide, Bool.or_true])
      have m4 : ∀ (x y : Int) (Q : W → Sto → Prop) (S : Sto), Ok (binM .mul (.int (x % 1000000007)) (.int y) S) Q = Q (.int (x % 1000000007 * y)) S := fun x y Q S => ok_mulP (by rw [small_mod (by decide) (by decide), Bool.true_or])
      simp only [ok_ok, ok_bad, ok_exc, ok_pure, ok_mbad, u_kE, u_kbin, u_kcmp, u_kix, u_knotb, u_knot, u_kneg, u_kand, u_kor, u_kite, u_kcons2, u_kcons, u_ktup, u_klst, u_ksl5, u_ksl4, u_ksl3, u_ksl2, u_ksl1, u_kcall2, u_kcall, u_kbi, u_kbm3, u_kbm2, u_kbm1, u_kch3, u_kch2, u_kch1, u_klc3, u_klc2, u_klc1, u_kfld, u_kisi, u_kex, u_kset, u_kasg, u_ksub4, u_ksub3, u_ksub2, u_ksub1, u_kaug2, u_kaug1, u_kas5, u_kas4, u_kas3, u_kas2, u_kas1, u_kret, u_kif, u_kfor2, u_kfor1, kand_t, kand_f, kor_t, kor_f, kite_t, kite_f, kif_t, kif_f, ok_sl', ok_kn, ok_kb, ok_ki, ok_ks, ok_gl', ok_bin', ok_neg', ok_not', ok_cmp', ok_chain', ok_and1, ok_and2, ok_or1, ok_or2, ok_and', ok_or', ok_ite', ok_nil, ok_cons, ok_tup', ok_lst', ok_ix', ok_sli', ok_fld', ok_call', ok_isi', ok_dic', ok_bi', ok_bm', ok_lc', ok_xnil, thenS_nx, thenS_rt, ok_xcons, ok_xex, ok_xset, ok_xasg, ok_xsub, ok_xaug, ok_xaugs, ok_xret, ok_xretn, ok_xpass, ok_xif, ok_xwhl, ok_xfor, ok_gets, ok_opt, ok_opt0, ok_truB, ok_truI, ok_truS, ok_truN, ok_truT, ok_addI, ok_subI, ok_augI, ok_augJ, ok_lt, ok_le, ok_gt, ok_ge, ok_eqI, ok_neI, ok_eqS, ok_neS, g0i, g0b, g0s, g0t, g0o, g0n, endQ_nx, endQ_rt, part_out, part_int, kn_kn, kn_ki, kn_sl, kn_bin, nwl0, nwl1, nwl2, nwl3, nwl4, nwl5, nwl6, nwl7, nwl8, nwl9, nwl10, nwl11, nwl12, mkt0, mkt1, mkt2, mkt3, mkt4, mkt5, mkt6, mkt7, mkt8, ok_sliS, ok_sliT, gd_nil, asg_n, asg_t, asgs_nil, asgs_cons, ok_it_exT, ok_it_exS, ok_noEx, kd_find, kd_islower, kd_upper, kd_lower, kd_join, ok_find, ok_islower, ok_lenS, ok_lenT, ok_abs, ok_intI, ok_intB, ok_tupT, ok_lstT, ok_ixS, ok_ixT, ok_inS, ok_ninS, isi_str, isi_int, isi_bl, isi_non, isi_tup, ok_min, ok_max, kd_index, len4, List.set_cons_zero, List.set_cons_succ, true_and, and_true, Bool.not_true, Bool.not_false, Bool.false_eq_true, if_true, if_false, decide_eq_true_eq, decide_true, Option.map_some, ok_ixM, hn, at1, m1, m2, m3, m4, ok_modP (show (0 : Int) < 1000000007 by decide), ok_modP (show (0 : Int) < 998244353 by decide)]
      refine k_if (fun _ => ?_) fun _ => ?_
      · simp only [ok_ok, ok_bad, ok_exc, ok_pure, ok_mbad, u_kE, u_kbin, u_kcmp, u_kix, u_knotb, u_knot, u_kneg, u_kand, u_kor, u_kite, u_kcons2, u_kcons, u_ktup, u_klst, u_ksl5, u_ksl4, u_ksl3, u_ksl2, u_ksl1, u_kcall2, u_kcall, u_kbi, u_kbm3, u_kbm2, u_kbm1, u_kch3, u_kch2, u_kch1, u_klc3, u_klc2, u_klc1, u_kfld, u_kisi, u_kex, u_kset, u_kasg, u_ksub4, u_ksub3, u_ksub2, u_ksub1, u_kaug2, u_kaug1, u_kas5, u_kas4, u_kas3, u_kas2, u_kas1, u_kret, u_kif, u_kfor2, u_kfor1, kand_t, kand_f, kor_t, kor_f, kite_t, kite_f, kif_t, kif_f, ok_sl', ok_kn, ok_kb, ok_ki, ok_ks, ok_gl', ok_bin', ok_neg', ok_not', ok_cmp', ok_chain', ok_and1, ok_and2, ok_or1, ok_or2, ok_and', ok_or', ok_ite', ok_nil, ok_cons, ok_tup', ok_lst', ok_ix', ok_sli', ok_fld', ok_call', ok_isi', ok_dic', ok_bi', ok_bm', ok_lc', ok_xnil, thenS_nx, thenS_rt, ok_xcons, ok_xex, ok_xset, ok_xasg, ok_xsub, ok_xaug, ok_xaugs, ok_xret, ok_xretn, ok_xpass, ok_xif, ok_xwhl, ok_xfor, ok_gets, ok_opt, ok_opt0, ok_truB, ok_truI, ok_truS, ok_truN, ok_truT, ok_addI, ok_subI, ok_augI, ok_augJ, ok_lt, ok_le, ok_gt, ok_ge, ok_eqI, ok_neI, ok_eqS, ok_neS, g0i, g0b, g0s, g0t, g0o, g0n, endQ_nx, endQ_rt, part_out, part_int, kn_kn, kn_ki, kn_sl, kn_bin, nwl0, nwl1, nwl2, nwl3, nwl4, nwl5, nwl6, nwl7, nwl8, nwl9, nwl10, nwl11, nwl12, mkt0, mkt1, mkt2, mkt3, mkt4, mkt5, mkt6, mkt7, mkt8, ok_sliS, ok_sliT, gd_nil, asg_n, asg_t, asgs_nil, asgs_cons, ok_it_exT, ok_it_exS, ok_noEx, kd_find, kd_islower, kd_upper, kd_lower, kd_join, ok_find, ok_islower, ok_lenS, ok_lenT, ok_abs, ok_intI, ok_intB, ok_tupT, ok_lstT, ok_ixS, ok_ixT, ok_inS, ok_ninS, isi_str, isi_int, isi_bl, isi_non, isi_tup, ok_min, ok_max, kd_index, len4, List.set_cons_zero, List.set_cons_succ, true_and, and_true, Bool.not_true, Bool.not_false, Bool.false_eq_true, if_true, if_false, decide_eq_true_eq, decide_true, Option.map_some, m3, ok_modP h0]
        exact q _ _ (Int.emod_nonneg _ (by omega)) (Int.emod_lt_of_pos _ h0) hs ⟨a, b, c, hn, ha, hb0, hb1, hc, hnj, hj1, hcs⟩
      · simp only [ok_ok, ok_bad, ok_exc, ok_pure, ok_mbad, u_kE, u_kbin, u_kcmp, u_kix, u_knotb, u_knot, u_kneg, u_kand, u_kor, u_kite, u_kcons2, u_kcons, u_ktup, u_klst, u_ksl5, u_ksl4, u_ksl3, u_ksl2, u_ksl1, u_kcall2, u_kcall, u_kbi, u_kbm3, u_kbm2, u_kbm1, u_kch3, u_kch2, u_kch1, u_klc3, u_klc2, u_klc1, u_kfld, u_kisi, u_kex, u_kset, u_kasg, u_ksub4, u_ksub3, u_ksub2, u_ksub1, u_kaug2, u_kaug1, u_kas5, u_kas4, u_kas3, u_kas2, u_kas1, u_kret, u_kif, u_kfor2, u_kfor1, kand_t, kand_f, kor_t, kor_f, kite_t, kite_f, kif_t, kif_f, ok_sl', ok_kn, ok_kb, ok_ki, ok_ks, ok_gl', ok_bin', ok_neg', ok_not', ok_cmp', ok_chain', ok_and1, ok_and2, ok_or1, ok_or2, ok_and', ok_or', ok_ite', ok_nil, ok_cons, ok_tup', ok_lst', ok_ix', ok_sli', ok_fld', ok_call', ok_isi', ok_dic', ok_bi', ok_bm', ok_lc', ok_xnil, thenS_nx, thenS_rt, ok_xcons, ok_xex, ok_xset, ok_xasg, ok_xsub, ok_xaug, ok_xaugs, ok_xret, ok_xretn, ok_xpass, ok_xif, ok_xwhl, ok_xfor, ok_gets, ok_opt, ok_opt0, ok_truB, ok_truI, ok_truS, ok_truN, ok_truT, ok_addI, ok_subI, ok_augI, ok_augJ, ok_lt, ok_le, ok_gt, ok_ge, ok_eqI, ok_neI, ok_eqS, ok_neS, g0i, g0b, g0s, g0t, g0o, g0n, endQ_nx, endQ_rt, part_out, part_int, kn_kn, kn_ki, kn_sl, kn_bin, nwl0, nwl1, nwl2, nwl3, nwl4, nwl5, nwl6, nwl7, nwl8, nwl9, nwl10, nwl11, nwl12, mkt0, mkt1, mkt2, mkt3, mkt4, mkt5, mkt6, mkt7, mkt8, ok_sliS, ok_sliT, gd_nil, asg_n, asg_t, asgs_nil, asgs_cons, ok_it_exT, ok_it_exS, ok_noEx, kd_find, kd_islower, kd_upper, kd_lower, kd_join, ok_find, ok_islower, ok_lenS, ok_lenT, ok_abs, ok_intI, ok_intB, ok_tupT, ok_lstT, ok_ixS, ok_ixT, ok_inS, ok_ninS, isi_str, isi_int, isi_bl, isi_non, isi_tup, ok_min, ok_max, kd_index, len4, List.set_cons_zero, List.set_cons_succ, true_and, and_true, Bool.not_true, Bool.not_false, Bool.false_eq_true, if_true, if_false, decide_eq_true_eq, decide_true, Option.map_some, ok_fdivP (show (0 : Int) < 7 by decide) (by decide), ok_modP h0]
        exact q _ _ (Int.emod_nonneg _ (by omega)) (Int.emod_lt_of_pos _ h0) hs ⟨a, b, c, hn, ha, hb0, hb1, hc, hnj, hj1, hcs⟩
  have hF : ∀ (S1 : Sto) (x : W) (a b c : Int), Same n S S1 → S1[n]? = some (.lst [.int a, .int b, .int c, .ob j]) → 0 ≤ a → 0 ≤ b → b < 2147483647 → 0 ≤ c → thenS D (ts__law_take.drop 1) (endQ Q) (.nx [.ob n, .int m, .un, .un, x, .un]) S1 := rest
  show Ok (exs D (ts__law_take.head (fun z => nomatch z) :: ts__law_take.drop 1) _ S) _
  rw [ok_xcons]
  generalize thenS D (ts__law_take.drop 1) (endQ Q) = F at hF ⊢
  unfold ts__law_take
  simp only [List.head_cons]
  simp only [ok_ok, ok_bad, ok_exc, ok_pure, ok_mbad, u_kE, u_kbin, u_kcmp, u_kix, u_knotb, u_knot, u_kneg, u_kand, u_kor, u_kite, u_kcons2, u_kcons, u_ktup, u_klst, u_ksl5, u_ksl4, u_ksl3, u_ksl2, u_ksl1, u_kcall2, u_kcall, u_kbi, u_kbm3, u_kbm2, u_kbm1, u_kch3, u_kch2, u_kch1, u_klc3, u_klc2, u_klc1, u_kfld, u_kisi, u_kex, u_kset, u_kasg, u_ksub4, u_ksub3, u_ksub2, u_ksub1, u_kaug2, u_kaug1, u_kas5, u_kas4, u_kas3, u_kas2, u_kas1, u_kret, u_kif, u_kfor2, u_kfor1, kand_t, kand_f, kor_t, kor_f, kite_t, kite_f, kif_t, kif_f, ok_sl', ok_kn, ok_kb, ok_ki, ok_ks, ok_gl', ok_bin', ok_neg', ok_not', ok_cmp', ok_chain', ok_and1, ok_and2, ok_or1, ok_or2, ok_and', ok_or', ok_ite', ok_nil, ok_cons, ok_tup', ok_lst', ok_ix', ok_sli', ok_fld', ok_call', ok_isi', ok_dic', ok_bi', ok_bm', ok_lc', ok_xnil, thenS_nx, thenS_rt, ok_xcons, ok_xex, ok_xset, ok_xasg, ok_xsub, ok_xaug, ok_xaugs, ok_xret, ok_xretn, ok_xpass, ok_xif, ok_xwhl, ok_xfor, ok_gets, ok_opt, ok_opt0, ok_truB, ok_truI, ok_truS, ok_truN, ok_truT, ok_addI, ok_subI, ok_augI, ok_augJ, ok_lt, ok_le, ok_gt, ok_ge, ok_eqI, ok_neI, ok_eqS, ok_neS, g0i, g0b, g0s, g0t, g0o, g0n, endQ_nx, endQ_rt, part_out, part_int, kn_kn, kn_ki, kn_sl, kn_bin, nwl0, nwl1, nwl2, nwl3, nwl4, nwl5, nwl6, nwl7, nwl8, nwl9, nwl10, nwl11, nwl12, mkt0, mkt1, mkt2, mkt3, mkt4, mkt5, mkt6, mkt7, mkt8, ok_sliS, ok_sliT, gd_nil, asg_n, asg_t, asgs_nil, asgs_cons, ok_it_exT, ok_it_exS, ok_noEx, kd_find, kd_islower, kd_upper, kd_lower, kd_join, ok_find, ok_islower, ok_lenS, ok_lenT, ok_abs, ok_intI, ok_intB, ok_tupT, ok_lstT, ok_ixS, ok_ixT, ok_inS, ok_ninS, isi_str, isi_int, isi_bl, isi_non, isi_tup, ok_min, ok_max, kd_index, len4, List.set_cons_zero, List.set_cons_succ, true_and, and_true, Bool.not_true, Bool.not_false, Bool.false_eq_true, if_true, if_false, decide_eq_true_eq, decide_true, Option.map_some, ok_ixM, hn, at0]
  refine k_if (fun ha0 => ?_) fun _ => ?_
  · rw [ok_xcons, ok_xset, ok_ki]
    -- behind the look at the cells
    have tail : ∀ x : Int, 0 ≤ x → Ok (exs D [.augs (.sl 0) (.ki 2) .add (.ki 1), .ife (.cmp .ge (.sl 4) (.ki 1000000000000000000)) [.sub (.sl 0) (.ki 0) (.sl 4)] [],
        .sub (.sl 0) (.ki 1) (.bin .mod (.bin .add (.bin .add (.bin .mul (.ix (.sl 0) (.ki 1)) (.ki 48271)) (.bin .mod (.sl 4) (.ki 2147483647))) (.bin .mul (.ki 7919) (.ix (.sl 0) (.ki 2)))) (.ki 2147483647))] [.ob n, .int m, .un, .un, .int x, .un] S) F := by
      intro x hx
      have hs1 : ∀ o : O, (S.set n o)[n]? = some o := fun o => List.getElem?_set_self hlt
      have m1 : ∀ (x : Int) (Q : W → Sto → Prop) (S : Sto), Ok (binM .mul (.int x) (.int 48271) S) Q = Q (.int (x * 48271)) S := fun x Q S => ok_mulP (by rw [show small64 48271 = true from by decide, Bool.or_true])
      have m2 : ∀ (x : Int) (Q : W → Sto → Prop) (S : Sto), Ok (binM .mul (.int 7919) (.int x) S) Q = Q (.int (7919 * x)) S := fun x Q S => ok_mulP (by rw [show small64 7919 = true from by decide, Bool.true_or])
      simp only [ok_ok, ok_bad, ok_exc, ok_pure, ok_mbad, u_kE, u_kbin, u_kcmp, u_kix, u_knotb, u_knot, u_kneg, u_kand, u_kor, u_kite, u_kcons2, u_kcons, u_ktup, u_klst, u_ksl5, u_ksl4, u_ksl3, u_ksl2, u_ksl1, u_kcall2, u_kcall, u_kbi, u_kbm3, u_kbm2, u_kbm1, u_kch3, u_kch2, u_kch1, u_klc3, u_klc2, u_klc1, u_kfld, u_kisi, u_kex, u_kset, u_kasg, u_ksub4, u_ksub3, u_ksub2, u_ksub1, u_kaug2, u_kaug1, u_kas5, u_kas4, u_kas3, u_kas2, u_kas1, u_kret, u_kif, u_kfor2, u_kfor1, kand_t, kand_f, kor_t, kor_f, kite_t, kite_f, kif_t, kif_f, ok_sl', ok_kn, ok_kb, ok_ki, ok_ks, ok_gl', ok_bin', ok_neg', ok_not', ok_cmp', ok_chain', ok_and1, ok_and2, ok_or1, ok_or2, ok_and', ok_or', ok_ite', ok_nil, ok_cons, ok_tup', ok_lst', ok_ix', ok_sli', ok_fld', ok_call', ok_isi', ok_dic', ok_bi', ok_bm', ok_lc', ok_xnil, thenS_nx, thenS_rt, ok_xcons, ok_xex, ok_xset, ok_xasg, ok_xsub, ok_xaug, ok_xaugs, ok_xret, ok_xretn, ok_xpass, ok_xif, ok_xwhl, ok_xfor, ok_gets, ok_opt, ok_opt0, ok_truB, ok_truI, ok_truS, ok_truN, ok_truT, ok_addI, ok_subI, ok_augI, ok_augJ, ok_lt, ok_le, ok_gt, ok_ge, ok_eqI, ok_neI, ok_eqS, ok_neS, g0i, g0b, g0s, g0t, g0o, g0n, endQ_nx, endQ_rt, part_out, part_int, kn_kn, kn_ki, kn_sl, kn_bin, nwl0, nwl1, nwl2, nwl3, nwl4, nwl5, nwl6, nwl7, nwl8, nwl9, nwl10, nwl11, nwl12, mkt0, mkt1, mkt2, mkt3, mkt4, mkt5, mkt6, mkt7, mkt8, ok_sliS, ok_sliT, gd_nil, asg_n, asg_t, asgs_nil, asgs_cons, ok_it_exT, ok_it_exS, ok_noEx, kd_find, kd_islower, kd_upper, kd_lower, kd_join, ok_find, ok_islower, ok_lenS, ok_lenT, ok_abs, ok_intI, ok_intB, ok_tupT, ok_lstT, ok_ixS, ok_ixT, ok_inS, ok_ninS, isi_str, isi_int, isi_bl, isi_non, isi_tup, ok_min, ok_max, kd_index, len4, List.set_cons_zero, List.set_cons_succ, true_and, and_true, Bool.not_true, Bool.not_false, Bool.false_eq_true, if_true, if_false, decide_eq_true_eq, decide_true, Option.map_some, ok_getIM, hn, at2, ok_setMM, ix4_2]
      refine k_if (fun _ => ?_) fun _ => ?_
      · simp only [ok_ok, ok_bad, ok_exc, ok_pure, ok_mbad, u_kE, u_kbin, u_kcmp, u_kix, u_knotb, u_knot, u_kneg, u_kand, u_kor, u_kite, u_kcons2, u_kcons, u_ktup, u_klst, u_ksl5, u_ksl4, u_ksl3, u_ksl2, u_ksl1, u_kcall2, u_kcall, u_kbi, u_kbm3, u_kbm2, u_kbm1, u_kch3, u_kch2, u_kch1, u_klc3, u_klc2, u_klc1, u_kfld, u_kisi, u_kex, u_kset, u_kasg, u_ksub4, u_ksub3, u_ksub2, u_ksub1, u_kaug2, u_kaug1, u_kas5, u_kas4, u_kas3, u_kas2, u_kas1, u_kret, u_kif, u_kfor2, u_kfor1, kand_t, kand_f, kor_t, kor_f, kite_t, kite_f, kif_t, kif_f, ok_sl', ok_kn, ok_kb, ok_ki, ok_ks, ok_gl', ok_bin', ok_neg', ok_not', ok_cmp', ok_chain', ok_and1, ok_and2, ok_or1, ok_or2, ok_and', ok_or', ok_ite', ok_nil, ok_cons, ok_tup', ok_lst', ok_ix', ok_sli', ok_fld', ok_call', ok_isi', ok_dic', ok_bi', ok_bm', ok_lc', ok_xnil, thenS_nx, thenS_rt, ok_xcons, ok_xex, ok_xset, ok_xasg, ok_xsub, ok_xaug, ok_xaugs, ok_xret, ok_xretn, ok_xpass, ok_xif, ok_xwhl, ok_xfor, ok_gets, ok_opt, ok_opt0, ok_truB, ok_truI, ok_truS, ok_truN, ok_truT, ok_addI, ok_subI, ok_augI, ok_augJ, ok_lt, ok_le, ok_gt, ok_ge, ok_eqI, ok_neI, ok_eqS, ok_neS, g0i, g0b, g0s, g0t, g0o, g0n, endQ_nx, endQ_rt, part_out, part_int, kn_kn, kn_ki, kn_sl, kn_bin, nwl0, nwl1, nwl2, nwl3, nwl4, nwl5, nwl6, nwl7, nwl8, nwl9, nwl10, nwl11, nwl12, mkt0, mkt1, mkt2, mkt3, mkt4, mkt5, mkt6, mkt7, mkt8, ok_sliS, ok_sliT, gd_nil, asg_n, asg_t, asgs_nil, asgs_cons, ok_it_exT, ok_it_exS, ok_noEx, kd_find, kd_islower, kd_upper, kd_lower, kd_join, ok_find, ok_islower, ok_lenS, ok_lenT, ok_abs, ok_intI, ok_intB, ok_tupT, ok_lstT, ok_ixS, ok_ixT, ok_inS, ok_ninS, isi_str, isi_int, isi_bl, isi_non, isi_tup, ok_min, ok_max, kd_index, len4, List.set_cons_zero, List.set_cons_succ, true_and, and_true, Bool.not_true, Bool.not_false, Bool.false_eq_true, if_true, if_false, decide_eq_true_eq, decide_true, Option.map_some, ok_setMM, hs1, ix4_0, ix4_1, m1, m2, ok_ixM, at1, at2, ok_modP (show (0 : Int) < 2147483647 by decide), List.set_set]
        refine hF _ _ _ _ _ (Same.refl.set _) (hs1 _) (by omega) (Int.emod_nonneg _ (by omega)) (Int.emod_lt_of_pos _ (by omega)) (by omega)
      · simp only [ok_ok, ok_bad, ok_exc, ok_pure, ok_mbad, u_kE, u_kbin, u_kcmp, u_kix, u_knotb, u_knot, u_kneg, u_kand, u_kor, u_kite, u_kcons2, u_kcons, u_ktup, u_klst, u_ksl5, u_ksl4, u_ksl3, u_ksl2, u_ksl1, u_kcall2, u_kcall, u_kbi, u_kbm3, u_kbm2, u_kbm1, u_kch3, u_kch2, u_kch1, u_klc3, u_klc2, u_klc1, u_kfld, u_kisi, u_kex, u_kset, u_kasg, u_ksub4, u_ksub3, u_ksub2, u_ksub1, u_kaug2, u_kaug1, u_kas5, u_kas4, u_kas3, u_kas2, u_kas1, u_kret, u_kif, u_kfor2, u_kfor1, kand_t, kand_f, kor_t, kor_f, kite_t, kite_f, kif_t, kif_f, ok_sl', ok_kn, ok_kb, ok_ki, ok_ks, ok_gl', ok_bin', ok_neg', ok_not', ok_cmp', ok_chain', ok_and1, ok_and2, ok_or1, ok_or2, ok_and', ok_or', ok_ite', ok_nil, ok_cons, ok_tup', ok_lst', ok_ix', ok_sli', ok_fld', ok_call', ok_isi', ok_dic', ok_bi', ok_bm', ok_lc', ok_xnil, thenS_nx, thenS_rt, ok_xcons, ok_xex, ok_xset, ok_xasg, ok_xsub, ok_xaug, ok_xaugs, ok_xret, ok_xretn, ok_xpass, ok_xif, ok_xwhl, ok_xfor, ok_gets, ok_opt, ok_opt0, ok_truB, ok_truI, ok_truS, ok_truN, ok_truT, ok_addI, ok_subI, ok_augI, ok_augJ, ok_lt, ok_le, ok_gt, ok_ge, ok_eqI, ok_neI, ok_eqS, ok_neS, g0i, g0b, g0s, g0t, g0o, g0n, endQ_nx, endQ_rt, part_out, part_int, kn_kn, kn_ki, kn_sl, kn_bin, nwl0, nwl1, nwl2, nwl3, nwl4, nwl5, nwl6, nwl7, nwl8, nwl9, nwl10, nwl11, nwl12, mkt0, mkt1, mkt2, mkt3, mkt4, mkt5, mkt6, mkt7, mkt8, ok_sliS, ok_sliT, gd_nil, asg_n, asg_t, asgs_nil, asgs_cons, ok_it_exT, ok_it_exS, ok_noEx, kd_find, kd_islower, kd_upper, kd_lower, kd_join, ok_find, ok_islower, ok_lenS, ok_lenT, ok_abs, ok_intI, ok_intB, ok_tupT, ok_lstT, ok_ixS, ok_ixT, ok_inS, ok_ninS, isi_str, isi_int, isi_bl, isi_non, isi_tup, ok_min, ok_max, kd_index, len4, List.set_cons_zero, List.set_cons_succ, true_and, and_true, Bool.not_true, Bool.not_false, Bool.false_eq_true, if_true, if_false, decide_eq_true_eq, decide_true, Option.map_some, ok_setMM, hs1, ix4_0, ix4_1, m1, m2, ok_ixM, at1, at2, ok_modP (show (0 : Int) < 2147483647 by decide), List.set_set]
        refine hF _ _ _ _ _ (Same.refl.set _) (hs1 _) ha (Int.emod_nonneg _ (by omega)) (Int.emod_lt_of_pos _ (by omega)) (by omega)
    simp only [ok_ok, ok_bad, ok_exc, ok_pure, ok_mbad, u_kE, u_kbin, u_kcmp, u_kix, u_knotb, u_knot, u_kneg, u_kand, u_kor, u_kite, u_kcons2, u_kcons, u_ktup, u_klst, u_ksl5, u_ksl4, u_ksl3, u_ksl2, u_ksl1, u_kcall2, u_kcall, u_kbi, u_kbm3, u_kbm2, u_kbm1, u_kch3, u_kch2, u_kch1, u_klc3, u_klc2, u_klc1, u_kfld, u_kisi, u_kex, u_kset, u_kasg, u_ksub4, u_ksub3, u_ksub2, u_ksub1, u_kaug2, u_kaug1, u_kas5, u_kas4, u_kas3, u_kas2, u_kas1, u_kret, u_kif, u_kfor2, u_kfor1, kand_t, kand_f, kor_t, kor_f, kite_t, kite_f, kif_t, kif_f, ok_sl', ok_kn, ok_kb, ok_ki, ok_ks, ok_gl', ok_bin', ok_neg', ok_not', ok_cmp', ok_chain', ok_and1, ok_and2, ok_or1, ok_or2, ok_and', ok_or', ok_ite', ok_nil, ok_cons, ok_tup', ok_lst', ok_ix', ok_sli', ok_fld', ok_call', ok_isi', ok_dic', ok_bi', ok_bm', ok_lc', ok_xnil, thenS_nx, thenS_rt, ok_xcons, ok_xex, ok_xset, ok_xasg, ok_xsub, ok_xaug, ok_xaugs, ok_xret, ok_xretn, ok_xpass, ok_xif, ok_xwhl, ok_xfor, ok_gets, ok_opt, ok_opt0, ok_truB, ok_truI, ok_truS, ok_truN, ok_truT, ok_addI, ok_subI, ok_augI, ok_augJ, ok_lt, ok_le, ok_gt, ok_ge, ok_eqI, ok_neI, ok_eqS, ok_neS, g0i, g0b, g0s, g0t, g0o, g0n, endQ_nx, endQ_rt, part_out, part_int, kn_kn, kn_ki, kn_sl, kn_bin, nwl0, nwl1, nwl2, nwl3, nwl4, nwl5, nwl6, nwl7, nwl8, nwl9, nwl10, nwl11, nwl12, mkt0, mkt1, mkt2, mkt3, mkt4, mkt5, mkt6, mkt7, mkt8, ok_sliS, ok_sliT, gd_nil, asg_n, asg_t, asgs_nil, asgs_cons, ok_it_exT, ok_it_exS, ok_noEx, kd_find, kd_islower, kd_upper, kd_lower, kd_join, ok_find, ok_islower, ok_lenS, ok_lenT, ok_abs, ok_intI, ok_intB, ok_tupT, ok_lstT, ok_ixS, ok_ixT, ok_inS, ok_ninS, isi_str, isi_int, isi_bl, isi_non, isi_tup, ok_min, ok_max, kd_index, len4, List.set_cons_zero, List.set_cons_succ, true_and, and_true, Bool.not_true, Bool.not_false, Bool.false_eq_true, if_true, if_false, decide_eq_true_eq, decide_true, Option.map_some, ok_ixM, hn, at2, at3, ok_lenM, hj]
    refine k_if (fun hlc => ?_) fun _ => ?_
    · have hlc := of_decide_eq_true hlc
      rw [List.length_map] at hlc
      obtain ⟨k, rfl⟩ := Int.eq_ofNat_of_zero_le hc
      have hk : k < cs.length := by omega
      have hx : (cs.map W.int)[k]? = some (.int cs[k]) := by rw [List.getElem?_map, List.getElem?_eq_getElem hk]; with_unfolding_all rfl
      rw [ok_xcons, ok_xset]
      simp only [ok_ix', ok_sl', g0o, u_kE, ok_ki, u_kix, ok_ixM, hn, at2, at3, ok_opt, hj, atI_n hx, u_kset, thenS_nx, List.set_cons_zero, List.set_cons_succ, ok_xnil]
      exact tail _ (hcs _ (List.getElem_mem hk))
    · rw [ok_xnil]
      exact tail 0 (Int.le_refl 0)
  · rw [ok_xnil]
    exact hF S .un a b c Same.refl hn ha hb0 hb1 hc
end
/-! ### signs -/
section
variable {D : Wd} {Q : W → Sto → Prop} {S : Sto}
theorem mem_find : n_find ∈ strNames := by decide
theorem mem_islower : n_islower ∈ strNames := by decide
theorem mem_upper : n_upper ∈ strNames := by decide
theorem mem_lower : n_lower ∈ strNames := by decide
/-- the signs, as the program has them -/
structure GvS (D : Wd) : Prop where
  signs : D.gv nm_SIGNS = some (.str gv_SIGNS)
theorem sp_rank (hg : D.gv nm_SIGNS = some (.str gv_SIGNS)) (x : List Nat) : Ok (fnM D 1 ts_rank [.str x] S) Q = Q (.int (Txt.find (toS gv_SIGNS) (toS x))) S := by
  rw [ok_fn (ρ := [.str x]) rfl]
  unfold ts_rank
  simp only [ok_ok, ok_bad, ok_exc, ok_pure, ok_mbad, u_kE, u_kbin, u_kcmp, u_kix, u_knotb, u_knot, u_kneg, u_kand, u_kor, u_kite, u_kcons2, u_kcons, u_ktup, u_klst, u_ksl5, u_ksl4, u_ksl3, u_ksl2, u_ksl1, u_kcall2, u_kcall, u_kbi, u_kbm3, u_kbm2, u_kbm1, u_kch3, u_kch2, u_kch1, u_klc3, u_klc2, u_klc1, u_kfld, u_kisi, u_kex, u_kset, u_kasg, u_ksub4, u_ksub3, u_ksub2, u_ksub1, u_kaug2, u_kaug1, u_kas5, u_kas4, u_kas3, u_kas2, u_kas1, u_kret, u_kif, u_kfor2, u_kfor1, kand_t, kand_f, kor_t, kor_f, kite_t, kite_f, kif_t, kif_f, ok_sl', ok_kn, ok_kb, ok_ki, ok_ks, ok_gl', ok_bin', ok_neg', ok_not', ok_cmp', ok_chain', ok_and1, ok_and2, ok_or1, ok_or2, ok_and', ok_or', ok_ite', ok_nil, ok_cons, ok_tup', ok_lst', ok_ix', ok_sli', ok_fld', ok_call', ok_isi', ok_dic', ok_bi', ok_bm', ok_lc', ok_xnil, thenS_nx, thenS_rt, ok_xcons, ok_xex, ok_xset, ok_xasg, ok_xsub, ok_xaug, ok_xaugs, ok_xret, ok_xretn, ok_xpass, ok_xif, ok_xwhl, ok_xfor, ok_gets, ok_opt, ok_opt0, ok_truB, ok_truI, ok_truS, ok_truN, ok_truT, ok_addI, ok_subI, ok_augI, ok_augJ, ok_lt, ok_le, ok_gt, ok_ge, ok_eqI, ok_neI, ok_eqS, ok_neS, g0i, g0b, g0s, g0t, g0o, g0n, endQ_nx, endQ_rt, part_out, part_int, kn_kn, kn_ki, kn_sl, kn_bin, nwl0, nwl1, nwl2, nwl3, nwl4, nwl5, nwl6, nwl7, nwl8, nwl9, nwl10, nwl11, nwl12, mkt0, mkt1, mkt2, mkt3, mkt4, mkt5, mkt6, mkt7, mkt8, ok_sliS, ok_sliT, gd_nil, asg_n, asg_t, asgs_nil, asgs_cons, ok_it_exT, ok_it_exS, ok_noEx, kd_find, kd_islower, kd_upper, kd_lower, kd_join, ok_find, ok_islower, ok_lenS, ok_lenT, ok_abs, ok_intI, ok_intB, ok_tupT, ok_lstT, ok_ixS, ok_ixT, ok_inS, ok_ninS, isi_str, isi_int, isi_bl, isi_non, isi_tup, ok_min, ok_max, kd_index, len4, List.set_cons_zero, List.set_cons_succ, true_and, and_true, Bool.not_true, Bool.not_false, Bool.false_eq_true, if_true, if_false, decide_eq_true_eq, decide_true, Option.map_some, hg]
theorem sp_sign_of (hg : D.gv nm_SIGNS = some (.str gv_SIGNS)) (i : Int) : Ok (fnM D 1 ts_sign_of [.int i] S) Q = Ok (optM ((atI gv_SIGNS i).map fun c => W.str [c]) S) Q := by
  rw [ok_fn (ρ := [.int i]) rfl]
  unfold ts_sign_of
  simp only [ok_ok, ok_bad, ok_exc, ok_pure, ok_mbad, u_kE, u_kbin, u_kcmp, u_kix, u_knotb, u_knot, u_kneg, u_kand, u_kor, u_kite, u_kcons2, u_kcons, u_ktup, u_klst, u_ksl5, u_ksl4, u_ksl3, u_ksl2, u_ksl1, u_kcall2, u_kcall, u_kbi, u_kbm3, u_kbm2, u_kbm1, u_kch3, u_kch2, u_kch1, u_klc3, u_klc2, u_klc1, u_kfld, u_kisi, u_kex, u_kset, u_kasg, u_ksub4, u_ksub3, u_ksub2, u_ksub1, u_kaug2, u_kaug1, u_kas5, u_kas4, u_kas3, u_kas2, u_kas1, u_kret, u_kif, u_kfor2, u_kfor1, kand_t, kand_f, kor_t, kor_f, kite_t, kite_f, kif_t, kif_f, ok_sl', ok_kn, ok_kb, ok_ki, ok_ks, ok_gl', ok_bin', ok_neg', ok_not', ok_cmp', ok_chain', ok_and1, ok_and2, ok_or1, ok_or2, ok_and', ok_or', ok_ite', ok_nil, ok_cons, ok_tup', ok_lst', ok_ix', ok_sli', ok_fld', ok_call', ok_isi', ok_dic', ok_bi', ok_bm', ok_lc', ok_xnil, thenS_nx, thenS_rt, ok_xcons, ok_xex, ok_xset, ok_xasg, ok_xsub, ok_xaug, ok_xaugs, ok_xret, ok_xretn, ok_xpass, ok_xif, ok_xwhl, ok_xfor, ok_gets, ok_opt, ok_opt0, ok_truB, ok_truI, ok_truS, ok_truN, ok_truT, ok_addI, ok_subI, ok_augI, ok_augJ, ok_lt, ok_le, ok_gt, ok_ge, ok_eqI, ok_neI, ok_eqS, ok_neS, g0i, g0b, g0s, g0t, g0o, g0n, endQ_nx, endQ_rt, part_out, part_int, kn_kn, kn_ki, kn_sl, kn_bin, nwl0, nwl1, nwl2, nwl3, nwl4, nwl5, nwl6, nwl7, nwl8, nwl9, nwl10, nwl11, nwl12, mkt0, mkt1, mkt2, mkt3, mkt4, mkt5, mkt6, mkt7, mkt8, ok_sliS, ok_sliT, gd_nil, asg_n, asg_t, asgs_nil, asgs_cons, ok_it_exT, ok_it_exS, ok_noEx, kd_find, kd_islower, kd_upper, kd_lower, kd_join, ok_find, ok_islower, ok_lenS, ok_lenT, ok_abs, ok_intI, ok_intB, ok_tupT, ok_lstT, ok_ixS, ok_ixT, ok_inS, ok_ninS, isi_str, isi_int, isi_bl, isi_non, isi_tup, ok_min, ok_max, kd_index, len4, List.set_cons_zero, List.set_cons_succ, true_and, and_true, Bool.not_true, Bool.not_false, Bool.false_eq_true, if_true, if_false, decide_eq_true_eq, decide_true, Option.map_some, hg]
  cases atI gv_SIGNS i <;> with_unfolding_all rfl
/-- the twin of a text -/
def twinO (x : List Nat) : Option (List Nat) :=
  if inStr x gv_SMALL = true then (atI gv_GREAT (Txt.find (toS gv_SMALL) (toS x))).map fun c => [c]
  else if inStr x gv_GREAT = true then (atI gv_SMALL (Txt.find (toS gv_GREAT) (toS x))).map fun c => [c]
  else some x
theorem sp_twin (h1 : D.gv nm_SMALL = some (.str gv_SMALL)) (h2 : D.gv nm_GREAT = some (.str gv_GREAT)) {x y : List Nat} (hx : twinO x = some y) : Ok (fnM D 1 ts_twin [.str x] S) Q = Q (.str y) S := by
  rw [ok_fn (ρ := [.str x]) rfl]
  unfold ts_twin
  unfold twinO at hx
  cases hs : inStr x gv_SMALL with
  | true =>
    rw [hs, if_pos rfl] at hx
    cases ha : atI gv_GREAT (Txt.find (toS gv_SMALL) (toS x)) with
    | none => rw [ha] at hx; cases hx
    | some c => rw [ha] at hx; cases hx; simp only [ok_ok, ok_bad, ok_exc, ok_pure, ok_mbad, u_kE, u_kbin, u_kcmp, u_kix, u_knotb, u_knot, u_kneg, u_kand, u_kor, u_kite, u_kcons2, u_kcons, u_ktup, u_klst, u_ksl5, u_ksl4, u_ksl3, u_ksl2, u_ksl1, u_kcall2, u_kcall, u_kbi, u_kbm3, u_kbm2, u_kbm1, u_kch3, u_kch2, u_kch1, u_klc3, u_klc2, u_klc1, u_kfld, u_kisi, u_kex, u_kset, u_kasg, u_ksub4, u_ksub3, u_ksub2, u_ksub1, u_kaug2, u_kaug1, u_kas5, u_kas4, u_kas3, u_kas2, u_kas1, u_kret, u_kif, u_kfor2, u_kfor1, kand_t, kand_f, kor_t, kor_f, kite_t, kite_f, kif_t, kif_f, ok_sl', ok_kn, ok_kb, ok_ki, ok_ks, ok_gl', ok_bin', ok_neg', ok_not', ok_cmp', ok_chain', ok_and1, ok_and2, ok_or1, ok_or2, ok_and', ok_or', ok_ite', ok_nil, ok_cons, ok_tup', ok_lst', ok_ix', ok_sli', ok_fld', ok_call', ok_isi', ok_dic', ok_bi', ok_bm', ok_lc', ok_xnil, thenS_nx, thenS_rt, ok_xcons, ok_xex, ok_xset, ok_xasg, ok_xsub, ok_xaug, ok_xaugs, ok_xret, ok_xretn, ok_xpass, ok_xif, ok_xwhl, ok_xfor, ok_gets, ok_opt, ok_opt0, ok_truB, ok_truI, ok_truS, ok_truN, ok_truT, ok_addI, ok_subI, ok_augI, ok_augJ, ok_lt, ok_le, ok_gt, ok_ge, ok_eqI, ok_neI, ok_eqS, ok_neS, g0i, g0b, g0s, g0t, g0o, g0n, endQ_nx, endQ_rt, part_out, part_int, kn_kn, kn_ki, kn_sl, kn_bin, nwl0, nwl1, nwl2, nwl3, nwl4, nwl5, nwl6, nwl7, nwl8, nwl9, nwl10, nwl11, nwl12, mkt0, mkt1, mkt2, mkt3, mkt4, mkt5, mkt6, mkt7, mkt8, ok_sliS, ok_sliT, gd_nil, asg_n, asg_t, asgs_nil, asgs_cons, ok_it_exT, ok_it_exS, ok_noEx, kd_find, kd_islower, kd_upper, kd_lower, kd_join, ok_find, ok_islower, ok_lenS, ok_lenT, ok_abs, ok_intI, ok_intB, ok_tupT, ok_lstT, ok_ixS, ok_ixT, ok_inS, ok_ninS, isi_str, isi_int, isi_bl, isi_non, isi_tup, ok_min, ok_max, kd_index, len4, List.set_cons_zero, List.set_cons_succ, true_and, and_true, Bool.not_true, Bool.not_false, Bool.false_eq_true, if_true, if_false, decide_eq_true_eq, decide_true, Option.map_some, h1, h2, hs, ha]
  | false =>
    rw [hs, if_neg Bool.false_ne_true] at hx
    cases hg : inStr x gv_GREAT with
    | true =>
      rw [hg, if_pos rfl] at hx
      cases ha : atI gv_SMALL (Txt.find (toS gv_GREAT) (toS x)) with
      | none => rw [ha] at hx; cases hx
      | some c => rw [ha] at hx; cases hx; simp only [ok_ok, ok_bad, ok_exc, ok_pure, ok_mbad, u_kE, u_kbin, u_kcmp, u_kix, u_knotb, u_knot, u_kneg, u_kand, u_kor, u_kite, u_kcons2, u_kcons, u_ktup, u_klst, u_ksl5, u_ksl4, u_ksl3, u_ksl2, u_ksl1, u_kcall2, u_kcall, u_kbi, u_kbm3, u_kbm2, u_kbm1, u_kch3, u_kch2, u_kch1, u_klc3, u_klc2, u_klc1, u_kfld, u_kisi, u_kex, u_kset, u_kasg, u_ksub4, u_ksub3, u_ksub2, u_ksub1, u_kaug2, u_kaug1, u_kas5, u_kas4, u_kas3, u_kas2, u_kas1, u_kret, u_kif, u_kfor2, u_kfor1, kand_t, kand_f, kor_t, kor_f, kite_t, kite_f, kif_t, kif_f, ok_sl', ok_kn, ok_kb, ok_ki, ok_ks, ok_gl', ok_bin', ok_neg', ok_not', ok_cmp', ok_chain', ok_and1, ok_and2, ok_or1, ok_or2, ok_and', ok_or', ok_ite', ok_nil, ok_cons, ok_tup', ok_lst', ok_ix', ok_sli', ok_fld', ok_call', ok_isi', ok_dic', ok_bi', ok_bm', ok_lc', ok_xnil, thenS_nx, thenS_rt, ok_xcons, ok_xex, ok_xset, ok_xasg, ok_xsub, ok_xaug, ok_xaugs, ok_xret, ok_xretn, ok_xpass, ok_xif, ok_xwhl, ok_xfor, ok_gets, ok_opt, ok_opt0, ok_truB, ok_truI, ok_truS, ok_truN, ok_truT, ok_addI, ok_subI, ok_augI, ok_augJ, ok_lt, ok_le, ok_gt, ok_ge, ok_eqI, ok_neI, ok_eqS, ok_neS, g0i, g0b, g0s, g0t, g0o, g0n, endQ_nx, endQ_rt, part_out, part_int, kn_kn, kn_ki, kn_sl, kn_bin, nwl0, nwl1, nwl2, nwl3, nwl4, nwl5, nwl6, nwl7, nwl8, nwl9, nwl10, nwl11, nwl12, mkt0, mkt1, mkt2, mkt3, mkt4, mkt5, mkt6, mkt7, mkt8, ok_sliS, ok_sliT, gd_nil, asg_n, asg_t, asgs_nil, asgs_cons, ok_it_exT, ok_it_exS, ok_noEx, kd_find, kd_islower, kd_upper, kd_lower, kd_join, ok_find, ok_islower, ok_lenS, ok_lenT, ok_abs, ok_intI, ok_intB, ok_tupT, ok_lstT, ok_ixS, ok_ixT, ok_inS, ok_ninS, isi_str, isi_int, isi_bl, isi_non, isi_tup, ok_min, ok_max, kd_index, len4, List.set_cons_zero, List.set_cons_succ, true_and, and_true, Bool.not_true, Bool.not_false, Bool.false_eq_true, if_true, if_false, decide_eq_true_eq, decide_true, Option.map_some, h1, h2, hs, hg, ha]
    | false =>
      rw [hg, if_neg Bool.false_ne_true] at hx
      cases hx
      simp only [ok_ok, ok_bad, ok_exc, ok_pure, ok_mbad, u_kE, u_kbin, u_kcmp, u_kix, u_knotb, u_knot, u_kneg, u_kand, u_kor, u_kite, u_kcons2, u_kcons, u_ktup, u_klst, u_ksl5, u_ksl4, u_ksl3, u_ksl2, u_ksl1, u_kcall2, u_kcall, u_kbi, u_kbm3, u_kbm2, u_kbm1, u_kch3, u_kch2, u_kch1, u_klc3, u_klc2, u_klc1, u_kfld, u_kisi, u_kex, u_kset, u_kasg, u_ksub4, u_ksub3, u_ksub2, u_ksub1, u_kaug2, u_kaug1, u_kas5, u_kas4, u_kas3, u_kas2, u_kas1, u_kret, u_kif, u_kfor2, u_kfor1, kand_t, kand_f, kor_t, kor_f, kite_t, kite_f, kif_t, kif_f, ok_sl', ok_kn, ok_kb, ok_ki, ok_ks, ok_gl', ok_bin', ok_neg', ok_not', ok_cmp', ok_chain', ok_and1, ok_and2, ok_or1, ok_or2, ok_and', ok_or', ok_ite', ok_nil, ok_cons, ok_tup', ok_lst', ok_ix', ok_sli', ok_fld', ok_call', ok_isi', ok_dic', ok_bi', ok_bm', ok_lc', ok_xnil, thenS_nx, thenS_rt, ok_xcons, ok_xex, ok_xset, ok_xasg, ok_xsub, ok_xaug, ok_xaugs, ok_xret, ok_xretn, ok_xpass, ok_xif, ok_xwhl, ok_xfor, ok_gets, ok_opt, ok_opt0, ok_truB, ok_truI, ok_truS, ok_truN, ok_truT, ok_addI, ok_subI, ok_augI, ok_augJ, ok_lt, ok_le, ok_gt, ok_ge, ok_eqI, ok_neI, ok_eqS, ok_neS, g0i, g0b, g0s, g0t, g0o, g0n, endQ_nx, endQ_rt, part_out, part_int, kn_kn, kn_ki, kn_sl, kn_bin, nwl0, nwl1, nwl2, nwl3, nwl4, nwl5, nwl6, nwl7, nwl8, nwl9, nwl10, nwl11, nwl12, mkt0, mkt1, mkt2, mkt3, mkt4, mkt5, mkt6, mkt7, mkt8, ok_sliS, ok_sliT, gd_nil, asg_n, asg_t, asgs_nil, asgs_cons, ok_it_exT, ok_it_exS, ok_noEx, kd_find, kd_islower, kd_upper, kd_lower, kd_join, ok_find, ok_islower, ok_lenS, ok_lenT, ok_abs, ok_intI, ok_intB, ok_tupT, ok_lstT, ok_ixS, ok_ixT, ok_inS, ok_ninS, isi_str, isi_int, isi_bl, isi_non, isi_tup, ok_min, ok_max, kd_index, len4, List.set_cons_zero, List.set_cons_succ, true_and, and_true, Bool.not_true, Bool.not_false, Bool.false_eq_true, if_true, if_false, decide_eq_true_eq, decide_true, Option.map_some, h1, h2, hs, hg]
/-- the law's own twin -/
def lawTwin (x : List Nat) : List Nat := if Txt.islower (toS x) = true then x.map up1 else x.map lo1
theorem sp_lawTwin {x : List Nat} (hx : (x.all (· < 128) && decide (x.length ≤ 5592405)) = true) : Ok (fnM D 1 ts__law_twin [.str x] S) Q = Q (.str (lawTwin x)) S := by
  rw [ok_fn (ρ := [.str x]) rfl]
  unfold ts__law_twin lawTwin
  cases hs : Txt.islower (toS x) <;> simp only [ok_ok, ok_bad, ok_exc, ok_pure, ok_mbad, u_kE, u_kbin, u_kcmp, u_kix, u_knotb, u_knot, u_kneg, u_kand, u_kor, u_kite, u_kcons2, u_kcons, u_ktup, u_klst, u_ksl5, u_ksl4, u_ksl3, u_ksl2, u_ksl1, u_kcall2, u_kcall, u_kbi, u_kbm3, u_kbm2, u_kbm1, u_kch3, u_kch2, u_kch1, u_klc3, u_klc2, u_klc1, u_kfld, u_kisi, u_kex, u_kset, u_kasg, u_ksub4, u_ksub3, u_ksub2, u_ksub1, u_kaug2, u_kaug1, u_kas5, u_kas4, u_kas3, u_kas2, u_kas1, u_kret, u_kif, u_kfor2, u_kfor1, kand_t, kand_f, kor_t, kor_f, kite_t, kite_f, kif_t, kif_f, ok_sl', ok_kn, ok_kb, ok_ki, ok_ks, ok_gl', ok_bin', ok_neg', ok_not', ok_cmp', ok_chain', ok_and1, ok_and2, ok_or1, ok_or2, ok_and', ok_or', ok_ite', ok_nil, ok_cons, ok_tup', ok_lst', ok_ix', ok_sli', ok_fld', ok_call', ok_isi', ok_dic', ok_bi', ok_bm', ok_lc', ok_xnil, thenS_nx, thenS_rt, ok_xcons, ok_xex, ok_xset, ok_xasg, ok_xsub, ok_xaug, ok_xaugs, ok_xret, ok_xretn, ok_xpass, ok_xif, ok_xwhl, ok_xfor, ok_gets, ok_opt, ok_opt0, ok_truB, ok_truI, ok_truS, ok_truN, ok_truT, ok_addI, ok_subI, ok_augI, ok_augJ, ok_lt, ok_le, ok_gt, ok_ge, ok_eqI, ok_neI, ok_eqS, ok_neS, g0i, g0b, g0s, g0t, g0o, g0n, endQ_nx, endQ_rt, part_out, part_int, kn_kn, kn_ki, kn_sl, kn_bin, nwl0, nwl1, nwl2, nwl3, nwl4, nwl5, nwl6, nwl7, nwl8, nwl9, nwl10, nwl11, nwl12, mkt0, mkt1, mkt2, mkt3, mkt4, mkt5, mkt6, mkt7, mkt8, ok_sliS, ok_sliT, gd_nil, asg_n, asg_t, asgs_nil, asgs_cons, ok_it_exT, ok_it_exS, ok_noEx, kd_find, kd_islower, kd_upper, kd_lower, kd_join, ok_find, ok_islower, ok_lenS, ok_lenT, ok_abs, ok_intI, ok_intB, ok_tupT, ok_lstT, ok_ixS, ok_ixT, ok_inS, ok_ninS, isi_str, isi_int, isi_bl, isi_non, isi_tup, ok_min, ok_max, kd_index, len4, List.set_cons_zero, List.set_cons_succ, true_and, and_true, Bool.not_true, Bool.not_false, Bool.false_eq_true, if_true, if_false, decide_eq_true_eq, decide_true, Option.map_some, hs, ok_upper, ok_lower, hx]
theorem sp_lawOrder : Ok (fnM D 2 ts__law_order [] S) Q = Q (.str gv_SIGNS) S := by
  rw [ok_fn (ρ := [.un, .un]) rfl]
  unfold ts__law_order
  simp only [ok_ok, ok_bad, ok_exc, ok_pure, ok_mbad, u_kE, u_kbin, u_kcmp, u_kix, u_knotb, u_knot, u_kneg, u_kand, u_kor, u_kite, u_kcons2, u_kcons, u_ktup, u_klst, u_ksl5, u_ksl4, u_ksl3, u_ksl2, u_ksl1, u_kcall2, u_kcall, u_kbi, u_kbm3, u_kbm2, u_kbm1, u_kch3, u_kch2, u_kch1, u_klc3, u_klc2, u_klc1, u_kfld, u_kisi, u_kex, u_kset, u_kasg, u_ksub4, u_ksub3, u_ksub2, u_ksub1, u_kaug2, u_kaug1, u_kas5, u_kas4, u_kas3, u_kas2, u_kas1, u_kret, u_kif, u_kfor2, u_kfor1, kand_t, kand_f, kor_t, kor_f, kite_t, kite_f, kif_t, kif_f, ok_sl', ok_kn, ok_kb, ok_ki, ok_ks, ok_gl', ok_bin', ok_neg', ok_not', ok_cmp', ok_chain', ok_and1, ok_and2, ok_or1, ok_or2, ok_and', ok_or', ok_ite', ok_nil, ok_cons, ok_tup', ok_lst', ok_ix', ok_sli', ok_fld', ok_call', ok_isi', ok_dic', ok_bi', ok_bm', ok_lc', ok_xnil, thenS_nx, thenS_rt, ok_xcons, ok_xex, ok_xset, ok_xasg, ok_xsub, ok_xaug, ok_xaugs, ok_xret, ok_xretn, ok_xpass, ok_xif, ok_xwhl, ok_xfor, ok_gets, ok_opt, ok_opt0, ok_truB, ok_truI, ok_truS, ok_truN, ok_truT, ok_addI, ok_subI, ok_augI, ok_augJ, ok_lt, ok_le, ok_gt, ok_ge, ok_eqI, ok_neI, ok_eqS, ok_neS, g0i, g0b, g0s, g0t, g0o, g0n, endQ_nx, endQ_rt, part_out, part_int, kn_kn, kn_ki, kn_sl, kn_bin, nwl0, nwl1, nwl2, nwl3, nwl4, nwl5, nwl6, nwl7, nwl8, nwl9, nwl10, nwl11, nwl12, mkt0, mkt1, mkt2, mkt3, mkt4, mkt5, mkt6, mkt7, mkt8, ok_sliS, ok_sliT, gd_nil, asg_n, asg_t, asgs_nil, asgs_cons, ok_it_exT, ok_it_exS, ok_noEx, kd_find, kd_islower, kd_upper, kd_lower, kd_join, ok_find, ok_islower, ok_lenS, ok_lenT, ok_abs, ok_intI, ok_intB, ok_tupT, ok_lstT, ok_ixS, ok_ixT, ok_inS, ok_ninS, isi_str, isi_int, isi_bl, isi_non, isi_tup, ok_min, ok_max, kd_index, len4, List.set_cons_zero, List.set_cons_succ, true_and, and_true, Bool.not_true, Bool.not_false, Bool.false_eq_true, if_true, if_false, decide_eq_true_eq, decide_true, Option.map_some, ok_upper, ok_addS]
  rw [if_pos (by decide), if_pos (by decide), if_pos (by decide), if_pos (by decide), if_pos (by decide)]
  with_unfolding_all rfl
/-! ### alike -/
/-- flat values as data -/
def flD : W → PyData
  | .bl b => .bool b
  | .int i => .int i
  | .str x => .str (toS x)
  | _ => .none
theorem rd_flat {k : Nat} {w : W} (h : flatW w = true) : rd S (k + 1) w = some (flD w) := by
  cases w <;> first | rfl | cases h
theorem mapO_flat {k : Nat} : ∀ {ws : List W}, ws.all flatW = true → mapO (rd S (k + 1)) ws = some (ws.map flD)
  | [], _ => rfl
  | w :: ws, h => by
    rw [List.all_cons, Bool.and_eq_true] at h
    simp only [mapO, rd_flat h.1, mapO_flat h.2, List.map_cons]
theorem rd_lst {k n : Nat} {xs : List W} (h : LstAt S n xs) : rd S (k + 1) (.ob n) = (mapO (rd S k) xs).map .list := by
  rcases h with h | h <;> simp only [rd, h]
theorem rd_lst_flat {n : Nat} {xs : List W} (h : LstAt S n xs) (hf : xs.all flatW = true) : rd S DEEP (.ob n) = some (.list (xs.map flD)) := by
  show rd S (149 + 1) _ = _
  rw [rd_lst h, show (149 : Nat) = 148 + 1 from rfl, mapO_flat hf]; with_unfolding_all rfl
/-- what is read alike is alike -/
theorem sp_alike {x y : W} {d : PyData} (hx : rd S DEEP x = some d) (hy : rd S DEEP y = some d) (h1 : d.canLay0 = true) (h2 : d.showable = true) (h3 : dw d ≤ LINE) (hn : (∃ n, x = .ob n) ∨ ∃ xs, x = .tup xs)
    (hun : x ≠ .un) (hun2 : y ≠ .un) : Ok (fnM D 2 ts__law_alike [x, y] S) Q = Q (.bl true) S := by
  rw [ok_fn (ρ := [x, y]) rfl]
  unfold ts__law_alike
  have g0 : ∀ (Q : W → Sto → Prop) (S : Sto), Ok (getSl [x, y] 0 S) Q = Q x S := fun Q S => ok_get0 x [y] hun
  have g1 : ∀ (Q : W → Sto → Prop) (S : Sto), Ok (getSl [x, y] 1 S) Q = Q y S := fun Q S => by
    rw [ok_gets]; exact ok_get0 y [] hun2
  simp only [ok_ok, ok_bad, ok_exc, ok_pure, ok_mbad, u_kE, u_kbin, u_kcmp, u_kix, u_knotb, u_knot, u_kneg, u_kand, u_kor, u_kite, u_kcons2, u_kcons, u_ktup, u_klst, u_ksl5, u_ksl4, u_ksl3, u_ksl2, u_ksl1, u_kcall2, u_kcall, u_kbi, u_kbm3, u_kbm2, u_kbm1, u_kch3, u_kch2, u_kch1, u_klc3, u_klc2, u_klc1, u_kfld, u_kisi, u_kex, u_kset, u_kasg, u_ksub4, u_ksub3, u_ksub2, u_ksub1, u_kaug2, u_kaug1, u_kas5, u_kas4, u_kas3, u_kas2, u_kas1, u_kret, u_kif, u_kfor2, u_kfor1, kand_t, kand_f, kor_t, kor_f, kite_t, kite_f, kif_t, kif_f, ok_sl', ok_kn, ok_kb, ok_ki, ok_ks, ok_gl', ok_bin', ok_neg', ok_not', ok_cmp', ok_chain', ok_and1, ok_and2, ok_or1, ok_or2, ok_and', ok_or', ok_ite', ok_nil, ok_cons, ok_tup', ok_lst', ok_ix', ok_sli', ok_fld', ok_call', ok_isi', ok_dic', ok_bi', ok_bm', ok_lc', ok_xnil, thenS_nx, thenS_rt, ok_xcons, ok_xex, ok_xset, ok_xasg, ok_xsub, ok_xaug, ok_xaugs, ok_xret, ok_xretn, ok_xpass, ok_xif, ok_xwhl, ok_xfor, ok_gets, ok_opt, ok_opt0, ok_truB, ok_truI, ok_truS, ok_truN, ok_truT, ok_addI, ok_subI, ok_augI, ok_augJ, ok_lt, ok_le, ok_gt, ok_ge, ok_eqI, ok_neI, ok_eqS, ok_neS, g0i, g0b, g0s, g0t, g0o, g0n, endQ_nx, endQ_rt, part_out, part_int, kn_kn, kn_ki, kn_sl, kn_bin, nwl0, nwl1, nwl2, nwl3, nwl4, nwl5, nwl6, nwl7, nwl8, nwl9, nwl10, nwl11, nwl12, mkt0, mkt1, mkt2, mkt3, mkt4, mkt5, mkt6, mkt7, mkt8, ok_sliS, ok_sliT, gd_nil, asg_n, asg_t, asgs_nil, asgs_cons, ok_it_exT, ok_it_exS, ok_noEx, kd_find, kd_islower, kd_upper, kd_lower, kd_join, ok_find, ok_islower, ok_lenS, ok_lenT, ok_abs, ok_intI, ok_intB, ok_tupT, ok_lstT, ok_ixS, ok_ixT, ok_inS, ok_ninS, isi_str, isi_int, isi_bl, isi_non, isi_tup, ok_min, ok_max, kd_index, len4, List.set_cons_zero, List.set_cons_succ, true_and, and_true, Bool.not_true, Bool.not_false, Bool.false_eq_true, if_true, if_false, decide_eq_true_eq, decide_true, Option.map_some, g0, g1, ok_eqD hx hy h1 h1 hn, eqv_self h1, ok_repr x hx h2 h3 h1, ok_repr y hy h2 h3 h1]
end
/-! ### what stays -/
/-- all that stands but the place n is as it was; more may stand behind -/
def Keep (n : Nat) (S S' : Sto) : Prop := S.length ≤ S'.length ∧ ∀ m : Nat, m < S.length → m ≠ n → S'[m]? = S[m]?
theorem Keep.refl {n : Nat} {S : Sto} : Keep n S S := ⟨Nat.le_refl _, fun _ _ _ => rfl⟩
theorem Keep.trans {n : Nat} {S S1 S2 : Sto} (a : Keep n S S1) (b : Keep n S1 S2) : Keep n S S2 := ⟨Nat.le_trans a.1 b.1, fun m h1 h2 => (b.2 m (Nat.lt_of_lt_of_le h1 a.1) h2).trans (a.2 m h1 h2)⟩
theorem Keep.app {n : Nat} {S : Sto} (T : Sto) : Keep n S (S ++ T) := ⟨by rw [List.length_append]; omega, fun m h _ => List.getElem?_append_left h⟩
theorem Same.keep {n : Nat} {S S' : Sto} (h : Same n S S') : Keep n S S' := ⟨Nat.le_of_eq h.1.symm, fun m _ hm => h.2 m hm⟩
theorem Keep.get {n m : Nat} {S S' : Sto} {o : O} (h : Keep n S S') (e : S[m]? = some o) (hm : m ≠ n) : S'[m]? = some o := by rw [h.2 m (List.getElem?_eq_some_iff.mp e).1 hm]; exact e
theorem Keep.lst {n m : Nat} {S S' : Sto} {xs : List W} (h : Keep n S S') (e : LstAt S m xs) (hm : m ≠ n) : LstAt S' m xs := by
  rcases e with e | e
  · exact .inl (h.get e hm)
  · exact .inr (h.get e hm)
/-- the bag's own place is not touched by what is new -/
theorem bag_lt {S : Sto} {n j : Nat} {cs : List Int} (h : Bag S n j cs) : n < S.length ∧ j < S.length := by
  obtain ⟨a, b, c, h1, _, _, _, _, _, h7, _⟩ := h
  exact ⟨(List.getElem?_eq_some_iff.mp h1).1, (List.getElem?_eq_some_iff.mp h7).1⟩
theorem joinW_nil : ∀ ss : List (List Nat), joinW [] ss = ss.flatten
  | [] => rfl
  | [p] => by simp [joinW]
  | p :: q :: r => by
    have ih := joinW_nil (q :: r)
    simp only [joinW, List.nil_append, ih, List.flatten_cons]
theorem strsW_map {α : Type} (f : α → List Nat) (xs : List α) : strsW (xs.map fun a => W.str (f a)) = some (xs.map f) := by
  induction xs with
  | nil => rfl
  | cons a r ih => simp only [List.map_cons, strsW, ih]
theorem Bag.put {S : Sto} {n j m : Nat} {cs : List Int} (h : Bag S n j cs) (h1 : m ≠ n) (h2 : m ≠ j) (o : O) : Bag (S.set m o) n j cs := by
  obtain ⟨a, b, c, e1, r1, r2, r3, r4, r5, e2, r6⟩ := h
  exact ⟨a, b, c, by rw [List.getElem?_set_ne h1]; exact e1, r1, r2, r3, r4, r5, by rw [List.getElem?_set_ne h2]; exact e2, r6⟩
theorem Keep.put {S S' : Sto} {n m : Nat} (k : Keep n S S') (h : S.length ≤ m) (o : O) : Keep n S (S'.set m o) :=
  ⟨by rw [List.length_set]; exact k.1, fun i hi hn => by rw [List.getElem?_set_ne (by omega)]; exact k.2 i hi hn⟩
end At

set_option Elab.async false
set_option linter.all false
set_option maxRecDepth 100000
set_option maxHeartbeats 4000000
/-! AtW: rows of signs. -/
namespace At
open PySem PySem.Spec PyProof.Rows L2

def sgN (k : Nat) : Nat := gv_SIGNS.getD k 0
def pairW (p : Nat × Nat) : W := .tup [.str [sgN p.1], .str [sgN p.2]]
def rowsW (ps : List (Nat × Nat)) : W := .tup (ps.map pairW)
def ROk (ps : List (Nat × Nat)) : Prop := ∀ p ∈ ps, p.1 < 95 ∧ p.2 < 95
/-- a table over the signs -/
def tab (f : Nat → Bool) : List Bool := (List.range 95).map f
def covers (ps : List (Nat × Nat)) (k : Nat) : Bool := ps.any fun p => decide (p.1 ≤ k ∧ k ≤ p.2)
theorem tab_congr {f g : Nat → Bool} (h : ∀ k, k < 95 → f k = g k) : tab f = tab g := List.map_congr_left fun k hk => h k (List.mem_range.mp hk)
theorem tab_len (f : Nat → Bool) : (tab f).length = 95 := by simp [tab]
theorem tab_get {f : Nat → Bool} {k : Nat} (h : k < 95) : (tab f)[k]? = some (f k) := by
  unfold tab
  rw [List.getElem?_map, List.getElem?_range h]; rfl
theorem tab_set {f : Nat → Bool} {k : Nat} : (tab f).set k true = tab fun i => f i || decide (i = k) := by
  refine List.ext_getElem? fun i => ?_
  by_cases hi : i < 95
  · rw [tab_get hi]
    by_cases e : k = i
    · subst e
      rw [List.getElem?_set_self (by rw [tab_len]; exact hi)]
      simp
    · rw [List.getElem?_set_ne e, tab_get hi, decide_eq_false (fun z => e z.symm), Bool.or_false]
  · rw [List.getElem?_eq_none (by rw [List.length_set, tab_len]; omega), List.getElem?_eq_none (by rw [tab_len]; omega)]
structure SignsOk (D : Wd) : Prop where
  g : D.gv nm_SIGNS = some (.str gv_SIGNS)
  r0 : nm_rank ∈ D.fns
  r1 : ∀ (k : Nat), k < 95 → ∀ (Q : W → Sto → Prop) (S : Sto), Ok (D.cf nm_rank [.str [sgN k]] [] [] S) Q = Q (.int k) S
  s0 : nm_sign_of ∈ D.fns
  s1 : ∀ (k : Nat), k < 95 → ∀ (Q : W → Sto → Prop) (S : Sto), Ok (D.cf nm_sign_of [.int k] [] [] S) Q = Q (.str [sgN k]) S
section
variable {D : Wd} {Q : W → Sto → Prop} {S : Sto}
/-! ### held_by -/
theorem held_inner (h : SignsOk D) {lo hi : Nat} (h1 : lo < 95) (h2 : hi < 95) {f : Nat → Bool} {a : Nat} {x0 x2 x3 x4 : W} (ha : S[a]? = some (.lst ((tab f).map W.bl))) {F : Fl → Sto → Prop}
    (q : ∀ x4, F (.nx [x0, .ob a, x2, x3, x4]) (S.set a (.lst ((tab fun k => f k || decide (lo ≤ k ∧ k ≤ hi)).map W.bl)))) :
    Ok (forGo (.n 4) (exs D [.sub (.sl 1) (.sl 4) (.kb true)]) [] (rngL lo ((hi : Int) + 1 - lo).toNat 1) [x0, .ob a, x2, x3, x4] S) F := by
  have hal : a < S.length := (List.getElem?_eq_some_iff.mp ha).1
  refine for_ok (fun i ρ S' => (∃ x4, ρ = [x0, .ob a, x2, x3, x4]) ∧ S' = S.set a (.lst ((tab fun k => f k || decide (lo ≤ k ∧ k < lo + i)).map W.bl))) (i := 0) ⟨⟨x4, rfl⟩, ?_⟩ (fun i x ρ S' hx hI => ?_) (fun ρ S' hI => ?_)
  · have e : (tab fun k => f k || decide (lo ≤ k ∧ k < lo + 0)) = tab f := tab_congr fun k _ => by rw [decide_eq_false (by omega), Bool.or_false]
    rw [e]
    refine (List.ext_getElem? fun i => ?_)
    by_cases hi : a = i
    · subst hi; rw [List.getElem?_set_self hal, ha]
    · rw [List.getElem?_set_ne hi]
  · obtain ⟨⟨x4, rfl⟩, rfl⟩ := hI
    obtain ⟨rfl, hi2⟩ := rng_get hx
    have hk : lo + i < 95 := by omega
    refine ⟨gd_nil, _, (asg_n _ _ _).trans (if_pos (by simp)), ?_⟩
    simp only [List.set_cons_zero, List.set_cons_succ]
    simp only [ok_ok, ok_bad, ok_exc, ok_pure, ok_mbad, u_kE, u_kbin, u_kcmp, u_kix, u_knotb, u_knot, u_kneg, u_kand, u_kor, u_kite, u_kcons2, u_kcons, u_ktup, u_klst, u_ksl5, u_ksl4, u_ksl3, u_ksl2, u_ksl1, u_kcall2, u_kcall, u_kbi, u_kbm3, u_kbm2, u_kbm1, u_kch3, u_kch2, u_kch1, u_klc3, u_klc2, u_klc1, u_kfld, u_kisi, u_kex, u_kset, u_kasg, u_ksub4, u_ksub3, u_ksub2, u_ksub1, u_kaug2, u_kaug1, u_kas5, u_kas4, u_kas3, u_kas2, u_kas1, u_kret, u_kif, u_kfor2, u_kfor1, kand_t, kand_f, kor_t, kor_f, kite_t, kite_f, kif_t, kif_f, ok_sl', ok_kn, ok_kb, ok_ki, ok_ks, ok_gl', ok_bin', ok_neg', ok_not', ok_cmp', ok_chain', ok_and1, ok_and2, ok_or1, ok_or2, ok_and', ok_or', ok_ite', ok_nil, ok_cons, ok_tup', ok_lst', ok_ix', ok_sli', ok_fld', ok_call', ok_isi', ok_dic', ok_bi', ok_bm', ok_lc', ok_xnil, thenS_nx, thenS_rt, ok_xcons, ok_xex, ok_xset, ok_xasg, ok_xsub, ok_xaug, ok_xaugs, ok_xret, ok_xretn, ok_xpass, ok_xif, ok_xwhl, ok_xfor, ok_gets, ok_opt, ok_opt0, ok_truB, ok_truI, ok_truS, ok_truN, ok_truT, ok_addI, ok_subI, ok_augI, ok_augJ, ok_lt, ok_le, ok_gt, ok_ge, ok_eqI, ok_neI, ok_eqS, ok_neS, g0i, g0b, g0s, g0t, g0o, g0n, endQ_nx, endQ_rt, part_out, part_int, kn_kn, kn_ki, kn_sl, kn_bin, nwl0, nwl1, nwl2, nwl3, nwl4, nwl5, nwl6, nwl7, nwl8, nwl9, nwl10, nwl11, nwl12, mkt0, mkt1, mkt2, mkt3, mkt4, mkt5, mkt6, mkt7, mkt8, ok_sliS, ok_sliT, gd_nil, asg_n, asg_t, asgs_nil, asgs_cons, ok_it_exT, ok_it_exS, ok_noEx, kd_find, kd_islower, kd_upper, kd_lower, kd_join, ok_find, ok_islower, ok_lenS, ok_lenT, ok_abs, ok_intI, ok_intB, ok_tupT, ok_lstT, ok_ixS, ok_ixT, ok_inS, ok_ninS, isi_str, isi_int, isi_bl, isi_non, isi_tup, ok_min, ok_max, kd_index, len4, List.set_cons_zero, List.set_cons_succ, true_and, and_true, Bool.not_true, Bool.not_false, Bool.false_eq_true, if_true, if_false, decide_eq_true_eq, decide_true, Option.map_some]
    rw [ok_setM (List.getElem?_set_self hal), List.length_map, tab_len, show (lo : Int) + (i : Int) = ((lo + i : Nat) : Int) by omega, ixN_nat hk]
    simp only [ok_ok, ok_bad, ok_exc, ok_pure, ok_mbad, u_kE, u_kbin, u_kcmp, u_kix, u_knotb, u_knot, u_kneg, u_kand, u_kor, u_kite, u_kcons2, u_kcons, u_ktup, u_klst, u_ksl5, u_ksl4, u_ksl3, u_ksl2, u_ksl1, u_kcall2, u_kcall, u_kbi, u_kbm3, u_kbm2, u_kbm1, u_kch3, u_kch2, u_kch1, u_klc3, u_klc2, u_klc1, u_kfld, u_kisi, u_kex, u_kset, u_kasg, u_ksub4, u_ksub3, u_ksub2, u_ksub1, u_kaug2, u_kaug1, u_kas5, u_kas4, u_kas3, u_kas2, u_kas1, u_kret, u_kif, u_kfor2, u_kfor1, kand_t, kand_f, kor_t, kor_f, kite_t, kite_f, kif_t, kif_f, ok_sl', ok_kn, ok_kb, ok_ki, ok_ks, ok_gl', ok_bin', ok_neg', ok_not', ok_cmp', ok_chain', ok_and1, ok_and2, ok_or1, ok_or2, ok_and', ok_or', ok_ite', ok_nil, ok_cons, ok_tup', ok_lst', ok_ix', ok_sli', ok_fld', ok_call', ok_isi', ok_dic', ok_bi', ok_bm', ok_lc', ok_xnil, thenS_nx, thenS_rt, ok_xcons, ok_xex, ok_xset, ok_xasg, ok_xsub, ok_xaug, ok_xaugs, ok_xret, ok_xretn, ok_xpass, ok_xif, ok_xwhl, ok_xfor, ok_gets, ok_opt, ok_opt0, ok_truB, ok_truI, ok_truS, ok_truN, ok_truT, ok_addI, ok_subI, ok_augI, ok_augJ, ok_lt, ok_le, ok_gt, ok_ge, ok_eqI, ok_neI, ok_eqS, ok_neS, g0i, g0b, g0s, g0t, g0o, g0n, endQ_nx, endQ_rt, part_out, part_int, kn_kn, kn_ki, kn_sl, kn_bin, nwl0, nwl1, nwl2, nwl3, nwl4, nwl5, nwl6, nwl7, nwl8, nwl9, nwl10, nwl11, nwl12, mkt0, mkt1, mkt2, mkt3, mkt4, mkt5, mkt6, mkt7, mkt8, ok_sliS, ok_sliT, gd_nil, asg_n, asg_t, asgs_nil, asgs_cons, ok_it_exT, ok_it_exS, ok_noEx, kd_find, kd_islower, kd_upper, kd_lower, kd_join, ok_find, ok_islower, ok_lenS, ok_lenT, ok_abs, ok_intI, ok_intB, ok_tupT, ok_lstT, ok_ixS, ok_ixT, ok_inS, ok_ninS, isi_str, isi_int, isi_bl, isi_non, isi_tup, ok_min, ok_max, kd_index, len4, List.set_cons_zero, List.set_cons_succ, true_and, and_true, Bool.not_true, Bool.not_false, Bool.false_eq_true, if_true, if_false, decide_eq_true_eq, decide_true, Option.map_some]
    refine ⟨⟨_, rfl⟩, ?_⟩
    rw [List.set_set, show W.bl true = W.bl true from rfl, ← List.map_set, tab_set]
    congr 3
    refine tab_congr fun k _ => ?_
    rw [Bool.or_assoc]
    congr 1
    rw [Nat.zero_add]
    by_cases e : k = lo + i
    · rw [decide_eq_true e, Bool.or_true, decide_eq_true (by omega)]
    · rw [decide_eq_false e, Bool.or_false]
      exact decide_eq_decide.mpr (by omega)
  · obtain ⟨⟨x4, rfl⟩, rfl⟩ := hI
    refine ⟨gd_nil, ?_⟩
    have e : (tab fun k => f k || decide (lo ≤ k ∧ k < lo + (0 + (rngL lo ((hi : Int) + 1 - lo).toNat 1).length))) = tab fun k => f k || decide (lo ≤ k ∧ k ≤ hi) := by
      refine tab_congr fun k _ => ?_
      rw [rng_len]
      congr 1
      exact decide_eq_decide.mpr (by omega)
    rw [e]
    exact q x4
theorem held_ok (h : SignsOk D) {ps : List (Nat × Nat)} (hp : ROk ps) (q : ∀ T a, (S ++ T)[a]? = some (.lst ((tab (covers ps)).map W.bl)) → S.length ≤ a → Q (.ob a) (S ++ T)) : Ok (fnM D 5 ts_held_by [rowsW ps] S) Q := by
  rw [ok_fn (ρ := [rowsW ps, .un, .un, .un, .un]) rfl]
  unfold ts_held_by rowsW
  simp only [ok_ok, ok_bad, ok_exc, ok_pure, ok_mbad, u_kE, u_kbin, u_kcmp, u_kix, u_knotb, u_knot, u_kneg, u_kand, u_kor, u_kite, u_kcons2, u_kcons, u_ktup, u_klst, u_ksl5, u_ksl4, u_ksl3, u_ksl2, u_ksl1, u_kcall2, u_kcall, u_kbi, u_kbm3, u_kbm2, u_kbm1, u_kch3, u_kch2, u_kch1, u_klc3, u_klc2, u_klc1, u_kfld, u_kisi, u_kex, u_kset, u_kasg, u_ksub4, u_ksub3, u_ksub2, u_ksub1, u_kaug2, u_kaug1, u_kas5, u_kas4, u_kas3, u_kas2, u_kas1, u_kret, u_kif, u_kfor2, u_kfor1, kand_t, kand_f, kor_t, kor_f, kite_t, kite_f, kif_t, kif_f, ok_sl', ok_kn, ok_kb, ok_ki, ok_ks, ok_gl', ok_bin', ok_neg', ok_not', ok_cmp', ok_chain', ok_and1, ok_and2, ok_or1, ok_or2, ok_and', ok_or', ok_ite', ok_nil, ok_cons, ok_tup', ok_lst', ok_ix', ok_sli', ok_fld', ok_call', ok_isi', ok_dic', ok_bi', ok_bm', ok_lc', ok_xnil, thenS_nx, thenS_rt, ok_xcons, ok_xex, ok_xset, ok_xasg, ok_xsub, ok_xaug, ok_xaugs, ok_xret, ok_xretn, ok_xpass, ok_xif, ok_xwhl, ok_xfor, ok_gets, ok_opt, ok_opt0, ok_truB, ok_truI, ok_truS, ok_truN, ok_truT, ok_addI, ok_subI, ok_augI, ok_augJ, ok_lt, ok_le, ok_gt, ok_ge, ok_eqI, ok_neI, ok_eqS, ok_neS, g0i, g0b, g0s, g0t, g0o, g0n, endQ_nx, endQ_rt, part_out, part_int, kn_kn, kn_ki, kn_sl, kn_bin, nwl0, nwl1, nwl2, nwl3, nwl4, nwl5, nwl6, nwl7, nwl8, nwl9, nwl10, nwl11, nwl12, mkt0, mkt1, mkt2, mkt3, mkt4, mkt5, mkt6, mkt7, mkt8, ok_sliS, ok_sliT, gd_nil, asg_n, asg_t, asgs_nil, asgs_cons, ok_it_exT, ok_it_exS, ok_noEx, kd_find, kd_islower, kd_upper, kd_lower, kd_join, ok_find, ok_islower, ok_lenS, ok_lenT, ok_abs, ok_intI, ok_intB, ok_tupT, ok_lstT, ok_ixS, ok_ixT, ok_inS, ok_ninS, isi_str, isi_int, isi_bl, isi_non, isi_tup, ok_min, ok_max, kd_index, len4, List.set_cons_zero, List.set_cons_succ, true_and, and_true, Bool.not_true, Bool.not_false, Bool.false_eq_true, if_true, if_false, decide_eq_true_eq, decide_true, Option.map_some, h.g]
  rw [ok_repL (xs := [W.bl false]) (by simp) (by decide)]
  have e0 : (List.replicate ((gv_SIGNS.length : Nat) : Int).toNat [W.bl false]).flatten = (tab fun _ => false).map W.bl := by decide
  rw [e0]
  simp only [ok_ok, ok_bad, ok_exc, ok_pure, ok_mbad, u_kE, u_kbin, u_kcmp, u_kix, u_knotb, u_knot, u_kneg, u_kand, u_kor, u_kite, u_kcons2, u_kcons, u_ktup, u_klst, u_ksl5, u_ksl4, u_ksl3, u_ksl2, u_ksl1, u_kcall2, u_kcall, u_kbi, u_kbm3, u_kbm2, u_kbm1, u_kch3, u_kch2, u_kch1, u_klc3, u_klc2, u_klc1, u_kfld, u_kisi, u_kex, u_kset, u_kasg, u_ksub4, u_ksub3, u_ksub2, u_ksub1, u_kaug2, u_kaug1, u_kas5, u_kas4, u_kas3, u_kas2, u_kas1, u_kret, u_kif, u_kfor2, u_kfor1, kand_t, kand_f, kor_t, kor_f, kite_t, kite_f, kif_t, kif_f, ok_sl', ok_kn, ok_kb, ok_ki, ok_ks, ok_gl', ok_bin', ok_neg', ok_not', ok_cmp', ok_chain', ok_and1, ok_and2, ok_or1, ok_or2, ok_and', ok_or', ok_ite', ok_nil, ok_cons, ok_tup', ok_lst', ok_ix', ok_sli', ok_fld', ok_call', ok_isi', ok_dic', ok_bi', ok_bm', ok_lc', ok_xnil, thenS_nx, thenS_rt, ok_xcons, ok_xex, ok_xset, ok_xasg, ok_xsub, ok_xaug, ok_xaugs, ok_xret, ok_xretn, ok_xpass, ok_xif, ok_xwhl, ok_xfor, ok_gets, ok_opt, ok_opt0, ok_truB, ok_truI, ok_truS, ok_truN, ok_truT, ok_addI, ok_subI, ok_augI, ok_augJ, ok_lt, ok_le, ok_gt, ok_ge, ok_eqI, ok_neI, ok_eqS, ok_neS, g0i, g0b, g0s, g0t, g0o, g0n, endQ_nx, endQ_rt, part_out, part_int, kn_kn, kn_ki, kn_sl, kn_bin, nwl0, nwl1, nwl2, nwl3, nwl4, nwl5, nwl6, nwl7, nwl8, nwl9, nwl10, nwl11, nwl12, mkt0, mkt1, mkt2, mkt3, mkt4, mkt5, mkt6, mkt7, mkt8, ok_sliS, ok_sliT, gd_nil, asg_n, asg_t, asgs_nil, asgs_cons, ok_it_exT, ok_it_exS, ok_noEx, kd_find, kd_islower, kd_upper, kd_lower, kd_join, ok_find, ok_islower, ok_lenS, ok_lenT, ok_abs, ok_intI, ok_intB, ok_tupT, ok_lstT, ok_ixS, ok_ixT, ok_inS, ok_ninS, isi_str, isi_int, isi_bl, isi_non, isi_tup, ok_min, ok_max, kd_index, len4, List.set_cons_zero, List.set_cons_succ, true_and, and_true, Bool.not_true, Bool.not_false, Bool.false_eq_true, if_true, if_false, decide_eq_true_eq, decide_true, Option.map_some]
  have hlen : (S ++ [O.lst [W.bl false]]).length = S.length + 1 := by simp
  refine for_ok (fun i ρ S' => (∃ x2 x3 x4, ρ = [.tup (ps.map pairW), .ob (S.length + 1), x2, x3, x4]) ∧ S' = S ++ [.lst [W.bl false], .lst ((tab (covers (ps.take i))).map W.bl)]) (i := 0) ⟨⟨_, _, _, by rw [hlen]⟩, by rw [List.append_assoc]; rfl⟩ (fun i x ρ S' hx hI => ?_) (fun ρ S' hI => ?_)
  · obtain ⟨⟨x2, x3, x4, rfl⟩, rfl⟩ := hI
    rw [List.getElem?_map, Option.map_eq_some_iff] at hx
    obtain ⟨p, hpx, rfl⟩ := hx
    obtain ⟨p1, p2⟩ := hp p (List.mem_of_getElem? hpx)
    refine ⟨gd_nil, [.tup (ps.map pairW), .ob (S.length + 1), .str [sgN p.1], .str [sgN p.2], x4], by simp [pairW], ?_⟩
    simp only [ok_ok, ok_bad, ok_exc, ok_pure, ok_mbad, u_kE, u_kbin, u_kcmp, u_kix, u_knotb, u_knot, u_kneg, u_kand, u_kor, u_kite, u_kcons2, u_kcons, u_ktup, u_klst, u_ksl5, u_ksl4, u_ksl3, u_ksl2, u_ksl1, u_kcall2, u_kcall, u_kbi, u_kbm3, u_kbm2, u_kbm1, u_kch3, u_kch2, u_kch1, u_klc3, u_klc2, u_klc1, u_kfld, u_kisi, u_kex, u_kset, u_kasg, u_ksub4, u_ksub3, u_ksub2, u_ksub1, u_kaug2, u_kaug1, u_kas5, u_kas4, u_kas3, u_kas2, u_kas1, u_kret, u_kif, u_kfor2, u_kfor1, kand_t, kand_f, kor_t, kor_f, kite_t, kite_f, kif_t, kif_f, ok_sl', ok_kn, ok_kb, ok_ki, ok_ks, ok_gl', ok_bin', ok_neg', ok_not', ok_cmp', ok_chain', ok_and1, ok_and2, ok_or1, ok_or2, ok_and', ok_or', ok_ite', ok_nil, ok_cons, ok_tup', ok_lst', ok_ix', ok_sli', ok_fld', ok_call', ok_isi', ok_dic', ok_bi', ok_bm', ok_lc', ok_xnil, thenS_nx, thenS_rt, ok_xcons, ok_xex, ok_xset, ok_xasg, ok_xsub, ok_xaug, ok_xaugs, ok_xret, ok_xretn, ok_xpass, ok_xif, ok_xwhl, ok_xfor, ok_gets, ok_opt, ok_opt0, ok_truB, ok_truI, ok_truS, ok_truN, ok_truT, ok_addI, ok_subI, ok_augI, ok_augJ, ok_lt, ok_le, ok_gt, ok_ge, ok_eqI, ok_neI, ok_eqS, ok_neS, g0i, g0b, g0s, g0t, g0o, g0n, endQ_nx, endQ_rt, part_out, part_int, kn_kn, kn_ki, kn_sl, kn_bin, nwl0, nwl1, nwl2, nwl3, nwl4, nwl5, nwl6, nwl7, nwl8, nwl9, nwl10, nwl11, nwl12, mkt0, mkt1, mkt2, mkt3, mkt4, mkt5, mkt6, mkt7, mkt8, ok_sliS, ok_sliT, gd_nil, asg_n, asg_t, asgs_nil, asgs_cons, ok_it_exT, ok_it_exS, ok_noEx, kd_find, kd_islower, kd_upper, kd_lower, kd_join, ok_find, ok_islower, ok_lenS, ok_lenT, ok_abs, ok_intI, ok_intB, ok_tupT, ok_lstT, ok_ixS, ok_ixT, ok_inS, ok_ninS, isi_str, isi_int, isi_bl, isi_non, isi_tup, ok_min, ok_max, kd_index, len4, List.set_cons_zero, List.set_cons_succ, true_and, and_true, Bool.not_true, Bool.not_false, Bool.false_eq_true, if_true, if_false, decide_eq_true_eq, decide_true, Option.map_some, h.r0, h.r1 p.1 p1, h.r1 p.2 p2]
    rw [ok_it_rng2, if_pos (by unfold R62; simp only [Bool.and_eq_true, decide_eq_true_eq]; omega)]
    simp only [ok_ok, ok_bad, ok_exc, ok_pure, ok_mbad, u_kE, u_kbin, u_kcmp, u_kix, u_knotb, u_knot, u_kneg, u_kand, u_kor, u_kite, u_kcons2, u_kcons, u_ktup, u_klst, u_ksl5, u_ksl4, u_ksl3, u_ksl2, u_ksl1, u_kcall2, u_kcall, u_kbi, u_kbm3, u_kbm2, u_kbm1, u_kch3, u_kch2, u_kch1, u_klc3, u_klc2, u_klc1, u_kfld, u_kisi, u_kex, u_kset, u_kasg, u_ksub4, u_ksub3, u_ksub2, u_ksub1, u_kaug2, u_kaug1, u_kas5, u_kas4, u_kas3, u_kas2, u_kas1, u_kret, u_kif, u_kfor2, u_kfor1, kand_t, kand_f, kor_t, kor_f, kite_t, kite_f, kif_t, kif_f, ok_sl', ok_kn, ok_kb, ok_ki, ok_ks, ok_gl', ok_bin', ok_neg', ok_not', ok_cmp', ok_chain', ok_and1, ok_and2, ok_or1, ok_or2, ok_and', ok_or', ok_ite', ok_nil, ok_cons, ok_tup', ok_lst', ok_ix', ok_sli', ok_fld', ok_call', ok_isi', ok_dic', ok_bi', ok_bm', ok_lc', ok_xnil, thenS_nx, thenS_rt, ok_xcons, ok_xex, ok_xset, ok_xasg, ok_xsub, ok_xaug, ok_xaugs, ok_xret, ok_xretn, ok_xpass, ok_xif, ok_xwhl, ok_xfor, ok_gets, ok_opt, ok_opt0, ok_truB, ok_truI, ok_truS, ok_truN, ok_truT, ok_addI, ok_subI, ok_augI, ok_augJ, ok_lt, ok_le, ok_gt, ok_ge, ok_eqI, ok_neI, ok_eqS, ok_neS, g0i, g0b, g0s, g0t, g0o, g0n, endQ_nx, endQ_rt, part_out, part_int, kn_kn, kn_ki, kn_sl, kn_bin, nwl0, nwl1, nwl2, nwl3, nwl4, nwl5, nwl6, nwl7, nwl8, nwl9, nwl10, nwl11, nwl12, mkt0, mkt1, mkt2, mkt3, mkt4, mkt5, mkt6, mkt7, mkt8, ok_sliS, ok_sliT, gd_nil, asg_n, asg_t, asgs_nil, asgs_cons, ok_it_exT, ok_it_exS, ok_noEx, kd_find, kd_islower, kd_upper, kd_lower, kd_join, ok_find, ok_islower, ok_lenS, ok_lenT, ok_abs, ok_intI, ok_intB, ok_tupT, ok_lstT, ok_ixS, ok_ixT, ok_inS, ok_ninS, isi_str, isi_int, isi_bl, isi_non, isi_tup, ok_min, ok_max, kd_index, len4, List.set_cons_zero, List.set_cons_succ, true_and, and_true, Bool.not_true, Bool.not_false, Bool.false_eq_true, if_true, if_false, decide_eq_true_eq, decide_true, Option.map_some]
    have hget : (S ++ [O.lst [W.bl false], .lst ((tab (covers (ps.take (0 + i)))).map W.bl)])[S.length + 1]? = some (.lst ((tab (covers (ps.take (0 + i)))).map W.bl)) := by
      rw [List.getElem?_append_right (by omega), Nat.add_sub_cancel_left]; rfl
    refine held_inner h p1 p2 hget fun x4 => ?_
    simp only [ok_ok, ok_bad, ok_exc, ok_pure, ok_mbad, u_kE, u_kbin, u_kcmp, u_kix, u_knotb, u_knot, u_kneg, u_kand, u_kor, u_kite, u_kcons2, u_kcons, u_ktup, u_klst, u_ksl5, u_ksl4, u_ksl3, u_ksl2, u_ksl1, u_kcall2, u_kcall, u_kbi, u_kbm3, u_kbm2, u_kbm1, u_kch3, u_kch2, u_kch1, u_klc3, u_klc2, u_klc1, u_kfld, u_kisi, u_kex, u_kset, u_kasg, u_ksub4, u_ksub3, u_ksub2, u_ksub1, u_kaug2, u_kaug1, u_kas5, u_kas4, u_kas3, u_kas2, u_kas1, u_kret, u_kif, u_kfor2, u_kfor1, kand_t, kand_f, kor_t, kor_f, kite_t, kite_f, kif_t, kif_f, ok_sl', ok_kn, ok_kb, ok_ki, ok_ks, ok_gl', ok_bin', ok_neg', ok_not', ok_cmp', ok_chain', ok_and1, ok_and2, ok_or1, ok_or2, ok_and', ok_or', ok_ite', ok_nil, ok_cons, ok_tup', ok_lst', ok_ix', ok_sli', ok_fld', ok_call', ok_isi', ok_dic', ok_bi', ok_bm', ok_lc', ok_xnil, thenS_nx, thenS_rt, ok_xcons, ok_xex, ok_xset, ok_xasg, ok_xsub, ok_xaug, ok_xaugs, ok_xret, ok_xretn, ok_xpass, ok_xif, ok_xwhl, ok_xfor, ok_gets, ok_opt, ok_opt0, ok_truB, ok_truI, ok_truS, ok_truN, ok_truT, ok_addI, ok_subI, ok_augI, ok_augJ, ok_lt, ok_le, ok_gt, ok_ge, ok_eqI, ok_neI, ok_eqS, ok_neS, g0i, g0b, g0s, g0t, g0o, g0n, endQ_nx, endQ_rt, part_out, part_int, kn_kn, kn_ki, kn_sl, kn_bin, nwl0, nwl1, nwl2, nwl3, nwl4, nwl5, nwl6, nwl7, nwl8, nwl9, nwl10, nwl11, nwl12, mkt0, mkt1, mkt2, mkt3, mkt4, mkt5, mkt6, mkt7, mkt8, ok_sliS, ok_sliT, gd_nil, asg_n, asg_t, asgs_nil, asgs_cons, ok_it_exT, ok_it_exS, ok_noEx, kd_find, kd_islower, kd_upper, kd_lower, kd_join, ok_find, ok_islower, ok_lenS, ok_lenT, ok_abs, ok_intI, ok_intB, ok_tupT, ok_lstT, ok_ixS, ok_ixT, ok_inS, ok_ninS, isi_str, isi_int, isi_bl, isi_non, isi_tup, ok_min, ok_max, kd_index, len4, List.set_cons_zero, List.set_cons_succ, true_and, and_true, Bool.not_true, Bool.not_false, Bool.false_eq_true, if_true, if_false, decide_eq_true_eq, decide_true, Option.map_some]
    refine ⟨⟨_, _, _, rfl⟩, ?_⟩
    rw [List.set_append_right _ _ (by omega), Nat.add_sub_cancel_left]
    show S ++ [O.lst [W.bl false], _] = _
    congr 5
    refine tab_congr fun k _ => ?_
    rw [Nat.zero_add, List.take_succ, hpx]
    simp [covers]
  · obtain ⟨⟨x2, x3, x4, rfl⟩, rfl⟩ := hI
    refine ⟨gd_nil, ?_⟩
    simp only [ok_ok, ok_bad, ok_exc, ok_pure, ok_mbad, u_kE, u_kbin, u_kcmp, u_kix, u_knotb, u_knot, u_kneg, u_kand, u_kor, u_kite, u_kcons2, u_kcons, u_ktup, u_klst, u_ksl5, u_ksl4, u_ksl3, u_ksl2, u_ksl1, u_kcall2, u_kcall, u_kbi, u_kbm3, u_kbm2, u_kbm1, u_kch3, u_kch2, u_kch1, u_klc3, u_klc2, u_klc1, u_kfld, u_kisi, u_kex, u_kset, u_kasg, u_ksub4, u_ksub3, u_ksub2, u_ksub1, u_kaug2, u_kaug1, u_kas5, u_kas4, u_kas3, u_kas2, u_kas1, u_kret, u_kif, u_kfor2, u_kfor1, kand_t, kand_f, kor_t, kor_f, kite_t, kite_f, kif_t, kif_f, ok_sl', ok_kn, ok_kb, ok_ki, ok_ks, ok_gl', ok_bin', ok_neg', ok_not', ok_cmp', ok_chain', ok_and1, ok_and2, ok_or1, ok_or2, ok_and', ok_or', ok_ite', ok_nil, ok_cons, ok_tup', ok_lst', ok_ix', ok_sli', ok_fld', ok_call', ok_isi', ok_dic', ok_bi', ok_bm', ok_lc', ok_xnil, thenS_nx, thenS_rt, ok_xcons, ok_xex, ok_xset, ok_xasg, ok_xsub, ok_xaug, ok_xaugs, ok_xret, ok_xretn, ok_xpass, ok_xif, ok_xwhl, ok_xfor, ok_gets, ok_opt, ok_opt0, ok_truB, ok_truI, ok_truS, ok_truN, ok_truT, ok_addI, ok_subI, ok_augI, ok_augJ, ok_lt, ok_le, ok_gt, ok_ge, ok_eqI, ok_neI, ok_eqS, ok_neS, g0i, g0b, g0s, g0t, g0o, g0n, endQ_nx, endQ_rt, part_out, part_int, kn_kn, kn_ki, kn_sl, kn_bin, nwl0, nwl1, nwl2, nwl3, nwl4, nwl5, nwl6, nwl7, nwl8, nwl9, nwl10, nwl11, nwl12, mkt0, mkt1, mkt2, mkt3, mkt4, mkt5, mkt6, mkt7, mkt8, ok_sliS, ok_sliT, gd_nil, asg_n, asg_t, asgs_nil, asgs_cons, ok_it_exT, ok_it_exS, ok_noEx, kd_find, kd_islower, kd_upper, kd_lower, kd_join, ok_find, ok_islower, ok_lenS, ok_lenT, ok_abs, ok_intI, ok_intB, ok_tupT, ok_lstT, ok_ixS, ok_ixT, ok_inS, ok_ninS, isi_str, isi_int, isi_bl, isi_non, isi_tup, ok_min, ok_max, kd_index, len4, List.set_cons_zero, List.set_cons_succ, true_and, and_true, Bool.not_true, Bool.not_false, Bool.false_eq_true, if_true, if_false, decide_eq_true_eq, decide_true, Option.map_some]
    rw [Nat.zero_add, List.length_map, List.take_length]
    refine q _ _ ?_ (by omega)
    rw [List.getElem?_append_right (by omega), Nat.add_sub_cancel_left]; rfl
theorem all_new' {xs : List W} {S : Sto} : LstAt (S ++ [O.lst xs]) S.length xs := .inl (by simp)
/-! ### rows_of -/
def chg (ps : List (Nat × Nat)) (k : Nat) : List (Nat × Nat) := ps.dropLast ++ [((ps.getLastD (0, 0)).1, k)]
/-- the runs of a table's first signs -/
def fnd (f : Nat → Bool) : Nat → List (Nat × Nat)
  | 0 => []
  | k + 1 => if f k then (if decide (0 < k) && f (k - 1) then chg (fnd f k) k else fnd f k ++ [(k, k)]) else fnd f k
/-- where the sign ahead is held, the last run ends there -/
theorem fnd_last {f : Nat → Bool} {k : Nat} (h : f k = true) : ∃ qs a, fnd f (k + 1) = qs ++ [(a, k)] ∧ a ≤ k := by
  induction k with
  | zero => exact ⟨[], 0, by simp [fnd, h], Nat.le_refl _⟩
  | succ k ih =>
    by_cases h1 : f k = true
    · obtain ⟨qs, a, e, ha⟩ := ih h1
      refine ⟨qs, a, ?_, by omega⟩
      show (if f (k + 1) = true then (if (decide (0 < k + 1) && f (k + 1 - 1)) = true then chg (fnd f (k + 1)) (k + 1) else fnd f (k + 1) ++ [(k + 1, k + 1)]) else fnd f (k + 1)) = _
      rw [if_pos h, if_pos (by simp [h1]), e]
      simp [chg]
    · refine ⟨fnd f (k + 1), k + 1, ?_, Nat.le_refl _⟩
      show (if f (k + 1) = true then (if (decide (0 < k + 1) && f (k + 1 - 1)) = true then chg (fnd f (k + 1)) (k + 1) else fnd f (k + 1) ++ [(k + 1, k + 1)]) else fnd f (k + 1)) = _
      rw [if_pos h, if_neg (by simp [h1])]
theorem fnd_step {f : Nat → Bool} {k : Nat} : fnd f (k + 1) = if f k = true then (if (decide (0 < k) && f (k - 1)) = true then chg (fnd f k) k else fnd f k ++ [(k, k)]) else fnd f k := rfl
/-- a step that goes on with the last run -/
theorem fnd_on {f : Nat → Bool} {k : Nat} (h : f k = true) (h0 : 0 < k) (h1 : f (k - 1) = true) : ∃ qs a, fnd f k = qs ++ [(a, k - 1)] ∧ a ≤ k - 1 ∧ fnd f (k + 1) = qs ++ [(a, k)] := by
  obtain ⟨j, rfl⟩ : ∃ j, k = j + 1 := ⟨k - 1, by omega⟩
  obtain ⟨qs, a, e, ha⟩ := fnd_last (f := f) (k := j) h1
  refine ⟨qs, a, e, ha, ?_⟩
  rw [fnd_step, if_pos h, if_pos (by simpa using h1), e]
  simp [chg]
theorem fnd_new {f : Nat → Bool} {k : Nat} (h : f k = true) (h1 : (decide (0 < k) && f (k - 1)) = false) : fnd f (k + 1) = fnd f k ++ [(k, k)] := by
  rw [fnd_step, if_pos h, if_neg (by rw [h1]; exact Bool.false_ne_true)]
theorem fnd_no {f : Nat → Bool} {k : Nat} (h : f k = false) : fnd f (k + 1) = fnd f k := by
  rw [fnd_step, if_neg (by rw [h]; exact Bool.false_ne_true)]
theorem fnd_lt {f : Nat → Bool} : ∀ k : Nat, ∀ p ∈ fnd f k, p.1 < k ∧ p.2 < k
  | 0, p, h => nomatch h
  | k + 1, p, h => by
    have ih := fnd_lt (f := f) k
    by_cases hk : f k = true
    · by_cases h1 : (decide (0 < k) && f (k - 1)) = true
      · simp only [Bool.and_eq_true, decide_eq_true_eq] at h1
        obtain ⟨qs, a, e, ha, e2⟩ := fnd_on hk h1.1 h1.2
        rw [e2] at h
        rcases List.mem_append.mp h with h | h
        · have := ih p (by rw [e]; exact List.mem_append_left _ h)
          omega
        · rw [List.mem_singleton.mp h]
          exact ⟨by show a < _; omega, Nat.lt_succ_self _⟩
      · rw [fnd_new hk (by simpa using h1)] at h
        rcases List.mem_append.mp h with h | h
        · have := ih p h
          omega
        · rw [List.mem_singleton.mp h]
          exact ⟨Nat.lt_succ_self _, Nat.lt_succ_self _⟩
    · rw [fnd_no (by simpa using hk)] at h
      have := ih p h
      omega
/-- the runs hold just what the table holds -/
theorem fnd_covers {f : Nat → Bool} : ∀ n k : Nat, covers (fnd f n) k = (decide (k < n) && f k)
  | 0, k => by simp [fnd, covers]
  | n + 1, k => by
    have ih := fnd_covers (f := f) n
    have app : ∀ (qs : List (Nat × Nat)) (p : Nat × Nat) (k : Nat), covers (qs ++ [p]) k = (covers qs k || decide (p.1 ≤ k ∧ k ≤ p.2)) := fun qs p k => by simp [covers]
    by_cases hk : f n = true
    · by_cases h1 : (decide (0 < n) && f (n - 1)) = true
      · simp only [Bool.and_eq_true, decide_eq_true_eq] at h1
        obtain ⟨qs, a, e, ha, e2⟩ := fnd_on hk h1.1 h1.2
        have i1 := ih k
        rw [e, app] at i1
        rw [e2, app]
        by_cases hkn : k = n
        · subst hkn
          rw [decide_eq_true (show a ≤ k ∧ k ≤ k by omega), Bool.or_true, hk, decide_eq_true (Nat.lt_succ_self _)]; rfl
        · have e3 : decide (a ≤ k ∧ k ≤ n) = decide (a ≤ k ∧ k ≤ n - 1) := decide_eq_decide.mpr (by omega)
          rw [e3, i1]
          congr 1
          exact decide_eq_decide.mpr (by omega)
      · rw [fnd_new hk (by simpa using h1), app, ih k]
        by_cases hkn : k = n
        · subst hkn
          rw [decide_eq_true (show k ≤ k ∧ k ≤ k by omega), Bool.or_true, hk, decide_eq_true (Nat.lt_succ_self _)]; rfl
        · rw [decide_eq_false (show ¬(n ≤ k ∧ k ≤ n) by omega), Bool.or_false]
          congr 1
          exact decide_eq_decide.mpr (by omega)
    · have hk' : f n = false := by simpa using hk
      rw [fnd_no hk', ih k]
      by_cases hkn : k = n
      · subst hkn; rw [hk', Bool.and_false, Bool.and_false]
      · congr 1
        exact decide_eq_decide.mpr (by omega)
theorem fnd_len {f : Nat → Bool} : ∀ k : Nat, (fnd f k).length ≤ k
  | 0 => Nat.le_refl _
  | k + 1 => by
    have ih := fnd_len (f := f) k
    by_cases hk : f k = true
    · by_cases h1 : (decide (0 < k) && f (k - 1)) = true
      · simp only [Bool.and_eq_true, decide_eq_true_eq] at h1
        obtain ⟨qs, a, e, ha, e2⟩ := fnd_on hk h1.1 h1.2
        rw [e, List.length_append] at ih
        rw [e2, List.length_append]
        simp only [List.length_cons, List.length_nil] at ih ⊢
        omega
      · rw [fnd_new hk (by simpa using h1), List.length_append]
        simp only [List.length_cons, List.length_nil]
        omega
    · rw [fnd_no (by simpa using hk)]
      omega
def rowsUp (f : Nat → Bool) : List (Nat × Nat) := fnd f 95
theorem rowsUp_ok (f : Nat → Bool) : ROk (rowsUp f) := fun p h => fnd_lt 95 p h
theorem rowsUp_tab (f : Nat → Bool) : tab (covers (rowsUp f)) = tab f := tab_congr fun k hk => by
  unfold rowsUp
  rw [fnd_covers, decide_eq_true hk, Bool.true_and]
/-- a run of the loop over the table -/
theorem en_get {xs : List W} {i : Nat} {x : W} (h : ((List.range xs.length).map fun (i : Nat) => W.tup [.int (i : Int), xs.getD i .un])[i]? = some x) : ∃ w, xs[i]? = some w ∧ x = .tup [.int (i : Int), w] := by
  rw [List.getElem?_map, Option.map_eq_some_iff] at h
  obtain ⟨k, hk, rfl⟩ := h
  obtain ⟨hl, e⟩ := List.getElem?_eq_some_iff.mp hk
  rw [List.length_range] at hl
  rw [List.getElem_range] at e
  subst e
  exact ⟨xs[i], List.getElem?_eq_getElem hl, by rw [List.getD_eq_getElem?_getD, List.getElem?_eq_getElem hl]; rfl⟩
theorem ok_it_en {n : Nat} {xs : List W} {Q : Wlk → Sto → Prop} (h : LstAt S n xs) : Ok (itM .en [.ob n] S) Q = Q ⟨(List.range xs.length).map fun (i : Nat) => W.tup [.int (i : Int), xs.getD i .un], [(n, xs)]⟩ S := by
  show Ok ((itemsOf n >>= fun xs => (pure ⟨(List.range xs.length).map fun (i : Nat) => W.tup [.int (i : Int), xs.getD i .un], [(n, xs)]⟩ : M Wlk)) S) Q = _
  rw [ok_mbind, ok_items h, ok_pure]
theorem rows_of_ok (h : SignsOk D) {f : Nat → Bool} {a : Nat} (ha : LstAt S a ((tab f).map W.bl)) (q : ∀ T, Q (rowsW (rowsUp f)) (S ++ T)) : Ok (fnM D 7 ts_rows_of [.ob a] S) Q := by
  have hal := lstAt_lt ha
  rw [ok_fn (ρ := [.ob a, .un, .un, .un, .un, .un, .un]) rfl]
  unfold ts_rows_of
  simp only [ok_ok, ok_bad, ok_exc, ok_pure, ok_mbad, u_kE, u_kbin, u_kcmp, u_kix, u_knotb, u_knot, u_kneg, u_kand, u_kor, u_kite, u_kcons2, u_kcons, u_ktup, u_klst, u_ksl5, u_ksl4, u_ksl3, u_ksl2, u_ksl1, u_kcall2, u_kcall, u_kbi, u_kbm3, u_kbm2, u_kbm1, u_kch3, u_kch2, u_kch1, u_klc3, u_klc2, u_klc1, u_kfld, u_kisi, u_kex, u_kset, u_kasg, u_ksub4, u_ksub3, u_ksub2, u_ksub1, u_kaug2, u_kaug1, u_kas5, u_kas4, u_kas3, u_kas2, u_kas1, u_kret, u_kif, u_kfor2, u_kfor1, kand_t, kand_f, kor_t, kor_f, kite_t, kite_f, kif_t, kif_f, ok_sl', ok_kn, ok_kb, ok_ki, ok_ks, ok_gl', ok_bin', ok_neg', ok_not', ok_cmp', ok_chain', ok_and1, ok_and2, ok_or1, ok_or2, ok_and', ok_or', ok_ite', ok_nil, ok_cons, ok_tup', ok_lst', ok_ix', ok_sli', ok_fld', ok_call', ok_isi', ok_dic', ok_bi', ok_bm', ok_lc', ok_xnil, thenS_nx, thenS_rt, ok_xcons, ok_xex, ok_xset, ok_xasg, ok_xsub, ok_xaug, ok_xaugs, ok_xret, ok_xretn, ok_xpass, ok_xif, ok_xwhl, ok_xfor, ok_gets, ok_opt, ok_opt0, ok_truB, ok_truI, ok_truS, ok_truN, ok_truT, ok_addI, ok_subI, ok_augI, ok_augJ, ok_lt, ok_le, ok_gt, ok_ge, ok_eqI, ok_neI, ok_eqS, ok_neS, g0i, g0b, g0s, g0t, g0o, g0n, endQ_nx, endQ_rt, part_out, part_int, kn_kn, kn_ki, kn_sl, kn_bin, nwl0, nwl1, nwl2, nwl3, nwl4, nwl5, nwl6, nwl7, nwl8, nwl9, nwl10, nwl11, nwl12, mkt0, mkt1, mkt2, mkt3, mkt4, mkt5, mkt6, mkt7, mkt8, ok_sliS, ok_sliT, gd_nil, asg_n, asg_t, asgs_nil, asgs_cons, ok_it_exT, ok_it_exS, ok_noEx, kd_find, kd_islower, kd_upper, kd_lower, kd_join, ok_find, ok_islower, ok_lenS, ok_lenT, ok_abs, ok_intI, ok_intB, ok_tupT, ok_lstT, ok_ixS, ok_ixT, ok_inS, ok_ninS, isi_str, isi_int, isi_bl, isi_non, isi_tup, ok_min, ok_max, kd_index, len4, List.set_cons_zero, List.set_cons_succ, true_and, and_true, Bool.not_true, Bool.not_false, Bool.false_eq_true, if_true, if_false, decide_eq_true_eq, decide_true, Option.map_some]
  rw [ok_it_en (lstAt_app ha _), List.length_map, tab_len]
  simp only [ok_ok, ok_bad, ok_exc, ok_pure, ok_mbad, u_kE, u_kbin, u_kcmp, u_kix, u_knotb, u_knot, u_kneg, u_kand, u_kor, u_kite, u_kcons2, u_kcons, u_ktup, u_klst, u_ksl5, u_ksl4, u_ksl3, u_ksl2, u_ksl1, u_kcall2, u_kcall, u_kbi, u_kbm3, u_kbm2, u_kbm1, u_kch3, u_kch2, u_kch1, u_klc3, u_klc2, u_klc1, u_kfld, u_kisi, u_kex, u_kset, u_kasg, u_ksub4, u_ksub3, u_ksub2, u_ksub1, u_kaug2, u_kaug1, u_kas5, u_kas4, u_kas3, u_kas2, u_kas1, u_kret, u_kif, u_kfor2, u_kfor1, kand_t, kand_f, kor_t, kor_f, kite_t, kite_f, kif_t, kif_f, ok_sl', ok_kn, ok_kb, ok_ki, ok_ks, ok_gl', ok_bin', ok_neg', ok_not', ok_cmp', ok_chain', ok_and1, ok_and2, ok_or1, ok_or2, ok_and', ok_or', ok_ite', ok_nil, ok_cons, ok_tup', ok_lst', ok_ix', ok_sli', ok_fld', ok_call', ok_isi', ok_dic', ok_bi', ok_bm', ok_lc', ok_xnil, thenS_nx, thenS_rt, ok_xcons, ok_xex, ok_xset, ok_xasg, ok_xsub, ok_xaug, ok_xaugs, ok_xret, ok_xretn, ok_xpass, ok_xif, ok_xwhl, ok_xfor, ok_gets, ok_opt, ok_opt0, ok_truB, ok_truI, ok_truS, ok_truN, ok_truT, ok_addI, ok_subI, ok_augI, ok_augJ, ok_lt, ok_le, ok_gt, ok_ge, ok_eqI, ok_neI, ok_eqS, ok_neS, g0i, g0b, g0s, g0t, g0o, g0n, endQ_nx, endQ_rt, part_out, part_int, kn_kn, kn_ki, kn_sl, kn_bin, nwl0, nwl1, nwl2, nwl3, nwl4, nwl5, nwl6, nwl7, nwl8, nwl9, nwl10, nwl11, nwl12, mkt0, mkt1, mkt2, mkt3, mkt4, mkt5, mkt6, mkt7, mkt8, ok_sliS, ok_sliT, gd_nil, asg_n, asg_t, asgs_nil, asgs_cons, ok_it_exT, ok_it_exS, ok_noEx, kd_find, kd_islower, kd_upper, kd_lower, kd_join, ok_find, ok_islower, ok_lenS, ok_lenT, ok_abs, ok_intI, ok_intB, ok_tupT, ok_lstT, ok_ixS, ok_ixT, ok_inS, ok_ninS, isi_str, isi_int, isi_bl, isi_non, isi_tup, ok_min, ok_max, kd_index, len4, List.set_cons_zero, List.set_cons_succ, true_and, and_true, Bool.not_true, Bool.not_false, Bool.false_eq_true, if_true, if_false, decide_eq_true_eq, decide_true, Option.map_some]
  refine for_ok (fun i ρ S' => (∃ x3 x4 x5 x6, ρ = [.ob a, .ob S.length, .bl (decide (0 < i) && f (i - 1)), x3, x4, x5, x6]) ∧ S' = S ++ [.lst ((fnd f i).map pairW)]) (i := 0) ⟨⟨_, _, _, _, rfl⟩, rfl⟩ (fun i x ρ S' hx hI => ?_) (fun ρ S' hI => ?_)
  · obtain ⟨⟨x3, x4, x5, x6, rfl⟩, rfl⟩ := hI
    have hx' : ((List.range ((tab f).map W.bl).length).map fun (i : Nat) => W.tup [.int (i : Int), ((tab f).map W.bl).getD i .un])[i]? = some x := by
      rw [List.length_map, tab_len]; exact hx
    obtain ⟨w, hw, rfl⟩ := en_get hx'
    have hi : i < 95 := by
      have := (List.getElem?_eq_some_iff.mp hw).1
      rwa [List.length_map, tab_len] at this
    rw [List.getElem?_map, tab_get hi] at hw
    cases hw
    rw [Nat.zero_add]
    refine ⟨gd_of (lstAt_app ha _), [.ob a, .ob S.length, .bl (decide (0 < i) && f (i - 1)), .int i, .bl (f i), x5, x6], by simp, ?_⟩
    have hget : ∀ xs : List W, (S ++ [O.lst xs])[S.length]? = some (.lst xs) := fun xs => by simp
    have hset : ∀ xs ys : List W, (S ++ [O.lst xs]).set S.length (.lst ys) = S ++ [.lst ys] := fun xs ys => by simp
    have hlenf : (fnd f i).length ≤ i := fnd_len i
    cases hf : f i with
    | true =>
      cases h1 : decide (0 < i) && f (i - 1) with
      | true =>
        have h1' := h1
        simp only [Bool.and_eq_true, decide_eq_true_eq] at h1'
        obtain ⟨qs, b, e, hb, e2⟩ := fnd_on hf h1'.1 h1'.2
        have hm : (fnd f i).map pairW = qs.map pairW ++ [pairW (b, i - 1)] := by rw [e, List.map_append]; rfl
        have hq : (qs.map pairW).length < LINE := by
          rw [List.length_map, LINE]
          have := congrArg List.length e
          rw [List.length_append] at this
          omega
        simp only [ok_ok, ok_bad, ok_exc, ok_pure, ok_mbad, u_kE, u_kbin, u_kcmp, u_kix, u_knotb, u_knot, u_kneg, u_kand, u_kor, u_kite, u_kcons2, u_kcons, u_ktup, u_klst, u_ksl5, u_ksl4, u_ksl3, u_ksl2, u_ksl1, u_kcall2, u_kcall, u_kbi, u_kbm3, u_kbm2, u_kbm1, u_kch3, u_kch2, u_kch1, u_klc3, u_klc2, u_klc1, u_kfld, u_kisi, u_kex, u_kset, u_kasg, u_ksub4, u_ksub3, u_ksub2, u_ksub1, u_kaug2, u_kaug1, u_kas5, u_kas4, u_kas3, u_kas2, u_kas1, u_kret, u_kif, u_kfor2, u_kfor1, kand_t, kand_f, kor_t, kor_f, kite_t, kite_f, kif_t, kif_f, ok_sl', ok_kn, ok_kb, ok_ki, ok_ks, ok_gl', ok_bin', ok_neg', ok_not', ok_cmp', ok_chain', ok_and1, ok_and2, ok_or1, ok_or2, ok_and', ok_or', ok_ite', ok_nil, ok_cons, ok_tup', ok_lst', ok_ix', ok_sli', ok_fld', ok_call', ok_isi', ok_dic', ok_bi', ok_bm', ok_lc', ok_xnil, thenS_nx, thenS_rt, ok_xcons, ok_xex, ok_xset, ok_xasg, ok_xsub, ok_xaug, ok_xaugs, ok_xret, ok_xretn, ok_xpass, ok_xif, ok_xwhl, ok_xfor, ok_gets, ok_opt, ok_opt0, ok_truB, ok_truI, ok_truS, ok_truN, ok_truT, ok_addI, ok_subI, ok_augI, ok_augJ, ok_lt, ok_le, ok_gt, ok_ge, ok_eqI, ok_neI, ok_eqS, ok_neS, g0i, g0b, g0s, g0t, g0o, g0n, endQ_nx, endQ_rt, part_out, part_int, kn_kn, kn_ki, kn_sl, kn_bin, nwl0, nwl1, nwl2, nwl3, nwl4, nwl5, nwl6, nwl7, nwl8, nwl9, nwl10, nwl11, nwl12, mkt0, mkt1, mkt2, mkt3, mkt4, mkt5, mkt6, mkt7, mkt8, ok_sliS, ok_sliT, gd_nil, asg_n, asg_t, asgs_nil, asgs_cons, ok_it_exT, ok_it_exS, ok_noEx, kd_find, kd_islower, kd_upper, kd_lower, kd_join, ok_find, ok_islower, ok_lenS, ok_lenT, ok_abs, ok_intI, ok_intB, ok_tupT, ok_lstT, ok_ixS, ok_ixT, ok_inS, ok_ninS, isi_str, isi_int, isi_bl, isi_non, isi_tup, ok_min, ok_max, kd_index, len4, List.set_cons_zero, List.set_cons_succ, true_and, and_true, Bool.not_true, Bool.not_false, Bool.false_eq_true, if_true, if_false, decide_eq_true_eq, decide_true, Option.map_some]
        rw [kd_pop (hget _)]
        simp only [ok_ok, ok_bad, ok_exc, ok_pure, ok_mbad, u_kE, u_kbin, u_kcmp, u_kix, u_knotb, u_knot, u_kneg, u_kand, u_kor, u_kite, u_kcons2, u_kcons, u_ktup, u_klst, u_ksl5, u_ksl4, u_ksl3, u_ksl2, u_ksl1, u_kcall2, u_kcall, u_kbi, u_kbm3, u_kbm2, u_kbm1, u_kch3, u_kch2, u_kch1, u_klc3, u_klc2, u_klc1, u_kfld, u_kisi, u_kex, u_kset, u_kasg, u_ksub4, u_ksub3, u_ksub2, u_ksub1, u_kaug2, u_kaug1, u_kas5, u_kas4, u_kas3, u_kas2, u_kas1, u_kret, u_kif, u_kfor2, u_kfor1, kand_t, kand_f, kor_t, kor_f, kite_t, kite_f, kif_t, kif_f, ok_sl', ok_kn, ok_kb, ok_ki, ok_ks, ok_gl', ok_bin', ok_neg', ok_not', ok_cmp', ok_chain', ok_and1, ok_and2, ok_or1, ok_or2, ok_and', ok_or', ok_ite', ok_nil, ok_cons, ok_tup', ok_lst', ok_ix', ok_sli', ok_fld', ok_call', ok_isi', ok_dic', ok_bi', ok_bm', ok_lc', ok_xnil, thenS_nx, thenS_rt, ok_xcons, ok_xex, ok_xset, ok_xasg, ok_xsub, ok_xaug, ok_xaugs, ok_xret, ok_xretn, ok_xpass, ok_xif, ok_xwhl, ok_xfor, ok_gets, ok_opt, ok_opt0, ok_truB, ok_truI, ok_truS, ok_truN, ok_truT, ok_addI, ok_subI, ok_augI, ok_augJ, ok_lt, ok_le, ok_gt, ok_ge, ok_eqI, ok_neI, ok_eqS, ok_neS, g0i, g0b, g0s, g0t, g0o, g0n, endQ_nx, endQ_rt, part_out, part_int, kn_kn, kn_ki, kn_sl, kn_bin, nwl0, nwl1, nwl2, nwl3, nwl4, nwl5, nwl6, nwl7, nwl8, nwl9, nwl10, nwl11, nwl12, mkt0, mkt1, mkt2, mkt3, mkt4, mkt5, mkt6, mkt7, mkt8, ok_sliS, ok_sliT, gd_nil, asg_n, asg_t, asgs_nil, asgs_cons, ok_it_exT, ok_it_exS, ok_noEx, kd_find, kd_islower, kd_upper, kd_lower, kd_join, ok_find, ok_islower, ok_lenS, ok_lenT, ok_abs, ok_intI, ok_intB, ok_tupT, ok_lstT, ok_ixS, ok_ixT, ok_inS, ok_ninS, isi_str, isi_int, isi_bl, isi_non, isi_tup, ok_min, ok_max, kd_index, len4, List.set_cons_zero, List.set_cons_succ, true_and, and_true, Bool.not_true, Bool.not_false, Bool.false_eq_true, if_true, if_false, decide_eq_true_eq, decide_true, Option.map_some]
        rw [hm, ok_pop (hget _), hset]
        simp only [pairW]
        simp only [ok_ok, ok_bad, ok_exc, ok_pure, ok_mbad, u_kE, u_kbin, u_kcmp, u_kix, u_knotb, u_knot, u_kneg, u_kand, u_kor, u_kite, u_kcons2, u_kcons, u_ktup, u_klst, u_ksl5, u_ksl4, u_ksl3, u_ksl2, u_ksl1, u_kcall2, u_kcall, u_kbi, u_kbm3, u_kbm2, u_kbm1, u_kch3, u_kch2, u_kch1, u_klc3, u_klc2, u_klc1, u_kfld, u_kisi, u_kex, u_kset, u_kasg, u_ksub4, u_ksub3, u_ksub2, u_ksub1, u_kaug2, u_kaug1, u_kas5, u_kas4, u_kas3, u_kas2, u_kas1, u_kret, u_kif, u_kfor2, u_kfor1, kand_t, kand_f, kor_t, kor_f, kite_t, kite_f, kif_t, kif_f, ok_sl', ok_kn, ok_kb, ok_ki, ok_ks, ok_gl', ok_bin', ok_neg', ok_not', ok_cmp', ok_chain', ok_and1, ok_and2, ok_or1, ok_or2, ok_and', ok_or', ok_ite', ok_nil, ok_cons, ok_tup', ok_lst', ok_ix', ok_sli', ok_fld', ok_call', ok_isi', ok_dic', ok_bi', ok_bm', ok_lc', ok_xnil, thenS_nx, thenS_rt, ok_xcons, ok_xex, ok_xset, ok_xasg, ok_xsub, ok_xaug, ok_xaugs, ok_xret, ok_xretn, ok_xpass, ok_xif, ok_xwhl, ok_xfor, ok_gets, ok_opt, ok_opt0, ok_truB, ok_truI, ok_truS, ok_truN, ok_truT, ok_addI, ok_subI, ok_augI, ok_augJ, ok_lt, ok_le, ok_gt, ok_ge, ok_eqI, ok_neI, ok_eqS, ok_neS, g0i, g0b, g0s, g0t, g0o, g0n, endQ_nx, endQ_rt, part_out, part_int, kn_kn, kn_ki, kn_sl, kn_bin, nwl0, nwl1, nwl2, nwl3, nwl4, nwl5, nwl6, nwl7, nwl8, nwl9, nwl10, nwl11, nwl12, mkt0, mkt1, mkt2, mkt3, mkt4, mkt5, mkt6, mkt7, mkt8, ok_sliS, ok_sliT, gd_nil, asg_n, asg_t, asgs_nil, asgs_cons, ok_it_exT, ok_it_exS, ok_noEx, kd_find, kd_islower, kd_upper, kd_lower, kd_join, ok_find, ok_islower, ok_lenS, ok_lenT, ok_abs, ok_intI, ok_intB, ok_tupT, ok_lstT, ok_ixS, ok_ixT, ok_inS, ok_ninS, isi_str, isi_int, isi_bl, isi_non, isi_tup, ok_min, ok_max, kd_index, len4, List.set_cons_zero, List.set_cons_succ, true_and, and_true, Bool.not_true, Bool.not_false, Bool.false_eq_true, if_true, if_false, decide_eq_true_eq, decide_true, Option.map_some, asg_t, asgs_cons, asgs_nil, asg_n, List.length_cons, List.length_nil, show (5 < 0 + 1 + 1 + 1 + 1 + 1 + 1 + 1) = True from eq_true (by decide), show (6 < 0 + 1 + 1 + 1 + 1 + 1 + 1 + 1) = True from eq_true (by decide)]
        rw [kd_append (hget _)]
        simp only [ok_ok, ok_bad, ok_exc, ok_pure, ok_mbad, u_kE, u_kbin, u_kcmp, u_kix, u_knotb, u_knot, u_kneg, u_kand, u_kor, u_kite, u_kcons2, u_kcons, u_ktup, u_klst, u_ksl5, u_ksl4, u_ksl3, u_ksl2, u_ksl1, u_kcall2, u_kcall, u_kbi, u_kbm3, u_kbm2, u_kbm1, u_kch3, u_kch2, u_kch1, u_klc3, u_klc2, u_klc1, u_kfld, u_kisi, u_kex, u_kset, u_kasg, u_ksub4, u_ksub3, u_ksub2, u_ksub1, u_kaug2, u_kaug1, u_kas5, u_kas4, u_kas3, u_kas2, u_kas1, u_kret, u_kif, u_kfor2, u_kfor1, kand_t, kand_f, kor_t, kor_f, kite_t, kite_f, kif_t, kif_f, ok_sl', ok_kn, ok_kb, ok_ki, ok_ks, ok_gl', ok_bin', ok_neg', ok_not', ok_cmp', ok_chain', ok_and1, ok_and2, ok_or1, ok_or2, ok_and', ok_or', ok_ite', ok_nil, ok_cons, ok_tup', ok_lst', ok_ix', ok_sli', ok_fld', ok_call', ok_isi', ok_dic', ok_bi', ok_bm', ok_lc', ok_xnil, thenS_nx, thenS_rt, ok_xcons, ok_xex, ok_xset, ok_xasg, ok_xsub, ok_xaug, ok_xaugs, ok_xret, ok_xretn, ok_xpass, ok_xif, ok_xwhl, ok_xfor, ok_gets, ok_opt, ok_opt0, ok_truB, ok_truI, ok_truS, ok_truN, ok_truT, ok_addI, ok_subI, ok_augI, ok_augJ, ok_lt, ok_le, ok_gt, ok_ge, ok_eqI, ok_neI, ok_eqS, ok_neS, g0i, g0b, g0s, g0t, g0o, g0n, endQ_nx, endQ_rt, part_out, part_int, kn_kn, kn_ki, kn_sl, kn_bin, nwl0, nwl1, nwl2, nwl3, nwl4, nwl5, nwl6, nwl7, nwl8, nwl9, nwl10, nwl11, nwl12, mkt0, mkt1, mkt2, mkt3, mkt4, mkt5, mkt6, mkt7, mkt8, ok_sliS, ok_sliT, gd_nil, asg_n, asg_t, asgs_nil, asgs_cons, ok_it_exT, ok_it_exS, ok_noEx, kd_find, kd_islower, kd_upper, kd_lower, kd_join, ok_find, ok_islower, ok_lenS, ok_lenT, ok_abs, ok_intI, ok_intB, ok_tupT, ok_lstT, ok_ixS, ok_ixT, ok_inS, ok_ninS, isi_str, isi_int, isi_bl, isi_non, isi_tup, ok_min, ok_max, kd_index, len4, List.set_cons_zero, List.set_cons_succ, true_and, and_true, Bool.not_true, Bool.not_false, Bool.false_eq_true, if_true, if_false, decide_eq_true_eq, decide_true, Option.map_some, h.s0, h.s1 i hi]
        rw [ok_append (hget _), if_pos hq, hset]
        simp only [ok_ok, ok_bad, ok_exc, ok_pure, ok_mbad, u_kE, u_kbin, u_kcmp, u_kix, u_knotb, u_knot, u_kneg, u_kand, u_kor, u_kite, u_kcons2, u_kcons, u_ktup, u_klst, u_ksl5, u_ksl4, u_ksl3, u_ksl2, u_ksl1, u_kcall2, u_kcall, u_kbi, u_kbm3, u_kbm2, u_kbm1, u_kch3, u_kch2, u_kch1, u_klc3, u_klc2, u_klc1, u_kfld, u_kisi, u_kex, u_kset, u_kasg, u_ksub4, u_ksub3, u_ksub2, u_ksub1, u_kaug2, u_kaug1, u_kas5, u_kas4, u_kas3, u_kas2, u_kas1, u_kret, u_kif, u_kfor2, u_kfor1, kand_t, kand_f, kor_t, kor_f, kite_t, kite_f, kif_t, kif_f, ok_sl', ok_kn, ok_kb, ok_ki, ok_ks, ok_gl', ok_bin', ok_neg', ok_not', ok_cmp', ok_chain', ok_and1, ok_and2, ok_or1, ok_or2, ok_and', ok_or', ok_ite', ok_nil, ok_cons, ok_tup', ok_lst', ok_ix', ok_sli', ok_fld', ok_call', ok_isi', ok_dic', ok_bi', ok_bm', ok_lc', ok_xnil, thenS_nx, thenS_rt, ok_xcons, ok_xex, ok_xset, ok_xasg, ok_xsub, ok_xaug, ok_xaugs, ok_xret, ok_xretn, ok_xpass, ok_xif, ok_xwhl, ok_xfor, ok_gets, ok_opt, ok_opt0, ok_truB, ok_truI, ok_truS, ok_truN, ok_truT, ok_addI, ok_subI, ok_augI, ok_augJ, ok_lt, ok_le, ok_gt, ok_ge, ok_eqI, ok_neI, ok_eqS, ok_neS, g0i, g0b, g0s, g0t, g0o, g0n, endQ_nx, endQ_rt, part_out, part_int, kn_kn, kn_ki, kn_sl, kn_bin, nwl0, nwl1, nwl2, nwl3, nwl4, nwl5, nwl6, nwl7, nwl8, nwl9, nwl10, nwl11, nwl12, mkt0, mkt1, mkt2, mkt3, mkt4, mkt5, mkt6, mkt7, mkt8, ok_sliS, ok_sliT, gd_nil, asg_n, asg_t, asgs_nil, asgs_cons, ok_it_exT, ok_it_exS, ok_noEx, kd_find, kd_islower, kd_upper, kd_lower, kd_join, ok_find, ok_islower, ok_lenS, ok_lenT, ok_abs, ok_intI, ok_intB, ok_tupT, ok_lstT, ok_ixS, ok_ixT, ok_inS, ok_ninS, isi_str, isi_int, isi_bl, isi_non, isi_tup, ok_min, ok_max, kd_index, len4, List.set_cons_zero, List.set_cons_succ, true_and, and_true, Bool.not_true, Bool.not_false, Bool.false_eq_true, if_true, if_false, decide_eq_true_eq, decide_true, Option.map_some]
        refine ⟨⟨_, _, _, _, by rw [show i + 1 - 1 = i by omega, hf, decide_eq_true (Nat.succ_pos i)]; rfl⟩, ?_⟩
        rw [e2, List.map_append]; rfl
      | false =>
        have e2 := fnd_new hf h1
        simp only [ok_ok, ok_bad, ok_exc, ok_pure, ok_mbad, u_kE, u_kbin, u_kcmp, u_kix, u_knotb, u_knot, u_kneg, u_kand, u_kor, u_kite, u_kcons2, u_kcons, u_ktup, u_klst, u_ksl5, u_ksl4, u_ksl3, u_ksl2, u_ksl1, u_kcall2, u_kcall, u_kbi, u_kbm3, u_kbm2, u_kbm1, u_kch3, u_kch2, u_kch1, u_klc3, u_klc2, u_klc1, u_kfld, u_kisi, u_kex, u_kset, u_kasg, u_ksub4, u_ksub3, u_ksub2, u_ksub1, u_kaug2, u_kaug1, u_kas5, u_kas4, u_kas3, u_kas2, u_kas1, u_kret, u_kif, u_kfor2, u_kfor1, kand_t, kand_f, kor_t, kor_f, kite_t, kite_f, kif_t, kif_f, ok_sl', ok_kn, ok_kb, ok_ki, ok_ks, ok_gl', ok_bin', ok_neg', ok_not', ok_cmp', ok_chain', ok_and1, ok_and2, ok_or1, ok_or2, ok_and', ok_or', ok_ite', ok_nil, ok_cons, ok_tup', ok_lst', ok_ix', ok_sli', ok_fld', ok_call', ok_isi', ok_dic', ok_bi', ok_bm', ok_lc', ok_xnil, thenS_nx, thenS_rt, ok_xcons, ok_xex, ok_xset, ok_xasg, ok_xsub, ok_xaug, ok_xaugs, ok_xret, ok_xretn, ok_xpass, ok_xif, ok_xwhl, ok_xfor, ok_gets, ok_opt, ok_opt0, ok_truB, ok_truI, ok_truS, ok_truN, ok_truT, ok_addI, ok_subI, ok_augI, ok_augJ, ok_lt, ok_le, ok_gt, ok_ge, ok_eqI, ok_neI, ok_eqS, ok_neS, g0i, g0b, g0s, g0t, g0o, g0n, endQ_nx, endQ_rt, part_out, part_int, kn_kn, kn_ki, kn_sl, kn_bin, nwl0, nwl1, nwl2, nwl3, nwl4, nwl5, nwl6, nwl7, nwl8, nwl9, nwl10, nwl11, nwl12, mkt0, mkt1, mkt2, mkt3, mkt4, mkt5, mkt6, mkt7, mkt8, ok_sliS, ok_sliT, gd_nil, asg_n, asg_t, asgs_nil, asgs_cons, ok_it_exT, ok_it_exS, ok_noEx, kd_find, kd_islower, kd_upper, kd_lower, kd_join, ok_find, ok_islower, ok_lenS, ok_lenT, ok_abs, ok_intI, ok_intB, ok_tupT, ok_lstT, ok_ixS, ok_ixT, ok_inS, ok_ninS, isi_str, isi_int, isi_bl, isi_non, isi_tup, ok_min, ok_max, kd_index, len4, List.set_cons_zero, List.set_cons_succ, true_and, and_true, Bool.not_true, Bool.not_false, Bool.false_eq_true, if_true, if_false, decide_eq_true_eq, decide_true, Option.map_some]
        rw [kd_append (hget _)]
        simp only [ok_ok, ok_bad, ok_exc, ok_pure, ok_mbad, u_kE, u_kbin, u_kcmp, u_kix, u_knotb, u_knot, u_kneg, u_kand, u_kor, u_kite, u_kcons2, u_kcons, u_ktup, u_klst, u_ksl5, u_ksl4, u_ksl3, u_ksl2, u_ksl1, u_kcall2, u_kcall, u_kbi, u_kbm3, u_kbm2, u_kbm1, u_kch3, u_kch2, u_kch1, u_klc3, u_klc2, u_klc1, u_kfld, u_kisi, u_kex, u_kset, u_kasg, u_ksub4, u_ksub3, u_ksub2, u_ksub1, u_kaug2, u_kaug1, u_kas5, u_kas4, u_kas3, u_kas2, u_kas1, u_kret, u_kif, u_kfor2, u_kfor1, kand_t, kand_f, kor_t, kor_f, kite_t, kite_f, kif_t, kif_f, ok_sl', ok_kn, ok_kb, ok_ki, ok_ks, ok_gl', ok_bin', ok_neg', ok_not', ok_cmp', ok_chain', ok_and1, ok_and2, ok_or1, ok_or2, ok_and', ok_or', ok_ite', ok_nil, ok_cons, ok_tup', ok_lst', ok_ix', ok_sli', ok_fld', ok_call', ok_isi', ok_dic', ok_bi', ok_bm', ok_lc', ok_xnil, thenS_nx, thenS_rt, ok_xcons, ok_xex, ok_xset, ok_xasg, ok_xsub, ok_xaug, ok_xaugs, ok_xret, ok_xretn, ok_xpass, ok_xif, ok_xwhl, ok_xfor, ok_gets, ok_opt, ok_opt0, ok_truB, ok_truI, ok_truS, ok_truN, ok_truT, ok_addI, ok_subI, ok_augI, ok_augJ, ok_lt, ok_le, ok_gt, ok_ge, ok_eqI, ok_neI, ok_eqS, ok_neS, g0i, g0b, g0s, g0t, g0o, g0n, endQ_nx, endQ_rt, part_out, part_int, kn_kn, kn_ki, kn_sl, kn_bin, nwl0, nwl1, nwl2, nwl3, nwl4, nwl5, nwl6, nwl7, nwl8, nwl9, nwl10, nwl11, nwl12, mkt0, mkt1, mkt2, mkt3, mkt4, mkt5, mkt6, mkt7, mkt8, ok_sliS, ok_sliT, gd_nil, asg_n, asg_t, asgs_nil, asgs_cons, ok_it_exT, ok_it_exS, ok_noEx, kd_find, kd_islower, kd_upper, kd_lower, kd_join, ok_find, ok_islower, ok_lenS, ok_lenT, ok_abs, ok_intI, ok_intB, ok_tupT, ok_lstT, ok_ixS, ok_ixT, ok_inS, ok_ninS, isi_str, isi_int, isi_bl, isi_non, isi_tup, ok_min, ok_max, kd_index, len4, List.set_cons_zero, List.set_cons_succ, true_and, and_true, Bool.not_true, Bool.not_false, Bool.false_eq_true, if_true, if_false, decide_eq_true_eq, decide_true, Option.map_some, h.s0, h.s1 i hi]
        rw [ok_append (hget _), if_pos (by rw [List.length_map, LINE]; omega), hset]
        simp only [ok_ok, ok_bad, ok_exc, ok_pure, ok_mbad, u_kE, u_kbin, u_kcmp, u_kix, u_knotb, u_knot, u_kneg, u_kand, u_kor, u_kite, u_kcons2, u_kcons, u_ktup, u_klst, u_ksl5, u_ksl4, u_ksl3, u_ksl2, u_ksl1, u_kcall2, u_kcall, u_kbi, u_kbm3, u_kbm2, u_kbm1, u_kch3, u_kch2, u_kch1, u_klc3, u_klc2, u_klc1, u_kfld, u_kisi, u_kex, u_kset, u_kasg, u_ksub4, u_ksub3, u_ksub2, u_ksub1, u_kaug2, u_kaug1, u_kas5, u_kas4, u_kas3, u_kas2, u_kas1, u_kret, u_kif, u_kfor2, u_kfor1, kand_t, kand_f, kor_t, kor_f, kite_t, kite_f, kif_t, kif_f, ok_sl', ok_kn, ok_kb, ok_ki, ok_ks, ok_gl', ok_bin', ok_neg', ok_not', ok_cmp', ok_chain', ok_and1, ok_and2, ok_or1, ok_or2, ok_and', ok_or', ok_ite', ok_nil, ok_cons, ok_tup', ok_lst', ok_ix', ok_sli', ok_fld', ok_call', ok_isi', ok_dic', ok_bi', ok_bm', ok_lc', ok_xnil, thenS_nx, thenS_rt, ok_xcons, ok_xex, ok_xset, ok_xasg, ok_xsub, ok_xaug, ok_xaugs, ok_xret, ok_xretn, ok_xpass, ok_xif, ok_xwhl, ok_xfor, ok_gets, ok_opt, ok_opt0, ok_truB, ok_truI, ok_truS, ok_truN, ok_truT, ok_addI, ok_subI, ok_augI, ok_augJ, ok_lt, ok_le, ok_gt, ok_ge, ok_eqI, ok_neI, ok_eqS, ok_neS, g0i, g0b, g0s, g0t, g0o, g0n, endQ_nx, endQ_rt, part_out, part_int, kn_kn, kn_ki, kn_sl, kn_bin, nwl0, nwl1, nwl2, nwl3, nwl4, nwl5, nwl6, nwl7, nwl8, nwl9, nwl10, nwl11, nwl12, mkt0, mkt1, mkt2, mkt3, mkt4, mkt5, mkt6, mkt7, mkt8, ok_sliS, ok_sliT, gd_nil, asg_n, asg_t, asgs_nil, asgs_cons, ok_it_exT, ok_it_exS, ok_noEx, kd_find, kd_islower, kd_upper, kd_lower, kd_join, ok_find, ok_islower, ok_lenS, ok_lenT, ok_abs, ok_intI, ok_intB, ok_tupT, ok_lstT, ok_ixS, ok_ixT, ok_inS, ok_ninS, isi_str, isi_int, isi_bl, isi_non, isi_tup, ok_min, ok_max, kd_index, len4, List.set_cons_zero, List.set_cons_succ, true_and, and_true, Bool.not_true, Bool.not_false, Bool.false_eq_true, if_true, if_false, decide_eq_true_eq, decide_true, Option.map_some]
        refine ⟨⟨_, _, _, _, by rw [show i + 1 - 1 = i by omega, hf, decide_eq_true (Nat.succ_pos i)]; rfl⟩, ?_⟩
        rw [e2, List.map_append]; rfl
    | false =>
      have e2 := fnd_no hf
      simp only [ok_ok, ok_bad, ok_exc, ok_pure, ok_mbad, u_kE, u_kbin, u_kcmp, u_kix, u_knotb, u_knot, u_kneg, u_kand, u_kor, u_kite, u_kcons2, u_kcons, u_ktup, u_klst, u_ksl5, u_ksl4, u_ksl3, u_ksl2, u_ksl1, u_kcall2, u_kcall, u_kbi, u_kbm3, u_kbm2, u_kbm1, u_kch3, u_kch2, u_kch1, u_klc3, u_klc2, u_klc1, u_kfld, u_kisi, u_kex, u_kset, u_kasg, u_ksub4, u_ksub3, u_ksub2, u_ksub1, u_kaug2, u_kaug1, u_kas5, u_kas4, u_kas3, u_kas2, u_kas1, u_kret, u_kif, u_kfor2, u_kfor1, kand_t, kand_f, kor_t, kor_f, kite_t, kite_f, kif_t, kif_f, ok_sl', ok_kn, ok_kb, ok_ki, ok_ks, ok_gl', ok_bin', ok_neg', ok_not', ok_cmp', ok_chain', ok_and1, ok_and2, ok_or1, ok_or2, ok_and', ok_or', ok_ite', ok_nil, ok_cons, ok_tup', ok_lst', ok_ix', ok_sli', ok_fld', ok_call', ok_isi', ok_dic', ok_bi', ok_bm', ok_lc', ok_xnil, thenS_nx, thenS_rt, ok_xcons, ok_xex, ok_xset, ok_xasg, ok_xsub, ok_xaug, ok_xaugs, ok_xret, ok_xretn, ok_xpass, ok_xif, ok_xwhl, ok_xfor, ok_gets, ok_opt, ok_opt0, ok_truB, ok_truI, ok_truS, ok_truN, ok_truT, ok_addI, ok_subI, ok_augI, ok_augJ, ok_lt, ok_le, ok_gt, ok_ge, ok_eqI, ok_neI, ok_eqS, ok_neS, g0i, g0b, g0s, g0t, g0o, g0n, endQ_nx, endQ_rt, part_out, part_int, kn_kn, kn_ki, kn_sl, kn_bin, nwl0, nwl1, nwl2, nwl3, nwl4, nwl5, nwl6, nwl7, nwl8, nwl9, nwl10, nwl11, nwl12, mkt0, mkt1, mkt2, mkt3, mkt4, mkt5, mkt6, mkt7, mkt8, ok_sliS, ok_sliT, gd_nil, asg_n, asg_t, asgs_nil, asgs_cons, ok_it_exT, ok_it_exS, ok_noEx, kd_find, kd_islower, kd_upper, kd_lower, kd_join, ok_find, ok_islower, ok_lenS, ok_lenT, ok_abs, ok_intI, ok_intB, ok_tupT, ok_lstT, ok_ixS, ok_ixT, ok_inS, ok_ninS, isi_str, isi_int, isi_bl, isi_non, isi_tup, ok_min, ok_max, kd_index, len4, List.set_cons_zero, List.set_cons_succ, true_and, and_true, Bool.not_true, Bool.not_false, Bool.false_eq_true, if_true, if_false, decide_eq_true_eq, decide_true, Option.map_some]
      refine ⟨⟨_, _, _, _, by rw [show i + 1 - 1 = i by omega, hf, Bool.and_false]⟩, ?_⟩
      rw [e2]
  · obtain ⟨⟨x3, x4, x5, x6, rfl⟩, rfl⟩ := hI
    refine ⟨gd_of (lstAt_app ha _), ?_⟩
    rw [Nat.zero_add, List.length_map, List.length_range]
    simp only [ok_ok, ok_bad, ok_exc, ok_pure, ok_mbad, u_kE, u_kbin, u_kcmp, u_kix, u_knotb, u_knot, u_kneg, u_kand, u_kor, u_kite, u_kcons2, u_kcons, u_ktup, u_klst, u_ksl5, u_ksl4, u_ksl3, u_ksl2, u_ksl1, u_kcall2, u_kcall, u_kbi, u_kbm3, u_kbm2, u_kbm1, u_kch3, u_kch2, u_kch1, u_klc3, u_klc2, u_klc1, u_kfld, u_kisi, u_kex, u_kset, u_kasg, u_ksub4, u_ksub3, u_ksub2, u_ksub1, u_kaug2, u_kaug1, u_kas5, u_kas4, u_kas3, u_kas2, u_kas1, u_kret, u_kif, u_kfor2, u_kfor1, kand_t, kand_f, kor_t, kor_f, kite_t, kite_f, kif_t, kif_f, ok_sl', ok_kn, ok_kb, ok_ki, ok_ks, ok_gl', ok_bin', ok_neg', ok_not', ok_cmp', ok_chain', ok_and1, ok_and2, ok_or1, ok_or2, ok_and', ok_or', ok_ite', ok_nil, ok_cons, ok_tup', ok_lst', ok_ix', ok_sli', ok_fld', ok_call', ok_isi', ok_dic', ok_bi', ok_bm', ok_lc', ok_xnil, thenS_nx, thenS_rt, ok_xcons, ok_xex, ok_xset, ok_xasg, ok_xsub, ok_xaug, ok_xaugs, ok_xret, ok_xretn, ok_xpass, ok_xif, ok_xwhl, ok_xfor, ok_gets, ok_opt, ok_opt0, ok_truB, ok_truI, ok_truS, ok_truN, ok_truT, ok_addI, ok_subI, ok_augI, ok_augJ, ok_lt, ok_le, ok_gt, ok_ge, ok_eqI, ok_neI, ok_eqS, ok_neS, g0i, g0b, g0s, g0t, g0o, g0n, endQ_nx, endQ_rt, part_out, part_int, kn_kn, kn_ki, kn_sl, kn_bin, nwl0, nwl1, nwl2, nwl3, nwl4, nwl5, nwl6, nwl7, nwl8, nwl9, nwl10, nwl11, nwl12, mkt0, mkt1, mkt2, mkt3, mkt4, mkt5, mkt6, mkt7, mkt8, ok_sliS, ok_sliT, gd_nil, asg_n, asg_t, asgs_nil, asgs_cons, ok_it_exT, ok_it_exS, ok_noEx, kd_find, kd_islower, kd_upper, kd_lower, kd_join, ok_find, ok_islower, ok_lenS, ok_lenT, ok_abs, ok_intI, ok_intB, ok_tupT, ok_lstT, ok_ixS, ok_ixT, ok_inS, ok_ninS, isi_str, isi_int, isi_bl, isi_non, isi_tup, ok_min, ok_max, kd_index, len4, List.set_cons_zero, List.set_cons_succ, true_and, and_true, Bool.not_true, Bool.not_false, Bool.false_eq_true, if_true, if_false, decide_eq_true_eq, decide_true, Option.map_some]
    rw [ok_tupO all_new']
    simp only [ok_ok, ok_bad, ok_exc, ok_pure, ok_mbad, u_kE, u_kbin, u_kcmp, u_kix, u_knotb, u_knot, u_kneg, u_kand, u_kor, u_kite, u_kcons2, u_kcons, u_ktup, u_klst, u_ksl5, u_ksl4, u_ksl3, u_ksl2, u_ksl1, u_kcall2, u_kcall, u_kbi, u_kbm3, u_kbm2, u_kbm1, u_kch3, u_kch2, u_kch1, u_klc3, u_klc2, u_klc1, u_kfld, u_kisi, u_kex, u_kset, u_kasg, u_ksub4, u_ksub3, u_ksub2, u_ksub1, u_kaug2, u_kaug1, u_kas5, u_kas4, u_kas3, u_kas2, u_kas1, u_kret, u_kif, u_kfor2, u_kfor1, kand_t, kand_f, kor_t, kor_f, kite_t, kite_f, kif_t, kif_f, ok_sl', ok_kn, ok_kb, ok_ki, ok_ks, ok_gl', ok_bin', ok_neg', ok_not', ok_cmp', ok_chain', ok_and1, ok_and2, ok_or1, ok_or2, ok_and', ok_or', ok_ite', ok_nil, ok_cons, ok_tup', ok_lst', ok_ix', ok_sli', ok_fld', ok_call', ok_isi', ok_dic', ok_bi', ok_bm', ok_lc', ok_xnil, thenS_nx, thenS_rt, ok_xcons, ok_xex, ok_xset, ok_xasg, ok_xsub, ok_xaug, ok_xaugs, ok_xret, ok_xretn, ok_xpass, ok_xif, ok_xwhl, ok_xfor, ok_gets, ok_opt, ok_opt0, ok_truB, ok_truI, ok_truS, ok_truN, ok_truT, ok_addI, ok_subI, ok_augI, ok_augJ, ok_lt, ok_le, ok_gt, ok_ge, ok_eqI, ok_neI, ok_eqS, ok_neS, g0i, g0b, g0s, g0t, g0o, g0n, endQ_nx, endQ_rt, part_out, part_int, kn_kn, kn_ki, kn_sl, kn_bin, nwl0, nwl1, nwl2, nwl3, nwl4, nwl5, nwl6, nwl7, nwl8, nwl9, nwl10, nwl11, nwl12, mkt0, mkt1, mkt2, mkt3, mkt4, mkt5, mkt6, mkt7, mkt8, ok_sliS, ok_sliT, gd_nil, asg_n, asg_t, asgs_nil, asgs_cons, ok_it_exT, ok_it_exS, ok_noEx, kd_find, kd_islower, kd_upper, kd_lower, kd_join, ok_find, ok_islower, ok_lenS, ok_lenT, ok_abs, ok_intI, ok_intB, ok_tupT, ok_lstT, ok_ixS, ok_ixT, ok_inS, ok_ninS, isi_str, isi_int, isi_bl, isi_non, isi_tup, ok_min, ok_max, kd_index, len4, List.set_cons_zero, List.set_cons_succ, true_and, and_true, Bool.not_true, Bool.not_false, Bool.false_eq_true, if_true, if_false, decide_eq_true_eq, decide_true, Option.map_some]
    exact q _
/-! ### settled, holds -/
theorem settled_ok (h0 : nm_held_by ∈ D.fns) (h1 : nm_rows_of ∈ D.fns) {ps : List (Nat × Nat)}
    (hh : ∀ (Q : W → Sto → Prop) (S : Sto), (∀ T a, (S ++ T)[a]? = some (.lst ((tab (covers ps)).map W.bl)) → S.length ≤ a → Q (.ob a) (S ++ T)) → Ok (D.cf nm_held_by [rowsW ps] [] [] S) Q)
    (hr : ∀ (f : Nat → Bool) (a : Nat) (Q : W → Sto → Prop) (S : Sto), LstAt S a ((tab f).map W.bl) → (∀ T, Q (rowsW (rowsUp f)) (S ++ T)) → Ok (D.cf nm_rows_of [.ob a] [] [] S) Q)
    (q : ∀ T, Q (rowsW (rowsUp (covers ps))) (S ++ T)) : Ok (fnM D 1 ts_settled [rowsW ps] S) Q := by
  rw [ok_fn (ρ := [rowsW ps]) rfl]
  unfold ts_settled
  simp only [rowsW] at hh ⊢
  simp only [ok_ok, ok_bad, ok_exc, ok_pure, ok_mbad, u_kE, u_kbin, u_kcmp, u_kix, u_knotb, u_knot, u_kneg, u_kand, u_kor, u_kite, u_kcons2, u_kcons, u_ktup, u_klst, u_ksl5, u_ksl4, u_ksl3, u_ksl2, u_ksl1, u_kcall2, u_kcall, u_kbi, u_kbm3, u_kbm2, u_kbm1, u_kch3, u_kch2, u_kch1, u_klc3, u_klc2, u_klc1, u_kfld, u_kisi, u_kex, u_kset, u_kasg, u_ksub4, u_ksub3, u_ksub2, u_ksub1, u_kaug2, u_kaug1, u_kas5, u_kas4, u_kas3, u_kas2, u_kas1, u_kret, u_kif, u_kfor2, u_kfor1, kand_t, kand_f, kor_t, kor_f, kite_t, kite_f, kif_t, kif_f, ok_sl', ok_kn, ok_kb, ok_ki, ok_ks, ok_gl', ok_bin', ok_neg', ok_not', ok_cmp', ok_chain', ok_and1, ok_and2, ok_or1, ok_or2, ok_and', ok_or', ok_ite', ok_nil, ok_cons, ok_tup', ok_lst', ok_ix', ok_sli', ok_fld', ok_call', ok_isi', ok_dic', ok_bi', ok_bm', ok_lc', ok_xnil, thenS_nx, thenS_rt, ok_xcons, ok_xex, ok_xset, ok_xasg, ok_xsub, ok_xaug, ok_xaugs, ok_xret, ok_xretn, ok_xpass, ok_xif, ok_xwhl, ok_xfor, ok_gets, ok_opt, ok_opt0, ok_truB, ok_truI, ok_truS, ok_truN, ok_truT, ok_addI, ok_subI, ok_augI, ok_augJ, ok_lt, ok_le, ok_gt, ok_ge, ok_eqI, ok_neI, ok_eqS, ok_neS, g0i, g0b, g0s, g0t, g0o, g0n, endQ_nx, endQ_rt, part_out, part_int, kn_kn, kn_ki, kn_sl, kn_bin, nwl0, nwl1, nwl2, nwl3, nwl4, nwl5, nwl6, nwl7, nwl8, nwl9, nwl10, nwl11, nwl12, mkt0, mkt1, mkt2, mkt3, mkt4, mkt5, mkt6, mkt7, mkt8, ok_sliS, ok_sliT, gd_nil, asg_n, asg_t, asgs_nil, asgs_cons, ok_it_exT, ok_it_exS, ok_noEx, kd_find, kd_islower, kd_upper, kd_lower, kd_join, ok_find, ok_islower, ok_lenS, ok_lenT, ok_abs, ok_intI, ok_intB, ok_tupT, ok_lstT, ok_ixS, ok_ixT, ok_inS, ok_ninS, isi_str, isi_int, isi_bl, isi_non, isi_tup, ok_min, ok_max, kd_index, len4, List.set_cons_zero, List.set_cons_succ, true_and, and_true, Bool.not_true, Bool.not_false, Bool.false_eq_true, if_true, if_false, decide_eq_true_eq, decide_true, Option.map_some, h0]
  refine hh _ _ fun T a ha _ => ?_
  simp only [ok_ok, ok_bad, ok_exc, ok_pure, ok_mbad, u_kE, u_kbin, u_kcmp, u_kix, u_knotb, u_knot, u_kneg, u_kand, u_kor, u_kite, u_kcons2, u_kcons, u_ktup, u_klst, u_ksl5, u_ksl4, u_ksl3, u_ksl2, u_ksl1, u_kcall2, u_kcall, u_kbi, u_kbm3, u_kbm2, u_kbm1, u_kch3, u_kch2, u_kch1, u_klc3, u_klc2, u_klc1, u_kfld, u_kisi, u_kex, u_kset, u_kasg, u_ksub4, u_ksub3, u_ksub2, u_ksub1, u_kaug2, u_kaug1, u_kas5, u_kas4, u_kas3, u_kas2, u_kas1, u_kret, u_kif, u_kfor2, u_kfor1, kand_t, kand_f, kor_t, kor_f, kite_t, kite_f, kif_t, kif_f, ok_sl', ok_kn, ok_kb, ok_ki, ok_ks, ok_gl', ok_bin', ok_neg', ok_not', ok_cmp', ok_chain', ok_and1, ok_and2, ok_or1, ok_or2, ok_and', ok_or', ok_ite', ok_nil, ok_cons, ok_tup', ok_lst', ok_ix', ok_sli', ok_fld', ok_call', ok_isi', ok_dic', ok_bi', ok_bm', ok_lc', ok_xnil, thenS_nx, thenS_rt, ok_xcons, ok_xex, ok_xset, ok_xasg, ok_xsub, ok_xaug, ok_xaugs, ok_xret, ok_xretn, ok_xpass, ok_xif, ok_xwhl, ok_xfor, ok_gets, ok_opt, ok_opt0, ok_truB, ok_truI, ok_truS, ok_truN, ok_truT, ok_addI, ok_subI, ok_augI, ok_augJ, ok_lt, ok_le, ok_gt, ok_ge, ok_eqI, ok_neI, ok_eqS, ok_neS, g0i, g0b, g0s, g0t, g0o, g0n, endQ_nx, endQ_rt, part_out, part_int, kn_kn, kn_ki, kn_sl, kn_bin, nwl0, nwl1, nwl2, nwl3, nwl4, nwl5, nwl6, nwl7, nwl8, nwl9, nwl10, nwl11, nwl12, mkt0, mkt1, mkt2, mkt3, mkt4, mkt5, mkt6, mkt7, mkt8, ok_sliS, ok_sliT, gd_nil, asg_n, asg_t, asgs_nil, asgs_cons, ok_it_exT, ok_it_exS, ok_noEx, kd_find, kd_islower, kd_upper, kd_lower, kd_join, ok_find, ok_islower, ok_lenS, ok_lenT, ok_abs, ok_intI, ok_intB, ok_tupT, ok_lstT, ok_ixS, ok_ixT, ok_inS, ok_ninS, isi_str, isi_int, isi_bl, isi_non, isi_tup, ok_min, ok_max, kd_index, len4, List.set_cons_zero, List.set_cons_succ, true_and, and_true, Bool.not_true, Bool.not_false, Bool.false_eq_true, if_true, if_false, decide_eq_true_eq, decide_true, Option.map_some, h1]
  refine hr _ _ _ _ (.inl ha) fun T2 => ?_
  simp only [ok_ok, ok_bad, ok_exc, ok_pure, ok_mbad, u_kE, u_kbin, u_kcmp, u_kix, u_knotb, u_knot, u_kneg, u_kand, u_kor, u_kite, u_kcons2, u_kcons, u_ktup, u_klst, u_ksl5, u_ksl4, u_ksl3, u_ksl2, u_ksl1, u_kcall2, u_kcall, u_kbi, u_kbm3, u_kbm2, u_kbm1, u_kch3, u_kch2, u_kch1, u_klc3, u_klc2, u_klc1, u_kfld, u_kisi, u_kex, u_kset, u_kasg, u_ksub4, u_ksub3, u_ksub2, u_ksub1, u_kaug2, u_kaug1, u_kas5, u_kas4, u_kas3, u_kas2, u_kas1, u_kret, u_kif, u_kfor2, u_kfor1, kand_t, kand_f, kor_t, kor_f, kite_t, kite_f, kif_t, kif_f, ok_sl', ok_kn, ok_kb, ok_ki, ok_ks, ok_gl', ok_bin', ok_neg', ok_not', ok_cmp', ok_chain', ok_and1, ok_and2, ok_or1, ok_or2, ok_and', ok_or', ok_ite', ok_nil, ok_cons, ok_tup', ok_lst', ok_ix', ok_sli', ok_fld', ok_call', ok_isi', ok_dic', ok_bi', ok_bm', ok_lc', ok_xnil, thenS_nx, thenS_rt, ok_xcons, ok_xex, ok_xset, ok_xasg, ok_xsub, ok_xaug, ok_xaugs, ok_xret, ok_xretn, ok_xpass, ok_xif, ok_xwhl, ok_xfor, ok_gets, ok_opt, ok_opt0, ok_truB, ok_truI, ok_truS, ok_truN, ok_truT, ok_addI, ok_subI, ok_augI, ok_augJ, ok_lt, ok_le, ok_gt, ok_ge, ok_eqI, ok_neI, ok_eqS, ok_neS, g0i, g0b, g0s, g0t, g0o, g0n, endQ_nx, endQ_rt, part_out, part_int, kn_kn, kn_ki, kn_sl, kn_bin, nwl0, nwl1, nwl2, nwl3, nwl4, nwl5, nwl6, nwl7, nwl8, nwl9, nwl10, nwl11, nwl12, mkt0, mkt1, mkt2, mkt3, mkt4, mkt5, mkt6, mkt7, mkt8, ok_sliS, ok_sliT, gd_nil, asg_n, asg_t, asgs_nil, asgs_cons, ok_it_exT, ok_it_exS, ok_noEx, kd_find, kd_islower, kd_upper, kd_lower, kd_join, ok_find, ok_islower, ok_lenS, ok_lenT, ok_abs, ok_intI, ok_intB, ok_tupT, ok_lstT, ok_ixS, ok_ixT, ok_inS, ok_ninS, isi_str, isi_int, isi_bl, isi_non, isi_tup, ok_min, ok_max, kd_index, len4, List.set_cons_zero, List.set_cons_succ, true_and, and_true, Bool.not_true, Bool.not_false, Bool.false_eq_true, if_true, if_false, decide_eq_true_eq, decide_true, Option.map_some]
  rw [List.append_assoc]
  exact q _
def pairF (k : Nat) : W → W
  | .tup [.str [a], .str [b]] => .bl (decide ((gv_SIGNS.idxOf a) ≤ k ∧ k ≤ gv_SIGNS.idxOf b))
  | w => w
theorem idx_sg : ∀ k : Nat, k < 95 → gv_SIGNS.idxOf (sgN k) = k := by decide +kernel
theorem holds_ok (h : SignsOk D) {ps : List (Nat × Nat)} (hp : ROk ps) (hl : ps.length ≤ LINE) {k : Nat} (hk : k < 95) (q : ∀ T, Q (.bl (covers ps k)) (S ++ T)) : Ok (fnM D 5 ts_holds [rowsW ps, .str [sgN k]] S) Q := by
  rw [ok_fn (ρ := [rowsW ps, .str [sgN k], .un, .un, .un]) rfl]
  unfold ts_holds rowsW
  simp only [ok_ok, ok_bad, ok_exc, ok_pure, ok_mbad, u_kE, u_kbin, u_kcmp, u_kix, u_knotb, u_knot, u_kneg, u_kand, u_kor, u_kite, u_kcons2, u_kcons, u_ktup, u_klst, u_ksl5, u_ksl4, u_ksl3, u_ksl2, u_ksl1, u_kcall2, u_kcall, u_kbi, u_kbm3, u_kbm2, u_kbm1, u_kch3, u_kch2, u_kch1, u_klc3, u_klc2, u_klc1, u_kfld, u_kisi, u_kex, u_kset, u_kasg, u_ksub4, u_ksub3, u_ksub2, u_ksub1, u_kaug2, u_kaug1, u_kas5, u_kas4, u_kas3, u_kas2, u_kas1, u_kret, u_kif, u_kfor2, u_kfor1, kand_t, kand_f, kor_t, kor_f, kite_t, kite_f, kif_t, kif_f, ok_sl', ok_kn, ok_kb, ok_ki, ok_ks, ok_gl', ok_bin', ok_neg', ok_not', ok_cmp', ok_chain', ok_and1, ok_and2, ok_or1, ok_or2, ok_and', ok_or', ok_ite', ok_nil, ok_cons, ok_tup', ok_lst', ok_ix', ok_sli', ok_fld', ok_call', ok_isi', ok_dic', ok_bi', ok_bm', ok_lc', ok_xnil, thenS_nx, thenS_rt, ok_xcons, ok_xex, ok_xset, ok_xasg, ok_xsub, ok_xaug, ok_xaugs, ok_xret, ok_xretn, ok_xpass, ok_xif, ok_xwhl, ok_xfor, ok_gets, ok_opt, ok_opt0, ok_truB, ok_truI, ok_truS, ok_truN, ok_truT, ok_addI, ok_subI, ok_augI, ok_augJ, ok_lt, ok_le, ok_gt, ok_ge, ok_eqI, ok_neI, ok_eqS, ok_neS, g0i, g0b, g0s, g0t, g0o, g0n, endQ_nx, endQ_rt, part_out, part_int, kn_kn, kn_ki, kn_sl, kn_bin, nwl0, nwl1, nwl2, nwl3, nwl4, nwl5, nwl6, nwl7, nwl8, nwl9, nwl10, nwl11, nwl12, mkt0, mkt1, mkt2, mkt3, mkt4, mkt5, mkt6, mkt7, mkt8, ok_sliS, ok_sliT, gd_nil, asg_n, asg_t, asgs_nil, asgs_cons, ok_it_exT, ok_it_exS, ok_noEx, kd_find, kd_islower, kd_upper, kd_lower, kd_join, ok_find, ok_islower, ok_lenS, ok_lenT, ok_abs, ok_intI, ok_intB, ok_tupT, ok_lstT, ok_ixS, ok_ixT, ok_inS, ok_ninS, isi_str, isi_int, isi_bl, isi_non, isi_tup, ok_min, ok_max, kd_index, len4, List.set_cons_zero, List.set_cons_succ, true_and, and_true, Bool.not_true, Bool.not_false, Bool.false_eq_true, if_true, if_false, decide_eq_true_eq, decide_true, Option.map_some, h.r0, h.r1 k hk]
  have hf : ∀ p : Nat × Nat, p ∈ ps → pairF k (pairW p) = .bl (decide (p.1 ≤ k ∧ k ≤ p.2)) := fun p hpm => by
    obtain ⟨p1, p2⟩ := hp p hpm
    simp only [pairW, pairF, idx_sg _ p1, idx_sg _ p2]
  have hmap : (ps.map pairW).map (pairF k) = (ps.map fun p => decide (p.1 ≤ k ∧ k ≤ p.2)).map W.bl := by
    rw [List.map_map, List.map_map]
    exact List.map_congr_left fun p hpm => hf p hpm
  refine lc_map (pairF k) (fun _ => rfl) (by rw [List.length_map]; exact hl) (fun w hw S' => ?_) ?_
  · obtain ⟨p, hpm, rfl⟩ := List.mem_map.mp hw
    obtain ⟨p1, p2⟩ := hp p hpm
    refine ⟨[.tup (ps.map pairW), .str [sgN k], .int k, .str [sgN p.1], .str [sgN p.2]], by simp [pairW, wipeW], fun Q hq => ?_⟩
    rw [hf p hpm] at hq
    simp only [ok_ok, ok_bad, ok_exc, ok_pure, ok_mbad, u_kE, u_kbin, u_kcmp, u_kix, u_knotb, u_knot, u_kneg, u_kand, u_kor, u_kite, u_kcons2, u_kcons, u_ktup, u_klst, u_ksl5, u_ksl4, u_ksl3, u_ksl2, u_ksl1, u_kcall2, u_kcall, u_kbi, u_kbm3, u_kbm2, u_kbm1, u_kch3, u_kch2, u_kch1, u_klc3, u_klc2, u_klc1, u_kfld, u_kisi, u_kex, u_kset, u_kasg, u_ksub4, u_ksub3, u_ksub2, u_ksub1, u_kaug2, u_kaug1, u_kas5, u_kas4, u_kas3, u_kas2, u_kas1, u_kret, u_kif, u_kfor2, u_kfor1, kand_t, kand_f, kor_t, kor_f, kite_t, kite_f, kif_t, kif_f, ok_sl', ok_kn, ok_kb, ok_ki, ok_ks, ok_gl', ok_bin', ok_neg', ok_not', ok_cmp', ok_chain', ok_and1, ok_and2, ok_or1, ok_or2, ok_and', ok_or', ok_ite', ok_nil, ok_cons, ok_tup', ok_lst', ok_ix', ok_sli', ok_fld', ok_call', ok_isi', ok_dic', ok_bi', ok_bm', ok_lc', ok_xnil, thenS_nx, thenS_rt, ok_xcons, ok_xex, ok_xset, ok_xasg, ok_xsub, ok_xaug, ok_xaugs, ok_xret, ok_xretn, ok_xpass, ok_xif, ok_xwhl, ok_xfor, ok_gets, ok_opt, ok_opt0, ok_truB, ok_truI, ok_truS, ok_truN, ok_truT, ok_addI, ok_subI, ok_augI, ok_augJ, ok_lt, ok_le, ok_gt, ok_ge, ok_eqI, ok_neI, ok_eqS, ok_neS, g0i, g0b, g0s, g0t, g0o, g0n, endQ_nx, endQ_rt, part_out, part_int, kn_kn, kn_ki, kn_sl, kn_bin, nwl0, nwl1, nwl2, nwl3, nwl4, nwl5, nwl6, nwl7, nwl8, nwl9, nwl10, nwl11, nwl12, mkt0, mkt1, mkt2, mkt3, mkt4, mkt5, mkt6, mkt7, mkt8, ok_sliS, ok_sliT, gd_nil, asg_n, asg_t, asgs_nil, asgs_cons, ok_it_exT, ok_it_exS, ok_noEx, kd_find, kd_islower, kd_upper, kd_lower, kd_join, ok_find, ok_islower, ok_lenS, ok_lenT, ok_abs, ok_intI, ok_intB, ok_tupT, ok_lstT, ok_ixS, ok_ixT, ok_inS, ok_ninS, isi_str, isi_int, isi_bl, isi_non, isi_tup, ok_min, ok_max, kd_index, len4, List.set_cons_zero, List.set_cons_succ, true_and, and_true, Bool.not_true, Bool.not_false, Bool.false_eq_true, if_true, if_false, decide_eq_true_eq, decide_true, Option.map_some, h.r0, h.r1 _ p1, h.r1 _ p2]
    by_cases h1 : p.1 ≤ k
    · rw [decide_eq_true (show (p.1 : Int) ≤ (k : Int) by omega)]
      simp only [ok_ok, ok_bad, ok_exc, ok_pure, ok_mbad, u_kE, u_kbin, u_kcmp, u_kix, u_knotb, u_knot, u_kneg, u_kand, u_kor, u_kite, u_kcons2, u_kcons, u_ktup, u_klst, u_ksl5, u_ksl4, u_ksl3, u_ksl2, u_ksl1, u_kcall2, u_kcall, u_kbi, u_kbm3, u_kbm2, u_kbm1, u_kch3, u_kch2, u_kch1, u_klc3, u_klc2, u_klc1, u_kfld, u_kisi, u_kex, u_kset, u_kasg, u_ksub4, u_ksub3, u_ksub2, u_ksub1, u_kaug2, u_kaug1, u_kas5, u_kas4, u_kas3, u_kas2, u_kas1, u_kret, u_kif, u_kfor2, u_kfor1, kand_t, kand_f, kor_t, kor_f, kite_t, kite_f, kif_t, kif_f, ok_sl', ok_kn, ok_kb, ok_ki, ok_ks, ok_gl', ok_bin', ok_neg', ok_not', ok_cmp', ok_chain', ok_and1, ok_and2, ok_or1, ok_or2, ok_and', ok_or', ok_ite', ok_nil, ok_cons, ok_tup', ok_lst', ok_ix', ok_sli', ok_fld', ok_call', ok_isi', ok_dic', ok_bi', ok_bm', ok_lc', ok_xnil, thenS_nx, thenS_rt, ok_xcons, ok_xex, ok_xset, ok_xasg, ok_xsub, ok_xaug, ok_xaugs, ok_xret, ok_xretn, ok_xpass, ok_xif, ok_xwhl, ok_xfor, ok_gets, ok_opt, ok_opt0, ok_truB, ok_truI, ok_truS, ok_truN, ok_truT, ok_addI, ok_subI, ok_augI, ok_augJ, ok_lt, ok_le, ok_gt, ok_ge, ok_eqI, ok_neI, ok_eqS, ok_neS, g0i, g0b, g0s, g0t, g0o, g0n, endQ_nx, endQ_rt, part_out, part_int, kn_kn, kn_ki, kn_sl, kn_bin, nwl0, nwl1, nwl2, nwl3, nwl4, nwl5, nwl6, nwl7, nwl8, nwl9, nwl10, nwl11, nwl12, mkt0, mkt1, mkt2, mkt3, mkt4, mkt5, mkt6, mkt7, mkt8, ok_sliS, ok_sliT, gd_nil, asg_n, asg_t, asgs_nil, asgs_cons, ok_it_exT, ok_it_exS, ok_noEx, kd_find, kd_islower, kd_upper, kd_lower, kd_join, ok_find, ok_islower, ok_lenS, ok_lenT, ok_abs, ok_intI, ok_intB, ok_tupT, ok_lstT, ok_ixS, ok_ixT, ok_inS, ok_ninS, isi_str, isi_int, isi_bl, isi_non, isi_tup, ok_min, ok_max, kd_index, len4, List.set_cons_zero, List.set_cons_succ, true_and, and_true, Bool.not_true, Bool.not_false, Bool.false_eq_true, if_true, if_false, decide_eq_true_eq, decide_true, Option.map_some, h.r0, h.r1 _ p2]
      have e : decide ((k : Int) ≤ (p.2 : Int)) = decide (p.1 ≤ k ∧ k ≤ p.2) := decide_eq_decide.mpr (by omega)
      rw [e]; exact hq
    · rw [decide_eq_false (show ¬(p.1 : Int) ≤ (k : Int) by omega)]
      simp only [ok_ok, ok_bad, ok_exc, ok_pure, ok_mbad, u_kE, u_kbin, u_kcmp, u_kix, u_knotb, u_knot, u_kneg, u_kand, u_kor, u_kite, u_kcons2, u_kcons, u_ktup, u_klst, u_ksl5, u_ksl4, u_ksl3, u_ksl2, u_ksl1, u_kcall2, u_kcall, u_kbi, u_kbm3, u_kbm2, u_kbm1, u_kch3, u_kch2, u_kch1, u_klc3, u_klc2, u_klc1, u_kfld, u_kisi, u_kex, u_kset, u_kasg, u_ksub4, u_ksub3, u_ksub2, u_ksub1, u_kaug2, u_kaug1, u_kas5, u_kas4, u_kas3, u_kas2, u_kas1, u_kret, u_kif, u_kfor2, u_kfor1, kand_t, kand_f, kor_t, kor_f, kite_t, kite_f, kif_t, kif_f, ok_sl', ok_kn, ok_kb, ok_ki, ok_ks, ok_gl', ok_bin', ok_neg', ok_not', ok_cmp', ok_chain', ok_and1, ok_and2, ok_or1, ok_or2, ok_and', ok_or', ok_ite', ok_nil, ok_cons, ok_tup', ok_lst', ok_ix', ok_sli', ok_fld', ok_call', ok_isi', ok_dic', ok_bi', ok_bm', ok_lc', ok_xnil, thenS_nx, thenS_rt, ok_xcons, ok_xex, ok_xset, ok_xasg, ok_xsub, ok_xaug, ok_xaugs, ok_xret, ok_xretn, ok_xpass, ok_xif, ok_xwhl, ok_xfor, ok_gets, ok_opt, ok_opt0, ok_truB, ok_truI, ok_truS, ok_truN, ok_truT, ok_addI, ok_subI, ok_augI, ok_augJ, ok_lt, ok_le, ok_gt, ok_ge, ok_eqI, ok_neI, ok_eqS, ok_neS, g0i, g0b, g0s, g0t, g0o, g0n, endQ_nx, endQ_rt, part_out, part_int, kn_kn, kn_ki, kn_sl, kn_bin, nwl0, nwl1, nwl2, nwl3, nwl4, nwl5, nwl6, nwl7, nwl8, nwl9, nwl10, nwl11, nwl12, mkt0, mkt1, mkt2, mkt3, mkt4, mkt5, mkt6, mkt7, mkt8, ok_sliS, ok_sliT, gd_nil, asg_n, asg_t, asgs_nil, asgs_cons, ok_it_exT, ok_it_exS, ok_noEx, kd_find, kd_islower, kd_upper, kd_lower, kd_join, ok_find, ok_islower, ok_lenS, ok_lenT, ok_abs, ok_intI, ok_intB, ok_tupT, ok_lstT, ok_ixS, ok_ixT, ok_inS, ok_ninS, isi_str, isi_int, isi_bl, isi_non, isi_tup, ok_min, ok_max, kd_index, len4, List.set_cons_zero, List.set_cons_succ, true_and, and_true, Bool.not_true, Bool.not_false, Bool.false_eq_true, if_true, if_false, decide_eq_true_eq, decide_true, Option.map_some]
      rw [decide_eq_false (fun z => h1 z.1)] at hq
      exact hq
  · rw [hmap]
    simp only [ok_ok, ok_bad, ok_exc, ok_pure, ok_mbad, u_kE, u_kbin, u_kcmp, u_kix, u_knotb, u_knot, u_kneg, u_kand, u_kor, u_kite, u_kcons2, u_kcons, u_ktup, u_klst, u_ksl5, u_ksl4, u_ksl3, u_ksl2, u_ksl1, u_kcall2, u_kcall, u_kbi, u_kbm3, u_kbm2, u_kbm1, u_kch3, u_kch2, u_kch1, u_klc3, u_klc2, u_klc1, u_kfld, u_kisi, u_kex, u_kset, u_kasg, u_ksub4, u_ksub3, u_ksub2, u_ksub1, u_kaug2, u_kaug1, u_kas5, u_kas4, u_kas3, u_kas2, u_kas1, u_kret, u_kif, u_kfor2, u_kfor1, kand_t, kand_f, kor_t, kor_f, kite_t, kite_f, kif_t, kif_f, ok_sl', ok_kn, ok_kb, ok_ki, ok_ks, ok_gl', ok_bin', ok_neg', ok_not', ok_cmp', ok_chain', ok_and1, ok_and2, ok_or1, ok_or2, ok_and', ok_or', ok_ite', ok_nil, ok_cons, ok_tup', ok_lst', ok_ix', ok_sli', ok_fld', ok_call', ok_isi', ok_dic', ok_bi', ok_bm', ok_lc', ok_xnil, thenS_nx, thenS_rt, ok_xcons, ok_xex, ok_xset, ok_xasg, ok_xsub, ok_xaug, ok_xaugs, ok_xret, ok_xretn, ok_xpass, ok_xif, ok_xwhl, ok_xfor, ok_gets, ok_opt, ok_opt0, ok_truB, ok_truI, ok_truS, ok_truN, ok_truT, ok_addI, ok_subI, ok_augI, ok_augJ, ok_lt, ok_le, ok_gt, ok_ge, ok_eqI, ok_neI, ok_eqS, ok_neS, g0i, g0b, g0s, g0t, g0o, g0n, endQ_nx, endQ_rt, part_out, part_int, kn_kn, kn_ki, kn_sl, kn_bin, nwl0, nwl1, nwl2, nwl3, nwl4, nwl5, nwl6, nwl7, nwl8, nwl9, nwl10, nwl11, nwl12, mkt0, mkt1, mkt2, mkt3, mkt4, mkt5, mkt6, mkt7, mkt8, ok_sliS, ok_sliT, gd_nil, asg_n, asg_t, asgs_nil, asgs_cons, ok_it_exT, ok_it_exS, ok_noEx, kd_find, kd_islower, kd_upper, kd_lower, kd_join, ok_find, ok_islower, ok_lenS, ok_lenT, ok_abs, ok_intI, ok_intB, ok_tupT, ok_lstT, ok_ixS, ok_ixT, ok_inS, ok_ninS, isi_str, isi_int, isi_bl, isi_non, isi_tup, ok_min, ok_max, kd_index, len4, List.set_cons_zero, List.set_cons_succ, true_and, and_true, Bool.not_true, Bool.not_false, Bool.false_eq_true, if_true, if_false, decide_eq_true_eq, decide_true, Option.map_some]
    rw [ok_any all_new']
    simp only [ok_ok, ok_bad, ok_exc, ok_pure, ok_mbad, u_kE, u_kbin, u_kcmp, u_kix, u_knotb, u_knot, u_kneg, u_kand, u_kor, u_kite, u_kcons2, u_kcons, u_ktup, u_klst, u_ksl5, u_ksl4, u_ksl3, u_ksl2, u_ksl1, u_kcall2, u_kcall, u_kbi, u_kbm3, u_kbm2, u_kbm1, u_kch3, u_kch2, u_kch1, u_klc3, u_klc2, u_klc1, u_kfld, u_kisi, u_kex, u_kset, u_kasg, u_ksub4, u_ksub3, u_ksub2, u_ksub1, u_kaug2, u_kaug1, u_kas5, u_kas4, u_kas3, u_kas2, u_kas1, u_kret, u_kif, u_kfor2, u_kfor1, kand_t, kand_f, kor_t, kor_f, kite_t, kite_f, kif_t, kif_f, ok_sl', ok_kn, ok_kb, ok_ki, ok_ks, ok_gl', ok_bin', ok_neg', ok_not', ok_cmp', ok_chain', ok_and1, ok_and2, ok_or1, ok_or2, ok_and', ok_or', ok_ite', ok_nil, ok_cons, ok_tup', ok_lst', ok_ix', ok_sli', ok_fld', ok_call', ok_isi', ok_dic', ok_bi', ok_bm', ok_lc', ok_xnil, thenS_nx, thenS_rt, ok_xcons, ok_xex, ok_xset, ok_xasg, ok_xsub, ok_xaug, ok_xaugs, ok_xret, ok_xretn, ok_xpass, ok_xif, ok_xwhl, ok_xfor, ok_gets, ok_opt, ok_opt0, ok_truB, ok_truI, ok_truS, ok_truN, ok_truT, ok_addI, ok_subI, ok_augI, ok_augJ, ok_lt, ok_le, ok_gt, ok_ge, ok_eqI, ok_neI, ok_eqS, ok_neS, g0i, g0b, g0s, g0t, g0o, g0n, endQ_nx, endQ_rt, part_out, part_int, kn_kn, kn_ki, kn_sl, kn_bin, nwl0, nwl1, nwl2, nwl3, nwl4, nwl5, nwl6, nwl7, nwl8, nwl9, nwl10, nwl11, nwl12, mkt0, mkt1, mkt2, mkt3, mkt4, mkt5, mkt6, mkt7, mkt8, ok_sliS, ok_sliT, gd_nil, asg_n, asg_t, asgs_nil, asgs_cons, ok_it_exT, ok_it_exS, ok_noEx, kd_find, kd_islower, kd_upper, kd_lower, kd_join, ok_find, ok_islower, ok_lenS, ok_lenT, ok_abs, ok_intI, ok_intB, ok_tupT, ok_lstT, ok_ixS, ok_ixT, ok_inS, ok_ninS, isi_str, isi_int, isi_bl, isi_non, isi_tup, ok_min, ok_max, kd_index, len4, List.set_cons_zero, List.set_cons_succ, true_and, and_true, Bool.not_true, Bool.not_false, Bool.false_eq_true, if_true, if_false, decide_eq_true_eq, decide_true, Option.map_some]
    have e : (ps.map fun p => decide (p.1 ≤ k ∧ k ≤ p.2)).any id = covers ps k := by
      unfold covers
      rw [List.any_map]; rfl
    rw [e]
    exact q _
end
end At

set_option Elab.async false
set_option linter.all false
set_option maxRecDepth 100000
set_option maxHeartbeats 4000000
/-! AtWa: the laws' own looking at rows of signs. -/
namespace At
open PySem PySem.Spec PyProof.Rows L2

theorem idx_occ : ∀ k : Nat, k < 95 → (Builtin.Str.occurrences (toS gv_SIGNS) (toS [sgN k]) 0 (toS gv_SIGNS).length 1).head? = some k := by decide +kernel
section
variable {D : Wd} {Q : W → Sto → Prop} {S : Sto}
def OrdOk (D : Wd) : Prop := nm__law_order ∈ D.fns ∧ ∀ (Q : W → Sto → Prop) (S : Sto), Ok (D.cf nm__law_order [] [] [] S) Q = Q (.str gv_SIGNS) S
def LRankOk (D : Wd) : Prop := nm__law_rank ∈ D.fns ∧ ∀ (k : Nat), k < 95 → ∀ (Q : W → Sto → Prop) (S : Sto), Ok (D.cf nm__law_rank [.str [sgN k]] [] [] S) Q = Q (.int k) S
def TkOk (D : Wd) : Prop := nm__law_take ∈ D.fns ∧ ∀ (S : Sto) (n j : Nat) (cs : List Int) (m : Int) (Q : W → Sto → Prop), Bag S n j cs → 0 < m → m < 1073741824 → (∀ v S', 0 ≤ v → v < m → Same n S S' → Bag S' n j cs → Q (.int v) S') → Ok (D.cf nm__law_take [.ob n, .int m] [] [] S) Q
theorem sp_lawRank (ho : OrdOk D) {k : Nat} (hk : k < 95) : Ok (fnM D 1 ts__law_rank [.str [sgN k]] S) Q = Q (.int k) S := by
  rw [ok_fn (ρ := [.str [sgN k]]) rfl]
  unfold ts__law_rank
  obtain ⟨rest, e⟩ : ∃ rest, Builtin.Str.occurrences (toS gv_SIGNS) (toS [sgN k]) 0 (toS gv_SIGNS).length 1 = k :: rest := by
    have h := idx_occ k hk
    cases hl : Builtin.Str.occurrences (toS gv_SIGNS) (toS [sgN k]) 0 (toS gv_SIGNS).length 1 with
    | nil => rw [hl] at h; cases h
    | cons a r =>
      rw [hl] at h
      cases h
      exact ⟨r, rfl⟩
  simp only [ok_ok, ok_bad, ok_exc, ok_pure, ok_mbad, u_kE, u_kbin, u_kcmp, u_kix, u_knotb, u_knot, u_kneg, u_kand, u_kor, u_kite, u_kcons2, u_kcons, u_ktup, u_klst, u_ksl5, u_ksl4, u_ksl3, u_ksl2, u_ksl1, u_kcall2, u_kcall, u_kbi, u_kbm3, u_kbm2, u_kbm1, u_kch3, u_kch2, u_kch1, u_klc3, u_klc2, u_klc1, u_kfld, u_kisi, u_kex, u_kset, u_kasg, u_ksub4, u_ksub3, u_ksub2, u_ksub1, u_kaug2, u_kaug1, u_kas5, u_kas4, u_kas3, u_kas2, u_kas1, u_kret, u_kif, u_kfor2, u_kfor1, kand_t, kand_f, kor_t, kor_f, kite_t, kite_f, kif_t, kif_f, ok_sl', ok_kn, ok_kb, ok_ki, ok_ks, ok_gl', ok_bin', ok_neg', ok_not', ok_cmp', ok_chain', ok_and1, ok_and2, ok_or1, ok_or2, ok_and', ok_or', ok_ite', ok_nil, ok_cons, ok_tup', ok_lst', ok_ix', ok_sli', ok_fld', ok_call', ok_isi', ok_dic', ok_bi', ok_bm', ok_lc', ok_xnil, thenS_nx, thenS_rt, ok_xcons, ok_xex, ok_xset, ok_xasg, ok_xsub, ok_xaug, ok_xaugs, ok_xret, ok_xretn, ok_xpass, ok_xif, ok_xwhl, ok_xfor, ok_gets, ok_opt, ok_opt0, ok_truB, ok_truI, ok_truS, ok_truN, ok_truT, ok_addI, ok_subI, ok_augI, ok_augJ, ok_lt, ok_le, ok_gt, ok_ge, ok_eqI, ok_neI, ok_eqS, ok_neS, g0i, g0b, g0s, g0t, g0o, g0n, endQ_nx, endQ_rt, part_out, part_int, kn_kn, kn_ki, kn_sl, kn_bin, nwl0, nwl1, nwl2, nwl3, nwl4, nwl5, nwl6, nwl7, nwl8, nwl9, nwl10, nwl11, nwl12, mkt0, mkt1, mkt2, mkt3, mkt4, mkt5, mkt6, mkt7, mkt8, ok_sliS, ok_sliT, gd_nil, asg_n, asg_t, asgs_nil, asgs_cons, ok_it_exT, ok_it_exS, ok_noEx, kd_find, kd_islower, kd_upper, kd_lower, kd_join, ok_find, ok_islower, ok_lenS, ok_lenT, ok_abs, ok_intI, ok_intB, ok_tupT, ok_lstT, ok_ixS, ok_ixT, ok_inS, ok_ninS, isi_str, isi_int, isi_bl, isi_non, isi_tup, ok_min, ok_max, kd_index, len4, List.set_cons_zero, List.set_cons_succ, true_and, and_true, Bool.not_true, Bool.not_false, Bool.false_eq_true, if_true, if_false, decide_eq_true_eq, decide_true, Option.map_some, ho.1, ho.2, ok_index e]
/-! ### truths -/
def boundW (p : Nat × Nat) : W := .tup [.int p.1, .int p.2]
def pairI : W → W
  | .tup [.str [a], .str [b]] => .tup [.int (gv_SIGNS.idxOf a : Nat), .int (gv_SIGNS.idxOf b : Nat)]
  | w => w
theorem pairI_ok {p : Nat × Nat} (h1 : p.1 < 95) (h2 : p.2 < 95) : pairI (pairW p) = boundW p := by
  simp only [pairW, pairI, boundW, idx_sg _ h1, idx_sg _ h2]
/-- no list of ones is empty but the one of none -/
theorem ones_ne (c : Nat) : PyData.eqv (.list (List.replicate c (.int 1))) (.list []) = decide (c = 0) := by
  cases c with
  | zero => rfl
  | succ c => rw [List.replicate_succ, PyData.eqv, PyData.eqvAll]; simp
theorem ones_lay (c : Nat) : PyData.canLayAll0 (List.replicate c (.int 1)) = true := by
  induction c with
  | zero => rfl
  | succ c ih => rw [List.replicate_succ]; simp only [PyData.canLayAll0, PyData.canLay0, ih, Bool.and_self]
theorem ok_neOnes {a b c : Nat} (ha : LstAt S a (List.replicate c (.int 1))) (hb : LstAt S b []) : Ok (cmpM .ne (.ob a) (.ob b) S) Q = Q (.bl (!decide (c = 0))) S := by
  have r1 : rd S DEEP (.ob a) = some (.list (List.replicate c (.int 1))) := by
    have h := rd_lst_flat ha (by simp [flatW])
    rw [h, List.map_replicate]; rfl
  have r2 : rd S DEEP (.ob b) = some (.list []) := rd_lst_flat hb rfl
  have e : eqW S (.ob a) (.ob b) = some (decide (c = 0)) := by
    show (match rd S DEEP (.ob a), rd S DEEP (.ob b) with
      | some d, some e => if d.canLay0 && e.canLay0 then some (PyData.eqv d e) else none
      | _, _ => none) = _
    rw [r1, r2]
    have h1 : (PyData.list (List.replicate c (.int 1))).canLay0 = true := by simp only [PyData.canLay0, ones_lay]
    have h2 : (PyData.list []).canLay0 = true := rfl
    simp only [h1, h2, Bool.and_self, if_true, ones_ne]
  rw [ok_cmpM]
  show (match (eqW S (.ob a) (.ob b)).map (!·) with | some b => Q (.bl b) S | none => False) = _
  rw [e]; rfl
/-- the comprehension of ones: how many bounds hold the number -/
theorem ones_lc {ps : List (Nat × Nat)} {k a : Nat} {x0 x2 x4 x5 : W} (ha : LstAt S a (ps.map boundW)) (hl : ps.length ≤ LINE) {K : Unit → Sto → Prop}
    (q : K () (S ++ [.lst (List.replicate (ps.filter fun p => decide (p.1 ≤ k ∧ k ≤ p.2)).length (.int 1))])) :
    Ok (lcGo (.t [.n 4, .n 5]) (evAll D [.chain .le .le (.sl 4) (.sl 3) (.sl 5)]) (ev D (.ki 1)) [(a, ps.map boundW)] (wipeW [x0, .ob a, x2, .int k, x4, x5] [4, 5]) S.length (ps.map boundW) (S ++ [.lst []])) K := by
  refine lc_ok (fun i acc s => acc = List.replicate ((ps.take i).filter fun p => decide (p.1 ≤ k ∧ k ≤ p.2)).length (.int 1) ∧ s = S ++ [.lst acc]) (i := 0) (acc := []) ⟨rfl, rfl⟩ (fun i acc s hI => by rw [hI.2]; exact gd_of (lstAt_app ha _)) (fun j x acc s hx hI => ?_) (fun acc s hI => ?_)
  · obtain ⟨h1, h2⟩ := hI
    rw [List.getElem?_map, Option.map_eq_some_iff] at hx
    obtain ⟨p, hp, rfl⟩ := hx
    refine ⟨[x0, .ob a, x2, .int k, .int p.1, .int p.2], by simp [boundW, wipeW], ?_⟩
    have htk : ps.take (0 + j + 1) = ps.take j ++ [p] := by rw [Nat.zero_add, List.take_succ, hp]; rfl
    have hget : s[S.length]? = some (.lst acc) := by rw [h2]; simp
    have hlt : acc.length < LINE := by
      have hj := (List.getElem?_eq_some_iff.mp hp).1
      rw [h1, List.length_replicate]
      refine Nat.lt_of_le_of_lt (List.length_filter_le _ _) ?_
      rw [List.length_take]; omega
    simp only [evAll]
    by_cases c1 : p.1 ≤ k
    · by_cases c2 : k ≤ p.2
      · have e1 : decide ((p.1 : Int) ≤ (k : Int)) = true := decide_eq_true (by omega)
        have e2 : decide ((k : Int) ≤ (p.2 : Int)) = true := decide_eq_true (by omega)
        simp only [ok_ok, ok_bad, ok_exc, ok_pure, ok_mbad, u_kE, u_kbin, u_kcmp, u_kix, u_knotb, u_knot, u_kneg, u_kand, u_kor, u_kite, u_kcons2, u_kcons, u_ktup, u_klst, u_ksl5, u_ksl4, u_ksl3, u_ksl2, u_ksl1, u_kcall2, u_kcall, u_kbi, u_kbm3, u_kbm2, u_kbm1, u_kch3, u_kch2, u_kch1, u_klc3, u_klc2, u_klc1, u_kfld, u_kisi, u_kex, u_kset, u_kasg, u_ksub4, u_ksub3, u_ksub2, u_ksub1, u_kaug2, u_kaug1, u_kas5, u_kas4, u_kas3, u_kas2, u_kas1, u_kret, u_kif, u_kfor2, u_kfor1, kand_t, kand_f, kor_t, kor_f, kite_t, kite_f, kif_t, kif_f, ok_sl', ok_kn, ok_kb, ok_ki, ok_ks, ok_gl', ok_bin', ok_neg', ok_not', ok_cmp', ok_chain', ok_and1, ok_and2, ok_or1, ok_or2, ok_and', ok_or', ok_ite', ok_nil, ok_cons, ok_tup', ok_lst', ok_ix', ok_sli', ok_fld', ok_call', ok_isi', ok_dic', ok_bi', ok_bm', ok_lc', ok_xnil, thenS_nx, thenS_rt, ok_xcons, ok_xex, ok_xset, ok_xasg, ok_xsub, ok_xaug, ok_xaugs, ok_xret, ok_xretn, ok_xpass, ok_xif, ok_xwhl, ok_xfor, ok_gets, ok_opt, ok_opt0, ok_truB, ok_truI, ok_truS, ok_truN, ok_truT, ok_addI, ok_subI, ok_augI, ok_augJ, ok_lt, ok_le, ok_gt, ok_ge, ok_eqI, ok_neI, ok_eqS, ok_neS, g0i, g0b, g0s, g0t, g0o, g0n, endQ_nx, endQ_rt, part_out, part_int, kn_kn, kn_ki, kn_sl, kn_bin, nwl0, nwl1, nwl2, nwl3, nwl4, nwl5, nwl6, nwl7, nwl8, nwl9, nwl10, nwl11, nwl12, mkt0, mkt1, mkt2, mkt3, mkt4, mkt5, mkt6, mkt7, mkt8, ok_sliS, ok_sliT, gd_nil, asg_n, asg_t, asgs_nil, asgs_cons, ok_it_exT, ok_it_exS, ok_noEx, kd_find, kd_islower, kd_upper, kd_lower, kd_join, ok_find, ok_islower, ok_lenS, ok_lenT, ok_abs, ok_intI, ok_intB, ok_tupT, ok_lstT, ok_ixS, ok_ixT, ok_inS, ok_ninS, isi_str, isi_int, isi_bl, isi_non, isi_tup, ok_min, ok_max, kd_index, len4, List.set_cons_zero, List.set_cons_succ, true_and, and_true, Bool.not_true, Bool.not_false, Bool.false_eq_true, if_true, if_false, decide_eq_true_eq, decide_true, Option.map_some, e1, e2]
        refine ⟨acc, hget, hlt, ?_, by rw [h2]; simp⟩
        rw [htk, List.filter_append, h1, Nat.zero_add]
        have : ([p].filter fun p => decide (p.1 ≤ k ∧ k ≤ p.2)) = [p] := by simp [c1, c2]
        rw [this, List.length_append, List.length_singleton, ← List.replicate_append_replicate]; rfl
      · have e1 : decide ((p.1 : Int) ≤ (k : Int)) = true := decide_eq_true (by omega)
        have e2 : decide ((k : Int) ≤ (p.2 : Int)) = false := decide_eq_false (by omega)
        simp only [ok_ok, ok_bad, ok_exc, ok_pure, ok_mbad, u_kE, u_kbin, u_kcmp, u_kix, u_knotb, u_knot, u_kneg, u_kand, u_kor, u_kite, u_kcons2, u_kcons, u_ktup, u_klst, u_ksl5, u_ksl4, u_ksl3, u_ksl2, u_ksl1, u_kcall2, u_kcall, u_kbi, u_kbm3, u_kbm2, u_kbm1, u_kch3, u_kch2, u_kch1, u_klc3, u_klc2, u_klc1, u_kfld, u_kisi, u_kex, u_kset, u_kasg, u_ksub4, u_ksub3, u_ksub2, u_ksub1, u_kaug2, u_kaug1, u_kas5, u_kas4, u_kas3, u_kas2, u_kas1, u_kret, u_kif, u_kfor2, u_kfor1, kand_t, kand_f, kor_t, kor_f, kite_t, kite_f, kif_t, kif_f, ok_sl', ok_kn, ok_kb, ok_ki, ok_ks, ok_gl', ok_bin', ok_neg', ok_not', ok_cmp', ok_chain', ok_and1, ok_and2, ok_or1, ok_or2, ok_and', ok_or', ok_ite', ok_nil, ok_cons, ok_tup', ok_lst', ok_ix', ok_sli', ok_fld', ok_call', ok_isi', ok_dic', ok_bi', ok_bm', ok_lc', ok_xnil, thenS_nx, thenS_rt, ok_xcons, ok_xex, ok_xset, ok_xasg, ok_xsub, ok_xaug, ok_xaugs, ok_xret, ok_xretn, ok_xpass, ok_xif, ok_xwhl, ok_xfor, ok_gets, ok_opt, ok_opt0, ok_truB, ok_truI, ok_truS, ok_truN, ok_truT, ok_addI, ok_subI, ok_augI, ok_augJ, ok_lt, ok_le, ok_gt, ok_ge, ok_eqI, ok_neI, ok_eqS, ok_neS, g0i, g0b, g0s, g0t, g0o, g0n, endQ_nx, endQ_rt, part_out, part_int, kn_kn, kn_ki, kn_sl, kn_bin, nwl0, nwl1, nwl2, nwl3, nwl4, nwl5, nwl6, nwl7, nwl8, nwl9, nwl10, nwl11, nwl12, mkt0, mkt1, mkt2, mkt3, mkt4, mkt5, mkt6, mkt7, mkt8, ok_sliS, ok_sliT, gd_nil, asg_n, asg_t, asgs_nil, asgs_cons, ok_it_exT, ok_it_exS, ok_noEx, kd_find, kd_islower, kd_upper, kd_lower, kd_join, ok_find, ok_islower, ok_lenS, ok_lenT, ok_abs, ok_intI, ok_intB, ok_tupT, ok_lstT, ok_ixS, ok_ixT, ok_inS, ok_ninS, isi_str, isi_int, isi_bl, isi_non, isi_tup, ok_min, ok_max, kd_index, len4, List.set_cons_zero, List.set_cons_succ, true_and, and_true, Bool.not_true, Bool.not_false, Bool.false_eq_true, if_true, if_false, decide_eq_true_eq, decide_true, Option.map_some, e1, e2]
        refine ⟨?_, h2⟩
        rw [htk, List.filter_append, h1, Nat.zero_add]
        have : ([p].filter fun p => decide (p.1 ≤ k ∧ k ≤ p.2)) = [] := by simp [c2]
        rw [this, List.append_nil]
    · have e1 : decide ((p.1 : Int) ≤ (k : Int)) = false := decide_eq_false (by omega)
      simp only [ok_ok, ok_bad, ok_exc, ok_pure, ok_mbad, u_kE, u_kbin, u_kcmp, u_kix, u_knotb, u_knot, u_kneg, u_kand, u_kor, u_kite, u_kcons2, u_kcons, u_ktup, u_klst, u_ksl5, u_ksl4, u_ksl3, u_ksl2, u_ksl1, u_kcall2, u_kcall, u_kbi, u_kbm3, u_kbm2, u_kbm1, u_kch3, u_kch2, u_kch1, u_klc3, u_klc2, u_klc1, u_kfld, u_kisi, u_kex, u_kset, u_kasg, u_ksub4, u_ksub3, u_ksub2, u_ksub1, u_kaug2, u_kaug1, u_kas5, u_kas4, u_kas3, u_kas2, u_kas1, u_kret, u_kif, u_kfor2, u_kfor1, kand_t, kand_f, kor_t, kor_f, kite_t, kite_f, kif_t, kif_f, ok_sl', ok_kn, ok_kb, ok_ki, ok_ks, ok_gl', ok_bin', ok_neg', ok_not', ok_cmp', ok_chain', ok_and1, ok_and2, ok_or1, ok_or2, ok_and', ok_or', ok_ite', ok_nil, ok_cons, ok_tup', ok_lst', ok_ix', ok_sli', ok_fld', ok_call', ok_isi', ok_dic', ok_bi', ok_bm', ok_lc', ok_xnil, thenS_nx, thenS_rt, ok_xcons, ok_xex, ok_xset, ok_xasg, ok_xsub, ok_xaug, ok_xaugs, ok_xret, ok_xretn, ok_xpass, ok_xif, ok_xwhl, ok_xfor, ok_gets, ok_opt, ok_opt0, ok_truB, ok_truI, ok_truS, ok_truN, ok_truT, ok_addI, ok_subI, ok_augI, ok_augJ, ok_lt, ok_le, ok_gt, ok_ge, ok_eqI, ok_neI, ok_eqS, ok_neS, g0i, g0b, g0s, g0t, g0o, g0n, endQ_nx, endQ_rt, part_out, part_int, kn_kn, kn_ki, kn_sl, kn_bin, nwl0, nwl1, nwl2, nwl3, nwl4, nwl5, nwl6, nwl7, nwl8, nwl9, nwl10, nwl11, nwl12, mkt0, mkt1, mkt2, mkt3, mkt4, mkt5, mkt6, mkt7, mkt8, ok_sliS, ok_sliT, gd_nil, asg_n, asg_t, asgs_nil, asgs_cons, ok_it_exT, ok_it_exS, ok_noEx, kd_find, kd_islower, kd_upper, kd_lower, kd_join, ok_find, ok_islower, ok_lenS, ok_lenT, ok_abs, ok_intI, ok_intB, ok_tupT, ok_lstT, ok_ixS, ok_ixT, ok_inS, ok_ninS, isi_str, isi_int, isi_bl, isi_non, isi_tup, ok_min, ok_max, kd_index, len4, List.set_cons_zero, List.set_cons_succ, true_and, and_true, Bool.not_true, Bool.not_false, Bool.false_eq_true, if_true, if_false, decide_eq_true_eq, decide_true, Option.map_some, e1]
      refine ⟨?_, h2⟩
      rw [htk, List.filter_append, h1, Nat.zero_add]
      have : ([p].filter fun p => decide (p.1 ≤ k ∧ k ≤ p.2)) = [] := by simp [c1]
      rw [this, List.append_nil]
  · obtain ⟨h1, h2⟩ := hI
    rw [Nat.zero_add, List.length_map, List.take_length] at h1
    rw [h2, h1]; exact q
theorem filter_covers {ps : List (Nat × Nat)} {k : Nat} : (!decide ((ps.filter fun p => decide (p.1 ≤ k ∧ k ≤ p.2)).length = 0)) = covers ps k := by
  unfold covers
  induction ps with
  | nil => rfl
  | cons p r ih =>
    rw [List.any_cons, List.filter_cons]
    by_cases c : p.1 ≤ k ∧ k ≤ p.2
    · rw [if_pos (decide_eq_true c), decide_eq_true c]; simp
    · rw [if_neg (by simpa using c), decide_eq_false c, Bool.false_or]; exact ih
theorem truths_ok (hr : LRankOk D) {ps : List (Nat × Nat)} (hp : ROk ps) (hl : ps.length ≤ LINE) (q : ∀ T a, (S ++ T)[a]? = some (.lst ((tab (covers ps)).map W.bl)) → S.length ≤ a → Q (.ob a) (S ++ T)) : Ok (fnM D 6 ts__law_truths [rowsW ps] S) Q := by
  rw [ok_fn (ρ := [rowsW ps, .un, .un, .un, .un, .un]) rfl]
  unfold ts__law_truths rowsW
  simp only [ok_ok, ok_bad, ok_exc, ok_pure, ok_mbad, u_kE, u_kbin, u_kcmp, u_kix, u_knotb, u_knot, u_kneg, u_kand, u_kor, u_kite, u_kcons2, u_kcons, u_ktup, u_klst, u_ksl5, u_ksl4, u_ksl3, u_ksl2, u_ksl1, u_kcall2, u_kcall, u_kbi, u_kbm3, u_kbm2, u_kbm1, u_kch3, u_kch2, u_kch1, u_klc3, u_klc2, u_klc1, u_kfld, u_kisi, u_kex, u_kset, u_kasg, u_ksub4, u_ksub3, u_ksub2, u_ksub1, u_kaug2, u_kaug1, u_kas5, u_kas4, u_kas3, u_kas2, u_kas1, u_kret, u_kif, u_kfor2, u_kfor1, kand_t, kand_f, kor_t, kor_f, kite_t, kite_f, kif_t, kif_f, ok_sl', ok_kn, ok_kb, ok_ki, ok_ks, ok_gl', ok_bin', ok_neg', ok_not', ok_cmp', ok_chain', ok_and1, ok_and2, ok_or1, ok_or2, ok_and', ok_or', ok_ite', ok_nil, ok_cons, ok_tup', ok_lst', ok_ix', ok_sli', ok_fld', ok_call', ok_isi', ok_dic', ok_bi', ok_bm', ok_lc', ok_xnil, thenS_nx, thenS_rt, ok_xcons, ok_xex, ok_xset, ok_xasg, ok_xsub, ok_xaug, ok_xaugs, ok_xret, ok_xretn, ok_xpass, ok_xif, ok_xwhl, ok_xfor, ok_gets, ok_opt, ok_opt0, ok_truB, ok_truI, ok_truS, ok_truN, ok_truT, ok_addI, ok_subI, ok_augI, ok_augJ, ok_lt, ok_le, ok_gt, ok_ge, ok_eqI, ok_neI, ok_eqS, ok_neS, g0i, g0b, g0s, g0t, g0o, g0n, endQ_nx, endQ_rt, part_out, part_int, kn_kn, kn_ki, kn_sl, kn_bin, nwl0, nwl1, nwl2, nwl3, nwl4, nwl5, nwl6, nwl7, nwl8, nwl9, nwl10, nwl11, nwl12, mkt0, mkt1, mkt2, mkt3, mkt4, mkt5, mkt6, mkt7, mkt8, ok_sliS, ok_sliT, gd_nil, asg_n, asg_t, asgs_nil, asgs_cons, ok_it_exT, ok_it_exS, ok_noEx, kd_find, kd_islower, kd_upper, kd_lower, kd_join, ok_find, ok_islower, ok_lenS, ok_lenT, ok_abs, ok_intI, ok_intB, ok_tupT, ok_lstT, ok_ixS, ok_ixT, ok_inS, ok_ninS, isi_str, isi_int, isi_bl, isi_non, isi_tup, ok_min, ok_max, kd_index, len4, List.set_cons_zero, List.set_cons_succ, true_and, and_true, Bool.not_true, Bool.not_false, Bool.false_eq_true, if_true, if_false, decide_eq_true_eq, decide_true, Option.map_some]
  refine lc_map pairI (fun _ => rfl) (by rw [List.length_map]; exact hl) (fun w hw S' => ?_) ?_
  · obtain ⟨p, hpm, rfl⟩ := List.mem_map.mp hw
    obtain ⟨p1, p2⟩ := hp p hpm
    refine ⟨[.tup (ps.map pairW), .un, .un, .un, .str [sgN p.1], .str [sgN p.2]], by simp [pairW, wipeW], fun Q hq => ?_⟩
    rw [pairI_ok p1 p2] at hq
    simp only [ok_ok, ok_bad, ok_exc, ok_pure, ok_mbad, u_kE, u_kbin, u_kcmp, u_kix, u_knotb, u_knot, u_kneg, u_kand, u_kor, u_kite, u_kcons2, u_kcons, u_ktup, u_klst, u_ksl5, u_ksl4, u_ksl3, u_ksl2, u_ksl1, u_kcall2, u_kcall, u_kbi, u_kbm3, u_kbm2, u_kbm1, u_kch3, u_kch2, u_kch1, u_klc3, u_klc2, u_klc1, u_kfld, u_kisi, u_kex, u_kset, u_kasg, u_ksub4, u_ksub3, u_ksub2, u_ksub1, u_kaug2, u_kaug1, u_kas5, u_kas4, u_kas3, u_kas2, u_kas1, u_kret, u_kif, u_kfor2, u_kfor1, kand_t, kand_f, kor_t, kor_f, kite_t, kite_f, kif_t, kif_f, ok_sl', ok_kn, ok_kb, ok_ki, ok_ks, ok_gl', ok_bin', ok_neg', ok_not', ok_cmp', ok_chain', ok_and1, ok_and2, ok_or1, ok_or2, ok_and', ok_or', ok_ite', ok_nil, ok_cons, ok_tup', ok_lst', ok_ix', ok_sli', ok_fld', ok_call', ok_isi', ok_dic', ok_bi', ok_bm', ok_lc', ok_xnil, thenS_nx, thenS_rt, ok_xcons, ok_xex, ok_xset, ok_xasg, ok_xsub, ok_xaug, ok_xaugs, ok_xret, ok_xretn, ok_xpass, ok_xif, ok_xwhl, ok_xfor, ok_gets, ok_opt, ok_opt0, ok_truB, ok_truI, ok_truS, ok_truN, ok_truT, ok_addI, ok_subI, ok_augI, ok_augJ, ok_lt, ok_le, ok_gt, ok_ge, ok_eqI, ok_neI, ok_eqS, ok_neS, g0i, g0b, g0s, g0t, g0o, g0n, endQ_nx, endQ_rt, part_out, part_int, kn_kn, kn_ki, kn_sl, kn_bin, nwl0, nwl1, nwl2, nwl3, nwl4, nwl5, nwl6, nwl7, nwl8, nwl9, nwl10, nwl11, nwl12, mkt0, mkt1, mkt2, mkt3, mkt4, mkt5, mkt6, mkt7, mkt8, ok_sliS, ok_sliT, gd_nil, asg_n, asg_t, asgs_nil, asgs_cons, ok_it_exT, ok_it_exS, ok_noEx, kd_find, kd_islower, kd_upper, kd_lower, kd_join, ok_find, ok_islower, ok_lenS, ok_lenT, ok_abs, ok_intI, ok_intB, ok_tupT, ok_lstT, ok_ixS, ok_ixT, ok_inS, ok_ninS, isi_str, isi_int, isi_bl, isi_non, isi_tup, ok_min, ok_max, kd_index, len4, List.set_cons_zero, List.set_cons_succ, true_and, and_true, Bool.not_true, Bool.not_false, Bool.false_eq_true, if_true, if_false, decide_eq_true_eq, decide_true, Option.map_some, hr.1, hr.2 _ p1, hr.2 _ p2]
    exact hq
  have hmap : (ps.map pairW).map pairI = ps.map boundW := by
    rw [List.map_map]
    exact List.map_congr_left fun p hpm => pairI_ok (hp p hpm).1 (hp p hpm).2
  rw [hmap]
  simp only [ok_ok, ok_bad, ok_exc, ok_pure, ok_mbad, u_kE, u_kbin, u_kcmp, u_kix, u_knotb, u_knot, u_kneg, u_kand, u_kor, u_kite, u_kcons2, u_kcons, u_ktup, u_klst, u_ksl5, u_ksl4, u_ksl3, u_ksl2, u_ksl1, u_kcall2, u_kcall, u_kbi, u_kbm3, u_kbm2, u_kbm1, u_kch3, u_kch2, u_kch1, u_klc3, u_klc2, u_klc1, u_kfld, u_kisi, u_kex, u_kset, u_kasg, u_ksub4, u_ksub3, u_ksub2, u_ksub1, u_kaug2, u_kaug1, u_kas5, u_kas4, u_kas3, u_kas2, u_kas1, u_kret, u_kif, u_kfor2, u_kfor1, kand_t, kand_f, kor_t, kor_f, kite_t, kite_f, kif_t, kif_f, ok_sl', ok_kn, ok_kb, ok_ki, ok_ks, ok_gl', ok_bin', ok_neg', ok_not', ok_cmp', ok_chain', ok_and1, ok_and2, ok_or1, ok_or2, ok_and', ok_or', ok_ite', ok_nil, ok_cons, ok_tup', ok_lst', ok_ix', ok_sli', ok_fld', ok_call', ok_isi', ok_dic', ok_bi', ok_bm', ok_lc', ok_xnil, thenS_nx, thenS_rt, ok_xcons, ok_xex, ok_xset, ok_xasg, ok_xsub, ok_xaug, ok_xaugs, ok_xret, ok_xretn, ok_xpass, ok_xif, ok_xwhl, ok_xfor, ok_gets, ok_opt, ok_opt0, ok_truB, ok_truI, ok_truS, ok_truN, ok_truT, ok_addI, ok_subI, ok_augI, ok_augJ, ok_lt, ok_le, ok_gt, ok_ge, ok_eqI, ok_neI, ok_eqS, ok_neS, g0i, g0b, g0s, g0t, g0o, g0n, endQ_nx, endQ_rt, part_out, part_int, kn_kn, kn_ki, kn_sl, kn_bin, nwl0, nwl1, nwl2, nwl3, nwl4, nwl5, nwl6, nwl7, nwl8, nwl9, nwl10, nwl11, nwl12, mkt0, mkt1, mkt2, mkt3, mkt4, mkt5, mkt6, mkt7, mkt8, ok_sliS, ok_sliT, gd_nil, asg_n, asg_t, asgs_nil, asgs_cons, ok_it_exT, ok_it_exS, ok_noEx, kd_find, kd_islower, kd_upper, kd_lower, kd_join, ok_find, ok_islower, ok_lenS, ok_lenT, ok_abs, ok_intI, ok_intB, ok_tupT, ok_lstT, ok_ixS, ok_ixT, ok_inS, ok_ninS, isi_str, isi_int, isi_bl, isi_non, isi_tup, ok_min, ok_max, kd_index, len4, List.set_cons_zero, List.set_cons_succ, true_and, and_true, Bool.not_true, Bool.not_false, Bool.false_eq_true, if_true, if_false, decide_eq_true_eq, decide_true, Option.map_some]
  rw [ok_it_rng, if_pos (by decide)]
  simp only [ok_ok, ok_bad, ok_exc, ok_pure, ok_mbad, u_kE, u_kbin, u_kcmp, u_kix, u_knotb, u_knot, u_kneg, u_kand, u_kor, u_kite, u_kcons2, u_kcons, u_ktup, u_klst, u_ksl5, u_ksl4, u_ksl3, u_ksl2, u_ksl1, u_kcall2, u_kcall, u_kbi, u_kbm3, u_kbm2, u_kbm1, u_kch3, u_kch2, u_kch1, u_klc3, u_klc2, u_klc1, u_kfld, u_kisi, u_kex, u_kset, u_kasg, u_ksub4, u_ksub3, u_ksub2, u_ksub1, u_kaug2, u_kaug1, u_kas5, u_kas4, u_kas3, u_kas2, u_kas1, u_kret, u_kif, u_kfor2, u_kfor1, kand_t, kand_f, kor_t, kor_f, kite_t, kite_f, kif_t, kif_f, ok_sl', ok_kn, ok_kb, ok_ki, ok_ks, ok_gl', ok_bin', ok_neg', ok_not', ok_cmp', ok_chain', ok_and1, ok_and2, ok_or1, ok_or2, ok_and', ok_or', ok_ite', ok_nil, ok_cons, ok_tup', ok_lst', ok_ix', ok_sli', ok_fld', ok_call', ok_isi', ok_dic', ok_bi', ok_bm', ok_lc', ok_xnil, thenS_nx, thenS_rt, ok_xcons, ok_xex, ok_xset, ok_xasg, ok_xsub, ok_xaug, ok_xaugs, ok_xret, ok_xretn, ok_xpass, ok_xif, ok_xwhl, ok_xfor, ok_gets, ok_opt, ok_opt0, ok_truB, ok_truI, ok_truS, ok_truN, ok_truT, ok_addI, ok_subI, ok_augI, ok_augJ, ok_lt, ok_le, ok_gt, ok_ge, ok_eqI, ok_neI, ok_eqS, ok_neS, g0i, g0b, g0s, g0t, g0o, g0n, endQ_nx, endQ_rt, part_out, part_int, kn_kn, kn_ki, kn_sl, kn_bin, nwl0, nwl1, nwl2, nwl3, nwl4, nwl5, nwl6, nwl7, nwl8, nwl9, nwl10, nwl11, nwl12, mkt0, mkt1, mkt2, mkt3, mkt4, mkt5, mkt6, mkt7, mkt8, ok_sliS, ok_sliT, gd_nil, asg_n, asg_t, asgs_nil, asgs_cons, ok_it_exT, ok_it_exS, ok_noEx, kd_find, kd_islower, kd_upper, kd_lower, kd_join, ok_find, ok_islower, ok_lenS, ok_lenT, ok_abs, ok_intI, ok_intB, ok_tupT, ok_lstT, ok_ixS, ok_ixT, ok_inS, ok_ninS, isi_str, isi_int, isi_bl, isi_non, isi_tup, ok_min, ok_max, kd_index, len4, List.set_cons_zero, List.set_cons_succ, true_and, and_true, Bool.not_true, Bool.not_false, Bool.false_eq_true, if_true, if_false, decide_eq_true_eq, decide_true, Option.map_some]
  have hlen : (S ++ [O.lst (ps.map boundW)]).length = S.length + 1 := by simp
  refine for_ok (fun i ρ S' => (∃ x3 x4 x5, ρ = [.tup (ps.map pairW), .ob S.length, .ob (S.length + 1), x3, x4, x5]) ∧ ∃ T, S' = S ++ T ∧ T[0]? = some (.lst (ps.map boundW)) ∧ T[1]? = some (.lst (((List.range i).map (covers ps)).map W.bl))) (i := 0)
    ⟨⟨_, _, _, by rw [hlen]⟩, _, by rw [List.append_assoc], rfl, rfl⟩ (fun i x ρ S' hx hI => ?_) (fun ρ S' hI => ?_)
  · obtain ⟨⟨x3, x4, x5, rfl⟩, T, rfl, hT0, hT1⟩ := hI
    obtain ⟨rfl, hi⟩ := rng_get hx
    rw [Nat.zero_add] at hT1 ⊢
    refine ⟨gd_nil, _, (asg_n _ _ _).trans (if_pos (by simp)), ?_⟩
    simp only [List.set_cons_zero, List.set_cons_succ]
    have g0 : (S ++ T)[S.length]? = some (.lst (ps.map boundW)) := by rw [List.getElem?_append_right (Nat.le_refl _), Nat.sub_self]; exact hT0
    have g1 : ∀ U : Sto, (S ++ T ++ U)[S.length + 1]? = some (.lst (((List.range i).map (covers ps)).map W.bl)) := fun U => by
      rw [List.append_assoc, List.getElem?_append_right (by omega), Nat.add_sub_cancel_left, List.getElem?_append_left (List.getElem?_eq_some_iff.mp hT1).1]; exact hT1
    have g1' := g1 []
    rw [List.append_nil] at g1'
    rw [Int.zero_add]
    simp only [ok_ok, ok_bad, ok_exc, ok_pure, ok_mbad, u_kE, u_kbin, u_kcmp, u_kix, u_knotb, u_knot, u_kneg, u_kand, u_kor, u_kite, u_kcons2, u_kcons, u_ktup, u_klst, u_ksl5, u_ksl4, u_ksl3, u_ksl2, u_ksl1, u_kcall2, u_kcall, u_kbi, u_kbm3, u_kbm2, u_kbm1, u_kch3, u_kch2, u_kch1, u_klc3, u_klc2, u_klc1, u_kfld, u_kisi, u_kex, u_kset, u_kasg, u_ksub4, u_ksub3, u_ksub2, u_ksub1, u_kaug2, u_kaug1, u_kas5, u_kas4, u_kas3, u_kas2, u_kas1, u_kret, u_kif, u_kfor2, u_kfor1, kand_t, kand_f, kor_t, kor_f, kite_t, kite_f, kif_t, kif_f, ok_sl', ok_kn, ok_kb, ok_ki, ok_ks, ok_gl', ok_bin', ok_neg', ok_not', ok_cmp', ok_chain', ok_and1, ok_and2, ok_or1, ok_or2, ok_and', ok_or', ok_ite', ok_nil, ok_cons, ok_tup', ok_lst', ok_ix', ok_sli', ok_fld', ok_call', ok_isi', ok_dic', ok_bi', ok_bm', ok_lc', ok_xnil, thenS_nx, thenS_rt, ok_xcons, ok_xex, ok_xset, ok_xasg, ok_xsub, ok_xaug, ok_xaugs, ok_xret, ok_xretn, ok_xpass, ok_xif, ok_xwhl, ok_xfor, ok_gets, ok_opt, ok_opt0, ok_truB, ok_truI, ok_truS, ok_truN, ok_truT, ok_addI, ok_subI, ok_augI, ok_augJ, ok_lt, ok_le, ok_gt, ok_ge, ok_eqI, ok_neI, ok_eqS, ok_neS, g0i, g0b, g0s, g0t, g0o, g0n, endQ_nx, endQ_rt, part_out, part_int, kn_kn, kn_ki, kn_sl, kn_bin, nwl0, nwl1, nwl2, nwl3, nwl4, nwl5, nwl6, nwl7, nwl8, nwl9, nwl10, nwl11, nwl12, mkt0, mkt1, mkt2, mkt3, mkt4, mkt5, mkt6, mkt7, mkt8, ok_sliS, ok_sliT, gd_nil, asg_n, asg_t, asgs_nil, asgs_cons, ok_it_exT, ok_it_exS, ok_noEx, kd_find, kd_islower, kd_upper, kd_lower, kd_join, ok_find, ok_islower, ok_lenS, ok_lenT, ok_abs, ok_intI, ok_intB, ok_tupT, ok_lstT, ok_ixS, ok_ixT, ok_inS, ok_ninS, isi_str, isi_int, isi_bl, isi_non, isi_tup, ok_min, ok_max, kd_index, len4, List.set_cons_zero, List.set_cons_succ, true_and, and_true, Bool.not_true, Bool.not_false, Bool.false_eq_true, if_true, if_false, decide_eq_true_eq, decide_true, Option.map_some]
    rw [kd_append g1']
    simp only [ok_ok, ok_bad, ok_exc, ok_pure, ok_mbad, u_kE, u_kbin, u_kcmp, u_kix, u_knotb, u_knot, u_kneg, u_kand, u_kor, u_kite, u_kcons2, u_kcons, u_ktup, u_klst, u_ksl5, u_ksl4, u_ksl3, u_ksl2, u_ksl1, u_kcall2, u_kcall, u_kbi, u_kbm3, u_kbm2, u_kbm1, u_kch3, u_kch2, u_kch1, u_klc3, u_klc2, u_klc1, u_kfld, u_kisi, u_kex, u_kset, u_kasg, u_ksub4, u_ksub3, u_ksub2, u_ksub1, u_kaug2, u_kaug1, u_kas5, u_kas4, u_kas3, u_kas2, u_kas1, u_kret, u_kif, u_kfor2, u_kfor1, kand_t, kand_f, kor_t, kor_f, kite_t, kite_f, kif_t, kif_f, ok_sl', ok_kn, ok_kb, ok_ki, ok_ks, ok_gl', ok_bin', ok_neg', ok_not', ok_cmp', ok_chain', ok_and1, ok_and2, ok_or1, ok_or2, ok_and', ok_or', ok_ite', ok_nil, ok_cons, ok_tup', ok_lst', ok_ix', ok_sli', ok_fld', ok_call', ok_isi', ok_dic', ok_bi', ok_bm', ok_lc', ok_xnil, thenS_nx, thenS_rt, ok_xcons, ok_xex, ok_xset, ok_xasg, ok_xsub, ok_xaug, ok_xaugs, ok_xret, ok_xretn, ok_xpass, ok_xif, ok_xwhl, ok_xfor, ok_gets, ok_opt, ok_opt0, ok_truB, ok_truI, ok_truS, ok_truN, ok_truT, ok_addI, ok_subI, ok_augI, ok_augJ, ok_lt, ok_le, ok_gt, ok_ge, ok_eqI, ok_neI, ok_eqS, ok_neS, g0i, g0b, g0s, g0t, g0o, g0n, endQ_nx, endQ_rt, part_out, part_int, kn_kn, kn_ki, kn_sl, kn_bin, nwl0, nwl1, nwl2, nwl3, nwl4, nwl5, nwl6, nwl7, nwl8, nwl9, nwl10, nwl11, nwl12, mkt0, mkt1, mkt2, mkt3, mkt4, mkt5, mkt6, mkt7, mkt8, ok_sliS, ok_sliT, gd_nil, asg_n, asg_t, asgs_nil, asgs_cons, ok_it_exT, ok_it_exS, ok_noEx, kd_find, kd_islower, kd_upper, kd_lower, kd_join, ok_find, ok_islower, ok_lenS, ok_lenT, ok_abs, ok_intI, ok_intB, ok_tupT, ok_lstT, ok_ixS, ok_ixT, ok_inS, ok_ninS, isi_str, isi_int, isi_bl, isi_non, isi_tup, ok_min, ok_max, kd_index, len4, List.set_cons_zero, List.set_cons_succ, true_and, and_true, Bool.not_true, Bool.not_false, Bool.false_eq_true, if_true, if_false, decide_eq_true_eq, decide_true, Option.map_some]
    rw [ok_it_ex (.inl g0)]
    simp only [ok_ok, ok_bad, ok_exc, ok_pure, ok_mbad, u_kE, u_kbin, u_kcmp, u_kix, u_knotb, u_knot, u_kneg, u_kand, u_kor, u_kite, u_kcons2, u_kcons, u_ktup, u_klst, u_ksl5, u_ksl4, u_ksl3, u_ksl2, u_ksl1, u_kcall2, u_kcall, u_kbi, u_kbm3, u_kbm2, u_kbm1, u_kch3, u_kch2, u_kch1, u_klc3, u_klc2, u_klc1, u_kfld, u_kisi, u_kex, u_kset, u_kasg, u_ksub4, u_ksub3, u_ksub2, u_ksub1, u_kaug2, u_kaug1, u_kas5, u_kas4, u_kas3, u_kas2, u_kas1, u_kret, u_kif, u_kfor2, u_kfor1, kand_t, kand_f, kor_t, kor_f, kite_t, kite_f, kif_t, kif_f, ok_sl', ok_kn, ok_kb, ok_ki, ok_ks, ok_gl', ok_bin', ok_neg', ok_not', ok_cmp', ok_chain', ok_and1, ok_and2, ok_or1, ok_or2, ok_and', ok_or', ok_ite', ok_nil, ok_cons, ok_tup', ok_lst', ok_ix', ok_sli', ok_fld', ok_call', ok_isi', ok_dic', ok_bi', ok_bm', ok_lc', ok_xnil, thenS_nx, thenS_rt, ok_xcons, ok_xex, ok_xset, ok_xasg, ok_xsub, ok_xaug, ok_xaugs, ok_xret, ok_xretn, ok_xpass, ok_xif, ok_xwhl, ok_xfor, ok_gets, ok_opt, ok_opt0, ok_truB, ok_truI, ok_truS, ok_truN, ok_truT, ok_addI, ok_subI, ok_augI, ok_augJ, ok_lt, ok_le, ok_gt, ok_ge, ok_eqI, ok_neI, ok_eqS, ok_neS, g0i, g0b, g0s, g0t, g0o, g0n, endQ_nx, endQ_rt, part_out, part_int, kn_kn, kn_ki, kn_sl, kn_bin, nwl0, nwl1, nwl2, nwl3, nwl4, nwl5, nwl6, nwl7, nwl8, nwl9, nwl10, nwl11, nwl12, mkt0, mkt1, mkt2, mkt3, mkt4, mkt5, mkt6, mkt7, mkt8, ok_sliS, ok_sliT, gd_nil, asg_n, asg_t, asgs_nil, asgs_cons, ok_it_exT, ok_it_exS, ok_noEx, kd_find, kd_islower, kd_upper, kd_lower, kd_join, ok_find, ok_islower, ok_lenS, ok_lenT, ok_abs, ok_intI, ok_intB, ok_tupT, ok_lstT, ok_ixS, ok_ixT, ok_inS, ok_ninS, isi_str, isi_int, isi_bl, isi_non, isi_tup, ok_min, ok_max, kd_index, len4, List.set_cons_zero, List.set_cons_succ, true_and, and_true, Bool.not_true, Bool.not_false, Bool.false_eq_true, if_true, if_false, decide_eq_true_eq, decide_true, Option.map_some]
    refine ones_lc (.inl g0) hl ?_
    simp only [ok_ok, ok_bad, ok_exc, ok_pure, ok_mbad, u_kE, u_kbin, u_kcmp, u_kix, u_knotb, u_knot, u_kneg, u_kand, u_kor, u_kite, u_kcons2, u_kcons, u_ktup, u_klst, u_ksl5, u_ksl4, u_ksl3, u_ksl2, u_ksl1, u_kcall2, u_kcall, u_kbi, u_kbm3, u_kbm2, u_kbm1, u_kch3, u_kch2, u_kch1, u_klc3, u_klc2, u_klc1, u_kfld, u_kisi, u_kex, u_kset, u_kasg, u_ksub4, u_ksub3, u_ksub2, u_ksub1, u_kaug2, u_kaug1, u_kas5, u_kas4, u_kas3, u_kas2, u_kas1, u_kret, u_kif, u_kfor2, u_kfor1, kand_t, kand_f, kor_t, kor_f, kite_t, kite_f, kif_t, kif_f, ok_sl', ok_kn, ok_kb, ok_ki, ok_ks, ok_gl', ok_bin', ok_neg', ok_not', ok_cmp', ok_chain', ok_and1, ok_and2, ok_or1, ok_or2, ok_and', ok_or', ok_ite', ok_nil, ok_cons, ok_tup', ok_lst', ok_ix', ok_sli', ok_fld', ok_call', ok_isi', ok_dic', ok_bi', ok_bm', ok_lc', ok_xnil, thenS_nx, thenS_rt, ok_xcons, ok_xex, ok_xset, ok_xasg, ok_xsub, ok_xaug, ok_xaugs, ok_xret, ok_xretn, ok_xpass, ok_xif, ok_xwhl, ok_xfor, ok_gets, ok_opt, ok_opt0, ok_truB, ok_truI, ok_truS, ok_truN, ok_truT, ok_addI, ok_subI, ok_augI, ok_augJ, ok_lt, ok_le, ok_gt, ok_ge, ok_eqI, ok_neI, ok_eqS, ok_neS, g0i, g0b, g0s, g0t, g0o, g0n, endQ_nx, endQ_rt, part_out, part_int, kn_kn, kn_ki, kn_sl, kn_bin, nwl0, nwl1, nwl2, nwl3, nwl4, nwl5, nwl6, nwl7, nwl8, nwl9, nwl10, nwl11, nwl12, mkt0, mkt1, mkt2, mkt3, mkt4, mkt5, mkt6, mkt7, mkt8, ok_sliS, ok_sliT, gd_nil, asg_n, asg_t, asgs_nil, asgs_cons, ok_it_exT, ok_it_exS, ok_noEx, kd_find, kd_islower, kd_upper, kd_lower, kd_join, ok_find, ok_islower, ok_lenS, ok_lenT, ok_abs, ok_intI, ok_intB, ok_tupT, ok_lstT, ok_ixS, ok_ixT, ok_inS, ok_ninS, isi_str, isi_int, isi_bl, isi_non, isi_tup, ok_min, ok_max, kd_index, len4, List.set_cons_zero, List.set_cons_succ, true_and, and_true, Bool.not_true, Bool.not_false, Bool.false_eq_true, if_true, if_false, decide_eq_true_eq, decide_true, Option.map_some]
    rw [ok_neOnes (lstAt_app all_new' _) all_new', filter_covers]
    simp only [ok_ok, ok_bad, ok_exc, ok_pure, ok_mbad, u_kE, u_kbin, u_kcmp, u_kix, u_knotb, u_knot, u_kneg, u_kand, u_kor, u_kite, u_kcons2, u_kcons, u_ktup, u_klst, u_ksl5, u_ksl4, u_ksl3, u_ksl2, u_ksl1, u_kcall2, u_kcall, u_kbi, u_kbm3, u_kbm2, u_kbm1, u_kch3, u_kch2, u_kch1, u_klc3, u_klc2, u_klc1, u_kfld, u_kisi, u_kex, u_kset, u_kasg, u_ksub4, u_ksub3, u_ksub2, u_ksub1, u_kaug2, u_kaug1, u_kas5, u_kas4, u_kas3, u_kas2, u_kas1, u_kret, u_kif, u_kfor2, u_kfor1, kand_t, kand_f, kor_t, kor_f, kite_t, kite_f, kif_t, kif_f, ok_sl', ok_kn, ok_kb, ok_ki, ok_ks, ok_gl', ok_bin', ok_neg', ok_not', ok_cmp', ok_chain', ok_and1, ok_and2, ok_or1, ok_or2, ok_and', ok_or', ok_ite', ok_nil, ok_cons, ok_tup', ok_lst', ok_ix', ok_sli', ok_fld', ok_call', ok_isi', ok_dic', ok_bi', ok_bm', ok_lc', ok_xnil, thenS_nx, thenS_rt, ok_xcons, ok_xex, ok_xset, ok_xasg, ok_xsub, ok_xaug, ok_xaugs, ok_xret, ok_xretn, ok_xpass, ok_xif, ok_xwhl, ok_xfor, ok_gets, ok_opt, ok_opt0, ok_truB, ok_truI, ok_truS, ok_truN, ok_truT, ok_addI, ok_subI, ok_augI, ok_augJ, ok_lt, ok_le, ok_gt, ok_ge, ok_eqI, ok_neI, ok_eqS, ok_neS, g0i, g0b, g0s, g0t, g0o, g0n, endQ_nx, endQ_rt, part_out, part_int, kn_kn, kn_ki, kn_sl, kn_bin, nwl0, nwl1, nwl2, nwl3, nwl4, nwl5, nwl6, nwl7, nwl8, nwl9, nwl10, nwl11, nwl12, mkt0, mkt1, mkt2, mkt3, mkt4, mkt5, mkt6, mkt7, mkt8, ok_sliS, ok_sliT, gd_nil, asg_n, asg_t, asgs_nil, asgs_cons, ok_it_exT, ok_it_exS, ok_noEx, kd_find, kd_islower, kd_upper, kd_lower, kd_join, ok_find, ok_islower, ok_lenS, ok_lenT, ok_abs, ok_intI, ok_intB, ok_tupT, ok_lstT, ok_ixS, ok_ixT, ok_inS, ok_ninS, isi_str, isi_int, isi_bl, isi_non, isi_tup, ok_min, ok_max, kd_index, len4, List.set_cons_zero, List.set_cons_succ, true_and, and_true, Bool.not_true, Bool.not_false, Bool.false_eq_true, if_true, if_false, decide_eq_true_eq, decide_true, Option.map_some]
    rw [List.append_assoc (S ++ T), ok_append (g1 _), if_pos (by rw [List.length_map, List.length_map, List.length_range]; exact Nat.lt_trans (show i < 95 by omega) (by decide))]
    simp only [ok_ok, ok_bad, ok_exc, ok_pure, ok_mbad, u_kE, u_kbin, u_kcmp, u_kix, u_knotb, u_knot, u_kneg, u_kand, u_kor, u_kite, u_kcons2, u_kcons, u_ktup, u_klst, u_ksl5, u_ksl4, u_ksl3, u_ksl2, u_ksl1, u_kcall2, u_kcall, u_kbi, u_kbm3, u_kbm2, u_kbm1, u_kch3, u_kch2, u_kch1, u_klc3, u_klc2, u_klc1, u_kfld, u_kisi, u_kex, u_kset, u_kasg, u_ksub4, u_ksub3, u_ksub2, u_ksub1, u_kaug2, u_kaug1, u_kas5, u_kas4, u_kas3, u_kas2, u_kas1, u_kret, u_kif, u_kfor2, u_kfor1, kand_t, kand_f, kor_t, kor_f, kite_t, kite_f, kif_t, kif_f, ok_sl', ok_kn, ok_kb, ok_ki, ok_ks, ok_gl', ok_bin', ok_neg', ok_not', ok_cmp', ok_chain', ok_and1, ok_and2, ok_or1, ok_or2, ok_and', ok_or', ok_ite', ok_nil, ok_cons, ok_tup', ok_lst', ok_ix', ok_sli', ok_fld', ok_call', ok_isi', ok_dic', ok_bi', ok_bm', ok_lc', ok_xnil, thenS_nx, thenS_rt, ok_xcons, ok_xex, ok_xset, ok_xasg, ok_xsub, ok_xaug, ok_xaugs, ok_xret, ok_xretn, ok_xpass, ok_xif, ok_xwhl, ok_xfor, ok_gets, ok_opt, ok_opt0, ok_truB, ok_truI, ok_truS, ok_truN, ok_truT, ok_addI, ok_subI, ok_augI, ok_augJ, ok_lt, ok_le, ok_gt, ok_ge, ok_eqI, ok_neI, ok_eqS, ok_neS, g0i, g0b, g0s, g0t, g0o, g0n, endQ_nx, endQ_rt, part_out, part_int, kn_kn, kn_ki, kn_sl, kn_bin, nwl0, nwl1, nwl2, nwl3, nwl4, nwl5, nwl6, nwl7, nwl8, nwl9, nwl10, nwl11, nwl12, mkt0, mkt1, mkt2, mkt3, mkt4, mkt5, mkt6, mkt7, mkt8, ok_sliS, ok_sliT, gd_nil, asg_n, asg_t, asgs_nil, asgs_cons, ok_it_exT, ok_it_exS, ok_noEx, kd_find, kd_islower, kd_upper, kd_lower, kd_join, ok_find, ok_islower, ok_lenS, ok_lenT, ok_abs, ok_intI, ok_intB, ok_tupT, ok_lstT, ok_ixS, ok_ixT, ok_inS, ok_ninS, isi_str, isi_int, isi_bl, isi_non, isi_tup, ok_min, ok_max, kd_index, len4, List.set_cons_zero, List.set_cons_succ, true_and, and_true, Bool.not_true, Bool.not_false, Bool.false_eq_true, if_true, if_false, decide_eq_true_eq, decide_true, Option.map_some]
    refine ⟨⟨_, _, _, rfl⟩, (T ++ ([O.lst (List.replicate (ps.filter fun p => decide (p.1 ≤ i ∧ i ≤ p.2)).length (.int 1))] ++ [O.lst []])).set 1 (.lst (((List.range (i + 1)).map (covers ps)).map W.bl)), ?_, ?_, ?_⟩
    · rw [List.append_assoc S, List.set_append_right _ _ (by omega), Nat.add_sub_cancel_left, List.range_succ, List.map_append, List.map_append]; rfl
    · rw [List.getElem?_set_ne (by decide), List.getElem?_append_left (List.getElem?_eq_some_iff.mp hT0).1]; exact hT0
    · rw [List.getElem?_set_self (by have := (List.getElem?_eq_some_iff.mp hT1).1; rw [List.length_append]; omega)]
  · obtain ⟨⟨x3, x4, x5, rfl⟩, T, rfl, hT0, hT1⟩ := hI
    refine ⟨gd_nil, ?_⟩
    rw [rng_len, Nat.zero_add] at hT1
    simp only [ok_ok, ok_bad, ok_exc, ok_pure, ok_mbad, u_kE, u_kbin, u_kcmp, u_kix, u_knotb, u_knot, u_kneg, u_kand, u_kor, u_kite, u_kcons2, u_kcons, u_ktup, u_klst, u_ksl5, u_ksl4, u_ksl3, u_ksl2, u_ksl1, u_kcall2, u_kcall, u_kbi, u_kbm3, u_kbm2, u_kbm1, u_kch3, u_kch2, u_kch1, u_klc3, u_klc2, u_klc1, u_kfld, u_kisi, u_kex, u_kset, u_kasg, u_ksub4, u_ksub3, u_ksub2, u_ksub1, u_kaug2, u_kaug1, u_kas5, u_kas4, u_kas3, u_kas2, u_kas1, u_kret, u_kif, u_kfor2, u_kfor1, kand_t, kand_f, kor_t, kor_f, kite_t, kite_f, kif_t, kif_f, ok_sl', ok_kn, ok_kb, ok_ki, ok_ks, ok_gl', ok_bin', ok_neg', ok_not', ok_cmp', ok_chain', ok_and1, ok_and2, ok_or1, ok_or2, ok_and', ok_or', ok_ite', ok_nil, ok_cons, ok_tup', ok_lst', ok_ix', ok_sli', ok_fld', ok_call', ok_isi', ok_dic', ok_bi', ok_bm', ok_lc', ok_xnil, thenS_nx, thenS_rt, ok_xcons, ok_xex, ok_xset, ok_xasg, ok_xsub, ok_xaug, ok_xaugs, ok_xret, ok_xretn, ok_xpass, ok_xif, ok_xwhl, ok_xfor, ok_gets, ok_opt, ok_opt0, ok_truB, ok_truI, ok_truS, ok_truN, ok_truT, ok_addI, ok_subI, ok_augI, ok_augJ, ok_lt, ok_le, ok_gt, ok_ge, ok_eqI, ok_neI, ok_eqS, ok_neS, g0i, g0b, g0s, g0t, g0o, g0n, endQ_nx, endQ_rt, part_out, part_int, kn_kn, kn_ki, kn_sl, kn_bin, nwl0, nwl1, nwl2, nwl3, nwl4, nwl5, nwl6, nwl7, nwl8, nwl9, nwl10, nwl11, nwl12, mkt0, mkt1, mkt2, mkt3, mkt4, mkt5, mkt6, mkt7, mkt8, ok_sliS, ok_sliT, gd_nil, asg_n, asg_t, asgs_nil, asgs_cons, ok_it_exT, ok_it_exS, ok_noEx, kd_find, kd_islower, kd_upper, kd_lower, kd_join, ok_find, ok_islower, ok_lenS, ok_lenT, ok_abs, ok_intI, ok_intB, ok_tupT, ok_lstT, ok_ixS, ok_ixT, ok_inS, ok_ninS, isi_str, isi_int, isi_bl, isi_non, isi_tup, ok_min, ok_max, kd_index, len4, List.set_cons_zero, List.set_cons_succ, true_and, and_true, Bool.not_true, Bool.not_false, Bool.false_eq_true, if_true, if_false, decide_eq_true_eq, decide_true, Option.map_some]
    refine q T _ ?_ (by omega)
    rw [List.getElem?_append_right (by omega), Nat.add_sub_cancel_left]; exact hT1
/-! ### settled by the law -/
def lowP (f : Nat → Bool) (k : Nat) : Bool := f k && !(decide (0 < k) && f (k - 1))
def highP (f : Nat → Bool) (n k : Nat) : Bool := f k && !(decide (k + 1 < n) && f (k + 1))
theorem fnd_fst {f : Nat → Bool} : ∀ n : Nat, (fnd f n).map (·.1) = (List.range n).filter (lowP f)
  | 0 => rfl
  | n + 1 => by
    have ih := fnd_fst (f := f) n
    rw [List.range_succ, List.filter_append]
    by_cases hk : f n = true
    · by_cases h1 : (decide (0 < n) && f (n - 1)) = true
      · have h1' := h1
        simp only [Bool.and_eq_true, decide_eq_true_eq] at h1'
        obtain ⟨qs, a, e, ha, e2⟩ := fnd_on hk h1'.1 h1'.2
        have hl : lowP f n = false := by unfold lowP; rw [h1, hk]; rfl
        rw [e2, ← ih, e]
        simp [hl]
      · have h2 : (decide (0 < n) && f (n - 1)) = false := by simpa using h1
        have hl : lowP f n = true := by unfold lowP; rw [h2, hk]; rfl
        rw [fnd_new hk h2, List.map_append, ih]
        simp [hl]
    · have hk' : f n = false := by simpa using hk
      have hl : lowP f n = false := by unfold lowP; rw [hk']; rfl
      rw [fnd_no hk', ih]
      simp [hl]
theorem filter_same {p q : Nat → Bool} {n : Nat} (h : ∀ k, k < n → p k = q k) : (List.range n).filter p = (List.range n).filter q := List.filter_congr fun k hk => h k (List.mem_range.mp hk)
theorem fnd_snd {f : Nat → Bool} : ∀ n : Nat, (fnd f n).map (·.2) = (List.range n).filter (highP f n)
  | 0 => rfl
  | n + 1 => by
    have ih := fnd_snd (f := f) n
    rw [List.range_succ, List.filter_append]
    have hn : highP f (n + 1) n = f n := by unfold highP; rw [decide_eq_false (by omega)]; simp
    by_cases hk : f n = true
    · by_cases h1 : (decide (0 < n) && f (n - 1)) = true
      · have h1' := h1
        simp only [Bool.and_eq_true, decide_eq_true_eq] at h1'
        obtain ⟨qs, a, e, ha, e2⟩ := fnd_on hk h1'.1 h1'.2
        obtain ⟨m, rfl⟩ : ∃ m, n = m + 1 := ⟨n - 1, by omega⟩
        have hm : f m = true := h1'.2
        rw [e, List.range_succ, List.filter_append, List.map_append] at ih
        have hq1 : highP f (m + 1) m = true := by unfold highP; rw [decide_eq_false (by omega), hm]; rfl
        have hq2 : highP f (m + 1 + 1) m = false := by unfold highP; rw [decide_eq_true (by omega), hk, hm]; rfl
        have e3 : (List.range m).filter (highP f (m + 1)) = (List.range m).filter (highP f (m + 1 + 1)) := filter_same fun k hk => by
          unfold highP
          rw [decide_eq_true (show k + 1 < m + 1 by omega), decide_eq_true (show k + 1 < m + 1 + 1 by omega)]
        have e4 : qs.map (·.2) = (List.range m).filter (highP f (m + 1)) := by
          have h5 : ([m].filter (highP f (m + 1))) = [m] := by simp [hq1]
          rw [h5] at ih
          exact (List.append_inj' ih rfl).1
        rw [e2, List.range_succ, List.filter_append, List.map_append, e4, e3]
        simp [hq2, hn, hk]
      · have h2 : (decide (0 < n) && f (n - 1)) = false := by simpa using h1
        rw [fnd_new hk h2, List.map_append, ih]
        have e3 : (List.range n).filter (highP f n) = (List.range n).filter (highP f (n + 1)) := filter_same fun k hkn => by
          unfold highP
          by_cases hl : k + 1 < n
          · rw [decide_eq_true hl, decide_eq_true (show k + 1 < n + 1 by omega)]
          · have : k = n - 1 := by omega
            have h0 : decide (0 < n) = true := decide_eq_true (by omega)
            rw [h0, Bool.true_and, ← this] at h2
            rw [h2]; rfl
        rw [e3]
        simp [hn, hk]
    · have hk' : f n = false := by simpa using hk
      rw [fnd_no hk', ih]
      have e3 : (List.range n).filter (highP f n) = (List.range n).filter (highP f (n + 1)) := filter_same fun k hkn => by
        unfold highP
        by_cases hl : k + 1 < n
        · rw [decide_eq_true hl, decide_eq_true (show k + 1 < n + 1 by omega)]
        · have : k + 1 = n := by omega
          rw [decide_eq_false hl, Bool.false_and, this, hk', Bool.and_false]
      rw [e3]
      simp [hn, hk']
theorem zip_fnd (f : Nat → Bool) (n : Nat) : ((List.range n).filter (lowP f)).zip ((List.range n).filter (highP f n)) = fnd f n := by
  rw [← fnd_fst, ← fnd_snd]
  induction fnd f n with
  | nil => rfl
  | cons p r ih => simp only [List.map_cons, List.zip_cons_cons, ih]
def intsW (l : List Nat) : List W := l.map fun (k : Nat) => W.int (k : Int)
/-- numbers of a table's signs that have a property -/
theorem pick_lc {P : Nat → Bool} {c : E} {x0 x1 x2 x3 x5 x6 : W} (hc : ∀ (k : Nat), k < 95 → ∀ (K : W → Sto → Prop) (s : Sto) (T : Sto), s = S ++ T → K (.bl (P k)) s → Ok (ev D c [x0, x1, x2, x3, .int k, x5, x6] s) K) {K : Unit → Sto → Prop}
    (q : K () (S ++ [.lst (intsW ((List.range 95).filter P))])) : Ok (lcGo (.n 4) (evAll D [c]) (ev D (.sl 4)) [] [x0, x1, x2, x3, .un, x5, x6] S.length (rngL 0 (95 : Int).toNat 1) (S ++ [.lst []])) K := by
  refine lc_ok (fun i acc s => acc = intsW ((List.range i).filter P) ∧ s = S ++ [.lst acc]) (i := 0) (acc := []) ⟨rfl, rfl⟩ (fun _ _ _ _ => rfl) (fun j x acc s hx hI => ?_) (fun acc s hI => ?_)
  · obtain ⟨h1, h2⟩ := hI
    obtain ⟨rfl, hj⟩ := rng_get hx
    have hj : j < 95 := hj
    rw [Int.zero_add]
    refine ⟨[x0, x1, x2, x3, .int j, x5, x6], by simp, ?_⟩
    simp only [evAll]
    refine hc j hj _ _ _ h2 ?_
    have hget : s[S.length]? = some (.lst acc) := by rw [h2]; simp
    rw [Nat.zero_add] at h1 ⊢
    rw [List.range_succ, List.filter_append]
    cases hP : P j with
    | true =>
      simp only [ok_ok, ok_bad, ok_exc, ok_pure, ok_mbad, u_kE, u_kbin, u_kcmp, u_kix, u_knotb, u_knot, u_kneg, u_kand, u_kor, u_kite, u_kcons2, u_kcons, u_ktup, u_klst, u_ksl5, u_ksl4, u_ksl3, u_ksl2, u_ksl1, u_kcall2, u_kcall, u_kbi, u_kbm3, u_kbm2, u_kbm1, u_kch3, u_kch2, u_kch1, u_klc3, u_klc2, u_klc1, u_kfld, u_kisi, u_kex, u_kset, u_kasg, u_ksub4, u_ksub3, u_ksub2, u_ksub1, u_kaug2, u_kaug1, u_kas5, u_kas4, u_kas3, u_kas2, u_kas1, u_kret, u_kif, u_kfor2, u_kfor1, kand_t, kand_f, kor_t, kor_f, kite_t, kite_f, kif_t, kif_f, ok_sl', ok_kn, ok_kb, ok_ki, ok_ks, ok_gl', ok_bin', ok_neg', ok_not', ok_cmp', ok_chain', ok_and1, ok_and2, ok_or1, ok_or2, ok_and', ok_or', ok_ite', ok_nil, ok_cons, ok_tup', ok_lst', ok_ix', ok_sli', ok_fld', ok_call', ok_isi', ok_dic', ok_bi', ok_bm', ok_lc', ok_xnil, thenS_nx, thenS_rt, ok_xcons, ok_xex, ok_xset, ok_xasg, ok_xsub, ok_xaug, ok_xaugs, ok_xret, ok_xretn, ok_xpass, ok_xif, ok_xwhl, ok_xfor, ok_gets, ok_opt, ok_opt0, ok_truB, ok_truI, ok_truS, ok_truN, ok_truT, ok_addI, ok_subI, ok_augI, ok_augJ, ok_lt, ok_le, ok_gt, ok_ge, ok_eqI, ok_neI, ok_eqS, ok_neS, g0i, g0b, g0s, g0t, g0o, g0n, endQ_nx, endQ_rt, part_out, part_int, kn_kn, kn_ki, kn_sl, kn_bin, nwl0, nwl1, nwl2, nwl3, nwl4, nwl5, nwl6, nwl7, nwl8, nwl9, nwl10, nwl11, nwl12, mkt0, mkt1, mkt2, mkt3, mkt4, mkt5, mkt6, mkt7, mkt8, ok_sliS, ok_sliT, gd_nil, asg_n, asg_t, asgs_nil, asgs_cons, ok_it_exT, ok_it_exS, ok_noEx, kd_find, kd_islower, kd_upper, kd_lower, kd_join, ok_find, ok_islower, ok_lenS, ok_lenT, ok_abs, ok_intI, ok_intB, ok_tupT, ok_lstT, ok_ixS, ok_ixT, ok_inS, ok_ninS, isi_str, isi_int, isi_bl, isi_non, isi_tup, ok_min, ok_max, kd_index, len4, List.set_cons_zero, List.set_cons_succ, true_and, and_true, Bool.not_true, Bool.not_false, Bool.false_eq_true, if_true, if_false, decide_eq_true_eq, decide_true, Option.map_some]
      refine ⟨acc, hget, ?_, ?_, by rw [h2]; simp⟩
      · rw [h1]
        unfold intsW
        rw [List.length_map]
        refine Nat.lt_of_le_of_lt (List.length_filter_le _ _) ?_
        rw [List.length_range, LINE]; omega
      · rw [h1]; simp [intsW, hP]
    | false =>
      simp only [ok_ok, ok_bad, ok_exc, ok_pure, ok_mbad, u_kE, u_kbin, u_kcmp, u_kix, u_knotb, u_knot, u_kneg, u_kand, u_kor, u_kite, u_kcons2, u_kcons, u_ktup, u_klst, u_ksl5, u_ksl4, u_ksl3, u_ksl2, u_ksl1, u_kcall2, u_kcall, u_kbi, u_kbm3, u_kbm2, u_kbm1, u_kch3, u_kch2, u_kch1, u_klc3, u_klc2, u_klc1, u_kfld, u_kisi, u_kex, u_kset, u_kasg, u_ksub4, u_ksub3, u_ksub2, u_ksub1, u_kaug2, u_kaug1, u_kas5, u_kas4, u_kas3, u_kas2, u_kas1, u_kret, u_kif, u_kfor2, u_kfor1, kand_t, kand_f, kor_t, kor_f, kite_t, kite_f, kif_t, kif_f, ok_sl', ok_kn, ok_kb, ok_ki, ok_ks, ok_gl', ok_bin', ok_neg', ok_not', ok_cmp', ok_chain', ok_and1, ok_and2, ok_or1, ok_or2, ok_and', ok_or', ok_ite', ok_nil, ok_cons, ok_tup', ok_lst', ok_ix', ok_sli', ok_fld', ok_call', ok_isi', ok_dic', ok_bi', ok_bm', ok_lc', ok_xnil, thenS_nx, thenS_rt, ok_xcons, ok_xex, ok_xset, ok_xasg, ok_xsub, ok_xaug, ok_xaugs, ok_xret, ok_xretn, ok_xpass, ok_xif, ok_xwhl, ok_xfor, ok_gets, ok_opt, ok_opt0, ok_truB, ok_truI, ok_truS, ok_truN, ok_truT, ok_addI, ok_subI, ok_augI, ok_augJ, ok_lt, ok_le, ok_gt, ok_ge, ok_eqI, ok_neI, ok_eqS, ok_neS, g0i, g0b, g0s, g0t, g0o, g0n, endQ_nx, endQ_rt, part_out, part_int, kn_kn, kn_ki, kn_sl, kn_bin, nwl0, nwl1, nwl2, nwl3, nwl4, nwl5, nwl6, nwl7, nwl8, nwl9, nwl10, nwl11, nwl12, mkt0, mkt1, mkt2, mkt3, mkt4, mkt5, mkt6, mkt7, mkt8, ok_sliS, ok_sliT, gd_nil, asg_n, asg_t, asgs_nil, asgs_cons, ok_it_exT, ok_it_exS, ok_noEx, kd_find, kd_islower, kd_upper, kd_lower, kd_join, ok_find, ok_islower, ok_lenS, ok_lenT, ok_abs, ok_intI, ok_intB, ok_tupT, ok_lstT, ok_ixS, ok_ixT, ok_inS, ok_ninS, isi_str, isi_int, isi_bl, isi_non, isi_tup, ok_min, ok_max, kd_index, len4, List.set_cons_zero, List.set_cons_succ, true_and, and_true, Bool.not_true, Bool.not_false, Bool.false_eq_true, if_true, if_false, decide_eq_true_eq, decide_true, Option.map_some]
      exact ⟨by rw [h1]; simp [intsW, hP], h2⟩
  · obtain ⟨h1, h2⟩ := hI
    rw [Nat.zero_add, rng_len] at h1
    have h1 : acc = intsW ((List.range 95).filter P) := h1
    rw [h2, h1]; exact q
def pairS : W → W
  | .tup [.int a, .int b] => .tup [.str [sgN a.toNat], .str [sgN b.toNat]]
  | w => w
theorem ok_it_zp {a b : Nat} {xs ys : List W} {Q : Wlk → Sto → Prop} (h : LstAt S a xs) (g : LstAt S b ys) : Ok (itM .zp [.ob a, .ob b] S) Q = Q ⟨(xs.zip ys).map fun p => W.tup [p.1, p.2], [(a, xs), (b, ys)]⟩ S := by
  show Ok ((itemsOf a >>= fun xs => itemsOf b >>= fun ys => (pure ⟨(xs.zip ys).map fun p => W.tup [p.1, p.2], [(a, xs), (b, ys)]⟩ : M Wlk)) S) Q = _
  rw [ok_mbind, ok_items h, ok_mbind, ok_items g, ok_pure]
theorem sg_at {k : Nat} (h : k < 95) : atI gv_SIGNS (k : Int) = some (sgN k) := by
  have hl : k < gv_SIGNS.length := by
    have : gv_SIGNS.length = 95 := by decide
    omega
  have e := List.getElem?_eq_getElem hl
  unfold sgN
  rw [List.getD_eq_getElem?_getD, e]
  exact atI_n e
theorem lawSettled_ok (ho : OrdOk D) {f : Nat → Bool} {a : Nat} (ha : S[a]? = some (.lst ((tab f).map W.bl))) (q : ∀ T, Q (rowsW (rowsUp f)) (S ++ T)) : Ok (fnM D 7 ts__law_settled [.ob a] S) Q := by
  have hal := (List.getElem?_eq_some_iff.mp ha).1
  rw [ok_fn (ρ := [.ob a, .un, .un, .un, .un, .un, .un]) rfl]
  unfold ts__law_settled
  have hA : ∀ T : Sto, (S ++ T)[a]? = some (.lst ((tab f).map W.bl)) := fun T => by rw [List.getElem?_append_left hal]; exact ha
  have hat : ∀ k : Nat, k < 95 → atI ((tab f).map W.bl) (k : Int) = some (.bl (f k)) := fun k hk => atI_n (by rw [List.getElem?_map, tab_get hk]; rfl)
  simp only [ok_ok, ok_bad, ok_exc, ok_pure, ok_mbad, u_kE, u_kbin, u_kcmp, u_kix, u_knotb, u_knot, u_kneg, u_kand, u_kor, u_kite, u_kcons2, u_kcons, u_ktup, u_klst, u_ksl5, u_ksl4, u_ksl3, u_ksl2, u_ksl1, u_kcall2, u_kcall, u_kbi, u_kbm3, u_kbm2, u_kbm1, u_kch3, u_kch2, u_kch1, u_klc3, u_klc2, u_klc1, u_kfld, u_kisi, u_kex, u_kset, u_kasg, u_ksub4, u_ksub3, u_ksub2, u_ksub1, u_kaug2, u_kaug1, u_kas5, u_kas4, u_kas3, u_kas2, u_kas1, u_kret, u_kif, u_kfor2, u_kfor1, kand_t, kand_f, kor_t, kor_f, kite_t, kite_f, kif_t, kif_f, ok_sl', ok_kn, ok_kb, ok_ki, ok_ks, ok_gl', ok_bin', ok_neg', ok_not', ok_cmp', ok_chain', ok_and1, ok_and2, ok_or1, ok_or2, ok_and', ok_or', ok_ite', ok_nil, ok_cons, ok_tup', ok_lst', ok_ix', ok_sli', ok_fld', ok_call', ok_isi', ok_dic', ok_bi', ok_bm', ok_lc', ok_xnil, thenS_nx, thenS_rt, ok_xcons, ok_xex, ok_xset, ok_xasg, ok_xsub, ok_xaug, ok_xaugs, ok_xret, ok_xretn, ok_xpass, ok_xif, ok_xwhl, ok_xfor, ok_gets, ok_opt, ok_opt0, ok_truB, ok_truI, ok_truS, ok_truN, ok_truT, ok_addI, ok_subI, ok_augI, ok_augJ, ok_lt, ok_le, ok_gt, ok_ge, ok_eqI, ok_neI, ok_eqS, ok_neS, g0i, g0b, g0s, g0t, g0o, g0n, endQ_nx, endQ_rt, part_out, part_int, kn_kn, kn_ki, kn_sl, kn_bin, nwl0, nwl1, nwl2, nwl3, nwl4, nwl5, nwl6, nwl7, nwl8, nwl9, nwl10, nwl11, nwl12, mkt0, mkt1, mkt2, mkt3, mkt4, mkt5, mkt6, mkt7, mkt8, ok_sliS, ok_sliT, gd_nil, asg_n, asg_t, asgs_nil, asgs_cons, ok_it_exT, ok_it_exS, ok_noEx, kd_find, kd_islower, kd_upper, kd_lower, kd_join, ok_find, ok_islower, ok_lenS, ok_lenT, ok_abs, ok_intI, ok_intB, ok_tupT, ok_lstT, ok_ixS, ok_ixT, ok_inS, ok_ninS, isi_str, isi_int, isi_bl, isi_non, isi_tup, ok_min, ok_max, kd_index, len4, List.set_cons_zero, List.set_cons_succ, true_and, and_true, Bool.not_true, Bool.not_false, Bool.false_eq_true, if_true, if_false, decide_eq_true_eq, decide_true, Option.map_some, ho.1, ho.2]
  rw [ok_it_rng, if_pos (by decide)]
  simp only [ok_ok, ok_bad, ok_exc, ok_pure, ok_mbad, u_kE, u_kbin, u_kcmp, u_kix, u_knotb, u_knot, u_kneg, u_kand, u_kor, u_kite, u_kcons2, u_kcons, u_ktup, u_klst, u_ksl5, u_ksl4, u_ksl3, u_ksl2, u_ksl1, u_kcall2, u_kcall, u_kbi, u_kbm3, u_kbm2, u_kbm1, u_kch3, u_kch2, u_kch1, u_klc3, u_klc2, u_klc1, u_kfld, u_kisi, u_kex, u_kset, u_kasg, u_ksub4, u_ksub3, u_ksub2, u_ksub1, u_kaug2, u_kaug1, u_kas5, u_kas4, u_kas3, u_kas2, u_kas1, u_kret, u_kif, u_kfor2, u_kfor1, kand_t, kand_f, kor_t, kor_f, kite_t, kite_f, kif_t, kif_f, ok_sl', ok_kn, ok_kb, ok_ki, ok_ks, ok_gl', ok_bin', ok_neg', ok_not', ok_cmp', ok_chain', ok_and1, ok_and2, ok_or1, ok_or2, ok_and', ok_or', ok_ite', ok_nil, ok_cons, ok_tup', ok_lst', ok_ix', ok_sli', ok_fld', ok_call', ok_isi', ok_dic', ok_bi', ok_bm', ok_lc', ok_xnil, thenS_nx, thenS_rt, ok_xcons, ok_xex, ok_xset, ok_xasg, ok_xsub, ok_xaug, ok_xaugs, ok_xret, ok_xretn, ok_xpass, ok_xif, ok_xwhl, ok_xfor, ok_gets, ok_opt, ok_opt0, ok_truB, ok_truI, ok_truS, ok_truN, ok_truT, ok_addI, ok_subI, ok_augI, ok_augJ, ok_lt, ok_le, ok_gt, ok_ge, ok_eqI, ok_neI, ok_eqS, ok_neS, g0i, g0b, g0s, g0t, g0o, g0n, endQ_nx, endQ_rt, part_out, part_int, kn_kn, kn_ki, kn_sl, kn_bin, nwl0, nwl1, nwl2, nwl3, nwl4, nwl5, nwl6, nwl7, nwl8, nwl9, nwl10, nwl11, nwl12, mkt0, mkt1, mkt2, mkt3, mkt4, mkt5, mkt6, mkt7, mkt8, ok_sliS, ok_sliT, gd_nil, asg_n, asg_t, asgs_nil, asgs_cons, ok_it_exT, ok_it_exS, ok_noEx, kd_find, kd_islower, kd_upper, kd_lower, kd_join, ok_find, ok_islower, ok_lenS, ok_lenT, ok_abs, ok_intI, ok_intB, ok_tupT, ok_lstT, ok_ixS, ok_ixT, ok_inS, ok_ninS, isi_str, isi_int, isi_bl, isi_non, isi_tup, ok_min, ok_max, kd_index, len4, List.set_cons_zero, List.set_cons_succ, true_and, and_true, Bool.not_true, Bool.not_false, Bool.false_eq_true, if_true, if_false, decide_eq_true_eq, decide_true, Option.map_some, wipeW]
  refine pick_lc (P := lowP f) (fun k hk K s T hs hK => ?_) ?_
  · subst hs
    unfold lowP at hK
    cases hf : f k with
    | false =>
      rw [hf] at hK
      simp only [ok_ok, ok_bad, ok_exc, ok_pure, ok_mbad, u_kE, u_kbin, u_kcmp, u_kix, u_knotb, u_knot, u_kneg, u_kand, u_kor, u_kite, u_kcons2, u_kcons, u_ktup, u_klst, u_ksl5, u_ksl4, u_ksl3, u_ksl2, u_ksl1, u_kcall2, u_kcall, u_kbi, u_kbm3, u_kbm2, u_kbm1, u_kch3, u_kch2, u_kch1, u_klc3, u_klc2, u_klc1, u_kfld, u_kisi, u_kex, u_kset, u_kasg, u_ksub4, u_ksub3, u_ksub2, u_ksub1, u_kaug2, u_kaug1, u_kas5, u_kas4, u_kas3, u_kas2, u_kas1, u_kret, u_kif, u_kfor2, u_kfor1, kand_t, kand_f, kor_t, kor_f, kite_t, kite_f, kif_t, kif_f, ok_sl', ok_kn, ok_kb, ok_ki, ok_ks, ok_gl', ok_bin', ok_neg', ok_not', ok_cmp', ok_chain', ok_and1, ok_and2, ok_or1, ok_or2, ok_and', ok_or', ok_ite', ok_nil, ok_cons, ok_tup', ok_lst', ok_ix', ok_sli', ok_fld', ok_call', ok_isi', ok_dic', ok_bi', ok_bm', ok_lc', ok_xnil, thenS_nx, thenS_rt, ok_xcons, ok_xex, ok_xset, ok_xasg, ok_xsub, ok_xaug, ok_xaugs, ok_xret, ok_xretn, ok_xpass, ok_xif, ok_xwhl, ok_xfor, ok_gets, ok_opt, ok_opt0, ok_truB, ok_truI, ok_truS, ok_truN, ok_truT, ok_addI, ok_subI, ok_augI, ok_augJ, ok_lt, ok_le, ok_gt, ok_ge, ok_eqI, ok_neI, ok_eqS, ok_neS, g0i, g0b, g0s, g0t, g0o, g0n, endQ_nx, endQ_rt, part_out, part_int, kn_kn, kn_ki, kn_sl, kn_bin, nwl0, nwl1, nwl2, nwl3, nwl4, nwl5, nwl6, nwl7, nwl8, nwl9, nwl10, nwl11, nwl12, mkt0, mkt1, mkt2, mkt3, mkt4, mkt5, mkt6, mkt7, mkt8, ok_sliS, ok_sliT, gd_nil, asg_n, asg_t, asgs_nil, asgs_cons, ok_it_exT, ok_it_exS, ok_noEx, kd_find, kd_islower, kd_upper, kd_lower, kd_join, ok_find, ok_islower, ok_lenS, ok_lenT, ok_abs, ok_intI, ok_intB, ok_tupT, ok_lstT, ok_ixS, ok_ixT, ok_inS, ok_ninS, isi_str, isi_int, isi_bl, isi_non, isi_tup, ok_min, ok_max, kd_index, len4, List.set_cons_zero, List.set_cons_succ, true_and, and_true, Bool.not_true, Bool.not_false, Bool.false_eq_true, if_true, if_false, decide_eq_true_eq, decide_true, Option.map_some, ok_ixM, hA, hat k hk, hf]
      exact hK
    | true =>
      rw [hf] at hK
      simp only [ok_ok, ok_bad, ok_exc, ok_pure, ok_mbad, u_kE, u_kbin, u_kcmp, u_kix, u_knotb, u_knot, u_kneg, u_kand, u_kor, u_kite, u_kcons2, u_kcons, u_ktup, u_klst, u_ksl5, u_ksl4, u_ksl3, u_ksl2, u_ksl1, u_kcall2, u_kcall, u_kbi, u_kbm3, u_kbm2, u_kbm1, u_kch3, u_kch2, u_kch1, u_klc3, u_klc2, u_klc1, u_kfld, u_kisi, u_kex, u_kset, u_kasg, u_ksub4, u_ksub3, u_ksub2, u_ksub1, u_kaug2, u_kaug1, u_kas5, u_kas4, u_kas3, u_kas2, u_kas1, u_kret, u_kif, u_kfor2, u_kfor1, kand_t, kand_f, kor_t, kor_f, kite_t, kite_f, kif_t, kif_f, ok_sl', ok_kn, ok_kb, ok_ki, ok_ks, ok_gl', ok_bin', ok_neg', ok_not', ok_cmp', ok_chain', ok_and1, ok_and2, ok_or1, ok_or2, ok_and', ok_or', ok_ite', ok_nil, ok_cons, ok_tup', ok_lst', ok_ix', ok_sli', ok_fld', ok_call', ok_isi', ok_dic', ok_bi', ok_bm', ok_lc', ok_xnil, thenS_nx, thenS_rt, ok_xcons, ok_xex, ok_xset, ok_xasg, ok_xsub, ok_xaug, ok_xaugs, ok_xret, ok_xretn, ok_xpass, ok_xif, ok_xwhl, ok_xfor, ok_gets, ok_opt, ok_opt0, ok_truB, ok_truI, ok_truS, ok_truN, ok_truT, ok_addI, ok_subI, ok_augI, ok_augJ, ok_lt, ok_le, ok_gt, ok_ge, ok_eqI, ok_neI, ok_eqS, ok_neS, g0i, g0b, g0s, g0t, g0o, g0n, endQ_nx, endQ_rt, part_out, part_int, kn_kn, kn_ki, kn_sl, kn_bin, nwl0, nwl1, nwl2, nwl3, nwl4, nwl5, nwl6, nwl7, nwl8, nwl9, nwl10, nwl11, nwl12, mkt0, mkt1, mkt2, mkt3, mkt4, mkt5, mkt6, mkt7, mkt8, ok_sliS, ok_sliT, gd_nil, asg_n, asg_t, asgs_nil, asgs_cons, ok_it_exT, ok_it_exS, ok_noEx, kd_find, kd_islower, kd_upper, kd_lower, kd_join, ok_find, ok_islower, ok_lenS, ok_lenT, ok_abs, ok_intI, ok_intB, ok_tupT, ok_lstT, ok_ixS, ok_ixT, ok_inS, ok_ninS, isi_str, isi_int, isi_bl, isi_non, isi_tup, ok_min, ok_max, kd_index, len4, List.set_cons_zero, List.set_cons_succ, true_and, and_true, Bool.not_true, Bool.not_false, Bool.false_eq_true, if_true, if_false, decide_eq_true_eq, decide_true, Option.map_some, ok_ixM, hA, hat k hk, hf]
      by_cases h0 : 0 < k
      · have e1 : decide ((0 : Int) < (k : Int)) = true := decide_eq_true (by omega)
        have hat' : atI ((tab f).map W.bl) ((k : Int) - 1) = some (.bl (f (k - 1))) := by rw [show (k : Int) - 1 = ((k - 1 : Nat) : Int) by omega]; exact hat (k - 1) (by omega)
        simp only [ok_ok, ok_bad, ok_exc, ok_pure, ok_mbad, u_kE, u_kbin, u_kcmp, u_kix, u_knotb, u_knot, u_kneg, u_kand, u_kor, u_kite, u_kcons2, u_kcons, u_ktup, u_klst, u_ksl5, u_ksl4, u_ksl3, u_ksl2, u_ksl1, u_kcall2, u_kcall, u_kbi, u_kbm3, u_kbm2, u_kbm1, u_kch3, u_kch2, u_kch1, u_klc3, u_klc2, u_klc1, u_kfld, u_kisi, u_kex, u_kset, u_kasg, u_ksub4, u_ksub3, u_ksub2, u_ksub1, u_kaug2, u_kaug1, u_kas5, u_kas4, u_kas3, u_kas2, u_kas1, u_kret, u_kif, u_kfor2, u_kfor1, kand_t, kand_f, kor_t, kor_f, kite_t, kite_f, kif_t, kif_f, ok_sl', ok_kn, ok_kb, ok_ki, ok_ks, ok_gl', ok_bin', ok_neg', ok_not', ok_cmp', ok_chain', ok_and1, ok_and2, ok_or1, ok_or2, ok_and', ok_or', ok_ite', ok_nil, ok_cons, ok_tup', ok_lst', ok_ix', ok_sli', ok_fld', ok_call', ok_isi', ok_dic', ok_bi', ok_bm', ok_lc', ok_xnil, thenS_nx, thenS_rt, ok_xcons, ok_xex, ok_xset, ok_xasg, ok_xsub, ok_xaug, ok_xaugs, ok_xret, ok_xretn, ok_xpass, ok_xif, ok_xwhl, ok_xfor, ok_gets, ok_opt, ok_opt0, ok_truB, ok_truI, ok_truS, ok_truN, ok_truT, ok_addI, ok_subI, ok_augI, ok_augJ, ok_lt, ok_le, ok_gt, ok_ge, ok_eqI, ok_neI, ok_eqS, ok_neS, g0i, g0b, g0s, g0t, g0o, g0n, endQ_nx, endQ_rt, part_out, part_int, kn_kn, kn_ki, kn_sl, kn_bin, nwl0, nwl1, nwl2, nwl3, nwl4, nwl5, nwl6, nwl7, nwl8, nwl9, nwl10, nwl11, nwl12, mkt0, mkt1, mkt2, mkt3, mkt4, mkt5, mkt6, mkt7, mkt8, ok_sliS, ok_sliT, gd_nil, asg_n, asg_t, asgs_nil, asgs_cons, ok_it_exT, ok_it_exS, ok_noEx, kd_find, kd_islower, kd_upper, kd_lower, kd_join, ok_find, ok_islower, ok_lenS, ok_lenT, ok_abs, ok_intI, ok_intB, ok_tupT, ok_lstT, ok_ixS, ok_ixT, ok_inS, ok_ninS, isi_str, isi_int, isi_bl, isi_non, isi_tup, ok_min, ok_max, kd_index, len4, List.set_cons_zero, List.set_cons_succ, true_and, and_true, Bool.not_true, Bool.not_false, Bool.false_eq_true, if_true, if_false, decide_eq_true_eq, decide_true, Option.map_some, e1, ok_ixM, hA, hat']
        rw [decide_eq_true h0] at hK
        exact hK
      · have e1 : decide ((0 : Int) < (k : Int)) = false := decide_eq_false (by omega)
        simp only [ok_ok, ok_bad, ok_exc, ok_pure, ok_mbad, u_kE, u_kbin, u_kcmp, u_kix, u_knotb, u_knot, u_kneg, u_kand, u_kor, u_kite, u_kcons2, u_kcons, u_ktup, u_klst, u_ksl5, u_ksl4, u_ksl3, u_ksl2, u_ksl1, u_kcall2, u_kcall, u_kbi, u_kbm3, u_kbm2, u_kbm1, u_kch3, u_kch2, u_kch1, u_klc3, u_klc2, u_klc1, u_kfld, u_kisi, u_kex, u_kset, u_kasg, u_ksub4, u_ksub3, u_ksub2, u_ksub1, u_kaug2, u_kaug1, u_kas5, u_kas4, u_kas3, u_kas2, u_kas1, u_kret, u_kif, u_kfor2, u_kfor1, kand_t, kand_f, kor_t, kor_f, kite_t, kite_f, kif_t, kif_f, ok_sl', ok_kn, ok_kb, ok_ki, ok_ks, ok_gl', ok_bin', ok_neg', ok_not', ok_cmp', ok_chain', ok_and1, ok_and2, ok_or1, ok_or2, ok_and', ok_or', ok_ite', ok_nil, ok_cons, ok_tup', ok_lst', ok_ix', ok_sli', ok_fld', ok_call', ok_isi', ok_dic', ok_bi', ok_bm', ok_lc', ok_xnil, thenS_nx, thenS_rt, ok_xcons, ok_xex, ok_xset, ok_xasg, ok_xsub, ok_xaug, ok_xaugs, ok_xret, ok_xretn, ok_xpass, ok_xif, ok_xwhl, ok_xfor, ok_gets, ok_opt, ok_opt0, ok_truB, ok_truI, ok_truS, ok_truN, ok_truT, ok_addI, ok_subI, ok_augI, ok_augJ, ok_lt, ok_le, ok_gt, ok_ge, ok_eqI, ok_neI, ok_eqS, ok_neS, g0i, g0b, g0s, g0t, g0o, g0n, endQ_nx, endQ_rt, part_out, part_int, kn_kn, kn_ki, kn_sl, kn_bin, nwl0, nwl1, nwl2, nwl3, nwl4, nwl5, nwl6, nwl7, nwl8, nwl9, nwl10, nwl11, nwl12, mkt0, mkt1, mkt2, mkt3, mkt4, mkt5, mkt6, mkt7, mkt8, ok_sliS, ok_sliT, gd_nil, asg_n, asg_t, asgs_nil, asgs_cons, ok_it_exT, ok_it_exS, ok_noEx, kd_find, kd_islower, kd_upper, kd_lower, kd_join, ok_find, ok_islower, ok_lenS, ok_lenT, ok_abs, ok_intI, ok_intB, ok_tupT, ok_lstT, ok_ixS, ok_ixT, ok_inS, ok_ninS, isi_str, isi_int, isi_bl, isi_non, isi_tup, ok_min, ok_max, kd_index, len4, List.set_cons_zero, List.set_cons_succ, true_and, and_true, Bool.not_true, Bool.not_false, Bool.false_eq_true, if_true, if_false, decide_eq_true_eq, decide_true, Option.map_some, e1]
        rw [decide_eq_false h0] at hK
        exact hK
  simp only [ok_ok, ok_bad, ok_exc, ok_pure, ok_mbad, u_kE, u_kbin, u_kcmp, u_kix, u_knotb, u_knot, u_kneg, u_kand, u_kor, u_kite, u_kcons2, u_kcons, u_ktup, u_klst, u_ksl5, u_ksl4, u_ksl3, u_ksl2, u_ksl1, u_kcall2, u_kcall, u_kbi, u_kbm3, u_kbm2, u_kbm1, u_kch3, u_kch2, u_kch1, u_klc3, u_klc2, u_klc1, u_kfld, u_kisi, u_kex, u_kset, u_kasg, u_ksub4, u_ksub3, u_ksub2, u_ksub1, u_kaug2, u_kaug1, u_kas5, u_kas4, u_kas3, u_kas2, u_kas1, u_kret, u_kif, u_kfor2, u_kfor1, kand_t, kand_f, kor_t, kor_f, kite_t, kite_f, kif_t, kif_f, ok_sl', ok_kn, ok_kb, ok_ki, ok_ks, ok_gl', ok_bin', ok_neg', ok_not', ok_cmp', ok_chain', ok_and1, ok_and2, ok_or1, ok_or2, ok_and', ok_or', ok_ite', ok_nil, ok_cons, ok_tup', ok_lst', ok_ix', ok_sli', ok_fld', ok_call', ok_isi', ok_dic', ok_bi', ok_bm', ok_lc', ok_xnil, thenS_nx, thenS_rt, ok_xcons, ok_xex, ok_xset, ok_xasg, ok_xsub, ok_xaug, ok_xaugs, ok_xret, ok_xretn, ok_xpass, ok_xif, ok_xwhl, ok_xfor, ok_gets, ok_opt, ok_opt0, ok_truB, ok_truI, ok_truS, ok_truN, ok_truT, ok_addI, ok_subI, ok_augI, ok_augJ, ok_lt, ok_le, ok_gt, ok_ge, ok_eqI, ok_neI, ok_eqS, ok_neS, g0i, g0b, g0s, g0t, g0o, g0n, endQ_nx, endQ_rt, part_out, part_int, kn_kn, kn_ki, kn_sl, kn_bin, nwl0, nwl1, nwl2, nwl3, nwl4, nwl5, nwl6, nwl7, nwl8, nwl9, nwl10, nwl11, nwl12, mkt0, mkt1, mkt2, mkt3, mkt4, mkt5, mkt6, mkt7, mkt8, ok_sliS, ok_sliT, gd_nil, asg_n, asg_t, asgs_nil, asgs_cons, ok_it_exT, ok_it_exS, ok_noEx, kd_find, kd_islower, kd_upper, kd_lower, kd_join, ok_find, ok_islower, ok_lenS, ok_lenT, ok_abs, ok_intI, ok_intB, ok_tupT, ok_lstT, ok_ixS, ok_ixT, ok_inS, ok_ninS, isi_str, isi_int, isi_bl, isi_non, isi_tup, ok_min, ok_max, kd_index, len4, List.set_cons_zero, List.set_cons_succ, true_and, and_true, Bool.not_true, Bool.not_false, Bool.false_eq_true, if_true, if_false, decide_eq_true_eq, decide_true, Option.map_some]
  rw [ok_it_rng, if_pos (by decide)]
  simp only [ok_ok, ok_bad, ok_exc, ok_pure, ok_mbad, u_kE, u_kbin, u_kcmp, u_kix, u_knotb, u_knot, u_kneg, u_kand, u_kor, u_kite, u_kcons2, u_kcons, u_ktup, u_klst, u_ksl5, u_ksl4, u_ksl3, u_ksl2, u_ksl1, u_kcall2, u_kcall, u_kbi, u_kbm3, u_kbm2, u_kbm1, u_kch3, u_kch2, u_kch1, u_klc3, u_klc2, u_klc1, u_kfld, u_kisi, u_kex, u_kset, u_kasg, u_ksub4, u_ksub3, u_ksub2, u_ksub1, u_kaug2, u_kaug1, u_kas5, u_kas4, u_kas3, u_kas2, u_kas1, u_kret, u_kif, u_kfor2, u_kfor1, kand_t, kand_f, kor_t, kor_f, kite_t, kite_f, kif_t, kif_f, ok_sl', ok_kn, ok_kb, ok_ki, ok_ks, ok_gl', ok_bin', ok_neg', ok_not', ok_cmp', ok_chain', ok_and1, ok_and2, ok_or1, ok_or2, ok_and', ok_or', ok_ite', ok_nil, ok_cons, ok_tup', ok_lst', ok_ix', ok_sli', ok_fld', ok_call', ok_isi', ok_dic', ok_bi', ok_bm', ok_lc', ok_xnil, thenS_nx, thenS_rt, ok_xcons, ok_xex, ok_xset, ok_xasg, ok_xsub, ok_xaug, ok_xaugs, ok_xret, ok_xretn, ok_xpass, ok_xif, ok_xwhl, ok_xfor, ok_gets, ok_opt, ok_opt0, ok_truB, ok_truI, ok_truS, ok_truN, ok_truT, ok_addI, ok_subI, ok_augI, ok_augJ, ok_lt, ok_le, ok_gt, ok_ge, ok_eqI, ok_neI, ok_eqS, ok_neS, g0i, g0b, g0s, g0t, g0o, g0n, endQ_nx, endQ_rt, part_out, part_int, kn_kn, kn_ki, kn_sl, kn_bin, nwl0, nwl1, nwl2, nwl3, nwl4, nwl5, nwl6, nwl7, nwl8, nwl9, nwl10, nwl11, nwl12, mkt0, mkt1, mkt2, mkt3, mkt4, mkt5, mkt6, mkt7, mkt8, ok_sliS, ok_sliT, gd_nil, asg_n, asg_t, asgs_nil, asgs_cons, ok_it_exT, ok_it_exS, ok_noEx, kd_find, kd_islower, kd_upper, kd_lower, kd_join, ok_find, ok_islower, ok_lenS, ok_lenT, ok_abs, ok_intI, ok_intB, ok_tupT, ok_lstT, ok_ixS, ok_ixT, ok_inS, ok_ninS, isi_str, isi_int, isi_bl, isi_non, isi_tup, ok_min, ok_max, kd_index, len4, List.set_cons_zero, List.set_cons_succ, true_and, and_true, Bool.not_true, Bool.not_false, Bool.false_eq_true, if_true, if_false, decide_eq_true_eq, decide_true, Option.map_some, wipeW]
  refine pick_lc (P := highP f 95) (fun k hk K s T hs hK => ?_) ?_
  · subst hs
    have hA' := hA ([O.lst (intsW ((List.range 95).filter (lowP f)))] ++ T)
    rw [← List.append_assoc] at hA'
    unfold highP at hK
    cases hf : f k with
    | false =>
      rw [hf] at hK
      simp only [ok_ok, ok_bad, ok_exc, ok_pure, ok_mbad, u_kE, u_kbin, u_kcmp, u_kix, u_knotb, u_knot, u_kneg, u_kand, u_kor, u_kite, u_kcons2, u_kcons, u_ktup, u_klst, u_ksl5, u_ksl4, u_ksl3, u_ksl2, u_ksl1, u_kcall2, u_kcall, u_kbi, u_kbm3, u_kbm2, u_kbm1, u_kch3, u_kch2, u_kch1, u_klc3, u_klc2, u_klc1, u_kfld, u_kisi, u_kex, u_kset, u_kasg, u_ksub4, u_ksub3, u_ksub2, u_ksub1, u_kaug2, u_kaug1, u_kas5, u_kas4, u_kas3, u_kas2, u_kas1, u_kret, u_kif, u_kfor2, u_kfor1, kand_t, kand_f, kor_t, kor_f, kite_t, kite_f, kif_t, kif_f, ok_sl', ok_kn, ok_kb, ok_ki, ok_ks, ok_gl', ok_bin', ok_neg', ok_not', ok_cmp', ok_chain', ok_and1, ok_and2, ok_or1, ok_or2, ok_and', ok_or', ok_ite', ok_nil, ok_cons, ok_tup', ok_lst', ok_ix', ok_sli', ok_fld', ok_call', ok_isi', ok_dic', ok_bi', ok_bm', ok_lc', ok_xnil, thenS_nx, thenS_rt, ok_xcons, ok_xex, ok_xset, ok_xasg, ok_xsub, ok_xaug, ok_xaugs, ok_xret, ok_xretn, ok_xpass, ok_xif, ok_xwhl, ok_xfor, ok_gets, ok_opt, ok_opt0, ok_truB, ok_truI, ok_truS, ok_truN, ok_truT, ok_addI, ok_subI, ok_augI, ok_augJ, ok_lt, ok_le, ok_gt, ok_ge, ok_eqI, ok_neI, ok_eqS, ok_neS, g0i, g0b, g0s, g0t, g0o, g0n, endQ_nx, endQ_rt, part_out, part_int, kn_kn, kn_ki, kn_sl, kn_bin, nwl0, nwl1, nwl2, nwl3, nwl4, nwl5, nwl6, nwl7, nwl8, nwl9, nwl10, nwl11, nwl12, mkt0, mkt1, mkt2, mkt3, mkt4, mkt5, mkt6, mkt7, mkt8, ok_sliS, ok_sliT, gd_nil, asg_n, asg_t, asgs_nil, asgs_cons, ok_it_exT, ok_it_exS, ok_noEx, kd_find, kd_islower, kd_upper, kd_lower, kd_join, ok_find, ok_islower, ok_lenS, ok_lenT, ok_abs, ok_intI, ok_intB, ok_tupT, ok_lstT, ok_ixS, ok_ixT, ok_inS, ok_ninS, isi_str, isi_int, isi_bl, isi_non, isi_tup, ok_min, ok_max, kd_index, len4, List.set_cons_zero, List.set_cons_succ, true_and, and_true, Bool.not_true, Bool.not_false, Bool.false_eq_true, if_true, if_false, decide_eq_true_eq, decide_true, Option.map_some, ok_ixM, hA', hat k hk, hf]
      exact hK
    | true =>
      rw [hf] at hK
      simp only [ok_ok, ok_bad, ok_exc, ok_pure, ok_mbad, u_kE, u_kbin, u_kcmp, u_kix, u_knotb, u_knot, u_kneg, u_kand, u_kor, u_kite, u_kcons2, u_kcons, u_ktup, u_klst, u_ksl5, u_ksl4, u_ksl3, u_ksl2, u_ksl1, u_kcall2, u_kcall, u_kbi, u_kbm3, u_kbm2, u_kbm1, u_kch3, u_kch2, u_kch1, u_klc3, u_klc2, u_klc1, u_kfld, u_kisi, u_kex, u_kset, u_kasg, u_ksub4, u_ksub3, u_ksub2, u_ksub1, u_kaug2, u_kaug1, u_kas5, u_kas4, u_kas3, u_kas2, u_kas1, u_kret, u_kif, u_kfor2, u_kfor1, kand_t, kand_f, kor_t, kor_f, kite_t, kite_f, kif_t, kif_f, ok_sl', ok_kn, ok_kb, ok_ki, ok_ks, ok_gl', ok_bin', ok_neg', ok_not', ok_cmp', ok_chain', ok_and1, ok_and2, ok_or1, ok_or2, ok_and', ok_or', ok_ite', ok_nil, ok_cons, ok_tup', ok_lst', ok_ix', ok_sli', ok_fld', ok_call', ok_isi', ok_dic', ok_bi', ok_bm', ok_lc', ok_xnil, thenS_nx, thenS_rt, ok_xcons, ok_xex, ok_xset, ok_xasg, ok_xsub, ok_xaug, ok_xaugs, ok_xret, ok_xretn, ok_xpass, ok_xif, ok_xwhl, ok_xfor, ok_gets, ok_opt, ok_opt0, ok_truB, ok_truI, ok_truS, ok_truN, ok_truT, ok_addI, ok_subI, ok_augI, ok_augJ, ok_lt, ok_le, ok_gt, ok_ge, ok_eqI, ok_neI, ok_eqS, ok_neS, g0i, g0b, g0s, g0t, g0o, g0n, endQ_nx, endQ_rt, part_out, part_int, kn_kn, kn_ki, kn_sl, kn_bin, nwl0, nwl1, nwl2, nwl3, nwl4, nwl5, nwl6, nwl7, nwl8, nwl9, nwl10, nwl11, nwl12, mkt0, mkt1, mkt2, mkt3, mkt4, mkt5, mkt6, mkt7, mkt8, ok_sliS, ok_sliT, gd_nil, asg_n, asg_t, asgs_nil, asgs_cons, ok_it_exT, ok_it_exS, ok_noEx, kd_find, kd_islower, kd_upper, kd_lower, kd_join, ok_find, ok_islower, ok_lenS, ok_lenT, ok_abs, ok_intI, ok_intB, ok_tupT, ok_lstT, ok_ixS, ok_ixT, ok_inS, ok_ninS, isi_str, isi_int, isi_bl, isi_non, isi_tup, ok_min, ok_max, kd_index, len4, List.set_cons_zero, List.set_cons_succ, true_and, and_true, Bool.not_true, Bool.not_false, Bool.false_eq_true, if_true, if_false, decide_eq_true_eq, decide_true, Option.map_some, ok_ixM, hA', hat k hk, hf]
      by_cases h0 : k + 1 < 95
      · have e1 : decide ((k : Int) < 94) = true := decide_eq_true (by omega)
        have hat' : atI ((tab f).map W.bl) ((k : Int) + 1) = some (.bl (f (k + 1))) := by rw [show (k : Int) + 1 = ((k + 1 : Nat) : Int) by omega]; exact hat (k + 1) h0
        simp only [ok_ok, ok_bad, ok_exc, ok_pure, ok_mbad, u_kE, u_kbin, u_kcmp, u_kix, u_knotb, u_knot, u_kneg, u_kand, u_kor, u_kite, u_kcons2, u_kcons, u_ktup, u_klst, u_ksl5, u_ksl4, u_ksl3, u_ksl2, u_ksl1, u_kcall2, u_kcall, u_kbi, u_kbm3, u_kbm2, u_kbm1, u_kch3, u_kch2, u_kch1, u_klc3, u_klc2, u_klc1, u_kfld, u_kisi, u_kex, u_kset, u_kasg, u_ksub4, u_ksub3, u_ksub2, u_ksub1, u_kaug2, u_kaug1, u_kas5, u_kas4, u_kas3, u_kas2, u_kas1, u_kret, u_kif, u_kfor2, u_kfor1, kand_t, kand_f, kor_t, kor_f, kite_t, kite_f, kif_t, kif_f, ok_sl', ok_kn, ok_kb, ok_ki, ok_ks, ok_gl', ok_bin', ok_neg', ok_not', ok_cmp', ok_chain', ok_and1, ok_and2, ok_or1, ok_or2, ok_and', ok_or', ok_ite', ok_nil, ok_cons, ok_tup', ok_lst', ok_ix', ok_sli', ok_fld', ok_call', ok_isi', ok_dic', ok_bi', ok_bm', ok_lc', ok_xnil, thenS_nx, thenS_rt, ok_xcons, ok_xex, ok_xset, ok_xasg, ok_xsub, ok_xaug, ok_xaugs, ok_xret, ok_xretn, ok_xpass, ok_xif, ok_xwhl, ok_xfor, ok_gets, ok_opt, ok_opt0, ok_truB, ok_truI, ok_truS, ok_truN, ok_truT, ok_addI, ok_subI, ok_augI, ok_augJ, ok_lt, ok_le, ok_gt, ok_ge, ok_eqI, ok_neI, ok_eqS, ok_neS, g0i, g0b, g0s, g0t, g0o, g0n, endQ_nx, endQ_rt, part_out, part_int, kn_kn, kn_ki, kn_sl, kn_bin, nwl0, nwl1, nwl2, nwl3, nwl4, nwl5, nwl6, nwl7, nwl8, nwl9, nwl10, nwl11, nwl12, mkt0, mkt1, mkt2, mkt3, mkt4, mkt5, mkt6, mkt7, mkt8, ok_sliS, ok_sliT, gd_nil, asg_n, asg_t, asgs_nil, asgs_cons, ok_it_exT, ok_it_exS, ok_noEx, kd_find, kd_islower, kd_upper, kd_lower, kd_join, ok_find, ok_islower, ok_lenS, ok_lenT, ok_abs, ok_intI, ok_intB, ok_tupT, ok_lstT, ok_ixS, ok_ixT, ok_inS, ok_ninS, isi_str, isi_int, isi_bl, isi_non, isi_tup, ok_min, ok_max, kd_index, len4, List.set_cons_zero, List.set_cons_succ, true_and, and_true, Bool.not_true, Bool.not_false, Bool.false_eq_true, if_true, if_false, decide_eq_true_eq, decide_true, Option.map_some, e1, ok_ixM, hA', hat']
        rw [decide_eq_true h0] at hK
        exact hK
      · have e1 : decide ((k : Int) < 94) = false := decide_eq_false (by omega)
        simp only [ok_ok, ok_bad, ok_exc, ok_pure, ok_mbad, u_kE, u_kbin, u_kcmp, u_kix, u_knotb, u_knot, u_kneg, u_kand, u_kor, u_kite, u_kcons2, u_kcons, u_ktup, u_klst, u_ksl5, u_ksl4, u_ksl3, u_ksl2, u_ksl1, u_kcall2, u_kcall, u_kbi, u_kbm3, u_kbm2, u_kbm1, u_kch3, u_kch2, u_kch1, u_klc3, u_klc2, u_klc1, u_kfld, u_kisi, u_kex, u_kset, u_kasg, u_ksub4, u_ksub3, u_ksub2, u_ksub1, u_kaug2, u_kaug1, u_kas5, u_kas4, u_kas3, u_kas2, u_kas1, u_kret, u_kif, u_kfor2, u_kfor1, kand_t, kand_f, kor_t, kor_f, kite_t, kite_f, kif_t, kif_f, ok_sl', ok_kn, ok_kb, ok_ki, ok_ks, ok_gl', ok_bin', ok_neg', ok_not', ok_cmp', ok_chain', ok_and1, ok_and2, ok_or1, ok_or2, ok_and', ok_or', ok_ite', ok_nil, ok_cons, ok_tup', ok_lst', ok_ix', ok_sli', ok_fld', ok_call', ok_isi', ok_dic', ok_bi', ok_bm', ok_lc', ok_xnil, thenS_nx, thenS_rt, ok_xcons, ok_xex, ok_xset, ok_xasg, ok_xsub, ok_xaug, ok_xaugs, ok_xret, ok_xretn, ok_xpass, ok_xif, ok_xwhl, ok_xfor, ok_gets, ok_opt, ok_opt0, ok_truB, ok_truI, ok_truS, ok_truN, ok_truT, ok_addI, ok_subI, ok_augI, ok_augJ, ok_lt, ok_le, ok_gt, ok_ge, ok_eqI, ok_neI, ok_eqS, ok_neS, g0i, g0b, g0s, g0t, g0o, g0n, endQ_nx, endQ_rt, part_out, part_int, kn_kn, kn_ki, kn_sl, kn_bin, nwl0, nwl1, nwl2, nwl3, nwl4, nwl5, nwl6, nwl7, nwl8, nwl9, nwl10, nwl11, nwl12, mkt0, mkt1, mkt2, mkt3, mkt4, mkt5, mkt6, mkt7, mkt8, ok_sliS, ok_sliT, gd_nil, asg_n, asg_t, asgs_nil, asgs_cons, ok_it_exT, ok_it_exS, ok_noEx, kd_find, kd_islower, kd_upper, kd_lower, kd_join, ok_find, ok_islower, ok_lenS, ok_lenT, ok_abs, ok_intI, ok_intB, ok_tupT, ok_lstT, ok_ixS, ok_ixT, ok_inS, ok_ninS, isi_str, isi_int, isi_bl, isi_non, isi_tup, ok_min, ok_max, kd_index, len4, List.set_cons_zero, List.set_cons_succ, true_and, and_true, Bool.not_true, Bool.not_false, Bool.false_eq_true, if_true, if_false, decide_eq_true_eq, decide_true, Option.map_some, e1]
        rw [decide_eq_false h0] at hK
        exact hK
  simp only [ok_ok, ok_bad, ok_exc, ok_pure, ok_mbad, u_kE, u_kbin, u_kcmp, u_kix, u_knotb, u_knot, u_kneg, u_kand, u_kor, u_kite, u_kcons2, u_kcons, u_ktup, u_klst, u_ksl5, u_ksl4, u_ksl3, u_ksl2, u_ksl1, u_kcall2, u_kcall, u_kbi, u_kbm3, u_kbm2, u_kbm1, u_kch3, u_kch2, u_kch1, u_klc3, u_klc2, u_klc1, u_kfld, u_kisi, u_kex, u_kset, u_kasg, u_ksub4, u_ksub3, u_ksub2, u_ksub1, u_kaug2, u_kaug1, u_kas5, u_kas4, u_kas3, u_kas2, u_kas1, u_kret, u_kif, u_kfor2, u_kfor1, kand_t, kand_f, kor_t, kor_f, kite_t, kite_f, kif_t, kif_f, ok_sl', ok_kn, ok_kb, ok_ki, ok_ks, ok_gl', ok_bin', ok_neg', ok_not', ok_cmp', ok_chain', ok_and1, ok_and2, ok_or1, ok_or2, ok_and', ok_or', ok_ite', ok_nil, ok_cons, ok_tup', ok_lst', ok_ix', ok_sli', ok_fld', ok_call', ok_isi', ok_dic', ok_bi', ok_bm', ok_lc', ok_xnil, thenS_nx, thenS_rt, ok_xcons, ok_xex, ok_xset, ok_xasg, ok_xsub, ok_xaug, ok_xaugs, ok_xret, ok_xretn, ok_xpass, ok_xif, ok_xwhl, ok_xfor, ok_gets, ok_opt, ok_opt0, ok_truB, ok_truI, ok_truS, ok_truN, ok_truT, ok_addI, ok_subI, ok_augI, ok_augJ, ok_lt, ok_le, ok_gt, ok_ge, ok_eqI, ok_neI, ok_eqS, ok_neS, g0i, g0b, g0s, g0t, g0o, g0n, endQ_nx, endQ_rt, part_out, part_int, kn_kn, kn_ki, kn_sl, kn_bin, nwl0, nwl1, nwl2, nwl3, nwl4, nwl5, nwl6, nwl7, nwl8, nwl9, nwl10, nwl11, nwl12, mkt0, mkt1, mkt2, mkt3, mkt4, mkt5, mkt6, mkt7, mkt8, ok_sliS, ok_sliT, gd_nil, asg_n, asg_t, asgs_nil, asgs_cons, ok_it_exT, ok_it_exS, ok_noEx, kd_find, kd_islower, kd_upper, kd_lower, kd_join, ok_find, ok_islower, ok_lenS, ok_lenT, ok_abs, ok_intI, ok_intB, ok_tupT, ok_lstT, ok_ixS, ok_ixT, ok_inS, ok_ninS, isi_str, isi_int, isi_bl, isi_non, isi_tup, ok_min, ok_max, kd_index, len4, List.set_cons_zero, List.set_cons_succ, true_and, and_true, Bool.not_true, Bool.not_false, Bool.false_eq_true, if_true, if_false, decide_eq_true_eq, decide_true, Option.map_some]
  rw [ok_it_zp (lstAt_app all_new' _) all_new']
  have hz : ((intsW ((List.range 95).filter (lowP f))).zip (intsW ((List.range 95).filter (highP f 95)))).map (fun p => W.tup [p.1, p.2]) = (rowsUp f).map boundW := by
    unfold intsW rowsUp
    rw [List.zip_map, List.map_map, ← zip_fnd]
    rfl
  rw [hz]
  simp only [ok_ok, ok_bad, ok_exc, ok_pure, ok_mbad, u_kE, u_kbin, u_kcmp, u_kix, u_knotb, u_knot, u_kneg, u_kand, u_kor, u_kite, u_kcons2, u_kcons, u_ktup, u_klst, u_ksl5, u_ksl4, u_ksl3, u_ksl2, u_ksl1, u_kcall2, u_kcall, u_kbi, u_kbm3, u_kbm2, u_kbm1, u_kch3, u_kch2, u_kch1, u_klc3, u_klc2, u_klc1, u_kfld, u_kisi, u_kex, u_kset, u_kasg, u_ksub4, u_ksub3, u_ksub2, u_ksub1, u_kaug2, u_kaug1, u_kas5, u_kas4, u_kas3, u_kas2, u_kas1, u_kret, u_kif, u_kfor2, u_kfor1, kand_t, kand_f, kor_t, kor_f, kite_t, kite_f, kif_t, kif_f, ok_sl', ok_kn, ok_kb, ok_ki, ok_ks, ok_gl', ok_bin', ok_neg', ok_not', ok_cmp', ok_chain', ok_and1, ok_and2, ok_or1, ok_or2, ok_and', ok_or', ok_ite', ok_nil, ok_cons, ok_tup', ok_lst', ok_ix', ok_sli', ok_fld', ok_call', ok_isi', ok_dic', ok_bi', ok_bm', ok_lc', ok_xnil, thenS_nx, thenS_rt, ok_xcons, ok_xex, ok_xset, ok_xasg, ok_xsub, ok_xaug, ok_xaugs, ok_xret, ok_xretn, ok_xpass, ok_xif, ok_xwhl, ok_xfor, ok_gets, ok_opt, ok_opt0, ok_truB, ok_truI, ok_truS, ok_truN, ok_truT, ok_addI, ok_subI, ok_augI, ok_augJ, ok_lt, ok_le, ok_gt, ok_ge, ok_eqI, ok_neI, ok_eqS, ok_neS, g0i, g0b, g0s, g0t, g0o, g0n, endQ_nx, endQ_rt, part_out, part_int, kn_kn, kn_ki, kn_sl, kn_bin, nwl0, nwl1, nwl2, nwl3, nwl4, nwl5, nwl6, nwl7, nwl8, nwl9, nwl10, nwl11, nwl12, mkt0, mkt1, mkt2, mkt3, mkt4, mkt5, mkt6, mkt7, mkt8, ok_sliS, ok_sliT, gd_nil, asg_n, asg_t, asgs_nil, asgs_cons, ok_it_exT, ok_it_exS, ok_noEx, kd_find, kd_islower, kd_upper, kd_lower, kd_join, ok_find, ok_islower, ok_lenS, ok_lenT, ok_abs, ok_intI, ok_intB, ok_tupT, ok_lstT, ok_ixS, ok_ixT, ok_inS, ok_ninS, isi_str, isi_int, isi_bl, isi_non, isi_tup, ok_min, ok_max, kd_index, len4, List.set_cons_zero, List.set_cons_succ, true_and, and_true, Bool.not_true, Bool.not_false, Bool.false_eq_true, if_true, if_false, decide_eq_true_eq, decide_true, Option.map_some, wipeW]
  have hpp : ∀ p ∈ rowsUp f, pairS (boundW p) = pairW p := fun p _ => by
    simp only [boundW, pairS, pairW, Int.toNat_natCast]
  refine lc_map pairS (fun xs => ?_) (by rw [List.length_map, LINE]; have := fnd_len (f := f) 95; unfold rowsUp; omega) (fun w hw S' => ?_) ?_
  · have h1 : LstAt (S ++ [O.lst (intsW ((List.range 95).filter (lowP f)))] ++ [O.lst (intsW ((List.range 95).filter (highP f 95)))] ++ [O.lst xs]) S.length (intsW ((List.range 95).filter (lowP f))) := lstAt_app (lstAt_app all_new' _) _
    have h2 : LstAt (S ++ [O.lst (intsW ((List.range 95).filter (lowP f)))] ++ [O.lst (intsW ((List.range 95).filter (highP f 95)))] ++ [O.lst xs]) (S ++ [O.lst (intsW ((List.range 95).filter (lowP f)))]).length (intsW ((List.range 95).filter (highP f 95))) := lstAt_app all_new' _
    have g1 := gd_of h1
    have g2 := gd_of h2
    simp only [gdOk, Bool.and_true] at g1 g2 ⊢
    rw [g1, g2]; rfl
  · obtain ⟨p, hpm, rfl⟩ := List.mem_map.mp hw
    obtain ⟨p1, p2⟩ := rowsUp_ok f p hpm
    rw [hpp p hpm]
    refine ⟨[.ob a, .str gv_SIGNS, .ob S.length, .ob (S ++ [O.lst (intsW ((List.range 95).filter (lowP f)))]).length, .un, .int p.1, .int p.2], by simp [boundW], fun Q hq => ?_⟩
    simp only [ok_ok, ok_bad, ok_exc, ok_pure, ok_mbad, u_kE, u_kbin, u_kcmp, u_kix, u_knotb, u_knot, u_kneg, u_kand, u_kor, u_kite, u_kcons2, u_kcons, u_ktup, u_klst, u_ksl5, u_ksl4, u_ksl3, u_ksl2, u_ksl1, u_kcall2, u_kcall, u_kbi, u_kbm3, u_kbm2, u_kbm1, u_kch3, u_kch2, u_kch1, u_klc3, u_klc2, u_klc1, u_kfld, u_kisi, u_kex, u_kset, u_kasg, u_ksub4, u_ksub3, u_ksub2, u_ksub1, u_kaug2, u_kaug1, u_kas5, u_kas4, u_kas3, u_kas2, u_kas1, u_kret, u_kif, u_kfor2, u_kfor1, kand_t, kand_f, kor_t, kor_f, kite_t, kite_f, kif_t, kif_f, ok_sl', ok_kn, ok_kb, ok_ki, ok_ks, ok_gl', ok_bin', ok_neg', ok_not', ok_cmp', ok_chain', ok_and1, ok_and2, ok_or1, ok_or2, ok_and', ok_or', ok_ite', ok_nil, ok_cons, ok_tup', ok_lst', ok_ix', ok_sli', ok_fld', ok_call', ok_isi', ok_dic', ok_bi', ok_bm', ok_lc', ok_xnil, thenS_nx, thenS_rt, ok_xcons, ok_xex, ok_xset, ok_xasg, ok_xsub, ok_xaug, ok_xaugs, ok_xret, ok_xretn, ok_xpass, ok_xif, ok_xwhl, ok_xfor, ok_gets, ok_opt, ok_opt0, ok_truB, ok_truI, ok_truS, ok_truN, ok_truT, ok_addI, ok_subI, ok_augI, ok_augJ, ok_lt, ok_le, ok_gt, ok_ge, ok_eqI, ok_neI, ok_eqS, ok_neS, g0i, g0b, g0s, g0t, g0o, g0n, endQ_nx, endQ_rt, part_out, part_int, kn_kn, kn_ki, kn_sl, kn_bin, nwl0, nwl1, nwl2, nwl3, nwl4, nwl5, nwl6, nwl7, nwl8, nwl9, nwl10, nwl11, nwl12, mkt0, mkt1, mkt2, mkt3, mkt4, mkt5, mkt6, mkt7, mkt8, ok_sliS, ok_sliT, gd_nil, asg_n, asg_t, asgs_nil, asgs_cons, ok_it_exT, ok_it_exS, ok_noEx, kd_find, kd_islower, kd_upper, kd_lower, kd_join, ok_find, ok_islower, ok_lenS, ok_lenT, ok_abs, ok_intI, ok_intB, ok_tupT, ok_lstT, ok_ixS, ok_ixT, ok_inS, ok_ninS, isi_str, isi_int, isi_bl, isi_non, isi_tup, ok_min, ok_max, kd_index, len4, List.set_cons_zero, List.set_cons_succ, true_and, and_true, Bool.not_true, Bool.not_false, Bool.false_eq_true, if_true, if_false, decide_eq_true_eq, decide_true, Option.map_some, sg_at p1, sg_at p2]
    exact hq
  have hmap : ((rowsUp f).map boundW).map pairS = (rowsUp f).map pairW := by
    rw [List.map_map]
    exact List.map_congr_left fun p hpm => hpp p hpm
  rw [hmap]
  simp only [ok_ok, ok_bad, ok_exc, ok_pure, ok_mbad, u_kE, u_kbin, u_kcmp, u_kix, u_knotb, u_knot, u_kneg, u_kand, u_kor, u_kite, u_kcons2, u_kcons, u_ktup, u_klst, u_ksl5, u_ksl4, u_ksl3, u_ksl2, u_ksl1, u_kcall2, u_kcall, u_kbi, u_kbm3, u_kbm2, u_kbm1, u_kch3, u_kch2, u_kch1, u_klc3, u_klc2, u_klc1, u_kfld, u_kisi, u_kex, u_kset, u_kasg, u_ksub4, u_ksub3, u_ksub2, u_ksub1, u_kaug2, u_kaug1, u_kas5, u_kas4, u_kas3, u_kas2, u_kas1, u_kret, u_kif, u_kfor2, u_kfor1, kand_t, kand_f, kor_t, kor_f, kite_t, kite_f, kif_t, kif_f, ok_sl', ok_kn, ok_kb, ok_ki, ok_ks, ok_gl', ok_bin', ok_neg', ok_not', ok_cmp', ok_chain', ok_and1, ok_and2, ok_or1, ok_or2, ok_and', ok_or', ok_ite', ok_nil, ok_cons, ok_tup', ok_lst', ok_ix', ok_sli', ok_fld', ok_call', ok_isi', ok_dic', ok_bi', ok_bm', ok_lc', ok_xnil, thenS_nx, thenS_rt, ok_xcons, ok_xex, ok_xset, ok_xasg, ok_xsub, ok_xaug, ok_xaugs, ok_xret, ok_xretn, ok_xpass, ok_xif, ok_xwhl, ok_xfor, ok_gets, ok_opt, ok_opt0, ok_truB, ok_truI, ok_truS, ok_truN, ok_truT, ok_addI, ok_subI, ok_augI, ok_augJ, ok_lt, ok_le, ok_gt, ok_ge, ok_eqI, ok_neI, ok_eqS, ok_neS, g0i, g0b, g0s, g0t, g0o, g0n, endQ_nx, endQ_rt, part_out, part_int, kn_kn, kn_ki, kn_sl, kn_bin, nwl0, nwl1, nwl2, nwl3, nwl4, nwl5, nwl6, nwl7, nwl8, nwl9, nwl10, nwl11, nwl12, mkt0, mkt1, mkt2, mkt3, mkt4, mkt5, mkt6, mkt7, mkt8, ok_sliS, ok_sliT, gd_nil, asg_n, asg_t, asgs_nil, asgs_cons, ok_it_exT, ok_it_exS, ok_noEx, kd_find, kd_islower, kd_upper, kd_lower, kd_join, ok_find, ok_islower, ok_lenS, ok_lenT, ok_abs, ok_intI, ok_intB, ok_tupT, ok_lstT, ok_ixS, ok_ixT, ok_inS, ok_ninS, isi_str, isi_int, isi_bl, isi_non, isi_tup, ok_min, ok_max, kd_index, len4, List.set_cons_zero, List.set_cons_succ, true_and, and_true, Bool.not_true, Bool.not_false, Bool.false_eq_true, if_true, if_false, decide_eq_true_eq, decide_true, Option.map_some]
  rw [ok_tupO all_new']
  simp only [ok_ok, ok_bad, ok_exc, ok_pure, ok_mbad, u_kE, u_kbin, u_kcmp, u_kix, u_knotb, u_knot, u_kneg, u_kand, u_kor, u_kite, u_kcons2, u_kcons, u_ktup, u_klst, u_ksl5, u_ksl4, u_ksl3, u_ksl2, u_ksl1, u_kcall2, u_kcall, u_kbi, u_kbm3, u_kbm2, u_kbm1, u_kch3, u_kch2, u_kch1, u_klc3, u_klc2, u_klc1, u_kfld, u_kisi, u_kex, u_kset, u_kasg, u_ksub4, u_ksub3, u_ksub2, u_ksub1, u_kaug2, u_kaug1, u_kas5, u_kas4, u_kas3, u_kas2, u_kas1, u_kret, u_kif, u_kfor2, u_kfor1, kand_t, kand_f, kor_t, kor_f, kite_t, kite_f, kif_t, kif_f, ok_sl', ok_kn, ok_kb, ok_ki, ok_ks, ok_gl', ok_bin', ok_neg', ok_not', ok_cmp', ok_chain', ok_and1, ok_and2, ok_or1, ok_or2, ok_and', ok_or', ok_ite', ok_nil, ok_cons, ok_tup', ok_lst', ok_ix', ok_sli', ok_fld', ok_call', ok_isi', ok_dic', ok_bi', ok_bm', ok_lc', ok_xnil, thenS_nx, thenS_rt, ok_xcons, ok_xex, ok_xset, ok_xasg, ok_xsub, ok_xaug, ok_xaugs, ok_xret, ok_xretn, ok_xpass, ok_xif, ok_xwhl, ok_xfor, ok_gets, ok_opt, ok_opt0, ok_truB, ok_truI, ok_truS, ok_truN, ok_truT, ok_addI, ok_subI, ok_augI, ok_augJ, ok_lt, ok_le, ok_gt, ok_ge, ok_eqI, ok_neI, ok_eqS, ok_neS, g0i, g0b, g0s, g0t, g0o, g0n, endQ_nx, endQ_rt, part_out, part_int, kn_kn, kn_ki, kn_sl, kn_bin, nwl0, nwl1, nwl2, nwl3, nwl4, nwl5, nwl6, nwl7, nwl8, nwl9, nwl10, nwl11, nwl12, mkt0, mkt1, mkt2, mkt3, mkt4, mkt5, mkt6, mkt7, mkt8, ok_sliS, ok_sliT, gd_nil, asg_n, asg_t, asgs_nil, asgs_cons, ok_it_exT, ok_it_exS, ok_noEx, kd_find, kd_islower, kd_upper, kd_lower, kd_join, ok_find, ok_islower, ok_lenS, ok_lenT, ok_abs, ok_intI, ok_intB, ok_tupT, ok_lstT, ok_ixS, ok_ixT, ok_inS, ok_ninS, isi_str, isi_int, isi_bl, isi_non, isi_tup, ok_min, ok_max, kd_index, len4, List.set_cons_zero, List.set_cons_succ, true_and, and_true, Bool.not_true, Bool.not_false, Bool.false_eq_true, if_true, if_false, decide_eq_true_eq, decide_true, Option.map_some]
  rw [List.append_assoc, List.append_assoc]
  exact q _
/-! ### drawn rows -/
theorem two_in {a b i : Int} (i0 : 0 ≤ i) (i1 : i < 2) : ∃ c, atI [W.int a, .int b] i = some (.int c) ∧ (c = a ∨ c = b) := by
  have : i = 0 ∨ i = 1 := by omega
  rcases this with rfl | rfl
  · exact ⟨a, at0, .inl rfl⟩
  · exact ⟨b, at1, .inr rfl⟩
theorem three_in {i : Int} (i0 : 0 ≤ i) (i1 : i < 3) : ∃ c : Int, atI [W.int 1, .int 4, .int 95] i = some (.int c) ∧ 1 ≤ c ∧ c ≤ 95 := by
  have : i = 0 ∨ i = 1 ∨ i = 2 := by omega
  rcases this with rfl | rfl | rfl
  · exact ⟨1, at0, by decide, by decide⟩
  · exact ⟨4, at1, by decide, by decide⟩
  · exact ⟨95, at2, by decide, by decide⟩
theorem new_stays {n : Nat} {S S3 : Sto} {o : O} (sm : Same n (S ++ [o]) S3) (hn : n < S.length) : S3[S.length]? = some o := by
  rw [sm.2 _ (by omega)]
  simp
theorem some_body (ht : TkOk D) {n j r : Nat} {cs : List Int} {S0 : Sto} (k0 : Keep n S0 S) (hr0 : S0.length ≤ r) (hrn : r ≠ n) (hrj : r ≠ j) (hb : Bag S n j cs) {ps : List (Nat × Nat)} (hps : ps.length ≤ 2000) (hr : S[r]? = some (.lst (ps.map pairW))) {x1 x4 x5 x6 : W} {F : Fl → Sto → Prop}
    (q : ∀ (p : Nat × Nat) x5 x6 S', p.1 < 95 → p.2 < 95 → Keep n S0 S' → Bag S' n j cs → S'[r]? = some (.lst ((ps ++ [p]).map pairW)) → F (.nx [.ob n, x1, .str gv_SIGNS, .ob r, x4, x5, x6]) S') :
    Ok (exs D [.set 5 (.call nm__law_take [(.sl 0), (.ki 95)] [] []), .set 6 (.bin .add (.sl 5) (.call nm__law_take [(.sl 0), (.bi n_min [(.ix (.lst [(.ki 1), (.ki 4), (.ki 95)]) (.call nm__law_take [(.sl 0), (.ki 3)] [] [])), (.bin .sub (.ki 95) (.sl 5))])] [] [])), .ex (.bm n_append (.sl 3) [(.tup [(.ix (.sl 2) (.sl 5)), (.ix (.sl 2) (.sl 6))])])]
      [.ob n, x1, .str gv_SIGNS, .ob r, x4, x5, x6] S) F := by
  simp only [ok_ok, ok_bad, ok_exc, ok_pure, ok_mbad, u_kE, u_kbin, u_kcmp, u_kix, u_knotb, u_knot, u_kneg, u_kand, u_kor, u_kite, u_kcons2, u_kcons, u_ktup, u_klst, u_ksl5, u_ksl4, u_ksl3, u_ksl2, u_ksl1, u_kcall2, u_kcall, u_kbi, u_kbm3, u_kbm2, u_kbm1, u_kch3, u_kch2, u_kch1, u_klc3, u_klc2, u_klc1, u_kfld, u_kisi, u_kex, u_kset, u_kasg, u_ksub4, u_ksub3, u_ksub2, u_ksub1, u_kaug2, u_kaug1, u_kas5, u_kas4, u_kas3, u_kas2, u_kas1, u_kret, u_kif, u_kfor2, u_kfor1, kand_t, kand_f, kor_t, kor_f, kite_t, kite_f, kif_t, kif_f, ok_sl', ok_kn, ok_kb, ok_ki, ok_ks, ok_gl', ok_bin', ok_neg', ok_not', ok_cmp', ok_chain', ok_and1, ok_and2, ok_or1, ok_or2, ok_and', ok_or', ok_ite', ok_nil, ok_cons, ok_tup', ok_lst', ok_ix', ok_sli', ok_fld', ok_call', ok_isi', ok_dic', ok_bi', ok_bm', ok_lc', ok_xnil, thenS_nx, thenS_rt, ok_xcons, ok_xex, ok_xset, ok_xasg, ok_xsub, ok_xaug, ok_xaugs, ok_xret, ok_xretn, ok_xpass, ok_xif, ok_xwhl, ok_xfor, ok_gets, ok_opt, ok_opt0, ok_truB, ok_truI, ok_truS, ok_truN, ok_truT, ok_addI, ok_subI, ok_augI, ok_augJ, ok_lt, ok_le, ok_gt, ok_ge, ok_eqI, ok_neI, ok_eqS, ok_neS, g0i, g0b, g0s, g0t, g0o, g0n, endQ_nx, endQ_rt, part_out, part_int, kn_kn, kn_ki, kn_sl, kn_bin, nwl0, nwl1, nwl2, nwl3, nwl4, nwl5, nwl6, nwl7, nwl8, nwl9, nwl10, nwl11, nwl12, mkt0, mkt1, mkt2, mkt3, mkt4, mkt5, mkt6, mkt7, mkt8, ok_sliS, ok_sliT, gd_nil, asg_n, asg_t, asgs_nil, asgs_cons, ok_it_exT, ok_it_exS, ok_noEx, kd_find, kd_islower, kd_upper, kd_lower, kd_join, ok_find, ok_islower, ok_lenS, ok_lenT, ok_abs, ok_intI, ok_intB, ok_tupT, ok_lstT, ok_ixS, ok_ixT, ok_inS, ok_ninS, isi_str, isi_int, isi_bl, isi_non, isi_tup, ok_min, ok_max, kd_index, len4, List.set_cons_zero, List.set_cons_succ, true_and, and_true, Bool.not_true, Bool.not_false, Bool.false_eq_true, if_true, if_false, decide_eq_true_eq, decide_true, Option.map_some, ht.1]
  refine ht.2 _ _ _ _ _ _ hb (by decide) (by decide) fun low S1 l0 l1 sm1 hb1 => ?_
  simp only [ok_ok, ok_bad, ok_exc, ok_pure, ok_mbad, u_kE, u_kbin, u_kcmp, u_kix, u_knotb, u_knot, u_kneg, u_kand, u_kor, u_kite, u_kcons2, u_kcons, u_ktup, u_klst, u_ksl5, u_ksl4, u_ksl3, u_ksl2, u_ksl1, u_kcall2, u_kcall, u_kbi, u_kbm3, u_kbm2, u_kbm1, u_kch3, u_kch2, u_kch1, u_klc3, u_klc2, u_klc1, u_kfld, u_kisi, u_kex, u_kset, u_kasg, u_ksub4, u_ksub3, u_ksub2, u_ksub1, u_kaug2, u_kaug1, u_kas5, u_kas4, u_kas3, u_kas2, u_kas1, u_kret, u_kif, u_kfor2, u_kfor1, kand_t, kand_f, kor_t, kor_f, kite_t, kite_f, kif_t, kif_f, ok_sl', ok_kn, ok_kb, ok_ki, ok_ks, ok_gl', ok_bin', ok_neg', ok_not', ok_cmp', ok_chain', ok_and1, ok_and2, ok_or1, ok_or2, ok_and', ok_or', ok_ite', ok_nil, ok_cons, ok_tup', ok_lst', ok_ix', ok_sli', ok_fld', ok_call', ok_isi', ok_dic', ok_bi', ok_bm', ok_lc', ok_xnil, thenS_nx, thenS_rt, ok_xcons, ok_xex, ok_xset, ok_xasg, ok_xsub, ok_xaug, ok_xaugs, ok_xret, ok_xretn, ok_xpass, ok_xif, ok_xwhl, ok_xfor, ok_gets, ok_opt, ok_opt0, ok_truB, ok_truI, ok_truS, ok_truN, ok_truT, ok_addI, ok_subI, ok_augI, ok_augJ, ok_lt, ok_le, ok_gt, ok_ge, ok_eqI, ok_neI, ok_eqS, ok_neS, g0i, g0b, g0s, g0t, g0o, g0n, endQ_nx, endQ_rt, part_out, part_int, kn_kn, kn_ki, kn_sl, kn_bin, nwl0, nwl1, nwl2, nwl3, nwl4, nwl5, nwl6, nwl7, nwl8, nwl9, nwl10, nwl11, nwl12, mkt0, mkt1, mkt2, mkt3, mkt4, mkt5, mkt6, mkt7, mkt8, ok_sliS, ok_sliT, gd_nil, asg_n, asg_t, asgs_nil, asgs_cons, ok_it_exT, ok_it_exS, ok_noEx, kd_find, kd_islower, kd_upper, kd_lower, kd_join, ok_find, ok_islower, ok_lenS, ok_lenT, ok_abs, ok_intI, ok_intB, ok_tupT, ok_lstT, ok_ixS, ok_ixT, ok_inS, ok_ninS, isi_str, isi_int, isi_bl, isi_non, isi_tup, ok_min, ok_max, kd_index, len4, List.set_cons_zero, List.set_cons_succ, true_and, and_true, Bool.not_true, Bool.not_false, Bool.false_eq_true, if_true, if_false, decide_eq_true_eq, decide_true, Option.map_some, ht.1]
  have hn1 := (bag_lt hb1).1
  refine ht.2 _ _ _ _ _ _ (hb1.app _) (by decide) (by decide) fun i S2 i0 i1 sm2 hb2 => ?_
  obtain ⟨c, hc, c1, c95⟩ := three_in i0 i1
  simp only [ok_ok, ok_bad, ok_exc, ok_pure, ok_mbad, u_kE, u_kbin, u_kcmp, u_kix, u_knotb, u_knot, u_kneg, u_kand, u_kor, u_kite, u_kcons2, u_kcons, u_ktup, u_klst, u_ksl5, u_ksl4, u_ksl3, u_ksl2, u_ksl1, u_kcall2, u_kcall, u_kbi, u_kbm3, u_kbm2, u_kbm1, u_kch3, u_kch2, u_kch1, u_klc3, u_klc2, u_klc1, u_kfld, u_kisi, u_kex, u_kset, u_kasg, u_ksub4, u_ksub3, u_ksub2, u_ksub1, u_kaug2, u_kaug1, u_kas5, u_kas4, u_kas3, u_kas2, u_kas1, u_kret, u_kif, u_kfor2, u_kfor1, kand_t, kand_f, kor_t, kor_f, kite_t, kite_f, kif_t, kif_f, ok_sl', ok_kn, ok_kb, ok_ki, ok_ks, ok_gl', ok_bin', ok_neg', ok_not', ok_cmp', ok_chain', ok_and1, ok_and2, ok_or1, ok_or2, ok_and', ok_or', ok_ite', ok_nil, ok_cons, ok_tup', ok_lst', ok_ix', ok_sli', ok_fld', ok_call', ok_isi', ok_dic', ok_bi', ok_bm', ok_lc', ok_xnil, thenS_nx, thenS_rt, ok_xcons, ok_xex, ok_xset, ok_xasg, ok_xsub, ok_xaug, ok_xaugs, ok_xret, ok_xretn, ok_xpass, ok_xif, ok_xwhl, ok_xfor, ok_gets, ok_opt, ok_opt0, ok_truB, ok_truI, ok_truS, ok_truN, ok_truT, ok_addI, ok_subI, ok_augI, ok_augJ, ok_lt, ok_le, ok_gt, ok_ge, ok_eqI, ok_neI, ok_eqS, ok_neS, g0i, g0b, g0s, g0t, g0o, g0n, endQ_nx, endQ_rt, part_out, part_int, kn_kn, kn_ki, kn_sl, kn_bin, nwl0, nwl1, nwl2, nwl3, nwl4, nwl5, nwl6, nwl7, nwl8, nwl9, nwl10, nwl11, nwl12, mkt0, mkt1, mkt2, mkt3, mkt4, mkt5, mkt6, mkt7, mkt8, ok_sliS, ok_sliT, gd_nil, asg_n, asg_t, asgs_nil, asgs_cons, ok_it_exT, ok_it_exS, ok_noEx, kd_find, kd_islower, kd_upper, kd_lower, kd_join, ok_find, ok_islower, ok_lenS, ok_lenT, ok_abs, ok_intI, ok_intB, ok_tupT, ok_lstT, ok_ixS, ok_ixT, ok_inS, ok_ninS, isi_str, isi_int, isi_bl, isi_non, isi_tup, ok_min, ok_max, kd_index, len4, List.set_cons_zero, List.set_cons_succ, true_and, and_true, Bool.not_true, Bool.not_false, Bool.false_eq_true, if_true, if_false, decide_eq_true_eq, decide_true, Option.map_some, ok_ixM, new_stays sm2 hn1, hc, ht.1]
  have hm : ∃ mm : Int, (if 95 - low < c then 95 - low else c) = mm ∧ 0 < mm ∧ mm ≤ 95 - low := by
    split
    · exact ⟨_, rfl, by omega, by omega⟩
    · exact ⟨_, rfl, by omega, by omega⟩
  obtain ⟨mm, hmm, m0, m1⟩ := hm
  rw [hmm]
  refine ht.2 _ _ _ _ _ _ hb2 m0 (by omega) fun h S3 h0 h1 sm3 hb3 => ?_
  obtain ⟨lo, rfl⟩ := Int.eq_ofNat_of_zero_le l0
  obtain ⟨hi, hhi⟩ := Int.eq_ofNat_of_zero_le (show 0 ≤ (lo : Int) + h by omega)
  have hlo : lo < 95 := by omega
  have hhi95 : hi < 95 := by omega
  have hr3 : S3[r]? = some (.lst (ps.map pairW)) := by
    rw [sm3.2 r hrn, sm2.2 r hrn, List.getElem?_append_left, sm1.2 r hrn]
    · exact hr
    · rw [sm1.1]; exact (List.getElem?_eq_some_iff.mp hr).1
  have k3 : Keep n S0 S3 := (((k0.trans sm1.keep).trans (Keep.app _)).trans sm2.keep).trans sm3.keep
  simp only [ok_ok, ok_bad, ok_exc, ok_pure, ok_mbad, u_kE, u_kbin, u_kcmp, u_kix, u_knotb, u_knot, u_kneg, u_kand, u_kor, u_kite, u_kcons2, u_kcons, u_ktup, u_klst, u_ksl5, u_ksl4, u_ksl3, u_ksl2, u_ksl1, u_kcall2, u_kcall, u_kbi, u_kbm3, u_kbm2, u_kbm1, u_kch3, u_kch2, u_kch1, u_klc3, u_klc2, u_klc1, u_kfld, u_kisi, u_kex, u_kset, u_kasg, u_ksub4, u_ksub3, u_ksub2, u_ksub1, u_kaug2, u_kaug1, u_kas5, u_kas4, u_kas3, u_kas2, u_kas1, u_kret, u_kif, u_kfor2, u_kfor1, kand_t, kand_f, kor_t, kor_f, kite_t, kite_f, kif_t, kif_f, ok_sl', ok_kn, ok_kb, ok_ki, ok_ks, ok_gl', ok_bin', ok_neg', ok_not', ok_cmp', ok_chain', ok_and1, ok_and2, ok_or1, ok_or2, ok_and', ok_or', ok_ite', ok_nil, ok_cons, ok_tup', ok_lst', ok_ix', ok_sli', ok_fld', ok_call', ok_isi', ok_dic', ok_bi', ok_bm', ok_lc', ok_xnil, thenS_nx, thenS_rt, ok_xcons, ok_xex, ok_xset, ok_xasg, ok_xsub, ok_xaug, ok_xaugs, ok_xret, ok_xretn, ok_xpass, ok_xif, ok_xwhl, ok_xfor, ok_gets, ok_opt, ok_opt0, ok_truB, ok_truI, ok_truS, ok_truN, ok_truT, ok_addI, ok_subI, ok_augI, ok_augJ, ok_lt, ok_le, ok_gt, ok_ge, ok_eqI, ok_neI, ok_eqS, ok_neS, g0i, g0b, g0s, g0t, g0o, g0n, endQ_nx, endQ_rt, part_out, part_int, kn_kn, kn_ki, kn_sl, kn_bin, nwl0, nwl1, nwl2, nwl3, nwl4, nwl5, nwl6, nwl7, nwl8, nwl9, nwl10, nwl11, nwl12, mkt0, mkt1, mkt2, mkt3, mkt4, mkt5, mkt6, mkt7, mkt8, ok_sliS, ok_sliT, gd_nil, asg_n, asg_t, asgs_nil, asgs_cons, ok_it_exT, ok_it_exS, ok_noEx, kd_find, kd_islower, kd_upper, kd_lower, kd_join, ok_find, ok_islower, ok_lenS, ok_lenT, ok_abs, ok_intI, ok_intB, ok_tupT, ok_lstT, ok_ixS, ok_ixT, ok_inS, ok_ninS, isi_str, isi_int, isi_bl, isi_non, isi_tup, ok_min, ok_max, kd_index, len4, List.set_cons_zero, List.set_cons_succ, true_and, and_true, Bool.not_true, Bool.not_false, Bool.false_eq_true, if_true, if_false, decide_eq_true_eq, decide_true, Option.map_some, hhi]
  rw [kd_append hr3]
  simp only [ok_ok, ok_bad, ok_exc, ok_pure, ok_mbad, u_kE, u_kbin, u_kcmp, u_kix, u_knotb, u_knot, u_kneg, u_kand, u_kor, u_kite, u_kcons2, u_kcons, u_ktup, u_klst, u_ksl5, u_ksl4, u_ksl3, u_ksl2, u_ksl1, u_kcall2, u_kcall, u_kbi, u_kbm3, u_kbm2, u_kbm1, u_kch3, u_kch2, u_kch1, u_klc3, u_klc2, u_klc1, u_kfld, u_kisi, u_kex, u_kset, u_kasg, u_ksub4, u_ksub3, u_ksub2, u_ksub1, u_kaug2, u_kaug1, u_kas5, u_kas4, u_kas3, u_kas2, u_kas1, u_kret, u_kif, u_kfor2, u_kfor1, kand_t, kand_f, kor_t, kor_f, kite_t, kite_f, kif_t, kif_f, ok_sl', ok_kn, ok_kb, ok_ki, ok_ks, ok_gl', ok_bin', ok_neg', ok_not', ok_cmp', ok_chain', ok_and1, ok_and2, ok_or1, ok_or2, ok_and', ok_or', ok_ite', ok_nil, ok_cons, ok_tup', ok_lst', ok_ix', ok_sli', ok_fld', ok_call', ok_isi', ok_dic', ok_bi', ok_bm', ok_lc', ok_xnil, thenS_nx, thenS_rt, ok_xcons, ok_xex, ok_xset, ok_xasg, ok_xsub, ok_xaug, ok_xaugs, ok_xret, ok_xretn, ok_xpass, ok_xif, ok_xwhl, ok_xfor, ok_gets, ok_opt, ok_opt0, ok_truB, ok_truI, ok_truS, ok_truN, ok_truT, ok_addI, ok_subI, ok_augI, ok_augJ, ok_lt, ok_le, ok_gt, ok_ge, ok_eqI, ok_neI, ok_eqS, ok_neS, g0i, g0b, g0s, g0t, g0o, g0n, endQ_nx, endQ_rt, part_out, part_int, kn_kn, kn_ki, kn_sl, kn_bin, nwl0, nwl1, nwl2, nwl3, nwl4, nwl5, nwl6, nwl7, nwl8, nwl9, nwl10, nwl11, nwl12, mkt0, mkt1, mkt2, mkt3, mkt4, mkt5, mkt6, mkt7, mkt8, ok_sliS, ok_sliT, gd_nil, asg_n, asg_t, asgs_nil, asgs_cons, ok_it_exT, ok_it_exS, ok_noEx, kd_find, kd_islower, kd_upper, kd_lower, kd_join, ok_find, ok_islower, ok_lenS, ok_lenT, ok_abs, ok_intI, ok_intB, ok_tupT, ok_lstT, ok_ixS, ok_ixT, ok_inS, ok_ninS, isi_str, isi_int, isi_bl, isi_non, isi_tup, ok_min, ok_max, kd_index, len4, List.set_cons_zero, List.set_cons_succ, true_and, and_true, Bool.not_true, Bool.not_false, Bool.false_eq_true, if_true, if_false, decide_eq_true_eq, decide_true, Option.map_some, sg_at hlo, sg_at hhi95]
  rw [ok_append hr3, if_pos (by rw [List.length_map, LINE]; omega)]
  simp only [ok_ok, ok_bad, ok_exc, ok_pure, ok_mbad, u_kE, u_kbin, u_kcmp, u_kix, u_knotb, u_knot, u_kneg, u_kand, u_kor, u_kite, u_kcons2, u_kcons, u_ktup, u_klst, u_ksl5, u_ksl4, u_ksl3, u_ksl2, u_ksl1, u_kcall2, u_kcall, u_kbi, u_kbm3, u_kbm2, u_kbm1, u_kch3, u_kch2, u_kch1, u_klc3, u_klc2, u_klc1, u_kfld, u_kisi, u_kex, u_kset, u_kasg, u_ksub4, u_ksub3, u_ksub2, u_ksub1, u_kaug2, u_kaug1, u_kas5, u_kas4, u_kas3, u_kas2, u_kas1, u_kret, u_kif, u_kfor2, u_kfor1, kand_t, kand_f, kor_t, kor_f, kite_t, kite_f, kif_t, kif_f, ok_sl', ok_kn, ok_kb, ok_ki, ok_ks, ok_gl', ok_bin', ok_neg', ok_not', ok_cmp', ok_chain', ok_and1, ok_and2, ok_or1, ok_or2, ok_and', ok_or', ok_ite', ok_nil, ok_cons, ok_tup', ok_lst', ok_ix', ok_sli', ok_fld', ok_call', ok_isi', ok_dic', ok_bi', ok_bm', ok_lc', ok_xnil, thenS_nx, thenS_rt, ok_xcons, ok_xex, ok_xset, ok_xasg, ok_xsub, ok_xaug, ok_xaugs, ok_xret, ok_xretn, ok_xpass, ok_xif, ok_xwhl, ok_xfor, ok_gets, ok_opt, ok_opt0, ok_truB, ok_truI, ok_truS, ok_truN, ok_truT, ok_addI, ok_subI, ok_augI, ok_augJ, ok_lt, ok_le, ok_gt, ok_ge, ok_eqI, ok_neI, ok_eqS, ok_neS, g0i, g0b, g0s, g0t, g0o, g0n, endQ_nx, endQ_rt, part_out, part_int, kn_kn, kn_ki, kn_sl, kn_bin, nwl0, nwl1, nwl2, nwl3, nwl4, nwl5, nwl6, nwl7, nwl8, nwl9, nwl10, nwl11, nwl12, mkt0, mkt1, mkt2, mkt3, mkt4, mkt5, mkt6, mkt7, mkt8, ok_sliS, ok_sliT, gd_nil, asg_n, asg_t, asgs_nil, asgs_cons, ok_it_exT, ok_it_exS, ok_noEx, kd_find, kd_islower, kd_upper, kd_lower, kd_join, ok_find, ok_islower, ok_lenS, ok_lenT, ok_abs, ok_intI, ok_intB, ok_tupT, ok_lstT, ok_ixS, ok_ixT, ok_inS, ok_ninS, isi_str, isi_int, isi_bl, isi_non, isi_tup, ok_min, ok_max, kd_index, len4, List.set_cons_zero, List.set_cons_succ, true_and, and_true, Bool.not_true, Bool.not_false, Bool.false_eq_true, if_true, if_false, decide_eq_true_eq, decide_true, Option.map_some]
  refine q (lo, hi) _ _ _ hlo hhi95 (k3.put hr0 _) (hb3.put hrn hrj _) ?_
  rw [List.getElem?_set_self (List.getElem?_eq_some_iff.mp hr3).1, List.map_append]; rfl
theorem someRows_ok (ht : TkOk D) (ho : OrdOk D) {n j : Nat} {cs : List Int} (hb : Bag S n j cs) {most : Int} (hm0 : 0 ≤ most) (hm1 : most ≤ 1000) (q : ∀ ps S', ROk ps → ps.length ≤ 1000 → Keep n S S' → Bag S' n j cs → Q (rowsW ps) S') :
    Ok (fnM D 7 ts__law_some_rows [.ob n, .int most] S) Q := by
  rw [ok_fn (ρ := [.ob n, .int most, .un, .un, .un, .un, .un]) rfl]
  unfold ts__law_some_rows
  have hn := bag_lt hb
  simp only [ok_ok, ok_bad, ok_exc, ok_pure, ok_mbad, u_kE, u_kbin, u_kcmp, u_kix, u_knotb, u_knot, u_kneg, u_kand, u_kor, u_kite, u_kcons2, u_kcons, u_ktup, u_klst, u_ksl5, u_ksl4, u_ksl3, u_ksl2, u_ksl1, u_kcall2, u_kcall, u_kbi, u_kbm3, u_kbm2, u_kbm1, u_kch3, u_kch2, u_kch1, u_klc3, u_klc2, u_klc1, u_kfld, u_kisi, u_kex, u_kset, u_kasg, u_ksub4, u_ksub3, u_ksub2, u_ksub1, u_kaug2, u_kaug1, u_kas5, u_kas4, u_kas3, u_kas2, u_kas1, u_kret, u_kif, u_kfor2, u_kfor1, kand_t, kand_f, kor_t, kor_f, kite_t, kite_f, kif_t, kif_f, ok_sl', ok_kn, ok_kb, ok_ki, ok_ks, ok_gl', ok_bin', ok_neg', ok_not', ok_cmp', ok_chain', ok_and1, ok_and2, ok_or1, ok_or2, ok_and', ok_or', ok_ite', ok_nil, ok_cons, ok_tup', ok_lst', ok_ix', ok_sli', ok_fld', ok_call', ok_isi', ok_dic', ok_bi', ok_bm', ok_lc', ok_xnil, thenS_nx, thenS_rt, ok_xcons, ok_xex, ok_xset, ok_xasg, ok_xsub, ok_xaug, ok_xaugs, ok_xret, ok_xretn, ok_xpass, ok_xif, ok_xwhl, ok_xfor, ok_gets, ok_opt, ok_opt0, ok_truB, ok_truI, ok_truS, ok_truN, ok_truT, ok_addI, ok_subI, ok_augI, ok_augJ, ok_lt, ok_le, ok_gt, ok_ge, ok_eqI, ok_neI, ok_eqS, ok_neS, g0i, g0b, g0s, g0t, g0o, g0n, endQ_nx, endQ_rt, part_out, part_int, kn_kn, kn_ki, kn_sl, kn_bin, nwl0, nwl1, nwl2, nwl3, nwl4, nwl5, nwl6, nwl7, nwl8, nwl9, nwl10, nwl11, nwl12, mkt0, mkt1, mkt2, mkt3, mkt4, mkt5, mkt6, mkt7, mkt8, ok_sliS, ok_sliT, gd_nil, asg_n, asg_t, asgs_nil, asgs_cons, ok_it_exT, ok_it_exS, ok_noEx, kd_find, kd_islower, kd_upper, kd_lower, kd_join, ok_find, ok_islower, ok_lenS, ok_lenT, ok_abs, ok_intI, ok_intB, ok_tupT, ok_lstT, ok_ixS, ok_ixT, ok_inS, ok_ninS, isi_str, isi_int, isi_bl, isi_non, isi_tup, ok_min, ok_max, kd_index, len4, List.set_cons_zero, List.set_cons_succ, true_and, and_true, Bool.not_true, Bool.not_false, Bool.false_eq_true, if_true, if_false, decide_eq_true_eq, decide_true, Option.map_some, ho.1, ho.2, ht.1]
  refine ht.2 _ _ _ _ _ _ (hb.app _) (by decide) (by decide) fun a S1 a0 a1 sm1 hb1 => ?_
  simp only [ok_ok, ok_bad, ok_exc, ok_pure, ok_mbad, u_kE, u_kbin, u_kcmp, u_kix, u_knotb, u_knot, u_kneg, u_kand, u_kor, u_kite, u_kcons2, u_kcons, u_ktup, u_klst, u_ksl5, u_ksl4, u_ksl3, u_ksl2, u_ksl1, u_kcall2, u_kcall, u_kbi, u_kbm3, u_kbm2, u_kbm1, u_kch3, u_kch2, u_kch1, u_klc3, u_klc2, u_klc1, u_kfld, u_kisi, u_kex, u_kset, u_kasg, u_ksub4, u_ksub3, u_ksub2, u_ksub1, u_kaug2, u_kaug1, u_kas5, u_kas4, u_kas3, u_kas2, u_kas1, u_kret, u_kif, u_kfor2, u_kfor1, kand_t, kand_f, kor_t, kor_f, kite_t, kite_f, kif_t, kif_f, ok_sl', ok_kn, ok_kb, ok_ki, ok_ks, ok_gl', ok_bin', ok_neg', ok_not', ok_cmp', ok_chain', ok_and1, ok_and2, ok_or1, ok_or2, ok_and', ok_or', ok_ite', ok_nil, ok_cons, ok_tup', ok_lst', ok_ix', ok_sli', ok_fld', ok_call', ok_isi', ok_dic', ok_bi', ok_bm', ok_lc', ok_xnil, thenS_nx, thenS_rt, ok_xcons, ok_xex, ok_xset, ok_xasg, ok_xsub, ok_xaug, ok_xaugs, ok_xret, ok_xretn, ok_xpass, ok_xif, ok_xwhl, ok_xfor, ok_gets, ok_opt, ok_opt0, ok_truB, ok_truI, ok_truS, ok_truN, ok_truT, ok_addI, ok_subI, ok_augI, ok_augJ, ok_lt, ok_le, ok_gt, ok_ge, ok_eqI, ok_neI, ok_eqS, ok_neS, g0i, g0b, g0s, g0t, g0o, g0n, endQ_nx, endQ_rt, part_out, part_int, kn_kn, kn_ki, kn_sl, kn_bin, nwl0, nwl1, nwl2, nwl3, nwl4, nwl5, nwl6, nwl7, nwl8, nwl9, nwl10, nwl11, nwl12, mkt0, mkt1, mkt2, mkt3, mkt4, mkt5, mkt6, mkt7, mkt8, ok_sliS, ok_sliT, gd_nil, asg_n, asg_t, asgs_nil, asgs_cons, ok_it_exT, ok_it_exS, ok_noEx, kd_find, kd_islower, kd_upper, kd_lower, kd_join, ok_find, ok_islower, ok_lenS, ok_lenT, ok_abs, ok_intI, ok_intB, ok_tupT, ok_lstT, ok_ixS, ok_ixT, ok_inS, ok_ninS, isi_str, isi_int, isi_bl, isi_non, isi_tup, ok_min, ok_max, kd_index, len4, List.set_cons_zero, List.set_cons_succ, true_and, and_true, Bool.not_true, Bool.not_false, Bool.false_eq_true, if_true, if_false, decide_eq_true_eq, decide_true, Option.map_some, ht.1]
  refine ht.2 _ _ _ _ _ _ hb1 (by omega) (by omega) fun b S2 b0 b1 sm2 hb2 => ?_
  simp only [ok_ok, ok_bad, ok_exc, ok_pure, ok_mbad, u_kE, u_kbin, u_kcmp, u_kix, u_knotb, u_knot, u_kneg, u_kand, u_kor, u_kite, u_kcons2, u_kcons, u_ktup, u_klst, u_ksl5, u_ksl4, u_ksl3, u_ksl2, u_ksl1, u_kcall2, u_kcall, u_kbi, u_kbm3, u_kbm2, u_kbm1, u_kch3, u_kch2, u_kch1, u_klc3, u_klc2, u_klc1, u_kfld, u_kisi, u_kex, u_kset, u_kasg, u_ksub4, u_ksub3, u_ksub2, u_ksub1, u_kaug2, u_kaug1, u_kas5, u_kas4, u_kas3, u_kas2, u_kas1, u_kret, u_kif, u_kfor2, u_kfor1, kand_t, kand_f, kor_t, kor_f, kite_t, kite_f, kif_t, kif_f, ok_sl', ok_kn, ok_kb, ok_ki, ok_ks, ok_gl', ok_bin', ok_neg', ok_not', ok_cmp', ok_chain', ok_and1, ok_and2, ok_or1, ok_or2, ok_and', ok_or', ok_ite', ok_nil, ok_cons, ok_tup', ok_lst', ok_ix', ok_sli', ok_fld', ok_call', ok_isi', ok_dic', ok_bi', ok_bm', ok_lc', ok_xnil, thenS_nx, thenS_rt, ok_xcons, ok_xex, ok_xset, ok_xasg, ok_xsub, ok_xaug, ok_xaugs, ok_xret, ok_xretn, ok_xpass, ok_xif, ok_xwhl, ok_xfor, ok_gets, ok_opt, ok_opt0, ok_truB, ok_truI, ok_truS, ok_truN, ok_truT, ok_addI, ok_subI, ok_augI, ok_augJ, ok_lt, ok_le, ok_gt, ok_ge, ok_eqI, ok_neI, ok_eqS, ok_neS, g0i, g0b, g0s, g0t, g0o, g0n, endQ_nx, endQ_rt, part_out, part_int, kn_kn, kn_ki, kn_sl, kn_bin, nwl0, nwl1, nwl2, nwl3, nwl4, nwl5, nwl6, nwl7, nwl8, nwl9, nwl10, nwl11, nwl12, mkt0, mkt1, mkt2, mkt3, mkt4, mkt5, mkt6, mkt7, mkt8, ok_sliS, ok_sliT, gd_nil, asg_n, asg_t, asgs_nil, asgs_cons, ok_it_exT, ok_it_exS, ok_noEx, kd_find, kd_islower, kd_upper, kd_lower, kd_join, ok_find, ok_islower, ok_lenS, ok_lenT, ok_abs, ok_intI, ok_intB, ok_tupT, ok_lstT, ok_ixS, ok_ixT, ok_inS, ok_ninS, isi_str, isi_int, isi_bl, isi_non, isi_tup, ok_min, ok_max, kd_index, len4, List.set_cons_zero, List.set_cons_succ, true_and, and_true, Bool.not_true, Bool.not_false, Bool.false_eq_true, if_true, if_false, decide_eq_true_eq, decide_true, Option.map_some, ht.1]
  have hn2 := (bag_lt hb2).1
  refine ht.2 _ _ _ _ _ _ (hb2.app _) (by decide) (by decide) fun i S3 i0 i1 sm3 hb3 => ?_
  obtain ⟨c, hc, hcab⟩ := two_in (a := a) (b := b) i0 i1
  simp only [ok_ok, ok_bad, ok_exc, ok_pure, ok_mbad, u_kE, u_kbin, u_kcmp, u_kix, u_knotb, u_knot, u_kneg, u_kand, u_kor, u_kite, u_kcons2, u_kcons, u_ktup, u_klst, u_ksl5, u_ksl4, u_ksl3, u_ksl2, u_ksl1, u_kcall2, u_kcall, u_kbi, u_kbm3, u_kbm2, u_kbm1, u_kch3, u_kch2, u_kch1, u_klc3, u_klc2, u_klc1, u_kfld, u_kisi, u_kex, u_kset, u_kasg, u_ksub4, u_ksub3, u_ksub2, u_ksub1, u_kaug2, u_kaug1, u_kas5, u_kas4, u_kas3, u_kas2, u_kas1, u_kret, u_kif, u_kfor2, u_kfor1, kand_t, kand_f, kor_t, kor_f, kite_t, kite_f, kif_t, kif_f, ok_sl', ok_kn, ok_kb, ok_ki, ok_ks, ok_gl', ok_bin', ok_neg', ok_not', ok_cmp', ok_chain', ok_and1, ok_and2, ok_or1, ok_or2, ok_and', ok_or', ok_ite', ok_nil, ok_cons, ok_tup', ok_lst', ok_ix', ok_sli', ok_fld', ok_call', ok_isi', ok_dic', ok_bi', ok_bm', ok_lc', ok_xnil, thenS_nx, thenS_rt, ok_xcons, ok_xex, ok_xset, ok_xasg, ok_xsub, ok_xaug, ok_xaugs, ok_xret, ok_xretn, ok_xpass, ok_xif, ok_xwhl, ok_xfor, ok_gets, ok_opt, ok_opt0, ok_truB, ok_truI, ok_truS, ok_truN, ok_truT, ok_addI, ok_subI, ok_augI, ok_augJ, ok_lt, ok_le, ok_gt, ok_ge, ok_eqI, ok_neI, ok_eqS, ok_neS, g0i, g0b, g0s, g0t, g0o, g0n, endQ_nx, endQ_rt, part_out, part_int, kn_kn, kn_ki, kn_sl, kn_bin, nwl0, nwl1, nwl2, nwl3, nwl4, nwl5, nwl6, nwl7, nwl8, nwl9, nwl10, nwl11, nwl12, mkt0, mkt1, mkt2, mkt3, mkt4, mkt5, mkt6, mkt7, mkt8, ok_sliS, ok_sliT, gd_nil, asg_n, asg_t, asgs_nil, asgs_cons, ok_it_exT, ok_it_exS, ok_noEx, kd_find, kd_islower, kd_upper, kd_lower, kd_join, ok_find, ok_islower, ok_lenS, ok_lenT, ok_abs, ok_intI, ok_intB, ok_tupT, ok_lstT, ok_ixS, ok_ixT, ok_inS, ok_ninS, isi_str, isi_int, isi_bl, isi_non, isi_tup, ok_min, ok_max, kd_index, len4, List.set_cons_zero, List.set_cons_succ, true_and, and_true, Bool.not_true, Bool.not_false, Bool.false_eq_true, if_true, if_false, decide_eq_true_eq, decide_true, Option.map_some, ok_ixM, new_stays sm3 hn2, hc]
  have c0 : 0 ≤ c ∧ c ≤ 1000 := by rcases hcab with rfl | rfl <;> omega
  rw [ok_it_rng, if_pos (by unfold R62; rw [Bool.and_eq_true, decide_eq_true_eq, decide_eq_true_eq]; omega)]
  simp only [ok_ok, ok_bad, ok_exc, ok_pure, ok_mbad, u_kE, u_kbin, u_kcmp, u_kix, u_knotb, u_knot, u_kneg, u_kand, u_kor, u_kite, u_kcons2, u_kcons, u_ktup, u_klst, u_ksl5, u_ksl4, u_ksl3, u_ksl2, u_ksl1, u_kcall2, u_kcall, u_kbi, u_kbm3, u_kbm2, u_kbm1, u_kch3, u_kch2, u_kch1, u_klc3, u_klc2, u_klc1, u_kfld, u_kisi, u_kex, u_kset, u_kasg, u_ksub4, u_ksub3, u_ksub2, u_ksub1, u_kaug2, u_kaug1, u_kas5, u_kas4, u_kas3, u_kas2, u_kas1, u_kret, u_kif, u_kfor2, u_kfor1, kand_t, kand_f, kor_t, kor_f, kite_t, kite_f, kif_t, kif_f, ok_sl', ok_kn, ok_kb, ok_ki, ok_ks, ok_gl', ok_bin', ok_neg', ok_not', ok_cmp', ok_chain', ok_and1, ok_and2, ok_or1, ok_or2, ok_and', ok_or', ok_ite', ok_nil, ok_cons, ok_tup', ok_lst', ok_ix', ok_sli', ok_fld', ok_call', ok_isi', ok_dic', ok_bi', ok_bm', ok_lc', ok_xnil, thenS_nx, thenS_rt, ok_xcons, ok_xex, ok_xset, ok_xasg, ok_xsub, ok_xaug, ok_xaugs, ok_xret, ok_xretn, ok_xpass, ok_xif, ok_xwhl, ok_xfor, ok_gets, ok_opt, ok_opt0, ok_truB, ok_truI, ok_truS, ok_truN, ok_truT, ok_addI, ok_subI, ok_augI, ok_augJ, ok_lt, ok_le, ok_gt, ok_ge, ok_eqI, ok_neI, ok_eqS, ok_neS, g0i, g0b, g0s, g0t, g0o, g0n, endQ_nx, endQ_rt, part_out, part_int, kn_kn, kn_ki, kn_sl, kn_bin, nwl0, nwl1, nwl2, nwl3, nwl4, nwl5, nwl6, nwl7, nwl8, nwl9, nwl10, nwl11, nwl12, mkt0, mkt1, mkt2, mkt3, mkt4, mkt5, mkt6, mkt7, mkt8, ok_sliS, ok_sliT, gd_nil, asg_n, asg_t, asgs_nil, asgs_cons, ok_it_exT, ok_it_exS, ok_noEx, kd_find, kd_islower, kd_upper, kd_lower, kd_join, ok_find, ok_islower, ok_lenS, ok_lenT, ok_abs, ok_intI, ok_intB, ok_tupT, ok_lstT, ok_ixS, ok_ixT, ok_inS, ok_ninS, isi_str, isi_int, isi_bl, isi_non, isi_tup, ok_min, ok_max, kd_index, len4, List.set_cons_zero, List.set_cons_succ, true_and, and_true, Bool.not_true, Bool.not_false, Bool.false_eq_true, if_true, if_false, decide_eq_true_eq, decide_true, Option.map_some]
  have hr1 : S1[S.length]? = some (.lst []) := new_stays sm1 hn.1
  have hlen1 := sm1.1
  rw [List.length_append] at hlen1
  simp only [List.length_cons, List.length_nil] at hlen1
  have hr3 : S3[S.length]? = some (.lst []) := by
    rw [sm3.2 _ (by omega), List.getElem?_append_left (by rw [sm2.1]; omega), sm2.2 _ (by omega)]
    exact hr1
  have k3 : Keep n S S3 := ((((Keep.app _).trans sm1.keep).trans sm2.keep).trans (Keep.app _)).trans sm3.keep
  refine for_ok (fun i ρ S' => (∃ x4 x5 x6, ρ = [.ob n, .int most, .str gv_SIGNS, .ob S.length, x4, x5, x6]) ∧ Keep n S S' ∧ Bag S' n j cs ∧ ∃ ps, S'[S.length]? = some (.lst (ps.map pairW)) ∧ ROk ps ∧ ps.length = i) (i := 0)
    ⟨⟨_, _, _, rfl⟩, k3, hb3, [], hr3, (fun p h => nomatch h), rfl⟩ (fun i x ρ S' hx hI => ?_) (fun ρ S' hI => ?_)
  · obtain ⟨⟨x4, x5, x6, rfl⟩, k4, hb4, ps, hps, hro, hpl⟩ := hI
    obtain ⟨rfl, hi⟩ := rng_get hx
    refine ⟨gd_nil, _, (asg_n _ _ _).trans (if_pos (by simp)), ?_⟩
    simp only [List.set_cons_zero, List.set_cons_succ]
    refine some_body ht k4 (Nat.le_refl _) (by omega) (by omega) hb4 (by omega) hps fun p y5 y6 S5 p1 p2 k5 hb5 hr5 => ?_
    refine ⟨⟨_, _, _, rfl⟩, k5, hb5, _, hr5, fun p' hp' => ?_, by rw [List.length_append, hpl]; rfl⟩
    rcases List.mem_append.mp hp' with h | h
    · exact hro p' h
    · rw [List.mem_singleton.mp h]; exact ⟨p1, p2⟩
  · obtain ⟨⟨x4, x5, x6, rfl⟩, k4, hb4, ps, hps, hro, hpl⟩ := hI
    refine ⟨gd_nil, ?_⟩
    rw [rng_len] at hpl
    simp only [ok_ok, ok_bad, ok_exc, ok_pure, ok_mbad, u_kE, u_kbin, u_kcmp, u_kix, u_knotb, u_knot, u_kneg, u_kand, u_kor, u_kite, u_kcons2, u_kcons, u_ktup, u_klst, u_ksl5, u_ksl4, u_ksl3, u_ksl2, u_ksl1, u_kcall2, u_kcall, u_kbi, u_kbm3, u_kbm2, u_kbm1, u_kch3, u_kch2, u_kch1, u_klc3, u_klc2, u_klc1, u_kfld, u_kisi, u_kex, u_kset, u_kasg, u_ksub4, u_ksub3, u_ksub2, u_ksub1, u_kaug2, u_kaug1, u_kas5, u_kas4, u_kas3, u_kas2, u_kas1, u_kret, u_kif, u_kfor2, u_kfor1, kand_t, kand_f, kor_t, kor_f, kite_t, kite_f, kif_t, kif_f, ok_sl', ok_kn, ok_kb, ok_ki, ok_ks, ok_gl', ok_bin', ok_neg', ok_not', ok_cmp', ok_chain', ok_and1, ok_and2, ok_or1, ok_or2, ok_and', ok_or', ok_ite', ok_nil, ok_cons, ok_tup', ok_lst', ok_ix', ok_sli', ok_fld', ok_call', ok_isi', ok_dic', ok_bi', ok_bm', ok_lc', ok_xnil, thenS_nx, thenS_rt, ok_xcons, ok_xex, ok_xset, ok_xasg, ok_xsub, ok_xaug, ok_xaugs, ok_xret, ok_xretn, ok_xpass, ok_xif, ok_xwhl, ok_xfor, ok_gets, ok_opt, ok_opt0, ok_truB, ok_truI, ok_truS, ok_truN, ok_truT, ok_addI, ok_subI, ok_augI, ok_augJ, ok_lt, ok_le, ok_gt, ok_ge, ok_eqI, ok_neI, ok_eqS, ok_neS, g0i, g0b, g0s, g0t, g0o, g0n, endQ_nx, endQ_rt, part_out, part_int, kn_kn, kn_ki, kn_sl, kn_bin, nwl0, nwl1, nwl2, nwl3, nwl4, nwl5, nwl6, nwl7, nwl8, nwl9, nwl10, nwl11, nwl12, mkt0, mkt1, mkt2, mkt3, mkt4, mkt5, mkt6, mkt7, mkt8, ok_sliS, ok_sliT, gd_nil, asg_n, asg_t, asgs_nil, asgs_cons, ok_it_exT, ok_it_exS, ok_noEx, kd_find, kd_islower, kd_upper, kd_lower, kd_join, ok_find, ok_islower, ok_lenS, ok_lenT, ok_abs, ok_intI, ok_intB, ok_tupT, ok_lstT, ok_ixS, ok_ixT, ok_inS, ok_ninS, isi_str, isi_int, isi_bl, isi_non, isi_tup, ok_min, ok_max, kd_index, len4, List.set_cons_zero, List.set_cons_succ, true_and, and_true, Bool.not_true, Bool.not_false, Bool.false_eq_true, if_true, if_false, decide_eq_true_eq, decide_true, Option.map_some]
    rw [ok_tupO (.inl hps)]
    simp only [ok_ok, ok_bad, ok_exc, ok_pure, ok_mbad, u_kE, u_kbin, u_kcmp, u_kix, u_knotb, u_knot, u_kneg, u_kand, u_kor, u_kite, u_kcons2, u_kcons, u_ktup, u_klst, u_ksl5, u_ksl4, u_ksl3, u_ksl2, u_ksl1, u_kcall2, u_kcall, u_kbi, u_kbm3, u_kbm2, u_kbm1, u_kch3, u_kch2, u_kch1, u_klc3, u_klc2, u_klc1, u_kfld, u_kisi, u_kex, u_kset, u_kasg, u_ksub4, u_ksub3, u_ksub2, u_ksub1, u_kaug2, u_kaug1, u_kas5, u_kas4, u_kas3, u_kas2, u_kas1, u_kret, u_kif, u_kfor2, u_kfor1, kand_t, kand_f, kor_t, kor_f, kite_t, kite_f, kif_t, kif_f, ok_sl', ok_kn, ok_kb, ok_ki, ok_ks, ok_gl', ok_bin', ok_neg', ok_not', ok_cmp', ok_chain', ok_and1, ok_and2, ok_or1, ok_or2, ok_and', ok_or', ok_ite', ok_nil, ok_cons, ok_tup', ok_lst', ok_ix', ok_sli', ok_fld', ok_call', ok_isi', ok_dic', ok_bi', ok_bm', ok_lc', ok_xnil, thenS_nx, thenS_rt, ok_xcons, ok_xex, ok_xset, ok_xasg, ok_xsub, ok_xaug, ok_xaugs, ok_xret, ok_xretn, ok_xpass, ok_xif, ok_xwhl, ok_xfor, ok_gets, ok_opt, ok_opt0, ok_truB, ok_truI, ok_truS, ok_truN, ok_truT, ok_addI, ok_subI, ok_augI, ok_augJ, ok_lt, ok_le, ok_gt, ok_ge, ok_eqI, ok_neI, ok_eqS, ok_neS, g0i, g0b, g0s, g0t, g0o, g0n, endQ_nx, endQ_rt, part_out, part_int, kn_kn, kn_ki, kn_sl, kn_bin, nwl0, nwl1, nwl2, nwl3, nwl4, nwl5, nwl6, nwl7, nwl8, nwl9, nwl10, nwl11, nwl12, mkt0, mkt1, mkt2, mkt3, mkt4, mkt5, mkt6, mkt7, mkt8, ok_sliS, ok_sliT, gd_nil, asg_n, asg_t, asgs_nil, asgs_cons, ok_it_exT, ok_it_exS, ok_noEx, kd_find, kd_islower, kd_upper, kd_lower, kd_join, ok_find, ok_islower, ok_lenS, ok_lenT, ok_abs, ok_intI, ok_intB, ok_tupT, ok_lstT, ok_ixS, ok_ixT, ok_inS, ok_ninS, isi_str, isi_int, isi_bl, isi_non, isi_tup, ok_min, ok_max, kd_index, len4, List.set_cons_zero, List.set_cons_succ, true_and, and_true, Bool.not_true, Bool.not_false, Bool.false_eq_true, if_true, if_false, decide_eq_true_eq, decide_true, Option.map_some]
    exact q ps _ hro (by omega) k4 hb4
/-! ### rows as data -/
theorem sgN_lt (k : Nat) : sgN k < 1114112 := by
  unfold sgN
  rw [List.getD_eq_getElem?_getD]
  cases e : gv_SIGNS[k]? with
  | none => decide
  | some c =>
    have h : ∀ c ∈ gv_SIGNS, c < 1114112 := by decide +kernel
    exact h c (List.mem_of_getElem? e)
def pairD (p : Nat × Nat) : PyData := .tuple [.str (toS [sgN p.1]), .str (toS [sgN p.2])]
def rowsD (ps : List (Nat × Nat)) : PyData := .tuple (ps.map pairD)
theorem mapO_pair (ps : List (Nat × Nat)) : mapO (rd S 149) (ps.map pairW) = some (ps.map pairD) := by
  induction ps with
  | nil => rfl
  | cons p r ih =>
    have h1 : rd S 149 (pairW p) = some (pairD p) := rfl
    simp only [List.map_cons, mapO, h1, ih]
theorem rd_rows (ps : List (Nat × Nat)) : rd S DEEP (rowsW ps) = some (rowsD ps) := by
  show (mapO (rd S 149) (ps.map pairW)).map PyData.tuple = _
  rw [mapO_pair]; rfl
theorem one_strOk (k : Nat) : PyData.strOk (toS [sgN k]) = true := by
  simp only [PyData.strOk, toS, List.all_toArray, List.all_cons, List.all_nil, Bool.and_true, decide_eq_true_eq]
  exact sgN_lt k
theorem rows_lay (ps : List (Nat × Nat)) : (rowsD ps).canLay0 = true := by
  simp only [rowsD, PyData.canLay0]
  induction ps with
  | nil => rfl
  | cons p r ih => simp only [List.map_cons, PyData.canLayAll0, pairD, PyData.canLay0, one_strOk, Bool.and_self, ih, Bool.true_and]
theorem rows_show (ps : List (Nat × Nat)) : (rowsD ps).showable = true := by
  simp only [rowsD, PyData.showable]
  induction ps with
  | nil => rfl
  | cons p r ih => simp only [List.map_cons, PyData.showableAll, pairD, PyData.showable, Bool.and_self, ih, Bool.true_and]
theorem rows_dw (ps : List (Nat × Nat)) : dw (rowsD ps) = 33 * ps.length + 3 := by
  have h : ∀ l : List (Nat × Nat), dws (l.map pairD) = 33 * l.length := fun l => by
    induction l with
    | nil => rfl
    | cons p r ih =>
      have e : ∀ k, (toS [sgN k]).length = 1 := fun k => by simp [toS, Str.length]
      simp only [List.map_cons, dws, pairD, dw, e, ih, List.length_cons]
      omega
  simp only [rowsD, dw, h]
def boolsD (bs : List Bool) : PyData := .list (bs.map .bool)
theorem rd_bools {a : Nat} {bs : List Bool} {k : Nat} (h : LstAt S a (bs.map W.bl)) : rd S (k + 2) (.ob a) = some (boolsD bs) := by
  have hf : (bs.map W.bl).all flatW = true := by
    rw [List.all_map]
    exact List.all_eq_true.mpr fun _ _ => rfl
  rw [rd_lst h, mapO_flat hf, List.map_map]; rfl
theorem bools_lay (bs : List Bool) : (boolsD bs).canLay0 = true := by
  simp only [boolsD, PyData.canLay0]
  induction bs with
  | nil => rfl
  | cons b r ih => simp only [List.map_cons, PyData.canLayAll0, PyData.canLay0, ih, Bool.and_self]
theorem bools_show (bs : List Bool) : (boolsD bs).showable = true := by
  simp only [boolsD, PyData.showable]
  induction bs with
  | nil => rfl
  | cons b r ih => simp only [List.map_cons, PyData.showableAll, PyData.showable, ih, Bool.and_self]
theorem bools_dw (bs : List Bool) : dw (boolsD bs) = 7 * bs.length + 2 := by
  have : ∀ l : List Bool, dws (l.map .bool) = 7 * l.length := fun l => by
    induction l with
    | nil => rfl
    | cons b r ih => simp only [List.map_cons, dws, dw, ih, List.length_cons]; omega
  simp only [boolsD, dw, this]
/-- what the law's comparison tells of what is read alike -/
def AlkOk (D : Wd) : Prop := nm__law_alike ∈ D.fns ∧ ∀ (x y : W) (d : PyData) (Q : W → Sto → Prop) (S : Sto), rd S DEEP x = some d → rd S DEEP y = some d → d.canLay0 = true → d.showable = true → dw d ≤ LINE → ((∃ n, x = .ob n) ∨ ∃ xs, x = .tup xs) → x ≠ .un → y ≠ .un →
  Ok (D.cf nm__law_alike [x, y] [] [] S) Q = Q (.bl true) S
theorem alk_rows (h : AlkOk D) {ps : List (Nat × Nat)} (hl : ps.length ≤ 100000) : Ok (D.cf nm__law_alike [rowsW ps, rowsW ps] [] [] S) Q = Q (.bl true) S :=
  h.2 _ _ (rowsD ps) _ _ (rd_rows ps) (rd_rows ps) (rows_lay ps) (rows_show ps) (by rw [rows_dw, LINE]; omega) (.inr ⟨_, rfl⟩) (fun z => nomatch z) (fun z => nomatch z)
/-- two lists of two tables -/
theorem alk_tables (h : AlkOk D) {a b x1 x2 y1 y2 : Nat} {f : Nat → Bool} (ha : S[a]? = some (.lst [.ob x1, .ob x2])) (hb : S[b]? = some (.lst [.ob y1, .ob y2])) (h1 : LstAt S x1 ((tab f).map W.bl)) (h2 : LstAt S x2 ((tab f).map W.bl)) (h3 : LstAt S y1 ((tab f).map W.bl)) (h4 : LstAt S y2 ((tab f).map W.bl)) :
    Ok (D.cf nm__law_alike [.ob a, .ob b] [] [] S) Q = Q (.bl true) S := by
  have two : ∀ {a x y : Nat}, S[a]? = some (.lst [.ob x, .ob y]) → LstAt S x ((tab f).map W.bl) → LstAt S y ((tab f).map W.bl) → rd S DEEP (.ob a) = some (.list [boolsD (tab f), boolsD (tab f)]) := fun {a x y} ha hx hy => by
    show rd S (149 + 1) _ = _
    rw [rd_lst (.inl ha)]
    simp only [mapO, show (149 : Nat) = 147 + 2 from rfl, rd_bools hx, rd_bools hy]
    rfl
  refine h.2 _ _ (.list [boolsD (tab f), boolsD (tab f)]) _ _ (two ha h1 h2) (two hb h3 h4) ?_ ?_ ?_ (.inl ⟨_, rfl⟩) (fun z => nomatch z) (fun z => nomatch z)
  · simp only [PyData.canLay0, PyData.canLayAll0, bools_lay, Bool.and_self]
  · simp only [PyData.showable, PyData.showableAll, bools_show, Bool.and_self]
  · simp only [dw, dws, bools_dw, tab_len, LINE]
    omega
theorem fnd_congr {f g : Nat → Bool} : ∀ n : Nat, (∀ k, k < n → f k = g k) → fnd f n = fnd g n
  | 0, _ => rfl
  | n + 1, h => by
    have ih := fnd_congr n fun k hk => h k (by omega)
    rw [fnd_step, fnd_step, ih, h n (Nat.lt_succ_self _)]
    by_cases h0 : 0 < n
    · rw [h (n - 1) (by omega)]
    · rw [decide_eq_false h0, Bool.false_and, Bool.false_and]
theorem rowsUp_again (f : Nat → Bool) : rowsUp (covers (rowsUp f)) = rowsUp f := fnd_congr 95 fun k hk => by
  unfold rowsUp
  rw [fnd_covers, decide_eq_true hk, Bool.true_and]
theorem rowsUp_len (f : Nat → Bool) : (rowsUp f).length ≤ 95 := fnd_len 95
/-- each sign asked whether it is held -/
def HoldsOk (D : Wd) : Prop := nm_holds ∈ D.fns ∧ ∀ (ps : List (Nat × Nat)) (k : Nat) (Q : W → Sto → Prop) (S : Sto), ROk ps → ps.length ≤ LINE → k < 95 → (∀ T, Q (.bl (covers ps k)) (S ++ T)) → Ok (D.cf nm_holds [rowsW ps, .str [sgN k]] [] [] S) Q
theorem signs_len : gv_SIGNS.length = 95 := by decide
theorem signs_get {i : Nat} {x : W} (h : (gv_SIGNS.map fun c => W.str [c])[i]? = some x) : i < 95 ∧ x = .str [sgN i] := by
  rw [List.getElem?_map, Option.map_eq_some_iff] at h
  obtain ⟨c, hc, rfl⟩ := h
  have hl := (List.getElem?_eq_some_iff.mp hc).1
  rw [signs_len] at hl
  refine ⟨hl, ?_⟩
  unfold sgN
  rw [List.getD_eq_getElem?_getD, hc]; rfl
theorem told_lc (h : HoldsOk D) {ps : List (Nat × Nat)} (hp : ROk ps) (hl : ps.length ≤ LINE) {e : E} {x0 x1 x2 x3 x4 x5 : W} (he : ∀ (w : W) (K : W → Sto → Prop) (s : Sto), Ok (ev D e [x0, x1, x2, x3, x4, x5, w] s) K = K (rowsW ps) s) {K : Unit → Sto → Prop}
    (q : ∀ U : Sto, U[0]? = some (.lst ((tab (covers ps)).map W.bl)) → K () (S ++ U)) :
    Ok (lcGo (.n 6) (evAll D []) (ev D (.call nm_holds [e, .sl 6] [] [])) [] [x0, x1, x2, x3, x4, x5, .un] S.length (gv_SIGNS.map fun c => .str [c]) (S ++ [.lst []])) K := by
  refine lc_ok (fun i acc s => acc = ((List.range i).map (covers ps)).map W.bl ∧ ∃ U : Sto, s = S ++ U ∧ U[0]? = some (.lst acc)) (i := 0) (acc := []) ⟨rfl, _, rfl, rfl⟩ (fun _ _ _ _ => rfl) (fun j x acc s hx hI => ?_) (fun acc s hI => ?_)
  · obtain ⟨h1, U, rfl, hU⟩ := hI
    obtain ⟨hj, rfl⟩ := signs_get hx
    refine ⟨[x0, x1, x2, x3, x4, x5, .str [sgN j]], by simp, ?_⟩
    simp only [evAll]
    simp only [ok_ok, ok_bad, ok_exc, ok_pure, ok_mbad, u_kE, u_kbin, u_kcmp, u_kix, u_knotb, u_knot, u_kneg, u_kand, u_kor, u_kite, u_kcons2, u_kcons, u_ktup, u_klst, u_ksl5, u_ksl4, u_ksl3, u_ksl2, u_ksl1, u_kcall2, u_kcall, u_kbi, u_kbm3, u_kbm2, u_kbm1, u_kch3, u_kch2, u_kch1, u_klc3, u_klc2, u_klc1, u_kfld, u_kisi, u_kex, u_kset, u_kasg, u_ksub4, u_ksub3, u_ksub2, u_ksub1, u_kaug2, u_kaug1, u_kas5, u_kas4, u_kas3, u_kas2, u_kas1, u_kret, u_kif, u_kfor2, u_kfor1, kand_t, kand_f, kor_t, kor_f, kite_t, kite_f, kif_t, kif_f, ok_sl', ok_kn, ok_kb, ok_ki, ok_ks, ok_gl', ok_bin', ok_neg', ok_not', ok_cmp', ok_chain', ok_and1, ok_and2, ok_or1, ok_or2, ok_and', ok_or', ok_ite', ok_nil, ok_cons, ok_tup', ok_lst', ok_ix', ok_sli', ok_fld', ok_call', ok_isi', ok_dic', ok_bi', ok_bm', ok_lc', ok_xnil, thenS_nx, thenS_rt, ok_xcons, ok_xex, ok_xset, ok_xasg, ok_xsub, ok_xaug, ok_xaugs, ok_xret, ok_xretn, ok_xpass, ok_xif, ok_xwhl, ok_xfor, ok_gets, ok_opt, ok_opt0, ok_truB, ok_truI, ok_truS, ok_truN, ok_truT, ok_addI, ok_subI, ok_augI, ok_augJ, ok_lt, ok_le, ok_gt, ok_ge, ok_eqI, ok_neI, ok_eqS, ok_neS, g0i, g0b, g0s, g0t, g0o, g0n, endQ_nx, endQ_rt, part_out, part_int, kn_kn, kn_ki, kn_sl, kn_bin, nwl0, nwl1, nwl2, nwl3, nwl4, nwl5, nwl6, nwl7, nwl8, nwl9, nwl10, nwl11, nwl12, mkt0, mkt1, mkt2, mkt3, mkt4, mkt5, mkt6, mkt7, mkt8, ok_sliS, ok_sliT, gd_nil, asg_n, asg_t, asgs_nil, asgs_cons, ok_it_exT, ok_it_exS, ok_noEx, kd_find, kd_islower, kd_upper, kd_lower, kd_join, ok_find, ok_islower, ok_lenS, ok_lenT, ok_abs, ok_intI, ok_intB, ok_tupT, ok_lstT, ok_ixS, ok_ixT, ok_inS, ok_ninS, isi_str, isi_int, isi_bl, isi_non, isi_tup, ok_min, ok_max, kd_index, len4, List.set_cons_zero, List.set_cons_succ, true_and, and_true, Bool.not_true, Bool.not_false, Bool.false_eq_true, if_true, if_false, decide_eq_true_eq, decide_true, Option.map_some, he, h.1]
    refine h.2 _ _ _ _ hp hl hj fun T => ?_
    have hU0 := (List.getElem?_eq_some_iff.mp hU).1
    refine ⟨acc, ?_, ?_, ?_, ?_⟩
    · rw [List.append_assoc, List.getElem?_append_right (Nat.le_refl _), Nat.sub_self, List.getElem?_append_left hU0]; exact hU
    · rw [h1, List.length_map, List.length_map, List.length_range, LINE]; omega
    · rw [h1, Nat.zero_add, List.range_succ, List.map_append, List.map_append]; rfl
    · refine ⟨(U ++ T).set 0 (.lst (acc ++ [.bl (covers ps j)])), ?_, List.getElem?_set_self (by rw [List.length_append]; omega)⟩
      rw [List.append_assoc, List.set_append_right _ _ (Nat.le_refl _), Nat.sub_self]
  · obtain ⟨h1, U, rfl, hU⟩ := hI
    rw [Nat.zero_add, List.length_map, signs_len] at h1
    subst h1
    exact q U hU
end
end At

set_option Elab.async false
set_option linter.all false
set_option maxRecDepth 100000
set_option maxHeartbeats 4000000
namespace LawK13
open PySem PySem.Spec PyProof.Rows L2 At
def d_rank : Df := ⟨nm_rank, ["sign"], 1, ts_rank⟩
def d_sign_of : Df := ⟨nm_sign_of, ["number"], 1, ts_sign_of⟩
def d_held_by : Df := ⟨nm_held_by, ["rows", "held", "low", "high", "number"], 1, ts_held_by⟩
def d_rows_of : Df := ⟨nm_rows_of, ["held", "found", "ahead", "number", "here", "low", "high"], 1, ts_rows_of⟩
def d_settled : Df := ⟨nm_settled, ["rows"], 1, ts_settled⟩
def d_holds : Df := ⟨nm_holds, ["rows", "sign", "number", "low", "high"], 2, ts_holds⟩
def d__law_bag : Df := ⟨nm__law_bag, ["_law_script", "_law_cell"], 1, ts__law_bag⟩
def d__law_take : Df := ⟨nm__law_take, ["_law_bag_here", "_law_many", "_law_first", "_law_second", "_law_cell", "_law_value"], 2, ts__law_take⟩
def d__law_order : Df := ⟨nm__law_order, ["_law_letters", "_law_others"], 0, ts__law_order⟩
def d__law_rank : Df := ⟨nm__law_rank, ["_law_sign"], 1, ts__law_rank⟩
def d__law_alike : Df := ⟨nm__law_alike, ["_law_found", "_law_due"], 2, ts__law_alike⟩
def d__law_some_rows : Df := ⟨nm__law_some_rows, ["_law_bag_here", "_law_most", "_law_order_here", "_law_rows", "_law_k", "_law_low", "_law_high"], 2, ts__law_some_rows⟩
def d__law_truths : Df := ⟨nm__law_truths, ["_law_rows", "_law_bounds", "_law_held", "_law_number", "_law_low", "_law_high"], 1, ts__law_truths⟩
def d__law_settled : Df := ⟨nm__law_settled, ["_law_held", "_law_order_here", "_law_lows", "_law_highs", "_law_k", "_law_low", "_law_high"], 1, ts__law_settled⟩
def d__law_right : Df := ⟨nm__law_right, ["_law_rows", "_law_held", "_law_due", "_law_found", "_law_order_here", "_law_told", "_law_sign"], 1, [
  .set 1 (.call nm__law_truths [(.sl 0)] [] []),
  .set 2 (.call nm__law_settled [(.sl 1)] [] []),
  .set 3 (.call nm_settled [(.sl 0)] [] []),
  .ife (.or [(.not (.call nm__law_alike [(.sl 3), (.sl 2)] [] [])), (.not (.call nm__law_alike [(.call nm_settled [(.sl 3)] [] []), (.sl 2)] [] []))]) [.ret (.kb false)] [],
  .set 4 (.call nm__law_order [] [] []),
  .set 5 (.lst [(.lc (.n 6) [6] .ex [(.sl 4)] [] (.call nm_holds [(.sl 0), (.sl 6)] [] [])), (.lc (.n 6) [6] .ex [(.sl 4)] [] (.call nm_holds [(.sl 2), (.sl 6)] [] []))]),
  .ret (.call nm__law_alike [(.sl 5), (.lst [(.sl 1), (.sl 1)])] [] [])]⟩
def d_law : Df := ⟨nm_law, ["_law_script", "_law_bag_here", "_law_some", "_law_rows", "_law_k"], 1, [
  .set 1 (.call nm__law_bag [(.sl 0)] [] []),
  .set 2 (.lc (.n 4) [4] .rng [(.ki 6)] [] (.call nm__law_some_rows [(.sl 1), (.ki 95)] [] [])),
  .ife (.not (.call nm__law_alike [(.call nm_settled [(.tup [])] [] []), (.tup [])] [] [])) [.ret (.kb false)] [],
  .for (.n 3) .ex [(.bin .add (.sl 2) (.sli (.sl 2) .kn (.bin .add (.ki 1) (.call nm__law_take [(.sl 1), (.ki 5)] [] []))))] [.ife (.not (.call nm__law_right [(.sl 3)] [] [])) [.ret (.kb false)] []],
  .ret (.kb true)]⟩
def gv (x : Nm) : Option W :=
  if x = nm_SIGNS then some (.str gv_SIGNS) else none
def ds : List Df := [d_rank, d_sign_of, d_held_by, d_rows_of, d_settled, d_holds, d__law_bag, d__law_take, d__law_order, d__law_rank, d__law_alike, d__law_some_rows, d__law_truths, d__law_settled, d__law_right, d_law]
noncomputable def DD (k : Nat) : Wd := mkD gv ds k
theorem cf_rank (k : Nat) (ws : List W) (h : ws.length = 1) : (DD (k + 1)).cf nm_rank ws [] [] = fnM (DD k) d_rank.N.length d_rank.ts ws := by
  show (match ds.find? (fun d => decide (d.nm = nm_rank)) with
    | some d => posM d.np (fnM (mkD gv ds k) d.N.length d.ts) [] ws []
    | none => M.bad) = _
  rw [show ds.find? (fun d => decide (d.nm = nm_rank)) = some d_rank from by rfl]
  exact if_pos ⟨h, rfl, rfl⟩
theorem cf_sign_of (k : Nat) (ws : List W) (h : ws.length = 1) : (DD (k + 1)).cf nm_sign_of ws [] [] = fnM (DD k) d_sign_of.N.length d_sign_of.ts ws := by
  show (match ds.find? (fun d => decide (d.nm = nm_sign_of)) with
    | some d => posM d.np (fnM (mkD gv ds k) d.N.length d.ts) [] ws []
    | none => M.bad) = _
  rw [show ds.find? (fun d => decide (d.nm = nm_sign_of)) = some d_sign_of from by rfl]
  exact if_pos ⟨h, rfl, rfl⟩
theorem cf_held_by (k : Nat) (ws : List W) (h : ws.length = 1) : (DD (k + 1)).cf nm_held_by ws [] [] = fnM (DD k) d_held_by.N.length d_held_by.ts ws := by
  show (match ds.find? (fun d => decide (d.nm = nm_held_by)) with
    | some d => posM d.np (fnM (mkD gv ds k) d.N.length d.ts) [] ws []
    | none => M.bad) = _
  rw [show ds.find? (fun d => decide (d.nm = nm_held_by)) = some d_held_by from by rfl]
  exact if_pos ⟨h, rfl, rfl⟩
theorem cf_rows_of (k : Nat) (ws : List W) (h : ws.length = 1) : (DD (k + 1)).cf nm_rows_of ws [] [] = fnM (DD k) d_rows_of.N.length d_rows_of.ts ws := by
  show (match ds.find? (fun d => decide (d.nm = nm_rows_of)) with
    | some d => posM d.np (fnM (mkD gv ds k) d.N.length d.ts) [] ws []
    | none => M.bad) = _
  rw [show ds.find? (fun d => decide (d.nm = nm_rows_of)) = some d_rows_of from by rfl]
  exact if_pos ⟨h, rfl, rfl⟩
theorem cf_settled (k : Nat) (ws : List W) (h : ws.length = 1) : (DD (k + 1)).cf nm_settled ws [] [] = fnM (DD k) d_settled.N.length d_settled.ts ws := by
  show (match ds.find? (fun d => decide (d.nm = nm_settled)) with
    | some d => posM d.np (fnM (mkD gv ds k) d.N.length d.ts) [] ws []
    | none => M.bad) = _
  rw [show ds.find? (fun d => decide (d.nm = nm_settled)) = some d_settled from by rfl]
  exact if_pos ⟨h, rfl, rfl⟩
theorem cf_holds (k : Nat) (ws : List W) (h : ws.length = 2) : (DD (k + 1)).cf nm_holds ws [] [] = fnM (DD k) d_holds.N.length d_holds.ts ws := by
  show (match ds.find? (fun d => decide (d.nm = nm_holds)) with
    | some d => posM d.np (fnM (mkD gv ds k) d.N.length d.ts) [] ws []
    | none => M.bad) = _
  rw [show ds.find? (fun d => decide (d.nm = nm_holds)) = some d_holds from by rfl]
  exact if_pos ⟨h, rfl, rfl⟩
theorem cf__law_bag (k : Nat) (ws : List W) (h : ws.length = 1) : (DD (k + 1)).cf nm__law_bag ws [] [] = fnM (DD k) d__law_bag.N.length d__law_bag.ts ws := by
  show (match ds.find? (fun d => decide (d.nm = nm__law_bag)) with
    | some d => posM d.np (fnM (mkD gv ds k) d.N.length d.ts) [] ws []
    | none => M.bad) = _
  rw [show ds.find? (fun d => decide (d.nm = nm__law_bag)) = some d__law_bag from by rfl]
  exact if_pos ⟨h, rfl, rfl⟩
theorem cf__law_take (k : Nat) (ws : List W) (h : ws.length = 2) : (DD (k + 1)).cf nm__law_take ws [] [] = fnM (DD k) d__law_take.N.length d__law_take.ts ws := by
  show (match ds.find? (fun d => decide (d.nm = nm__law_take)) with
    | some d => posM d.np (fnM (mkD gv ds k) d.N.length d.ts) [] ws []
    | none => M.bad) = _
  rw [show ds.find? (fun d => decide (d.nm = nm__law_take)) = some d__law_take from by rfl]
  exact if_pos ⟨h, rfl, rfl⟩
theorem cf__law_order (k : Nat) (ws : List W) (h : ws.length = 0) : (DD (k + 1)).cf nm__law_order ws [] [] = fnM (DD k) d__law_order.N.length d__law_order.ts ws := by
  show (match ds.find? (fun d => decide (d.nm = nm__law_order)) with
    | some d => posM d.np (fnM (mkD gv ds k) d.N.length d.ts) [] ws []
    | none => M.bad) = _
  rw [show ds.find? (fun d => decide (d.nm = nm__law_order)) = some d__law_order from by rfl]
  exact if_pos ⟨h, rfl, rfl⟩
theorem cf__law_rank (k : Nat) (ws : List W) (h : ws.length = 1) : (DD (k + 1)).cf nm__law_rank ws [] [] = fnM (DD k) d__law_rank.N.length d__law_rank.ts ws := by
  show (match ds.find? (fun d => decide (d.nm = nm__law_rank)) with
    | some d => posM d.np (fnM (mkD gv ds k) d.N.length d.ts) [] ws []
    | none => M.bad) = _
  rw [show ds.find? (fun d => decide (d.nm = nm__law_rank)) = some d__law_rank from by rfl]
  exact if_pos ⟨h, rfl, rfl⟩
theorem cf__law_alike (k : Nat) (ws : List W) (h : ws.length = 2) : (DD (k + 1)).cf nm__law_alike ws [] [] = fnM (DD k) d__law_alike.N.length d__law_alike.ts ws := by
  show (match ds.find? (fun d => decide (d.nm = nm__law_alike)) with
    | some d => posM d.np (fnM (mkD gv ds k) d.N.length d.ts) [] ws []
    | none => M.bad) = _
  rw [show ds.find? (fun d => decide (d.nm = nm__law_alike)) = some d__law_alike from by rfl]
  exact if_pos ⟨h, rfl, rfl⟩
theorem cf__law_some_rows (k : Nat) (ws : List W) (h : ws.length = 2) : (DD (k + 1)).cf nm__law_some_rows ws [] [] = fnM (DD k) d__law_some_rows.N.length d__law_some_rows.ts ws := by
  show (match ds.find? (fun d => decide (d.nm = nm__law_some_rows)) with
    | some d => posM d.np (fnM (mkD gv ds k) d.N.length d.ts) [] ws []
    | none => M.bad) = _
  rw [show ds.find? (fun d => decide (d.nm = nm__law_some_rows)) = some d__law_some_rows from by rfl]
  exact if_pos ⟨h, rfl, rfl⟩
theorem cf__law_truths (k : Nat) (ws : List W) (h : ws.length = 1) : (DD (k + 1)).cf nm__law_truths ws [] [] = fnM (DD k) d__law_truths.N.length d__law_truths.ts ws := by
  show (match ds.find? (fun d => decide (d.nm = nm__law_truths)) with
    | some d => posM d.np (fnM (mkD gv ds k) d.N.length d.ts) [] ws []
    | none => M.bad) = _
  rw [show ds.find? (fun d => decide (d.nm = nm__law_truths)) = some d__law_truths from by rfl]
  exact if_pos ⟨h, rfl, rfl⟩
theorem cf__law_settled (k : Nat) (ws : List W) (h : ws.length = 1) : (DD (k + 1)).cf nm__law_settled ws [] [] = fnM (DD k) d__law_settled.N.length d__law_settled.ts ws := by
  show (match ds.find? (fun d => decide (d.nm = nm__law_settled)) with
    | some d => posM d.np (fnM (mkD gv ds k) d.N.length d.ts) [] ws []
    | none => M.bad) = _
  rw [show ds.find? (fun d => decide (d.nm = nm__law_settled)) = some d__law_settled from by rfl]
  exact if_pos ⟨h, rfl, rfl⟩
theorem cf__law_right (k : Nat) (ws : List W) (h : ws.length = 1) : (DD (k + 1)).cf nm__law_right ws [] [] = fnM (DD k) d__law_right.N.length d__law_right.ts ws := by
  show (match ds.find? (fun d => decide (d.nm = nm__law_right)) with
    | some d => posM d.np (fnM (mkD gv ds k) d.N.length d.ts) [] ws []
    | none => M.bad) = _
  rw [show ds.find? (fun d => decide (d.nm = nm__law_right)) = some d__law_right from by rfl]
  exact if_pos ⟨h, rfl, rfl⟩
theorem cf_law (k : Nat) (ws : List W) (h : ws.length = 1) : (DD (k + 1)).cf nm_law ws [] [] = fnM (DD k) d_law.N.length d_law.ts ws := by
  show (match ds.find? (fun d => decide (d.nm = nm_law)) with
    | some d => posM d.np (fnM (mkD gv ds k) d.N.length d.ts) [] ws []
    | none => M.bad) = _
  rw [show ds.find? (fun d => decide (d.nm = nm_law)) = some d_law from by rfl]
  exact if_pos ⟨h, rfl, rfl⟩
end LawK13

set_option Elab.async false
set_option linter.all false
set_option maxRecDepth 100000
set_option maxHeartbeats 4000000
namespace LawK13
open PySem PySem.Spec PyProof.Rows L2 At
def KK : Nat := 4
section
variable {D : Wd} {Q : W → Sto → Prop} {S : Sto}
structure RightOk (D : Wd) : Prop where
  t0 : nm__law_truths ∈ D.fns
  t1 : ∀ (ps : List (Nat × Nat)) (Q : W → Sto → Prop) (S : Sto), ROk ps → ps.length ≤ LINE → (∀ T a, (S ++ T)[a]? = some (.lst ((tab (covers ps)).map W.bl)) → S.length ≤ a → Q (.ob a) (S ++ T)) → Ok (D.cf nm__law_truths [rowsW ps] [] [] S) Q
  l0 : nm__law_settled ∈ D.fns
  l1 : ∀ (f : Nat → Bool) (a : Nat) (Q : W → Sto → Prop) (S : Sto), S[a]? = some (.lst ((tab f).map W.bl)) → (∀ T, Q (rowsW (rowsUp f)) (S ++ T)) → Ok (D.cf nm__law_settled [.ob a] [] [] S) Q
  s0 : nm_settled ∈ D.fns
  s1 : ∀ (ps : List (Nat × Nat)) (Q : W → Sto → Prop) (S : Sto), ROk ps → (∀ T, Q (rowsW (rowsUp (covers ps))) (S ++ T)) → Ok (D.cf nm_settled [rowsW ps] [] [] S) Q
  al : AlkOk D
  od : OrdOk D
  ho : HoldsOk D
theorem rowsW_un (ps : List (Nat × Nat)) : rowsW ps ≠ .un := fun z => nomatch z
theorem gR (ps : List (Nat × Nat)) (ρ : List W) (Q : W → Sto → Prop) (S : Sto) : Ok (getSl (rowsW ps :: ρ) 0 S) Q = Q (rowsW ps) S := ok_get0 _ _ (rowsW_un ps)
theorem right_ok (h : RightOk D) {ps : List (Nat × Nat)} (hp : ROk ps) (hl : ps.length ≤ 1000) (q : ∀ T, Q (.bl true) (S ++ T)) : Ok (fnM D 7 d__law_right.ts [rowsW ps] S) Q := by
  have hL : ps.length ≤ LINE := by rw [LINE]; omega
  rw [ok_fn (ρ := [rowsW ps, .un, .un, .un, .un, .un, .un]) rfl]
  unfold d__law_right
  simp only [ok_ok, ok_bad, ok_exc, ok_pure, ok_mbad, u_kE, u_kbin, u_kcmp, u_kix, u_knotb, u_knot, u_kneg, u_kand, u_kor, u_kite, u_kcons2, u_kcons, u_ktup, u_klst, u_ksl5, u_ksl4, u_ksl3, u_ksl2, u_ksl1, u_kcall2, u_kcall, u_kbi, u_kbm3, u_kbm2, u_kbm1, u_kch3, u_kch2, u_kch1, u_klc3, u_klc2, u_klc1, u_kfld, u_kisi, u_kex, u_kset, u_kasg, u_ksub4, u_ksub3, u_ksub2, u_ksub1, u_kaug2, u_kaug1, u_kas5, u_kas4, u_kas3, u_kas2, u_kas1, u_kret, u_kif, u_kfor2, u_kfor1, kand_t, kand_f, kor_t, kor_f, kite_t, kite_f, kif_t, kif_f, ok_sl', ok_kn, ok_kb, ok_ki, ok_ks, ok_gl', ok_bin', ok_neg', ok_not', ok_cmp', ok_chain', ok_and1, ok_and2, ok_or1, ok_or2, ok_and', ok_or', ok_ite', ok_nil, ok_cons, ok_tup', ok_lst', ok_ix', ok_sli', ok_fld', ok_call', ok_isi', ok_dic', ok_bi', ok_bm', ok_lc', ok_xnil, thenS_nx, thenS_rt, ok_xcons, ok_xex, ok_xset, ok_xasg, ok_xsub, ok_xaug, ok_xaugs, ok_xret, ok_xretn, ok_xpass, ok_xif, ok_xwhl, ok_xfor, ok_gets, ok_opt, ok_opt0, ok_truB, ok_truI, ok_truS, ok_truN, ok_truT, ok_addI, ok_subI, ok_augI, ok_augJ, ok_lt, ok_le, ok_gt, ok_ge, ok_eqI, ok_neI, ok_eqS, ok_neS, g0i, g0b, g0s, g0t, g0o, g0n, endQ_nx, endQ_rt, part_out, part_int, kn_kn, kn_ki, kn_sl, kn_bin, nwl0, nwl1, nwl2, nwl3, nwl4, nwl5, nwl6, nwl7, nwl8, nwl9, nwl10, nwl11, nwl12, mkt0, mkt1, mkt2, mkt3, mkt4, mkt5, mkt6, mkt7, mkt8, ok_sliS, ok_sliT, gd_nil, asg_n, asg_t, asgs_nil, asgs_cons, ok_it_exT, ok_it_exS, ok_noEx, kd_find, kd_islower, kd_upper, kd_lower, kd_join, ok_find, ok_islower, ok_lenS, ok_lenT, ok_abs, ok_intI, ok_intB, ok_tupT, ok_lstT, ok_ixS, ok_ixT, ok_inS, ok_ninS, isi_str, isi_int, isi_bl, isi_non, isi_tup, ok_min, ok_max, kd_index, len4, List.set_cons_zero, List.set_cons_succ, true_and, and_true, Bool.not_true, Bool.not_false, Bool.false_eq_true, if_true, if_false, decide_eq_true_eq, decide_true, Option.map_some, gR, h.t0]
  refine h.t1 ps _ _ hp hL fun T1 a ha hSa => ?_
  simp only [ok_ok, ok_bad, ok_exc, ok_pure, ok_mbad, u_kE, u_kbin, u_kcmp, u_kix, u_knotb, u_knot, u_kneg, u_kand, u_kor, u_kite, u_kcons2, u_kcons, u_ktup, u_klst, u_ksl5, u_ksl4, u_ksl3, u_ksl2, u_ksl1, u_kcall2, u_kcall, u_kbi, u_kbm3, u_kbm2, u_kbm1, u_kch3, u_kch2, u_kch1, u_klc3, u_klc2, u_klc1, u_kfld, u_kisi, u_kex, u_kset, u_kasg, u_ksub4, u_ksub3, u_ksub2, u_ksub1, u_kaug2, u_kaug1, u_kas5, u_kas4, u_kas3, u_kas2, u_kas1, u_kret, u_kif, u_kfor2, u_kfor1, kand_t, kand_f, kor_t, kor_f, kite_t, kite_f, kif_t, kif_f, ok_sl', ok_kn, ok_kb, ok_ki, ok_ks, ok_gl', ok_bin', ok_neg', ok_not', ok_cmp', ok_chain', ok_and1, ok_and2, ok_or1, ok_or2, ok_and', ok_or', ok_ite', ok_nil, ok_cons, ok_tup', ok_lst', ok_ix', ok_sli', ok_fld', ok_call', ok_isi', ok_dic', ok_bi', ok_bm', ok_lc', ok_xnil, thenS_nx, thenS_rt, ok_xcons, ok_xex, ok_xset, ok_xasg, ok_xsub, ok_xaug, ok_xaugs, ok_xret, ok_xretn, ok_xpass, ok_xif, ok_xwhl, ok_xfor, ok_gets, ok_opt, ok_opt0, ok_truB, ok_truI, ok_truS, ok_truN, ok_truT, ok_addI, ok_subI, ok_augI, ok_augJ, ok_lt, ok_le, ok_gt, ok_ge, ok_eqI, ok_neI, ok_eqS, ok_neS, g0i, g0b, g0s, g0t, g0o, g0n, endQ_nx, endQ_rt, part_out, part_int, kn_kn, kn_ki, kn_sl, kn_bin, nwl0, nwl1, nwl2, nwl3, nwl4, nwl5, nwl6, nwl7, nwl8, nwl9, nwl10, nwl11, nwl12, mkt0, mkt1, mkt2, mkt3, mkt4, mkt5, mkt6, mkt7, mkt8, ok_sliS, ok_sliT, gd_nil, asg_n, asg_t, asgs_nil, asgs_cons, ok_it_exT, ok_it_exS, ok_noEx, kd_find, kd_islower, kd_upper, kd_lower, kd_join, ok_find, ok_islower, ok_lenS, ok_lenT, ok_abs, ok_intI, ok_intB, ok_tupT, ok_lstT, ok_ixS, ok_ixT, ok_inS, ok_ninS, isi_str, isi_int, isi_bl, isi_non, isi_tup, ok_min, ok_max, kd_index, len4, List.set_cons_zero, List.set_cons_succ, true_and, and_true, Bool.not_true, Bool.not_false, Bool.false_eq_true, if_true, if_false, decide_eq_true_eq, decide_true, Option.map_some, h.l0]
  refine h.l1 _ _ _ _ ha fun T2 => ?_
  simp only [ok_ok, ok_bad, ok_exc, ok_pure, ok_mbad, u_kE, u_kbin, u_kcmp, u_kix, u_knotb, u_knot, u_kneg, u_kand, u_kor, u_kite, u_kcons2, u_kcons, u_ktup, u_klst, u_ksl5, u_ksl4, u_ksl3, u_ksl2, u_ksl1, u_kcall2, u_kcall, u_kbi, u_kbm3, u_kbm2, u_kbm1, u_kch3, u_kch2, u_kch1, u_klc3, u_klc2, u_klc1, u_kfld, u_kisi, u_kex, u_kset, u_kasg, u_ksub4, u_ksub3, u_ksub2, u_ksub1, u_kaug2, u_kaug1, u_kas5, u_kas4, u_kas3, u_kas2, u_kas1, u_kret, u_kif, u_kfor2, u_kfor1, kand_t, kand_f, kor_t, kor_f, kite_t, kite_f, kif_t, kif_f, ok_sl', ok_kn, ok_kb, ok_ki, ok_ks, ok_gl', ok_bin', ok_neg', ok_not', ok_cmp', ok_chain', ok_and1, ok_and2, ok_or1, ok_or2, ok_and', ok_or', ok_ite', ok_nil, ok_cons, ok_tup', ok_lst', ok_ix', ok_sli', ok_fld', ok_call', ok_isi', ok_dic', ok_bi', ok_bm', ok_lc', ok_xnil, thenS_nx, thenS_rt, ok_xcons, ok_xex, ok_xset, ok_xasg, ok_xsub, ok_xaug, ok_xaugs, ok_xret, ok_xretn, ok_xpass, ok_xif, ok_xwhl, ok_xfor, ok_gets, ok_opt, ok_opt0, ok_truB, ok_truI, ok_truS, ok_truN, ok_truT, ok_addI, ok_subI, ok_augI, ok_augJ, ok_lt, ok_le, ok_gt, ok_ge, ok_eqI, ok_neI, ok_eqS, ok_neS, g0i, g0b, g0s, g0t, g0o, g0n, endQ_nx, endQ_rt, part_out, part_int, kn_kn, kn_ki, kn_sl, kn_bin, nwl0, nwl1, nwl2, nwl3, nwl4, nwl5, nwl6, nwl7, nwl8, nwl9, nwl10, nwl11, nwl12, mkt0, mkt1, mkt2, mkt3, mkt4, mkt5, mkt6, mkt7, mkt8, ok_sliS, ok_sliT, gd_nil, asg_n, asg_t, asgs_nil, asgs_cons, ok_it_exT, ok_it_exS, ok_noEx, kd_find, kd_islower, kd_upper, kd_lower, kd_join, ok_find, ok_islower, ok_lenS, ok_lenT, ok_abs, ok_intI, ok_intB, ok_tupT, ok_lstT, ok_ixS, ok_ixT, ok_inS, ok_ninS, isi_str, isi_int, isi_bl, isi_non, isi_tup, ok_min, ok_max, kd_index, len4, List.set_cons_zero, List.set_cons_succ, true_and, and_true, Bool.not_true, Bool.not_false, Bool.false_eq_true, if_true, if_false, decide_eq_true_eq, decide_true, Option.map_some, gR, h.s0]
  refine h.s1 ps _ _ hp fun T3 => ?_
  simp only [ok_ok, ok_bad, ok_exc, ok_pure, ok_mbad, u_kE, u_kbin, u_kcmp, u_kix, u_knotb, u_knot, u_kneg, u_kand, u_kor, u_kite, u_kcons2, u_kcons, u_ktup, u_klst, u_ksl5, u_ksl4, u_ksl3, u_ksl2, u_ksl1, u_kcall2, u_kcall, u_kbi, u_kbm3, u_kbm2, u_kbm1, u_kch3, u_kch2, u_kch1, u_klc3, u_klc2, u_klc1, u_kfld, u_kisi, u_kex, u_kset, u_kasg, u_ksub4, u_ksub3, u_ksub2, u_ksub1, u_kaug2, u_kaug1, u_kas5, u_kas4, u_kas3, u_kas2, u_kas1, u_kret, u_kif, u_kfor2, u_kfor1, kand_t, kand_f, kor_t, kor_f, kite_t, kite_f, kif_t, kif_f, ok_sl', ok_kn, ok_kb, ok_ki, ok_ks, ok_gl', ok_bin', ok_neg', ok_not', ok_cmp', ok_chain', ok_and1, ok_and2, ok_or1, ok_or2, ok_and', ok_or', ok_ite', ok_nil, ok_cons, ok_tup', ok_lst', ok_ix', ok_sli', ok_fld', ok_call', ok_isi', ok_dic', ok_bi', ok_bm', ok_lc', ok_xnil, thenS_nx, thenS_rt, ok_xcons, ok_xex, ok_xset, ok_xasg, ok_xsub, ok_xaug, ok_xaugs, ok_xret, ok_xretn, ok_xpass, ok_xif, ok_xwhl, ok_xfor, ok_gets, ok_opt, ok_opt0, ok_truB, ok_truI, ok_truS, ok_truN, ok_truT, ok_addI, ok_subI, ok_augI, ok_augJ, ok_lt, ok_le, ok_gt, ok_ge, ok_eqI, ok_neI, ok_eqS, ok_neS, g0i, g0b, g0s, g0t, g0o, g0n, endQ_nx, endQ_rt, part_out, part_int, kn_kn, kn_ki, kn_sl, kn_bin, nwl0, nwl1, nwl2, nwl3, nwl4, nwl5, nwl6, nwl7, nwl8, nwl9, nwl10, nwl11, nwl12, mkt0, mkt1, mkt2, mkt3, mkt4, mkt5, mkt6, mkt7, mkt8, ok_sliS, ok_sliT, gd_nil, asg_n, asg_t, asgs_nil, asgs_cons, ok_it_exT, ok_it_exS, ok_noEx, kd_find, kd_islower, kd_upper, kd_lower, kd_join, ok_find, ok_islower, ok_lenS, ok_lenT, ok_abs, ok_intI, ok_intB, ok_tupT, ok_lstT, ok_ixS, ok_ixT, ok_inS, ok_ninS, isi_str, isi_int, isi_bl, isi_non, isi_tup, ok_min, ok_max, kd_index, len4, List.set_cons_zero, List.set_cons_succ, true_and, and_true, Bool.not_true, Bool.not_false, Bool.false_eq_true, if_true, if_false, decide_eq_true_eq, decide_true, Option.map_some, gR, h.al.1]
  rw [alk_rows h.al (by have := rowsUp_len (covers ps); omega)]
  simp only [ok_ok, ok_bad, ok_exc, ok_pure, ok_mbad, u_kE, u_kbin, u_kcmp, u_kix, u_knotb, u_knot, u_kneg, u_kand, u_kor, u_kite, u_kcons2, u_kcons, u_ktup, u_klst, u_ksl5, u_ksl4, u_ksl3, u_ksl2, u_ksl1, u_kcall2, u_kcall, u_kbi, u_kbm3, u_kbm2, u_kbm1, u_kch3, u_kch2, u_kch1, u_klc3, u_klc2, u_klc1, u_kfld, u_kisi, u_kex, u_kset, u_kasg, u_ksub4, u_ksub3, u_ksub2, u_ksub1, u_kaug2, u_kaug1, u_kas5, u_kas4, u_kas3, u_kas2, u_kas1, u_kret, u_kif, u_kfor2, u_kfor1, kand_t, kand_f, kor_t, kor_f, kite_t, kite_f, kif_t, kif_f, ok_sl', ok_kn, ok_kb, ok_ki, ok_ks, ok_gl', ok_bin', ok_neg', ok_not', ok_cmp', ok_chain', ok_and1, ok_and2, ok_or1, ok_or2, ok_and', ok_or', ok_ite', ok_nil, ok_cons, ok_tup', ok_lst', ok_ix', ok_sli', ok_fld', ok_call', ok_isi', ok_dic', ok_bi', ok_bm', ok_lc', ok_xnil, thenS_nx, thenS_rt, ok_xcons, ok_xex, ok_xset, ok_xasg, ok_xsub, ok_xaug, ok_xaugs, ok_xret, ok_xretn, ok_xpass, ok_xif, ok_xwhl, ok_xfor, ok_gets, ok_opt, ok_opt0, ok_truB, ok_truI, ok_truS, ok_truN, ok_truT, ok_addI, ok_subI, ok_augI, ok_augJ, ok_lt, ok_le, ok_gt, ok_ge, ok_eqI, ok_neI, ok_eqS, ok_neS, g0i, g0b, g0s, g0t, g0o, g0n, endQ_nx, endQ_rt, part_out, part_int, kn_kn, kn_ki, kn_sl, kn_bin, nwl0, nwl1, nwl2, nwl3, nwl4, nwl5, nwl6, nwl7, nwl8, nwl9, nwl10, nwl11, nwl12, mkt0, mkt1, mkt2, mkt3, mkt4, mkt5, mkt6, mkt7, mkt8, ok_sliS, ok_sliT, gd_nil, asg_n, asg_t, asgs_nil, asgs_cons, ok_it_exT, ok_it_exS, ok_noEx, kd_find, kd_islower, kd_upper, kd_lower, kd_join, ok_find, ok_islower, ok_lenS, ok_lenT, ok_abs, ok_intI, ok_intB, ok_tupT, ok_lstT, ok_ixS, ok_ixT, ok_inS, ok_ninS, isi_str, isi_int, isi_bl, isi_non, isi_tup, ok_min, ok_max, kd_index, len4, List.set_cons_zero, List.set_cons_succ, true_and, and_true, Bool.not_true, Bool.not_false, Bool.false_eq_true, if_true, if_false, decide_eq_true_eq, decide_true, Option.map_some, gR, h.s0]
  refine h.s1 _ _ _ (rowsUp_ok _) fun T4 => ?_
  rw [rowsUp_again]
  simp only [ok_ok, ok_bad, ok_exc, ok_pure, ok_mbad, u_kE, u_kbin, u_kcmp, u_kix, u_knotb, u_knot, u_kneg, u_kand, u_kor, u_kite, u_kcons2, u_kcons, u_ktup, u_klst, u_ksl5, u_ksl4, u_ksl3, u_ksl2, u_ksl1, u_kcall2, u_kcall, u_kbi, u_kbm3, u_kbm2, u_kbm1, u_kch3, u_kch2, u_kch1, u_klc3, u_klc2, u_klc1, u_kfld, u_kisi, u_kex, u_kset, u_kasg, u_ksub4, u_ksub3, u_ksub2, u_ksub1, u_kaug2, u_kaug1, u_kas5, u_kas4, u_kas3, u_kas2, u_kas1, u_kret, u_kif, u_kfor2, u_kfor1, kand_t, kand_f, kor_t, kor_f, kite_t, kite_f, kif_t, kif_f, ok_sl', ok_kn, ok_kb, ok_ki, ok_ks, ok_gl', ok_bin', ok_neg', ok_not', ok_cmp', ok_chain', ok_and1, ok_and2, ok_or1, ok_or2, ok_and', ok_or', ok_ite', ok_nil, ok_cons, ok_tup', ok_lst', ok_ix', ok_sli', ok_fld', ok_call', ok_isi', ok_dic', ok_bi', ok_bm', ok_lc', ok_xnil, thenS_nx, thenS_rt, ok_xcons, ok_xex, ok_xset, ok_xasg, ok_xsub, ok_xaug, ok_xaugs, ok_xret, ok_xretn, ok_xpass, ok_xif, ok_xwhl, ok_xfor, ok_gets, ok_opt, ok_opt0, ok_truB, ok_truI, ok_truS, ok_truN, ok_truT, ok_addI, ok_subI, ok_augI, ok_augJ, ok_lt, ok_le, ok_gt, ok_ge, ok_eqI, ok_neI, ok_eqS, ok_neS, g0i, g0b, g0s, g0t, g0o, g0n, endQ_nx, endQ_rt, part_out, part_int, kn_kn, kn_ki, kn_sl, kn_bin, nwl0, nwl1, nwl2, nwl3, nwl4, nwl5, nwl6, nwl7, nwl8, nwl9, nwl10, nwl11, nwl12, mkt0, mkt1, mkt2, mkt3, mkt4, mkt5, mkt6, mkt7, mkt8, ok_sliS, ok_sliT, gd_nil, asg_n, asg_t, asgs_nil, asgs_cons, ok_it_exT, ok_it_exS, ok_noEx, kd_find, kd_islower, kd_upper, kd_lower, kd_join, ok_find, ok_islower, ok_lenS, ok_lenT, ok_abs, ok_intI, ok_intB, ok_tupT, ok_lstT, ok_ixS, ok_ixT, ok_inS, ok_ninS, isi_str, isi_int, isi_bl, isi_non, isi_tup, ok_min, ok_max, kd_index, len4, List.set_cons_zero, List.set_cons_succ, true_and, and_true, Bool.not_true, Bool.not_false, Bool.false_eq_true, if_true, if_false, decide_eq_true_eq, decide_true, Option.map_some, gR, h.al.1]
  rw [alk_rows h.al (by have := rowsUp_len (covers ps); omega)]
  simp only [ok_ok, ok_bad, ok_exc, ok_pure, ok_mbad, u_kE, u_kbin, u_kcmp, u_kix, u_knotb, u_knot, u_kneg, u_kand, u_kor, u_kite, u_kcons2, u_kcons, u_ktup, u_klst, u_ksl5, u_ksl4, u_ksl3, u_ksl2, u_ksl1, u_kcall2, u_kcall, u_kbi, u_kbm3, u_kbm2, u_kbm1, u_kch3, u_kch2, u_kch1, u_klc3, u_klc2, u_klc1, u_kfld, u_kisi, u_kex, u_kset, u_kasg, u_ksub4, u_ksub3, u_ksub2, u_ksub1, u_kaug2, u_kaug1, u_kas5, u_kas4, u_kas3, u_kas2, u_kas1, u_kret, u_kif, u_kfor2, u_kfor1, kand_t, kand_f, kor_t, kor_f, kite_t, kite_f, kif_t, kif_f, ok_sl', ok_kn, ok_kb, ok_ki, ok_ks, ok_gl', ok_bin', ok_neg', ok_not', ok_cmp', ok_chain', ok_and1, ok_and2, ok_or1, ok_or2, ok_and', ok_or', ok_ite', ok_nil, ok_cons, ok_tup', ok_lst', ok_ix', ok_sli', ok_fld', ok_call', ok_isi', ok_dic', ok_bi', ok_bm', ok_lc', ok_xnil, thenS_nx, thenS_rt, ok_xcons, ok_xex, ok_xset, ok_xasg, ok_xsub, ok_xaug, ok_xaugs, ok_xret, ok_xretn, ok_xpass, ok_xif, ok_xwhl, ok_xfor, ok_gets, ok_opt, ok_opt0, ok_truB, ok_truI, ok_truS, ok_truN, ok_truT, ok_addI, ok_subI, ok_augI, ok_augJ, ok_lt, ok_le, ok_gt, ok_ge, ok_eqI, ok_neI, ok_eqS, ok_neS, g0i, g0b, g0s, g0t, g0o, g0n, endQ_nx, endQ_rt, part_out, part_int, kn_kn, kn_ki, kn_sl, kn_bin, nwl0, nwl1, nwl2, nwl3, nwl4, nwl5, nwl6, nwl7, nwl8, nwl9, nwl10, nwl11, nwl12, mkt0, mkt1, mkt2, mkt3, mkt4, mkt5, mkt6, mkt7, mkt8, ok_sliS, ok_sliT, gd_nil, asg_n, asg_t, asgs_nil, asgs_cons, ok_it_exT, ok_it_exS, ok_noEx, kd_find, kd_islower, kd_upper, kd_lower, kd_join, ok_find, ok_islower, ok_lenS, ok_lenT, ok_abs, ok_intI, ok_intB, ok_tupT, ok_lstT, ok_ixS, ok_ixT, ok_inS, ok_ninS, isi_str, isi_int, isi_bl, isi_non, isi_tup, ok_min, ok_max, kd_index, len4, List.set_cons_zero, List.set_cons_succ, true_and, and_true, Bool.not_true, Bool.not_false, Bool.false_eq_true, if_true, if_false, decide_eq_true_eq, decide_true, Option.map_some, h.od.1, h.od.2]
  have hS : S ++ T1 ++ T2 ++ T3 ++ T4 = S ++ (T1 ++ T2 ++ T3 ++ T4) := by simp only [List.append_assoc]
  have ha4 : LstAt (S ++ (T1 ++ T2 ++ T3 ++ T4)) a ((tab (covers ps)).map W.bl) := by
    rw [← hS]
    exact lstAt_app (lstAt_app (lstAt_app (.inl ha) _) _) _
  rw [hS]
  generalize T1 ++ T2 ++ T3 ++ T4 = T at ha4 ⊢
  simp only [ok_ok, ok_bad, ok_exc, ok_pure, ok_mbad, u_kE, u_kbin, u_kcmp, u_kix, u_knotb, u_knot, u_kneg, u_kand, u_kor, u_kite, u_kcons2, u_kcons, u_ktup, u_klst, u_ksl5, u_ksl4, u_ksl3, u_ksl2, u_ksl1, u_kcall2, u_kcall, u_kbi, u_kbm3, u_kbm2, u_kbm1, u_kch3, u_kch2, u_kch1, u_klc3, u_klc2, u_klc1, u_kfld, u_kisi, u_kex, u_kset, u_kasg, u_ksub4, u_ksub3, u_ksub2, u_ksub1, u_kaug2, u_kaug1, u_kas5, u_kas4, u_kas3, u_kas2, u_kas1, u_kret, u_kif, u_kfor2, u_kfor1, kand_t, kand_f, kor_t, kor_f, kite_t, kite_f, kif_t, kif_f, ok_sl', ok_kn, ok_kb, ok_ki, ok_ks, ok_gl', ok_bin', ok_neg', ok_not', ok_cmp', ok_chain', ok_and1, ok_and2, ok_or1, ok_or2, ok_and', ok_or', ok_ite', ok_nil, ok_cons, ok_tup', ok_lst', ok_ix', ok_sli', ok_fld', ok_call', ok_isi', ok_dic', ok_bi', ok_bm', ok_lc', ok_xnil, thenS_nx, thenS_rt, ok_xcons, ok_xex, ok_xset, ok_xasg, ok_xsub, ok_xaug, ok_xaugs, ok_xret, ok_xretn, ok_xpass, ok_xif, ok_xwhl, ok_xfor, ok_gets, ok_opt, ok_opt0, ok_truB, ok_truI, ok_truS, ok_truN, ok_truT, ok_addI, ok_subI, ok_augI, ok_augJ, ok_lt, ok_le, ok_gt, ok_ge, ok_eqI, ok_neI, ok_eqS, ok_neS, g0i, g0b, g0s, g0t, g0o, g0n, endQ_nx, endQ_rt, part_out, part_int, kn_kn, kn_ki, kn_sl, kn_bin, nwl0, nwl1, nwl2, nwl3, nwl4, nwl5, nwl6, nwl7, nwl8, nwl9, nwl10, nwl11, nwl12, mkt0, mkt1, mkt2, mkt3, mkt4, mkt5, mkt6, mkt7, mkt8, ok_sliS, ok_sliT, gd_nil, asg_n, asg_t, asgs_nil, asgs_cons, ok_it_exT, ok_it_exS, ok_noEx, kd_find, kd_islower, kd_upper, kd_lower, kd_join, ok_find, ok_islower, ok_lenS, ok_lenT, ok_abs, ok_intI, ok_intB, ok_tupT, ok_lstT, ok_ixS, ok_ixT, ok_inS, ok_ninS, isi_str, isi_int, isi_bl, isi_non, isi_tup, ok_min, ok_max, kd_index, len4, List.set_cons_zero, List.set_cons_succ, true_and, and_true, Bool.not_true, Bool.not_false, Bool.false_eq_true, if_true, if_false, decide_eq_true_eq, decide_true, Option.map_some, wipeW]
  refine told_lc h.ho hp hL (e := .sl 0) (fun w K s => by simp only [ok_ok, ok_bad, ok_exc, ok_pure, ok_mbad, u_kE, u_kbin, u_kcmp, u_kix, u_knotb, u_knot, u_kneg, u_kand, u_kor, u_kite, u_kcons2, u_kcons, u_ktup, u_klst, u_ksl5, u_ksl4, u_ksl3, u_ksl2, u_ksl1, u_kcall2, u_kcall, u_kbi, u_kbm3, u_kbm2, u_kbm1, u_kch3, u_kch2, u_kch1, u_klc3, u_klc2, u_klc1, u_kfld, u_kisi, u_kex, u_kset, u_kasg, u_ksub4, u_ksub3, u_ksub2, u_ksub1, u_kaug2, u_kaug1, u_kas5, u_kas4, u_kas3, u_kas2, u_kas1, u_kret, u_kif, u_kfor2, u_kfor1, kand_t, kand_f, kor_t, kor_f, kite_t, kite_f, kif_t, kif_f, ok_sl', ok_kn, ok_kb, ok_ki, ok_ks, ok_gl', ok_bin', ok_neg', ok_not', ok_cmp', ok_chain', ok_and1, ok_and2, ok_or1, ok_or2, ok_and', ok_or', ok_ite', ok_nil, ok_cons, ok_tup', ok_lst', ok_ix', ok_sli', ok_fld', ok_call', ok_isi', ok_dic', ok_bi', ok_bm', ok_lc', ok_xnil, thenS_nx, thenS_rt, ok_xcons, ok_xex, ok_xset, ok_xasg, ok_xsub, ok_xaug, ok_xaugs, ok_xret, ok_xretn, ok_xpass, ok_xif, ok_xwhl, ok_xfor, ok_gets, ok_opt, ok_opt0, ok_truB, ok_truI, ok_truS, ok_truN, ok_truT, ok_addI, ok_subI, ok_augI, ok_augJ, ok_lt, ok_le, ok_gt, ok_ge, ok_eqI, ok_neI, ok_eqS, ok_neS, g0i, g0b, g0s, g0t, g0o, g0n, endQ_nx, endQ_rt, part_out, part_int, kn_kn, kn_ki, kn_sl, kn_bin, nwl0, nwl1, nwl2, nwl3, nwl4, nwl5, nwl6, nwl7, nwl8, nwl9, nwl10, nwl11, nwl12, mkt0, mkt1, mkt2, mkt3, mkt4, mkt5, mkt6, mkt7, mkt8, ok_sliS, ok_sliT, gd_nil, asg_n, asg_t, asgs_nil, asgs_cons, ok_it_exT, ok_it_exS, ok_noEx, kd_find, kd_islower, kd_upper, kd_lower, kd_join, ok_find, ok_islower, ok_lenS, ok_lenT, ok_abs, ok_intI, ok_intB, ok_tupT, ok_lstT, ok_ixS, ok_ixT, ok_inS, ok_ninS, isi_str, isi_int, isi_bl, isi_non, isi_tup, ok_min, ok_max, kd_index, len4, List.set_cons_zero, List.set_cons_succ, true_and, and_true, Bool.not_true, Bool.not_false, Bool.false_eq_true, if_true, if_false, decide_eq_true_eq, decide_true, Option.map_some, gR]) fun U1 hU1 => ?_
  simp only [ok_ok, ok_bad, ok_exc, ok_pure, ok_mbad, u_kE, u_kbin, u_kcmp, u_kix, u_knotb, u_knot, u_kneg, u_kand, u_kor, u_kite, u_kcons2, u_kcons, u_ktup, u_klst, u_ksl5, u_ksl4, u_ksl3, u_ksl2, u_ksl1, u_kcall2, u_kcall, u_kbi, u_kbm3, u_kbm2, u_kbm1, u_kch3, u_kch2, u_kch1, u_klc3, u_klc2, u_klc1, u_kfld, u_kisi, u_kex, u_kset, u_kasg, u_ksub4, u_ksub3, u_ksub2, u_ksub1, u_kaug2, u_kaug1, u_kas5, u_kas4, u_kas3, u_kas2, u_kas1, u_kret, u_kif, u_kfor2, u_kfor1, kand_t, kand_f, kor_t, kor_f, kite_t, kite_f, kif_t, kif_f, ok_sl', ok_kn, ok_kb, ok_ki, ok_ks, ok_gl', ok_bin', ok_neg', ok_not', ok_cmp', ok_chain', ok_and1, ok_and2, ok_or1, ok_or2, ok_and', ok_or', ok_ite', ok_nil, ok_cons, ok_tup', ok_lst', ok_ix', ok_sli', ok_fld', ok_call', ok_isi', ok_dic', ok_bi', ok_bm', ok_lc', ok_xnil, thenS_nx, thenS_rt, ok_xcons, ok_xex, ok_xset, ok_xasg, ok_xsub, ok_xaug, ok_xaugs, ok_xret, ok_xretn, ok_xpass, ok_xif, ok_xwhl, ok_xfor, ok_gets, ok_opt, ok_opt0, ok_truB, ok_truI, ok_truS, ok_truN, ok_truT, ok_addI, ok_subI, ok_augI, ok_augJ, ok_lt, ok_le, ok_gt, ok_ge, ok_eqI, ok_neI, ok_eqS, ok_neS, g0i, g0b, g0s, g0t, g0o, g0n, endQ_nx, endQ_rt, part_out, part_int, kn_kn, kn_ki, kn_sl, kn_bin, nwl0, nwl1, nwl2, nwl3, nwl4, nwl5, nwl6, nwl7, nwl8, nwl9, nwl10, nwl11, nwl12, mkt0, mkt1, mkt2, mkt3, mkt4, mkt5, mkt6, mkt7, mkt8, ok_sliS, ok_sliT, gd_nil, asg_n, asg_t, asgs_nil, asgs_cons, ok_it_exT, ok_it_exS, ok_noEx, kd_find, kd_islower, kd_upper, kd_lower, kd_join, ok_find, ok_islower, ok_lenS, ok_lenT, ok_abs, ok_intI, ok_intB, ok_tupT, ok_lstT, ok_ixS, ok_ixT, ok_inS, ok_ninS, isi_str, isi_int, isi_bl, isi_non, isi_tup, ok_min, ok_max, kd_index, len4, List.set_cons_zero, List.set_cons_succ, true_and, and_true, Bool.not_true, Bool.not_false, Bool.false_eq_true, if_true, if_false, decide_eq_true_eq, decide_true, Option.map_some, wipeW]
  have h1 : LstAt (S ++ T ++ U1) (S ++ T).length ((tab (covers ps)).map W.bl) := .inl (by rw [List.getElem?_append_right (Nat.le_refl _), Nat.sub_self]; exact hU1)
  refine told_lc h.ho (rowsUp_ok (covers ps)) (by have := rowsUp_len (covers ps); rw [LINE]; omega) (e := .sl 2) (fun w K s => by simp only [ok_ok, ok_bad, ok_exc, ok_pure, ok_mbad, u_kE, u_kbin, u_kcmp, u_kix, u_knotb, u_knot, u_kneg, u_kand, u_kor, u_kite, u_kcons2, u_kcons, u_ktup, u_klst, u_ksl5, u_ksl4, u_ksl3, u_ksl2, u_ksl1, u_kcall2, u_kcall, u_kbi, u_kbm3, u_kbm2, u_kbm1, u_kch3, u_kch2, u_kch1, u_klc3, u_klc2, u_klc1, u_kfld, u_kisi, u_kex, u_kset, u_kasg, u_ksub4, u_ksub3, u_ksub2, u_ksub1, u_kaug2, u_kaug1, u_kas5, u_kas4, u_kas3, u_kas2, u_kas1, u_kret, u_kif, u_kfor2, u_kfor1, kand_t, kand_f, kor_t, kor_f, kite_t, kite_f, kif_t, kif_f, ok_sl', ok_kn, ok_kb, ok_ki, ok_ks, ok_gl', ok_bin', ok_neg', ok_not', ok_cmp', ok_chain', ok_and1, ok_and2, ok_or1, ok_or2, ok_and', ok_or', ok_ite', ok_nil, ok_cons, ok_tup', ok_lst', ok_ix', ok_sli', ok_fld', ok_call', ok_isi', ok_dic', ok_bi', ok_bm', ok_lc', ok_xnil, thenS_nx, thenS_rt, ok_xcons, ok_xex, ok_xset, ok_xasg, ok_xsub, ok_xaug, ok_xaugs, ok_xret, ok_xretn, ok_xpass, ok_xif, ok_xwhl, ok_xfor, ok_gets, ok_opt, ok_opt0, ok_truB, ok_truI, ok_truS, ok_truN, ok_truT, ok_addI, ok_subI, ok_augI, ok_augJ, ok_lt, ok_le, ok_gt, ok_ge, ok_eqI, ok_neI, ok_eqS, ok_neS, g0i, g0b, g0s, g0t, g0o, g0n, endQ_nx, endQ_rt, part_out, part_int, kn_kn, kn_ki, kn_sl, kn_bin, nwl0, nwl1, nwl2, nwl3, nwl4, nwl5, nwl6, nwl7, nwl8, nwl9, nwl10, nwl11, nwl12, mkt0, mkt1, mkt2, mkt3, mkt4, mkt5, mkt6, mkt7, mkt8, ok_sliS, ok_sliT, gd_nil, asg_n, asg_t, asgs_nil, asgs_cons, ok_it_exT, ok_it_exS, ok_noEx, kd_find, kd_islower, kd_upper, kd_lower, kd_join, ok_find, ok_islower, ok_lenS, ok_lenT, ok_abs, ok_intI, ok_intB, ok_tupT, ok_lstT, ok_ixS, ok_ixT, ok_inS, ok_ninS, isi_str, isi_int, isi_bl, isi_non, isi_tup, ok_min, ok_max, kd_index, len4, List.set_cons_zero, List.set_cons_succ, true_and, and_true, Bool.not_true, Bool.not_false, Bool.false_eq_true, if_true, if_false, decide_eq_true_eq, decide_true, Option.map_some, gR]) fun U2 hU2 => ?_
  rw [rowsUp_tab] at hU2
  have h2 : LstAt (S ++ T ++ U1 ++ U2) (S ++ T ++ U1).length ((tab (covers ps)).map W.bl) := .inl (by rw [List.getElem?_append_right (Nat.le_refl _), Nat.sub_self]; exact hU2)
  simp only [ok_ok, ok_bad, ok_exc, ok_pure, ok_mbad, u_kE, u_kbin, u_kcmp, u_kix, u_knotb, u_knot, u_kneg, u_kand, u_kor, u_kite, u_kcons2, u_kcons, u_ktup, u_klst, u_ksl5, u_ksl4, u_ksl3, u_ksl2, u_ksl1, u_kcall2, u_kcall, u_kbi, u_kbm3, u_kbm2, u_kbm1, u_kch3, u_kch2, u_kch1, u_klc3, u_klc2, u_klc1, u_kfld, u_kisi, u_kex, u_kset, u_kasg, u_ksub4, u_ksub3, u_ksub2, u_ksub1, u_kaug2, u_kaug1, u_kas5, u_kas4, u_kas3, u_kas2, u_kas1, u_kret, u_kif, u_kfor2, u_kfor1, kand_t, kand_f, kor_t, kor_f, kite_t, kite_f, kif_t, kif_f, ok_sl', ok_kn, ok_kb, ok_ki, ok_ks, ok_gl', ok_bin', ok_neg', ok_not', ok_cmp', ok_chain', ok_and1, ok_and2, ok_or1, ok_or2, ok_and', ok_or', ok_ite', ok_nil, ok_cons, ok_tup', ok_lst', ok_ix', ok_sli', ok_fld', ok_call', ok_isi', ok_dic', ok_bi', ok_bm', ok_lc', ok_xnil, thenS_nx, thenS_rt, ok_xcons, ok_xex, ok_xset, ok_xasg, ok_xsub, ok_xaug, ok_xaugs, ok_xret, ok_xretn, ok_xpass, ok_xif, ok_xwhl, ok_xfor, ok_gets, ok_opt, ok_opt0, ok_truB, ok_truI, ok_truS, ok_truN, ok_truT, ok_addI, ok_subI, ok_augI, ok_augJ, ok_lt, ok_le, ok_gt, ok_ge, ok_eqI, ok_neI, ok_eqS, ok_neS, g0i, g0b, g0s, g0t, g0o, g0n, endQ_nx, endQ_rt, part_out, part_int, kn_kn, kn_ki, kn_sl, kn_bin, nwl0, nwl1, nwl2, nwl3, nwl4, nwl5, nwl6, nwl7, nwl8, nwl9, nwl10, nwl11, nwl12, mkt0, mkt1, mkt2, mkt3, mkt4, mkt5, mkt6, mkt7, mkt8, ok_sliS, ok_sliT, gd_nil, asg_n, asg_t, asgs_nil, asgs_cons, ok_it_exT, ok_it_exS, ok_noEx, kd_find, kd_islower, kd_upper, kd_lower, kd_join, ok_find, ok_islower, ok_lenS, ok_lenT, ok_abs, ok_intI, ok_intB, ok_tupT, ok_lstT, ok_ixS, ok_ixT, ok_inS, ok_ninS, isi_str, isi_int, isi_bl, isi_non, isi_tup, ok_min, ok_max, kd_index, len4, List.set_cons_zero, List.set_cons_succ, true_and, and_true, Bool.not_true, Bool.not_false, Bool.false_eq_true, if_true, if_false, decide_eq_true_eq, decide_true, Option.map_some, h.al.1]
  rw [alk_tables h.al (f := covers ps) (x1 := (S ++ T).length) (x2 := (S ++ T ++ U1).length) (y1 := a) (y2 := a)]
  · simp only [ok_ok, ok_bad, ok_exc, ok_pure, ok_mbad, u_kE, u_kbin, u_kcmp, u_kix, u_knotb, u_knot, u_kneg, u_kand, u_kor, u_kite, u_kcons2, u_kcons, u_ktup, u_klst, u_ksl5, u_ksl4, u_ksl3, u_ksl2, u_ksl1, u_kcall2, u_kcall, u_kbi, u_kbm3, u_kbm2, u_kbm1, u_kch3, u_kch2, u_kch1, u_klc3, u_klc2, u_klc1, u_kfld, u_kisi, u_kex, u_kset, u_kasg, u_ksub4, u_ksub3, u_ksub2, u_ksub1, u_kaug2, u_kaug1, u_kas5, u_kas4, u_kas3, u_kas2, u_kas1, u_kret, u_kif, u_kfor2, u_kfor1, kand_t, kand_f, kor_t, kor_f, kite_t, kite_f, kif_t, kif_f, ok_sl', ok_kn, ok_kb, ok_ki, ok_ks, ok_gl', ok_bin', ok_neg', ok_not', ok_cmp', ok_chain', ok_and1, ok_and2, ok_or1, ok_or2, ok_and', ok_or', ok_ite', ok_nil, ok_cons, ok_tup', ok_lst', ok_ix', ok_sli', ok_fld', ok_call', ok_isi', ok_dic', ok_bi', ok_bm', ok_lc', ok_xnil, thenS_nx, thenS_rt, ok_xcons, ok_xex, ok_xset, ok_xasg, ok_xsub, ok_xaug, ok_xaugs, ok_xret, ok_xretn, ok_xpass, ok_xif, ok_xwhl, ok_xfor, ok_gets, ok_opt, ok_opt0, ok_truB, ok_truI, ok_truS, ok_truN, ok_truT, ok_addI, ok_subI, ok_augI, ok_augJ, ok_lt, ok_le, ok_gt, ok_ge, ok_eqI, ok_neI, ok_eqS, ok_neS, g0i, g0b, g0s, g0t, g0o, g0n, endQ_nx, endQ_rt, part_out, part_int, kn_kn, kn_ki, kn_sl, kn_bin, nwl0, nwl1, nwl2, nwl3, nwl4, nwl5, nwl6, nwl7, nwl8, nwl9, nwl10, nwl11, nwl12, mkt0, mkt1, mkt2, mkt3, mkt4, mkt5, mkt6, mkt7, mkt8, ok_sliS, ok_sliT, gd_nil, asg_n, asg_t, asgs_nil, asgs_cons, ok_it_exT, ok_it_exS, ok_noEx, kd_find, kd_islower, kd_upper, kd_lower, kd_join, ok_find, ok_islower, ok_lenS, ok_lenT, ok_abs, ok_intI, ok_intB, ok_tupT, ok_lstT, ok_ixS, ok_ixT, ok_inS, ok_ninS, isi_str, isi_int, isi_bl, isi_non, isi_tup, ok_min, ok_max, kd_index, len4, List.set_cons_zero, List.set_cons_succ, true_and, and_true, Bool.not_true, Bool.not_false, Bool.false_eq_true, if_true, if_false, decide_eq_true_eq, decide_true, Option.map_some]
    simp only [List.append_assoc]
    exact q _
  · rw [List.getElem?_append_left (by simp)]
    simp
  · simp
  · exact lstAt_app (lstAt_app (lstAt_app h1 _) _) _
  · exact lstAt_app (lstAt_app h2 _) _
  · exact lstAt_app (lstAt_app (lstAt_app (lstAt_app ha4 _) _) _) _
  · exact lstAt_app (lstAt_app (lstAt_app (lstAt_app ha4 _) _) _) _
/-! ### the law -/
structure LawOk (D : Wd) : Prop where
  m0 : nm__law_some_rows ∈ D.fns
  m1 : ∀ (S : Sto) (n j : Nat) (cs : List Int) (Q : W → Sto → Prop), Bag S n j cs → (∀ ps S', ROk ps → ps.length ≤ 1000 → Keep n S S' → Bag S' n j cs → Q (rowsW ps) S') → Ok (D.cf nm__law_some_rows [.ob n, .int 95] [] [] S) Q
  r0 : nm__law_right ∈ D.fns
  r1 : ∀ (ps : List (Nat × Nat)) (Q : W → Sto → Prop) (S : Sto), ROk ps → ps.length ≤ 1000 → (∀ T, Q (.bl true) (S ++ T)) → Ok (D.cf nm__law_right [rowsW ps] [] [] S) Q
  s0 : nm_settled ∈ D.fns
  s1 : ∀ (ps : List (Nat × Nat)) (Q : W → Sto → Prop) (S : Sto), ROk ps → (∀ T, Q (rowsW (rowsUp (covers ps))) (S ++ T)) → Ok (D.cf nm_settled [rowsW ps] [] [] S) Q
  al : AlkOk D
  tk : TkOk D
def AllR (xs : List W) : Prop := ∀ x ∈ xs, ∃ ps, x = rowsW ps ∧ ROk ps ∧ ps.length ≤ 1000
theorem none_up : rowsUp (covers []) = [] := by decide +kernel
theorem some_lc (h : LawOk D) {n j : Nat} {cs : List Int} (hb : Bag S n j cs) {x0 x2 x3 : W} {K : Unit → Sto → Prop} (q : ∀ xs S', AllR xs → xs.length = 6 → Bag S' n j cs → S'[S.length]? = some (.lst xs) → K () S') :
    Ok (lcGo (.n 4) (evAll D []) (ev D (.call nm__law_some_rows [.sl 1, .ki 95] [] [])) [] [x0, .ob n, x2, x3, .un] S.length (rngL 0 (6 : Int).toNat 1) (S ++ [.lst []])) K := by
  have hn := bag_lt hb
  refine lc_ok (fun i acc s => AllR acc ∧ acc.length = i ∧ Bag s n j cs ∧ s[S.length]? = some (.lst acc) ∧ S.length < s.length) (i := 0) (acc := []) ⟨(fun x hx => nomatch hx), rfl, hb.app _, by simp, by simp⟩ (fun _ _ _ _ => rfl) (fun i x acc s hx hI => ?_) (fun acc s hI => ?_)
  · obtain ⟨h1, h2, hb2, hd, hsl⟩ := hI
    obtain ⟨rfl, hi⟩ := rng_get hx
    refine ⟨[x0, .ob n, x2, x3, .int (0 + (i : Int))], by simp, ?_⟩
    simp only [evAll]
    simp only [ok_ok, ok_bad, ok_exc, ok_pure, ok_mbad, u_kE, u_kbin, u_kcmp, u_kix, u_knotb, u_knot, u_kneg, u_kand, u_kor, u_kite, u_kcons2, u_kcons, u_ktup, u_klst, u_ksl5, u_ksl4, u_ksl3, u_ksl2, u_ksl1, u_kcall2, u_kcall, u_kbi, u_kbm3, u_kbm2, u_kbm1, u_kch3, u_kch2, u_kch1, u_klc3, u_klc2, u_klc1, u_kfld, u_kisi, u_kex, u_kset, u_kasg, u_ksub4, u_ksub3, u_ksub2, u_ksub1, u_kaug2, u_kaug1, u_kas5, u_kas4, u_kas3, u_kas2, u_kas1, u_kret, u_kif, u_kfor2, u_kfor1, kand_t, kand_f, kor_t, kor_f, kite_t, kite_f, kif_t, kif_f, ok_sl', ok_kn, ok_kb, ok_ki, ok_ks, ok_gl', ok_bin', ok_neg', ok_not', ok_cmp', ok_chain', ok_and1, ok_and2, ok_or1, ok_or2, ok_and', ok_or', ok_ite', ok_nil, ok_cons, ok_tup', ok_lst', ok_ix', ok_sli', ok_fld', ok_call', ok_isi', ok_dic', ok_bi', ok_bm', ok_lc', ok_xnil, thenS_nx, thenS_rt, ok_xcons, ok_xex, ok_xset, ok_xasg, ok_xsub, ok_xaug, ok_xaugs, ok_xret, ok_xretn, ok_xpass, ok_xif, ok_xwhl, ok_xfor, ok_gets, ok_opt, ok_opt0, ok_truB, ok_truI, ok_truS, ok_truN, ok_truT, ok_addI, ok_subI, ok_augI, ok_augJ, ok_lt, ok_le, ok_gt, ok_ge, ok_eqI, ok_neI, ok_eqS, ok_neS, g0i, g0b, g0s, g0t, g0o, g0n, endQ_nx, endQ_rt, part_out, part_int, kn_kn, kn_ki, kn_sl, kn_bin, nwl0, nwl1, nwl2, nwl3, nwl4, nwl5, nwl6, nwl7, nwl8, nwl9, nwl10, nwl11, nwl12, mkt0, mkt1, mkt2, mkt3, mkt4, mkt5, mkt6, mkt7, mkt8, ok_sliS, ok_sliT, gd_nil, asg_n, asg_t, asgs_nil, asgs_cons, ok_it_exT, ok_it_exS, ok_noEx, kd_find, kd_islower, kd_upper, kd_lower, kd_join, ok_find, ok_islower, ok_lenS, ok_lenT, ok_abs, ok_intI, ok_intB, ok_tupT, ok_lstT, ok_ixS, ok_ixT, ok_inS, ok_ninS, isi_str, isi_int, isi_bl, isi_non, isi_tup, ok_min, ok_max, kd_index, len4, List.set_cons_zero, List.set_cons_succ, true_and, and_true, Bool.not_true, Bool.not_false, Bool.false_eq_true, if_true, if_false, decide_eq_true_eq, decide_true, Option.map_some, h.m0]
    refine h.m1 _ _ _ _ _ hb2 fun ps S' hro hpl k hb3 => ?_
    refine ⟨acc, k.get hd (by omega), ?_, ?_, ?_, ?_, ?_, ?_⟩
    · have hi : i < 6 := hi
      rw [h2, LINE]; omega
    · intro y hy
      rcases List.mem_append.mp hy with hy | hy
      · exact h1 y hy
      · rw [List.mem_singleton.mp hy]; exact ⟨ps, rfl, hro, hpl⟩
    · rw [List.length_append, h2]; rfl
    · exact hb3.put (by omega) (by omega) _
    · exact List.getElem?_set_self (Nat.lt_of_lt_of_le hsl k.1)
    · rw [List.length_set]; exact Nat.lt_of_lt_of_le hsl k.1
  · obtain ⟨h1, h2, hb2, hd, hsl⟩ := hI
    rw [Nat.zero_add, rng_len] at h2
    exact q acc s h1 h2 hb2 hd
theorem law_rest (h : LawOk D) {n j : Nat} {cs : List Int} (hb : Bag S n j cs) {m : Nat} {xs : List W} (hx : AllR xs) (hl : xs.length = 6) (hm : S[m]? = some (.lst xs)) (hmn : m ≠ n) {x0 x3 x4 : W} (q : ∀ S', Q (.bl true) S') :
    Ok (exs D (d_law.ts.drop 2) [x0, .ob n, .ob m, x3, x4] S) (endQ Q) := by
  unfold d_law
  simp only [List.drop_succ_cons, List.drop_zero]
  simp only [ok_ok, ok_bad, ok_exc, ok_pure, ok_mbad, u_kE, u_kbin, u_kcmp, u_kix, u_knotb, u_knot, u_kneg, u_kand, u_kor, u_kite, u_kcons2, u_kcons, u_ktup, u_klst, u_ksl5, u_ksl4, u_ksl3, u_ksl2, u_ksl1, u_kcall2, u_kcall, u_kbi, u_kbm3, u_kbm2, u_kbm1, u_kch3, u_kch2, u_kch1, u_klc3, u_klc2, u_klc1, u_kfld, u_kisi, u_kex, u_kset, u_kasg, u_ksub4, u_ksub3, u_ksub2, u_ksub1, u_kaug2, u_kaug1, u_kas5, u_kas4, u_kas3, u_kas2, u_kas1, u_kret, u_kif, u_kfor2, u_kfor1, kand_t, kand_f, kor_t, kor_f, kite_t, kite_f, kif_t, kif_f, ok_sl', ok_kn, ok_kb, ok_ki, ok_ks, ok_gl', ok_bin', ok_neg', ok_not', ok_cmp', ok_chain', ok_and1, ok_and2, ok_or1, ok_or2, ok_and', ok_or', ok_ite', ok_nil, ok_cons, ok_tup', ok_lst', ok_ix', ok_sli', ok_fld', ok_call', ok_isi', ok_dic', ok_bi', ok_bm', ok_lc', ok_xnil, thenS_nx, thenS_rt, ok_xcons, ok_xex, ok_xset, ok_xasg, ok_xsub, ok_xaug, ok_xaugs, ok_xret, ok_xretn, ok_xpass, ok_xif, ok_xwhl, ok_xfor, ok_gets, ok_opt, ok_opt0, ok_truB, ok_truI, ok_truS, ok_truN, ok_truT, ok_addI, ok_subI, ok_augI, ok_augJ, ok_lt, ok_le, ok_gt, ok_ge, ok_eqI, ok_neI, ok_eqS, ok_neS, g0i, g0b, g0s, g0t, g0o, g0n, endQ_nx, endQ_rt, part_out, part_int, kn_kn, kn_ki, kn_sl, kn_bin, nwl0, nwl1, nwl2, nwl3, nwl4, nwl5, nwl6, nwl7, nwl8, nwl9, nwl10, nwl11, nwl12, mkt0, mkt1, mkt2, mkt3, mkt4, mkt5, mkt6, mkt7, mkt8, ok_sliS, ok_sliT, gd_nil, asg_n, asg_t, asgs_nil, asgs_cons, ok_it_exT, ok_it_exS, ok_noEx, kd_find, kd_islower, kd_upper, kd_lower, kd_join, ok_find, ok_islower, ok_lenS, ok_lenT, ok_abs, ok_intI, ok_intB, ok_tupT, ok_lstT, ok_ixS, ok_ixT, ok_inS, ok_ninS, isi_str, isi_int, isi_bl, isi_non, isi_tup, ok_min, ok_max, kd_index, len4, List.set_cons_zero, List.set_cons_succ, true_and, and_true, Bool.not_true, Bool.not_false, Bool.false_eq_true, if_true, if_false, decide_eq_true_eq, decide_true, Option.map_some, h.s0]
  refine h.s1 [] _ _ (fun p hp => nomatch hp) fun T1 => ?_
  rw [none_up]
  simp only [ok_ok, ok_bad, ok_exc, ok_pure, ok_mbad, u_kE, u_kbin, u_kcmp, u_kix, u_knotb, u_knot, u_kneg, u_kand, u_kor, u_kite, u_kcons2, u_kcons, u_ktup, u_klst, u_ksl5, u_ksl4, u_ksl3, u_ksl2, u_ksl1, u_kcall2, u_kcall, u_kbi, u_kbm3, u_kbm2, u_kbm1, u_kch3, u_kch2, u_kch1, u_klc3, u_klc2, u_klc1, u_kfld, u_kisi, u_kex, u_kset, u_kasg, u_ksub4, u_ksub3, u_ksub2, u_ksub1, u_kaug2, u_kaug1, u_kas5, u_kas4, u_kas3, u_kas2, u_kas1, u_kret, u_kif, u_kfor2, u_kfor1, kand_t, kand_f, kor_t, kor_f, kite_t, kite_f, kif_t, kif_f, ok_sl', ok_kn, ok_kb, ok_ki, ok_ks, ok_gl', ok_bin', ok_neg', ok_not', ok_cmp', ok_chain', ok_and1, ok_and2, ok_or1, ok_or2, ok_and', ok_or', ok_ite', ok_nil, ok_cons, ok_tup', ok_lst', ok_ix', ok_sli', ok_fld', ok_call', ok_isi', ok_dic', ok_bi', ok_bm', ok_lc', ok_xnil, thenS_nx, thenS_rt, ok_xcons, ok_xex, ok_xset, ok_xasg, ok_xsub, ok_xaug, ok_xaugs, ok_xret, ok_xretn, ok_xpass, ok_xif, ok_xwhl, ok_xfor, ok_gets, ok_opt, ok_opt0, ok_truB, ok_truI, ok_truS, ok_truN, ok_truT, ok_addI, ok_subI, ok_augI, ok_augJ, ok_lt, ok_le, ok_gt, ok_ge, ok_eqI, ok_neI, ok_eqS, ok_neS, g0i, g0b, g0s, g0t, g0o, g0n, endQ_nx, endQ_rt, part_out, part_int, kn_kn, kn_ki, kn_sl, kn_bin, nwl0, nwl1, nwl2, nwl3, nwl4, nwl5, nwl6, nwl7, nwl8, nwl9, nwl10, nwl11, nwl12, mkt0, mkt1, mkt2, mkt3, mkt4, mkt5, mkt6, mkt7, mkt8, ok_sliS, ok_sliT, gd_nil, asg_n, asg_t, asgs_nil, asgs_cons, ok_it_exT, ok_it_exS, ok_noEx, kd_find, kd_islower, kd_upper, kd_lower, kd_join, ok_find, ok_islower, ok_lenS, ok_lenT, ok_abs, ok_intI, ok_intB, ok_tupT, ok_lstT, ok_ixS, ok_ixT, ok_inS, ok_ninS, isi_str, isi_int, isi_bl, isi_non, isi_tup, ok_min, ok_max, kd_index, len4, List.set_cons_zero, List.set_cons_succ, true_and, and_true, Bool.not_true, Bool.not_false, Bool.false_eq_true, if_true, if_false, decide_eq_true_eq, decide_true, Option.map_some, h.al.1]
  show Ok (D.cf nm__law_alike [rowsW [], rowsW []] [] [] (S ++ T1)) _
  rw [alk_rows h.al (by decide)]
  simp only [ok_ok, ok_bad, ok_exc, ok_pure, ok_mbad, u_kE, u_kbin, u_kcmp, u_kix, u_knotb, u_knot, u_kneg, u_kand, u_kor, u_kite, u_kcons2, u_kcons, u_ktup, u_klst, u_ksl5, u_ksl4, u_ksl3, u_ksl2, u_ksl1, u_kcall2, u_kcall, u_kbi, u_kbm3, u_kbm2, u_kbm1, u_kch3, u_kch2, u_kch1, u_klc3, u_klc2, u_klc1, u_kfld, u_kisi, u_kex, u_kset, u_kasg, u_ksub4, u_ksub3, u_ksub2, u_ksub1, u_kaug2, u_kaug1, u_kas5, u_kas4, u_kas3, u_kas2, u_kas1, u_kret, u_kif, u_kfor2, u_kfor1, kand_t, kand_f, kor_t, kor_f, kite_t, kite_f, kif_t, kif_f, ok_sl', ok_kn, ok_kb, ok_ki, ok_ks, ok_gl', ok_bin', ok_neg', ok_not', ok_cmp', ok_chain', ok_and1, ok_and2, ok_or1, ok_or2, ok_and', ok_or', ok_ite', ok_nil, ok_cons, ok_tup', ok_lst', ok_ix', ok_sli', ok_fld', ok_call', ok_isi', ok_dic', ok_bi', ok_bm', ok_lc', ok_xnil, thenS_nx, thenS_rt, ok_xcons, ok_xex, ok_xset, ok_xasg, ok_xsub, ok_xaug, ok_xaugs, ok_xret, ok_xretn, ok_xpass, ok_xif, ok_xwhl, ok_xfor, ok_gets, ok_opt, ok_opt0, ok_truB, ok_truI, ok_truS, ok_truN, ok_truT, ok_addI, ok_subI, ok_augI, ok_augJ, ok_lt, ok_le, ok_gt, ok_ge, ok_eqI, ok_neI, ok_eqS, ok_neS, g0i, g0b, g0s, g0t, g0o, g0n, endQ_nx, endQ_rt, part_out, part_int, kn_kn, kn_ki, kn_sl, kn_bin, nwl0, nwl1, nwl2, nwl3, nwl4, nwl5, nwl6, nwl7, nwl8, nwl9, nwl10, nwl11, nwl12, mkt0, mkt1, mkt2, mkt3, mkt4, mkt5, mkt6, mkt7, mkt8, ok_sliS, ok_sliT, gd_nil, asg_n, asg_t, asgs_nil, asgs_cons, ok_it_exT, ok_it_exS, ok_noEx, kd_find, kd_islower, kd_upper, kd_lower, kd_join, ok_find, ok_islower, ok_lenS, ok_lenT, ok_abs, ok_intI, ok_intB, ok_tupT, ok_lstT, ok_ixS, ok_ixT, ok_inS, ok_ninS, isi_str, isi_int, isi_bl, isi_non, isi_tup, ok_min, ok_max, kd_index, len4, List.set_cons_zero, List.set_cons_succ, true_and, and_true, Bool.not_true, Bool.not_false, Bool.false_eq_true, if_true, if_false, decide_eq_true_eq, decide_true, Option.map_some, h.tk.1]
  refine h.tk.2 _ _ _ _ _ _ (hb.app T1) (by decide) (by decide) fun v S2 v0 v1 sm hb2 => ?_
  have hm2 : S2[m]? = some (.lst xs) := by
    rw [sm.2 m hmn, List.getElem?_append_left (List.getElem?_eq_some_iff.mp hm).1]; exact hm
  simp only [ok_ok, ok_bad, ok_exc, ok_pure, ok_mbad, u_kE, u_kbin, u_kcmp, u_kix, u_knotb, u_knot, u_kneg, u_kand, u_kor, u_kite, u_kcons2, u_kcons, u_ktup, u_klst, u_ksl5, u_ksl4, u_ksl3, u_ksl2, u_ksl1, u_kcall2, u_kcall, u_kbi, u_kbm3, u_kbm2, u_kbm1, u_kch3, u_kch2, u_kch1, u_klc3, u_klc2, u_klc1, u_kfld, u_kisi, u_kex, u_kset, u_kasg, u_ksub4, u_ksub3, u_ksub2, u_ksub1, u_kaug2, u_kaug1, u_kas5, u_kas4, u_kas3, u_kas2, u_kas1, u_kret, u_kif, u_kfor2, u_kfor1, kand_t, kand_f, kor_t, kor_f, kite_t, kite_f, kif_t, kif_f, ok_sl', ok_kn, ok_kb, ok_ki, ok_ks, ok_gl', ok_bin', ok_neg', ok_not', ok_cmp', ok_chain', ok_and1, ok_and2, ok_or1, ok_or2, ok_and', ok_or', ok_ite', ok_nil, ok_cons, ok_tup', ok_lst', ok_ix', ok_sli', ok_fld', ok_call', ok_isi', ok_dic', ok_bi', ok_bm', ok_lc', ok_xnil, thenS_nx, thenS_rt, ok_xcons, ok_xex, ok_xset, ok_xasg, ok_xsub, ok_xaug, ok_xaugs, ok_xret, ok_xretn, ok_xpass, ok_xif, ok_xwhl, ok_xfor, ok_gets, ok_opt, ok_opt0, ok_truB, ok_truI, ok_truS, ok_truN, ok_truT, ok_addI, ok_subI, ok_augI, ok_augJ, ok_lt, ok_le, ok_gt, ok_ge, ok_eqI, ok_neI, ok_eqS, ok_neS, g0i, g0b, g0s, g0t, g0o, g0n, endQ_nx, endQ_rt, part_out, part_int, kn_kn, kn_ki, kn_sl, kn_bin, nwl0, nwl1, nwl2, nwl3, nwl4, nwl5, nwl6, nwl7, nwl8, nwl9, nwl10, nwl11, nwl12, mkt0, mkt1, mkt2, mkt3, mkt4, mkt5, mkt6, mkt7, mkt8, ok_sliS, ok_sliT, gd_nil, asg_n, asg_t, asgs_nil, asgs_cons, ok_it_exT, ok_it_exS, ok_noEx, kd_find, kd_islower, kd_upper, kd_lower, kd_join, ok_find, ok_islower, ok_lenS, ok_lenT, ok_abs, ok_intI, ok_intB, ok_tupT, ok_lstT, ok_ixS, ok_ixT, ok_inS, ok_ninS, isi_str, isi_int, isi_bl, isi_non, isi_tup, ok_min, ok_max, kd_index, len4, List.set_cons_zero, List.set_cons_succ, true_and, and_true, Bool.not_true, Bool.not_false, Bool.false_eq_true, if_true, if_false, decide_eq_true_eq, decide_true, Option.map_some]
  rw [ok_sliO (.inl hm2)]
  simp only [ok_ok, ok_bad, ok_exc, ok_pure, ok_mbad, u_kE, u_kbin, u_kcmp, u_kix, u_knotb, u_knot, u_kneg, u_kand, u_kor, u_kite, u_kcons2, u_kcons, u_ktup, u_klst, u_ksl5, u_ksl4, u_ksl3, u_ksl2, u_ksl1, u_kcall2, u_kcall, u_kbi, u_kbm3, u_kbm2, u_kbm1, u_kch3, u_kch2, u_kch1, u_klc3, u_klc2, u_klc1, u_kfld, u_kisi, u_kex, u_kset, u_kasg, u_ksub4, u_ksub3, u_ksub2, u_ksub1, u_kaug2, u_kaug1, u_kas5, u_kas4, u_kas3, u_kas2, u_kas1, u_kret, u_kif, u_kfor2, u_kfor1, kand_t, kand_f, kor_t, kor_f, kite_t, kite_f, kif_t, kif_f, ok_sl', ok_kn, ok_kb, ok_ki, ok_ks, ok_gl', ok_bin', ok_neg', ok_not', ok_cmp', ok_chain', ok_and1, ok_and2, ok_or1, ok_or2, ok_and', ok_or', ok_ite', ok_nil, ok_cons, ok_tup', ok_lst', ok_ix', ok_sli', ok_fld', ok_call', ok_isi', ok_dic', ok_bi', ok_bm', ok_lc', ok_xnil, thenS_nx, thenS_rt, ok_xcons, ok_xex, ok_xset, ok_xasg, ok_xsub, ok_xaug, ok_xaugs, ok_xret, ok_xretn, ok_xpass, ok_xif, ok_xwhl, ok_xfor, ok_gets, ok_opt, ok_opt0, ok_truB, ok_truI, ok_truS, ok_truN, ok_truT, ok_addI, ok_subI, ok_augI, ok_augJ, ok_lt, ok_le, ok_gt, ok_ge, ok_eqI, ok_neI, ok_eqS, ok_neS, g0i, g0b, g0s, g0t, g0o, g0n, endQ_nx, endQ_rt, part_out, part_int, kn_kn, kn_ki, kn_sl, kn_bin, nwl0, nwl1, nwl2, nwl3, nwl4, nwl5, nwl6, nwl7, nwl8, nwl9, nwl10, nwl11, nwl12, mkt0, mkt1, mkt2, mkt3, mkt4, mkt5, mkt6, mkt7, mkt8, ok_sliS, ok_sliT, gd_nil, asg_n, asg_t, asgs_nil, asgs_cons, ok_it_exT, ok_it_exS, ok_noEx, kd_find, kd_islower, kd_upper, kd_lower, kd_join, ok_find, ok_islower, ok_lenS, ok_lenT, ok_abs, ok_intI, ok_intB, ok_tupT, ok_lstT, ok_ixS, ok_ixT, ok_inS, ok_ninS, isi_str, isi_int, isi_bl, isi_non, isi_tup, ok_min, ok_max, kd_index, len4, List.set_cons_zero, List.set_cons_succ, true_and, and_true, Bool.not_true, Bool.not_false, Bool.false_eq_true, if_true, if_false, decide_eq_true_eq, decide_true, Option.map_some]
  have hcl := cutL_len xs none (some (1 + v))
  rw [ok_addL (xs := xs) (ys := cutL xs none (some (1 + v))) (by rw [List.getElem?_append_left (List.getElem?_eq_some_iff.mp hm2).1]; exact hm2) (by simp) (by rw [List.length_append, LINE]; omega)]
  simp only [ok_ok, ok_bad, ok_exc, ok_pure, ok_mbad, u_kE, u_kbin, u_kcmp, u_kix, u_knotb, u_knot, u_kneg, u_kand, u_kor, u_kite, u_kcons2, u_kcons, u_ktup, u_klst, u_ksl5, u_ksl4, u_ksl3, u_ksl2, u_ksl1, u_kcall2, u_kcall, u_kbi, u_kbm3, u_kbm2, u_kbm1, u_kch3, u_kch2, u_kch1, u_klc3, u_klc2, u_klc1, u_kfld, u_kisi, u_kex, u_kset, u_kasg, u_ksub4, u_ksub3, u_ksub2, u_ksub1, u_kaug2, u_kaug1, u_kas5, u_kas4, u_kas3, u_kas2, u_kas1, u_kret, u_kif, u_kfor2, u_kfor1, kand_t, kand_f, kor_t, kor_f, kite_t, kite_f, kif_t, kif_f, ok_sl', ok_kn, ok_kb, ok_ki, ok_ks, ok_gl', ok_bin', ok_neg', ok_not', ok_cmp', ok_chain', ok_and1, ok_and2, ok_or1, ok_or2, ok_and', ok_or', ok_ite', ok_nil, ok_cons, ok_tup', ok_lst', ok_ix', ok_sli', ok_fld', ok_call', ok_isi', ok_dic', ok_bi', ok_bm', ok_lc', ok_xnil, thenS_nx, thenS_rt, ok_xcons, ok_xex, ok_xset, ok_xasg, ok_xsub, ok_xaug, ok_xaugs, ok_xret, ok_xretn, ok_xpass, ok_xif, ok_xwhl, ok_xfor, ok_gets, ok_opt, ok_opt0, ok_truB, ok_truI, ok_truS, ok_truN, ok_truT, ok_addI, ok_subI, ok_augI, ok_augJ, ok_lt, ok_le, ok_gt, ok_ge, ok_eqI, ok_neI, ok_eqS, ok_neS, g0i, g0b, g0s, g0t, g0o, g0n, endQ_nx, endQ_rt, part_out, part_int, kn_kn, kn_ki, kn_sl, kn_bin, nwl0, nwl1, nwl2, nwl3, nwl4, nwl5, nwl6, nwl7, nwl8, nwl9, nwl10, nwl11, nwl12, mkt0, mkt1, mkt2, mkt3, mkt4, mkt5, mkt6, mkt7, mkt8, ok_sliS, ok_sliT, gd_nil, asg_n, asg_t, asgs_nil, asgs_cons, ok_it_exT, ok_it_exS, ok_noEx, kd_find, kd_islower, kd_upper, kd_lower, kd_join, ok_find, ok_islower, ok_lenS, ok_lenT, ok_abs, ok_intI, ok_intB, ok_tupT, ok_lstT, ok_ixS, ok_ixT, ok_inS, ok_ninS, isi_str, isi_int, isi_bl, isi_non, isi_tup, ok_min, ok_max, kd_index, len4, List.set_cons_zero, List.set_cons_succ, true_and, and_true, Bool.not_true, Bool.not_false, Bool.false_eq_true, if_true, if_false, decide_eq_true_eq, decide_true, Option.map_some]
  rw [ok_it_ex all_new']
  simp only [ok_ok, ok_bad, ok_exc, ok_pure, ok_mbad, u_kE, u_kbin, u_kcmp, u_kix, u_knotb, u_knot, u_kneg, u_kand, u_kor, u_kite, u_kcons2, u_kcons, u_ktup, u_klst, u_ksl5, u_ksl4, u_ksl3, u_ksl2, u_ksl1, u_kcall2, u_kcall, u_kbi, u_kbm3, u_kbm2, u_kbm1, u_kch3, u_kch2, u_kch1, u_klc3, u_klc2, u_klc1, u_kfld, u_kisi, u_kex, u_kset, u_kasg, u_ksub4, u_ksub3, u_ksub2, u_ksub1, u_kaug2, u_kaug1, u_kas5, u_kas4, u_kas3, u_kas2, u_kas1, u_kret, u_kif, u_kfor2, u_kfor1, kand_t, kand_f, kor_t, kor_f, kite_t, kite_f, kif_t, kif_f, ok_sl', ok_kn, ok_kb, ok_ki, ok_ks, ok_gl', ok_bin', ok_neg', ok_not', ok_cmp', ok_chain', ok_and1, ok_and2, ok_or1, ok_or2, ok_and', ok_or', ok_ite', ok_nil, ok_cons, ok_tup', ok_lst', ok_ix', ok_sli', ok_fld', ok_call', ok_isi', ok_dic', ok_bi', ok_bm', ok_lc', ok_xnil, thenS_nx, thenS_rt, ok_xcons, ok_xex, ok_xset, ok_xasg, ok_xsub, ok_xaug, ok_xaugs, ok_xret, ok_xretn, ok_xpass, ok_xif, ok_xwhl, ok_xfor, ok_gets, ok_opt, ok_opt0, ok_truB, ok_truI, ok_truS, ok_truN, ok_truT, ok_addI, ok_subI, ok_augI, ok_augJ, ok_lt, ok_le, ok_gt, ok_ge, ok_eqI, ok_neI, ok_eqS, ok_neS, g0i, g0b, g0s, g0t, g0o, g0n, endQ_nx, endQ_rt, part_out, part_int, kn_kn, kn_ki, kn_sl, kn_bin, nwl0, nwl1, nwl2, nwl3, nwl4, nwl5, nwl6, nwl7, nwl8, nwl9, nwl10, nwl11, nwl12, mkt0, mkt1, mkt2, mkt3, mkt4, mkt5, mkt6, mkt7, mkt8, ok_sliS, ok_sliT, gd_nil, asg_n, asg_t, asgs_nil, asgs_cons, ok_it_exT, ok_it_exS, ok_noEx, kd_find, kd_islower, kd_upper, kd_lower, kd_join, ok_find, ok_islower, ok_lenS, ok_lenT, ok_abs, ok_intI, ok_intB, ok_tupT, ok_lstT, ok_ixS, ok_ixT, ok_inS, ok_ninS, isi_str, isi_int, isi_bl, isi_non, isi_tup, ok_min, ok_max, kd_index, len4, List.set_cons_zero, List.set_cons_succ, true_and, and_true, Bool.not_true, Bool.not_false, Bool.false_eq_true, if_true, if_false, decide_eq_true_eq, decide_true, Option.map_some]
  generalize hS3 : S2 ++ [O.lst (cutL xs none (some (1 + v)))] = S3
  have hall : AllR (xs ++ cutL xs none (some (1 + v))) := fun y hy => (List.mem_append.mp hy).elim (hx y) fun hy => hx y (cutL_mem hy)
  generalize xs ++ cutL xs none (some (1 + v)) = ys at hall ⊢
  refine for_ok (fun i ρ S' => (∃ x3, ρ = [x0, .ob n, .ob m, x3, x4]) ∧ ∃ T, S' = S3 ++ [O.lst ys] ++ T) (i := 0) ⟨⟨_, rfl⟩, [], by simp⟩ (fun i x ρ S' hx hI => ?_) (fun ρ S' hI => ?_)
  · obtain ⟨⟨x3, rfl⟩, T, rfl⟩ := hI
    obtain ⟨ps, rfl, hro, hpl⟩ := hall x (List.mem_of_getElem? hx)
    refine ⟨gd_of (lstAt_app all_new' _), [x0, .ob n, .ob m, rowsW ps, x4], by simp, ?_⟩
    simp only [ok_ok, ok_bad, ok_exc, ok_pure, ok_mbad, u_kE, u_kbin, u_kcmp, u_kix, u_knotb, u_knot, u_kneg, u_kand, u_kor, u_kite, u_kcons2, u_kcons, u_ktup, u_klst, u_ksl5, u_ksl4, u_ksl3, u_ksl2, u_ksl1, u_kcall2, u_kcall, u_kbi, u_kbm3, u_kbm2, u_kbm1, u_kch3, u_kch2, u_kch1, u_klc3, u_klc2, u_klc1, u_kfld, u_kisi, u_kex, u_kset, u_kasg, u_ksub4, u_ksub3, u_ksub2, u_ksub1, u_kaug2, u_kaug1, u_kas5, u_kas4, u_kas3, u_kas2, u_kas1, u_kret, u_kif, u_kfor2, u_kfor1, kand_t, kand_f, kor_t, kor_f, kite_t, kite_f, kif_t, kif_f, ok_sl', ok_kn, ok_kb, ok_ki, ok_ks, ok_gl', ok_bin', ok_neg', ok_not', ok_cmp', ok_chain', ok_and1, ok_and2, ok_or1, ok_or2, ok_and', ok_or', ok_ite', ok_nil, ok_cons, ok_tup', ok_lst', ok_ix', ok_sli', ok_fld', ok_call', ok_isi', ok_dic', ok_bi', ok_bm', ok_lc', ok_xnil, thenS_nx, thenS_rt, ok_xcons, ok_xex, ok_xset, ok_xasg, ok_xsub, ok_xaug, ok_xaugs, ok_xret, ok_xretn, ok_xpass, ok_xif, ok_xwhl, ok_xfor, ok_gets, ok_opt, ok_opt0, ok_truB, ok_truI, ok_truS, ok_truN, ok_truT, ok_addI, ok_subI, ok_augI, ok_augJ, ok_lt, ok_le, ok_gt, ok_ge, ok_eqI, ok_neI, ok_eqS, ok_neS, g0i, g0b, g0s, g0t, g0o, g0n, endQ_nx, endQ_rt, part_out, part_int, kn_kn, kn_ki, kn_sl, kn_bin, nwl0, nwl1, nwl2, nwl3, nwl4, nwl5, nwl6, nwl7, nwl8, nwl9, nwl10, nwl11, nwl12, mkt0, mkt1, mkt2, mkt3, mkt4, mkt5, mkt6, mkt7, mkt8, ok_sliS, ok_sliT, gd_nil, asg_n, asg_t, asgs_nil, asgs_cons, ok_it_exT, ok_it_exS, ok_noEx, kd_find, kd_islower, kd_upper, kd_lower, kd_join, ok_find, ok_islower, ok_lenS, ok_lenT, ok_abs, ok_intI, ok_intB, ok_tupT, ok_lstT, ok_ixS, ok_ixT, ok_inS, ok_ninS, isi_str, isi_int, isi_bl, isi_non, isi_tup, ok_min, ok_max, kd_index, len4, List.set_cons_zero, List.set_cons_succ, true_and, and_true, Bool.not_true, Bool.not_false, Bool.false_eq_true, if_true, if_false, decide_eq_true_eq, decide_true, Option.map_some, ok_get0 (rowsW ps) [x4] (rowsW_un ps), h.r0]
    refine h.r1 ps _ _ hro hpl fun T2 => ?_
    simp only [ok_ok, ok_bad, ok_exc, ok_pure, ok_mbad, u_kE, u_kbin, u_kcmp, u_kix, u_knotb, u_knot, u_kneg, u_kand, u_kor, u_kite, u_kcons2, u_kcons, u_ktup, u_klst, u_ksl5, u_ksl4, u_ksl3, u_ksl2, u_ksl1, u_kcall2, u_kcall, u_kbi, u_kbm3, u_kbm2, u_kbm1, u_kch3, u_kch2, u_kch1, u_klc3, u_klc2, u_klc1, u_kfld, u_kisi, u_kex, u_kset, u_kasg, u_ksub4, u_ksub3, u_ksub2, u_ksub1, u_kaug2, u_kaug1, u_kas5, u_kas4, u_kas3, u_kas2, u_kas1, u_kret, u_kif, u_kfor2, u_kfor1, kand_t, kand_f, kor_t, kor_f, kite_t, kite_f, kif_t, kif_f, ok_sl', ok_kn, ok_kb, ok_ki, ok_ks, ok_gl', ok_bin', ok_neg', ok_not', ok_cmp', ok_chain', ok_and1, ok_and2, ok_or1, ok_or2, ok_and', ok_or', ok_ite', ok_nil, ok_cons, ok_tup', ok_lst', ok_ix', ok_sli', ok_fld', ok_call', ok_isi', ok_dic', ok_bi', ok_bm', ok_lc', ok_xnil, thenS_nx, thenS_rt, ok_xcons, ok_xex, ok_xset, ok_xasg, ok_xsub, ok_xaug, ok_xaugs, ok_xret, ok_xretn, ok_xpass, ok_xif, ok_xwhl, ok_xfor, ok_gets, ok_opt, ok_opt0, ok_truB, ok_truI, ok_truS, ok_truN, ok_truT, ok_addI, ok_subI, ok_augI, ok_augJ, ok_lt, ok_le, ok_gt, ok_ge, ok_eqI, ok_neI, ok_eqS, ok_neS, g0i, g0b, g0s, g0t, g0o, g0n, endQ_nx, endQ_rt, part_out, part_int, kn_kn, kn_ki, kn_sl, kn_bin, nwl0, nwl1, nwl2, nwl3, nwl4, nwl5, nwl6, nwl7, nwl8, nwl9, nwl10, nwl11, nwl12, mkt0, mkt1, mkt2, mkt3, mkt4, mkt5, mkt6, mkt7, mkt8, ok_sliS, ok_sliT, gd_nil, asg_n, asg_t, asgs_nil, asgs_cons, ok_it_exT, ok_it_exS, ok_noEx, kd_find, kd_islower, kd_upper, kd_lower, kd_join, ok_find, ok_islower, ok_lenS, ok_lenT, ok_abs, ok_intI, ok_intB, ok_tupT, ok_lstT, ok_ixS, ok_ixT, ok_inS, ok_ninS, isi_str, isi_int, isi_bl, isi_non, isi_tup, ok_min, ok_max, kd_index, len4, List.set_cons_zero, List.set_cons_succ, true_and, and_true, Bool.not_true, Bool.not_false, Bool.false_eq_true, if_true, if_false, decide_eq_true_eq, decide_true, Option.map_some]
    exact ⟨⟨_, rfl⟩, T ++ T2, by rw [List.append_assoc (S3 ++ [O.lst ys])]⟩
  · obtain ⟨⟨x3, rfl⟩, T, rfl⟩ := hI
    refine ⟨gd_of (lstAt_app all_new' _), ?_⟩
    simp only [ok_ok, ok_bad, ok_exc, ok_pure, ok_mbad, u_kE, u_kbin, u_kcmp, u_kix, u_knotb, u_knot, u_kneg, u_kand, u_kor, u_kite, u_kcons2, u_kcons, u_ktup, u_klst, u_ksl5, u_ksl4, u_ksl3, u_ksl2, u_ksl1, u_kcall2, u_kcall, u_kbi, u_kbm3, u_kbm2, u_kbm1, u_kch3, u_kch2, u_kch1, u_klc3, u_klc2, u_klc1, u_kfld, u_kisi, u_kex, u_kset, u_kasg, u_ksub4, u_ksub3, u_ksub2, u_ksub1, u_kaug2, u_kaug1, u_kas5, u_kas4, u_kas3, u_kas2, u_kas1, u_kret, u_kif, u_kfor2, u_kfor1, kand_t, kand_f, kor_t, kor_f, kite_t, kite_f, kif_t, kif_f, ok_sl', ok_kn, ok_kb, ok_ki, ok_ks, ok_gl', ok_bin', ok_neg', ok_not', ok_cmp', ok_chain', ok_and1, ok_and2, ok_or1, ok_or2, ok_and', ok_or', ok_ite', ok_nil, ok_cons, ok_tup', ok_lst', ok_ix', ok_sli', ok_fld', ok_call', ok_isi', ok_dic', ok_bi', ok_bm', ok_lc', ok_xnil, thenS_nx, thenS_rt, ok_xcons, ok_xex, ok_xset, ok_xasg, ok_xsub, ok_xaug, ok_xaugs, ok_xret, ok_xretn, ok_xpass, ok_xif, ok_xwhl, ok_xfor, ok_gets, ok_opt, ok_opt0, ok_truB, ok_truI, ok_truS, ok_truN, ok_truT, ok_addI, ok_subI, ok_augI, ok_augJ, ok_lt, ok_le, ok_gt, ok_ge, ok_eqI, ok_neI, ok_eqS, ok_neS, g0i, g0b, g0s, g0t, g0o, g0n, endQ_nx, endQ_rt, part_out, part_int, kn_kn, kn_ki, kn_sl, kn_bin, nwl0, nwl1, nwl2, nwl3, nwl4, nwl5, nwl6, nwl7, nwl8, nwl9, nwl10, nwl11, nwl12, mkt0, mkt1, mkt2, mkt3, mkt4, mkt5, mkt6, mkt7, mkt8, ok_sliS, ok_sliT, gd_nil, asg_n, asg_t, asgs_nil, asgs_cons, ok_it_exT, ok_it_exS, ok_noEx, kd_find, kd_islower, kd_upper, kd_lower, kd_join, ok_find, ok_islower, ok_lenS, ok_lenT, ok_abs, ok_intI, ok_intB, ok_tupT, ok_lstT, ok_ixS, ok_ixT, ok_inS, ok_ninS, isi_str, isi_int, isi_bl, isi_non, isi_tup, ok_min, ok_max, kd_index, len4, List.set_cons_zero, List.set_cons_succ, true_and, and_true, Bool.not_true, Bool.not_false, Bool.false_eq_true, if_true, if_false, decide_eq_true_eq, decide_true, Option.map_some]
    exact q _
theorem law_ok (h : LawOk D) (hbag : nm__law_bag ∈ D.fns ∧ ∀ (n : Nat) (ns : List Int) (Q : W → Sto → Prop) (S : Sto), S[n]? = some (.rol (ns.map .int)) → (∀ S', Bag (S ++ S') (S.length + 2) (S.length + 1) ((ns.take 63).map fun i => if i < 0 then -i else i) → S'.length = 3 → Q (.ob (S.length + 2)) (S ++ S')) → Ok (D.cf nm__law_bag [.ob n] [] [] S) Q)
    (ns : List Int) (q : ∀ S', Q (.bl true) S') : Ok (fnM D 5 d_law.ts [.ob 0] [.rol (ns.map .int)]) Q := by
  rw [ok_fn (ρ := [.ob 0, .un, .un, .un, .un]) rfl]
  have hts : d_law.ts = d_law.ts.take 2 ++ d_law.ts.drop 2 := (List.take_append_drop 2 _).symm
  have hrest : ∀ {S : Sto} {n j : Nat} {cs : List Int} {m : Nat} {xs : List W}, Bag S n j cs → AllR xs → xs.length = 6 → S[m]? = some (.lst xs) → m ≠ n → ∀ {x0 x3 x4 : W}, Ok (exs D (d_law.ts.drop 2) [x0, .ob n, .ob m, x3, x4] S) (endQ Q) := by
    intro S n j cs m xs hb hx hl hm hmn x0 x3 x4
    exact law_rest h hb hx hl hm hmn q
  rw [hts]
  generalize d_law.ts.drop 2 = rest at hrest ⊢
  unfold d_law
  simp only [List.take_succ_cons, List.take_zero, List.cons_append, List.nil_append]
  simp only [ok_ok, ok_bad, ok_exc, ok_pure, ok_mbad, u_kE, u_kbin, u_kcmp, u_kix, u_knotb, u_knot, u_kneg, u_kand, u_kor, u_kite, u_kcons2, u_kcons, u_ktup, u_klst, u_ksl5, u_ksl4, u_ksl3, u_ksl2, u_ksl1, u_kcall2, u_kcall, u_kbi, u_kbm3, u_kbm2, u_kbm1, u_kch3, u_kch2, u_kch1, u_klc3, u_klc2, u_klc1, u_kfld, u_kisi, u_kex, u_kset, u_kasg, u_ksub4, u_ksub3, u_ksub2, u_ksub1, u_kaug2, u_kaug1, u_kas5, u_kas4, u_kas3, u_kas2, u_kas1, u_kret, u_kif, u_kfor2, u_kfor1, kand_t, kand_f, kor_t, kor_f, kite_t, kite_f, kif_t, kif_f, ok_sl', ok_kn, ok_kb, ok_ki, ok_ks, ok_gl', ok_bin', ok_neg', ok_not', ok_cmp', ok_chain', ok_and1, ok_and2, ok_or1, ok_or2, ok_and', ok_or', ok_ite', ok_nil, ok_cons, ok_tup', ok_lst', ok_ix', ok_sli', ok_fld', ok_call', ok_isi', ok_dic', ok_bi', ok_bm', ok_lc', ok_xnil, thenS_nx, thenS_rt, ok_xcons, ok_xex, ok_xset, ok_xasg, ok_xsub, ok_xaug, ok_xaugs, ok_xret, ok_xretn, ok_xpass, ok_xif, ok_xwhl, ok_xfor, ok_gets, ok_opt, ok_opt0, ok_truB, ok_truI, ok_truS, ok_truN, ok_truT, ok_addI, ok_subI, ok_augI, ok_augJ, ok_lt, ok_le, ok_gt, ok_ge, ok_eqI, ok_neI, ok_eqS, ok_neS, g0i, g0b, g0s, g0t, g0o, g0n, endQ_nx, endQ_rt, part_out, part_int, kn_kn, kn_ki, kn_sl, kn_bin, nwl0, nwl1, nwl2, nwl3, nwl4, nwl5, nwl6, nwl7, nwl8, nwl9, nwl10, nwl11, nwl12, mkt0, mkt1, mkt2, mkt3, mkt4, mkt5, mkt6, mkt7, mkt8, ok_sliS, ok_sliT, gd_nil, asg_n, asg_t, asgs_nil, asgs_cons, ok_it_exT, ok_it_exS, ok_noEx, kd_find, kd_islower, kd_upper, kd_lower, kd_join, ok_find, ok_islower, ok_lenS, ok_lenT, ok_abs, ok_intI, ok_intB, ok_tupT, ok_lstT, ok_ixS, ok_ixT, ok_inS, ok_ninS, isi_str, isi_int, isi_bl, isi_non, isi_tup, ok_min, ok_max, kd_index, len4, List.set_cons_zero, List.set_cons_succ, true_and, and_true, Bool.not_true, Bool.not_false, Bool.false_eq_true, if_true, if_false, decide_eq_true_eq, decide_true, Option.map_some, hbag.1]
  refine hbag.2 0 ns _ _ rfl fun S1 hb hS1 => ?_
  simp only [ok_ok, ok_bad, ok_exc, ok_pure, ok_mbad, u_kE, u_kbin, u_kcmp, u_kix, u_knotb, u_knot, u_kneg, u_kand, u_kor, u_kite, u_kcons2, u_kcons, u_ktup, u_klst, u_ksl5, u_ksl4, u_ksl3, u_ksl2, u_ksl1, u_kcall2, u_kcall, u_kbi, u_kbm3, u_kbm2, u_kbm1, u_kch3, u_kch2, u_kch1, u_klc3, u_klc2, u_klc1, u_kfld, u_kisi, u_kex, u_kset, u_kasg, u_ksub4, u_ksub3, u_ksub2, u_ksub1, u_kaug2, u_kaug1, u_kas5, u_kas4, u_kas3, u_kas2, u_kas1, u_kret, u_kif, u_kfor2, u_kfor1, kand_t, kand_f, kor_t, kor_f, kite_t, kite_f, kif_t, kif_f, ok_sl', ok_kn, ok_kb, ok_ki, ok_ks, ok_gl', ok_bin', ok_neg', ok_not', ok_cmp', ok_chain', ok_and1, ok_and2, ok_or1, ok_or2, ok_and', ok_or', ok_ite', ok_nil, ok_cons, ok_tup', ok_lst', ok_ix', ok_sli', ok_fld', ok_call', ok_isi', ok_dic', ok_bi', ok_bm', ok_lc', ok_xnil, thenS_nx, thenS_rt, ok_xcons, ok_xex, ok_xset, ok_xasg, ok_xsub, ok_xaug, ok_xaugs, ok_xret, ok_xretn, ok_xpass, ok_xif, ok_xwhl, ok_xfor, ok_gets, ok_opt, ok_opt0, ok_truB, ok_truI, ok_truS, ok_truN, ok_truT, ok_addI, ok_subI, ok_augI, ok_augJ, ok_lt, ok_le, ok_gt, ok_ge, ok_eqI, ok_neI, ok_eqS, ok_neS, g0i, g0b, g0s, g0t, g0o, g0n, endQ_nx, endQ_rt, part_out, part_int, kn_kn, kn_ki, kn_sl, kn_bin, nwl0, nwl1, nwl2, nwl3, nwl4, nwl5, nwl6, nwl7, nwl8, nwl9, nwl10, nwl11, nwl12, mkt0, mkt1, mkt2, mkt3, mkt4, mkt5, mkt6, mkt7, mkt8, ok_sliS, ok_sliT, gd_nil, asg_n, asg_t, asgs_nil, asgs_cons, ok_it_exT, ok_it_exS, ok_noEx, kd_find, kd_islower, kd_upper, kd_lower, kd_join, ok_find, ok_islower, ok_lenS, ok_lenT, ok_abs, ok_intI, ok_intB, ok_tupT, ok_lstT, ok_ixS, ok_ixT, ok_inS, ok_ninS, isi_str, isi_int, isi_bl, isi_non, isi_tup, ok_min, ok_max, kd_index, len4, List.set_cons_zero, List.set_cons_succ, true_and, and_true, Bool.not_true, Bool.not_false, Bool.false_eq_true, if_true, if_false, decide_eq_true_eq, decide_true, Option.map_some]
  rw [ok_it_rng, if_pos (by decide)]
  simp only [ok_ok, ok_bad, ok_exc, ok_pure, ok_mbad, u_kE, u_kbin, u_kcmp, u_kix, u_knotb, u_knot, u_kneg, u_kand, u_kor, u_kite, u_kcons2, u_kcons, u_ktup, u_klst, u_ksl5, u_ksl4, u_ksl3, u_ksl2, u_ksl1, u_kcall2, u_kcall, u_kbi, u_kbm3, u_kbm2, u_kbm1, u_kch3, u_kch2, u_kch1, u_klc3, u_klc2, u_klc1, u_kfld, u_kisi, u_kex, u_kset, u_kasg, u_ksub4, u_ksub3, u_ksub2, u_ksub1, u_kaug2, u_kaug1, u_kas5, u_kas4, u_kas3, u_kas2, u_kas1, u_kret, u_kif, u_kfor2, u_kfor1, kand_t, kand_f, kor_t, kor_f, kite_t, kite_f, kif_t, kif_f, ok_sl', ok_kn, ok_kb, ok_ki, ok_ks, ok_gl', ok_bin', ok_neg', ok_not', ok_cmp', ok_chain', ok_and1, ok_and2, ok_or1, ok_or2, ok_and', ok_or', ok_ite', ok_nil, ok_cons, ok_tup', ok_lst', ok_ix', ok_sli', ok_fld', ok_call', ok_isi', ok_dic', ok_bi', ok_bm', ok_lc', ok_xnil, thenS_nx, thenS_rt, ok_xcons, ok_xex, ok_xset, ok_xasg, ok_xsub, ok_xaug, ok_xaugs, ok_xret, ok_xretn, ok_xpass, ok_xif, ok_xwhl, ok_xfor, ok_gets, ok_opt, ok_opt0, ok_truB, ok_truI, ok_truS, ok_truN, ok_truT, ok_addI, ok_subI, ok_augI, ok_augJ, ok_lt, ok_le, ok_gt, ok_ge, ok_eqI, ok_neI, ok_eqS, ok_neS, g0i, g0b, g0s, g0t, g0o, g0n, endQ_nx, endQ_rt, part_out, part_int, kn_kn, kn_ki, kn_sl, kn_bin, nwl0, nwl1, nwl2, nwl3, nwl4, nwl5, nwl6, nwl7, nwl8, nwl9, nwl10, nwl11, nwl12, mkt0, mkt1, mkt2, mkt3, mkt4, mkt5, mkt6, mkt7, mkt8, ok_sliS, ok_sliT, gd_nil, asg_n, asg_t, asgs_nil, asgs_cons, ok_it_exT, ok_it_exS, ok_noEx, kd_find, kd_islower, kd_upper, kd_lower, kd_join, ok_find, ok_islower, ok_lenS, ok_lenT, ok_abs, ok_intI, ok_intB, ok_tupT, ok_lstT, ok_ixS, ok_ixT, ok_inS, ok_ninS, isi_str, isi_int, isi_bl, isi_non, isi_tup, ok_min, ok_max, kd_index, len4, List.set_cons_zero, List.set_cons_succ, true_and, and_true, Bool.not_true, Bool.not_false, Bool.false_eq_true, if_true, if_false, decide_eq_true_eq, decide_true, Option.map_some, wipeW]
  refine some_lc h hb fun xs S2 hx hl hb2 hd => ?_
  simp only [ok_ok, ok_bad, ok_exc, ok_pure, ok_mbad, u_kE, u_kbin, u_kcmp, u_kix, u_knotb, u_knot, u_kneg, u_kand, u_kor, u_kite, u_kcons2, u_kcons, u_ktup, u_klst, u_ksl5, u_ksl4, u_ksl3, u_ksl2, u_ksl1, u_kcall2, u_kcall, u_kbi, u_kbm3, u_kbm2, u_kbm1, u_kch3, u_kch2, u_kch1, u_klc3, u_klc2, u_klc1, u_kfld, u_kisi, u_kex, u_kset, u_kasg, u_ksub4, u_ksub3, u_ksub2, u_ksub1, u_kaug2, u_kaug1, u_kas5, u_kas4, u_kas3, u_kas2, u_kas1, u_kret, u_kif, u_kfor2, u_kfor1, kand_t, kand_f, kor_t, kor_f, kite_t, kite_f, kif_t, kif_f, ok_sl', ok_kn, ok_kb, ok_ki, ok_ks, ok_gl', ok_bin', ok_neg', ok_not', ok_cmp', ok_chain', ok_and1, ok_and2, ok_or1, ok_or2, ok_and', ok_or', ok_ite', ok_nil, ok_cons, ok_tup', ok_lst', ok_ix', ok_sli', ok_fld', ok_call', ok_isi', ok_dic', ok_bi', ok_bm', ok_lc', ok_xnil, thenS_nx, thenS_rt, ok_xcons, ok_xex, ok_xset, ok_xasg, ok_xsub, ok_xaug, ok_xaugs, ok_xret, ok_xretn, ok_xpass, ok_xif, ok_xwhl, ok_xfor, ok_gets, ok_opt, ok_opt0, ok_truB, ok_truI, ok_truS, ok_truN, ok_truT, ok_addI, ok_subI, ok_augI, ok_augJ, ok_lt, ok_le, ok_gt, ok_ge, ok_eqI, ok_neI, ok_eqS, ok_neS, g0i, g0b, g0s, g0t, g0o, g0n, endQ_nx, endQ_rt, part_out, part_int, kn_kn, kn_ki, kn_sl, kn_bin, nwl0, nwl1, nwl2, nwl3, nwl4, nwl5, nwl6, nwl7, nwl8, nwl9, nwl10, nwl11, nwl12, mkt0, mkt1, mkt2, mkt3, mkt4, mkt5, mkt6, mkt7, mkt8, ok_sliS, ok_sliT, gd_nil, asg_n, asg_t, asgs_nil, asgs_cons, ok_it_exT, ok_it_exS, ok_noEx, kd_find, kd_islower, kd_upper, kd_lower, kd_join, ok_find, ok_islower, ok_lenS, ok_lenT, ok_abs, ok_intI, ok_intB, ok_tupT, ok_lstT, ok_ixS, ok_ixT, ok_inS, ok_ninS, isi_str, isi_int, isi_bl, isi_non, isi_tup, ok_min, ok_max, kd_index, len4, List.set_cons_zero, List.set_cons_succ, true_and, and_true, Bool.not_true, Bool.not_false, Bool.false_eq_true, if_true, if_false, decide_eq_true_eq, decide_true, Option.map_some]
  exact hrest hb2 hx hl hd (by have := (bag_lt hb).1; omega)
theorem fns (k : Nat) : (DD k).fns = ds.map (·.nm) := by cases k <;> rfl
theorem gvs (k : Nat) : (DD k).gv nm_SIGNS = some (.str gv_SIGNS) := by cases k <;> rfl
theorem take_D (k : Nat) : TkOk (DD (k + 1)) := ⟨by rw [fns]; decide, fun S n j cs m Q hb h0 h1 q => by rw [cf__law_take k _ rfl]; exact take_ok hb h0 h1 q⟩
theorem order_D (k : Nat) : OrdOk (DD (k + 1)) := ⟨by rw [fns]; decide, fun Q S => by rw [cf__law_order k _ rfl]; exact sp_lawOrder⟩
theorem find_sg : ∀ k : Nat, k < 95 → Txt.find (toS gv_SIGNS) (toS [sgN k]) = (k : Int) := by decide +kernel
theorem signs_D (k : Nat) : SignsOk (DD (k + 1)) where
  g := gvs _
  r0 := by rw [fns]; decide
  r1 := fun i hi Q S => by rw [cf_rank k _ rfl]; exact (sp_rank (gvs k) _).trans (by rw [find_sg i hi])
  s0 := by rw [fns]; decide
  s1 := fun i hi Q S => by rw [cf_sign_of k _ rfl]; exact (sp_sign_of (gvs k) _).trans (by rw [sg_at hi, Option.map_some, ok_opt])
theorem lrank_D (k : Nat) : LRankOk (DD (k + 2)) := ⟨by rw [fns]; decide, fun i hi Q S => by rw [cf__law_rank (k + 1) _ rfl]; exact sp_lawRank (order_D k) hi⟩
theorem alike_D (k : Nat) : AlkOk (DD (k + 1)) := ⟨by rw [fns]; decide, fun x y d Q S h1 h2 h3 h4 h5 h6 h7 h8 => by rw [cf__law_alike k _ rfl]; exact sp_alike h1 h2 h3 h4 h5 h6 h7 h8⟩
theorem settled_D (k : Nat) : nm_settled ∈ (DD (k + 3)).fns ∧ ∀ (ps : List (Nat × Nat)) (Q : W → Sto → Prop) (S : Sto), ROk ps → (∀ T, Q (rowsW (rowsUp (covers ps))) (S ++ T)) → Ok ((DD (k + 3)).cf nm_settled [rowsW ps] [] [] S) Q :=
  ⟨by rw [fns]; decide, fun ps Q S hp q => by
    rw [cf_settled (k + 2) _ rfl]
    exact settled_ok (by rw [fns]; decide) (by rw [fns]; decide) (fun Q S q => by rw [cf_held_by (k + 1) _ rfl]; exact held_ok (signs_D k) hp q) (fun f a Q S ha q => by rw [cf_rows_of (k + 1) _ rfl]; exact rows_of_ok (signs_D k) ha q) q⟩
theorem holds_D (k : Nat) : HoldsOk (DD (k + 2)) := ⟨by rw [fns]; decide, fun ps i Q S hp hl hi q => by rw [cf_holds (k + 1) _ rfl]; exact holds_ok (signs_D k) hp hl hi q⟩
theorem right_D (k : Nat) : RightOk (DD (k + 3)) where
  t0 := by rw [fns]; decide
  t1 := fun ps Q S hp hl q => by rw [cf__law_truths (k + 2) _ rfl]; exact truths_ok (lrank_D k) hp hl q
  l0 := by rw [fns]; decide
  l1 := fun f a Q S ha q => by rw [cf__law_settled (k + 2) _ rfl]; exact lawSettled_ok (order_D (k + 1)) ha q
  s0 := (settled_D k).1
  s1 := (settled_D k).2
  al := alike_D (k + 2)
  od := order_D (k + 2)
  ho := holds_D (k + 1)
theorem law_D : LawOk (DD 4) where
  m0 := by rw [fns]; decide
  m1 := fun S n j cs Q hb q => by rw [cf__law_some_rows 3 _ rfl]; exact someRows_ok (take_D 2) (order_D 2) hb (by decide) (by decide) q
  r0 := by rw [fns]; decide
  r1 := fun ps Q S hp hl q => by rw [cf__law_right 3 _ rfl]; exact right_ok (right_D 0) hp hl q
  s0 := (settled_D 1).1
  s1 := (settled_D 1).2
  al := alike_D 3
  tk := take_D 3
theorem main (ns : List Int) (_ : ns.length ≤ 63) : ∃ S', fnM (DD KK) d_law.N.length d_law.ts [.ob ([] : Sto).length] ([] ++ [.rol (ns.map .int)]) = .ok (.bl true) S' := by
  have go : Ok (fnM (DD 4) 5 d_law.ts [.ob 0] [.rol (ns.map .int)]) fun w _ => w = .bl true :=
    law_ok law_D ⟨by rw [fns]; decide, fun n ns Q S h q => by rw [cf__law_bag 3 _ rfl]; exact bag_ok h q⟩ ns fun _ => rfl
  obtain ⟨w, S', e, rfl⟩ := go.ex
  exact ⟨S', e⟩
end
end LawK13

set_option Elab.async false
set_option linter.all false
set_option maxRecDepth 100000
set_option maxHeartbeats 4000000
namespace LawK13
open PySem PySem.Spec PyProof.Rows L2 At
def top (i : Nat) : Stmt := PySem.Challenge.pw_atomglass_k13_settled_rows.main.body.getD i (.Pass ⟨0, 0, 0, 0⟩)
def mp : MP := ⟨[], [nm_SIGNS], ds.map (·.nm), [n_len, n_range, n_enumerate, n_tuple, n_any, n_abs, n_repr, n_min, n_zip], [], []⟩
def h_rank : He.DefD := ⟨(toS nm_rank, none), "rank", "rank", defArgs (top 5), defBody (top 5), defScope (top 5), [], []⟩
def h_sign_of : He.DefD := ⟨(toS nm_sign_of, none), "sign_of", "sign_of", defArgs (top 6), defBody (top 6), defScope (top 6), [], []⟩
def h_held_by : He.DefD := ⟨(toS nm_held_by, none), "held_by", "held_by", defArgs (top 8), defBody (top 8), defScope (top 8), [], []⟩
def h_rows_of : He.DefD := ⟨(toS nm_rows_of, none), "rows_of", "rows_of", defArgs (top 9), defBody (top 9), defScope (top 9), [], []⟩
def h_settled : He.DefD := ⟨(toS nm_settled, none), "settled", "settled", defArgs (top 10), defBody (top 10), defScope (top 10), [], []⟩
def h_holds : He.DefD := ⟨(toS nm_holds, none), "holds", "holds", defArgs (top 11), defBody (top 11), defScope (top 11), [], []⟩
def h__law_bag : He.DefD := ⟨(toS nm__law_bag, none), "_law_bag", "_law_bag", defArgs (top 13), defBody (top 13), defScope (top 13), [], []⟩
def h__law_take : He.DefD := ⟨(toS nm__law_take, none), "_law_take", "_law_take", defArgs (top 14), defBody (top 14), defScope (top 14), [], []⟩
def h__law_order : He.DefD := ⟨(toS nm__law_order, none), "_law_order", "_law_order", defArgs (top 15), defBody (top 15), defScope (top 15), [], []⟩
def h__law_rank : He.DefD := ⟨(toS nm__law_rank, none), "_law_rank", "_law_rank", defArgs (top 16), defBody (top 16), defScope (top 16), [], []⟩
def h__law_alike : He.DefD := ⟨(toS nm__law_alike, none), "_law_alike", "_law_alike", defArgs (top 17), defBody (top 17), defScope (top 17), [], []⟩
def h__law_some_rows : He.DefD := ⟨(toS nm__law_some_rows, none), "_law_some_rows", "_law_some_rows", defArgs (top 18), defBody (top 18), defScope (top 18), [], []⟩
def h__law_truths : He.DefD := ⟨(toS nm__law_truths, none), "_law_truths", "_law_truths", defArgs (top 19), defBody (top 19), defScope (top 19), [], []⟩
def h__law_settled : He.DefD := ⟨(toS nm__law_settled, none), "_law_settled", "_law_settled", defArgs (top 20), defBody (top 20), defScope (top 20), [], []⟩
def h__law_right : He.DefD := ⟨(toS nm__law_right, none), "_law_right", "_law_right", defArgs (top 21), defBody (top 21), defScope (top 21), [], []⟩
def h_law : He.DefD := ⟨(toS nm_law, none), "law", "law", defArgs (top 22), defBody (top 22), defScope (top 22), [], []⟩
def fn : List He.DefD := [h_rank, h_sign_of, h_held_by, h_rows_of, h_settled, h_holds, h__law_bag, h__law_take, h__law_order, h__law_rank, h__law_alike, h__law_some_rows, h__law_truths, h__law_settled, h__law_right, h_law]
def fa : List He.Fa := [.glo (toS nm_rank), .glo (toS nm_sign_of), .glo (toS nm_held_by), .glo (toS nm_rows_of), .glo (toS nm_settled), .glo (toS nm_holds), .glo (toS nm__law_bag), .glo (toS nm__law_take), .glo (toS nm__law_order), .glo (toS nm__law_rank), .glo (toS nm__law_alike), .glo (toS nm__law_some_rows), .glo (toS nm__law_truths), .glo (toS nm__law_settled), .glo (toS nm__law_right), .glo (toS nm_law), .free (toS n_len), .free (toS n_range), .free (toS n_enumerate), .free (toS n_tuple), .free (toS n_any), .free (toS n_abs), .free (toS n_repr), .free (toS n_min), .free (toS n_zip), .str (toS nm_SIGNS) (toS gv_SIGNS)]
abbrev RR : PySem.W.OpenRow := PySem.W.OpenLaw.row PySem.Challenge.rw_atomglass_k13_settled_rows
abbrev hk : PySem.W.Hook := He.hookD 4 fa fn
def ob (s : PySem.W.SharedT) : He.AlD := He.obsDG 4 fa fn (HandSHeadRun.getT s)
theorem ob_eq (s : PySem.W.SharedT) : ob s = hk.obs s.abs := He.obsDG_eq (HandSHeadRun.getT_eq s)
def loose : List PySem.Str := ["__name__", "SMALL", "GREAT", "FIGURES", "SIGNS", "rank", "sign_of", "held_by", "rows_of", "settled", "holds", "_law_bag", "_law_take", "_law_order", "_law_rank", "_law_alike", "_law_some_rows", "_law_truths", "_law_settled", "_law_right"]
theorem run (w : World) : HandSHeadRun.RunEq RR (PySem.W.view RR.prog [22]) hk ob 1320 loose w := by
  intro os
  kernel_rfl
variable {K : PySem.W.Frag} {mg : Str → Option Value}
theorem df_rank {fa : Addr} {fd : FuncData} {kws : List (Str × L2.V)} {x qual : Str} (h1 : mg (toS nm_rank) = some (.ref fa)) (F : FunD K x qual (defArgs (top 5)) (defBody (top 5)) (defScope (top 5)) [] kws fa fd) : DfOk K mg mp d_rank := by
  refine ⟨fa, fd, x, qual, _, _, _, kws, h1, F, FunD.bindsN F (fun _ _ _ _ _ _ us hl => ?_), ⟨rfl, rfl, rfl, by decide +kernel, rfl, by decide +kernel, by decide +kernel⟩, by decide, by decide +kernel⟩
  match us, hl with
  | [_], _ => rfl
theorem df_sign_of {fa : Addr} {fd : FuncData} {kws : List (Str × L2.V)} {x qual : Str} (h1 : mg (toS nm_sign_of) = some (.ref fa)) (F : FunD K x qual (defArgs (top 6)) (defBody (top 6)) (defScope (top 6)) [] kws fa fd) : DfOk K mg mp d_sign_of := by
  refine ⟨fa, fd, x, qual, _, _, _, kws, h1, F, FunD.bindsN F (fun _ _ _ _ _ _ us hl => ?_), ⟨rfl, rfl, rfl, by decide +kernel, rfl, by decide +kernel, by decide +kernel⟩, by decide, by decide +kernel⟩
  match us, hl with
  | [_], _ => rfl
theorem df_held_by {fa : Addr} {fd : FuncData} {kws : List (Str × L2.V)} {x qual : Str} (h1 : mg (toS nm_held_by) = some (.ref fa)) (F : FunD K x qual (defArgs (top 8)) (defBody (top 8)) (defScope (top 8)) [] kws fa fd) : DfOk K mg mp d_held_by := by
  refine ⟨fa, fd, x, qual, _, _, _, kws, h1, F, FunD.bindsN F (fun _ _ _ _ _ _ us hl => ?_), ⟨rfl, rfl, rfl, by decide +kernel, rfl, by decide +kernel, by decide +kernel⟩, by decide, by decide +kernel⟩
  match us, hl with
  | [_], _ => rfl
theorem df_rows_of {fa : Addr} {fd : FuncData} {kws : List (Str × L2.V)} {x qual : Str} (h1 : mg (toS nm_rows_of) = some (.ref fa)) (F : FunD K x qual (defArgs (top 9)) (defBody (top 9)) (defScope (top 9)) [] kws fa fd) : DfOk K mg mp d_rows_of := by
  refine ⟨fa, fd, x, qual, _, _, _, kws, h1, F, FunD.bindsN F (fun _ _ _ _ _ _ us hl => ?_), ⟨rfl, rfl, rfl, by decide +kernel, rfl, by decide +kernel, by decide +kernel⟩, by decide, by decide +kernel⟩
  match us, hl with
  | [_], _ => rfl
theorem df_settled {fa : Addr} {fd : FuncData} {kws : List (Str × L2.V)} {x qual : Str} (h1 : mg (toS nm_settled) = some (.ref fa)) (F : FunD K x qual (defArgs (top 10)) (defBody (top 10)) (defScope (top 10)) [] kws fa fd) : DfOk K mg mp d_settled := by
  refine ⟨fa, fd, x, qual, _, _, _, kws, h1, F, FunD.bindsN F (fun _ _ _ _ _ _ us hl => ?_), ⟨rfl, rfl, rfl, by decide +kernel, rfl, by decide +kernel, by decide +kernel⟩, by decide, by decide +kernel⟩
  match us, hl with
  | [_], _ => rfl
theorem df_holds {fa : Addr} {fd : FuncData} {kws : List (Str × L2.V)} {x qual : Str} (h1 : mg (toS nm_holds) = some (.ref fa)) (F : FunD K x qual (defArgs (top 11)) (defBody (top 11)) (defScope (top 11)) [] kws fa fd) : DfOk K mg mp d_holds := by
  refine ⟨fa, fd, x, qual, _, _, _, kws, h1, F, FunD.bindsN F (fun _ _ _ _ _ _ us hl => ?_), ⟨rfl, rfl, rfl, by decide +kernel, rfl, by decide +kernel, by decide +kernel⟩, by decide, by decide +kernel⟩
  match us, hl with
  | [_, _], _ => rfl
theorem df__law_bag {fa : Addr} {fd : FuncData} {kws : List (Str × L2.V)} {x qual : Str} (h1 : mg (toS nm__law_bag) = some (.ref fa)) (F : FunD K x qual (defArgs (top 13)) (defBody (top 13)) (defScope (top 13)) [] kws fa fd) : DfOk K mg mp d__law_bag := by
  refine ⟨fa, fd, x, qual, _, _, _, kws, h1, F, FunD.bindsN F (fun _ _ _ _ _ _ us hl => ?_), ⟨rfl, rfl, rfl, by decide +kernel, rfl, by decide +kernel, by decide +kernel⟩, by decide, by decide +kernel⟩
  match us, hl with
  | [_], _ => rfl
theorem df__law_take {fa : Addr} {fd : FuncData} {kws : List (Str × L2.V)} {x qual : Str} (h1 : mg (toS nm__law_take) = some (.ref fa)) (F : FunD K x qual (defArgs (top 14)) (defBody (top 14)) (defScope (top 14)) [] kws fa fd) : DfOk K mg mp d__law_take := by
  refine ⟨fa, fd, x, qual, _, _, _, kws, h1, F, FunD.bindsN F (fun _ _ _ _ _ _ us hl => ?_), ⟨rfl, rfl, rfl, by decide +kernel, rfl, by decide +kernel, by decide +kernel⟩, by decide, by decide +kernel⟩
  match us, hl with
  | [_, _], _ => rfl
theorem df__law_order {fa : Addr} {fd : FuncData} {kws : List (Str × L2.V)} {x qual : Str} (h1 : mg (toS nm__law_order) = some (.ref fa)) (F : FunD K x qual (defArgs (top 15)) (defBody (top 15)) (defScope (top 15)) [] kws fa fd) : DfOk K mg mp d__law_order := by
  refine ⟨fa, fd, x, qual, _, _, _, kws, h1, F, FunD.bindsN F (fun _ _ _ _ _ _ us hl => ?_), ⟨rfl, rfl, rfl, by decide +kernel, rfl, by decide +kernel, by decide +kernel⟩, by decide, by decide +kernel⟩
  match us, hl with
  | [], _ => rfl
theorem df__law_rank {fa : Addr} {fd : FuncData} {kws : List (Str × L2.V)} {x qual : Str} (h1 : mg (toS nm__law_rank) = some (.ref fa)) (F : FunD K x qual (defArgs (top 16)) (defBody (top 16)) (defScope (top 16)) [] kws fa fd) : DfOk K mg mp d__law_rank := by
  refine ⟨fa, fd, x, qual, _, _, _, kws, h1, F, FunD.bindsN F (fun _ _ _ _ _ _ us hl => ?_), ⟨rfl, rfl, rfl, by decide +kernel, rfl, by decide +kernel, by decide +kernel⟩, by decide, by decide +kernel⟩
  match us, hl with
  | [_], _ => rfl
theorem df__law_alike {fa : Addr} {fd : FuncData} {kws : List (Str × L2.V)} {x qual : Str} (h1 : mg (toS nm__law_alike) = some (.ref fa)) (F : FunD K x qual (defArgs (top 17)) (defBody (top 17)) (defScope (top 17)) [] kws fa fd) : DfOk K mg mp d__law_alike := by
  refine ⟨fa, fd, x, qual, _, _, _, kws, h1, F, FunD.bindsN F (fun _ _ _ _ _ _ us hl => ?_), ⟨rfl, rfl, rfl, by decide +kernel, rfl, by decide +kernel, by decide +kernel⟩, by decide, by decide +kernel⟩
  match us, hl with
  | [_, _], _ => rfl
theorem df__law_some_rows {fa : Addr} {fd : FuncData} {kws : List (Str × L2.V)} {x qual : Str} (h1 : mg (toS nm__law_some_rows) = some (.ref fa)) (F : FunD K x qual (defArgs (top 18)) (defBody (top 18)) (defScope (top 18)) [] kws fa fd) : DfOk K mg mp d__law_some_rows := by
  refine ⟨fa, fd, x, qual, _, _, _, kws, h1, F, FunD.bindsN F (fun _ _ _ _ _ _ us hl => ?_), ⟨rfl, rfl, rfl, by decide +kernel, rfl, by decide +kernel, by decide +kernel⟩, by decide, by decide +kernel⟩
  match us, hl with
  | [_, _], _ => rfl
theorem df__law_truths {fa : Addr} {fd : FuncData} {kws : List (Str × L2.V)} {x qual : Str} (h1 : mg (toS nm__law_truths) = some (.ref fa)) (F : FunD K x qual (defArgs (top 19)) (defBody (top 19)) (defScope (top 19)) [] kws fa fd) : DfOk K mg mp d__law_truths := by
  refine ⟨fa, fd, x, qual, _, _, _, kws, h1, F, FunD.bindsN F (fun _ _ _ _ _ _ us hl => ?_), ⟨rfl, rfl, rfl, by decide +kernel, rfl, by decide +kernel, by decide +kernel⟩, by decide, by decide +kernel⟩
  match us, hl with
  | [_], _ => rfl
theorem df__law_settled {fa : Addr} {fd : FuncData} {kws : List (Str × L2.V)} {x qual : Str} (h1 : mg (toS nm__law_settled) = some (.ref fa)) (F : FunD K x qual (defArgs (top 20)) (defBody (top 20)) (defScope (top 20)) [] kws fa fd) : DfOk K mg mp d__law_settled := by
  refine ⟨fa, fd, x, qual, _, _, _, kws, h1, F, FunD.bindsN F (fun _ _ _ _ _ _ us hl => ?_), ⟨rfl, rfl, rfl, by decide +kernel, rfl, by decide +kernel, by decide +kernel⟩, by decide, by decide +kernel⟩
  match us, hl with
  | [_], _ => rfl
theorem df__law_right {fa : Addr} {fd : FuncData} {kws : List (Str × L2.V)} {x qual : Str} (h1 : mg (toS nm__law_right) = some (.ref fa)) (F : FunD K x qual (defArgs (top 21)) (defBody (top 21)) (defScope (top 21)) [] kws fa fd) : DfOk K mg mp d__law_right := by
  refine ⟨fa, fd, x, qual, _, _, _, kws, h1, F, FunD.bindsN F (fun _ _ _ _ _ _ us hl => ?_), ⟨rfl, rfl, rfl, by decide +kernel, rfl, by decide +kernel, by decide +kernel⟩, by decide, by decide +kernel⟩
  match us, hl with
  | [_], _ => rfl
theorem df_law {fa : Addr} {fd : FuncData} {kws : List (Str × L2.V)} {x qual : Str} (h1 : mg (toS nm_law) = some (.ref fa)) (F : FunD K x qual (defArgs (top 22)) (defBody (top 22)) (defScope (top 22)) [] kws fa fd) : DfOk K mg mp d_law := by
  refine ⟨fa, fd, x, qual, _, _, _, kws, h1, F, FunD.bindsN F (fun _ _ _ _ _ _ us hl => ?_), ⟨rfl, rfl, rfl, by decide +kernel, rfl, by decide +kernel, by decide +kernel⟩, by decide, by decide +kernel⟩
  match us, hl with
  | [_], _ => rfl
theorem cls : ClOk K (fun _ => none) [] := ⟨fun _ _ h => (nomatch h), fun _ _ _ h => (nomatch h)⟩
theorem facts {P : Program} {w : World} {h : Heap} {f : Addr} (k : Nat) (X : K.In h) (G : h.Ns mainGlobals mg) (hfa : mg (toS nm_law) = some (.ref f)) (c : He.SaysD fa fn K) :
    ∃ fd : FuncData, (∀ (s : Shared) (v : Value), BindsTo s fd ⟨[v], []⟩ [("_law_script", v)]) ∧ ∀ base : Heap, K.In base → base.Ns mainGlobals mg → FnG P w K mg base (fun _ => none) (k + 1) f fd ["_law_script"] (fnM (DD k) d_law.N.length d_law.ts) := by
  obtain ⟨fd_rank, F_rank⟩ := c.def_ 0 (d := h_rank) rfl
  have g_rank := He.glo_ok X G (c.fact 0 (f := .glo (toS nm_rank)) rfl)
  obtain ⟨fd_sign_of, F_sign_of⟩ := c.def_ 1 (d := h_sign_of) rfl
  have g_sign_of := He.glo_ok X G (c.fact 1 (f := .glo (toS nm_sign_of)) rfl)
  obtain ⟨fd_held_by, F_held_by⟩ := c.def_ 2 (d := h_held_by) rfl
  have g_held_by := He.glo_ok X G (c.fact 2 (f := .glo (toS nm_held_by)) rfl)
  obtain ⟨fd_rows_of, F_rows_of⟩ := c.def_ 3 (d := h_rows_of) rfl
  have g_rows_of := He.glo_ok X G (c.fact 3 (f := .glo (toS nm_rows_of)) rfl)
  obtain ⟨fd_settled, F_settled⟩ := c.def_ 4 (d := h_settled) rfl
  have g_settled := He.glo_ok X G (c.fact 4 (f := .glo (toS nm_settled)) rfl)
  obtain ⟨fd_holds, F_holds⟩ := c.def_ 5 (d := h_holds) rfl
  have g_holds := He.glo_ok X G (c.fact 5 (f := .glo (toS nm_holds)) rfl)
  obtain ⟨fd__law_bag, F__law_bag⟩ := c.def_ 6 (d := h__law_bag) rfl
  have g__law_bag := He.glo_ok X G (c.fact 6 (f := .glo (toS nm__law_bag)) rfl)
  obtain ⟨fd__law_take, F__law_take⟩ := c.def_ 7 (d := h__law_take) rfl
  have g__law_take := He.glo_ok X G (c.fact 7 (f := .glo (toS nm__law_take)) rfl)
  obtain ⟨fd__law_order, F__law_order⟩ := c.def_ 8 (d := h__law_order) rfl
  have g__law_order := He.glo_ok X G (c.fact 8 (f := .glo (toS nm__law_order)) rfl)
  obtain ⟨fd__law_rank, F__law_rank⟩ := c.def_ 9 (d := h__law_rank) rfl
  have g__law_rank := He.glo_ok X G (c.fact 9 (f := .glo (toS nm__law_rank)) rfl)
  obtain ⟨fd__law_alike, F__law_alike⟩ := c.def_ 10 (d := h__law_alike) rfl
  have g__law_alike := He.glo_ok X G (c.fact 10 (f := .glo (toS nm__law_alike)) rfl)
  obtain ⟨fd__law_some_rows, F__law_some_rows⟩ := c.def_ 11 (d := h__law_some_rows) rfl
  have g__law_some_rows := He.glo_ok X G (c.fact 11 (f := .glo (toS nm__law_some_rows)) rfl)
  obtain ⟨fd__law_truths, F__law_truths⟩ := c.def_ 12 (d := h__law_truths) rfl
  have g__law_truths := He.glo_ok X G (c.fact 12 (f := .glo (toS nm__law_truths)) rfl)
  obtain ⟨fd__law_settled, F__law_settled⟩ := c.def_ 13 (d := h__law_settled) rfl
  have g__law_settled := He.glo_ok X G (c.fact 13 (f := .glo (toS nm__law_settled)) rfl)
  obtain ⟨fd__law_right, F__law_right⟩ := c.def_ 14 (d := h__law_right) rfl
  have g__law_right := He.glo_ok X G (c.fact 14 (f := .glo (toS nm__law_right)) rfl)
  obtain ⟨fd_law, F_law⟩ := c.def_ 15 (d := h_law) rfl
  have g_law := He.glo_ok X G (c.fact 15 (f := .glo (toS nm_law)) rfl)
  have e := hfa.symm.trans g_law
  cases e
  have b := FunD.bindsA (ps := ["_law_script"]) F_law fun _ _ _ _ _ _ us hl => match us, hl with | [_], _ => rfl
  refine ⟨fd_law, fun s v => b s [v] rfl, fun base _ _ => ?_⟩
  have sy : Sys P w K mg base (fun _ => none) (DD k) mp k := by
    refine sys_of (p := mp) (fun x hx => ?_) (fun x hx => ?_) cls rfl (fun d hd => ?_) k
    · have hx : x ∈ [nm_SIGNS] := hx
      simp only [List.mem_cons, List.not_mem_nil, or_false] at hx
      rcases hx with rfl
      · obtain ⟨t, ht⟩ := He.str_ok X G (c.fact 25 (f := .str (toS nm_SIGNS) (toS gv_SIGNS)) rfl)
        exact ⟨.str gv_SIGNS, _, .str (toS gv_SIGNS), by decide, ht, ⟨t, rfl⟩, fun ι H S _ => by simp only [VR]; exact ⟨trivial, sokB_ok (by decide +kernel)⟩⟩
    · have hx : x ∈ [n_len, n_range, n_enumerate, n_tuple, n_any, n_abs, n_repr, n_min, n_zip] := hx
      simp only [List.mem_cons, List.not_mem_nil, or_false] at hx
      rcases hx with rfl | rfl | rfl | rfl | rfl | rfl | rfl | rfl | rfl
      · exact He.free_ok X G (c.fact 16 (f := .free (toS n_len)) rfl)
      · exact He.free_ok X G (c.fact 17 (f := .free (toS n_range)) rfl)
      · exact He.free_ok X G (c.fact 18 (f := .free (toS n_enumerate)) rfl)
      · exact He.free_ok X G (c.fact 19 (f := .free (toS n_tuple)) rfl)
      · exact He.free_ok X G (c.fact 20 (f := .free (toS n_any)) rfl)
      · exact He.free_ok X G (c.fact 21 (f := .free (toS n_abs)) rfl)
      · exact He.free_ok X G (c.fact 22 (f := .free (toS n_repr)) rfl)
      · exact He.free_ok X G (c.fact 23 (f := .free (toS n_min)) rfl)
      · exact He.free_ok X G (c.fact 24 (f := .free (toS n_zip)) rfl)
    · have hd : d ∈ [d_rank, d_sign_of, d_held_by, d_rows_of, d_settled, d_holds, d__law_bag, d__law_take, d__law_order, d__law_rank, d__law_alike, d__law_some_rows, d__law_truths, d__law_settled, d__law_right, d_law] := hd
      simp only [List.mem_cons, List.not_mem_nil, or_false] at hd
      rcases hd with rfl | rfl | rfl | rfl | rfl | rfl | rfl | rfl | rfl | rfl | rfl | rfl | rfl | rfl | rfl | rfl
      · exact df_rank g_rank F_rank
      · exact df_sign_of g_sign_of F_sign_of
      · exact df_held_by g_held_by F_held_by
      · exact df_rows_of g_rows_of F_rows_of
      · exact df_settled g_settled F_settled
      · exact df_holds g_holds F_holds
      · exact df__law_bag g__law_bag F__law_bag
      · exact df__law_take g__law_take F__law_take
      · exact df__law_order g__law_order F__law_order
      · exact df__law_rank g__law_rank F__law_rank
      · exact df__law_alike g__law_alike F__law_alike
      · exact df__law_some_rows g__law_some_rows F__law_some_rows
      · exact df__law_truths g__law_truths F__law_truths
      · exact df__law_settled g__law_settled F__law_settled
      · exact df__law_right g__law_right F__law_right
      · exact df_law g_law F_law
  exact fn_ok (sy.withN d_law.N) F_law ⟨rfl, rfl, rfl, by decide +kernel, rfl, by decide +kernel, by decide +kernel⟩ (by decide +kernel)
end LawK13
open PySem PySem.W PySem.Calls PyProof.Rows
theorem PySem.Challenge.cw_atomglass_k13_settled_rows_holds : PySem.Challenge.rw_atomglass_k13_settled_rows.Holds := by
  w_on; o_law
  refine HandSHeadRun.head_any (r := OpenLaw.row PySem.Challenge.rw_atomglass_k13_settled_rows) (q := view (OpenLaw.row PySem.Challenge.rw_atomglass_k13_settled_rows).prog [22]) (H := LawK13.hk) (ob := LawK13.ob) (M := 1320) (loose := LawK13.loose) (d := HandSHeadRun.topDef (OpenLaw.row PySem.Challenge.rw_atomglass_k13_settled_rows).prog 22) (kwd := []) LawK13.ob_eq
    (by kernel_rfl) (fun s => by kernel_rfl) LawK13.run (by kernel_rfl) (by kernel_rfl) (by kernel_rfl) (by rfl) (by first | assumption | decide +kernel) (by decide +kernel) ⟨rfl, rfl, rfl, rfl, rfl, by decide +kernel⟩ ?hw ?hc
  case hw => w_witness2
  case hc =>
    refine At.walkG (l := PySem.Challenge.rw_atomglass_k13_settled_rows) (n := 63) (k := LawK13.KK + 1) (x := "_law_script") rfl (by decide) (by kernel_rfl) ⟨⟨rfl, by decide, by decide⟩, rfl⟩ ?F
    intro w mg fa h Y G hmg0
    obtain ⟨K, KX, c⟩ := Y
    have hmg : mg (At.toS At.nm_law) = some (.ref fa) := by
      have e : (HandSHeadRun.topDef (OpenLaw.row PySem.Challenge.rw_atomglass_k13_settled_rows).prog 22).name = At.toS At.nm_law := by kernel_rfl
      rw [← e]
      exact hmg0
    obtain ⟨fd, hb, hF⟩ := LawK13.facts (P := (PySem.Challenge.rw_atomglass_k13_settled_rows).prog) (w := w) LawK13.KK KX G hmg c
    exact ⟨K, fd, fun _ => none, [], [], _, KX, hb, At.own_none (fun _ => rfl), fun ns hl => LawK13.main ns hl, hF⟩

