import PyProof.Rows.All
import Wide.All
import OpenK.AllK
import Wide.FinOn
import HandS.ForMost
import HandS.ForExc
import HandS.Flow
import HandS.TryMany
import HandS.ExcInit
import HandS.CallSlots
import KE.LtData
import HandS.Deep
import HandS.IsInst
import HandS.Wide
import HandS.More
import HandS.DictComp
import HandS.SetKeys
import HandS.Zip
import KE.KStar
import HandS.TupAny
import HandS.Star
import HandS.ListItems
import HandS.Conv
import HandS.Style
import HandS.SortInts
import HandS.NoneIn
import HandS.Defaults
import HandS.Words
import Wide.Once
import KE.KStateDown
import HandS.WordsExc
import HandS.Head0
import HandS.Head1
import HandS.Head2
import HandS.HeadEnd
import HandS.HeadHook1
import HandS.HeadHook2
import HandS.HeadHook3
import HandS.HeadHook4
import PySem.Challenge.RW_seentogether_k29_whole_examples_of_the_f
set_option Elab.async false
set_option linter.all false
set_option maxRecDepth 100000
set_option maxHeartbeats 4000000
/-! Pure values, and how they lie in a heap. -/
namespace Ze
open PySem L2

/-- a value as plain data. The Bool of a list or dict: it is no older than the era's beginning -/
inductive PV where
  | non | bl (b : Bool) | int (i : Int) | str (x : Str)
  | lst (t : Bool) (xs : List PV)
  | tup (xs : List PV)
  | dic (t : Bool) (ks : List Key) (xs : List PV)
  | fn (x : Str)
  | ty (n : String)
  | strm

/-- what is fixed in one proof: the written part, the module's names, the stream's objects and what holds of them (after so many draws), the era's beginning -/
structure Wd where
  K : PySem.W.Frag
  mg : Str → Option Value
  S : Addr → Prop
  sA : Addr
  B : Addr → Prop
  str : Hp → Nat → Prop
  st : ∀ {H H' : Hp} {c : Nat}, str H c → (∀ a, S a → H' a = H a) → str H' c
  tr : ∀ {H : Hp} {c : Nat} {a : Addr}, str H c → S a → H a ≠ none
  nf : ∀ {H : Hp} {c : Nat} {a : Addr} {kvs : List (Key × V)} {o : Obj}, str H c → S a → H a ≠ some (.dK kvs) ∧ H a ≠ some (.frz o (.dK kvs))

mutual
inductive Rep (W : Wd) (H : Hp) (O : Addr → Prop) : PV → V → Prop
  | non : Rep W H O .non .non
  | bl {b} : Rep W H O (.bl b) (.bl b)
  | int {i} : Rep W H O (.int i) (.int i)
  | str {x} : Rep W H O (.str x) (.str x)
  | lst {t xs a vs} : H a = some (.lst vs) → ¬ O a → (t = true → ¬ W.B a) → RepL W H O xs vs → Rep W H O (.lst t xs) (.ref a)
  | tup {xs a vs} : H a = some (.tup vs) → ¬ O a → RepL W H O xs vs → Rep W H O (.tup xs) (.ref a)
  | tupK {xs a vs} : (∀ H', SqT W.K H' a vs) → RepL W H O xs vs → Rep W H O (.tup xs) (.ref a)
  | dic {t ks xs a vs} : Rd H a (.dK (ks.zip vs)) → ¬ O a → (t = true → ¬ W.B a) → ks.length = vs.length → RepL W H O xs vs → Rep W H O (.dic t ks xs) (.ref a)
  | fn {x a} : W.mg x = some (.ref a) → Rep W H O (.fn x) (.ref a)
  | ty {n} : Rep W H O (.ty n) (.ty n)
  | strm : Rep W H O .strm (.ref W.sA)
inductive RepL (W : Wd) (H : Hp) (O : Addr → Prop) : List PV → List V → Prop
  | nil : RepL W H O [] []
  | cons {x xs v vs} : Rep W H O x v → RepL W H O xs vs → RepL W H O (x :: xs) (v :: vs)
end

/-- what is a list, a tuple, a dict to be read stays so, but at O; and it comes into no new O' -/
structure Fm (O O' : Addr → Prop) (H H' : Hp) : Prop where
  lst : ∀ a vs, ¬ O a → H a = some (.lst vs) → H' a = some (.lst vs) ∧ ¬ O' a
  tup : ∀ a vs, ¬ O a → H a = some (.tup vs) → H' a = some (.tup vs) ∧ ¬ O' a
  dic : ∀ a kvs, ¬ O a → Rd H a (.dK kvs) → Rd H' a (.dK kvs) ∧ ¬ O' a
/-- what is tracked stands as it stood, but at S -/
def Sm (S : Addr → Prop) (H H' : Hp) : Prop := ∀ a o, ¬ S a → H a = some o → H' a = some o
theorem Sm.refl {S H} : Sm S H H := fun _ _ _ h => h
theorem Sm.trans {S H H1 H2} (a : Sm S H H1) (b : Sm S H1 H2) : Sm S H H2 := fun x o n h => b x o n (a x o n h)
theorem Sm.rd {S H H'} (a : Sm S H H') {x u} (n : ¬ S x) (r : Rd H x u) : Rd H' x u := by
  rcases r with r | ⟨o, r⟩
  · exact .inl (a _ _ n r)
  · exact .inr ⟨o, a _ _ n r⟩
theorem Sm.fm {S O : Addr → Prop} {H H'} (a : Sm S H H') (h : ∀ x, S x → O x) : Fm O O H H' :=
  ⟨fun x u n r => ⟨a x _ (fun z => n (h x z)) r, n⟩, fun x u n r => ⟨a x _ (fun z => n (h x z)) r, n⟩, fun x u n r => ⟨a.rd (fun z => n (h x z)) r, n⟩⟩
theorem Fm.refl {O H} : Fm O O H H := ⟨fun _ _ n h => ⟨h, n⟩, fun _ _ n h => ⟨h, n⟩, fun _ _ n h => ⟨h, n⟩⟩
theorem Fm.trans {O O1 O2 H H1 H2} (a : Fm O O1 H H1) (b : Fm O1 O2 H1 H2) : Fm O O2 H H2 :=
  ⟨fun x o n h => let ⟨p, q⟩ := a.lst x o n h; b.lst x o q p, fun x o n h => let ⟨p, q⟩ := a.tup x o n h; b.tup x o q p, fun x o n h => let ⟨p, q⟩ := a.dic x o n h; b.dic x o q p⟩
section
variable {W : Wd} {H H' : Hp} {O O' : Addr → Prop}
theorem Rep.fm (f : Fm O O' H H') {p : PV} {v : V} (h : Rep W H O p v) : Rep W H' O' p v := by
  refine Rep.rec (W := W) (H := H) (O := O) (motive_1 := fun p v _ => Rep W H' O' p v) (motive_2 := fun p v _ => RepL W H' O' p v) ?_ ?_ ?_ ?_ ?_ ?_ ?_ ?_ ?_ ?_ ?_ ?_ ?_ h
  · exact .non
  · exact .bl
  · exact .int
  · exact .str
  · intro t xs a vs r n t' _ l
    exact .lst (f.lst _ _ n r).1 (f.lst _ _ n r).2 t' l
  · intro xs a vs r n _ l
    exact .tup (f.tup _ _ n r).1 (f.tup _ _ n r).2 l
  · exact fun r _ l => .tupK r l
  · intro t ks xs a vs r n t' e _ l
    exact .dic (f.dic _ _ n r).1 (f.dic _ _ n r).2 t' e l
  · exact .fn
  · exact .ty
  · exact .strm
  · exact .nil
  · exact fun _ _ a b => .cons a b
theorem RepL.fm (f : Fm O O' H H') : ∀ {p : List PV} {v : List V}, RepL W H O p v → RepL W H' O' p v
  | [], _, h => by cases h; exact .nil
  | _ :: _, _, h => by
    cases h with
    | cons a b => exact .cons (a.fm f) (RepL.fm f b)
end
theorem fm_less {O O' : Addr → Prop} {H} (ho : ∀ a, O' a → O a) : Fm O O' H H := ⟨fun a _ n h => ⟨h, fun z => n (ho a z)⟩, fun a _ n h => ⟨h, fun z => n (ho a z)⟩, fun a _ n h => ⟨h, fun z => n (ho a z)⟩⟩
theorem Rep.less {W H O O'} (ho : ∀ a, O' a → O a) {p v} (r : Rep W H O p v) : Rep W H O' p v := r.fm (fm_less ho)
theorem RepL.less {W H O O'} (ho : ∀ a, O' a → O a) {p v} (r : RepL W H O p v) : RepL W H O' p v := r.fm (fm_less ho)
theorem RepL.length {W H O} : ∀ {p v}, RepL W H O p v → p.length = v.length
  | _, _, .nil => rfl
  | _, _, .cons _ b => congrArg (· + 1) b.length
theorem RepL.get {W H O} : ∀ {p : List PV} {v : List V}, RepL W H O p v → ∀ {i : Nat} {x : PV}, p[i]? = some x → ∃ y : V, v[i]? = some y ∧ Rep W H O x y
  | _, _, .cons a b, 0, x, h => by cases h; exact ⟨_, rfl, a⟩
  | _, _, .cons a b, i + 1, x, h => b.get (i := i) (x := x) h
theorem RepL.app {W H O} : ∀ {p v q u}, RepL W H O p v → RepL W H O q u → RepL W H O (p ++ q) (v ++ u)
  | _, _, _, _, .nil, h => h
  | _, _, _, _, .cons a b, h => .cons a (b.app h)
theorem RepL.one {W H O p v} (r : Rep W H O p v) : RepL W H O [p] [v] := .cons r .nil
theorem RepL.take {W H O} : ∀ {p v} (n : Nat), RepL W H O p v → RepL W H O (p.take n) (v.take n)
  | _, _, 0, _ => .nil
  | _, _, n + 1, .nil => .nil
  | _, _, n + 1, .cons a b => .cons a (b.take n)
theorem RepL.drop {W H O} : ∀ {p v} (n : Nat), RepL W H O p v → RepL W H O (p.drop n) (v.drop n)
  | _, _, 0, h => h
  | _, _, n + 1, .nil => .nil
  | _, _, n + 1, .cons a b => b.drop n
theorem RepL.set {W H O} : ∀ {p v x y} (n : Nat), RepL W H O p v → Rep W H O x y → RepL W H O (p.set n x) (v.set n y)
  | _, _, _, _, _, .nil, _ => .nil
  | _, _, _, _, 0, .cons a b, h => .cons h b
  | _, _, _, _, n + 1, .cons a b, h => .cons a (b.set n h)
theorem RepL.rev {W H O} : ∀ {p v}, RepL W H O p v → RepL W H O p.reverse v.reverse
  | _, _, .nil => .nil
  | _, _, .cons a b => by
    rw [List.reverse_cons, List.reverse_cons]
    exact b.rev.app (.one a)
theorem RepL.erase {W H O} : ∀ {p v} (n : Nat), RepL W H O p v → RepL W H O (p.eraseIdx n) (v.eraseIdx n)
  | _, _, _, .nil => .nil
  | _, _, 0, .cons a b => b
  | _, _, n + 1, .cons a b => .cons a (b.erase n)

/-- a fresh address is in nothing -/
theorem fm_new {O : Addr → Prop} {H q o} (hq : H q = none) : Fm O (fun a => O a ∨ a = q) H (upd H q o) := by
  refine ⟨fun a u n h => ?_, fun a u n h => ?_, fun a u n h => ?_⟩
  · have ne := ne_of_none h hq
    exact ⟨by rw [upd_ne ne]; exact h, fun z => z.elim n ne⟩
  · have ne := ne_of_none h hq
    exact ⟨by rw [upd_ne ne]; exact h, fun z => z.elim n ne⟩
  · have ne : a ≠ q := by
      rcases h with h | ⟨_, h⟩ <;> exact ne_of_none h hq
    refine ⟨?_, fun z => z.elim n ne⟩
    rcases h with h | ⟨o', h⟩
    · exact .inl (by rw [upd_ne ne]; exact h)
    · exact .inr ⟨o', by rw [upd_ne ne]; exact h⟩
theorem sm_upd {S : Addr → Prop} {H q o} (hq : H q = none) : Sm S H (upd H q o) := fun a u n h => by
  rw [upd_ne (ne_of_none h hq)]; exact h
/-- an object of one's own is changed -/
theorem fm_own {O : Addr → Prop} {H q o} (hq : O q) : Fm O O H (upd H q o) := by
  have ne : ∀ a, ¬ O a → a ≠ q := fun a n z => n (z ▸ hq)
  refine ⟨fun a u n h => ⟨by rw [upd_ne (ne a n)]; exact h, n⟩, fun a u n h => ⟨by rw [upd_ne (ne a n)]; exact h, n⟩, fun a u n h => ⟨?_, n⟩⟩
  rcases h with h | ⟨o', h⟩
  · exact .inl (by rw [upd_ne (ne a n)]; exact h)
  · exact .inr ⟨o', by rw [upd_ne (ne a n)]; exact h⟩
/-- all that is tracked stands just as it stood, but at O; and it comes into no new O' -/
def Fx (O O' : Addr → Prop) (H H' : Hp) : Prop := ∀ a o, ¬ O a → H a = some o → H' a = some o ∧ ¬ O' a
theorem Fx.fm {O O' H H'} (f : Fx O O' H H') : Fm O O' H H' := by
  refine ⟨fun a u n h => f a _ n h, fun a u n h => f a _ n h, fun a u n h => ?_⟩
  rcases h with h | ⟨o, h⟩
  · exact ⟨.inl (f a _ n h).1, (f a _ n h).2⟩
  · exact ⟨.inr ⟨o, (f a _ n h).1⟩, (f a _ n h).2⟩
theorem Fx.refl {O H} : Fx O O H H := fun _ _ n h => ⟨h, n⟩
theorem Fx.trans {O O1 O2 H H1 H2} (a : Fx O O1 H H1) (b : Fx O1 O2 H1 H2) : Fx O O2 H H2 := fun x o n h => let ⟨p, q⟩ := a x o n h; b x o q p
theorem Sm.fx {S O : Addr → Prop} {H H'} (a : Sm S H H') (h : ∀ x, S x → O x) : Fx O O H H' := fun x o n r => ⟨a x o (fun z => n (h x z)) r, n⟩
theorem fx_less {O O' : Addr → Prop} {H} (ho : ∀ a, O' a → O a) : Fx O O' H H := fun a o n h => ⟨h, fun z => n (ho a z)⟩
theorem fx_new {O : Addr → Prop} {H q o} (hq : H q = none) : Fx O (fun a => O a ∨ a = q) H (upd H q o) := fun a u n h => by
  have ne := ne_of_none h hq
  exact ⟨by rw [upd_ne ne]; exact h, fun z => z.elim n ne⟩
theorem fx_own {O : Addr → Prop} {H q o} (hq : O q) : Fx O O H (upd H q o) := fun a u n h => by
  have ne : a ≠ q := fun z => n (by rw [z]; exact hq)
  exact ⟨by rw [upd_ne ne]; exact h, n⟩
/-- a dict that is locked, and let go again -/
theorem fm_lock {O : Addr → Prop} {H d kvs od} (h : H d = some (.dK kvs)) : Fm O O H (upd H d (.frz od (.dK kvs))) := by
  refine ⟨fun a u n r => ?_, fun a u n r => ?_, fun a u n r => ⟨?_, n⟩⟩
  · have ne : a ≠ d := fun z => by rw [z, h] at r; cases r
    exact ⟨by rw [upd_ne ne]; exact r, n⟩
  · have ne : a ≠ d := fun z => by rw [z, h] at r; cases r
    exact ⟨by rw [upd_ne ne]; exact r, n⟩
  · by_cases e : a = d
    · subst e
      rcases r with r | ⟨o', r⟩ <;> rw [h] at r <;> cases r
      exact .inr ⟨od, upd_same⟩
    · rcases r with r | ⟨o', r⟩
      · exact .inl (by rw [upd_ne e]; exact r)
      · exact .inr ⟨o', by rw [upd_ne e]; exact r⟩
theorem fm_unlock {O : Addr → Prop} {H d kvs od} (h : H d = some (.frz od (.dK kvs))) : Fm O O H (upd H d (.dK kvs)) := by
  refine ⟨fun a u n r => ?_, fun a u n r => ?_, fun a u n r => ⟨?_, n⟩⟩
  · have ne : a ≠ d := fun z => by rw [z, h] at r; cases r
    exact ⟨by rw [upd_ne ne]; exact r, n⟩
  · have ne : a ≠ d := fun z => by rw [z, h] at r; cases r
    exact ⟨by rw [upd_ne ne]; exact r, n⟩
  · by_cases e : a = d
    · subst e
      rcases r with r | ⟨o', r⟩ <;> rw [h] at r <;> cases r
      exact .inl upd_same
    · rcases r with r | ⟨o', r⟩
      · exact .inl (by rw [upd_ne e]; exact r)
      · exact .inr ⟨o', by rw [upd_ne e]; exact r⟩
end Ze

/-! The small language that a def's body is read as, and what it does, by plain values. -/
namespace Ze
open PySem L2

inductive Op where
  | add | sub | mul | fdiv | mod | pow
  deriving DecidableEq
inductive Cp where
  | eq | ne | lt | le | gt | ge | is | isN | mem | notM
  deriving DecidableEq
/-- built-ins called by name -/
inductive Bi where
  | len | abs | isinst | list | tuple | dict | int | sum | sum2 | any | all | min2 | max2 | sorted | repr | str
  deriving DecidableEq
/-- methods that change nothing -/
inductive Mt where
  | index | items | get2 | count
  deriving DecidableEq

mutual
inductive Ex where
  | var (i : Nat) | rd (i : Nat)
  | non | bl (b : Bool) | int (i : Int) | str (x : Str)
  | glo (x : Str) (v : PV) | fnc (x : Str) | ty (x : Str) (n : String)
  | op (o : Op) (a b : Ex) | neg (a : Ex)
  | cmp (o : Cp) (a b : Ex) | chain (o p : Cp) (a b c : Ex)
  | and (a b : Ex) | or (a b : Ex) | not (a : Ex) | ife (t a b : Ex)
  | tup (es : Es) | lst (es : Es) | dis (ks : List Str) (es : Es) | dictG (x : Str) (ks : List Str) (is : List Int)
  | idx (a b : Ex) | slc (a : Ex) (l h : Es) | rev (a : Ex)
  | call (f : Str) (es : Es) | callK (f : Str) (es : Es) (ks : List Str) (kes : Es) | callV (i : Nat) (es : Es)
  | bi (b : Bi) (es : Es) | mt (m : Mt) (o : Ex) (es : Es)
  | comp (own : List Nat) (w : It) (g : Tg) (ifs : Es) (e : Ex)
  | dcomp (own : List Nat) (w : It) (g : Tg) (ifs : Es) (k e : Ex)
inductive Es where
  | nil | cons (e : Ex) (r : Es) | star (e : Ex) (r : Es)
inductive It where
  | seq (e : Ex) | zip (es : Es) | enum (e : Ex) | range (es : Es) | keys (i : Nat)
inductive Tg where
  | nm (i : Nat) | tp (ts : Tgs)
inductive Tgs where
  | nil | cons (t : Tg) (r : Tgs)
end

mutual
inductive Sm1 where
  | set (i : Nat) (e : Ex) | own (i : Nat) (e : Ex) | frz (i : Nat)
  | app (i : Nat) (e : Ex) | ext (i : Nat) (e : Ex) | put (i : Nat) (k e : Ex) | sdef (i : Nat) (k e : Ex)
  | appPop (i j : Nat) (e : Ex)
  | unp (g : Tgs) (e : Ex) | par (i j : Nat) (a b : Ex) | parO (i j : Nat) (a b : Ex)
  | ite (t : Ex) (a b : Sm2) | for_ (w : It) (g : Tg) (b : Sm2) | forK (i : Nat) (g : Tg) (b : Sm2) | whl (t : Ex) (b : Sm2)
  | ret (e : Ex) | retN | rais (c : Str) (f : Str) (e : Ex) | expr (e : Ex) | pass | brk | cont | nev
inductive Sm2 where
  | nil | cons (a : Sm1) (r : Sm2)
end

/-- a slot: empty, a value, a list or dict of one's own that is still changed -/
inductive Sl where
  | no | va (v : PV) | ow (v : PV)
abbrev Env := List Sl

def truth : PV → Option Bool
  | .non => some false
  | .bl b => some b
  | .int i => some (i != 0)
  | .str x => if x.length ≤ sizeLine then some (x.length != 0) else none
  | .lst _ xs => some (!xs.isEmpty)
  | .tup xs => some (!xs.isEmpty)
  | _ => none

/-! ### equality, order -/
mutual
def toD : PV → Option PyData
  | .non => some .none
  | .bl b => some (.bool b)
  | .int i => some (.int i)
  | .str x => some (.str x)
  | .lst _ xs => (toDs xs).map .list
  | .tup xs => (toDs xs).map .tuple
  | _ => none
def toDs : List PV → Option (List PyData)
  | [] => some []
  | x :: xs => match toD x, toDs xs with
    | some d, some ds => some (d :: ds)
    | _, _ => none
end
def peq (x y : PV) : Option Bool := match toD x, toD y with
  | some d, some e => if SeqAt.shaped d && SeqAt.shaped e then some (PyData.eqv d e) else none
  | _, _ => none

def strLt (x y : Str) : Bool := decide (x.cps.toList < y.cps.toList)

def bitsOk (i j : Int) : Bool := decide (i.natAbs.log2 + j.natAbs.log2 < 1000000)

def op2 : Op → PV → PV → Option PV
  | .add, .int i, .int j => some (.int (i + j))
  | .add, .lst _ xs, .lst _ ys => if xs.length + ys.length ≤ sizeLine then some (.lst true (xs ++ ys)) else none
  | .sub, .int i, .int j => some (.int (i - j))
  | .mul, .int i, .int j => if bitsOk i j then some (.int (i * j)) else none
  | .fdiv, .int i, .int j => if 0 < j ∧ j.natAbs.log2 < 9000 then some (.int (i / j)) else none
  | .mod, .int i, .int j => if 0 < j then some (.int (i % j)) else none
  | .pow, .int i, .int j => if 0 ≤ i ∧ i < 2 ^ 63 ∧ 0 ≤ j ∧ j < 64 then some (.int (i ^ j.toNat)) else none
  | _, _, _ => none

def keyOf : PV → Option Key
  | .int i => some (.inl i)
  | .str x => some (.inr x)
  | _ => none
def look (k : Key) : List Key → List PV → Option PV
  | q :: ks, x :: xs => if q = k then some x else look k ks xs
  | _, _ => none
/-- the place of the first that is equal -/
def firstD (d : PyData) : List PyData → Option Nat
  | [] => none
  | x :: xs => if PyData.eqv x d = true then some 0 else (firstD d xs).map (· + 1)
/-- what a list's things are compared with -/
def inList {α : Type} (x : PV) (xs : List PV) (f : PyData → List PyData → Option α) : Option α := match toD x, toDs xs with
  | some d, some ds => if SeqAt.shaped d && SeqAt.shaped (.list ds) then f d ds else none
  | _, _ => none
def signIn (x z : Str) : Option Bool := match x.cps.toList with
  | [c] => some (decide (c ∈ z.cps.toList))
  | _ => none
def memP (x y : PV) : Option Bool := match y with
  | .lst _ xs => inList x xs fun d ds => some (ds.any fun z => PyData.eqv z d)
  | .dic _ ks xs => (keyOf x).map fun k => ks.any (fun q => decide (q = k))
  | .str z => match x with
    | .str w => signIn w z
    | _ => none
  | _ => none
/-- which is less, of like things -/
def pltB (d e : PyData) : Bool := SeqAt.shaped d && PySem.W.alike d e && (match d with | .none => false | _ => true)
def plt (x y : PV) : Option Bool := match toD x, toD y with
  | some d, some e => if pltB d e then some (PySem.W.dataLt d e) else none
  | _, _ => none

def strsOf : List PV → Option (List Str)
  | [] => some []
  | .str x :: r => (strsOf r).map (x :: ·)
  | _ => none
def cmp2 : Cp → PV → PV → Option Bool
  | .eq, x, y => peq x y
  | .ne, x, y => (peq x y).map (!·)
  | .lt, x, y => plt x y
  | .le, .int i, .int j => some (decide (i ≤ j))
  | .gt, .int i, .int j => some (decide (j < i))
  | .ge, .int i, .int j => some (decide (j ≤ i))
  | .is, .non, .non => some true
  | .is, _, .non => some false
  | .isN, .non, .non => some false
  | .isN, _, .non => some true
  | .mem, x, y => memP x y
  | .notM, x, y => (memP x y).map (!·)
  | _, _, _ => none

/-! ### places, slices -/
def ixAt (xs : List PV) (i : Int) : Option PV := atI xs i
def partL : List PV → Option (Option Int)
  | [] => some none
  | [.int i] => some (some i)
  | _ => none
def cutP (xs : List PV) (lo hi : Option Int) : List PV := (xs.drop (HT.sIx xs.length 0 lo)).take (HT.sIx xs.length xs.length hi - HT.sIx xs.length 0 lo)
def idx2 : PV → PV → Option PV
  | .lst _ xs, .int i => ixAt xs i
  | .tup xs, .int i => ixAt xs i
  | .dic _ ks xs, y => (keyOf y).bind fun k => look k ks xs
  | _, _ => none

/-! ### classes of values -/
def isTy (n : String) : PV → Bool
  | .non => n == "NoneType"
  | .bl _ => n == "bool" || n == "int"
  | .int _ => n == "int"
  | .str _ => n == "str"
  | .lst _ _ => n == "list"
  | .tup _ => n == "tuple"
  | .dic _ _ _ => n == "dict"
  | _ => false
def known : PV → Bool
  | .non | .bl _ | .int _ | .str _ | .lst _ _ | .tup _ | .dic _ _ _ => true
  | _ => false
def someTy : List String := ["int", "bool", "str", "list", "tuple", "dict"]
def tyNames : List PV → Option (List String)
  | [] => some []
  | .ty n :: r => (tyNames r).map (n :: ·)
  | _ => none
def blsOf : List PV → Option (List Bool)
  | [] => some []
  | .bl b :: r => (blsOf r).map (b :: ·)
  | _ => none
def intsOf : List PV → Option (List Int)
  | [] => some []
  | .int b :: r => (intsOf r).map (b :: ·)
  | _ => none

/-- insertion sort of texts -/
def insS (x : Str) : List Str → List Str
  | [] => [x]
  | y :: r => if strLt y x then y :: insS x r else x :: y :: r
def sortS : List Str → List Str
  | [] => []
  | x :: r => insS x (sortS r)

def insI (x : Int) : List Int → List Int
  | [] => [x]
  | y :: r => if y < x then y :: insI x r else x :: y :: r
def sortI : List Int → List Int
  | [] => []
  | x :: r => insI x (sortI r)
def keyP : Key → PV
  | .inl i => .int i
  | .inr x => .str x

def builtin : Bi → List PV → Option PV
  | .len, [.lst _ xs] => some (.int xs.length)
  | .len, [.tup xs] => some (.int xs.length)
  | .len, [.dic _ ks _] => some (.int ks.length)
  | .len, [.str x] => if x.length ≤ sizeLine then some (.int x.length) else none
  | .abs, [.int i] => some (.int i.natAbs)
  | .isinst, [x, .ty n] => if known x && someTy.contains n then some (.bl (isTy n x)) else none
  | .isinst, [x, .tup ts] => match tyNames ts with
    | some ns => if known x && ns.all (fun n => someTy.contains n) then some (.bl (ns.any fun n => isTy n x)) else none
    | none => none
  | .list, [.lst _ xs] => some (.lst true xs)
  | .list, [.tup xs] => some (.lst true xs)
  | .list, [.dic _ ks _] => some (.lst true (ks.map keyP))
  | .all, [.lst _ xs] => (blsOf xs).map fun bs => .bl (bs.all id)
  | .any, [.lst _ xs] => (blsOf xs).map fun bs => .bl (bs.any id)
  | .int, [.int i] => some (.int i)
  | .int, [.bl b] => some (.int (if b then 1 else 0))
  | .dict, [.dic _ ks xs] => some (.dic true ks xs)
  | .sorted, [.dic _ ks _] => match strsOf (ks.map keyP) with
    | some l => if l.length < 64 then some (.lst true ((sortS l).map .str)) else none
    | none => match intsOf (ks.map keyP) with
      | some l => if l.length < 64 then some (.lst true ((sortI l).map .int)) else none
      | none => none
  | .sorted, [.lst _ xs] => match strsOf xs with
    | some l => if l.length < 64 then some (.lst true ((sortS l).map .str)) else none
    | none => match intsOf xs with
      | some l => some (.lst true ((sortI l).map .int))
      | none => none
  | _, _ => none

def method : Mt → PV → List PV → Option PV
  | .index, .lst _ xs, [y] => inList y xs fun d ds => (firstD d ds).map fun n => .int n
  | .items, .dic _ ks xs, [] => some (.lst true ((ks.zip xs).map fun p => .tup [keyP p.1, p.2]))
  | _, _, _ => none

def mtOk : Mt → PV → Bool
  | .index, .lst _ _ => true
  | .items, .dic _ _ _ => true
  | _, _ => false
/-! ### running -/
abbrev Kp := PV → Nat → Prop
structure Er where
  cls : Str
  fld : Str
  val : PV
abbrev Xp := Er → Nat → Prop
abbrev Cl := Str → List PV → Nat → Kp → Xp → Prop
/-- what is wanted of a statement's ends -/
structure En where
  nx : Env → Nat → Prop
  rt : Kp
  bk : Env → Nat → Prop
  ct : Env → Nat → Prop

def opt {α : Type} (o : Option α) (k : α → Prop) : Prop := match o with
  | some a => k a
  | none => False
def slotV (ρ : Env) (i : Nat) (k : PV → Prop) : Prop := match ρ[i]? with
  | some (.va v) => k v
  | _ => False
def slotR (ρ : Env) (i : Nat) (k : PV → Prop) : Prop := match ρ[i]? with
  | some (.va v) => k v
  | some (.ow v) => k v
  | _ => False
def slotO (ρ : Env) (i : Nat) (k : PV → Prop) : Prop := match ρ[i]? with
  | some (.ow v) => k v
  | _ => False

mutual
def bindT : Tg → PV → Env → (Env → Prop) → Prop
  | .nm i, v, ρ, k => k (ρ.set i (.va v))
  | .tp ts, v, ρ, k => match v with
    | .tup xs => bindTs ts xs ρ k
    | _ => False
def bindTs : Tgs → List PV → Env → (Env → Prop) → Prop
  | .nil, xs, ρ, k => xs = [] ∧ k ρ
  | .cons t r, xs, ρ, k => match xs with
    | x :: xs => bindT t x ρ fun ρ' => bindTs r xs ρ' k
    | [] => False
end

def wipeE (ρ : Env) : List Nat → Env
  | [] => ρ
  | v :: vs => (wipeE ρ vs).set v .no

/-- the items one by one, what is made so far -/
def eachL (f : PV → List PV → Nat → (List PV → Nat → Prop) → Prop) : List PV → List PV → Nat → (List PV → Nat → Prop) → Prop
  | [], acc, c, k => k acc c
  | x :: xs, acc, c, k => f x acc c fun acc' c' => eachL f xs acc' c' k
def eachD (f : PV → List Key → List PV → Nat → (List Key → List PV → Nat → Prop) → Prop) : List PV → List Key → List PV → Nat → (List Key → List PV → Nat → Prop) → Prop
  | [], ks, vs, c, k => k ks vs c
  | x :: xs, ks, vs, c, k => f x ks vs c fun ks' vs' c' => eachD f xs ks' vs' c' k
def replP (k : Key) (v : PV) : List Key → List PV → List PV
  | q :: ks, x :: xs => (if q = k then v else x) :: replP k v ks xs
  | _, _ => []
def putP (k : Key) (v : PV) (ks : List Key) (xs : List PV) : List Key × List PV :=
  if (ks.any fun q => decide (q = k)) = true then (ks, replP k v ks xs) else (ks ++ [k], xs ++ [v])

def zipP : List PV → List PV → List PV
  | x :: xs, y :: ys => .tup [x, y] :: zipP xs ys
  | _, _ => []
def enumP : Nat → List PV → List PV
  | _, [] => []
  | n, x :: xs => .tup [.int n, x] :: enumP (n + 1) xs
def rangeP (lo : Int) : Nat → List PV
  | 0 => []
  | n + 1 => .int lo :: rangeP (lo + 1) n
def seqOf : PV → Option (List PV)
  | .lst _ xs => some xs
  | .tup xs => some xs
  | _ => none
def strSigns (x : Str) : List PV := x.cps.toList.map fun c => .str ⟨#[c]⟩

section
variable (C : Cl) (n : Nat)
mutual
def ev : Ex → Env → Nat → Kp → Xp → Prop
  | .var i, ρ, c, k, _ => slotV ρ i fun v => k v c
  | .rd i, ρ, c, k, _ => slotR ρ i fun v => k v c
  | .non, _, c, k, _ => k .non c
  | .bl b, _, c, k, _ => k (.bl b) c
  | .int i, _, c, k, _ => k (.int i) c
  | .str x, _, c, k, _ => k (.str x) c
  | .glo _ v, _, c, k, _ => k v c
  | .fnc x, _, c, k, _ => k (.fn x) c
  | .ty _ t, _, c, k, _ => k (.ty t) c
  | .op o a b, ρ, c, k, x => ev a ρ c (fun v c1 => ev b ρ c1 (fun u c2 => opt (op2 o v u) fun z => k z c2) x) x
  | .neg a, ρ, c, k, x => ev a ρ c (fun v c1 => match v with | .int i => k (.int (-i)) c1 | _ => False) x
  | .cmp o a b, ρ, c, k, x => ev a ρ c (fun v c1 => ev b ρ c1 (fun u c2 => opt (cmp2 o v u) fun z => k (.bl z) c2) x) x
  | .chain o p a b d, ρ, c, k, x => ev a ρ c (fun v c1 => ev b ρ c1 (fun u c2 => opt (cmp2 o v u) fun z =>
      if z = true then ev d ρ c2 (fun w c3 => opt (cmp2 p u w) fun z' => k (.bl z') c3) x else k (.bl false) c2) x) x
  | .and a b, ρ, c, k, x => ev a ρ c (fun v c1 => opt (truth v) fun t => if t = true then ev b ρ c1 k x else k v c1) x
  | .or a b, ρ, c, k, x => ev a ρ c (fun v c1 => opt (truth v) fun t => if t = true then k v c1 else ev b ρ c1 k x) x
  | .not a, ρ, c, k, x => ev a ρ c (fun v c1 => opt (truth v) fun t => k (.bl (!t)) c1) x
  | .ife t a b, ρ, c, k, x => ev t ρ c (fun v c1 => opt (truth v) fun z => if z = true then ev a ρ c1 k x else ev b ρ c1 k x) x
  | .tup es, ρ, c, k, x => evs es ρ c (fun vs c1 => vs.length ≤ sizeLine ∧ k (.tup vs) c1) x
  | .lst es, ρ, c, k, x => evs es ρ c (fun vs c1 => vs.length ≤ sizeLine ∧ k (.lst true vs) c1) x
  | .dis ks es, ρ, c, k, x => evs es ρ c (fun vs c1 => k (.dic true (ks.map .inr) vs) c1) x
  | .dictG _ ks is, _, c, k, _ => k (.dic true (ks.map .inr) (is.map .int)) c
  | .idx a b, ρ, c, k, x => ev a ρ c (fun v c1 => ev b ρ c1 (fun u c2 => opt (idx2 v u) fun z => k z c2) x) x
  | .slc a l h, ρ, c, k, x => ev a ρ c (fun v c1 => evs l ρ c1 (fun u c2 => opt (partL u) fun lo => evs h ρ c2 (fun w c3 =>
      opt (partL w) fun hi => match v with
        | .lst _ xs => k (.lst true (cutP xs lo hi)) c3
        | .tup xs => k (.tup (cutP xs lo hi)) c3
        | _ => False) x) x) x
  | .rev a, ρ, c, k, x => ev a ρ c (fun v c1 => match v with | .lst _ xs => k (.lst true xs.reverse) c1 | _ => False) x
  | .call f es, ρ, c, k, x => evs es ρ c (fun vs c1 => C f vs c1 k x) x
  | .callK f es _ kes, ρ, c, k, x => evs es ρ c (fun vs c1 => evs kes ρ c1 (fun us c2 => C f (vs ++ us) c2 k x) x) x
  | .callV i es, ρ, c, k, x => slotV ρ i fun f => match f with
      | .fn g => evs es ρ c (fun vs c1 => C g vs c1 k x) x
      | _ => False
  | .bi b es, ρ, c, k, x => evs es ρ c (fun vs c1 => opt (builtin b vs) fun z => k z c1) x
  | .mt m o es, ρ, c, k, x => ev o ρ c (fun v c1 => if mtOk m v = true then evs es ρ c1 (fun vs c2 => opt (method m v vs) fun z => k z c2) x else False) x
  | .comp own w g ifs e, ρ, c, k, x => evI w ρ c (fun items c1 => eachL (fun v acc c2 kk =>
      bindT g v (wipeE ρ own) fun ρ' => evTs ifs ρ' c2 (fun b c3 => if b = true then
        ev e ρ' c3 (fun y c4 => acc.length < sizeLine ∧ kk (acc ++ [y]) c4) (fun _ _ => False) else kk acc c3) (fun _ _ => False)) items [] c1 fun out c2 => k (.lst true out) c2) x
  | .dcomp own w g ifs ek e, ρ, c, k, x => evI w ρ c (fun items c1 => eachD (fun v ks vs c2 kk =>
      bindT g v (wipeE ρ own) fun ρ' => evTs ifs ρ' c2 (fun b c3 => if b = true then
        ev ek ρ' c3 (fun q c4 => ev e ρ' c4 (fun y c5 => opt (keyOf q) fun key => ks.length < sizeLine ∧ kk (putP key y ks vs).1 (putP key y ks vs).2 c5) (fun _ _ => False)) (fun _ _ => False)
        else kk ks vs c3) (fun _ _ => False)) items [] [] c1 fun ks vs c2 => k (.dic true ks vs) c2) x
def evs : Es → Env → Nat → (List PV → Nat → Prop) → Xp → Prop
  | .nil, _, c, k, _ => k [] c
  | .cons e r, ρ, c, k, x => ev e ρ c (fun v c1 => evs r ρ c1 (fun vs c2 => k (v :: vs) c2) x) x
  | .star e r, ρ, c, k, x => ev e ρ c (fun v c1 => opt (seqOf v) fun us => evs r ρ c1 (fun vs c2 => k (us ++ vs) c2) x) x
/-- all are true -/
def evTs : Es → Env → Nat → (Bool → Nat → Prop) → Xp → Prop
  | .nil, _, c, k, _ => k true c
  | .cons e r, ρ, c, k, x => ev e ρ c (fun v c1 => opt (truth v) fun t => if t = true then evTs r ρ c1 k x else k false c1) x
  | .star _ _, _, _, _, _ => False
def evI : It → Env → Nat → (List PV → Nat → Prop) → Xp → Prop
  | .seq e, ρ, c, k, x => ev e ρ c (fun v c1 => match v with
      | .lst _ xs => k xs c1
      | .tup xs => k xs c1
      | .str z => k (strSigns z) c1
      | _ => False) x
  | .zip es, ρ, c, k, x => evs es ρ c (fun vs c1 => match vs with
      | [.lst _ l, .lst _ m] => k (zipP l m) c1
      | [.tup l, .tup m] => k (zipP l m) c1
      | _ => False) x
  | .enum e, ρ, c, k, x => ev e ρ c (fun v c1 => match v with
      | .lst _ l => k (enumP 0 l) c1
      | _ => False) x
  | .range es, ρ, c, k, x => evs es ρ c (fun vs c1 => match vs with
      | [.int j] => (-(2 ^ 62) ≤ j ∧ j < 2 ^ 62) ∧ k (rangeP 0 j.toNat) c1
      | [.int i, .int j] => (-(2 ^ 62) ≤ i ∧ i < 2 ^ 62 ∧ -(2 ^ 62) ≤ j ∧ j < 2 ^ 62) ∧ k (rangeP i (j - i).toNat) c1
      | _ => False) x
  | .keys i, ρ, c, k, _ => slotV ρ i fun v => match v with
      | .dic _ ks _ => k (ks.map keyP) c
      | _ => False
end
def eachS (f : PV → Env → Nat → (Env → Nat → Prop) → (Env → Nat → Prop) → Prop) : List PV → Env → Nat → (Env → Nat → Prop) → Prop
  | [], ρ, c, k => k ρ c
  | x :: xs, ρ, c, k => f x ρ c (fun ρ' c' => eachS f xs ρ' c' k) k
def whileN (t : Env → Nat → (Bool → Nat → Prop) → Prop) (b : Env → Nat → (Env → Nat → Prop) → (Env → Nat → Prop) → Prop) : Nat → Env → Nat → (Env → Nat → Prop) → Prop
  | 0, _, _, _ => False
  | m + 1, ρ, c, k => t ρ c fun z c1 => if z = true then b ρ c1 (fun ρ' c' => whileN t b m ρ' c' k) k else k ρ c1
mutual
def evS : Sm1 → Env → Nat → En → Xp → Prop
  | .set i e, ρ, c, D, x => ev C e ρ c (fun v c1 => D.nx (ρ.set i (.va v)) c1) x
  | .own i e, ρ, c, D, x => ev C e ρ c (fun v c1 => match v with
      | .lst t xs => D.nx (ρ.set i (.ow (.lst t xs))) c1
      | .dic t ks xs => D.nx (ρ.set i (.ow (.dic t ks xs))) c1
      | _ => False) x
  | .frz i, ρ, c, D, _ => slotO ρ i fun v => D.nx (ρ.set i (.va v)) c
  | .app i e, ρ, c, D, x => slotO ρ i fun l => match l with
      | .lst t xs => ev C e ρ c (fun v c1 => xs.length < sizeLine ∧ D.nx (ρ.set i (.ow (.lst t (xs ++ [v])))) c1) x
      | _ => False
  | .ext i e, ρ, c, D, x => slotO ρ i fun l => match l with
      | .lst t xs => ev C e ρ c (fun v c1 => match v with
        | .lst _ ys => xs.length + ys.length ≤ sizeLine ∧ D.nx (ρ.set i (.ow (.lst t (xs ++ ys)))) c1
        | _ => False) x
      | _ => False
  | .put i ek e, ρ, c, D, x => slotO ρ i fun l => match l with
      | .dic t ks xs => ev C e ρ c (fun v c1 => ev C ek ρ c1 (fun q c2 => opt (keyOf q) fun key => ks.length < sizeLine ∧ D.nx (ρ.set i (.ow (.dic t (putP key v ks xs).1 (putP key v ks xs).2))) c2) x) x
      | _ => False
  | .sdef i ek e, ρ, c, D, x => slotO ρ i fun l => match l with
      | .dic t ks xs => ev C ek ρ c (fun q c1 => ev C e ρ c1 (fun v c2 => opt (keyOf q) fun key => ks.length < sizeLine ∧ (if ks.any (fun q => decide (q = key)) = true then D.nx ρ c2 else D.nx (ρ.set i (.ow (.dic t (putP key v ks xs).1 (putP key v ks xs).2))) c2)) x) x
      | _ => False
  | .appPop i j e, ρ, c, D, x => ev C e ρ c (fun q c1 => slotO ρ j fun s => match s, q with
      | .lst u ys, .int m => opt (ixN ys.length m) fun at_ => opt ys[at_]? fun y => slotO ρ i fun l => match l with
        | .lst t xs => xs.length < sizeLine ∧ D.nx ((ρ.set j (.ow (.lst u (ys.eraseIdx at_)))).set i (.ow (.lst t (xs ++ [y])))) c1
        | _ => False
      | _, _ => False) x
  | .unp g e, ρ, c, D, x => ev C e ρ c (fun v c1 => opt (seqOf v) fun xs => bindTs g xs ρ fun ρ' => D.nx ρ' c1) x
  | .par i j a b, ρ, c, D, x => ev C a ρ c (fun v c1 => ev C b ρ c1 (fun u c2 => D.nx ((ρ.set i (.va v)).set j (.va u)) c2) x) x
  | .parO i j a b, ρ, c, D, x => ev C a ρ c (fun v c1 => ev C b ρ c1 (fun u c2 => match u with
      | .lst t xs => D.nx ((ρ.set i (.va v)).set j (.ow (.lst t xs))) c2
      | .dic t ks xs => D.nx ((ρ.set i (.va v)).set j (.ow (.dic t ks xs))) c2
      | _ => False) x) x
  | .ite t a b, ρ, c, D, x => ev C t ρ c (fun v c1 => opt (truth v) fun z => if z = true then evSs a ρ c1 D x else evSs b ρ c1 D x) x
  | .for_ w g b, ρ, c, D, x => evI C w ρ c (fun items c1 => eachS (fun v ρ1 c2 kk kb => bindT g v ρ1 fun ρ2 => evSs b ρ2 c2 ⟨kk, D.rt, kb, kk⟩ x) items ρ c1 D.nx) x
  | .forK i g b, ρ, c, D, _ => evI C (.keys i) ρ c (fun items c1 => eachS (fun v ρ1 c2 kk kb => bindT g v ρ1 fun ρ2 => evSs b ρ2 c2 ⟨kk, D.rt, kb, kk⟩ (fun _ _ => False)) items ρ c1 D.nx) (fun _ _ => False)
  | .whl t b, ρ, c, D, x => whileN (fun ρ1 c1 kk => ev C t ρ1 c1 (fun v c2 => opt (truth v) fun z => kk z c2) x) (fun ρ1 c1 kk kb => evSs b ρ1 c1 ⟨kk, D.rt, kb, kk⟩ x) n ρ c D.nx
  | .ret e, ρ, c, D, x => ev C e ρ c D.rt x
  | .retN, _, c, D, _ => D.rt .non c
  | .rais cl f e, ρ, c, _, x => ev C e ρ c (fun v c1 => x ⟨cl, f, v⟩ c1) x
  | .expr e, ρ, c, D, x => ev C e ρ c (fun _ c1 => D.nx ρ c1) x
  | .pass, ρ, c, D, _ => D.nx ρ c
  | .brk, ρ, c, D, _ => D.bk ρ c
  | .cont, ρ, c, D, _ => D.ct ρ c
  | .nev, _, _, _, _ => False
def evSs : Sm2 → Env → Nat → En → Xp → Prop
  | .nil, ρ, c, D, _ => D.nx ρ c
  | .cons a r, ρ, c, D, x => evS a ρ c { D with nx := fun ρ' c' => evSs r ρ' c' D x } x
end
end
end Ze

/-! What is wanted may be weakened. -/
namespace Ze
open PySem L2
def CMono (C : Cl) : Prop := ∀ f vs c (k k' : Kp) (x x' : Xp), (∀ v c, k v c → k' v c) → (∀ e c, x e c → x' e c) → C f vs c k x → C f vs c k' x'
theorem opt_mono {α : Type} {o : Option α} {k k' : α → Prop} (h : ∀ a, k a → k' a) : opt o k → opt o k' := by
  cases o with
  | none => exact id
  | some a => exact h a
theorem slotV_mono {ρ : Env} {i : Nat} {k k' : PV → Prop} (h : ∀ a, k a → k' a) : slotV ρ i k → slotV ρ i k' := by
  unfold slotV; split <;> first | exact h _ | exact id
theorem slotR_mono {ρ : Env} {i : Nat} {k k' : PV → Prop} (h : ∀ a, k a → k' a) : slotR ρ i k → slotR ρ i k' := by
  unfold slotR; split <;> first | exact h _ | exact id
theorem slotO_mono {ρ : Env} {i : Nat} {k k' : PV → Prop} (h : ∀ a, k a → k' a) : slotO ρ i k → slotO ρ i k' := by
  unfold slotO; split <;> first | exact h _ | exact id
mutual
theorem bindT_mono : ∀ (g : Tg) (v : PV) (ρ : Env) {k k' : Env → Prop}, (∀ a, k a → k' a) → bindT g v ρ k → bindT g v ρ k'
  | .nm i, v, ρ, k, k', h => by intro q; unfold bindT at q ⊢; exact h _ q
  | .tp ts, v, ρ, k, k', h => by
    intro q; unfold bindT at q ⊢
    cases v <;> first | exact q.elim | exact bindTs_mono ts _ ρ h q
theorem bindTs_mono : ∀ (g : Tgs) (v : List PV) (ρ : Env) {k k' : Env → Prop}, (∀ a, k a → k' a) → bindTs g v ρ k → bindTs g v ρ k'
  | .nil, v, ρ, k, k', h => by intro q; unfold bindTs at q ⊢; exact ⟨q.1, h _ q.2⟩
  | .cons t r, v, ρ, k, k', h => by
    intro q; unfold bindTs at q ⊢
    cases v with
    | nil => exact q.elim
    | cons x xs => exact bindT_mono t x ρ (fun ρ' q => bindTs_mono r xs ρ' h q) q
end
theorem eachL_mono {f f' : PV → List PV → Nat → (List PV → Nat → Prop) → Prop} (hf : ∀ v a c (k k' : List PV → Nat → Prop), (∀ l c, k l c → k' l c) → f v a c k → f' v a c k') :
    ∀ (xs : List PV) (acc : List PV) (c : Nat) {k k' : List PV → Nat → Prop}, (∀ l c, k l c → k' l c) → eachL f xs acc c k → eachL f' xs acc c k'
  | [], acc, c, k, k', h, q => h _ _ q
  | x :: xs, acc, c, k, k', h, q => hf _ _ _ _ _ (fun l c q => eachL_mono hf xs l c h q) q
theorem eachD_mono {f f' : PV → List Key → List PV → Nat → (List Key → List PV → Nat → Prop) → Prop} (hf : ∀ v a b c (k k' : List Key → List PV → Nat → Prop), (∀ l m c, k l m c → k' l m c) → f v a b c k → f' v a b c k') :
    ∀ (xs : List PV) (ks : List Key) (vs : List PV) (c : Nat) {k k' : List Key → List PV → Nat → Prop}, (∀ l m c, k l m c → k' l m c) → eachD f xs ks vs c k → eachD f' xs ks vs c k'
  | [], ks, vs, c, k, k', h, q => h _ _ _ q
  | x :: xs, ks, vs, c, k, k', h, q => hf _ _ _ _ _ _ (fun l m c q => eachD_mono hf xs l m c h q) q
section
variable {C : Cl} (hC : CMono C)
include hC
mutual
theorem ev_mono : ∀ (e : Ex) (ρ : Env) (c : Nat) {k k' : Kp} {x x' : Xp}, (∀ v c, k v c → k' v c) → (∀ e c, x e c → x' e c) → ev C e ρ c k x → ev C e ρ c k' x'
  | .var i, ρ, c, k, k', x, x', h, hx => by unfold ev; exact slotV_mono fun v q => h _ _ q
  | .rd i, ρ, c, k, k', x, x', h, hx => by unfold ev; exact slotR_mono fun v q => h _ _ q
  | .non, ρ, c, k, k', x, x', h, hx => by unfold ev; exact h _ _
  | .bl b, ρ, c, k, k', x, x', h, hx => by unfold ev; exact h _ _
  | .int b, ρ, c, k, k', x, x', h, hx => by unfold ev; exact h _ _
  | .str b, ρ, c, k, k', x, x', h, hx => by unfold ev; exact h _ _
  | .glo y b, ρ, c, k, k', x, x', h, hx => by unfold ev; exact h _ _
  | .fnc b, ρ, c, k, k', x, x', h, hx => by unfold ev; exact h _ _
  | .ty y b, ρ, c, k, k', x, x', h, hx => by unfold ev; exact h _ _
  | .op o a b, ρ, c, k, k', x, x', h, hx => by
    unfold ev
    exact ev_mono a ρ c (fun v c1 q => ev_mono b ρ c1 (fun u c2 q => opt_mono (fun z q => h _ _ q) q) hx q) hx
  | .neg a, ρ, c, k, k', x, x', h, hx => by
    unfold ev
    exact ev_mono a ρ c (fun v c1 q => by cases v <;> first | exact h _ _ q | exact q) hx
  | .cmp o a b, ρ, c, k, k', x, x', h, hx => by
    unfold ev
    exact ev_mono a ρ c (fun v c1 q => ev_mono b ρ c1 (fun u c2 q => opt_mono (fun z q => h _ _ q) q) hx q) hx
  | .chain o p a b d, ρ, c, k, k', x, x', h, hx => by
    unfold ev
    exact ev_mono a ρ c (fun v c1 q => ev_mono b ρ c1 (fun u c2 q => opt_mono (fun z q => by
      cases z
      · exact h _ _ q
      · exact ev_mono d ρ c2 (fun w c3 q => opt_mono (fun z q => h _ _ q) q) hx q) q) hx q) hx
  | .and a b, ρ, c, k, k', x, x', h, hx => by
    unfold ev
    exact ev_mono a ρ c (fun v c1 q => opt_mono (fun z q => by
      cases z
      · exact h _ _ q
      · exact ev_mono b ρ c1 h hx q) q) hx
  | .or a b, ρ, c, k, k', x, x', h, hx => by
    unfold ev
    exact ev_mono a ρ c (fun v c1 q => opt_mono (fun z q => by
      cases z
      · exact ev_mono b ρ c1 h hx q
      · exact h _ _ q) q) hx
  | .not a, ρ, c, k, k', x, x', h, hx => by
    unfold ev
    exact ev_mono a ρ c (fun v c1 q => opt_mono (fun z q => h _ _ q) q) hx
  | .ife t a b, ρ, c, k, k', x, x', h, hx => by
    unfold ev
    exact ev_mono t ρ c (fun v c1 q => opt_mono (fun z q => by
      cases z
      · exact ev_mono b ρ c1 h hx q
      · exact ev_mono a ρ c1 h hx q) q) hx
  | .tup es, ρ, c, k, k', x, x', h, hx => by
    unfold ev
    exact evs_mono es ρ c (fun v c1 q => ⟨q.1, h _ _ q.2⟩) hx
  | .lst es, ρ, c, k, k', x, x', h, hx => by
    unfold ev
    exact evs_mono es ρ c (fun v c1 q => ⟨q.1, h _ _ q.2⟩) hx
  | .dis ks es, ρ, c, k, k', x, x', h, hx => by
    unfold ev
    exact evs_mono es ρ c (fun v c1 q => h _ _ q) hx
  | .dictG _ ks is, ρ, c, k, k', x, x', h, hx => by unfold ev; exact h _ _
  | .idx a b, ρ, c, k, k', x, x', h, hx => by
    unfold ev
    exact ev_mono a ρ c (fun v c1 q => ev_mono b ρ c1 (fun u c2 q => opt_mono (fun z q => h _ _ q) q) hx q) hx
  | .slc a l g, ρ, c, k, k', x, x', h, hx => by
    unfold ev
    exact ev_mono a ρ c (fun v c1 q => evs_mono l ρ c1 (fun u c2 q => opt_mono (fun lo q => evs_mono g ρ c2 (fun w c3 q => opt_mono (fun hi q => by
      cases v <;> first | exact h _ _ q | exact q) q) hx q) q) hx q) hx
  | .rev a, ρ, c, k, k', x, x', h, hx => by
    unfold ev
    exact ev_mono a ρ c (fun v c1 q => by cases v <;> first | exact h _ _ q | exact q) hx
  | .call f es, ρ, c, k, k', x, x', h, hx => by
    unfold ev
    exact evs_mono es ρ c (fun v c1 q => hC _ _ _ _ _ _ _ h hx q) hx
  | .callK f es ks kes, ρ, c, k, k', x, x', h, hx => by
    unfold ev
    exact evs_mono es ρ c (fun v c1 q => evs_mono kes ρ c1 (fun u c2 q => hC _ _ _ _ _ _ _ h hx q) hx q) hx
  | .callV i es, ρ, c, k, k', x, x', h, hx => by
    unfold ev
    refine slotV_mono fun v q => ?_
    cases v <;> first | exact q | exact evs_mono es ρ c (fun v c1 q => hC _ _ _ _ _ _ _ h hx q) hx q
  | .bi b es, ρ, c, k, k', x, x', h, hx => by
    unfold ev
    exact evs_mono es ρ c (fun v c1 q => opt_mono (fun z q => h _ _ q) q) hx
  | .mt m o es, ρ, c, k, k', x, x', h, hx => by
    unfold ev
    refine ev_mono o ρ c (fun v c1 q => ?_) hx
    split at q
    · rename_i hh; rw [if_pos hh]; exact evs_mono es ρ c1 (fun v c1 q => opt_mono (fun z q => h _ _ q) q) hx q
    · exact q.elim
  | .comp own w g ifs e, ρ, c, k, k', x, x', h, hx => by
    unfold ev
    refine evI_mono w ρ c (fun items c1 q => eachL_mono (fun v a c2 kk kk' hk q => bindT_mono g v _ (fun ρ' q => evTs_mono ifs ρ' c2 (fun b c3 q => ?_) (fun _ _ z => z) q) q) items [] c1 (fun l c q => h _ _ q) q) hx
    cases b
    · exact hk _ _ q
    · exact ev_mono e ρ' c3 (fun y c4 q => ⟨q.1, hk _ _ q.2⟩) (fun _ _ z => z) q
  | .dcomp own w g ifs ek e, ρ, c, k, k', x, x', h, hx => by
    unfold ev
    refine evI_mono w ρ c (fun items c1 q => eachD_mono (fun v a b c2 kk kk' hk q => bindT_mono g v _ (fun ρ' q => evTs_mono ifs ρ' c2 (fun b c3 q => ?_) (fun _ _ z => z) q) q) items [] [] c1 (fun l m c q => h _ _ q) q) hx
    cases b
    · exact hk _ _ _ q
    · exact ev_mono ek ρ' c3 (fun y c4 q => ev_mono e ρ' c4 (fun y c5 q => opt_mono (fun z q => ⟨q.1, hk _ _ _ q.2⟩) q) (fun _ _ z => z) q) (fun _ _ z => z) q
theorem evs_mono : ∀ (e : Es) (ρ : Env) (c : Nat) {k k' : List PV → Nat → Prop} {x x' : Xp}, (∀ v c, k v c → k' v c) → (∀ e c, x e c → x' e c) → evs C e ρ c k x → evs C e ρ c k' x'
  | .nil, ρ, c, k, k', x, x', h, hx => by unfold evs; exact h _ _
  | .cons e r, ρ, c, k, k', x, x', h, hx => by
    unfold evs
    exact ev_mono e ρ c (fun v c1 q => evs_mono r ρ c1 (fun vs c2 q => h _ _ q) hx q) hx
  | .star e r, ρ, c, k, k', x, x', h, hx => by
    unfold evs
    exact ev_mono e ρ c (fun v c1 q => opt_mono (fun us q => evs_mono r ρ c1 (fun vs c2 q => h _ _ q) hx q) q) hx
theorem evTs_mono : ∀ (e : Es) (ρ : Env) (c : Nat) {k k' : Bool → Nat → Prop} {x x' : Xp}, (∀ v c, k v c → k' v c) → (∀ e c, x e c → x' e c) → evTs C e ρ c k x → evTs C e ρ c k' x'
  | .nil, ρ, c, k, k', x, x', h, hx => by unfold evTs; exact h _ _
  | .cons e r, ρ, c, k, k', x, x', h, hx => by
    unfold evTs
    exact ev_mono e ρ c (fun v c1 q => opt_mono (fun z q => by
      cases z
      · exact h _ _ q
      · exact evTs_mono r ρ c1 h hx q) q) hx
  | .star e r, ρ, c, k, k', x, x', h, hx => by unfold evTs; exact id
theorem evI_mono : ∀ (e : It) (ρ : Env) (c : Nat) {k k' : List PV → Nat → Prop} {x x' : Xp}, (∀ v c, k v c → k' v c) → (∀ e c, x e c → x' e c) → evI C e ρ c k x → evI C e ρ c k' x'
  | .seq e, ρ, c, k, k', x, x', h, hx => by
    unfold evI
    exact ev_mono e ρ c (fun v c1 q => by cases v <;> first | exact h _ _ q | exact q) hx
  | .zip es, ρ, c, k, k', x, x', h, hx => by
    unfold evI
    exact evs_mono es ρ c (fun v c1 q => by
      split at q <;> first | exact q.elim | exact h _ _ q) hx
  | .enum e, ρ, c, k, k', x, x', h, hx => by
    unfold evI
    exact ev_mono e ρ c (fun v c1 q => by cases v <;> first | exact h _ _ q | exact q) hx
  | .range es, ρ, c, k, k', x, x', h, hx => by
    unfold evI
    exact evs_mono es ρ c (fun v c1 q => by
      split at q <;> first | exact q.elim | exact ⟨q.1, h _ _ q.2⟩) hx
  | .keys i, ρ, c, k, k', x, x', h, hx => by
    unfold evI
    exact slotV_mono fun v q => by cases v <;> first | exact h _ _ q | exact q
end
end
end Ze

/-! How an expression's reading follows from the evaluator: the frame, the single constructs. -/
namespace Ze
open PySem PySem.Spec PyProof.Rows L2

structure Ok (W : Wd) (H : Hp) (c : Nat) : Prop where
  str : W.str H c
  era : ∀ a, W.B a → H a ≠ none
theorem Ok.new {W H c q o} (k : Ok W H c) (hq : H q = none) : Ok W (upd H q o) c :=
  ⟨W.st k.str fun a h => upd_ne fun z => W.tr k.str h (by rw [z]; exact hq), fun a h => by
    have ne : a ≠ q := fun z => k.era a h (by rw [z]; exact hq)
    rw [upd_ne ne]; exact k.era a h⟩
theorem Ok.put {W H c q o} (k : Ok W H c) (hq : ¬ W.S q) : Ok W (upd H q o) c :=
  ⟨W.st k.str fun a h => upd_ne fun z => hq (by rw [← z]; exact h), fun a h => by
    by_cases e : a = q
    · subst e; rw [upd_same]; exact fun z => nomatch z
    · rw [upd_ne e]; exact k.era a h⟩

/-- as Rep; the thing itself may be a list or dict of one's own -/
inductive RepR (W : Wd) (H : Hp) (O : Addr → Prop) : PV → V → Prop
  | of {p v} : Rep W H O p v → RepR W H O p v
  | lst {t xs a vs} : H a = some (.lst vs) → ¬ W.S a → RepL W H O xs vs → RepR W H O (.lst t xs) (.ref a)
  | dic {t ks xs a vs} : H a = some (.dK (ks.zip vs)) → ¬ W.S a → ks.length = vs.length → RepL W H O xs vs → RepR W H O (.dic t ks xs) (.ref a)
theorem RepR.sm {W H H' O p v} (r : RepR W H O p v) (s : Sm W.S H H') (h : ∀ a, W.S a → O a) : RepR W H' O p v := by
  cases r with
  | of r => exact .of (r.fm (s.fm h))
  | lst a b l => exact .lst (s _ _ b a) b (l.fm (s.fm h))
  | dic a b e l => exact .dic (s _ _ b a) b e (l.fm (s.fm h))
theorem RepR.lstI {W H O t xs v} (r : RepR W H O (.lst t xs) v) : ∃ a vs, v = .ref a ∧ H a = some (.lst vs) ∧ RepL W H O xs vs := by
  cases r with
  | of r => cases r with | lst a b c d => exact ⟨_, _, rfl, a, d⟩
  | lst a b l => exact ⟨_, _, rfl, a, l⟩
theorem RepR.tupI {W H O xs v} (r : RepR W H O (.tup xs) v) : ∃ a vs, v = .ref a ∧ SqT W.K H a vs ∧ RepL W H O xs vs := by
  cases r with
  | of r => cases r with
    | tup a b d => exact ⟨_, _, rfl, .inl (.inl a), d⟩
    | tupK a d => exact ⟨_, _, rfl, a H, d⟩
theorem RepR.tupJ {W H O xs v} (r : RepR W H O (.tup xs) v) : ∃ a vs, v = .ref a ∧ (H a = some (.tup vs) ∨ ∀ H', SqT W.K H' a vs) ∧ RepL W H O xs vs := by
  cases r with
  | of r => cases r with
    | tup a b d => exact ⟨_, _, rfl, .inl a, d⟩
    | tupK a d => exact ⟨_, _, rfl, .inr a, d⟩
theorem RepR.dicI {W H O t ks xs v} (r : RepR W H O (.dic t ks xs) v) : ∃ a vs, v = .ref a ∧ Rd H a (.dK (ks.zip vs)) ∧ ks.length = vs.length ∧ RepL W H O xs vs := by
  cases r with
  | of r => cases r with | dic a b c e d => exact ⟨_, _, rfl, a, e, d⟩
  | dic a b e l => exact ⟨_, _, rfl, .inl a, e, l⟩
theorem RepR.intI {W H O i v} (r : RepR W H O (.int i) v) : v = .int i := by cases r with | of r => cases r; rfl
theorem RepR.strI {W H O i v} (r : RepR W H O (.str i) v) : v = .str i := by cases r with | of r => cases r; rfl
theorem RepR.blI {W H O i v} (r : RepR W H O (.bl i) v) : v = .bl i := by cases r with | of r => cases r; rfl
theorem RepR.nonI {W H O v} (r : RepR W H O .non v) : v = .non := by cases r with | of r => cases r; rfl
theorem RepR.tyI {W H O n v} (r : RepR W H O (.ty n) v) : v = .ty n := by cases r with | of r => cases r; rfl
theorem Rep.fnI {W H O n v} (r : Rep W H O (.fn n) v) : ∃ a, v = .ref a ∧ W.mg n = some (.ref a) := by cases r with | fn h => exact ⟨_, rfl, h⟩

structure Rl (W : Wd) (ρ : Env) (σ : L2.St) (H : Hp) (O : Addr → Prop) : Prop where
  len : σ.length = ρ.length
  sub : ∀ a, W.S a → O a
  trk : ∀ a, O a → H a ≠ none
  va : ∀ (i : Nat) (v : PV), ρ[i]? = some (.va v) → ∃ x : V, σ[i]? = some (some x) ∧ Rep W H O v x
  ow : ∀ (i : Nat) (v : PV), ρ[i]? = some (.ow v) → ∃ p : Addr, O p ∧ σ[i]? = some (some (.ref p)) ∧ ¬ W.S p ∧
    ((∃ t xs vs, v = .lst t xs ∧ H p = some (.lst vs) ∧ (t = true → ¬ W.B p) ∧ RepL W H O xs vs) ∨
     (∃ t ks xs vs, v = .dic t ks xs ∧ H p = some (.dK (ks.zip vs)) ∧ (t = true → ¬ W.B p) ∧ ks.length = vs.length ∧ RepL W H O xs vs))
  inj : ∀ (i j : Nat) (v u : PV) (p : V), ρ[i]? = some (.ow v) → ρ[j]? = some (.ow u) → σ[i]? = some (some p) → σ[j]? = some (some p) → i = j
theorem Rl.sm {W ρ σ H H' O c} (r : Rl W ρ σ H O) (s : Sm W.S H H') (k : Ok W H' c) : Rl W ρ σ H' O where
  len := r.len
  sub := r.sub
  trk := fun a h z => by
    by_cases hs : W.S a
    · exact W.tr k.str hs z
    · cases q : H a with
      | none => exact r.trk a h q
      | some o => rw [s a o hs q] at z; cases z
  va := fun i v h => let ⟨x, e, q⟩ := r.va i v h; ⟨x, e, q.fm (s.fm r.sub)⟩
  ow := fun i v h => by
    obtain ⟨p, ho, e, n, q⟩ := r.ow i v h
    refine ⟨p, ho, e, n, ?_⟩
    rcases q with ⟨t, xs, vs, a, b, f, l⟩ | ⟨t, ks, xs, vs, a, b, f, g, l⟩
    · exact .inl ⟨t, xs, vs, a, s _ _ n b, f, l.fm (s.fm r.sub)⟩
    · exact .inr ⟨t, ks, xs, vs, a, s _ _ n b, f, g, l.fm (s.fm r.sub)⟩
  inj := r.inj

/-- never a bare look at a list of one's own -/
def sfE : Ex → Bool
  | .rd _ => false
  | .and a b => sfE a && sfE b
  | .or a b => sfE a && sfE b
  | .ife _ a b => sfE a && sfE b
  | _ => true
/-- a new list or dict -/
def frE : Ex → Bool
  | .lst _ => true
  | .dis _ _ => true
  | .dictG _ _ _ => true
  | .comp _ _ _ _ _ => true
  | .dcomp _ _ _ _ _ _ => true
  | .bi .list _ => true
  | .bi .dict _ => true
  | .bi .sorted _ => true
  | _ => false
def FreshAt (W : Wd) (O : Addr → Prop) (H' : Hp) (pv : PV) (p : Addr) : Prop :=
  (∃ t xs vs, pv = .lst t xs ∧ H' p = some (.lst vs) ∧ RepL W H' (fun a => O a ∨ a = p) xs vs) ∨
  (∃ t ks xs vs, pv = .dic t ks xs ∧ H' p = some (.dK (ks.zip vs)) ∧ ks.length = vs.length ∧ RepL W H' (fun a => O a ∨ a = p) xs vs)
def Fresh (W : Wd) (O : Addr → Prop) (H H' : Hp) (pv : PV) (v : V) : Prop := ∃ p, v = .ref p ∧ H p = none ∧ FreshAt W O H' pv p

/-- how an error lies -/
def ErR (W : Wd) (H : Hp) (O : Addr → Prop) (er : Er) (cls : Value) (d : Option Addr) : Prop :=
  ∃ C dx v, W.mg er.cls = some (.ref C) ∧ cls = .ref C ∧ d = some dx ∧ H dx = some (.xd [(er.fld, v)]) ∧ Rep W H O er.val v
def KE (W : Wd) (O : Addr → Prop) (e : Ex) (H : Hp) (Q : VK) : Kp := fun pv c' => ∀ v H', Sm W.S H H' → Ok W H' c' → RepR W H' O pv v → (sfE e = true → Rep W H' O pv v) → (frE e = true → Fresh W O H H' pv v) → Q v H'
def XE (W : Wd) (O : Addr → Prop) (σ : L2.St) (H : Hp) (Wx : WX) : Xp := fun er c' => ∀ cls d H', Sm W.S H H' → Ok W H' c' → ErR W H' O er cls d → Wx cls d σ H'
theorem XE.sm {W O σ H H1 Wx er c} (s : Sm W.S H H1) (x : XE W O σ H Wx er c) : XE W O σ H1 Wx er c := fun cls d H' s' k e => x cls d H' (s.trans s') k e

section
variable (W : Wd) (C : Cl) (Wx : WX)
def LE (e : Ex) : TE := fun σ H Q => ∃ ρ O c, Rl W ρ σ H O ∧ Ok W H c ∧ ev C e ρ c (KE W O e H Q) (XE W O σ H Wx)
/-- an argument list's -/
def LA (es : Es) : TA := fun σ H Q => ∃ ρ O c, Rl W ρ σ H O ∧ Ok W H c ∧ evs C es ρ c (fun pvs c' => ∀ vs H', Sm W.S H H' → Ok W H' c' → RepL W H' O pvs vs → Q vs H') (XE W O σ H Wx)
/-- the same where the things themselves may be of one's own -/
def LAr (es : Es) : TA := fun σ H Q => ∃ ρ O c, Rl W ρ σ H O ∧ Ok W H c ∧ evs C es ρ c (fun pvs c' => ∀ vs H', Sm W.S H H' → Ok W H' c' → Paired (RepR W H' O) pvs vs → Q vs H') (XE W O σ H Wx)
/-- as a test -/
def LT (e : Ex) : TT := fun σ H Q => ∃ ρ O c, Rl W ρ σ H O ∧ Ok W H c ∧ ev C e ρ c (fun pv c' => opt (truth pv) fun b => ∀ H', Sm W.S H H' → Ok W H' c' → Q b H') (XE W O σ H Wx)
end

section
variable {W : Wd} {C : Cl} {Wx : WX} (hC : CMono C) {X : Cx} {σ : L2.St} {H : Hp} {O : Addr → Prop} {ρ : Env} {c : Nat}
theorem pe_weak {e : Expr} {t t' : TE} (h : PE X e t) (w : ∀ σ H Q, t' σ H Q → t σ H Q) : PE X e t' := ⟨fun pins s σ H Q I q => h.run pins s σ H Q I (w σ H Q q)⟩
theorem pa_weak {e : List Expr} {t t' : TA} (h : PA X e t) (w : ∀ σ H Q, t' σ H Q → t σ H Q) : PA X e t' := ⟨fun pos pins s σ H Q I q => h.run pos pins s σ H Q I (w σ H Q q)⟩
theorem pt_weak {e : Expr} {t t' : TT} (h : PT X e t) (w : ∀ σ H Q, t' σ H Q → t σ H Q) : PT X e t' := ⟨fun pins s σ H Q I q => h.run pins s σ H Q I (w σ H Q q)⟩
theorem pw_weak {e : Expr} {t t' : TT} (h : PW X e t) (w : ∀ σ H Q, t' σ H Q → t σ H Q) : PW X e t' := ⟨fun wh pins s σ H Q I q => h.run wh pins s σ H Q I (w σ H Q q)⟩
include hC
/-- to run a part -/
theorem le_of {e : Ex} {Q : VK} {k : Kp} {x : Xp} (r : Rl W ρ σ H O) (o : Ok W H c) (h : ev C e ρ c k x)
    (hk : ∀ pv c' v H', k pv c' → Sm W.S H H' → Ok W H' c' → RepR W H' O pv v → (sfE e = true → Rep W H' O pv v) → (frE e = true → Fresh W O H H' pv v) → Q v H') (hx : ∀ er c', x er c' → XE W O σ H Wx er c') : LE W C Wx e σ H Q :=
  ⟨ρ, O, c, r, o, ev_mono hC e ρ c (fun pv c' q v H' a b d f g => hk pv c' v H' q a b d f g) hx h⟩
theorem la_of {e : Es} {Q : List V → Hp → Prop} {k : List PV → Nat → Prop} {x : Xp} (r : Rl W ρ σ H O) (o : Ok W H c) (h : evs C e ρ c k x)
    (hk : ∀ pv c' v H', k pv c' → Sm W.S H H' → Ok W H' c' → RepL W H' O pv v → Q v H') (hx : ∀ er c', x er c' → XE W O σ H Wx er c') : LA W C Wx e σ H Q :=
  ⟨ρ, O, c, r, o, evs_mono hC e ρ c (fun pv c' q v H' a b d => hk pv c' v H' q a b d) hx h⟩
theorem lar_of {e : Es} {Q : List V → Hp → Prop} {k : List PV → Nat → Prop} {x : Xp} (r : Rl W ρ σ H O) (o : Ok W H c) (h : evs C e ρ c k x)
    (hk : ∀ pv c' v H', k pv c' → Sm W.S H H' → Ok W H' c' → Paired (RepR W H' O) pv v → Q v H') (hx : ∀ er c', x er c' → XE W O σ H Wx er c') : LAr W C Wx e σ H Q :=
  ⟨ρ, O, c, r, o, evs_mono hC e ρ c (fun pv c' q v H' a b d => hk pv c' v H' q a b d) hx h⟩
theorem lt_of {e : Ex} {Q : Bool → Hp → Prop} {k : Kp} {x : Xp} (r : Rl W ρ σ H O) (o : Ok W H c) (h : ev C e ρ c k x)
    (hk : ∀ pv c', k pv c' → opt (truth pv) fun b => ∀ H', Sm W.S H H' → Ok W H' c' → Q b H') (hx : ∀ er c', x er c' → XE W O σ H Wx er c') : LT W C Wx e σ H Q :=
  ⟨ρ, O, c, r, o, ev_mono hC e ρ c (fun pv c' q => hk pv c' q) hx h⟩

/-! ### names, constants -/
omit hC
theorem le_done {e : Ex} {Q : VK} {pv : PV} {v : V} (hq : KE W O e H Q pv c) (o : Ok W H c) (r : Rep W H O pv v) (hf : frE e = false) : Q v H :=
  hq v H .refl o (.of r) (fun _ => r) fun z => by rw [hf] at z; cases z
theorem le_var {i : Nat} {e : Expr} (h : PE X e (tVar i)) : PE X e (LE W C Wx (.var i)) := pe_weak h fun σ H Q ⟨ρ, O, c, r, o, q⟩ => by
  unfold ev slotV at q
  split at q
  · rename_i v hv
    obtain ⟨x, e, rp⟩ := r.va i v hv
    exact ⟨x, e, le_done q o rp rfl⟩
  · exact q.elim
theorem le_rd {i : Nat} {e : Expr} (h : PE X e (tVar i)) : PE X e (LE W C Wx (.rd i)) := pe_weak h fun σ H Q ⟨ρ, O, c, r, o, q⟩ => by
  unfold ev slotR at q
  split at q
  · rename_i v hv
    obtain ⟨x, e, rp⟩ := r.va i v hv
    exact ⟨x, e, q x H .refl o (.of rp) (fun z => nomatch z) fun z => nomatch z⟩
  · rename_i v hv
    obtain ⟨p, ho, e, n, rp⟩ := r.ow i v hv
    refine ⟨_, e, q _ H .refl o ?_ (fun z => nomatch z) fun z => nomatch z⟩
    rcases rp with ⟨t, xs, vs, rfl, b, _, l⟩ | ⟨t, ks, xs, vs, rfl, b, _, g, l⟩
    · exact .lst b n l
    · exact .dic b n g l
  · exact q.elim
theorem le_c {e : Expr} {ee : Ex} {pv : PV} {v : V} (h : PE X e (tC v)) (hr : ∀ H O, Rep W H O pv v) (he : ∀ ρ c k x, ev C ee ρ c k x → k pv c) (hf : frE ee = false) : PE X e (LE W C Wx ee) :=
  pe_weak h fun σ H Q ⟨ρ, O, c, r, o, q⟩ => le_done (he _ _ _ _ q) o (hr H O) hf

/-! ### operators -/
include hC
theorem le_bin {a b : Ex} {ee : Ex} {ea eb e : Expr} {f : PV → PV → Option PV} {rr : R2} (h : PE X e (tOp rr (LE W C Wx a) (LE W C Wx b)))
    (he : ∀ ρ c k x, ev C ee ρ c k x → ev C a ρ c (fun v c1 => ev C b ρ c1 (fun u c2 => opt (f v u) fun z => k z c2) x) x)
    (hr : ∀ H O c p u v w z Q, (∀ a, W.S a → O a) → (∀ a, O a → H a ≠ none) → Ok W H c → RepR W H O p v → RepR W H O u w → f p u = some z → (∀ y H', Sm W.S H H' → Ok W H' c → Rep W H' O z y → (frE ee = true → Fresh W O H H' z y) → Q y H') → rr v w H Q) : PE X e (LE W C Wx ee) :=
  pe_weak h fun σ H Q ⟨ρ, O, c, r, o, q⟩ => by
    refine le_of hC r o (he _ _ _ _ q) (fun p c1 v H1 q1 s1 o1 r1 _ _ => ?_) (fun _ _ z => z)
    have rl1 := r.sm s1 o1
    refine le_of hC rl1 o1 q1 (fun u c2 w H2 q2 s2 o2 r2 _ _ => ?_) (fun _ _ z => z.sm s1)
    cases hz : f p u with
    | none => rw [hz] at q2; exact q2.elim
    | some z =>
      rw [hz] at q2
      refine hr H2 O c2 p u v w z Q r.sub (rl1.sm s2 o2).trk o2 (r1.sm s2 r.sub) r2 hz fun y H' s' o' r' fr => q2 y H' ((s1.trans s2).trans s') o' (.of r') (fun _ => r') fun z => ?_
      obtain ⟨pp, e1, e2, e3⟩ := fr z
      refine ⟨pp, e1, ?_, e3⟩
      cases hp : H pp with
      | none => rfl
      | some oo =>
        by_cases hs : W.S pp
        · exact absurd e2 (W.tr o2.str hs)
        · rw [(s1.trans s2) _ _ hs hp] at e2; cases e2
end
theorem op_or {f : Value → Value → Sem Value} {r1 r2 : R2} (h1 : OpR X f r1) (h2 : OpR X f r2) : OpR X f (fun x y H Q => r1 x y H Q ∨ r2 x y H Q) := by
  intro pins s σ H x y v u Q I rx ry hq
  rcases hq with hq | hq
  · exact h1 pins s σ H x y v u Q I rx ry hq
  · exact h2 pins s σ H x y v u Q I rx ry hq
end Ze

/-! The single constructs: operators, comparisons. -/
namespace Ze
open PySem PySem.Spec PyProof.Rows L2

section
variable {W : Wd} {C : Cl} {Wx : WX} {X : Cx} {σ : L2.St} {H : Hp} {O : Addr → Prop} {ρ : Env} {c : Nat}

/-- a new list -/
theorem new_lst {xs : List PV} {vs : List V} {p : Addr} (sub : ∀ a, O a → H a ≠ none) (k : Ok W H c) (hp : H p = none) (r : RepL W H O xs vs) {b : Bool} : Rep W (upd H p (.lst vs)) O (.lst b xs) (.ref p) :=
  .lst upd_same (fun z => sub p z hp) (fun _ z => k.era p z hp) ((r.fm (fm_new hp)).less fun _ z => .inl z)
theorem new_tup {xs : List PV} {vs : List V} {p : Addr} (sub : ∀ a, O a → H a ≠ none) (hp : H p = none) (r : RepL W H O xs vs) : Rep W (upd H p (.tup vs)) O (.tup xs) (.ref p) :=
  .tup upd_same (fun z => sub p z hp) ((r.fm (fm_new hp)).less fun _ z => .inl z)
theorem new_dic {ks : List Key} {xs : List PV} {vs : List V} {p : Addr} (sub : ∀ a, O a → H a ≠ none) (k : Ok W H c) (hp : H p = none) (hl : ks.length = vs.length) (r : RepL W H O xs vs) {b : Bool} : Rep W (upd H p (.dK (ks.zip vs))) O (.dic b ks xs) (.ref p) :=
  .dic (.inl upd_same) (fun z => sub p z hp) (fun _ z => k.era p z hp) hl ((r.fm (fm_new hp)).less fun _ z => .inl z)
theorem fresh_lst {b : Bool} {xs : List PV} {vs : List V} {p : Addr} (hp : H p = none) (r : RepL W H O xs vs) : Fresh W O H (upd H p (.lst vs)) (.lst b xs) (.ref p) := ⟨p, rfl, hp, .inl ⟨_, _, vs, rfl, upd_same, r.fm (fm_new hp)⟩⟩
theorem fresh_dic {b : Bool} {ks : List Key} {xs : List PV} {vs : List V} {p : Addr} (hp : H p = none) (hl : ks.length = vs.length) (r : RepL W H O xs vs) : Fresh W O H (upd H p (.dK (ks.zip vs))) (.dic b ks xs) (.ref p) := ⟨p, rfl, hp, .inr ⟨_, _, _, vs, rfl, upd_same, hl, r.fm (fm_new hp)⟩⟩

/-! ### arithmetic -/
theorem bits_ok {i j : Int} (h : bitsOk i j = true) : CMulW i j := by
  unfold bitsOk at h
  exact (of_decide_eq_true h : i.natAbs.log2 + j.natAbs.log2 < 1000000)
/-- from the reading of an operator to its rule -/
abbrev Res (W : Wd) (O : Addr → Prop) (c : Nat) (fr : Bool) (H : Hp) (z : PV) (Q : VK) : Prop := ∀ y H', Sm W.S H H' → Ok W H' c → Rep W H' O z y → (fr = true → Fresh W O H H' z y) → Q y H'
theorem res_int {i : Int} {Q : VK} {fr : Bool} (k : Ok W H c) (q : Res W O c fr H (.int i) Q) (hf : fr = false) : Q (.int i) H := q _ H .refl k .int fun z => by rw [hf] at z; cases z
theorem res_bl {i : Bool} {Q : VK} {fr : Bool} (k : Ok W H c) (q : Res W O c fr H (.bl i) Q) (hf : fr = false) : Q (.bl i) H := q _ H .refl k .bl fun z => by rw [hf] at z; cases z
theorem res_lst {xs : List PV} {vs : List V} {p : Addr} {Q : VK} {fr b : Bool} (sub : ∀ a, O a → H a ≠ none) (k : Ok W H c) (r : RepL W H O xs vs) (q : Res W O c fr H (.lst b xs) Q) (hp : H p = none) : Q (.ref p) (upd H p (.lst vs)) :=
  q _ _ (sm_upd hp) (k.new hp) (new_lst sub k hp r) fun _ => fresh_lst hp r
theorem res_tup {xs : List PV} {vs : List V} {p : Addr} {Q : VK} {fr : Bool} (sub : ∀ a, O a → H a ≠ none) (k : Ok W H c) (r : RepL W H O xs vs) (q : Res W O c fr H (.tup xs) Q) (hp : H p = none) (hf : fr = false) : Q (.ref p) (upd H p (.tup vs)) :=
  q _ _ (sm_upd hp) (k.new hp) (new_tup sub hp r) fun z => by rw [hf] at z; cases z
theorem res_dic {ks : List Key} {xs : List PV} {vs : List V} {p : Addr} {Q : VK} {fr b : Bool} (sub : ∀ a, O a → H a ≠ none) (k : Ok W H c) (hl : ks.length = vs.length) (r : RepL W H O xs vs) (q : Res W O c fr H (.dic b ks xs) Q) (hp : H p = none) : Q (.ref p) (upd H p (.dK (ks.zip vs))) :=
  q _ _ (sm_upd hp) (k.new hp) (new_dic sub k hp hl r) fun _ => fresh_dic hp hl r
theorem items_less {xs : List PV} {vs : List V} (hs : ∀ a, W.S a → O a) (r : RepL W H O xs vs) : RepL W H O xs vs := r

theorem RepR.ofL {xs v} {b : Bool} (r : RepR W H O (.lst b xs) v) : ∃ a vs, v = .ref a ∧ H a = some (.lst vs) ∧ RepL W H O xs vs := r.lstI

theorem op2_add {p u z : PV} (h : op2 .add p u = some z) : (∃ i j, p = .int i ∧ u = .int j ∧ z = .int (i + j)) ∨ ∃ s t xs ys, p = .lst s xs ∧ u = .lst t ys ∧ xs.length + ys.length ≤ sizeLine ∧ z = .lst true (xs ++ ys) := by
  cases p <;> cases u <;> simp only [op2] at h <;> try contradiction
  · cases h; exact .inl ⟨_, _, rfl, rfl, rfl⟩
  · split at h <;> cases h
    exact .inr ⟨_, _, _, _, rfl, rfl, by assumption, rfl⟩
theorem op2_sub {p u z : PV} (h : op2 .sub p u = some z) : ∃ i j, p = .int i ∧ u = .int j ∧ z = .int (i - j) := by
  cases p <;> cases u <;> simp only [op2] at h <;> try contradiction
  cases h; exact ⟨_, _, rfl, rfl, rfl⟩
theorem op2_mul {p u z : PV} (h : op2 .mul p u = some z) : ∃ i j, p = .int i ∧ u = .int j ∧ bitsOk i j = true ∧ z = .int (i * j) := by
  cases p <;> cases u <;> simp only [op2] at h <;> try contradiction
  split at h <;> cases h
  exact ⟨_, _, rfl, rfl, by assumption, rfl⟩
theorem op2_fdiv {p u z : PV} (h : op2 .fdiv p u = some z) : ∃ i j, p = .int i ∧ u = .int j ∧ (0 < j ∧ j.natAbs.log2 < 9000) ∧ z = .int (i / j) := by
  cases p <;> cases u <;> simp only [op2] at h <;> try contradiction
  split at h <;> cases h
  exact ⟨_, _, rfl, rfl, by assumption, rfl⟩
theorem op2_mod {p u z : PV} (h : op2 .mod p u = some z) : ∃ i j, p = .int i ∧ u = .int j ∧ 0 < j ∧ z = .int (i % j) := by
  cases p <;> cases u <;> simp only [op2] at h <;> try contradiction
  split at h <;> cases h
  exact ⟨_, _, rfl, rfl, by assumption, rfl⟩

theorem op2_pow {p u z : PV} (h : op2 .pow p u = some z) : ∃ i j, p = .int i ∧ u = .int j ∧ (0 ≤ i ∧ i < 2 ^ 63 ∧ 0 ≤ j ∧ j < 64) ∧ z = .int (i ^ j.toNat) := by
  cases p <;> cases u <;> simp only [op2] at h <;> try contradiction
  split at h <;> cases h
  exact ⟨_, _, rfl, rfl, by assumption, rfl⟩
variable (hC : CMono C)
include hC
theorem le_pow {a b : Ex} {ea eb : Expr} {pos : Pos} (ha : PE X ea (LE W C Wx a)) (hb : PE X eb (LE W C Wx b)) : PE X (.BinOp ea .Pow eb pos) (LE W C Wx (.op .pow a b)) := by
  refine le_bin hC (f := op2 .pow) (ee := .op .pow a b) (ea := ea) (eb := eb) (pe_op op_pow ha hb) (fun ρ c k x q => by unfold ev at q; exact q) ?_
  intro H O c p u v w z Q sub trk k rp ru hz q
  obtain ⟨i, j, rfl, rfl, hb, rfl⟩ := op2_pow hz
  cases rp.intI
  cases ru.intI
  refine ⟨_, _, rfl, rfl, ?_, res_int k q rfl⟩
  unfold CPow
  omega
theorem le_add {a b : Ex} {ea eb : Expr} {pos : Pos} (ha : PE X ea (LE W C Wx a)) (hb : PE X eb (LE W C Wx b)) : PE X (.BinOp ea .Add eb pos) (LE W C Wx (.op .add a b)) := by
  refine le_bin hC (f := op2 .add) (ee := .op .add a b) (ea := ea) (eb := eb) (pe_op (op_or op_add op_cat) ha hb) (fun ρ c k x q => by unfold ev at q; exact q) ?_
  intro H O c p u v w z Q sub trk k rp ru hz q
  rcases op2_add hz with ⟨i, j, rfl, rfl, rfl⟩ | ⟨s, t, xs, ys, rfl, rfl, hl, rfl⟩
  · cases rp.intI
    cases ru.intI
    exact .inl ⟨_, _, rfl, rfl, res_int k q rfl⟩
  · obtain ⟨a1, v1, rfl, h1, l1⟩ := rp.lstI
    obtain ⟨a2, v2, rfl, h2, l2⟩ := ru.lstI
    exact .inr ⟨a1, a2, v1, v2, rfl, rfl, h1, h2, by rw [← l1.length, ← l2.length]; exact hl, fun p hp => res_lst trk k (l1.app l2) q hp⟩
theorem le_sub {a b : Ex} {ea eb : Expr} {pos : Pos} (ha : PE X ea (LE W C Wx a)) (hb : PE X eb (LE W C Wx b)) : PE X (.BinOp ea .Sub eb pos) (LE W C Wx (.op .sub a b)) := by
  refine le_bin hC (f := op2 .sub) (ee := .op .sub a b) (ea := ea) (eb := eb) (pe_op op_sub ha hb) (fun ρ c k x q => by unfold ev at q; exact q) ?_
  intro H O c p u v w z Q sub trk k rp ru hz q
  obtain ⟨i, j, rfl, rfl, rfl⟩ := op2_sub hz
  cases rp.intI
  cases ru.intI
  exact ⟨_, _, rfl, rfl, res_int k q rfl⟩
theorem le_mul {a b : Ex} {ea eb : Expr} {pos : Pos} (ha : PE X ea (LE W C Wx a)) (hb : PE X eb (LE W C Wx b)) : PE X (.BinOp ea .Mult eb pos) (LE W C Wx (.op .mul a b)) := by
  refine le_bin hC (f := op2 .mul) (ee := .op .mul a b) (ea := ea) (eb := eb) (pe_op op_mulW ha hb) (fun ρ c k x q => by unfold ev at q; exact q) ?_
  intro H O c p u v w z Q sub trk k rp ru hz q
  obtain ⟨i, j, rfl, rfl, hb, rfl⟩ := op2_mul hz
  cases rp.intI
  cases ru.intI
  exact ⟨_, _, rfl, rfl, bits_ok hb, res_int k q rfl⟩
theorem le_fdiv {a b : Ex} {ea eb : Expr} {pos : Pos} (ha : PE X ea (LE W C Wx a)) (hb : PE X eb (LE W C Wx b)) : PE X (.BinOp ea .FloorDiv eb pos) (LE W C Wx (.op .fdiv a b)) := by
  refine le_bin hC (f := op2 .fdiv) (ee := .op .fdiv a b) (ea := ea) (eb := eb) (pe_op op_fdivW ha hb) (fun ρ c k x q => by unfold ev at q; exact q) ?_
  intro H O c p u v w z Q sub trk k rp ru hz q
  obtain ⟨i, j, rfl, rfl, hb, rfl⟩ := op2_fdiv hz
  cases rp.intI
  cases ru.intI
  exact ⟨_, _, rfl, rfl, hb, res_int k q rfl⟩
theorem le_mod {a b : Ex} {ea eb : Expr} {pos : Pos} (ha : PE X ea (LE W C Wx a)) (hb : PE X eb (LE W C Wx b)) : PE X (.BinOp ea .Mod eb pos) (LE W C Wx (.op .mod a b)) := by
  refine le_bin hC (f := op2 .mod) (ee := .op .mod a b) (ea := ea) (eb := eb) (pe_op op_mod ha hb) (fun ρ c k x q => by unfold ev at q; exact q) ?_
  intro H O c p u v w z Q sub trk k rp ru hz q
  obtain ⟨i, j, rfl, rfl, hb, rfl⟩ := op2_mod hz
  cases rp.intI
  cases ru.intI
  exact ⟨_, _, rfl, rfl, hb, res_int k q rfl⟩
theorem le_neg {a : Ex} {ea : Expr} {pos : Pos} (ha : PE X ea (LE W C Wx a)) : PE X (.UnaryOp .USub ea pos) (LE W C Wx (.neg a)) :=
  pe_weak (pe_un un_neg ha) fun σ H Q ⟨ρ, O, c, r, o, q⟩ => by
    unfold ev at q
    refine le_of hC r o q (fun p c1 v H1 q1 s1 o1 r1 _ _ => ?_) (fun _ _ z => z)
    cases p <;> first | exact q1.elim | skip
    cases r1.intI
    exact ⟨_, rfl, q1 _ H1 s1 o1 (.of .int) (fun _ => .int) fun z => nomatch z⟩
end
end Ze

/-! The single constructs: comparisons. -/
namespace Ze
open PySem PySem.Spec PyProof.Rows L2

section
variable {W : Wd} {C : Cl} {Wx : WX} {X : Cx} {σ : L2.St} {H : Hp} {O : Addr → Prop} {ρ : Env} {c : Nat}
mutual
theorem dp_of : ∀ (p : PV) {v : V} {d : PyData}, Rep W H O p v → toD p = some d → Dp W.K H v d
  | .non, v, d, r, h => by cases r; unfold toD at h; cases h; exact .non
  | .bl b, v, d, r, h => by cases r; unfold toD at h; cases h; exact .bl b
  | .int b, v, d, r, h => by cases r; unfold toD at h; cases h; exact .int b
  | .str b, v, d, r, h => by cases r; unfold toD at h; cases h; exact .str b
  | .lst t xs, v, d, r, h => by
    unfold toD at h
    cases hx : toDs xs with
    | none => rw [hx] at h; cases h
    | some ds =>
      rw [hx] at h; cases h
      cases r with
      | lst a b e l => exact .lst (.inl (.inl a)) (dps_of xs l hx)
  | .tup xs, v, d, r, h => by
    unfold toD at h
    cases hx : toDs xs with
    | none => rw [hx] at h; cases h
    | some ds =>
      rw [hx] at h; cases h
      cases r with
      | tup a b l => exact .tup (.inl (.inl a)) (dps_of xs l hx)
      | tupK a l => exact .tup (a H) (dps_of xs l hx)
  | .dic _ _ _, v, d, r, h => by unfold toD at h; cases h
  | .fn _, v, d, r, h => by unfold toD at h; cases h
  | .ty _, v, d, r, h => by unfold toD at h; cases h
  | .strm, v, d, r, h => by unfold toD at h; cases h
theorem dps_of : ∀ (p : List PV) {v : List V} {d : List PyData}, RepL W H O p v → toDs p = some d → DpAll W.K H v d
  | [], v, d, r, h => by cases r; unfold toDs at h; cases h; exact .nil
  | x :: xs, v, d, r, h => by
    cases r with
    | cons a b =>
      unfold toDs at h
      cases hx : toD x with
      | none => rw [hx] at h; cases h
      | some dx =>
        cases hy : toDs xs with
        | none => rw [hx, hy] at h; cases h
        | some ds =>
          rw [hx, hy] at h; cases h
          exact .cons (dp_of x a hx) (dps_of xs b hy)
end
theorem dpr_of {p : PV} {v : V} {d : PyData} (r : RepR W H O p v) (h : toD p = some d) : Dp W.K H v d := by
  cases r with
  | of r => exact dp_of p r h
  | lst a b l =>
    unfold toD at h
    rename_i xs _ _
    cases hx : toDs xs with
    | none => rw [hx] at h; cases h
    | some ds => rw [hx] at h; cases h; exact .lst (.inl (.inl a)) (dps_of xs l hx)
  | dic a b e l => unfold toD at h; cases h
theorem peq_some {x y : PV} {b : Bool} (h : peq x y = some b) : ∃ d e, toD x = some d ∧ toD y = some e ∧ SeqAt.shaped d = true ∧ SeqAt.shaped e = true ∧ b = PyData.eqv d e := by
  unfold peq at h
  split at h
  · rename_i d e h1 h2
    split at h <;> cases h
    rename_i hs
    rw [Bool.and_eq_true] at hs
    exact ⟨d, e, h1, h2, hs.1, hs.2, rfl⟩
  · cases h

/-- not a display of a set -/
def noSet : Expr → Bool
  | .Set _ _ _ => false
  | _ => true
theorem nomark' {op : CmpOp} {e : Expr} (h : noSet e = true) : behindInMarks op e = false := by
  cases e <;> first | rfl | cases h

theorem keyOf_some {p : PV} {k : Key} {v : V} (h : keyOf p = some k) (r : RepR W H O p v) : v = kV k := by
  cases p <;> simp only [keyOf] at h <;> try contradiction
  · cases h; cases r.intI; rfl
  · cases h; cases r.strI; rfl
theorem val_look : ∀ {ks : List Key} {xs : List PV} {vs : List V} (k : Key), RepL W H O xs vs → ks.length = vs.length →
    (∀ x, look k ks xs = some x → ∃ y, valV (ks.zip vs) k = some y ∧ Rep W H O x y) ∧ (look k ks xs = none → valV (ks.zip vs) k = none)
  | [], xs, [], k, r, _ => by
    refine ⟨fun x h => ?_, fun _ => rfl⟩
    unfold look at h; cases h
  | q :: ks, _, _, k, .nil, h => by cases h
  | q :: ks, x :: xs, v :: vs, k, .cons a b, h => by
    have ih := val_look (ks := ks) (xs := xs) (vs := vs) k b (Nat.succ.inj h)
    by_cases e : q = k
    · refine ⟨fun y hy => ?_, fun hn => ?_⟩
      · unfold look at hy
        rw [if_pos e] at hy; cases hy
        refine ⟨v, ?_, a⟩
        simp [valV, e]
      · unfold look at hn
        rw [if_pos e] at hn; cases hn
    · have ev : valV ((q :: ks).zip (v :: vs)) k = valV (ks.zip vs) k := by
        simp [valV, e]
      rw [ev]
      refine ⟨fun y hy => ?_, fun hn => ?_⟩
      · unfold look at hy
        rw [if_neg e] at hy; exact ih.1 y hy
      · unfold look at hn
        rw [if_neg e] at hn; exact ih.2 hn
theorem mem_keys : ∀ {ks : List Key} {vs : List V} (k : Key), ks.length = vs.length → (valV (ks.zip vs) k).isSome = ks.any fun q => decide (q = k)
  | [], [], k, _ => rfl
  | q :: ks, v :: vs, k, h => by
    have ih := mem_keys (ks := ks) (vs := vs) k (Nat.succ.inj h)
    by_cases e : q = k
    · simp [valV, e]
    · have ev : valV ((q :: ks).zip (v :: vs)) k = valV (ks.zip vs) k := by simp [valV, e]
      rw [ev, ih]
      simp [e]

/-- k in d, by values -/
theorem op_inDict (hu : X.A.units + 1 < cLine) : OpR X (compareOp .In) (fun y x H Q => ∃ a o, x = .ref a ∧ DGet H a y o ∧ Q (.bl o.isSome) H) := by
  intro pins s σ H y x v u Q I ry rx h
  obtain ⟨a, o, rfl, g, q⟩ := h
  obtain rfl : u = Value.ref a := rx
  exact d_in hu I g ry fun s3 I3 => ⟨.bl o.isSome, H, I3, rfl, q⟩
theorem op_notInDict (hu : X.A.units + 1 < cLine) : OpR X (compareOp .NotIn) (fun y x H Q => ∃ a o, x = .ref a ∧ DGet H a y o ∧ Q (.bl (!o.isSome)) H) := by
  intro pins s σ H y x v u Q I ry rx h
  obtain ⟨a, o, rfl, g, q⟩ := h
  obtain rfl : u = Value.ref a := rx
  exact d_notIn hu I g ry fun s3 I3 => ⟨.bl (!o.isSome), H, I3, rfl, q⟩
/-- a < b of like data -/
theorem op_ltD (hu : X.A.units + 65 < cLine) : OpR X (compareOp .Lt) (fun x y H Q => ∃ d e, Dp X.K H x d ∧ Dp X.K H y e ∧ pltB d e = true ∧ Q (.bl (PySem.W.dataLt d e)) H) := by
  intro pins s σ H x y v u Q I rx ry h
  obtain ⟨d, e, hd, he, hp, q⟩ := h
  obtain ⟨as, r1⟩ := Dp.reads I d x v hd rx
  obtain ⟨bs, r2⟩ := Dp.reads I e y u he ry
  unfold pltB at hp
  rw [Bool.and_eq_true, Bool.and_eq_true] at hp
  obtain ⟨⟨hs, ha⟩, hn⟩ := hp
  have hdp := SeqAt.depth_of_shaped hs
  have hm : min d.depth e.depth ≤ d.depth := Nat.min_le_left _ _
  refine PySem.W.rcLt_alike d e X.A s v u as bs r1 r2 ha (fun z => ?_) (by omega) X.prog X.w X.xe _ ⟨.bl _, H, I, rfl, q⟩
  subst z; cases hn

def ofCp : Cp → CmpOp
  | .eq => .Eq | .ne => .NotEq | .lt => .Lt | .le => .LtE | .gt => .Gt | .ge => .GtE | .is => .Is | .isN => .IsNot | .mem => .In | .notM => .NotIn
theorem signIn_some {x z : Str} {b : Bool} (h : signIn x z = some b) : ∃ c, x = ⟨#[c]⟩ ∧ b = decide (c ∈ z.cps.toList) := by
  unfold signIn at h
  split at h
  · rename_i c hc
    cases h
    refine ⟨c, ?_, rfl⟩
    cases x with
    | mk cps =>
      have : cps = #[c] := by
        apply Array.toList_inj.mp
        exact hc
      rw [this]
  · cases h
theorem inList_some {α : Type} {x : PV} {xs : List PV} {f : PyData → List PyData → Option α} {b : α} (h : inList x xs f = some b) : ∃ d ds, toD x = some d ∧ toDs xs = some ds ∧ SeqAt.shaped d = true ∧ SeqAt.shaped (.list ds) = true ∧ f d ds = some b := by
  unfold inList at h
  split at h
  · rename_i d ds h1 h2
    split at h
    · rename_i hs
      rw [Bool.and_eq_true] at hs
      exact ⟨d, ds, h1, h2, hs.1, hs.2, h⟩
    · cases h
  · cases h
theorem dpl_of {t : Bool} {xs : List PV} {v : V} {ds : List PyData} (r : RepR W H O (.lst t xs) v) (h : toDs xs = some ds) : Dp W.K H v (.list ds) :=
  dpr_of r (by unfold toD; rw [h]; rfl)
theorem plt_some {x y : PV} {b : Bool} (h : plt x y = some b) : ∃ d e, toD x = some d ∧ toD y = some e ∧ pltB d e = true ∧ b = PySem.W.dataLt d e := by
  unfold plt at h
  split at h
  · rename_i d e h1 h2
    split at h <;> cases h
    exact ⟨d, e, h1, h2, by assumption, rfl⟩
  · cases h
theorem cmp_or {op : CmpOp} {r1 r2 : R2} (h1 : OpR X (compareOp op) r1) (h2 : OpR X (compareOp op) r2) : OpR X (compareOp op) (fun x y H Q => r1 x y H Q ∨ r2 x y H Q) := op_or h1 h2

/-- each comparison by its values -/
theorem cmp_rule (hK : X.K = W.K) (hr : Room 1 X.A) (o : Cp) : ∃ rr : R2, OpR X (compareOp (ofCp o)) rr ∧
    ∀ H O c p u v w z Q, (∀ a, O a → H a ≠ none) → Ok W H c → RepR W H O p v → RepR W H O u w → cmp2 o p u = some z → Q (.bl z) H → rr v w H Q := by
  have hun := hr.un
  have u1 : X.A.units + 1 < cLine := by omega
  have u2 : X.A.units + 64 < cLine := by omega
  have u3 : X.A.units + 65 < cLine := by omega
  cases o with
  | eq =>
    refine ⟨_, op_eqD u2, fun H O c p u v w z Q trk k rp ru hz q => ?_⟩
    obtain ⟨d, e, h1, h2, s1, s2, rfl⟩ := peq_some (show peq p u = some z from by cases p <;> cases u <;> exact hz)
    rw [hK]
    exact ⟨d, e, dpr_of rp h1, dpr_of ru h2, s1, s2, q⟩
  | ne =>
    refine ⟨_, op_neD u2, fun H O c p u v w z Q trk k rp ru hz q => ?_⟩
    have hz' : (peq p u).map (!·) = some z := by cases p <;> cases u <;> exact hz
    cases hb : peq p u with
    | none => rw [hb] at hz'; cases hz'
    | some b =>
      rw [hb] at hz'; cases hz'
      obtain ⟨d, e, h1, h2, s1, s2, rfl⟩ := peq_some hb
      rw [hK]
      exact ⟨d, e, dpr_of rp h1, dpr_of ru h2, s1, s2, q⟩
  | lt =>
    refine ⟨_, op_ltD u3, fun H O c p u v w z Q trk k rp ru hz q => ?_⟩
    obtain ⟨d, e, h1, h2, s1, rfl⟩ := plt_some (show plt p u = some z from by cases p <;> cases u <;> exact hz)
    rw [hK]
    exact ⟨d, e, dpr_of rp h1, dpr_of ru h2, s1, q⟩
  | le =>
    refine ⟨_, op_le, fun H O c p u v w z Q trk k rp ru hz q => ?_⟩
    cases p <;> cases u <;> simp only [cmp2] at hz <;> try contradiction
    cases hz
    cases rp.intI
    cases ru.intI
    exact ⟨_, _, rfl, rfl, q⟩
  | gt =>
    refine ⟨_, op_gt, fun H O c p u v w z Q trk k rp ru hz q => ?_⟩
    cases p <;> cases u <;> simp only [cmp2] at hz <;> try contradiction
    cases hz
    cases rp.intI
    cases ru.intI
    exact ⟨_, _, rfl, rfl, q⟩
  | ge =>
    refine ⟨_, op_ge, fun H O c p u v w z Q trk k rp ru hz q => ?_⟩
    cases p <;> cases u <;> simp only [cmp2] at hz <;> try contradiction
    cases hz
    cases rp.intI
    cases ru.intI
    exact ⟨_, _, rfl, rfl, q⟩
  | is =>
    refine ⟨_, op_isN, fun H O c p u v w z Q trk k rp ru hz q => ?_⟩
    cases u <;> (try (cases p <;> simp only [cmp2] at hz <;> contradiction))
    cases ru.nonI
    refine ⟨rfl, ?_⟩
    have e : decide (v = V.non) = z := by
      cases p <;> simp only [cmp2] at hz <;> cases hz <;> (try (cases rp.nonI; rfl))
      all_goals (cases rp <;> first | rfl | (rename_i r; cases r <;> rfl))
    rw [e]; exact q
  | isN =>
    refine ⟨_, op_notN, fun H O c p u v w z Q trk k rp ru hz q => ?_⟩
    cases u <;> (try (cases p <;> simp only [cmp2] at hz <;> contradiction))
    cases ru.nonI
    refine ⟨rfl, ?_⟩
    have e : (!decide (v = V.non)) = z := by
      cases p <;> simp only [cmp2] at hz <;> cases hz <;> (try (cases rp.nonI; rfl))
      all_goals (cases rp <;> first | rfl | (rename_i r; cases r <;> rfl))
    rw [e]; exact q
  | mem =>
    refine ⟨_, cmp_or (op_inD u3) (cmp_or (op_inDict u1) op_in_sign), fun H O c p u v w z Q trk k rp ru hz q => ?_⟩
    have hz' : memP p u = some z := by cases p <;> cases u <;> exact hz
    unfold memP at hz'
    split at hz'
    · obtain ⟨d, ds, h1, h2, s1, s2, e⟩ := inList_some hz'
      cases e
      rw [hK]
      exact .inl ⟨d, ds, dpr_of rp h1, dpl_of ru h2, s1, s2, q⟩
    · rename_i t ks xs
      cases hk : keyOf p with
      | none => rw [hk] at hz'; cases hz'
      | some ky =>
        rw [hk] at hz'; cases hz'
        obtain ⟨a, vs, rfl, ha, hl, l⟩ := ru.dicI
        refine .inr (.inl ⟨a, _, rfl, .inl ⟨_, ky, ha, keyOf_some hk rp, rfl⟩, ?_⟩)
        rw [mem_keys ky hl]; exact q
    · split at hz'
      · obtain ⟨cc, rfl, rfl⟩ := signIn_some hz'
        cases rp.strI
        cases ru.strI
        exact .inr (.inr ⟨_, _, rfl, rfl, q⟩)
      · cases hz'
    · cases hz'
  | notM =>
    refine ⟨_, cmp_or (op_notInD u3) (cmp_or (op_notInDict u1) op_notIn_sign), fun H O c p u v w z Q trk k rp ru hz q => ?_⟩
    have hz0 : (memP p u).map (!·) = some z := by cases p <;> cases u <;> exact hz
    cases hm : memP p u with
    | none => rw [hm] at hz0; cases hz0
    | some b =>
      rw [hm] at hz0; cases hz0
      have hz' := hm
      unfold memP at hz'
      split at hz'
      · obtain ⟨d, ds, h1, h2, s1, s2, e⟩ := inList_some hz'
        cases e
        rw [hK]
        exact .inl ⟨d, ds, dpr_of rp h1, dpl_of ru h2, s1, s2, q⟩
      · rename_i t ks xs
        cases hk : keyOf p with
        | none => rw [hk] at hz'; cases hz'
        | some ky =>
          rw [hk] at hz'; cases hz'
          obtain ⟨a, vs, rfl, ha, hl, l⟩ := ru.dicI
          refine .inr (.inl ⟨a, _, rfl, .inl ⟨_, ky, ha, keyOf_some hk rp, rfl⟩, ?_⟩)
          rw [mem_keys ky hl]; exact q
      · split at hz'
        · obtain ⟨cc, rfl, rfl⟩ := signIn_some hz'
          cases rp.strI
          cases ru.strI
          exact .inr (.inr ⟨_, _, rfl, rfl, q⟩)
        · cases hz'
      · cases hz'
end
end Ze

/-! The single constructs: tests, and, or, not, displays. -/
namespace Ze
open PySem PySem.Spec PyProof.Rows L2

/-- whose truth is asked of the value -/
def plainT : Expr → Bool
  | .UnaryOp .Not _ _ => false
  | .BoolOp _ _ _ => false
  | .IfExp _ _ _ _ => false
  | .Compare _ _ _ _ => false
  | _ => true
theorem isTrue_plain {e : Expr} {env : PySem.Env} (h : plainT e = true) (whole : Sem Value) : isTrue e env whole = (do let v ← whole; standAt e.pos; holding [v] (truthy v)) := by
  cases e <;> first | rfl | (simp [plainT] at h; done) | skip
  rename_i op _ _
  cases op <;> first | rfl | (simp [plainT] at h; done)

section
variable {W : Wd} {C : Cl} {Wx : WX} {X : Cx} {σ : L2.St} {H : Hp} {O : Addr → Prop} {ρ : Env} {c : Nat}
theorem truth_of {p : PV} {v : V} {b : Bool} (r : RepR W H O p v) (h : truth p = some b) : TruV W.K v H b := by
  cases p <;> simp only [truth] at h <;> try contradiction
  · cases h; cases r.nonI; rfl
  · cases h; cases r.blI; rfl
  · cases h; cases r.intI; rfl
  · split at h <;> cases h
    cases r.strI
    refine ⟨by assumption, ?_⟩
    rename_i x hx
    by_cases e : x.length = 0
    · rw [e]; rfl
    · have e' : ((x.length : Nat) : Int) ≠ 0 := by omega
      have h1 : (x.length != 0) = true := bne_iff_ne.mpr e
      have h2 : (((x.length : Nat) : Int) != 0) = true := bne_iff_ne.mpr e'
      rw [h1, h2]
  · cases h
    obtain ⟨a, vs, rfl, ha, l⟩ := r.lstI
    refine .inl ⟨vs, .inl (.inl ha), ?_⟩
    have := l.length
    rename_i xs
    cases xs <;> cases vs <;> first | rfl | cases this
  · cases h
    obtain ⟨a, vs, rfl, ha, l⟩ := r.tupI
    refine .inr (.inl ⟨vs, ha, ?_⟩)
    have := l.length
    rename_i xs
    cases xs <;> cases vs <;> first | rfl | cases this

variable (hC : CMono C)
include hC
theorem le_cmp (hK : X.K = W.K) (hr : Room 1 X.A) {o : Cp} {a b : Ex} {ea eb : Expr} {pos : Pos} (ha : PE X ea (LE W C Wx a)) (hb : PE X eb (LE W C Wx b)) (hs : noSet eb = true) :
    PE X (.Compare ea [ofCp o] [eb] pos) (LE W C Wx (.cmp o a b)) ∧ PT X (.Compare ea [ofCp o] [eb] pos) (LT W C Wx (.cmp o a b)) := by
  obtain ⟨rr, hrr, go⟩ := cmp_rule (X := X) (W := W) hK hr o
  refine ⟨pe_weak (pe_cmpR hrr ha hb (nomark' hs)) fun σ H Q ⟨ρ, O, c, r, k, q⟩ => ?_, pt_weak (pt_cmpR hrr ha hb (nomark' hs)) fun σ H Q ⟨ρ, O, c, r, k, q⟩ => ?_⟩
  · unfold ev at q
    refine le_of hC r k q (fun p c1 v H1 q1 s1 o1 r1 _ _ => ?_) (fun _ _ z => z)
    have rl1 := r.sm s1 o1
    refine le_of hC rl1 o1 q1 (fun u c2 w H2 q2 s2 o2 r2 _ _ => ?_) (fun _ _ z => z.sm s1)
    cases hz : cmp2 o p u with
    | none => rw [hz] at q2; exact q2.elim
    | some z =>
      rw [hz] at q2
      exact go H2 O c2 p u v w z Q (rl1.sm s2 o2).trk o2 (r1.sm s2 r.sub) r2 hz (q2 _ H2 (s1.trans s2) o2 (.of .bl) (fun _ => .bl) fun z => nomatch z)
  · unfold ev at q
    refine le_of hC r k q (fun p c1 v H1 q1 s1 o1 r1 _ _ => ?_) (fun _ _ z => z)
    have rl1 := r.sm s1 o1
    refine le_of hC rl1 o1 q1 (fun u c2 w H2 q2 s2 o2 r2 _ _ => ?_) (fun _ _ z => z.sm s1)
    cases hz : cmp2 o p u with
    | none => rw [hz] at q2; exact q2.elim
    | some z =>
      rw [hz] at q2
      exact go H2 O c2 p u v w z _ (rl1.sm s2 o2).trk o2 (r1.sm s2 r.sub) r2 hz ⟨z, rfl, q2 H2 (s1.trans s2) o2⟩
theorem le_chain (hK : X.K = W.K) (hr : Room 1 X.A) {o p : Cp} {a b d : Ex} {ea eb ed : Expr} {pos : Pos} (ha : PE X ea (LE W C Wx a)) (hb : PE X eb (LE W C Wx b)) (hd : PE X ed (LE W C Wx d)) (hs : noSet ed = true) :
    PE X (.Compare ea [ofCp o, ofCp p] [eb, ed] pos) (LE W C Wx (.chain o p a b d)) := by
  obtain ⟨rr, hrr, go⟩ := cmp_rule (X := X) (W := W) hK hr o
  obtain ⟨rr2, hrr2, go2⟩ := cmp_rule (X := X) (W := W) hK hr p
  refine pe_weak (pe_chain hrr hrr2 ha hb hd (show behindInMarks (ofCp p) ed = false from nomark' hs)) fun σ H Q ⟨ρ, O, c, r, k, q⟩ => ?_
  unfold ev at q
  refine le_of hC r k q (fun x c1 v H1 q1 s1 o1 r1 _ _ => ?_) (fun _ _ z => z)
  have rl1 := r.sm s1 o1
  refine le_of hC rl1 o1 q1 (fun u c2 w H2 q2 s2 o2 r2 _ _ => ?_) (fun _ _ z => z.sm s1)
  cases hz : cmp2 o x u with
  | none => rw [hz] at q2; exact q2.elim
  | some z =>
    rw [hz] at q2
    have rl2 := rl1.sm s2 o2
    refine go H2 O c2 x u v w z _ rl2.trk o2 (r1.sm s2 r.sub) r2 hz ⟨z, rfl, ?_⟩
    cases z with
    | false => exact q2 _ H2 (s1.trans s2) o2 (.of .bl) (fun _ => .bl) fun z => nomatch z
    | true =>
      have q2' : ev C d ρ c2 _ _ := q2
      refine iteT (le_of hC rl2 o2 q2' (fun y c3 t H3 q3 s3 o3 r3 _ _ => ?_) (fun _ _ z => z.sm (s1.trans s2)))
      cases hy : cmp2 p u y with
      | none => rw [hy] at q3; exact q3.elim
      | some z' =>
        rw [hy] at q3
        exact go2 H3 O c3 u y w t z' Q (rl2.sm s3 o3).trk o3 (r2.sm s3 r.sub) r3 hy (q3 _ H3 ((s1.trans s2).trans s3) o3 (.of .bl) (fun _ => .bl) fun z => nomatch z)
omit hC in
theorem fresh_back {H H1 H2 : Hp} {pv : PV} {v : V} {c1 : Nat} (s : Sm W.S H H1) (k : Ok W H1 c1) (f : Fresh W O H1 H2 pv v) : Fresh W O H H2 pv v := by
  obtain ⟨p, e1, e2, e3⟩ := f
  refine ⟨p, e1, ?_, e3⟩
  cases hp : H p with
  | none => rfl
  | some oo =>
    by_cases hs : W.S p
    · exact absurd e2 (W.tr k.str hs)
    · rw [s _ _ hs hp] at e2; cases e2
/- what is wanted at H, asked from a later heap -/
omit hC in
theorem KE.from {e : Ex} {H H1 : Hp} {Q : VK} {pv : PV} {c c1 : Nat} (s : Sm W.S H H1) (k : Ok W H1 c1) (q : KE W O e H Q pv c) : KE W O e H1 Q pv c :=
  fun v H' s' k' r a b => q v H' (s.trans s') k' r a fun z => fresh_back s k (b z)
omit hC in
theorem KE.as {e e' : Ex} {H : Hp} {Q : VK} {pv : PV} {c : Nat} (h1 : sfE e = true → sfE e' = true) (h2 : frE e = true → frE e' = true) (q : KE W O e H Q pv c) : KE W O e' H Q pv c :=
  fun v H' s' k' r a b => q v H' s' k' r (fun z => a (h1 z)) fun z => b (h2 z)
theorem le_and {a b : Ex} {ea eb : Expr} {rest : List Expr} {pos : Pos} (hK : X.K = W.K) (ha : PE X ea (LE W C Wx a)) (hb : PE X (.BoolOp .And (eb :: rest) pos) (LE W C Wx b)) : PE X (.BoolOp .And (ea :: eb :: rest) pos) (LE W C Wx (.and a b)) :=
  pe_weak (pe_andT ha hb) fun σ H Q ⟨ρ, O, c, r, k, q⟩ => by
    unfold ev at q
    refine le_of hC r k q (fun p c1 v H1 q1 s1 o1 r1 sf1 _ => ?_) (fun _ _ z => z)
    cases ht : truth p with
    | none => rw [ht] at q1; exact q1.elim
    | some t =>
      rw [ht] at q1
      refine ⟨t, by rw [hK]; exact truth_of r1 ht, ?_⟩
      cases t with
      | false => exact iteF (q1 _ H1 s1 o1 r1 (fun z => sf1 (by simp only [sfE, Bool.and_eq_true] at z; exact z.1)) fun z => nomatch z)
      | true =>
        exact iteT ⟨ρ, O, c1, r.sm s1 o1, o1, ev_mono hC b ρ c1 (fun pv c' q => KE.as (e := .and a b) (e' := b) (fun z => by simp only [sfE, Bool.and_eq_true] at z; exact z.2) (fun z => (Bool.false_ne_true z).elim) (KE.from s1 o1 q)) (fun _ _ z => z.sm s1) q1⟩
theorem le_or {a b : Ex} {ea eb : Expr} {rest : List Expr} {pos : Pos} (hK : X.K = W.K) (ha : PE X ea (LE W C Wx a)) (hb : PE X (.BoolOp .Or (eb :: rest) pos) (LE W C Wx b)) : PE X (.BoolOp .Or (ea :: eb :: rest) pos) (LE W C Wx (.or a b)) :=
  pe_weak (pe_orT ha hb) fun σ H Q ⟨ρ, O, c, r, k, q⟩ => by
    unfold ev at q
    refine le_of hC r k q (fun p c1 v H1 q1 s1 o1 r1 sf1 _ => ?_) (fun _ _ z => z)
    cases ht : truth p with
    | none => rw [ht] at q1; exact q1.elim
    | some t =>
      rw [ht] at q1
      refine ⟨t, by rw [hK]; exact truth_of r1 ht, ?_⟩
      cases t with
      | true => exact iteT (q1 _ H1 s1 o1 r1 (fun z => sf1 (by simp only [sfE, Bool.and_eq_true] at z; exact z.1)) fun z => nomatch z)
      | false =>
        exact iteF ⟨ρ, O, c1, r.sm s1 o1, o1, ev_mono hC b ρ c1 (fun pv c' q => KE.as (e := .or a b) (e' := b) (fun z => by simp only [sfE, Bool.and_eq_true] at z; exact z.2) (fun z => (Bool.false_ne_true z).elim) (KE.from s1 o1 q)) (fun _ _ z => z.sm s1) q1⟩
theorem le_not {a : Ex} {ea : Expr} {pos : Pos} (hK : X.K = W.K) (ha : PE X ea (LE W C Wx a)) : PE X (.UnaryOp .Not ea pos) (LE W C Wx (.not a)) :=
  pe_weak (pe_notT ha) fun σ H Q ⟨ρ, O, c, r, k, q⟩ => by
    unfold ev at q
    refine le_of hC r k q (fun p c1 v H1 q1 s1 o1 r1 sf1 _ => ?_) (fun _ _ z => z)
    cases ht : truth p with
    | none => rw [ht] at q1; exact q1.elim
    | some t =>
      rw [ht] at q1
      exact ⟨t, by rw [hK]; exact truth_of r1 ht, q1 _ H1 s1 o1 (.of .bl) (fun _ => .bl) fun z => nomatch z⟩
/-! ### tests -/
theorem lt_plain {a : Ex} {ea : Expr} (hK : X.K = W.K) (hp : plainT ea = true) (ha : PE X ea (LE W C Wx a)) : PT X ea (LT W C Wx a) :=
  pt_weak (pt_truth ha (isTrue_plain hp)) fun σ H Q ⟨ρ, O, c, r, k, q⟩ => by
    refine le_of hC r k q (fun p c1 v H1 q1 s1 o1 r1 sf1 _ => ?_) (fun _ _ z => z)
    cases ht : truth p with
    | none => rw [ht] at q1; exact q1.elim
    | some t =>
      rw [ht] at q1
      exact ⟨t, by rw [hK]; exact truth_of r1 ht, q1 H1 s1 o1⟩
theorem lt_not {a : Ex} {ea : Expr} {pos : Pos} (ha : PT X ea (LT W C Wx a)) : PT X (.UnaryOp .Not ea pos) (LT W C Wx (.not a)) :=
  pt_weak (pt_not ha) fun σ H Q ⟨ρ, O, c, r, k, q⟩ => by
    unfold ev at q
    refine lt_of hC r k q (fun p c1 q1 => ?_) (fun _ _ z => z)
    exact opt_mono (fun t q1 => q1) q1
theorem lw_and1 {a : Ex} {ea : Expr} {pos : Pos} (ha : PT X ea (LT W C Wx a)) : PW X (.BoolOp .And [ea] pos) (LT W C Wx a) := pw_and1 ha
theorem lw_or1 {a : Ex} {ea : Expr} {pos : Pos} (ha : PT X ea (LT W C Wx a)) : PW X (.BoolOp .Or [ea] pos) (LT W C Wx a) := pw_or1 ha
theorem lw_and {a b : Ex} {ea eb : Expr} {rest : List Expr} {pos : Pos} (ha : PT X ea (LT W C Wx a)) (hb : PW X (.BoolOp .And (eb :: rest) pos) (LT W C Wx b)) : PW X (.BoolOp .And (ea :: eb :: rest) pos) (LT W C Wx (.and a b)) :=
  pw_weak (pw_and ha hb) fun σ H Q ⟨ρ, O, c, r, k, q⟩ => by
    unfold ev at q
    refine lt_of hC r k q (fun p c1 q1 => ?_) (fun _ _ z => z)
    cases ht : truth p with
    | none => rw [ht] at q1; exact q1.elim
    | some t =>
      rw [ht] at q1
      intro H1 s1 o1
      cases t with
      | false =>
        have q1' : opt (truth p) _ := q1
        rw [ht] at q1'
        exact iteF (q1' H1 s1 o1)
      | true =>
        exact iteT ⟨ρ, O, c1, r.sm s1 o1, o1, ev_mono hC b ρ c1 (fun pv c' q => opt_mono (fun z q H' s' o' => q H' (s1.trans s') o') q) (fun _ _ z => z.sm s1) q1⟩
theorem lw_or {a b : Ex} {ea eb : Expr} {rest : List Expr} {pos : Pos} (ha : PT X ea (LT W C Wx a)) (hb : PW X (.BoolOp .Or (eb :: rest) pos) (LT W C Wx b)) : PW X (.BoolOp .Or (ea :: eb :: rest) pos) (LT W C Wx (.or a b)) :=
  pw_weak (pw_or ha hb) fun σ H Q ⟨ρ, O, c, r, k, q⟩ => by
    unfold ev at q
    refine lt_of hC r k q (fun p c1 q1 => ?_) (fun _ _ z => z)
    cases ht : truth p with
    | none => rw [ht] at q1; exact q1.elim
    | some t =>
      rw [ht] at q1
      intro H1 s1 o1
      cases t with
      | true =>
        have q1' : opt (truth p) _ := q1
        rw [ht] at q1'
        exact iteT (q1' H1 s1 o1)
      | false =>
        exact iteF ⟨ρ, O, c1, r.sm s1 o1, o1, ev_mono hC b ρ c1 (fun pv c' q => opt_mono (fun z q H' s' o' => q H' (s1.trans s') o') q) (fun _ _ z => z.sm s1) q1⟩
theorem le_ife {t a b : Ex} {et ea eb : Expr} {pos : Pos} (ht : PT X et (LT W C Wx t)) (ha : PE X ea (LE W C Wx a)) (hb : PE X eb (LE W C Wx b)) : PE X (.IfExp et ea eb pos) (LE W C Wx (.ife t a b)) :=
  pe_weak (pe_ifExp ht ha hb) fun σ H Q ⟨ρ, O, c, r, k, q⟩ => by
    unfold ev at q
    refine lt_of hC r k q (fun p c1 q1 => ?_) (fun _ _ z => z)
    refine opt_mono (fun z q1 H1 s1 o1 => ?_) q1
    cases z with
    | true => exact iteT ⟨ρ, O, c1, r.sm s1 o1, o1, ev_mono hC a ρ c1 (fun pv c' q => KE.as (e := .ife t a b) (e' := a) (fun z => by simp only [sfE, Bool.and_eq_true] at z; exact z.1) (fun z => (Bool.false_ne_true z).elim) (KE.from s1 o1 q)) (fun _ _ z => z.sm s1) q1⟩
    | false => exact iteF ⟨ρ, O, c1, r.sm s1 o1, o1, ev_mono hC b ρ c1 (fun pv c' q => KE.as (e := .ife t a b) (e' := b) (fun z => by simp only [sfE, Bool.and_eq_true] at z; exact z.2) (fun z => (Bool.false_ne_true z).elim) (KE.from s1 o1 q)) (fun _ _ z => z.sm s1) q1⟩
end
end Ze

/-! The single constructs: argument lists, displays, subscripts, slices, built-ins. -/
namespace Ze
open PySem PySem.Spec PyProof.Rows L2

def noStar : Expr → Bool
  | .Starred _ _ => false
  | _ => true
theorem starEach_no {e : Expr} {es : List Expr} {env : PySem.Env} (h : noStar e = true) : starEach (e :: es) env = (false, eval e env) :: starEach es env := by
  cases e <;> first | rfl | cases h
def noSlice : Expr → Bool
  | .Slice _ _ _ _ => false
  | _ => true
theorem plainIx {e : Expr} (h : noSlice e = true) : PlainIx e := by
  intro o i
  cases e <;> first | rfl | cases h
theorem noSl {e : Expr} (h : noSlice e = true) : NoSl e := by
  intro o i
  cases e <;> first | rfl | cases h

section
variable {W : Wd} {C : Cl} {Wx : WX} {X : Cx} {σ : L2.St} {H : Hp} {O : Addr → Prop} {ρ : Env} {c : Nat}
/-! ### argument lists -/
theorem la_nil : PA X [] (LA W C Wx .nil) := pa_weak pa_nil fun σ H Q ⟨ρ, O, c, r, k, q⟩ => by
  unfold evs at q
  exact q [] H .refl k .nil
theorem lar_nil : PA X [] (LAr W C Wx .nil) := pa_weak pa_nil fun σ H Q ⟨ρ, O, c, r, k, q⟩ => by
  unfold evs at q
  exact q [] H .refl k .nil
variable (hC : CMono C)
include hC
theorem la_cons {a : Ex} {es : Es} {ea : Expr} {eas : List Expr} (hs : noStar ea = true) (hf : sfE a = true) (ha : PE X ea (LE W C Wx a)) (hr : PA X eas (LA W C Wx es)) : PA X (ea :: eas) (LA W C Wx (.cons a es)) :=
  pa_weak (pa_cons ha hr (starEach_no hs)) fun σ H Q ⟨ρ, O, c, r, k, q⟩ => by
    unfold evs at q
    refine le_of hC r k q (fun p c1 v H1 q1 s1 o1 r1 sf1 _ => ?_) (fun _ _ z => z)
    refine la_of hC (r.sm s1 o1) o1 q1 (fun ps c2 vs H2 q2 s2 o2 r2 => ?_) (fun _ _ z => z.sm s1)
    exact q2 _ H2 (s1.trans s2) o2 (.cons ((sf1 hf).fm (s2.fm r.sub)) r2)
theorem lar_cons {a : Ex} {es : Es} {ea : Expr} {eas : List Expr} (hs : noStar ea = true) (ha : PE X ea (LE W C Wx a)) (hr : PA X eas (LAr W C Wx es)) : PA X (ea :: eas) (LAr W C Wx (.cons a es)) :=
  pa_weak (pa_cons ha hr (starEach_no hs)) fun σ H Q ⟨ρ, O, c, r, k, q⟩ => by
    unfold evs at q
    refine le_of hC r k q (fun p c1 v H1 q1 s1 o1 r1 sf1 _ => ?_) (fun _ _ z => z)
    refine lar_of hC (r.sm s1 o1) o1 q1 (fun ps c2 vs H2 q2 s2 o2 r2 => ?_) (fun _ _ z => z.sm s1)
    exact q2 _ H2 (s1.trans s2) o2 (.cons (r1.sm s2 r.sub) r2)
omit hC in
/-- *e, .. -/
theorem pa_star {e : Expr} {es : List Expr} {te : TE} {t : TA} {p : Pos} (he : PE X e te) (hr : PA X es t) :
    PA X (.Starred e p :: es) (fun σ H Q => te σ H fun x H1 => ∃ a xs, x = .ref a ∧ (SqT X.K H1 a xs ∨ SqL X.K H1 a xs) ∧ t σ H1 fun ys H2 => Q (xs ++ ys) H2) := by
  refine ⟨fun pos pins s σ H Q I h => ?_⟩
  refine PySem.W.ks_spliced (x := eval e X.env) (pos := pos) (rest := backTo pos (starEach es X.env)) ?_
  refine thn (he.run pins s σ H _ I h) fun u s1 ⟨x, H1, I1, r1, a, xs, ex, hq, q1⟩ => ?_
  subst ex
  cases r1
  refine StX.star_any I1 hq fun us s2 I2 rv => ?_
  exact thn (hr.run pos pins s2 σ H1 _ I2 q1) fun ws s3 ⟨ys, H2, I3, r3, q3⟩ => ⟨xs ++ ys, H2, I3, rv.append r3, q3⟩
omit hC in
theorem seqOf_some {p : PV} {v : V} {us : List PV} (h : seqOf p = some us) (r : RepR W H O p v) : ∃ a vs, v = .ref a ∧ (SqT W.K H a vs ∨ SqL W.K H a vs) ∧ RepL W H O us vs := by
  cases p <;> simp only [seqOf] at h <;> try contradiction
  · cases h
    obtain ⟨a, vs, rfl, ha, l⟩ := r.lstI
    exact ⟨a, vs, rfl, .inr (.inl (.inl ha)), l⟩
  · cases h
    obtain ⟨a, vs, rfl, ha, l⟩ := r.tupI
    exact ⟨a, vs, rfl, .inl ha, l⟩
theorem la_star {a : Ex} {es : Es} {ea : Expr} {eas : List Expr} {p : Pos} (hK : X.K = W.K) (ha : PE X ea (LE W C Wx a)) (hr : PA X eas (LA W C Wx es)) : PA X (.Starred ea p :: eas) (LA W C Wx (.star a es)) :=
  pa_weak (pa_star ha hr) fun σ H Q ⟨ρ, O, c, r, k, q⟩ => by
    unfold evs at q
    refine le_of hC r k q (fun p c1 v H1 q1 s1 o1 r1 sf1 _ => ?_) (fun _ _ z => z)
    cases hs : seqOf p with
    | none => rw [hs] at q1; exact q1.elim
    | some us =>
      rw [hs] at q1
      obtain ⟨a, vs, rfl, hq, l⟩ := seqOf_some hs r1
      refine ⟨a, vs, rfl, by rw [hK]; exact hq, ?_⟩
      refine la_of hC (r.sm s1 o1) o1 q1 (fun ps c2 ws H2 q2 s2 o2 r2 => ?_) (fun _ _ z => z.sm s1)
      exact q2 _ H2 (s1.trans s2) o2 ((l.fm (s2.fm r.sub)).app r2)

/-! ### displays -/
omit hC in
theorem none_back {H H1 : Hp} {p : Addr} {c1 : Nat} (s : Sm W.S H H1) (k : Ok W H1 c1) (hp : H1 p = none) : H p = none := by
  cases q : H p with
  | none => rfl
  | some oo =>
    by_cases hs : W.S p
    · exact absurd hp (W.tr k.str hs)
    · rw [s _ _ hs q] at hp; cases hp
theorem le_tup {es : Es} {eas : List Expr} {x1 : Nat} {pos : Pos} (h : PA X eas (LA W C Wx es)) : PE X (.Tuple eas x1 pos) (LE W C Wx (.tup es)) :=
  pe_weak (pe_tup h) fun σ H Q ⟨ρ, O, c, r, k, q⟩ => by
    unfold ev at q
    refine la_of hC r k q (fun ps c1 vs H1 ⟨hl, q1⟩ s1 o1 r1 => ⟨by rw [← r1.length]; exact hl, fun p hp => ?_⟩) (fun _ _ z => z)
    have t := new_tup (r.sm s1 o1).trk hp r1
    exact q1 _ _ (s1.trans (sm_upd hp)) (o1.new hp) (.of t) (fun _ => t) fun z => nomatch z
theorem le_lst {es : Es} {eas : List Expr} {pos : Pos} (h : PA X eas (LA W C Wx es)) : PE X (.List eas pos) (LE W C Wx (.lst es)) :=
  pe_weak (pe_lst h) fun σ H Q ⟨ρ, O, c, r, k, q⟩ => by
    unfold ev at q
    refine la_of hC r k q (fun ps c1 vs H1 ⟨hl, q1⟩ s1 o1 r1 => ⟨by rw [← r1.length]; exact hl, fun p hp => ?_⟩) (fun _ _ z => z)
    have t := new_lst (r.sm s1 o1).trk o1 hp r1 (b := true)
    exact q1 _ _ (s1.trans (sm_upd hp)) (o1.new hp) (.of t) (fun _ => t) fun _ => fresh_back s1 o1 (fresh_lst hp r1)

/-! ### subscripts, slices -/
omit hC in
theorem ixN_of {n m : Nat} (h : n = m) (i : Int) : ixN n i = ixN m i := by rw [h]
omit hC in
theorem atI_of {xs : List PV} {vs : List V} (l : RepL W H O xs vs) {i : Int} {x : PV} (h : atI xs i = some x) : ∃ y, atI vs i = some y ∧ Rep W H O x y := by
  unfold atI at h ⊢
  rw [l.length] at h
  cases hj : ixN vs.length i with
  | none => rw [hj] at h; cases h
  | some j =>
    rw [hj] at h
    exact l.get h
omit hC in
theorem ix_dict (hu : X.A.units + 1 < cLine) : IxR X (fun x y H Q => ∃ a v, x = .ref a ∧ DGet H a y (some v) ∧ Q v H) := by
  intro value slice pins s σ H x y v u Q I rx ry h hs
  obtain ⟨a, w, rfl, g, q⟩ := h
  obtain rfl : v = Value.ref a := rx
  exact tail_any (dict_typeIs I g) PySem.F.slot_dict_getitem.lookup (d_getItem hu I g ry fun w' s3 I3 rw' => ⟨w, H, I3, rw', q⟩) hs
omit hC in
theorem ix_or {r1 r2 : R2} (h1 : IxR X r1) (h2 : IxR X r2) : IxR X (fun x y H Q => r1 x y H Q ∨ r2 x y H Q) := by
  intro value slice pins s σ H x y v u Q I rx ry h hs
  rcases h with h | h
  · exact h1 value slice pins s σ H x y v u Q I rx ry h hs
  · exact h2 value slice pins s σ H x y v u Q I rx ry h hs
theorem le_idx {a b : Ex} {ea eb : Expr} {pos : Pos} (hK : X.K = W.K) (hr : Room 1 X.A) (hs : noSlice eb = true) (ha : PE X ea (LE W C Wx a)) (hb : PE X eb (LE W C Wx b)) : PE X (.Subscript ea eb pos) (LE W C Wx (.idx a b)) := by
  have hun := hr.un
  refine le_bin hC (f := idx2) (ee := .idx a b) (ea := ea) (eb := eb) (pe_ix (ix_or ix_seq (ix_dict (by omega))) ha hb (plainIx hs)) (fun ρ c k x q => by unfold ev at q; exact q) ?_
  intro H O c p u v w z Q sub trk k rp ru hz q
  have fin : ∀ y, Rep W H O z y → Q y H := fun y ry => q y H .refl k ry fun z => nomatch z
  cases p <;> (try (simp only [idx2] at hz; contradiction))
  · rename_i t xs
    cases u <;> simp only [idx2] at hz <;> try contradiction
    cases ru.intI
    obtain ⟨a1, vs, rfl, h1, l⟩ := rp.lstI
    obtain ⟨y, hy, ry⟩ := atI_of l hz
    exact .inl (.inl ⟨a1, vs, _, y, rfl, rfl, .inl (.inl h1), hy, fin y ry⟩)
  · rename_i xs
    cases u <;> simp only [idx2] at hz <;> try contradiction
    cases ru.intI
    obtain ⟨a1, vs, rfl, h1, l⟩ := rp.tupI
    obtain ⟨y, hy, ry⟩ := atI_of l hz
    refine .inl (.inr (.inl ⟨a1, vs, _, y, rfl, rfl, ?_, hy, fin y ry⟩))
    rw [hK]; exact h1
  · rename_i t ks xs
    have hz' : (keyOf u).bind (fun k => look k ks xs) = some z := by cases u <;> exact hz
    cases hk : keyOf u with
    | none => rw [hk] at hz'; cases hz'
    | some ky =>
      rw [hk] at hz'
      obtain ⟨a1, vs, rfl, h1, hl, l⟩ := rp.dicI
      obtain ⟨y, hy, ry⟩ := (val_look ky l hl).1 z hz'
      exact .inr ⟨a1, y, rfl, .inl ⟨_, ky, h1, keyOf_some hk ru, hy.symm⟩, fin y ry⟩
omit hC in
def LO (W : Wd) (C : Cl) (Wx : WX) (e : Es) : TO := fun σ H Q => ∃ ρ O c, Rl W ρ σ H O ∧ Ok W H c ∧ evs C e ρ c (fun pv c' => opt (partL pv) fun o => ∀ H', Sm W.S H H' → Ok W H' c' → Q o H') (XE W O σ H Wx)
omit hC in
theorem po_weak {e : Option Expr} {t t' : TO} (h : PO X e t) (w : ∀ σ H Q, t' σ H Q → t σ H Q) : PO X e t' := ⟨fun pins s σ H Q I q => h.run pins s σ H Q I (w σ H Q q)⟩
omit hC in
theorem lo_none : PO X none (LO W C Wx .nil) := po_weak po_none fun σ H Q ⟨ρ, O, c, r, k, q⟩ => by
  unfold evs at q
  exact q H .refl k
theorem lo_some {a : Ex} {ea : Expr} (ha : PE X ea (LE W C Wx a)) : PO X (some ea) (LO W C Wx (.cons a .nil)) := po_weak (po_some ha) fun σ H Q ⟨ρ, O, c, r, k, q⟩ => by
  unfold evs at q
  refine le_of hC r k q (fun p c1 v H1 q1 s1 o1 r1 _ _ => ?_) (fun _ _ z => z)
  unfold evs at q1
  cases p <;> (try (exact q1.elim))
  cases r1.intI
  exact ⟨_, rfl, q1 H1 s1 o1⟩
theorem lo_of {a : Es} {ρ : Env} {σ : L2.St} {Q : Option Int → Hp → Prop} {k : List PV → Nat → Prop} {x : Xp} (r : Rl W ρ σ H O) (o : Ok W H c) (h : evs C a ρ c k x)
    (hk : ∀ pv c', k pv c' → opt (partL pv) fun o => ∀ H', Sm W.S H H' → Ok W H' c' → Q o H') (hx : ∀ er c', x er c' → XE W O σ H Wx er c') : LO W C Wx a σ H Q :=
  ⟨ρ, O, c, r, o, evs_mono hC a ρ c hk hx h⟩
omit hC in
theorem cut_rep {xs : List PV} {vs : List V} (l : RepL W H O xs vs) (lo hi : Option Int) : RepL W H O (cutP xs lo hi) (cutV vs lo hi) := by
  unfold cutP cutV
  rw [l.length]
  exact (l.drop _).take _
theorem le_slc {a : Ex} {l h : Es} {ea : Expr} {el eh : Option Expr} {pos p2 : Pos} (hK : X.K = W.K) (ha : PE X ea (LE W C Wx a)) (hl : PO X el (LO W C Wx l)) (hh : PO X eh (LO W C Wx h)) : PE X (.Subscript ea (.Slice el eh none p2) pos) (LE W C Wx (.slc a l h)) :=
  pe_weak (pe_slice (SlR.or sl_list sl_tupA) ha hl hh) fun σ H Q ⟨ρ, O, c, r, k, q⟩ => by
    unfold ev at q
    refine le_of hC r k q (fun p c1 v H1 q1 s1 o1 r1 _ _ => ?_) (fun _ _ z => z)
    have rl1 := r.sm s1 o1
    refine lo_of hC rl1 o1 q1 (fun u c2 q2 => opt_mono (fun lo q2 H2 s2 o2 => ?_) q2) (fun _ _ z => z.sm s1)
    have rl2 := rl1.sm s2 o2
    refine lo_of hC rl2 o2 q2 (fun u c2 q3 => opt_mono (fun hi q3 H3 s3 o3 => ?_) q3) (fun _ _ z => z.sm (s1.trans s2))
    have r3 := (r1.sm s2 r.sub).sm s3 r.sub
    cases p <;> (try (exact q3.elim))
    · obtain ⟨a1, vs, rfl, h1, l1⟩ := r3.lstI
      refine .inl ⟨a1, vs, rfl, .inl (.inl h1), fun p hp => ?_⟩
      have t := new_lst (rl2.sm s3 o3).trk o3 hp (cut_rep l1 lo hi) (b := true)
      exact q3 _ _ (((s1.trans s2).trans s3).trans (sm_upd hp)) (o3.new hp) (.of t) (fun _ => t) fun z => nomatch z
    · obtain ⟨a1, vs, hv, h1, l1⟩ := r3.tupI
      subst hv
      refine .inr ⟨a1, vs, rfl, by rw [hK]; exact h1, fun hw => ?_, fun _ p hp => ?_⟩
      · have e : ∀ ys, RepL W H3 O ys vs → cutP ys lo hi = ys := fun ys l1 => by
          unfold cutP
          rw [l1.length, hw.1, hw.2, List.drop_zero, Nat.sub_zero, ← l1.length, List.take_length]
        dsimp only at q3
        rw [e _ l1] at q3
        cases r3 with
        | of r3 => exact q3 _ H3 ((s1.trans s2).trans s3) o3 (.of r3) (fun _ => r3) fun z => nomatch z
      · have t := new_tup (rl2.sm s3 o3).trk hp (cut_rep l1 lo hi)
        exact q3 _ _ (((s1.trans s2).trans s3).trans (sm_upd hp)) (o3.new hp) (.of t) (fun _ => t) fun z => nomatch z
theorem le_rev {a : Ex} {ea : Expr} {k1 : Nat} {p1 p2 p3 pos : Pos} (hK : X.K = W.K) (ha : PE X ea (LE W C Wx a)) : PE X (.Subscript ea (.Slice none none (some (.UnaryOp .USub (.Constant (.int 1) k1 p1) p2)) p3) pos) (LE W C Wx (.rev a)) :=
  pe_weak (pe_revL ha) fun σ H Q ⟨ρ, O, c, r, k, q⟩ => by
    unfold ev at q
    refine le_of hC r k q (fun p c1 v H1 q1 s1 o1 r1 _ _ => ?_) (fun _ _ z => z)
    cases p <;> (try (exact q1.elim))
    obtain ⟨a1, vs, rfl, h1, l1⟩ := r1.lstI
    refine ⟨a1, vs, rfl, .inl (.inl h1), fun p hp => ?_⟩
    have t := new_lst (r.sm s1 o1).trk o1 hp l1.rev (b := true)
    exact q1 _ _ (s1.trans (sm_upd hp)) (o1.new hp) (.of t) (fun _ => t) fun z => nomatch z
end
end Ze

/-! The single constructs: built-ins, methods, calls. -/
namespace Ze
open PySem PySem.Spec PyProof.Rows L2

section
variable {W : Wd} {C : Cl} {Wx : WX} {X : Cx} {σ : L2.St} {H : Hp} {O : Addr → Prop} {ρ : Env} {c : Nat}
/-! ### built-ins by values -/
def nameB : Bi → String
  | .len => "len" | .abs => "abs" | .isinst => "isinstance" | .list => "list" | .tuple => "tuple" | .dict => "dict" | .int => "int" | .sum => "sum" | .sum2 => "sum" | .any => "any" | .all => "all"
  | .min2 => "min" | .max2 => "max" | .sorted => "sorted" | .repr => "repr" | .str => "str"
def isTyB : Bi → Bool
  | .list | .tuple | .dict | .int | .str => true
  | _ => false
def valB (b : Bi) : Value := if isTyB b then .type (nameB b) else .builtin (nameB b)

def tyName : PV → String
  | .non => "NoneType" | .bl _ => "bool" | .int _ => "int" | .str _ => "str" | .lst _ _ => "list" | .tup _ => "tuple" | .dic _ _ _ => "dict" | _ => ""
theorem tyx_of {p : PV} {v : V} (h : known p = true) (r : RepR W H O p v) : TyX W.K H v (.type (tyName p)) := by
  cases p <;> simp only [known] at h <;> try contradiction
  · cases r.nonI; exact .base .non
  · cases r.blI; exact .base (.bl _)
  · cases r.intI; exact .base (.int _)
  · cases r.strI; exact .base (.str _)
  · obtain ⟨a, vs, rfl, ha, l⟩ := r.lstI
    exact .base (.lst ha)
  · obtain ⟨a, vs, rfl, ha, l⟩ := r.tupI
    rcases ha with (ha | ⟨o, ha⟩) | ⟨o, its, n, ha, hc, _⟩
    · exact .base (.tup ha)
    · exact .fTuple ha
    · exact .kTuple ha hc
  · obtain ⟨a, vs, rfl, ha, hl, l⟩ := r.dicI
    rcases ha with ha | ⟨o, ha⟩
    · exact .base (.dK ha)
    · exact .fDict ha
def isTyS (tn n : String) : Bool := n == tn || (tn == "bool" && n == "int")
theorem kit_all : (["NoneType", "bool", "int", "str", "list", "tuple", "dict"] : List String).all (fun tn => someTy.all fun n => kitB tn n == some (isTyS tn n)) = true := by decide +kernel
theorem isTy_S (p : PV) (n : String) (h : known p = true) (hn : n ∈ someTy) : isTy n p = isTyS (tyName p) n := by
  simp only [someTy, List.mem_cons, List.mem_nil_iff, or_false] at hn
  cases p <;> simp only [known] at h <;> (try contradiction) <;> rcases hn with rfl | rfl | rfl | rfl | rfl | rfl <;> rfl
theorem ty_mem (p : PV) (h : known p = true) : tyName p ∈ (["NoneType", "bool", "int", "str", "list", "tuple", "dict"] : List String) := by
  cases p <;> simp only [known] at h <;> (try contradiction) <;> simp [tyName]
theorem kit_is (p : PV) (n : String) (h : known p = true) (hn : n ∈ someTy) : kitB (tyName p) n = some (isTy n p) := by
  have k := kit_all
  rw [List.all_eq_true] at k
  have k1 := k _ (ty_mem p h)
  rw [List.all_eq_true] at k1
  have k2 := k1 n hn
  rw [isTy_S p n h hn]
  exact eq_of_beq k2
theorem kits_is {K : PySem.W.Frag} (p : PV) (h : known p = true) : ∀ (ns : List String), (∀ n ∈ ns, n ∈ someTy) → PySem.W.kitAny K (.type (tyName p)) (ns.map Value.type) = some (ns.any fun n => isTy n p)
  | [], _ => rfl
  | n :: ns, hn => by
    have h1 := kit_is p n h (hn n (List.mem_cons_self ..))
    have h2 := kits_is (K := K) p h ns fun m hm => hn m (List.mem_cons_of_mem _ hm)
    refine kitAny_cons (b := isTy n p) (kit_ty h1) (fun e => ?_) (fun e => ?_)
    · rw [h2]; simp [e]
    · simp [e]
theorem tyNames_rep : ∀ {ts : List PV} {vs : List V} {ns : List String}, RepL W H O ts vs → tyNames ts = some ns → vs = ns.map V.ty
  | [], _, _, .nil, h => by cases h; rfl
  | .ty n :: ts, _, ns, .cons a b, h => by
    unfold tyNames at h
    cases hx : tyNames ts with
    | none => rw [hx] at h; cases h
    | some ms =>
      rw [hx] at h; cases h
      cases a
      rw [tyNames_rep b hx]; rfl
theorem clsV_all : ∀ ns : List String, Paired ClsV (ns.map V.ty) (ns.map Value.type)
  | [] => .nil
  | n :: ns => .cons (.ty n) (clsV_all ns)
theorem blsOf_rep : ∀ {ts : List PV} {vs : List V} {ns : List Bool}, RepL W H O ts vs → blsOf ts = some ns → vs = ns.map V.bl
  | [], _, _, .nil, h => by cases h; rfl
  | .bl n :: ts, _, ns, .cons a b, h => by
    unfold blsOf at h
    cases hx : blsOf ts with
    | none => rw [hx] at h; cases h
    | some ms =>
      rw [hx] at h; cases h
      cases a
      rw [blsOf_rep b hx]; rfl
theorem strsOf_rep : ∀ {ts : List PV} {vs : List V} {ns : List Str}, RepL W H O ts vs → strsOf ts = some ns → vs = ns.map V.str
  | [], _, _, .nil, h => by cases h; rfl
  | .str n :: ts, _, ns, .cons a b, h => by
    unfold strsOf at h
    cases hx : strsOf ts with
    | none => rw [hx] at h; cases h
    | some ms =>
      rw [hx] at h; cases h
      cases a
      rw [strsOf_rep b hx]; rfl
theorem strs_rep : ∀ ns : List Str, RepL W H O (ns.map PV.str) (ns.map V.str)
  | [] => .nil
  | n :: ns => .cons .str (strs_rep ns)
theorem keys_rep : ∀ ks : List Key, RepL W H O (ks.map keyP) (ks.map kV)
  | [] => .nil
  | .inl i :: ks => .cons .int (keys_rep ks)
  | .inr i :: ks => .cons .str (keys_rep ks)
theorem zip_fst : ∀ {ks : List Key} {vs : List V}, ks.length = vs.length → (ks.zip vs).map (fun kv => kv.1) = ks
  | [], [], _ => rfl
  | k :: ks, v :: vs, h => by
    show k :: (ks.zip vs).map (fun kv => kv.1) = k :: ks
    rw [zip_fst (Nat.succ.inj h)]
theorem zip_len {ks : List Key} {vs : List V} (h : ks.length = vs.length) : (ks.zip vs).length = ks.length := by
  rw [List.length_zip, ← h, Nat.min_self]
theorem keyP_strs : ∀ {ks : List Key} {l : List Str}, strsOf (ks.map keyP) = some l → ks = l.map Sum.inr
  | [], l, h => by cases h; rfl
  | .inl i :: ks, l, h => by cases h
  | .inr x :: ks, l, h => by
    have h' : (strsOf (ks.map keyP)).map (x :: ·) = some l := h
    cases hx : strsOf (ks.map keyP) with
    | none => rw [hx] at h'; cases h'
    | some m =>
      rw [hx] at h'; cases h'
      rw [keyP_strs hx]; rfl
theorem one_pair {P : PV → V → Prop} {p : PV} {vs : List V} (h : Paired P [p] vs) : ∃ v, vs = [v] ∧ P p v := by
  cases h with
  | cons a b => cases b; exact ⟨_, rfl, a⟩
theorem two_pair {P : PV → V → Prop} {p q : PV} {vs : List V} (h : Paired P [p, q] vs) : ∃ v w, vs = [v, w] ∧ P p v ∧ P q w := by
  cases h with
  | cons a b => cases b with | cons b c => cases c; exact ⟨_, _, rfl, a, b⟩
theorem call_lenR : CallR X (.builtin "len") (fun xs H Q => ∃ a kvs, xs = [V.ref a] ∧ Rd H a (.dK kvs) ∧ Q (.int kvs.length) H) := by
  intro pins s σ H xs us Q I r h
  obtain ⟨a, kvs, rfl, hd, q⟩ := h
  rw [Vals.ref1 r]
  exact d_len I hd fun t s' I' => ⟨.int kvs.length, H, I', ⟨t, rfl⟩, q⟩
theorem vals_types : ∀ {ns : List String} {us : List Value}, Vals (ns.map V.ty) us → us = ns.map Value.type
  | [], _, .nil => rfl
  | n :: ns, _, .cons a b => by
    cases a
    rw [vals_types b]; rfl
theorem rdEmpty {a : Addr} {u : HO} (h : Rd (fun _ => none) a u) : False := by
  rcases h with h | ⟨_, h⟩ <;> cases h
/-- the sorted texts are one list -/
theorem sortS_perm : ∀ l : List Str, (sortS l).Perm l
  | [] => .refl _
  | x :: r => by
    have ins : ∀ (m : List Str), (insS x m).Perm (x :: m) := by
      intro m
      induction m with
      | nil => exact .refl _
      | cons y m ih =>
        unfold insS
        split
        · exact (List.Perm.cons y ih).trans (List.Perm.swap x y m)
        · exact .refl _
    exact (ins _).trans (List.Perm.cons x (sortS_perm r))
end
theorem le_tr {a b c : List Nat} (h1 : ¬ b < a) (h2 : ¬ c < b) : ¬ c < a := by
  have h1' : a ≤ b := List.not_lt.mp h1
  have h2' : b ≤ c := List.not_lt.mp h2
  exact List.not_lt.mpr (List.le_trans h1' h2')
theorem le_anti {a b : List Nat} (h1 : ¬ b < a) (h2 : ¬ a < b) : a = b := List.le_antisymm (List.not_lt.mp h1) (List.not_lt.mp h2)
def leS (a b : Str) : Prop := ¬ b.cps.toList < a.cps.toList
theorem leS_of {a b : Str} : (ltCps b.cps.toList a.cps.toList = false) ↔ leS a b := by
  rw [ltCps_eq]
  unfold leS
  simp
theorem leS_anti {a b : Str} (h1 : leS a b) (h2 : leS b a) : a = b := by
  have e := le_anti h1 h2
  cases a; cases b
  simp only [Str.mk.injEq]
  exact Array.toList_inj.mp e
theorem leS_tr {a b c : Str} (h1 : leS a b) (h2 : leS b c) : leS a c := le_tr h1 h2
theorem rising_pw : ∀ (p : Str) (l : List Str), risingS p l = true → (p :: l).Pairwise leS
  | p, [], _ => by simp
  | p, x :: r, h => by
    unfold risingS at h
    rw [Bool.and_eq_true] at h
    have ih := rising_pw x r h.2
    have h1 : leS p x := leS_of.mp (by simpa using h.1)
    refine List.pairwise_cons.mpr ⟨fun y hy => ?_, ih⟩
    rcases List.mem_cons.mp hy with rfl | hy
    · exact h1
    · exact leS_tr h1 ((List.pairwise_cons.mp ih).1 y hy)
theorem sortedS_pw : ∀ (l : List Str), sortedS l = true → l.Pairwise leS
  | [], _ => .nil
  | x :: r, h => rising_pw x r h
theorem ins_pw (x : Str) : ∀ (l : List Str), l.Pairwise leS → (insS x l).Pairwise leS
  | [], _ => by unfold insS; simp
  | y :: r, h => by
    have h1 := List.pairwise_cons.mp h
    unfold insS
    split
    · rename_i hlt
      have hxy : leS y x := by
        unfold strLt at hlt
        have hlt' : y.cps.toList < x.cps.toList := of_decide_eq_true hlt
        exact fun z => List.lt_irrefl _ (List.lt_trans hlt' z)
      refine List.pairwise_cons.mpr ⟨fun z hz => ?_, ins_pw x r h1.2⟩
      have hz' : z ∈ x :: r := by
        have ip : ∀ (m : List Str), z ∈ insS x m → z ∈ x :: m := by
          intro m
          induction m with
          | nil => exact fun q => q
          | cons w m ih =>
            unfold insS
            split
            · intro q
              rcases List.mem_cons.mp q with rfl | q
              · simp
              · rcases List.mem_cons.mp (ih q) with rfl | q
                · simp
                · simp [q]
            · exact fun q => q
        exact ip r hz
      rcases List.mem_cons.mp hz' with rfl | hz'
      · exact hxy
      · exact h1.1 z hz'
    · rename_i hlt
      have hxy : leS x y := by
        unfold leS
        intro z
        exact hlt (by unfold strLt; exact decide_eq_true z)
      refine List.pairwise_cons.mpr ⟨fun z hz => ?_, h⟩
      rcases List.mem_cons.mp hz with rfl | hz
      · exact hxy
      · exact leS_tr hxy (h1.1 z hz)
theorem sortS_pw : ∀ l : List Str, (sortS l).Pairwise leS
  | [] => .nil
  | x :: r => ins_pw x _ (sortS_pw r)
theorem sorted_is {ys l : List Str} (hp : ys.Perm l) (hs : sortedS ys = true) : ys = sortS l :=
  List.Perm.eq_of_pairwise (le := leS) (fun a b _ _ h1 h2 => leS_anti h1 h2) (sortedS_pw ys hs) (sortS_pw l) (hp.trans (sortS_perm l).symm)

theorem insI_perm (x : Int) : ∀ l : List Int, (insI x l).Perm (x :: l)
  | [] => .refl _
  | y :: r => by
    unfold insI
    split
    · exact ((insI_perm x r).cons y).trans (.swap x y r)
    · exact .refl _
theorem sortI_perm : ∀ l : List Int, (sortI l).Perm l
  | [] => .refl _
  | x :: r => (insI_perm x _).trans ((sortI_perm r).cons x)
theorem insI_pw (x : Int) : ∀ l : List Int, l.Pairwise (· ≤ ·) → (insI x l).Pairwise (· ≤ ·)
  | [], _ => by unfold insI; simp
  | y :: r, h => by
    unfold insI
    rw [List.pairwise_cons] at h
    split
    · rename_i hlt
      rw [List.pairwise_cons]
      refine ⟨fun z hz => ?_, insI_pw x r h.2⟩
      rcases List.mem_cons.mp ((insI_perm x r).mem_iff.mp hz) with e | hz
      · rw [e]; omega
      · exact h.1 z hz
    · rename_i hlt
      rw [List.pairwise_cons]
      refine ⟨fun z hz => ?_, List.pairwise_cons.mpr h⟩
      rcases List.mem_cons.mp hz with e | hz
      · rw [e]; omega
      · have := h.1 z hz; omega
theorem sortI_pw : ∀ l : List Int, (sortI l).Pairwise (· ≤ ·)
  | [] => .nil
  | x :: r => insI_pw x _ (sortI_pw r)
theorem sortedI_is {ys l : List Int} (hp : ys.Perm l) (hs : ys.Pairwise (· ≤ ·)) : ys = sortI l :=
  List.Perm.eq_of_pairwise (le := (· ≤ ·)) (fun a b _ _ h1 h2 => Int.le_antisymm h1 h2) hs (sortI_pw l) (hp.trans (sortI_perm l).symm)
section
variable {W : Wd} {H : Hp} {O : Addr → Prop}
theorem ints_rep' : ∀ ns : List Int, RepL W H O (ns.map PV.int) (ns.map V.int)
  | [] => .nil
  | n :: ns => .cons .int (ints_rep' ns)
theorem intsOf_rep : ∀ {ts : List PV} {vs : List V} {ns : List Int}, RepL W H O ts vs → intsOf ts = some ns → vs = ns.map V.int
  | [], _, _, .nil, h => by cases h; rfl
  | .int n :: ts, _, ns, .cons a b, h => by
    unfold intsOf at h
    cases hx : intsOf ts with
    | none => rw [hx] at h; cases h
    | some ms =>
      rw [hx] at h; cases h
      cases a
      rw [intsOf_rep b hx]; rfl
end
theorem keyP_ints : ∀ {ks : List Key} {l : List Int}, intsOf (ks.map keyP) = some l → ks = l.map Sum.inl
  | [], l, h => by cases h; rfl
  | .inr i :: ks, l, h => by cases h
  | .inl x :: ks, l, h => by
    have h' : (intsOf (ks.map keyP)).map (x :: ·) = some l := h
    cases hx : intsOf (ks.map keyP) with
    | none => rw [hx] at h'; cases h'
    | some m =>
      rw [hx] at h'; cases h'
      rw [keyP_ints hx]; rfl
section
variable {W : Wd} {C : Cl} {Wx : WX} {X : Cx} {σ : L2.St} {H : Hp} {O : Addr → Prop} {ρ : Env} {c : Nat}
def frB : Bi → Bool
  | .list | .dict | .sorted => true
  | _ => false
theorem call_or {f : Value} {r1 r2 : List V → Hp → VK → Prop} (h1 : CallR X f r1) (h2 : CallR X f r2) : CallR X f (fun xs H Q => r1 xs H Q ∨ r2 xs H Q) := CallR.or h1 h2
theorem call_never {f : Value} : CallR X f (fun _ _ _ => False) := by
  intro pins s σ H xs us Q I r h
  exact h.elim
theorem paired_repr {W : Wd} {H : Hp} {O : Addr → Prop} {xs : List PV} {vs : List V} (l : RepL W H O xs vs) : Paired (RepR W H O) xs vs := by
  induction xs generalizing vs with
  | nil => cases l; exact .nil
  | cons x xs ih =>
    cases l with
    | cons a b => exact .cons (.of a) (ih b)
/-- each built-in by its values -/
theorem bi_rule (hK : X.K = W.K) (hc : X.calm = true) (b : Bi) : ∃ rr : List V → Hp → VK → Prop, CallR X (valB b) rr ∧
    ∀ H O c ps vs z Q, (∀ a, O a → H a ≠ none) → Ok W H c → Paired (RepR W H O) ps vs → builtin b ps = some z → Res W O c (frB b) H z Q → rr vs H Q := by
  cases b with
  | len =>
    refine ⟨_, call_or call_len call_lenR, fun H O c ps vs z Q trk k rp hz q => ?_⟩
    unfold builtin at hz
    split at hz <;> first | contradiction | skip
    · cases hz
      obtain ⟨v, rfl, r⟩ := one_pair rp
      obtain ⟨a, us, rfl, ha, l⟩ := r.lstI
      refine .inl ⟨_, us.length, rfl, .inl ⟨us, .inl (.inl ha), rfl⟩, ?_⟩
      rw [← l.length]; exact res_int k q rfl
    · cases hz
      obtain ⟨v, rfl, r⟩ := one_pair rp
      obtain ⟨a, us, rfl, ha, l⟩ := r.tupI
      refine .inl ⟨_, us.length, rfl, .inr ⟨us, by rw [hK]; exact ha, rfl⟩, ?_⟩
      rw [← l.length]; exact res_int k q rfl
    · cases hz
      obtain ⟨v, rfl, r⟩ := one_pair rp
      obtain ⟨a, us, rfl, ha, hl, l⟩ := r.dicI
      refine .inr ⟨a, _, rfl, ha, ?_⟩
      rw [zip_len hl]; exact res_int k q rfl
    · split at hz <;> cases hz
      obtain ⟨v, rfl, r⟩ := one_pair rp
      cases r.strI
      exact .inl ⟨_, _, rfl, ⟨by assumption, rfl⟩, res_int k q rfl⟩
  | abs =>
    refine ⟨_, call_abs, fun H O c ps vs z Q trk k rp hz q => ?_⟩
    unfold builtin at hz
    split at hz <;> first | contradiction | skip
    cases hz
    obtain ⟨v, rfl, r⟩ := one_pair rp
    cases r.intI
    refine ⟨_, rfl, ?_⟩
    rename_i i _
    have e : (if i < 0 then -i else i) = (i.natAbs : Int) := by split <;> omega
    rw [e]; exact res_int k q rfl
  | isinst =>
    refine ⟨_, call_or call_isi (call_or call_isiT call_isiK), fun H O c ps vs z Q trk k rp hz q => ?_⟩
    unfold builtin at hz
    split at hz <;> first | contradiction | skip
    · split at hz <;> cases hz
      rename_i hk
      rw [Bool.and_eq_true] at hk
      obtain ⟨v, w, rfl, r1, r2⟩ := two_pair rp
      cases r2.tyI
      refine .inl ⟨v, _, _, _, _, rfl, .ty _, by rw [hK]; exact tyx_of hk.1 r1, kit_ty (kit_is _ _ hk.1 (by simpa using hk.2)), res_bl k q rfl⟩
    · split at hz
      · rename_i ns hns
        split at hz <;> cases hz
        rename_i hk
        rw [Bool.and_eq_true] at hk
        have hn : ∀ n ∈ ns, n ∈ someTy := fun n hn => by
          have h2 := hk.2
          rw [List.all_eq_true] at h2
          simpa using h2 n hn
        obtain ⟨v, w, rfl, r1, r2⟩ := two_pair rp
        obtain ⟨a, us, rfl, ha, l⟩ := r2.tupJ
        have e := tyNames_rep l hns
        subst e
        rcases ha with ha | ha
        · exact .inr (.inl ⟨v, a, _, _, _, _, rfl, ha, clsV_all ns, by rw [hK]; exact tyx_of hk.1 r1, kits_is _ hk.1 ns hn, res_bl k q rfl⟩)
        · rcases ha (fun _ => none) with ha | ⟨o, its, n, ha, hcl, hd, hsz, hv⟩
          · exact (rdEmpty ha).elim
          · obtain ⟨oc, od, dt, sl⟩ := o
            simp only at hcl hd
            subst hcl hd
            have e2 := vals_types hv
            refine .inr (.inr ⟨v, a, od, ns.map Value.type, n, sl, _, _, rfl, ?_, by rw [hK]; exact tyx_of hk.1 r1, kits_is _ hk.1 ns hn, res_bl k q rfl⟩)
            rw [hK, ha, ← e2]
      · cases hz
  | list =>
    refine ⟨_, call_or call_list_of (call_listD hc), fun H O c ps vs z Q trk k rp hz q => ?_⟩
    unfold builtin at hz
    split at hz <;> first | contradiction | skip
    · cases hz
      obtain ⟨v, rfl, r⟩ := one_pair rp
      obtain ⟨a, us, rfl, ha, l⟩ := r.lstI
      exact .inl ⟨a, us, rfl, .inl (.inl (.inl ha)), fun p hp => res_lst trk k l q hp⟩
    · cases hz
      obtain ⟨v, rfl, r⟩ := one_pair rp
      obtain ⟨a, us, rfl, ha, l⟩ := r.tupI
      exact .inl ⟨a, us, rfl, .inr (by rw [hK]; exact ha), fun p hp => res_lst trk k l q hp⟩
    · cases hz
      obtain ⟨v, rfl, r⟩ := one_pair rp
      obtain ⟨a, us, rfl, ha, hl, l⟩ := r.dicI
      refine .inr ⟨a, _, rfl, ha, fun p hp => ?_⟩
      rename_i t ks xs _
      have e : (ks.zip us).map (fun kv => kV kv.1) = ks.map kV := by
        have e2 : (ks.zip us).map (fun kv => kV kv.1) = ((ks.zip us).map fun kv => kv.1).map kV := by rw [List.map_map]; rfl
        rw [e2, zip_fst hl]
      rw [e]
      exact res_lst trk k (keys_rep ks) q hp
  | dict =>
    refine ⟨_, call_dictD, fun H O c ps vs z Q trk k rp hz q => ?_⟩
    unfold builtin at hz
    split at hz <;> first | contradiction | skip
    cases hz
    obtain ⟨v, rfl, r⟩ := one_pair rp
    obtain ⟨a, us, rfl, ha, hl, l⟩ := r.dicI
    exact ⟨a, _, rfl, ha, fun p hp => res_dic trk k hl l q hp⟩
  | int =>
    refine ⟨_, call_int1, fun H O c ps vs z Q trk k rp hz q => ?_⟩
    unfold builtin at hz
    split at hz <;> first | contradiction | skip
    · cases hz
      obtain ⟨v, rfl, r⟩ := one_pair rp
      cases r.intI
      exact .inl ⟨_, rfl, res_int k q rfl⟩
    · cases hz
      obtain ⟨v, rfl, r⟩ := one_pair rp
      cases r.blI
      exact .inr ⟨_, rfl, res_int k q rfl⟩
  | all =>
    refine ⟨_, cr_all hc, fun H O c ps vs z Q trk k rp hz q => ?_⟩
    unfold builtin at hz
    split at hz <;> first | contradiction | skip
    rename_i t xs _
    cases hb : blsOf xs with
    | none => rw [hb] at hz; cases hz
    | some bs =>
      rw [hb] at hz; cases hz
      obtain ⟨v, rfl, r⟩ := one_pair rp
      obtain ⟨a, us, rfl, ha, l⟩ := r.lstI
      exact ⟨a, bs, rfl, .inl (.inl (by rw [← blsOf_rep l hb]; exact ha)), res_bl k q rfl⟩
  | any =>
    refine ⟨_, cr_any hc, fun H O c ps vs z Q trk k rp hz q => ?_⟩
    unfold builtin at hz
    split at hz <;> first | contradiction | skip
    rename_i t xs _
    cases hb : blsOf xs with
    | none => rw [hb] at hz; cases hz
    | some bs =>
      rw [hb] at hz; cases hz
      obtain ⟨v, rfl, r⟩ := one_pair rp
      obtain ⟨a, us, rfl, ha, l⟩ := r.lstI
      exact ⟨a, bs, rfl, .inl (.inl (by rw [← blsOf_rep l hb]; exact ha)), res_bl k q rfl⟩
  | sorted =>
    refine ⟨_, call_or (call_or (call_sortedD hc) cr_sortedS) (call_or (call_sortedDI hc) cr_sortedI), fun H O c ps vs z Q trk k rp hz q => ?_⟩
    unfold builtin at hz
    split at hz <;> first | contradiction | skip
    · split at hz
      · rename_i l hs
        split at hz <;> cases hz
        rename_i h64
        obtain ⟨v, rfl, r⟩ := one_pair rp
        obtain ⟨a, us, rfl, ha, hl, rl⟩ := r.dicI
        refine .inl (.inl ⟨a, _, l, rfl, ha, by rw [zip_fst hl]; exact keyP_strs hs, h64, fun ys p hp hso hn => ?_⟩)
        rw [sorted_is hp hso]
        exact res_lst trk k (strs_rep _) q hn
      · split at hz
        · rename_i l hs
          split at hz <;> cases hz
          rename_i h64
          obtain ⟨v, rfl, r⟩ := one_pair rp
          obtain ⟨a, us, rfl, ha, hl, rl⟩ := r.dicI
          refine .inr (.inl ⟨a, _, l, rfl, ha, by rw [zip_fst hl]; exact keyP_ints hs, h64, fun ys p hp hso hn => ?_⟩)
          rw [sortedI_is hp hso]
          exact res_lst trk k (ints_rep' _) q hn
        · cases hz
    · split at hz
      · rename_i l hs
        split at hz <;> cases hz
        rename_i h64
        obtain ⟨v, rfl, r⟩ := one_pair rp
        obtain ⟨a, us, rfl, ha, rl⟩ := r.lstI
        refine .inl (.inr ⟨a, l, rfl, .inl (.inl (by rw [← strsOf_rep rl hs]; exact ha)), h64, fun ys p hp hso hn => ?_⟩)
        rw [sorted_is hp hso]
        exact res_lst trk k (strs_rep _) q hn
      · split at hz
        · rename_i l hs
          cases hz
          obtain ⟨v, rfl, r⟩ := one_pair rp
          obtain ⟨a, us, rfl, ha, rl⟩ := r.lstI
          refine .inr (.inr ⟨a, l, rfl, .inl (.inl (by rw [← intsOf_rep rl hs]; exact ha)), fun ys p hp hso hn => ?_⟩)
          rw [sortedI_is hp hso]
          exact res_lst trk k (ints_rep' _) q hn
        · cases hz
  | tuple => exact ⟨_, call_never, fun H O c ps vs z Q trk k rp hz q => by unfold builtin at hz; split at hz <;> contradiction⟩
  | sum => exact ⟨_, call_never, fun H O c ps vs z Q trk k rp hz q => by unfold builtin at hz; split at hz <;> contradiction⟩
  | sum2 => exact ⟨_, call_never, fun H O c ps vs z Q trk k rp hz q => by unfold builtin at hz; split at hz <;> contradiction⟩
  | min2 => exact ⟨_, call_never, fun H O c ps vs z Q trk k rp hz q => by unfold builtin at hz; split at hz <;> contradiction⟩
  | max2 => exact ⟨_, call_never, fun H O c ps vs z Q trk k rp hz q => by unfold builtin at hz; split at hz <;> contradiction⟩
  | repr => exact ⟨_, call_never, fun H O c ps vs z Q trk k rp hz q => by unfold builtin at hz; split at hz <;> contradiction⟩
  | str => exact ⟨_, call_never, fun H O c ps vs z Q trk k rp hz q => by unfold builtin at hz; split at hz <;> contradiction⟩
end
end Ze

/-! The single constructs: calls of built-ins, of methods, of the text's own defs. -/
namespace Ze
open PySem PySem.Spec PyProof.Rows L2

theorem any_noStar {es : List Expr} {env : PySem.Env} {pos : Pos} (h : es.all noStar = true) : (backTo pos (starEach es env)).any (fun x => x.1) = false := by
  induction es with
  | nil => rfl
  | cons e es ih =>
    rw [List.all_cons, Bool.and_eq_true] at h
    rw [starEach_no h.1]
    show ((false, _) :: backTo pos (starEach es env)).any _ = false
    simp only [List.any_cons, Bool.false_or]
    exact ih h.2
/-- not C().m: whose base is looked at first -/
def noBare : Expr → Bool
  | .Call (.Name _ _) [] [] _ => false
  | _ => true
theorem attr_base {o : Expr} {a : Str} {env : PySem.Env} {w : Sem Value} (h : noBare o = true) : attributeBase o a env w = w := by
  unfold attributeBase
  split
  · simp [noBare] at h
  · rfl

/-- the stream, c draws later -/
def strI (p L : Addr) (H : Hp) (c : Nat) : Prop := ∃ (ns : List Int) (pos mix : Int), H p = some (.lst [.ref L, .int pos, .int (c : Nat), .int mix]) ∧ H L = some (.lst (ns.map V.int)) ∧ 0 ≤ pos ∧ 0 ≤ mix ∧ mix < 2147483629
/-- the world is one whose stream lies so -/
def WOk (W : Wd) : Prop := ∃ L, L ≠ W.sA ∧ (∀ a, W.S a ↔ a = W.sA ∨ a = L) ∧ ∀ H c, W.str H c ↔ strI W.sA L H c
/-- what a def of the text promises, by the evaluator -/
def SpF (K : PySem.W.Frag) (mg : Str → Option Value) (C : Cl) (f : Str) : Sp := fun vs H Q E => ∃ (W : Wd) (O : Addr → Prop) (ps : List PV) (c : Nat), WOk W ∧ W.K = K ∧ W.mg = mg ∧ (∀ a, W.S a → O a) ∧ (∀ a, O a → H a ≠ none) ∧ RepL W H O ps vs ∧ Ok W H c ∧
  C f ps c (fun pv c' => ∀ v H', Sm W.S H H' → Ok W H' c' → Rep W H' O pv v → Q v H') (fun er c' => ∀ cls d H', Sm W.S H H' → Ok W H' c' → ErR W H' O er cls d → E cls d H')
/-- each def of the table keeps its promise -/
structure Tab (P : Program) (w : World) (K : PySem.W.Frag) (mg : Str → Option Value) (base : Heap) (k : Nat) (C : Cl) (dom : List (Str × Nat)) : Prop where
  ok : ∀ f n, (f, n) ∈ dom → ∃ a fd ps, mg f = some (.ref a) ∧ PySem.W.keepIn K (.ref a) = true ∧ Binds K fd ps [] ∧ ps.length = n ∧ FnOk P w K mg base (CX P w) k a fd ps (SpF K mg C f)

section
variable {W : Wd} {C : Cl} {Wx : WX} {X : Cx} {σ : L2.St} {H : Hp} {O : Addr → Prop} {ρ : Env} {c : Nat}
variable (hC : CMono C)
include hC
theorem le_bi {b : Bi} {es : Es} {x : Str} {p pos : Pos} {e : Expr} {eas : List Expr} (hK : X.K = W.K) (hc : X.calm = true) (hx : x = Str.ofString (nameB b)) (hg : Gl X x) (hm : X.mg x = none) (hv : bootBuiltins x = some (valB b))
    (hs : (e :: eas).all noStar = true) (ha : PA X (e :: eas) (LAr W C Wx es)) (hf : frE (.bi b es) = frB b) (hn : x ≠ "__name__") (hd : (x == ("__debug__" : Str)) = false) : PE X (.Call (.Name x p) (e :: eas) [] pos) (LE W C Wx (.bi b es)) := by
  obtain ⟨rr, hrr, go⟩ := bi_rule (X := X) (W := W) hK hc b
  rw [List.all_cons, Bool.and_eq_true] at hs
  have base : PE X (.Call (.Name x p) (e :: eas) [] pos) (tCB rr (LAr W C Wx es)) := by
    by_cases ht : isTyB b = true
    · have hv' : valB b = .type (nameB b) := by unfold valB; rw [if_pos ht]
      rw [hv'] at hrr hv
      exact pe_callTy hrr hg hm hv ha hn hd (starEach_no hs.1) (any_noStar hs.2)
    · have hv' : valB b = .builtin (nameB b) := by unfold valB; rw [if_neg ht]
      rw [hv'] at hrr hv
      exact pe_callB hrr hg hm hv ha hn hd (starEach_no hs.1) (any_noStar hs.2)
  refine pe_weak base fun σ H Q ⟨ρ, O, c, r, k, q⟩ => ?_
  unfold ev at q
  refine lar_of hC r k q (fun ps c1 vs H1 q1 s1 o1 r1 => ?_) (fun _ _ z => z)
  cases hz : builtin b ps with
  | none => rw [hz] at q1; exact q1.elim
  | some z =>
    rw [hz] at q1
    refine go H1 O c1 ps vs z Q (r.sm s1 o1).trk o1 r1 hz fun y H' s' o' r' fr => ?_
    exact q1 y H' (s1.trans s') o' (.of r') (fun _ => r') fun w => fresh_back s1 o1 (fr (by rw [← hf]; exact w))
/-- f(a, b, ..) -/
theorem le_call (wo : WOk W) {f : Str} {es : Es} {p pos : Pos} {e : Expr} {eas : List Expr} {k : Nat} {n : Nat} {dom : List (Str × Nat)} (hK : X.K = W.K) (hM : X.mg = W.mg) (T : Tab X.prog X.w X.K X.mg X.base k C dom) (hin : (f, n) ∈ dom) (hr : Room k X.A) (tk : Takes X Wx)
    (hg : Gl X f) (hs : (e :: eas).all noStar = true) (ha : PA X (e :: eas) (LA W C Wx es)) (hd : (f == ("__debug__" : Str)) = false) : PE X (.Call (.Name f p) (e :: eas) [] pos) (LE W C Wx (.call f es)) := by
  obtain ⟨a, fd, ps, hmg, hkp, hb, hlen, ok⟩ := T.ok f n hin
  rw [List.all_cons, Bool.and_eq_true] at hs
  refine pe_weak (pe_callS (E := fun σ => WE Wx σ) ok hr hg hmg hkp hb (fun σ => passAt tk σ) ha hd (starEach_no hs.1) (any_noStar hs.2)) fun σ H Q ⟨ρ, O, c, r, k, q⟩ => ?_
  unfold ev at q
  refine la_of hC r k q (fun ps c1 vs H1 q1 s1 o1 r1 => ?_) (fun _ _ z => z)
  refine ⟨W, O, ps, c1, wo, hK.symm, hM.symm, r.sub, (r.sm s1 o1).trk, r1, o1, hC _ _ _ _ _ _ _ (fun pv c' q2 v H' s' o' rp => ?_) (fun er c' q2 cls d H' s' o' re => ?_) q1⟩
  · exact q2 v H' (s1.trans s') o' (.of rp) (fun _ => rp) fun z => nomatch z
  · exact q2 cls d H' (s1.trans s') o' re
end
end Ze

/-! What a loop walks. -/
namespace Ze
open PySem PySem.Spec PyProof.Rows L2

/-- the walk's items, whatever the body does beside -/
def Wk (W : Wd) (J : L2.It) (items : List PV) (H' : Hp) (O : Addr → Prop) : Prop := ∀ O2 H2, Fx O O2 H' H2 → (∀ a, O2 a → H2 a ≠ none) → ∀ i : Nat,
  (∀ x, items[i]? = some x → J.go i H2 ∧ ∀ v H3, J.yld i H2 v H3 → (H3 = H2 ∨ ∃ T xs, H2 T = none ∧ H3 = upd H2 T (.tup xs)) ∧ Rep W H3 O2 x v) ∧ (items.length ≤ i → J.stop i H2)
def LI (W : Wd) (C : Cl) (Wx : WX) (w : It) : TI := fun σ H R => ∃ ρ O c, Rl W ρ σ H O ∧ Ok W H c ∧ evI C w ρ c (fun items c' => ∀ J H', Sm W.S H H' → Ok W H' c' → Wk W J items H' O → R J H') (XE W O σ H Wx)

section
variable {W : Wd} {C : Cl} {Wx : WX} {X : Cx} {σ : L2.St} {H : Hp} {O : Addr → Prop} {ρ : Env} {c : Nat} {tg : Expr}
theorem pi_weak {e : Expr} {t t' : TI} (h : PI X tg e t) (w : ∀ σ H Q, t' σ H Q → t σ H Q) : PI X tg e t' := ⟨fun pins s σ H Q I q => h.run pins s σ H Q I (w σ H Q q)⟩

theorem it_list {pins : List (Addr × Obj)} {s : Shared} {a : Addr} {xs : List V} {R : L2.It → Hp → Prop} {E : Value → Shared → Prop} (I : Inv X pins σ H s) (h : SqL X.K H a xs) (q : R (Itl X.K a) H) :
    wpAny (model X.prog X.w) X.A (pyIter (.ref a)) (PIE X pins σ tg R) E s := by
  obtain ⟨its, rv, p, hz⟩ := I.list h
  refine wpAny_pyIter_list p.isList ⟨s.heap.objs.size, [s.heap.objs.size], _, _, H, rfl, I.kept (t' := s.toks) (fun b o e => Heap.get?_push_of_some _ e), turn_list a _, ⟨_, Heap.get?_push_size _ rfl, rfl, rfl⟩, ?_, q⟩
  intro b hb
  obtain rfl : b = s.heap.objs.size := by simpa using hb
  exact I.fpOk (Nat.le_refl _) (I.hok.fresh (Nat.le_refl _))
theorem it_tup {pins : List (Addr × Obj)} {s : Shared} {a : Addr} {xs : List V} {R : L2.It → Hp → Prop} {E : Value → Shared → Prop} (I : Inv X pins σ H s) (h : SqT X.K H a xs) (q : R (Itt X.K a) H) :
    wpAny (model X.prog X.w) X.A (pyIter (.ref a)) (PIE X pins σ tg R) E s := by
  obtain ⟨its, rv, p, hz⟩ := I.tuple h
  refine wpAny_pyIter_tuple (show s.heap.IsTuple a its.toArray from p) ⟨s.heap.objs.size, [s.heap.objs.size], _, _, H, rfl, I.kept (t' := s.toks) (fun b o e => Heap.get?_push_of_some _ e), turn_tuple a _, ⟨_, Heap.get?_push_size _ rfl, rfl, rfl⟩, ?_, q⟩
  intro b hb
  obtain rfl : b = s.heap.objs.size := by simpa using hb
  exact I.fpOk (Nat.le_refl _) (I.hok.fresh (Nat.le_refl _))
/-- a list, a tuple, a text -/
theorem pi_seq {e : Expr} {te : TE} (he : PE X e te) : PI X tg e (fun σ H R => te σ H fun x H1 =>
    (∃ a, x = .ref a ∧ (∃ xs, SqL X.K H1 a xs) ∧ R (Itl X.K a) H1) ∨ (∃ a, x = .ref a ∧ (∃ xs, SqT X.K H1 a xs) ∧ R (Itt X.K a) H1) ∨ ∃ z, x = .str z ∧ R (Its z) H1) := by
  refine ⟨fun pins s σ H R I h => ?_⟩
  refine thn (he.run pins s σ H _ I h) fun v s1 ⟨x, H1, I1, r1, q1⟩ => ?_
  rcases q1 with ⟨a, ex, ⟨xs, hq⟩, q⟩ | ⟨a, ex, ⟨xs, hq⟩, q⟩ | ⟨z, ex, q⟩
  · subst ex
    cases r1
    exact it_list I1 hq q
  · subst ex
    cases r1
    exact it_tup I1 hq q
  · subst ex
    obtain ⟨t, rfl⟩ := r1
    cases ha : z.cps.all (· < 128)
    · exact wpAny_pyIter_wide ha (pi_one (tk := s1.toks) I1 _ (turn_str _ z t "str_iterator" (.inr rfl)) ⟨_, Heap.get?_push_size _ rfl, rfl, rfl⟩ q)
    · exact wpAny_pyIter_ascii ha (pi_one (tk := s1.toks) I1 _ (turn_str _ z t "str_ascii_iterator" (.inl rfl)) ⟨_, Heap.get?_push_size _ rfl, rfl, rfl⟩ q)

theorem RepL.get2 {xs : List PV} {vs : List V} (l : RepL W H O xs vs) {i : Nat} (h : xs.length ≤ i) : vs.length ≤ i := by rw [← l.length]; exact h
/-! ### the walks -/
theorem wk_list {a : Addr} {xs : List PV} {vs : List V} (hK : X.K = W.K) (h : H a = some (.lst vs)) (n : ¬ O a) (l : RepL W H O xs vs) : Wk W (Itl X.K a) xs H O := by
  intro O2 H2 fx trk i
  have f := fx.fm
  have h2 := (f.lst a vs n h).1
  have l2 := l.fm f
  refine ⟨fun x hx => ?_, fun hi => ⟨vs, .inl (.inl h2), l.get2 hi⟩⟩
  obtain ⟨y, hy, ry⟩ := l2.get hx
  refine ⟨⟨vs, y, .inl (.inl h2), hy⟩, fun v H3 ⟨e, g⟩ => ?_⟩
  subst e
  have e2 := g vs (.inl (.inl h2))
  rw [hy] at e2; cases e2
  exact ⟨.inl rfl, ry⟩
theorem wk_tup {a : Addr} {xs : List PV} {vs : List V} (hK : X.K = W.K) (h : (H a = some (.tup vs) ∧ ¬ O a) ∨ ∀ H', SqT W.K H' a vs) (l : RepL W H O xs vs) : Wk W (Itt X.K a) xs H O := by
  intro O2 H2 fx trk i
  have f := fx.fm
  have h2 : SqT X.K H2 a vs := by
    rcases h with ⟨h, n⟩ | h
    · exact .inl (.inl (f.tup a vs n h).1)
    · rw [hK]; exact h H2
  have l2 := l.fm f
  refine ⟨fun x hx => ?_, fun hi => ⟨vs, h2, l.get2 hi⟩⟩
  obtain ⟨y, hy, ry⟩ := l2.get hx
  refine ⟨⟨vs, y, h2, hy⟩, fun v H3 ⟨e, g⟩ => ?_⟩
  subst e
  have e2 := g vs h2
  rw [hy] at e2; cases e2
  exact ⟨.inl rfl, ry⟩
theorem wk_str {z : Str} : Wk W (Its z) (strSigns z) H O := by
  intro O2 H2 fx trk i
  have f := fx.fm
  refine ⟨fun x hx => ?_, fun hi => ?_⟩
  · unfold strSigns at hx
    rw [List.getElem?_map] at hx
    cases hc : z.cps.toList[i]? with
    | none => rw [hc] at hx; cases hx
    | some k =>
      rw [hc] at hx; cases hx
      have hk : z.cps[i]? = some k := by rw [← Array.getElem?_toList]; exact hc
      have hi : i < z.cps.size := by
        rw [Array.getElem?_eq_some_iff] at hk
        exact hk.1
      refine ⟨hi, fun v H3 ⟨e, c, hc2, ev⟩ => ?_⟩
      subst e ev
      rw [hk] at hc2; cases hc2
      exact ⟨.inl rfl, .str⟩
  · have : z.cps.size ≤ i := by simpa [strSigns] using hi
    exact this
theorem rangeP_get : ∀ (n : Nat) (lo : Int) (i : Nat), (rangeP lo n)[i]? = if i < n then some (.int (lo + i)) else none
  | 0, lo, i => by simp [rangeP]
  | n + 1, lo, 0 => by simp [rangeP]
  | n + 1, lo, i + 1 => by
    show (rangeP (lo + 1) n)[i]? = _
    rw [rangeP_get n (lo + 1) i]
    by_cases h : i < n
    · rw [if_pos h, if_pos (by omega)]
      have : lo + 1 + (i : Int) = lo + ((i + 1 : Nat) : Int) := by omega
      rw [this]
    · rw [if_neg h, if_neg (by omega)]
theorem rangeP_len : ∀ (n : Nat) (lo : Int), (rangeP lo n).length = n
  | 0, _ => rfl
  | n + 1, lo => congrArg (· + 1) (rangeP_len n (lo + 1))
theorem wk_range {lo : Int} {n : Nat} : Wk W (Itr lo n) (rangeP lo n) H O := by
  intro O2 H2 fx trk i
  have f := fx.fm
  refine ⟨fun x hx => ?_, fun hi => by rw [rangeP_len] at hi; exact hi⟩
  rw [rangeP_get] at hx
  split at hx
  · rename_i h
    cases hx
    refine ⟨h, fun v H3 ⟨e, ev⟩ => ?_⟩
    subst e ev
    exact ⟨.inl rfl, .int⟩
  · cases hx
theorem zipP_get : ∀ (l m : List PV) (i : Nat) (z : PV), (zipP l m)[i]? = some z → ∃ x y, l[i]? = some x ∧ m[i]? = some y ∧ z = .tup [x, y]
  | [], _, i, z, h => by simp [zipP] at h
  | _ :: _, [], i, z, h => by simp [zipP] at h
  | x :: l, y :: m, 0, z, h => by
    simp [zipP] at h
    exact ⟨x, y, rfl, rfl, h.symm⟩
  | x :: l, y :: m, i + 1, z, h => zipP_get l m i z h
theorem zipP_len : ∀ (l m : List PV), (zipP l m).length = min l.length m.length
  | [], _ => by simp [zipP]
  | _ :: _, [] => by simp [zipP]
  | x :: l, y :: m => by
    show (zipP l m).length + 1 = _
    rw [zipP_len l m]
    simp only [List.length_cons]
    omega
theorem pair_rep {H2 : Hp} {O2 : Addr → Prop} {T : Addr} {x y : PV} {v w : V} (trk : ∀ a, O2 a → H2 a ≠ none) (hT : H2 T = none) (r1 : Rep W H2 O2 x v) (r2 : Rep W H2 O2 y w) : Rep W (upd H2 T (.tup [v, w])) O2 (.tup [x, y]) (.ref T) :=
  new_tup trk hT (.cons r1 (.one r2))
theorem wk_zip {a b : Addr} {xs ys : List PV} {vs ws : List V} (hK : X.K = W.K) (h : H a = some (.lst vs)) (n : ¬ O a) (l : RepL W H O xs vs) (h' : H b = some (.lst ws)) (n' : ¬ O b) (l' : RepL W H O ys ws) : Wk W (Itz X.K a b) (zipP xs ys) H O := by
  intro O2 H2 fx trk i
  have f := fx.fm
  have e1 := (f.lst a vs n h).1
  have e2 := (f.lst b ws n' h').1
  have l2 := l.fm f
  have l2' := l'.fm f
  refine ⟨fun z hz => ?_, fun hi => ⟨vs, ws, .inl (.inl e1), .inl (.inl e2), ?_⟩⟩
  · obtain ⟨x, y, hx, hy, rfl⟩ := zipP_get _ _ _ _ hz
    obtain ⟨v, hv, rv⟩ := l2.get hx
    obtain ⟨w, hw, rw_⟩ := l2'.get hy
    refine ⟨⟨vs, ws, v, w, .inl (.inl e1), .inl (.inl e2), hv, hw⟩, fun u H3 ⟨T, p, q, e, hT, eH, g1, g2⟩ => ?_⟩
    subst e eH
    have g1' := g1 vs (.inl (.inl e1))
    have g2' := g2 ws (.inl (.inl e2))
    rw [hv] at g1'; rw [hw] at g2'
    cases g1'; cases g2'
    exact ⟨.inr ⟨T, _, hT, rfl⟩, pair_rep trk hT rv rw_⟩
  · rw [zipP_len, l.length, l'.length] at hi
    omega
theorem wk_zipT {a b : Addr} {xs ys : List PV} {vs ws : List V} (hK : X.K = W.K) (h : (H a = some (.tup vs) ∧ ¬ O a) ∨ ∀ H', SqT W.K H' a vs) (l : RepL W H O xs vs) (h' : (H b = some (.tup ws) ∧ ¬ O b) ∨ ∀ H', SqT W.K H' b ws) (l' : RepL W H O ys ws) : Wk W (RZ.ItzT X.K a b) (zipP xs ys) H O := by
  intro O2 H2 fx trk i
  have f := fx.fm
  have up : ∀ {c : Addr} {us : List V}, ((H c = some (.tup us) ∧ ¬ O c) ∨ ∀ H', SqT W.K H' c us) → SqT X.K H2 c us := by
    intro c us h
    rcases h with ⟨h, n⟩ | h
    · exact .inl (.inl (f.tup c us n h).1)
    · rw [hK]; exact h H2
  have e1 := up h
  have e2 := up h'
  have l2 := l.fm f
  have l2' := l'.fm f
  refine ⟨fun z hz => ?_, fun hi => ⟨vs, ws, e1, e2, ?_⟩⟩
  · obtain ⟨x, y, hx, hy, rfl⟩ := zipP_get _ _ _ _ hz
    obtain ⟨v, hv, rv⟩ := l2.get hx
    obtain ⟨w, hw, rw_⟩ := l2'.get hy
    refine ⟨⟨vs, ws, v, w, e1, e2, hv, hw⟩, fun u H3 ⟨T, p, q, e, hT, eH, g1, g2⟩ => ?_⟩
    subst e eH
    have g1' := g1 vs e1
    have g2' := g2 ws e2
    rw [hv] at g1'; rw [hw] at g2'
    cases g1'; cases g2'
    exact ⟨.inr ⟨T, _, hT, rfl⟩, pair_rep trk hT rv rw_⟩
  · rw [zipP_len, l.length, l'.length] at hi
    omega
theorem enumP_get : ∀ (l : List PV) (n i : Nat) (z : PV), (enumP n l)[i]? = some z → ∃ x, l[i]? = some x ∧ z = .tup [.int ((n + i : Nat)), x]
  | [], n, i, z, h => by simp [enumP] at h
  | x :: l, n, 0, z, h => by
    simp [enumP] at h
    exact ⟨x, rfl, h.symm⟩
  | x :: l, n, i + 1, z, h => by
    obtain ⟨y, h1, h2⟩ := enumP_get l (n + 1) i z h
    refine ⟨y, h1, ?_⟩
    rw [h2]
    have : n + 1 + i = n + (i + 1) := by omega
    rw [this]
theorem enumP_len : ∀ (l : List PV) (n : Nat), (enumP n l).length = l.length
  | [], _ => rfl
  | _ :: l, n => congrArg (· + 1) (enumP_len l (n + 1))
theorem wk_enum {a : Addr} {xs : List PV} {vs : List V} (hK : X.K = W.K) (h : H a = some (.lst vs)) (n : ¬ O a) (l : RepL W H O xs vs) : Wk W (Ite X.K a) (enumP 0 xs) H O := by
  intro O2 H2 fx trk i
  have f := fx.fm
  have h2 := (f.lst a vs n h).1
  have l2 := l.fm f
  refine ⟨fun z hz => ?_, fun hi => ⟨vs, .inl (.inl h2), by rw [enumP_len] at hi; exact l.get2 hi⟩⟩
  obtain ⟨x, hx, rfl⟩ := enumP_get _ _ _ _ hz
  obtain ⟨y, hy, ry⟩ := l2.get hx
  refine ⟨⟨vs, y, .inl (.inl h2), hy⟩, fun v H3 ⟨T, w, e, hT, eH, g⟩ => ?_⟩
  subst e eH
  have e2 := g vs (.inl (.inl h2))
  rw [hy] at e2; cases e2
  refine ⟨.inr ⟨T, _, hT, rfl⟩, ?_⟩
  rw [Nat.zero_add]
  exact pair_rep trk hT .int ry
theorem zip_get : ∀ {ks : List Key} {vs : List V} {i : Nat} {k : Key}, ks.length = vs.length → ks[i]? = some k → ∃ v, (ks.zip vs)[i]? = some (k, v)
  | q :: ks, v :: vs, 0, k, _, h => by cases h; exact ⟨v, rfl⟩
  | q :: ks, v :: vs, i + 1, k, hl, h => zip_get (ks := ks) (vs := vs) (i := i) (Nat.succ.inj hl) h
theorem wk_keys {d : Addr} {od : Obj} {ks : List Key} {vs : List V} (hl : ks.length = vs.length) (h : H d = some (.frz od (.dK (ks.zip vs)))) (n : ¬ O d) : Wk W (Itk d od (ks.zip vs)) (ks.map keyP) H O := by
  intro O2 H2 fx trk i
  have h2 := (fx d _ n h).1
  refine ⟨fun x hx => ?_, fun hi => ⟨h2, by rw [zip_len hl]; simpa using hi⟩⟩
  rw [List.getElem?_map] at hx
  cases hk : ks[i]? with
  | none => rw [hk] at hx; cases hx
  | some k =>
    rw [hk] at hx; cases hx
    have hi : i < ks.length := (List.getElem?_eq_some_iff.mp hk).1
    refine ⟨⟨h2, by rw [zip_len hl]; exact hi⟩, fun v H3 ⟨e, q, w, hq, ev⟩ => ?_⟩
    subst e ev
    obtain ⟨u, hu⟩ := zip_get hl hk
    rw [hu] at hq; cases hq
    refine ⟨.inl rfl, ?_⟩
    cases k with
    | inl j => exact .int
    | inr z => exact .str
variable (hC : CMono C)
include hC
theorem li_of {w : It} {R : L2.It → Hp → Prop} {k : List PV → Nat → Prop} {x : Xp} (r : Rl W ρ σ H O) (o : Ok W H c) (h : evI C w ρ c k x)
    (hk : ∀ items c' J H', k items c' → Sm W.S H H' → Ok W H' c' → Wk W J items H' O → R J H') (hx : ∀ er c', x er c' → XE W O σ H Wx er c') : LI W C Wx w σ H R :=
  ⟨ρ, O, c, r, o, evI_mono hC w ρ c (fun items c' q J H' a b d => hk items c' J H' q a b d) hx h⟩
theorem li_seq {a : Ex} {ea : Expr} (hK : X.K = W.K) (hf : sfE a = true) (ha : PE X ea (LE W C Wx a)) : PI X tg ea (LI W C Wx (.seq a)) :=
  pi_weak (pi_seq ha) fun σ H R ⟨ρ, O, c, r, k, q⟩ => by
    unfold evI at q
    refine le_of hC r k q (fun p c1 v H1 q1 s1 o1 r1 sf _ => ?_) (fun _ _ z => z)
    cases p <;> (try (exact q1.elim))
    · have r2 := sf hf
      cases r2
      exact .inr (.inr ⟨_, rfl, q1 _ H1 s1 o1 wk_str⟩)
    · have r2 := sf hf
      cases r2 with
      | lst h1 n t l => exact .inl ⟨_, rfl, ⟨_, .inl (.inl h1)⟩, q1 _ H1 s1 o1 (wk_list hK h1 n l)⟩
    · have r2 := sf hf
      cases r2 with
      | tup h1 n l => exact .inr (.inl ⟨_, rfl, ⟨_, .inl (.inl h1)⟩, q1 _ H1 s1 o1 (wk_tup hK (.inl ⟨h1, n⟩) l)⟩)
      | tupK h1 l => exact .inr (.inl ⟨_, rfl, ⟨_, by rw [hK]; exact h1 H1⟩, q1 _ H1 s1 o1 (wk_tup hK (.inr h1) l)⟩)
theorem li_zip {es : Es} {e e2 : Expr} {p pos tpos : Pos} {elts : List Expr} {kk : Nat} (hK : X.K = W.K) (hg : Gl X "zip") (hm : X.mg "zip" = none) (h1 : noStar e = true) (h2 : noStar e2 = true) (ha : PA X [e, e2] (LA W C Wx es)) :
    PI X (.Tuple elts kk tpos) (.Call (.Name "zip" p) [e, e2] [] pos) (LI W C Wx (.zip es)) :=
  pi_weak (RZ.pi_zipA hg hm ha (starEach_no h1) (any_noStar (by rw [List.all_cons, h2]; rfl))) fun σ H R ⟨ρ, O, c, r, k, q⟩ => by
    unfold evI at q
    refine la_of hC r k q (fun ps c1 vs H1 q1 s1 o1 r1 => ?_) (fun _ _ z => z)
    split at q1 <;> (try (exact q1.elim))
    · cases r1 with
      | cons a b =>
        cases b with
        | cons b d =>
          cases d
          cases a with
          | lst h1 n t l => cases b with
            | lst h2 n2 t2 l2 => exact ⟨_, _, _, _, rfl, .inl ⟨.inl (.inl h1), .inl (.inl h2), q1 _ H1 s1 o1 (wk_zip hK h1 n l h2 n2 l2)⟩⟩
    · cases r1 with
      | cons a b =>
        cases b with
        | cons b d =>
          cases d
          have up : ∀ {xs v}, Rep W H1 O (.tup xs) v → ∃ a us, v = .ref a ∧ ((H1 a = some (.tup us) ∧ ¬ O a) ∨ ∀ H', SqT W.K H' a us) ∧ RepL W H1 O xs us := by
            intro xs v r
            cases r with
            | tup h n l => exact ⟨_, _, rfl, .inl ⟨h, n⟩, l⟩
            | tupK h l => exact ⟨_, _, rfl, .inr h, l⟩
          obtain ⟨a1, us, rfl, h1, l1⟩ := up a
          obtain ⟨a2, ws, rfl, h2, l2⟩ := up b
          have dn : ∀ {a us}, ((H1 a = some (.tup us) ∧ ¬ O a) ∨ ∀ H', SqT W.K H' a us) → SqT X.K H1 a us := by
            intro a us h
            rcases h with ⟨h, _⟩ | h
            · exact .inl (.inl h)
            · rw [hK]; exact h H1
          exact ⟨_, _, _, _, rfl, .inr ⟨dn h1, dn h2, q1 _ H1 s1 o1 (wk_zipT hK h1 l1 h2 l2)⟩⟩
theorem li_enum {a : Ex} {e : Expr} {p pos tpos : Pos} {elts : List Expr} {kk : Nat} (hK : X.K = W.K) (hg : Gl X "enumerate") (hm : X.mg "enumerate" = none) (h1 : noStar e = true) (hf : sfE a = true) (ha : PE X e (LE W C Wx a)) :
    PI X (.Tuple elts kk tpos) (.Call (.Name "enumerate" p) [e] [] pos) (LI W C Wx (.enum a)) :=
  pi_weak (pi_enum hg hm (la_cons hC h1 hf ha la_nil) (by rw [starEach_no h1]; rfl)) fun σ H R ⟨ρ, O, c, r, k, q⟩ => by
    unfold evI at q
    have q' : evs C (.cons a .nil) ρ c (fun vs c1 => match vs with
      | [.lst _ l] => (fun l c' => ∀ J H', Sm W.S H H' → Ok W H' c' → Wk W J l H' O → R J H') (enumP 0 l) c1
      | _ => False) (XE W O σ H Wx) := by
      unfold evs evs
      refine ev_mono hC a ρ c (fun v c1 q => ?_) (fun _ _ z => z) q
      cases v <;> exact q
    refine la_of hC r k q' (fun ps c1 vs H1 q1 s1 o1 r1 => ?_) (fun _ _ z => z)
    split at q1 <;> (try (exact q1.elim))
    cases r1 with
    | cons a b =>
      cases b
      cases a with
      | lst h1 n t l => exact ⟨_, _, rfl, .inl (.inl h1), q1 _ H1 s1 o1 (wk_enum hK h1 n l)⟩
theorem li_range1 {es : Es} {e : Expr} {p pos : Pos} (hg : Gl X "range") (hm : X.mg "range" = none) (h1 : noStar e = true) (ha : PA X [e] (LA W C Wx es)) (ho : ∀ ρ c k x, evs C es ρ c k x → evs C es ρ c (fun vs c' => vs.length = 1 ∧ k vs c') x) :
    PI X tg (.Call (.Name "range" p) [e] [] pos) (LI W C Wx (.range es)) :=
  pi_weak (pi_range1 hg hm ha (by rw [starEach_no h1]; rfl)) fun σ H R ⟨ρ, O, c, r, k, q⟩ => by
    unfold evI at q
    refine la_of hC r k (ho _ _ _ _ q) (fun ps c1 vs H1 ⟨hl, q1⟩ s1 o1 r1 => ?_) (fun _ _ z => z)
    split at q1 <;> (try (exact q1.elim)) <;> (try (cases hl; done))
    cases r1 with
    | cons a b =>
      cases b
      cases a
      exact ⟨_, rfl, q1.1.1, q1.1.2, q1.2 _ H1 s1 o1 wk_range⟩
theorem li_range2 {es : Es} {e e2 : Expr} {p pos : Pos} (hg : Gl X "range") (hm : X.mg "range" = none) (h1 : noStar e = true) (h2 : noStar e2 = true) (ha : PA X [e, e2] (LA W C Wx es)) (ho : ∀ ρ c k x, evs C es ρ c k x → evs C es ρ c (fun vs c' => vs.length = 2 ∧ k vs c') x) :
    PI X tg (.Call (.Name "range" p) [e, e2] [] pos) (LI W C Wx (.range es)) :=
  pi_weak (pi_range2 hg hm ha (by rw [starEach_no h1, starEach_no h2]; rfl) (by rw [starEach_no h2]; rfl)) fun σ H R ⟨ρ, O, c, r, k, q⟩ => by
    unfold evI at q
    refine la_of hC r k (ho _ _ _ _ q) (fun ps c1 vs H1 ⟨hl, q1⟩ s1 o1 r1 => ?_) (fun _ _ z => z)
    split at q1 <;> (try (exact q1.elim)) <;> (try (cases hl; done))
    cases r1 with
    | cons a b =>
      cases b with
      | cons b d =>
        cases d
        cases a
        cases b
        exact ⟨_, _, rfl, q1.1, q1.2 _ H1 s1 o1 wk_range⟩
end
end Ze

/-! Targets, comprehensions. -/
namespace Ze
open PySem PySem.Spec PyProof.Rows L2

theorem set_get {α : Type} {l : List α} {i j : Nat} {x y : α} (h : (l.set i x)[j]? = some y) : (j = i ∧ y = x ∧ i < l.length) ∨ (j ≠ i ∧ l[j]? = some y) := by
  by_cases e : i = j
  · subst e
    by_cases hl : i < l.length
    · rw [List.getElem?_set_self hl] at h
      cases h
      exact .inl ⟨rfl, rfl, hl⟩
    · rw [List.getElem?_eq_none (by simpa using hl)] at h
      cases h
  · rw [List.getElem?_set_ne e] at h
    exact .inr ⟨fun z => e z.symm, h⟩
section
variable {W : Wd} {C : Cl} {Wx : WX} {X : Cx} {σ : L2.St} {H : Hp} {O : Addr → Prop} {ρ : Env} {c : Nat}
/-- a slot gets a value -/
theorem Rl.va_set {i : Nat} {v : PV} {x : V} (r : Rl W ρ σ H O) (rv : Rep W H O v x) : Rl W (ρ.set i (.va v)) (σ.set i (some x)) H O where
  len := by rw [List.length_set, List.length_set]; exact r.len
  sub := r.sub
  trk := r.trk
  va := fun j u h => by
    rcases set_get h with ⟨rfl, e, hl⟩ | ⟨ne, h⟩
    · cases e
      exact ⟨x, by rw [List.getElem?_set_self (by rw [r.len]; exact hl)], rv⟩
    · obtain ⟨y, e, ry⟩ := r.va j u h
      exact ⟨y, by rw [List.getElem?_set_ne (Ne.symm ne)]; exact e, ry⟩
  ow := fun j u h => by
    rcases set_get h with ⟨rfl, e, hl⟩ | ⟨ne, h⟩
    · cases e
    · obtain ⟨p, a, b, d⟩ := r.ow j u h
      exact ⟨p, a, by rw [List.getElem?_set_ne (Ne.symm ne)]; exact b, d⟩
  inj := fun j k u w p h1 h2 e1 e2 => by
    rcases set_get h1 with ⟨rfl, e, hl⟩ | ⟨n1, h1⟩
    · cases e
    · rcases set_get h2 with ⟨rfl, e, hl⟩ | ⟨n2, h2⟩
      · cases e
      · rw [List.getElem?_set_ne (Ne.symm n1)] at e1
        rw [List.getElem?_set_ne (Ne.symm n2)] at e2
        exact r.inj j k u w p h1 h2 e1 e2
theorem Rl.no_set {i : Nat} {x : Option V} (r : Rl W ρ σ H O) : Rl W (ρ.set i .no) (σ.set i x) H O where
  len := by rw [List.length_set, List.length_set]; exact r.len
  sub := r.sub
  trk := r.trk
  va := fun j u h => by
    rcases set_get h with ⟨rfl, e, hl⟩ | ⟨ne, h⟩
    · cases e
    · obtain ⟨y, e, ry⟩ := r.va j u h
      exact ⟨y, by rw [List.getElem?_set_ne (Ne.symm ne)]; exact e, ry⟩
  ow := fun j u h => by
    rcases set_get h with ⟨rfl, e, hl⟩ | ⟨ne, h⟩
    · cases e
    · obtain ⟨p, a, b, d⟩ := r.ow j u h
      exact ⟨p, a, by rw [List.getElem?_set_ne (Ne.symm ne)]; exact b, d⟩
  inj := fun j k u w p h1 h2 e1 e2 => by
    rcases set_get h1 with ⟨rfl, e, hl⟩ | ⟨n1, h1⟩
    · cases e
    · rcases set_get h2 with ⟨rfl, e, hl⟩ | ⟨n2, h2⟩
      · cases e
      · rw [List.getElem?_set_ne (Ne.symm n1)] at e1
        rw [List.getElem?_set_ne (Ne.symm n2)] at e2
        exact r.inj j k u w p h1 h2 e1 e2
theorem Rl.wipe : ∀ (own : List Nat), Rl W ρ σ H O → Rl W (wipeE ρ own) (L2.wipe σ own) H O
  | [], r => r
  | v :: vs, r => (Rl.wipe vs r).no_set

/-! ### targets -/
mutual
def gOf (K : PySem.W.Frag) : Tg → TG
  | .nm i => gName i
  | .tp ts => gTup K (lenTs ts) (gsOf K ts)
def gsOf (K : PySem.W.Frag) : Tgs → TGs
  | .nil => gNil
  | .cons t r => gCons (gOf K t) (gsOf K r)
def lenTs : Tgs → Nat
  | .nil => 0
  | .cons _ r => lenTs r + 1
end
mutual
def slotsT : Tg → List Nat
  | .nm i => [i]
  | .tp ts => slotsTs ts
def slotsTs : Tgs → List Nat
  | .nil => []
  | .cons t r => slotsT t ++ slotsTs r
end
theorem wipe_set : ∀ {vs : List Nat} {σ : L2.St} {i : Nat} {x : Option V}, i ∈ vs → L2.wipe (σ.set i x) vs = L2.wipe σ vs
  | v :: vs, σ, i, x, h => by
    unfold L2.wipe
    by_cases e : i ∈ vs
    · rw [wipe_set e]
    · have e2 : i = v := by
        rcases List.mem_cons.mp h with h | h
        · exact h
        · exact absurd h e
      subst e2
      have aux : ∀ (ws : List Nat) (τ : L2.St), (L2.wipe (τ.set i x) ws).set i none = (L2.wipe τ ws).set i none := by
        intro ws
        induction ws with
        | nil => intro τ; unfold L2.wipe; rw [List.set_set]
        | cons w ws ih =>
          intro τ
          unfold L2.wipe
          by_cases e : w = i
          · subst e; rw [List.set_set, List.set_set]; exact ih τ
          · rw [List.set_comm _ _ e, ih τ, List.set_comm _ _ e]
      exact aux vs σ
mutual
theorem bind_ok : ∀ (g : Tg) {v : PV} {x : V} {ρ : Env} {σ : L2.St} {k : Env → Prop} {Q : L2.St → Hp → Prop}, Rl W ρ σ H O → Rep W H O v x → bindT g v ρ k →
    (∀ ρ' σ', Rl W ρ' σ' H O → k ρ' → (∀ vs, (∀ i ∈ slotsT g, i ∈ vs) → L2.wipe σ' vs = L2.wipe σ vs) → Q σ' H) → gOf W.K g x σ H Q
  | .nm i, v, x, ρ, σ, k, Q, r, rv, h, hq => by
    unfold bindT at h
    exact hq _ _ (r.va_set rv) h fun vs hs => wipe_set (hs i (by simp [slotsT]))
  | .tp ts, v, x, ρ, σ, k, Q, r, rv, h, hq => by
    unfold bindT at h
    cases v <;> (try (exact h.elim))
    rename_i xs
    have hl := len_ok ts h
    cases rv with
    | tup a n l => exact ⟨_, _, rfl, .inl (.inl a), by rw [← l.length]; exact hl, binds_ok ts r l h hq⟩
    | tupK a l => exact ⟨_, _, rfl, a H, by rw [← l.length]; exact hl, binds_ok ts r l h hq⟩
theorem binds_ok : ∀ (g : Tgs) {v : List PV} {x : List V} {ρ : Env} {σ : L2.St} {k : Env → Prop} {Q : L2.St → Hp → Prop}, Rl W ρ σ H O → RepL W H O v x → bindTs g v ρ k →
    (∀ ρ' σ', Rl W ρ' σ' H O → k ρ' → (∀ vs, (∀ i ∈ slotsTs g, i ∈ vs) → L2.wipe σ' vs = L2.wipe σ vs) → Q σ' H) → gsOf W.K g x σ H Q
  | .nil, v, x, ρ, σ, k, Q, r, rv, h, hq => by
    unfold bindTs at h
    obtain ⟨rfl, h⟩ := h
    cases rv
    exact ⟨rfl, hq _ _ r h fun _ _ => rfl⟩
  | .cons t ts, v, x, ρ, σ, k, Q, r, rv, h, hq => by
    unfold bindTs at h
    cases v with
    | nil => exact h.elim
    | cons y ys =>
      cases rv with
      | cons a b =>
        refine ⟨_, _, rfl, bind_ok t r a h fun ρ' σ' r' h' w' => ?_⟩
        refine binds_ok ts r' b h' fun ρ2 σ2 r2 h2 w2 => hq ρ2 σ2 r2 h2 fun vs hs => ?_
        rw [w2 vs fun i hi => hs i (by simp [slotsTs, hi]), w' vs fun i hi => hs i (by simp [slotsTs, hi])]
theorem len_ok : ∀ (g : Tgs) {v : List PV} {ρ : Env} {k : Env → Prop}, bindTs g v ρ k → v.length = lenTs g
  | .nil, v, ρ, k, h => by
    unfold bindTs at h
    rw [h.1]; rfl
  | .cons t ts, v, ρ, k, h => by
    unfold bindTs at h
    cases v with
    | nil => exact h.elim
    | cons y ys =>
      have h2 : ∃ ρ', bindTs ts ys ρ' k := ex_bind t h
      obtain ⟨ρ', h2⟩ := h2
      show ys.length + 1 = lenTs ts + 1
      rw [len_ok ts h2]
theorem ex_bind : ∀ (g : Tg) {v : PV} {ρ : Env} {k : Env → Prop}, bindT g v ρ k → ∃ ρ', k ρ'
  | .nm i, v, ρ, k, h => by unfold bindT at h; exact ⟨_, h⟩
  | .tp ts, v, ρ, k, h => by
    unfold bindT at h
    cases v <;> (try (exact h.elim))
    exact ex_binds ts h
theorem ex_binds : ∀ (g : Tgs) {v : List PV} {ρ : Env} {k : Env → Prop}, bindTs g v ρ k → ∃ ρ', k ρ'
  | .nil, v, ρ, k, h => by unfold bindTs at h; exact ⟨_, h.2⟩
  | .cons t ts, v, ρ, k, h => by
    unfold bindTs at h
    cases v with
    | nil => exact h.elim
    | cons y ys =>
      obtain ⟨ρ', h'⟩ := ex_bind t h
      exact ex_binds ts h'
end
theorem pg_tup' {es : List Expr} {k : Nat} {pos : Pos} {ts : Tgs} (hK : X.K = W.K) (hc : X.calm = true) (h : PGs X es (gsOf W.K ts)) (hn : (assignEach es X.env).length = lenTs ts) (hst : (assignEach es X.env).findIdx? (·.1) = none) : PG X (.Tuple es k pos) (gOf W.K (.tp ts)) := by
  unfold gOf
  rw [← hK]
  exact pg_tup hc (by rw [hK]; exact h) hn hst
end
end Ze

/-! Comprehensions. -/
namespace Ze
open PySem PySem.Spec PyProof.Rows L2

abbrev WF : WX := fun _ _ _ _ => False
def LTs (W : Wd) (C : Cl) (es : Es) : TT := fun σ H Q => ∃ ρ O c, Rl W ρ σ H O ∧ Ok W H c ∧ evTs C es ρ c (fun b c' => ∀ H', Sm W.S H H' → Ok W H' c' → Q b H') (fun _ _ => False)
section
variable {W : Wd} {C : Cl} {Wx : WX} {X : Cx} {σ : L2.St} {H : Hp} {O : Addr → Prop} {ρ : Env} {c : Nat}
theorem Rl.new {D : Addr} {o : HO} (r : Rl W ρ σ H O) (hD : H D = none) : Rl W ρ σ (upd H D o) (fun a => O a ∨ a = D) where
  len := r.len
  sub := fun a h => .inl (r.sub a h)
  trk := fun a h => by
    by_cases e : a = D
    · subst e; rw [upd_same]; exact fun z => nomatch z
    · rw [upd_ne e]; exact r.trk a (h.resolve_right e)
  va := fun i v h => let ⟨x, e, q⟩ := r.va i v h; ⟨x, e, q.fm (fm_new hD)⟩
  ow := fun i v h => by
    obtain ⟨p, ho, e, n, q⟩ := r.ow i v h
    have ne : p ≠ D := fun z => r.trk p ho (by rw [z]; exact hD)
    refine ⟨p, .inl ho, e, n, ?_⟩
    rcases q with ⟨t, xs, vs, a, b, f, l⟩ | ⟨t, ks, xs, vs, a, b, f, g, l⟩
    · exact .inl ⟨t, xs, vs, a, by rw [upd_ne ne]; exact b, f, l.fm (fm_new hD)⟩
    · exact .inr ⟨t, ks, xs, vs, a, by rw [upd_ne ne]; exact b, f, g, l.fm (fm_new hD)⟩
  inj := r.inj
/-- an object of the avoided ones, that is no slot's, is changed -/
theorem Rl.put {D : Addr} {o : HO} (r : Rl W ρ σ H O) (hD : O D) (hn : ∀ (i : Nat) (v : PV) (p : Addr), ρ[i]? = some (.ow v) → σ[i]? = some (some (.ref p)) → p ≠ D) : Rl W ρ σ (upd H D o) O where
  len := r.len
  sub := r.sub
  trk := fun a h => by
    by_cases e : a = D
    · subst e; rw [upd_same]; exact fun z => nomatch z
    · rw [upd_ne e]; exact r.trk a h
  va := fun i v h => let ⟨x, e, q⟩ := r.va i v h; ⟨x, e, q.fm (fm_own hD)⟩
  ow := fun i v h => by
    obtain ⟨p, ho, e, n, q⟩ := r.ow i v h
    have ne : p ≠ D := hn i v p h e
    refine ⟨p, ho, e, n, ?_⟩
    rcases q with ⟨t, xs, vs, a, b, f, l⟩ | ⟨t, ks, xs, vs, a, b, f, g, l⟩
    · exact .inl ⟨t, xs, vs, a, by rw [upd_ne ne]; exact b, f, l.fm (fm_own hD)⟩
    · exact .inr ⟨t, ks, xs, vs, a, by rw [upd_ne ne]; exact b, f, g, l.fm (fm_own hD)⟩
  inj := r.inj
theorem wipe_twice {vs : List Nat} : ∀ (us : List Nat) {σ : L2.St}, (∀ u ∈ us, u ∈ vs) → L2.wipe (L2.wipe σ us) vs = L2.wipe σ vs
  | [], _, _ => rfl
  | u :: us, σ, h => by
    show L2.wipe ((L2.wipe σ us).set u none) vs = L2.wipe σ vs
    rw [wipe_set (h u (List.mem_cons_self ..)), wipe_twice us fun w hw => h w (List.mem_cons_of_mem _ hw)]
theorem sm_step {H2 H3 : Hp} {c1 : Nat} (h : H3 = H2 ∨ ∃ T xs, H2 T = none ∧ H3 = upd H2 T (.tup xs)) (k : Ok W H2 c1) : Sm W.S H2 H3 ∧ Ok W H3 c1 := by
  rcases h with rfl | ⟨T, xs, hT, rfl⟩
  · exact ⟨.refl, k⟩
  · exact ⟨sm_upd hT, k.new hT⟩
variable (hC : CMono C)
include hC
omit hC in
theorem lts_nil {X : Cx} : PTs X [] (LTs W C .nil) := ⟨fun pins s σ H Q I ⟨ρ, O, c, r, k, q⟩ => by
  unfold evTs at q
  exact pts_nil.run pins s σ H Q I (q H .refl k)⟩
theorem lts_one {X : Cx} {a : Ex} {ea : Expr} (h : PT X ea (LT W C WF a)) : PTs X [ea] (LTs W C (.cons a .nil)) := ⟨fun pins s σ H Q I ⟨ρ, O, c, r, k, q⟩ => by
  unfold evTs at q
  refine (pts_one h).run pins s σ H Q I ?_
  refine lt_of hC r k q (fun p c1 q1 => ?_) (fun _ _ z => z.elim)
  refine opt_mono (fun b q1 H1 s1 o1 => ?_) q1
  cases b with
  | true =>
    have q2 : evTs C .nil ρ c1 (fun b c' => ∀ H', Sm W.S H H' → Ok W H' c' → Q b H') (fun _ _ => False) := q1
    unfold evTs at q2
    exact q2 H1 s1 o1
  | false => exact q1 H1 s1 o1⟩

theorem comp_read {wi : TI} {own : List Nat} {w : It} {g : Tg} {ifs : Es} {e : Ex} {Q : VK} (hw : ∀ R, LI W C Wx w σ H R → wi σ H R) (hsl : ∀ i ∈ slotsT g, i ∈ own) (hsf : sfE e = true) (h : LE W C Wx (.comp own w g ifs e) σ H Q) :
    tLc wi (gOf W.K g) (LTs W C ifs) (LE W C WF e) own σ H Q := by
  obtain ⟨ρ, O, c, r, k, q⟩ := h
  unfold ev at q
  refine hw _ (li_of hC r k q (fun items c1 J H1 q1 s1 o1 wk => ?_) (fun _ _ z => z))
  intro D hD
  have r1 := r.sm s1 o1
  have nS : ¬ W.S D := fun z => W.tr o1.str z hD
  have nO : ¬ O D := fun z => r1.trk D z hD
  have own_ne : ∀ (i : Nat) (v : PV) (p : Addr), ρ[i]? = some (.ow v) → σ[i]? = some (some (.ref p)) → p ≠ D := fun i v p h1 h2 z => by
    obtain ⟨p', a, b, _⟩ := r1.ow i v h1
    rw [h2] at b; cases b
    exact r1.trk p a (by rw [z]; exact hD)
  generalize hF : (fun (v : PV) (acc : List PV) (c2 : Nat) (kk : List PV → Nat → Prop) => bindT g v (wipeE ρ own) fun ρ' => evTs C ifs ρ' c2 (fun b c3 => if b = true then
        ev C e ρ' c3 (fun y c4 => acc.length < sizeLine ∧ kk (acc ++ [y]) c4) (fun _ _ => False) else kk acc c3) (fun _ _ => False)) = F at q1
  generalize hKK : (fun (out : List PV) (c2 : Nat) => KE W O (.comp own w g ifs e) H Q (.lst true out) c2) = KK at q1
  refine ⟨fun i m H' => ∃ acc vs c', m + i = items.length ∧ Rl W ρ σ H' (fun a => O a ∨ a = D) ∧ Ok W H' c' ∧ Sm W.S H1 H' ∧ H' D = some (.lst vs) ∧ RepL W H' (fun a => O a ∨ a = D) acc vs ∧ eachL F (items.drop i) acc c' KK,
    ⟨items.length, [], [], c1, by omega, r1.new hD, o1.new hD, sm_upd hD, upd_same, .nil, by rw [List.drop_zero]; exact q1⟩, fun i m H' hW => ?_⟩
  obtain ⟨acc, vs, c', hm, r2, o2, s2, hDv, la, q2⟩ := hW
  have fx : Fx O (fun a => O a ∨ a = D) H1 H' := fun a o n h => ⟨s2 a o (fun z => n (r.sub a z)) h, fun z => z.elim n fun z => by rw [z, hD] at h; cases h⟩
  have wki := wk (fun a => O a ∨ a = D) H' fx r2.trk i
  cases hx : items[i]? with
  | none =>
    have hi : items.length ≤ i := List.getElem?_eq_none_iff.mp hx
    have hd : items.drop i = [] := List.drop_eq_nil_of_le hi
    rw [hd] at q2
    refine .inl ⟨wki.2 hi, ?_⟩
    have q3 : KK acc c' := q2
    rw [← hKK] at q3
    have rep : Rep W H' O (.lst true acc) (.ref D) := .lst hDv nO (fun _ z => o1.era D z hD) (la.less fun a z => .inl z)
    exact q3 (.ref D) H' (s1.trans s2) o2 (.of rep) (fun _ => rep) fun _ => ⟨D, rfl, none_back s1 o1 hD, .inl ⟨_, _, vs, rfl, hDv, la⟩⟩
  | some x =>
    obtain ⟨hi, _⟩ := List.getElem?_eq_some_iff.mp hx
    have hd : items.drop i = x :: items.drop (i + 1) := by
      rw [List.drop_eq_getElem_cons hi]
      have := List.getElem?_eq_getElem hi
      rw [hx] at this; cases this; rfl
    rw [hd] at q2
    have q3 : F x acc c' (fun acc' c'' => eachL F (items.drop (i + 1)) acc' c'' KK) := q2
    obtain ⟨go, yl⟩ := wki.1 x hx
    refine .inr ⟨go, fun H'' => ∃ acc' vs' c'', Rl W ρ σ H'' (fun a => O a ∨ a = D) ∧ Ok W H'' c'' ∧ Sm W.S H1 H'' ∧ H'' D = some (.lst vs') ∧ RepL W H'' (fun a => O a ∨ a = D) acc' vs' ∧ eachL F (items.drop (i + 1)) acc' c'' KK,
      fun H'' ⟨acc', vs', c'', a1, a2, a3, a4, a5, a6⟩ => ⟨m - 1, by omega, acc', vs', c'', by omega, a1, a2, a3, a4, a5, a6⟩, fun v H3 hy => ?_⟩
    obtain ⟨h3, rx⟩ := yl v H3 hy
    obtain ⟨s3, o3⟩ := sm_step h3 o2
    have r3 := r2.sm s3 o3
    have hD3 : H3 D = some (.lst vs) := s3 D _ nS hDv
    have la3 := la.fm (s3.fm r2.sub)
    rw [← hF] at q3
    refine bind_ok g (Rl.wipe own r3) rx q3 fun ρ' σ' r4 q4 wp => ?_
    refine ⟨(wp own hsl).trans (wipe_twice own fun _ h => h), ρ', _, c', r4, o3, evTs_mono hC ifs ρ' c' (fun b c3 q5 H4 s4 o4 => ?_) (fun _ _ z => z) q4⟩
    have s34 := s3.trans s4
    have hD4 : H4 D = some (.lst vs) := s4 D _ nS hD3
    have la4 := la3.fm (s4.fm r2.sub)
    cases b with
    | false =>
      refine iteF ?_
      exact ⟨acc, vs, c3, (r3.sm s4 o4), o4, s2.trans s34, hD4, la4, by rw [hF] at q5; exact q5⟩
    | true =>
      refine iteT ?_
      have r5 := r4.sm s4 o4
      refine le_of hC r5 o4 q5 (fun y c4 u H5 ⟨hl, q6⟩ s5 o5 r6 sf _ => ?_) (fun _ _ z => z.elim)
      have ry := sf hsf
      have hD5 : H5 D = some (.lst vs) := s5 D _ nS hD4
      have la5 := la4.fm (s5.fm r2.sub)
      refine ⟨vs, hD5, by rw [← la5.length]; exact hl, acc ++ [y], vs ++ [u], c4, ?_, o5.put nS, ?_, upd_same, ?_, by rw [hF] at q6; exact q6⟩
      · exact ((r3.sm s4 o4).sm s5 o5).put (.inr rfl) own_ne
      · intro a o n h
        have ne : a ≠ D := fun z => by rw [z, hD] at h; cases h
        rw [upd_ne ne]
        exact ((s2.trans s34).trans s5) a o n h
      · exact (la5.app (.one ry)).fm (fm_own (.inr rfl))
theorem le_comp {own : List (Str × Nat)} {w : It} {g : Tg} {ifs : Es} {e : Ex} {elt tg iter : Expr} {eifs : List Expr} {scope : Scope} {pos : Pos} (hsl : ∀ i ∈ slotsT g, i ∈ own.map (·.2)) (hsf : sfE e = true) (hc : X.calm = true) (hN : X.N.Nodup)
    (hi : PI X tg iter (LI W C Wx w)) (ok : BlkOk X.N X.env.scope scope own)
    (hg : ∀ (s : Shared) (H : Hp) (C : Addr) (cl : List (Str × Addr)) (fp : List Addr), PG (X.blk s H scope (compEnvC scope cl C X.env) fp) tg (gOf W.K g))
    (ht : ∀ (s : Shared) (H : Hp) (D : Addr) (cl : List (Str × Addr)) (fp : List Addr), PTs (X.blk s H scope (compEnvC scope cl D X.env) fp) eifs (LTs W C ifs))
    (he : ∀ (s : Shared) (H : Hp) (D : Addr) (cl : List (Str × Addr)) (fp : List Addr), PE (X.blk s H scope (compEnvC scope cl D X.env) fp) elt (LE W C WF e))
    (hs : ∀ x, foldedSetIterable iter X.env x = pure x) : PE X (.ListComp elt [⟨tg, iter, eifs, 0⟩] scope pos) (LE W C Wx (.comp (own.map (·.2)) w g ifs e)) :=
  pe_weak (pe_lc hc hN hi ok hg ht he hs) fun σ H Q h => comp_read hC (fun _ h => h) hsl hsf h

/-! ### over a dict's keys: it is locked meanwhile -/
def Lkd (i : Nat) (σ : L2.St) (H : Hp) : Prop := ∃ d od kvs, σ[i]? = some (some (.ref d)) ∧ H d = some (.frz od (.dK kvs))
omit hC in
theorem li_keys {X : Cx} {tg : Expr} {i : Nat} {x : Str} {pos : Pos} (he : PE X (.Name x pos) (tVar i)) : PI X tg (.Name x pos) (fun σ H R => LI W C Wx (.keys i) σ H R ∧ Lkd i σ H) :=
  pi_weak (pi_keys he) fun σ H R ⟨⟨ρ, O, c, r, k, q⟩, d, od, kvs, hd, hH⟩ => by
    unfold evI slotV at q
    split at q <;> (try (exact q.elim))
    rename_i v hv
    obtain ⟨y, e, ry⟩ := r.va i v hv
    rw [hd] at e; cases e
    refine ⟨_, hd, d, od, rfl, .inl ⟨kvs, hH, ?_⟩⟩
    cases v <;> (try (exact q.elim))
    cases ry with
    | dic h1 n t hl l =>
      rcases h1 with h1 | ⟨o', h1⟩
      · rw [hH] at h1; cases h1
      · rw [hH] at h1
        cases h1
        exact q _ H .refl k (wk_keys hl hH n)
omit hC in
theorem Rl.lock {d : Addr} {od : Obj} {kvs : List (Key × V)} (r : Rl W ρ σ H O) (h : H d = some (.dK kvs)) (n : ¬ O d) : Rl W ρ σ (upd H d (.frz od (.dK kvs))) O where
  len := r.len
  sub := r.sub
  trk := fun a ha => by
    by_cases e : a = d
    · subst e; exact absurd ha n
    · rw [upd_ne e]; exact r.trk a ha
  va := fun i v hv => let ⟨x, e, q⟩ := r.va i v hv; ⟨x, e, q.fm (fm_lock h)⟩
  ow := fun i v hv => by
    obtain ⟨p, ho, e, m, q⟩ := r.ow i v hv
    have ne : p ≠ d := fun z => n (by rw [← z]; exact ho)
    refine ⟨p, ho, e, m, ?_⟩
    rcases q with ⟨t, xs, vs, a, b, f, l⟩ | ⟨t, ks, xs, vs, a, b, f, g, l⟩
    · exact .inl ⟨t, xs, vs, a, by rw [upd_ne ne]; exact b, f, l.fm (fm_lock h)⟩
    · exact .inr ⟨t, ks, xs, vs, a, by rw [upd_ne ne]; exact b, f, g, l.fm (fm_lock h)⟩
  inj := r.inj
omit hC in
theorem RepR.unlock {d : Addr} {od : Obj} {kvs : List (Key × V)} {p : PV} {v : V} (r : RepR W H O p v) (h : H d = some (.frz od (.dK kvs))) : RepR W (upd H d (.dK kvs)) O p v := by
  cases r with
  | of r => exact .of (r.fm (fm_unlock h))
  | lst a b l =>
    rename_i a1 _
    have ne : a1 ≠ d := fun z => by rw [z, h] at a; cases a
    exact .lst (by rw [upd_ne ne]; exact a) b (l.fm (fm_unlock h))
  | dic a b e l =>
    rename_i a1 _
    have ne : a1 ≠ d := fun z => by rw [z, h] at a; cases a
    exact .dic (by rw [upd_ne ne]; exact a) b e (l.fm (fm_unlock h))
omit hC in
theorem sm_lock {S : Addr → Prop} {H H' : Hp} {d : Addr} {od : Obj} {kvs : List (Key × V)} (h : H d = some (.dK kvs)) (s : Sm S (upd H d (.frz od (.dK kvs))) H') : Sm S H (upd H' d (.dK kvs)) := fun a o n ha => by
  by_cases e : a = d
  · subst e
    rw [h] at ha; cases ha
    exact upd_same
  · rw [upd_ne e]
    exact s a o n (by rw [upd_ne e]; exact ha)
omit hC in
theorem pe_or {X : Cx} {e : Expr} {t t' : TE} (h : PE X e t) (h' : PE X e t') : PE X e (fun σ H Q => t σ H Q ∨ t' σ H Q) := ⟨fun pins s σ H Q I q => q.elim (h.run pins s σ H Q I) (h'.run pins s σ H Q I)⟩
/-- what reads while the dict of slot i is locked, reads -/
theorem lock_read {X : Cx} {e : Expr} {ee : Ex} {i : Nat} {t : TE} (h : PE X e t) (hi : ∀ ρ c k x, ev C ee ρ c k x → ∃ b ks xs, ρ[i]? = some (.va (.dic b ks xs)))
    (ht : ∀ σ H Q, LE W C Wx ee σ H Q → Lkd i σ H → t σ H Q) (hx : ∀ ρ c k x, ev C ee ρ c k x → ev C ee ρ c k (fun _ _ => False)) : PE X e (LE W C Wx ee) :=
  pe_weak (pe_or h (pe_lock h)) fun σ H Q hq => by
    have hq' := hq
    obtain ⟨ρ, O, c, r, k, q⟩ := hq'
    obtain ⟨b, ks, xs, hv⟩ := hi _ _ _ _ q
    obtain ⟨y, e1, ry⟩ := r.va i _ hv
    cases ry with
    | @dic _ _ _ d vs h1 n tt hl l =>
      rcases h1 with h1 | ⟨od, h1⟩
      · refine .inr ⟨d, _, h1, trivial, fun od => ht σ _ _ ⟨ρ, O, c, r.lock h1 n, ?_, ev_mono hC ee ρ c (fun pv c' q v H' s' o' r' sf fr => ?_) (fun _ _ z => z.elim) (hx _ _ _ _ q)⟩ ⟨d, od, _, e1, upd_same⟩⟩
        · have nS : ¬ W.S d := fun z => (W.nf k.str z (kvs := ks.zip vs) (o := od)).1 h1
          exact k.put nS
        · have nS : ¬ W.S d := fun z => (W.nf k.str z (kvs := ks.zip vs) (o := od)).1 h1
          have hd : H' d = some (.frz od (.dK (ks.zip vs))) := s' d _ nS upd_same
          refine ⟨hd, q v _ (sm_lock h1 s') (o'.put nS) (r'.unlock hd) (fun z => (sf z).fm (fm_unlock hd)) fun z => ?_⟩
          obtain ⟨p, ep, hp, h3⟩ := fr z
          have ne : p ≠ d := fun z => by rw [z, upd_same] at hp; cases hp
          refine ⟨p, ep, by rw [upd_ne ne] at hp; exact hp, ?_⟩
          rcases h3 with ⟨t, xs, vs, e, a, l⟩ | ⟨t, ks, xs, vs, e, a, g, l⟩
          · exact .inl ⟨t, xs, vs, e, by rw [upd_ne ne]; exact a, l.fm (fm_unlock hd)⟩
          · exact .inr ⟨t, ks, xs, vs, e, by rw [upd_ne ne]; exact a, g, l.fm (fm_unlock hd)⟩
      · exact .inl (ht σ H Q hq ⟨d, od, _, e1, h1⟩)
omit hC in
theorem comp_keys {own : List Nat} {i : Nat} {g : Tg} {ifs : Es} {e : Ex} {ρ : Env} {c : Nat} {k : Kp} {x : Xp} (h : ev C (.comp own (.keys i) g ifs e) ρ c k x) : ∃ b ks xs, ρ[i]? = some (.va (.dic b ks xs)) := by
  unfold ev evI slotV at h
  split at h <;> (try (exact h.elim))
  rename_i v hv
  cases v <;> (try (exact h.elim))
  exact ⟨_, _, _, hv⟩
omit hC in
theorem comp_nox {own : List Nat} {i : Nat} {g : Tg} {ifs : Es} {e : Ex} {ρ : Env} {c : Nat} {k : Kp} {x : Xp} (h : ev C (.comp own (.keys i) g ifs e) ρ c k x) : ev C (.comp own (.keys i) g ifs e) ρ c k (fun _ _ => False) := by
  unfold ev evI at h ⊢
  exact h
theorem le_compK {own : List (Str × Nat)} {i : Nat} {xi : Str} {pi : Pos} {g : Tg} {ifs : Es} {e : Ex} {elt tg : Expr} {eifs : List Expr} {scope : Scope} {pos : Pos} (hsl : ∀ i ∈ slotsT g, i ∈ own.map (·.2)) (hsf : sfE e = true) (hc : X.calm = true) (hN : X.N.Nodup)
    (hi : PE X (.Name xi pi) (tVar i)) (ok : BlkOk X.N X.env.scope scope own)
    (hg : ∀ (s : Shared) (H : Hp) (C : Addr) (cl : List (Str × Addr)) (fp : List Addr), PG (X.blk s H scope (compEnvC scope cl C X.env) fp) tg (gOf W.K g))
    (ht : ∀ (s : Shared) (H : Hp) (D : Addr) (cl : List (Str × Addr)) (fp : List Addr), PTs (X.blk s H scope (compEnvC scope cl D X.env) fp) eifs (LTs W C ifs))
    (he : ∀ (s : Shared) (H : Hp) (D : Addr) (cl : List (Str × Addr)) (fp : List Addr), PE (X.blk s H scope (compEnvC scope cl D X.env) fp) elt (LE W C WF e)) : PE X (.ListComp elt [⟨tg, .Name xi pi, eifs, 0⟩] scope pos) (LE W C Wx (.comp (own.map (·.2)) (.keys i) g ifs e)) :=
  lock_read hC (pe_lc hc hN (li_keys (W := W) (C := C) (Wx := Wx) hi) ok hg ht he (fun _ => rfl)) (fun _ _ _ _ h => comp_keys h) (fun σ H Q h l => comp_read hC (fun R h => ⟨h, l⟩) hsl hsf h) fun _ _ _ _ h => comp_nox h
end
end Ze

/-! Dict comprehensions. -/
namespace Ze
open PySem PySem.Spec PyProof.Rows L2
section
variable {W : Wd} {C : Cl} {Wx : WX} {X : Cx} {σ : L2.St} {H : Hp} {O : Addr → Prop} {ρ : Env} {c : Nat}
theorem any_zip : ∀ {ks : List Key} {vs : List V} (k : Key), ks.length = vs.length → ((ks.zip vs).any fun kv => decide (kv.1 = k)) = ks.any fun q => decide (q = k)
  | [], [], _, _ => rfl
  | q :: ks, v :: vs, k, h => by
    show (decide (q = k) || (ks.zip vs).any fun kv => decide (kv.1 = k)) = (decide (q = k) || ks.any fun q => decide (q = k))
    rw [any_zip k (Nat.succ.inj h)]
theorem repl_rep : ∀ {ks : List Key} {xs : List PV} {vs : List V} (k : Key) {x : PV} {v : V}, ks.length = vs.length → RepL W H O xs vs → Rep W H O x v →
    ∃ vs', (ks.zip vs).map (fun kv => if kv.1 = k then (kv.1, v) else kv) = ks.zip vs' ∧ ks.length = vs'.length ∧ RepL W H O (replP k x ks xs) vs'
  | [], _, [], k, x, v, _, .nil, r => ⟨[], rfl, rfl, .nil⟩
  | _ :: _, _, [], k, x, v, hl, .nil, r => by cases hl
  | q :: ks, y :: xs, w :: vs, k, x, v, hl, .cons a b, r => by
    obtain ⟨vs', e1, e2, e3⟩ := repl_rep (ks := ks) (xs := xs) (vs := vs) k (Nat.succ.inj hl) b r
    by_cases e : q = k
    · refine ⟨v :: vs', ?_, congrArg (· + 1) e2, ?_⟩
      · show (if q = k then (q, v) else (q, w)) :: (ks.zip vs).map (fun kv => if kv.1 = k then (kv.1, v) else kv) = (q, v) :: ks.zip vs'
        rw [if_pos e, e1]
      · show RepL W H O ((if q = k then x else y) :: replP k x ks xs) (v :: vs')
        rw [if_pos e]; exact .cons r e3
    · refine ⟨w :: vs', ?_, congrArg (· + 1) e2, ?_⟩
      · show (if q = k then (q, v) else (q, w)) :: (ks.zip vs).map (fun kv => if kv.1 = k then (kv.1, v) else kv) = (q, w) :: ks.zip vs'
        rw [if_neg e, e1]
      · show RepL W H O ((if q = k then x else y) :: replP k x ks xs) (w :: vs')
        rw [if_neg e]; exact .cons a e3
theorem put_rep {ks : List Key} {xs : List PV} {vs : List V} (k : Key) {x : PV} {v : V} (hl : ks.length = vs.length) (l : RepL W H O xs vs) (r : Rep W H O x v) :
    ∃ vs', putK (ks.zip vs) k v = (putP k x ks xs).1.zip vs' ∧ (putP k x ks xs).1.length = vs'.length ∧ RepL W H O (putP k x ks xs).2 vs' := by
  unfold putK putP
  rw [any_zip k hl]
  by_cases e : (ks.any fun q => decide (q = k)) = true
  · rw [if_pos e, if_pos e]
    exact repl_rep k hl l r
  · rw [if_neg e, if_neg e]
    refine ⟨vs ++ [v], ?_, ?_, l.app (.one r)⟩
    · show ks.zip vs ++ [(k, v)] = (ks ++ [k]).zip (vs ++ [v])
      rw [List.zip_append hl]; rfl
    · show (ks ++ [k]).length = (vs ++ [v]).length
      rw [List.length_append, List.length_append, hl]; rfl
variable (hC : CMono C)
include hC
theorem dcomp_read {wi : TI} {own : List Nat} {w : It} {g : Tg} {ifs : Es} {ek e : Ex} {Q : VK} (hw : ∀ R, LI W C Wx w σ H R → wi σ H R) (hsl : ∀ i ∈ slotsT g, i ∈ own) (hsf : sfE e = true) (h : LE W C Wx (.dcomp own w g ifs ek e) σ H Q) :
    tDc wi (gOf W.K g) (LTs W C ifs) (LE W C WF ek) (LE W C WF e) own σ H Q := by
  obtain ⟨ρ, O, c, r, k, q⟩ := h
  unfold ev at q
  refine hw _ (li_of hC r k q (fun items c1 J H1 q1 s1 o1 wk => ?_) (fun _ _ z => z))
  intro D hD
  have r1 := r.sm s1 o1
  have nS : ¬ W.S D := fun z => W.tr o1.str z hD
  have nO : ¬ O D := fun z => r1.trk D z hD
  have own_ne : ∀ (i : Nat) (v : PV) (p : Addr), ρ[i]? = some (.ow v) → σ[i]? = some (some (.ref p)) → p ≠ D := fun i v p h1 h2 z => by
    obtain ⟨p', a, b, _⟩ := r1.ow i v h1
    rw [h2] at b; cases b
    exact r1.trk p a (by rw [z]; exact hD)
  generalize hF : (fun (v : PV) (ks : List Key) (vs : List PV) (c2 : Nat) (kk : List Key → List PV → Nat → Prop) => bindT g v (wipeE ρ own) fun ρ' => evTs C ifs ρ' c2 (fun b c3 => if b = true then
        ev C ek ρ' c3 (fun q c4 => ev C e ρ' c4 (fun y c5 => opt (keyOf q) fun key => ks.length < sizeLine ∧ kk (putP key y ks vs).1 (putP key y ks vs).2 c5) (fun _ _ => False)) (fun _ _ => False)
        else kk ks vs c3) (fun _ _ => False)) = F at q1
  generalize hKK : (fun (ks : List Key) (vs : List PV) (c2 : Nat) => KE W O (.dcomp own w g ifs ek e) H Q (.dic true ks vs) c2) = KK at q1
  refine ⟨fun i m H' => ∃ ks acc vs c', m + i = items.length ∧ Rl W ρ σ H' (fun a => O a ∨ a = D) ∧ Ok W H' c' ∧ Sm W.S H1 H' ∧ H' D = some (.dK (ks.zip vs)) ∧ ks.length = vs.length ∧ RepL W H' (fun a => O a ∨ a = D) acc vs ∧ eachD F (items.drop i) ks acc c' KK,
    ⟨items.length, [], [], [], c1, by omega, r1.new hD, o1.new hD, sm_upd hD, upd_same, rfl, .nil, by rw [List.drop_zero]; exact q1⟩, fun i m H' hW => ?_⟩
  obtain ⟨ks, acc, vs, c', hm, r2, o2, s2, hDv, hl, la, q2⟩ := hW
  have fx : Fx O (fun a => O a ∨ a = D) H1 H' := fun a o n h => ⟨s2 a o (fun z => n (r.sub a z)) h, fun z => z.elim n fun z => by rw [z, hD] at h; cases h⟩
  have wki := wk (fun a => O a ∨ a = D) H' fx r2.trk i
  cases hx : items[i]? with
  | none =>
    have hi : items.length ≤ i := List.getElem?_eq_none_iff.mp hx
    have hd : items.drop i = [] := List.drop_eq_nil_of_le hi
    rw [hd] at q2
    refine .inl ⟨wki.2 hi, ?_⟩
    have q3 : KK ks acc c' := q2
    rw [← hKK] at q3
    have rep : Rep W H' O (.dic true ks acc) (.ref D) := .dic (.inl hDv) nO (fun _ z => o1.era D z hD) hl (la.less fun a z => .inl z)
    exact q3 (.ref D) H' (s1.trans s2) o2 (.of rep) (fun _ => rep) fun _ => ⟨D, rfl, none_back s1 o1 hD, .inr ⟨_, _, _, vs, rfl, hDv, hl, la⟩⟩
  | some x =>
    obtain ⟨hi, _⟩ := List.getElem?_eq_some_iff.mp hx
    have hd : items.drop i = x :: items.drop (i + 1) := by
      rw [List.drop_eq_getElem_cons hi]
      have := List.getElem?_eq_getElem hi
      rw [hx] at this; cases this; rfl
    rw [hd] at q2
    have q3 : F x ks acc c' (fun ks' acc' c'' => eachD F (items.drop (i + 1)) ks' acc' c'' KK) := q2
    obtain ⟨go, yl⟩ := wki.1 x hx
    refine .inr ⟨go, fun H'' => ∃ ks' acc' vs' c'', Rl W ρ σ H'' (fun a => O a ∨ a = D) ∧ Ok W H'' c'' ∧ Sm W.S H1 H'' ∧ H'' D = some (.dK (ks'.zip vs')) ∧ ks'.length = vs'.length ∧ RepL W H'' (fun a => O a ∨ a = D) acc' vs' ∧ eachD F (items.drop (i + 1)) ks' acc' c'' KK,
      fun H'' ⟨ks', acc', vs', c'', a1, a2, a3, a4, a5, a6, a7⟩ => ⟨m - 1, by omega, ks', acc', vs', c'', by omega, a1, a2, a3, a4, a5, a6, a7⟩, fun v H3 hy => ?_⟩
    obtain ⟨h3, rx⟩ := yl v H3 hy
    obtain ⟨s3, o3⟩ := sm_step h3 o2
    have r3 := r2.sm s3 o3
    have hD3 := s3 D _ nS hDv
    have la3 := la.fm (s3.fm r2.sub)
    rw [← hF] at q3
    refine bind_ok g (Rl.wipe own r3) rx q3 fun ρ' σ' r4 q4 wp => ?_
    refine ⟨(wp own hsl).trans (wipe_twice own fun _ h => h), ρ', _, c', r4, o3, evTs_mono hC ifs ρ' c' (fun b c3 q5 H4 s4 o4 => ?_) (fun _ _ z => z) q4⟩
    have s34 := s3.trans s4
    have hD4 := s4 D _ nS hD3
    have la4 := la3.fm (s4.fm r2.sub)
    cases b with
    | false =>
      refine iteF ?_
      exact ⟨ks, acc, vs, c3, (r3.sm s4 o4), o4, s2.trans s34, hD4, hl, la4, by rw [hF] at q5; exact q5⟩
    | true =>
      refine iteT ?_
      have r5 := r4.sm s4 o4
      refine le_of hC r5 o4 q5 (fun kp c4 u H5 q6 s5 o5 r6 _ _ => ?_) (fun _ _ z => z.elim)
      have r7 := r5.sm s5 o5
      refine le_of hC r7 o5 q6 (fun y c5 u2 H6 q7 s6 o6 r8 sf _ => ?_) (fun _ _ z => z.elim)
      have ry := sf hsf
      have hD5 := s6 D _ nS (s5 D _ nS hD4)
      have la5 := (la4.fm (s5.fm r2.sub)).fm (s6.fm r2.sub)
      cases hk : keyOf kp with
      | none => rw [hk] at q7; exact q7.elim
      | some key =>
        rw [hk] at q7
        obtain ⟨hlen, q8⟩ := q7
        obtain ⟨vs', e1, e2, e3⟩ := put_rep key hl la5 ry
        refine ⟨_, key, keyOf_some hk r6, hD5, by rw [zip_len hl]; exact hlen, (putP key y ks acc).1, (putP key y ks acc).2, vs', c5, ?_, o6.put nS, ?_, ?_, e2, ?_, by rw [hF] at q8; exact q8⟩
        · exact (((r3.sm s4 o4).sm s5 o5).sm s6 o6).put (.inr rfl) own_ne
        · intro a o n h
          have ne : a ≠ D := fun z => by rw [z, hD] at h; cases h
          rw [upd_ne ne]
          exact (((s2.trans s34).trans s5).trans s6) a o n h
        · rw [upd_same, e1]
        · exact e3.fm (fm_own (.inr rfl))
theorem le_dcomp {own : List (Str × Nat)} {w : It} {g : Tg} {ifs : Es} {ek e : Ex} {kx vx tg iter : Expr} {eifs : List Expr} {scope : Scope} {pos : Pos} (hsl : ∀ i ∈ slotsT g, i ∈ own.map (·.2)) (hsf : sfE e = true) (hc : X.calm = true) (hN : X.N.Nodup)
    (hi : PI X tg iter (LI W C Wx w)) (ok : BlkOk X.N X.env.scope scope own)
    (hg : ∀ (s : Shared) (H : Hp) (C : Addr) (cl : List (Str × Addr)) (fp : List Addr), PG (X.blk s H scope (compEnvC scope cl C X.env) fp) tg (gOf W.K g))
    (ht : ∀ (s : Shared) (H : Hp) (D : Addr) (cl : List (Str × Addr)) (fp : List Addr), PTs (X.blk s H scope (compEnvC scope cl D X.env) fp) eifs (LTs W C ifs))
    (hk : ∀ (s : Shared) (H : Hp) (D : Addr) (cl : List (Str × Addr)) (fp : List Addr), PE (X.blk s H scope (compEnvC scope cl D X.env) fp) kx (LE W C WF ek))
    (he : ∀ (s : Shared) (H : Hp) (D : Addr) (cl : List (Str × Addr)) (fp : List Addr), PE (X.blk s H scope (compEnvC scope cl D X.env) fp) vx (LE W C WF e))
    (hs : ∀ x, foldedSetIterable iter X.env x = pure x) : PE X (.DictComp kx vx [⟨tg, iter, eifs, 0⟩] scope pos) (LE W C Wx (.dcomp (own.map (·.2)) w g ifs ek e)) :=
  pe_weak (pe_dc hc hN hi ok hg ht hk he hs) fun σ H Q h => dcomp_read hC (fun _ h => h) hsl hsf h
omit hC in
theorem dcomp_keys {own : List Nat} {i : Nat} {g : Tg} {ifs : Es} {ek e : Ex} {ρ : Env} {c : Nat} {k : Kp} {x : Xp} (h : ev C (.dcomp own (.keys i) g ifs ek e) ρ c k x) : ∃ b ks xs, ρ[i]? = some (.va (.dic b ks xs)) := by
  unfold ev evI slotV at h
  split at h <;> (try (exact h.elim))
  rename_i v hv
  cases v <;> (try (exact h.elim))
  exact ⟨_, _, _, hv⟩
omit hC in
theorem dcomp_nox {own : List Nat} {i : Nat} {g : Tg} {ifs : Es} {ek e : Ex} {ρ : Env} {c : Nat} {k : Kp} {x : Xp} (h : ev C (.dcomp own (.keys i) g ifs ek e) ρ c k x) : ev C (.dcomp own (.keys i) g ifs ek e) ρ c k (fun _ _ => False) := by
  unfold ev evI at h ⊢
  exact h
theorem le_dcompK {own : List (Str × Nat)} {i : Nat} {xi : Str} {pi : Pos} {g : Tg} {ifs : Es} {ek e : Ex} {kx vx tg : Expr} {eifs : List Expr} {scope : Scope} {pos : Pos} (hsl : ∀ i ∈ slotsT g, i ∈ own.map (·.2)) (hsf : sfE e = true) (hc : X.calm = true) (hN : X.N.Nodup)
    (hi : PE X (.Name xi pi) (tVar i)) (ok : BlkOk X.N X.env.scope scope own)
    (hg : ∀ (s : Shared) (H : Hp) (C : Addr) (cl : List (Str × Addr)) (fp : List Addr), PG (X.blk s H scope (compEnvC scope cl C X.env) fp) tg (gOf W.K g))
    (ht : ∀ (s : Shared) (H : Hp) (D : Addr) (cl : List (Str × Addr)) (fp : List Addr), PTs (X.blk s H scope (compEnvC scope cl D X.env) fp) eifs (LTs W C ifs))
    (hk : ∀ (s : Shared) (H : Hp) (D : Addr) (cl : List (Str × Addr)) (fp : List Addr), PE (X.blk s H scope (compEnvC scope cl D X.env) fp) kx (LE W C WF ek))
    (he : ∀ (s : Shared) (H : Hp) (D : Addr) (cl : List (Str × Addr)) (fp : List Addr), PE (X.blk s H scope (compEnvC scope cl D X.env) fp) vx (LE W C WF e)) : PE X (.DictComp kx vx [⟨tg, .Name xi pi, eifs, 0⟩] scope pos) (LE W C Wx (.dcomp (own.map (·.2)) (.keys i) g ifs ek e)) :=
  lock_read hC (pe_dc hc hN (li_keys (W := W) (C := C) (Wx := Wx) hi) ok hg ht hk he (fun _ => rfl)) (fun _ _ _ _ h => dcomp_keys h) (fun σ H Q h l => dcomp_read hC (fun R h => ⟨h, l⟩) hsl hsf h) fun _ _ _ _ h => dcomp_nox h
end
end Ze

/-! Statements: what is wanted may be weakened. -/
namespace Ze
open PySem PySem.Spec PyProof.Rows L2
structure EnLe (D D' : En) : Prop where
  nx : ∀ ρ c, D.nx ρ c → D'.nx ρ c
  rt : ∀ v c, D.rt v c → D'.rt v c
  bk : ∀ ρ c, D.bk ρ c → D'.bk ρ c
  ct : ∀ ρ c, D.ct ρ c → D'.ct ρ c
theorem eachS_mono {f f' : PV → Env → Nat → (Env → Nat → Prop) → (Env → Nat → Prop) → Prop} (hf : ∀ v ρ c (k k' b b' : Env → Nat → Prop), (∀ ρ c, k ρ c → k' ρ c) → (∀ ρ c, b ρ c → b' ρ c) → f v ρ c k b → f' v ρ c k' b') :
    ∀ (xs : List PV) (ρ : Env) (c : Nat) {k k' : Env → Nat → Prop}, (∀ ρ c, k ρ c → k' ρ c) → eachS f xs ρ c k → eachS f' xs ρ c k'
  | [], ρ, c, k, k', h, q => h _ _ q
  | x :: xs, ρ, c, k, k', h, q => hf _ _ _ _ _ _ _ (fun ρ' c' q => eachS_mono hf xs ρ' c' h q) h q
theorem whileN_mono {t t' : Env → Nat → (Bool → Nat → Prop) → Prop} {b b' : Env → Nat → (Env → Nat → Prop) → (Env → Nat → Prop) → Prop}
    (ht : ∀ ρ c (k k' : Bool → Nat → Prop), (∀ z c, k z c → k' z c) → t ρ c k → t' ρ c k') (hb : ∀ ρ c (k k' l l' : Env → Nat → Prop), (∀ ρ c, k ρ c → k' ρ c) → (∀ ρ c, l ρ c → l' ρ c) → b ρ c k l → b' ρ c k' l') :
    ∀ (n : Nat) (ρ : Env) (c : Nat) {k k' : Env → Nat → Prop}, (∀ ρ c, k ρ c → k' ρ c) → whileN t b n ρ c k → whileN t' b' n ρ c k'
  | 0, ρ, c, k, k', h, q => q
  | n + 1, ρ, c, k, k', h, q => ht _ _ _ _ (fun z c1 q => by
    cases z with
    | true => exact hb _ _ _ _ _ _ (fun ρ' c' q => whileN_mono ht hb n ρ' c' h q) h q
    | false => exact h _ _ q) q
section
variable {C : Cl} {n : Nat} (hC : CMono C)
include hC
mutual
theorem evS_mono : ∀ (e : Sm1) (ρ : Env) (c : Nat) {D D' : En} {x x' : Xp}, EnLe D D' → (∀ e c, x e c → x' e c) → evS C n e ρ c D x → evS C n e ρ c D' x'
  | .set i e, ρ, c, D, D', x, x', h, hx => by
    unfold evS; exact ev_mono hC e ρ c (fun v c1 q => h.nx _ _ q) hx
  | .own i e, ρ, c, D, D', x, x', h, hx => by
    unfold evS; exact ev_mono hC e ρ c (fun v c1 q => by cases v <;> first | exact q | exact h.nx _ _ q) hx
  | .frz i, ρ, c, D, D', x, x', h, hx => by
    unfold evS; exact slotO_mono fun v q => h.nx _ _ q
  | .app i e, ρ, c, D, D', x, x', h, hx => by
    unfold evS; exact slotO_mono fun l q => by
      cases l <;> first
        | exact q
        | exact ev_mono hC e ρ c (fun v c1 q => ⟨q.1, h.nx _ _ q.2⟩) hx q
  | .ext i e, ρ, c, D, D', x, x', h, hx => by
    unfold evS; exact slotO_mono fun l q => by
      cases l <;> first
        | exact q
        | exact ev_mono hC e ρ c (fun v c1 q => by cases v <;> first | exact q | exact ⟨q.1, h.nx _ _ q.2⟩) hx q
  | .put i ek e, ρ, c, D, D', x, x', h, hx => by
    unfold evS
    refine slotO_mono fun l q => ?_
    cases l <;> (try (exact q))
    exact ev_mono hC e ρ c (fun v c1 q => ev_mono hC ek ρ c1 (fun y c2 q => opt_mono (fun key q => ⟨q.1, h.nx _ _ q.2⟩) q) hx q) hx q
  | .sdef i ek e, ρ, c, D, D', x, x', h, hx => by
    unfold evS
    refine slotO_mono fun l q => ?_
    cases l <;> (try (exact q))
    refine ev_mono hC ek ρ c (fun v c1 q => ev_mono hC e ρ c1 (fun y c2 q => ?_) hx q) hx q
    refine opt_mono (fun key q => ⟨q.1, ?_⟩) q
    have q2 := q.2
    split at q2
    · rename_i hh; rw [if_pos hh]; exact h.nx _ _ q2
    · rename_i hh; rw [if_neg hh]; exact h.nx _ _ q2
  | .appPop i j e, ρ, c, D, D', x, x', h, hx => by
    unfold evS
    refine ev_mono hC e ρ c (fun v c1 q => slotO_mono (fun l q => ?_) q) hx
    cases l <;> (try (exact q))
    cases v <;> (try (exact q))
    exact opt_mono (fun a q => opt_mono (fun y q => slotO_mono (fun l q => by cases l <;> first | exact q | exact ⟨q.1, h.nx _ _ q.2⟩) q) q) q
  | .unp g e, ρ, c, D, D', x, x', h, hx => by
    unfold evS; exact ev_mono hC e ρ c (fun v c1 q => opt_mono (fun xs q => bindTs_mono g xs ρ (fun ρ' q => h.nx _ _ q) q) q) hx
  | .par i j a b, ρ, c, D, D', x, x', h, hx => by
    unfold evS; exact ev_mono hC a ρ c (fun v c1 q => ev_mono hC b ρ c1 (fun u c2 q => h.nx _ _ q) hx q) hx
  | .parO i j a b, ρ, c, D, D', x, x', h, hx => by
    unfold evS; exact ev_mono hC a ρ c (fun v c1 q => ev_mono hC b ρ c1 (fun u c2 q => by cases u <;> first | exact q | exact h.nx _ _ q) hx q) hx
  | .ite t a b, ρ, c, D, D', x, x', h, hx => by
    unfold evS
    exact ev_mono hC t ρ c (fun v c1 q => opt_mono (fun z q => by
      cases z
      · exact evSs_mono b ρ c1 h hx q
      · exact evSs_mono a ρ c1 h hx q) q) hx
  | .for_ w g b, ρ, c, D, D', x, x', h, hx => by
    unfold evS
    exact evI_mono hC w ρ c (fun items c1 q => eachS_mono (fun v ρ1 c2 k k' l l' hk hl q => bindT_mono g v ρ1 (fun ρ2 q => evSs_mono b ρ2 c2 (EnLe.mk (D := ⟨k, D.rt, l, k⟩) (D' := ⟨k', D'.rt, l', k'⟩) hk h.rt hl hk) hx q) q) items ρ c1 h.nx q) hx
  | .forK i g b, ρ, c, D, D', x, x', h, hx => by
    unfold evS
    exact evI_mono hC (.keys i) ρ c (fun items c1 q => eachS_mono (fun v ρ1 c2 k k' l l' hk hl q => bindT_mono g v ρ1 (fun ρ2 q => evSs_mono b ρ2 c2 (EnLe.mk (D := ⟨k, D.rt, l, k⟩) (D' := ⟨k', D'.rt, l', k'⟩) hk h.rt hl hk) (fun _ _ z => z) q) q) items ρ c1 h.nx q) (fun _ _ z => z)
  | .whl t b, ρ, c, D, D', x, x', h, hx => by
    unfold evS
    exact whileN_mono (fun ρ1 c1 k k' hk q => ev_mono hC t ρ1 c1 (fun v c2 q => opt_mono (fun z q => hk _ _ q) q) hx q) (fun ρ1 c1 k k' l l' hk hl q => evSs_mono b ρ1 c1 (EnLe.mk (D := ⟨k, D.rt, l, k⟩) (D' := ⟨k', D'.rt, l', k'⟩) hk h.rt hl hk) hx q) n ρ c h.nx
  | .ret e, ρ, c, D, D', x, x', h, hx => by unfold evS; exact ev_mono hC e ρ c h.rt hx
  | .retN, ρ, c, D, D', x, x', h, hx => by unfold evS; exact h.rt _ _
  | .rais cl f e, ρ, c, D, D', x, x', h, hx => by unfold evS; exact ev_mono hC e ρ c (fun v c1 q => hx _ _ q) hx
  | .expr e, ρ, c, D, D', x, x', h, hx => by unfold evS; exact ev_mono hC e ρ c (fun v c1 q => h.nx _ _ q) hx
  | .pass, ρ, c, D, D', x, x', h, hx => by unfold evS; exact h.nx _ _
  | .brk, ρ, c, D, D', x, x', h, hx => by unfold evS; exact h.bk _ _
  | .cont, ρ, c, D, D', x, x', h, hx => by unfold evS; exact h.ct _ _
  | .nev, ρ, c, D, D', x, x', h, hx => by unfold evS; exact id
theorem evSs_mono : ∀ (e : Sm2) (ρ : Env) (c : Nat) {D D' : En} {x x' : Xp}, EnLe D D' → (∀ e c, x e c → x' e c) → evSs C n e ρ c D x → evSs C n e ρ c D' x'
  | .nil, ρ, c, D, D', x, x', h, hx => by unfold evSs; exact h.nx _ _
  | .cons a r, ρ, c, D, D', x, x', h, hx => by
    unfold evSs
    exact evS_mono a ρ c ⟨fun ρ' c' q => evSs_mono r ρ' c' h hx q, h.rt, h.bk, h.ct⟩ hx
end
end

/-! ### how a statement's reading follows -/
structure Bs (W : Wd) (H0 : Hp) (Ob : Addr → Prop) (ρ : Env) (σ : L2.St) (H : Hp) (O : Addr → Prop) : Prop where
  rl : Rl W ρ σ H O
  base : ∀ a, Ob a → O a
  obt : ∀ a, Ob a → H0 a ≠ none
  sm : Sm W.S H0 H
  fr : ∀ (i : Nat) (v : PV) (p : Addr), ρ[i]? = some (.ow v) → σ[i]? = some (some (.ref p)) → H0 p = none
def EnD (W : Wd) (H0 : Hp) (Ob : Addr → Prop) (O : Addr → Prop) (H : Hp) (D : Ends) : En where
  nx := fun ρ' c' => ∀ σ' H' O', Bs W H0 Ob ρ' σ' H' O' → Ok W H' c' → Fx O O' H H' → D.nx σ' H'
  rt := fun pv c' => ∀ v H', Ok W H' c' → Sm W.S H0 H' → Rep W H' Ob pv v → D.rt v H'
  bk := fun ρ' c' => ∀ σ' H' O', Bs W H0 Ob ρ' σ' H' O' → Ok W H' c' → Fx O O' H H' → D.bk σ' H'
  ct := fun ρ' c' => ∀ σ' H' O', Bs W H0 Ob ρ' σ' H' O' → Ok W H' c' → Fx O O' H H' → D.ct σ' H'
def XS (W : Wd) (H0 : Hp) (Ob : Addr → Prop) (Wx : WX) : Xp := fun er c' => ∀ cls d σ' H', Sm W.S H0 H' → Ok W H' c' → ErR W H' Ob er cls d → Wx cls d σ' H'
def LS (W : Wd) (C : Cl) (n : Nat) (Wx : WX) (st : Sm1) : TS := fun D σ H => ∃ H0 Ob ρ O c, Bs W H0 Ob ρ σ H O ∧ Ok W H c ∧ evS C n st ρ c (EnD W H0 Ob O H D) (XS W H0 Ob Wx)
def LSs (W : Wd) (C : Cl) (n : Nat) (Wx : WX) (st : Sm2) : TS := fun D σ H => ∃ H0 Ob ρ O c, Bs W H0 Ob ρ σ H O ∧ Ok W H c ∧ evSs C n st ρ c (EnD W H0 Ob O H D) (XS W H0 Ob Wx)
theorem ErR.less {W : Wd} {H : Hp} {O O' : Addr → Prop} {er : Er} {cls : Value} {d : Option Addr} (h : ∀ a, O' a → O a) (e : ErR W H O er cls d) : ErR W H O' er cls d := by
  obtain ⟨C, dx, v, a, b, c, f, r⟩ := e
  exact ⟨C, dx, v, a, b, c, f, r.less h⟩
section
variable {W : Wd} {C : Cl} {n : Nat} {Wx : WX} {X : Cx} {σ : L2.St} {H H0 : Hp} {O Ob : Addr → Prop} {ρ : Env} {c : Nat}
theorem Bs.smx {H' : Hp} {c' : Nat} (b : Bs W H0 Ob ρ σ H O) (s : Sm W.S H H') (k : Ok W H' c') : Bs W H0 Ob ρ σ H' O := ⟨b.rl.sm s k, b.base, b.obt, b.sm.trans s, b.fr⟩
theorem xs_xe {er : Er} {c' : Nat} (b : Bs W H0 Ob ρ σ H O) (x : XS W H0 Ob Wx er c') : XE W O σ H Wx er c' := fun cls d H' s k e => x cls d σ H' (b.sm.trans s) k (e.less b.base)
theorem EnD.later {O' : Addr → Prop} {H' : Hp} {D : Ends} (f : Fx O O' H H') : EnLe (EnD W H0 Ob O H D) (EnD W H0 Ob O' H' D) :=
  ⟨fun ρ c q σ2 H2 O2 b k f2 => q σ2 H2 O2 b k (f.trans f2), fun v c q => q, fun ρ c q σ2 H2 O2 b k f2 => q σ2 H2 O2 b k (f.trans f2), fun ρ c q σ2 H2 O2 b k f2 => q σ2 H2 O2 b k (f.trans f2)⟩
theorem ps_weak {st : Stmt} {t t' : TS} (h : PS X st t) (w : ∀ D σ H, t' D σ H → t D σ H) : PS X st t' := ⟨fun pins s σ H D I q => h.run pins s σ H D I (w D σ H q)⟩
theorem pss_weak {st : List Stmt} {t t' : TS} (h : PSs X st t) (w : ∀ D σ H, t' D σ H → t D σ H) : PSs X st t' := ⟨fun pins s σ H D I q => h.run pins s σ H D I (w D σ H q)⟩
variable (hC : CMono C)
include hC
theorem ls_le {e : Ex} {Q : VK} {k : Kp} (b : Bs W H0 Ob ρ σ H O) (o : Ok W H c) (h : ev C e ρ c k (XS W H0 Ob Wx))
    (hk : ∀ pv c' v H', k pv c' → Sm W.S H H' → Bs W H0 Ob ρ σ H' O → Ok W H' c' → RepR W H' O pv v → (sfE e = true → Rep W H' O pv v) → (frE e = true → Fresh W O H H' pv v) → Q v H') : LE W C Wx e σ H Q :=
  le_of hC b.rl o h (fun pv c' v H' q s k r sf fr => hk pv c' v H' q s (b.smx s k) k r sf fr) fun er c' x => xs_xe b x
/-! ### blocks -/
omit hC in
theorem lss_nil : PSs X [] (LSs W C n Wx .nil) := pss_weak pss_nil fun D σ H ⟨H0, Ob, ρ, O, c, b, k, q⟩ => by
  unfold evSs at q
  exact q σ H O b k .refl
theorem lss_cons {a : Sm1} {r : Sm2} {sa : Stmt} {sr : List Stmt} (ha : PS X sa (LS W C n Wx a)) (hr : PSs X sr (LSs W C n Wx r)) : PSs X (sa :: sr) (LSs W C n Wx (.cons a r)) :=
  pss_weak (pss_cons ha hr) fun D σ H ⟨H0, Ob, ρ, O, c, b, k, q⟩ => by
    unfold evSs at q
    refine ⟨H0, Ob, ρ, O, c, b, k, evS_mono hC a ρ c (EnLe.mk (D := { EnD W H0 Ob O H D with nx := fun ρ' c' => evSs C n r ρ' c' (EnD W H0 Ob O H D) (XS W H0 Ob Wx) }) (D' := EnD W H0 Ob O H { D with nx := fun σ' H' => LSs W C n Wx r D σ' H' }) (fun ρ' c' q σ' H' O' b' k' f => ?_) (fun _ _ q => q) (fun _ _ q => q) (fun _ _ q => q)) (fun _ _ z => z) q⟩
    exact ⟨H0, Ob, ρ', O', c', b', k', evSs_mono hC r ρ' c' (EnD.later f) (fun _ _ z => z) q⟩
/-! ### x = e -/
omit hC in
theorem Bs.va_set {i : Nat} {v : PV} {x : V} (b : Bs W H0 Ob ρ σ H O) (rv : Rep W H O v x) : Bs W H0 Ob (ρ.set i (.va v)) (σ.set i (some x)) H O :=
  ⟨b.rl.va_set rv, b.base, b.obt, b.sm, fun j u p h1 h2 => by
    rcases set_get h1 with ⟨rfl, e, hl⟩ | ⟨ne, h1⟩
    · cases e
    · rw [List.getElem?_set_ne (Ne.symm ne)] at h2
      exact b.fr j u p h1 h2⟩
end
end Ze

/-! The single statements. -/
namespace Ze
open PySem PySem.Spec PyProof.Rows L2
section
variable {W : Wd} {C : Cl} {n : Nat} {Wx : WX} {X : Cx} {σ : L2.St} {H H0 : Hp} {O Ob : Addr → Prop} {ρ : Env} {c : Nat}

theorem none_sm {S : Addr → Prop} {H H1 : Hp} {c1 : Nat} {p : Addr} {W : Wd} (s : Sm W.S H H1) (k : Ok W H1 c1) (hp : H1 p = none) : H p = none := none_back s k hp
/-- x = a new thing of one's own -/
theorem Bs.own {i : Nat} {pv : PV} {p : Addr} {H1 : Hp} {c1 : Nat} (b : Bs W H0 Ob ρ σ H O) (s : Sm W.S H H1) (k0 : Ok W H c) (k : Ok W H1 c1) (hp : H p = none) (f : FreshAt W O H1 pv p) :
    Bs W H0 Ob (ρ.set i (.ow pv)) (σ.set i (some (.ref p))) H1 (fun a => O a ∨ a = p) ∧ Fx O (fun a => O a ∨ a = p) H H1 := by
  have fx : Fx O (fun a => O a ∨ a = p) H H1 := fun a o n h => ⟨s a o (fun z => n (b.rl.sub a z)) h, fun z => z.elim n fun z => by rw [z, hp] at h; cases h⟩
  have r1 := b.rl.sm s k
  have nS : ¬ W.S p := fun z => W.tr k0.str z hp
  have nB : ¬ W.B p := fun z => k0.era p z hp
  have h1 : H1 p ≠ none := by
    rcases f with ⟨_, _, _, _, e, _⟩ | ⟨_, _, _, _, _, e, _⟩ <;> rw [e] <;> exact fun z => nomatch z
  have ne : ∀ (j : Nat) (u : PV) (q : Addr), ρ[j]? = some (.ow u) → σ[j]? = some (some (.ref q)) → q ≠ p := fun j u q e1 e2 z => by
    obtain ⟨q', a, e, _⟩ := b.rl.ow j u e1
    rw [e2] at e; cases e
    exact b.rl.trk q a (by rw [z]; exact hp)
  refine ⟨⟨⟨by rw [List.length_set, List.length_set]; exact b.rl.len, fun a z => .inl (b.rl.sub a z), fun a z => ?_, fun j u h => ?_, fun j u h => ?_, fun j l u w q e1 e2 e3 e4 => ?_⟩, fun a z => .inl (b.base a z), b.obt, b.sm.trans s, fun j u q e1 e2 => ?_⟩, fx⟩
  · rcases z with z | rfl
    · exact r1.trk a z
    · exact h1
  · rcases set_get h with ⟨rfl, e, hl⟩ | ⟨nj, h⟩
    · cases e
    · obtain ⟨y, e, ry⟩ := b.rl.va j u h
      exact ⟨y, by rw [List.getElem?_set_ne (Ne.symm nj)]; exact e, ry.fm fx.fm⟩
  · rcases set_get h with ⟨rfl, e, hl⟩ | ⟨nj, h⟩
    · cases e
      refine ⟨p, .inr rfl, by rw [List.getElem?_set_self (by rw [b.rl.len]; exact hl)], nS, ?_⟩
      rcases f with ⟨t, xs, vs, e, a, l⟩ | ⟨t, ks, xs, vs, e, a, g, l⟩
      · exact .inl ⟨t, xs, vs, e, a, fun _ => nB, l⟩
      · exact .inr ⟨t, ks, xs, vs, e, a, fun _ => nB, g, l⟩
    · obtain ⟨q, a, e, m, d⟩ := b.rl.ow j u h
      refine ⟨q, .inl a, by rw [List.getElem?_set_ne (Ne.symm nj)]; exact e, m, ?_⟩
      rcases d with ⟨t, xs, vs, e, a, f, l⟩ | ⟨t, ks, xs, vs, e, a, f, g, l⟩
      · exact .inl ⟨t, xs, vs, e, s _ _ m a, f, l.fm fx.fm⟩
      · exact .inr ⟨t, ks, xs, vs, e, s _ _ m a, f, g, l.fm fx.fm⟩
  · rcases set_get e1 with ⟨rfl, e, hl⟩ | ⟨n1, f1⟩
    · rcases set_get e2 with ⟨rfl, e, hl⟩ | ⟨n2, f2⟩
      · rfl
      · rw [List.getElem?_set_self (by rw [b.rl.len]; exact hl)] at e3
        cases e3
        rw [List.getElem?_set_ne (Ne.symm n2)] at e4
        exact absurd rfl (ne l w p f2 e4)
    · rw [List.getElem?_set_ne (Ne.symm n1)] at e3
      rcases set_get e2 with ⟨rfl, e, hl⟩ | ⟨n2, f2⟩
      · rw [List.getElem?_set_self (by rw [b.rl.len]; exact hl)] at e4
        cases e4
        exact absurd rfl (ne j u p f1 e3)
      · rw [List.getElem?_set_ne (Ne.symm n2)] at e4
        exact b.rl.inj j l u w q f1 f2 e3 e4
  · rcases set_get e1 with ⟨rfl, e, hl⟩ | ⟨n1, f1⟩
    · rw [List.getElem?_set_self (by rw [b.rl.len]; exact hl)] at e2
      cases e2
      exact none_back b.sm k0 hp
    · rw [List.getElem?_set_ne (Ne.symm n1)] at e2
      exact b.fr j u q f1 e2
/-- a thing of one's own is given away: it is not changed any more -/
theorem Bs.frz {i : Nat} {pv : PV} (b : Bs W H0 Ob ρ σ H O) (h : ρ[i]? = some (.ow pv)) : ∃ p, Bs W H0 Ob (ρ.set i (.va pv)) σ H (fun a => O a ∧ a ≠ p) ∧ Fx O (fun a => O a ∧ a ≠ p) H H := by
  obtain ⟨p, ho, e, m, d⟩ := b.rl.ow i pv h
  have less : ∀ a, (O a ∧ a ≠ p) → O a := fun a z => z.1
  have nS : ∀ a, W.S a → a ≠ p := fun a z e => m (e ▸ z)
  have nOb : ∀ a, Ob a → a ≠ p := fun a z e2 => b.obt a z (e2 ▸ b.fr i pv p h e)
  refine ⟨p, ⟨⟨by rw [List.length_set]; exact b.rl.len, fun a z => ⟨b.rl.sub a z, nS a z⟩, fun a z => b.rl.trk a z.1, fun j u h2 => ?_, fun j u h2 => ?_, fun j l u w q e1 e2 e3 e4 => ?_⟩, fun a z => ⟨b.base a z, nOb a z⟩, b.obt, b.sm, fun j u q e1 e2 => ?_⟩, fx_less less⟩
  · rcases set_get h2 with ⟨rfl, e2, hl⟩ | ⟨nj, h2⟩
    · cases e2
      refine ⟨_, e, ?_⟩
      rcases d with ⟨t, xs, vs, rfl, a, f, l⟩ | ⟨t, ks, xs, vs, rfl, a, f, g, l⟩
      · exact .lst a (fun z => z.2 rfl) f (l.less less)
      · exact .dic (.inl a) (fun z => z.2 rfl) f g (l.less less)
    · obtain ⟨y, e2, ry⟩ := b.rl.va j u h2
      exact ⟨y, e2, ry.less less⟩
  · rcases set_get h2 with ⟨rfl, e2, hl⟩ | ⟨nj, h2⟩
    · cases e2
    · obtain ⟨q, a, e2, m2, d2⟩ := b.rl.ow j u h2
      have nq : q ≠ p := fun z => nj (b.rl.inj j i u pv (.ref p) h2 h (by rw [← z]; exact e2) e)
      refine ⟨q, ⟨a, nq⟩, e2, m2, ?_⟩
      rcases d2 with ⟨t, xs, vs, e, a, f, l⟩ | ⟨t, ks, xs, vs, e, a, f, g, l⟩
      · exact .inl ⟨t, xs, vs, e, a, f, l.less less⟩
      · exact .inr ⟨t, ks, xs, vs, e, a, f, g, l.less less⟩
  · rcases set_get e1 with ⟨rfl, e, hl⟩ | ⟨n1, e1⟩
    · cases e
    · rcases set_get e2 with ⟨rfl, e, hl⟩ | ⟨n2, e2⟩
      · cases e
      · exact b.rl.inj j l u w q e1 e2 e3 e4
  · rcases set_get e1 with ⟨rfl, e, hl⟩ | ⟨n1, e1⟩
    · cases e
    · exact b.fr j u q e1 e2
/-- a thing of one's own is changed -/
theorem Bs.chg {i : Nat} {pv pv' : PV} {p : Addr} {o : HO} (b : Bs W H0 Ob ρ σ H O) (h : ρ[i]? = some (.ow pv)) (e : σ[i]? = some (some (.ref p)))
    (hd : (∃ t xs vs, pv' = .lst t xs ∧ o = .lst vs ∧ (t = true → ¬ W.B p) ∧ RepL W H O xs vs) ∨ (∃ t ks xs vs, pv' = .dic t ks xs ∧ o = .dK (ks.zip vs) ∧ (t = true → ¬ W.B p) ∧ ks.length = vs.length ∧ RepL W H O xs vs)) :
    Bs W H0 Ob (ρ.set i (.ow pv')) σ (upd H p o) O ∧ Fx O O H (upd H p o) := by
  obtain ⟨p', ho, e', m, _⟩ := b.rl.ow i pv h
  rw [e] at e'; cases e'
  have hf : H0 p = none := b.fr i pv p h e
  have fx : Fx O O H (upd H p o) := fx_own ho
  refine ⟨⟨⟨by rw [List.length_set]; exact b.rl.len, b.rl.sub, fun a z => ?_, fun j u h2 => ?_, fun j u h2 => ?_, fun j l u w q e1 e2 e3 e4 => ?_⟩, b.base, b.obt, fun a u na ha => ?_, fun j u q e1 e2 => ?_⟩, fx⟩
  · by_cases z2 : a = p
    · rw [z2, upd_same]; exact fun z => nomatch z
    · rw [upd_ne z2]; exact b.rl.trk a z
  · rcases set_get h2 with ⟨rfl, e2, hl⟩ | ⟨nj, h2⟩
    · cases e2
    · obtain ⟨y, e2, ry⟩ := b.rl.va j u h2
      exact ⟨y, e2, ry.fm fx.fm⟩
  · rcases set_get h2 with ⟨rfl, e2, hl⟩ | ⟨nj, h2⟩
    · cases e2
      refine ⟨p, ho, e, m, ?_⟩
      rcases hd with ⟨t, xs, vs, e, rfl, f, l⟩ | ⟨t, ks, xs, vs, e, rfl, f, g, l⟩
      · exact .inl ⟨t, xs, vs, e, upd_same, f, l.fm fx.fm⟩
      · exact .inr ⟨t, ks, xs, vs, e, upd_same, f, g, l.fm fx.fm⟩
    · obtain ⟨q, a, e2, m2, d2⟩ := b.rl.ow j u h2
      have nq : q ≠ p := fun z => nj (b.rl.inj j i u pv (.ref p) h2 h (by rw [← z]; exact e2) e)
      refine ⟨q, a, e2, m2, ?_⟩
      rcases d2 with ⟨t, xs, vs, e, a, f, l⟩ | ⟨t, ks, xs, vs, e, a, f, g, l⟩
      · exact .inl ⟨t, xs, vs, e, by rw [upd_ne nq]; exact a, f, l.fm fx.fm⟩
      · exact .inr ⟨t, ks, xs, vs, e, by rw [upd_ne nq]; exact a, f, g, l.fm fx.fm⟩
  · have old : ∀ (j : Nat) (u : PV), (ρ.set i (.ow pv'))[j]? = some (.ow u) → ∃ u', ρ[j]? = some (.ow u') := fun j u z => by
      rcases set_get z with ⟨rfl, _, _⟩ | ⟨_, z⟩
      · exact ⟨pv, h⟩
      · exact ⟨u, z⟩
    obtain ⟨u', e1⟩ := old j u e1
    obtain ⟨w', e2⟩ := old l w e2
    exact b.rl.inj j l u' w' q e1 e2 e3 e4
  · rw [upd_ne (ne_of_none ha hf)]
    exact b.sm a u na ha
  · rcases set_get e1 with ⟨rfl, _, _⟩ | ⟨_, e1⟩
    · rw [e] at e2; cases e2; exact hf
    · exact b.fr j u q e1 e2
end
end Ze

/-! The statements' readings. -/
namespace Ze
open PySem PySem.Spec PyProof.Rows L2
section
variable {W : Wd} {C : Cl} {n : Nat} {Wx : WX} {X : Cx} {σ : L2.St} {H H0 : Hp} {O Ob : Addr → Prop} {ρ : Env} {c : Nat}

theorem Bs.out {H1 : Hp} (b : Bs W H0 Ob ρ σ H O) {c1 : Nat} {pv : PV} {v : V} (s : Sm W.S H H1) (r : Rep W H1 O pv v) : Sm W.S H0 H1 ∧ Rep W H1 Ob pv v := ⟨b.sm.trans s, r.less b.base⟩
theorem Bs.fxs {H1 : Hp} (b : Bs W H0 Ob ρ σ H O) (s : Sm W.S H H1) : Fx O O H H1 := s.fx b.rl.sub
/-- a tuple or a list of that many -/
def gSeq (K : PySem.W.Frag) (n : Nat) (t : TGs) : TG := fun v σ H Q => ∃ a xs, v = .ref a ∧ (SqT K H a xs ∨ SqL K H a xs) ∧ xs.length = n ∧ t xs σ H Q
/-! ### from the slots -/
theorem L2_wipe_get {i : Nat} : ∀ (vs : List Nat) {σ : L2.St}, i ∉ vs → (L2.wipe σ vs)[i]? = σ[i]?
  | [], _, _ => rfl
  | v :: vs, σ, h => by
    show ((L2.wipe σ vs).set v none)[i]? = _
    rw [List.getElem?_set_ne (fun e => h (by rw [e]; exact List.mem_cons_self)), L2_wipe_get vs fun z => h (List.mem_cons_of_mem _ z)]
mutual
theorem bindT_ow : ∀ (g : Tg) {v : PV} {ρ : Env} {k : Env → Prop}, bindT g v ρ k → bindT g v ρ fun ρ' => k ρ' ∧ ∀ i v, ρ'[i]? = some (.ow v) → ρ[i]? = some (.ow v) ∧ i ∉ slotsT g
  | .nm i, v, ρ, k, h => by
    unfold bindT at h ⊢
    refine ⟨h, fun j u hj => ?_⟩
    rcases set_get hj with ⟨_, e, _⟩ | ⟨ne, hj⟩
    · cases e
    · exact ⟨hj, by simp [slotsT, ne]⟩
  | .tp ts, v, ρ, k, h => by
    unfold bindT at h ⊢
    cases v <;> (try (exact h.elim))
    exact bindTs_ow ts h
theorem bindTs_ow : ∀ (g : Tgs) {v : List PV} {ρ : Env} {k : Env → Prop}, bindTs g v ρ k → bindTs g v ρ fun ρ' => k ρ' ∧ ∀ i v, ρ'[i]? = some (.ow v) → ρ[i]? = some (.ow v) ∧ i ∉ slotsTs g
  | .nil, v, ρ, k, h => by
    unfold bindTs at h ⊢
    exact ⟨h.1, h.2, fun i v z => ⟨z, by simp [slotsTs]⟩⟩
  | .cons t ts, v, ρ, k, h => by
    unfold bindTs at h ⊢
    cases v with
    | nil => exact h.elim
    | cons y ys =>
      refine bindT_mono t y ρ (fun ρ' h2 => ?_) (bindT_ow t h)
      refine bindTs_mono ts ys ρ' (fun ρ2 h3 => ⟨h3.1, fun i v z => ?_⟩) (bindTs_ow ts h2.1)
      obtain ⟨a, na⟩ := h3.2 i v z
      obtain ⟨b, nb⟩ := h2.2 i v a
      exact ⟨b, by simp [slotsTs, na, nb]⟩
end
theorem bs_of {ρ' : Env} {σ' : L2.St} {g : List Nat} (b : Bs W H0 Ob ρ σ H O) (r : Rl W ρ' σ' H O) (h : ∀ i v, ρ'[i]? = some (.ow v) → ρ[i]? = some (.ow v) ∧ i ∉ g) (w : ∀ vs, (∀ i ∈ g, i ∈ vs) → L2.wipe σ' vs = L2.wipe σ vs) : Bs W H0 Ob ρ' σ' H O :=
  ⟨r, b.base, b.obt, b.sm, fun i v p e1 e2 => by
    obtain ⟨e3, n⟩ := h i v e1
    refine b.fr i v p e3 ?_
    rw [← L2_wipe_get g n, ← w g fun _ z => z, L2_wipe_get g n]
    exact e2⟩
theorem bs_bind {g : Tg} {v : PV} {x : V} {k : Env → Prop} {Q : L2.St → Hp → Prop} (b : Bs W H0 Ob ρ σ H O) (rv : Rep W H O v x) (h : bindT g v ρ k) (hq : ∀ ρ' σ', Bs W H0 Ob ρ' σ' H O → k ρ' → Q σ' H) : gOf W.K g x σ H Q :=
  bind_ok g b.rl rv (bindT_ow g h) fun ρ' σ' r q w => hq ρ' σ' (bs_of b r q.2 w) q.1
theorem bs_binds {g : Tgs} {v : List PV} {x : List V} {k : Env → Prop} {Q : L2.St → Hp → Prop} (b : Bs W H0 Ob ρ σ H O) (rv : RepL W H O v x) (h : bindTs g v ρ k) (hq : ∀ ρ' σ', Bs W H0 Ob ρ' σ' H O → k ρ' → Q σ' H) : gsOf W.K g x σ H Q :=
  binds_ok g b.rl rv (bindTs_ow g h) fun ρ' σ' r q w => hq ρ' σ' (bs_of b r q.2 w) q.1

variable (hC : CMono C)
include hC
/-! ### x = e -/
theorem ls_set {i : Nat} {e : Ex} {st : Stmt} (hf : sfE e = true) (h : PS X st (tAsg (LE W C Wx e) (gName i))) : PS X st (LS W C n Wx (.set i e)) :=
  ps_weak h fun D σ H ⟨H0, Ob, ρ, O, c, b, k, q⟩ => by
    unfold evS at q
    refine ls_le hC b k q fun pv c1 v H1 q1 s1 b1 k1 r1 sf _ => ?_
    exact q1 _ H1 O (b1.va_set (sf hf)) k1 (b.fxs s1)
theorem ls_own {i : Nat} {e : Ex} {st : Stmt} (hf : frE e = true) (h : PS X st (tAsg (LE W C Wx e) (gName i))) : PS X st (LS W C n Wx (.own i e)) :=
  ps_weak h fun D σ H ⟨H0, Ob, ρ, O, c, b, k, q⟩ => by
    unfold evS at q
    refine ls_le hC b k q fun pv c1 v H1 q1 s1 b1 k1 r1 _ fr => ?_
    obtain ⟨p, rfl, hp, fa⟩ := fr hf
    obtain ⟨b2, fx⟩ := b.own (i := i) s1 k k1 hp fa
    cases pv <;> (try (exact q1.elim))
    · exact q1 _ H1 _ b2 k1 fx
    · exact q1 _ H1 _ b2 k1 fx
omit hC in
/-- no text of its own -/
theorem lss_frz {i : Nat} {r : Sm2} {st : List Stmt} (hC : CMono C) (h : PSs X st (LSs W C n Wx r)) : PSs X st (LSs W C n Wx (.cons (.frz i) r)) :=
  pss_weak h fun D σ H ⟨H0, Ob, ρ, O, c, b, k, q⟩ => by
    unfold evSs evS slotO at q
    split at q <;> (try (exact q.elim))
    rename_i v hv
    obtain ⟨p, b2, fx⟩ := b.frz hv
    exact ⟨H0, Ob, _, _, c, b2, k, evSs_mono hC r _ c (EnD.later fx) (fun _ _ z => z) q⟩
theorem ls_par {i j : Nat} {a b : Ex} {st : Stmt} (hf : sfE a = true) (hg : sfE b = true) (h : PS X st (tPar i j (LA W C Wx (.cons a (.cons b .nil))))) : PS X st (LS W C n Wx (.par i j a b)) :=
  ps_weak h fun D σ H ⟨H0, Ob, ρ, O, c, b, k, q⟩ => by
    unfold evS at q
    refine ⟨ρ, O, c, b.rl, k, ?_⟩
    unfold evs
    refine ev_mono hC _ ρ c (fun v c1 q1 => ?_) (fun er c' x => xs_xe b x) q
    unfold evs
    refine ev_mono hC _ ρ c1 (fun u c2 q2 => ?_) (fun er c' x => xs_xe b x) q1
    unfold evs
    intro vs H1 s1 k1 rl
    cases rl with
    | cons r1 rr =>
      cases rr with
      | cons r2 rr =>
        cases rr
        exact ⟨_, _, rfl, q2 _ H1 O (((b.smx s1 k1).va_set r1).va_set r2) k1 (b.fxs s1)⟩
/-- two things, the second a new one -/
def LAo (W : Wd) (C : Cl) (Wx : WX) (a b : Ex) : TA := fun σ H Q => ∃ ρ O c, Rl W ρ σ H O ∧ Ok W H c ∧ ev C a ρ c (fun p c1 => ev C b ρ c1 (fun u c2 => ∀ v w H1 H2, Sm W.S H H1 → Ok W H1 c1 → Rep W H1 O p v → Sm W.S H1 H2 → Ok W H2 c2 → Fresh W O H1 H2 u w → Q [v, w] H2) (XE W O σ H Wx)) (XE W O σ H Wx)
theorem lao {a b : Ex} {ea eb : Expr} (ha : noStar ea = true) (hb : noStar eb = true) (hf : sfE a = true) (hg : frE b = true) (pa : PE X ea (LE W C Wx a)) (pb : PE X eb (LE W C Wx b)) : PA X [ea, eb] (LAo W C Wx a b) :=
  pa_weak (pa_cons pa (pa_cons pb pa_nil (starEach_no hb)) (starEach_no ha)) fun σ H Q ⟨ρ, O, c, r, k, q⟩ => by
    refine le_of hC r k q (fun p c1 v H1 q1 s1 o1 r1 sf1 _ => ?_) (fun _ _ z => z)
    refine le_of hC (r.sm s1 o1) o1 q1 (fun u c2 w H2 q2 s2 o2 r2 _ fr => ?_) (fun _ _ z => z.sm s1)
    exact q2 v w H1 H2 s1 o1 (sf1 hf) s2 o2 (fr hg)
theorem ls_parO {i j : Nat} {a b : Ex} {st : Stmt} (h : PS X st (tPar i j (LAo W C Wx a b))) : PS X st (LS W C n Wx (.parO i j a b)) :=
  ps_weak h fun D σ H ⟨H0, Ob, ρ, O, c, b, k, q⟩ => by
    unfold evS at q
    refine ⟨ρ, O, c, b.rl, k, ?_⟩
    refine ev_mono hC _ ρ c (fun v c1 q1 => ?_) (fun er c' x => xs_xe b x) q
    refine ev_mono hC _ ρ c1 (fun u c2 q2 => ?_) (fun er c' x => xs_xe b x) q1
    intro x w H1 H2 s1 k1 r1 s2 k2 fr
    obtain ⟨p, rfl, hp, fa⟩ := fr
    obtain ⟨b2, fx⟩ := ((b.smx s1 k1).va_set (i := i) r1).own (i := j) s2 k1 k2 hp fa
    refine ⟨_, _, rfl, ?_⟩
    cases u <;> (try (exact q2.elim))
    · exact q2 _ H2 _ b2 k2 ((b.fxs s1).trans fx)
    · exact q2 _ H2 _ b2 k2 ((b.fxs s1).trans fx)
/-- a, b, .. = e -/
theorem ls_unp {g : Tgs} {e : Ex} {st : Stmt} (hf : sfE e = true) (h : PS X st (tAsg (LE W C Wx e) (gSeq W.K (lenTs g) (gsOf W.K g)))) : PS X st (LS W C n Wx (.unp g e)) :=
  ps_weak h fun D σ H ⟨H0, Ob, ρ, O, c, b, k, q⟩ => by
    unfold evS at q
    refine ls_le hC b k q fun pv c1 v H1 q1 s1 b1 k1 r1 sf _ => ?_
    cases hz : seqOf pv with
    | none => rw [hz] at q1; exact q1.elim
    | some xs =>
      rw [hz] at q1
      have rv := sf hf
      have hl := len_ok (W := W) (H := H1) (O := O) g q1
      have go : ∀ vs, RepL W H1 O xs vs → gsOf W.K g vs σ H1 D.nx := fun vs l => bs_binds b1 l q1 fun ρ' σ' b' q' => q' σ' H1 O b' k1 (b.fxs s1)
      cases pv <;> simp only [seqOf] at hz <;> (try contradiction)
      · cases hz
        cases rv with
        | lst a n t l => exact ⟨_, _, rfl, .inr (.inl (.inl a)), by rw [← l.length]; exact hl, go _ l⟩
      · cases hz
        cases rv with
        | tup a n l => exact ⟨_, _, rfl, .inl (.inl (.inl a)), by rw [← l.length]; exact hl, go _ l⟩
        | tupK a l => exact ⟨_, _, rfl, .inl (a H1), by rw [← l.length]; exact hl, go _ l⟩
/-! ### return, raise, if -/
theorem ls_ret {e : Ex} {ee : Expr} {pos : Pos} (hf : sfE e = true) (h : PE X ee (LE W C Wx e)) : PS X (.Return (some ee) pos) (LS W C n Wx (.ret e)) :=
  ps_weak (ps_ret h) fun D σ H ⟨H0, Ob, ρ, O, c, b, k, q⟩ => by
    unfold evS at q
    exact ls_le hC b k q fun pv c1 v H1 q1 s1 b1 k1 r1 sf _ => q1 v H1 k1 b1.sm ((sf hf).less b.base)
omit hC in
theorem ls_retN {pos : Pos} : PS X (.Return none pos) (LS W C n Wx .retN) :=
  ps_weak ps_retN fun D σ H ⟨H0, Ob, ρ, O, c, b, k, q⟩ => by
    unfold evS at q
    exact q _ H k b.sm .non
omit hC in
theorem ls_pass {pos : Pos} : PS X (.Pass pos) (LS W C n Wx .pass) :=
  ps_weak ps_pass fun D σ H ⟨H0, Ob, ρ, O, c, b, k, q⟩ => by
    unfold evS at q
    exact q _ H O b k .refl
omit hC in
theorem ls_brk {pos : Pos} : PS X (.Break pos) (LS W C n Wx .brk) :=
  ps_weak ps_break fun D σ H ⟨H0, Ob, ρ, O, c, b, k, q⟩ => by
    unfold evS at q
    exact q _ H O b k .refl
omit hC in
theorem ls_cont {pos : Pos} : PS X (.Continue pos) (LS W C n Wx .cont) :=
  ps_weak ps_continue fun D σ H ⟨H0, Ob, ρ, O, c, b, k, q⟩ => by
    unfold evS at q
    exact q _ H O b k .refl
theorem ls_expr {e : Ex} {ee : Expr} {pos : Pos} (hs : swapsWith ee none pos.line X.env = pure false) (h : PE X ee (LE W C Wx e)) : PS X (.Expr ee pos) (LS W C n Wx (.expr e)) :=
  ps_weak (ps_expr h hs) fun D σ H ⟨H0, Ob, ρ, O, c, b, k, q⟩ => by
    unfold evS at q
    exact ls_le hC b k q fun pv c1 v H1 q1 s1 b1 k1 r1 _ _ => q1 σ H1 O b1 k1 (b.fxs s1)
theorem ls_ite {t : Ex} {a b : Sm2} {et : Expr} {ea eb : List Stmt} {pos : Pos} (ht : PT X et (LT W C Wx t)) (ha : PSs X ea (LSs W C n Wx a)) (hb : PSs X eb (LSs W C n Wx b)) : PS X (.If et ea eb pos) (LS W C n Wx (.ite t a b)) :=
  ps_weak (ps_if ht ha hb) fun D σ H ⟨H0, Ob, ρ, O, c, b, k, q⟩ => by
    unfold evS at q
    refine lt_of hC b.rl k q (fun p c1 q1 => ?_) (fun _ _ x => xs_xe b x)
    refine opt_mono (fun z q1 H1 s1 k1 => ?_) q1
    have fx := b.fxs s1
    cases z with
    | true => exact ⟨H0, Ob, ρ, O, c1, b.smx s1 k1, k1, evSs_mono hC _ ρ c1 (EnD.later fx) (fun _ _ z => z) q1⟩
    | false => exact ⟨H0, Ob, ρ, O, c1, b.smx s1 k1, k1, evSs_mono hC _ ρ c1 (EnD.later fx) (fun _ _ z => z) q1⟩
end
end Ze

/-! Loops, changes, raises. -/
namespace Ze
open PySem PySem.Spec PyProof.Rows L2
section
variable {W : Wd} {C : Cl} {n : Nat} {Wx : WX} {X : Cx} {σ : L2.St} {H H0 : Hp} {O Ob : Addr → Prop} {ρ : Env} {c : Nat}
variable (hC : CMono C)
include hC
theorem for_read {wi : TI} {Wt : WX} {w : It} {g : Tg} {b : Sm2} {D : Ends} (hw : ∀ R, LI W C Wt w σ H R → wi σ H R) (bs : Bs W H0 Ob ρ σ H O) (k : Ok W H c)
    {x xi : Xp} (hx : ∀ er c', xi er c' → XE W O σ H Wt er c') {b' : TS} (hb : ∀ D σ H, LSs W C n Wt b D σ H → b' D σ H) (hxb : ∀ er c', x er c' → XS W H0 Ob Wt er c')
    (q : evI C w ρ c (fun items c1 => eachS (fun v ρ1 c2 kk kb => bindT g v ρ1 fun ρ2 => evSs C n b ρ2 c2 ⟨kk, (EnD W H0 Ob O H D).rt, kb, kk⟩ x) items ρ c1 (EnD W H0 Ob O H D).nx) xi) :
    tFor wi (gOf W.K g) b' D σ H := by
  refine hw _ (li_of hC bs.rl k q (fun items c1 J H1 q1 s1 o1 wk => ?_) hx)
  generalize hF : (fun (v : PV) (ρ1 : Env) (c2 : Nat) (kk kb : Env → Nat → Prop) => bindT g v ρ1 fun ρ2 => evSs C n b ρ2 c2 ⟨kk, (EnD W H0 Ob O H D).rt, kb, kk⟩ x) = F at q1
  generalize hKK : (EnD W H0 Ob O H D).nx = KK at q1
  refine ⟨fun i m σ' H' => ∃ ρ' O' c', m + i = items.length ∧ Bs W H0 Ob ρ' σ' H' O' ∧ Ok W H' c' ∧ Fx O O' H1 H' ∧ eachS F (items.drop i) ρ' c' KK,
    ⟨items.length, ρ, O, c1, by omega, bs.smx s1 o1, o1, .refl, by rw [List.drop_zero]; exact q1⟩, fun i m σ' H' hW => ?_⟩
  obtain ⟨ρ', O', c', hm, b2, o2, fx, q2⟩ := hW
  have wki := wk O' H' fx b2.rl.trk i
  cases hx2 : items[i]? with
  | none =>
    have hi : items.length ≤ i := List.getElem?_eq_none_iff.mp hx2
    have hd : items.drop i = [] := List.drop_eq_nil_of_le hi
    rw [hd] at q2
    have q3 : KK ρ' c' := q2
    rw [← hKK] at q3
    exact .inl ⟨wki.2 hi, q3 σ' H' O' b2 o2 ((bs.fxs s1).trans fx)⟩
  | some y =>
    obtain ⟨hi, _⟩ := List.getElem?_eq_some_iff.mp hx2
    have hd : items.drop i = y :: items.drop (i + 1) := by
      rw [List.drop_eq_getElem_cons hi]
      have := List.getElem?_eq_getElem hi
      rw [hx2] at this; cases this; rfl
    rw [hd] at q2
    have q3 : F y ρ' c' (fun ρ2 c2 => eachS F (items.drop (i + 1)) ρ2 c2 KK) KK := q2
    obtain ⟨go, yl⟩ := wki.1 y hx2
    refine .inr ⟨go, fun σ3 H3 => ∃ ρ3 O3 c3, Bs W H0 Ob ρ3 σ3 H3 O3 ∧ Ok W H3 c3 ∧ Fx O O3 H1 H3 ∧ eachS F (items.drop (i + 1)) ρ3 c3 KK,
      fun σ3 H3 ⟨ρ3, O3, c3, a1, a2, a3, a4⟩ => ⟨m - 1, by omega, ρ3, O3, c3, by omega, a1, a2, a3, a4⟩, fun v H3 hy => ?_⟩
    obtain ⟨h3, rx⟩ := yl v H3 hy
    obtain ⟨s3, o3⟩ := sm_step h3 o2
    have b3 := b2.smx s3 o3
    have fx3 : Fx O O' H1 H3 := fx.trans (b2.fxs s3)
    rw [← hF] at q3
    refine bs_bind b3 rx q3 fun ρ4 σ4 b4 q4 => hb _ _ _ ⟨H0, Ob, ρ4, O', c', b4, o3, ?_⟩
    refine evSs_mono hC b ρ4 c' (?_ : EnLe _ (EnD W H0 Ob O' H3 _)) hxb q4
    refine ⟨fun ρ5 c5 q5 σ5 H5 O5 b5 k5 f5 => ?_, fun _ _ q => q, fun ρ5 c5 q5 σ5 H5 O5 b5 k5 f5 => ?_, fun ρ5 c5 q5 σ5 H5 O5 b5 k5 f5 => ?_⟩
    · exact ⟨ρ5, O5, c5, b5, k5, fx3.trans f5, by dsimp only at q5; rw [hF] at q5; exact q5⟩
    · have q6 : KK ρ5 c5 := q5
      rw [← hKK] at q6
      exact q6 σ5 H5 O5 b5 k5 (((bs.fxs s1).trans fx3).trans f5)
    · exact ⟨ρ5, O5, c5, b5, k5, fx3.trans f5, by dsimp only at q5; rw [hF] at q5; exact q5⟩
theorem ls_for {w : It} {g : Tg} {b : Sm2} {tg iter : Expr} {body : List Stmt} {pos : Pos} (hp : PassesOwn (model X.prog X.w) X.A X.env X.xe) (hc : X.calm = true) (hi : PI X tg iter (LI W C Wx w)) (hg : PG X tg (gOf W.K g)) (hb : PSs X body (LSs W C n Wx b))
    (hs : ∀ x, foldedSetIterable iter X.env x = pure x) : PS X (.For tg iter body [] pos) (LS W C n Wx (.for_ w g b)) :=
  ps_weak (ps_for hp hc hi hg hb hs) fun D σ H ⟨H0, Ob, ρ, O, c, bs, k, q⟩ => by
    unfold evS at q
    exact for_read hC (Wt := Wx) (fun R h => h) bs k (fun _ _ z => xs_xe bs z) (fun _ _ _ h => h) (fun _ _ z => z) q
/-! ### while -/
theorem ls_whl {t : Ex} {b : Sm2} {et : Expr} {body : List Stmt} {pos : Pos} (hp : PassesOwn (model X.prog X.w) X.A X.env X.xe) (ht : PT X et (LT W C Wx t)) (hb : PSs X body (LSs W C n Wx b)) : PS X (.While et body [] pos) (LS W C n Wx (.whl t b)) :=
  ps_weak (ps_while hp ht hb) fun D σ H ⟨H0, Ob, ρ, O, c, bs, k, q⟩ => by
    unfold evS at q
    generalize hT : (fun (ρ1 : Env) (c1 : Nat) (kk : Bool → Nat → Prop) => ev C t ρ1 c1 (fun v c2 => opt (truth v) fun z => kk z c2) (XS W H0 Ob Wx)) = T at q
    generalize hF : (fun (ρ1 : Env) (c1 : Nat) (kk kb : Env → Nat → Prop) => evSs C n b ρ1 c1 ⟨kk, (EnD W H0 Ob O H D).rt, kb, kk⟩ (XS W H0 Ob Wx)) = F at q
    generalize hKK : (EnD W H0 Ob O H D).nx = KK at q
    refine ⟨fun m σ' H' => ∃ ρ' O' c', Bs W H0 Ob ρ' σ' H' O' ∧ Ok W H' c' ∧ Fx O O' H H' ∧ whileN T F m ρ' c' KK, ⟨n, ρ, O, c, bs, k, .refl, q⟩, fun m σ' H' hW => ?_⟩
    obtain ⟨ρ', O', c', b2, o2, fx, q2⟩ := hW
    cases m with
    | zero => exact (show False from q2).elim
    | succ m =>
      have q3 : T ρ' c' (fun z c1 => if z = true then F ρ' c1 (fun ρ2 c2 => whileN T F m ρ2 c2 KK) KK else KK ρ' c1) := q2
      rw [← hT] at q3
      refine lt_of hC b2.rl o2 q3 (fun p c1 q4 => ?_) (fun _ _ x => xs_xe b2 x)
      refine opt_mono (fun z q4 H1 s1 k1 => ?_) q4
      have fx1 := fx.trans (b2.fxs s1)
      have b3 := b2.smx s1 k1
      cases z with
      | false =>
        have q5 : KK ρ' c1 := q4
        rw [← hKK] at q5
        exact iteF (q5 σ' H1 O' b3 k1 fx1)
      | true =>
        refine iteT ⟨fun σ3 H3 => ∃ ρ3 O3 c3, Bs W H0 Ob ρ3 σ3 H3 O3 ∧ Ok W H3 c3 ∧ Fx O O3 H H3 ∧ whileN T F m ρ3 c3 KK, fun σ3 H3 ⟨ρ3, O3, c3, a1, a2, a3, a4⟩ => ⟨m, Nat.lt_succ_self m, ρ3, O3, c3, a1, a2, a3, a4⟩, ?_⟩
        have q5 : F ρ' c1 (fun ρ2 c2 => whileN T F m ρ2 c2 KK) KK := by rw [hT] at q4; exact q4
        rw [← hF] at q5
        refine ⟨H0, Ob, ρ', O', c1, b3, k1, ?_⟩
        refine evSs_mono hC b ρ' c1 (?_ : EnLe _ (EnD W H0 Ob O' H1 _)) (fun _ _ z => z) q5
        refine ⟨fun ρ5 c5 q5 σ5 H5 O5 b5 k5 f5 => ?_, fun _ _ q => q, fun ρ5 c5 q5 σ5 H5 O5 b5 k5 f5 => ?_, fun ρ5 c5 q5 σ5 H5 O5 b5 k5 f5 => ?_⟩
        · exact ⟨ρ5, O5, c5, b5, k5, fx1.trans f5, by dsimp only at q5; rw [hF] at q5; exact q5⟩
        · have q6 : KK ρ5 c5 := q5
          rw [← hKK] at q6
          exact q6 σ5 H5 O5 b5 k5 (fx1.trans f5)
        · exact ⟨ρ5, O5, c5, b5, k5, fx1.trans f5, by dsimp only at q5; rw [hF] at q5; exact q5⟩
end
end Ze

/-! Methods, changes of one's own things. -/
namespace Ze
open PySem PySem.Spec PyProof.Rows L2
theorem few_all {es : List Expr} {env : PySem.Env} {pos : Pos} (h : es.all noStar = true) (h30 : es.length < 30) : ((backTo pos (starEach es env)).all (fun x => !x.1) && (backToKw pos (keywordEach [] env)).all (fun x => x.1.isSome)
    && decide (es.length + ([] : List Keyword).length + (if ([] : List Keyword).isEmpty then 0 else 1) < 30)) = true := by
  have h1 : (backTo pos (starEach es env)).all (fun x => !x.1) = true := by
    have := any_noStar (env := env) (pos := pos) h
    rw [List.any_eq_false] at this
    rw [List.all_eq_true]
    intro x hx
    simpa using this x hx
  rw [h1]
  have h2 : (decide (es.length + ([] : List Keyword).length + (if ([] : List Keyword).isEmpty then 0 else 1) < 30)) = true := decide_eq_true (by simpa using h30)
  rw [h2]; rfl
theorem firstD_some : ∀ {ds : List PyData} {d : PyData} {n : Nat}, firstD d ds = some n → ∃ z, ds[n]? = some z ∧ PyData.eqv z d = true ∧ ∀ (m : Nat) (z' : PyData), m < n → ds[m]? = some z' → PyData.eqv z' d = false
  | [], d, n, h => by cases h
  | x :: xs, d, n, h => by
    unfold firstD at h
    split at h
    · rename_i e
      cases h
      exact ⟨x, rfl, e, fun m z' hm => absurd hm (Nat.not_lt_zero _)⟩
    · rename_i e
      cases hf : firstD d xs with
      | none => rw [hf] at h; cases h
      | some k =>
        rw [hf] at h; cases h
        obtain ⟨z, a, b, g⟩ := firstD_some hf
        refine ⟨z, a, b, fun m z' hm hz => ?_⟩
        cases m with
        | zero => cases hz; exact Bool.eq_false_iff.mpr e
        | succ m => exact g m z' (Nat.lt_of_succ_lt_succ hm) hz
section
variable {W : Wd} {C : Cl} {n : Nat} {Wx : WX} {X : Cx} {σ : L2.St} {H H0 : Hp} {O Ob : Addr → Prop} {ρ : Env} {c : Nat}
variable (hC : CMono C)
include hC
theorem le_index {o a : Ex} {eo ea : Expr} {apos cpos : Pos} (hu : X.A.units + 65 < cLine) (hK : X.K = W.K) (hn : noStar ea = true) (hfa : sfE a = true) (hb : attributeBase eo "index" X.env (eval eo X.env) = eval eo X.env) (hline : (apos.endLine == cpos.line) = true)
    (ho : PE X eo (LE W C Wx o)) (ha : PE X ea (LE W C Wx a)) : PE X (.Call (.Attribute eo "index" apos) [ea] [] cpos) (LE W C Wx (.mt .index o (.cons a .nil))) :=
  pe_weak (pe_bm PySem.F.plainAttrs_list PySem.F.slot_list_index PySem.F.type_list_index (mt_indexD hu) ho (pa_cons ha pa_nil (starEach_no hn)) hb (few_all (by simp [hn]) (by show 1 < 30; decide)) hline (starEach_no hn) rfl) fun σ H Q ⟨ρ, O, c, r, k, q⟩ => by
    unfold ev at q
    refine le_of hC r k q (fun p c1 v H1 q1 s1 o1 r1 sf1 fr1 => ?_) (fun _ _ z => z)
    clear sf1 fr1
    unfold evs at q1
    have r2 := r.sm s1 o1
    split at q1 <;> (try (exact q1.elim))
    rename_i hm
    cases p <;> (try (cases hm))
    rename_i t xs
    obtain ⟨a1, vs, hv, h1, l1⟩ := r1.lstI
    subst hv
    refine ⟨.inl ⟨rfl, vs, .inl (.inl h1)⟩, ?_⟩
    refine le_of hC r2 o1 q1 (fun u c2 w H2 q2 s2 o2 r3 sf _ => ?_) (fun _ _ z => z.sm s1)
    unfold evs at q2
    dsimp only at q2
    cases hz : method .index (.lst t xs) [u] with
    | none => rw [hz] at q2; exact q2.elim
    | some z =>
      rw [hz] at q2
      obtain ⟨d, ds, e1, e2, h3, h4, h5⟩ := inList_some (show inList u xs (fun d ds => (firstD d ds).map fun n => PV.int n) = some z from hz)
      cases hf : firstD d ds with
      | none => rw [hf] at h5; cases h5
      | some m =>
        rw [hf] at h5; cases h5
        obtain ⟨y, g1, g2, g3⟩ := firstD_some hf
        have r1' : RepR W H2 O (.lst t xs) (.ref a1) := r1.sm s2 r.sub
        refine ⟨a1, w, d, ds, m, y, rfl, rfl, ?_, ?_, h4, h3, g1, g2, g3, ?_⟩
        · rw [hK]; exact dpl_of r1' e2
        · rw [hK]; exact dpr_of r3 e1
        · exact q2 _ H2 (s1.trans s2) o2 (.of .int) (fun _ => .int) fun z => nomatch z
omit hC in
/-- list(d.items()): the dict may be locked -/
theorem zip_items {H' : Hp} {ts : List Addr} {ks : List Key} {xs : List PV} {vs : List V} (hl : ks.length = vs.length) (l : RepL W H' O xs vs) (no : ∀ t ∈ ts, ¬ O t)
    (h : Paired (fun (t : Addr) (q : Key × V) => H' t = some (.tup [kV q.1, q.2])) ts (ks.zip vs)) : RepL W H' O ((ks.zip xs).map fun p => .tup [keyP p.1, p.2]) (ts.map V.ref) := by
  induction ks generalizing xs vs ts with
  | nil => cases h; exact .nil
  | cons k ks ih =>
    cases vs with
    | nil => cases hl
    | cons v vs =>
      cases l with
      | cons a b =>
        cases h with
        | cons h1 h2 =>
          refine .cons (.tup h1 (no _ List.mem_cons_self) (.cons ?_ (.one a))) (ih (Nat.succ.inj hl) b (fun t ht => no t (List.mem_cons_of_mem _ ht)) h2)
          cases k with
          | inl i => exact .int
          | inr x => exact .str
omit hC in
theorem pe_itemsR {X : Cx} {e : Expr} {te : TE} {p apos cpos pos : Pos} (hc : X.calm = true) (he : PE X e te) (hg : Gl X "list") (hm : X.mg "list" = none) (hv : bootBuiltins "list" = some (.type "list"))
    (hbase : attributeBase e "items" X.env (eval e X.env) = eval e X.env) (hline : (apos.endLine == cpos.line) = true) :
    PE X (.Call (.Name "list" p) [.Call (.Attribute e "items" apos) [] [] cpos] [] pos) (fun σ H Q => te σ H fun x H1 => ∃ (d : Addr) (kvs : List (Key × V)), x = .ref d ∧ Rd H1 d (.dK kvs) ∧
      ∀ (H' : Hp) (p : Addr) (ts : List Addr), (∀ b o, H1 b = some o → H' b = some o) → H1 p = none → (∀ t ∈ ts, H1 t = none) → H' p = some (.lst (ts.map V.ref)) → Paired (fun (t : Addr) (q : Key × V) => H' t = some (.tup [kV q.1, q.2])) ts kvs → Q (.ref p) H') := by
  refine ⟨fun pins s σ H Q I hq => ?_⟩
  have hs : starEach [.Call (.Attribute e "items" apos) [] [] cpos] X.env = (false, eval (.Call (.Attribute e "items" apos) [] [] cpos) X.env) :: starEach [] X.env := rfl
  refine wpAny_Call_Name_kw (ld_blt I hg hm hv (PyProof.Rows.callWith_type1 ?_ hs rfl))
  rw [hs]
  show wpAny _ _ (spliced ((false, eval (.Call (.Attribute e "items" apos) [] [] cpos) X.env) :: backTo pos [])) _ _ s
  refine Calls.spliced_cons (wpAny_Call_method (T := "dict") (id := "dict.items") hbase rfl hline F.plainAttrs_dict F.slot_dict_items F.type_dict_items (thn (he.run pins s σ H _ I hq) fun u s9 hh => ?_))
  obtain ⟨x, H9, I9, rx, d, kvs, ex, hd, q⟩ := hh
  subst ex
  obtain rfl : u = Value.ref d := rx
  obtain ⟨z9, y9, vs, kv, dat⟩ := dk_rd I9.hok hd
  have dat' := dat
  obtain ⟨ep, at9⟩ := dat'.dictAt
  have lk := Paired.length kv
  have J9 : Inv X pins σ H9 { s9 with heap := s9.heap.push { cls := .type "dict_items", data := .fields #[.ref d] } } := I9.kept (t' := s9.toks) fun b ob z => Heap.get?_push_of_some _ z
  refine ⟨dat.typeIs, dat.mapOf.noDict, ?_⟩
  show wpAny _ _ (callWith cpos (.builtin "dict.items") [.ref d] [] []) _ X.xe s9
  refine method_meetsIn F.slot_dict_items F.entry_dict_items rfl (PySem.evalArgs_none ⟨rfl, dat.typeIs, F.args_dict_items_1 _, _, meets_dict_items (mixKind X.prog X.w) d y9, ⟨vs, dat⟩, ?_⟩)
  refine Calls.spliced_nil (PySem.W.kdx_call (knd := mixKind X.prog X.w) (kvs := vs) (ep := ep) (I9.ok.hd hc) ⟨_, Heap.get?_push_size _ rfl, rfl, rfl⟩ (at9.push _) (by omega) fun h' tk acc c as hk hS hl hG hacc => ?_)
  obtain ⟨H', k1, k2, k3, k4, k5, k6, J⟩ := LiI.items_laid (tk := tk) J9 z9 kv hk hS hl hG hacc
  exact ⟨.ref _, H', J, rfl, q H' _ as k1 k2 k3 k5 k6⟩
theorem le_items {o : Ex} {eo : Expr} {p apos cpos pos : Pos} (hc : X.calm = true) (hg : Gl X "list") (hm : X.mg "list" = none) (hv : bootBuiltins "list" = some (.type "list")) (hb : attributeBase eo "items" X.env (eval eo X.env) = eval eo X.env) (hline : (apos.endLine == cpos.line) = true)
    (ho : PE X eo (LE W C Wx o)) : PE X (.Call (.Name "list" p) [.Call (.Attribute eo "items" apos) [] [] cpos] [] pos) (LE W C Wx (.mt .items o .nil)) :=
  pe_weak (pe_itemsR hc ho hg hm hv hb hline) fun σ H Q ⟨ρ, O, c, r, k, q⟩ => by
    unfold ev at q
    refine le_of hC r k q (fun p c1 v H1 q1 s1 o1 r1 sf1 fr1 => ?_) (fun _ _ z => z)
    clear sf1 fr1
    unfold evs at q1
    have r2 := r.sm s1 o1
    split at q1 <;> (try (exact q1.elim))
    rename_i hm
    cases p <;> (try (cases hm))
    rename_i t ks xs
    obtain ⟨a1, vs, hv, h1, hl, l1⟩ := r1.dicI
    subst hv
    refine ⟨a1, _, rfl, h1, fun H' pp ts kp hp hts hpp pr => ?_⟩
    have q2 := q1 (.ref pp) H'
    have s2 : Sm W.S H1 H' := fun a o _ h => kp a o h
    have o2 : Ok W H' c1 := ⟨W.st o1.str fun a ha => by
      cases e : H1 a with
      | none => exact absurd e (W.tr o1.str ha)
      | some u => exact kp a u e, fun a ha z => by
      cases e : H1 a with
      | none => exact o1.era a ha e
      | some u => rw [kp a u e] at z; cases z⟩
    have no : ∀ t, H1 t = none → ¬ O t := fun t ht ho => r2.trk t ho ht
    have it := zip_items hl (l1.fm (s2.fm r.sub)) (fun t ht => no t (hts t ht)) pr
    have rep : Rep W H' O (.lst true ((ks.zip xs).map fun p => .tup [keyP p.1, p.2])) (.ref pp) := .lst hpp (no pp hp) (fun _ z => o1.era pp z hp) it
    exact q2 (s1.trans s2) o2 (.of rep) (fun _ => rep) fun z => nomatch z
/-! ### x.append(e), x.extend(e) -/
theorem ls_app {i : Nat} {e : Ex} {eo ea : Expr} {apos cpos pos : Pos} (hn : noStar ea = true) (hf : sfE e = true) (hb : attributeBase eo "append" X.env (eval eo X.env) = eval eo X.env) (hline : (apos.endLine == cpos.line) = true)
    (ho : PE X eo (tVar i)) (ha : PE X ea (LE W C Wx e)) : PS X (.Expr (.Call (.Attribute eo "append" apos) [ea] [] cpos) pos) (LS W C n Wx (.app i e)) :=
  ps_weak (ps_expr (pe_bm PySem.F.plainAttrs_list PySem.F.slot_list_append PySem.F.type_list_append mt_append ho (pa_cons ha pa_nil (starEach_no hn)) hb (few_all (by simp [hn]) (by show 1 < 30; decide)) hline (starEach_no hn) rfl)) fun D σ H ⟨H0, Ob, ρ, O, c, b, k, q⟩ => by
    unfold evS at q
    unfold slotO at q
    split at q <;> (try (exact q.elim))
    rename_i l hl
    cases l <;> (try (exact q.elim))
    rename_i t xs
    obtain ⟨p, hp, e1, nS, d⟩ := b.rl.ow i _ hl
    obtain ⟨vs, h1⟩ : ∃ vs, H p = some (.lst vs) := by
      rcases d with ⟨_, _, vs, _, a, _⟩ | ⟨_, _, _, _, e, _⟩
      · exact ⟨vs, a⟩
      · cases e
    refine ⟨_, e1, .inl ⟨rfl, vs, .inl (.inl h1)⟩, ?_⟩
    refine ls_le hC b k q fun pv c1 v H1 q1 s1 b1 k1 r1 sf _ => ?_
    obtain ⟨p', _, e2, _, d1⟩ := b1.rl.ow i _ hl
    rw [e1] at e2; cases e2
    rcases d1 with ⟨t1, xs1, vs1, ee, h2, f1, l1⟩ | ⟨_, _, _, _, e, _⟩
    · cases ee
      have hv : RepL W H1 O (xs ++ [pv]) (vs1 ++ [v]) := l1.app (.one (sf hf))
      obtain ⟨b2, fx⟩ := b1.chg (pv' := .lst t (xs ++ [pv])) (o := .lst (vs1 ++ [v])) hl e1 (.inl ⟨_, _, _, rfl, rfl, f1, hv⟩)
      refine ⟨p, vs1, v, rfl, rfl, h2, by rw [← l1.length]; exact q1.1, ?_⟩
      exact q1.2 σ _ O b2 (k1.put nS) ((b.fxs s1).trans fx)
    · cases e
theorem ls_ext {i : Nat} {e : Ex} {eo ea : Expr} {apos cpos pos : Pos} (hn : noStar ea = true) (hf : sfE e = true) (hb : attributeBase eo "extend" X.env (eval eo X.env) = eval eo X.env) (hline : (apos.endLine == cpos.line) = true)
    (ho : PE X eo (tVar i)) (ha : PE X ea (LE W C Wx e)) : PS X (.Expr (.Call (.Attribute eo "extend" apos) [ea] [] cpos) pos) (LS W C n Wx (.ext i e)) :=
  ps_weak (ps_expr (pe_bm PySem.F.plainAttrs_list PySem.F.slot_list_extend PySem.F.type_list_extend mt_extend ho (pa_cons ha pa_nil (starEach_no hn)) hb (few_all (by simp [hn]) (by show 1 < 30; decide)) hline (starEach_no hn) rfl)) fun D σ H ⟨H0, Ob, ρ, O, c, b, k, q⟩ => by
    unfold evS at q
    unfold slotO at q
    split at q <;> (try (exact q.elim))
    rename_i l hl
    cases l <;> (try (exact q.elim))
    rename_i t xs
    obtain ⟨p, hp, e1, nS, d⟩ := b.rl.ow i _ hl
    obtain ⟨vs, h1⟩ : ∃ vs, H p = some (.lst vs) := by
      rcases d with ⟨_, _, vs, _, a, _⟩ | ⟨_, _, _, _, e, _⟩
      · exact ⟨vs, a⟩
      · cases e
    refine ⟨_, e1, .inl ⟨rfl, vs, .inl (.inl h1)⟩, ?_⟩
    refine ls_le hC b k q fun pv c1 v H1 q1 s1 b1 k1 r1 sf fr1 => ?_
    clear fr1
    cases pv <;> (try (exact q1.elim))
    rename_i t5 ys
    obtain ⟨a5, us, rfl, h5, l5⟩ := (RepR.of (sf hf)).lstI
    obtain ⟨p', _, e2, _, d1⟩ := b1.rl.ow i _ hl
    rw [e1] at e2; cases e2
    rcases d1 with ⟨t1, xs1, vs1, ee, h2, f1, l1⟩ | ⟨_, _, _, _, e, _⟩
    · cases ee
      have hv : RepL W H1 O (xs ++ ys) (vs1 ++ us) := l1.app l5
      obtain ⟨b2, fx⟩ := b1.chg (pv' := .lst t (xs ++ ys)) (o := .lst (vs1 ++ us)) hl e1 (.inl ⟨_, _, _, rfl, rfl, f1, hv⟩)
      refine ⟨p, a5, vs1, us, rfl, rfl, h2, h5, by rw [← l1.length, ← l5.length]; exact q1.1, ?_⟩
      exact q1.2 σ _ O b2 (k1.put nS) ((b.fxs s1).trans fx)
    · cases e
/-! ### d[k] = e, d.setdefault(k, e) -/
theorem ls_put {i : Nat} {ek e : Ex} {eo eq ev : Expr} {pos pos' : Pos} (hu : X.A.units + 1 < cLine) (hf : sfE e = true) (ho : PE X eo (tVar i)) (hq : PE X eq (LE W C Wx ek)) (hv : PE X ev (LE W C Wx e)) (hs : swapsWith ev (some (.Subscript eo eq pos')) pos.line X.env = pure false) :
    PS X (.Assign [.Subscript eo eq pos'] ev pos) (LS W C n Wx (.put i ek e)) :=
  ps_weak (ps_dput hu ho hq hv hs) fun D σ H ⟨H0, Ob, ρ, O, c, b, k, q⟩ => by
    unfold evS slotO at q
    split at q <;> (try (exact q.elim))
    rename_i l hl
    cases l <;> (try (exact q.elim))
    rename_i t ks xs
    obtain ⟨p, hp, e1, nS, d⟩ := b.rl.ow i _ hl
    refine ls_le hC b k q fun pv c1 v H1 q1 s1 b1 k1 r1 sf _ => ?_
    refine ⟨_, e1, ?_⟩
    refine ls_le hC b1 k1 q1 fun qv c2 w H2 q2 s2 b2 k2 r2 _ _ => ?_
    cases hk : keyOf qv with
    | none => rw [hk] at q2; exact q2.elim
    | some key =>
      rw [hk] at q2
      obtain ⟨p', _, e2, _, d2⟩ := b2.rl.ow i _ hl
      rw [e1] at e2; cases e2
      rcases d2 with ⟨_, _, _, e, _⟩ | ⟨t1, ks1, xs1, vs1, ee, h2, f1, g1, l1⟩
      · cases e
      · cases ee
        have rv : Rep W H2 O pv v := (sf hf).fm (s2.fm b.rl.sub)
        obtain ⟨vs', z1, z2, z3⟩ := put_rep key g1 l1 rv
        obtain ⟨b3, fx⟩ := b2.chg (pv' := .dic t (putP key pv ks xs).1 (putP key pv ks xs).2) (o := .dK ((putP key pv ks xs).1.zip vs')) hl e1 (.inr ⟨_, _, _, _, rfl, rfl, f1, z2, z3⟩)
        refine ⟨p, _, rfl, .inl ⟨_, key, h2, keyOf_some hk r2, ?_, rfl⟩, ?_⟩
        · rw [List.length_zip, ← g1, Nat.min_self]; exact q2.1
        · rw [z1]
          exact q2.2 σ _ O b3 (k2.put nS) (((b.fxs s1).trans (b1.fxs s2)).trans fx)
omit hC in
theorem m2_of {eo eq ev : Expr} {m : Str} {apos cpos : Pos} (hb : attributeBase eo m X.env (eval eo X.env) = eval eo X.env) (hl : (apos.endLine == cpos.line) = true) (h1 : noStar eq = true) (h2 : noStar ev = true) : M2 X eo m apos eq ev cpos :=
  ⟨hb, few_all (by simp [h1, h2]) (by show 2 < 30; decide), hl, by rw [starEach_no h1, starEach_no h2]; rfl⟩
theorem ls_sdef {i : Nat} {ek e : Ex} {eo eq ev : Expr} {apos cpos pos : Pos} (h1 : noStar eq = true) (h2 : noStar ev = true) (hf : sfE e = true) (hb : attributeBase eo "setdefault" X.env (eval eo X.env) = eval eo X.env) (hline : (apos.endLine == cpos.line) = true)
    (ho : PE X eo (tVar i)) (hq : PE X eq (LE W C Wx ek)) (hv : PE X ev (LE W C Wx e)) :
    PS X (.Expr (.Call (.Attribute eo "setdefault" apos) [eq, ev] [] cpos) pos) (LS W C n Wx (.sdef i ek e)) :=
  ps_weak (ps_expr (pe_dsetd ho hq hv (m2_of hb hline h1 h2))) fun D σ H ⟨H0, Ob, ρ, O, c, b, k, q⟩ => by
    unfold evS slotO at q
    split at q <;> (try (exact q.elim))
    rename_i l hl
    cases l <;> (try (exact q.elim))
    rename_i t ks xs
    obtain ⟨p, hp, e1, nS, d⟩ := b.rl.ow i _ hl
    have isd : IsD H p := by
      rcases d with ⟨_, _, _, e, _⟩ | ⟨t1, ks1, xs1, vs1, ee, h2, f1, g1, l1⟩
      · cases e
      · exact .inl ⟨_, .inl h2⟩
    refine ⟨_, e1, p, rfl, isd, ?_⟩
    refine ls_le hC b k q fun qv c1 w H1 q1 s1 b1 k1 r1 _ _ => ?_
    refine ls_le hC b1 k1 q1 fun pv c2 v H2 q2 s2 b2 k2 r2 sf _ => ?_
    cases hk : keyOf qv with
    | none => rw [hk] at q2; exact q2.elim
    | some key =>
      rw [hk] at q2
      obtain ⟨hlen, q2⟩ := q2
      obtain ⟨p', _, e2, _, d2⟩ := b2.rl.ow i _ hl
      rw [e1] at e2; cases e2
      rcases d2 with ⟨_, _, _, e, _⟩ | ⟨t1, ks1, xs1, vs1, ee, h2, f1, g1, l1⟩
      · cases e
      · cases ee
        have rv : Rep W H2 O pv v := sf hf
        have mk := mem_keys key g1
        refine ⟨_, key, h2, keyOf_some hk (r1.sm s2 b.rl.sub), by rw [List.length_zip, ← g1, Nat.min_self]; exact hlen, fun v0 hv0 => ?_, fun hn => ?_⟩
        · rw [hv0] at mk
          have m2 : (ks.any fun q => decide (q = key)) = true := mk.symm
          rw [if_pos m2] at q2
          exact q2 σ H2 O b2 k2 ((b.fxs s1).trans (b1.fxs s2))
        · rw [hn] at mk
          have m2 : (ks.any fun q => decide (q = key)) = false := mk.symm
          rw [if_neg (by rw [m2]; exact Bool.false_ne_true)] at q2
          obtain ⟨vs', z1, z2, z3⟩ := put_rep key g1 l1 rv
          obtain ⟨b3, fx⟩ := b2.chg (pv' := .dic t (putP key pv ks xs).1 (putP key pv ks xs).2) (o := .dK ((putP key pv ks xs).1.zip vs')) hl e1 (.inr ⟨_, _, _, _, rfl, rfl, f1, z2, z3⟩)
          rw [z1]
          exact q2 σ _ O b3 (k2.put nS) (((b.fxs s1).trans (b1.fxs s2)).trans fx)
/-! ### for key in d: the dict is locked -/
omit hC in
theorem ps_or2 {X : Cx} {st : Stmt} {t t' : TS} (h : PS X st t) (h' : PS X st t') : PS X st (fun D σ H => t D σ H ∨ t' D σ H) := ⟨fun pins s σ H D I q => q.elim (h.run pins s σ H D I) (h'.run pins s σ H D I)⟩
omit hC in
theorem Rl.unlock {d : Addr} {od : Obj} {kvs : List (Key × V)} (r : Rl W ρ σ H O) (h : H d = some (.frz od (.dK kvs))) (n : ¬ O d) : Rl W ρ σ (upd H d (.dK kvs)) O where
  len := r.len
  sub := r.sub
  trk := fun a ha => by
    by_cases e : a = d
    · subst e; exact absurd ha n
    · rw [upd_ne e]; exact r.trk a ha
  va := fun i v hv => let ⟨x, e, q⟩ := r.va i v hv; ⟨x, e, q.fm (fm_unlock h)⟩
  ow := fun i v hv => by
    obtain ⟨p, ho, e, m, q⟩ := r.ow i v hv
    have ne : p ≠ d := fun z => n (by rw [← z]; exact ho)
    refine ⟨p, ho, e, m, ?_⟩
    rcases q with ⟨t, xs, vs, a, b, f, l⟩ | ⟨t, ks, xs, vs, a, b, f, g, l⟩
    · exact .inl ⟨t, xs, vs, a, by rw [upd_ne ne]; exact b, f, l.fm (fm_unlock h)⟩
    · exact .inr ⟨t, ks, xs, vs, a, by rw [upd_ne ne]; exact b, f, g, l.fm (fm_unlock h)⟩
  inj := r.inj
theorem ls_forK {i : Nat} {xi : Str} {pi : Pos} {g : Tg} {b : Sm2} {tg : Expr} {body : List Stmt} {pos : Pos} (hp : PassesOwn (model X.prog X.w) X.A X.env X.xe) (hc : X.calm = true) (he : PE X (.Name xi pi) (tVar i)) (hg : PG X tg (gOf W.K g)) (hb : PSs X body (LSs W C n WF b)) :
    PS X (.For tg (.Name xi pi) body [] pos) (LS W C n Wx (.forK i g b)) := by
  have base := ps_for hp hc (li_keys (W := W) (C := C) (Wx := WF) (tg := tg) he) hg hb (fun _ => rfl) (pos := pos)
  refine ps_weak (ps_or2 base (ps_lock base)) fun D σ H ⟨H0, Ob, ρ, O, c, bs, k, q⟩ => ?_
  unfold evS at q
  have hv : ∃ t ks xs, ρ[i]? = some (.va (.dic t ks xs)) := by
    have q' := q
    unfold evI slotV at q'
    split at q' <;> (try (exact q'.elim))
    rename_i v hv
    cases v <;> (try (exact q'.elim))
    exact ⟨_, _, _, hv⟩
  obtain ⟨t, ks, xs, hv⟩ := hv
  obtain ⟨y, e1, ry⟩ := bs.rl.va i _ hv
  cases ry with
  | @dic _ _ _ d vs h1 nd tt hl l =>
    rcases h1 with h1 | ⟨od, h1⟩
    · refine .inr ⟨d, _, h1, trivial, fun od => ?_⟩
      have nS : ¬ W.S d := fun z => nd (bs.rl.sub d z)
      have smL : Sm W.S (upd H0 d (.frz od (.dK (ks.zip vs)))) (upd H d (.frz od (.dK (ks.zip vs)))) := fun a o na ha => by
        by_cases ea : a = d
        · subst ea
          rw [upd_same] at ha ⊢
          exact ha
        · rw [upd_ne ea] at ha ⊢
          exact bs.sm a o na ha
      have bL : Bs W (upd H0 d (.frz od (.dK (ks.zip vs)))) Ob ρ σ (upd H d (.frz od (.dK (ks.zip vs)))) O :=
        ⟨bs.rl.lock h1 nd, bs.base, fun a ha z => bs.obt a ha (by
          by_cases ea : a = d
          · rw [ea, upd_same] at z; cases z
          · rw [upd_ne ea] at z; exact z), smL, fun j u p x1 x2 => by
          obtain ⟨p', ho, e', _⟩ := bs.rl.ow j u x1
          rw [x2] at e'; cases e'
          have ep : p ≠ d := fun z => nd (by rw [← z]; exact ho)
          rw [upd_ne ep]
          exact bs.fr j u p x1 x2⟩
      have back : ∀ {H' : Hp}, Sm W.S (upd H0 d (.frz od (.dK (ks.zip vs)))) H' → Sm W.S H0 (upd H' d (.dK (ks.zip vs))) := fun {H'} s a o na ha => by
        by_cases ea : a = d
        · subst ea
          have := bs.sm a o na ha
          rw [h1] at this; cases this
          exact upd_same
        · rw [upd_ne ea]
          refine s a o na ?_
          rw [upd_ne ea]; exact ha
      have nxt : ∀ {Qn : L2.St → Hp → Prop} {ρ' : Env} {c' : Nat}, (∀ σ' H' O', Bs W H0 Ob ρ' σ' H' O' → Ok W H' c' → Fx O O' H H' → Qn σ' H') → ∀ σ' H' O', Bs W (upd H0 d (.frz od (.dK (ks.zip vs)))) Ob ρ' σ' H' O' → Ok W H' c' →
          Fx O O' (upd H d (.frz od (.dK (ks.zip vs)))) H' → H' d = some (.frz od (.dK (ks.zip vs))) ∧ Qn σ' (upd H' d (.dK (ks.zip vs))) := fun {Qn ρ' c'} hn σ' H' O' b' k' f' => by
        obtain ⟨hd, nO'⟩ := f' d _ nd upd_same
        refine ⟨hd, hn σ' _ O' ⟨b'.rl.unlock hd nO', b'.base, bs.obt, back b'.sm, fun j u p x1 x2 => by
          have z := b'.fr j u p x1 x2
          by_cases ep : p = d
          · rw [ep, upd_same] at z; cases z
          · rw [upd_ne ep] at z; exact z⟩ (k'.put nS) fun a o na ha => ?_⟩
        by_cases ea : a = d
        · subst ea
          rw [h1] at ha; cases ha
          exact ⟨upd_same, nO'⟩
        · obtain ⟨x1, x2⟩ := f' a o na (by rw [upd_ne ea]; exact ha)
          exact ⟨by rw [upd_ne ea]; exact x1, x2⟩
      refine for_read hC (Wt := WF) (fun R h => ⟨h, d, od, _, e1, upd_same⟩) bL (k.put nS) (xi := fun _ _ => False) (x := fun _ _ => False) (fun _ _ z => z.elim) (fun _ _ _ h => h) (fun _ _ z => z.elim) ?_
      refine evI_mono hC (.keys i) ρ c (fun items c1 q => ?_) (fun _ _ z => z) q
      refine eachS_mono (fun v ρ1 c2 k1 k2 b1 b2 hk hbk q => ?_) items ρ c1 (fun ρ' c' z => nxt z) q
      refine bindT_mono g v ρ1 (fun ρ2 q => ?_) q
      refine evSs_mono hC b ρ2 c2 (EnLe.mk (D := ⟨k1, _, b1, k1⟩) (D' := ⟨k2, _, b2, k2⟩) hk (fun pv c' z v H' k' s' r' => ?_) hbk hk) (fun _ _ z => z) q
      have hd : H' d = some (.frz od (.dK (ks.zip vs))) := s' d _ nS upd_same
      exact ⟨hd, z v _ (k'.put nS) (back s') (r'.fm (fm_unlock hd))⟩
    · exact .inl (for_read hC (Wt := WF) (fun R h => ⟨h, d, od, _, e1, h1⟩) bs k (xi := fun _ _ => False) (x := fun _ _ => False) (fun _ _ z => z.elim) (fun _ _ _ h => h) (fun _ _ z => z.elim) q)
end
end Ze

/-! Displays of dicts, calls without arguments. -/
namespace Ze
open PySem PySem.Spec PyProof.Rows L2
theorem putK_fresh {kvs : List (Key × V)} {k : Key} {v : V} (h : k ∉ kvs.map (·.1)) : putK kvs k v = kvs ++ [(k, v)] := by
  unfold putK
  rw [if_neg]
  intro z
  rw [List.any_eq_true] at z
  obtain ⟨p, hp, e⟩ := z
  exact h (List.mem_map.mpr ⟨p, hp, of_decide_eq_true e⟩)
theorem mergeK_nodup : ∀ (more acc : List (Key × V)), ((acc ++ more).map (·.1)).Nodup → mergeK acc more = acc ++ more
  | [], acc, h => by rw [List.append_nil]; rfl
  | p :: r, acc, h => by
    have hp : p.1 ∉ acc.map (·.1) := by
      rw [List.map_append, List.nodup_append] at h
      exact fun z => h.2.2 _ z _ (by simp) rfl
    show mergeK (putK acc p.1 p.2) r = _
    rw [putK_fresh hp]
    have := mergeK_nodup r (acc ++ [p]) (by rw [List.append_assoc]; exact h)
    rw [List.append_assoc] at this
    exact this
theorem zip_keys : ∀ {ks : List Key} {vs : List V}, ks.length = vs.length → (ks.zip vs).map (·.1) = ks
  | [], [], _ => rfl
  | k :: ks, v :: vs, h => by
    show k :: (ks.zip vs).map (·.1) = _
    rw [zip_keys (Nat.succ.inj h)]
theorem nodup_inr : ∀ {ks : List Str}, ks.Nodup → (ks.map (Sum.inr : Str → Key)).Nodup
  | [], _ => .nil
  | k :: ks, h => by
    obtain ⟨a, b⟩ := List.nodup_cons.mp h
    refine List.nodup_cons.mpr ⟨fun z => ?_, nodup_inr b⟩
    obtain ⟨y, hy, e⟩ := List.mem_map.mp z
    cases e
    exact a hy
theorem zip_str : ∀ (ks : List Str) (vs : List V), (ks.map V.str).zip vs = ((ks.map (Sum.inr : Str → Key)).zip vs).map fun kv => (kV kv.1, kv.2)
  | [], _ => rfl
  | k :: ks, [] => rfl
  | k :: ks, v :: vs => by
    show (V.str k, v) :: (ks.map V.str).zip vs = (kV (.inr k), v) :: ((ks.map (Sum.inr : Str → Key)).zip vs).map _
    rw [zip_str ks vs]; rfl
section
variable {W : Wd} {C : Cl} {n : Nat} {Wx : WX} {X : Cx} {σ : L2.St} {H H0 : Hp} {O Ob : Addr → Prop} {ρ : Env} {c : Nat}
/-- the pairs of a display: the keys are texts -/
def LP (W : Wd) (C : Cl) (Wx : WX) : List Str → Es → List (TE × TE)
  | k :: ks, .cons e r => (tC (.str k), LE W C Wx e) :: LP W C Wx ks r
  | _, _ => []
def sfL : Es → Bool
  | .nil => true
  | .cons e r => sfE e && sfL r
  | .star _ _ => false
def lenE : Es → Nat
  | .nil => 0
  | .cons _ r => lenE r + 1
  | .star _ r => lenE r + 1
variable (hC : CMono C)
include hC
theorem lp_read : ∀ (ks : List Str) (es : Es) {σ : L2.St} {H : Hp} {ρ : Env} {O : Addr → Prop} {c : Nat} {k : List PV → Nat → Prop} {Q : List (V × V) → Hp → Prop}, sfL es = true → ks.length = lenE es → Rl W ρ σ H O → Ok W H c →
    evs C es ρ c k (XE W O σ H Wx) → (∀ ps c' vs H', k ps c' → Sm W.S H H' → Ok W H' c' → RepL W H' O ps vs → ks.length = vs.length → Q ((ks.map V.str).zip vs) H') → tPairs (LP W C Wx ks es) σ H Q
  | [], .nil, σ, H, ρ, O, c, k, Q, hf, hl, r, o, h, hq => by
    unfold evs at h
    exact hq _ _ _ H h .refl o .nil rfl
  | [], .cons _ _, σ, H, ρ, O, c, k, Q, hf, hl, r, o, h, hq => by cases hl
  | [], .star _ _, σ, H, ρ, O, c, k, Q, hf, hl, r, o, h, hq => by cases hf
  | _ :: _, .nil, σ, H, ρ, O, c, k, Q, hf, hl, r, o, h, hq => by cases hl
  | _ :: _, .star _ _, σ, H, ρ, O, c, k, Q, hf, hl, r, o, h, hq => by cases hf
  | x :: ks, .cons e es, σ, H, ρ, O, c, k, Q, hf, hl, r, o, h, hq => by
    unfold evs at h
    have hf' := (Bool.and_eq_true _ _).mp hf
    show LE W C Wx e σ H _
    refine le_of hC r o h (fun p c1 v H1 q1 s1 o1 r1 sf _ => ?_) (fun _ _ z => z)
    have rv := sf hf'.1
    refine lp_read ks es hf'.2 (Nat.succ.inj hl) (r.sm s1 o1) o1 (evs_mono hC es ρ c1 (fun _ _ z => z) (fun _ _ z => z.sm s1) q1) fun ps c' vs H' q2 s2 o2 r2 l2 => ?_
    exact hq _ _ (v :: vs) H' q2 (s1.trans s2) o2 (.cons (rv.fm (s2.fm r.sub)) r2) (congrArg (· + 1) l2)
theorem le_dis {ks : List Str} {es : Es} {pos : Pos} {keys : List (Option Expr)} {values : List Expr} (hn : ks.Nodup) (hf : sfL es = true) (hl : ks.length = lenE es) (h : PPs X pos keys values (LP W C Wx ks es)) (hall : keys.all (·.isSome) = true) (hlen : keys.length = values.length) (h0 : keys ≠ [])
    (h15 : keys.length ≤ 15) (hk15 : ks.length ≤ 15) : PE X (.Dict keys values pos) (LE W C Wx (.dis ks es)) :=
  pe_weak (pe_disp h hall hlen h0 h15) fun σ H Q ⟨ρ, O, c, r, k, q⟩ => by
    unfold ev at q
    intro p hp
    have r1 : Rl W ρ σ (upd H p (.dK [])) (fun a => O a ∨ a = p) := r.new hp
    have o1 : Ok W (upd H p (.dK [])) c := k.new hp
    have nS : ¬ W.S p := fun z => W.tr k.str z hp
    refine lp_read hC ks es (k := fun vs c1 => KE W O (.dis ks es) H Q (.dic true (ks.map .inr) vs) c1) hf hl r1 o1 (evs_mono hC es ρ c (fun _ _ z => z) (fun er c' x => ?_) q) fun ps c' vs H' q2 s2 o2 r2 l2 => ?_
    · intro cls d H' s' k' e'
      exact x cls d H' ((sm_upd hp).trans s') k' (e'.less fun a z => .inl z)
    · have hp2 : H' p = some (.dK []) := s2 p _ nS upd_same
      have lz : (ks.map (Sum.inr : Str → Key)).length = vs.length := by rw [List.length_map]; exact l2
      refine ⟨hp2, (ks.map Sum.inr).zip vs, ?_, by rw [List.length_zip, lz, Nat.min_self, ← l2]; exact hk15, ?_⟩
      · exact zip_str ks vs
      · rw [mergeK_nodup _ [] (by rw [List.nil_append, zip_keys lz]; exact nodup_inr hn)]
        rw [List.nil_append]
        have fx : Fm (fun a => O a ∨ a = p) (fun a => O a ∨ a = p) H' (upd H' p (.dK ((ks.map Sum.inr).zip vs))) := fm_own (.inr rfl)
        have r3 := r2.fm fx
        have ne : ¬ O p := fun z => r.trk p z hp
        have rep : Rep W (upd H' p (.dK ((ks.map Sum.inr).zip vs))) O (.dic true (ks.map .inr) ps) (.ref p) := .dic (.inl upd_same) ne (fun _ z => k.era p z hp) lz (r3.less fun a z => .inl z)
        have sm : Sm W.S H (upd H' p (.dK ((ks.map Sum.inr).zip vs))) := fun a o n ha => by
          have ne : a ≠ p := fun z => by rw [z, hp] at ha; cases ha
          rw [upd_ne ne]
          exact ((sm_upd hp).trans s2) a o n ha
        exact q2 _ _ sm (o2.put nS) (.of rep) (fun _ => rep) fun _ => ⟨p, rfl, hp, .inr ⟨_, _, _, vs, rfl, upd_same, lz, r3⟩⟩
theorem le_dis0 {pos : Pos} : PE X (.Dict [] [] pos) (LE W C Wx (.dis [] .nil)) :=
  pe_weak pe_dnewK fun σ H Q ⟨ρ, O, c, r, k, q⟩ => by
    unfold ev evs at q
    intro p hp
    have ne : ¬ O p := fun z => r.trk p z hp
    have rep : Rep W (upd H p (.dK [])) O (.dic true [] []) (.ref p) := .dic (ks := []) (vs := []) (.inl upd_same) ne (fun _ z => k.era p z hp) rfl .nil
    exact q _ _ (sm_upd hp) (k.new hp) (.of rep) (fun _ => rep) fun _ => ⟨p, rfl, hp, .inr ⟨_, _, _, [], rfl, upd_same, rfl, .nil⟩⟩
omit hC in
/-- dict(D), D a dict of the module -/
theorem call_dictG {d : Addr} {kvs : List (Key × V)} (hd : (d == sysModules) = false) (hz : kvs.length ≤ sizeLine) (hk : ∀ h, X.K.In h → ∃ rs, h.DictOf (mixKind X.prog X.w) d rs ∧ KV kvs rs) : CallR X (.type "dict") (fun xs H Q => xs = [V.ref d] ∧ ∀ p, H p = none → Q (.ref p) (upd H p (.dK kvs))) := by
  intro pins s σ H xs us Q I r h
  obtain ⟨rfl, q⟩ := h
  obtain ⟨u, rfl, ru⟩ := r.one
  obtain rfl : u = Value.ref d := ru
  obtain ⟨rs, dd, rel⟩ := hk s.heap I.kIn
  refine kt_call_dict hd dd (by rw [← Paired.length rel]; exact hz) fun h' dd' hs => ?_
  refine ⟨.ref s.heap.objs.size, _, I.laid (a := s.heap.objs.size) (o := .dK kvs) (t' := s.toks) (fun b z hz => ?_) (Nat.le_refl _) (dk_new hz (beq_eq_false_iff_ne.mpr (Ne.symm (Nat.ne_of_lt I.big))) rel dd'), rfl, q _ (I.hok.fresh (Nat.le_refl _))⟩
  exact (hs.2 b (Nat.ne_of_lt (Heap.lt_size hz))).trans (Heap.get?_push_of_some _ hz)
omit hC in
theorem ints_rep : ∀ (is : List Int) (H : Hp) (O : Addr → Prop), RepL W H O (is.map .int) (is.map V.int)
  | [], _, _ => .nil
  | _ :: is, H, O => .cons .int (ints_rep is H O)
omit hC in
theorem le_dictG {x : Str} {ks : List Str} {is : List Int} {d : Addr} {p p2 pos : Pos} (hm : X.mg x = some (.ref d)) (hg : Gl X x) (hdx : (x == ("__debug__" : Str)) = false) (hd : (d == sysModules) = false) (hl : ks.length = is.length) (hz : is.length ≤ sizeLine)
    (hk : ∀ h, X.K.In h → ∃ rs, h.DictOf (mixKind X.prog X.w) d rs ∧ KV ((ks.map (Sum.inr : Str → Key)).zip (is.map V.int)) rs) (hgd : Gl X "dict") (hmd : X.mg "dict" = none) :
    PE X (.Call (.Name "dict" p) [.Name x p2] [] pos) (LE W C Wx (.dictG x ks is)) := by
  have lz : (ks.map (Sum.inr : Str → Key)).length = (is.map V.int).length := by rw [List.length_map, List.length_map]; exact hl
  refine pe_weak (pe_callTy (call_dictG hd (by rw [List.length_zip, lz, Nat.min_self, List.length_map]; exact hz) hk) hgd hmd rfl (pa_cons (pe_glob (v := .ref d) hg hm rfl hdx) pa_nil)) fun σ H Q ⟨ρ, O, c, r, k, q⟩ => ?_
  unfold ev at q
  refine ⟨rfl, fun p hp => ?_⟩
  have ne : ¬ O p := fun z => r.trk p z hp
  have rep : Rep W (upd H p (.dK ((ks.map (Sum.inr : Str → Key)).zip (is.map V.int)))) O (.dic true (ks.map .inr) (is.map .int)) (.ref p) := .dic (.inl upd_same) ne (fun _ z => k.era p z hp) lz (ints_rep is _ _)
  exact q _ _ (sm_upd hp) (k.new hp) (.of rep) (fun _ => rep) fun _ => ⟨p, rfl, hp, .inr ⟨_, _, _, _, rfl, upd_same, lz, ints_rep is _ _⟩⟩
theorem le_call0 (wo : WOk W) {f : Str} {p pos : Pos} {k : Nat} {n : Nat} {dom : List (Str × Nat)} (hK : X.K = W.K) (hM : X.mg = W.mg) (T : Tab X.prog X.w X.K X.mg X.base k C dom) (hin : (f, n) ∈ dom) (hr : Room k X.A) (tk : Takes X Wx)
    (hg : Gl X f) (hd : (f == ("__debug__" : Str)) = false) : PE X (.Call (.Name f p) [] [] pos) (LE W C Wx (.call f .nil)) := by
  obtain ⟨a, fd, ps, hmg, hkp, hb, hlen, ok⟩ := T.ok f n hin
  have base : PE X (.Call (.Name f p) [] [] pos) (fun σ H Q => SpF X.K X.mg C f [] H Q (WE Wx σ)) := ⟨fun pins s σ H Q I h => wpAny_Call_Name_kw (ld_glob I hg hmg (PySem.W.callWith_K0 I.kIn hkp (run_fnS (E := fun σ => WE Wx σ) (us := []) ok hr hb (passAt tk σ) I .nil h)) hd)⟩
  refine pe_weak base fun σ H Q ⟨ρ, O, c, r, k, q⟩ => ?_
  unfold ev evs at q
  refine ⟨W, O, [], c, wo, hK.symm, hM.symm, r.sub, r.trk, .nil, k, hC _ _ _ _ _ _ _ (fun pv c' q2 v H' s' o' rp => ?_) (fun er c' q2 cls d H' s' o' re => ?_) q⟩
  · exact q2 v H' s' o' (.of rp) (fun _ => rp) fun z => nomatch z
  · exact q2 cls d H' s' o' re
end
end Ze

/-! A text is looked at: it is what the small language says. -/
namespace Ze
open PySem PySem.Spec PyProof.Rows L2

mutual
def pvEq : PV → PV → Bool
  | .non, .non => true
  | .bl a, .bl b => a == b
  | .int a, .int b => decide (a = b)
  | .str a, .str b => decide (a = b)
  | .tup a, .tup b => pvEqs a b
  | _, _ => false
def pvEqs : List PV → List PV → Bool
  | [], [] => true
  | a :: l, b :: r => pvEq a b && pvEqs l r
  | _, _ => false
end
mutual
theorem pvEq_eq : ∀ {a b : PV}, pvEq a b = true → a = b
  | .non, b, h => by cases b <;> first | rfl | cases h
  | .bl a, b, h => by cases b <;> first | (cases h; done) | (rw [eq_of_beq (show (a == _) = true from h)])
  | .int a, b, h => by cases b <;> first | (cases h; done) | (rw [of_decide_eq_true (show decide (a = _) = true from h)])
  | .str a, b, h => by cases b <;> first | (cases h; done) | (rw [of_decide_eq_true (show decide (a = _) = true from h)])
  | .tup a, b, h => by cases b <;> first | (cases h; done) | (rw [pvEqs_eq (show pvEqs a _ = true from h)])
  | .lst _ _, b, h => by cases h
  | .dic _ _ _, b, h => by cases h
  | .fn _, b, h => by cases h
  | .ty _, b, h => by cases h
  | .strm, b, h => by cases h
theorem pvEqs_eq : ∀ {a b : List PV}, pvEqs a b = true → a = b
  | [], b, h => by cases b <;> first | rfl | cases h
  | x :: l, b, h => by
    cases b with
    | nil => cases h
    | cons y r =>
      have h' := (Bool.and_eq_true _ _).mp h
      rw [pvEq_eq h'.1, pvEqs_eq h'.2]
end

structure Sx where
  N : List Str
  sc : List (Str × NameKind)
  raw : List (Str × NameKind)
  dom : List (Str × Nat)
  gl : List (Str × PV)
  gd : List (Str × List Str × List Int)
def Sx.blk (S : Sx) (scope : Scope) : Sx :=
  { S with sc := scope.names.map (fun (n, k) => if (k == .free && S.sc.lookup n == some .cell) then (n, .cell) else (n, k)), raw := scope.names }

structure XOk (W : Wd) (C : Cl) (Wx : WX) (X : Cx) (S : Sx) (k : Nat) : Prop where
  N : X.N = S.N
  nd : X.N.Nodup
  sc : X.env.scope.names = S.sc
  kind : X.env.scope.kind = .function
  raw : ∀ x, S.raw.lookup x = some .cell → X.fn x = true
  calm : X.calm = true
  K : X.K = W.K
  mg : X.mg = W.mg
  room : Room (k + 1) X.A
  T : Tab X.prog X.w X.K X.mg X.base k C S.dom
  tk : Takes X Wx
  po : PassesOwn (model X.prog X.w) X.A X.env X.xe
  wok : S.dom ≠ [] → WOk W
  nob : ∀ b : Bi, X.mg (Str.ofString (nameB b)) = none
  nob2 : X.mg "zip" = none ∧ X.mg "enumerate" = none ∧ X.mg "range" = none ∧ X.mg "bool" = none
  gl : ∀ p ∈ S.gl, ∃ u y, X.mg p.1 = some u ∧ RelV y u ∧ ∀ H O, Rep W H O p.2 y
  gd : ∀ p ∈ S.gd, ∃ d, X.mg p.1 = some (.ref d) ∧ (d == sysModules) = false ∧ p.2.1.length = p.2.2.length ∧ p.2.2.length ≤ sizeLine ∧
    ∀ h, X.K.In h → ∃ rs, h.DictOf (mixKind X.prog X.w) d rs ∧ KV ((p.2.1.map (Sum.inr : Str → Key)).zip (p.2.2.map V.int)) rs
theorem XOk.blk {W : Wd} {C : Cl} {Wx : WX} {X : Cx} {S : Sx} {k : Nat} (x : XOk W C Wx X S k) (s : Shared) (H : Hp) (scope : Scope) (cl : List (Str × Addr)) (D : Addr) (fp : List Addr) (hk : scope.kind = .function) :
    XOk W C WF (X.blk s H scope (compEnvC scope cl D X.env) fp) (S.blk scope) k where
  N := x.N
  nd := x.nd
  sc := by
    show (relabel scope X.env).names = _
    unfold relabel Sx.blk
    have e : ∀ n, X.env.kindOf n = S.sc.lookup n := fun n => by show X.env.scope.names.lookup n = _; rw [x.sc]
    simp only [x.kind, e]
    congr 1
    funext p
    obtain ⟨n, kk⟩ := p
    have : ((ScopeKind.function == ScopeKind.function) = true) := by decide
    simp [this]
  kind := hk
  raw := fun y h => by
    show (scope.names.lookup y == some .cell) = true
    have h' : scope.names.lookup y = some .cell := h
    rw [h']; rfl
  calm := x.calm
  K := x.K
  mg := x.mg
  room := x.room
  T := x.T
  tk := fun u s' ⟨a, B, sI, pins, σ, H, cls, d, e, I, nb, up, sky, na, os, ag, w⟩ => w.elim
  po := PassesOwn.never
  wok := x.wok
  nob := x.nob
  nob2 := x.nob2
  gl := x.gl
  gd := x.gd

/-! ### looks -/
def isVisK : Option NameKind → Bool
  | some .local => true
  | some .cell => true
  | some .free => true
  | _ => false
def visB (S : Sx) (i : Nat) (x : Str) : Bool := decide (S.N[i]? = some x) && isVisK (S.sc.lookup x) && !(x == ("__debug__" : Str)) && !(x == ("__classdict__" : Str))
def storeB (S : Sx) (i : Nat) (x : Str) : Bool := decide (S.N[i]? = some x) && (decide (S.sc.lookup x = some .local) || (decide (S.sc.lookup x = some .cell) && decide (S.raw.lookup x = some .cell)))
def glB (S : Sx) (x : Str) : Bool := decide (S.sc.lookup x = some .globalImplicit) && !(x == ("__debug__" : Str))
section
variable {W : Wd} {C : Cl} {Wx : WX} {X : Cx} {S : Sx} {k : Nat}
theorem XOk.var {i : Nat} {x : Str} {pos : Pos} (o : XOk W C Wx X S k) (h : visB S i x = true) : PE X (.Name x pos) (tVar i) := by
  unfold visB at h
  simp only [Bool.and_eq_true, decide_eq_true_eq, Bool.not_eq_true'] at h
  obtain ⟨⟨⟨h1, h2⟩, h3⟩, h4⟩ := h
  refine pe_var (by rw [o.N]; exact h1) ?_ h3 h4
  unfold Vis
  rw [o.sc]
  unfold isVisK at h2
  split at h2
  · rename_i e; exact .inl e
  · rename_i e; exact .inr (.inl e)
  · rename_i e; exact .inr (.inr e)
  · cases h2
theorem XOk.glo {x : Str} (o : XOk W C Wx X S k) (h : glB S x = true) : Gl X x ∧ (x == ("__debug__" : Str)) = false := by
  unfold glB at h
  simp only [Bool.and_eq_true, decide_eq_true_eq, Bool.not_eq_true'] at h
  refine ⟨?_, h.2⟩
  show X.env.scope.names.lookup x = _
  rw [o.sc]; exact h.1
theorem XOk.store {i : Nat} {x : Str} (o : XOk W C Wx X S k) (h : storeB S i x = true) : X.N[i]? = some x ∧ L2.Loc X.env.scope x ∧ (X.fn x = true ∨ X.env.scope.names.lookup x = some .local) := by
  unfold storeB at h
  simp only [Bool.and_eq_true, decide_eq_true_eq, Bool.or_eq_true] at h
  obtain ⟨h1, h2⟩ := h
  refine ⟨by rw [o.N]; exact h1, ?_, ?_⟩
  · unfold L2.Loc
    rw [o.sc]
    rcases h2 with h2 | h2
    · exact .inl h2
    · exact .inr h2.1
  · rcases h2 with h2 | h2
    · right; rw [o.sc]; exact h2
    · exact .inl (o.raw x h2.2)
end
/-! ### targets -/
mutual
def chkG (S : Sx) : Tg → Expr → Bool
  | .nm i, e => match e with
    | .Name x _ => storeB S i x
    | _ => false
  | .tp ts, e => match e with
    | .Tuple es _ _ => es.all noStar && decide (es.length = lenTs ts) && chkGs S ts es
    | _ => false
def chkGs (S : Sx) : Tgs → List Expr → Bool
  | .nil, es => match es with
    | [] => true
    | _ => false
  | .cons t r, es => match es with
    | e :: es => noStar e && chkG S t e && chkGs S r es
    | _ => false
end
theorem assignEach_no {e : Expr} {es : List Expr} {env : PySem.Env} (h : noStar e = true) : assignEach (e :: es) env = (false, assign e env) :: assignEach es env := by
  cases e <;> first | rfl | cases h
theorem assignEach_len {env : PySem.Env} : ∀ {es : List Expr}, es.all noStar = true → (assignEach es env).length = es.length ∧ (assignEach es env).findIdx? (·.1) = none
  | [], _ => ⟨rfl, rfl⟩
  | e :: es, h => by
    rw [List.all_cons, Bool.and_eq_true] at h
    obtain ⟨a, b⟩ := assignEach_len (env := env) h.2
    rw [assignEach_no h.1]
    refine ⟨congrArg (· + 1) a, ?_⟩
    rw [List.findIdx?_cons]
    simp [b]
section
variable {W : Wd} {C : Cl} {Wx : WX} {X : Cx} {S : Sx} {k : Nat}
mutual
theorem sndG (o : XOk W C Wx X S k) : ∀ (g : Tg) {e : Expr}, chkG S g e = true → PG X e (gOf W.K g)
  | .nm i, e, h => by
    unfold chkG at h
    split at h
    · obtain ⟨a, b, d⟩ := o.store h
      unfold gOf
      exact pg_name o.nd a b d
    · cases h
  | .tp ts, e, h => by
    unfold chkG at h
    split at h
    · simp only [Bool.and_eq_true, decide_eq_true_eq] at h
      obtain ⟨⟨h1, h2⟩, h3⟩ := h
      obtain ⟨a, b⟩ := assignEach_len (env := X.env) h1
      exact pg_tup' o.K o.calm (sndGs o ts h3) (a.trans h2) b
    · cases h
theorem sndGs (o : XOk W C Wx X S k) : ∀ (g : Tgs) {es : List Expr}, chkGs S g es = true → PGs X es (gsOf W.K g)
  | .nil, es, h => by
    unfold chkGs at h
    split at h
    · unfold gsOf; exact pgs_nil
    · cases h
  | .cons t r, es, h => by
    unfold chkGs at h
    split at h
    · simp only [Bool.and_eq_true] at h
      unfold gsOf
      refine pgs_cons (sndG o t h.1.2) (sndGs o r h.2) ?_
      rw [assignEach_no h.1.1]; rfl
    · cases h
end
end
end Ze

/-! Expressions, looked at. -/
namespace Ze
open PySem PySem.Spec PyProof.Rows L2

/-- what may be asked as a test -/
def tst : Ex → Bool
  | .and a b => tst a && tst b
  | .or a b => tst a && tst b
  | .not a => tst a
  | .ife _ _ _ => false
  | .chain _ _ _ _ _ => false
  | _ => true
def opB : Op → Operator → Bool
  | .add, .Add => true
  | .sub, .Sub => true
  | .mul, .Mult => true
  | .fdiv, .FloorDiv => true
  | .mod, .Mod => true
  | .pow, .Pow => true
  | _, _ => false
def tyB (x : Str) (n : String) : Bool := decide ((x, n) ∈ ([("int", "int"), ("bool", "bool"), ("str", "str"), ("list", "list"), ("tuple", "tuple"), ("dict", "dict")] : List (Str × String)))
def ownOf (N : List Str) (own : List Nat) : List (Str × Nat) := own.map fun i => ((N[i]?).getD ⟨#[]⟩, i)
def scOf (l : List (Str × NameKind)) : Scope := ⟨.function, l, false, false, []⟩
def compB (S : Sx) (own : List Nat) (scope : Scope) (g : Tg) : Bool := blkC S.N (scOf S.sc) scope (ownOf S.N own) && (slotsT g).all (fun i => decide (i ∈ own))
def isKeys : It → Bool
  | .keys _ => true
  | _ => false
/-- one argument, two, so many -/
def es1 : Es → Bool
  | .cons _ .nil => true
  | _ => false
def es2 : Es → Bool
  | .cons _ (.cons _ .nil) => true
  | _ => false
def isTupE : Expr → Bool
  | .Tuple _ _ _ => true
  | _ => false

mutual
def chkE : Sx → Ex → Expr → Bool
  | S, .var i, e => match e with | .Name x _ => visB S i x | _ => false
  | S, .rd i, e => match e with | .Name x _ => visB S i x | _ => false
  | S, .non, e => match e with | .Constant .none _ _ => true | _ => false
  | S, .bl b, e => match e with | .Constant (.bool b') _ _ => b' == b | _ => false
  | S, .int i, e => match e with | .Constant (.int j) _ _ => decide (j = i) | _ => false
  | S, .str x, e => match e with | .Constant (.str y) _ _ => decide (y = x) | _ => false
  | S, .glo x v, e => match e with | .Name y _ => decide (y = x) && glB S x && S.gl.any (fun p => decide (p.1 = x) && pvEq p.2 v) | _ => false
  | S, .fnc x, e => false
  | S, .ty x n, e => match e with | .Name y _ => decide (y = x) && glB S x && tyB x n | _ => false
  | S, .op o a b, e => match e with | .BinOp ea o' eb _ => opB o o' && chkE S a ea && chkE S b eb | _ => false
  | S, .neg a, e => match e with | .UnaryOp .USub ea _ => chkE S a ea | _ => false
  | S, .cmp o a b, e => match e with | .Compare ea [o'] [eb] _ => decide (o' = ofCp o) && noSet eb && chkE S a ea && chkE S b eb | _ => false
  | S, .chain o p a b d, e => match e with | .Compare ea [o', p'] [eb, ed] _ => decide (o' = ofCp o) && decide (p' = ofCp p) && noSet ed && chkE S a ea && chkE S b eb && chkE S d ed | _ => false
  | S, .and a b, e => match e with
    | .BoolOp .And [ea, eb] _ => chkE S a ea && chkE S b eb
    | .BoolOp .And (ea :: eb :: ec :: r) p => chkE S a ea && chkE S b (.BoolOp .And (eb :: ec :: r) p)
    | _ => false
  | S, .or a b, e => match e with
    | .BoolOp .Or [ea, eb] _ => chkE S a ea && chkE S b eb
    | .BoolOp .Or (ea :: eb :: ec :: r) p => chkE S a ea && chkE S b (.BoolOp .Or (eb :: ec :: r) p)
    | _ => false
  | S, .not a, e => match e with | .UnaryOp .Not ea _ => chkE S a ea | _ => false
  | S, .ife t a b, e => match e with | .IfExp et ea eb _ => tst t && chkE S t et && chkE S a ea && chkE S b eb | _ => false
  | S, .tup es, e => match e with | .Tuple eas _ _ => chkA S es eas | _ => false
  | S, .lst es, e => match e with | .List eas _ => chkA S es eas | _ => false
  | S, .dis ks es, e => match e with
    | .Dict [] [] _ => ks.isEmpty && (match es with | .nil => true | _ => false)
    | .Dict (q :: keys) vals _ => decide ks.Nodup && sfL es && decide (ks.length = lenE es) && decide (ks.length ≤ 15) && decide ((q :: keys).length ≤ 15) && decide ((q :: keys).length = vals.length) && (q :: keys).all (·.isSome) && chkP S es ks (q :: keys) vals
    | _ => false
  | S, .dictG x ks is, e => match e with | .Call (.Name f _) [.Name y _] [] _ => decide (f = ("dict" : Str)) && glB S ("dict" : Str) && decide (y = x) && glB S x && S.gd.any (fun p => decide (p = (x, ks, is))) | _ => false
  | S, .idx a b, e => match e with | .Subscript ea eb _ => noSlice eb && chkE S a ea && chkE S b eb | _ => false
  | S, .slc a l h, e => match e with | .Subscript ea (.Slice el eh none _) _ => chkE S a ea && chkO S l el && chkO S h eh | _ => false
  | S, .rev a, e => match e with | .Subscript ea (.Slice none none (some (.UnaryOp .USub (.Constant (.int j) _ _) _)) _) _ => decide (j = 1) && chkE S a ea | _ => false
  | S, .call f es, e => match e with
    | .Call (.Name x _) [] [] _ => decide (x = f) && glB S f && S.dom.any (fun p => decide (p.1 = f)) && (match es with | .nil => true | _ => false)
    | .Call (.Name x _) (ea :: eas) [] _ => decide (x = f) && glB S f && S.dom.any (fun p => decide (p.1 = f)) && (ea :: eas).all noStar && chkA S es (ea :: eas)
    | _ => false
  | S, .callK _ _ _ _, e => false
  | S, .callV _ _, e => false
  | S, .bi b es, e => match e with
    | .Call (.Name x _) (ea :: eas) [] _ => decide (x = Str.ofString (nameB b)) && glB S x && (ea :: eas).all noStar && chkR S es (ea :: eas)
    | _ => false
  | S, .mt m o es, e => match m, es with
    | .index, .cons a .nil => (match e with
      | .Call (.Attribute eo nm apos) [ea] [] cpos => decide (nm = ("index" : Str)) && noStar ea && sfE a && noBare eo && (apos.endLine == cpos.line) && chkE S o eo && chkE S a ea
      | _ => false)
    | .items, .nil => (match e with
      | .Call (.Name f _) [.Call (.Attribute eo nm apos) [] [] cpos] [] _ => decide (f = ("list" : Str)) && glB S ("list" : Str) && decide (nm = ("items" : Str)) && noBare eo && (apos.endLine == cpos.line) && chkE S o eo
      | _ => false)
    | _, _ => false
  | S, .comp own w g ifs e', e => match e with
    | .ListComp elt [⟨tg, iter, eifs, a⟩] scope _ => decide (a = 0) && compB S own scope g && sfE e' && noSet iter && chkI S w tg iter && chkG (S.blk scope) g tg && chkTs (S.blk scope) ifs eifs && chkE (S.blk scope) e' elt
    | _ => false
  | S, .dcomp own w g ifs ek e', e => match e with
    | .DictComp kx vx [⟨tg, iter, eifs, a⟩] scope _ => decide (a = 0) && compB S own scope g && sfE e' && noSet iter && chkI S w tg iter && chkG (S.blk scope) g tg && chkTs (S.blk scope) ifs eifs && chkE (S.blk scope) ek kx && chkE (S.blk scope) e' vx
    | _ => false
def chkA : Sx → Es → List Expr → Bool
  | S, .nil, l => match l with | [] => true | _ => false
  | S, .cons a r, l => match l with | ea :: eas => noStar ea && sfE a && chkE S a ea && chkA S r eas | _ => false
  | S, .star a r, l => match l with | .Starred ea _ :: eas => chkE S a ea && chkA S r eas | _ => false
def chkR : Sx → Es → List Expr → Bool
  | S, .nil, l => match l with | [] => true | _ => false
  | S, .cons a r, l => match l with | ea :: eas => noStar ea && chkE S a ea && chkR S r eas | _ => false
  | S, .star a r, l => false
def chkP : Sx → Es → List Str → List (Option Expr) → List Expr → Bool
  | S, .nil, ks, keys, vals => ks.isEmpty && keys.isEmpty && vals.isEmpty
  | S, .cons a r, ks, keys, vals => match ks, keys, vals with
    | x :: ks, some (.Constant (.str y) _ _) :: keys, v :: vals => decide (y = x) && chkE S a v && chkP S r ks keys vals
    | _, _, _ => false
  | S, .star a r, ks, keys, vals => false
def chkO : Sx → Es → Option Expr → Bool
  | S, .nil, l => match l with | none => true | _ => false
  | S, .cons a r, l => match l, r with | some ea, .nil => chkE S a ea | _, _ => false
  | S, .star a r, l => false
def chkTs : Sx → Es → List Expr → Bool
  | S, .nil, l => match l with | [] => true | _ => false
  | S, .cons a r, l => match l, r with | [ea], .nil => tst a && chkE S a ea | _, _ => false
  | S, .star a r, l => false
def chkI : Sx → It → Expr → Expr → Bool
  | S, .seq a, tg, e => sfE a && chkE S a e
  | S, .zip es, tg, e => match e with
    | .Call (.Name x _) [e1, e2] [] _ => decide (x = ("zip" : Str)) && glB S ("zip" : Str) && isTupE tg && noStar e1 && noStar e2 && chkA S es [e1, e2]
    | _ => false
  | S, .enum a, tg, e => match e with
    | .Call (.Name x _) [e1] [] _ => decide (x = ("enumerate" : Str)) && glB S ("enumerate" : Str) && isTupE tg && noStar e1 && sfE a && chkE S a e1
    | _ => false
  | S, .range es, tg, e => match e with
    | .Call (.Name x _) [e1] [] _ => decide (x = ("range" : Str)) && glB S ("range" : Str) && noStar e1 && es1 es && chkA S es [e1]
    | .Call (.Name x _) [e1, e2] [] _ => decide (x = ("range" : Str)) && glB S ("range" : Str) && noStar e1 && noStar e2 && es2 es && chkA S es [e1, e2]
    | _ => false
  | S, .keys i, tg, e => match e with | .Name x _ => visB S i x | _ => false
end
end Ze

/-! What is seen of an expression's text is so. -/
namespace Ze
open PySem PySem.Spec PyProof.Rows L2

theorem fold_no {e : Expr} {env : PySem.Env} (h : noSet e = true) (x : Value) : foldedSetIterable e env x = pure x := by
  cases e <;> first | rfl | cases h
theorem BlkOk.names {N : List Str} {sc sc' scope : Scope} {own : List (Str × Nat)} (h : BlkOk N sc scope own) (e : sc.names = sc'.names) : BlkOk N sc' scope own :=
  ⟨h.kind, h.uniq, h.ix, fun y hy z => by rw [← e]; exact h.free y hy z, h.own⟩
theorem own_map {N : List Str} {own : List Nat} : (ownOf N own).map (·.2) = own := by
  unfold ownOf
  rw [List.map_map]
  exact List.map_id own
theorem blt_name (b : Bi) : bootBuiltins (Str.ofString (nameB b)) = some (valB b) := by cases b <;> rfl
theorem blt_ok (b : Bi) : Str.ofString (nameB b) ≠ "__name__" ∧ (Str.ofString (nameB b) == ("__debug__" : Str)) = false := by cases b <;> decide
section
variable {W : Wd} {C : Cl} {Wx : WX} {X : Cx} {S : Sx} {k : Nat}
/-- what is said of an expression -/
def SE (W : Wd) (C : Cl) (Wx : WX) (X : Cx) (ee : Ex) (e : Expr) : Prop := PE X e (LE W C Wx ee) ∧ (tst ee = true → PT X e (LT W C Wx ee) ∧ ∀ op l p, e = .BoolOp op l p → PW X e (LT W C Wx ee))
variable (hC : CMono C)
include hC
theorem se_plain {ee : Ex} {e : Expr} (hK : X.K = W.K) (hp : plainT e = true) (h : PE X e (LE W C Wx ee)) : SE W C Wx X ee e :=
  ⟨h, fun _ => ⟨lt_plain hC hK hp h, fun op l p z => by rw [z] at hp; cases hp⟩⟩
omit hC in
theorem XOk.one (o : XOk W C Wx X S k) : Room 1 X.A := o.room.mono (Nat.succ_le_succ (Nat.zero_le _))
omit hC in
theorem XOk.rk (o : XOk W C Wx X S k) : Room k X.A := o.room.mono (Nat.le_succ _)
omit hC in
theorem XOk.u65 (o : XOk W C Wx X S k) : X.A.units + 65 < cLine := by have := o.room.un; omega
omit hC in
theorem XOk.u1 (o : XOk W C Wx X S k) : X.A.units + 1 < cLine := by have := o.room.un; omega
omit hC in
theorem XOk.comp {own : List Nat} {scope : Scope} {g : Tg} (o : XOk W C Wx X S k) (h : compB S own scope g = true) : BlkOk X.N X.env.scope scope (ownOf S.N own) ∧ (∀ i ∈ slotsT g, i ∈ (ownOf S.N own).map (·.2)) ∧ scope.kind = .function := by
  unfold compB at h
  rw [Bool.and_eq_true] at h
  have b := blkOk_by h.1
  refine ⟨?_, ?_, b.kind⟩
  · rw [o.N]; exact BlkOk.names b (by rw [o.sc]; rfl)
  · rw [own_map]
    intro i hi
    exact of_decide_eq_true (List.all_eq_true.mp h.2 i hi)
omit hC in
theorem XOk.domOf {f : Str} (o : XOk W C Wx X S k) (h : S.dom.any (fun p => decide (p.1 = f)) = true) : ∃ n, (f, n) ∈ S.dom := by
  rw [List.any_eq_true] at h
  obtain ⟨p, hp, e⟩ := h
  have e := of_decide_eq_true e
  subst e
  exact ⟨p.2, hp⟩
omit hC in
theorem tyB_ok {x : Str} {m : String} (o : XOk W C Wx X S k) (h : tyB x m = true) : X.mg x = none ∧ bootBuiltins x = some (.type m) ∧ x ≠ "__name__" := by
  have h := of_decide_eq_true h
  simp only [List.mem_cons, List.mem_nil_iff, or_false, Prod.mk.injEq] at h
  rcases h with ⟨rfl, rfl⟩ | ⟨rfl, rfl⟩ | ⟨rfl, rfl⟩ | ⟨rfl, rfl⟩ | ⟨rfl, rfl⟩ | ⟨rfl, rfl⟩
  · exact ⟨o.nob .int, rfl, by decide⟩
  · exact ⟨o.nob2.2.2.2, rfl, by decide⟩
  · exact ⟨o.nob .str, rfl, by decide⟩
  · exact ⟨o.nob .list, rfl, by decide⟩
  · exact ⟨o.nob .tuple, rfl, by decide⟩
  · exact ⟨o.nob .dict, rfl, by decide⟩
theorem evs_one {es : Es} (h : es1 es = true) : ∀ ρ c k x, evs C es ρ c k x → evs C es ρ c (fun vs c' => vs.length = 1 ∧ k vs c') x := by
  intro ρ c k x q
  cases es with
  | nil => cases h
  | star _ _ => cases h
  | cons a r =>
    cases r with
    | cons _ _ => cases h
    | star _ _ => cases h
    | nil =>
      unfold evs at q ⊢
      refine ev_mono hC a ρ c (fun v c1 q => ?_) (fun _ _ z => z) q
      unfold evs at q ⊢
      exact ⟨rfl, q⟩
theorem evs_two {es : Es} (h : es2 es = true) : ∀ ρ c k x, evs C es ρ c k x → evs C es ρ c (fun vs c' => vs.length = 2 ∧ k vs c') x := by
  intro ρ c k x q
  cases es with
  | nil => cases h
  | star _ _ => cases h
  | cons a r =>
    cases r with
    | nil => cases h
    | star _ _ => cases h
    | cons b r =>
      cases r with
      | cons _ _ => cases h
      | star _ _ => cases h
      | nil =>
        unfold evs at q ⊢
        refine ev_mono hC a ρ c (fun v c1 q => ?_) (fun _ _ z => z) q
        unfold evs at q ⊢
        refine ev_mono hC b ρ c1 (fun v c1 q => ?_) (fun _ _ z => z) q
        unfold evs at q ⊢
        exact ⟨rfl, q⟩
end

section
variable {W : Wd} {C : Cl} (hC : CMono C)
include hC
mutual
theorem sndE : ∀ (ee : Ex) {Wx : WX} {X : Cx} {S : Sx} {k : Nat} {e : Expr}, XOk W C Wx X S k → chkE S ee e = true → SE W C Wx X ee e
  | .var i, Wx, X, S, k, e, o, h => by
    unfold chkE at h
    split at h <;> (try (cases h; done))
    exact se_plain hC o.K rfl (le_var (o.var h))
  | .rd i, Wx, X, S, k, e, o, h => by
    unfold chkE at h
    split at h <;> (try (cases h; done))
    exact se_plain hC o.K rfl (le_rd (o.var h))
  | .non, Wx, X, S, k, e, o, h => by
    unfold chkE at h
    split at h <;> (try (cases h; done))
    exact se_plain hC o.K rfl (le_c pe_non (fun _ _ => .non) (fun _ _ _ _ q => by unfold ev at q; exact q) rfl)
  | .bl b, Wx, X, S, k, e, o, h => by
    unfold chkE at h
    split at h <;> (try (cases h; done))
    obtain rfl := eq_of_beq h
    exact se_plain hC o.K rfl (le_c pe_bl (fun _ _ => .bl) (fun _ _ _ _ q => by unfold ev at q; exact q) rfl)
  | .int b, Wx, X, S, k, e, o, h => by
    unfold chkE at h
    split at h <;> (try (cases h; done))
    obtain rfl := of_decide_eq_true h
    exact se_plain hC o.K rfl (le_c pe_int (fun _ _ => .int) (fun _ _ _ _ q => by unfold ev at q; exact q) rfl)
  | .str b, Wx, X, S, k, e, o, h => by
    unfold chkE at h
    split at h <;> (try (cases h; done))
    obtain rfl := of_decide_eq_true h
    exact se_plain hC o.K rfl (le_c pe_str (fun _ _ => .str) (fun _ _ _ _ q => by unfold ev at q; exact q) rfl)
  | .glo x v, Wx, X, S, k, e, o, h => by
    unfold chkE at h
    split at h <;> (try (cases h; done))
    simp only [Bool.and_eq_true, decide_eq_true_eq, List.any_eq_true] at h
    obtain ⟨⟨rfl, hg⟩, p, hp, e1, e2⟩ := h
    obtain ⟨g1, g2⟩ := o.glo hg
    obtain ⟨u, y, m1, m2, m3⟩ := o.gl p hp
    rw [e1] at m1
    obtain rfl := pvEq_eq e2
    exact se_plain hC o.K rfl (le_c (pe_glob g1 m1 m2 g2) (fun H O => m3 H O) (fun _ _ _ _ q => by unfold ev at q; exact q) rfl)
  | .fnc x, Wx, X, S, k, e, o, h => by unfold chkE at h; cases h
  | .ty x m, Wx, X, S, k, e, o, h => by
    unfold chkE at h
    split at h <;> (try (cases h; done))
    simp only [Bool.and_eq_true, decide_eq_true_eq] at h
    obtain ⟨⟨rfl, hg⟩, ht⟩ := h
    obtain ⟨g1, g2⟩ := o.glo hg
    obtain ⟨t1, t2, t3⟩ := tyB_ok o ht
    exact se_plain hC o.K rfl (le_c (pe_bltn (v := .ty m) g1 t1 t2 rfl t3 g2) (fun _ _ => .ty) (fun _ _ _ _ q => by unfold ev at q; exact q) rfl)
  | .op p a b, Wx, X, S, k, e, o, h => by
    unfold chkE at h
    split at h <;> (try (cases h; done))
    simp only [Bool.and_eq_true] at h
    obtain ⟨⟨h1, h2⟩, h3⟩ := h
    have ha := (sndE a o h2).1
    have hb := (sndE b o h3).1
    refine se_plain hC o.K rfl ?_
    rename_i o' eb pos
    cases p <;> cases o' <;> first | (cases h1; done) | exact le_add hC ha hb | exact le_sub hC ha hb | exact le_mul hC ha hb | exact le_fdiv hC ha hb | exact le_mod hC ha hb | exact le_pow hC ha hb
  | .neg a, Wx, X, S, k, e, o, h => by
    unfold chkE at h
    split at h <;> (try (cases h; done))
    exact se_plain hC o.K rfl (le_neg hC (sndE a o h).1)
  | .cmp p a b, Wx, X, S, k, e, o, h => by
    unfold chkE at h
    split at h <;> (try (cases h; done))
    simp only [Bool.and_eq_true, decide_eq_true_eq] at h
    obtain ⟨⟨⟨rfl, h2⟩, h3⟩, h4⟩ := h
    obtain ⟨a1, a2⟩ := le_cmp hC o.K o.one (o := p) (sndE a o h3).1 (sndE b o h4).1 h2
    exact ⟨a1, fun _ => ⟨a2, fun op l p z => nomatch z⟩⟩
  | .chain p q a b d, Wx, X, S, k, e, o, h => by
    unfold chkE at h
    split at h <;> (try (cases h; done))
    simp only [Bool.and_eq_true, decide_eq_true_eq] at h
    obtain ⟨⟨⟨⟨⟨rfl, rfl⟩, h2⟩, h3⟩, h4⟩, h5⟩ := h
    exact ⟨le_chain hC o.K o.one (o := p) (p := q) (sndE a o h3).1 (sndE b o h4).1 (sndE d o h5).1 h2, fun z => nomatch z⟩
  | .and a b, Wx, X, S, k, e, o, h => by
    unfold chkE at h
    split at h <;> (try (cases h; done))
    · simp only [Bool.and_eq_true] at h
      obtain ⟨a1, a2⟩ := sndE a o h.1
      obtain ⟨b1, b2⟩ := sndE b o h.2
      refine ⟨le_and hC o.K a1 (pe_one b1), fun ht => ?_⟩
      have ht' := (Bool.and_eq_true _ _).mp ht
      have pw : ∀ p, PW X (.BoolOp .And _ p) (LT W C Wx (.and a b)) := fun p => lw_and hC (pos := p) (a2 ht'.1).1 (lw_and1 hC (b2 ht'.2).1)
      exact ⟨(pw _).pt, fun op l p z => by cases z; exact pw _⟩
    · simp only [Bool.and_eq_true] at h
      obtain ⟨a1, a2⟩ := sndE a o h.1
      obtain ⟨b1, b2⟩ := sndE b o h.2
      refine ⟨le_and hC o.K a1 b1, fun ht => ?_⟩
      have ht' := (Bool.and_eq_true _ _).mp ht
      have pw := lw_and hC (a2 ht'.1).1 ((b2 ht'.2).2 _ _ _ rfl)
      exact ⟨pw.pt, fun op l p z => by cases z; exact pw⟩
  | .or a b, Wx, X, S, k, e, o, h => by
    unfold chkE at h
    split at h <;> (try (cases h; done))
    · simp only [Bool.and_eq_true] at h
      obtain ⟨a1, a2⟩ := sndE a o h.1
      obtain ⟨b1, b2⟩ := sndE b o h.2
      refine ⟨le_or hC o.K a1 (pe_one b1), fun ht => ?_⟩
      have ht' := (Bool.and_eq_true _ _).mp ht
      have pw : ∀ p, PW X (.BoolOp .Or _ p) (LT W C Wx (.or a b)) := fun p => lw_or hC (pos := p) (a2 ht'.1).1 (lw_or1 hC (b2 ht'.2).1)
      exact ⟨(pw _).pt, fun op l p z => by cases z; exact pw _⟩
    · simp only [Bool.and_eq_true] at h
      obtain ⟨a1, a2⟩ := sndE a o h.1
      obtain ⟨b1, b2⟩ := sndE b o h.2
      refine ⟨le_or hC o.K a1 b1, fun ht => ?_⟩
      have ht' := (Bool.and_eq_true _ _).mp ht
      have pw := lw_or hC (a2 ht'.1).1 ((b2 ht'.2).2 _ _ _ rfl)
      exact ⟨pw.pt, fun op l p z => by cases z; exact pw⟩
  | .not a, Wx, X, S, k, e, o, h => by
    unfold chkE at h
    split at h <;> (try (cases h; done))
    obtain ⟨a1, a2⟩ := sndE a o h
    exact ⟨le_not hC o.K a1, fun ht => ⟨lt_not hC (a2 ht).1, fun op l p z => nomatch z⟩⟩
  | .ife t a b, Wx, X, S, k, e, o, h => by
    unfold chkE at h
    split at h <;> (try (cases h; done))
    simp only [Bool.and_eq_true] at h
    obtain ⟨⟨⟨h1, h2⟩, h3⟩, h4⟩ := h
    exact ⟨le_ife hC ((sndE t o h2).2 h1).1 (sndE a o h3).1 (sndE b o h4).1, fun z => nomatch z⟩
  | .tup es, Wx, X, S, k, e, o, h => by
    unfold chkE at h
    split at h <;> (try (cases h; done))
    exact se_plain hC o.K rfl (le_tup hC (sndA es o h))
  | .lst es, Wx, X, S, k, e, o, h => by
    unfold chkE at h
    split at h <;> (try (cases h; done))
    exact se_plain hC o.K rfl (le_lst hC (sndA es o h))
  | .dis ks es, Wx, X, S, k, e, o, h => by
    unfold chkE at h
    split at h <;> (try (cases h; done))
    · simp only [Bool.and_eq_true, List.isEmpty_iff] at h
      obtain ⟨rfl, h2⟩ := h
      cases es <;> (try (cases h2; done))
      exact se_plain hC o.K rfl (le_dis0 hC)
    · simp only [Bool.and_eq_true, decide_eq_true_eq] at h
      obtain ⟨⟨⟨⟨⟨⟨⟨h1, h2⟩, h3⟩, h4⟩, h5⟩, h6⟩, h7⟩, h8⟩ := h
      exact se_plain hC o.K rfl (le_dis hC h1 h2 h3 (sndP es o h8) h7 h6 (fun z => nomatch z) h5 h4)
  | .dictG x ks is, Wx, X, S, k, e, o, h => by
    unfold chkE at h
    split at h <;> (try (cases h; done))
    simp only [Bool.and_eq_true, decide_eq_true_eq, List.any_eq_true] at h
    obtain ⟨⟨⟨⟨rfl, h1⟩, rfl⟩, h3⟩, p, hp, rfl⟩ := h
    obtain ⟨g1, g2⟩ := o.glo h3
    obtain ⟨g3, _⟩ := o.glo h1
    obtain ⟨d, d1, d2, d3, d4, d5⟩ := o.gd _ hp
    exact se_plain hC o.K rfl (le_dictG d1 g1 g2 d2 d3 d4 d5 g3 (o.nob .dict))
  | .idx a b, Wx, X, S, k, e, o, h => by
    unfold chkE at h
    split at h <;> (try (cases h; done))
    simp only [Bool.and_eq_true] at h
    exact se_plain hC o.K rfl (le_idx hC o.K o.one h.1.1 (sndE a o h.1.2).1 (sndE b o h.2).1)
  | .slc a l hh, Wx, X, S, k, e, o, h => by
    unfold chkE at h
    split at h <;> (try (cases h; done))
    simp only [Bool.and_eq_true] at h
    exact se_plain hC o.K rfl (le_slc hC o.K (sndE a o h.1.1).1 (sndO l o h.1.2) (sndO hh o h.2))
  | .rev a, Wx, X, S, k, e, o, h => by
    unfold chkE at h
    split at h <;> (try (cases h; done))
    simp only [Bool.and_eq_true, decide_eq_true_eq] at h
    obtain ⟨rfl, h2⟩ := h
    exact se_plain hC o.K rfl (le_rev hC o.K (sndE a o h2).1)
  | .call f es, Wx, X, S, k, e, o, h => by
    unfold chkE at h
    split at h <;> (try (cases h; done))
    · simp only [Bool.and_eq_true, decide_eq_true_eq] at h
      obtain ⟨⟨⟨rfl, h1⟩, h2⟩, h3⟩ := h
      cases es <;> (try (cases h3; done))
      obtain ⟨g1, g2⟩ := o.glo h1
      obtain ⟨n, hn⟩ := o.domOf h2
      exact se_plain hC o.K rfl (le_call0 hC (o.wok (List.ne_nil_of_mem hn)) o.K o.mg o.T hn o.rk o.tk g1 g2)
    · simp only [Bool.and_eq_true, decide_eq_true_eq] at h
      obtain ⟨⟨⟨⟨rfl, h1⟩, h2⟩, h3⟩, h4⟩ := h
      obtain ⟨g1, g2⟩ := o.glo h1
      obtain ⟨n, hn⟩ := o.domOf h2
      exact se_plain hC o.K rfl (le_call hC (o.wok (List.ne_nil_of_mem hn)) o.K o.mg o.T hn o.rk o.tk g1 h3 (sndA es o h4) g2)
  | .callK _ _ _ _, Wx, X, S, k, e, o, h => by unfold chkE at h; cases h
  | .callV _ _, Wx, X, S, k, e, o, h => by unfold chkE at h; cases h
  | .bi b es, Wx, X, S, k, e, o, h => by
    unfold chkE at h
    split at h <;> (try (cases h; done))
    simp only [Bool.and_eq_true, decide_eq_true_eq] at h
    obtain ⟨⟨⟨rfl, h1⟩, h2⟩, h3⟩ := h
    obtain ⟨g1, g2⟩ := o.glo h1
    exact se_plain hC o.K rfl (le_bi hC o.K o.calm rfl g1 (o.nob b) (blt_name b) h2 (sndR es o h3) (by cases b <;> rfl) (blt_ok b).1 (blt_ok b).2)
  | .mt .index q (.cons a .nil), Wx, X, S, k, e, o, h => by
    unfold chkE at h
    dsimp only at h
    split at h <;> (try (cases h; done))
    simp only [Bool.and_eq_true, decide_eq_true_eq] at h
    obtain ⟨⟨⟨⟨⟨⟨rfl, h1⟩, h2⟩, h3⟩, h4⟩, h5⟩, h6⟩ := h
    exact se_plain hC o.K rfl (le_index hC o.u65 o.K h1 h2 (attr_base h3) h4 (sndE q o h5).1 (sndE a o h6).1)
  | .mt .items q .nil, Wx, X, S, k, e, o, h => by
    unfold chkE at h
    dsimp only at h
    split at h <;> (try (cases h; done))
    simp only [Bool.and_eq_true, decide_eq_true_eq] at h
    obtain ⟨⟨⟨⟨⟨rfl, h1⟩, rfl⟩, h3⟩, h4⟩, h5⟩ := h
    obtain ⟨g1, g2⟩ := o.glo h1
    exact se_plain hC o.K rfl (le_items hC o.calm g1 (o.nob .list) rfl (attr_base h3) h4 (sndE q o h5).1)
  | .mt .index q .nil, Wx, X, S, k, e, o, h => by unfold chkE at h; cases h
  | .mt .index q (.star _ _), Wx, X, S, k, e, o, h => by unfold chkE at h; cases h
  | .mt .index q (.cons _ (.cons _ _)), Wx, X, S, k, e, o, h => by unfold chkE at h; cases h
  | .mt .index q (.cons _ (.star _ _)), Wx, X, S, k, e, o, h => by unfold chkE at h; cases h
  | .mt .items q (.cons _ _), Wx, X, S, k, e, o, h => by unfold chkE at h; cases h
  | .mt .items q (.star _ _), Wx, X, S, k, e, o, h => by unfold chkE at h; cases h
  | .mt .get2 q _, Wx, X, S, k, e, o, h => by unfold chkE at h; cases h
  | .mt .count q _, Wx, X, S, k, e, o, h => by unfold chkE at h; cases h
  | .comp own w g ifs e', Wx, X, S, k, e, o, h => by
    unfold chkE at h
    split at h <;> (try (cases h; done))
    simp only [Bool.and_eq_true, decide_eq_true_eq] at h
    obtain ⟨⟨⟨⟨⟨⟨⟨rfl, h1⟩, h2⟩, h3⟩, h4⟩, h5⟩, h6⟩, h7⟩ := h
    obtain ⟨c1, c2, c3⟩ := o.comp h1
    refine se_plain hC o.K rfl ?_
    have e1 : LE W C Wx (.comp own w g ifs e') = LE W C Wx (.comp ((ownOf S.N own).map (·.2)) w g ifs e') := by rw [own_map]
    rw [e1]
    cases w with
    | keys i =>
      unfold chkI at h4
      split at h4 <;> (try (cases h4; done))
      exact le_compK hC c2 h2 o.calm o.nd (o.var h4) c1 (fun s H D cl fp => sndG (o.blk s H _ cl D fp c3) g h5) (fun s H D cl fp => sndTs ifs (o.blk s H _ cl D fp c3) h6) (fun s H D cl fp => (sndE e' (o.blk s H _ cl D fp c3) h7).1)
    | _ => exact le_comp hC c2 h2 o.calm o.nd (sndI _ rfl o h4) c1 (fun s H D cl fp => sndG (o.blk s H _ cl D fp c3) g h5) (fun s H D cl fp => sndTs ifs (o.blk s H _ cl D fp c3) h6) (fun s H D cl fp => (sndE e' (o.blk s H _ cl D fp c3) h7).1) (fold_no h3)
  | .dcomp own w g ifs ek e', Wx, X, S, k, e, o, h => by
    unfold chkE at h
    split at h <;> (try (cases h; done))
    simp only [Bool.and_eq_true, decide_eq_true_eq] at h
    obtain ⟨⟨⟨⟨⟨⟨⟨⟨rfl, h1⟩, h2⟩, h3⟩, h4⟩, h5⟩, h6⟩, h7⟩, h8⟩ := h
    obtain ⟨c1, c2, c3⟩ := o.comp h1
    refine se_plain hC o.K rfl ?_
    have e1 : LE W C Wx (.dcomp own w g ifs ek e') = LE W C Wx (.dcomp ((ownOf S.N own).map (·.2)) w g ifs ek e') := by rw [own_map]
    rw [e1]
    cases w with
    | keys i =>
      unfold chkI at h4
      split at h4 <;> (try (cases h4; done))
      exact le_dcompK hC c2 h2 o.calm o.nd (o.var h4) c1 (fun s H D cl fp => sndG (o.blk s H _ cl D fp c3) g h5) (fun s H D cl fp => sndTs ifs (o.blk s H _ cl D fp c3) h6) (fun s H D cl fp => (sndE ek (o.blk s H _ cl D fp c3) h7).1) (fun s H D cl fp => (sndE e' (o.blk s H _ cl D fp c3) h8).1)
    | _ => exact le_dcomp hC c2 h2 o.calm o.nd (sndI _ rfl o h4) c1 (fun s H D cl fp => sndG (o.blk s H _ cl D fp c3) g h5) (fun s H D cl fp => sndTs ifs (o.blk s H _ cl D fp c3) h6) (fun s H D cl fp => (sndE ek (o.blk s H _ cl D fp c3) h7).1) (fun s H D cl fp => (sndE e' (o.blk s H _ cl D fp c3) h8).1) (fold_no h3)
theorem sndA : ∀ (es : Es) {Wx : WX} {X : Cx} {S : Sx} {k : Nat} {l : List Expr}, XOk W C Wx X S k → chkA S es l = true → PA X l (LA W C Wx es)
  | .nil, Wx, X, S, k, l, o, h => by
    unfold chkA at h
    split at h <;> (try (cases h; done))
    exact la_nil
  | .cons a r, Wx, X, S, k, l, o, h => by
    unfold chkA at h
    split at h <;> (try (cases h; done))
    simp only [Bool.and_eq_true] at h
    exact la_cons hC h.1.1.1 h.1.1.2 (sndE a o h.1.2).1 (sndA r o h.2)
  | .star a r, Wx, X, S, k, l, o, h => by
    unfold chkA at h
    split at h <;> (try (cases h; done))
    simp only [Bool.and_eq_true] at h
    exact la_star hC o.K (sndE a o h.1).1 (sndA r o h.2)
theorem sndR : ∀ (es : Es) {Wx : WX} {X : Cx} {S : Sx} {k : Nat} {l : List Expr}, XOk W C Wx X S k → chkR S es l = true → PA X l (LAr W C Wx es)
  | .nil, Wx, X, S, k, l, o, h => by
    unfold chkR at h
    split at h <;> (try (cases h; done))
    exact lar_nil
  | .cons a r, Wx, X, S, k, l, o, h => by
    unfold chkR at h
    split at h <;> (try (cases h; done))
    simp only [Bool.and_eq_true] at h
    exact lar_cons hC h.1.1 (sndE a o h.1.2).1 (sndR r o h.2)
  | .star a r, Wx, X, S, k, l, o, h => by unfold chkR at h; cases h
theorem sndP : ∀ (es : Es) {Wx : WX} {X : Cx} {S : Sx} {k : Nat} {ks : List Str} {keys : List (Option Expr)} {vals : List Expr} {pos : Pos}, XOk W C Wx X S k → chkP S es ks keys vals = true → PPs X pos keys vals (LP W C Wx ks es)
  | .nil, Wx, X, S, k, ks, keys, vals, pos, o, h => by
    unfold chkP at h
    simp only [Bool.and_eq_true, List.isEmpty_iff] at h
    obtain ⟨⟨rfl, rfl⟩, rfl⟩ := h
    exact pps_nil
  | .cons a r, Wx, X, S, k, ks, keys, vals, pos, o, h => by
    unfold chkP at h
    split at h <;> (try (cases h; done))
    simp only [Bool.and_eq_true, decide_eq_true_eq] at h
    obtain ⟨⟨rfl, h2⟩, h3⟩ := h
    exact pps_cons pe_str (sndE a o h2).1 (sndP r o h3)
  | .star a r, Wx, X, S, k, ks, keys, vals, pos, o, h => by unfold chkP at h; cases h
theorem sndO : ∀ (es : Es) {Wx : WX} {X : Cx} {S : Sx} {k : Nat} {l : Option Expr}, XOk W C Wx X S k → chkO S es l = true → PO X l (LO W C Wx es)
  | .nil, Wx, X, S, k, l, o, h => by
    unfold chkO at h
    split at h <;> (try (cases h; done))
    exact lo_none
  | .cons a r, Wx, X, S, k, l, o, h => by
    unfold chkO at h
    split at h <;> (try (cases h; done))
    exact lo_some hC (sndE a o h).1
  | .star a r, Wx, X, S, k, l, o, h => by unfold chkO at h; cases h
theorem sndTs : ∀ (es : Es) {X : Cx} {S : Sx} {k : Nat} {l : List Expr}, XOk W C WF X S k → chkTs S es l = true → PTs X l (LTs W C es)
  | .nil, X, S, k, l, o, h => by
    unfold chkTs at h
    split at h <;> (try (cases h; done))
    exact lts_nil
  | .cons a r, X, S, k, l, o, h => by
    unfold chkTs at h
    split at h <;> (try (cases h; done))
    simp only [Bool.and_eq_true] at h
    exact lts_one hC ((sndE a o h.2).2 h.1).1
  | .star a r, X, S, k, l, o, h => by unfold chkTs at h; cases h
theorem sndI : ∀ (w : It), isKeys w = false → ∀ {Wx : WX} {X : Cx} {S : Sx} {k : Nat} {tg e : Expr}, XOk W C Wx X S k → chkI S w tg e = true → PI X tg e (LI W C Wx w)
  | .seq a, _, Wx, X, S, k, tg, e, o, h => by
    unfold chkI at h
    simp only [Bool.and_eq_true] at h
    exact li_seq hC o.K h.1 (sndE a o h.2).1
  | .zip es, _, Wx, X, S, k, tg, e, o, h => by
    unfold chkI at h
    split at h <;> (try (cases h; done))
    simp only [Bool.and_eq_true, decide_eq_true_eq] at h
    obtain ⟨⟨⟨⟨⟨rfl, h1⟩, h2⟩, h3⟩, h4⟩, h5⟩ := h
    cases tg <;> (try (cases h2; done))
    exact li_zip hC o.K (o.glo h1).1 o.nob2.1 h3 h4 (sndA es o h5)
  | .enum a, _, Wx, X, S, k, tg, e, o, h => by
    unfold chkI at h
    split at h <;> (try (cases h; done))
    simp only [Bool.and_eq_true, decide_eq_true_eq] at h
    obtain ⟨⟨⟨⟨⟨rfl, h1⟩, h2⟩, h3⟩, h4⟩, h5⟩ := h
    cases tg <;> (try (cases h2; done))
    exact li_enum hC o.K (o.glo h1).1 o.nob2.2.1 h3 h4 (sndE a o h5).1
  | .range es, _, Wx, X, S, k, tg, e, o, h => by
    unfold chkI at h
    split at h <;> (try (cases h; done))
    · simp only [Bool.and_eq_true, decide_eq_true_eq] at h
      obtain ⟨⟨⟨⟨rfl, h1⟩, h2⟩, h3⟩, h4⟩ := h
      exact li_range1 hC (o.glo h1).1 o.nob2.2.2.1 h2 (sndA es o h4) (evs_one hC h3)
    · simp only [Bool.and_eq_true, decide_eq_true_eq] at h
      obtain ⟨⟨⟨⟨⟨rfl, h1⟩, h2⟩, h3⟩, h4⟩, h5⟩ := h
      exact li_range2 hC (o.glo h1).1 o.nob2.2.2.1 h2 h3 (sndA es o h5) (evs_two hC h4)
  | .keys i, hk, Wx, X, S, k, tg, e, o, h => by cases hk
end
end
end Ze

/-! Statements, looked at. -/
namespace Ze
open PySem PySem.Spec PyProof.Rows L2
/-- whether the comprehension's list goes straight into the name -/
def swE (S : Sx) (x : Str) (py : Pos) (ee : Expr) : Bool := match ee with
  | .ListComp _ _ s p => decide (S.sc.lookup x = some .local) && (py.line == p.line) && !(s.names.any fun (n, k) => n == x && (k == .local || k == .cell))
  | .SetComp _ _ s p => decide (S.sc.lookup x = some .local) && (py.line == p.line) && !(s.names.any fun (n, k) => n == x && (k == .local || k == .cell))
  | .DictComp _ _ _ s p => decide (S.sc.lookup x = some .local) && (py.line == p.line) && !(s.names.any fun (n, k) => n == x && (k == .local || k == .cell))
  | _ => false
def isLc : Expr → Bool
  | .ListComp _ _ _ _ => true
  | _ => false
def isCompE : Expr → Bool
  | .ListComp _ _ _ _ => true
  | .SetComp _ _ _ _ => true
  | .DictComp _ _ _ _ _ => true
  | _ => false
def compNoKeys : Ex → Bool
  | .comp _ w _ _ _ => !isKeys w
  | _ => false
def setB (S : Sx) (x : Str) (py : Pos) (e : Ex) (ee : Expr) : Bool := !swE S x py ee || (isLc ee && compNoKeys e)
def isTup : Expr → Bool
  | .Tuple _ _ _ => true
  | _ => false
def notFrz : Sm1 → Bool
  | .frz _ => false
  | _ => true
def parB (S : Sx) (i j : Nat) (x y : Str) (px py : Pos) (ea eb : Expr) : Bool :=
  decide (S.N[i]? = some x) && decide (S.N[j]? = some y) && decide (i ≠ j) && decide (S.sc.lookup x = some .local) && decide (S.sc.lookup y = some .local) && (py.line == px.line) && noStar ea && noStar eb &&
    !(foldedForSure 8 ea && foldedForSure 8 eb) && !(constantsAlone 8 ea && constantsAlone 8 eb) && !(x == y)
mutual
def chkS : Sx → Sm1 → Stmt → Bool
  | S, .set i e, st => match st with
    | .Assign [.Name x py] ee _ => storeB S i x && sfE e && setB S x py e ee && chkE S e ee
    | _ => false
  | S, .own i e, st => match st with
    | .Assign [.Name x py] ee _ => storeB S i x && frE e && setB S x py e ee && chkE S e ee
    | _ => false
  | S, .frz _, st => false
  | S, .app i e, st => match st with
    | .Expr (.Call (.Attribute (.Name x _) nm apos) [ea] [] cpos) _ => visB S i x && decide (nm = ("append" : Str)) && noStar ea && sfE e && (apos.endLine == cpos.line) && chkE S e ea
    | _ => false
  | S, .ext i e, st => match st with
    | .Expr (.Call (.Attribute (.Name x _) nm apos) [ea] [] cpos) _ => visB S i x && decide (nm = ("extend" : Str)) && noStar ea && sfE e && (apos.endLine == cpos.line) && chkE S e ea
    | _ => false
  | S, .put i ek e, st => match st with
    | .Assign [.Subscript (.Name x _) eq _] ee _ => visB S i x && sfE e && chkE S ek eq && chkE S e ee
    | _ => false
  | S, .sdef i ek e, st => match st with
    | .Expr (.Call (.Attribute (.Name x _) nm apos) [eq, ee] [] cpos) _ => visB S i x && decide (nm = ("setdefault" : Str)) && noStar eq && noStar ee && sfE e && (apos.endLine == cpos.line) && chkE S ek eq && chkE S e ee
    | _ => false
  | S, .appPop _ _ _, st => false
  | S, .unp g e, st => match st with
    | .Assign [.Tuple es _ _] ee _ => es.all noStar && decide (es.length = lenTs g) && chkGs S g es && sfE e && !isTup ee && chkE S e ee
    | _ => false
  | S, .par i j a b, st => match st with
    | .Assign [.Tuple [.Name x px, .Name y py] _ _] (.Tuple [ea, eb] _ _) _ => parB S i j x y px py ea eb && sfE a && sfE b && chkE S a ea && chkE S b eb
    | _ => false
  | S, .parO i j a b, st => match st with
    | .Assign [.Tuple [.Name x px, .Name y py] _ _] (.Tuple [ea, eb] _ _) _ => parB S i j x y px py ea eb && sfE a && frE b && chkE S a ea && chkE S b eb
    | _ => false
  | S, .ite t a b, st => match st with
    | .If et ba bb _ => tst t && chkE S t et && chkSs S a ba && chkSs S b bb
    | _ => false
  | S, .for_ w g b, st => match st with
    | .For tg iter body [] _ => !isKeys w && noSet iter && chkI S w tg iter && chkG S g tg && chkSs S b body
    | _ => false
  | S, .forK i g b, st => match st with
    | .For tg (.Name x _) body [] _ => visB S i x && chkG S g tg && chkSs S b body
    | _ => false
  | S, .whl t b, st => match st with
    | .While et body [] _ => tst t && chkE S t et && chkSs S b body
    | _ => false
  | S, .ret e, st => match st with
    | .Return (some ee) _ => sfE e && chkE S e ee
    | _ => false
  | S, .retN, st => match st with
    | .Return none _ => true
    | _ => false
  | S, .rais _ _ _, st => false
  | S, .expr e, st => match st with
    | .Expr ee _ => !isCompE ee && chkE S e ee
    | _ => false
  | S, .pass, st => match st with
    | .Pass _ => true
    | _ => false
  | S, .brk, st => match st with
    | .Break _ => true
    | _ => false
  | S, .cont, st => match st with
    | .Continue _ => true
    | _ => false
  | S, .nev, st => true
def chkSs : Sx → Sm2 → List Stmt → Bool
  | S, .nil, l => match l with
    | [] => true
    | _ => false
  | S, .cons a r, l => if notFrz a = true then (match l with
    | st :: l => chkS S a st && chkSs S r l
    | [] => false) else chkSs S r l
end

section
variable {W : Wd} {C : Cl} {n : Nat} {Wx : WX} {X : Cx} {S : Sx} {k : Nat}
theorem XOk.wf (o : XOk W C Wx X S k) : XOk W C WF X S k := { o with tk := fun u s' ⟨a, B, sI, pins, σ, H, cls, d, e, I, nb, up, sky, na, os, ag, w⟩ => w.elim }
theorem sw_no {x : Str} {py : Pos} {ee : Expr} {l : Nat} (o : XOk W C Wx X S k) (h : swE S x py ee = false) : swapsWith ee (some (.Name x py)) l X.env = pure false := by
  have hb : X.env.blockKind = .function := by unfold Env.blockKind; rw [o.kind]; rfl
  have hk : X.env.kindOf x = S.sc.lookup x := by show X.env.scope.names.lookup x = _; rw [o.sc]
  have fin : ∀ (s : Scope) (p : Pos), (decide (S.sc.lookup x = some .local) && (py.line == p.line) && !(s.names.any fun (n, k) => n == x && (k == .local || k == .cell))) = false →
      (X.env.blockKind == ScopeKind.function && X.env.kindOf x == some .local && py.line == p.line && !(s.names.any fun (n, k) => n == x && (k == .local || k == .cell))) = false := fun s p h => by
    rw [hb, hk]
    have e1 : (ScopeKind.function == ScopeKind.function) = true := by decide
    have e2 : (S.sc.lookup x == some NameKind.local) = decide (S.sc.lookup x = some .local) := by rw [Bool.beq_eq_decide_eq]
    rw [e1, e2, Bool.true_and]
    exact h
  cases ee <;> first | rfl | skip
  · exact congrArg pure (fin _ _ h)
  · exact congrArg pure (fin _ _ h)
  · exact congrArg pure (fin _ _ h)
theorem sw_par {x y : Str} {px py pt pt2 : Pos} {kt k2 i j : Nat} {ea eb : Expr} (o : XOk W C Wx X S k) (h : parB S i j x y px py ea eb = true) :
    swappedStores [.Tuple [.Name x px, .Name y py] kt pt] (.Tuple [ea, eb] k2 pt2) X.env = pure (some [x, y]) := by
  unfold parB at h
  simp only [Bool.and_eq_true, decide_eq_true_eq, Bool.not_eq_true'] at h
  obtain ⟨⟨⟨⟨⟨⟨⟨⟨⟨⟨h1, h2⟩, h3⟩, h4⟩, h5⟩, h6⟩, h7⟩, h8⟩, h9⟩, h10⟩, h11⟩ := h
  have hb : X.env.blockKind = .function := by unfold Env.blockKind; rw [o.kind]; rfl
  have hkx : X.env.kindOf x = some .local := by show X.env.scope.names.lookup x = _; rw [o.sc]; exact h4
  have hky : X.env.kindOf y = some .local := by show X.env.scope.names.lookup y = _; rw [o.sc]; exact h5
  have st : ∀ e : Expr, noStar e = true → (match e with | .Starred .. => true | _ => false) = false := by
    intro e; cases e <;> simp [noStar]
  have sa := st ea h7
  have sb := st eb h8
  clear st
  have h6' : py.line = px.line := eq_of_beq h6
  have hyx : (y == x) = false := beq_eq_false_iff_ne.mpr fun e => by rw [e] at h11; simp at h11
  have hne : ¬ x = y := fun e => by rw [e] at h11; simp at h11
  unfold swappedStores
  simp only [hb, hkx, hky, h6', h9, h10, List.length_cons, List.length_nil, List.any_cons, List.any_nil, List.all_cons, List.all_nil, sa, sb, Bool.and_true, Bool.or_false, List.filterMap_cons, List.filterMap_nil, Expr.pos, List.head?_cons, Option.map_some, Option.getD_some, beq_self_eq_true, Bool.true_and, if_true]
  simp [h6', hne, h11, hyx, hkx, hky, List.eraseDups_cons]
  intro z
  rcases z with z | z
  · clear sa; cases ea <;> first | (cases h7; done) | (cases z; done)
  · clear sb; cases eb <;> first | (cases h8; done) | (cases z; done)
theorem sw_swap {S : Sx} {x : Str} {py : Pos} {elt : Expr} {gs : List Comprehension} {scope : Scope} {p : Pos} {l : Nat} (o : XOk W C Wx X S k) (h : swE S x py (.ListComp elt gs scope p) = true) : swapsWith (.ListComp elt gs scope p) (some (.Name x py)) l X.env = pure true ∧ X.env.scope.names.lookup x = some .local := by
  unfold swE at h
  simp only [Bool.and_eq_true, decide_eq_true_eq, Bool.not_eq_true'] at h
  have hl : X.env.scope.names.lookup x = some .local := by rw [o.sc]; exact h.1.1
  exact ⟨sw_true o.kind hl h.1.2 h.2, hl⟩
theorem pg_seq {es : List Expr} {kk : Nat} {pos : Pos} {g : Tgs} (o : XOk W C Wx X S k) (h1 : es.all noStar = true) (h2 : es.length = lenTs g) (h3 : chkGs S g es = true) : PG X (.Tuple es kk pos) (gSeq W.K (lenTs g) (gsOf W.K g)) := by
  obtain ⟨a, b⟩ := assignEach_len (env := X.env) h1
  have p1 := pg_tup (pos := pos) (k := kk) o.calm (sndGs o g h3) (a.trans h2) b
  have p2 := pg_unl (pos := pos) (k := kk) o.calm (sndGs o g h3) (a.trans h2) b
  rw [o.K] at p1 p2
  refine ⟨fun pins s σ H v u Q I r hq => ?_⟩
  obtain ⟨x, xs, e, hh, hl, q⟩ := hq
  rcases hh with hh | hh
  · exact p1.run pins s σ H v u Q I r ⟨x, xs, e, hh, hl, q⟩
  · exact p2.run pins s σ H v u Q I r ⟨x, xs, e, hh, hl, q⟩
theorem swp_none {es : List Expr} {kk : Nat} {pt : Pos} {ee : Expr} {env : PySem.Env} (h : isTup ee = false) : swappedStores [.Tuple es kk pt] ee env = pure none := by
  cases ee <;> first | rfl | cases h
theorem sws_tup {es : List Expr} {kk : Nat} {pt : Pos} {ee : Expr} {l : Nat} {env : PySem.Env} : swapsWithSole [.Tuple es kk pt] ee l env = pure false := by
  cases ee <;> rfl
theorem sw_sub {a b : Expr} {p : Pos} {ee : Expr} {l : Nat} {env : PySem.Env} : swapsWith ee (some (.Subscript a b p)) l env = pure false := by
  cases ee <;> rfl
theorem sw_drop {ee : Expr} {l : Nat} {env : PySem.Env} (h : isCompE ee = false) : swapsWith ee none l env = pure false := by
  cases ee <;> first | rfl | cases h
variable (hC : CMono C)
include hC
theorem comp_set {own : List Nat} {w : It} {g : Tg} {ifs : Es} {e' : Ex} {i : Nat} {y : Str} {py : Pos} {ee : Expr} {spos : Pos} (o : XOk W C Wx X S k) (hw : isKeys w = false) (hl : isLc ee = true) (hs : swE S y py ee = true) (hi : X.N[i]? = some y) (h : chkE S (.comp own w g ifs e') ee = true) :
    PS X (.Assign [.Name y py] ee spos) (tAsg (LE W C Wx (.comp own w g ifs e')) (gName i)) := by
  unfold chkE at h
  split at h <;> (try (cases h; done))
  simp only [Bool.and_eq_true, decide_eq_true_eq] at h
  obtain ⟨⟨⟨⟨⟨⟨⟨rfl, h1⟩, h2⟩, h3⟩, h4⟩, h5⟩, h6⟩, h7⟩ := h
  obtain ⟨c1, c2, c3⟩ := o.comp h1
  obtain ⟨s1, s2⟩ := sw_swap (l := spos.line) o hs
  have e1 : LE W C Wx (.comp own w g ifs e') = LE W C Wx (.comp ((ownOf S.N own).map (·.2)) w g ifs e') := by rw [own_map]
  rw [e1]
  refine ps_weak (ps_setLc o.calm o.nd hi s2 s1 (sndI hC w hw o h4) c1 (fun s H D cl fp => sndG (o.blk s H _ cl D fp c3) g h5) (fun s H D cl fp => sndTs hC ifs (o.blk s H _ cl D fp c3) h6) (fun s H D cl fp => (sndE hC e' (o.blk s H _ cl D fp c3) h7).1) (fold_no h3)) fun D σ H hq => ?_
  exact comp_read hC (fun _ h => h) c2 h2 hq
theorem set_ok {i : Nat} {x : Str} {py : Pos} {e : Ex} {ee : Expr} {pos : Pos} (o : XOk W C Wx X S k) (h1 : storeB S i x = true) (h2 : setB S x py e ee = true) (h3 : chkE S e ee = true) : PS X (.Assign [.Name x py] ee pos) (tAsg (LE W C Wx e) (gName i)) := by
  obtain ⟨a, b, d⟩ := o.store h1
  unfold setB at h2
  cases hs : swE S x py ee with
  | false => exact ps_set o.nd a b (sndE hC e o h3).1 (sw_no o hs) d
  | true =>
    rw [hs] at h2
    simp only [Bool.not_true, Bool.false_or, Bool.and_eq_true] at h2
    cases e <;> (try (cases h2.2; done))
    rename_i own w g ifs e'
    exact comp_set hC o (by simpa [compNoKeys] using h2.2) h2.1 hs a h3
omit hC in
theorem par_ok {i j : Nat} {x y : Str} {px py pt pt2 pos : Pos} {kt k2 : Nat} {ea eb : Expr} {ta : TA} (o : XOk W C Wx X S k) (h : parB S i j x y px py ea eb = true) (ha : PA X [ea, eb] ta) :
    PS X (.Assign [.Tuple [.Name x px, .Name y py] kt pt] (.Tuple [ea, eb] k2 pt2) pos) (tPar i j ta) := by
  have hw := sw_par (pt := pt) (pt2 := pt2) (kt := kt) (k2 := k2) o h
  unfold parB at h
  simp only [Bool.and_eq_true, decide_eq_true_eq, Bool.not_eq_true'] at h
  obtain ⟨⟨⟨⟨⟨⟨⟨⟨⟨⟨h1, h2⟩, h3⟩, h4⟩, h5⟩, h6⟩, h7⟩, h8⟩, h9⟩, h10⟩, h11⟩ := h
  exact ps_par o.calm o.nd (by rw [o.N]; exact h1) (by rw [o.N]; exact h2) h3 (by rw [o.sc]; exact h4) (by rw [o.sc]; exact h5) ha hw
omit hC in
theorem parB_star {i j : Nat} {x y : Str} {px py : Pos} {ea eb : Expr} (h : parB S i j x y px py ea eb = true) : noStar ea = true ∧ noStar eb = true := by
  unfold parB at h
  simp only [Bool.and_eq_true, decide_eq_true_eq, Bool.not_eq_true'] at h
  exact ⟨h.1.1.1.1.2, h.1.1.1.2⟩
end
section
variable {W : Wd} {C : Cl} {n : Nat} (hC : CMono C)
include hC
mutual
theorem sndS : ∀ (a : Sm1) {Wx : WX} {X : Cx} {S : Sx} {k : Nat} {st : Stmt}, XOk W C Wx X S k → chkS S a st = true → PS X st (LS W C n Wx a)
  | .set i e, Wx, X, S, k, st, o, h => by
    unfold chkS at h
    split at h <;> (try (cases h; done))
    simp only [Bool.and_eq_true] at h
    exact ls_set hC h.1.1.2 (set_ok hC o h.1.1.1 h.1.2 h.2)
  | .own i e, Wx, X, S, k, st, o, h => by
    unfold chkS at h
    split at h <;> (try (cases h; done))
    simp only [Bool.and_eq_true] at h
    exact ls_own hC h.1.1.2 (set_ok hC o h.1.1.1 h.1.2 h.2)
  | .frz _, Wx, X, S, k, st, o, h => by unfold chkS at h; cases h
  | .app i e, Wx, X, S, k, st, o, h => by
    unfold chkS at h
    split at h <;> (try (cases h; done))
    simp only [Bool.and_eq_true, decide_eq_true_eq] at h
    obtain ⟨⟨⟨⟨⟨h1, rfl⟩, h3⟩, h4⟩, h5⟩, h6⟩ := h
    exact ls_app hC h3 h4 rfl h5 (o.var h1) (sndE hC e o h6).1
  | .ext i e, Wx, X, S, k, st, o, h => by
    unfold chkS at h
    split at h <;> (try (cases h; done))
    simp only [Bool.and_eq_true, decide_eq_true_eq] at h
    obtain ⟨⟨⟨⟨⟨h1, rfl⟩, h3⟩, h4⟩, h5⟩, h6⟩ := h
    exact ls_ext hC h3 h4 rfl h5 (o.var h1) (sndE hC e o h6).1
  | .put i ek e, Wx, X, S, k, st, o, h => by
    unfold chkS at h
    split at h <;> (try (cases h; done))
    simp only [Bool.and_eq_true] at h
    exact ls_put hC o.u1 h.1.1.2 (o.var h.1.1.1) (sndE hC ek o h.1.2).1 (sndE hC e o h.2).1 sw_sub
  | .sdef i ek e, Wx, X, S, k, st, o, h => by
    unfold chkS at h
    split at h <;> (try (cases h; done))
    simp only [Bool.and_eq_true, decide_eq_true_eq] at h
    obtain ⟨⟨⟨⟨⟨⟨⟨h1, rfl⟩, h3⟩, h4⟩, h5⟩, h6⟩, h7⟩, h8⟩ := h
    exact ls_sdef hC h3 h4 h5 rfl h6 (o.var h1) (sndE hC ek o h7).1 (sndE hC e o h8).1
  | .appPop _ _ _, Wx, X, S, k, st, o, h => by unfold chkS at h; cases h
  | .unp g e, Wx, X, S, k, st, o, h => by
    unfold chkS at h
    split at h <;> (try (cases h; done))
    simp only [Bool.and_eq_true, decide_eq_true_eq, Bool.not_eq_true'] at h
    obtain ⟨⟨⟨⟨⟨h1, h2⟩, h3⟩, h4⟩, h5⟩, h6⟩ := h
    exact ls_unp hC h4 (ps_asg (sndE hC e o h6).1 (pg_seq o h1 h2 h3) sws_tup (swp_none h5) rfl)
  | .par i j a b, Wx, X, S, k, st, o, h => by
    unfold chkS at h
    split at h <;> (try (cases h; done))
    simp only [Bool.and_eq_true] at h
    obtain ⟨⟨⟨⟨h1, h2⟩, h3⟩, h4⟩, h5⟩ := h
    obtain ⟨s1, s2⟩ := parB_star h1
    exact ls_par hC h2 h3 (par_ok o h1 (la_cons hC s1 h2 (sndE hC a o h4).1 (la_cons hC s2 h3 (sndE hC b o h5).1 la_nil)))
  | .parO i j a b, Wx, X, S, k, st, o, h => by
    unfold chkS at h
    split at h <;> (try (cases h; done))
    simp only [Bool.and_eq_true] at h
    obtain ⟨⟨⟨⟨h1, h2⟩, h3⟩, h4⟩, h5⟩ := h
    obtain ⟨s1, s2⟩ := parB_star h1
    exact ls_parO hC (par_ok o h1 (lao hC s1 s2 h2 h3 (sndE hC a o h4).1 (sndE hC b o h5).1))
  | .ite t a b, Wx, X, S, k, st, o, h => by
    unfold chkS at h
    split at h <;> (try (cases h; done))
    simp only [Bool.and_eq_true] at h
    exact ls_ite hC ((sndE hC t o h.1.1.2).2 h.1.1.1).1 (sndSs a o h.1.2) (sndSs b o h.2)
  | .for_ w g b, Wx, X, S, k, st, o, h => by
    unfold chkS at h
    split at h <;> (try (cases h; done))
    simp only [Bool.and_eq_true, Bool.not_eq_true'] at h
    exact ls_for hC o.po o.calm (sndI hC w h.1.1.1.1 o h.1.1.2) (sndG o g h.1.2) (sndSs b o h.2) (fold_no h.1.1.1.2)
  | .forK i g b, Wx, X, S, k, st, o, h => by
    unfold chkS at h
    split at h <;> (try (cases h; done))
    simp only [Bool.and_eq_true] at h
    exact ls_forK hC o.po o.calm (o.var h.1.1) (sndG o g h.1.2) (sndSs b o.wf h.2)
  | .whl t b, Wx, X, S, k, st, o, h => by
    unfold chkS at h
    split at h <;> (try (cases h; done))
    simp only [Bool.and_eq_true] at h
    exact ls_whl hC o.po ((sndE hC t o h.1.2).2 h.1.1).1 (sndSs b o h.2)
  | .ret e, Wx, X, S, k, st, o, h => by
    unfold chkS at h
    split at h <;> (try (cases h; done))
    simp only [Bool.and_eq_true] at h
    exact ls_ret hC h.1 (sndE hC e o h.2).1
  | .retN, Wx, X, S, k, st, o, h => by
    unfold chkS at h
    split at h <;> (try (cases h; done))
    exact ls_retN
  | .rais _ _ _, Wx, X, S, k, st, o, h => by unfold chkS at h; cases h
  | .expr e, Wx, X, S, k, st, o, h => by
    unfold chkS at h
    split at h <;> (try (cases h; done))
    simp only [Bool.and_eq_true, Bool.not_eq_true'] at h
    exact ls_expr hC (sw_drop h.1) (sndE hC e o h.2).1
  | .pass, Wx, X, S, k, st, o, h => by
    unfold chkS at h
    split at h <;> (try (cases h; done))
    exact ls_pass
  | .brk, Wx, X, S, k, st, o, h => by
    unfold chkS at h
    split at h <;> (try (cases h; done))
    exact ls_brk
  | .cont, Wx, X, S, k, st, o, h => by
    unfold chkS at h
    split at h <;> (try (cases h; done))
    exact ls_cont
  | .nev, Wx, X, S, k, st, o, h => ps_weak ps_never fun D σ H ⟨H0, Ob, ρ, O, c, b, k, q⟩ => by
    unfold evS at q
    exact q
theorem sndSs : ∀ (a : Sm2) {Wx : WX} {X : Cx} {S : Sx} {k : Nat} {st : List Stmt}, XOk W C Wx X S k → chkSs S a st = true → PSs X st (LSs W C n Wx a)
  | .nil, Wx, X, S, k, st, o, h => by
    unfold chkSs at h
    split at h <;> (try (cases h; done))
    exact lss_nil
  | .cons a r, Wx, X, S, k, st, o, h => by
    unfold chkSs at h
    split at h
    · split at h <;> (try (cases h; done))
      simp only [Bool.and_eq_true] at h
      exact lss_cons hC (sndS a o h.1) (sndSs r o h.2)
    · rename_i hn
      cases a <;> (try (exact absurd rfl hn))
      exact lss_frz hC (sndSs r o h)
end
end
end Ze

/-! The defs of a text, all together. -/
namespace Ze
open PySem PySem.Spec PyProof.Rows L2
structure Df where
  ps : List Str
  N : List Str
  body : Sm2
def entry (sl : Nat) (vs : List PV) : Env := vs.map .va ++ List.replicate (sl - vs.length) .no
def endOf (k : Kp) : En := ⟨fun _ c => k .non c, k, fun _ _ => False, fun _ _ => False⟩
/-- the defs, so many calls deep; Pr: what is not of the table -/
def callN (Pr : Cl) (F : Str → Option Df) (n : Nat) : Nat → Cl
  | 0 => fun _ _ _ _ _ => False
  | m + 1 => fun f vs c k x => match F f with
    | some d => vs.length = d.ps.length ∧ evSs (callN Pr F n m) n d.body (entry d.N.length vs) c (endOf k) x
    | none => Pr f vs c k x
theorem callN_mono {Pr : Cl} {F : Str → Option Df} {n : Nat} (hP : CMono Pr) : ∀ m, CMono (callN Pr F n m)
  | 0 => fun _ _ _ _ _ _ _ _ _ h => h
  | m + 1 => fun f vs c k k' x x' hk hx h => by
    unfold callN at h ⊢
    split at h
    · exact ⟨h.1, evSs_mono (callN_mono hP m) _ _ _ (EnLe.mk (D := endOf k) (D' := endOf k') (fun _ _ q => hk _ _ q) hk (fun _ _ q => q) (fun _ _ q => q)) hx h.2⟩
    · exact hP _ _ _ _ _ _ _ hk hx h
structure Com where
  dom : List (Str × Nat)
  gl : List (Str × PV)
  gd : List (Str × List Str × List Int)
def Com.sx (c : Com) (N : List Str) (names : List (Str × NameKind)) : Sx := ⟨N, names, names, c.dom, c.gl, c.gd⟩
/-- what stands behind the top, and is the same for all defs -/
structure Env1 (P : Program) (w : World) (K : PySem.W.Frag) (mg : Str → Option Value) (cm : Com) : Prop where
  nob : ∀ b : Bi, mg (Str.ofString (nameB b)) = none
  nob2 : mg "zip" = none ∧ mg "enumerate" = none ∧ mg "range" = none ∧ mg "bool" = none
  gl : ∀ p ∈ cm.gl, ∃ u y, mg p.1 = some u ∧ RelV y u ∧ ∀ W : Wd, W.K = K → ∀ H O, Rep W H O p.2 y
  gd : ∀ p ∈ cm.gd, ∃ d, mg p.1 = some (.ref d) ∧ (d == sysModules) = false ∧ p.2.1.length = p.2.2.length ∧ p.2.2.length ≤ sizeLine ∧
    ∀ h, K.In h → ∃ rs, h.DictOf (mixKind P w) d rs ∧ KV ((p.2.1.map (Sum.inr : Str → Key)).zip (p.2.2.map V.int)) rs
/-- a def of the table as it stands -/
structure DefOk (K : PySem.W.Frag) (mg : Str → Option Value) (cm : Com) (f : Str) (d : Df) : Prop where
  ex : ∃ (a : Addr) (fd : FuncData) (st : Stmt), mg f = some (.ref a) ∧ FunD K f f (defArgs st) (defBody st) (defScope st) [] [] a fd ∧ Binds K fd d.ps [] ∧ FnScope d.N d.ps (defScope st) ∧ chkSs (cm.sx d.N (defScope st).names) d.body (defBody st) = true
/-- one that is given by hand -/
structure HandOk (P : Program) (w : World) (K : PySem.W.Frag) (mg : Str → Option Value) (base : Heap) (Pr : Cl) (f : Str) (m : Nat) : Prop where
  ex : ∃ a fd ps, mg f = some (.ref a) ∧ PySem.W.keepIn K (.ref a) = true ∧ Binds K fd ps [] ∧ ps.length = m ∧ FnOk P w K mg base (CX P w) 8 a fd ps (SpF K mg Pr f)
theorem start_get {N : List Str} {vs : List V} {i : Nat} {x : V} (h : vs[i]? = some x) : (L2.start N vs)[i]? = some (some x) := by
  unfold L2.start
  obtain ⟨hi, he⟩ := List.getElem?_eq_some_iff.mp h
  rw [List.getElem?_append_left (by rw [List.length_map]; exact hi), List.getElem?_map, h]; rfl
theorem entry_get {sl : Nat} {vs : List PV} {i : Nat} {s : Sl} (h : (entry sl vs)[i]? = some s) : (∃ v, vs[i]? = some v ∧ s = .va v) ∨ s = .no := by
  unfold entry at h
  by_cases hi : i < vs.length
  · rw [List.getElem?_append_left (by rw [List.length_map]; exact hi), List.getElem?_map] at h
    cases hv : vs[i]? with
    | none => rw [hv] at h; cases h
    | some v => rw [hv] at h; cases h; exact .inl ⟨v, rfl, rfl⟩
  · rw [List.getElem?_append_right (by rw [List.length_map]; omega)] at h
    rw [List.getElem?_replicate] at h
    split at h
    · cases h; exact .inr rfl
    · cases h
theorem rl_entry {W : Wd} {H : Hp} {O : Addr → Prop} {N : List Str} {ps : List PV} {vs : List V} (sub : ∀ a, W.S a → O a) (trk : ∀ a, O a → H a ≠ none) (r : RepL W H O ps vs) (hl : ps.length ≤ N.length) : Rl W (entry N.length ps) (L2.start N vs) H O where
  len := by
    unfold L2.start entry
    rw [List.length_append, List.length_append, List.length_map, List.length_map, List.length_replicate, List.length_replicate, r.length]
  sub := sub
  trk := trk
  va := fun i v h => by
    rcases entry_get h with ⟨u, hu, e⟩ | e
    · cases e
      obtain ⟨y, hy, ry⟩ := r.get hu
      exact ⟨y, start_get hy, ry⟩
    · cases e
  ow := fun i v h => by
    rcases entry_get h with ⟨u, hu, e⟩ | e <;> cases e
  inj := fun i j v u p h => by
    rcases entry_get h with ⟨u, hu, e⟩ | e <;> cases e
/-- a body at its entry -/
theorem lss_entry {W : Wd} {C : Cl} {n : Nat} {H : Hp} {O : Addr → Prop} {N : List Str} {ps : List PV} {vs : List V} {c : Nat} {body : Sm2} {Q : VK} {E : XK} (hC : CMono C) (sub : ∀ a, W.S a → O a) (trk : ∀ a, O a → H a ≠ none) (r : RepL W H O ps vs) (k : Ok W H c) (hl : ps.length ≤ N.length)
    (h : evSs C n body (entry N.length ps) c (endOf (fun pv c' => ∀ v H', Sm W.S H H' → Ok W H' c' → Rep W H' O pv v → Q v H')) (fun er c' => ∀ cls d H', Sm W.S H H' → Ok W H' c' → ErR W H' O er cls d → E cls d H')) :
    LSs W C n (fun cls d _ H => E cls d H) body { nx := fun _ H' => Q .non H', rt := Q } (L2.start N vs) H := by
  refine ⟨H, O, _, O, c, ⟨rl_entry sub trk r hl, fun _ z => z, trk, .refl, fun i v p h => ?_⟩, k, evSs_mono hC body _ c (?_ : EnLe _ (EnD W H O O H _)) (fun er c' q cls d σ' H' s k' e => q cls d H' s k' e) h⟩
  · rcases entry_get h with ⟨u, hu, e⟩ | e <;> cases e
  · refine ⟨fun ρ' c' q σ' H' O' b' k' f => ?_, fun v c' q u H' k' s r' => ?_, fun _ _ q => False.elim q, fun _ _ q => False.elim q⟩
    · exact q .non H' b'.sm k' .non
    · exact q u H' s k' r'
section
variable {P : Program} {w : World} {K : PySem.W.Frag} {mg : Str → Option Value} {base : Heap} {cm : Com} {Pr : Cl} {F : Str → Option Df} {n : Nat}
theorem def_step {f : Str} {d : Df} {m : Nat} (hP : CMono Pr) (e1 : Env1 P w K mg cm) (T : Tab P w K mg base (2 * m + 8) (callN Pr F n m) cm.dom) (hF : F f = some d) (D : DefOk K mg cm f d) :
    ∃ a fd ps, mg f = some (.ref a) ∧ PySem.W.keepIn K (.ref a) = true ∧ Binds K fd ps [] ∧ ps.length = d.ps.length ∧ FnOk P w K mg base (CX P w) (2 * (m + 1) + 8) a fd ps (SpF K mg (callN Pr F n (m + 1)) f) := by
  obtain ⟨a, fd, st, hm, FD, hb, S, hc⟩ := D.ex
  refine ⟨a, fd, d.ps, hm, FD.kp, hb, rfl, ?_⟩
  refine FunD.ok (k := 2 * m + 8 + 1) FD S (fun vs H Q E h => ?_) fun cdv A outer s H vs Q E hr h => ?_
  · obtain ⟨W, O, ps, c, _, _, _, _, _, r, _, q⟩ := h
    unfold callN at q
    rw [hF] at q
    rw [← r.length]; exact q.1
  · obtain ⟨W, O, ps, c, wo, h1, h2, sub, trk, r, k, q⟩ := h
    unfold callN at q
    rw [hF] at q
    have hC := callN_mono (F := F) (n := n) hP m
    have hl : ps.length ≤ d.N.length := by
      rw [q.1]
      have := congrArg List.length S.pre
      rw [List.length_take] at this
      omega
    refine ⟨_, ?_, lss_entry hC sub trk r k hl q.2⟩
    refine sndSs hC d.body (k := 2 * m + 8) (S := cm.sx d.N (defScope st).names) ?_ hc
    exact {
      N := rfl
      nd := S.nd
      sc := rfl
      kind := S.kind
      raw := fun _ _ => rfl
      calm := rfl
      K := h1.symm
      mg := h2.symm
      room := hr
      T := T
      tk := takes_of rfl rfl rfl rfl
      po := passes_of rfl
      wok := fun _ => wo
      nob := e1.nob
      nob2 := e1.nob2
      gl := fun p hp => let ⟨u, y, a, b, c⟩ := e1.gl p hp; ⟨u, y, a, b, c W h1⟩
      gd := e1.gd }
theorem tab_all (hP : CMono Pr) (e1 : Env1 P w K mg cm) (hD : ∀ f m, (f, m) ∈ cm.dom → (∃ d, F f = some d ∧ d.ps.length = m ∧ DefOk K mg cm f d) ∨ (F f = none ∧ HandOk P w K mg base Pr f m)) :
    ∀ m, Tab P w K mg base (2 * m + 8) (callN Pr F n m) cm.dom
  | 0 => ⟨fun f q hq => by
    have no : ∀ {a fd ps}, FnOk P w K mg base (CX P w) (2 * 0 + 8) a fd ps (SpF K mg (callN Pr F n 0) f) := fun {a fd ps} =>
      ⟨fun vs H Q E h => (let ⟨_, _, _, _, _, _, _, _, _, _, _, z⟩ := h; (z : False).elim), fun A outer s H args us vs Q E _ _ _ _ h => (let ⟨_, _, _, _, _, _, _, _, _, _, _, z⟩ := h; (z : False).elim)⟩
    rcases hD f q hq with ⟨d, hF, hl, D⟩ | ⟨hF, D⟩
    · obtain ⟨a, fd, st, hm, FD, hb, S, hc⟩ := D.ex
      exact ⟨a, fd, d.ps, hm, FD.kp, hb, hl, no⟩
    · obtain ⟨a, fd, ps, h1, h2, h3, h4, h5⟩ := D.ex
      exact ⟨a, fd, ps, h1, h2, h3, h4, no⟩⟩
  | m + 1 => ⟨fun f q hq => by
    rcases hD f q hq with ⟨d, hF, hl, D⟩ | ⟨hF, D⟩
    · obtain ⟨a, fd, ps, h1, h2, h3, h4, h5⟩ := def_step (F := F) (n := n) hP e1 (tab_all hP e1 hD m) hF D
      exact ⟨a, fd, ps, h1, h2, h3, h4.trans hl, h5⟩
    · obtain ⟨a, fd, ps, h1, h2, h3, h4, h5⟩ := D.ex
      refine ⟨a, fd, ps, h1, h2, h3, h4, (h5.mono (by omega)).imp fun vs H Q E h => ?_⟩
      obtain ⟨W, O, ps, c, a0, a1, a2, a3, a4, a5, a6, q⟩ := h
      unfold callN at q
      rw [hF] at q
      exact ⟨W, O, ps, c, a0, a1, a2, a3, a4, a5, a6, q⟩⟩
end
end Ze

/-! The same by values, where nothing is drawn. -/
namespace Ze
open PySem PySem.Spec PyProof.Rows L2
inductive Rs (α : Type) where
  | ok (a : α)
  | er (e : Er)
  | no
def Rs.bind {α β : Type} : Rs α → (α → Rs β) → Rs β
  | .ok a, f => f a
  | .er e, _ => .er e
  | .no, _ => .no
def ofO {α : Type} : Option α → Rs α
  | some a => .ok a
  | none => .no
def slotX (ρ : Env) (i : Nat) : Rs PV := match ρ[i]? with
  | some (.va v) => .ok v
  | _ => .no
def slotRX (ρ : Env) (i : Nat) : Rs PV := match ρ[i]? with
  | some (.va v) => .ok v
  | some (.ow v) => .ok v
  | _ => .no
def slotOX (ρ : Env) (i : Nat) : Rs PV := match ρ[i]? with
  | some (.ow v) => .ok v
  | _ => .no
def guard {α : Type} (b : Bool) (r : Rs α) : Rs α := match b with
  | true => r
  | false => .no
/-- no error goes through -/
def Rs.calm {α : Type} : Rs α → Rs α
  | .ok a => .ok a
  | _ => .no
mutual
def bindX : Tg → PV → Env → Option Env
  | .nm i, v, ρ => some (ρ.set i (.va v))
  | .tp ts, v, ρ => match v with
    | .tup xs => bindXs ts xs ρ
    | _ => none
def bindXs : Tgs → List PV → Env → Option Env
  | .nil, xs, ρ => match xs with
    | [] => some ρ
    | _ => none
  | .cons t r, xs, ρ => match xs with
    | x :: xs => match bindX t x ρ with
      | some ρ' => bindXs r xs ρ'
      | none => none
    | [] => none
end
def eachX (f : PV → List PV → Rs (List PV)) : List PV → List PV → Rs (List PV)
  | [], acc => .ok acc
  | x :: xs, acc => (f x acc).bind fun a => eachX f xs a
def eachDX (f : PV → List Key → List PV → Rs (List Key × List PV)) : List PV → List Key → List PV → Rs (List Key × List PV)
  | [], ks, vs => .ok (ks, vs)
  | x :: xs, ks, vs => (f x ks vs).bind fun p => eachDX f xs p.1 p.2
abbrev ClX := Str → List PV → Rs PV
section
variable (C : ClX)
mutual
def xv : Ex → Env → Rs PV
  | .var i, ρ => slotX ρ i
  | .rd i, ρ => slotRX ρ i
  | .non, _ => .ok .non
  | .bl b, _ => .ok (.bl b)
  | .int i, _ => .ok (.int i)
  | .str x, _ => .ok (.str x)
  | .glo _ v, _ => .ok v
  | .fnc x, _ => .ok (.fn x)
  | .ty _ t, _ => .ok (.ty t)
  | .op o a b, ρ => (xv a ρ).bind fun v => (xv b ρ).bind fun u => ofO (op2 o v u)
  | .neg a, ρ => (xv a ρ).bind fun v => match v with | .int i => .ok (.int (-i)) | _ => .no
  | .cmp o a b, ρ => (xv a ρ).bind fun v => (xv b ρ).bind fun u => (ofO (cmp2 o v u)).bind fun z => .ok (.bl z)
  | .chain o p a b d, ρ => (xv a ρ).bind fun v => (xv b ρ).bind fun u => (ofO (cmp2 o v u)).bind fun z => match z with
      | true => (xv d ρ).bind fun w => (ofO (cmp2 p u w)).bind fun z' => .ok (.bl z')
      | false => .ok (.bl false)
  | .and a b, ρ => (xv a ρ).bind fun v => (ofO (truth v)).bind fun t => match t with | true => xv b ρ | false => .ok v
  | .or a b, ρ => (xv a ρ).bind fun v => (ofO (truth v)).bind fun t => match t with | true => .ok v | false => xv b ρ
  | .not a, ρ => (xv a ρ).bind fun v => (ofO (truth v)).bind fun t => .ok (.bl (!t))
  | .ife t a b, ρ => (xv t ρ).bind fun v => (ofO (truth v)).bind fun z => match z with | true => xv a ρ | false => xv b ρ
  | .tup es, ρ => (xvs es ρ).bind fun vs => guard (decide (vs.length ≤ sizeLine)) (.ok (.tup vs))
  | .lst es, ρ => (xvs es ρ).bind fun vs => guard (decide (vs.length ≤ sizeLine)) (.ok (.lst true vs))
  | .dis ks es, ρ => (xvs es ρ).bind fun vs => .ok (.dic true (ks.map .inr) vs)
  | .dictG _ ks is, _ => .ok (.dic true (ks.map .inr) (is.map .int))
  | .idx a b, ρ => (xv a ρ).bind fun v => (xv b ρ).bind fun u => ofO (idx2 v u)
  | .slc a l h, ρ => (xv a ρ).bind fun v => (xvs l ρ).bind fun u => (ofO (partL u)).bind fun lo => (xvs h ρ).bind fun w => (ofO (partL w)).bind fun hi => match v with
      | .lst _ xs => .ok (.lst true (cutP xs lo hi))
      | .tup xs => .ok (.tup (cutP xs lo hi))
      | _ => .no
  | .rev a, ρ => (xv a ρ).bind fun v => match v with | .lst _ xs => .ok (.lst true xs.reverse) | _ => .no
  | .call f es, ρ => (xvs es ρ).bind fun vs => C f vs
  | .callK f es _ kes, ρ => (xvs es ρ).bind fun vs => (xvs kes ρ).bind fun us => C f (vs ++ us)
  | .callV i es, ρ => (slotX ρ i).bind fun f => match f with
      | .fn g => (xvs es ρ).bind fun vs => C g vs
      | _ => .no
  | .bi b es, ρ => (xvs es ρ).bind fun vs => ofO (builtin b vs)
  | .mt m o es, ρ => (xv o ρ).bind fun v => match mtOk m v with
      | true => (xvs es ρ).bind fun vs => ofO (method m v vs)
      | false => .no
  | .comp own w g ifs e, ρ => (xI w ρ).bind fun items => (eachX (fun v acc => match bindX g v (wipeE ρ own) with
      | some ρ' => (xTs ifs ρ').calm.bind fun b => match b with
        | true => (xv e ρ').calm.bind fun y => guard (decide (acc.length < sizeLine)) (.ok (acc ++ [y]))
        | false => .ok acc
      | none => .no) items []).bind fun out => .ok (.lst true out)
  | .dcomp own w g ifs ek e, ρ => (xI w ρ).bind fun items => (eachDX (fun v ks vs => match bindX g v (wipeE ρ own) with
      | some ρ' => (xTs ifs ρ').calm.bind fun b => match b with
        | true => (xv ek ρ').calm.bind fun q => (xv e ρ').calm.bind fun y => (ofO (keyOf q)).bind fun key => guard (decide (ks.length < sizeLine)) (.ok (putP key y ks vs))
        | false => .ok (ks, vs)
      | none => .no) items [] []).bind fun p => .ok (.dic true p.1 p.2)
def xvs : Es → Env → Rs (List PV)
  | .nil, _ => .ok []
  | .cons e r, ρ => (xv e ρ).bind fun v => (xvs r ρ).bind fun vs => .ok (v :: vs)
  | .star e r, ρ => (xv e ρ).bind fun v => (ofO (seqOf v)).bind fun us => (xvs r ρ).bind fun vs => .ok (us ++ vs)
def xTs : Es → Env → Rs Bool
  | .nil, _ => .ok true
  | .cons e r, ρ => (xv e ρ).bind fun v => (ofO (truth v)).bind fun t => match t with | true => xTs r ρ | false => .ok false
  | .star _ _, _ => .no
def xI : It → Env → Rs (List PV)
  | .seq e, ρ => (xv e ρ).bind fun v => match v with
      | .lst _ xs => .ok xs
      | .tup xs => .ok xs
      | .str z => .ok (strSigns z)
      | _ => .no
  | .zip es, ρ => (xvs es ρ).bind fun vs => match vs with
      | [.lst _ l, .lst _ m] => .ok (zipP l m)
      | [.tup l, .tup m] => .ok (zipP l m)
      | _ => .no
  | .enum e, ρ => (xv e ρ).bind fun v => match v with
      | .lst _ l => .ok (enumP 0 l)
      | _ => .no
  | .range es, ρ => (xvs es ρ).bind fun vs => match vs with
      | [.int j] => guard (decide (-(2 ^ 62) ≤ j ∧ j < 2 ^ 62)) (.ok (rangeP 0 j.toNat))
      | [.int i, .int j] => guard (decide (-(2 ^ 62) ≤ i ∧ i < 2 ^ 62 ∧ -(2 ^ 62) ≤ j ∧ j < 2 ^ 62)) (.ok (rangeP i (j - i).toNat))
      | _ => .no
  | .keys i, ρ => (slotX ρ i).bind fun v => match v with
      | .dic _ ks _ => .ok (ks.map keyP)
      | _ => .no
end
end
inductive Fl where
  | nx (ρ : Env)
  | rt (v : PV)
  | bk (ρ : Env)
  | ct (ρ : Env)
def eachSX (f : PV → Env → Rs Fl) : List PV → Env → Rs Fl
  | [], ρ => .ok (.nx ρ)
  | x :: xs, ρ => (f x ρ).bind fun r => match r with
    | .nx ρ' => eachSX f xs ρ'
    | .ct ρ' => eachSX f xs ρ'
    | .bk ρ' => .ok (.nx ρ')
    | .rt v => .ok (.rt v)
def whileX (t : Env → Rs Bool) (b : Env → Rs Fl) : Nat → Env → Rs Fl
  | 0, _ => .no
  | m + 1, ρ => (t ρ).bind fun z => match z with
    | true => (b ρ).bind fun r => match r with
      | .nx ρ' => whileX t b m ρ'
      | .ct ρ' => whileX t b m ρ'
      | .bk ρ' => .ok (.nx ρ')
      | .rt v => .ok (.rt v)
    | false => .ok (.nx ρ)
section
variable (C : ClX) (n : Nat)
mutual
def xS : Sm1 → Env → Rs Fl
  | .set i e, ρ => (xv C e ρ).bind fun v => .ok (.nx (ρ.set i (.va v)))
  | .own i e, ρ => (xv C e ρ).bind fun v => match v with
      | .lst t xs => .ok (.nx (ρ.set i (.ow (.lst t xs))))
      | .dic t ks xs => .ok (.nx (ρ.set i (.ow (.dic t ks xs))))
      | _ => .no
  | .frz i, ρ => (slotOX ρ i).bind fun v => .ok (.nx (ρ.set i (.va v)))
  | .app i e, ρ => (slotOX ρ i).bind fun l => match l with
      | .lst t xs => (xv C e ρ).bind fun v => guard (decide (xs.length < sizeLine)) (.ok (.nx (ρ.set i (.ow (.lst t (xs ++ [v]))))))
      | _ => .no
  | .ext i e, ρ => (slotOX ρ i).bind fun l => match l with
      | .lst t xs => (xv C e ρ).bind fun v => match v with
        | .lst _ ys => guard (decide (xs.length + ys.length ≤ sizeLine)) (.ok (.nx (ρ.set i (.ow (.lst t (xs ++ ys))))))
        | _ => .no
      | _ => .no
  | .put i ek e, ρ => (slotOX ρ i).bind fun l => match l with
      | .dic t ks xs => (xv C e ρ).bind fun v => (xv C ek ρ).bind fun q => (ofO (keyOf q)).bind fun key => guard (decide (ks.length < sizeLine)) (.ok (.nx (ρ.set i (.ow (.dic t (putP key v ks xs).1 (putP key v ks xs).2)))))
      | _ => .no
  | .sdef i ek e, ρ => (slotOX ρ i).bind fun l => match l with
      | .dic t ks xs => (xv C ek ρ).bind fun q => (xv C e ρ).bind fun v => (ofO (keyOf q)).bind fun key => guard (decide (ks.length < sizeLine)) (match ks.any (fun q => decide (q = key)) with
        | true => .ok (.nx ρ)
        | false => .ok (.nx (ρ.set i (.ow (.dic t (putP key v ks xs).1 (putP key v ks xs).2)))))
      | _ => .no
  | .appPop _ _ _, _ => .no
  | .unp g e, ρ => (xv C e ρ).bind fun v => (ofO (seqOf v)).bind fun xs => (ofO (bindXs g xs ρ)).bind fun ρ' => .ok (.nx ρ')
  | .par i j a b, ρ => (xv C a ρ).bind fun v => (xv C b ρ).bind fun u => .ok (.nx ((ρ.set i (.va v)).set j (.va u)))
  | .parO i j a b, ρ => (xv C a ρ).bind fun v => (xv C b ρ).bind fun u => match u with
      | .lst t xs => .ok (.nx ((ρ.set i (.va v)).set j (.ow (.lst t xs))))
      | .dic t ks xs => .ok (.nx ((ρ.set i (.va v)).set j (.ow (.dic t ks xs))))
      | _ => .no
  | .ite t a b, ρ => (xv C t ρ).bind fun v => (ofO (truth v)).bind fun z => match z with | true => xSs a ρ | false => xSs b ρ
  | .for_ w g b, ρ => (xI C w ρ).bind fun items => eachSX (fun v ρ1 => (ofO (bindX g v ρ1)).bind fun ρ2 => xSs b ρ2) items ρ
  | .forK i g b, ρ => (xI C (.keys i) ρ).bind fun items => (eachSX (fun v ρ1 => (ofO (bindX g v ρ1)).bind fun ρ2 => xSs b ρ2) items ρ).calm
  | .whl t b, ρ => whileX (fun ρ1 => (xv C t ρ1).bind fun v => ofO (truth v)) (fun ρ1 => xSs b ρ1) n ρ
  | .ret e, ρ => (xv C e ρ).bind fun v => .ok (.rt v)
  | .retN, _ => .ok (.rt .non)
  | .rais cl f e, ρ => (xv C e ρ).bind fun v => .er ⟨cl, f, v⟩
  | .expr e, ρ => (xv C e ρ).bind fun _ => .ok (.nx ρ)
  | .pass, ρ => .ok (.nx ρ)
  | .brk, ρ => .ok (.bk ρ)
  | .cont, ρ => .ok (.ct ρ)
  | .nev, _ => .no
def xSs : Sm2 → Env → Rs Fl
  | .nil, ρ => .ok (.nx ρ)
  | .cons a r, ρ => (xS a ρ).bind fun f => match f with
    | .nx ρ' => xSs r ρ'
    | .rt v => .ok (.rt v)
    | .bk ρ' => .ok (.bk ρ')
    | .ct ρ' => .ok (.ct ρ')
end
end
def callX (F : Str → Option Df) (n : Nat) : Nat → ClX
  | 0 => fun _ _ => .no
  | m + 1 => fun f vs => match F f with
    | some d => guard (decide (vs.length = d.ps.length)) ((xSs (callX F n m) n d.body (entry d.N.length vs)).bind fun r => match r with
      | .nx _ => .ok .non
      | .rt v => .ok v
      | _ => .no)
    | none => .no
end Ze

/-! What is found by values is what the evaluator comes to. -/
namespace Ze
open PySem PySem.Spec PyProof.Rows L2
def ans {α : Type} (r : Rs α) (k : α → Prop) (x : Er → Prop) : Prop := match r with
  | .ok a => k a
  | .er e => x e
  | .no => False
theorem ans_mono {α : Type} {r : Rs α} {k k' : α → Prop} {x x' : Er → Prop} (hk : ∀ a, k a → k' a) (hx : ∀ e, x e → x' e) (h : ans r k x) : ans r k' x' := by
  cases r with
  | ok a => exact hk a h
  | er e => exact hx e h
  | no => exact h
theorem ans_bind {α β : Type} {r : Rs α} {f : α → Rs β} {k : β → Prop} {x : Er → Prop} (h : ans (r.bind f) k x) : ans r (fun a => ans (f a) k x) x := by
  cases r with
  | ok a => exact h
  | er e => exact h
  | no => exact h
theorem ans_ofO {α : Type} {o : Option α} {k : α → Prop} {x : Er → Prop} (h : ans (ofO o) k x) : opt o k := by
  cases o with
  | none => exact h
  | some a => exact h
theorem ans_guard {α : Type} {p : Prop} [Decidable p] {r : Rs α} {k : α → Prop} {x : Er → Prop} (h : ans (guard (decide p) r) k x) : p ∧ ans r k x := by
  by_cases hp : p
  · rw [decide_eq_true hp] at h; exact ⟨hp, h⟩
  · rw [decide_eq_false hp] at h; exact h.elim
theorem ans_calm {α : Type} {r : Rs α} {k : α → Prop} {x : Er → Prop} (h : ans r.calm k x) : ans r k (fun _ => False) := by
  cases r with
  | ok a => exact h
  | er e => exact h
  | no => exact h
theorem ans_calmB {α β : Type} {r : Rs α} {f : α → Rs β} {k : β → Prop} {x : Er → Prop} (h : ans (r.calm.bind f) k x) : ans r (fun a => ans (f a) k x) (fun _ => False) := by
  cases r with
  | ok a => exact h
  | er e => exact h
  | no => exact h
theorem slotX_ok {ρ : Env} {i : Nat} {k : PV → Prop} {x : Er → Prop} (h : ans (slotX ρ i) k x) : slotV ρ i k := by
  unfold slotX at h; unfold slotV
  split at h
  · rename_i e; first | exact h | (rw [e]; exact h)
  · exact h.elim
theorem slotRX_ok {ρ : Env} {i : Nat} {k : PV → Prop} {x : Er → Prop} (h : ans (slotRX ρ i) k x) : slotR ρ i k := by
  unfold slotRX at h; unfold slotR
  split at h
  · rename_i e; first | exact h | (rw [e]; exact h)
  · rename_i e; first | exact h | (rw [e]; exact h)
  · exact h.elim
theorem slotOX_ok {ρ : Env} {i : Nat} {k : PV → Prop} {x : Er → Prop} (h : ans (slotOX ρ i) k x) : slotO ρ i k := by
  unfold slotOX at h; unfold slotO
  split at h
  · rename_i e; first | exact h | (rw [e]; exact h)
  · exact h.elim
mutual
theorem bindX_ok : ∀ (g : Tg) {v : PV} {ρ ρ' : Env} {k : Env → Prop}, bindX g v ρ = some ρ' → k ρ' → bindT g v ρ k
  | .nm i, v, ρ, ρ', k, h, q => by
    unfold bindX at h; unfold bindT
    cases h; exact q
  | .tp ts, v, ρ, ρ', k, h, q => by
    unfold bindX at h; unfold bindT
    cases v <;> first | (cases h; done) | exact bindXs_ok ts h q
theorem bindXs_ok : ∀ (g : Tgs) {v : List PV} {ρ ρ' : Env} {k : Env → Prop}, bindXs g v ρ = some ρ' → k ρ' → bindTs g v ρ k
  | .nil, v, ρ, ρ', k, h, q => by
    unfold bindXs at h; unfold bindTs
    cases v with
    | nil => cases h; exact ⟨rfl, q⟩
    | cons _ _ => cases h
  | .cons t r, v, ρ, ρ', k, h, q => by
    unfold bindXs at h; unfold bindTs
    cases v with
    | nil => cases h
    | cons y ys =>
      dsimp only at h
      cases hb : bindX t y ρ with
      | none => rw [hb] at h; cases h
      | some ρ1 =>
        rw [hb] at h
        exact bindX_ok t hb (bindXs_ok r h q)
end
theorem ans_bindT {g : Tg} {v : PV} {ρ : Env} {α : Type} {f : Env → Rs α} {k : α → Prop} {x : Er → Prop} {Q : Env → Prop} (h : ans ((ofO (bindX g v ρ)).bind f) k x) (hq : ∀ ρ', ans (f ρ') k x → Q ρ') : bindT g v ρ Q := by
  cases hb : bindX g v ρ with
  | none => rw [hb] at h; exact h.elim
  | some ρ' => rw [hb] at h; exact bindX_ok g hb (hq ρ' h)
theorem eachX_ok {f : PV → List PV → Rs (List PV)} {F : PV → List PV → Nat → (List PV → Nat → Prop) → Prop} {c : Nat} {x : Er → Prop} (hf : ∀ v acc (k : List PV → Nat → Prop), ans (f v acc) (fun a => k a c) x → F v acc c k) :
    ∀ (items acc : List PV) {k : List PV → Nat → Prop}, ans (eachX f items acc) (fun a => k a c) x → eachL F items acc c k
  | [], acc, k, h => h
  | y :: ys, acc, k, h => by
    unfold eachX at h
    exact hf y acc _ (ans_mono (fun a q => eachX_ok hf ys a q) (fun _ q => q) (ans_bind h))
theorem eachDX_ok {f : PV → List Key → List PV → Rs (List Key × List PV)} {F : PV → List Key → List PV → Nat → (List Key → List PV → Nat → Prop) → Prop} {c : Nat} {x : Er → Prop} (hf : ∀ v ks vs (k : List Key → List PV → Nat → Prop), ans (f v ks vs) (fun p => k p.1 p.2 c) x → F v ks vs c k) :
    ∀ (items : List PV) (ks : List Key) (vs : List PV) {k : List Key → List PV → Nat → Prop}, ans (eachDX f items ks vs) (fun p => k p.1 p.2 c) x → eachD F items ks vs c k
  | [], ks, vs, k, h => h
  | y :: ys, ks, vs, k, h => by
    unfold eachDX at h
    exact hf y ks vs _ (ans_mono (fun a q => eachDX_ok hf ys a.1 a.2 q) (fun _ q => q) (ans_bind h))
section
variable {C : Cl} {D : ClX} (hC : CMono C) (hD : ∀ f vs c (k : Kp) (x : Xp), ans (D f vs) (fun v => k v c) (fun e => x e c) → C f vs c k x)
include hC hD
mutual
theorem xv_ok : ∀ (e : Ex) (ρ : Env) (c : Nat) (k : Kp) (x : Xp), ans (xv D e ρ) (fun v => k v c) (fun e => x e c) → ev C e ρ c k x
  | .var i, ρ, c, k, x, h => by unfold xv at h; unfold ev; exact slotX_ok h
  | .rd i, ρ, c, k, x, h => by unfold xv at h; unfold ev; exact slotRX_ok h
  | .non, ρ, c, k, x, h => by unfold xv at h; unfold ev; exact h
  | .bl b, ρ, c, k, x, h => by unfold xv at h; unfold ev; exact h
  | .int b, ρ, c, k, x, h => by unfold xv at h; unfold ev; exact h
  | .str b, ρ, c, k, x, h => by unfold xv at h; unfold ev; exact h
  | .glo _ b, ρ, c, k, x, h => by unfold xv at h; unfold ev; exact h
  | .fnc _, ρ, c, k, x, h => by unfold xv at h; unfold ev; exact h
  | .ty _ _, ρ, c, k, x, h => by unfold xv at h; unfold ev; exact h
  | .op o a b, ρ, c, k, x, h => by
    unfold xv at h; unfold ev
    refine xv_ok a ρ c _ x (ans_mono (fun v h => ?_) (fun _ z => z) (ans_bind h))
    refine xv_ok b ρ c _ x (ans_mono (fun u h => ?_) (fun _ z => z) (ans_bind h))
    exact ans_ofO h
  | .neg a, ρ, c, k, x, h => by
    unfold xv at h; unfold ev
    refine xv_ok a ρ c _ x (ans_mono (fun v h => ?_) (fun _ z => z) (ans_bind h))
    cases v <;> exact h
  | .cmp o a b, ρ, c, k, x, h => by
    unfold xv at h; unfold ev
    refine xv_ok a ρ c _ x (ans_mono (fun v h => ?_) (fun _ z => z) (ans_bind h))
    refine xv_ok b ρ c _ x (ans_mono (fun u h => ?_) (fun _ z => z) (ans_bind h))
    exact opt_mono (fun z q => q) (ans_ofO (ans_bind h))
  | .chain o p a b d, ρ, c, k, x, h => by
    unfold xv at h; unfold ev
    refine xv_ok a ρ c _ x (ans_mono (fun v h => ?_) (fun _ z => z) (ans_bind h))
    refine xv_ok b ρ c _ x (ans_mono (fun u h => ?_) (fun _ z => z) (ans_bind h))
    refine opt_mono (fun z h => ?_) (ans_ofO (ans_bind h))
    cases z with
    | false => exact h
    | true =>
      refine iteT (xv_ok d ρ c _ x (ans_mono (fun v h => ?_) (fun _ z => z) (ans_bind h)))
      exact opt_mono (fun z q => q) (ans_ofO (ans_bind h))
  | .and a b, ρ, c, k, x, h => by
    unfold xv at h; unfold ev
    refine xv_ok a ρ c _ x (ans_mono (fun v h => ?_) (fun _ z => z) (ans_bind h))
    refine opt_mono (fun z h => ?_) (ans_ofO (ans_bind h))
    cases z with
    | false => exact h
    | true => exact iteT (xv_ok b ρ c _ x h)
  | .or a b, ρ, c, k, x, h => by
    unfold xv at h; unfold ev
    refine xv_ok a ρ c _ x (ans_mono (fun v h => ?_) (fun _ z => z) (ans_bind h))
    refine opt_mono (fun z h => ?_) (ans_ofO (ans_bind h))
    cases z with
    | true => exact h
    | false => exact iteF (xv_ok b ρ c _ x h)
  | .not a, ρ, c, k, x, h => by
    unfold xv at h; unfold ev
    refine xv_ok a ρ c _ x (ans_mono (fun v h => ?_) (fun _ z => z) (ans_bind h))
    exact opt_mono (fun z q => q) (ans_ofO (ans_bind h))
  | .ife t a b, ρ, c, k, x, h => by
    unfold xv at h; unfold ev
    refine xv_ok t ρ c _ x (ans_mono (fun v h => ?_) (fun _ z => z) (ans_bind h))
    refine opt_mono (fun z h => ?_) (ans_ofO (ans_bind h))
    cases z with
    | true => exact iteT (xv_ok a ρ c _ x h)
    | false => exact iteF (xv_ok b ρ c _ x h)
  | .tup es, ρ, c, k, x, h => by
    unfold xv at h; unfold ev
    exact xvs_ok es ρ c _ x (ans_mono (fun v h => ans_guard h) (fun _ z => z) (ans_bind h))
  | .lst es, ρ, c, k, x, h => by
    unfold xv at h; unfold ev
    exact xvs_ok es ρ c _ x (ans_mono (fun v h => ans_guard h) (fun _ z => z) (ans_bind h))
  | .dis ks es, ρ, c, k, x, h => by
    unfold xv at h; unfold ev
    exact xvs_ok es ρ c _ x (ans_mono (fun v h => h) (fun _ z => z) (ans_bind h))
  | .dictG _ ks is, ρ, c, k, x, h => by unfold xv at h; unfold ev; exact h
  | .idx a b, ρ, c, k, x, h => by
    unfold xv at h; unfold ev
    refine xv_ok a ρ c _ x (ans_mono (fun v h => ?_) (fun _ z => z) (ans_bind h))
    refine xv_ok b ρ c _ x (ans_mono (fun u h => ?_) (fun _ z => z) (ans_bind h))
    exact ans_ofO h
  | .slc a l hh, ρ, c, k, x, h => by
    unfold xv at h; unfold ev
    refine xv_ok a ρ c _ x (ans_mono (fun v h => ?_) (fun _ z => z) (ans_bind h))
    refine xvs_ok l ρ c _ x (ans_mono (fun u h => ?_) (fun _ z => z) (ans_bind h))
    refine opt_mono (fun lo h => ?_) (ans_ofO (ans_bind h))
    refine xvs_ok hh ρ c _ x (ans_mono (fun u h => ?_) (fun _ z => z) (ans_bind h))
    refine opt_mono (fun hi h => ?_) (ans_ofO (ans_bind h))
    cases v <;> exact h
  | .rev a, ρ, c, k, x, h => by
    unfold xv at h; unfold ev
    refine xv_ok a ρ c _ x (ans_mono (fun v h => ?_) (fun _ z => z) (ans_bind h))
    cases v <;> exact h
  | .call f es, ρ, c, k, x, h => by
    unfold xv at h; unfold ev
    exact xvs_ok es ρ c _ x (ans_mono (fun v h => hD f v c k x h) (fun _ z => z) (ans_bind h))
  | .callK f es _ kes, ρ, c, k, x, h => by
    unfold xv at h; unfold ev
    refine xvs_ok es ρ c _ x (ans_mono (fun v h => ?_) (fun _ z => z) (ans_bind h))
    exact xvs_ok kes ρ c _ x (ans_mono (fun u h => hD f _ c k x h) (fun _ z => z) (ans_bind h))
  | .callV i es, ρ, c, k, x, h => by
    unfold xv at h; unfold ev
    refine slotX_ok (x := fun e => x e c) (ans_mono (fun f h => ?_) (fun _ z => z) (ans_bind h))
    cases f <;> first | exact h | exact xvs_ok es ρ c _ x (ans_mono (fun v h => hD _ v c k x h) (fun _ z => z) (ans_bind h))
  | .bi b es, ρ, c, k, x, h => by
    unfold xv at h; unfold ev
    exact xvs_ok es ρ c _ x (ans_mono (fun v h => ans_ofO h) (fun _ z => z) (ans_bind h))
  | .mt m o es, ρ, c, k, x, h => by
    unfold xv at h; unfold ev
    refine xv_ok o ρ c _ x (ans_mono (fun v h => ?_) (fun _ z => z) (ans_bind h))
    cases hm : mtOk m v with
    | false => rw [hm] at h; exact h.elim
    | true =>
      rw [hm] at h
      rw [if_pos rfl]
      exact xvs_ok es ρ c _ x (ans_mono (fun v h => ans_ofO h) (fun _ z => z) (ans_bind h))
  | .comp own w g ifs e, ρ, c, k, x, h => by
    unfold xv at h; unfold ev
    refine xI_ok w ρ c _ x (ans_mono (fun items h => ?_) (fun _ z => z) (ans_bind h))
    refine eachX_ok (x := fun e => x e c) (fun v acc kk h => ?_) items [] (k := fun out c2 => k (.lst true out) c2) (ans_mono (fun _ z => z) (fun _ z => z) (ans_bind h))
    cases hb : bindX g v (wipeE ρ own) with
    | none => rw [hb] at h; exact h.elim
    | some ρ' =>
      rw [hb] at h
      refine bindX_ok g hb ?_
      refine xTs_ok ifs ρ' c _ _ (ans_mono (fun b h => ?_) (fun _ z => z) (ans_calmB h))
      cases b with
      | false => exact iteF h
      | true => exact iteT (xv_ok e ρ' c _ _ (ans_mono (fun y h => ans_guard h) (fun _ z => z) (ans_calmB h)))
  | .dcomp own w g ifs ek e, ρ, c, k, x, h => by
    unfold xv at h; unfold ev
    refine xI_ok w ρ c _ x (ans_mono (fun items h => ?_) (fun _ z => z) (ans_bind h))
    refine eachDX_ok (x := fun e => x e c) (fun v ks vs kk h => ?_) items [] [] (k := fun ks vs c2 => k (.dic true ks vs) c2) (ans_mono (fun _ z => z) (fun _ z => z) (ans_bind h))
    cases hb : bindX g v (wipeE ρ own) with
    | none => rw [hb] at h; exact h.elim
    | some ρ' =>
      rw [hb] at h
      refine bindX_ok g hb ?_
      refine xTs_ok ifs ρ' c _ _ (ans_mono (fun b h => ?_) (fun _ z => z) (ans_calmB h))
      cases b with
      | false => exact iteF h
      | true =>
        refine iteT (xv_ok ek ρ' c _ _ (ans_mono (fun q h => ?_) (fun _ z => z) (ans_calmB h)))
        refine xv_ok e ρ' c _ _ (ans_mono (fun y h => ?_) (fun _ z => z) (ans_calmB h))
        exact opt_mono (fun key h => ans_guard h) (ans_ofO (ans_bind h))
theorem xvs_ok : ∀ (e : Es) (ρ : Env) (c : Nat) (k : List PV → Nat → Prop) (x : Xp), ans (xvs D e ρ) (fun v => k v c) (fun e => x e c) → evs C e ρ c k x
  | .nil, ρ, c, k, x, h => by unfold xvs at h; unfold evs; exact h
  | .cons e r, ρ, c, k, x, h => by
    unfold xvs at h; unfold evs
    refine xv_ok e ρ c _ x (ans_mono (fun v h => ?_) (fun _ z => z) (ans_bind h))
    exact xvs_ok r ρ c _ x (ans_mono (fun vs h => h) (fun _ z => z) (ans_bind h))
  | .star e r, ρ, c, k, x, h => by
    unfold xvs at h; unfold evs
    refine xv_ok e ρ c _ x (ans_mono (fun v h => ?_) (fun _ z => z) (ans_bind h))
    refine opt_mono (fun us h => ?_) (ans_ofO (ans_bind h))
    exact xvs_ok r ρ c _ x (ans_mono (fun vs h => h) (fun _ z => z) (ans_bind h))
theorem xTs_ok : ∀ (e : Es) (ρ : Env) (c : Nat) (k : Bool → Nat → Prop) (x : Xp), ans (xTs D e ρ) (fun v => k v c) (fun e => x e c) → evTs C e ρ c k x
  | .nil, ρ, c, k, x, h => by unfold xTs at h; unfold evTs; exact h
  | .cons e r, ρ, c, k, x, h => by
    unfold xTs at h; unfold evTs
    refine xv_ok e ρ c _ x (ans_mono (fun v h => ?_) (fun _ z => z) (ans_bind h))
    refine opt_mono (fun z h => ?_) (ans_ofO (ans_bind h))
    cases z with
    | true => exact iteT (xTs_ok r ρ c _ x h)
    | false => exact iteF h
  | .star e r, ρ, c, k, x, h => by unfold xTs at h; exact h.elim
theorem xI_ok : ∀ (w : It) (ρ : Env) (c : Nat) (k : List PV → Nat → Prop) (x : Xp), ans (xI D w ρ) (fun v => k v c) (fun e => x e c) → evI C w ρ c k x
  | .seq e, ρ, c, k, x, h => by
    unfold xI at h; unfold evI
    refine xv_ok e ρ c _ x (ans_mono (fun v h => ?_) (fun _ z => z) (ans_bind h))
    cases v <;> exact h
  | .zip es, ρ, c, k, x, h => by
    unfold xI at h; unfold evI
    refine xvs_ok es ρ c _ x (ans_mono (fun v h => ?_) (fun _ z => z) (ans_bind h))
    split at h <;> first | exact h | exact False.elim h
  | .enum e, ρ, c, k, x, h => by
    unfold xI at h; unfold evI
    refine xv_ok e ρ c _ x (ans_mono (fun v h => ?_) (fun _ z => z) (ans_bind h))
    cases v <;> exact h
  | .range es, ρ, c, k, x, h => by
    unfold xI at h; unfold evI
    refine xvs_ok es ρ c _ x (ans_mono (fun v h => ?_) (fun _ z => z) (ans_bind h))
    split at h
    · exact ans_guard h
    · exact ans_guard h
    · exact h.elim
  | .keys i, ρ, c, k, x, h => by
    unfold xI at h; unfold evI
    refine slotX_ok (x := fun e => x e c) (ans_mono (fun v h => ?_) (fun _ z => z) (ans_bind h))
    cases v <;> exact h
end
end
theorem eachSX_ok {f : PV → Env → Rs Fl} {F : PV → Env → Nat → (Env → Nat → Prop) → (Env → Nat → Prop) → Prop} {c : Nat} {kr : PV → Prop} {x : Er → Prop} {kb kc : Env → Prop}
    (hf : ∀ v ρ (k kb' : Env → Nat → Prop), ans (f v ρ) (fun r => match r with | .nx ρ' => k ρ' c | .ct ρ' => k ρ' c | .bk ρ' => kb' ρ' c | .rt v => kr v) x → F v ρ c k kb') :
    ∀ (items : List PV) (ρ : Env) {k : Env → Nat → Prop}, ans (eachSX f items ρ) (fun r => match r with | .nx ρ' => k ρ' c | .rt v => kr v | .bk ρ' => kb ρ' | .ct ρ' => kc ρ') x → eachS F items ρ c k
  | [], ρ, k, h => h
  | y :: ys, ρ, k, h => by
    unfold eachSX at h
    refine hf y ρ _ _ (ans_mono (fun r q => ?_) (fun _ q => q) (ans_bind h))
    cases r with
    | nx ρ' => exact eachSX_ok hf ys ρ' q
    | ct ρ' => exact eachSX_ok hf ys ρ' q
    | bk ρ' => exact q
    | rt v => exact q
theorem whileX_ok {t : Env → Rs Bool} {b : Env → Rs Fl} {T : Env → Nat → (Bool → Nat → Prop) → Prop} {B : Env → Nat → (Env → Nat → Prop) → (Env → Nat → Prop) → Prop} {c : Nat} {kr : PV → Prop} {x : Er → Prop} {kb kc : Env → Prop}
    (ht : ∀ ρ (k : Bool → Nat → Prop), ans (t ρ) (fun z => k z c) x → T ρ c k) (hb : ∀ ρ (k kb' : Env → Nat → Prop), ans (b ρ) (fun r => match r with | .nx ρ' => k ρ' c | .ct ρ' => k ρ' c | .bk ρ' => kb' ρ' c | .rt v => kr v) x → B ρ c k kb') :
    ∀ (n : Nat) (ρ : Env) {k : Env → Nat → Prop}, ans (whileX t b n ρ) (fun r => match r with | .nx ρ' => k ρ' c | .rt v => kr v | .bk ρ' => kb ρ' | .ct ρ' => kc ρ') x → whileN T B n ρ c k
  | 0, ρ, k, h => h.elim
  | n + 1, ρ, k, h => by
    unfold whileX at h
    refine ht ρ _ (ans_mono (fun z q => ?_) (fun _ q => q) (ans_bind h))
    cases z with
    | false => exact iteF q
    | true =>
      refine iteT (hb ρ _ _ (ans_mono (fun r q => ?_) (fun _ q => q) (ans_bind q)))
      cases r with
      | nx ρ' => exact whileX_ok ht hb n ρ' q
      | ct ρ' => exact whileX_ok ht hb n ρ' q
      | bk ρ' => exact q
      | rt v => exact q
/-- what a statement's end asks -/
def flK (E : En) (c : Nat) (r : Fl) : Prop := match r with
  | .nx ρ => E.nx ρ c
  | .rt v => E.rt v c
  | .bk ρ => E.bk ρ c
  | .ct ρ => E.ct ρ c
section
variable {C : Cl} {D : ClX} {n : Nat} (hC : CMono C) (hD : ∀ f vs c (k : Kp) (x : Xp), ans (D f vs) (fun v => k v c) (fun e => x e c) → C f vs c k x)
include hC hD
mutual
theorem xS_ok : ∀ (s : Sm1) (ρ : Env) (c : Nat) (E : En) (x : Xp), ans (xS D n s ρ) (flK E c) (fun e => x e c) → evS C n s ρ c E x
  | .set i e, ρ, c, E, x, h => by
    unfold xS at h; unfold evS
    exact xv_ok hC hD e ρ c _ x (ans_mono (fun v h => h) (fun _ z => z) (ans_bind h))
  | .own i e, ρ, c, E, x, h => by
    unfold xS at h; unfold evS
    exact xv_ok hC hD e ρ c _ x (ans_mono (fun v h => by cases v <;> first | exact h | exact False.elim h) (fun _ z => z) (ans_bind h))
  | .frz i, ρ, c, E, x, h => by
    unfold xS at h; unfold evS
    exact slotOX_ok (x := fun e => x e c) (ans_mono (fun v h => h) (fun _ z => z) (ans_bind h))
  | .app i e, ρ, c, E, x, h => by
    unfold xS at h; unfold evS
    refine slotOX_ok (x := fun e => x e c) (ans_mono (fun l h => ?_) (fun _ z => z) (ans_bind h))
    cases l <;> first | exact False.elim h | exact xv_ok hC hD e ρ c _ x (ans_mono (fun v h => ans_guard h) (fun _ z => z) (ans_bind h))
  | .ext i e, ρ, c, E, x, h => by
    unfold xS at h; unfold evS
    refine slotOX_ok (x := fun e => x e c) (ans_mono (fun l h => ?_) (fun _ z => z) (ans_bind h))
    cases l <;> first | exact False.elim h | exact xv_ok hC hD e ρ c _ x (ans_mono (fun v h => by cases v <;> first | exact False.elim h | exact ans_guard h) (fun _ z => z) (ans_bind h))
  | .put i ek e, ρ, c, E, x, h => by
    unfold xS at h; unfold evS
    refine slotOX_ok (x := fun e => x e c) (ans_mono (fun l h => ?_) (fun _ z => z) (ans_bind h))
    cases l <;> (try (exact False.elim h))
    refine xv_ok hC hD e ρ c _ x (ans_mono (fun v h => ?_) (fun _ z => z) (ans_bind h))
    refine xv_ok hC hD ek ρ c _ x (ans_mono (fun q h => ?_) (fun _ z => z) (ans_bind h))
    exact opt_mono (fun key h => ans_guard h) (ans_ofO (ans_bind h))
  | .sdef i ek e, ρ, c, E, x, h => by
    unfold xS at h; unfold evS
    refine slotOX_ok (x := fun e => x e c) (ans_mono (fun l h => ?_) (fun _ z => z) (ans_bind h))
    cases l <;> (try (exact False.elim h))
    refine xv_ok hC hD ek ρ c _ x (ans_mono (fun v h => ?_) (fun _ z => z) (ans_bind h))
    refine xv_ok hC hD e ρ c _ x (ans_mono (fun q h => ?_) (fun _ z => z) (ans_bind h))
    refine opt_mono (fun key h => ?_) (ans_ofO (ans_bind h))
    obtain ⟨h1, h2⟩ := ans_guard h
    refine ⟨h1, ?_⟩
    split at h2
    · rename_i e; rw [if_pos e]; exact h2
    · rename_i e; rw [if_neg (by rw [e]; exact Bool.false_ne_true)]; exact h2
  | .appPop _ _ _, ρ, c, E, x, h => by unfold xS at h; exact False.elim h
  | .unp g e, ρ, c, E, x, h => by
    unfold xS at h; unfold evS
    refine xv_ok hC hD e ρ c _ x (ans_mono (fun v h => ?_) (fun _ z => z) (ans_bind h))
    refine opt_mono (fun xs h => ?_) (ans_ofO (ans_bind h))
    cases hb : bindXs g xs ρ with
    | none => rw [hb] at h; exact False.elim h
    | some ρ' => rw [hb] at h; exact bindXs_ok g hb h
  | .par i j a b, ρ, c, E, x, h => by
    unfold xS at h; unfold evS
    refine xv_ok hC hD a ρ c _ x (ans_mono (fun v h => ?_) (fun _ z => z) (ans_bind h))
    exact xv_ok hC hD b ρ c _ x (ans_mono (fun v h => h) (fun _ z => z) (ans_bind h))
  | .parO i j a b, ρ, c, E, x, h => by
    unfold xS at h; unfold evS
    refine xv_ok hC hD a ρ c _ x (ans_mono (fun v h => ?_) (fun _ z => z) (ans_bind h))
    exact xv_ok hC hD b ρ c _ x (ans_mono (fun u h => by cases u <;> first | exact h | exact False.elim h) (fun _ z => z) (ans_bind h))
  | .ite t a b, ρ, c, E, x, h => by
    unfold xS at h; unfold evS
    refine xv_ok hC hD t ρ c _ x (ans_mono (fun v h => ?_) (fun _ z => z) (ans_bind h))
    refine opt_mono (fun z h => ?_) (ans_ofO (ans_bind h))
    cases z with
    | true => exact iteT (xSs_ok a ρ c E x h)
    | false => exact iteF (xSs_ok b ρ c E x h)
  | .for_ w g b, ρ, c, E, x, h => by
    unfold xS at h; unfold evS
    refine xI_ok hC hD w ρ c _ x (ans_mono (fun items h => ?_) (fun _ z => z) (ans_bind h))
    refine eachSX_ok (kr := fun v => E.rt v c) (kb := fun ρ' => E.bk ρ' c) (kc := fun ρ' => E.ct ρ' c) (x := fun e => x e c) (fun v ρ1 k kb h => ?_) items ρ (ans_mono (fun r q => by cases r <;> exact q) (fun _ z => z) h)
    exact ans_bindT h fun ρ' h => xSs_ok b ρ' c _ x (ans_mono (fun r q => by cases r <;> exact q) (fun _ z => z) h)
  | .forK i g b, ρ, c, E, x, h => by
    unfold xS at h; unfold evS
    have h2 := ans_bind h
    refine xI_ok hC hD (.keys i) ρ c _ (fun _ _ => False) ?_
    cases hi : xI D (.keys i) ρ with
    | no => rw [hi] at h2; exact h2
    | er e =>
      unfold xI at hi
      unfold slotX at hi
      split at hi
      · rename_i v _
        cases v <;> cases hi
      · cases hi
    | ok items =>
      rw [hi] at h2
      have h2 := ans_calm (show ans (Rs.calm _) _ _ from h2)
      refine eachSX_ok (kr := fun v => E.rt v c) (kb := fun ρ' => E.bk ρ' c) (kc := fun ρ' => E.ct ρ' c) (x := fun _ => False) (fun v ρ1 k kb h => ?_) items ρ (ans_mono (fun r q => by cases r <;> exact q) (fun _ z => z) h2)
      exact ans_bindT h fun ρ' h => xSs_ok b ρ' c _ _ (ans_mono (fun r q => by cases r <;> exact q) (fun _ z => z) h)
  | .whl t b, ρ, c, E, x, h => by
    unfold xS at h; unfold evS
    refine whileX_ok (kr := fun v => E.rt v c) (kb := fun ρ' => E.bk ρ' c) (kc := fun ρ' => E.ct ρ' c) (x := fun e => x e c) (fun ρ1 k h => ?_) (fun ρ1 k kb h => ?_) n ρ (ans_mono (fun r q => by cases r <;> exact q) (fun _ z => z) h)
    · exact xv_ok hC hD t ρ1 c _ x (ans_mono (fun v h => ans_ofO h) (fun _ z => z) (ans_bind h))
    · exact xSs_ok b ρ1 c _ x (ans_mono (fun r q => by cases r <;> exact q) (fun _ z => z) h)
  | .ret e, ρ, c, E, x, h => by
    unfold xS at h; unfold evS
    exact xv_ok hC hD e ρ c _ x (ans_mono (fun v h => h) (fun _ z => z) (ans_bind h))
  | .retN, ρ, c, E, x, h => by unfold xS at h; unfold evS; exact h
  | .rais cl f e, ρ, c, E, x, h => by
    unfold xS at h; unfold evS
    exact xv_ok hC hD e ρ c _ x (ans_mono (fun v h => h) (fun _ z => z) (ans_bind h))
  | .expr e, ρ, c, E, x, h => by
    unfold xS at h; unfold evS
    exact xv_ok hC hD e ρ c _ x (ans_mono (fun v h => h) (fun _ z => z) (ans_bind h))
  | .pass, ρ, c, E, x, h => by unfold xS at h; unfold evS; exact h
  | .brk, ρ, c, E, x, h => by unfold xS at h; unfold evS; exact h
  | .cont, ρ, c, E, x, h => by unfold xS at h; unfold evS; exact h
  | .nev, ρ, c, E, x, h => by unfold xS at h; exact False.elim h
theorem xSs_ok : ∀ (s : Sm2) (ρ : Env) (c : Nat) (E : En) (x : Xp), ans (xSs D n s ρ) (flK E c) (fun e => x e c) → evSs C n s ρ c E x
  | .nil, ρ, c, E, x, h => by unfold xSs at h; unfold evSs; exact h
  | .cons a r, ρ, c, E, x, h => by
    unfold xSs at h; unfold evSs
    refine xS_ok a ρ c _ x (ans_mono (fun f h => ?_) (fun _ z => z) (ans_bind h))
    cases f with
    | nx ρ' => exact xSs_ok r ρ' c E x h
    | rt v => exact h
    | bk ρ' => exact h
    | ct ρ' => exact h
end
end
/-- a call that draws nothing -/
theorem callX_ok {Pr : Cl} {F : Str → Option Df} {n : Nat} (hP : CMono Pr) : ∀ (m : Nat) (f : Str) (vs : List PV) (c : Nat) (k : Kp) (x : Xp), ans (callX F n m f vs) (fun v => k v c) (fun e => x e c) → callN Pr F n m f vs c k x
  | 0, f, vs, c, k, x, h => False.elim h
  | m + 1, f, vs, c, k, x, h => by
    unfold callX at h; unfold callN
    cases hF : F f with
    | none => rw [hF] at h; exact False.elim h
    | some d =>
      rw [hF] at h
      obtain ⟨h1, h2⟩ := ans_guard h
      refine ⟨h1, xSs_ok (callN_mono hP m) (callX_ok hP m) d.body _ c _ x (ans_mono (fun r q => ?_) (fun _ z => z) (ans_bind h2))⟩
      cases r <;> first | exact q | exact False.elim q
end Ze

/-! The drawing of digits. -/
namespace Ze
open PySem PySem.Spec PyProof.Rows L2
abbrev ix0 (i : Int) : Ex := .idx (.var 0) (.int i)
def E1 : Ex := .op .add (ix0 2) (.int 1)
def T1 : Ex := .and (.cmp .eq (ix0 1) (.int 0)) (.cmp .ne (ix0 0) (.lst .nil))
def E3 : Ex := .op .mod (.bi .int (.cons (.op .add (.op .add (.op .mul (ix0 3) (.int 7207)) (.var 2)) (.int 17)) .nil)) (.int 2147483629)
def E4 : Ex := .ife (.cmp .ge (.var 2) (.op .pow (.int 10) (.int 18))) (.var 2) (.int 0)
def T2 : Ex := .cmp .gt (ix0 1) (.int 0)
def E5 : Ex := .op .mod (.bi .int (.cons (ix0 1) .nil)) (.var 1)
def E6 : Ex := .op .fdiv (ix0 1) (.var 1)
def E7 : Ex := .op .mod (.bi .int (.cons (.op .pow (.op .add (.op .add (ix0 3) (.op .mul (.int 8221) (ix0 2))) (.int 60029)) (.int 5)) .nil)) (.int 2147483587)
def E8 : Ex := .op .mod (.op .mod (.bi .int (.cons (.op .pow (.op .add (.op .add (.op .mul (.var 4) (.int 50033)) (.op .mul (.int 30029) (ix0 2))) (.int 43)) (.int 3)) .nil)) (.int 1000000009)) (.var 1)
def stP (ns : List Int) (pos cnt mix : Int) : PV := .lst false [.lst false (ns.map .int), .int pos, .int cnt, .int mix]
abbrev D0 : ClX := fun _ _ => .no
theorem x_ix {ns : List Int} {pos cnt mix : Int} {r : Env} : xv D0 (ix0 1) (.va (stP ns pos cnt mix) :: r) = .ok (.int pos) ∧ xv D0 (ix0 2) (.va (stP ns pos cnt mix) :: r) = .ok (.int cnt) ∧ xv D0 (ix0 3) (.va (stP ns pos cnt mix) :: r) = .ok (.int mix) ∧
    xv D0 (ix0 0) (.va (stP ns pos cnt mix) :: r) = .ok (.lst false (ns.map .int)) := ⟨rfl, rfl, rfl, rfl⟩
theorem x_E1 {ns : List Int} {pos cnt mix : Int} {r : Env} : xv D0 E1 (.va (stP ns pos cnt mix) :: r) = .ok (.int (cnt + 1)) := rfl
theorem bits_small {i j : Int} (hi : i.natAbs < 2 ^ 64) (hj : j.natAbs < 2 ^ 64) : bitsOk i j = true := by
  unfold bitsOk
  have h1 : i.natAbs.log2 < 65 := by
    by_cases h : i.natAbs = 0
    · rw [h]; decide
    · exact Nat.lt_of_lt_of_le ((Nat.log2_lt h).mpr hi) (by decide)
  have h2 : j.natAbs.log2 < 65 := by
    by_cases h : j.natAbs = 0
    · rw [h]; decide
    · exact Nat.lt_of_lt_of_le ((Nat.log2_lt h).mpr hj) (by decide)
  exact decide_eq_true (by omega)
section
variable {D : ClX} {ρ : Env}
theorem o_mul {i j : Int} (h : bitsOk i j = true) : op2 .mul (.int i) (.int j) = some (.int (i * j)) := if_pos h
theorem o_pow {i j : Int} (h : 0 ≤ i ∧ i < 2 ^ 63 ∧ 0 ≤ j ∧ j < 64) : op2 .pow (.int i) (.int j) = some (.int (i ^ j.toNat)) := if_pos h
theorem o_mod {i j : Int} (h : 0 < j) : op2 .mod (.int i) (.int j) = some (.int (i % j)) := if_pos h
theorem o_fdiv {i j : Int} (h : 0 < j) (h2 : j < 2 ^ 62) : op2 .fdiv (.int i) (.int j) = some (.int (i / j)) := if_pos ⟨h, by
  have : j.natAbs.log2 < 62 := (Nat.log2_lt (by omega)).mpr (by omega)
  omega⟩
theorem x_op {o : Op} {a b : Ex} {v u z : PV} (ha : xv D a ρ = .ok v) (hb : xv D b ρ = .ok u) (h : op2 o v u = some z) : xv D (.op o a b) ρ = .ok z := by
  unfold xv; rw [ha]; show Rs.bind (xv D b ρ) _ = _; rw [hb]; show ofO (op2 o v u) = _; rw [h]; rfl
theorem x_cmp {o : Cp} {a b : Ex} {v u : PV} {z : Bool} (ha : xv D a ρ = .ok v) (hb : xv D b ρ = .ok u) (h : cmp2 o v u = some z) : xv D (.cmp o a b) ρ = .ok (.bl z) := by
  unfold xv; rw [ha]; show Rs.bind (xv D b ρ) _ = _; rw [hb]; show Rs.bind (ofO (cmp2 o v u)) _ = _; rw [h]; rfl
theorem x_int {a : Ex} {i : Int} (ha : xv D a ρ = .ok (.int i)) : xv D (.bi .int (.cons a .nil)) ρ = .ok (.int i) := by
  unfold xv xvs; rw [ha]; rfl
end
theorem x_E3 {ns : List Int} {pos cnt mix m cell : Int} {r : Env} (h1 : 0 ≤ mix) (h2 : mix < 2147483629) : xv D0 E3 (.va (stP ns pos cnt mix) :: .va (.int m) :: .va (.int cell) :: r) = .ok (.int ((mix * 7207 + cell + 17) % 2147483629)) :=
  x_op (x_int (x_op (x_op (x_op x_ix.2.2.1 rfl (o_mul (bits_small (by omega) (by decide)))) (u := .int cell) rfl rfl) rfl rfl)) rfl (o_mod (by decide))
theorem x_E4 {S : Sl} {m cell : Int} {r : Env} : xv D0 E4 (S :: .va (.int m) :: .va (.int cell) :: r) = .ok (.int (if (10 ^ 18 : Int) ≤ cell then cell else 0)) := by
  have c : xv D0 (.cmp .ge (.var 2) (.op .pow (.int 10) (.int 18))) (S :: .va (.int m) :: .va (.int cell) :: r) = .ok (.bl (decide ((10 ^ 18 : Int) ≤ cell))) :=
    x_cmp (v := .int cell) rfl (x_op rfl rfl (o_pow (by decide))) rfl
  unfold E4 xv
  rw [c]
  show (match decide ((10 ^ 18 : Int) ≤ cell) with | true => Rs.ok (PV.int cell) | false => Rs.ok (PV.int 0)) = _
  by_cases h : (10 ^ 18 : Int) ≤ cell
  · rw [decide_eq_true h, if_pos h]
  · rw [decide_eq_false h, if_neg h]
theorem x_T2 {ns : List Int} {pos cnt mix : Int} {r : Env} : xv D0 T2 (.va (stP ns pos cnt mix) :: r) = .ok (.bl (decide (0 < pos))) := rfl
theorem x_E5 {ns : List Int} {pos cnt mix m : Int} {r : Env} (hm : 0 < m) : xv D0 E5 (.va (stP ns pos cnt mix) :: .va (.int m) :: r) = .ok (.int (pos % m)) :=
  x_op (x_int x_ix.1) (u := .int m) rfl (o_mod hm)
theorem x_E6 {ns : List Int} {pos cnt mix m : Int} {r : Env} (hm : 0 < m) (h2 : m < 2 ^ 62) : xv D0 E6 (.va (stP ns pos cnt mix) :: .va (.int m) :: r) = .ok (.int (pos / m)) :=
  x_op x_ix.1 (u := .int m) rfl (o_fdiv hm h2)
theorem x_E7 {ns : List Int} {pos mix : Int} {c : Nat} {r : Env} (h1 : 0 ≤ mix) (h2 : mix < 2147483629) (hc : c < 2 ^ 40) : xv D0 E7 (.va (stP ns pos (c : Nat) mix) :: r) = .ok (.int ((mix + 8221 * (c : Nat) + 60029) ^ 5 % 2147483587)) :=
  x_op (x_int (x_op (x_op (x_op x_ix.2.2.1 (x_op rfl x_ix.2.1 (o_mul (bits_small (by decide) (by omega)))) rfl) rfl rfl) rfl (o_pow ⟨by omega, by omega, by decide, by decide⟩))) rfl (o_mod (by decide))
theorem x_E8 {ns : List Int} {pos mix m mixed : Int} {c : Nat} {S2 S3 : Sl} {r : Env} (hm : 0 < m) (h1 : 0 ≤ mixed) (h2 : mixed < 2147483587) (hc : c < 2 ^ 40) :
    xv D0 E8 (.va (stP ns pos (c : Nat) mix) :: .va (.int m) :: S2 :: S3 :: .va (.int mixed) :: r) = .ok (.int ((mixed * 50033 + 30029 * (c : Nat) + 43) ^ 3 % 1000000009 % m)) :=
  x_op (x_op (x_int (x_op (x_op (x_op (x_op (v := .int mixed) rfl rfl (o_mul (bits_small (by omega) (by decide)))) (x_op rfl x_ix.2.1 (o_mul (bits_small (by decide) (by omega)))) rfl) rfl rfl) rfl (o_pow ⟨by omega, by omega, by decide, by decide⟩))) rfl (o_mod (by decide))) (u := .int m) rfl (o_mod hm)
theorem ints_toD : ∀ ns : List Int, toDs (ns.map .int) = some (ns.map .int) ∧ PyData.canLayAll0 (ns.map .int) = true ∧ PyData.depthAll (ns.map .int) = 0
  | [] => ⟨rfl, rfl, rfl⟩
  | n :: ns => by
    obtain ⟨a, b, c⟩ := ints_toD ns
    refine ⟨?_, ?_, ?_⟩
    · show (match toD (.int n), toDs (ns.map .int) with | some d, some ds => some (d :: ds) | _, _ => none) = _
      rw [a]; rfl
    · show (PyData.canLay0 (.int n) && PyData.canLayAll0 (ns.map .int)) = true
      rw [b]; rfl
    · show max (PyData.depth (.int n)) (PyData.depthAll (ns.map .int)) = 0
      rw [c]; rfl
theorem x_T1 {ns : List Int} {pos cnt mix : Int} {r : Env} : xv D0 T1 (.va (stP ns pos cnt mix) :: r) = .ok (.bl (decide (pos = 0) && !ns.isEmpty)) := by
  obtain ⟨a, b, c⟩ := ints_toD ns
  have e1 : cmp2 .eq (.int pos) (.int 0) = some (decide (pos = 0)) := by
    show some (pos == 0) = _
    rw [Bool.beq_eq_decide_eq]
  have e2 : cmp2 .ne (.lst false (ns.map .int)) (.lst true []) = some (!ns.isEmpty) := by
    show (peq (.lst false (ns.map .int)) (.lst true [])).map (!·) = _
    unfold peq
    have t : toD (.lst false (ns.map .int)) = some (.list (ns.map .int)) := by
      show (toDs (ns.map .int)).map PyData.list = _
      rw [a]; rfl
    rw [t]
    have s : SeqAt.shaped (.list (ns.map .int)) = true := by
      unfold SeqAt.shaped
      show (PyData.canLayAll0 (ns.map .int) && decide (PyData.depthAll (ns.map .int) + 1 ≤ 64)) = true
      rw [b, c]; rfl
    show (if (SeqAt.shaped (.list (ns.map .int)) && SeqAt.shaped (.list [])) = true then some (PyData.eqv (.list (ns.map .int)) (.list [])) else none).map _ = _
    rw [s]
    cases ns <;> rfl
  have c1 : xv D0 (.cmp .eq (ix0 1) (.int 0)) (.va (stP ns pos cnt mix) :: r) = .ok (.bl (decide (pos = 0))) := x_cmp x_ix.1 rfl e1
  have c2 : xv D0 (.cmp .ne (ix0 0) (.lst .nil)) (.va (stP ns pos cnt mix) :: r) = .ok (.bl (!ns.isEmpty)) := x_cmp x_ix.2.2.2 (u := .lst true []) rfl e2
  unfold T1 xv
  rw [c1]
  show (match decide (pos = 0) with | true => xv D0 (.cmp .ne (ix0 0) (.lst .nil)) (.va (stP ns pos cnt mix) :: r) | false => Rs.ok (PV.bl (decide (pos = 0)))) = _
  rw [c2]
  by_cases h : pos = 0
  · rw [decide_eq_true h]; rfl
  · rw [decide_eq_false h]; rfl
end Ze

/-! The drawing of digits: the body. -/
namespace Ze
open PySem PySem.Spec PyProof.Rows L2
def W0 (K : PySem.W.Frag) (mg : Str → Option Value) : Wd where
  K := K
  mg := mg
  S := fun _ => False
  sA := 0
  B := fun _ => False
  str := fun _ _ => True
  st := fun _ _ => trivial
  tr := fun _ z => z.elim
  nf := fun _ z => z.elim
def C0 : Cl := fun _ _ _ _ _ => False
theorem c0_mono : CMono C0 := fun _ _ _ _ _ _ _ _ _ h => h
def Ext (H H' : Hp) : Prop := ∀ a o, H a = some o → H' a = some o
def dN : List Str := ["stream", "many", "cell", "digit", "mixed"]
/-- the body of the def that draws -/
def drawB (S : Sx) (l : List Stmt) : Bool := match l with
  | [.Assign [.Subscript (.Name s1 _) (.Constant (.int 2) _ _) _] e1 _,
     .While t1 [.Assign [.Name c1 _] (.Call (.Name ab _) [.Call (.Attribute (.Subscript (.Name s0 _) (.Constant (.int 0) _ _) _) pp apos) [.Constant (.int 0) _ _] [] cpos] [] _) _,
        .Assign [.Subscript (.Name s3 _) (.Constant (.int 3) _ _) _] e3 _, .Assign [.Subscript (.Name s4 _) (.Constant (.int 1) _ _) _] e4 _] [] _,
     .If t2 [.Assign [.Name d1 _] e5 _, .Assign [.Subscript (.Name s6 _) (.Constant (.int 1) _ _) _] e6 _, .Return (some (.Name d2 _)) _] [] _,
     .Assign [.Name m1 _] e7 _, .Return (some e8) _] =>
      visB S 0 s1 && visB S 0 s3 && visB S 0 s4 && visB S 0 s6 && storeB S 2 c1 && storeB S 3 d1 && visB S 3 d2 && storeB S 4 m1 && decide (ab = ("abs" : Str)) && glB S ("abs" : Str) && decide (pp = ("pop" : Str)) && (apos.endLine == cpos.line) &&
      !isCompE e5 && !isCompE e7 && visB S 0 s0 &&
      chkE S E1 e1 && chkE S T1 t1 && chkE S E3 e3 && chkE S E4 e4 && chkE S T2 t2 && chkE S E5 e5 && chkE S E6 e6 && chkE S E7 e7 && chkE S E8 e8
  | _ => false
section
variable {X : Cx} {S : Sx} {k : Nat} {K : PySem.W.Frag} {mg : Str → Option Value}
abbrev le0 (K : PySem.W.Frag) (mg : Str → Option Value) (e : Ex) : TE := LE (W0 K mg) C0 WF e
abbrev lt0 (K : PySem.W.Frag) (mg : Str → Option Value) (e : Ex) : TT := LT (W0 K mg) C0 WF e
abbrev put0 (K : PySem.W.Frag) (mg : Str → Option Value) (i : Int) (e : Ex) : TS := tAsg (le0 K mg e) (gSub (tVar 0) (tC (.int i)) rSetL)
def tPop (K : PySem.W.Frag) (mg : Str → Option Value) : TS := tAsg (tCB (fun xs H Q => ∃ i, xs = [.int i] ∧ Q (.int (if i < 0 then -i else i)) H) (tCons (tBM K "list" rPopAt (tOp (rIx K) (tVar 0) (tC (.int 0))) (tCons (tC (.int 0)) tNil)) tNil)) (gName 2)
def tDraw (K : PySem.W.Frag) (mg : Str → Option Value) : TS :=
  tSeq (put0 K mg 2 E1) (tSeq (tWhile (lt0 K mg T1) (tSeq (tPop K mg) (tSeq (put0 K mg 3 E3) (put0 K mg 1 E4))))
    (tSeq (tIfS (lt0 K mg T2) (tSeq (tAsg (le0 K mg E5) (gName 3)) (tSeq (put0 K mg 1 E6) (tRet (tVar 3)))) tNext) (tSeq (tAsg (le0 K mg E7) (gName 4)) (tRet (le0 K mg E8)))))
theorem sws_sub {a b : Expr} {p : Pos} {ee : Expr} {l : Nat} {env : PySem.Env} : swapsWithSole [.Subscript a b p] ee l env = pure false := by cases ee <;> rfl
theorem swp_sub {a b : Expr} {p : Pos} {ee : Expr} {env : PySem.Env} : swappedStores [.Subscript a b p] ee env = pure none := by cases ee <;> rfl
theorem put_ok {i : Int} {e : Ex} {x : Str} {p1 p2 p3 pos : Pos} {kk : Nat} {ee : Expr} (o : XOk (W0 K mg) C0 WF X S k) (h1 : visB S 0 x = true) (h : chkE S e ee = true) :
    PS X (.Assign [.Subscript (.Name x p1) (.Constant (.int i) kk p2) p3] ee pos) (put0 K mg i e) :=
  ps_asg (sndE c0_mono e o h).1 (pg_sub (o.var h1) pe_int set_list) sws_sub swp_sub rfl
theorem swE_no {x : Str} {py : Pos} {ee : Expr} (h : isCompE ee = false) : swE S x py ee = false := by
  cases ee <;> first | rfl | cases h
theorem set0_ok {i : Nat} {e : Ex} {x : Str} {py pos : Pos} {ee : Expr} (o : XOk (W0 K mg) C0 WF X S k) (h1 : storeB S i x = true) (h2 : isCompE ee = false) (h : chkE S e ee = true) : PS X (.Assign [.Name x py] ee pos) (tAsg (le0 K mg e) (gName i)) := by
  obtain ⟨a, b, d⟩ := o.store h1
  exact ps_set o.nd a b (sndE c0_mono e o h).1 (sw_no o (swE_no h2)) d
theorem pop_ok {c1 : Str} {q1 q2 q3 apos cpos q4 pos : Pos} {kk kz : Nat} {s0 : Str} {p0 pz pn : Pos} (o : XOk (W0 K mg) C0 WF X S k) (hK : X.K = K) (h5 : storeB S 2 c1 = true) (h10 : glB S ("abs" : Str) = true) (h12 : (apos.endLine == cpos.line) = true) (h15 : visB S 0 s0 = true) :
    PS X (.Assign [.Name c1 q1] (.Call (.Name "abs" q2) [.Call (.Attribute (.Subscript (.Name s0 pn) (.Constant (.int 0) kz pz) p0) "pop" apos) [.Constant (.int 0) kk q3] [] cpos] [] q4) pos) (tPop K mg) := by
  obtain ⟨a2, b2, d2⟩ := o.store h5
  have hE0 := pe_ix ix_seq (o.var h15 (pos := pn)) (pe_int (i := 0) (j := kz) (pos := pz)) (fun _ _ => rfl) (pos := p0)
  unfold tPop
  rw [← hK]
  have pe1 := pe_bm PySem.F.plainAttrs_list PySem.F.slot_list_pop PySem.F.type_list_pop mt_popAt hE0 (pa_cons (pe_int (i := 0) (j := kk) (pos := q3)) pa_nil) (apos := apos) (cpos := cpos) rfl (few_all rfl (by show 1 < 30; decide)) h12 rfl rfl
  have pe2 := pe_callB (p := q2) (pos := q4) call_abs (o.glo h10).1 (o.nob .abs) rfl (pa_cons pe1 pa_nil)
  rw [hK] at pe2 ⊢
  exact ps_set o.nd a2 b2 pe2 rfl d2
theorem draw_pss {l : List Stmt} (o : XOk (W0 K mg) C0 WF X S k) (hK : X.K = K) (h : drawB S l = true) : PSs X l (tDraw K mg) := by
  unfold drawB at h
  split at h <;> (try (cases h; done))
  simp only [Bool.and_eq_true, decide_eq_true_eq, Bool.not_eq_true'] at h
  obtain ⟨⟨⟨⟨⟨⟨⟨⟨⟨⟨⟨⟨⟨⟨⟨⟨⟨⟨⟨⟨⟨⟨⟨h1, h2⟩, h3⟩, h4⟩, h5⟩, h6⟩, h7⟩, h8⟩, rfl⟩, h10⟩, rfl⟩, h12⟩, h13⟩, h14⟩, h15⟩, h16⟩, h17⟩, h18⟩, h19⟩, h20⟩, h21⟩, h22⟩, h23⟩, h24⟩ := h
  refine pss_cons (put_ok o h1 h16) (pss_cons (ps_while o.po ((sndE c0_mono T1 o h17).2 rfl).1 (pss_cons (pop_ok o hK h5 h10 h12 h15) (pss_cons (put_ok o h2 h18) (pss_one (put_ok o h3 h19))))) ?_)
  exact pss_cons (ps_if ((sndE c0_mono T2 o h20).2 rfl).1 (pss_cons (set0_ok o h6 h13 h21) (pss_cons (put_ok o h4 h22) (pss_one (ps_ret (o.var h7))))) pss_nil) (pss_cons (set0_ok o h8 h14 h23) (pss_one (ps_ret (sndE c0_mono E8 o h24).1)))
end
end Ze

/-! The drawing of digits: what it does. -/
namespace Ze
open PySem PySem.Spec PyProof.Rows L2
section
variable {K : PySem.W.Frag} {mg : Str → Option Value} {ρ : Env} {σ : L2.St} {H : Hp} {p L : Addr}
abbrev NoO : Addr → Prop := fun _ => False
theorem d0_ok : ∀ f vs c (k : Kp) (x : Xp), ans (D0 f vs) (fun v => k v c) (fun e => x e c) → C0 f vs c k x := fun _ _ _ _ _ z => z
theorem e_run {e : Ex} {x : Int} {Q : VK} (r : Rl (W0 K mg) ρ σ H NoO) (hx : xv D0 e ρ = .ok (.int x)) (q : ∀ H', Ext H H' → Q (.int x) H') : le0 K mg e σ H Q := by
  refine ⟨ρ, NoO, 0, r, ⟨trivial, fun _ z => z.elim⟩, xv_ok c0_mono d0_ok e ρ 0 _ _ ?_⟩
  rw [hx]
  intro v H' s _ rv _ _
  cases rv.intI
  exact q H' fun a o h => s a o (fun z => z) h
theorem t_run {e : Ex} {b : Bool} {Q : Bool → Hp → Prop} (r : Rl (W0 K mg) ρ σ H NoO) (hx : xv D0 e ρ = .ok (.bl b)) (q : ∀ H', Ext H H' → Q b H') : lt0 K mg e σ H Q := by
  refine ⟨ρ, NoO, 0, r, ⟨trivial, fun _ z => z.elim⟩, xv_ok c0_mono d0_ok e ρ 0 _ _ ?_⟩
  rw [hx]
  intro H' s _
  exact q H' fun a o h => s a o (fun z => z) h
/-- a slot of an int, or none -/
def IntS (r : Sl) (s : Option V) : Prop := r = .no ∨ ∃ k : Int, r = .va (.int k) ∧ s = some (.int k)
/-- the stream as it stands -/
structure Gs (p L : Addr) (ns : List Int) (pos cnt mix : Int) (H : Hp) : Prop where
  p : H p = some (.lst [.ref L, .int pos, .int cnt, .int mix])
  l : H L = some (.lst (ns.map V.int))
theorem Gs.ext {ns pos cnt mix H'} (g : Gs p L ns pos cnt mix H) (e : Ext H H') : Gs p L ns pos cnt mix H' := ⟨e _ _ g.p, e _ _ g.l⟩
theorem Gs.rl {ns : List Int} {pos cnt mix m : Int} {r2 r3 r4 : Sl} {s2 s3 s4 : Option V} (g : Gs p L ns pos cnt mix H) (h2 : IntS r2 s2) (h3 : IntS r3 s3) (h4 : IntS r4 s4) :
    Rl (W0 K mg) [.va (stP ns pos cnt mix), .va (.int m), r2, r3, r4] [some (.ref p), some (.int m), s2, s3, s4] H NoO where
  len := rfl
  sub := fun _ z => z
  trk := fun _ z => z.elim
  va := fun i v h => by
    have sl : ∀ {r : Sl} {s : Option V}, IntS r s → some r = some (Sl.va v) → ∃ x, some s = some (some x) ∧ Rep (W0 K mg) H NoO v x := fun {r s} hi e => by
      cases e
      rcases hi with e | ⟨k, e, rfl⟩
      · cases e
      · cases e; exact ⟨_, rfl, .int⟩
    match i, h with
    | 0, h =>
      cases h
      exact ⟨_, rfl, .lst g.p (fun z => z) (fun z => nomatch z) (.cons (.lst g.l (fun z => z) (fun z => nomatch z) (ints_rep' ns)) (.cons .int (.cons .int (.cons .int .nil))))⟩
    | 1, h => cases h; exact ⟨_, rfl, .int⟩
    | 2, h => exact sl h2 h
    | 3, h => exact sl h3 h
    | 4, h => exact sl h4 h
  ow := fun i v h => by
    have sl : ∀ {r : Sl} {s : Option V}, IntS r s → some r = some (Sl.ow v) → False := fun {r s} hi e => by
      cases e
      rcases hi with e | ⟨k, e, rfl⟩ <;> cases e
    match i, h with
    | 0, h => cases h
    | 1, h => cases h
    | 2, h => exact (sl h2 h).elim
    | 3, h => exact (sl h3 h).elim
    | 4, h => exact (sl h4 h).elim
  inj := fun i j v u q h => by
    have sl : ∀ {r : Sl} {s : Option V}, IntS r s → some r = some (Sl.ow v) → False := fun {r s} hi e => by
      cases e
      rcases hi with e | ⟨k, e, rfl⟩ <;> cases e
    match i, h with
    | 0, h => cases h
    | 1, h => cases h
    | 2, h => exact (sl h2 h).elim
    | 3, h => exact (sl h3 h).elim
    | 4, h => exact (sl h4 h).elim
theorem put_run {e : Ex} {i x : Int} {j : Nat} {xs : List V} {D : Ends} (r : Rl (W0 K mg) ρ σ H NoO) (h0 : σ[0]? = some (some (.ref p))) (hx : xv D0 e ρ = .ok (.int x)) (hp : H p = some (.lst xs)) (hj : ixN xs.length i = some j)
    (q : ∀ H', Ext H H' → D.nx σ (upd H' p (.lst (xs.set j (.int x))))) : put0 K mg i e D σ H :=
  e_run r hx fun H' e' => ⟨_, h0, ⟨p, xs, i, j, rfl, rfl, e' _ _ hp, hj, q H' e'⟩⟩
/-- all but the stream stays -/
def Kp2 (p L : Addr) (H H' : Hp) : Prop := ∀ a o, a ≠ p → a ≠ L → H a = some o → H' a = some o
theorem Kp2.ext {H1 H2 : Hp} (a : Kp2 p L H H1) (e : Ext H1 H2) : Kp2 p L H H2 := fun x o n1 n2 h => e x o (a x o n1 n2 h)
theorem Kp2.upd1 {H1 : Hp} {o : HO} (a : Kp2 p L H H1) : Kp2 p L H (upd H1 p o) := fun x u n1 n2 h => by rw [upd_ne n1]; exact a x u n1 n2 h
theorem Kp2.upd2 {H1 : Hp} {o : HO} (a : Kp2 p L H H1) : Kp2 p L H (upd H1 L o) := fun x u n1 n2 h => by rw [upd_ne n2]; exact a x u n1 n2 h
theorem draw_run {c : Nat} {m : Int} {Q : VK} (hne : L ≠ p) (hs : strI p L H c) (hc : c + 1 < 2 ^ 40) (hm : 0 < m) (hm2 : m < 2 ^ 62)
    (hQ : ∀ r H', 0 ≤ r → r < m → Kp2 p L H H' → strI p L H' (c + 1) → Q (.int r) H') : tDraw K mg { nx := fun _ H' => Q .non H', rt := Q } [some (.ref p), some (.int m), none, none, none] H := by
  obtain ⟨ns, pos, mix, hp, hL, h1, h2, h3⟩ := hs
  have no : IntS .no none := .inl rfl
  refine put_run (p := p) (ρ := [.va (stP ns pos (c : Nat) mix), .va (.int m), .no, .no, .no]) (Gs.rl ⟨hp, hL⟩ no no no) rfl x_E1 hp (j := 2) (by rfl) fun H1 e1 => ?_
  have g1 : Gs p L ns pos ((c + 1 : Nat) : Int) mix (upd H1 p (.lst ([V.ref L, .int pos, .int (c : Nat), .int mix].set 2 (.int ((c : Nat) + 1))))) := ⟨by rw [upd_same]; rfl, by rw [upd_ne hne]; exact e1 _ _ hL⟩
  have k1 : Kp2 p L H (upd H1 p (.lst ([V.ref L, .int pos, .int (c : Nat), .int mix].set 2 (.int ((c : Nat) + 1))))) := Kp2.upd1 fun x o _ _ h => e1 x o h
  generalize (upd H1 p (.lst ([V.ref L, .int pos, .int (c : Nat), .int mix].set 2 (.int ((c : Nat) + 1))))) = H2 at g1 k1 ⊢
  -- the loop
  refine ⟨fun n σ' H' => ∃ ns pos mix r2 s2, n = ns.length ∧ σ' = [some (.ref p), some (.int m), s2, none, none] ∧ IntS r2 s2 ∧ Gs p L ns pos ((c + 1 : Nat) : Int) mix H' ∧ Kp2 p L H H' ∧ 0 ≤ pos ∧ 0 ≤ mix ∧ mix < 2147483629,
    ⟨ns.length, ns, pos, mix, .no, none, rfl, rfl, no, g1, k1, h1, h2, h3⟩, ?_⟩
  rintro n σ' H' ⟨ns, pos, mix, r2, s2, rfl, rfl, i2, g, k, hpos, hm1, hmx⟩
  refine t_run (g.rl i2 no no) x_T1 fun H3 e3 => ?_
  have g3 := g.ext e3
  have k3 := k.ext e3
  cases hb : (decide (pos = 0) && !ns.isEmpty) with
  | true =>
    rw [if_pos rfl]
    rw [Bool.and_eq_true] at hb
    cases ns with
    | nil => cases hb.2
    | cons y ys =>
      refine ⟨fun σ4 H4 => ∃ n', n' < (y :: ys).length ∧ ∃ ns pos mix r2 s2, n' = ns.length ∧ σ4 = [some (.ref p), some (.int m), s2, none, none] ∧ IntS r2 s2 ∧ Gs p L ns pos ((c + 1 : Nat) : Int) mix H4 ∧ Kp2 p L H H4 ∧ 0 ≤ pos ∧ 0 ≤ mix ∧ mix < 2147483629, fun σ4 H4 z => z, ?_⟩
      -- cell = abs(stream[0].pop(0))
      have hL3 := g3.l
      refine ⟨_, rfl, .inl ⟨p, _, 0, V.ref L, rfl, rfl, .inl (.inl g3.p), rfl, ?_⟩⟩
      refine ⟨.inl ⟨rfl, _, .inl (.inl hL3)⟩, ?_⟩
      have hix : ixN ((y :: ys).map V.int).length 0 = some 0 := by
        unfold ixN
        rw [if_pos (by decide), if_pos (by rw [List.length_map, List.length_cons]; omega)]; rfl
      refine ⟨L, _, 0, 0, V.int y, rfl, rfl, hL3, by decide, by decide, (ixN_seq hix).1, rfl, ?_⟩
      refine ⟨y, rfl, ?_⟩
      generalize hcell : (if y < 0 then -y else y) = cell
      have hc0 : 0 ≤ cell := by rw [← hcell]; split <;> omega
      have g5 : Gs p L ys pos ((c + 1 : Nat) : Int) mix (upd H3 L (.lst (((y :: ys).map V.int).eraseIdx 0))) := ⟨by rw [upd_ne (Ne.symm hne)]; exact g3.p, by rw [upd_same]; rfl⟩
      have k5 : Kp2 p L H (upd H3 L (.lst (((y :: ys).map V.int).eraseIdx 0))) := k3.upd2
      generalize (upd H3 L (.lst (((y :: ys).map V.int).eraseIdx 0))) = H5 at g5 k5 ⊢
      have ic : IntS (.va (.int cell)) (some (.int cell)) := .inr ⟨cell, rfl, rfl⟩
      refine put_run (p := p) (g5.rl (m := m) ic no no) rfl (x_E3 hm1 hmx) g5.p (j := 3) (by rfl) fun H6 e6 => ?_
      have g7 : Gs p L ys pos ((c + 1 : Nat) : Int) ((mix * 7207 + cell + 17) % 2147483629) (upd H6 p (.lst ([V.ref L, .int pos, .int ((c + 1 : Nat) : Int), .int mix].set 3 (.int ((mix * 7207 + cell + 17) % 2147483629))))) := ⟨by rw [upd_same]; rfl, by rw [upd_ne hne]; exact e6 _ _ g5.l⟩
      have k7 : Kp2 p L H (upd H6 p (.lst ([V.ref L, .int pos, .int ((c + 1 : Nat) : Int), .int mix].set 3 (.int ((mix * 7207 + cell + 17) % 2147483629))))) := (k5.ext e6).upd1
      generalize (upd H6 p (.lst ([V.ref L, .int pos, .int ((c + 1 : Nat) : Int), .int mix].set 3 (.int ((mix * 7207 + cell + 17) % 2147483629))))) = H7 at g7 k7 ⊢
      refine put_run (p := p) (g7.rl (m := m) ic no no) rfl x_E4 g7.p (j := 1) (by rfl) fun H8 e8 => ?_
      refine ⟨ys.length, Nat.lt_succ_self _, ys, (if (10 ^ 18 : Int) ≤ cell then cell else 0), ((mix * 7207 + cell + 17) % 2147483629), _, _, rfl, rfl, ic, ⟨by rw [upd_same]; rfl, by rw [upd_ne hne]; exact e8 _ _ g7.l⟩, (k7.ext e8).upd1, ?_, Int.emod_nonneg _ (by decide), Int.emod_lt_of_pos _ (by decide)⟩
      split
      · exact hc0
      · exact Int.le_refl 0
  | false =>
    rw [if_neg Bool.false_ne_true]
    refine t_run (g3.rl i2 no no) x_T2 fun H4 e4 => ?_
    have g4 := g3.ext e4
    have k4 := k3.ext e4
    by_cases hp0 : 0 < pos
    · rw [decide_eq_true hp0, if_pos rfl]
      refine e_run (g4.rl i2 no no) (x_E5 hm) fun H5 e5 => ?_
      have g5 := g4.ext e5
      have k5 := k4.ext e5
      have id : IntS (.va (.int (pos % m))) (some (.int (pos % m))) := .inr ⟨_, rfl, rfl⟩
      refine put_run (p := p) (g5.rl (m := m) i2 id no) rfl (x_E6 hm hm2) g5.p (j := 1) (by rfl) fun H6 e6 => ?_
      refine ⟨_, rfl, hQ _ _ (Int.emod_nonneg _ (by omega)) (Int.emod_lt_of_pos _ hm) (k5.ext e6).upd1 ⟨ns, pos / m, mix, by rw [upd_same]; rfl, by rw [upd_ne hne]; exact e6 _ _ g5.l, Int.ediv_nonneg hpos (by omega), hm1, hmx⟩⟩
    · rw [decide_eq_false hp0, if_neg Bool.false_ne_true]
      refine e_run (g4.rl i2 no no) (x_E7 hm1 hmx hc) fun H5 e5 => ?_
      have g5 := g4.ext e5
      have k5 := k4.ext e5
      generalize hmi : (mix + 8221 * ((c + 1 : Nat) : Int) + 60029) ^ 5 % 2147483587 = mixed
      have b1 : 0 ≤ mixed := by rw [← hmi]; exact Int.emod_nonneg _ (by decide)
      have b2 : mixed < 2147483587 := by rw [← hmi]; exact Int.emod_lt_of_pos _ (by decide)
      have im : IntS (.va (.int mixed)) (some (.int mixed)) := .inr ⟨_, rfl, rfl⟩
      refine e_run (g5.rl i2 no im) (x_E8 hm b1 b2 hc) fun H6 e6 => ?_
      have g6 := g5.ext e6
      exact hQ _ _ (Int.emod_nonneg _ (by omega)) (Int.emod_lt_of_pos _ hm) (k5.ext e6) ⟨ns, pos, mix, g6.p, g6.l, hpos, hm1, hmx⟩
end
end Ze

/-! A law's def: the stream is made, then the rest. -/
namespace Ze
open PySem PySem.Spec PyProof.Rows L2
def PrD : Cl := fun f vs c k _ => f = "_law_draw" ∧ ∃ m : Int, vs = [.strm, .int m] ∧ 0 < m ∧ m < 2 ^ 62 ∧ c + 1 < 2 ^ 40 ∧ ∀ r : Int, 0 ≤ r → r < m → k (.int r) (c + 1)
theorem prD_mono : CMono PrD := fun f vs c k k' x x' hk hx ⟨e, m, h1, h2, h3, h4, h5⟩ => ⟨e, m, h1, h2, h3, h4, fun r a b => hk _ _ (h5 r a b)⟩
/-- what is known of a def of the module, and that it binds -/
structure Dn (K : PySem.W.Frag) (mg : Str → Option Value) (f : Str) (st : Stmt) (N ps : List Str) (a : Addr) (fd : FuncData) : Prop where
  mgf : mg f = some (.ref a)
  fn : FunD K f f (defArgs st) (defBody st) (defScope st) [] [] a fd
  bd : Binds K fd ps []
  sc : FnScope N ps (defScope st)
section
variable {P : Program} {w : World} {K : PySem.W.Frag} {mg : Str → Option Value} {base : Heap} {cm : Com}
theorem xok0 {X : Cx} {N : List Str} {names : List (Str × NameKind)} {k : Nat} (e1 : Env1 P w K mg ⟨[], [], []⟩) (hN : X.N = N) (nd : N.Nodup) (sc : X.env.scope.names = names) (kind : X.env.scope.kind = .function) (fn : ∀ x, X.fn x = true) (calm : X.calm = true)
    (hK : X.K = K) (hM : X.mg = mg) (hP : X.prog = P) (hw : X.w = w) (hr : Room (k + 1) X.A) (po : PassesOwn (model X.prog X.w) X.A X.env X.xe) : XOk (W0 K mg) C0 WF X ⟨N, names, names, [], [], []⟩ k where
  N := hN
  nd := by rw [hN]; exact nd
  sc := sc
  kind := kind
  raw := fun x _ => fn x
  calm := calm
  K := hK
  mg := hM
  room := hr
  T := ⟨fun f n h => by cases h⟩
  tk := fun u s' ⟨a, B, sI, pins, σ, H, cls, d, e, I, nb, up, sky, na, os, ag, w⟩ => w.elim
  po := po
  wok := fun h => absurd rfl h
  nob := by rw [hM]; exact e1.nob
  nob2 := by rw [hM]; exact e1.nob2
  gl := fun p hp => by cases hp
  gd := fun p hp => by cases hp
theorem Env1.less (e1 : Env1 P w K mg cm) : Env1 P w K mg ⟨[], [], []⟩ := ⟨e1.nob, e1.nob2, fun p hp => (by cases hp), fun p hp => (by cases hp)⟩
theorem hand_draw {st : Stmt} {a : Addr} {fd : FuncData} (e1 : Env1 P w K mg cm) (D : Dn K mg "_law_draw" st dN ["stream", "many"] a fd) (hb : drawB ⟨dN, (defScope st).names, (defScope st).names, [], [], []⟩ (defBody st) = true) : HandOk P w K mg base PrD "_law_draw" 2 := by
  refine ⟨a, fd, ["stream", "many"], D.mgf, D.fn.kp, D.bd, rfl, ?_⟩
  refine FunD.ok (k := 7) D.fn D.sc (fun vs H Q E h => ?_) fun cdv A outer s H vs Q E hr h => ?_
  · obtain ⟨W, O, ps, c, wo, h1, h2, sub, trk, r, k, e, m, hv, _⟩ := h
    rw [← r.length, hv]; rfl
  · obtain ⟨W, O, ps, c, wo, h1, h2, sub, trk, r, k, e, m, hv, hm, hm2, hc, hk⟩ := h
    subst hv
    cases r with
    | cons ra rr =>
      cases rr with
      | cons rb rr =>
        cases rr
        cases rb
        cases ra
        obtain ⟨L, hne, hS, hstr⟩ := wo
        refine ⟨_, draw_pss (k := 6) (xok0 e1.less rfl D.sc.nd rfl D.sc.kind (fun _ => rfl) rfl rfl rfl rfl rfl hr (passes_of rfl)) rfl hb, ?_⟩
        refine draw_run hne ((hstr H c).mp k.str) hc hm hm2 fun x H' h0 hx kp st' => ?_
        have k' : Ok W H' (c + 1) := ⟨(hstr H' (c + 1)).mpr st', fun b hb z => by
          by_cases e1 : b = W.sA
          · subst e1; obtain ⟨_, _, _, q, _⟩ := st'; rw [q] at z; cases z
          · by_cases e2 : b = L
            · subst e2; obtain ⟨_, _, _, _, q, _⟩ := st'; rw [q] at z; cases z
            · cases e3 : H b with
              | none => exact k.era b hb e3
              | some o => rw [kp b o e1 e2 e3] at z; cases z⟩
        refine hk x h0 hx _ H' (fun b o nb hbo => ?_) k' .int
        exact kp b o (fun z => nb ((hS b).mpr (.inl z))) (fun z => nb ((hS b).mpr (.inr z))) hbo
/-! ### the stream is made -/
def strB (S : Sx) (l : List Stmt) : Bool := match l with
  | [.Return (some (.List [.Call (.Name f _) [.Name x _] [] _, .Constant (.int 0) _ _, .Constant (.int 0) _ _, .Constant (.int 41) _ _] _)) _] => decide (f = ("list" : Str)) && glB S ("list" : Str) && visB S 0 x
  | _ => false
def spStr (K : PySem.W.Frag) : Sp := fun vs H Q _ => ∃ (a : Addr) (ns : List Int), vs = [.ref a] ∧ SqL K H a (ns.map V.int) ∧
  ∀ p L H', Ext H H' → H p = none → H L = none → L ≠ p → H' p = some (.lst [.ref L, .int 0, .int 0, .int 41]) → H' L = some (.lst (ns.map V.int)) → Q (.ref p) H'
theorem ok_stream {st : Stmt} {a : Addr} {fd : FuncData} {N : List Str} (e1 : Env1 P w K mg cm) (D : Dn K mg "_law_stream" st N ["script"] a fd) (hb : strB ⟨N, (defScope st).names, (defScope st).names, [], [], []⟩ (defBody st) = true) : FnOk P w K mg base (CX P w) 8 a fd ["script"] (spStr K) := by
  refine FunD.ok (k := 7) D.fn D.sc (fun vs H Q E h => ?_) fun cdv A outer s H vs Q E hr h => ?_
  · obtain ⟨b, ns, rfl, _⟩ := h; rfl
  · obtain ⟨b, ns, rfl, hs, hq⟩ := h
    have o := xok0 (X := cxOf (CX P w) P w K mg base N "_law_stream" (defScope st) a cdv A outer s H E) (k := 6) e1.less rfl D.sc.nd rfl D.sc.kind (fun _ => rfl) rfl rfl rfl rfl rfl hr (passes_of rfl)
    unfold strB at hb
    split at hb <;> (try (cases hb; done))
    rename_i hbody
    simp only [Bool.and_eq_true, decide_eq_true_eq] at hb
    obtain ⟨⟨rfl, h2⟩, h3⟩ := hb
    rw [hbody]
    refine ⟨_, pss_one (ps_ret (pe_lst (pa_cons (pe_callTy call_list_of (o.glo h2).1 (o.nob .list) rfl (pa_cons (o.var h3) pa_nil)) (pa_cons pe_int (pa_cons pe_int (pa_cons pe_int pa_nil)))))), ?_⟩
    have s0 : (L2.start N [V.ref b])[0]? = some (some (V.ref b)) := start_get rfl
    refine ⟨_, s0, b, _, rfl, .inl hs, fun L hL => ?_⟩
    refine ⟨by show 4 ≤ sizeLine; decide, fun p hp => ?_⟩
    have ne : L ≠ p := fun z => by rw [← z, upd_same] at hp; cases hp
    refine hq p L _ (fun c o hc => ?_) ?_ hL ne upd_same (by rw [upd_ne ne]; exact upd_same)
    · have n1 : c ≠ L := fun z => by rw [z, hL] at hc; cases hc
      have n2 : c ≠ p := fun z => by rw [upd_ne (Ne.symm ne)] at hp; rw [z, hp] at hc; cases hc
      rw [upd_ne n2, upd_ne n1]; exact hc
    · rw [upd_ne (Ne.symm ne)] at hp; exact hp
/-! ### the law itself -/
/-- the world behind the stream -/
def WS (K : PySem.W.Frag) (mg : Str → Option Value) (p L : Addr) : Wd where
  K := K
  mg := mg
  S := fun a => a = p ∨ a = L
  sA := p
  B := fun _ => False
  str := strI p L
  st := fun {H H' c} ⟨ns, pos, mix, a, b, r⟩ h => ⟨ns, pos, mix, by rw [h p (.inl rfl)]; exact a, by rw [h L (.inr rfl)]; exact b, r⟩
  tr := fun {H c a} ⟨ns, pos, mix, x, y, r⟩ h z => by
    rcases h with rfl | rfl
    · rw [x] at z; cases z
    · rw [y] at z; cases z
  nf := fun {H c a kvs o} ⟨ns, pos, mix, x, y, r⟩ h => by
    rcases h with rfl | rfl
    · rw [x]; exact ⟨fun z => (by cases z), fun z => (by cases z)⟩
    · rw [y]; exact ⟨fun z => (by cases z), fun z => (by cases z)⟩
theorem ws_ok {K : PySem.W.Frag} {mg : Str → Option Value} {p L : Addr} (h : L ≠ p) : WOk (WS K mg p L) := ⟨L, h, fun a => Iff.rfl, fun H c => Iff.rfl⟩
def lawEnv (n : Nat) : Env := .no :: .va .strm :: List.replicate (n - 2) .no
def lawTail (l : List Stmt) : List Stmt := l.tail
def lawHead (S : Sx) (l : List Stmt) : Bool := match l with
  | .Assign [.Name s1 _] (.Call (.Name f _) [.Name x _] [] _) _ :: _ => decide (f = ("_law_stream" : Str)) && glB S ("_law_stream" : Str) && storeB S 1 s1 && visB S 0 x
  | _ => false
def spLaw (K : PySem.W.Frag) : Sp := fun vs H Q _ => ∃ (a : Addr) (ns : List Int), vs = [.ref a] ∧ SqL K H a (ns.map V.int) ∧ ∀ H', Q (.bl true) H'
theorem pss_ex {ι : Type} {X : Cx} {l : List Stmt} {t : ι → TS} {G : ι → Prop} (h : ∀ i, G i → PSs X l (t i)) : PSs X l (fun D σ H => ∃ i, G i ∧ t i D σ H) := ⟨fun pins s σ H D I ⟨i, g, q⟩ => (h i g).run pins s σ H D I q⟩
theorem law_ok {n m : Nat} {F : Str → Option Df} {st : Stmt} {a aS : Addr} {fd fdS : FuncData} {N NS : List Str} {stS : Stmt} {body : Sm2} (e1 : Env1 P w K mg cm) (T : Tab P w K mg base (2 * m + 8) (callN PrD F n m) cm.dom) (DS : Dn K mg "_law_stream" stS NS ["script"] aS fdS)
    (hS : strB ⟨NS, (defScope stS).names, (defScope stS).names, [], [], []⟩ (defBody stS) = true) (D : Dn K mg "law" st N ["script"] a fd) (hN : 2 ≤ N.length) (h1 : lawHead (cm.sx N (defScope st).names) (defBody st) = true) (h2 : chkSs (cm.sx N (defScope st).names) body (lawTail (defBody st)) = true)
    (sem : evSs (callN PrD F n m) n body (lawEnv N.length) 0 (endOf fun v _ => v = .bl true) (fun _ _ => False)) : FnOk P w K mg base CX0 (2 * m + 10) a fd ["script"] (spLaw K) := by
  refine FunD.ok (k := 2 * m + 8 + 1) D.fn D.sc (fun vs H Q E h => ?_) fun cdv A outer s H vs Q E hr h => ?_
  · obtain ⟨b, ns, rfl, _⟩ := h; rfl
  · obtain ⟨b, ns, rfl, hs, hq⟩ := h
    have hC := callN_mono (F := F) (n := n) prD_mono m
    have xo : ∀ W : Wd, WOk W → W.K = K → W.mg = mg → XOk W (callN PrD F n m) WF (cxOf CX0 P w K mg base N "law" (defScope st) a cdv A outer s H E).nox (cm.sx N (defScope st).names) (2 * m + 8) := fun W wo w1 w2 => {
      N := rfl
      nd := D.sc.nd
      sc := rfl
      kind := D.sc.kind
      raw := fun _ _ => rfl
      calm := rfl
      K := w1.symm
      mg := w2.symm
      room := hr
      T := T
      tk := fun u s' ⟨a, B, sI, pins, σ, H, cls, d, e, I, nb, up, sky, na, os, ag, w⟩ => w.elim
      po := PassesOwn.never
      wok := fun _ => wo
      nob := e1.nob
      nob2 := e1.nob2
      gl := fun p hp => let ⟨u, y, a, b, c⟩ := e1.gl p hp; ⟨u, y, a, b, c W w1⟩
      gd := e1.gd }
    unfold lawHead at h1
    split at h1 <;> (try (cases h1; done))
    rename_i hbody
    simp only [Bool.and_eq_true, decide_eq_true_eq] at h1
    obtain ⟨⟨⟨rfl, g1⟩, g2⟩, g3⟩ := h1
    rw [hbody] at h2 ⊢
    have o := xo (WS K mg 0 1) (ws_ok (by decide)) rfl rfl
    obtain ⟨a2, b2, d2⟩ := o.store g2
    have F1 := ok_stream (base := base) e1 DS hS
    have p2 := pss_ex (ι := Wd) (G := fun W => WOk W ∧ W.K = K ∧ W.mg = mg) (t := fun W => LSs W (callN PrD F n m) n WF body) fun W g => sndSs hC body (xo W g.1 g.2.1 g.2.2) h2
    refine ⟨_, PSs.nox (pss_cons (ps_set o.nd a2 b2 (pe_callS (E := fun _ => E0) (F1.mono (by omega : 8 ≤ 2 * m + 8)) o.rk (o.glo g1).1 DS.mgf DS.fn.kp DS.bd (fun σ => passAt (W := WF) o.tk σ) (pa_cons (o.var g3) pa_nil) (o.glo g1).2 rfl rfl) rfl d2) p2), ?_⟩
    have s0 : (L2.start N [V.ref b])[0]? = some (some (V.ref b)) := start_get rfl
    refine ⟨_, s0, b, ns, rfl, hs, fun p L H' ex hp hL ne e2 e3 => ?_⟩
    have hlen : (L2.start N [V.ref b]).length = N.length := by
      unfold L2.start; rw [List.length_append, List.length_map, List.length_replicate]; show 1 + (N.length - 1) = _; omega
    refine ⟨WS K mg p L, ⟨ws_ok ne, rfl, rfl⟩, H', fun a => a = p ∨ a = L, lawEnv N.length, fun a => a = p ∨ a = L, 0, ?_, ⟨⟨ns, 0, 41, e2, e3, by decide, by decide, by decide⟩, fun _ z => z.elim⟩, ?_⟩
    · have trk : ∀ c, (c = p ∨ c = L) → H' c ≠ none := fun c hc z => by
        rcases hc with rfl | rfl
        · rw [e2] at z; cases z
        · rw [e3] at z; cases z
      have noW : ∀ (i : Nat) (v : PV), (lawEnv N.length)[i]? = some (.ow v) → False := fun i v h => by
        match i, h with
        | 0, h => cases h
        | 1, h => cases h
        | i + 2, h =>
          have h' : (List.replicate (N.length - 2) Sl.no)[i]? = some (.ow v) := h
          rw [List.getElem?_replicate] at h'
          split at h' <;> cases h'
      refine ⟨⟨?_, fun _ z => z, trk, fun i v h => ?_, fun i v h => (noW i v h).elim, fun i j v u q h => (noW i v h).elim⟩, fun _ z => z, trk, .refl, fun i v q h => (noW i v h).elim⟩
      · rw [List.length_set, hlen]
        show N.length = (List.replicate (N.length - 2) Sl.no).length + 1 + 1
        rw [List.length_replicate]; omega
      · match i, h with
        | 0, h => cases h
        | 1, h =>
          cases h
          exact ⟨_, List.getElem?_set_self (by rw [hlen]; omega), .strm⟩
        | i + 2, h =>
          have h' : (List.replicate (N.length - 2) Sl.no)[i]? = some (.va v) := h
          rw [List.getElem?_replicate] at h'
          split at h' <;> cases h'
    · refine evSs_mono hC body _ 0 (?_ : EnLe _ (EnD _ _ _ _ _ _)) (fun _ _ z => z.elim) sem
      refine ⟨fun ρ' c' q => (nomatch q), fun v c' q u H2 k2 s2 r2 => ?_, fun _ _ q => False.elim q, fun _ _ q => False.elim q⟩
      have q' : v = .bl true := q
      subst q'
      cases r2
      exact hq H2
end
end Ze

/-! The head: facts of the module. -/
namespace Ze
open PySem PySem.Spec PyProof.Rows L2
def entInt (e : DictEntry) : Option Int := match e.val with
  | .int i _ => some i
  | _ => none
/-- the values of a dict of the module -/
def valD (K : PySem.W.Frag) (x : Str) (is : List Int) : Bool := match K.lookup (He.ga K x) with
  | some ⟨_, _, .dict es _, _⟩ => decide (es.toList.map entInt = is.map some)
  | _ => false
theorem dict_go {P : Program} {w : World} : ∀ {l : List DictEntry} {ks : List Str} {is : List Int}, l.map He.keyOf = He.keysIn w.params ks → l.map entInt = is.map some →
    (∀ e ∈ l, ∃ k, (mixKind P w).is k e.key = true ∧ e.hash = (mixKind P w).hash k) ∧ ∃ rs, Pairs (mixKind P w) l rs ∧ KV ((ks.map (Sum.inr : Str → Key)).zip (is.map V.int)) rs ∧ rs.map (·.1) = ks.map Sum.inr ∧ ks.length = is.length
  | [], [], [], _, _ => ⟨fun e h => (by cases h), [], .nil, .nil, rfl, rfl⟩
  | [], _ :: _, _, h, _ => by cases h
  | [], [], _ :: _, _, h => by cases h
  | e :: l, [], _, h, _ => by cases h
  | e :: l, _ :: _, [], _, h => by cases h
  | e :: l, k :: ks, i :: is, h1, h2 => by
    have a : He.keyOf e :: l.map He.keyOf = some (k, PyData.keyHash w.params k) :: He.keysIn w.params ks := h1
    have b : entInt e :: l.map entInt = some i :: is.map some := h2
    injection a with a1 a2
    injection b with b1 b2
    obtain ⟨c1, rs, c2, c3, c4, c5⟩ := dict_go (P := P) (w := w) a2 b2
    have hk : ∃ t, e.key = .str k t ∧ e.hash = PyData.keyHash w.params k := by
      unfold He.keyOf at a1
      split at a1
      · rename_i x t q
        have z := Option.some.inj a1
        obtain ⟨z1, z2⟩ := Prod.mk.inj z
        exact ⟨t, by rw [q, z1], z2⟩
      · cases a1
    have hv : ∃ t, e.val = .int i t := by
      unfold entInt at b1
      split at b1
      · rename_i j t q
        cases b1
        exact ⟨t, q⟩
      · cases b1
    obtain ⟨t, k1, k2⟩ := hk
    obtain ⟨u, v1⟩ := hv
    have is1 : (mixKind P w).is (.inr k) e.key = true := by rw [k1]; show keyIs (.inr k) (.str k t) = true; simp [keyIs, Value.isStrOf]
    refine ⟨fun e' he' => ?_, (.inr k, e.val) :: rs, .cons is1 rfl c2, .cons ⟨rfl, by rw [v1]; exact ⟨u, rfl⟩⟩ c3, by rw [List.map_cons, c4]; rfl, congrArg (· + 1) c5⟩
    rcases List.mem_cons.mp he' with rfl | he'
    · exact ⟨.inr k, is1, k2⟩
    · exact c1 e' he'
theorem gd_ok {P : Program} {w : World} {K : PySem.W.Frag} {x : Str} {ks : List Str} {is : List Int} (h1 : He.dicW K (He.ga K x) = some (He.keysIn w.params ks)) (h2 : valD K x is = true) (nd : ks.Nodup) :
    ((He.ga K x) == sysModules) = false ∧ ks.length = is.length ∧ ∀ h, K.In h → ∃ rs, h.DictOf (mixKind P w) (He.ga K x) rs ∧ KV ((ks.map (Sum.inr : Str → Key)).zip (is.map V.int)) rs := by
  unfold He.dicW at h1
  unfold valD at h2
  split at h1
  · rename_i c es n sl q
    rw [q] at h2
    split at h1
    · rename_i hc
      simp only [Bool.and_eq_true, decide_eq_true_eq, Bool.not_eq_true'] at hc
      obtain ⟨rfl, hs, hm⟩ := hc
      obtain ⟨c1, rs, c2, c3, c4, c5⟩ := dict_go (P := P) (w := w) (Option.some.inj h1) (of_decide_eq_true h2)
      refine ⟨hm, c5, fun h hK => ⟨rs, ⟨_, es, n, hK _ _ q, ⟨rfl, rfl, ?_⟩, rfl, fun e he => c1 e (Array.mem_def.mp he), c2, ?_⟩, c3⟩⟩
      · exact Array.isEmpty_iff.mp hs
      · rw [c4]; exact nodup_inr nd
    · cases h1
  · cases h1
def ListAll {α : Type} (p : α → Prop) : List α → Prop
  | [] => True
  | x :: xs => p x ∧ ListAll p xs
theorem listAll_mem {α : Type} {p : α → Prop} : ∀ {l : List α}, ListAll p l → ∀ x ∈ l, p x
  | [], _, _, h => by cases h
  | y :: ys, h, x, hx => by
    rcases List.mem_cons.mp hx with e | hx
    · rw [e]; exact h.1
    · exact listAll_mem h.2 x hx
theorem lookup_nodup {β : Type} : ∀ {l : List (Str × β)} {e : Str × β}, (l.map (·.1)).Nodup → e ∈ l → l.lookup e.1 = some e.2
  | [], _, _, h => by cases h
  | p :: l, e, nd, h => by
    have nd' := List.nodup_cons.mp nd
    rw [List.lookup_cons]
    rcases List.mem_cons.mp h with rfl | h
    · simp
    · have ne : (e.1 == p.1) = false := beq_eq_false_iff_ne.mpr fun z => nd'.1 (List.mem_map.mpr ⟨e, h, z⟩)
      rw [ne]
      exact lookup_nodup nd'.2 h
theorem tab_at {fa : List He.Fa} {fn : List He.DefD} {ts : List He.Tab} {w : World} {K : PySem.W.Frag} (c : He.SaysT fa fn ts w K) (i : Nat) {t : He.Tab} (h : ts[i]? = some t) : He.dicW K (t.1 K) = some (He.keysIn w.params t.2) := by
  have e : ts.map (fun t => He.dicW K (t.1 K)) = ts.map fun t => some (He.keysIn w.params t.2) := congrArg (fun z : He.AlT => z.2) c
  have e2 : (ts.map fun t => He.dicW K (t.1 K))[i]? = (ts.map fun t => some (He.keysIn w.params t.2))[i]? := by rw [e]
  rw [List.getElem?_map, List.getElem?_map, h] at e2
  exact Option.some.inj e2
theorem callN_prim {Pr : Cl} {F : Str → Option Df} {n m : Nat} {f : Str} {vs : List PV} {c : Nat} {k : Kp} {x : Xp} (hF : F f = none) (h : Pr f vs c k x) : callN Pr F n (m + 1) f vs c k x := by
  unfold callN; rw [hF]; exact h
def isT (r : Rs PV) : Bool := match r with
  | .ok (.bl true) => true
  | _ => false
theorem isT_ok {r : Rs PV} (h : isT r = true) : r = .ok (.bl true) := by
  unfold isT at h
  split at h
  · rfl
  · cases h
def scB (N P : List Str) (sc : Scope) : Bool :=
  (match sc.kind with | .function => true | _ => false) && !sc.isCoroutine && !sc.isGenerator && decide N.Nodup && decide (N.take P.length = P) && P.all (fun x => decide (sc.names.lookup x = some .local) || decide (sc.names.lookup x = some .cell)) && sc.names.all (fun y => decide (y.2 ≠ .free))
theorem scB_ok {N P : List Str} {sc : Scope} (h : scB N P sc = true) : FnScope N P sc := by
  unfold scB at h
  simp only [Bool.and_eq_true, Bool.not_eq_true', decide_eq_true_eq, List.all_eq_true, Bool.or_eq_true] at h
  obtain ⟨⟨⟨⟨⟨⟨a, b⟩, c⟩, d⟩, e⟩, f⟩, g⟩ := h
  refine ⟨?_, b, c, d, e, f, g⟩
  split at a
  · assumption
  · cases a
end Ze

set_option maxHeartbeats 0
namespace KK
open PySem PySem.Spec PyProof.Rows Ze L2
def top (i : Nat) : Stmt := PySem.Challenge.pw_seentogether_k29_whole_examples_of_the_f.main.body.getD i (.Pass ⟨0, 0, 0, 0⟩)
def d_is_list : Df := ⟨["thing"], ["thing"],
  (.cons (.ret (.bi .isinst (.cons (.var 0) (.cons (.tup (.cons (.ty "list" "list") (.cons (.ty "tuple" "tuple") .nil))) .nil)))) .nil)⟩
def d_is_whole : Df := ⟨["thing"], ["thing"],
  (.cons (.ret (.and (.bi .isinst (.cons (.var 0) (.cons (.ty "int" "int") .nil))) (.not (.bi .isinst (.cons (.var 0) (.cons (.ty "bool" "bool") .nil)))))) .nil)⟩
def d_is_row : Df := ⟨["thing", "many"], ["thing", "many"],
  (.cons (.ret (.and (.call "is_list" (.cons (.var 0) .nil)) (.cmp .eq (.bi .len (.cons (.var 0) .nil)) (.var 1)))) .nil)⟩
def d_is_name : Df := ⟨["thing"], ["thing", "sign"],
  (.cons (.ret (.and (.bi .isinst (.cons (.var 0) (.cons (.ty "str" "str") .nil))) (.and (.chain .le .le (.int 1) (.bi .len (.cons (.var 0) .nil)) (.glo "LONGEST" (.int 8))) (.bi .all (.cons (.comp [1] (.seq (.var 0)) (.nm 1) .nil (.cmp .mem (.var 1) (.glo "SIGNS" (.str "abcdefghijklmnopqrstuvwxyz")))) .nil))))) .nil)⟩
def d_is_among : Df := ⟨["words", "thing"], ["words", "thing"],
  (.cons (.ret (.and (.bi .isinst (.cons (.var 1) (.cons (.ty "str" "str") .nil))) (.cmp .mem (.var 1) (.var 0)))) .nil)⟩
def d_has_form : Df := ⟨["thing", "sizes"], ["thing", "sizes"],
  (.cons (.ret (.and (.call "is_list" (.cons (.var 0) .nil)) (.and (.cmp .gt (.bi .len (.cons (.var 0) .nil)) (.int 0)) (.and (.call "is_among" (.cons (.var 1) (.cons (.idx (.var 0) (.int 0)) .nil))) (.cmp .eq (.bi .len (.cons (.var 0) .nil)) (.idx (.var 1) (.idx (.var 0) (.int 0)))))))) .nil)⟩
def d_is_ascending : Df := ⟨["things"], ["things", "one", "other"],
  (.cons (.ret (.bi .all (.cons (.comp [1, 2] (.zip (.cons (.var 0) (.cons (.slc (.var 0) (.cons (.int 1) .nil) .nil) .nil))) (.tp (.cons (.nm 1) (.cons (.nm 2) .nil))) .nil (.cmp .lt (.var 1) (.var 2))) .nil))) .nil)⟩
def d_is_within : Df := ⟨["lot", "other"], ["lot", "other", "name"],
  (.cons (.ret (.bi .all (.cons (.comp [2] (.seq (.var 0)) (.nm 2) .nil (.cmp .mem (.var 2) (.var 1))) .nil))) .nil)⟩
def d_lots_of : Df := ⟨["names"], ["names", "found", "name", "lot"],
  (.cons (.set 1 (.lst (.cons (.lst .nil) .nil))) (.cons (.for_ (.seq (.rev (.var 0))) (.nm 2) (.cons (.set 1 (.lst (.cons (.lst .nil) (.star (.comp [3] (.seq (.var 1)) (.nm 3) .nil (.lst (.cons (.var 2) (.star (.var 3) .nil)))) (.star (.slc (.var 1) (.cons (.int 1) .nil) .nil) .nil))))) .nil)) (.cons (.ret (.var 1)) .nil)))⟩
def d_first_of : Df := ⟨["things"], ["things"],
  (.cons (.ret (.ife (.cmp .ne (.var 0) (.lst .nil)) (.idx (.var 0) (.int 0)) .non)) .nil)⟩
def d_common : Df := ⟨["one", "other"], ["one", "other"],
  (.cons (.par 0 1 (.bi .abs (.cons (.var 0) .nil)) (.bi .abs (.cons (.var 1) .nil))) (.cons (.whl (.cmp .ne (.var 1) (.int 0)) (.cons (.par 0 1 (.var 1) (.op .mod (.var 0) (.var 1))) .nil)) (.cons (.ret (.var 0)) .nil)))⟩
def d_fraction : Df := ⟨["top", "bottom"], ["top", "bottom", "by"],
  (.cons (.set 2 (.call "common" (.cons (.var 0) (.cons (.var 1) .nil)))) (.cons (.ret (.tup (.cons (.op .fdiv (.var 0) (.var 2)) (.cons (.op .fdiv (.var 1) (.var 2)) .nil)))) .nil))⟩
def d_plus : Df := ⟨["one", "other"], ["one", "other"],
  (.cons (.ret (.call "fraction" (.cons (.op .add (.op .mul (.idx (.var 0) (.int 0)) (.idx (.var 1) (.int 1))) (.op .mul (.idx (.var 1) (.int 0)) (.idx (.var 0) (.int 1)))) (.cons (.op .mul (.idx (.var 0) (.int 1)) (.idx (.var 1) (.int 1))) .nil)))) .nil)⟩
def d_minus : Df := ⟨["one", "other"], ["one", "other"],
  (.cons (.ret (.call "fraction" (.cons (.op .sub (.op .mul (.idx (.var 0) (.int 0)) (.idx (.var 1) (.int 1))) (.op .mul (.idx (.var 1) (.int 0)) (.idx (.var 0) (.int 1)))) (.cons (.op .mul (.idx (.var 0) (.int 1)) (.idx (.var 1) (.int 1))) .nil)))) .nil)⟩
def d_times : Df := ⟨["one", "other"], ["one", "other"],
  (.cons (.ret (.call "fraction" (.cons (.op .mul (.idx (.var 0) (.int 0)) (.idx (.var 1) (.int 0))) (.cons (.op .mul (.idx (.var 0) (.int 1)) (.idx (.var 1) (.int 1))) .nil)))) .nil)⟩
def d_by : Df := ⟨["one", "other"], ["one", "other"],
  (.cons (.ite (.cmp .lt (.idx (.var 1) (.int 0)) (.int 0)) (.cons (.ret (.call "fraction" (.cons (.op .mul (.neg (.idx (.var 0) (.int 0))) (.idx (.var 1) (.int 1))) (.cons (.op .mul (.neg (.idx (.var 0) (.int 1))) (.idx (.var 1) (.int 0))) .nil)))) .nil) .nil) (.cons (.ret (.call "fraction" (.cons (.op .mul (.idx (.var 0) (.int 0)) (.idx (.var 1) (.int 1))) (.cons (.op .mul (.idx (.var 0) (.int 1)) (.idx (.var 1) (.int 0))) .nil)))) .nil))⟩
def d_total : Df := ⟨["fractions"], ["fractions", "found", "one"],
  (.cons (.set 1 (.glo "NOUGHT" (.tup [(.int 0), (.int 1)]))) (.cons (.for_ (.seq (.var 0)) (.nm 2) (.cons (.set 1 (.call "plus" (.cons (.var 1) (.cons (.var 2) .nil)))) .nil)) (.cons (.ret (.var 1)) .nil)))⟩
def d_is_less : Df := ⟨["one", "other"], ["one", "other"],
  (.cons (.ret (.cmp .lt (.op .mul (.idx (.var 0) (.int 0)) (.idx (.var 1) (.int 1))) (.op .mul (.idx (.var 1) (.int 0)) (.idx (.var 0) (.int 1))))) .nil)⟩
def d_is_fraction : Df := ⟨["thing"], ["thing"],
  (.cons (.ite (.or (.not (.call "is_row" (.cons (.var 0) (.cons (.int 2) .nil)))) (.or (.not (.call "is_whole" (.cons (.idx (.var 0) (.int 0)) .nil))) (.or (.not (.call "is_whole" (.cons (.idx (.var 0) (.int 1)) .nil))) (.cmp .lt (.idx (.var 0) (.int 1)) (.int 1))))) (.cons (.ret (.bl false)) .nil) .nil) (.cons (.ret (.cmp .eq (.call "common" (.cons (.idx (.var 0) (.int 0)) (.cons (.idx (.var 0) (.int 1)) .nil))) (.int 1))) .nil))⟩
def d_plain : Df := ⟨["fractions"], ["fractions", "one"],
  (.cons (.ret (.comp [1] (.seq (.var 0)) (.nm 1) .nil (.tup (.cons (.idx (.var 1) (.int 0)) (.cons (.idx (.var 1) (.int 1)) .nil))))) .nil)⟩
def d_is_scale : Df := ⟨["thing"], ["thing", "value"],
  (.cons (.ite (.or (.not (.call "is_list" (.cons (.var 0) .nil))) (.or (.cmp .lt (.bi .len (.cons (.var 0) .nil)) (.int 2)) (.not (.bi .all (.cons (.comp [1] (.seq (.var 0)) (.nm 1) .nil (.call "is_whole" (.cons (.var 1) .nil))) .nil))))) (.cons (.ret (.bl false)) .nil) .nil) (.cons (.ret (.call "is_ascending" (.cons (.var 0) .nil))) .nil))⟩
def d_units_fault : Df := ⟨["thing"], ["thing", "key"],
  (.cons (.ite (.or (.not (.bi .isinst (.cons (.var 0) (.cons (.ty "dict" "dict") .nil)))) (.cmp .eq (.bi .len (.cons (.var 0) .nil)) (.int 0))) (.cons (.ret (.tup (.cons (.str "form") .nil))) .nil) .nil) (.cons (.forK 0 (.nm 1) (.cons (.ite (.not (.call "is_name" (.cons (.var 1) .nil))) (.cons (.ret (.tup (.cons (.str "name") (.cons (.var 1) .nil)))) .nil) .nil) .nil)) (.cons (.forK 0 (.nm 1) (.cons (.ite (.not (.call "is_scale" (.cons (.idx (.var 0) (.var 1)) .nil))) (.cons (.ret (.tup (.cons (.str "scale") (.cons (.var 1) .nil)))) .nil) .nil) .nil)) (.cons (.ret .non) .nil))))⟩
def d_check_units : Df := ⟨["units"], ["units", "fault", "name"],
  (.cons (.set 1 (.call "units_fault" (.cons (.var 0) .nil))) (.cons (.ite (.cmp .isN (.var 1) .non) (.cons .nev .nil) .nil) (.cons (.ret (.dcomp [2] (.seq (.bi .sorted (.cons (.var 0) .nil))) (.nm 2) .nil (.var 2) (.bi .list (.cons (.idx (.var 0) (.var 2)) .nil)))) .nil)))⟩
def d_names_of : Df := ⟨["units"], ["units"],
  (.cons (.ret (.bi .list (.cons (.var 0) .nil))) .nil)⟩
def d_is_lot : Df := ⟨["units", "thing"], ["units", "thing", "name"],
  (.cons (.ite (.or (.not (.call "is_list" (.cons (.var 1) .nil))) (.not (.bi .all (.cons (.comp [2] (.seq (.var 1)) (.nm 2) .nil (.and (.bi .isinst (.cons (.var 2) (.cons (.ty "str" "str") .nil))) (.cmp .mem (.var 2) (.var 0)))) .nil)))) (.cons (.ret (.bl false)) .nil) .nil) (.cons (.ret (.call "is_ascending" (.cons (.var 1) .nil))) .nil))⟩
def d_check_lot : Df := ⟨["units", "lot"], ["units", "lot"],
  (.cons (.ite (.not (.call "is_lot" (.cons (.var 0) (.cons (.var 1) .nil)))) (.cons .nev .nil) .nil) (.cons (.ret (.bi .list (.cons (.var 1) .nil))) .nil))⟩
def d_rows_by : Df := ⟨["units", "lot"], ["units", "lot", "found", "name", "longer", "row", "value"],
  (.cons (.set 2 (.lst (.cons (.lst .nil) .nil))) (.cons (.for_ (.seq (.var 1)) (.nm 3) (.cons (.own 4 (.lst .nil)) (.cons (.for_ (.seq (.var 2)) (.nm 5) (.cons (.ext 4 (.comp [6] (.seq (.idx (.var 0) (.var 3))) (.nm 6) .nil (.lst (.star (.var 5) (.cons (.var 6) .nil))))) .nil)) (.cons (.frz 4) (.cons (.set 2 (.var 4)) .nil))))) (.cons (.ret (.var 2)) .nil)))⟩
def d_as_view : Df := ⟨["lot", "row"], ["lot", "row", "name", "value"],
  (.cons (.ret (.dcomp [2, 3] (.zip (.cons (.var 0) (.cons (.var 1) .nil))) (.tp (.cons (.nm 2) (.cons (.nm 3) .nil))) .nil (.var 2) (.var 3))) .nil)⟩
def d_views_by : Df := ⟨["units", "lot"], ["units", "lot", "row"],
  (.cons (.ret (.comp [2] (.seq (.call "rows_by" (.cons (.var 0) (.cons (.var 1) .nil)))) (.nm 2) .nil (.call "as_view" (.cons (.var 1) (.cons (.var 2) .nil))))) .nil)⟩
def d_fillings_by : Df := ⟨["units"], ["units"],
  (.cons (.ret (.call "views_by" (.cons (.var 0) (.cons (.call "names_of" (.cons (.var 0) .nil)) .nil)))) .nil)⟩
def d_fillings_of : Df := ⟨["units"], ["units"],
  (.cons (.ret (.call "fillings_by" (.cons (.call "check_units" (.cons (.var 0) .nil)) .nil))) .nil)⟩
def d_is_view : Df := ⟨["units", "lot", "thing"], ["units", "lot", "thing", "name"],
  (.cons (.ite (.or (.not (.bi .isinst (.cons (.var 2) (.cons (.ty "dict" "dict") .nil)))) (.cmp .ne (.bi .len (.cons (.var 2) .nil)) (.bi .len (.cons (.var 1) .nil)))) (.cons (.ret (.bl false)) .nil) .nil) (.cons (.ret (.bi .all (.cons (.comp [3] (.seq (.var 1)) (.nm 3) .nil (.and (.cmp .mem (.var 3) (.var 2)) (.and (.call "is_whole" (.cons (.idx (.var 2) (.var 3)) .nil)) (.cmp .mem (.idx (.var 2) (.var 3)) (.idx (.var 0) (.var 3)))))) .nil))) .nil))⟩
def d_check_view : Df := ⟨["units", "lot", "view"], ["units", "lot", "view", "name"],
  (.cons (.ite (.not (.call "is_view" (.cons (.var 0) (.cons (.var 1) (.cons (.var 2) .nil))))) (.cons .nev .nil) .nil) (.cons (.ret (.dcomp [3] (.seq (.var 1)) (.nm 3) .nil (.var 3) (.idx (.var 2) (.var 3)))) .nil))⟩
def d_number_by : Df := ⟨["units", "lot", "filling"], ["units", "lot", "filling", "found", "name"],
  (.cons (.set 3 (.int 0)) (.cons (.for_ (.seq (.var 1)) (.nm 4) (.cons (.set 3 (.op .add (.op .mul (.var 3) (.bi .len (.cons (.idx (.var 0) (.var 4)) .nil))) (.mt .index (.idx (.var 0) (.var 4)) (.cons (.idx (.var 2) (.var 4)) .nil)))) .nil)) (.cons (.ret (.var 3)) .nil)))⟩
def d_check_filling : Df := ⟨["units", "filling"], ["units", "filling", "name"],
  (.cons (.ite (.not (.call "is_view" (.cons (.var 0) (.cons (.call "names_of" (.cons (.var 0) .nil)) (.cons (.var 1) .nil))))) (.cons .nev .nil) .nil) (.cons (.ret (.dcomp [2] (.keys 0) (.nm 2) .nil (.var 2) (.idx (.var 1) (.var 2)))) .nil))⟩
def d_bases_by : Df := ⟨["units"], ["units", "name"],
  (.cons (.ret (.dcomp [1] (.keys 0) (.nm 1) .nil (.var 1) (.idx (.idx (.var 0) (.var 1)) (.int 0)))) .nil)⟩
def d_views_many : Df := ⟨["units", "lot"], ["units", "lot", "many", "name"],
  (.cons (.set 2 (.int 1)) (.cons (.for_ (.seq (.var 1)) (.nm 3) (.cons (.set 2 (.op .mul (.var 2) (.bi .len (.cons (.idx (.var 0) (.var 3)) .nil)))) .nil)) (.cons (.ret (.var 2)) .nil)))⟩
def d_quantity_wrong : Df := ⟨["units", "thing"], ["units", "thing", "index", "one"],
  (.cons (.ite (.not (.call "is_list" (.cons (.var 1) .nil))) (.cons (.ret (.tup (.cons (.str "form") .nil))) .nil) .nil) (.cons (.ite (.cmp .ne (.bi .len (.cons (.var 1) .nil)) (.call "views_many" (.cons (.var 0) (.cons (.call "names_of" (.cons (.var 0) .nil)) .nil)))) (.cons (.ret (.tup (.cons (.str "many") (.cons (.bi .len (.cons (.var 1) .nil)) .nil)))) .nil) .nil) (.cons (.for_ (.enum (.var 1)) (.tp (.cons (.nm 2) (.cons (.nm 3) .nil))) (.cons (.ite (.not (.call "is_fraction" (.cons (.var 3) .nil))) (.cons (.ret (.tup (.cons (.str "fraction") (.cons (.var 2) .nil)))) .nil) .nil) .nil)) (.cons (.ret .non) .nil))))⟩
def d_check_quantity : Df := ⟨["units", "quantity"], ["units", "quantity", "fault"],
  (.cons (.set 2 (.call "quantity_wrong" (.cons (.var 0) (.cons (.var 1) .nil)))) (.cons (.ite (.cmp .isN (.var 2) .non) (.cons .nev .nil) .nil) (.cons (.ret (.call "plain" (.cons (.var 1) .nil))) .nil)))⟩
def d_check_known : Df := ⟨["units", "quantity"], ["units", "quantity", "mine"],
  (.cons (.set 2 (.call "check_units" (.cons (.var 0) .nil))) (.cons (.ret (.tup (.cons (.var 2) (.cons (.call "check_quantity" (.cons (.var 2) (.cons (.var 1) .nil))) .nil)))) .nil))⟩
def d_at : Df := ⟨["units", "quantity", "filling"], ["units", "quantity", "filling"],
  (.cons (.ret (.idx (.var 1) (.call "number_by" (.cons (.var 0) (.cons (.call "names_of" (.cons (.var 0) .nil)) (.cons (.var 2) .nil)))))) .nil)⟩
def d_with_values : Df := ⟨["bases", "lot", "view"], ["bases", "lot", "view", "name"],
  (.cons (.ret (.dcomp [3] (.keys 0) (.nm 3) .nil (.var 3) (.ife (.cmp .mem (.var 3) (.var 1)) (.idx (.var 2) (.var 3)) (.idx (.var 0) (.var 3))))) .nil)⟩
def d_corner_by : Df := ⟨["units", "lot", "view", "bases"], ["units", "lot", "view", "bases", "found", "some"],
  (.cons (.own 4 (.lst .nil)) (.cons (.for_ (.seq (.call "lots_of" (.cons (.var 1) .nil))) (.nm 5) (.cons (.app 4 (.tup (.cons (.call "with_values" (.cons (.var 3) (.cons (.var 5) (.cons (.var 2) .nil)))) (.cons (.ife (.cmp .eq (.op .mod (.op .sub (.bi .len (.cons (.var 1) .nil)) (.bi .len (.cons (.var 5) .nil))) (.int 2)) (.int 1)) (.neg (.int 1)) (.int 1)) .nil)))) .nil)) (.cons (.frz 4) (.cons (.ret (.var 4)) .nil))))⟩
def d_signed : Df := ⟨["fraction", "sign"], ["fraction", "sign"],
  (.cons (.ret (.tup (.cons (.op .mul (.var 1) (.idx (.var 0) (.int 0))) (.cons (.idx (.var 0) (.int 1)) .nil)))) .nil)⟩
def d_part_at : Df := ⟨["units", "quantity", "lot", "view", "bases"], ["units", "quantity", "lot", "view", "bases", "filling", "sign"],
  (.cons (.ret (.call "total" (.cons (.comp [5, 6] (.seq (.call "corner_by" (.cons (.var 0) (.cons (.var 2) (.cons (.var 3) (.cons (.var 4) .nil)))))) (.tp (.cons (.nm 5) (.cons (.nm 6) .nil))) .nil (.call "signed" (.cons (.call "at" (.cons (.var 0) (.cons (.var 1) (.cons (.var 5) .nil)))) (.cons (.var 6) .nil)))) .nil))) .nil)⟩
def d_parts_by : Df := ⟨["units", "quantity", "lot", "bases"], ["units", "quantity", "lot", "bases", "view"],
  (.cons (.ret (.comp [4] (.seq (.call "views_by" (.cons (.var 0) (.cons (.var 2) .nil)))) (.nm 4) .nil (.call "part_at" (.cons (.var 0) (.cons (.var 1) (.cons (.var 2) (.cons (.var 4) (.cons (.var 3) .nil)))))))) .nil)⟩
def d_part_of : Df := ⟨["units", "quantity", "lot"], ["units", "quantity", "lot", "mine", "known"],
  (.cons (.unp (.cons (.nm 3) (.cons (.nm 4) .nil)) (.call "check_known" (.cons (.var 0) (.cons (.var 1) .nil)))) (.cons (.ret (.call "parts_by" (.cons (.var 3) (.cons (.var 4) (.cons (.call "check_lot" (.cons (.var 3) (.cons (.var 2) .nil))) (.cons (.call "bases_by" (.cons (.var 3) .nil)) .nil)))))) .nil))⟩
def d_book_by : Df := ⟨["units", "quantity", "bases"], ["units", "quantity", "bases", "pairs", "lot", "parts", "one"],
  (.cons (.set 3 (.comp [4] (.seq (.call "lots_of" (.cons (.call "names_of" (.cons (.var 0) .nil)) .nil))) (.nm 4) .nil (.tup (.cons (.var 4) (.cons (.call "parts_by" (.cons (.var 0) (.cons (.var 1) (.cons (.var 4) (.cons (.var 2) .nil))))) .nil))))) (.cons (.ret (.comp [4, 5] (.seq (.var 3)) (.tp (.cons (.nm 4) (.cons (.nm 5) .nil))) (.cons (.bi .any (.cons (.comp [6] (.seq (.var 5)) (.nm 6) .nil (.cmp .ne (.var 6) (.glo "NOUGHT" (.tup [(.int 0), (.int 1)])))) .nil)) .nil) (.tup (.cons (.var 4) (.cons (.var 5) .nil))))) .nil))⟩
def d_knots_by : Df := ⟨["units", "quantity", "bases"], ["units", "quantity", "bases", "lot", "parts"],
  (.cons (.ret (.comp [3, 4] (.seq (.call "book_by" (.cons (.var 0) (.cons (.var 1) (.cons (.var 2) .nil))))) (.tp (.cons (.nm 3) (.cons (.nm 4) .nil))) .nil (.var 3))) .nil)⟩
def d_knots : Df := ⟨["units", "quantity"], ["units", "quantity", "mine", "known"],
  (.cons (.unp (.cons (.nm 2) (.cons (.nm 3) .nil)) (.call "check_known" (.cons (.var 0) (.cons (.var 1) .nil)))) (.cons (.ret (.call "knots_by" (.cons (.var 2) (.cons (.var 3) (.cons (.call "bases_by" (.cons (.var 2) .nil)) .nil))))) .nil))⟩
def d_knots_at : Df := ⟨["units", "quantity", "filling"], ["units", "quantity", "filling", "mine", "known"],
  (.cons (.unp (.cons (.nm 3) (.cons (.nm 4) .nil)) (.call "check_known" (.cons (.var 0) (.cons (.var 1) .nil)))) (.cons (.ret (.call "knots_by" (.cons (.var 3) (.cons (.var 4) (.cons (.call "check_filling" (.cons (.var 3) (.cons (.var 2) .nil))) .nil))))) .nil))⟩
def d_is_chance : Df := ⟨["thing"], ["thing"],
  (.cons (.ret (.and (.call "is_fraction" (.cons (.var 0) .nil)) (.cmp .gt (.idx (.var 0) (.int 0)) (.int 0)))) .nil)⟩
def d_plan_wrong : Df := ⟨["units", "thing"], ["units", "thing", "whole", "index", "pair"],
  (.cons (.ite (.or (.not (.call "is_list" (.cons (.var 1) .nil))) (.cmp .eq (.bi .len (.cons (.var 1) .nil)) (.int 0))) (.cons (.ret (.tup (.cons (.str "form") .nil))) .nil) .nil) (.cons (.for_ (.enum (.var 1)) (.tp (.cons (.nm 3) (.cons (.nm 4) .nil))) (.cons (.ite (.or (.not (.call "is_row" (.cons (.var 4) (.cons (.int 2) .nil)))) (.not (.call "is_lot" (.cons (.var 0) (.cons (.idx (.var 4) (.int 0)) .nil))))) (.cons (.ret (.tup (.cons (.str "sample") (.cons (.var 3) .nil)))) .nil) .nil) .nil)) (.cons (.for_ (.enum (.var 1)) (.tp (.cons (.nm 3) (.cons (.nm 4) .nil))) (.cons (.ite (.and (.cmp .gt (.var 3) (.int 0)) (.not (.cmp .lt (.bi .list (.cons (.idx (.idx (.var 1) (.op .sub (.var 3) (.int 1))) (.int 0)) .nil)) (.bi .list (.cons (.idx (.var 4) (.int 0)) .nil))))) (.cons (.ret (.tup (.cons (.str "order") (.cons (.var 3) .nil)))) .nil) .nil) .nil)) (.cons (.for_ (.enum (.var 1)) (.tp (.cons (.nm 3) (.cons (.nm 4) .nil))) (.cons (.ite (.not (.call "is_chance" (.cons (.idx (.var 4) (.int 1)) .nil))) (.cons (.ret (.tup (.cons (.str "chance") (.cons (.var 3) .nil)))) .nil) .nil) .nil)) (.cons (.set 2 (.call "total" (.cons (.comp [4] (.seq (.var 1)) (.nm 4) .nil (.idx (.var 4) (.int 1))) .nil))) (.cons (.ret (.ife (.cmp .ne (.var 2) (.glo "ONE" (.tup [(.int 1), (.int 1)]))) (.tup (.cons (.str "sum") (.cons (.var 2) .nil))) .non)) .nil))))))⟩
def d_check_plan : Df := ⟨["units", "plan"], ["units", "plan", "fault", "lot", "chance"],
  (.cons (.set 2 (.call "plan_wrong" (.cons (.var 0) (.cons (.var 1) .nil)))) (.cons (.ite (.cmp .isN (.var 2) .non) (.cons .nev .nil) .nil) (.cons (.ret (.comp [3, 4] (.seq (.var 1)) (.tp (.cons (.nm 3) (.cons (.nm 4) .nil))) .nil (.tup (.cons (.bi .list (.cons (.var 3) .nil)) (.cons (.tup (.cons (.idx (.var 4) (.int 0)) (.cons (.idx (.var 4) (.int 1)) .nil))) .nil))))) .nil)))⟩
def d_check_both : Df := ⟨["units", "plan"], ["units", "plan", "mine"],
  (.cons (.set 2 (.call "check_units" (.cons (.var 0) .nil))) (.cons (.ret (.tup (.cons (.var 2) (.cons (.call "check_plan" (.cons (.var 2) (.cons (.var 1) .nil))) .nil)))) .nil))⟩
def d_samples_by : Df := ⟨["plan"], ["plan", "lot", "chance"],
  (.cons (.ret (.comp [1, 2] (.seq (.var 0)) (.tp (.cons (.nm 1) (.cons (.nm 2) .nil))) .nil (.var 1))) .nil)⟩
def d_within_by : Df := ⟨["plan", "lot"], ["plan", "lot", "sample", "chance"],
  (.cons (.ret (.call "total" (.cons (.comp [2, 3] (.seq (.var 0)) (.tp (.cons (.nm 2) (.cons (.nm 3) .nil))) (.cons (.call "is_within" (.cons (.var 1) (.cons (.var 2) .nil))) .nil) (.var 3)) .nil))) .nil)⟩
def d_is_held : Df := ⟨["plan", "lot"], ["plan", "lot"],
  (.cons (.ret (.call "is_less" (.cons (.glo "NOUGHT" (.tup [(.int 0), (.int 1)])) (.cons (.call "within_by" (.cons (.var 0) (.cons (.var 1) .nil))) .nil)))) .nil)⟩
def d_rule_wrong : Df := ⟨["units", "plan", "thing"], ["units", "plan", "thing", "index", "sample", "row", "place", "one"],
  (.cons (.ite (.not (.call "is_list" (.cons (.var 2) .nil))) (.cons (.ret (.tup (.cons (.str "form") .nil))) .nil) .nil) (.cons (.ite (.cmp .ne (.bi .len (.cons (.var 2) .nil)) (.bi .len (.cons (.var 1) .nil))) (.cons (.ret (.tup (.cons (.str "samples") (.cons (.bi .len (.cons (.var 2) .nil)) .nil)))) .nil) .nil) (.cons (.for_ (.enum (.call "samples_by" (.cons (.var 1) .nil))) (.tp (.cons (.nm 3) (.cons (.nm 4) .nil))) (.cons (.ite (.not (.call "is_row" (.cons (.idx (.var 2) (.var 3)) (.cons (.call "views_many" (.cons (.var 0) (.cons (.var 4) .nil))) .nil)))) (.cons (.ret (.tup (.cons (.str "sample") (.cons (.var 3) .nil)))) .nil) .nil) .nil)) (.cons (.for_ (.enum (.var 2)) (.tp (.cons (.nm 3) (.cons (.nm 5) .nil))) (.cons (.for_ (.enum (.var 5)) (.tp (.cons (.nm 6) (.cons (.nm 7) .nil))) (.cons (.ite (.not (.call "is_fraction" (.cons (.var 7) .nil))) (.cons (.ret (.tup (.cons (.str "fraction") (.cons (.var 3) (.cons (.var 6) .nil))))) .nil) .nil) .nil)) .nil)) (.cons (.ret .non) .nil)))))⟩
def d_check_rule : Df := ⟨["units", "plan", "rule"], ["units", "plan", "rule", "fault", "row"],
  (.cons (.set 3 (.call "rule_wrong" (.cons (.var 0) (.cons (.var 1) (.cons (.var 2) .nil))))) (.cons (.ite (.cmp .isN (.var 3) .non) (.cons .nev .nil) .nil) (.cons (.ret (.comp [4] (.seq (.var 2)) (.nm 4) .nil (.call "plain" (.cons (.var 4) .nil)))) .nil)))⟩
def d_check_all : Df := ⟨["units", "plan", "rule"], ["units", "plan", "rule", "mine", "drawn"],
  (.cons (.unp (.cons (.nm 3) (.cons (.nm 4) .nil)) (.call "check_both" (.cons (.var 0) (.cons (.var 1) .nil)))) (.cons (.ret (.tup (.cons (.var 3) (.cons (.var 4) (.cons (.call "check_rule" (.cons (.var 3) (.cons (.var 4) (.cons (.var 2) .nil)))) .nil))))) .nil))⟩
def d_told_at : Df := ⟨["units", "plan", "rule", "filling"], ["units", "plan", "rule", "filling", "sample", "row"],
  (.cons (.ret (.comp [4, 5] (.zip (.cons (.call "samples_by" (.cons (.var 1) .nil)) (.cons (.var 2) .nil))) (.tp (.cons (.nm 4) (.cons (.nm 5) .nil))) .nil (.idx (.var 5) (.call "number_by" (.cons (.var 0) (.cons (.var 4) (.cons (.var 3) .nil))))))) .nil)⟩
def d_told_by : Df := ⟨["units", "plan", "rule", "filling"], ["units", "plan", "rule", "filling", "mine", "drawn", "own"],
  (.cons (.unp (.cons (.nm 4) (.cons (.nm 5) (.cons (.nm 6) .nil))) (.call "check_all" (.cons (.var 0) (.cons (.var 1) (.cons (.var 2) .nil))))) (.cons (.ret (.call "told_at" (.cons (.var 4) (.cons (.var 5) (.cons (.var 6) (.cons (.call "check_filling" (.cons (.var 4) (.cons (.var 3) .nil))) .nil)))))) .nil))⟩
def d_mean_at : Df := ⟨["units", "plan", "rule", "filling"], ["units", "plan", "rule", "filling", "told", "one", "sample", "chance"],
  (.cons (.set 4 (.call "told_at" (.cons (.var 0) (.cons (.var 1) (.cons (.var 2) (.cons (.var 3) .nil)))))) (.cons (.ret (.call "total" (.cons (.comp [5, 6, 7] (.zip (.cons (.var 1) (.cons (.var 4) .nil))) (.tp (.cons (.tp (.cons (.nm 6) (.cons (.nm 7) .nil))) (.cons (.nm 5) .nil))) .nil (.call "times" (.cons (.var 7) (.cons (.var 5) .nil)))) .nil))) .nil))⟩
def d_means_by : Df := ⟨["units", "plan", "rule"], ["units", "plan", "rule", "filling"],
  (.cons (.ret (.comp [3] (.seq (.call "fillings_by" (.cons (.var 0) .nil))) (.nm 3) .nil (.call "mean_at" (.cons (.var 0) (.cons (.var 1) (.cons (.var 2) (.cons (.var 3) .nil))))))) .nil)⟩
def d_means_of : Df := ⟨["units", "plan", "rule"], ["units", "plan", "rule", "mine", "drawn", "own"],
  (.cons (.unp (.cons (.nm 3) (.cons (.nm 4) (.cons (.nm 5) .nil))) (.call "check_all" (.cons (.var 0) (.cons (.var 1) (.cons (.var 2) .nil))))) (.cons (.ret (.call "means_by" (.cons (.var 3) (.cons (.var 4) (.cons (.var 5) .nil))))) .nil))⟩
def d_spread_at : Df := ⟨["units", "plan", "rule", "filling"], ["units", "plan", "rule", "filling", "told", "squares", "mean", "one", "sample", "chance"],
  (.cons (.set 4 (.call "told_at" (.cons (.var 0) (.cons (.var 1) (.cons (.var 2) (.cons (.var 3) .nil)))))) (.cons (.set 5 (.call "total" (.cons (.comp [7, 8, 9] (.zip (.cons (.var 1) (.cons (.var 4) .nil))) (.tp (.cons (.tp (.cons (.nm 8) (.cons (.nm 9) .nil))) (.cons (.nm 7) .nil))) .nil (.call "times" (.cons (.var 9) (.cons (.call "times" (.cons (.var 7) (.cons (.var 7) .nil))) .nil)))) .nil))) (.cons (.set 6 (.call "mean_at" (.cons (.var 0) (.cons (.var 1) (.cons (.var 2) (.cons (.var 3) .nil)))))) (.cons (.ret (.call "minus" (.cons (.var 5) (.cons (.call "times" (.cons (.var 6) (.cons (.var 6) .nil))) .nil)))) .nil))))⟩
def d_spreads_by : Df := ⟨["units", "plan", "rule"], ["units", "plan", "rule", "filling"],
  (.cons (.ret (.comp [3] (.seq (.call "fillings_by" (.cons (.var 0) .nil))) (.nm 3) .nil (.call "spread_at" (.cons (.var 0) (.cons (.var 1) (.cons (.var 2) (.cons (.var 3) .nil))))))) .nil)⟩
def d_spreads_of : Df := ⟨["units", "plan", "rule"], ["units", "plan", "rule", "mine", "drawn", "own"],
  (.cons (.unp (.cons (.nm 3) (.cons (.nm 4) (.cons (.nm 5) .nil))) (.call "check_all" (.cons (.var 0) (.cons (.var 1) (.cons (.var 2) .nil))))) (.cons (.ret (.call "spreads_by" (.cons (.var 3) (.cons (.var 4) (.cons (.var 5) .nil))))) .nil))⟩
def d_bias_at : Df := ⟨["units", "plan", "rule", "quantity"], ["units", "plan", "rule", "quantity", "filling"],
  (.cons (.for_ (.seq (.call "fillings_by" (.cons (.var 0) .nil))) (.nm 4) (.cons (.ite (.cmp .ne (.call "mean_at" (.cons (.var 0) (.cons (.var 1) (.cons (.var 2) (.cons (.var 4) .nil))))) (.call "at" (.cons (.var 0) (.cons (.var 3) (.cons (.var 4) .nil))))) (.cons (.ret (.var 4)) .nil) .nil) .nil)) (.cons (.ret .non) .nil))⟩
def d_shifted_by : Df := ⟨["units", "plan", "rule", "quantity", "filling"], ["units", "plan", "rule", "quantity", "filling", "told", "found", "row", "less", "one"],
  (.cons (.parO 5 6 (.call "told_at" (.cons (.var 0) (.cons (.var 1) (.cons (.var 2) (.cons (.var 4) .nil))))) (.lst .nil)) (.cons (.for_ (.zip (.cons (.var 2) (.cons (.var 5) .nil))) (.tp (.cons (.nm 7) (.cons (.nm 8) .nil))) (.cons (.app 6 (.comp [9] (.seq (.var 7)) (.nm 9) .nil (.call "plus" (.cons (.call "minus" (.cons (.var 9) (.cons (.var 8) .nil))) (.cons (.call "at" (.cons (.var 0) (.cons (.var 3) (.cons (.var 4) .nil)))) .nil))))) .nil)) (.cons (.frz 6) (.cons (.ret (.var 6)) .nil))))⟩
def d_shifted : Df := ⟨["units", "plan", "rule", "quantity", "filling"], ["units", "plan", "rule", "quantity", "filling", "known", "mine", "drawn", "own"],
  (.cons (.unp (.cons (.nm 6) (.cons (.nm 7) (.cons (.nm 8) .nil))) (.call "check_all" (.cons (.var 0) (.cons (.var 1) (.cons (.var 2) .nil))))) (.cons (.set 5 (.call "check_quantity" (.cons (.var 6) (.cons (.var 3) .nil)))) (.cons (.ret (.call "shifted_by" (.cons (.var 6) (.cons (.var 7) (.cons (.var 8) (.cons (.var 5) (.cons (.call "check_filling" (.cons (.var 6) (.cons (.var 4) .nil))) .nil))))))) .nil)))⟩
def d_rule_telling : Df := ⟨["units", "plan", "known"], ["units", "plan", "known", "found", "sample", "row", "filling", "one", "place"],
  (.cons (.own 3 (.lst .nil)) (.cons (.for_ (.seq (.call "samples_by" (.cons (.var 1) .nil))) (.nm 4) (.cons (.own 5 (.dis [] .nil)) (.cons (.for_ (.zip (.cons (.call "fillings_by" (.cons (.var 0) .nil)) (.cons (.var 2) .nil))) (.tp (.cons (.nm 6) (.cons (.nm 7) .nil))) (.cons (.sdef 5 (.call "number_by" (.cons (.var 0) (.cons (.var 4) (.cons (.var 6) .nil)))) (.var 7)) .nil)) (.cons (.frz 5) (.cons (.app 3 (.comp [8] (.seq (.bi .sorted (.cons (.var 5) .nil))) (.nm 8) .nil (.idx (.var 5) (.var 8)))) .nil))))) (.cons (.frz 3) (.cons (.ret (.var 3)) .nil))))⟩
def d_check_asked : Df := ⟨["units", "plan", "quantity"], ["units", "plan", "quantity", "mine", "drawn"],
  (.cons (.unp (.cons (.nm 3) (.cons (.nm 4) .nil)) (.call "check_both" (.cons (.var 0) (.cons (.var 1) .nil)))) (.cons (.ret (.tup (.cons (.var 3) (.cons (.var 4) (.cons (.call "check_quantity" (.cons (.var 3) (.cons (.var 2) .nil))) .nil))))) .nil))⟩
def d_unheld_by : Df := ⟨["plan", "book"], ["plan", "book", "lot", "parts"],
  (.cons (.ret (.call "first_of" (.cons (.comp [2, 3] (.seq (.var 1)) (.tp (.cons (.nm 2) (.cons (.nm 3) .nil))) (.cons (.not (.call "is_held" (.cons (.var 0) (.cons (.var 2) .nil)))) .nil) (.tup (.cons (.var 2) (.cons (.var 3) .nil)))) .nil))) .nil)⟩
def d_by_parts : Df := ⟨["units", "plan", "quantity"], ["units", "plan", "quantity", "sample", "book", "found", "held", "row", "view", "lot", "parts", "name", "chance"],
  (.cons (.parO 4 5 (.call "book_by" (.cons (.var 0) (.cons (.var 2) (.cons (.call "bases_by" (.cons (.var 0) .nil)) .nil)))) (.lst .nil)) (.cons (.for_ (.seq (.call "samples_by" (.cons (.var 1) .nil))) (.nm 3) (.cons (.set 6 (.comp [9, 10] (.seq (.var 4)) (.tp (.cons (.nm 9) (.cons (.nm 10) .nil))) (.cons (.bi .all (.cons (.comp [11] (.seq (.var 9)) (.nm 11) .nil (.cmp .mem (.var 11) (.var 3))) .nil)) .nil) (.tup (.cons (.var 9) (.cons (.var 10) (.cons (.call "within_by" (.cons (.var 1) (.cons (.var 9) .nil))) .nil)))))) (.cons (.own 7 (.lst .nil)) (.cons (.for_ (.seq (.call "views_by" (.cons (.var 0) (.cons (.var 3) .nil)))) (.nm 8) (.cons (.app 7 (.call "total" (.cons (.comp [9, 10, 12] (.seq (.var 6)) (.tp (.cons (.nm 9) (.cons (.nm 10) (.cons (.nm 12) .nil)))) .nil (.call "by" (.cons (.idx (.var 10) (.call "number_by" (.cons (.var 0) (.cons (.var 9) (.cons (.var 8) .nil))))) (.cons (.var 12) .nil)))) .nil))) .nil)) (.cons (.frz 7) (.cons (.app 5 (.var 7)) .nil)))))) (.cons (.frz 5) (.cons (.ret (.var 5)) .nil))))⟩
def d_parts_rule : Df := ⟨["units", "plan", "quantity"], ["units", "plan", "quantity", "wrong", "mine", "drawn", "known"],
  (.cons (.unp (.cons (.nm 4) (.cons (.nm 5) (.cons (.nm 6) .nil))) (.call "check_asked" (.cons (.var 0) (.cons (.var 1) (.cons (.var 2) .nil))))) (.cons (.set 3 (.call "unheld_by" (.cons (.var 5) (.cons (.call "book_by" (.cons (.var 4) (.cons (.var 6) (.cons (.call "bases_by" (.cons (.var 4) .nil)) .nil)))) .nil)))) (.cons (.ite (.cmp .isN (.var 3) .non) (.cons .nev .nil) .nil) (.cons (.ret (.call "by_parts" (.cons (.var 4) (.cons (.var 5) (.cons (.var 6) .nil))))) .nil))))⟩
def d_rule_or_knot : Df := ⟨["units", "plan", "quantity"], ["units", "plan", "quantity", "wrong", "places", "mine", "drawn", "known", "lot", "parts", "place", "one"],
  (.cons (.unp (.cons (.nm 5) (.cons (.nm 6) (.cons (.nm 7) .nil))) (.call "check_asked" (.cons (.var 0) (.cons (.var 1) (.cons (.var 2) .nil))))) (.cons (.set 3 (.call "unheld_by" (.cons (.var 6) (.cons (.call "book_by" (.cons (.var 5) (.cons (.var 7) (.cons (.call "bases_by" (.cons (.var 5) .nil)) .nil)))) .nil)))) (.cons (.ite (.cmp .is (.var 3) .non) (.cons (.ret (.tup (.cons (.str "rule") (.cons (.call "by_parts" (.cons (.var 5) (.cons (.var 6) (.cons (.var 7) .nil)))) .nil)))) .nil) .nil) (.cons (.unp (.cons (.nm 8) (.cons (.nm 9) .nil)) (.var 3)) (.cons (.set 4 (.comp [10, 11] (.enum (.var 9)) (.tp (.cons (.nm 10) (.cons (.nm 11) .nil))) (.cons (.cmp .ne (.var 11) (.glo "NOUGHT" (.tup [(.int 0), (.int 1)]))) .nil) (.var 10))) (.cons (.ret (.tup (.cons (.str "knot") (.cons (.var 8) (.cons (.idx (.call "views_by" (.cons (.var 5) (.cons (.var 8) .nil))) (.idx (.var 4) (.int 0))) .nil))))) .nil))))))⟩
def d_unbiased_wrong : Df := ⟨["units", "plan", "quantity", "thing"], ["units", "plan", "quantity", "thing", "fault", "filling"],
  (.cons (.set 4 (.call "rule_wrong" (.cons (.var 0) (.cons (.var 1) (.cons (.var 3) .nil))))) (.cons (.ite (.cmp .isN (.var 4) .non) (.cons (.ret (.tup (.cons (.str "rule") (.cons (.var 4) .nil)))) .nil) .nil) (.cons (.set 5 (.call "bias_at" (.cons (.var 0) (.cons (.var 1) (.cons (.var 3) (.cons (.var 2) .nil)))))) (.cons (.ret (.ife (.cmp .isN (.var 5) .non) (.tup (.cons (.str "bias") (.cons (.var 5) .nil))) .non)) .nil))))⟩
def d_corner : Df := ⟨["units", "lot", "view"], ["units", "lot", "view", "mine", "some"],
  (.cons (.set 3 (.call "check_units" (.cons (.var 0) .nil))) (.cons (.set 4 (.call "check_lot" (.cons (.var 3) (.cons (.var 1) .nil)))) (.cons (.ret (.call "corner_by" (.cons (.var 3) (.cons (.var 4) (.cons (.call "check_view" (.cons (.var 3) (.cons (.var 4) (.cons (.var 2) .nil)))) (.cons (.call "bases_by" (.cons (.var 3) .nil)) .nil)))))) .nil)))⟩
def d_check_unbiased : Df := ⟨["units", "plan", "rule", "quantity"], ["units", "plan", "rule", "quantity", "known", "filling", "mine", "drawn", "own"],
  (.cons (.unp (.cons (.nm 6) (.cons (.nm 7) (.cons (.nm 8) .nil))) (.call "check_all" (.cons (.var 0) (.cons (.var 1) (.cons (.var 2) .nil))))) (.cons (.set 4 (.call "check_quantity" (.cons (.var 6) (.cons (.var 3) .nil)))) (.cons (.set 5 (.call "bias_at" (.cons (.var 6) (.cons (.var 7) (.cons (.var 8) (.cons (.var 4) .nil)))))) (.cons (.ite (.cmp .isN (.var 5) .non) (.cons .nev .nil) .nil) (.cons (.ret (.tup (.cons (.var 6) (.cons (.var 7) (.cons (.var 8) (.cons (.var 4) .nil)))))) .nil)))))⟩
def d_spread_first : Df := ⟨["units", "plan", "rule"], ["units", "plan", "rule", "one"],
  (.cons (.ret (.call "first_of" (.cons (.comp [3] (.seq (.call "fillings_by" (.cons (.var 0) .nil))) (.nm 3) (.cons (.cmp .ne (.call "spread_at" (.cons (.var 0) (.cons (.var 1) (.cons (.var 2) (.cons (.var 3) .nil))))) (.glo "NOUGHT" (.tup [(.int 0), (.int 1)]))) .nil) (.var 3)) .nil))) .nil)⟩
def d_beaten_wrong : Df := ⟨["units", "plan", "rule", "quantity", "filling", "other"], ["units", "plan", "rule", "quantity", "filling", "other", "wrong"],
  (.cons (.ite (.not (.call "is_view" (.cons (.var 0) (.cons (.call "names_of" (.cons (.var 0) .nil)) (.cons (.var 4) .nil))))) (.cons (.ret (.tup (.cons (.str "filling") .nil))) .nil) .nil) (.cons (.ite (.cmp .eq (.call "spread_at" (.cons (.var 0) (.cons (.var 1) (.cons (.var 2) (.cons (.var 4) .nil))))) (.glo "NOUGHT" (.tup [(.int 0), (.int 1)]))) (.cons (.ret (.tup (.cons (.str "level") .nil))) .nil) .nil) (.cons (.set 6 (.call "unbiased_wrong" (.cons (.var 0) (.cons (.var 1) (.cons (.var 3) (.cons (.var 5) .nil)))))) (.cons (.ite (.cmp .isN (.var 6) .non) (.cons (.ret (.var 6)) .nil) .nil) (.cons (.ret (.ife (.cmp .ne (.call "spread_at" (.cons (.var 0) (.cons (.var 1) (.cons (.var 5) (.cons (.var 4) .nil))))) (.glo "NOUGHT" (.tup [(.int 0), (.int 1)]))) (.tup (.cons (.str "spread") .nil)) .non)) .nil)))))⟩
def d_best_fault : Df := ⟨["units", "plan", "rule", "quantity", "thing"], ["units", "plan", "rule", "quantity", "thing", "filling", "mine", "drawn", "own", "known"],
  (.cons (.unp (.cons (.nm 6) (.cons (.nm 7) (.cons (.nm 8) (.cons (.nm 9) .nil)))) (.call "check_unbiased" (.cons (.var 0) (.cons (.var 1) (.cons (.var 2) (.cons (.var 3) .nil)))))) (.cons (.ite (.not (.call "has_form" (.cons (.var 4) (.cons (.dictG "BEST" ["best", "beaten"] [1, 3]) .nil)))) (.cons (.ret (.tup (.cons (.str "form") .nil))) .nil) .nil) (.cons (.ite (.cmp .eq (.idx (.var 4) (.int 0)) (.str "beaten")) (.cons (.ret (.call "beaten_wrong" (.cons (.var 6) (.cons (.var 7) (.cons (.var 8) (.cons (.var 9) (.cons (.idx (.var 4) (.int 1)) (.cons (.idx (.var 4) (.int 2)) .nil)))))))) .nil) .nil) (.cons (.set 5 (.call "spread_first" (.cons (.var 6) (.cons (.var 7) (.cons (.var 8) .nil))))) (.cons (.ret (.ife (.cmp .isN (.var 5) .non) (.tup (.cons (.str "spread") (.cons (.var 5) .nil))) .non)) .nil)))))⟩
def d_alike_by : Df := ⟨["sample", "one", "other"], ["sample", "one", "other", "name"],
  (.cons (.ret (.bi .all (.cons (.comp [3] (.seq (.var 0)) (.nm 3) .nil (.cmp .eq (.idx (.var 1) (.var 3)) (.idx (.var 2) (.var 3)))) .nil))) .nil)⟩
def d_parted_by : Df := ⟨["units", "plan", "quantity"], ["units", "plan", "quantity", "fillings", "sample", "index", "one", "other"],
  (.cons (.set 3 (.call "fillings_by" (.cons (.var 0) .nil))) (.cons (.for_ (.seq (.call "samples_by" (.cons (.var 1) .nil))) (.nm 4) (.cons (.for_ (.enum (.var 3)) (.tp (.cons (.nm 5) (.cons (.nm 6) .nil))) (.cons (.for_ (.seq (.slc (.var 3) (.cons (.op .add (.var 5) (.int 1)) .nil) .nil)) (.nm 7) (.cons (.ite (.and (.call "alike_by" (.cons (.var 4) (.cons (.var 6) (.cons (.var 7) .nil)))) (.cmp .ne (.call "at" (.cons (.var 0) (.cons (.var 2) (.cons (.var 6) .nil)))) (.call "at" (.cons (.var 0) (.cons (.var 2) (.cons (.var 7) .nil)))))) (.cons (.ret (.tup (.cons (.var 4) (.cons (.var 6) (.cons (.var 7) .nil))))) .nil) .nil) .nil)) .nil)) .nil)) (.cons (.ret .non) .nil)))⟩
def d_check_held : Df := ⟨["units", "plan", "quantity"], ["units", "plan", "quantity", "wrong", "mine", "drawn", "known"],
  (.cons (.unp (.cons (.nm 4) (.cons (.nm 5) (.cons (.nm 6) .nil))) (.call "check_asked" (.cons (.var 0) (.cons (.var 1) (.cons (.var 2) .nil))))) (.cons (.set 3 (.call "unheld_by" (.cons (.var 5) (.cons (.call "book_by" (.cons (.var 4) (.cons (.var 6) (.cons (.call "bases_by" (.cons (.var 4) .nil)) .nil)))) .nil)))) (.cons (.ite (.cmp .isN (.var 3) .non) (.cons .nev .nil) .nil) (.cons (.ret (.tup (.cons (.var 4) (.cons (.var 5) (.cons (.var 6) .nil))))) .nil))))⟩
def d_least_or_none : Df := ⟨["units", "plan", "quantity"], ["units", "plan", "quantity", "found", "mine", "drawn", "known"],
  (.cons (.unp (.cons (.nm 4) (.cons (.nm 5) (.cons (.nm 6) .nil))) (.call "check_held" (.cons (.var 0) (.cons (.var 1) (.cons (.var 2) .nil))))) (.cons (.set 3 (.call "parted_by" (.cons (.var 4) (.cons (.var 5) (.cons (.var 6) .nil))))) (.cons (.ret (.ife (.cmp .is (.var 3) .non) (.tup (.cons (.str "best") (.cons (.call "rule_telling" (.cons (.var 4) (.cons (.var 5) (.cons (.var 6) .nil)))) .nil))) (.tup (.cons (.str "none") (.star (.var 3) .nil))))) .nil)))⟩
def d_none_wrong : Df := ⟨["units", "plan", "quantity", "sample", "fillings"], ["units", "plan", "quantity", "sample", "fillings", "number", "one", "other"],
  (.cons (.ite (.or (.not (.call "is_list" (.cons (.var 3) .nil))) (.cmp .notM (.bi .list (.cons (.var 3) .nil)) (.call "samples_by" (.cons (.var 1) .nil)))) (.cons (.ret (.tup (.cons (.str "sample") .nil))) .nil) .nil) (.cons (.for_ (.seq (.tup (.cons (.int 1) (.cons (.int 2) .nil)))) (.nm 5) (.cons (.ite (.not (.call "is_view" (.cons (.var 0) (.cons (.call "names_of" (.cons (.var 0) .nil)) (.cons (.idx (.var 4) (.op .sub (.var 5) (.int 1))) .nil))))) (.cons (.ret (.tup (.cons (.str "filling") (.cons (.var 5) .nil)))) .nil) .nil) .nil)) (.cons (.unp (.cons (.nm 6) (.cons (.nm 7) .nil)) (.var 4)) (.cons (.ite (.not (.call "alike_by" (.cons (.var 3) (.cons (.var 6) (.cons (.var 7) .nil))))) (.cons (.ret (.tup (.cons (.str "alike") .nil))) .nil) .nil) (.cons (.ret (.ife (.cmp .eq (.call "at" (.cons (.var 0) (.cons (.var 2) (.cons (.var 6) .nil)))) (.call "at" (.cons (.var 0) (.cons (.var 2) (.cons (.var 7) .nil))))) (.tup (.cons (.str "same") .nil)) .non)) .nil)))))⟩
def d_always_wrong : Df := ⟨["units", "plan", "quantity", "thing"], ["units", "plan", "quantity", "thing", "wrong", "filling"],
  (.cons (.set 4 (.call "unbiased_wrong" (.cons (.var 0) (.cons (.var 1) (.cons (.var 2) (.cons (.var 3) .nil)))))) (.cons (.ite (.cmp .isN (.var 4) .non) (.cons (.ret (.var 4)) .nil) .nil) (.cons (.set 5 (.call "spread_first" (.cons (.var 0) (.cons (.var 1) (.cons (.var 3) .nil))))) (.cons (.ret (.ife (.cmp .isN (.var 5) .non) (.tup (.cons (.str "spread") (.cons (.var 5) .nil))) .non)) .nil))))⟩
def d_least_fault : Df := ⟨["units", "plan", "quantity", "thing"], ["units", "plan", "quantity", "thing", "mine", "drawn", "known"],
  (.cons (.unp (.cons (.nm 4) (.cons (.nm 5) (.cons (.nm 6) .nil))) (.call "check_held" (.cons (.var 0) (.cons (.var 1) (.cons (.var 2) .nil))))) (.cons (.ite (.not (.call "has_form" (.cons (.var 3) (.cons (.dictG "LEAST" ["best", "none"] [2, 4]) .nil)))) (.cons (.ret (.tup (.cons (.str "form") .nil))) .nil) .nil) (.cons (.ite (.cmp .eq (.idx (.var 3) (.int 0)) (.str "best")) (.cons (.ret (.call "always_wrong" (.cons (.var 4) (.cons (.var 5) (.cons (.var 6) (.cons (.idx (.var 3) (.int 1)) .nil)))))) .nil) .nil) (.cons (.ret (.call "none_wrong" (.cons (.var 4) (.cons (.var 5) (.cons (.var 6) (.cons (.idx (.var 3) (.int 1)) (.cons (.slc (.var 3) (.cons (.int 2) .nil) .nil) .nil))))))) .nil))))⟩
def d__law_same : Df := ⟨["found", "due"], ["found", "due", "mine", "theirs"],
  (.cons (.ite (.bi .isinst (.cons (.var 1) (.cons (.tup (.cons (.ty "list" "list") (.cons (.ty "tuple" "tuple") .nil))) .nil))) (.cons (.ite (.or (.cmp .ne (.bi .isinst (.cons (.var 0) (.cons (.ty "list" "list") .nil))) (.bi .isinst (.cons (.var 1) (.cons (.ty "list" "list") .nil)))) (.cmp .ne (.bi .isinst (.cons (.var 0) (.cons (.ty "tuple" "tuple") .nil))) (.bi .isinst (.cons (.var 1) (.cons (.ty "tuple" "tuple") .nil))))) (.cons (.ret (.bl false)) .nil) .nil) (.cons (.ret (.and (.cmp .eq (.bi .len (.cons (.var 0) .nil)) (.bi .len (.cons (.var 1) .nil))) (.bi .all (.cons (.comp [2, 3] (.zip (.cons (.var 0) (.cons (.var 1) .nil))) (.tp (.cons (.nm 2) (.cons (.nm 3) .nil))) .nil (.call "_law_same" (.cons (.var 2) (.cons (.var 3) .nil)))) .nil)))) .nil)) .nil) (.cons (.ite (.bi .isinst (.cons (.var 1) (.cons (.ty "dict" "dict") .nil))) (.cons (.ret (.and (.bi .isinst (.cons (.var 0) (.cons (.ty "dict" "dict") .nil))) (.call "_law_same" (.cons (.mt .items (.var 0) .nil) (.cons (.mt .items (.var 1) .nil) .nil))))) .nil) .nil) (.cons (.ite (.or (.bi .isinst (.cons (.var 1) (.cons (.ty "bool" "bool") .nil))) (.bi .isinst (.cons (.var 0) (.cons (.ty "bool" "bool") .nil)))) (.cons (.ret (.and (.bi .isinst (.cons (.var 1) (.cons (.ty "bool" "bool") .nil))) (.and (.bi .isinst (.cons (.var 0) (.cons (.ty "bool" "bool") .nil))) (.cmp .eq (.var 0) (.var 1))))) .nil) .nil) (.cons (.ite (.or (.cmp .is (.var 1) .non) (.cmp .is (.var 0) .non)) (.cons (.ret (.and (.cmp .is (.var 1) .non) (.cmp .is (.var 0) .non))) .nil) .nil) (.cons (.ite (.or (.cmp .ne (.bi .isinst (.cons (.var 1) (.cons (.ty "int" "int") .nil))) (.bi .isinst (.cons (.var 0) (.cons (.ty "int" "int") .nil)))) (.cmp .ne (.bi .isinst (.cons (.var 1) (.cons (.ty "str" "str") .nil))) (.bi .isinst (.cons (.var 0) (.cons (.ty "str" "str") .nil))))) (.cons (.ret (.bl false)) .nil) .nil) (.cons (.ret (.and (.not (.bi .isinst (.cons (.var 0) (.cons (.tup (.cons (.ty "list" "list") (.cons (.ty "tuple" "tuple") (.cons (.ty "dict" "dict") .nil)))) .nil)))) (.cmp .eq (.var 0) (.var 1)))) .nil))))))⟩
def d__law_first_right : Df := ⟨[], ["rule", "told", "due", "units", "plan", "total_v", "product"],
  (.cons (.par 3 4 (.dis ["a", "b"] (.cons (.lst (.cons (.int 0) (.cons (.int 1) .nil))) (.cons (.lst (.cons (.int 0) (.cons (.int 1) .nil))) .nil))) (.lst (.cons (.tup (.cons (.lst (.cons (.str "a") .nil)) (.cons (.tup (.cons (.int 1) (.cons (.int 2) .nil))) .nil))) (.cons (.tup (.cons (.lst (.cons (.str "b") .nil)) (.cons (.tup (.cons (.int 1) (.cons (.int 2) .nil))) .nil))) .nil)))) (.cons (.par 5 6 (.lst (.cons (.tup (.cons (.int 0) (.cons (.int 1) .nil))) (.cons (.tup (.cons (.int 1) (.cons (.int 1) .nil))) (.cons (.tup (.cons (.int 1) (.cons (.int 1) .nil))) (.cons (.tup (.cons (.int 2) (.cons (.int 1) .nil))) .nil))))) (.lst (.cons (.tup (.cons (.int 0) (.cons (.int 1) .nil))) (.cons (.tup (.cons (.int 0) (.cons (.int 1) .nil))) (.cons (.tup (.cons (.int 0) (.cons (.int 1) .nil))) (.cons (.tup (.cons (.int 1) (.cons (.int 1) .nil))) .nil)))))) (.cons (.set 0 (.lst (.cons (.lst (.cons (.tup (.cons (.int 0) (.cons (.int 1) .nil))) (.cons (.tup (.cons (.int 2) (.cons (.int 1) .nil))) .nil))) (.cons (.lst (.cons (.tup (.cons (.int 0) (.cons (.int 1) .nil))) (.cons (.tup (.cons (.int 2) (.cons (.int 1) .nil))) .nil))) .nil)))) (.cons (.own 1 (.lst (.cons (.call "fillings_of" (.cons (.var 3) .nil)) (.cons (.call "told_by" (.cons (.var 3) (.cons (.var 4) (.cons (.var 0) (.cons (.dis ["a", "b"] (.cons (.int 0) (.cons (.int 1) .nil))) .nil))))) (.cons (.call "knots" (.cons (.var 3) (.cons (.var 5) .nil))) (.cons (.call "part_of" (.cons (.var 3) (.cons (.var 5) (.cons (.lst (.cons (.str "a") .nil)) .nil)))) (.cons (.call "knots" (.cons (.var 3) (.cons (.var 6) .nil))) (.cons (.call "knots_at" (.cons (.var 3) (.cons (.var 6) (.cons (.dis ["a", "b"] (.cons (.int 1) (.cons (.int 1) .nil))) .nil)))) .nil)))))))) (.cons (.own 2 (.lst (.cons (.lst (.cons (.dis ["a", "b"] (.cons (.int 0) (.cons (.int 0) .nil))) (.cons (.dis ["a", "b"] (.cons (.int 0) (.cons (.int 1) .nil))) (.cons (.dis ["a", "b"] (.cons (.int 1) (.cons (.int 0) .nil))) (.cons (.dis ["a", "b"] (.cons (.int 1) (.cons (.int 1) .nil))) .nil))))) (.cons (.lst (.cons (.tup (.cons (.int 0) (.cons (.int 1) .nil))) (.cons (.tup (.cons (.int 2) (.cons (.int 1) .nil))) .nil))) (.cons (.lst (.cons (.lst (.cons (.str "a") .nil)) (.cons (.lst (.cons (.str "b") .nil)) .nil))) (.cons (.lst (.cons (.tup (.cons (.int 0) (.cons (.int 1) .nil))) (.cons (.tup (.cons (.int 1) (.cons (.int 1) .nil))) .nil))) (.cons (.lst (.cons (.lst (.cons (.str "a") (.cons (.str "b") .nil))) .nil)) (.cons (.lst (.cons (.lst .nil) (.cons (.lst (.cons (.str "a") .nil)) (.cons (.lst (.cons (.str "a") (.cons (.str "b") .nil))) (.cons (.lst (.cons (.str "b") .nil)) .nil))))) .nil)))))))) (.cons (.ext 1 (.lst (.cons (.call "parts_rule" (.cons (.var 3) (.cons (.var 4) (.cons (.var 5) .nil)))) (.cons (.call "means_of" (.cons (.var 3) (.cons (.var 4) (.cons (.var 0) .nil)))) (.cons (.call "rule_or_knot" (.cons (.var 3) (.cons (.var 4) (.cons (.var 6) .nil)))) (.cons (.call "corner" (.cons (.var 3) (.cons (.lst (.cons (.str "a") (.cons (.str "b") .nil))) (.cons (.dis ["a", "b"] (.cons (.int 1) (.cons (.int 1) .nil))) .nil)))) .nil)))))) (.cons (.ext 2 (.lst (.cons (.var 0) (.cons (.var 5) (.cons (.tup (.cons (.str "knot") (.cons (.lst (.cons (.str "a") (.cons (.str "b") .nil))) (.cons (.dis ["a", "b"] (.cons (.int 1) (.cons (.int 1) .nil))) .nil)))) .nil))))) (.cons (.app 2 (.lst (.cons (.tup (.cons (.dis ["a", "b"] (.cons (.int 0) (.cons (.int 0) .nil))) (.cons (.int 1) .nil))) (.cons (.tup (.cons (.dis ["a", "b"] (.cons (.int 1) (.cons (.int 0) .nil))) (.cons (.neg (.int 1)) .nil))) (.cons (.tup (.cons (.dis ["a", "b"] (.cons (.int 1) (.cons (.int 1) .nil))) (.cons (.int 1) .nil))) (.cons (.tup (.cons (.dis ["a", "b"] (.cons (.int 0) (.cons (.int 1) .nil))) (.cons (.neg (.int 1)) .nil))) .nil)))))) (.cons (.frz 1) (.cons (.frz 2) (.cons (.ret (.call "_law_same" (.cons (.var 1) (.cons (.var 2) .nil)))) .nil)))))))))))⟩
def d__law_later_right : Df := ⟨[], ["other", "told", "due", "often", "units", "plan", "total_v", "rule"],
  (.cons (.par 4 5 (.dis ["a", "b"] (.cons (.lst (.cons (.int 0) (.cons (.int 1) .nil))) (.cons (.lst (.cons (.int 0) (.cons (.int 1) .nil))) .nil))) (.lst (.cons (.tup (.cons (.lst (.cons (.str "a") .nil)) (.cons (.tup (.cons (.int 1) (.cons (.int 2) .nil))) .nil))) (.cons (.tup (.cons (.lst (.cons (.str "b") .nil)) (.cons (.tup (.cons (.int 1) (.cons (.int 2) .nil))) .nil))) .nil)))) (.cons (.par 6 7 (.lst (.cons (.tup (.cons (.int 0) (.cons (.int 1) .nil))) (.cons (.tup (.cons (.int 1) (.cons (.int 1) .nil))) (.cons (.tup (.cons (.int 1) (.cons (.int 1) .nil))) (.cons (.tup (.cons (.int 2) (.cons (.int 1) .nil))) .nil))))) (.lst (.cons (.lst (.cons (.tup (.cons (.int 0) (.cons (.int 1) .nil))) (.cons (.tup (.cons (.int 2) (.cons (.int 1) .nil))) .nil))) (.cons (.lst (.cons (.tup (.cons (.int 0) (.cons (.int 1) .nil))) (.cons (.tup (.cons (.int 2) (.cons (.int 1) .nil))) .nil))) .nil)))) (.cons (.set 0 (.call "shifted" (.cons (.var 4) (.cons (.var 5) (.cons (.var 7) (.cons (.var 6) (.cons (.dis ["a", "b"] (.cons (.int 0) (.cons (.int 1) .nil))) .nil))))))) (.cons (.own 1 (.lst (.cons (.call "spreads_of" (.cons (.var 4) (.cons (.var 5) (.cons (.var 7) .nil)))) (.cons (.var 0) (.cons (.call "spreads_of" (.cons (.var 4) (.cons (.var 5) (.cons (.var 0) .nil)))) (.cons (.call "best_fault" (.cons (.var 4) (.cons (.var 5) (.cons (.var 7) (.cons (.var 6) (.cons (.tup (.cons (.str "beaten") (.cons (.dis ["a", "b"] (.cons (.int 0) (.cons (.int 1) .nil))) (.cons (.var 0) .nil)))) .nil)))))) .nil)))))) (.cons (.set 2 (.lst (.cons (.lst (.cons (.tup (.cons (.int 0) (.cons (.int 1) .nil))) (.cons (.tup (.cons (.int 1) (.cons (.int 1) .nil))) (.cons (.tup (.cons (.int 1) (.cons (.int 1) .nil))) (.cons (.tup (.cons (.int 0) (.cons (.int 1) .nil))) .nil))))) (.cons (.lst (.cons (.lst (.cons (.tup (.cons (.int 1) (.cons (.int 1) .nil))) (.cons (.tup (.cons (.int 3) (.cons (.int 1) .nil))) .nil))) (.cons (.lst (.cons (.tup (.cons (.neg (.int 1)) (.cons (.int 1) .nil))) (.cons (.tup (.cons (.int 1) (.cons (.int 1) .nil))) .nil))) .nil))) (.cons (.lst (.cons (.tup (.cons (.int 1) (.cons (.int 1) .nil))) (.cons (.tup (.cons (.int 0) (.cons (.int 1) .nil))) (.cons (.tup (.cons (.int 4) (.cons (.int 1) .nil))) (.cons (.tup (.cons (.int 1) (.cons (.int 1) .nil))) .nil))))) (.cons .non .nil)))))) (.cons (.app 1 (.call "least_fault" (.cons (.var 4) (.cons (.var 5) (.cons (.var 6) (.cons (.tup (.cons (.str "none") (.cons (.lst (.cons (.str "a") .nil)) (.cons (.dis ["a", "b"] (.cons (.int 0) (.cons (.int 0) .nil))) (.cons (.dis ["a", "b"] (.cons (.int 0) (.cons (.int 1) .nil))) .nil))))) .nil)))))) (.cons (.set 3 (.lst (.cons (.tup (.cons (.lst (.cons (.str "a") .nil)) (.cons (.tup (.cons (.int 1) (.cons (.int 2) .nil))) .nil))) (.cons (.tup (.cons (.lst (.cons (.str "a") (.cons (.str "b") .nil))) (.cons (.tup (.cons (.int 1) (.cons (.int 2) .nil))) .nil))) .nil)))) (.cons (.app 1 (.call "least_or_none" (.cons (.var 4) (.cons (.var 3) (.cons (.lst (.cons (.tup (.cons (.int 0) (.cons (.int 1) .nil))) (.cons (.tup (.cons (.int 0) (.cons (.int 1) .nil))) (.cons (.tup (.cons (.int 1) (.cons (.int 1) .nil))) (.cons (.tup (.cons (.int 1) (.cons (.int 1) .nil))) .nil))))) .nil))))) (.cons (.frz 1) (.cons (.ret (.call "_law_same" (.cons (.var 1) (.cons (.op .add (.var 2) (.lst (.cons .non (.cons (.tup (.cons (.str "best") (.cons (.lst (.cons (.lst (.cons (.tup (.cons (.int 0) (.cons (.int 1) .nil))) (.cons (.tup (.cons (.int 1) (.cons (.int 1) .nil))) .nil))) (.cons (.lst (.cons (.tup (.cons (.int 0) (.cons (.int 1) .nil))) (.cons (.tup (.cons (.int 0) (.cons (.int 1) .nil))) (.cons (.tup (.cons (.int 1) (.cons (.int 1) .nil))) (.cons (.tup (.cons (.int 1) (.cons (.int 1) .nil))) .nil))))) .nil))) .nil))) .nil)))) .nil)))) .nil))))))))))⟩
def ents : List (Str × (Df × Nat)) := ([(("is_list" : Str), (d_is_list, 3)), (("is_whole" : Str), (d_is_whole, 4)), (("is_row" : Str), (d_is_row, 5)), (("is_name" : Str), (d_is_name, 6)), (("is_among" : Str), (d_is_among, 7)), (("has_form" : Str), (d_has_form, 8)), (("is_ascending" : Str), (d_is_ascending, 9)), (("is_within" : Str), (d_is_within, 10)), (("lots_of" : Str), (d_lots_of, 11)), (("first_of" : Str), (d_first_of, 12)), (("common" : Str), (d_common, 27)), (("fraction" : Str), (d_fraction, 28)), (("plus" : Str), (d_plus, 29)), (("minus" : Str), (d_minus, 30)), (("times" : Str), (d_times, 31)), (("by" : Str), (d_by, 32)), (("total" : Str), (d_total, 33)), (("is_less" : Str), (d_is_less, 34)), (("is_fraction" : Str), (d_is_fraction, 35)), (("plain" : Str), (d_plain, 36)), (("is_scale" : Str), (d_is_scale, 38)), (("units_fault" : Str), (d_units_fault, 39)), (("check_units" : Str), (d_check_units, 40)), (("names_of" : Str), (d_names_of, 41)), (("is_lot" : Str), (d_is_lot, 42)), (("check_lot" : Str), (d_check_lot, 43)), (("rows_by" : Str), (d_rows_by, 44)), (("as_view" : Str), (d_as_view, 45)), (("views_by" : Str), (d_views_by, 46)), (("fillings_by" : Str), (d_fillings_by, 47)), (("fillings_of" : Str), (d_fillings_of, 48)), (("is_view" : Str), (d_is_view, 49)), (("check_view" : Str), (d_check_view, 50)), (("number_by" : Str), (d_number_by, 51)), (("check_filling" : Str), (d_check_filling, 52)), (("bases_by" : Str), (d_bases_by, 53))] : List (Str × (Df × Nat))) ++ ([(("views_many" : Str), (d_views_many, 54)), (("quantity_wrong" : Str), (d_quantity_wrong, 56)), (("check_quantity" : Str), (d_check_quantity, 57)), (("check_known" : Str), (d_check_known, 58)), (("at" : Str), (d_at, 59)), (("with_values" : Str), (d_with_values, 61)), (("corner_by" : Str), (d_corner_by, 62)), (("signed" : Str), (d_signed, 63)), (("part_at" : Str), (d_part_at, 64)), (("parts_by" : Str), (d_parts_by, 65)), (("part_of" : Str), (d_part_of, 66)), (("book_by" : Str), (d_book_by, 67)), (("knots_by" : Str), (d_knots_by, 68)), (("knots" : Str), (d_knots, 69)), (("knots_at" : Str), (d_knots_at, 70)), (("is_chance" : Str), (d_is_chance, 72)), (("plan_wrong" : Str), (d_plan_wrong, 73)), (("check_plan" : Str), (d_check_plan, 74)), (("check_both" : Str), (d_check_both, 75)), (("samples_by" : Str), (d_samples_by, 76)), (("within_by" : Str), (d_within_by, 77)), (("is_held" : Str), (d_is_held, 78)), (("rule_wrong" : Str), (d_rule_wrong, 80)), (("check_rule" : Str), (d_check_rule, 81)), (("check_all" : Str), (d_check_all, 82)), (("told_at" : Str), (d_told_at, 83)), (("told_by" : Str), (d_told_by, 84)), (("mean_at" : Str), (d_mean_at, 86)), (("means_by" : Str), (d_means_by, 87)), (("means_of" : Str), (d_means_of, 88)), (("spread_at" : Str), (d_spread_at, 89)), (("spreads_by" : Str), (d_spreads_by, 90)), (("spreads_of" : Str), (d_spreads_of, 91)), (("bias_at" : Str), (d_bias_at, 92)), (("shifted_by" : Str), (d_shifted_by, 93)), (("shifted" : Str), (d_shifted, 94))] : List (Str × (Df × Nat))) ++ ([(("rule_telling" : Str), (d_rule_telling, 95)), (("check_asked" : Str), (d_check_asked, 97)), (("unheld_by" : Str), (d_unheld_by, 98)), (("by_parts" : Str), (d_by_parts, 99)), (("parts_rule" : Str), (d_parts_rule, 100)), (("rule_or_knot" : Str), (d_rule_or_knot, 101)), (("unbiased_wrong" : Str), (d_unbiased_wrong, 102)), (("corner" : Str), (d_corner, 103)), (("check_unbiased" : Str), (d_check_unbiased, 107)), (("spread_first" : Str), (d_spread_first, 108)), (("beaten_wrong" : Str), (d_beaten_wrong, 109)), (("best_fault" : Str), (d_best_fault, 110)), (("alike_by" : Str), (d_alike_by, 111)), (("parted_by" : Str), (d_parted_by, 112)), (("check_held" : Str), (d_check_held, 113)), (("least_or_none" : Str), (d_least_or_none, 114)), (("none_wrong" : Str), (d_none_wrong, 115)), (("always_wrong" : Str), (d_always_wrong, 116)), (("least_fault" : Str), (d_least_fault, 117)), (("_law_same" : Str), (d__law_same, 121)), (("_law_first_right" : Str), (d__law_first_right, 122)), (("_law_later_right" : Str), (d__law_later_right, 123))] : List (Str × (Df × Nat)))
def F (f : Str) : Option Df := (ents.lookup f).map (·.1)

def cm : Com := ⟨([(("is_list" : Str), 1), (("is_whole" : Str), 1), (("is_row" : Str), 2), (("is_name" : Str), 1), (("is_among" : Str), 2), (("has_form" : Str), 2), (("is_ascending" : Str), 1), (("is_within" : Str), 2), (("lots_of" : Str), 1), (("first_of" : Str), 1), (("common" : Str), 2), (("fraction" : Str), 2), (("plus" : Str), 2), (("minus" : Str), 2), (("times" : Str), 2), (("by" : Str), 2), (("total" : Str), 1), (("is_less" : Str), 2), (("is_fraction" : Str), 1), (("plain" : Str), 1), (("is_scale" : Str), 1), (("units_fault" : Str), 1), (("check_units" : Str), 1), (("names_of" : Str), 1), (("is_lot" : Str), 2), (("check_lot" : Str), 2), (("rows_by" : Str), 2), (("as_view" : Str), 2), (("views_by" : Str), 2), (("fillings_by" : Str), 1), (("fillings_of" : Str), 1), (("is_view" : Str), 3), (("check_view" : Str), 3), (("number_by" : Str), 3), (("check_filling" : Str), 2), (("bases_by" : Str), 1)] : List (Str × Nat)) ++ ([(("views_many" : Str), 2), (("quantity_wrong" : Str), 2), (("check_quantity" : Str), 2), (("check_known" : Str), 2), (("at" : Str), 3), (("with_values" : Str), 3), (("corner_by" : Str), 4), (("signed" : Str), 2), (("part_at" : Str), 5), (("parts_by" : Str), 4), (("part_of" : Str), 3), (("book_by" : Str), 3), (("knots_by" : Str), 3), (("knots" : Str), 2), (("knots_at" : Str), 3), (("is_chance" : Str), 1), (("plan_wrong" : Str), 2), (("check_plan" : Str), 2), (("check_both" : Str), 2), (("samples_by" : Str), 1), (("within_by" : Str), 2), (("is_held" : Str), 2), (("rule_wrong" : Str), 3), (("check_rule" : Str), 3), (("check_all" : Str), 3), (("told_at" : Str), 4), (("told_by" : Str), 4), (("mean_at" : Str), 4), (("means_by" : Str), 3), (("means_of" : Str), 3), (("spread_at" : Str), 4), (("spreads_by" : Str), 3), (("spreads_of" : Str), 3), (("bias_at" : Str), 4), (("shifted_by" : Str), 5), (("shifted" : Str), 5)] : List (Str × Nat)) ++ ([(("rule_telling" : Str), 3), (("check_asked" : Str), 3), (("unheld_by" : Str), 2), (("by_parts" : Str), 3), (("parts_rule" : Str), 3), (("rule_or_knot" : Str), 3), (("unbiased_wrong" : Str), 4), (("corner" : Str), 3), (("check_unbiased" : Str), 4), (("spread_first" : Str), 3), (("beaten_wrong" : Str), 6), (("best_fault" : Str), 5), (("alike_by" : Str), 3), (("parted_by" : Str), 3), (("check_held" : Str), 3), (("least_or_none" : Str), 3), (("none_wrong" : Str), 5), (("always_wrong" : Str), 4), (("least_fault" : Str), 4), (("_law_same" : Str), 2), (("_law_first_right" : Str), 0), (("_law_later_right" : Str), 0), (("_law_draw" : Str), 2)] : List (Str × Nat)), ([(("LONGEST" : Str), (.int 8)), (("NOUGHT" : Str), (.tup [(.int 0), (.int 1)])), (("ONE" : Str), (.tup [(.int 1), (.int 1)])), (("SIGNS" : Str), (.str "abcdefghijklmnopqrstuvwxyz"))] : List (Str × PV)), ([(("BEST" : Str), ["best", "beaten"], [1, 3]), (("LEAST" : Str), ["best", "none"], [2, 4])] : List (Str × List Str × List Int))⟩
def mkD (p : Str × (Df × Nat)) : He.DefD := ⟨(p.1, none), p.1, p.1, defArgs (top p.2.2), defBody (top p.2.2), defScope (top p.2.2), [], []⟩
def fn : List He.DefD := mkD ("law", (⟨[], [], .nil⟩, 124)) :: mkD ("_law_stream", (⟨[], [], .nil⟩, 119)) :: mkD ("_law_draw", (⟨[], [], .nil⟩, 120)) :: ents.map mkD
def fa : List He.Fa := ([(.glo "BEST"), (.glo "LEAST"), (.glo "NOUGHT"), (.glo "ONE"), (.int "LONGEST" 8), (.str "SIGNS" "abcdefghijklmnopqrstuvwxyz"), (.free "len"), (.free "abs"), (.free "isinstance"), (.free "list"), (.free "tuple"), (.free "dict"), (.free "int"), (.free "sum"), (.free "any"), (.free "all"), (.free "min"), (.free "max"), (.free "sorted"), (.free "repr"), (.free "str"), (.free "zip"), (.free "enumerate"), (.free "range"), (.free "bool")] : List He.Fa) ++ fn.map fun d => .glo d.name
def ts : List He.Tab := [((fun K => He.ga K "BEST"), ["best", "beaten"]), ((fun K => He.ga K "LEAST"), ["best", "none"])]
def ex (K : PySem.W.Frag) : Bool := He.tupB K "NOUGHT" [.int 0, .int 1] && He.tupB K "ONE" [.int 1, .int 1] && valD K "BEST" [1, 3] && valD K "LEAST" [2, 4]
abbrev R : PySem.W.OpenRow := PySem.W.OpenLaw.row PySem.Challenge.rw_seentogether_k29_whole_examples_of_the_f
abbrev hk : PySem.W.Hook := He.hookX 2 fa fn ts [] ex
def ob (s : PySem.W.SharedT) : He.AlX := He.obsX 2 fa fn ts [] ex (HandSHeadRun.getT s)
theorem ob_eq (s : PySem.W.SharedT) : ob s = hk.obs s.abs := He.obsX_eq (HandSHeadRun.getT_eq s)
def loose : List Str := ([("SIGNS" : Str), ("LONGEST" : Str), ("is_list" : Str), ("is_whole" : Str), ("is_row" : Str), ("is_name" : Str), ("is_among" : Str), ("has_form" : Str), ("is_ascending" : Str), ("is_within" : Str), ("lots_of" : Str), ("first_of" : Str), ("SampleError" : Str), ("BadUnits" : Str), ("BadLot" : Str), ("BadView" : Str), ("BadFilling" : Str), ("BadPlan" : Str), ("BadQuantity" : Str), ("BadRule" : Str), ("Unheld" : Str), ("Biased" : Str), ("NOUGHT" : Str), ("ONE" : Str), ("common" : Str), ("fraction" : Str), ("plus" : Str), ("minus" : Str), ("times" : Str), ("by" : Str), ("total" : Str), ("is_less" : Str), ("is_fraction" : Str), ("plain" : Str), ("is_scale" : Str), ("units_fault" : Str)] : List Str) ++ ([("check_units" : Str), ("names_of" : Str), ("is_lot" : Str), ("check_lot" : Str), ("rows_by" : Str), ("as_view" : Str), ("views_by" : Str), ("fillings_by" : Str), ("fillings_of" : Str), ("is_view" : Str), ("check_view" : Str), ("number_by" : Str), ("check_filling" : Str), ("bases_by" : Str), ("views_many" : Str), ("quantity_wrong" : Str), ("check_quantity" : Str), ("check_known" : Str), ("at" : Str), ("with_values" : Str), ("corner_by" : Str), ("signed" : Str), ("part_at" : Str), ("parts_by" : Str), ("part_of" : Str), ("book_by" : Str), ("knots_by" : Str), ("knots" : Str), ("knots_at" : Str), ("is_chance" : Str), ("plan_wrong" : Str), ("check_plan" : Str), ("check_both" : Str), ("samples_by" : Str), ("within_by" : Str), ("is_held" : Str)] : List Str) ++ ([("rule_wrong" : Str), ("check_rule" : Str), ("check_all" : Str), ("told_at" : Str), ("told_by" : Str), ("mean_at" : Str), ("means_by" : Str), ("means_of" : Str), ("spread_at" : Str), ("spreads_by" : Str), ("spreads_of" : Str), ("bias_at" : Str), ("shifted_by" : Str), ("shifted" : Str), ("rule_telling" : Str), ("check_asked" : Str), ("unheld_by" : Str), ("by_parts" : Str), ("parts_rule" : Str), ("rule_or_knot" : Str), ("unbiased_wrong" : Str), ("corner" : Str), ("BEST" : Str), ("LEAST" : Str), ("check_unbiased" : Str), ("spread_first" : Str), ("beaten_wrong" : Str), ("best_fault" : Str), ("alike_by" : Str), ("parted_by" : Str), ("check_held" : Str), ("least_or_none" : Str), ("none_wrong" : Str), ("always_wrong" : Str), ("least_fault" : Str), ("_law_stream" : Str)] : List Str) ++ ([("_law_draw" : Str), ("_law_same" : Str), ("_law_first_right" : Str), ("_law_later_right" : Str)] : List Str)
theorem run_f (w : World) : HandSHeadRun.RunEq R (PySem.W.view R.prog [124]) hk ob 60000 loose (w.withFollow "special-get-raises" false) := fun os => by kernel_rfl
theorem run_t (w : World) : HandSHeadRun.RunEq R (PySem.W.view R.prog [124]) hk ob 60000 loose (w.withFollow "special-get-raises" true) := fun os => by kernel_rfl
theorem run (w : World) : HandSHeadRun.RunEq R (PySem.W.view R.prog [124]) hk ob 60000 loose w := PySem.W.byRow2 "special-get-raises" (P := fun w => HandSHeadRun.RunEq R (PySem.W.view R.prog [124]) hk ob 60000 loose w) run_f run_t w
def lawN : List Str := ["script", "stream"]
def lawB : Sm2 := (.cons (.ret (.and (.cmp .ge (.call "_law_draw" (.cons (.var 1) (.cons (.int 2) .nil))) (.int 0)) (.and (.call "_law_first_right" .nil) (.call "_law_later_right" .nil)))) .nil)
def entOk (e : Str × (Df × Nat)) : Bool := chkSs (cm.sx e.2.1.N (defScope (top e.2.2)).names) e.2.1.body (defBody (top e.2.2)) && scB e.2.1.N e.2.1.ps (defScope (top e.2.2)) && decide ((e.1, e.2.1.ps.length) ∈ cm.dom)
theorem ents_ok : ents.all entOk = true := by decide +kernel
theorem ents_nd : (ents.map (·.1)).Nodup := by decide +kernel
theorem dom_ok : cm.dom = ents.map (fun e => (e.1, e.2.1.ps.length)) ++ [(("_law_draw" : Str), 2)] := by decide +kernel
theorem draw_ok : drawB ⟨dN, (defScope (top 120)).names, (defScope (top 120)).names, [], [], []⟩ (defBody (top 120)) = true := by decide +kernel
theorem str_ok : strB ⟨["script"], (defScope (top 119)).names, (defScope (top 119)).names, [], [], []⟩ (defBody (top 119)) = true := by decide +kernel
theorem law_hd : lawHead (cm.sx lawN (defScope (top 124)).names) (defBody (top 124)) = true := by decide +kernel
theorem law_bd : chkSs (cm.sx lawN (defScope (top 124)).names) lawB (lawTail (defBody (top 124))) = true := by decide +kernel
theorem sc_draw : scB dN ["stream", "many"] (defScope (top 120)) = true := by decide +kernel
theorem sc_str : scB ["script"] ["script"] (defScope (top 119)) = true := by decide +kernel
theorem sc_law : scB lawN ["script"] (defScope (top 124)) = true := by decide +kernel
section
variable {K : PySem.W.Frag} {a : Addr} {fd : FuncData}
theorem bd_3 (G : FunD K "is_list" "is_list" (defArgs (top 3)) (defBody (top 3)) (defScope (top 3)) [] [] a fd) : Binds K fd ["thing"] [] := FunD.bindsN G fun _ _ _ _ _ _ us hl => match us, hl with | [_], _ => rfl
theorem bd_4 (G : FunD K "is_whole" "is_whole" (defArgs (top 4)) (defBody (top 4)) (defScope (top 4)) [] [] a fd) : Binds K fd ["thing"] [] := FunD.bindsN G fun _ _ _ _ _ _ us hl => match us, hl with | [_], _ => rfl
theorem bd_5 (G : FunD K "is_row" "is_row" (defArgs (top 5)) (defBody (top 5)) (defScope (top 5)) [] [] a fd) : Binds K fd ["thing", "many"] [] := FunD.bindsN G fun _ _ _ _ _ _ us hl => match us, hl with | [_, _], _ => rfl
theorem bd_6 (G : FunD K "is_name" "is_name" (defArgs (top 6)) (defBody (top 6)) (defScope (top 6)) [] [] a fd) : Binds K fd ["thing"] [] := FunD.bindsN G fun _ _ _ _ _ _ us hl => match us, hl with | [_], _ => rfl
theorem bd_7 (G : FunD K "is_among" "is_among" (defArgs (top 7)) (defBody (top 7)) (defScope (top 7)) [] [] a fd) : Binds K fd ["words", "thing"] [] := FunD.bindsN G fun _ _ _ _ _ _ us hl => match us, hl with | [_, _], _ => rfl
theorem bd_8 (G : FunD K "has_form" "has_form" (defArgs (top 8)) (defBody (top 8)) (defScope (top 8)) [] [] a fd) : Binds K fd ["thing", "sizes"] [] := FunD.bindsN G fun _ _ _ _ _ _ us hl => match us, hl with | [_, _], _ => rfl
theorem bd_9 (G : FunD K "is_ascending" "is_ascending" (defArgs (top 9)) (defBody (top 9)) (defScope (top 9)) [] [] a fd) : Binds K fd ["things"] [] := FunD.bindsN G fun _ _ _ _ _ _ us hl => match us, hl with | [_], _ => rfl
theorem bd_10 (G : FunD K "is_within" "is_within" (defArgs (top 10)) (defBody (top 10)) (defScope (top 10)) [] [] a fd) : Binds K fd ["lot", "other"] [] := FunD.bindsN G fun _ _ _ _ _ _ us hl => match us, hl with | [_, _], _ => rfl
theorem bd_11 (G : FunD K "lots_of" "lots_of" (defArgs (top 11)) (defBody (top 11)) (defScope (top 11)) [] [] a fd) : Binds K fd ["names"] [] := FunD.bindsN G fun _ _ _ _ _ _ us hl => match us, hl with | [_], _ => rfl
theorem bd_12 (G : FunD K "first_of" "first_of" (defArgs (top 12)) (defBody (top 12)) (defScope (top 12)) [] [] a fd) : Binds K fd ["things"] [] := FunD.bindsN G fun _ _ _ _ _ _ us hl => match us, hl with | [_], _ => rfl
theorem bd_27 (G : FunD K "common" "common" (defArgs (top 27)) (defBody (top 27)) (defScope (top 27)) [] [] a fd) : Binds K fd ["one", "other"] [] := FunD.bindsN G fun _ _ _ _ _ _ us hl => match us, hl with | [_, _], _ => rfl
theorem bd_28 (G : FunD K "fraction" "fraction" (defArgs (top 28)) (defBody (top 28)) (defScope (top 28)) [] [] a fd) : Binds K fd ["top", "bottom"] [] := FunD.bindsN G fun _ _ _ _ _ _ us hl => match us, hl with | [_, _], _ => rfl
theorem bd_29 (G : FunD K "plus" "plus" (defArgs (top 29)) (defBody (top 29)) (defScope (top 29)) [] [] a fd) : Binds K fd ["one", "other"] [] := FunD.bindsN G fun _ _ _ _ _ _ us hl => match us, hl with | [_, _], _ => rfl
theorem bd_30 (G : FunD K "minus" "minus" (defArgs (top 30)) (defBody (top 30)) (defScope (top 30)) [] [] a fd) : Binds K fd ["one", "other"] [] := FunD.bindsN G fun _ _ _ _ _ _ us hl => match us, hl with | [_, _], _ => rfl
theorem bd_31 (G : FunD K "times" "times" (defArgs (top 31)) (defBody (top 31)) (defScope (top 31)) [] [] a fd) : Binds K fd ["one", "other"] [] := FunD.bindsN G fun _ _ _ _ _ _ us hl => match us, hl with | [_, _], _ => rfl
theorem bd_32 (G : FunD K "by" "by" (defArgs (top 32)) (defBody (top 32)) (defScope (top 32)) [] [] a fd) : Binds K fd ["one", "other"] [] := FunD.bindsN G fun _ _ _ _ _ _ us hl => match us, hl with | [_, _], _ => rfl
theorem bd_33 (G : FunD K "total" "total" (defArgs (top 33)) (defBody (top 33)) (defScope (top 33)) [] [] a fd) : Binds K fd ["fractions"] [] := FunD.bindsN G fun _ _ _ _ _ _ us hl => match us, hl with | [_], _ => rfl
theorem bd_34 (G : FunD K "is_less" "is_less" (defArgs (top 34)) (defBody (top 34)) (defScope (top 34)) [] [] a fd) : Binds K fd ["one", "other"] [] := FunD.bindsN G fun _ _ _ _ _ _ us hl => match us, hl with | [_, _], _ => rfl
theorem bd_35 (G : FunD K "is_fraction" "is_fraction" (defArgs (top 35)) (defBody (top 35)) (defScope (top 35)) [] [] a fd) : Binds K fd ["thing"] [] := FunD.bindsN G fun _ _ _ _ _ _ us hl => match us, hl with | [_], _ => rfl
theorem bd_36 (G : FunD K "plain" "plain" (defArgs (top 36)) (defBody (top 36)) (defScope (top 36)) [] [] a fd) : Binds K fd ["fractions"] [] := FunD.bindsN G fun _ _ _ _ _ _ us hl => match us, hl with | [_], _ => rfl
theorem bd_38 (G : FunD K "is_scale" "is_scale" (defArgs (top 38)) (defBody (top 38)) (defScope (top 38)) [] [] a fd) : Binds K fd ["thing"] [] := FunD.bindsN G fun _ _ _ _ _ _ us hl => match us, hl with | [_], _ => rfl
theorem bd_39 (G : FunD K "units_fault" "units_fault" (defArgs (top 39)) (defBody (top 39)) (defScope (top 39)) [] [] a fd) : Binds K fd ["thing"] [] := FunD.bindsN G fun _ _ _ _ _ _ us hl => match us, hl with | [_], _ => rfl
theorem bd_40 (G : FunD K "check_units" "check_units" (defArgs (top 40)) (defBody (top 40)) (defScope (top 40)) [] [] a fd) : Binds K fd ["units"] [] := FunD.bindsN G fun _ _ _ _ _ _ us hl => match us, hl with | [_], _ => rfl
theorem bd_41 (G : FunD K "names_of" "names_of" (defArgs (top 41)) (defBody (top 41)) (defScope (top 41)) [] [] a fd) : Binds K fd ["units"] [] := FunD.bindsN G fun _ _ _ _ _ _ us hl => match us, hl with | [_], _ => rfl
theorem bd_42 (G : FunD K "is_lot" "is_lot" (defArgs (top 42)) (defBody (top 42)) (defScope (top 42)) [] [] a fd) : Binds K fd ["units", "thing"] [] := FunD.bindsN G fun _ _ _ _ _ _ us hl => match us, hl with | [_, _], _ => rfl
theorem bd_43 (G : FunD K "check_lot" "check_lot" (defArgs (top 43)) (defBody (top 43)) (defScope (top 43)) [] [] a fd) : Binds K fd ["units", "lot"] [] := FunD.bindsN G fun _ _ _ _ _ _ us hl => match us, hl with | [_, _], _ => rfl
theorem bd_44 (G : FunD K "rows_by" "rows_by" (defArgs (top 44)) (defBody (top 44)) (defScope (top 44)) [] [] a fd) : Binds K fd ["units", "lot"] [] := FunD.bindsN G fun _ _ _ _ _ _ us hl => match us, hl with | [_, _], _ => rfl
theorem bd_45 (G : FunD K "as_view" "as_view" (defArgs (top 45)) (defBody (top 45)) (defScope (top 45)) [] [] a fd) : Binds K fd ["lot", "row"] [] := FunD.bindsN G fun _ _ _ _ _ _ us hl => match us, hl with | [_, _], _ => rfl
theorem bd_46 (G : FunD K "views_by" "views_by" (defArgs (top 46)) (defBody (top 46)) (defScope (top 46)) [] [] a fd) : Binds K fd ["units", "lot"] [] := FunD.bindsN G fun _ _ _ _ _ _ us hl => match us, hl with | [_, _], _ => rfl
theorem bd_47 (G : FunD K "fillings_by" "fillings_by" (defArgs (top 47)) (defBody (top 47)) (defScope (top 47)) [] [] a fd) : Binds K fd ["units"] [] := FunD.bindsN G fun _ _ _ _ _ _ us hl => match us, hl with | [_], _ => rfl
theorem bd_48 (G : FunD K "fillings_of" "fillings_of" (defArgs (top 48)) (defBody (top 48)) (defScope (top 48)) [] [] a fd) : Binds K fd ["units"] [] := FunD.bindsN G fun _ _ _ _ _ _ us hl => match us, hl with | [_], _ => rfl
theorem bd_49 (G : FunD K "is_view" "is_view" (defArgs (top 49)) (defBody (top 49)) (defScope (top 49)) [] [] a fd) : Binds K fd ["units", "lot", "thing"] [] := FunD.bindsN G fun _ _ _ _ _ _ us hl => match us, hl with | [_, _, _], _ => rfl
theorem bd_50 (G : FunD K "check_view" "check_view" (defArgs (top 50)) (defBody (top 50)) (defScope (top 50)) [] [] a fd) : Binds K fd ["units", "lot", "view"] [] := FunD.bindsN G fun _ _ _ _ _ _ us hl => match us, hl with | [_, _, _], _ => rfl
theorem bd_51 (G : FunD K "number_by" "number_by" (defArgs (top 51)) (defBody (top 51)) (defScope (top 51)) [] [] a fd) : Binds K fd ["units", "lot", "filling"] [] := FunD.bindsN G fun _ _ _ _ _ _ us hl => match us, hl with | [_, _, _], _ => rfl
theorem bd_52 (G : FunD K "check_filling" "check_filling" (defArgs (top 52)) (defBody (top 52)) (defScope (top 52)) [] [] a fd) : Binds K fd ["units", "filling"] [] := FunD.bindsN G fun _ _ _ _ _ _ us hl => match us, hl with | [_, _], _ => rfl
theorem bd_53 (G : FunD K "bases_by" "bases_by" (defArgs (top 53)) (defBody (top 53)) (defScope (top 53)) [] [] a fd) : Binds K fd ["units"] [] := FunD.bindsN G fun _ _ _ _ _ _ us hl => match us, hl with | [_], _ => rfl
theorem bd_54 (G : FunD K "views_many" "views_many" (defArgs (top 54)) (defBody (top 54)) (defScope (top 54)) [] [] a fd) : Binds K fd ["units", "lot"] [] := FunD.bindsN G fun _ _ _ _ _ _ us hl => match us, hl with | [_, _], _ => rfl
theorem bd_56 (G : FunD K "quantity_wrong" "quantity_wrong" (defArgs (top 56)) (defBody (top 56)) (defScope (top 56)) [] [] a fd) : Binds K fd ["units", "thing"] [] := FunD.bindsN G fun _ _ _ _ _ _ us hl => match us, hl with | [_, _], _ => rfl
theorem bd_57 (G : FunD K "check_quantity" "check_quantity" (defArgs (top 57)) (defBody (top 57)) (defScope (top 57)) [] [] a fd) : Binds K fd ["units", "quantity"] [] := FunD.bindsN G fun _ _ _ _ _ _ us hl => match us, hl with | [_, _], _ => rfl
theorem bd_58 (G : FunD K "check_known" "check_known" (defArgs (top 58)) (defBody (top 58)) (defScope (top 58)) [] [] a fd) : Binds K fd ["units", "quantity"] [] := FunD.bindsN G fun _ _ _ _ _ _ us hl => match us, hl with | [_, _], _ => rfl
theorem bd_59 (G : FunD K "at" "at" (defArgs (top 59)) (defBody (top 59)) (defScope (top 59)) [] [] a fd) : Binds K fd ["units", "quantity", "filling"] [] := FunD.bindsN G fun _ _ _ _ _ _ us hl => match us, hl with | [_, _, _], _ => rfl
theorem bd_61 (G : FunD K "with_values" "with_values" (defArgs (top 61)) (defBody (top 61)) (defScope (top 61)) [] [] a fd) : Binds K fd ["bases", "lot", "view"] [] := FunD.bindsN G fun _ _ _ _ _ _ us hl => match us, hl with | [_, _, _], _ => rfl
theorem bd_62 (G : FunD K "corner_by" "corner_by" (defArgs (top 62)) (defBody (top 62)) (defScope (top 62)) [] [] a fd) : Binds K fd ["units", "lot", "view", "bases"] [] := FunD.bindsN G fun _ _ _ _ _ _ us hl => match us, hl with | [_, _, _, _], _ => rfl
theorem bd_63 (G : FunD K "signed" "signed" (defArgs (top 63)) (defBody (top 63)) (defScope (top 63)) [] [] a fd) : Binds K fd ["fraction", "sign"] [] := FunD.bindsN G fun _ _ _ _ _ _ us hl => match us, hl with | [_, _], _ => rfl
theorem bd_64 (G : FunD K "part_at" "part_at" (defArgs (top 64)) (defBody (top 64)) (defScope (top 64)) [] [] a fd) : Binds K fd ["units", "quantity", "lot", "view", "bases"] [] := FunD.bindsN G fun _ _ _ _ _ _ us hl => match us, hl with | [_, _, _, _, _], _ => rfl
theorem bd_65 (G : FunD K "parts_by" "parts_by" (defArgs (top 65)) (defBody (top 65)) (defScope (top 65)) [] [] a fd) : Binds K fd ["units", "quantity", "lot", "bases"] [] := FunD.bindsN G fun _ _ _ _ _ _ us hl => match us, hl with | [_, _, _, _], _ => rfl
theorem bd_66 (G : FunD K "part_of" "part_of" (defArgs (top 66)) (defBody (top 66)) (defScope (top 66)) [] [] a fd) : Binds K fd ["units", "quantity", "lot"] [] := FunD.bindsN G fun _ _ _ _ _ _ us hl => match us, hl with | [_, _, _], _ => rfl
theorem bd_67 (G : FunD K "book_by" "book_by" (defArgs (top 67)) (defBody (top 67)) (defScope (top 67)) [] [] a fd) : Binds K fd ["units", "quantity", "bases"] [] := FunD.bindsN G fun _ _ _ _ _ _ us hl => match us, hl with | [_, _, _], _ => rfl
theorem bd_68 (G : FunD K "knots_by" "knots_by" (defArgs (top 68)) (defBody (top 68)) (defScope (top 68)) [] [] a fd) : Binds K fd ["units", "quantity", "bases"] [] := FunD.bindsN G fun _ _ _ _ _ _ us hl => match us, hl with | [_, _, _], _ => rfl
theorem bd_69 (G : FunD K "knots" "knots" (defArgs (top 69)) (defBody (top 69)) (defScope (top 69)) [] [] a fd) : Binds K fd ["units", "quantity"] [] := FunD.bindsN G fun _ _ _ _ _ _ us hl => match us, hl with | [_, _], _ => rfl
theorem bd_70 (G : FunD K "knots_at" "knots_at" (defArgs (top 70)) (defBody (top 70)) (defScope (top 70)) [] [] a fd) : Binds K fd ["units", "quantity", "filling"] [] := FunD.bindsN G fun _ _ _ _ _ _ us hl => match us, hl with | [_, _, _], _ => rfl
theorem bd_72 (G : FunD K "is_chance" "is_chance" (defArgs (top 72)) (defBody (top 72)) (defScope (top 72)) [] [] a fd) : Binds K fd ["thing"] [] := FunD.bindsN G fun _ _ _ _ _ _ us hl => match us, hl with | [_], _ => rfl
theorem bd_73 (G : FunD K "plan_wrong" "plan_wrong" (defArgs (top 73)) (defBody (top 73)) (defScope (top 73)) [] [] a fd) : Binds K fd ["units", "thing"] [] := FunD.bindsN G fun _ _ _ _ _ _ us hl => match us, hl with | [_, _], _ => rfl
theorem bd_74 (G : FunD K "check_plan" "check_plan" (defArgs (top 74)) (defBody (top 74)) (defScope (top 74)) [] [] a fd) : Binds K fd ["units", "plan"] [] := FunD.bindsN G fun _ _ _ _ _ _ us hl => match us, hl with | [_, _], _ => rfl
theorem bd_75 (G : FunD K "check_both" "check_both" (defArgs (top 75)) (defBody (top 75)) (defScope (top 75)) [] [] a fd) : Binds K fd ["units", "plan"] [] := FunD.bindsN G fun _ _ _ _ _ _ us hl => match us, hl with | [_, _], _ => rfl
theorem bd_76 (G : FunD K "samples_by" "samples_by" (defArgs (top 76)) (defBody (top 76)) (defScope (top 76)) [] [] a fd) : Binds K fd ["plan"] [] := FunD.bindsN G fun _ _ _ _ _ _ us hl => match us, hl with | [_], _ => rfl
theorem bd_77 (G : FunD K "within_by" "within_by" (defArgs (top 77)) (defBody (top 77)) (defScope (top 77)) [] [] a fd) : Binds K fd ["plan", "lot"] [] := FunD.bindsN G fun _ _ _ _ _ _ us hl => match us, hl with | [_, _], _ => rfl
theorem bd_78 (G : FunD K "is_held" "is_held" (defArgs (top 78)) (defBody (top 78)) (defScope (top 78)) [] [] a fd) : Binds K fd ["plan", "lot"] [] := FunD.bindsN G fun _ _ _ _ _ _ us hl => match us, hl with | [_, _], _ => rfl
theorem bd_80 (G : FunD K "rule_wrong" "rule_wrong" (defArgs (top 80)) (defBody (top 80)) (defScope (top 80)) [] [] a fd) : Binds K fd ["units", "plan", "thing"] [] := FunD.bindsN G fun _ _ _ _ _ _ us hl => match us, hl with | [_, _, _], _ => rfl
theorem bd_81 (G : FunD K "check_rule" "check_rule" (defArgs (top 81)) (defBody (top 81)) (defScope (top 81)) [] [] a fd) : Binds K fd ["units", "plan", "rule"] [] := FunD.bindsN G fun _ _ _ _ _ _ us hl => match us, hl with | [_, _, _], _ => rfl
theorem bd_82 (G : FunD K "check_all" "check_all" (defArgs (top 82)) (defBody (top 82)) (defScope (top 82)) [] [] a fd) : Binds K fd ["units", "plan", "rule"] [] := FunD.bindsN G fun _ _ _ _ _ _ us hl => match us, hl with | [_, _, _], _ => rfl
theorem bd_83 (G : FunD K "told_at" "told_at" (defArgs (top 83)) (defBody (top 83)) (defScope (top 83)) [] [] a fd) : Binds K fd ["units", "plan", "rule", "filling"] [] := FunD.bindsN G fun _ _ _ _ _ _ us hl => match us, hl with | [_, _, _, _], _ => rfl
theorem bd_84 (G : FunD K "told_by" "told_by" (defArgs (top 84)) (defBody (top 84)) (defScope (top 84)) [] [] a fd) : Binds K fd ["units", "plan", "rule", "filling"] [] := FunD.bindsN G fun _ _ _ _ _ _ us hl => match us, hl with | [_, _, _, _], _ => rfl
theorem bd_86 (G : FunD K "mean_at" "mean_at" (defArgs (top 86)) (defBody (top 86)) (defScope (top 86)) [] [] a fd) : Binds K fd ["units", "plan", "rule", "filling"] [] := FunD.bindsN G fun _ _ _ _ _ _ us hl => match us, hl with | [_, _, _, _], _ => rfl
theorem bd_87 (G : FunD K "means_by" "means_by" (defArgs (top 87)) (defBody (top 87)) (defScope (top 87)) [] [] a fd) : Binds K fd ["units", "plan", "rule"] [] := FunD.bindsN G fun _ _ _ _ _ _ us hl => match us, hl with | [_, _, _], _ => rfl
theorem bd_88 (G : FunD K "means_of" "means_of" (defArgs (top 88)) (defBody (top 88)) (defScope (top 88)) [] [] a fd) : Binds K fd ["units", "plan", "rule"] [] := FunD.bindsN G fun _ _ _ _ _ _ us hl => match us, hl with | [_, _, _], _ => rfl
theorem bd_89 (G : FunD K "spread_at" "spread_at" (defArgs (top 89)) (defBody (top 89)) (defScope (top 89)) [] [] a fd) : Binds K fd ["units", "plan", "rule", "filling"] [] := FunD.bindsN G fun _ _ _ _ _ _ us hl => match us, hl with | [_, _, _, _], _ => rfl
theorem bd_90 (G : FunD K "spreads_by" "spreads_by" (defArgs (top 90)) (defBody (top 90)) (defScope (top 90)) [] [] a fd) : Binds K fd ["units", "plan", "rule"] [] := FunD.bindsN G fun _ _ _ _ _ _ us hl => match us, hl with | [_, _, _], _ => rfl
theorem bd_91 (G : FunD K "spreads_of" "spreads_of" (defArgs (top 91)) (defBody (top 91)) (defScope (top 91)) [] [] a fd) : Binds K fd ["units", "plan", "rule"] [] := FunD.bindsN G fun _ _ _ _ _ _ us hl => match us, hl with | [_, _, _], _ => rfl
theorem bd_92 (G : FunD K "bias_at" "bias_at" (defArgs (top 92)) (defBody (top 92)) (defScope (top 92)) [] [] a fd) : Binds K fd ["units", "plan", "rule", "quantity"] [] := FunD.bindsN G fun _ _ _ _ _ _ us hl => match us, hl with | [_, _, _, _], _ => rfl
theorem bd_93 (G : FunD K "shifted_by" "shifted_by" (defArgs (top 93)) (defBody (top 93)) (defScope (top 93)) [] [] a fd) : Binds K fd ["units", "plan", "rule", "quantity", "filling"] [] := FunD.bindsN G fun _ _ _ _ _ _ us hl => match us, hl with | [_, _, _, _, _], _ => rfl
theorem bd_94 (G : FunD K "shifted" "shifted" (defArgs (top 94)) (defBody (top 94)) (defScope (top 94)) [] [] a fd) : Binds K fd ["units", "plan", "rule", "quantity", "filling"] [] := FunD.bindsN G fun _ _ _ _ _ _ us hl => match us, hl with | [_, _, _, _, _], _ => rfl
theorem bd_95 (G : FunD K "rule_telling" "rule_telling" (defArgs (top 95)) (defBody (top 95)) (defScope (top 95)) [] [] a fd) : Binds K fd ["units", "plan", "known"] [] := FunD.bindsN G fun _ _ _ _ _ _ us hl => match us, hl with | [_, _, _], _ => rfl
theorem bd_97 (G : FunD K "check_asked" "check_asked" (defArgs (top 97)) (defBody (top 97)) (defScope (top 97)) [] [] a fd) : Binds K fd ["units", "plan", "quantity"] [] := FunD.bindsN G fun _ _ _ _ _ _ us hl => match us, hl with | [_, _, _], _ => rfl
theorem bd_98 (G : FunD K "unheld_by" "unheld_by" (defArgs (top 98)) (defBody (top 98)) (defScope (top 98)) [] [] a fd) : Binds K fd ["plan", "book"] [] := FunD.bindsN G fun _ _ _ _ _ _ us hl => match us, hl with | [_, _], _ => rfl
theorem bd_99 (G : FunD K "by_parts" "by_parts" (defArgs (top 99)) (defBody (top 99)) (defScope (top 99)) [] [] a fd) : Binds K fd ["units", "plan", "quantity"] [] := FunD.bindsN G fun _ _ _ _ _ _ us hl => match us, hl with | [_, _, _], _ => rfl
theorem bd_100 (G : FunD K "parts_rule" "parts_rule" (defArgs (top 100)) (defBody (top 100)) (defScope (top 100)) [] [] a fd) : Binds K fd ["units", "plan", "quantity"] [] := FunD.bindsN G fun _ _ _ _ _ _ us hl => match us, hl with | [_, _, _], _ => rfl
theorem bd_101 (G : FunD K "rule_or_knot" "rule_or_knot" (defArgs (top 101)) (defBody (top 101)) (defScope (top 101)) [] [] a fd) : Binds K fd ["units", "plan", "quantity"] [] := FunD.bindsN G fun _ _ _ _ _ _ us hl => match us, hl with | [_, _, _], _ => rfl
theorem bd_102 (G : FunD K "unbiased_wrong" "unbiased_wrong" (defArgs (top 102)) (defBody (top 102)) (defScope (top 102)) [] [] a fd) : Binds K fd ["units", "plan", "quantity", "thing"] [] := FunD.bindsN G fun _ _ _ _ _ _ us hl => match us, hl with | [_, _, _, _], _ => rfl
theorem bd_103 (G : FunD K "corner" "corner" (defArgs (top 103)) (defBody (top 103)) (defScope (top 103)) [] [] a fd) : Binds K fd ["units", "lot", "view"] [] := FunD.bindsN G fun _ _ _ _ _ _ us hl => match us, hl with | [_, _, _], _ => rfl
theorem bd_107 (G : FunD K "check_unbiased" "check_unbiased" (defArgs (top 107)) (defBody (top 107)) (defScope (top 107)) [] [] a fd) : Binds K fd ["units", "plan", "rule", "quantity"] [] := FunD.bindsN G fun _ _ _ _ _ _ us hl => match us, hl with | [_, _, _, _], _ => rfl
theorem bd_108 (G : FunD K "spread_first" "spread_first" (defArgs (top 108)) (defBody (top 108)) (defScope (top 108)) [] [] a fd) : Binds K fd ["units", "plan", "rule"] [] := FunD.bindsN G fun _ _ _ _ _ _ us hl => match us, hl with | [_, _, _], _ => rfl
theorem bd_109 (G : FunD K "beaten_wrong" "beaten_wrong" (defArgs (top 109)) (defBody (top 109)) (defScope (top 109)) [] [] a fd) : Binds K fd ["units", "plan", "rule", "quantity", "filling", "other"] [] := FunD.bindsN G fun _ _ _ _ _ _ us hl => match us, hl with | [_, _, _, _, _, _], _ => rfl
theorem bd_110 (G : FunD K "best_fault" "best_fault" (defArgs (top 110)) (defBody (top 110)) (defScope (top 110)) [] [] a fd) : Binds K fd ["units", "plan", "rule", "quantity", "thing"] [] := FunD.bindsN G fun _ _ _ _ _ _ us hl => match us, hl with | [_, _, _, _, _], _ => rfl
theorem bd_111 (G : FunD K "alike_by" "alike_by" (defArgs (top 111)) (defBody (top 111)) (defScope (top 111)) [] [] a fd) : Binds K fd ["sample", "one", "other"] [] := FunD.bindsN G fun _ _ _ _ _ _ us hl => match us, hl with | [_, _, _], _ => rfl
theorem bd_112 (G : FunD K "parted_by" "parted_by" (defArgs (top 112)) (defBody (top 112)) (defScope (top 112)) [] [] a fd) : Binds K fd ["units", "plan", "quantity"] [] := FunD.bindsN G fun _ _ _ _ _ _ us hl => match us, hl with | [_, _, _], _ => rfl
theorem bd_113 (G : FunD K "check_held" "check_held" (defArgs (top 113)) (defBody (top 113)) (defScope (top 113)) [] [] a fd) : Binds K fd ["units", "plan", "quantity"] [] := FunD.bindsN G fun _ _ _ _ _ _ us hl => match us, hl with | [_, _, _], _ => rfl
theorem bd_114 (G : FunD K "least_or_none" "least_or_none" (defArgs (top 114)) (defBody (top 114)) (defScope (top 114)) [] [] a fd) : Binds K fd ["units", "plan", "quantity"] [] := FunD.bindsN G fun _ _ _ _ _ _ us hl => match us, hl with | [_, _, _], _ => rfl
theorem bd_115 (G : FunD K "none_wrong" "none_wrong" (defArgs (top 115)) (defBody (top 115)) (defScope (top 115)) [] [] a fd) : Binds K fd ["units", "plan", "quantity", "sample", "fillings"] [] := FunD.bindsN G fun _ _ _ _ _ _ us hl => match us, hl with | [_, _, _, _, _], _ => rfl
theorem bd_116 (G : FunD K "always_wrong" "always_wrong" (defArgs (top 116)) (defBody (top 116)) (defScope (top 116)) [] [] a fd) : Binds K fd ["units", "plan", "quantity", "thing"] [] := FunD.bindsN G fun _ _ _ _ _ _ us hl => match us, hl with | [_, _, _, _], _ => rfl
theorem bd_117 (G : FunD K "least_fault" "least_fault" (defArgs (top 117)) (defBody (top 117)) (defScope (top 117)) [] [] a fd) : Binds K fd ["units", "plan", "quantity", "thing"] [] := FunD.bindsN G fun _ _ _ _ _ _ us hl => match us, hl with | [_, _, _, _], _ => rfl
theorem bd_121 (G : FunD K "_law_same" "_law_same" (defArgs (top 121)) (defBody (top 121)) (defScope (top 121)) [] [] a fd) : Binds K fd ["found", "due"] [] := FunD.bindsN G fun _ _ _ _ _ _ us hl => match us, hl with | [_, _], _ => rfl
theorem bd_122 (G : FunD K "_law_first_right" "_law_first_right" (defArgs (top 122)) (defBody (top 122)) (defScope (top 122)) [] [] a fd) : Binds K fd [] [] := FunD.bindsN G fun _ _ _ _ _ _ us hl => match us, hl with | [], _ => rfl
theorem bd_123 (G : FunD K "_law_later_right" "_law_later_right" (defArgs (top 123)) (defBody (top 123)) (defScope (top 123)) [] [] a fd) : Binds K fd [] [] := FunD.bindsN G fun _ _ _ _ _ _ us hl => match us, hl with | [], _ => rfl
theorem bd_124 (G : FunD K "law" "law" (defArgs (top 124)) (defBody (top 124)) (defScope (top 124)) [] [] a fd) : Binds K fd ["script"] [] := FunD.bindsN G fun _ _ _ _ _ _ us hl => match us, hl with | [_], _ => rfl
theorem bd_119 (G : FunD K "_law_stream" "_law_stream" (defArgs (top 119)) (defBody (top 119)) (defScope (top 119)) [] [] a fd) : Binds K fd ["script"] [] := FunD.bindsN G fun _ _ _ _ _ _ us hl => match us, hl with | [_], _ => rfl
theorem bd_120 (G : FunD K "_law_draw" "_law_draw" (defArgs (top 120)) (defBody (top 120)) (defScope (top 120)) [] [] a fd) : Binds K fd ["stream", "many"] [] := FunD.bindsN G fun _ _ _ _ _ _ us hl => match us, hl with | [_, _], _ => rfl
theorem bdA (G : FunD K "law" "law" (defArgs (top 124)) (defBody (top 124)) (defScope (top 124)) [] [] a fd) (s : Shared) (v : Value) : BindsTo s fd ⟨[v], []⟩ [("script", v)] := FunD.bindsA (ps := ["script"]) G (fun _ _ _ _ _ _ us hl => match us, hl with | [_], _ => rfl) s [v] rfl
end
def Bd (e : Str × (Df × Nat)) : Prop := ∀ (K : PySem.W.Frag) (a : Addr) (fd : FuncData), FunD K e.1 e.1 (defArgs (top e.2.2)) (defBody (top e.2.2)) (defScope (top e.2.2)) [] [] a fd → Binds K fd e.2.1.ps []
theorem bds : ∀ e ∈ ents, Bd e := by
  have h : ListAll Bd ents := ⟨fun _ _ _ G => bd_3 G, ⟨fun _ _ _ G => bd_4 G, ⟨fun _ _ _ G => bd_5 G, ⟨fun _ _ _ G => bd_6 G, ⟨fun _ _ _ G => bd_7 G, ⟨fun _ _ _ G => bd_8 G, ⟨fun _ _ _ G => bd_9 G, ⟨fun _ _ _ G => bd_10 G, ⟨fun _ _ _ G => bd_11 G, ⟨fun _ _ _ G => bd_12 G, ⟨fun _ _ _ G => bd_27 G, ⟨fun _ _ _ G => bd_28 G, ⟨fun _ _ _ G => bd_29 G, ⟨fun _ _ _ G => bd_30 G, ⟨fun _ _ _ G => bd_31 G, ⟨fun _ _ _ G => bd_32 G, ⟨fun _ _ _ G => bd_33 G, ⟨fun _ _ _ G => bd_34 G, ⟨fun _ _ _ G => bd_35 G, ⟨fun _ _ _ G => bd_36 G, ⟨fun _ _ _ G => bd_38 G, ⟨fun _ _ _ G => bd_39 G, ⟨fun _ _ _ G => bd_40 G, ⟨fun _ _ _ G => bd_41 G, ⟨fun _ _ _ G => bd_42 G, ⟨fun _ _ _ G => bd_43 G, ⟨fun _ _ _ G => bd_44 G, ⟨fun _ _ _ G => bd_45 G, ⟨fun _ _ _ G => bd_46 G, ⟨fun _ _ _ G => bd_47 G, ⟨fun _ _ _ G => bd_48 G, ⟨fun _ _ _ G => bd_49 G, ⟨fun _ _ _ G => bd_50 G, ⟨fun _ _ _ G => bd_51 G, ⟨fun _ _ _ G => bd_52 G, ⟨fun _ _ _ G => bd_53 G, ⟨fun _ _ _ G => bd_54 G, ⟨fun _ _ _ G => bd_56 G, ⟨fun _ _ _ G => bd_57 G, ⟨fun _ _ _ G => bd_58 G, ⟨fun _ _ _ G => bd_59 G, ⟨fun _ _ _ G => bd_61 G, ⟨fun _ _ _ G => bd_62 G, ⟨fun _ _ _ G => bd_63 G, ⟨fun _ _ _ G => bd_64 G, ⟨fun _ _ _ G => bd_65 G, ⟨fun _ _ _ G => bd_66 G, ⟨fun _ _ _ G => bd_67 G, ⟨fun _ _ _ G => bd_68 G, ⟨fun _ _ _ G => bd_69 G, ⟨fun _ _ _ G => bd_70 G, ⟨fun _ _ _ G => bd_72 G, ⟨fun _ _ _ G => bd_73 G, ⟨fun _ _ _ G => bd_74 G, ⟨fun _ _ _ G => bd_75 G, ⟨fun _ _ _ G => bd_76 G, ⟨fun _ _ _ G => bd_77 G, ⟨fun _ _ _ G => bd_78 G, ⟨fun _ _ _ G => bd_80 G, ⟨fun _ _ _ G => bd_81 G, ⟨fun _ _ _ G => bd_82 G, ⟨fun _ _ _ G => bd_83 G, ⟨fun _ _ _ G => bd_84 G, ⟨fun _ _ _ G => bd_86 G, ⟨fun _ _ _ G => bd_87 G, ⟨fun _ _ _ G => bd_88 G, ⟨fun _ _ _ G => bd_89 G, ⟨fun _ _ _ G => bd_90 G, ⟨fun _ _ _ G => bd_91 G, ⟨fun _ _ _ G => bd_92 G, ⟨fun _ _ _ G => bd_93 G, ⟨fun _ _ _ G => bd_94 G, ⟨fun _ _ _ G => bd_95 G, ⟨fun _ _ _ G => bd_97 G, ⟨fun _ _ _ G => bd_98 G, ⟨fun _ _ _ G => bd_99 G, ⟨fun _ _ _ G => bd_100 G, ⟨fun _ _ _ G => bd_101 G, ⟨fun _ _ _ G => bd_102 G, ⟨fun _ _ _ G => bd_103 G, ⟨fun _ _ _ G => bd_107 G, ⟨fun _ _ _ G => bd_108 G, ⟨fun _ _ _ G => bd_109 G, ⟨fun _ _ _ G => bd_110 G, ⟨fun _ _ _ G => bd_111 G, ⟨fun _ _ _ G => bd_112 G, ⟨fun _ _ _ G => bd_113 G, ⟨fun _ _ _ G => bd_114 G, ⟨fun _ _ _ G => bd_115 G, ⟨fun _ _ _ G => bd_116 G, ⟨fun _ _ _ G => bd_117 G, ⟨fun _ _ _ G => bd_121 G, ⟨fun _ _ _ G => bd_122 G, ⟨fun _ _ _ G => bd_123 G, trivial⟩⟩⟩⟩⟩⟩⟩⟩⟩⟩⟩⟩⟩⟩⟩⟩⟩⟩⟩⟩⟩⟩⟩⟩⟩⟩⟩⟩⟩⟩⟩⟩⟩⟩⟩⟩⟩⟩⟩⟩⟩⟩⟩⟩⟩⟩⟩⟩⟩⟩⟩⟩⟩⟩⟩⟩⟩⟩⟩⟩⟩⟩⟩⟩⟩⟩⟩⟩⟩⟩⟩⟩⟩⟩⟩⟩⟩⟩⟩⟩⟩⟩⟩⟩⟩⟩⟩⟩⟩⟩⟩⟩⟩⟩
  exact listAll_mem h
def depth : Nat := 30
theorem t1 : isT (callX F 100000 30 "_law_first_right" []) = true := by decide +kernel
theorem t2 : isT (callX F 100000 30 "_law_later_right" []) = true := by decide +kernel
theorem no_draw : F "_law_draw" = none := by kernel_rfl
theorem sem : evSs (callN PrD F 100000 depth) 100000 lawB (lawEnv lawN.length) 0 (endOf fun v _ => v = .bl true) (fun _ _ => False) := by
  have hX := callX_ok (F := F) (n := 100000) prD_mono depth
  have go : ∀ (c : Nat), ev (callN PrD F 100000 depth) (.and (.call "_law_first_right" .nil) (.call "_law_later_right" .nil)) (lawEnv lawN.length) c (fun v _ => v = .bl true) (fun _ _ => False) := fun c => by
    unfold ev
    unfold ev evs
    refine hX _ _ c _ _ ?_
    have e1 : callX F 100000 depth "_law_first_right" [] = .ok (.bl true) := isT_ok t1
    rw [e1]
    show (if true = true then ev (callN PrD F 100000 depth) (.call "_law_later_right" .nil) (lawEnv lawN.length) c (fun v _ => v = .bl true) (fun _ _ => False) else (PV.bl true = PV.bl true))
    rw [if_pos rfl]
    unfold ev evs
    refine hX _ _ c _ _ ?_
    have e2 : callX F 100000 depth "_law_later_right" [] = .ok (.bl true) := isT_ok t2
    rw [e2]
    rfl
  have dr : ev (callN PrD F 100000 depth) (.cmp .ge (.call "_law_draw" (.cons (.var 1) (.cons (.int 2) .nil))) (.int 0)) (lawEnv lawN.length) 0 (fun v _ => v = .bl true) (fun _ _ => False) := by
    unfold ev
    unfold ev evs
    unfold ev slotV evs
    unfold ev evs
    refine callN_prim (m := 29) no_draw ⟨rfl, 2, rfl, by decide, by decide, by decide, fun r h0 h2 => ?_⟩
    dsimp only
    unfold ev
    show opt (some (decide ((0 : Int) ≤ r))) (fun z => PV.bl z = .bl true)
    rw [decide_eq_true h0]
    rfl
  have all : ev (callN PrD F 100000 depth) (.and (.cmp .ge (.call "_law_draw" (.cons (.var 1) (.cons (.int 2) .nil))) (.int 0)) (.and (.call "_law_first_right" .nil) (.call "_law_later_right" .nil))) (lawEnv lawN.length) 0 (fun v _ => v = .bl true) (fun _ _ => False) := by
    unfold ev
    refine ev_mono (callN_mono prD_mono depth) _ _ _ (fun v c q => ?_) (fun _ _ z => z) dr
    rw [q]
    show (if true = true then ev (callN PrD F 100000 depth) (.and (.call "_law_first_right" .nil) (.call "_law_later_right" .nil)) (lawEnv lawN.length) c (fun v _ => v = .bl true) (fun _ _ => False) else (PV.bl true = PV.bl true))
    rw [if_pos rfl]
    exact go c
  unfold lawB evSs evS
  exact all

section
variable {P : Program} {w : World} {K : PySem.W.Frag} {h : Heap} {mg : Str → Option Value}
theorem fact (c : He.SaysX fa fn ts [] ex w h K) {f : He.Fa} (i : Nat) (e : fa[i]? = some f) : f.ok K = true := c.t.d.fact i e
theorem glo_of (X : K.In h) (G : h.Ns mainGlobals mg) (c : He.SaysX fa fn ts [] ex w h K) {d : He.DefD} (hd : d ∈ fn) : mg d.name = some (.ref (He.ga K d.name)) :=
  He.glo_ok X G (c.t.d.facts (f := .glo d.name) (List.mem_append_right _ (List.mem_map.mpr ⟨d, hd, rfl⟩)))
theorem ex_0 (c : He.SaysX fa fn ts [] ex w h K) : He.tupB K "NOUGHT" [.int 0, .int 1] = true := ((Bool.and_eq_true _ _).mp ((Bool.and_eq_true _ _).mp ((Bool.and_eq_true _ _).mp c.more).1).1).1
theorem ex_1 (c : He.SaysX fa fn ts [] ex w h K) : He.tupB K "ONE" [.int 1, .int 1] = true := ((Bool.and_eq_true _ _).mp ((Bool.and_eq_true _ _).mp ((Bool.and_eq_true _ _).mp c.more).1).1).2
theorem ex_2 (c : He.SaysX fa fn ts [] ex w h K) : valD K "BEST" [1, 3] = true := ((Bool.and_eq_true _ _).mp ((Bool.and_eq_true _ _).mp c.more).1).2
theorem ex_3 (c : He.SaysX fa fn ts [] ex w h K) : valD K "LEAST" [2, 4] = true := ((Bool.and_eq_true _ _).mp c.more).2
theorem tab_0 (c : He.SaysX fa fn ts [] ex w h K) : He.dicW K (He.ga K "BEST") = some (He.keysIn w.params ["best", "beaten"]) := tab_at c.t 0 (t := ((fun K => He.ga K "BEST"), ["best", "beaten"])) rfl
theorem tab_1 (c : He.SaysX fa fn ts [] ex w h K) : He.dicW K (He.ga K "LEAST") = some (He.keysIn w.params ["best", "none"]) := tab_at c.t 1 (t := ((fun K => He.ga K "LEAST"), ["best", "none"])) rfl
theorem env1 (X : K.In h) (G : h.Ns mainGlobals mg) (c : He.SaysX fa fn ts [] ex w h K) : Env1 P w K mg cm where
  nob := fun b => by
    cases b
    · exact He.free_ok X G (fact c 6 rfl)
    · exact He.free_ok X G (fact c 7 rfl)
    · exact He.free_ok X G (fact c 8 rfl)
    · exact He.free_ok X G (fact c 9 rfl)
    · exact He.free_ok X G (fact c 10 rfl)
    · exact He.free_ok X G (fact c 11 rfl)
    · exact He.free_ok X G (fact c 12 rfl)
    · exact He.free_ok X G (fact c 13 rfl)
    · exact He.free_ok X G (fact c 13 rfl)
    · exact He.free_ok X G (fact c 14 rfl)
    · exact He.free_ok X G (fact c 15 rfl)
    · exact He.free_ok X G (fact c 16 rfl)
    · exact He.free_ok X G (fact c 17 rfl)
    · exact He.free_ok X G (fact c 18 rfl)
    · exact He.free_ok X G (fact c 19 rfl)
    · exact He.free_ok X G (fact c 20 rfl)
  nob2 := ⟨He.free_ok X G (fact c 21 rfl), He.free_ok X G (fact c 22 rfl), He.free_ok X G (fact c 23 rfl), He.free_ok X G (fact c 24 rfl)⟩
  gl := listAll_mem (show ListAll _ cm.gl from ⟨(let ⟨t, e⟩ := He.int_ok X G (fact c 4 rfl); ⟨_, .int 8, e, ⟨t, rfl⟩, fun W hW H O => .int⟩), ⟨⟨_, .ref (He.ga K "NOUGHT"), He.glo_ok X G (fact c 2 rfl), rfl, fun W hW H O => .tupK (fun H' => by rw [hW]; exact He.tupB_ok (ex_0 c) H') (ints_rep' [0, 1])⟩, ⟨⟨_, .ref (He.ga K "ONE"), He.glo_ok X G (fact c 3 rfl), rfl, fun W hW H O => .tupK (fun H' => by rw [hW]; exact He.tupB_ok (ex_1 c) H') (ints_rep' [1, 1])⟩, ⟨(let ⟨t, e⟩ := He.str_ok X G (fact c 5 rfl); ⟨_, .str "abcdefghijklmnopqrstuvwxyz", e, ⟨t, rfl⟩, fun W hW H O => .str⟩), trivial⟩⟩⟩⟩)
  gd := listAll_mem (show ListAll _ cm.gd from ⟨(let ⟨a1, a2, a3⟩ := gd_ok (P := P) (tab_0 c) (ex_2 c) (by decide); ⟨_, He.glo_ok X G (fact c 0 rfl), a1, a2, by decide, a3⟩), ⟨(let ⟨a1, a2, a3⟩ := gd_ok (P := P) (tab_1 c) (ex_3 c) (by decide); ⟨_, He.glo_ok X G (fact c 1 rfl), a1, a2, by decide, a3⟩), trivial⟩⟩)
theorem f_ents {e : Str × (Df × Nat)} (he : e ∈ ents) : F e.1 = some e.2.1 := by
  unfold F
  rw [lookup_nodup ents_nd he]; rfl
theorem dn_of {f : Str} {st : Stmt} {N ps : List Str} (X : K.In h) (G : h.Ns mainGlobals mg) (c : He.SaysX fa fn ts [] ex w h K) (i : Nat) (e : fn[i]? = some ⟨(f, none), f, f, defArgs st, defBody st, defScope st, [], []⟩)
    (hb : ∀ (a : Addr) (fd : FuncData), FunD K f f (defArgs st) (defBody st) (defScope st) [] [] a fd → Binds K fd ps []) (hs : scB N ps (defScope st) = true) : ∃ a fd, Dn K mg f st N ps a fd := by
  obtain ⟨fd, D⟩ := c.t.d.def_ i e
  exact ⟨_, fd, glo_of X G c (d := ⟨(f, none), f, f, defArgs st, defBody st, defScope st, [], []⟩) (List.mem_of_getElem? e), D, hb _ _ D, scB_ok hs⟩
theorem facts {f : Addr} (X : K.In h) (G : h.Ns mainGlobals mg) (hfa : mg ("law" : Str) = some (.ref f)) (c : He.SaysX fa fn ts [] ex w h K) :
    ∃ fd : FuncData, (∀ (s : Shared) (v : Value), BindsTo s fd ⟨[v], []⟩ [("script", v)]) ∧ ∀ base : Heap, K.In base → base.Ns mainGlobals mg → FnOk P w K mg base CX0 (2 * depth + 10) f fd ["script"] (spLaw K) := by
  have e1 : Env1 P w K mg cm := env1 X G c
  obtain ⟨a0, fd0, D0⟩ := dn_of (N := lawN) (ps := ["script"]) X G c 0 rfl (fun a fd D => bd_124 D) sc_law
  obtain ⟨a1, fd1, D1⟩ := dn_of (N := ["script"]) (ps := ["script"]) X G c 1 rfl (fun a fd D => bd_119 D) sc_str
  obtain ⟨a2, fd2, D2⟩ := dn_of (N := dN) (ps := ["stream", "many"]) X G c 2 rfl (fun a fd D => bd_120 D) sc_draw
  have ef : a0 = f := by
    have := D0.mgf
    rw [hfa] at this
    injection this with t
    injection t with t
    exact t.symm
  subst ef
  refine ⟨fd0, fun s v => bdA D0.fn s v, fun base _ _ => ?_⟩
  have T := tab_all (P := P) (w := w) (K := K) (mg := mg) (base := base) (cm := cm) (Pr := PrD) (F := F) (n := 100000) prD_mono e1 (fun f m hm => by
    rw [dom_ok] at hm
    rcases List.mem_append.mp hm with hm | hm
    · obtain ⟨e, he, z⟩ := List.mem_map.mp hm
      cases z
      have ok := List.all_eq_true.mp ents_ok e he
      unfold entOk at ok
      simp only [Bool.and_eq_true] at ok
      refine .inl ⟨e.2.1, f_ents he, rfl, ?_⟩
      have hd : mkD e ∈ fn := List.mem_cons_of_mem _ (List.mem_cons_of_mem _ (List.mem_cons_of_mem _ (List.mem_map.mpr ⟨e, he, rfl⟩)))
      obtain ⟨fd, D⟩ := c.t.d.defs hd
      exact ⟨_, fd, top e.2.2, glo_of X G c hd, D, bds e he _ _ _ D, scB_ok ok.1.2, ok.1.1⟩
    · rcases List.mem_cons.mp hm with z | hm
      · cases z
        exact .inr ⟨by decide +kernel, hand_draw e1 D2 draw_ok⟩
      · cases hm) depth
  exact law_ok e1 T D1 str_ok D0 (by decide) law_hd law_bd sem
end
end KK
open PySem PySem.W PySem.Calls PyProof.Rows
theorem PySem.Challenge.cw_seentogether_k29_whole_examples_of_the_f_holds : PySem.Challenge.rw_seentogether_k29_whole_examples_of_the_f.Holds := by
  w_on; o_law
  refine HandSHeadRun.head_any (r := OpenLaw.row PySem.Challenge.rw_seentogether_k29_whole_examples_of_the_f) (q := view (OpenLaw.row PySem.Challenge.rw_seentogether_k29_whole_examples_of_the_f).prog [124]) (H := KK.hk) (ob := KK.ob) (M := 60000) (loose := KK.loose) (d := HandSHeadRun.topDef (OpenLaw.row PySem.Challenge.rw_seentogether_k29_whole_examples_of_the_f).prog 124) (kwd := []) KK.ob_eq
    (by kernel_rfl) (fun s => by kernel_rfl) KK.run (by kernel_rfl) (by kernel_rfl) (by kernel_rfl) (by rfl) (by first | assumption | decide +kernel) (by decide +kernel) ⟨rfl, rfl, rfl, rfl, rfl, by decide +kernel⟩ ?hw ?hc
  case hw => w_witness2
  case hc =>
    refine L2.walk_ofE (l := PySem.Challenge.rw_seentogether_k29_whole_examples_of_the_f) (n := 63) (k := 2 * KK.depth + 10) (x := "script") (CX := L2.CX0) rfl (by decide) (by kernel_rfl) ⟨rfl, by decide, by decide⟩ ?F (fun _ _ _ _ z => z)
    intro w mg fa h Y G hmg0
    obtain ⟨K, KX, c⟩ := Y
    have hmg : mg ("law" : PySem.Str) = some (.ref fa) := by
      have e : (HandSHeadRun.topDef (OpenLaw.row PySem.Challenge.rw_seentogether_k29_whole_examples_of_the_f).prog 124).name = ("law" : PySem.Str) := by kernel_rfl
      rw [← e]
      exact hmg0
    obtain ⟨fd, hb, hF⟩ := KK.facts (P := (PySem.Challenge.rw_seentogether_k29_whole_examples_of_the_f).prog) (w := w) KX G hmg c
    exact ⟨K, fd, Ze.spLaw K, KX, hb, fun H a ns hl _ hS => ⟨a, ns, rfl, hS, fun _ => rfl⟩, hF⟩
