import PyProof.Rows.All
import Wide.All
import OpenK.AllK
import Wide.FinOn
import KE.KMathG
import HandS.Base
import HandS.Call
import HandS.List
import HandS.Deep
import HandS.Comp
import HandS.Ends
import HandS.Iter
import HandS.Exc
import HandS.ExcOwn
import HandS.Words
import HandS.WordsList
import HandS.WordsExc
import HandS.Wide
import HandS.Defaults
import HandS.Zip
import HandS.CallSlots
import HandS.Gcd
import HandS.Flt
import PyProof.LongRange
import HandS.IsInst
import HandS.TryOnly
import HandS.TupAny
import PyProof.FString5
import HandS.Head0
import HandS.Head1
import HandS.Head2
import HandS.Head3
import HandS.HeadEnd
import HandS.EndBits
import HandS.HeadHook1
import HandS.HeadHook2
import Flt.RightSqrt
import PySem.Challenge.RW_orrery_k42_sites_are_in_their_boxes
set_option Elab.async false
set_option linter.all false
set_option maxRecDepth 100000
set_option maxHeartbeats 0
set_option synthInstance.maxSize 100000
set_option synthInstance.maxHeartbeats 0
/-! QA: pure data, what represents it in the abstract heap, the frame of a def's run. -/
namespace Q
open PySem PySem.Spec L2

/-- plain data: what a value of the program is, without addresses -/
inductive D where
  | non
  | bl (b : Bool)
  | int (i : Int)
  | str (s : Str)
  | tup (xs : List D)
  | lst (xs : List D)
  /-- a list that nobody may change: the script, a list of the module's own -/
  | ro (xs : List D)
  /-- an instance of the class number c; ks: its attributes' numbers -/
  | ins (c : Nat) (ks : List Nat) (xs : List D)
  | ty (n : String)

/-- names by numbers: attributes and classes (one table for the whole program) -/
structure Nam where
  at_ : Nat → Str
  cl : Nat → Str

section
variable (N : Nam) (K : PySem.W.Frag)
mutual
inductive Rep (G : Hp) : V → D → Prop
  | non : Rep G .non .non
  | bl (b : Bool) : Rep G (.bl b) (.bl b)
  | int (i : Int) : Rep G (.int i) (.int i)
  | str (x : Str) : Rep G (.str x) (.str x)
  | ty (n : String) : Rep G (.ty n) (.ty n)
  | tup {a : Addr} {xs : List V} {ds : List D} : SqT K G a xs → xs.length ≤ sizeLine → Reps G xs ds → Rep G (.ref a) (.tup ds)
  | lst {a : Addr} {xs : List V} {ds : List D} : G a = some (.lst xs) → xs.length ≤ sizeLine → Reps G xs ds → Rep G (.ref a) (.lst ds)
  | ro {a : Addr} {xs : List V} {ds : List D} : SqL K G a xs → xs.length ≤ sizeLine → Reps G xs ds → Rep G (.ref a) (.ro ds)
  | ins {a dx : Addr} {c : Nat} {ks : List Nat} {xs : List V} {ds : List D} : G a = some (.ins (He.ga K (N.cl c)) dx ((ks.map N.at_).zip xs)) → ks.length = xs.length → Reps G xs ds → Rep G (.ref a) (.ins c ks ds)
inductive Reps (G : Hp) : List V → List D → Prop
  | nil : Reps G [] []
  | cons {v : V} {vs : List V} {d : D} {ds : List D} : Rep G v d → Reps G vs ds → Reps G (v :: vs) (d :: ds)
end
end

section
variable {N : Nam} {K : PySem.W.Frag} {G G' : Hp}
theorem sqT_mono (e : Same G G') {a : Addr} {xs : List V} (h : SqT K G a xs) : SqT K G' a xs := by
  rcases h with (h | ⟨o, h⟩) | h
  · exact .inl (.inl (e _ _ h))
  · exact .inl (.inr ⟨o, e _ _ h⟩)
  · exact .inr h
mutual
theorem Rep.mono (e : Same G G') : ∀ {v : V} {d : D}, Rep N K G v d → Rep N K G' v d
  | _, _, .non => .non
  | _, _, .bl b => .bl b
  | _, _, .int i => .int i
  | _, _, .str x => .str x
  | _, _, .ty n => .ty n
  | _, _, .tup h l r => .tup (sqT_mono e h) l (Reps.mono e r)
  | _, _, .lst h l r => .lst (e _ _ h) l (Reps.mono e r)
  | _, _, .ro h l r => .ro (e.seq h) l (Reps.mono e r)
  | _, _, .ins h l r => .ins (e _ _ h) l (Reps.mono e r)
theorem Reps.mono (e : Same G G') : ∀ {vs : List V} {ds : List D}, Reps N K G vs ds → Reps N K G' vs ds
  | _, _, .nil => .nil
  | _, _, .cons h r => .cons (Rep.mono e h) (Reps.mono e r)
end
theorem Reps.len : ∀ {vs : List V} {ds : List D}, Reps N K G vs ds → vs.length = ds.length
  | _, _, .nil => rfl
  | _, _, .cons _ r => congrArg Nat.succ (Reps.len r)
theorem Reps.get : ∀ {vs : List V} {ds : List D} {i : Nat} {d : D}, Reps N K G vs ds → ds[i]? = some d → ∃ v, vs[i]? = some v ∧ Rep N K G v d
  | _, _, 0, _, .cons h _, e => by
    cases e
    exact ⟨_, rfl, h⟩
  | _, _, i + 1, _, .cons _ r, e => by
    obtain ⟨v, h1, h2⟩ := Reps.get (i := i) r e
    exact ⟨v, h1, h2⟩
theorem Reps.app : ∀ {vs us : List V} {ds es : List D}, Reps N K G vs ds → Reps N K G us es → Reps N K G (vs ++ us) (ds ++ es)
  | _, _, _, _, .nil, s => s
  | _, _, _, _, .cons h r, s => .cons h (Reps.app r s)
theorem Reps.drop : ∀ (n : Nat) {vs : List V} {ds : List D}, Reps N K G vs ds → Reps N K G (vs.drop n) (ds.drop n)
  | 0, _, _, r => r
  | _ + 1, _, _, .nil => .nil
  | n + 1, _, _, .cons _ r => Reps.drop n r
theorem Reps.take : ∀ (n : Nat) {vs : List V} {ds : List D}, Reps N K G vs ds → Reps N K G (vs.take n) (ds.take n)
  | 0, _, _, _ => .nil
  | _ + 1, _, _, .nil => .nil
  | n + 1, _, _, .cons h r => .cons h (Reps.take n r)
theorem Reps.set : ∀ (n : Nat) {vs : List V} {ds : List D} {v : V} {d : D}, Reps N K G vs ds → Rep N K G v d → Reps N K G (vs.set n v) (ds.set n d)
  | _, _, _, _, _, .nil, _ => .nil
  | 0, _, _, _, _, .cons _ r, h => .cons h r
  | n + 1, _, _, _, _, .cons h r, q => .cons h (Reps.set n r q)
theorem Reps.ints : ∀ {ns : List Int}, Reps N K G (ns.map V.int) (ns.map D.int)
  | [] => .nil
  | _ :: _ => .cons (.int _) Reps.ints
end

/-! ### the abstract heap grows: G is its part that nobody changes any more -/
structure Ext (G H G' H' : Hp) : Prop where
  hh : Same H H'
  gg : Same G G'
  sub : Same G' H'
  sep : ∀ a, H a ≠ none → G a = none → G' a = none
section
variable {G H G1 H1 G2 H2 : Hp}
theorem Ext.refl (s : Same G H) : Ext G H G H := ⟨.refl _, .refl _, s, fun _ _ h => h⟩
theorem Ext.trans (a : Ext G H G1 H1) (b : Ext G1 H1 G2 H2) : Ext G H G2 H2 :=
  ⟨a.hh.trans b.hh, a.gg.trans b.gg, b.sub, fun c h1 h2 => b.sep c (fun z => h1 (a.hh.free z)) (a.sep c h1 h2)⟩
theorem same_upd {H : Hp} {p : Addr} {o : HO} (h : H p = none) : Same H (upd H p o) := fun b x e => (upd_ne (ne_of_none e h)).trans e
/-- a new object that stays as it is -/
theorem Ext.new (s : Same G H) {p : Addr} (h : H p = none) (o : HO) : Ext G H (upd G p o) (upd H p o) := by
  refine ⟨same_upd h, same_upd (s.free h), fun b x e => ?_, fun a h1 h2 => ?_⟩
  · by_cases hb : b = p
    · rw [hb, upd_same] at e
      rw [hb, upd_same, e]
    · rw [upd_ne hb] at e
      rw [upd_ne hb]
      exact s _ _ e
  · by_cases hb : a = p
    · rw [hb] at h1
      exact absurd h h1
    · rw [upd_ne hb]
      exact h2
/-- a new object that may still be changed -/
theorem Ext.own (s : Same G H) {p : Addr} (h : H p = none) (o : HO) : Ext G H G (upd H p o) :=
  ⟨same_upd h, .refl _, s.trans (same_upd h), fun _ _ h => h⟩
end

/-! ### slots -/
inductive Sl where
  | un
  | val (d : D)
  | own (ds : List D)
  | obj (c : Nat) (ks : List Nat) (ds : List D)
abbrev Env := List Sl

/-- the frame of a def's run: the heap and its frozen part at the entry, what it may change of it -/
structure Fr where
  H_0 : Hp
  G_0 : Hp
  M : Addr → Prop

section
variable (N : Nam) (K : PySem.W.Frag)
def SlOk (F : Fr) (G H : Hp) : Sl → Option V → Prop
  | .un, _ => True
  | .val d, o => ∃ v, o = some v ∧ Rep N K G v d
  | .own ds, o => ∃ l vs, o = some (.ref l) ∧ H l = some (.lst vs) ∧ G l = none ∧ F.H_0 l = none ∧ vs.length ≤ sizeLine ∧ Reps N K G vs ds
  | .obj c ks ds, o => ∃ x dx xs, o = some (.ref x) ∧ H x = some (.ins (He.ga K (N.cl c)) dx ((ks.map N.at_).zip xs)) ∧ ks.length = xs.length ∧ G x = none ∧ F.M x ∧ Reps N K G xs ds
/-- the address of a slot that may be changed -/
def ownAt (s : Sl) (o : Option V) (a : Addr) : Prop := o = some (.ref a) ∧ match s with
  | .own _ => True
  | .obj _ _ _ => True
  | _ => False
structure R (F : Fr) (ρ : Env) (G : Hp) (σ : L2.St) (H : Hp) : Prop where
  len : ρ.length = σ.length
  sub : Same G H
  gg : Same F.G_0 G
  keep : ∀ b o, F.H_0 b = some o → ¬ F.M b → H b = some o
  md : ∀ b, F.M b → H b ≠ none
  sep : ∀ b, F.H_0 b ≠ none → F.G_0 b = none → G b = none
  sl : ∀ (i : Nat) s o, ρ[i]? = some s → σ[i]? = some o → SlOk N K F G H s o
  dis : ∀ (i j : Nat) s t o u a, i ≠ j → ρ[i]? = some s → ρ[j]? = some t → σ[i]? = some o → σ[j]? = some u → ownAt s o a → ¬ ownAt t u a
end

section
variable {N : Nam} {K : PySem.W.Frag} {F : Fr} {G H G' H' : Hp} {ρ : Env} {σ : L2.St}
theorem SlOk.ext (e : Ext G H G' H') {s : Sl} {o : Option V} (h : SlOk N K F G H s o) : SlOk N K F G' H' s o := by
  cases s with
  | un => trivial
  | val d =>
    obtain ⟨v, h1, h2⟩ := h
    exact ⟨v, h1, h2.mono e.gg⟩
  | own ds =>
    obtain ⟨l, vs, h1, h2, h3, h4, hz, h5⟩ := h
    exact ⟨l, vs, h1, e.hh _ _ h2, e.sep _ (by rw [h2]; exact fun z => nomatch z) h3, h4, hz, h5.mono e.gg⟩
  | obj c ks ds =>
    obtain ⟨x, dx, xs, h1, h2, h3, h4, h5, h6⟩ := h
    exact ⟨x, dx, xs, h1, e.hh _ _ h2, h3, e.sep _ (by rw [h2]; exact fun z => nomatch z) h4, h5, h6.mono e.gg⟩
theorem R.ext (r : R N K F ρ G σ H) (e : Ext G H G' H') : R N K F ρ G' σ H' where
  len := r.len
  sub := e.sub
  gg := r.gg.trans e.gg
  keep := fun b o h1 h2 => e.hh _ _ (r.keep b o h1 h2)
  md := fun b h1 z => r.md b h1 (e.hh.free z)
  sep := fun b h1 h2 => e.sep b (fun z => by
    by_cases hm : F.M b
    · exact r.md b hm z
    · cases q : F.H_0 b with
      | none => exact h1 q
      | some o =>
        rw [r.keep b o q hm] at z
        cases z) (r.sep b h1 h2)
  sl := fun i s o h1 h2 => (r.sl i s o h1 h2).ext e
  dis := r.dis
/-- the slot i gets a frozen value -/
theorem R.set (r : R N K F ρ G σ H) {i : Nat} {v : V} {d : D} (h : Rep N K G v d) : R N K F (ρ.set i (.val d)) G (σ.set i (some v)) H where
  len := by rw [List.length_set, List.length_set]; exact r.len
  sub := r.sub
  gg := r.gg
  keep := r.keep
  md := r.md
  sep := r.sep
  sl := fun j s o h1 h2 => by
    by_cases hj : i = j
    · subst hj
      rw [List.getElem?_set] at h1 h2
      simp only [if_pos] at h1 h2
      split at h1 <;> split at h2 <;> simp_all
      subst h1 h2
      exact ⟨v, rfl, h⟩
    · rw [List.getElem?_set_ne hj] at h1 h2
      exact r.sl j s o h1 h2
  dis := fun j k s t o u a hjk h1 h2 h3 h4 h5 h6 => by
    have no : ∀ {m : Nat} {s : Sl} {o : Option V}, i = m → (ρ.set i (.val d))[m]? = some s → ownAt s o a → False := fun {m s o} e q z => by
      subst e
      rw [List.getElem?_set] at q
      simp only [if_pos] at q
      split at q
      · cases q
        exact z.2
      · cases q
    by_cases ej : i = j
    · exact no ej h1 h5
    · by_cases ek : i = k
      · exact no ek h2 h6
      · rw [List.getElem?_set_ne ej] at h1 h3
        rw [List.getElem?_set_ne ek] at h2 h4
        exact r.dis j k s t o u a hjk h1 h2 h3 h4 h5 h6
end
end Q

/-! QB: the small language (what a def's text says, names by slots), what its run asks (wp), and the look at the text. -/
namespace Q
open PySem PySem.Spec L2

inductive Bop where
  | add | sub | mul | fdiv | mod | pow
inductive Cop where
  | lt | le | gt | ge | eq | ne | is_ | isnot | in_ | notin
inductive Blt where
  | len | abs | int | isqrt | min | max | sum | list | tuple | str | isi
/-- a target -/
inductive Tg where
  | nm (i : Nat)
  | tp (ts : List Tg)

mutual
inductive E where
  | var (i : Nat)
  /-- a slot that is only looked at -/
  | brw (i : Nat)
  | cst (d : D)
  | glo (j : Nat)
  | bin (o : Bop) (a b : E)
  | neg (a : E)
  | not (a : E)
  | and (es : List E)
  | or (es : List E)
  | cmp (o : Cop) (a b : E)
  | chn (o p : Cop) (a b c : E)
  | ch3 (o p q : Cop) (a b c d : E)
  | ife (c : T) (a b : E)
  | call (j : Nat) (es : List E)
  | make (j : Nat) (es : List E)
  | meth (j : Nat) (o : E) (es : List E)
  | blt (b : Blt) (es : List E)
  | atr (e : E) (f : Nat)
  | idx (a b : E)
  | slc (a : E) (lo hi : Option E)
  | tup (es : List E)
  | lst (es : List E)
  | comp (e : E) (t : Tg) (it : It) (c : List T)
inductive T where
  | val (e : E)
  | cmp (o : Cop) (a b : E)
  | chn (o p : Cop) (a b c : E)
  | ch3 (o p q : Cop) (a b c d : E)
  | not (t : T)
  | and (ts : List T)
  | or (ts : List T)
inductive It where
  | ex (e : E)
  | rng (es : List E)
  | zip (a b : E)
end

inductive S where
  | frz (i : Nat)
  | asg (t : Tg) (e : E)
  /-- name = a new list, which will be changed -/
  | new (i : Nat) (e : E)
  | par (i j : Nat) (a b : E)
  | setIx (i : Nat) (ix e : E)
  | app (i : Nat) (e : E)
  | aug (i : Nat) (o : Bop) (e : E)
  | fld (i f : Nat) (e : E)
  | exp (e : E)
  | ret (e : E)
  | retN
  | ite (c : T) (a b : List S)
  | for_ (t : Tg) (it : It) (b : List S)
  | whl (c : T) (b : List S)
  | brk
  | cnt
  | pas
  /-- a statement that is never reached -/
  | nev

/-- an error: its class by number, its attributes -/
structure Exc where
  c : Nat
  ks : List Nat
  xs : List D

/-- what a def promises: arguments, what is wanted of its value, of an error -/
abbrev FS := List D → (D → Prop) → (Exc → Prop) → Prop
/-- what an __init__ promises: arguments, what is wanted of the attributes -/
abbrev IS := List D → (List Nat → List D → Prop) → (Exc → Prop) → Prop

/-- a callee: its name (a global's; a class and its method), the defaults that fill up -/
structure Cal where
  nm : Str
  mt : Str := ""
  ar : Nat
  dfl : List D := []
  cls : Nat := 0
  fs : FS := fun _ _ _ => False
  is : IS := fun _ _ _ => False

structure Dn where
  nx : Env → Prop
  rt : D → Prop
  bk : Env → Prop
  ct : Env → Prop
  er : Exc → Env → Prop

/-! ### data -/
def D.py : D → PyData
  | .non => .none
  | .bl b => .bool b
  | .int i => .int i
  | .str s => .str s
  | .tup xs => .tuple (pys xs)
  | .lst xs => .list (pys xs)
  | .ro _ => .dict []
  | .ins _ _ _ => .dict []
  | .ty _ => .dict []
where pys : List D → List PyData
  | [] => []
  | x :: r => D.py x :: pys r

def ints? : List D → Option (List Int)
  | [] => some []
  | .int i :: r => match ints? r with
    | some l => some (i :: l)
    | none => none
  | _ :: _ => none

def ixD : List D → Int → Option D
  | ds, .ofNat n => ds[n]?
  | ds, .negSucc n => if n < ds.length then ds[ds.length - 1 - n]? else none

def looks : List Nat → List D → Nat → Option D
  | k :: ks, d :: ds, f => if k = f then some d else looks ks ds f
  | _, _, _ => none

def kitD : D → String → Option Bool
  | .non, n => kitB "NoneType" n
  | .bl _, n => kitB "bool" n
  | .int _, n => kitB "int" n
  | .str _, n => kitB "str" n
  | .tup _, n => kitB "tuple" n
  | .lst _, n => kitB "list" n
  | _, _ => none

def maxL : Int → List Int → Int
  | m, [] => m
  | m, x :: r => maxL (if m < x then x else m) r
def minL : Int → List Int → Int
  | m, [] => m
  | m, x :: r => minL (if x < m then x else m) r

def cutD (ds : List D) (lo hi : Option Int) : List D := (ds.drop (HT.sIx ds.length 0 lo)).take (HT.sIx ds.length ds.length hi - HT.sIx ds.length 0 lo)

/-! ### operations -/
/-- a product that may be made: not great, or one of the two below 2 ^ 64 -/
def CMulQ (i j : Int) : Prop := CMulW i j ∨ CMul i j ∨ IntMulOk i j
/-- a power that may be made -/
def CPowQ (i j : Int) : Prop := 0 ≤ j ∧ (Builtin.Int.intBits i : Int) * j ≤ 2 ^ 27
def bopW : Bop → D → D → (D → Prop) → Prop
  | .add, .int a, .int b, k => k (.int (a + b))
  | .add, .str a, .str b, k => a.length + b.length ≤ sizeLine ∧ k (.str (a ++ b))
  | .add, .lst a, .lst b, k => a.length + b.length ≤ sizeLine ∧ k (.lst (a ++ b))
  | .add, .tup a, .tup b, k => a.length + b.length ≤ sizeLine ∧ k (.tup (a ++ b))
  | .sub, .int a, .int b, k => k (.int (a - b))
  | .mul, .int a, .int b, k => CMulQ a b ∧ k (.int (a * b))
  | .fdiv, .int a, .int b, k => CDivW a b ∧ k (.int (a / b))
  | .mod, .int a, .int b, k => 0 < b ∧ k (.int (a % b))
  | .pow, .int a, .int b, k => CPowQ a b ∧ k (.int (a ^ b.toNat))
  | _, _, _, _ => False

def eqW (a b : D) (k : Bool → Prop) : Prop := match a, b with
  | .int x, .int y => k (decide (x = y))
  | .str x, .str y => k (decide (x = y))
  | .bl x, .bl y => k (decide (x = y))
  | a, b => SeqAt.shaped a.py = true ∧ SeqAt.shaped b.py = true ∧ k (PyData.eqv a.py b.py)

def copW : Cop → D → D → (Bool → Prop) → Prop
  | .lt, .int a, .int b, k => k (decide (a < b))
  | .le, .int a, .int b, k => k (decide (a ≤ b))
  | .gt, .int a, .int b, k => k (decide (b < a))
  | .ge, .int a, .int b, k => k (decide (b ≤ a))
  | .eq, a, b, k => eqW a b k
  | .ne, a, b, k => eqW a b fun r => k !r
  | .is_, a, .non, k => k (match a with | .non => true | _ => false)
  | .isnot, a, .non, k => k (match a with | .non => false | _ => true)
  | .lt, .str a, .str b, k => k (decide (a.cps.toList < b.cps.toList))
  | .gt, .str a, .str b, k => k (decide (b.cps.toList < a.cps.toList))
  | .le, .str a, .str b, k => k (!(decide (b.cps.toList < a.cps.toList)))
  | .ge, .str a, .str b, k => k (!(decide (a.cps.toList < b.cps.toList)))
  | .in_, .str a, .str b, k => k (!(Builtin.Str.occurrences b a 0 b.length 1).isEmpty)
  | .notin, .str a, .str b, k => k (!(!(Builtin.Str.occurrences b a 0 b.length 1).isEmpty))
  | .in_, a, .lst ds, k => SeqAt.shaped a.py = true ∧ SeqAt.shaped (D.lst ds).py = true ∧ k ((D.py.pys ds).any fun z => PyData.eqv z a.py)
  | .notin, a, .lst ds, k => SeqAt.shaped a.py = true ∧ SeqAt.shaped (D.lst ds).py = true ∧ k (!(D.py.pys ds).any fun z => PyData.eqv z a.py)
  | _, _, _, _ => False

def bltW : Blt → List D → (D → Prop) → Prop
  | .len, [.lst xs], k => k (.int xs.length)
  | .len, [.tup xs], k => k (.int xs.length)
  | .len, [.ro xs], k => k (.int xs.length)
  | .len, [.str s], k => s.length ≤ sizeLine ∧ k (.int s.length)
  | .abs, [.int i], k => k (.int (if i < 0 then -i else i))
  | .int, [.int i], k => k (.int i)
  | .int, [.bl b], k => k (.int (if b = true then 1 else 0))
  | .isqrt, [.int i], k => 0 ≤ i ∧ i.toNat.log2 < 13470 ∧ k (.int (Float64.isqrt i.toNat : Nat))
  | .min, [.int a, .int b], k => k (.int (if b < a then b else a))
  | .max, [.int a, .int b], k => k (.int (if a < b then b else a))
  | .min, [.int a, .int b, .int c], k => k (.int (if c < (if b < a then b else a) then c else (if b < a then b else a)))
  | .max, [.int a, .int b, .int c], k => k (.int (if (if a < b then b else a) < c then c else (if a < b then b else a)))
  | .min, [.lst xs], k => match ints? xs with
    | some (n :: r) => k (.int (minL n r))
    | _ => False
  | .max, [.lst xs], k => match ints? xs with
    | some (n :: r) => k (.int (maxL n r))
    | _ => False
  | .sum, [.lst xs], k => match ints? xs with
    | some ns => k (.int ns.sum)
    | none => False
  | .list, [.lst xs], k => k (.lst xs)
  | .list, [.tup xs], k => k (.lst xs)
  | .tuple, [.lst xs], k => k (.tup xs)
  | .tuple, [.tup xs], k => k (.tup xs)
  | .str, [.int i], k => i.natAbs.log2 < 1920 ∧ k (.str (toString i : String))
  | .isi, [d, .ty n], k => match kitD d n with
    | some b => k (.bl b)
    | none => False
  | _, _, _ => False

def truW : D → (Bool → Prop) → Prop
  | .bl b, k => k b
  | .int i, k => k (i != 0)
  | .str s, k => s.length ≤ sizeLine ∧ k (s.length != 0)
  | .lst xs, k => k (!xs.isEmpty)
  | .tup xs, k => k (!xs.isEmpty)
  | .non, k => k false
  | _, _ => False

/-- a string's sign at a place -/
def ixS (s : Str) : Int → Option Nat
  | .ofNat n => s.cps.toList[n]?
  | .negSucc n => if n < s.cps.toList.length then s.cps.toList[s.cps.toList.length - 1 - n]? else none
def idxW : D → D → (D → Prop) → Prop
  | .str s, .int i, k => s.length ≤ sizeLine ∧ match ixS s i with
    | some c => k (.str ⟨#[c]⟩)
    | none => False
  | .lst xs, .int i, k => match ixD xs i with
    | some d => k d
    | none => False
  | .tup xs, .int i, k => match ixD xs i with
    | some d => k d
    | none => False
  | .ro xs, .int i, k => match ixD xs i with
    | some d => k d
    | none => False
  | _, _, _ => False

def slcW : D → Option Int → Option Int → (D → Prop) → Prop
  | .lst xs, lo, hi, k => k (.lst (cutD xs lo hi))
  | _, _, _, _ => False

/-- AT: which class has which attribute -/
def atB : List (Nat × Nat) → Nat → Nat → Bool
  | [], _, _ => false
  | p :: r, c, f => if p.1 = c then (if p.2 = f then true else atB r c f) else atB r c f
def atrW (AT : List (Nat × Nat)) : D → Nat → (D → Prop) → Prop
  | .ins c ks xs, f, k => atB AT c f = true ∧ match looks ks xs f with
    | some d => k d
    | none => False
  | _, _, _ => False

mutual
def bindW : Tg → D → Env → (Env → Prop) → Prop
  | .nm i, d, ρ, k => k (ρ.set i (.val d))
  | .tp ts, d, ρ, k => match d with
    | .tup xs => ts.length = xs.length ∧ bindsW ts xs ρ k
    | .lst xs => ts.length = xs.length ∧ bindsW ts xs ρ k
    | _ => False
def bindsW : List Tg → List D → Env → (Env → Prop) → Prop
  | [], [], ρ, k => k ρ
  | t :: ts, d :: ds, ρ, k => bindW t d ρ fun ρ' => bindsW ts ds ρ' k
  | _, _, _, _ => False
end
mutual
def Tg.slots : Tg → List Nat
  | .nm i => [i]
  | .tp ts => slotss ts
def slotss : List Tg → List Nat
  | [] => []
  | t :: ts => t.slots ++ slotss ts
end
def wipeR (ρ : Env) : List Nat → Env
  | [] => ρ
  | v :: vs => (wipeR ρ vs).set v .un

/-- the items, one after another, each kept or left out -/
def mapW (f : D → (Option D → Prop) → Prop) : List D → (List D → Prop) → Prop
  | [], k => k []
  | x :: r, k => f x fun o => mapW f r fun ys => k (match o with
    | some y => y :: ys
    | none => ys)

def rangeD (lo : Int) (n : Nat) : List D := (List.range n).map fun i => .int (lo + (i : Nat))

/-- a string's signs, one after another -/
def strD (s : Str) : List D := s.cps.toList.map fun c => .str ⟨#[c]⟩
theorem strD_len (s : Str) : (strD s).length = s.length := by
  show (s.cps.toList.map _).length = s.cps.size
  rw [List.length_map, Array.length_toList]
/-- two lists, two tuples side by side -/
def zipW (d e : D) (k : List D → Prop) : Prop := match d, e with
  | .lst xs, .lst ys => k (List.zipWith (fun u v => .tup [u, v]) xs ys)
  | .tup xs, .tup ys => k (List.zipWith (fun u v => .tup [u, v]) xs ys)
  | _, _ => False
def rngW : List D → (List D → Prop) → Prop
  | [.int n], k => (-(2 ^ 62) ≤ n ∧ n ≤ 16777216) ∧ k (rangeD 0 n.toNat)
  | [.int a, .int b], k => b - a ≤ 16777216 ∧ k (rangeD a (b - a).toNat)
  | _, _ => False

section
variable (NM : Nam) (AT : List (Nat × Nat)) (Φ : List Cal) (Γ : List (Str × D))
mutual
def wpE : E → Env → (D → Prop) → (Exc → Prop) → Prop
  | .var i, ρ, k, _ => match ρ[i]? with
    | some (.val d) => k d
    | _ => False
  | .brw i, ρ, k, _ => match ρ[i]? with
    | some (.val d) => k d
    | some (.own ds) => k (.lst ds)
    | some (.obj c ks ds) => k (.ins c ks ds)
    | _ => False
  | .cst d, _, k, _ => k d
  | .glo j, _, k, _ => match Γ[j]? with
    | some p => k p.2
    | none => False
  | .bin o a b, ρ, k, x => wpE a ρ (fun d => wpE b ρ (fun e => bopW o d e k) x) x
  | .neg a, ρ, k, x => wpE a ρ (fun d => match d with
    | .int i => k (.int (-i))
    | _ => False) x
  | .not a, ρ, k, x => wpE a ρ (fun d => match d with
    | .bl b => k (.bl !b)
    | _ => False) x
  | .and es, ρ, k, x => wpAnd es ρ k x
  | .or es, ρ, k, x => wpOr es ρ k x
  | .cmp o a b, ρ, k, x => wpE a ρ (fun d => wpE b ρ (fun e => copW o d e fun r => k (.bl r)) x) x
  | .chn o p a b c, ρ, k, x => wpE a ρ (fun d => wpE b ρ (fun e => copW o d e fun r => if r = true then wpE c ρ (fun g => copW p e g fun r => k (.bl r)) x else k (.bl false)) x) x
  | .ch3 o p q a b c g, ρ, k, x => wpE a ρ (fun d => wpE b ρ (fun e => copW o d e fun r => if r = true then wpE c ρ (fun h => copW p e h fun r => if r = true then wpE g ρ (fun i => copW q h i fun r => k (.bl r)) x else k (.bl false)) x else k (.bl false)) x) x
  | .ife c a b, ρ, k, x => wpT c ρ (fun r => if r = true then wpE a ρ k x else wpE b ρ k x) x
  | .call j es, ρ, k, x => match Φ[j]? with
    | some c => wpEs es ρ (fun ds => c.fs (ds ++ c.dfl) k x) x
    | none => False
  | .make j es, ρ, k, x => match Φ[j]? with
    | some c => wpEs es ρ (fun ds => c.is (ds ++ c.dfl) (fun ks xs => k (.ins c.cls ks xs)) x) x
    | none => False
  | .meth j o es, ρ, k, x => match Φ[j]? with
    | some c => wpE o ρ (fun d => (match d with
      | .ins i ks _ => i = c.cls ∧ (ks.all fun k => decide (NM.at_ k ≠ c.mt)) = true
      | _ => False) ∧ wpEs es ρ (fun ds => c.fs (d :: (ds ++ c.dfl)) k x) x) x
    | none => False
  | .blt b es, ρ, k, x => wpEs es ρ (fun ds => bltW b ds k) x
  | .atr e f, ρ, k, x => wpE e ρ (fun d => atrW AT d f k) x
  | .idx a b, ρ, k, x => wpE a ρ (fun d => wpE b ρ (fun i => idxW d i k) x) x
  | .slc a lo hi, ρ, k, x => wpE a ρ (fun d => wpO lo ρ (fun l => wpO hi ρ (fun h => slcW d l h k) x) x) x
  | .tup es, ρ, k, x => es.length ≤ sizeLine ∧ wpEs es ρ (fun ds => k (.tup ds)) x
  | .lst es, ρ, k, x => es.length ≤ sizeLine ∧ wpEs es ρ (fun ds => k (.lst ds)) x
  | .comp e t it c, ρ, k, x => wpI it ρ (fun ds => mapW (fun d kk => bindW t d (wipeR ρ t.slots) fun ρ' => wpTs c ρ' (fun b => if b = true then wpE e ρ' (fun y => kk (some y)) (fun _ => False) else kk none) fun _ => False) ds fun ys => k (.lst ys)) x
def wpEs : List E → Env → (List D → Prop) → (Exc → Prop) → Prop
  | [], _, k, _ => k []
  | e :: es, ρ, k, x => wpE e ρ (fun d => wpEs es ρ (fun ds => k (d :: ds)) x) x
def wpAnd : List E → Env → (D → Prop) → (Exc → Prop) → Prop
  | [], _, _, _ => False
  | [e], ρ, k, x => wpE e ρ k x
  | e :: es, ρ, k, x => wpE e ρ (fun d => match d with
    | .bl b => if b = true then wpAnd es ρ k x else k (.bl false)
    | _ => False) x
def wpOr : List E → Env → (D → Prop) → (Exc → Prop) → Prop
  | [], _, _, _ => False
  | [e], ρ, k, x => wpE e ρ k x
  | e :: es, ρ, k, x => wpE e ρ (fun d => match d with
    | .bl b => if b = true then k (.bl true) else wpOr es ρ k x
    | _ => False) x
def wpO : Option E → Env → (Option Int → Prop) → (Exc → Prop) → Prop
  | none, _, k, _ => k none
  | some e, ρ, k, x => wpE e ρ (fun d => match d with
    | .int i => k (some i)
    | _ => False) x
def wpT : T → Env → (Bool → Prop) → (Exc → Prop) → Prop
  | .val e, ρ, k, x => wpE e ρ (fun d => truW d k) x
  | .cmp o a b, ρ, k, x => wpE a ρ (fun d => wpE b ρ (fun e => copW o d e k) x) x
  | .chn o p a b c, ρ, k, x => wpE a ρ (fun d => wpE b ρ (fun e => copW o d e fun r => if r = true then wpE c ρ (fun g => copW p e g k) x else k false) x) x
  | .ch3 o p q a b c g, ρ, k, x => wpE a ρ (fun d => wpE b ρ (fun e => copW o d e fun r => if r = true then wpE c ρ (fun h => copW p e h fun r => if r = true then wpE g ρ (fun i => copW q h i k) x else k false) x else k false) x) x
  | .not t, ρ, k, x => wpT t ρ (fun b => k !b) x
  | .and ts, ρ, k, x => wpTand ts ρ k x
  | .or ts, ρ, k, x => wpTor ts ρ k x
def wpTand : List T → Env → (Bool → Prop) → (Exc → Prop) → Prop
  | [], _, _, _ => False
  | [t], ρ, k, x => wpT t ρ k x
  | t :: ts, ρ, k, x => wpT t ρ (fun b => if b = true then wpTand ts ρ k x else k false) x
def wpTor : List T → Env → (Bool → Prop) → (Exc → Prop) → Prop
  | [], _, _, _ => False
  | [t], ρ, k, x => wpT t ρ k x
  | t :: ts, ρ, k, x => wpT t ρ (fun b => if b = true then k true else wpTor ts ρ k x) x
/-- a comprehension's tests: none or one -/
def wpTs : List T → Env → (Bool → Prop) → (Exc → Prop) → Prop
  | [], _, k, _ => k true
  | [t], ρ, k, x => wpT t ρ k x
  | _, _, _, _ => False
def wpI : It → Env → (List D → Prop) → (Exc → Prop) → Prop
  | .ex e, ρ, k, x => wpE e ρ (fun d => match d with
    | .lst xs => k xs
    | .tup xs => k xs
    | .ro xs => k xs
    | .str s => s.length ≤ sizeLine ∧ k (strD s)
    | _ => False) x
  | .rng es, ρ, k, x => wpEs es ρ (fun ds => rngW ds k) x
  | .zip a b, ρ, k, x => wpE a ρ (fun d => wpE b ρ (fun e => zipW d e k) x) x
end
end
/-! ### statements -/
def frzR (ρ : Env) (i : Nat) : Env := match ρ[i]? with
  | some (.own ds) => ρ.set i (.val (.lst ds))
  | _ => ρ
/-- an expression whose list is new -/
def E.fresh : E → Bool
  | .lst _ => true
  | .comp _ _ _ _ => true
  | .slc _ _ _ => true
  | .blt .list [_] => true
  | .bin .add _ _ => true
  | _ => false
/-- what a name holds behind name = a new thing -/
def slOf : D → Sl
  | .lst ds => .own ds
  | d => .val d
/-- an attribute is stored -/
def putD (f : Nat) (v : D) : List Nat → List D → List Nat × List D
  | k :: ks, d :: ds => if k = f then (k :: ks, v :: ds) else (k :: (putD f v ks ds).1, d :: (putD f v ks ds).2)
  | _, _ => ([f], [v])
def forW (body : D → Env → Dn → Prop) : List D → Env → Dn → Prop
  | [], ρ, d => d.nx ρ
  | x :: r, ρ, d => body x ρ { nx := fun ρ' => forW body r ρ' d, ct := fun ρ' => forW body r ρ' d, bk := d.nx, rt := d.rt, er := d.er }
/-- at most so many turns -/
def whlW (turn : Env → Dn → Prop) : Nat → Env → Dn → Prop
  | 0, _, _ => False
  | n + 1, ρ, d => turn ρ { nx := fun ρ' => whlW turn n ρ' d, ct := fun ρ' => whlW turn n ρ' d, bk := d.nx, rt := d.rt, er := d.er }
section
variable (NM : Nam) (AT : List (Nat × Nat)) (Φ : List Cal) (Γ : List (Str × D))
mutual
def wpS : S → Env → Dn → Prop
  | .frz i, ρ, d => d.nx (frzR ρ i)
  | .asg t e, ρ, d => wpE NM AT Φ Γ e ρ (fun v => bindW t v ρ d.nx) (fun x => d.er x ρ)
  | .new i e, ρ, d => wpE NM AT Φ Γ e ρ (fun v => d.nx (ρ.set i (slOf v))) (fun x => d.er x ρ)
  | .par i j a b, ρ, d => wpE NM AT Φ Γ a ρ (fun v => wpE NM AT Φ Γ b ρ (fun w => d.nx ((ρ.set i (.val v)).set j (.val w))) fun x => d.er x ρ) (fun x => d.er x ρ)
  | .setIx i a e, ρ, d => match ρ[i]? with
    | some (.own ds) => wpE NM AT Φ Γ e ρ (fun v => wpE NM AT Φ Γ a ρ (fun n => match n with
      | .int n => (match ixN ds.length n with
        | some m => d.nx (ρ.set i (.own (ds.set m v)))
        | none => False)
      | _ => False) fun x => d.er x ρ) (fun x => d.er x ρ)
    | _ => False
  | .app i e, ρ, d => match ρ[i]? with
    | some (.own ds) => wpE NM AT Φ Γ e ρ (fun v => ds.length < sizeLine ∧ d.nx (ρ.set i (.own (ds ++ [v])))) (fun x => d.er x ρ)
    | _ => False
  | .aug i o e, ρ, d => match ρ[i]? with
    | some (.val (.int v)) => wpE NM AT Φ Γ e ρ (fun w => match w with
      | .int w => bopW o (.int v) (.int w) fun r => d.nx (ρ.set i (.val r))
      | _ => False) (fun x => d.er x ρ)
    | _ => False
  | .fld i f e, ρ, d => match ρ[i]? with
    | some (.obj c ks ds) => atB AT c f = true ∧ ks.length < 1000 ∧ wpE NM AT Φ Γ e ρ (fun v => d.nx (ρ.set i (.obj c (putD f v ks ds).1 (putD f v ks ds).2))) (fun x => d.er x ρ)
    | _ => False
  | .exp e, ρ, d => wpE NM AT Φ Γ e ρ (fun _ => d.nx ρ) (fun x => d.er x ρ)
  | .ret e, ρ, d => wpE NM AT Φ Γ e ρ d.rt (fun x => d.er x ρ)
  | .retN, _, d => d.rt .non
  | .ite c a b, ρ, d => wpT NM AT Φ Γ c ρ (fun r => if r = true then wpSs a ρ d else wpSs b ρ d) (fun x => d.er x ρ)
  | .for_ t it b, ρ, d => wpI NM AT Φ Γ it ρ (fun ds => forW (fun v ρ' d' => bindW t v ρ' fun ρ'' => wpSs b ρ'' d') ds ρ d) (fun x => d.er x ρ)
  | .whl c b, ρ, d => ∃ n, whlW (fun ρ' d' => wpT NM AT Φ Γ c ρ' (fun r => if r = true then wpSs b ρ' d' else d'.bk ρ') (fun x => d'.er x ρ')) n ρ d
  | .brk, ρ, d => d.bk ρ
  | .cnt, ρ, d => d.ct ρ
  | .pas, ρ, d => d.nx ρ
  | .nev, _, _ => False
def wpSs : List S → Env → Dn → Prop
  | [], ρ, d => d.nx ρ
  | s :: ss, ρ, d => wpS s ρ { d with nx := fun ρ' => wpSs ss ρ' d }
end
end
end Q

/-! QC: does the text say what the small language says? -/
namespace Q
open PySem PySem.Spec L2

/-! ### parts of the text -/
def asName : Expr → Option Str
  | .Name x _ => some x
  | _ => none
def asConst : Expr → Option Const
  | .Constant c _ _ => some c
  | _ => none
def asBin : Expr → Option (Expr × Operator × Expr)
  | .BinOp a o b _ => some (a, o, b)
  | _ => none
def asUn : Expr → Option (UnaryOp × Expr)
  | .UnaryOp o a _ => some (o, a)
  | _ => none
def asBoo : Expr → Option (BoolOp × List Expr)
  | .BoolOp o es _ => some (o, es)
  | _ => none
def asCmp : Expr → Option (Expr × List CmpOp × List Expr)
  | .Compare a os es _ => some (a, os, es)
  | _ => none
def asIfE : Expr → Option (Expr × Expr × Expr)
  | .IfExp c a b _ => some (c, a, b)
  | _ => none
def asCall : Expr → Option (Expr × List Expr)
  | .Call f es [] _ => some (f, es)
  | _ => none
def asMet : Expr → Option (Expr × Str × Pos × Expr × List Expr × Pos)
  | .Call (.Attribute o m ap) (e :: es) [] p => some (o, m, ap, e, es, p)
  | _ => none
def asMet0 : Expr → Option (Expr × Str × Pos × Pos)
  | .Call (.Attribute o m ap) [] [] p => some (o, m, ap, p)
  | _ => none
theorem asMet0_eq {e : Expr} {o m ap p} (h : asMet0 e = some (o, m, ap, p)) : e = .Call (.Attribute o m ap) [] [] p := by
  unfold asMet0 at h
  split at h
  · cases h; rfl
  · cases h
/-- a receiver whose method is called the plain way -/
def recvB : Expr → Bool
  | .Name _ _ => true
  | .Attribute _ _ _ => true
  | .Subscript _ _ _ => true
  | _ => false
def asAtr : Expr → Option (Expr × Str)
  | .Attribute e f _ => some (e, f)
  | _ => none
def asSub : Expr → Option (Expr × Expr)
  | .Subscript a b _ => some (a, b)
  | _ => none
def asSlc : Expr → Option (Option Expr × Option Expr)
  | .Slice a b none _ => some (a, b)
  | _ => none
def asTup : Expr → Option (List Expr)
  | .Tuple es _ _ => some es
  | _ => none
def asLst : Expr → Option (List Expr)
  | .List es _ => some es
  | _ => none
def asComp : Expr → Option (Expr × Expr × Expr × List Expr × Scope)
  | .ListComp e [⟨t, i, c, 0⟩] s _ => some (e, t, i, c, s)
  | _ => none
/-- no star, no slice, no walrus: an ordinary expression -/
def good : Expr → Bool
  | .Slice _ _ _ _ => false
  | .Starred _ _ => false
  | .NamedExpr _ _ _ => false
  | .Set _ _ _ => false
  | _ => true
/-- a test that is its value's truth -/
def plainT : Expr → Bool
  | .UnaryOp .Not _ _ => false
  | .BoolOp _ _ _ => false
  | .IfExp _ _ _ _ => false
  | .Compare _ _ _ _ => false
  | _ => true
/-- not super() -/
def plainA : Expr → Bool
  | .Call _ [] _ _ => false
  | _ => true

theorem asName_eq {e : Expr} {x : Str} (h : asName e = some x) : ∃ p, e = .Name x p := by cases e <;> cases h; exact ⟨_, rfl⟩
theorem asConst_eq {e : Expr} {c} (h : asConst e = some c) : ∃ j p, e = .Constant c j p := by cases e <;> cases h; exact ⟨_, _, rfl⟩
theorem asBin_eq {e : Expr} {a o b} (h : asBin e = some (a, o, b)) : ∃ p, e = .BinOp a o b p := by cases e <;> cases h; exact ⟨_, rfl⟩
theorem asUn_eq {e : Expr} {o a} (h : asUn e = some (o, a)) : ∃ p, e = .UnaryOp o a p := by cases e <;> cases h; exact ⟨_, rfl⟩
theorem asBoo_eq {e : Expr} {o es} (h : asBoo e = some (o, es)) : ∃ p, e = .BoolOp o es p := by cases e <;> cases h; exact ⟨_, rfl⟩
theorem asCmp_eq {e : Expr} {a os es} (h : asCmp e = some (a, os, es)) : ∃ p, e = .Compare a os es p := by cases e <;> cases h; exact ⟨_, rfl⟩
theorem asIfE_eq {e : Expr} {c a b} (h : asIfE e = some (c, a, b)) : ∃ p, e = .IfExp c a b p := by cases e <;> cases h; exact ⟨_, rfl⟩
theorem asCall_eq {e : Expr} {f es} (h : asCall e = some (f, es)) : ∃ p, e = .Call f es [] p := by
  unfold asCall at h
  split at h <;> cases h
  exact ⟨_, rfl⟩
theorem asMet_eq {e : Expr} {o m ap x es p} (h : asMet e = some (o, m, ap, x, es, p)) : e = .Call (.Attribute o m ap) (x :: es) [] p := by
  unfold asMet at h
  split at h <;> cases h
  rfl
theorem asAtr_eq {e : Expr} {o f} (h : asAtr e = some (o, f)) : ∃ p, e = .Attribute o f p := by cases e <;> cases h; exact ⟨_, rfl⟩
theorem asSub_eq {e : Expr} {a b} (h : asSub e = some (a, b)) : ∃ p, e = .Subscript a b p := by cases e <;> cases h; exact ⟨_, rfl⟩
theorem asSlc_eq {e : Expr} {a b} (h : asSlc e = some (a, b)) : ∃ p, e = .Slice a b none p := by
  unfold asSlc at h
  split at h <;> cases h
  exact ⟨_, rfl⟩
theorem asTup_eq {e : Expr} {es} (h : asTup e = some es) : ∃ k p, e = .Tuple es k p := by cases e <;> cases h; exact ⟨_, _, rfl⟩
theorem asLst_eq {e : Expr} {es} (h : asLst e = some es) : ∃ p, e = .List es p := by cases e <;> cases h; exact ⟨_, rfl⟩
theorem asComp_eq {e : Expr} {x t i c s} (h : asComp e = some (x, t, i, c, s)) : ∃ p, e = .ListComp x [⟨t, i, c, 0⟩] s p := by
  unfold asComp at h
  split at h <;> cases h
  exact ⟨_, rfl⟩

def bopB : Bop → Operator → Bool
  | .add, .Add => true
  | .sub, .Sub => true
  | .mul, .Mult => true
  | .fdiv, .FloorDiv => true
  | .mod, .Mod => true
  | .pow, .Pow => true
  | _, _ => false
def copB : Cop → CmpOp → Bool
  | .lt, .Lt => true
  | .le, .LtE => true
  | .gt, .Gt => true
  | .ge, .GtE => true
  | .eq, .Eq => true
  | .ne, .NotEq => true
  | .is_, .Is => true
  | .isnot, .IsNot => true
  | _, _ => false
/-- one comparison alone: in and not in too -/
def copB1 : Cop → CmpOp → Bool
  | .in_, .In => true
  | .notin, .NotIn => true
  | o, p => copB o p
def bltN : Blt → Str
  | .len => "len"
  | .abs => "abs"
  | .int => "int"
  | .isqrt => "isqrt"
  | .min => "min"
  | .max => "max"
  | .sum => "sum"
  | .list => "list"
  | .tuple => "tuple"
  | .str => "str"
  | .isi => "isinstance"
def tyN : List (Str × String) := [("int", "int"), ("bool", "bool"), ("tuple", "tuple"), ("list", "list"), ("str", "str")]

/-- not a look at a slot alone -/
def E.noB : E → Bool
  | .brw _ => false
  | _ => true
section
variable (NM : Nam) (N : List Str) (B : List Str) (Φ : List Cal) (Γ : List (Str × D))
def visB (sc : Scope) (x : Str) : Bool := match sc.names.lookup x with
  | some .local => true
  | some .cell => true
  | some .free => true
  | _ => false
def locB (sc : Scope) (x : Str) : Bool := match sc.names.lookup x with
  | some .local => true
  | some .cell => true
  | _ => false
def gloB (sc : Scope) (x : Str) : Bool := (match sc.names.lookup x with
  | some .globalImplicit => true
  | _ => false) && !(x == ("__debug__" : Str))
def varB (sc : Scope) (i : Nat) (x : Str) : Bool := decide (N[i]? = some x) && visB sc x && !(x == ("__debug__" : Str)) && !(x == ("__classdict__" : Str))
/-- a built-in's name: free in the module -/
def freB (sc : Scope) (x : Str) : Bool := gloB sc x && decide (x ∈ B) && !(x == ("__name__" : Str))
mutual
def chTg : Tg → Scope → Expr → Bool
  | .nm i, sc, e => match asName e with
    | some x => decide (N[i]? = some x) && locB sc x
    | none => false
  | .tp ts, sc, e => match asTup e with
    | some es => chTgs ts sc es
    | none => false
def chTgs : List Tg → Scope → List Expr → Bool
  | [], _, [] => true
  | t :: ts, sc, e :: es => good e && chTg t sc e && chTgs ts sc es
  | _, _, _ => false
end
def cstB : D → Const → Bool
  | .int i, .int j => decide (i = j)
  | .str s, .str t => decide (s = t)
  | .bl b, .bool c => b == c
  | .non, .none => true
  | _, _ => false
mutual
def chE : E → Scope → Expr → Bool
  | .var i, sc, e => match asName e with
    | some x => varB N sc i x
    | none => false
  | .brw i, sc, e => match asName e with
    | some x => varB N sc i x
    | none => false
  | .cst d, sc, e => match asConst e with
    | some c => cstB d c
    | none => match d, asName e with
      | .ty n, some x => freB B sc x && decide (tyN.lookup x = some n)
      | _, _ => false
  | .glo j, sc, e => match asName e, Γ[j]? with
    | some x, some p => decide (p.1 = x) && gloB sc x
    | _, _ => false
  | .bin o a b, sc, e => match asBin e with
    | some (x, p, y) => bopB o p && chE a sc x && chE b sc y
    | none => false
  | .neg a, sc, e => match asUn e with
    | some (.USub, x) => a.noB && chE a sc x
    | _ => false
  | .not a, sc, e => match asUn e with
    | some (.Not, x) => a.noB && chE a sc x
    | _ => false
  | .and es, sc, e => match asBoo e with
    | some (.And, xs) => chEs es sc xs
    | _ => false
  | .or es, sc, e => match asBoo e with
    | some (.Or, xs) => chEs es sc xs
    | _ => false
  | .cmp o a b, sc, e => match asCmp e with
    | some (x, [p], [y]) => (copB1 o p && !behindInMarks p y) && chE a sc x && chE b sc y
    | _ => false
  | .chn o o' a b c, sc, e => match asCmp e with
    | some (x, [p, p'], [y, z]) => copB o p && copB o' p' && chE a sc x && chE b sc y && chE c sc z
    | _ => false
  | .ch3 o o' o3 a b c d, sc, e => match asCmp e with
    | some (x, [p, p', p3], [y, z, t]) => copB o p && copB o' p' && copB o3 p3 && chE a sc x && chE b sc y && chE c sc z && chE d sc t
    | _ => false
  | .ife c a b, sc, e => match asIfE e with
    | some (x, y, z) => a.noB && b.noB && chT c sc x && chE a sc y && chE b sc z
    | none => false
  | .call j es, sc, e => match asCall e with
    | some (f, x :: xs) => (match asName f, Φ[j]? with
      | some n, some c => decide (c.nm = n) && decide (c.mt = "") && decide (xs.length + 1 + c.dfl.length = c.ar) && gloB sc n
      | _, _ => false) && chEs es sc (x :: xs)
    | _ => false
  | .make j es, sc, e => match asCall e with
    | some (f, x :: xs) => (match asName f, Φ[j]? with
      | some n, some c => decide (c.nm = n) && decide (c.mt = "__init__") && decide (NM.cl c.cls = n) && decide (xs.length + 1 + c.dfl.length = c.ar) && gloB sc n
      | _, _ => false) && chEs es sc (x :: xs)
    | _ => false
  | .meth j o es, sc, e => match asMet e with
    | some (y, m, ap, x, xs, p) => (match Φ[j]? with
      | some c => decide (c.mt = m) && decide (m ≠ "") && decide (m ≠ "__init__") && decide (xs.length + 2 + c.dfl.length = c.ar)
      | none => false) && o.noB && recvB y && (ap.endLine == p.line) && decide (xs.length < 28) && chE o sc y && chEs es sc (x :: xs)
    | none => (match asMet0 e with
      | some (y, m, ap, p) => (match Φ[j]? with
        | some c => decide (c.mt = m) && decide (m ≠ "") && decide (m ≠ "__init__") && decide (1 + c.dfl.length = c.ar)
        | none => false) && o.noB && recvB y && (ap.endLine == p.line) && es.isEmpty && chE o sc y
      | none => false)
  | .blt b es, sc, e => match asCall e with
    | some (f, x :: xs) => (match asName f with
      | some n => decide (bltN b = n) && (match b with
        | .isqrt => gloB sc n && decide (("isqrt!" : Str) ∈ B)
        | _ => freB B sc n)
      | none => false) && good x && (match es, xs with
      | [a], [] => chE a sc x
      | es, xs => chEs es sc (x :: xs))
    | _ => false
  | .atr a f, sc, e => match asAtr e with
    | some (x, n) => decide (NM.at_ f = n) && plainA x && chE a sc x
    | none => false
  | .idx a b, sc, e => match asSub e with
    | some (x, y) => good y && b.noB && chE a sc x && chE b sc y
    | none => false
  | .slc a lo hi, sc, e => match asSub e with
    | some (x, y) => (match asSlc y with
      | some (l, h) => chE a sc x && chO lo sc l && chO hi sc h
      | none => false)
    | none => false
  | .tup es, sc, e => match asTup e with
    | some xs => chEs es sc xs
    | none => false
  | .lst es, sc, e => match asLst e with
    | some xs => chEs es sc xs
    | none => false
  | .comp a t it c, sc, e => match asComp e with
    | some (x, y, z, w, s) => blkC N sc s (t.slots.map fun i => (N.getD i "", i)) && good z && chI it sc y z && chTg N t s y && chTs c (relS s sc) w && a.noB && chE a (relS s sc) x
    | none => false
def chEs : List E → Scope → List Expr → Bool
  | [], _, [] => true
  | a :: as, sc, e :: es => good e && a.noB && chE a sc e && chEs as sc es
  | _, _, _ => false
def chO : Option E → Scope → Option Expr → Bool
  | none, _, none => true
  | some a, sc, some e => a.noB && chE a sc e
  | _, _, _ => false
def chT : T → Scope → Expr → Bool
  | .val a, sc, e => plainT e && chE a sc e
  | .cmp o a b, sc, e => match asCmp e with
    | some (x, [p], [y]) => (copB1 o p && !behindInMarks p y) && chE a sc x && chE b sc y
    | _ => false
  | .chn o o' a b c, sc, e => match asCmp e with
    | some (x, [p, p'], [y, z]) => copB o p && copB o' p' && chE a sc x && chE b sc y && chE c sc z
    | _ => false
  | .ch3 o o' o3 a b c d, sc, e => match asCmp e with
    | some (x, [p, p', p3], [y, z, t]) => copB o p && copB o' p' && copB o3 p3 && chE a sc x && chE b sc y && chE c sc z && chE d sc t
    | _ => false
  | .not t, sc, e => match asUn e with
    | some (.Not, x) => chT t sc x
    | _ => false
  | .and ts, sc, e => match asBoo e with
    | some (.And, xs) => chTl ts sc xs
    | _ => false
  | .or ts, sc, e => match asBoo e with
    | some (.Or, xs) => chTl ts sc xs
    | _ => false
def chTl : List T → Scope → List Expr → Bool
  | [], _, [] => true
  | a :: as, sc, e :: es => chT a sc e && chTl as sc es
  | _, _, _ => false
/-- a comprehension's tests: none or one -/
def chTs : List T → Scope → List Expr → Bool
  | [], _, [] => true
  | [t], sc, [e] => chT t sc e
  | _, _, _ => false
/-- tg: the target (zip wants a tuple) -/
def chI : It → Scope → Expr → Expr → Bool
  | .ex a, sc, _, e => chE a sc e
  | .rng es, sc, _, e => match asCall e with
    | some (f, x :: xs) => (match asName f with
      | some n => decide (n = "range") && freB B sc n
      | none => false) && decide (xs.length < 2) && chEs es sc (x :: xs)
    | _ => false
  | .zip a b, sc, tg, e => match asCall e with
    | some (f, [x, y]) => (match asName f with
      | some n => decide (n = "zip") && freB B sc n
      | none => false) && (asTup tg).isSome && good x && good y && a.noB && b.noB && chE a sc x && chE b sc y
    | _ => false
end
end
end Q

/-! QD: the operations' rules over plain data. -/
namespace Q
open PySem PySem.Spec L2

section
variable (NM : Nam) (K : PySem.W.Frag)
/-- what an expression may give: a frozen thing, or one that is still its slot's -/
inductive RepB (G H : Hp) : V → D → Prop
  | frz {v : V} {d : D} : Rep NM K G v d → RepB G H v d
  | own {l : Addr} {vs : List V} {ds : List D} : H l = some (.lst vs) → G l = none → vs.length ≤ sizeLine → Reps NM K G vs ds → RepB G H (.ref l) (.lst ds)
  | obj {x dx : Addr} {c : Nat} {ks : List Nat} {xs : List V} {ds : List D} : H x = some (.ins (He.ga K (NM.cl c)) dx ((ks.map NM.at_).zip xs)) → ks.length = xs.length → G x = none → Reps NM K G xs ds → RepB G H (.ref x) (.ins c ks ds)
/-- an error behind a call -/
def RepX (G : Hp) (cls : Value) (dx : Option Addr) (x : Exc) : Prop := cls = .ref (He.ga K (NM.cl x.c)) ∧
  ((x.ks = [] ∧ x.xs = [] ∧ dx = none) ∨ ∃ a vs, dx = some a ∧ G a = some (.xd ((x.ks.map NM.at_).zip vs)) ∧ x.ks.length = vs.length ∧ Reps NM K G vs x.xs)
end
section
variable {NM : Nam} {K : PySem.W.Frag} {G H G' H' : Hp}
theorem RepB.ext (e : Ext G H G' H') {v : V} {d : D} (h : RepB NM K G H v d) : RepB NM K G' H' v d := by
  cases h with
  | frz r => exact .frz (r.mono e.gg)
  | own h1 h2 h3 h4 => exact .own (e.hh _ _ h1) (e.sep _ (by rw [h1]; exact fun z => nomatch z) h2) h3 (h4.mono e.gg)
  | obj h1 h2 h3 h4 => exact .obj (e.hh _ _ h1) h2 (e.sep _ (by rw [h1]; exact fun z => nomatch z) h3) (h4.mono e.gg)
theorem sqL_sub (s : Same G H) {a : Addr} {xs : List V} (h : SqL K G a xs) : SqL K H a xs := s.seq h
theorem RepB.int {v : V} {i : Int} (h : RepB NM K G H v (.int i)) : v = .int i := by
  cases h with
  | frz r => cases r; rfl
theorem RepB.bl {v : V} {b : Bool} (h : RepB NM K G H v (.bl b)) : v = .bl b := by
  cases h with
  | frz r => cases r; rfl
theorem RepB.str {v : V} {s : Str} (h : RepB NM K G H v (.str s)) : v = .str s := by
  cases h with
  | frz r => cases r; rfl
theorem RepB.non {v : V} (h : RepB NM K G H v .non) : v = .non := by
  cases h with
  | frz r => cases r; rfl
theorem RepB.lst {v : V} {ds : List D} (s : Same G H) (h : RepB NM K G H v (.lst ds)) : ∃ a xs, v = .ref a ∧ H a = some (.lst xs) ∧ xs.length ≤ sizeLine ∧ Reps NM K G xs ds := by
  cases h with
  | frz r =>
    cases r with
    | lst h1 h2 h3 => exact ⟨_, _, rfl, s _ _ h1, h2, h3⟩
  | own h1 h2 h3 h4 => exact ⟨_, _, rfl, h1, h3, h4⟩
theorem RepB.ro {v : V} {ds : List D} (s : Same G H) (h : RepB NM K G H v (.ro ds)) : ∃ a xs, v = .ref a ∧ SqL K H a xs ∧ xs.length ≤ sizeLine ∧ Reps NM K G xs ds := by
  cases h with
  | frz r =>
    cases r with
    | ro h1 h2 h3 => exact ⟨_, _, rfl, s.seq h1, h2, h3⟩
theorem RepB.tup {v : V} {ds : List D} (s : Same G H) (h : RepB NM K G H v (.tup ds)) : ∃ a xs, v = .ref a ∧ SqT K H a xs ∧ xs.length ≤ sizeLine ∧ Reps NM K G xs ds := by
  cases h with
  | frz r =>
    cases r with
    | tup h1 h2 h3 => exact ⟨_, _, rfl, sqT_mono s h1, h2, h3⟩
theorem RepB.isNon {v : V} {d : D} (h : RepB NM K G H v d) : decide (v = .non) = (match d with | .non => true | _ => false) := by
  cases h with
  | frz r => cases r <;> rfl
  | own _ _ _ _ => rfl
  | obj _ _ _ _ => rfl
theorem RepB.isNon' {v : V} {d : D} (h : RepB NM K G H v d) : (!decide (v = .non)) = (match d with | .non => false | _ => true) := by
  cases h with
  | frz r => cases r <;> rfl
  | own _ _ _ _ => rfl
  | obj _ _ _ _ => rfl
/-- data at any depth -/
theorem DpAll.mono {K : PySem.W.Frag} {xs : List V} {ds : List PyData} (e : Same G H) (h : DpAll K G xs ds) : DpAll K H xs ds := by
  have : ∀ (ds : List PyData) (xs : List V), DpAll K G xs ds → DpAll K H xs ds := by
    intro ds
    exact PyData.rec_1 (motive_1 := fun d => ∀ v, Dp K G v d → Dp K H v d) (motive_2 := fun ds => ∀ xs, DpAll K G xs ds → DpAll K H xs ds) (motive_3 := fun _ => True) (motive_4 := fun _ => True)
      (fun v h => by cases h; exact .non) (fun b v h => by cases h; exact .bl b) (fun i v h => by cases h; exact .int i) (fun x v h => by cases h; exact .str x)
      (fun xs ih v h => by cases h with | lst a b => exact .lst (e.seq a) (ih _ b)) (fun xs ih v h => by cases h with | tup a b => exact .tup (sqT_mono e a) (ih _ b)) (fun kvs _ v h => by cases h)
      (fun xs h => by cases h; exact .nil) (fun d r i1 i2 xs h => by cases h with | cons a b => exact .cons (i1 _ a) (i2 _ b)) trivial (fun _ _ _ _ => trivial) (fun _ _ _ _ => trivial) ds
  exact this ds xs h
mutual
theorem Rep.dp : ∀ {v : V} {d : D}, Rep NM K G v d → SeqAt.shaped d.py = true → Dp K G v d.py
  | _, _, .non, _ => .non
  | _, _, .bl b, _ => .bl b
  | _, _, .int i, _ => .int i
  | _, _, .str x, _ => .str x
  | _, _, .ty n, h => by cases h
  | _, _, .tup h _ r, s => .tup h (Reps.dp r (SeqAt.canLay_of_shaped s))
  | _, _, .lst h _ r, s => .lst (.of h) (Reps.dp r (SeqAt.canLay_of_shaped s))
  | _, _, .ro _ _ _, h => by cases h
  | _, _, .ins _ _ _, h => by cases h
theorem Rep.dp0 : ∀ {v : V} {d : D}, Rep NM K G v d → d.py.canLay0 = true → Dp K G v d.py
  | _, _, .non, _ => .non
  | _, _, .bl b, _ => .bl b
  | _, _, .int i, _ => .int i
  | _, _, .str x, _ => .str x
  | _, _, .ty n, h => by cases h
  | _, _, .tup h _ r, s => .tup h (Reps.dp r s)
  | _, _, .lst h _ r, s => .lst (.of h) (Reps.dp r s)
  | _, _, .ro _ _ _, h => by cases h
  | _, _, .ins _ _ _, h => by cases h
theorem Reps.dp : ∀ {vs : List V} {ds : List D}, Reps NM K G vs ds → PyData.canLayAll0 (D.py.pys ds) = true → DpAll K G vs (D.py.pys ds)
  | _, _, .nil, _ => .nil
  | _, _, .cons h r, s => by
    have s2 := Bool.and_eq_true_iff.mp (show (PyData.canLay0 _ && PyData.canLayAll0 _) = true from s)
    exact .cons (Rep.dp0 h s2.1) (Reps.dp r s2.2)
end
theorem Dp.mono {K : PySem.W.Frag} (e : Same G H) {v : V} {d : PyData} (h : Dp K G v d) : Dp K H v d := by
  have q := DpAll.mono (K := K) e (.cons h .nil)
  cases q with
  | cons a _ => exact a
theorem RepB.dp (s : Same G H) {v : V} {d : D} (h : RepB NM K G H v d) (q : SeqAt.shaped d.py = true) : Dp K H v d.py := by
  cases h with
  | frz r => exact Q.Dp.mono s (r.dp q)
  | own h1 h2 h3 h4 => exact .lst (.of h1) (Q.DpAll.mono s (h4.dp (SeqAt.canLay_of_shaped q)))
  | obj _ _ _ _ => cases q
end

section
variable (NM : Nam) (K : PySem.W.Frag)
/-- an operation on two things -/
def LR2 (w : D → D → (D → Prop) → Prop) : R2 := fun x y H Q => ∃ G d e kd, Same G H ∧ RepB NM K G H x d ∧ RepB NM K G H y e ∧ w d e kd ∧ ∀ v G' H' r, Ext G H G' H' → Rep NM K G' v r → kd r → Q v H'
end
section
variable {X : Cx} {NM : Nam}
theorem opr_imp {f : Value → Value → Sem Value} {r r' : R2} (h : OpR X f r) (i : ∀ x y H Q, r' x y H Q → r x y H Q) : OpR X f r' :=
  fun pins s σ H x y v u Q I rx ry q => h pins s σ H x y v u Q I rx ry (i _ _ _ _ q)
theorem op_powQ : OpR X (binaryOp .Pow) (rI CPowQ fun i j => .int (i ^ j.toNat)) := opI fun _ _ _ _ _ _ _ hc q => PyProof.Rows.pow_int hc.1 hc.2 q
theorem op_mulQ : OpR X (binaryOp .Mult) (rI CMulQ fun i j => .int (i * j)) := opI fun _ _ _ _ _ _ _ hc q => PyProof.Rows.mul_int q (hc.elim CMulW.ok fun z => z.elim CMul.ok id)
theorem op_gt_str : OpR X (compareOp .Gt) (fun x y H Q => ∃ i j, x = .str i ∧ y = .str j ∧ Q (.bl (decide (j.cps.toList < i.cps.toList))) H) := by
  intro pins s σ H x y v u Q I rx ry h
  obtain ⟨i, j, rfl, rfl, q⟩ := h
  obtain ⟨t, rfl⟩ := rx
  obtain ⟨t', rfl⟩ := ry
  exact PySem.P.gt_str (fin_bl I q rfl)
theorem op_le_str : OpR X (compareOp .LtE) (fun x y H Q => ∃ i j, x = .str i ∧ y = .str j ∧ Q (.bl (!(decide (j.cps.toList < i.cps.toList)))) H) := by
  intro pins s σ H x y v u Q I rx ry h
  obtain ⟨i, j, rfl, rfl, q⟩ := h
  obtain ⟨t, rfl⟩ := rx
  obtain ⟨t', rfl⟩ := ry
  exact PySem.P.le_str (fin_bl I q rfl)
theorem op_ge_str : OpR X (compareOp .GtE) (fun x y H Q => ∃ i j, x = .str i ∧ y = .str j ∧ Q (.bl (!(decide (i.cps.toList < j.cps.toList)))) H) := by
  intro pins s σ H x y v u Q I rx ry h
  obtain ⟨i, j, rfl, rfl, q⟩ := h
  obtain ⟨t, rfl⟩ := rx
  obtain ⟨t', rfl⟩ := ry
  exact PySem.P.ge_str (fin_bl I q rfl)
theorem bop_ok {o : Bop} {p : Operator} (h : bopB o p = true) : OpR X (binaryOp p) (LR2 NM X.K (bopW o)) := by
  intro pins s σ H x y v u Q I rx ry hh
  obtain ⟨G, d, e, kd, sub, hd, he, w, q⟩ := hh
  have fin : ∀ r v' , Rep NM X.K G v' r → kd r → Q v' H := fun r v' hr hk => q v' G H r (.refl sub) hr hk
  cases o with
  | add =>
    cases p <;> first | (cases h; done) | skip
    cases d <;> cases e <;> first | exact w.elim | skip
    · cases hd.int; cases he.int
      exact op_add pins s σ H _ _ v u Q I rx ry ⟨_, _, rfl, rfl, fin _ _ (.int _) w⟩
    · cases hd.str; cases he.str
      exact op_add_str pins s σ H _ _ v u Q I rx ry ⟨_, _, rfl, rfl, w.1, fin _ _ (.str _) w.2⟩
    · obtain ⟨a, xs, rfl, s1, z1, r1⟩ := hd.tup sub
      obtain ⟨b, ys, rfl, s2, z2, r2⟩ := he.tup sub
      have e1 := r1.len
      have e2 := r2.len
      have w1 := w.1
      refine op_catA pins s σ H _ _ v u Q I rx ry ⟨_, _, _, _, rfl, rfl, s1, s2, by omega, fun z => ?_, fun _ z => ?_, fun _ _ p hp => q _ (upd G p _) _ _ (.new sub hp _) (.tup (.of upd_same) (by rw [List.length_append]; omega) ((r1.app r2).mono (same_upd (sub.free hp)))) w.2⟩
      · subst z
        cases r1
        cases he with
        | frz t => exact q _ G H _ (.refl sub) t w.2
      · subst z
        cases r2
        have w2 := w.2
        rw [List.append_nil] at w2
        cases hd with
        | frz t => exact q _ G H _ (.refl sub) t w2
    · obtain ⟨a, xs, rfl, s1, z1, r1⟩ := hd.lst sub
      obtain ⟨b, ys, rfl, s2, z2, r2⟩ := he.lst sub
      have e1 := r1.len
      have e2 := r2.len
      have w1 := w.1
      exact op_cat pins s σ H _ _ v u Q I rx ry ⟨_, _, _, _, rfl, rfl, s1, s2, by omega, fun p hp => q _ (upd G p _) _ _ (.new sub hp _) (.lst upd_same (by rw [List.length_append]; omega) ((r1.app r2).mono (same_upd (sub.free hp)))) w.2⟩
  | sub =>
    cases p <;> first | (cases h; done) | skip
    cases d <;> cases e <;> first | exact w.elim | skip
    cases hd.int; cases he.int
    exact op_sub pins s σ H _ _ v u Q I rx ry ⟨_, _, rfl, rfl, fin _ _ (.int _) w⟩
  | mul =>
    cases p <;> first | (cases h; done) | skip
    cases d <;> cases e <;> first | exact w.elim | skip
    cases hd.int; cases he.int
    exact op_mulQ pins s σ H _ _ v u Q I rx ry ⟨_, _, rfl, rfl, w.1, fin _ _ (.int _) w.2⟩
  | fdiv =>
    cases p <;> first | (cases h; done) | skip
    cases d <;> cases e <;> first | exact w.elim | skip
    cases hd.int; cases he.int
    exact op_fdivW pins s σ H _ _ v u Q I rx ry ⟨_, _, rfl, rfl, w.1, fin _ _ (.int _) w.2⟩
  | mod =>
    cases p <;> first | (cases h; done) | skip
    cases d <;> cases e <;> first | exact w.elim | skip
    cases hd.int; cases he.int
    exact op_mod pins s σ H _ _ v u Q I rx ry ⟨_, _, rfl, rfl, w.1, fin _ _ (.int _) w.2⟩
  | pow =>
    cases p <;> first | (cases h; done) | skip
    cases d <;> cases e <;> first | exact w.elim | skip
    cases hd.int; cases he.int
    exact op_powQ pins s σ H _ _ v u Q I rx ry ⟨_, _, rfl, rfl, w.1, fin _ _ (.int _) w.2⟩
theorem eq_ok (hu : X.A.units + 64 < cLine) {pins s σ H x y v u} {Q : VK} (I : Inv X pins σ H s) (rx : RelV x v) (ry : RelV y u) {G : Hp} {d e : D} (sub : Same G H) (hd : RepB NM X.K G H x d) (he : RepB NM X.K G H y e) (w : eqW d e fun r => Q (.bl r) H) :
    wpAny (model X.prog X.w) X.A (compareOp .Eq v u) (EP X pins σ Q) X.xe s := by
  have gen : SeqAt.shaped d.py = true ∧ SeqAt.shaped e.py = true ∧ Q (.bl (PyData.eqv d.py e.py)) H → wpAny (model X.prog X.w) X.A (compareOp .Eq v u) (EP X pins σ Q) X.xe s := fun z =>
    op_eqD hu pins s σ H x y v u Q I rx ry ⟨_, _, hd.dp sub z.1, he.dp sub z.2.1, z.1, z.2.1, z.2.2⟩
  unfold eqW at w
  split at w
  · cases hd.int; cases he.int
    refine op_eq pins s σ H _ _ v u Q I rx ry ⟨rfl, ?_⟩
    simp only [V.int.injEq]
    exact w
  · cases hd.str; cases he.str
    refine op_eq pins s σ H _ _ v u Q I rx ry ⟨rfl, ?_⟩
    simp only [V.str.injEq]
    exact w
  · cases hd.bl; cases he.bl
    refine op_eq pins s σ H _ _ v u Q I rx ry ⟨rfl, ?_⟩
    simp only [V.bl.injEq]
    exact w
  · exact gen w
theorem ne_ok (hu : X.A.units + 64 < cLine) {pins s σ H x y v u} {Q : VK} (I : Inv X pins σ H s) (rx : RelV x v) (ry : RelV y u) {G : Hp} {d e : D} (sub : Same G H) (hd : RepB NM X.K G H x d) (he : RepB NM X.K G H y e) (w : eqW d e fun r => Q (.bl !r) H) :
    wpAny (model X.prog X.w) X.A (compareOp .NotEq v u) (EP X pins σ Q) X.xe s := by
  have gen : SeqAt.shaped d.py = true ∧ SeqAt.shaped e.py = true ∧ Q (.bl !(PyData.eqv d.py e.py)) H → wpAny (model X.prog X.w) X.A (compareOp .NotEq v u) (EP X pins σ Q) X.xe s := fun z =>
    op_neD hu pins s σ H x y v u Q I rx ry ⟨_, _, hd.dp sub z.1, he.dp sub z.2.1, z.1, z.2.1, z.2.2⟩
  unfold eqW at w
  split at w
  · cases hd.int; cases he.int
    refine op_ne pins s σ H _ _ v u Q I rx ry ⟨rfl, ?_⟩
    simp only [V.int.injEq]
    exact w
  · cases hd.str; cases he.str
    refine op_ne pins s σ H _ _ v u Q I rx ry ⟨rfl, ?_⟩
    simp only [V.str.injEq]
    exact w
  · cases hd.bl; cases he.bl
    refine op_ne pins s σ H _ _ v u Q I rx ry ⟨rfl, ?_⟩
    simp only [V.bl.injEq]
    exact w
  · exact gen w
theorem eqW_mono {d e : D} {f g : Bool → Prop} (m : ∀ b, f b → g b) (z : eqW d e f) : eqW d e g := by
  cases d <;> cases e <;> first | exact m _ z | exact ⟨z.1, z.2.1, m _ z.2.2⟩
/-- a comparison's answer is a bool -/
theorem cop_ok (hu : X.A.units + 64 < cLine) {o : Cop} {p : CmpOp} (h : copB o p = true) : OpR X (compareOp p) (LR2 NM X.K fun d e k => copW o d e fun r => k (.bl r)) := by
  intro pins s σ H x y v u Q I rx ry hh
  obtain ⟨G, d, e, kd, sub, hd, he, w, q⟩ := hh
  have fin : ∀ b, kd (.bl b) → Q (.bl b) H := fun b hk => q _ G H _ (.refl sub) (.bl b) hk
  cases o with
  | lt =>
    cases p <;> first | (cases h; done) | skip
    cases d <;> cases e <;> first | exact w.elim | skip
    · cases hd.int; cases he.int
      exact op_lt pins s σ H _ _ v u Q I rx ry ⟨_, _, rfl, rfl, fin _ w⟩
    · cases hd.str; cases he.str
      exact op_lt_str pins s σ H _ _ v u Q I rx ry ⟨_, _, rfl, rfl, fin _ w⟩
  | le =>
    cases p <;> first | (cases h; done) | skip
    cases d <;> cases e <;> first | exact w.elim | skip
    · cases hd.int; cases he.int
      exact op_le pins s σ H _ _ v u Q I rx ry ⟨_, _, rfl, rfl, fin _ w⟩
    · cases hd.str; cases he.str
      exact op_le_str pins s σ H _ _ v u Q I rx ry ⟨_, _, rfl, rfl, fin _ w⟩
  | gt =>
    cases p <;> first | (cases h; done) | skip
    cases d <;> cases e <;> first | exact w.elim | skip
    · cases hd.int; cases he.int
      exact op_gt pins s σ H _ _ v u Q I rx ry ⟨_, _, rfl, rfl, fin _ w⟩
    · cases hd.str; cases he.str
      exact op_gt_str pins s σ H _ _ v u Q I rx ry ⟨_, _, rfl, rfl, fin _ w⟩
  | ge =>
    cases p <;> first | (cases h; done) | skip
    cases d <;> cases e <;> first | exact w.elim | skip
    · cases hd.int; cases he.int
      exact op_ge pins s σ H _ _ v u Q I rx ry ⟨_, _, rfl, rfl, fin _ w⟩
    · cases hd.str; cases he.str
      exact op_ge_str pins s σ H _ _ v u Q I rx ry ⟨_, _, rfl, rfl, fin _ w⟩
  | eq =>
    cases p <;> first | (cases h; done) | skip
    exact eq_ok hu I rx ry sub hd he (eqW_mono (fun b => fin b) (show eqW d e fun r => kd (.bl r) from by cases d <;> cases e <;> exact w))
  | ne =>
    cases p <;> first | (cases h; done) | skip
    exact ne_ok hu I rx ry sub hd he (eqW_mono (fun b => fin !b) (show eqW d e fun r => kd (.bl !r) from by cases d <;> cases e <;> exact w))
  | is_ =>
    cases p <;> first | (cases h; done) | skip
    cases e <;> first | (cases d <;> exact w.elim) | skip
    cases he.non
    refine op_isN pins s σ H _ _ v u Q I rx ry ⟨rfl, ?_⟩
    rw [hd.isNon]
    exact fin _ (by cases d <;> exact w)
  | isnot =>
    cases p <;> first | (cases h; done) | skip
    cases e <;> first | (cases d <;> exact w.elim) | skip
    cases he.non
    refine op_notN pins s σ H _ _ v u Q I rx ry ⟨rfl, ?_⟩
    rw [hd.isNon']
    exact fin _ (by cases d <;> exact w)
  | in_ => cases h
  | notin => cases h
theorem cop_ok1 (hu : X.A.units + 65 < cLine) {o : Cop} {p : CmpOp} (h : copB1 o p = true) : OpR X (compareOp p) (LR2 NM X.K fun d e k => copW o d e fun r => k (.bl r)) := by
  cases o <;> cases p <;> first | exact cop_ok (by omega) h | (cases h; done) | skip
  · intro pins s σ H x y v u Q I rx ry ⟨G, d, e, kd, sub, hd, he, w, q⟩
    cases e <;> first | (cases d <;> exact w.elim) | (cases d <;> first | exact w.elim | (cases hd.str; cases he.str; exact op_in_str pins s σ H _ _ v u Q I rx ry ⟨_, _, rfl, rfl, q _ G H _ (.refl sub) (.bl _) w⟩)) | skip
    rename_i ds
    have w' : SeqAt.shaped d.py = true ∧ SeqAt.shaped (D.lst ds).py = true ∧ kd (.bl ((D.py.pys ds).any fun z => PyData.eqv z d.py)) := by cases d <;> exact w
    exact op_inD hu pins s σ H x y v u Q I rx ry ⟨d.py, D.py.pys ds, RepB.dp sub hd w'.1, RepB.dp sub he w'.2.1, w'.1, w'.2.1, q _ G H _ (.refl sub) (.bl _) w'.2.2⟩
  · intro pins s σ H x y v u Q I rx ry ⟨G, d, e, kd, sub, hd, he, w, q⟩
    cases e <;> first | (cases d <;> exact w.elim) | (cases d <;> first | exact w.elim | (cases hd.str; cases he.str; exact op_notin_str pins s σ H _ _ v u Q I rx ry ⟨_, _, rfl, rfl, q _ G H _ (.refl sub) (.bl _) w⟩)) | skip
    rename_i ds
    have w' : SeqAt.shaped d.py = true ∧ SeqAt.shaped (D.lst ds).py = true ∧ kd (.bl (!(D.py.pys ds).any fun z => PyData.eqv z d.py)) := by cases d <;> exact w
    exact op_notInD hu pins s σ H x y v u Q I rx ry ⟨d.py, D.py.pys ds, RepB.dp sub hd w'.1, RepB.dp sub he w'.2.1, w'.1, w'.2.1, q _ G H _ (.refl sub) (.bl _) w'.2.2⟩
end
end Q

/-! QE: the expressions' rules. -/
namespace Q
open PySem PySem.Spec L2

section
variable (NM : Nam) (K : PySem.W.Frag)
/-- a def's promise -/
def LS (n : Nat) (fs : FS) : Sp := fun vs H Q E => ∃ G ds kd kx, Same G H ∧ Reps NM K G vs ds ∧ vs.length = n ∧ fs ds kd kx ∧
  (∀ v G' H' d, Ext G H G' H' → Rep NM K G' v d → kd d → Q v H') ∧ (∀ cls dx G' H' x, Ext G H G' H' → RepX NM K G' cls dx x → kx x → E cls dx H')
/-- an __init__'s -/
def LI (n c : Nat) (is : IS) : Sp := fun vs H Q E => ∃ x dx us G ds kd kx, vs = .ref x :: us ∧ us.length + 1 = n ∧ Same G H ∧ H x = some (.ins (He.ga K (NM.cl c)) dx []) ∧ G x = none ∧ Reps NM K G us ds ∧ is ds kd kx ∧
  (∀ G' H' ks xs fs dy, (∀ b o, H b = some o → b ≠ x → H' b = some o) → Same G G' → Same G' H' → (∀ a, H a ≠ none → G a = none → G' a = none) → H' x = some (.ins (He.ga K (NM.cl c)) dy ((ks.map NM.at_).zip xs)) → ks.length = xs.length → Reps NM K G' xs fs → kd ks fs → Q .non H') ∧
  (∀ cls dx' G' H' e, (∀ b o, H b = some o → b ≠ x → H' b = some o) → Same G G' → Same G' H' → (∀ a, H a ≠ none → G a = none → G' a = none) → RepX NM K G' cls dx' e → kx e → E cls dx' H')
end

def DefOk (X : Cx) (NM : Nam) (c : Cal) : Prop := ∃ k f fd ps ds dvs, FnOk X.prog X.w X.K X.mg X.base (L2.CX X.prog X.w) k f fd ps (LS NM X.K c.ar c.fs) ∧ Room k X.A ∧ X.mg c.nm = some (.ref f) ∧ PySem.W.keepIn X.K (.ref f) = true ∧ Binds X.K fd ps ds ∧ Vals dvs ds ∧ ∀ G, Reps NM X.K G dvs c.dfl
def ClsOk (X : Cx) (NM : Nam) (c : Cal) : Prop := ∃ k f fd ps ds dvs, FnOk X.prog X.w X.K X.mg X.base (L2.CX X.prog X.w) k f fd ps (LI NM X.K (c.ar + 1) c.cls c.is) ∧ Room (k + 1) X.A ∧ X.mg c.nm = some (.ref (He.ga X.K (NM.cl c.cls))) ∧ Mk X.K (He.ga X.K (NM.cl c.cls)) f ∧ Binds X.K fd ps ds ∧ Vals dvs ds ∧ ∀ G, Reps NM X.K G dvs c.dfl
def MetOk (X : Cx) (NM : Nam) (c : Cal) : Prop := ∃ k f fd ps ds dvs, FnOk X.prog X.w X.K X.mg X.base (L2.CX X.prog X.w) k f fd ps (LS NM X.K c.ar c.fs) ∧ Room k X.A ∧ Cls X.K (He.ga X.K (NM.cl c.cls)) ∧ Meth X.K (He.ga X.K (NM.cl c.cls)) c.mt f ∧ Binds X.K fd ps ds ∧ Vals dvs ds ∧ ∀ G, Reps NM X.K G dvs c.dfl

structure Ok (X : Cx) (NM : Nam) (B : List Str) (Φ : List Cal) (Γ : List (Str × D)) (AT : List (Nat × Nat)) : Prop where
  calm : X.calm = true
  nd : X.N.Nodup
  hu : X.A.units + 65 < cLine
  fre : ∀ x, x ∈ B → x ≠ "isqrt!" → X.mg x = none
  isq : ("isqrt!" : Str) ∈ B → X.mg "isqrt" = some (.builtin "math.isqrt")
  glo : ∀ (j : Nat) (p : Str × D), Γ[j]? = some p → ∃ v u, X.mg p.1 = some u ∧ RelV v u ∧ ∀ G, Rep NM X.K G v p.2
  dfs : ∀ c ∈ Φ, c.mt = "" → DefOk X NM c
  cls : ∀ c ∈ Φ, c.mt = "__init__" → ClsOk X NM c
  met : ∀ c ∈ Φ, c.mt ≠ "" → c.mt ≠ "__init__" → MetOk X NM c
  /-- AT: which class has which attribute -/
  atr : ∀ (p : Nat × Nat), p ∈ AT → Cls X.K (He.ga X.K (NM.cl p.1)) ∧ NoAttr X.K (He.ga X.K (NM.cl p.1)) (NM.at_ p.2)
theorem Ok.blk {X : Cx} {NM : Nam} {B : List Str} {Φ : List Cal} {Γ : List (Str × D)} {AT : List (Nat × Nat)} (ok : Ok X NM B Φ Γ AT) (s : Shared) (H : Hp) (scope : Scope) (cenv : PySem.Env) (fp : List Addr) : Ok (X.blk s H scope cenv fp) NM B Φ Γ AT :=
  ⟨ok.calm, ok.nd, ok.hu, ok.fre, ok.isq, ok.glo, ok.dfs, ok.cls, ok.met, ok.atr⟩

abbrev Wk := Env → (D → Prop) → (Exc → Prop) → Prop
section
variable (NM : Nam) (K : PySem.W.Frag) (W : WX)
def LE (f : Wk) : TE := fun σ H Q => ∃ F ρ G kd kx, R NM K F ρ G σ H ∧ f ρ kd kx ∧ (∀ v G' H' d, Ext G H G' H' → Rep NM K G' v d → kd d → Q v H') ∧ (∀ cls dx G' H' x, Ext G H G' H' → RepX NM K G' cls dx x → kx x → W cls dx σ H')
/-- a look at a slot may give what is still the slot's -/
def LB (f : Wk) : TE := fun σ H Q => ∃ F ρ G kd kx, R NM K F ρ G σ H ∧ f ρ kd kx ∧ (∀ v G' H' d, Ext G H G' H' → RepB NM K G' H' v d → kd d → Q v H') ∧ (∀ cls dx G' H' x, Ext G H G' H' → RepX NM K G' cls dx x → kx x → W cls dx σ H')
def LA (n : Nat) (f : Env → (List D → Prop) → (Exc → Prop) → Prop) : TA := fun σ H Q => ∃ F ρ G kd kx, R NM K F ρ G σ H ∧ f ρ kd kx ∧ (∀ vs G' H' ds, Ext G H G' H' → Reps NM K G' vs ds → vs.length = n → kd ds → Q vs H') ∧ (∀ cls dx G' H' x, Ext G H G' H' → RepX NM K G' cls dx x → kx x → W cls dx σ H')
def LT (f : Env → (Bool → Prop) → (Exc → Prop) → Prop) : TT := fun σ H Q => ∃ F ρ G kd kx, R NM K F ρ G σ H ∧ f ρ kd kx ∧ (∀ b G' H', Ext G H G' H' → kd b → Q b H') ∧ (∀ cls dx G' H' x, Ext G H G' H' → RepX NM K G' cls dx x → kx x → W cls dx σ H')
end

section
variable {X : Cx} {NM : Nam} {B : List Str} {Φ : List Cal} {Γ : List (Str × D)} {AT : List (Nat × Nat)} {W : WX} {a b c e : Expr} {fa fb fc : Wk} {pos : Pos}
theorem pe_imp {t t' : TE} (h : PE X e t) (i : ∀ σ H Q, t' σ H Q → t σ H Q) : PE X e t' := ⟨fun pins s σ H Q I q => h.run pins s σ H Q I (i _ _ _ q)⟩
theorem pt_imp {t t' : TT} (h : PT X e t) (i : ∀ σ H Q, t' σ H Q → t σ H Q) : PT X e t' := ⟨fun pins s σ H Q I q => h.run pins s σ H Q I (i _ _ _ q)⟩
theorem pw_imp {t t' : TT} (h : PW X e t) (i : ∀ σ H Q, t' σ H Q → t σ H Q) : PW X e t' := ⟨fun w pins s σ H Q I q => h.run w pins s σ H Q I (i _ _ _ q)⟩
theorem pa_imp {es : List Expr} {t t' : TA} (h : PA X es t) (i : ∀ σ H Q, t' σ H Q → t σ H Q) : PA X es t' := ⟨fun p pins s σ H Q I q => h.run p pins s σ H Q I (i _ _ _ q)⟩
theorem le_lb (h : PE X e (LE NM X.K W fa)) : PE X e (LB NM X.K W fa) := pe_imp h fun σ H Q ⟨F, ρ, G, kd, kx, r, q, h1, h2⟩ => ⟨F, ρ, G, kd, kx, r, q, fun v G' H' d x r k => h1 v G' H' d x (.frz r) k, h2⟩

theorem R.slot {F : Fr} {ρ : Env} {G H : Hp} {σ : L2.St} (r : R NM X.K F ρ G σ H) {i : Nat} {s : Sl} (h : ρ[i]? = some s) : ∃ o, σ[i]? = some o ∧ SlOk NM X.K F G H s o := by
  have hi : i < σ.length := by
    rw [← r.len]
    exact (List.getElem?_eq_some_iff.mp h).1
  exact ⟨σ[i], List.getElem?_eq_getElem hi, r.sl i s _ h (List.getElem?_eq_getElem hi)⟩
theorem varB_pv {N : List Str} {sc : Scope} {i : Nat} {x : Str} {p : Pos} (h : varB N sc i x = true) (hN : X.N = N) (hs : X.env.scope = sc) : PE X (.Name x p) (tVar i) := by
  unfold varB at h
  simp only [Bool.and_eq_true, decide_eq_true_eq, Bool.not_eq_true'] at h
  obtain ⟨⟨⟨h1, h2⟩, h3⟩, h4⟩ := h
  refine pe_var (by rw [hN]; exact h1) ?_ h3 h4
  unfold visB at h2
  unfold Vis
  rw [hs]
  split at h2 <;> first | (rename_i q; rw [q]; simp) | cases h2
theorem se_var {i : Nat} (h : PE X e (tVar i)) : PE X e (LE NM X.K W (wpE NM AT Φ Γ (.var i))) := pe_imp h fun σ H Q ⟨F, ρ, G, kd, kx, r, q, h1, h2⟩ => by
  simp only [wpE] at q
  split at q
  · rename_i d hd
    obtain ⟨o, ho, v, hv, hr⟩ := r.slot hd
    subst hv
    exact ⟨v, ho, h1 v G H d (.refl r.sub) hr q⟩
  · exact q.elim
theorem se_brw {i : Nat} (h : PE X e (tVar i)) : PE X e (LB NM X.K W (wpE NM AT Φ Γ (.brw i))) := pe_imp h fun σ H Q ⟨F, ρ, G, kd, kx, r, q, h1, h2⟩ => by
  simp only [wpE] at q
  split at q
  · rename_i d hd
    obtain ⟨o, ho, v, hv, hr⟩ := r.slot hd
    subst hv
    exact ⟨v, ho, h1 v G H d (.refl r.sub) (.frz hr) q⟩
  · rename_i ds hd
    obtain ⟨o, ho, l, vs, hv, a1, a2, a3, a4, a5⟩ := r.slot hd
    subst hv
    exact ⟨_, ho, h1 _ G H _ (.refl r.sub) (.own a1 a2 a4 a5) q⟩
  · rename_i c ks ds hd
    obtain ⟨o, ho, x, dx, xs, hv, a1, a2, a3, a4, a5⟩ := r.slot hd
    subst hv
    exact ⟨_, ho, h1 _ G H _ (.refl r.sub) (.obj a1 a2 a3 a5) q⟩
  · exact q.elim
/-- an atom -/
theorem se_atom {v : V} {d : D} (h : PE X e (tC v)) (r : ∀ G, Rep NM X.K G v d) : PE X e (LE NM X.K W fun _ k _ => k d) := pe_imp h fun σ H Q ⟨F, ρ, G, kd, kx, q, w, h1, h2⟩ => h1 v G H d (.refl q.sub) (r G) w
theorem se_bin {o : Bop} {p : Operator} (h : bopB o p = true) (ha : PE X a (LB NM X.K W fa)) (hb : PE X b (LB NM X.K W fb)) : PE X (.BinOp a p b pos) (LE NM X.K W fun ρ k x => fa ρ (fun d => fb ρ (fun e => bopW o d e k) x) x) :=
  pe_imp (pe_op (bop_ok h) ha hb) fun σ H Q ⟨F, ρ, G, kd, kx, r, q, h1, h2⟩ => ⟨F, ρ, G, _, kx, r, q, fun v G1 H1 d x1 r1 q1 => ⟨F, ρ, G1, _, kx, r.ext x1, q1, fun w G2 H2 e x2 r2 q2 =>
    ⟨G2, d, e, kd, x2.sub, r1.ext x2, r2, q2, fun u G3 H3 g x3 r3 q3 => h1 u G3 H3 g ((x1.trans x2).trans x3) r3 q3⟩, fun c d G2 H2 x x2 => h2 c d G2 H2 x (x1.trans x2)⟩, h2⟩
theorem se_cmp (ok : Ok X NM B Φ Γ AT) {o : Cop} {p : CmpOp} (h : (copB1 o p && !behindInMarks p b) = true) (ha : PE X a (LB NM X.K W fa)) (hb : PE X b (LB NM X.K W fb)) :
    PE X (.Compare a [p] [b] pos) (LE NM X.K W fun ρ k x => fa ρ (fun d => fb ρ (fun e => copW o d e fun r => k (.bl r)) x) x) :=
  pe_imp (pe_cmpR (cop_ok1 ok.hu (Bool.and_eq_true_iff.mp h).1) ha hb (by have z := (Bool.and_eq_true_iff.mp h).2; cases q : behindInMarks p b with | true => rw [q] at z; cases z | false => rfl)) fun σ H Q ⟨F, ρ, G, kd, kx, r, q, h1, h2⟩ => ⟨F, ρ, G, _, kx, r, q, fun v G1 H1 d x1 r1 q1 => ⟨F, ρ, G1, _, kx, r.ext x1, q1, fun w G2 H2 e x2 r2 q2 =>
    ⟨G2, d, e, kd, x2.sub, r1.ext x2, r2, q2, fun u G3 H3 g x3 r3 q3 => h1 u G3 H3 g ((x1.trans x2).trans x3) r3 q3⟩, fun c d G2 H2 x x2 => h2 c d G2 H2 x (x1.trans x2)⟩, h2⟩
theorem copW_mono {o : Cop} {d e : D} {f g : Bool → Prop} (m : ∀ b, f b → g b) (z : copW o d e f) : copW o d e g := by
  cases o <;> first | exact eqW_mono m z | exact eqW_mono (fun b => m !b) z | (cases d <;> cases e <;> first | exact m _ z | exact ⟨z.1, z.2.1, m _ z.2.2⟩ | exact z.elim)
theorem tchain_le (ok : Ok X NM B Φ Γ AT) {o o' : Cop} {tc : TE} (htc : tc = LB NM X.K W fc) {σ : L2.St} {H : Hp} {Q : VK}
    (h : LE NM X.K W (fun ρ k x => fa ρ (fun d => fb ρ (fun e => copW o d e fun r => if r = true then fc ρ (fun g => copW o' e g fun r => k (.bl r)) x else k (.bl false)) x) x) σ H Q) :
    tChain (LR2 NM X.K fun d e k => copW o d e fun r => k (.bl r)) (LR2 NM X.K fun d e k => copW o' d e fun r => k (.bl r)) (LB NM X.K W fa) (LB NM X.K W fb) tc σ H Q := by
  subst htc
  obtain ⟨F, ρ, G, kd, kx, r, q, h1, h2⟩ := h
  refine ⟨F, ρ, G, _, kx, r, q, fun v G1 H1 d x1 r1 q1 => ⟨F, ρ, G1, _, kx, r.ext x1, q1, fun w G2 H2 e x2 r2 q2 => ?_, fun c d G2 H2 x x2 => h2 c d G2 H2 x (x1.trans x2)⟩, h2⟩
  refine ⟨G2, d, e, fun z => ∃ b, z = .bl b ∧ if b = true then fc ρ (fun g => copW o' e g fun r => kd (.bl r)) kx else kd (.bl false), x2.sub, r1.ext x2, r2, copW_mono (fun b z => ⟨b, rfl, z⟩) q2, ?_⟩
  rintro u G3 H3 g x3 r3 ⟨b, rfl, q3⟩
  cases r3
  refine ⟨b, rfl, ?_⟩
  have x4 := (x1.trans x2).trans x3
  cases b with
  | false => exact iteF (h1 _ G3 H3 _ x4 (.bl false) q3)
  | true =>
    refine iteT ⟨F, ρ, G3, _, kx, ((r.ext x1).ext x2).ext x3, q3, fun u G4 H4 g x5 r5 q5 => ?_, fun c d G4 H4 x x5 => h2 c d G4 H4 x (x4.trans x5)⟩
    exact ⟨G4, e, g, kd, x5.sub, (r2.ext x3).ext x5, r5, q5, fun u G5 H5 g x6 r6 q6 => h1 u G5 H5 g ((x4.trans x5).trans x6) r6 q6⟩
theorem marks2 {o' : Cop} {p p' : CmpOp} (h' : copB o' p' = true) : lastMarks [p, p'] [b, c] = false := by
  have q : behindInMarks p' c = false := by cases o' <;> cases p' <;> first | (cases h'; done) | exact nomark _
  rw [lastMarks, lastMarks]
  · exact q
  · simp
theorem se_chn (ok : Ok X NM B Φ Γ AT) {o o' : Cop} {p p' : CmpOp} (h : copB o p = true) (h' : copB o' p' = true) (ha : PE X a (LB NM X.K W fa)) (hb : PE X b (LB NM X.K W fb)) (hc : PE X c (LB NM X.K W fc)) :
    PE X (.Compare a [p, p'] [b, c] pos) (LE NM X.K W fun ρ k x => fa ρ (fun d => fb ρ (fun e => copW o d e fun r => if r = true then fc ρ (fun g => copW o' e g fun r => k (.bl r)) x else k (.bl false)) x) x) :=
  pe_imp (pe_chain (cop_ok (by have := ok.hu; omega) h) (cop_ok (by have := ok.hu; omega) h') ha hb hc (marks2 h')) fun σ H Q q => tchain_le ok rfl q

/-- a op1 b op2 c op3 d -/
def tCh3 (r r' r3 : R2) (ta tb tc td : TE) : TE := fun σ H Q => ta σ H fun x H1 => tb σ H1 fun y H2 => r x y H2 fun z H3 => ∃ k, z = .bl k ∧
  (if k = true then tc σ H3 fun w' H4 => r' y w' H4 fun z' H5 => ∃ k, z' = .bl k ∧ (if k = true then td σ H5 fun t H6 => r3 w' t H6 Q else Q (.bl false) H5) else Q (.bl false) H3)
theorem pe_ch3 {op op' op3 : CmpOp} {r r' r3 : R2} (ho : OpR X (compareOp op) r) (ho' : OpR X (compareOp op') r') (ho3 : OpR X (compareOp op3) r3) (ha : PE X a ta) (hb : PE X b tb) (hc : PE X c tc) (hd : PE X d td)
    (hm : lastMarks [op, op', op3] [b, c, d] = false) : PE X (.Compare a [op, op', op3] [b, c, d] pos) (tCh3 r r' r3 ta tb tc td) := by
  refine ⟨fun pins s σ H Q I h => ?_⟩
  refine PyProof.Rows.Compare_chain (thn (ha.run pins s σ H _ I h) fun v s1 ⟨x, H1, I1, r1, q1⟩ => PyProof.Rows.chain_link (thn (hb.run pins s1 σ H1 _ I1 q1) fun u s2 ⟨y, H2, I2, r2, q2⟩ =>
    thn (ho pins s2 σ H2 x y v u _ I2 r1 r2 q2) fun d s3 ⟨z, H3, I3, r3, k, e, q3⟩ => ?_)) hm
  subst e
  cases r3
  refine wpAny_truthy_bool ?_
  cases k with
  | false => exact PyProof.Rows.ite_ff ⟨.bl false, H3, I3, rfl, q3⟩
  | true =>
    refine PyProof.Rows.ite_tt (PyProof.Rows.chain_link (thn (hc.run pins s3 σ H3 _ I3 q3) fun w' s4 ⟨z', H4, I4, r4, q4⟩ => thn (ho' pins s4 σ H4 y z' u w' _ I4 r2 r4 q4) fun d' s5 ⟨z5, H5, I5, r5, k', e', q5⟩ => ?_))
    subst e'
    cases r5
    refine wpAny_truthy_bool ?_
    cases k' with
    | false => exact PyProof.Rows.ite_ff ⟨.bl false, H5, I5, rfl, q5⟩
    | true => exact PyProof.Rows.ite_tt (PyProof.Rows.chain_last (thn (hd.run pins s5 σ H5 _ I5 q5) fun t s6 ⟨z6, H6, I6, r6, q6⟩ => ho3 pins s6 σ H6 z' z6 w' t Q I6 r4 r6 q6))
theorem pt_ch3 {op op' op3 : CmpOp} {r r' r3 : R2} (ho : OpR X (compareOp op) r) (ho' : OpR X (compareOp op') r') (ho3 : OpR X (compareOp op3) r3) (ha : PE X a ta) (hb : PE X b tb) (hc : PE X c tc) (hd : PE X d td)
    (hm : lastMarks [op, op', op3] [b, c, d] = false) : PT X (.Compare a [op, op', op3] [b, c, d] pos) (tTest (tCh3 r r' r3 ta tb tc td)) := by
  refine ⟨fun pins s σ H Q I h => ?_⟩
  refine PyProof.Rows.isTrue_chain (thn (ha.run pins s σ H _ I h) fun v s1 ⟨x, H1, I1, r1, q1⟩ => PyProof.Rows.test_link (thn (hb.run pins s1 σ H1 _ I1 q1) fun u s2 ⟨y, H2, I2, r2, q2⟩ =>
    thn (ho pins s2 σ H2 x y v u _ I2 r1 r2 q2) fun d s3 ⟨z, H3, I3, r3, k, e, q3⟩ => ?_)) hm
  subst e
  cases r3
  refine wpAny_truthy_bool ?_
  cases k with
  | false =>
    obtain ⟨k', e', q'⟩ := q3
    cases e'
    exact PyProof.Rows.ite_ff ⟨H3, I3, q'⟩
  | true =>
    refine PyProof.Rows.ite_tt (PyProof.Rows.test_link (thn (hc.run pins s3 σ H3 _ I3 q3) fun w' s4 ⟨z', H4, I4, r4, q4⟩ => thn (ho' pins s4 σ H4 y z' u w' _ I4 r2 r4 q4) fun d' s5 ⟨z5, H5, I5, r5, k', e', q5⟩ => ?_))
    subst e'
    cases r5
    refine wpAny_truthy_bool ?_
    cases k' with
    | false =>
      obtain ⟨k', e', q'⟩ := q5
      cases e'
      exact PyProof.Rows.ite_ff ⟨H5, I5, q'⟩
    | true =>
      refine PyProof.Rows.ite_tt (PyProof.Rows.test_last (thn (hd.run pins s5 σ H5 _ I5 q5) fun t s6 ⟨z6, H6, I6, r6, q6⟩ => thn (ho3 pins s6 σ H6 z' z6 w' t _ I6 r4 r6 q6) fun d' s7 ⟨z2, H7, I7, r7, k2, e2, q7⟩ => ?_))
      subst e2
      cases r7
      exact wpAny_truthy_bool ⟨H7, I7, q7⟩
theorem tch3_le (ok : Ok X NM B Φ Γ AT) {o o' o3 : Cop} {σ : L2.St} {H : Hp} {Q : VK}
    (h : LE NM X.K W (fun ρ k x => fa ρ (fun d => fb ρ (fun e => copW o d e fun r => if r = true then fc ρ (fun h => copW o' e h fun r => if r = true then fd ρ (fun i => copW o3 h i fun r => k (.bl r)) x else k (.bl false)) x else k (.bl false)) x) x) σ H Q) :
    tCh3 (LR2 NM X.K fun d e k => copW o d e fun r => k (.bl r)) (LR2 NM X.K fun d e k => copW o' d e fun r => k (.bl r)) (LR2 NM X.K fun d e k => copW o3 d e fun r => k (.bl r)) (LB NM X.K W fa) (LB NM X.K W fb) (LB NM X.K W fc) (LB NM X.K W fd) σ H Q := by
  obtain ⟨F, ρ, G, kd, kx, r, q, h1, h2⟩ := h
  refine ⟨F, ρ, G, _, kx, r, q, fun v G1 H1 d x1 r1 q1 => ⟨F, ρ, G1, _, kx, r.ext x1, q1, fun w G2 H2 e x2 r2 q2 => ?_, fun c d G2 H2 x x2 => h2 c d G2 H2 x (x1.trans x2)⟩, h2⟩
  refine ⟨G2, d, e, fun z => ∃ b, z = .bl b ∧ if b = true then fc ρ (fun h => copW o' e h fun r => if r = true then fd ρ (fun i => copW o3 h i fun r => kd (.bl r)) kx else kd (.bl false)) kx else kd (.bl false), x2.sub, r1.ext x2, r2, copW_mono (fun b z => ⟨b, rfl, z⟩) q2, ?_⟩
  rintro u G3 H3 g x3 r3 ⟨b, rfl, q3⟩
  cases r3
  refine ⟨b, rfl, ?_⟩
  have x4 := (x1.trans x2).trans x3
  cases b with
  | false => exact iteF (h1 _ G3 H3 _ x4 (.bl false) q3)
  | true =>
    refine iteT ⟨F, ρ, G3, _, kx, ((r.ext x1).ext x2).ext x3, q3, fun u G4 H4 g x5 r5 q5 => ?_, fun c d G4 H4 x x5 => h2 c d G4 H4 x (x4.trans x5)⟩
    refine ⟨G4, e, g, fun z => ∃ b, z = .bl b ∧ if b = true then fd ρ (fun i => copW o3 g i fun r => kd (.bl r)) kx else kd (.bl false), x5.sub, (r2.ext x3).ext x5, r5, copW_mono (fun b z => ⟨b, rfl, z⟩) q5, ?_⟩
    rintro u' G5 H5 g' x6 r6 ⟨b, rfl, q6⟩
    cases r6
    refine ⟨b, rfl, ?_⟩
    have x7 := (x4.trans x5).trans x6
    cases b with
    | false => exact iteF (h1 _ G5 H5 _ x7 (.bl false) q6)
    | true =>
      refine iteT ⟨F, ρ, G5, _, kx, (((r.ext x1).ext x2).ext x3).ext (x5.trans x6), q6, fun u G6 H6 g2 x8 r8 q8 => ?_, fun c d G4 H4 x x5 => h2 c d G4 H4 x (x7.trans x5)⟩
      exact ⟨G6, g, g2, kd, x8.sub, (r5.ext x6).ext x8, r8, q8, fun u G7 H7 g x9 r9 q9 => h1 u G7 H7 g ((x7.trans x8).trans x9) r9 q9⟩
theorem marks3 {o3 : Cop} {p p' p3 : CmpOp} (h' : copB o3 p3 = true) : lastMarks [p, p', p3] [b, c, d] = false := by
  have q : behindInMarks p3 d = false := by cases o3 <;> cases p3 <;> first | (cases h'; done) | exact nomark _
  rw [lastMarks, lastMarks, lastMarks]
  · exact q
  · simp
  · simp
theorem se_ch3 (ok : Ok X NM B Φ Γ AT) {o o' o3 : Cop} {p p' p3 : CmpOp} (h : copB o p = true) (h' : copB o' p' = true) (h3 : copB o3 p3 = true) (ha : PE X a (LB NM X.K W fa)) (hb : PE X b (LB NM X.K W fb)) (hc : PE X c (LB NM X.K W fc)) (hd : PE X d (LB NM X.K W fd)) :
    PE X (.Compare a [p, p', p3] [b, c, d] pos) (LE NM X.K W fun ρ k x => fa ρ (fun d => fb ρ (fun e => copW o d e fun r => if r = true then fc ρ (fun h => copW o' e h fun r => if r = true then fd ρ (fun i => copW o3 h i fun r => k (.bl r)) x else k (.bl false)) x else k (.bl false)) x) x) :=
  pe_imp (pe_ch3 (cop_ok (by have := ok.hu; omega) h) (cop_ok (by have := ok.hu; omega) h') (cop_ok (by have := ok.hu; omega) h3) ha hb hc hd (marks3 h3)) fun σ H Q q => tch3_le ok q
theorem se_neg (ha : PE X a (LB NM X.K W fa)) : PE X (.UnaryOp .USub a pos) (LE NM X.K W fun ρ k x => fa ρ (fun d => match d with
    | .int i => k (.int (-i))
    | _ => False) x) :=
  pe_imp (pe_un un_neg ha) fun σ H Q ⟨F, ρ, G, kd, kx, r, q, h1, h2⟩ => ⟨F, ρ, G, _, kx, r, q, fun v G1 H1 d x1 r1 q1 => by
    cases d <;> first | exact q1.elim | skip
    cases r1.int
    exact ⟨_, rfl, h1 _ G1 H1 _ x1 (.int _) q1⟩, h2⟩
theorem se_not (ha : PE X a (LB NM X.K W fa)) : PE X (.UnaryOp .Not a pos) (LE NM X.K W fun ρ k x => fa ρ (fun d => match d with
    | .bl b => k (.bl !b)
    | _ => False) x) :=
  pe_imp (pe_not ha) fun σ H Q ⟨F, ρ, G, kd, kx, r, q, h1, h2⟩ => ⟨F, ρ, G, _, kx, r, q, fun v G1 H1 d x1 r1 q1 => by
    cases d <;> first | exact q1.elim | skip
    cases r1.bl
    exact ⟨_, rfl, h1 _ G1 H1 _ x1 (.bl _) q1⟩, h2⟩
theorem se_one {op : BoolOp} (ha : PE X a (LE NM X.K W fa)) : PE X (.BoolOp op [a] pos) (LE NM X.K W fa) := pe_one ha
theorem se_and {es : List Expr} (ha : PE X a (LE NM X.K W fa)) (hb : PE X (.BoolOp .And (b :: es) pos) (LE NM X.K W fb)) : PE X (.BoolOp .And (a :: b :: es) pos) (LE NM X.K W fun ρ k x => fa ρ (fun d => match d with
    | .bl b => if b = true then fb ρ k x else k (.bl false)
    | _ => False) x) :=
  pe_imp (pe_and ha hb) fun σ H Q ⟨F, ρ, G, kd, kx, r, q, h1, h2⟩ => ⟨F, ρ, G, _, kx, r, q, fun v G1 H1 d x1 r1 q1 => by
    cases d <;> first | exact q1.elim | skip
    cases r1
    rename_i t
    refine ⟨t, rfl, ?_⟩
    cases t with
    | false => exact iteF (h1 _ G1 H1 _ x1 (.bl _) q1)
    | true => exact iteT ⟨F, ρ, G1, kd, kx, r.ext x1, q1, fun v G2 H2 d x2 r2 q2 => h1 v G2 H2 d (x1.trans x2) r2 q2, fun c d G2 H2 x x2 => h2 c d G2 H2 x (x1.trans x2)⟩, h2⟩
theorem se_or {es : List Expr} (ha : PE X a (LE NM X.K W fa)) (hb : PE X (.BoolOp .Or (b :: es) pos) (LE NM X.K W fb)) : PE X (.BoolOp .Or (a :: b :: es) pos) (LE NM X.K W fun ρ k x => fa ρ (fun d => match d with
    | .bl b => if b = true then k (.bl true) else fb ρ k x
    | _ => False) x) :=
  pe_imp (pe_or ha hb) fun σ H Q ⟨F, ρ, G, kd, kx, r, q, h1, h2⟩ => ⟨F, ρ, G, _, kx, r, q, fun v G1 H1 d x1 r1 q1 => by
    cases d <;> first | exact q1.elim | skip
    cases r1
    rename_i t
    refine ⟨t, rfl, ?_⟩
    cases t with
    | true => exact iteT (h1 _ G1 H1 _ x1 (.bl _) q1)
    | false => exact iteF ⟨F, ρ, G1, kd, kx, r.ext x1, q1, fun v G2 H2 d x2 r2 q2 => h1 v G2 H2 d (x1.trans x2) r2 q2, fun c d G2 H2 x x2 => h2 c d G2 H2 x (x1.trans x2)⟩, h2⟩
/-! ### tests -/
abbrev Tk := Env → (Bool → Prop) → (Exc → Prop) → Prop
variable {ta tb : Tk}
theorem reps_empty {G : Hp} : ∀ {vs : List V} {ds : List D}, Reps NM X.K G vs ds → vs.isEmpty = ds.isEmpty
  | _, _, .nil => rfl
  | _, _, .cons _ _ => rfl
theorem truV_of {G H : Hp} {v : V} {d : D} (s : Same G H) (r : RepB NM X.K G H v d) {k : Bool → Prop} (w : truW d k) : ∃ b, TruV X.K v H b ∧ k b := by
  cases d <;> first | exact w.elim | skip
  · cases r.non
    exact ⟨false, rfl, w⟩
  · cases r.bl
    exact ⟨_, rfl, w⟩
  · cases r.int
    exact ⟨_, rfl, w⟩
  · cases r.str
    refine ⟨_, ⟨w.1, rfl⟩, ?_⟩
    rename_i z
    rw [show ((z.length : Int) != 0) = (z.length != 0) from by cases z.length <;> rfl]
    exact w.2
  · obtain ⟨a, xs, rfl, h1, h2, h3⟩ := r.tup s
    refine ⟨_, .inr (.inl ⟨xs, h1, rfl⟩), ?_⟩
    rw [reps_empty h3]
    exact w
  · obtain ⟨a, xs, rfl, h1, h2, h3⟩ := r.lst s
    refine ⟨_, .inl ⟨xs, .of h1, rfl⟩, ?_⟩
    rw [reps_empty h3]
    exact w
theorem isTrue_plainT (h : plainT a = true) : ∀ whole, isTrue a X.env whole = (do let v ← whole; standAt a.pos; holding [v] (truthy v)) := by
  intro whole
  cases a <;> first | rfl | (cases h; done) | skip
  rename_i o _ _
  cases o <;> first | rfl | (cases h; done)
theorem st_val (h : plainT a = true) (ha : PE X a (LB NM X.K W fa)) : PT X a (LT NM X.K W fun ρ k x => fa ρ (fun d => truW d k) x) :=
  pt_imp (pt_truth ha (isTrue_plainT h)) fun σ H Q ⟨F, ρ, G, kd, kx, r, q, h1, h2⟩ => ⟨F, ρ, G, _, kx, r, q, fun v G1 H1 d x1 r1 q1 => by
    obtain ⟨b, t, w⟩ := truV_of x1.sub r1 q1
    exact ⟨b, t, h1 b G1 H1 x1 w⟩, h2⟩
theorem st_cmp (ok : Ok X NM B Φ Γ AT) {o : Cop} {p : CmpOp} (h : (copB1 o p && !behindInMarks p b) = true) (ha : PE X a (LB NM X.K W fa)) (hb : PE X b (LB NM X.K W fb)) :
    PT X (.Compare a [p] [b] pos) (LT NM X.K W fun ρ k x => fa ρ (fun d => fb ρ (fun e => copW o d e fun r => truW (.bl r) k) x) x) :=
  pt_imp (pt_cmpR (cop_ok1 ok.hu (Bool.and_eq_true_iff.mp h).1) ha hb (by have z := (Bool.and_eq_true_iff.mp h).2; cases q : behindInMarks p b with | true => rw [q] at z; cases z | false => rfl)) fun σ H Q ⟨F, ρ, G, kd, kx, r, q, h1, h2⟩ => ⟨F, ρ, G, _, kx, r, q, fun v G1 H1 d x1 r1 q1 => ⟨F, ρ, G1, _, kx, r.ext x1, q1, fun w G2 H2 e x2 r2 q2 =>
    ⟨G2, d, e, fun z => ∃ b, z = .bl b ∧ kd b, x2.sub, r1.ext x2, r2, copW_mono (fun b z => ⟨b, rfl, z⟩) q2, fun u G3 H3 g x3 r3 ⟨b, q3, q4⟩ => by
      subst q3
      cases r3
      exact ⟨b, rfl, h1 b G3 H3 ((x1.trans x2).trans x3) q4⟩⟩, fun c d G2 H2 x x2 => h2 c d G2 H2 x (x1.trans x2)⟩, h2⟩
theorem st_chn (ok : Ok X NM B Φ Γ AT) {o o' : Cop} {p p' : CmpOp} (h : copB o p = true) (h' : copB o' p' = true) (ha : PE X a (LB NM X.K W fa)) (hb : PE X b (LB NM X.K W fb)) (hc : PE X c (LB NM X.K W fc)) :
    PT X (.Compare a [p, p'] [b, c] pos) (LT NM X.K W fun ρ k x => fa ρ (fun d => fb ρ (fun e => copW o d e fun r => if r = true then fc ρ (fun g => copW o' e g fun r => truW (.bl r) k) x else truW (.bl false) k) x) x) :=
  pt_imp (pt_chain (cop_ok (by have := ok.hu; omega) h) (cop_ok (by have := ok.hu; omega) h') ha hb hc (marks2 h')) fun σ H Q ⟨F, ρ, G, kd, kx, r, q, h1, h2⟩ => by
    refine tchain_le (W := W) (o := o) (o' := o') (fc := fc) ok rfl (show LE NM X.K W _ σ H _ from ⟨F, ρ, G, fun z => ∃ b, z = .bl b ∧ kd b, kx, r, ?_, fun v G1 H1 d x1 r1 ⟨b, q1, q2⟩ => ?_, h2⟩)
    · have e : ∀ r : Bool, (∃ b, D.bl r = D.bl b ∧ kd b) = kd r := fun r => propext ⟨fun ⟨b, z, w⟩ => by cases z; exact w, fun w => ⟨r, rfl, w⟩⟩
      simp only [e]
      exact q
    · subst q1
      cases r1
      exact ⟨b, rfl, h1 b G1 H1 x1 q2⟩
theorem st_ch3 (ok : Ok X NM B Φ Γ AT) {o o' o3 : Cop} {p p' p3 : CmpOp} (h : copB o p = true) (h' : copB o' p' = true) (h3 : copB o3 p3 = true) (ha : PE X a (LB NM X.K W fa)) (hb : PE X b (LB NM X.K W fb)) (hc : PE X c (LB NM X.K W fc)) (hd : PE X d (LB NM X.K W fd)) :
    PT X (.Compare a [p, p', p3] [b, c, d] pos) (LT NM X.K W fun ρ k x => fa ρ (fun d => fb ρ (fun e => copW o d e fun r => if r = true then fc ρ (fun h => copW o' e h fun r => if r = true then fd ρ (fun i => copW o3 h i fun r => truW (.bl r) k) x else truW (.bl false) k) x else truW (.bl false) k) x) x) :=
  pt_imp (pt_ch3 (cop_ok (by have := ok.hu; omega) h) (cop_ok (by have := ok.hu; omega) h') (cop_ok (by have := ok.hu; omega) h3) ha hb hc hd (marks3 h3)) fun σ H Q ⟨F, ρ, G, kd, kx, r, q, h1, h2⟩ => by
    refine tch3_le (W := W) (o := o) (o' := o') (o3 := o3) (fc := fc) (fd := fd) ok (show LE NM X.K W _ σ H _ from ⟨F, ρ, G, fun z => ∃ b, z = .bl b ∧ kd b, kx, r, ?_, fun v G1 H1 d x1 r1 ⟨b, q1, q2⟩ => ?_, h2⟩)
    · have e : ∀ r : Bool, (∃ b, D.bl r = D.bl b ∧ kd b) = kd r := fun r => propext ⟨fun ⟨b, z, w⟩ => by cases z; exact w, fun w => ⟨r, rfl, w⟩⟩
      simp only [e]
      exact q
    · subst q1
      cases r1
      exact ⟨b, rfl, h1 b G1 H1 x1 q2⟩
theorem st_not (h : PT X a (LT NM X.K W ta)) : PT X (.UnaryOp .Not a pos) (LT NM X.K W fun ρ k x => ta ρ (fun b => k !b) x) :=
  pt_imp (pt_not h) fun σ H Q ⟨F, ρ, G, kd, kx, r, q, h1, h2⟩ => ⟨F, ρ, G, _, kx, r, q, fun b G1 H1 x1 q1 => h1 _ G1 H1 x1 q1, h2⟩
theorem st_and1 {a : Expr} (h : PT X a (LT NM X.K W ta)) : PW X (.BoolOp .And [a] pos) (LT NM X.K W ta) := pw_and1 h
theorem st_or1 {a : Expr} (h : PT X a (LT NM X.K W ta)) : PW X (.BoolOp .Or [a] pos) (LT NM X.K W ta) := pw_or1 h
theorem st_and {es : List Expr} (ha : PT X a (LT NM X.K W ta)) (hb : PW X (.BoolOp .And (b :: es) pos) (LT NM X.K W tb)) : PW X (.BoolOp .And (a :: b :: es) pos) (LT NM X.K W fun ρ k x => ta ρ (fun b => if b = true then tb ρ k x else k false) x) :=
  pw_imp (pw_and ha hb) fun σ H Q ⟨F, ρ, G, kd, kx, r, q, h1, h2⟩ => ⟨F, ρ, G, _, kx, r, q, fun b G1 H1 x1 q1 => by
    cases b with
    | false => exact iteF (h1 _ G1 H1 x1 q1)
    | true => exact iteT ⟨F, ρ, G1, kd, kx, r.ext x1, q1, fun v G2 H2 x2 q2 => h1 v G2 H2 (x1.trans x2) q2, fun c d G2 H2 x x2 => h2 c d G2 H2 x (x1.trans x2)⟩, h2⟩
theorem st_or {es : List Expr} (ha : PT X a (LT NM X.K W ta)) (hb : PW X (.BoolOp .Or (b :: es) pos) (LT NM X.K W tb)) : PW X (.BoolOp .Or (a :: b :: es) pos) (LT NM X.K W fun ρ k x => ta ρ (fun b => if b = true then k true else tb ρ k x) x) :=
  pw_imp (pw_or ha hb) fun σ H Q ⟨F, ρ, G, kd, kx, r, q, h1, h2⟩ => ⟨F, ρ, G, _, kx, r, q, fun b G1 H1 x1 q1 => by
    cases b with
    | true => exact iteT (h1 _ G1 H1 x1 q1)
    | false => exact iteF ⟨F, ρ, G1, kd, kx, r.ext x1, q1, fun v G2 H2 x2 q2 => h1 v G2 H2 (x1.trans x2) q2, fun c d G2 H2 x x2 => h2 c d G2 H2 x (x1.trans x2)⟩, h2⟩
theorem se_ife {c a b : Expr} (hc : PT X c (LT NM X.K W ta)) (ha : PE X a (LE NM X.K W fa)) (hb : PE X b (LE NM X.K W fb)) : PE X (.IfExp c a b pos) (LE NM X.K W fun ρ k x => ta ρ (fun r => if r = true then fa ρ k x else fb ρ k x) x) :=
  pe_imp (pe_ifExp hc ha hb) fun σ H Q ⟨F, ρ, G, kd, kx, r, q, h1, h2⟩ => ⟨F, ρ, G, _, kx, r, q, fun b G1 H1 x1 q1 => by
    cases b with
    | true => exact iteT ⟨F, ρ, G1, kd, kx, r.ext x1, q1, fun v G2 H2 d x2 r2 q2 => h1 v G2 H2 d (x1.trans x2) r2 q2, fun c d G2 H2 x x2 => h2 c d G2 H2 x (x1.trans x2)⟩
    | false => exact iteF ⟨F, ρ, G1, kd, kx, r.ext x1, q1, fun v G2 H2 d x2 r2 q2 => h1 v G2 H2 d (x1.trans x2) r2 q2, fun c d G2 H2 x x2 => h2 c d G2 H2 x (x1.trans x2)⟩, h2⟩
end
end Q

/-! QF: displays, calls, parts, comprehensions. -/
namespace Q
open PySem PySem.Spec L2

section
variable (NM : Nam) (K : PySem.W.Frag) (W : WX)
/-- a new list, not frozen yet -/
def LF (f : Wk) : TE := fun σ H Q => ∃ F ρ G kd kx, R NM K F ρ G σ H ∧ f ρ kd kx ∧
  (∀ l vs G' H' ds, Ext G H G' H' → H' l = some (.lst vs) → G' l = none → H l = none → vs.length ≤ sizeLine → Reps NM K G' vs ds → kd (.lst ds) → Q (.ref l) H') ∧ (∀ cls dx G' H' x, Ext G H G' H' → RepX NM K G' cls dx x → kx x → W cls dx σ H')
end
section
variable {NM : Nam} {K : PySem.W.Frag} {F : Fr} {G H G' H' : Hp} {ρ : Env} {σ : L2.St}
theorem Ext.freeze (e : Ext G H G' H') {l : Addr} {o : HO} (h1 : H' l = some o) (h2 : G' l = none) (h3 : H l = none) : Ext G H (upd G' l o) H' := by
  refine ⟨e.hh, fun b u z => (same_upd h2) b u (e.gg b u z), fun b u z => ?_, fun a z1 z2 => ?_⟩
  · by_cases hb : b = l
    · rw [hb, upd_same] at z
      rw [hb, ← z]
      exact h1
    · rw [upd_ne hb] at z
      exact e.sub b u z
  · by_cases ha : a = l
    · rw [ha] at z1
      exact absurd h3 z1
    · rw [upd_ne ha]
      exact e.sep a z1 z2
theorem R.fresh (r : R NM K F ρ G σ H) {l : Addr} (h : H l = none) : F.H_0 l = none := by
  cases q : F.H_0 l with
  | none => rfl
  | some o =>
    by_cases m : F.M l
    · exact absurd h (r.md l m)
    · rw [r.keep l o q m] at h
      cases h
end
section
variable {X : Cx} {NM : Nam} {B : List Str} {Φ : List Cal} {Γ : List (Str × D)} {AT : List (Nat × Nat)} {W : WX} {a b c e : Expr} {fa fb fc : Wk} {pos : Pos} {n : Nat}
abbrev Ak := Env → (List D → Prop) → (Exc → Prop) → Prop
variable {g : Ak} {es : List Expr}
theorem lf_le (h : PE X e (LF NM X.K W fa)) : PE X e (LE NM X.K W fa) := pe_imp h fun σ H Q ⟨F, ρ, G, kd, kx, r, q, h1, h2⟩ =>
  ⟨F, ρ, G, kd, kx, r, q, fun l vs G' H' ds x z1 z2 z3 z4 z5 k => h1 _ _ H' _ (x.freeze z1 z2 z3) (.lst upd_same z4 (z5.mono (same_upd z2))) k, h2⟩
theorem starEach_good {env : PySem.Env} (h : good e = true) : starEach (e :: es) env = (false, eval e env) :: starEach es env := by
  cases e <;> first | rfl | cases h
theorem starAny {p : Pos} {env : PySem.Env} : ∀ {es : List Expr}, es.all good = true → (backTo p (starEach es env)).any (·.1) = false
  | [], _ => rfl
  | e :: es, h => by
    have h2 := Bool.and_eq_true_iff.mp (show (good e && es.all good) = true from h)
    rw [starEach_good h2.1]
    have ih := starAny (p := p) (env := env) h2.2
    show (false || (backTo p (starEach es env)).any (·.1)) = false
    rw [ih]
    rfl
theorem sa_nil : PA X [] (LA NM X.K W 0 fun _ k _ => k []) := pa_imp pa_nil fun σ H Q ⟨F, ρ, G, kd, kx, r, q, h1, h2⟩ => h1 [] G H [] (.refl r.sub) .nil rfl q
theorem sa_cons (hg : good e = true) (ha : PE X e (LE NM X.K W fa)) (hr : PA X es (LA NM X.K W n g)) : PA X (e :: es) (LA NM X.K W (n + 1) fun ρ k x => fa ρ (fun d => g ρ (fun ds => k (d :: ds)) x) x) :=
  pa_imp (pa_cons ha hr (starEach_good hg)) fun σ H Q ⟨F, ρ, G, kd, kx, r, q, h1, h2⟩ => ⟨F, ρ, G, _, kx, r, q, fun v G1 H1 d x1 r1 q1 => ⟨F, ρ, G1, _, kx, r.ext x1, q1, fun vs G2 H2 ds x2 r2 l2 q2 =>
    h1 _ G2 H2 _ (x1.trans x2) (.cons (r1.mono x2.gg) r2) (congrArg Nat.succ l2) q2, fun c d G2 H2 x x2 => h2 c d G2 H2 x (x1.trans x2)⟩, h2⟩
theorem se_tup {k : Nat} (h : PA X es (LA NM X.K W n g)) : PE X (.Tuple es k pos) (LE NM X.K W fun ρ k x => n ≤ sizeLine ∧ g ρ (fun ds => k (.tup ds)) x) :=
  pe_imp (pe_tup h) fun σ H Q ⟨F, ρ, G, kd, kx, r, q, h1, h2⟩ => ⟨F, ρ, G, _, kx, r, q.2, fun vs G1 H1 ds x1 r1 l1 q1 => ⟨by rw [l1]; exact q.1, fun p hp =>
    h1 _ (upd G1 p (.tup vs)) _ _ (x1.trans (.new x1.sub hp _)) (.tup (.of upd_same) (by rw [l1]; exact q.1) (r1.mono (same_upd (x1.sub.free hp)))) q1⟩, h2⟩
theorem sf_lst (h : PA X es (LA NM X.K W n g)) : PE X (.List es pos) (LF NM X.K W fun ρ k x => n ≤ sizeLine ∧ g ρ (fun ds => k (.lst ds)) x) :=
  pe_imp (pe_lst h) fun σ H Q ⟨F, ρ, G, kd, kx, r, q, h1, h2⟩ => ⟨F, ρ, G, _, kx, r, q.2, fun vs G1 H1 ds x1 r1 l1 q1 => ⟨by rw [l1]; exact q.1, fun p hp =>
    h1 p vs G1 _ _ (x1.trans (.own x1.sub hp _)) upd_same (x1.sub.free hp) (x1.hh.free hp) (by rw [l1]; exact q.1) r1 q1⟩, h2⟩
/-! ### calls -/
theorem gloB_gl {sc : Scope} {x : Str} (h : gloB sc x = true) (hs : X.env.scope = sc) : Gl X x ∧ (x == ("__debug__" : Str)) = false := by
  unfold gloB at h
  simp only [Bool.and_eq_true, Bool.not_eq_true'] at h
  refine ⟨?_, h.2⟩
  have h1 := h.1
  unfold Gl PySem.Env.kindOf
  rw [hs]
  split at h1
  · assumption
  · cases h1
/-- a callee's promise, at a call -/
theorem ls_call {σ : L2.St} {H : Hp} {Q : VK} {n m : Nat} {fs : FS} {dvs : List V} {dfl : List D} (hl : n + dfl.length = m) (hd : ∀ G, Reps NM X.K G dvs dfl) (q : LA NM X.K W n (fun ρ k x => g ρ (fun ds => fs (ds ++ dfl) (fun d => k [d]) x) x) σ H (fun vs H' => ∃ v, vs = [v] ∧ Q v H')) : True := trivial
theorem se_call (tk : Takes X W) {c : Cal} (hc : DefOk X NM c) {x : Str} {p : Pos} (hx : c.nm = x) (hgl : Gl X x) (hdb : (x == ("__debug__" : Str)) = false) (hga : (e :: es).all good = true) (hn : n + c.dfl.length = c.ar) (ha : PA X (e :: es) (LA NM X.K W n g)) :
    PE X (.Call (.Name x p) (e :: es) [] pos) (LE NM X.K W fun ρ k x => g ρ (fun ds => c.fs (ds ++ c.dfl) k x) x) := by
  obtain ⟨j, f, fd, ps, ds, dvs, F, hr, hm, hk, hb, hd, hv⟩ := hc
  have hg2 := Bool.and_eq_true_iff.mp (show (good e && es.all good) = true from hga)
  refine pe_imp (pe_callSD (E := WE W) F hr hgl (by rw [← hx]; exact hm) hk hb hd (fun σ => passAt tk σ) ha hdb (starEach_good hg2.1) (starAny hg2.2)) fun σ H Q ⟨Fr, ρ, G, kd, kx, r, q, h1, h2⟩ => ?_
  refine ⟨Fr, ρ, G, _, kx, r, q, fun vs G1 H1 es x1 r1 l1 q1 => ?_, h2⟩
  refine ⟨G1, es ++ c.dfl, kd, kx, x1.sub, r1.app (hv G1), ?_, q1, fun v G2 H2 d x2 r2 q2 => h1 v G2 H2 d (x1.trans x2) r2 q2, fun cl d G2 H2 x x2 rx q2 => h2 cl d G2 H2 x (x1.trans x2) rx q2⟩
  rw [List.length_append, (hv G1).len, l1]
  exact hn
theorem run_makeS {CX : CXT} {k : Nat} {f C : Addr} {fd : FuncData} {ps : List Str} {sp : Sp} {dvs : List V} {ds : List Value} {E : L2.St → XK} {pins : List (Addr × Obj)} {σ : L2.St} {H : Hp} {s : Shared} {Q : VK} {us : List Value} {vs : List V} (M : Mk X.K C f) (F : FnOk X.prog X.w X.K X.mg X.base CX k f fd ps sp) (hr : Room (k + 1) X.A) (hb : Binds X.K fd ps ds) (hd : Vals dvs ds)
    (hx : PassesAt CX X σ (E σ)) (I : Inv X pins σ H s) (r : Vals vs us)
    (h : ∀ x dx, H x = none → H dx = none → dx ≠ x → sp (.ref x :: (vs ++ dvs)) (upd (upd H dx (.own x)) x (.ins C dx [])) (fun v H2 => v = .non ∧ Q (.ref x) H2) (E σ)) :
    wpAny (model X.prog X.w) X.A (call (.ref C) us) (EP X pins σ Q) X.xe s := by
  have hq := h (s.heap.objs.size + 1) s.heap.objs.size (I.hok.fresh (Nat.le_succ _)) (I.hok.fresh (Nat.le_refl _)) (Nat.ne_of_lt (Nat.lt_succ_self _))
  have J := Inv.made (C := C) I
  have rr : Vals (V.ref (s.heap.objs.size + 1) :: (vs ++ dvs)) (Value.ref (s.heap.objs.size + 1) :: (us ++ ds)) := .cons rfl (r.append hd)
  have hl : (Value.ref (s.heap.objs.size + 1) :: us ++ ds).length = ps.length := (rr.length.symm.trans (F.len _ _ _ _ hq))
  refine wpAny_call (make_map (f := f) I.kIn M.makes M.init (beq_iff_eq.mp M.fn) (codeAny_mono (F.run _ X.stack _ _ ⟨Value.ref (s.heap.objs.size + 1) :: us, []⟩ (Value.ref (s.heap.objs.size + 1) :: (us ++ ds)) _ _ (E σ) (hr.make C us [])
    (J.env0.make C us []) (hb _ (Value.ref (s.heap.objs.size + 1) :: us) J.kIn hl) rr hq) fun z s' w => ?_))
  cases z with
  | error e => exact hx pins _ _ e s' J w
  | ok fl =>
    cases fl with
    | ret u =>
      obtain ⟨v, H', I3, rv, ev, q3⟩ := J.after w
      subst ev
      exact ⟨rv, ⟨V.ref (s.heap.objs.size + 1), H', I3, rfl, q3⟩⟩
    | next => exact w.elim
    | brk => exact w.elim
    | cont => exact w.elim
def tMakeS (C : Addr) (sp : Sp) (dvs : List V) (E : L2.St → XK) (t : TA) : TE := fun σ H Q => t σ H fun vs H1 => ∀ x dx, H1 x = none → H1 dx = none → dx ≠ x →
  sp (.ref x :: (vs ++ dvs)) (upd (upd H1 dx (.own x)) x (.ins C dx [])) (fun v H2 => v = .non ∧ Q (.ref x) H2) (E σ)
theorem se_make (tk : Takes X W) {c : Cal} (hc : ClsOk X NM c) {x : Str} {p : Pos} (hx : c.nm = x) (hgl : Gl X x) (hdb : (x == ("__debug__" : Str)) = false) (hga : (e :: es).all good = true) (hn : n + c.dfl.length = c.ar) (ha : PA X (e :: es) (LA NM X.K W n g)) :
    PE X (.Call (.Name x p) (e :: es) [] pos) (LE NM X.K W fun ρ k x => g ρ (fun ds => c.is (ds ++ c.dfl) (fun ks xs => k (.ins c.cls ks xs)) x) x) := by
  obtain ⟨j, f, fd, ps, ds, dvs, F, hr, hm, hM, hb, hd, hv⟩ := hc
  have hg2 := Bool.and_eq_true_iff.mp (show (good e && es.all good) = true from hga)
  have pe : PE X (.Call (.Name x p) (e :: es) [] pos) (tMakeS (He.ga X.K (NM.cl c.cls)) (LI NM X.K (c.ar + 1) c.cls c.is) dvs (WE W) (LA NM X.K W n g)) := by
    refine ⟨fun pins s σ H Q I h => ?_⟩
    refine wpAny_Call_Name_kw (ld_glob I hgl (by rw [← hx]; exact hm) ?_ hdb)
    refine PySem.W.callWith_K (h₀ := X.base) I.ok.mod.kin hM.kp (thn (ha.run pos pins s σ H _ I h) fun us s1 ⟨vs, H1, I1, r, q⟩ => ⟨I1.kIn, ?_⟩) (starEach_good hg2.1) (starAny hg2.2)
    exact run_makeS (E := WE W) hM F hr hb hd (passAt tk σ) I1 r q
  refine pe_imp pe fun σ H Q ⟨Fr, ρ, G, kd, kx, r, q, h1, h2⟩ => ?_
  refine ⟨Fr, ρ, G, _, kx, r, q, fun vs G1 H1 es x1 r1 l1 q1 y dy ny nd ne => ?_, h2⟩
  have s2 : Same H1 (upd (upd H1 dy (.own y)) y (.ins (He.ga X.K (NM.cl c.cls)) dy [])) := (same_upd nd).trans (same_upd (by rw [upd_ne (Ne.symm ne)]; exact ny))
  have gy : G1 y = none := x1.sub.free ny
  have s3 : ∀ {H' : Hp}, (∀ b o, (upd (upd H1 dy (.own y)) y (.ins (He.ga X.K (NM.cl c.cls)) dy [])) b = some o → b ≠ y → H' b = some o) → Same H1 H' := fun {H'} k b o z => k b o (s2 b o z) (ne_of_none z ny)
  have s4 : ∀ {G' : Hp}, (∀ a, (upd (upd H1 dy (.own y)) y (.ins (He.ga X.K (NM.cl c.cls)) dy [])) a ≠ none → G1 a = none → G' a = none) → ∀ a, H1 a ≠ none → G1 a = none → G' a = none := fun {G'} k a z1 z2 => k a (fun z => z1 (s2.free z)) z2
  refine ⟨y, dy, _, G1, es ++ c.dfl, _, kx, rfl, ?_, x1.sub.trans s2, upd_same, gy, r1.app (hv G1), q1, fun G' H' ks xs fs dz k1 k2 k3 k4 k5 k6 k7 k8 => ⟨rfl, ?_⟩, fun cls dx' G' H' x k1 k2 k3 k4 k5 k6 => ?_⟩
  · rw [List.length_append, (hv G1).len, l1, hn]
  · have gy' : G' y = none := k4 y (by rw [upd_same]; exact fun z => nomatch z) gy
    have x2 : Ext G1 H1 G' H' := ⟨s3 k1, k2, k3, s4 k4⟩
    exact h1 _ _ H' _ (x1.trans (x2.freeze k5 gy' ny)) (.ins upd_same k6 (k7.mono (same_upd gy'))) k8
  · exact h2 cls dx' G' H' x (x1.trans ⟨s3 k1, k2, k3, s4 k4⟩) k5 k6
theorem zip_no {ks : List Nat} {m : Str} (h : (ks.all fun k => decide (NM.at_ k ≠ m)) = true) : ∀ {xs : List V}, ((ks.map NM.at_).zip xs).lookup m = none := by
  induction ks with
  | nil => intro xs; rfl
  | cons k ks ih =>
    intro xs
    have h2 := Bool.and_eq_true_iff.mp (show (decide (NM.at_ k ≠ m) && _) = true from h)
    cases xs with
    | nil => rfl
    | cons x xs =>
      show (match m == NM.at_ k with | true => some x | false => ((ks.map NM.at_).zip xs).lookup m) = none
      rw [show (m == NM.at_ k) = false from beq_eq_false_iff_ne.mpr (Ne.symm (of_decide_eq_true h2.1))]
      exact ih h2.2
theorem eval_meth {o : Expr} {m : Str} {apos : Pos} {e : Expr} {es : List Expr} {env : PySem.Env} (h : recvB o = true) (hl : (apos.endLine == pos.line) = true) (hg : (e :: es).all good = true) (hn : es.length < 28) : ∃ pl : Sem Bool, eval (.Call (.Attribute o m apos) (e :: es) [] pos) env = (do
      let ov ← eval o env
      standAt apos.atName
      let (f, first) ← holding [ov] (getMethod ov m pl)
      callWith pos f first (backTo pos (starEach (e :: es) env)) (backToKw pos (keywordEach [] env))) := by
  have q : eval (.Call (.Attribute o m apos) (e :: es) [] pos) env = (do
      let ov ← eval o env
      standAt apos.atName
      methodCall o m apos pos env ov ((e :: es).length + 0) (backTo pos (starEach (e :: es) env)) (backToKw pos (keywordEach [] env))) := by
    cases o <;> first | rfl | cases h
  have fm : methodCallForm ((e :: es).length + 0) (backTo pos (starEach (e :: es) env)) (backToKw pos (keywordEach [] env)) = true := by
    have a1 := starAny (p := pos) (env := env) hg
    have a2 : (backTo pos (starEach (e :: es) env)).all (fun x => !x.1) = true := by
      rw [List.all_eq_true]
      intro x hx
      rw [List.any_eq_false] at a1
      have := a1 x hx
      simpa using this
    unfold methodCallForm
    rw [a2]
    show (true && true && decide ((e :: es).length + 0 + 0 < 30)) = true
    rw [decide_eq_true (by rw [List.length_cons]; omega)]
    rfl
  refine ⟨do return (← importBound o env).getD true, ?_⟩
  rw [q]
  unfold methodCall
  rw [fm]
  have c1 : ∀ ov, calleeOf true o env ov m = getMethod ov m (do return (← importBound o env).getD true) := fun ov => rfl
  have c2 : methodCallPos true o env apos pos = pure pos := by
    unfold methodCallPos
    rw [hl]
    rfl
  simp only [c1, c2, pure_bind]
theorem se_meth (tk : Takes X W) {c : Cal} (hc : MetOk X NM c) {m : Str} {apos : Pos} {o : Expr} (hrv : recvB o = true) (hli : (apos.endLine == pos.line) = true) (h28 : es.length < 28) (hx : c.mt = m) (hga : (e :: es).all good = true) (hn : n + 1 + c.dfl.length = c.ar) (ho : PE X o (LE NM X.K W fa)) (ha : PA X (e :: es) (LA NM X.K W n g)) :
    PE X (.Call (.Attribute o m apos) (e :: es) [] pos) (LE NM X.K W fun ρ k x => fa ρ (fun d => (match d with
      | .ins i ks _ => i = c.cls ∧ (ks.all fun k => decide (NM.at_ k ≠ c.mt)) = true
      | _ => False) ∧ g ρ (fun ds => c.fs (d :: (ds ++ c.dfl)) k x) x) x) := by
  obtain ⟨j, f, fd, ps, ds, dvs, F, hr, hC, hM, hb, hd, hv⟩ := hc
  have hg2 := Bool.and_eq_true_iff.mp (show (good e && es.all good) = true from hga)
  subst hx
  have pe : PE X (.Call (.Attribute o c.mt apos) (e :: es) [] pos) (fun σ H Q => LE NM X.K W fa σ H fun x H1 => ∃ a dx fs, x = .ref a ∧ H1 a = some (.ins (He.ga X.K (NM.cl c.cls)) dx fs) ∧ fs.lookup c.mt = none ∧ LA NM X.K W n g σ H1 fun vs H2 => LS NM X.K c.ar c.fs (x :: (vs ++ dvs)) H2 Q (WE W σ)) := by
    refine ⟨fun pins s σ H Q I h => ?_⟩
    obtain ⟨pl, hpl⟩ := eval_meth (pos := pos) (m := c.mt) (apos := apos) (e := e) (es := es) (env := X.env) hrv hli hga h28
    refine PySem.W.methodCall_KW (pl := pl) (thn (ho.run pins s σ H _ I h) fun u s1 ⟨x, H1, I1, rx, a, dx, fs, ex, ea, l, q⟩ => ?_) hpl
    subst ex
    cases (show u = Value.ref a from rx)
    refine getmeth_ok I1 ea hC hM l ?_
    refine PySem.W.callWith_K (first := [.ref a]) (h₀ := X.base) I.ok.mod.kin hM.kp (thn (ha.run pos pins s1 σ H1 _ I1 q) fun us s2 ⟨vs, H2, I2, r, q2⟩ => ⟨I2.kIn, ?_⟩) (starEach_good hg2.1) (starAny hg2.2)
    exact run_fnSD (E := WE W) (us := .ref a :: us) (vs := .ref a :: vs) F hr hb hd (passAt tk σ) I2 (.cons rfl r) q2
  refine pe_imp pe fun σ H Q ⟨Fr, ρ, G, kd, kx, r, q, h1, h2⟩ => ⟨Fr, ρ, G, _, kx, r, q, fun v G1 H1 d x1 r1 q1 => ?_, h2⟩
  obtain ⟨q1, q2⟩ := q1
  cases d <;> first | exact q1.elim | skip
  obtain ⟨rfl, q3⟩ := q1
  cases r1 with
  | ins e1 e2 e3 =>
    refine ⟨_, _, _, rfl, x1.sub _ _ e1, zip_no q3, Fr, ρ, G1, _, kx, r.ext x1, q2, fun vs G2 H2 es x2 r2 l2 q4 => ?_, fun cl d G2 H2 x x2 rx q2 => h2 cl d G2 H2 x (x1.trans x2) rx q2⟩
    refine ⟨G2, _, kd, kx, x2.sub, .cons (.ins (x2.gg _ _ e1) e2 (e3.mono x2.gg)) (r2.app (hv G2)), ?_, q4, fun v G3 H3 d x3 r3 q5 => h1 v G3 H3 d ((x1.trans x2).trans x3) r3 q5, fun cl d G3 H3 x x3 rx q5 => h2 cl d G3 H3 x ((x1.trans x2).trans x3) rx q5⟩
    rw [List.length_cons, List.length_append, (hv G2).len, l2]
    omega
theorem eval_meth0 {o : Expr} {m : Str} {apos : Pos} {env : PySem.Env} (h : recvB o = true) (hl : (apos.endLine == pos.line) = true) : ∃ pl : Sem Bool, eval (.Call (.Attribute o m apos) [] [] pos) env = (do
      let ov ← eval o env
      standAt apos.atName
      let (f, first) ← holding [ov] (getMethod ov m pl)
      callWith pos f first (backTo pos (starEach [] env)) (backToKw pos (keywordEach [] env))) := by
  have q : eval (.Call (.Attribute o m apos) [] [] pos) env = (do
      let ov ← eval o env
      standAt apos.atName
      methodCall o m apos pos env ov (0 + 0) (backTo pos (starEach [] env)) (backToKw pos (keywordEach [] env))) := by
    cases o <;> first | rfl | cases h
  have fm : methodCallForm (0 + 0) (backTo pos (starEach [] env)) (backToKw pos (keywordEach [] env)) = true := rfl
  refine ⟨do return (← importBound o env).getD true, ?_⟩
  rw [q]
  unfold methodCall
  rw [fm]
  have c1 : ∀ ov, calleeOf true o env ov m = getMethod ov m (do return (← importBound o env).getD true) := fun ov => rfl
  have c2 : methodCallPos true o env apos pos = pure pos := by
    unfold methodCallPos
    rw [hl]
    rfl
  simp only [c1, c2, pure_bind]
theorem se_meth0 (tk : Takes X W) {c : Cal} (hc : MetOk X NM c) {m : Str} {apos : Pos} {o : Expr} (hrv : recvB o = true) (hli : (apos.endLine == pos.line) = true) (hx : c.mt = m) (hn : 1 + c.dfl.length = c.ar) (ho : PE X o (LE NM X.K W fa)) :
    PE X (.Call (.Attribute o m apos) [] [] pos) (LE NM X.K W fun ρ k x => fa ρ (fun d => (match d with
      | .ins i ks _ => i = c.cls ∧ (ks.all fun k => decide (NM.at_ k ≠ c.mt)) = true
      | _ => False) ∧ c.fs (d :: ([] ++ c.dfl)) k x) x) := by
  obtain ⟨j, f, fd, ps, ds, dvs, F, hr, hC, hM, hb, hd, hv⟩ := hc
  subst hx
  have pe : PE X (.Call (.Attribute o c.mt apos) [] [] pos) (fun σ H Q => LE NM X.K W fa σ H fun x H1 => ∃ a dx fs, x = .ref a ∧ H1 a = some (.ins (He.ga X.K (NM.cl c.cls)) dx fs) ∧ fs.lookup c.mt = none ∧ LS NM X.K c.ar c.fs (x :: ([] ++ dvs)) H1 Q (WE W σ)) := by
    refine ⟨fun pins s σ H Q I h => ?_⟩
    obtain ⟨pl, hpl⟩ := eval_meth0 (pos := pos) (m := c.mt) (apos := apos) (env := X.env) hrv hli
    refine PySem.W.methodCall_KW (pl := pl) (thn (ho.run pins s σ H _ I h) fun u s1 ⟨x, H1, I1, rx, a, dx, fs, ex, ea, l, q⟩ => ?_) hpl
    subst ex
    cases (show u = Value.ref a from rx)
    refine getmeth_ok I1 ea hC hM l ?_
    refine PySem.W.callWith_K0 (first := [.ref a]) I1.kIn hM.kp ?_
    exact run_fnSD (E := WE W) (us := [.ref a]) (vs := [.ref a]) F hr hb hd (passAt tk σ) I1 (.cons rfl .nil) q
  refine pe_imp pe fun σ H Q ⟨Fr, ρ, G, kd, kx, r, q, h1, h2⟩ => ⟨Fr, ρ, G, _, kx, r, q, fun v G1 H1 d x1 r1 q1 => ?_, h2⟩
  obtain ⟨q1, q2⟩ := q1
  cases d <;> first | exact q1.elim | skip
  obtain ⟨rfl, q3⟩ := q1
  cases r1 with
  | ins e1 e2 e3 =>
    refine ⟨_, _, _, rfl, x1.sub _ _ e1, zip_no q3, ?_⟩
    refine ⟨G1, _, kd, kx, x1.sub, .cons (.ins e1 e2 e3) (hv G1), ?_, q2, fun v G3 H3 d x3 r3 q5 => h1 v G3 H3 d (x1.trans x3) r3 q5, fun cl d G3 H3 x x3 rx q5 => h2 cl d G3 H3 x (x1.trans x3) rx q5⟩
    show ([] ++ dvs).length + 1 = c.ar
    rw [List.nil_append, (hv G1).len]
    omega
end
end Q

/-! QG: built-ins, parts, what is walked, comprehensions. -/
namespace Q
open PySem PySem.Spec L2

section
variable {X : Cx} {NM : Nam} {B : List Str} {Φ : List Cal} {Γ : List (Str × D)} {AT : List (Nat × Nat)} {W : WX} {a b c e : Expr} {fa fb fc : Wk} {pos : Pos} {n : Nat} {g : Ak} {es : List Expr}
/-! ### parts -/
theorem atB_mem : ∀ {AT : List (Nat × Nat)} {c f : Nat}, atB AT c f = true → (c, f) ∈ AT
  | [], _, _, h => by cases h
  | p :: r, c, f, h => by
    unfold atB at h
    split at h
    · split at h
      · rename_i h1 h2
        rw [← h1, ← h2]
        exact List.mem_cons_self
      · exact List.mem_cons_of_mem _ (atB_mem h)
    · exact List.mem_cons_of_mem _ (atB_mem h)
theorem looks_zip {nm : Nat → Str} (inj : ∀ i j, nm i = nm j → i = j) {G : Hp} {K : PySem.W.Frag} : ∀ {ks : List Nat} {xs : List V} {ds : List D} {f : Nat} {d : D}, Reps NM K G xs ds → looks ks ds f = some d → ∃ v, ((ks.map nm).zip xs).lookup (nm f) = some v ∧ Rep NM K G v d
  | [], _, _, _, _, _, h => by simp [looks] at h
  | _ :: _, _, _, _, _, .nil, h => by simp [looks] at h
  | k :: ks, _, _, f, d, .cons (v := v) r rs, h => by
    unfold looks at h
    split at h
    · rename_i e
      cases h
      subst e
      exact ⟨v, by show (match nm k == nm k with | true => some v | false => _) = some v; rw [beq_self_eq_true], r⟩
    · rename_i e
      obtain ⟨v', h1, h2⟩ := looks_zip inj rs h
      refine ⟨v', ?_, h2⟩
      show (match nm f == nm k with | true => some v | false => ((ks.map nm).zip _).lookup (nm f)) = some v'
      rw [show (nm f == nm k) = false from beq_eq_false_iff_ne.mpr fun z => e (inj _ _ z).symm]
      exact h1
theorem attrBase {f : Str} {env : PySem.Env} {w : Sem Value} (h : plainA e = true) : attributeBase e f env w = w := by
  cases e <;> first | rfl | skip
  rename_i fn as ks p
  cases as with
  | nil => cases h
  | cons _ _ => cases fn <;> rfl
theorem se_atr (inj : ∀ i j, NM.at_ i = NM.at_ j → i = j) (ok : Ok X NM B Φ Γ AT) {f : Nat} {x : Str} (hx : NM.at_ f = x) (hp : plainA e = true) (h : PE X e (LB NM X.K W fa)) : PE X (.Attribute e x pos) (LE NM X.K W fun ρ k x => fa ρ (fun d => atrW AT d f k) x) := by
  subst hx
  refine pe_imp (pe_fld h (attrBase hp)) fun σ H Q ⟨F, ρ, G, kd, kx, r, q, h1, h2⟩ => ⟨F, ρ, G, _, kx, r, q, fun v G1 H1 d x1 r1 q1 => ?_, h2⟩
  have fin : ∀ {c : Nat} {ks : List Nat} {ds : List D} {a dx : Addr} {xs : List V}, H1 a = some (.ins (He.ga X.K (NM.cl c)) dx ((ks.map NM.at_).zip xs)) → Reps NM X.K G1 xs ds → atrW AT (.ins c ks ds) f kd →
      ∃ a' C dx fs v, V.ref a = .ref a' ∧ H1 a' = some (.ins C dx fs) ∧ Cls X.K C ∧ NoAttr X.K C (NM.at_ f) ∧ fs.lookup (NM.at_ f) = some v ∧ Q v H1 := fun {c ks ds a dx xs} e1 e2 w => by
    obtain ⟨w1, w2⟩ := w
    have ha := ok.atr _ (atB_mem w1)
    split at w2
    · rename_i d' hd
      obtain ⟨v', l1, l2⟩ := looks_zip inj e2 hd
      exact ⟨a, _, dx, _, v', rfl, e1, ha.1, ha.2, l1, h1 v' G1 H1 d' x1 l2 w2⟩
    · exact w2.elim
  cases d <;> first | exact q1.elim | skip
  cases r1 with
  | frz z =>
    cases z with
    | ins e1 e2 e3 => exact fin (x1.sub _ _ e1) e3 q1
  | obj e1 e2 e3 e4 => exact fin e1 e4 q1
theorem plainIx (h : good b = true) : PlainIx b := by
  intro o i
  cases b <;> first | rfl | cases h
theorem ixN_lt {n : Nat} {i : Int} {j : Nat} (h : ixN n i = some j) : j < n := by
  unfold ixN at h
  split at h
  · split at h
    · cases h; omega
    · cases h
  · split at h
    · cases h; omega
    · cases h
theorem atI_ix {G : Hp} {xs : List V} {ds : List D} (r : Reps NM X.K G xs ds) {i : Int} {d : D} (h : ixD ds i = some d) : ∃ v, atI xs i = some v ∧ Rep NM X.K G v d := by
  have hl := r.len
  cases i with
  | ofNat n =>
    obtain ⟨v, h1, h2⟩ := r.get (show ds[n]? = some d from h)
    exact ⟨v, atI_nat h1, h2⟩
  | negSucc n =>
    have h' : (if n < ds.length then ds[ds.length - 1 - n]? else none) = some d := h
    by_cases hn : n < ds.length
    · rw [if_pos hn] at h'
      obtain ⟨v, h1, h2⟩ := r.get h'
      refine ⟨v, ?_, h2⟩
      unfold atI ixN
      rw [if_neg (by omega), if_pos (by omega)]
      show xs[(Int.negSucc n + (xs.length : Int)).toNat]? = some v
      rw [show (Int.negSucc n + (xs.length : Int)).toNat = ds.length - 1 - n by omega]
      exact h1
    · rw [if_neg hn] at h'
      cases h'
theorem atI_ixS {s : Str} {i : Int} {c : Nat} (h : ixS s i = some c) : atI s.cps.toList i = some c := by
  cases i with
  | ofNat n => exact atI_nat h
  | negSucc n =>
    have h' : (if n < s.cps.toList.length then s.cps.toList[s.cps.toList.length - 1 - n]? else none) = some c := h
    by_cases hn : n < s.cps.toList.length
    · rw [if_pos hn] at h'
      unfold atI ixN
      rw [if_neg (by omega), if_pos (by omega)]
      show s.cps.toList[(Int.negSucc n + (s.cps.toList.length : Int)).toNat]? = some c
      rw [show (Int.negSucc n + (s.cps.toList.length : Int)).toNat = s.cps.toList.length - 1 - n by omega]
      exact h'
    · rw [if_neg hn] at h'
      cases h'
theorem idx_ok : IxR X (LR2 NM X.K idxW) := by
  intro vl sl pins s σ H x y v u Q I rx ry h hs
  obtain ⟨G, d, e, kd, sub, hd, he, w, q⟩ := h
  have fin : ∀ r v' , Rep NM X.K G v' r → kd r → Q v' H := fun r v' hr hk => q v' G H r (.refl sub) hr hk
  cases d <;> cases e <;> first | exact w.elim | skip
  · rename_i z i
    cases he.int
    cases hd.str
    obtain ⟨hz, w⟩ := w
    have w' : match ixS z i with
      | some c => kd (.str ⟨#[c]⟩)
      | none => False := w
    split at w'
    · rename_i c hc
      exact ix_str vl sl pins s σ H _ _ v u Q I rx ry ⟨_, _, c, rfl, rfl, hz, atI_ixS hc, fin _ _ (.str _) w'⟩ hs
    · exact w'.elim
  · cases he.int
    obtain ⟨a, xs, rfl, s1, z1, r1⟩ := hd.tup sub
    simp only [idxW] at w
    split at w
    · rename_i d' hd'
      obtain ⟨v', l1, l2⟩ := atI_ix r1 hd'
      exact ix_tup vl sl pins s σ H _ _ v u Q I rx ry ⟨_, _, _, _, rfl, rfl, s1, l1, fin _ _ l2 w⟩ hs
    · exact w.elim
  · cases he.int
    obtain ⟨a, xs, rfl, s1, z1, r1⟩ := hd.lst sub
    simp only [idxW] at w
    split at w
    · rename_i d' hd'
      obtain ⟨v', l1, l2⟩ := atI_ix r1 hd'
      exact ix_list vl sl pins s σ H _ _ v u Q I rx ry ⟨_, _, _, _, rfl, rfl, .of s1, l1, fin _ _ l2 w⟩ hs
    · exact w.elim
  · cases he.int
    obtain ⟨a, xs, rfl, s1, z1, r1⟩ := hd.ro sub
    simp only [idxW] at w
    split at w
    · rename_i d' hd'
      obtain ⟨v', l1, l2⟩ := atI_ix r1 hd'
      exact ix_list vl sl pins s σ H _ _ v u Q I rx ry ⟨_, _, _, _, rfl, rfl, s1, l1, fin _ _ l2 w⟩ hs
    · exact w.elim
theorem se_idx (hg : good b = true) (ha : PE X a (LB NM X.K W fa)) (hb : PE X b (LB NM X.K W fb)) : PE X (.Subscript a b pos) (LE NM X.K W fun ρ k x => fa ρ (fun d => fb ρ (fun i => idxW d i k) x) x) :=
  pe_imp (pe_ix idx_ok ha hb (plainIx hg)) fun σ H Q ⟨F, ρ, G, kd, kx, r, q, h1, h2⟩ => ⟨F, ρ, G, _, kx, r, q, fun v G1 H1 d x1 r1 q1 => ⟨F, ρ, G1, _, kx, r.ext x1, q1, fun w G2 H2 e x2 r2 q2 =>
    ⟨G2, d, e, kd, x2.sub, r1.ext x2, r2, q2, fun u G3 H3 g x3 r3 q3 => h1 u G3 H3 g ((x1.trans x2).trans x3) r3 q3⟩, fun c d G2 H2 x x2 => h2 c d G2 H2 x (x1.trans x2)⟩, h2⟩
/-! ### slices -/
abbrev Ok_ := Env → (Option Int → Prop) → (Exc → Prop) → Prop
def LO (NM : Nam) (K : PySem.W.Frag) (W : WX) (f : Ok_) : TO := fun σ H Q => ∃ F ρ G kd kx, R NM K F ρ G σ H ∧ f ρ kd kx ∧ (∀ o G' H', Ext G H G' H' → kd o → Q o H') ∧ (∀ cls dx G' H' x, Ext G H G' H' → RepX NM K G' cls dx x → kx x → W cls dx σ H')
theorem po_imp {o : Option Expr} {t t' : TO} (h : PO X o t) (i : ∀ σ H Q, t' σ H Q → t σ H Q) : PO X o t' := ⟨fun pins s σ H Q I q => h.run pins s σ H Q I (i _ _ _ q)⟩
theorem so_none : PO X none (LO NM X.K W fun _ k _ => k none) := po_imp po_none fun σ H Q ⟨F, ρ, G, kd, kx, r, q, h1, h2⟩ => h1 none G H (.refl r.sub) q
theorem so_some (h : PE X e (LE NM X.K W fa)) : PO X (some e) (LO NM X.K W fun ρ k x => fa ρ (fun d => match d with
    | .int i => k (some i)
    | _ => False) x) := po_imp (po_some h) fun σ H Q ⟨F, ρ, G, kd, kx, r, q, h1, h2⟩ => ⟨F, ρ, G, _, kx, r, q, fun v G1 H1 d x1 r1 q1 => by
    cases d <;> first | exact q1.elim | skip
    cases r1
    exact ⟨_, rfl, h1 _ G1 H1 x1 q1⟩, h2⟩
theorem cut_reps {G : Hp} {xs : List V} {ds : List D} (r : Reps NM X.K G xs ds) (lo hi : Option Int) : Reps NM X.K G (cutV xs lo hi) (cutD ds lo hi) := by
  unfold cutV cutD
  rw [r.len]
  exact (r.drop _).take _
theorem sf_slc {lo hi : Option Expr} {p2 : Pos} {fl fh : Ok_} (ha : PE X a (LB NM X.K W fa)) (hl : PO X lo (LO NM X.K W fl)) (hh : PO X hi (LO NM X.K W fh)) :
    PE X (.Subscript a (.Slice lo hi none p2) pos) (LF NM X.K W fun ρ k x => fa ρ (fun d => fl ρ (fun l => fh ρ (fun h => slcW d l h k) x) x) x) :=
  pe_imp (pe_slice sl_list ha hl hh) fun σ H Q ⟨F, ρ, G, kd, kx, r, q, h1, h2⟩ => ⟨F, ρ, G, _, kx, r, q, fun v G1 H1 d x1 r1 q1 => ⟨F, ρ, G1, _, kx, r.ext x1, q1, fun l G2 H2 x2 q2 => ⟨F, ρ, G2, _, kx, (r.ext x1).ext x2, q2, fun u G3 H3 x3 q3 => by
    cases d <;> first | exact q3.elim | skip
    obtain ⟨a, xs, rfl, s1, z1, s2⟩ := ((r1.ext x2).ext x3).lst x3.sub
    refine ⟨a, xs, rfl, .of s1, fun p hp => ?_⟩
    have x4 := (x1.trans x2).trans x3
    exact h1 p _ G3 _ _ (x4.trans (.own x3.sub hp _)) upd_same (x3.sub.free hp) (x4.hh.free hp) (Nat.le_trans (cutV_length xs l u) z1) (cut_reps s2 l u) q3, fun c d G3 H3 x x3 => h2 c d G3 H3 x ((x1.trans x2).trans x3)⟩, fun c d G2 H2 x x2 => h2 c d G2 H2 x (x1.trans x2)⟩, h2⟩
end
end Q

/-! QH: built-in functions. -/
namespace Q
open PySem PySem.Spec L2

section
variable {X : Cx} {NM : Nam} {B : List Str} {Φ : List Cal} {Γ : List (Str × D)} {AT : List (Nat × Nat)} {W : WX} {a b c e : Expr} {fa fb fc : Wk} {pos : Pos} {n : Nat} {g : Ak} {es : List Expr}
theorem callR_imp {f : Value} {r r' : List V → Hp → VK → Prop} (h : CallR X f r) (i : ∀ xs H Q, r' xs H Q → r xs H Q) : CallR X f r' := fun pins s σ H xs us Q I rs q => h pins s σ H xs us Q I rs (i _ _ _ q)
theorem isqrt_ok : CallR X (.builtin "math.isqrt") (fun xs H Q => ∃ i : Int, xs = [.int i] ∧ 0 ≤ i ∧ i.toNat.log2 < 13470 ∧ Q (.int (Float64.isqrt i.toNat : Nat)) H) := by
  rintro pins s σ H xs us Q I r ⟨i, rfl, h0, h1, q⟩
  obtain ⟨u, rfl, t, rfl⟩ := vals1 r
  exact call_function_meets PySem.W.MGF.kind_isqrt PySem.W.MGF.plain_isqrt PySem.W.MGF.entry_isqrt (PySem.W.MGF.args_isqrt _) (PySem.W.mg_run_isqrt i t (by omega) (by omega) (by omega)).meets ⟨.int _, H, I.tok _, ⟨_, rfl⟩, q⟩
theorem ints_map : ∀ {ds : List D} {ns : List Int}, ints? ds = some ns → ds = ns.map D.int
  | [], ns, h => by cases h; rfl
  | .int i :: r, ns, h => by
    unfold ints? at h
    split at h
    · rename_i l e
      cases h
      rw [ints_map e]
      rfl
    · cases h
  | .non :: _, _, h => by cases h
  | .bl _ :: _, _, h => by cases h
  | .str _ :: _, _, h => by cases h
  | .tup _ :: _, _, h => by cases h
  | .lst _ :: _, _, h => by cases h
  | .ro _ :: _, _, h => by cases h
  | .ins _ _ _ :: _, _, h => by cases h
  | .ty _ :: _, _, h => by cases h
theorem reps_ints {G : Hp} : ∀ {ns : List Int} {xs : List V}, Reps NM X.K G xs (ns.map D.int) → xs = ns.map V.int
  | [], _, .nil => rfl
  | _ :: _, _, .cons r rs => by
    cases r
    rw [reps_ints rs]
    rfl
theorem maxL_ge : ∀ (r : List Int) (m : Int), m ≤ maxL m r ∧ (∀ y ∈ r, y ≤ maxL m r) ∧ (maxL m r = m ∨ maxL m r ∈ r)
  | [], m => ⟨Int.le_refl _, (fun y h => nomatch h), .inl rfl⟩
  | x :: r, m => by
    obtain ⟨h1, h2, h3⟩ := maxL_ge r (if m < x then x else m)
    show m ≤ maxL (if m < x then x else m) r ∧ (∀ y ∈ x :: r, y ≤ maxL (if m < x then x else m) r) ∧ (maxL (if m < x then x else m) r = m ∨ maxL (if m < x then x else m) r ∈ x :: r)
    split at h1 <;> rename_i hc <;> simp only [hc, if_true, if_false] at h2 h3 ⊢
    · refine ⟨by omega, fun y hy => ?_, ?_⟩
      · rcases List.mem_cons.mp hy with rfl | hy
        · exact h1
        · exact h2 y hy
      · rcases h3 with h3 | h3
        · exact .inr (by rw [h3]; exact List.mem_cons_self)
        · exact .inr (List.mem_cons_of_mem _ h3)
    · refine ⟨h1, fun y hy => ?_, ?_⟩
      · rcases List.mem_cons.mp hy with rfl | hy
        · omega
        · exact h2 y hy
      · rcases h3 with h3 | h3
        · exact .inl h3
        · exact .inr (List.mem_cons_of_mem _ h3)
theorem minL_le : ∀ (r : List Int) (m : Int), minL m r ≤ m ∧ (∀ y ∈ r, minL m r ≤ y) ∧ (minL m r = m ∨ minL m r ∈ r)
  | [], m => ⟨Int.le_refl _, (fun y h => nomatch h), .inl rfl⟩
  | x :: r, m => by
    obtain ⟨h1, h2, h3⟩ := minL_le r (if x < m then x else m)
    show minL (if x < m then x else m) r ≤ m ∧ (∀ y ∈ x :: r, minL (if x < m then x else m) r ≤ y) ∧ (minL (if x < m then x else m) r = m ∨ minL (if x < m then x else m) r ∈ x :: r)
    split at h1 <;> rename_i hc <;> simp only [hc, if_true, if_false] at h2 h3 ⊢
    · refine ⟨by omega, fun y hy => ?_, ?_⟩
      · rcases List.mem_cons.mp hy with rfl | hy
        · exact h1
        · exact h2 y hy
      · rcases h3 with h3 | h3
        · exact .inr (by rw [h3]; exact List.mem_cons_self)
        · exact .inr (List.mem_cons_of_mem _ h3)
    · refine ⟨h1, fun y hy => ?_, ?_⟩
      · rcases List.mem_cons.mp hy with rfl | hy
        · omega
        · exact h2 y hy
      · rcases h3 with h3 | h3
        · exact .inl h3
        · exact .inr (List.mem_cons_of_mem _ h3)
theorem maxL_uniq {n m : Int} {r : List Int} (h1 : m ∈ n :: r) (h2 : ∀ y, y ∈ n :: r → y ≤ m) : m = maxL n r := by
  obtain ⟨a1, a2, a3⟩ := maxL_ge r n
  have b1 : maxL n r ≤ m := by
    rcases a3 with e | e
    · rw [e]; exact h2 _ List.mem_cons_self
    · exact h2 _ (List.mem_cons_of_mem _ e)
  have b2 : m ≤ maxL n r := by
    rcases List.mem_cons.mp h1 with e | e
    · rw [e]; exact a1
    · exact a2 _ e
  omega
theorem minL_uniq {n m : Int} {r : List Int} (h1 : m ∈ n :: r) (h2 : ∀ y, y ∈ n :: r → m ≤ y) : m = minL n r := by
  obtain ⟨a1, a2, a3⟩ := minL_le r n
  have b1 : m ≤ minL n r := by
    rcases a3 with e | e
    · rw [e]; exact h2 _ List.mem_cons_self
    · exact h2 _ (List.mem_cons_of_mem _ e)
  have b2 : minL n r ≤ m := by
    rcases List.mem_cons.mp h1 with e | e
    · rw [e]; exact a1
    · exact a2 _ e
  omega
/-- a built-in function on things: the arguments are frozen, or one thing that is looked at -/
def rBlt (NM : Nam) (K : PySem.W.Frag) (w : List D → (D → Prop) → Prop) : List V → Hp → VK → Prop := fun xs H Q => ∃ G ds kd, Same G H ∧ Paired (RepB NM K G H) xs ds ∧ w ds kd ∧ ∀ v G' H' r, Ext G H G' H' → Rep NM K G' v r → kd r → Q v H'
def bltV : Blt → Value
  | .len => .builtin "len"
  | .abs => .builtin "abs"
  | .int => .type "int"
  | .isqrt => .builtin "math.isqrt"
  | .min => .builtin "min"
  | .max => .builtin "max"
  | .sum => .builtin "sum"
  | .list => .type "list"
  | .tuple => .type "tuple"
  | .str => .type "str"
  | .isi => .builtin "isinstance"
theorem paired1 {R : V → D → Prop} {xs : List V} {d : D} (h : Paired R xs [d]) : ∃ v, xs = [v] ∧ R v d := by
  cases h with
  | cons h t =>
    cases t
    exact ⟨_, rfl, h⟩
theorem paired2 {R : V → D → Prop} {xs : List V} {d e : D} (h : Paired R xs [d, e]) : ∃ v u, xs = [v, u] ∧ R v d ∧ R u e := by
  cases h with
  | cons h t =>
    cases t with
    | cons h2 t =>
      cases t
      exact ⟨_, _, rfl, h, h2⟩
theorem paired3 {R : V → D → Prop} {xs : List V} {d e g : D} (h : Paired R xs [d, e, g]) : ∃ v u w, xs = [v, u, w] ∧ R v d ∧ R u e ∧ R w g := by
  cases h with
  | cons h t =>
    obtain ⟨u, w, rfl, h2, h3⟩ := paired2 t
    exact ⟨_, _, _, rfl, h, h2, h3⟩
theorem nu_max3 (a b c : Int) : nuMax3 (.int a) (.int b) (.int c) = some (.int (if (if a < b then b else a) < c then c else (if a < b then b else a))) := by
  have e : ∀ a b : Int, nuMax2 (.int a) (.int b) = some (.int (if a < b then b else a)) := fun a b => by
    show some (if decide (a < b) = true then V.int b else V.int a) = _
    by_cases z : a < b
    · rw [decide_eq_true z, if_pos rfl, if_pos z]
    · rw [decide_eq_false z, if_neg Bool.false_ne_true, if_neg z]
  unfold nuMax3
  rw [e]
  exact e _ _
theorem nu_min3 (a b c : Int) : nuMin3 (.int a) (.int b) (.int c) = some (.int (if c < (if b < a then b else a) then c else (if b < a then b else a))) := by
  have e : ∀ a b : Int, nuMin2 (.int a) (.int b) = some (.int (if b < a then b else a)) := fun a b => by
    show some (if decide (b < a) = true then V.int b else V.int a) = _
    by_cases z : b < a
    · rw [decide_eq_true z, if_pos rfl, if_pos z]
    · rw [decide_eq_false z, if_neg Bool.false_ne_true, if_neg z]
  unfold nuMin3
  rw [e]
  exact e _ _
theorem tyx_of {G H : Hp} {v : V} {d : D} {n : String} {b : Bool} (s : Same G H) (h : RepB NM X.K G H v d) (e : kitD d n = some b) : ∃ t, TyX X.K H v t ∧ PySem.W.kitOne X.K t (.type n) = some b := by
  cases d <;> first | (cases e; done) | skip
  · cases h.non; exact ⟨_, .base .non, kit_ty e⟩
  · cases h.bl; exact ⟨_, .base (.bl _), kit_ty e⟩
  · cases h.int; exact ⟨_, .base (.int _), kit_ty e⟩
  · cases h.str; exact ⟨_, .base (.str _), kit_ty e⟩
  · obtain ⟨a, xs, rfl, h1, _, _⟩ := h.tup s
    rcases h1 with (h1 | ⟨o, h1⟩) | ⟨o, its, m, h1, h2, _⟩
    · exact ⟨_, .base (.tup h1), kit_ty e⟩
    · exact ⟨_, .fTuple h1, kit_ty e⟩
    · exact ⟨_, .kTuple h1 h2, kit_ty e⟩
  · obtain ⟨a, xs, rfl, h1, _, _⟩ := h.lst s
    exact ⟨_, .base (.lst h1), kit_ty e⟩
theorem blt_ok (ok : Ok X NM B Φ Γ AT) : ∀ b : Blt, CallR X (bltV b) (rBlt NM X.K (bltW b)) := by
  intro b pins s σ H xs us Q I rs ⟨G, ds, kd, sub, rp, w, q⟩
  have fin : ∀ r v' , Rep NM X.K G v' r → kd r → Q v' H := fun r v' hr hk => q v' G H r (.refl sub) hr hk
  cases b with
  | len =>
    cases ds with
    | nil => exact w.elim
    | cons d r =>
    cases r with
    | cons _ _ => cases d <;> exact w.elim
    | nil =>
    obtain ⟨v, rfl, rv⟩ := paired1 rp
    cases d <;> first | exact w.elim | skip
    · cases rv.str
      exact call_len_str pins s σ H _ us Q I rs ⟨_, rfl, w.1, fin _ _ (.int _) w.2⟩
    · obtain ⟨a, xs, rfl, s1, z1, r1⟩ := rv.tup sub
      exact call_len_seq pins s σ H _ us Q I rs ⟨_, _, rfl, .inr s1, by rw [r1.len]; exact fin _ _ (.int _) w⟩
    · obtain ⟨a, xs, rfl, s1, z1, r1⟩ := rv.lst sub
      exact call_len_seq pins s σ H _ us Q I rs ⟨_, _, rfl, .inl (.of s1), by rw [r1.len]; exact fin _ _ (.int _) w⟩
    · obtain ⟨a, xs, rfl, s1, z1, r1⟩ := rv.ro sub
      exact call_len_seq pins s σ H _ us Q I rs ⟨_, _, rfl, .inl s1, by rw [r1.len]; exact fin _ _ (.int _) w⟩
  | abs =>
    cases ds with
    | nil => exact w.elim
    | cons d r =>
    cases r with
    | cons _ _ => cases d <;> exact w.elim
    | nil =>
    obtain ⟨v, rfl, rv⟩ := paired1 rp
    cases d <;> first | exact w.elim | skip
    cases rv.int
    exact call_abs pins s σ H _ us Q I rs ⟨_, rfl, fin _ _ (.int _) w⟩
  | int =>
    cases ds with
    | nil => exact w.elim
    | cons d r =>
    cases r with
    | cons _ _ => cases d <;> exact w.elim
    | nil =>
    obtain ⟨v, rfl, rv⟩ := paired1 rp
    cases d <;> first | exact w.elim | skip
    · cases rv.bl
      exact call_int1 pins s σ H _ us Q I rs (.inr ⟨_, rfl, fin _ _ (.int _) w⟩)
    · cases rv.int
      exact call_int1 pins s σ H _ us Q I rs (.inl ⟨_, rfl, fin _ _ (.int _) w⟩)
  | isqrt =>
    cases ds with
    | nil => exact w.elim
    | cons d r =>
    cases r with
    | cons _ _ => cases d <;> exact w.elim
    | nil =>
    obtain ⟨v, rfl, rv⟩ := paired1 rp
    cases d <;> first | exact w.elim | skip
    cases rv.int
    exact isqrt_ok pins s σ H _ us Q I rs ⟨_, rfl, w.1, w.2.1, fin _ _ (.int _) w.2.2⟩
  | min =>
    cases ds with
    | nil => exact w.elim
    | cons d r =>
    cases r with
    | cons d2 r2 =>
      cases r2 with
      | cons d3 r3 =>
        cases r3 with
        | cons _ _ => cases d <;> first | exact w.elim | (cases d2 <;> first | exact w.elim | (cases d3 <;> exact w.elim))
        | nil =>
        cases d <;> first | exact w.elim | (cases d2 <;> first | exact w.elim | (cases d3 <;> first | exact w.elim | skip))
        obtain ⟨v, u, u3, rfl, rv, ru, r3⟩ := paired3 rp
        cases rv.int; cases ru.int; cases r3.int
        exact call_min3Nu ok.calm pins s σ H _ us Q I rs ⟨_, _, _, _, rfl, nu_min3 _ _ _, fin _ _ (.int _) w⟩
      | nil =>
      cases d <;> first | exact w.elim | (cases d2 <;> first | exact w.elim | skip)
      obtain ⟨v, u, rfl, rv, ru⟩ := paired2 rp
      cases rv.int; cases ru.int
      exact call_min2 ok.calm pins s σ H _ us Q I rs ⟨_, _, rfl, fin _ _ (.int _) w⟩
    | nil =>
    obtain ⟨v, rfl, rv⟩ := paired1 rp
    cases d <;> first | exact w.elim | skip
    obtain ⟨a, xs, rfl, s1, z1, r1⟩ := rv.lst sub
    simp only [bltW] at w
    split at w
    · rename_i n r e
      rw [ints_map e] at r1
      rw [reps_ints r1] at s1
      exact cr_min ok.calm pins s σ H _ us Q I rs ⟨a, _, rfl, .of s1, by simp, fun m h1 h2 => by rw [minL_uniq h1 h2]; exact fin _ _ (.int _) w⟩
    · exact w.elim
  | max =>
    cases ds with
    | nil => exact w.elim
    | cons d r =>
    cases r with
    | cons d2 r2 =>
      cases r2 with
      | cons d3 r3 =>
        cases r3 with
        | cons _ _ => cases d <;> first | exact w.elim | (cases d2 <;> first | exact w.elim | (cases d3 <;> exact w.elim))
        | nil =>
        cases d <;> first | exact w.elim | (cases d2 <;> first | exact w.elim | (cases d3 <;> first | exact w.elim | skip))
        obtain ⟨v, u, u3, rfl, rv, ru, r3⟩ := paired3 rp
        cases rv.int; cases ru.int; cases r3.int
        exact call_max3Nu ok.calm pins s σ H _ us Q I rs ⟨_, _, _, _, rfl, nu_max3 _ _ _, fin _ _ (.int _) w⟩
      | nil =>
      cases d <;> first | exact w.elim | (cases d2 <;> first | exact w.elim | skip)
      obtain ⟨v, u, rfl, rv, ru⟩ := paired2 rp
      cases rv.int; cases ru.int
      exact call_max2 ok.calm pins s σ H _ us Q I rs ⟨_, _, rfl, fin _ _ (.int _) w⟩
    | nil =>
    obtain ⟨v, rfl, rv⟩ := paired1 rp
    cases d <;> first | exact w.elim | skip
    obtain ⟨a, xs, rfl, s1, z1, r1⟩ := rv.lst sub
    simp only [bltW] at w
    split at w
    · rename_i n r e
      rw [ints_map e] at r1
      rw [reps_ints r1] at s1
      exact cr_max ok.calm pins s σ H _ us Q I rs ⟨a, _, rfl, .of s1, by simp, fun m h1 h2 => by rw [maxL_uniq h1 h2]; exact fin _ _ (.int _) w⟩
    · exact w.elim
  | sum =>
    cases ds with
    | nil => exact w.elim
    | cons d r =>
    cases r with
    | cons _ _ => cases d <;> exact w.elim
    | nil =>
    obtain ⟨v, rfl, rv⟩ := paired1 rp
    cases d <;> first | exact w.elim | skip
    obtain ⟨a, xs, rfl, s1, z1, r1⟩ := rv.lst sub
    simp only [bltW] at w
    split at w
    · rename_i ns e
      rw [ints_map e] at r1
      rw [reps_ints r1] at s1
      exact cr_sum ok.calm pins s σ H _ us Q I rs ⟨a, _, rfl, .of s1, fin _ _ (.int _) w⟩
    · exact w.elim
  | list =>
    cases ds with
    | nil => exact w.elim
    | cons d r =>
    cases r with
    | cons _ _ => cases d <;> exact w.elim
    | nil =>
    obtain ⟨v, rfl, rv⟩ := paired1 rp
    cases d <;> first | exact w.elim | skip
    · obtain ⟨a, xs, rfl, s1, z1, r1⟩ := rv.tup sub
      exact call_list_of pins s σ H _ us Q I rs ⟨_, _, rfl, .inr s1, fun l hl => q _ (upd G l _) _ _ (.new sub hl _) (.lst upd_same z1 (r1.mono (same_upd (sub.free hl)))) w⟩
    · obtain ⟨a, xs, rfl, s1, z1, r1⟩ := rv.lst sub
      exact call_list_of pins s σ H _ us Q I rs ⟨_, _, rfl, .inl (.of s1), fun l hl => q _ (upd G l _) _ _ (.new sub hl _) (.lst upd_same z1 (r1.mono (same_upd (sub.free hl)))) w⟩
  | tuple =>
    cases ds with
    | nil => exact w.elim
    | cons d r =>
    cases r with
    | cons _ _ => cases d <;> exact w.elim
    | nil =>
    obtain ⟨v, rfl, rv⟩ := paired1 rp
    cases d <;> first | exact w.elim | skip
    · cases rv with
      | frz z =>
        obtain ⟨a, xs, rfl, s1, z1, r1⟩ := (RepB.frz (H := H) z).tup sub
        exact call_tuple_of pins s σ H _ us Q I rs ⟨_, _, rfl, .inr ⟨s1, fin _ _ z w⟩⟩
    · obtain ⟨a, xs, rfl, s1, z1, r1⟩ := rv.lst sub
      exact call_tuple_of pins s σ H _ us Q I rs ⟨_, _, rfl, .inl ⟨.of s1, fun l hl => q _ (upd G l _) _ _ (.new sub hl _) (.tup (.of upd_same) z1 (r1.mono (same_upd (sub.free hl)))) w⟩⟩
  | str =>
    cases ds with
    | nil => exact w.elim
    | cons d r =>
    cases r with
    | cons _ _ => cases d <;> exact w.elim
    | nil =>
    obtain ⟨v, rfl, rv⟩ := paired1 rp
    cases d <;> first | exact w.elim | skip
    cases rv.int
    exact call_str_int pins s σ H _ us Q I rs ⟨_, rfl, w.1, fin _ _ (.str _) w.2⟩
  | isi =>
    cases ds with
    | nil => exact w.elim
    | cons d r =>
    cases r with
    | nil => exact w.elim
    | cons d2 r2 =>
    cases r2 with
    | cons _ _ => cases d2 <;> exact w.elim
    | nil =>
    obtain ⟨v, u, rfl, rv, ru⟩ := paired2 rp
    cases d2 <;> first | exact w.elim | skip
    rename_i T
    cases ru with
    | frz z =>
      cases z
      simp only [bltW] at w
      split at w
      · rename_i b e
        obtain ⟨t, ht, hk⟩ := tyx_of sub rv e
        exact call_isi pins s σ H _ us Q I rs ⟨v, _, _, _, b, rfl, .ty T, ht, hk, fin _ _ (.bl _) w⟩
      · exact w.elim
end
end Q

/-! QI: targets, what is walked, comprehensions; every expression of the small language. -/
namespace Q
open PySem PySem.Spec L2

section
variable {X : Cx} {NM : Nam} {B : List Str} {Φ : List Cal} {Γ : List (Str × D)} {AT : List (Nat × Nat)} {W : WX} {a b c e : Expr} {fa fb fc : Wk} {pos : Pos} {n : Nat} {g : Ak} {es : List Expr}
/-! ### built-in calls -/
theorem reps_paired {G H : Hp} : ∀ {vs : List V} {ds : List D}, Reps NM X.K G vs ds → Paired (RepB NM X.K G H) vs ds
  | _, _, .nil => .nil
  | _, _, .cons h r => .cons (.frz h) (reps_paired r)
theorem se_blt (ok : Ok X NM B Φ Γ AT) {bl : Blt} {x : Str} {p : Pos} (hgl : Gl X x) (hdb : (x == ("__debug__" : Str)) = false) (hga : (e :: es).all good = true)
    (hv : (X.mg x = none ∧ bootBuiltins x = some (bltV bl) ∧ x ≠ "__name__") ∨ (bl = .isqrt ∧ X.mg x = some (.builtin "math.isqrt"))) (ha : PA X (e :: es) (LA NM X.K W n g)) :
    PE X (.Call (.Name x p) (e :: es) [] pos) (LE NM X.K W fun ρ k x => g ρ (fun ds => bltW bl ds k) x) := by
  have hg2 := Bool.and_eq_true_iff.mp (show (good e && es.all good) = true from hga)
  have pe : PE X (.Call (.Name x p) (e :: es) [] pos) (tCB (rBlt NM X.K (bltW bl)) (LA NM X.K W n g)) := by
    rcases hv with ⟨h1, h2, h3⟩ | ⟨rfl, h1⟩
    · cases bl <;> first | exact pe_callB (blt_ok ok _) hgl h1 h2 ha h3 hdb (starEach_good hg2.1) (starAny hg2.2) | exact pe_callTy (blt_ok ok _) hgl h1 h2 ha h3 hdb (starEach_good hg2.1) (starAny hg2.2)
    · exact pe_callBfun (blt_ok ok .isqrt) hgl h1 ha hdb (starEach_good hg2.1) (starAny hg2.2)
  exact pe_imp pe fun σ H Q ⟨F, ρ, G, kd, kx, r, q, h1, h2⟩ => ⟨F, ρ, G, _, kx, r, q, fun vs G1 H1 ds x1 r1 l1 q1 =>
    ⟨G1, ds, kd, x1.sub, reps_paired r1, q1, fun v G2 H2 d x2 r2 q2 => h1 v G2 H2 d (x1.trans x2) r2 q2⟩, h2⟩
theorem sa_oneB (hg : good e = true) (ha : PE X e (LB NM X.K W fa)) : PA X [e] (fun σ H Q => LB NM X.K W fa σ H fun v H' => Q [v] H') :=
  pa_imp (pa_cons ha pa_nil (starEach_good hg)) fun σ H Q q => q
theorem se_blt1 (ok : Ok X NM B Φ Γ AT) {bl : Blt} {x : Str} {p : Pos} (hgl : Gl X x) (hdb : (x == ("__debug__" : Str)) = false) (hg : good e = true)
    (hv : (X.mg x = none ∧ bootBuiltins x = some (bltV bl) ∧ x ≠ "__name__") ∨ (bl = .isqrt ∧ X.mg x = some (.builtin "math.isqrt"))) (ha : PE X e (LB NM X.K W fa)) :
    PE X (.Call (.Name x p) [e] [] pos) (LE NM X.K W fun ρ k x => fa ρ (fun d => bltW bl [d] k) x) := by
  have pe : PE X (.Call (.Name x p) [e] [] pos) (tCB (rBlt NM X.K (bltW bl)) (fun σ H Q => LB NM X.K W fa σ H fun v H' => Q [v] H')) := by
    rcases hv with ⟨h1, h2, h3⟩ | ⟨rfl, h1⟩
    · cases bl <;> first | exact pe_callB (blt_ok ok _) hgl h1 h2 (sa_oneB hg ha) h3 hdb (starEach_good hg) rfl | exact pe_callTy (blt_ok ok _) hgl h1 h2 (sa_oneB hg ha) h3 hdb (starEach_good hg) rfl
    · exact pe_callBfun (blt_ok ok .isqrt) hgl h1 (sa_oneB hg ha) hdb (starEach_good hg) rfl
  exact pe_imp pe fun σ H Q ⟨F, ρ, G, kd, kx, r, q, h1, h2⟩ => ⟨F, ρ, G, _, kx, r, q, fun v G1 H1 d x1 r1 q1 =>
    ⟨G1, [d], kd, x1.sub, .cons r1 .nil, q1, fun v G2 H2 d x2 r2 q2 => h1 v G2 H2 d (x1.trans x2) r2 q2⟩, h2⟩
theorem bltB_eq : ∀ b : Blt, b ≠ .isqrt → bootBuiltins (bltN b) = some (bltV b) := by
  intro b hb
  cases b <;> first | exact absurd rfl hb | decide +kernel
/-! ### targets -/
abbrev Gk := D → Env → (Env → Prop) → Prop
/-- σ' differs from σ in these slots alone -/
def Dif (vs : List Nat) (σ σ' : L2.St) : Prop := σ'.length = σ.length ∧ ∀ i, i ∉ vs → σ'[i]? = σ[i]?
theorem Dif.refl {vs : List Nat} {σ : L2.St} : Dif vs σ σ := ⟨rfl, fun _ _ => rfl⟩
theorem Dif.trans {vs ws : List Nat} {σ σ1 σ2 : L2.St} (a : Dif vs σ σ1) (b : Dif ws σ1 σ2) : Dif (vs ++ ws) σ σ2 :=
  ⟨b.1.trans a.1, fun i h => (b.2 i fun z => h (List.mem_append_right _ z)).trans (a.2 i fun z => h (List.mem_append_left _ z))⟩
theorem wipe_in {σ : L2.St} {i : Nat} : ∀ {vs : List Nat}, i ∈ vs → i < σ.length → (wipe σ vs)[i]? = some none
  | v :: vs, h, hl => by
    unfold wipe
    by_cases hv : v = i
    · subst hv
      rw [List.getElem?_set_self (by rw [wipe_length]; exact hl)]
    · rw [List.getElem?_set_ne hv]
      exact wipe_in ((List.mem_cons.mp h).resolve_left (Ne.symm hv)) hl
theorem Dif.wipe {vs : List Nat} {σ σ' : L2.St} (h : Dif vs σ σ') : L2.wipe σ' vs = L2.wipe σ vs := by
  apply List.ext_getElem?
  intro i
  by_cases hi : i ∈ vs
  · by_cases hl : i < σ.length
    · rw [wipe_in hi hl, wipe_in hi (by rw [h.1]; exact hl)]
    · rw [List.getElem?_eq_none (by rw [wipe_length, h.1]; omega), List.getElem?_eq_none (by rw [wipe_length]; omega)]
  · rw [wipe_out hi, wipe_out hi]
    exact h.2 i hi
def LG (NM : Nam) (K : PySem.W.Frag) (vs : List Nat) (f : Gk) : TG := fun v σ H Q => ∃ F ρ G d k, R NM K F ρ G σ H ∧ Rep NM K G v d ∧ f d ρ k ∧ ∀ σ' ρ', R NM K F ρ' G σ' H → Dif vs σ σ' → k ρ' → Q σ' H
def LGs (NM : Nam) (K : PySem.W.Frag) (vs : List Nat) (f : List D → Env → (Env → Prop) → Prop) : TGs := fun us σ H Q => ∃ F ρ G ds k, R NM K F ρ G σ H ∧ Reps NM K G us ds ∧ f ds ρ k ∧ ∀ σ' ρ', R NM K F ρ' G σ' H → Dif vs σ σ' → k ρ' → Q σ' H
theorem pg_imp {t t' : TG} (h : PG X e t) (i : ∀ v σ H Q, t' v σ H Q → t v σ H Q) : PG X e t' := ⟨fun pins s σ H v u Q I r q => h.run pins s σ H v u Q I r (i _ _ _ _ q)⟩
theorem pgs_imp {t t' : TGs} (h : PGs X es t) (i : ∀ v σ H Q, t' v σ H Q → t v σ H Q) : PGs X es t' := ⟨fun pins s σ H v u Q I r q => h.run pins s σ H v u Q I r (i _ _ _ _ q)⟩
/-- sc's own names may be stored -/
def TgOk (X : Cx) (sc : Scope) : Prop := ∀ x, (sc.names.lookup x = some .local → X.env.scope.names.lookup x = some .local) ∧ (sc.names.lookup x = some .cell → X.env.scope.names.lookup x = some .cell ∧ X.fn x = true)
theorem locB_loc {sc : Scope} {x : Str} (h : locB sc x = true) (hs : TgOk X sc) : Loc X.env.scope x ∧ (X.fn x = true ∨ X.env.scope.names.lookup x = some .local) := by
  unfold locB at h
  split at h
  · rename_i q
    exact ⟨.inl ((hs x).1 q), .inr ((hs x).1 q)⟩
  · rename_i q
    exact ⟨.inr ((hs x).2 q).1, .inl ((hs x).2 q).2⟩
  · cases h
theorem lookup_rel {sc : Scope} {x : Str} {k : NameKind} (hk : k ≠ .free) : ∀ {l : List (Str × NameKind)}, l.lookup x = some k → (l.map fun (n, k) => if (k == .free && sc.kind == .function && sc.names.lookup n == some .cell) then (n, NameKind.cell) else (n, k)).lookup x = some k
  | [], h => by cases h
  | (n, j) :: l, h => by
    rw [List.map_cons]
    by_cases e : (x == n) = true
    · have h' : some j = some k := by
        rw [List.lookup_cons, e] at h
        exact h
      cases h'
      have ne : (k == NameKind.free) = false := by cases k <;> first | rfl | exact absurd rfl hk
      simp only [ne, Bool.false_and]
      rw [List.lookup_cons]
      show (match x == n with | true => some k | false => _) = some k
      rw [e]
    · have e' : (x == n) = false := by simpa using e
      have h' : l.lookup x = some k := by
        rw [List.lookup_cons, e'] at h
        exact h
      have ih := lookup_rel (sc := sc) hk h'
      dsimp only
      split <;> (rw [List.lookup_cons]; show (match x == n with | true => _ | false => _) = some k; rw [e']; exact ih)
theorem tgOk_blk {s : Shared} {H : Hp} {scope : Scope} {C : Addr} {cl : List (Str × Addr)} {fp : List Addr} : TgOk (X.blk s H scope (compEnvC scope cl C X.env) fp) scope := fun x =>
  ⟨fun h => lookup_rel (by decide) h, fun h => ⟨lookup_rel (by decide) h, by show (scope.names.lookup x == some .cell) = true; rw [h]; rfl⟩⟩
theorem assignGood {env : PySem.Env} (h : good e = true) : assignEach (e :: es) env = (false, assign e env) :: assignEach es env := by
  cases e <;> first | rfl | cases h
theorem assign_len {env : PySem.Env} : ∀ es : List Expr, (assignEach es env).length = es.length
  | [] => rfl
  | e :: es => by
    have ih := assign_len (env := env) es
    cases e <;> exact congrArg Nat.succ ih
theorem assign_star {env : PySem.Env} : ∀ {es : List Expr}, es.all good = true → (assignEach es env).findIdx? (·.1) = none
  | [], _ => rfl
  | e :: es, h => by
    have h2 := Bool.and_eq_true_iff.mp (show (good e && es.all good) = true from h)
    rw [assignGood h2.1, List.findIdx?_cons]
    rw [assign_star h2.2]
    rfl
theorem pg_or {t1 t2 : TG} (h1 : PG X e t1) (h2 : PG X e t2) : PG X e (fun v σ H Q => t1 v σ H Q ∨ t2 v σ H Q) := ⟨fun pins s σ H v u Q I r q => q.elim (fun z => h1.run pins s σ H v u Q I r z) fun z => h2.run pins s σ H v u Q I r z⟩
mutual
theorem sg (ok : Ok X NM B Φ Γ AT) {sc : Scope} (hs : TgOk X sc) : ∀ (t : Tg) (e : Expr), chTg X.N t sc e = true → PG X e (LG NM X.K t.slots (bindW t))
  | .nm i, e, h => by
    unfold chTg at h
    split at h
    · rename_i x hx
      obtain ⟨p, rfl⟩ := asName_eq hx
      obtain ⟨h1, h2⟩ := Bool.and_eq_true_iff.mp h
      obtain ⟨hl, hf⟩ := locB_loc (X := X) h2 hs
      refine pg_imp (pg_name (i := i) ok.nd (of_decide_eq_true h1) hl hf) fun v σ H Q ⟨F, ρ, G, d, k, r, hd, q, w⟩ => ?_
      refine w _ _ (r.set hd) ⟨List.length_set .., fun j hj => List.getElem?_set_ne fun z => hj ?_⟩ q
      rw [← z]
      exact List.mem_singleton.mpr rfl
    · cases h
  | .tp ts, e, h => by
    unfold chTg at h
    split at h
    · rename_i xs hx
      obtain ⟨kk, p, rfl⟩ := asTup_eq hx
      obtain ⟨g1, g2, g3⟩ := sgs ok hs ts xs h
      refine pg_imp (pg_or (pg_tup (n := xs.length) ok.calm g1 (assign_len xs) (assign_star g2)) (pg_lst (n := xs.length) ok.calm g1 (assign_len xs) (assign_star g2))) fun v σ H Q ⟨F, ρ, G, d, k, r, hd, q, w⟩ => ?_
      unfold bindW at q
      cases d <;> first | exact q.elim | skip
      · cases hd with
        | tup h1 h2 h3 => exact .inl ⟨_, _, rfl, sqT_mono r.sub h1, by rw [h3.len, ← q.1, g3], F, ρ, G, _, k, r, h3, q.2, w⟩
      · cases hd with
        | lst h1 h2 h3 => exact .inr ⟨_, _, rfl, .of (r.sub _ _ h1), by rw [h3.len, ← q.1, g3], F, ρ, G, _, k, r, h3, q.2, w⟩
    · cases h
theorem sgs (ok : Ok X NM B Φ Γ AT) {sc : Scope} (hs : TgOk X sc) : ∀ (ts : List Tg) (es : List Expr), chTgs X.N ts sc es = true → PGs X es (LGs NM X.K (slotss ts) (bindsW ts)) ∧ es.all good = true ∧ ts.length = es.length
  | [], [], _ => ⟨pgs_imp pgs_nil fun vs σ H Q ⟨F, ρ, G, ds, k, r, hd, q, w⟩ => by
      cases hd with
      | nil =>
        refine ⟨rfl, w _ _ r .refl ?_⟩
        unfold bindsW at q
        exact q
      | cons _ _ =>
        unfold bindsW at q
        exact q.elim, rfl, rfl⟩
  | [], _ :: _, h => by
    unfold chTgs at h
    cases h
  | _ :: _, [], h => by
    unfold chTgs at h
    cases h
  | t :: ts, e :: es, h => by
    unfold chTgs at h
    obtain ⟨h1, h2⟩ := Bool.and_eq_true_iff.mp h
    obtain ⟨h0, h1⟩ := Bool.and_eq_true_iff.mp h1
    obtain ⟨a1, a2, a3⟩ := sgs ok hs ts es h2
    refine ⟨pgs_imp (pgs_cons (sg ok hs t e h1) a1 (by rw [assignGood h0]; rfl)) fun vs σ H Q ⟨F, ρ, G, ds, k, r, hd, q, w⟩ => ?_, by rw [List.all_cons, h0, a2]; rfl, congrArg Nat.succ a3⟩
    cases hd with
    | nil =>
      unfold bindsW at q
      exact q.elim
    | cons x1 x2 =>
      unfold bindsW at q
      exact ⟨_, _, rfl, F, ρ, G, _, _, r, x1, q, fun σ' ρ' r' d' q' => ⟨F, ρ', G, _, k, r', x2, q', fun σ2 ρ2 r2 d2 q2 => w σ2 ρ2 r2 (d'.trans d2) q2⟩⟩
end
/-! ### what is walked -/
/-- J gives ds, one after another, wherever rl holds of the frozen part and the heap -/
structure Wlk (NM : Nam) (K : PySem.W.Frag) (J : L2.It) (rl : Hp → Hp → Prop) (ds : List D) : Prop where
  go : ∀ i G H, Same G H → rl G H → i < ds.length → J.go i H ∧ ∀ x H', J.yld i H x H' → ∃ G' d, Ext G H G' H' ∧ ds[i]? = some d ∧ Rep NM K G' x d
  stop : ∀ G H, Same G H → rl G H → J.stop ds.length H
def LW (NM : Nam) (K : PySem.W.Frag) (W : WX) (fz : Bool) (f : Ak) : TI := fun σ H Rk => ∃ F ρ G kd kx, R NM K F ρ G σ H ∧ f ρ kd kx ∧
  (∀ J G' H' ds, Ext G H G' H' → Wlk NM K J (fun G1 H1 => Same G' G1 ∧ (fz = false → Same H' H1)) ds → ds.length ≤ sizeLine → kd ds → Rk J H') ∧ (∀ cls dx G' H' x, Ext G H G' H' → RepX NM K G' cls dx x → kx x → W cls dx σ H')
theorem pi_imp {tg : Expr} {t t' : TI} (h : PI X tg e t) (i : ∀ σ H Q, t' σ H Q → t σ H Q) : PI X tg e t' := ⟨fun pins s σ H Q I q => h.run pins s σ H Q I (i _ _ _ q)⟩
theorem pi_seq {tg l : Expr} {tl : TE} (hl : PE X l tl) : PI X tg l (fun σ H Rk => tl σ H fun x H1 => (∃ a, x = .ref a ∧ (∃ xs, SqL X.K H1 a xs) ∧ Rk (Itl X.K a) H1) ∨ (∃ a, x = .ref a ∧ (∃ xs, SqT X.K H1 a xs) ∧ Rk (Itt X.K a) H1) ∨ (∃ y, x = .str y ∧ Rk (Its y) H1)) := by
  refine ⟨fun pins s σ H Rk I h => ?_⟩
  refine thn (hl.run pins s σ H _ I h) fun v s1 ⟨x, H1, I1, r1, q1⟩ => ?_
  have fpo : ∀ b ∈ [s1.heap.objs.size], FpOk X pins H1 b := fun b hb => by
    cases (show b = s1.heap.objs.size from by simpa using hb)
    exact I1.fpOk (Nat.le_refl _) (I1.hok.fresh (Nat.le_refl _))
  rcases q1 with ⟨a, z, ⟨xs, hq⟩, q⟩ | ⟨a, z, ⟨xs, hq⟩, q⟩ | ⟨y, z, q⟩
  · subst z
    cases r1
    obtain ⟨its, rv, p, hz⟩ := I1.list hq
    exact wpAny_pyIter_list p.isList ⟨s1.heap.objs.size, [s1.heap.objs.size], _, _, H1, rfl, I1.kept (t' := s1.toks) fun b o e => Heap.get?_push_of_some _ e, turn_list a _, ⟨_, Heap.get?_push_size _ rfl, rfl, rfl⟩, fpo, q⟩
  · subst z
    cases r1
    obtain ⟨its, rv, p, hz⟩ := I1.tuple hq
    exact wpAny_pyIter_tuple (show s1.heap.IsTuple a its.toArray from p) ⟨s1.heap.objs.size, [s1.heap.objs.size], _, _, H1, rfl, I1.kept (t' := s1.toks) fun b o e => Heap.get?_push_of_some _ e, turn_tuple a _, ⟨_, Heap.get?_push_size _ rfl, rfl, rfl⟩, fpo, q⟩
  · subst z
    obtain ⟨t, rfl⟩ := r1
    cases ha : y.cps.all (· < 128)
    · exact wpAny_pyIter_wide ha (pi_one (tk := s1.toks) I1 _ (turn_str _ y t "str_iterator" (.inr rfl)) ⟨_, Heap.get?_push_size _ rfl, rfl, rfl⟩ q)
    · exact wpAny_pyIter_ascii ha (pi_one (tk := s1.toks) I1 _ (turn_str _ y t "str_ascii_iterator" (.inl rfl)) ⟨_, Heap.get?_push_size _ rfl, rfl, rfl⟩ q)
theorem wlk_str {y : Str} {rl : Hp → Hp → Prop} : Wlk NM X.K (Its y) rl (strD y) where
  go := fun i G H s q hi => by
    have hi' : i < y.cps.size := by simpa [strD] using hi
    refine ⟨hi', fun x H' ⟨e1, c, e2, e3⟩ => ?_⟩
    subst e1 e3
    refine ⟨G, .str ⟨#[c]⟩, .refl s, ?_, .str _⟩
    have e2' : y.cps.toList[i]? = some c := by rw [Array.getElem?_toList]; exact e2
    unfold strD
    rw [List.getElem?_map, e2']
    rfl
  stop := fun G H s q => by
    show y.cps.size ≤ (strD y).length
    simp [strD]
theorem wlk_list {G0 H0 : Hp} {a : Addr} {xs : List V} {ds : List D} {rl : Hp → Hp → Prop} (g0 : ∀ G H, rl G H → Same G0 G) (hs : ∀ G H, Same G H → rl G H → SqL X.K H a xs) (r : Reps NM X.K G0 xs ds) : Wlk NM X.K (Itl X.K a) rl ds where
  go := fun i G H s q hi => by
    obtain ⟨v, h1, h2⟩ := r.get (List.getElem?_eq_getElem hi)
    refine ⟨⟨xs, v, hs G H s q, h1⟩, fun x H' ⟨e1, e2⟩ => ?_⟩
    subst e1
    cases h1.symm.trans (e2 xs (hs G _ s q))
    exact ⟨G, _, .refl s, List.getElem?_eq_getElem hi, h2.mono (g0 G _ q)⟩
  stop := fun G H s q => ⟨xs, hs G H s q, Nat.le_of_eq r.len⟩
theorem wlk_tup {G0 H0 : Hp} {a : Addr} {xs : List V} {ds : List D} {rl : Hp → Hp → Prop} (g0 : ∀ G H, rl G H → Same G0 G) (hs : ∀ G H, Same G H → rl G H → SqT X.K H a xs) (r : Reps NM X.K G0 xs ds) : Wlk NM X.K (Itt X.K a) rl ds where
  go := fun i G H s q hi => by
    obtain ⟨v, h1, h2⟩ := r.get (List.getElem?_eq_getElem hi)
    refine ⟨⟨xs, v, hs G H s q, h1⟩, fun x H' ⟨e1, e2⟩ => ?_⟩
    subst e1
    cases h1.symm.trans (e2 xs (hs G _ s q))
    exact ⟨G, _, .refl s, List.getElem?_eq_getElem hi, h2.mono (g0 G _ q)⟩
  stop := fun G H s q => ⟨xs, hs G H s q, Nat.le_of_eq r.len⟩
abbrev exF (f : Wk) : Ak := fun ρ k x => f ρ (fun d => match d with
    | .lst xs => k xs
    | .tup xs => k xs
    | .ro xs => k xs
    | .str s => s.length ≤ sizeLine ∧ k (strD s)
    | _ => False) x
/-- what is frozen: a loop may walk it -/
theorem sw_ex {tg : Expr} (h : PE X e (LE NM X.K W fa)) : PI X tg e (LW NM X.K W true (exF fa)) := pi_imp (pi_seq h) fun σ H Q ⟨F, ρ, G, kd, kx, r, q, h1, h2⟩ => ⟨F, ρ, G, _, kx, r, q, fun v G1 H1 d x1 r1 q1 => by
    cases d <;> first | exact q1.elim | skip
    · cases r1
      exact .inr (.inr ⟨_, rfl, h1 _ G1 H1 _ x1 wlk_str (by rw [strD_len]; exact q1.1) q1.2⟩)
    · cases r1 with
      | tup a1 a2 a3 => exact .inr (.inl ⟨_, rfl, ⟨_, sqT_mono x1.sub a1⟩, h1 _ G1 H1 _ x1 (wlk_tup (G0 := G1) (H0 := H1) (fun _ _ z => z.1) (fun G H s z => sqT_mono (z.1.trans s) a1) a3) (by rw [← a3.len]; exact a2) q1⟩)
    · cases r1 with
      | lst a1 a2 a3 => exact .inl ⟨_, rfl, ⟨_, .of (x1.sub _ _ a1)⟩, h1 _ G1 H1 _ x1 (wlk_list (G0 := G1) (H0 := H1) (fun _ _ z => z.1) (fun G H s z => .of (s _ _ (z.1 _ _ a1))) a3) (by rw [← a3.len]; exact a2) q1⟩
    · cases r1 with
      | ro a1 a2 a3 => exact .inl ⟨_, rfl, ⟨_, x1.sub.seq a1⟩, h1 _ G1 H1 _ x1 (wlk_list (G0 := G1) (H0 := H1) (fun _ _ z => z.1) (fun G H s z => (z.1.trans s).seq a1) a3) (by rw [← a3.len]; exact a2) q1⟩, h2⟩
/-- what is looked at: a comprehension may walk it -/
theorem sw_exB {tg : Expr} (h : PE X e (LB NM X.K W fa)) : PI X tg e (LW NM X.K W false (exF fa)) := pi_imp (pi_seq h) fun σ H Q ⟨F, ρ, G, kd, kx, r, q, h1, h2⟩ => ⟨F, ρ, G, _, kx, r, q, fun v G1 H1 d x1 r1 q1 => by
    cases d <;> first | exact q1.elim | skip
    · cases r1.str
      exact .inr (.inr ⟨_, rfl, h1 _ G1 H1 _ x1 wlk_str (by rw [strD_len]; exact q1.1) q1.2⟩)
    · obtain ⟨a, xs, rfl, a1, a2, a3⟩ := r1.tup x1.sub
      exact .inr (.inl ⟨_, rfl, ⟨_, a1⟩, h1 _ G1 H1 _ x1 (wlk_tup (G0 := G1) (H0 := H1) (fun _ _ z => z.1) (fun G H s z => sqT_mono (z.2 rfl) a1) a3) (by rw [← a3.len]; exact a2) q1⟩)
    · obtain ⟨a, xs, rfl, a1, a2, a3⟩ := r1.lst x1.sub
      exact .inl ⟨_, rfl, ⟨_, .of a1⟩, h1 _ G1 H1 _ x1 (wlk_list (G0 := G1) (H0 := H1) (fun _ _ z => z.1) (fun G H s z => .of (z.2 rfl _ _ a1)) a3) (by rw [← a3.len]; exact a2) q1⟩
    · obtain ⟨a, xs, rfl, a1, a2, a3⟩ := r1.ro x1.sub
      exact .inl ⟨_, rfl, ⟨_, a1⟩, h1 _ G1 H1 _ x1 (wlk_list (G0 := G1) (H0 := H1) (fun _ _ z => z.1) (fun G H s z => (z.2 rfl).seq a1) a3) (by rw [← a3.len]; exact a2) q1⟩, h2⟩
theorem wlk_rng {lo : Int} {n : Nat} {rl : Hp → Hp → Prop} : Wlk NM X.K (Itr lo n) rl (rangeD lo n) where
  go := fun i G H s q hi => by
    have hi' : i < n := by simpa [rangeD] using hi
    refine ⟨hi', fun x H' ⟨e1, e2⟩ => ?_⟩
    subst e1 e2
    exact ⟨G, .int (lo + (i : Nat)), .refl s, by simp [rangeD, hi'], .int _⟩
  stop := fun G H s q => by
    show n ≤ (rangeD lo n).length
    simp [rangeD]
theorem turn_long {P : Program} {w : World} {K : PySem.W.Frag} {tg : Expr} (it : Addr) (lo : Int) (n : Nat) : Turn P w K tg (Itr lo n) [it] it (fun i h => IsLongIter h it (lo + (i : Nat) * 1) ((n : Int) - (i : Nat)) 1) where
  mem := by simp
  obj := fun i h st b hb => by
    have e : b = it := by simpa using hb
    subst e
    exact ⟨_, st, fun v z => by
      have z' : Data.fields _ = Data.cell v := z
      cases z'⟩
  keep := fun i h h' st k => k it (by simp) _ st
  item := by
    intro X hP hw hK hc i pins s σ H E I hf st hg
    subst hP hw hK
    obtain ⟨f0, f1, f2, f3, f4, f5⟩ := hf it (by simp)
    have W := Walks.longrange (prog := X.prog) (w := X.w) (I.ok.hd hc) it lo 1 n
    refine W.item i s _ _ hg st fun v h' tk hv st' kk => ?_
    obtain ⟨t, rfl⟩ := hv
    have I1 : Inv X pins σ H { s with heap := h', toks := tk } := I.turned (fun b o hb e => kk b o (by simpa using hb) e) f0 f1 f3 f4 f5
    refine ⟨_, rfl, go_of (s := { s with heap := h', toks := tk }) (n := "longrange_iterator") st' rfl rfl (by decide) ⟨.int (lo + i), H, I1, ⟨t, ?_⟩, ⟨rfl, rfl⟩, st', fun b hb => (hf b hb).1⟩⟩
    rw [Int.mul_one]
  done := by
    intro X hP hw hK hc i pins s σ H E I hf st hg
    subst hP hw hK
    obtain ⟨f0, f1, f2, f3, f4, f5⟩ := hf it (by simp)
    exact wpAny_pyNext_long_end (I.ok.hd hc) st (by have : n ≤ i := hg; omega) fun h' eb => ⟨rfl, I.turned (t' := s.toks) (fun b o hb e => eb b o hb e) f0 f1 f3 f4 f5⟩
  self := fun _ _ _ _ _ st h => wpAny_pyIter_longiter st h
/-- a range object of any ends, walked -/
theorem range_itL {tg : Expr} {pins : List (Addr × Obj)} {σ : L2.St} {H : Hp} {s : Shared} {R : L2.It → Hp → Prop} {E : Value → Shared → Prop} {lo hi : Int} {t u v : Tok} {tk : Nat} (I : Inv X pins σ H s)
    (q : R (Itr lo (hi - lo).toNat) H) : wpAny (model X.prog X.w) X.A (pyIter (.ref s.heap.objs.size)) (PIE X pins σ tg R) E { s with heap := s.heap.push { cls := .type "range", data := .fields #[.int lo t, .int hi u, .int 1 v] }, toks := tk } := by
  have I1 : Inv X pins σ H { s with heap := s.heap.push { cls := .type "range", data := .fields #[.int lo t, .int hi u, .int 1 v] }, toks := tk } := I.kept fun b o e => Heap.get?_push_of_some _ e
  have e1 : lo + ((0 : Nat) : Int) * 1 = lo := by simp
  have e2 : (((hi - lo).toNat : Nat) : Int) - ((0 : Nat) : Int) = Builtin.Range.rangeSize lo hi 1 := by rw [rangeSize_one]; split <;> omega
  cases z : Builtin.Range.small lo hi 1 with
  | true =>
    refine wpAny_pyIter_range (IsRange.new ..) z ?_
    refine ⟨(s.heap.push { cls := .type "range", data := .fields #[.int lo t, .int hi u, .int 1 v] }).objs.size, [(s.heap.push { cls := .type "range", data := .fields #[.int lo t, .int hi u, .int 1 v] }).objs.size], _, _, H, rfl,
      I1.kept (t' := tk) fun b o e => Heap.get?_push_of_some _ e, turn_range _ lo (hi - lo).toNat, ?_, fun b hb => ?_, q⟩
    · show IsRangeIter _ _ (lo + ((0 : Nat) : Int) * 1) ((((hi - lo).toNat : Nat) : Int) - ((0 : Nat) : Int)) 1
      rw [e1, e2]
      exact Heap.get?_push_size _ rfl
    · have e : b = (s.heap.push { cls := .type "range", data := .fields #[.int lo t, .int hi u, .int 1 v] }).objs.size := by simpa using hb
      subst e
      exact I1.fpOk (Nat.le_refl _) (I1.hok.fresh (Nat.le_refl _))
  | false =>
    refine wpAny_pyIter_longrange (IsRange.new ..) z ?_
    refine ⟨(s.heap.push { cls := .type "range", data := .fields #[.int lo t, .int hi u, .int 1 v] }).objs.size, [(s.heap.push { cls := .type "range", data := .fields #[.int lo t, .int hi u, .int 1 v] }).objs.size], _, _, H, rfl,
      I1.kept (t' := tk) fun b o e => Heap.get?_push_of_some _ e, turn_long _ lo (hi - lo).toNat, ?_, fun b hb => ?_, q⟩
    · show IsLongIter _ _ (lo + ((0 : Nat) : Int) * 1) ((((hi - lo).toNat : Nat) : Int) - ((0 : Nat) : Int)) 1
      rw [e1, e2]
      exact Heap.get?_push_size _ rfl
    · have e : b = (s.heap.push { cls := .type "range", data := .fields #[.int lo t, .int hi u, .int 1 v] }).objs.size := by simpa using hb
      subst e
      exact I1.fpOk (Nat.le_refl _) (I1.hok.fresh (Nat.le_refl _))
def iRngL (ta : TA) : TI := fun σ H R => ta σ H fun vs H1 => ∃ i j : Int, vs = [.int i, .int j] ∧ R (Itr i (j - i).toNat) H1
theorem pi_rangeL {tg a b : Expr} {ta : TA} {p pos : Pos} (hg : Gl X "range") (hm : X.mg "range" = none) (ha : PA X [a, b] ta) (hs : starEach [a, b] X.env = [(false, eval a X.env), (false, eval b X.env)] := by rfl) (hs2 : starEach [b] X.env = [(false, eval b X.env)] := by rfl) :
    PI X tg (.Call (.Name "range" p) [a, b] [] pos) (iRngL ta) := by
  refine ⟨fun pins s σ H R I h => ?_⟩
  refine PyProof.Rows.Call_ (ld_blt I hg hm PyProof.Rows.boot_range (PyProof.Rows.callWith_type1 (thn (ha.run pos pins s σ H _ I h) fun us s1 ⟨vs, H1, I1, r1, q1⟩ => ?_) (by rw [hs, hs2]) (by rw [hs2]; rfl)))
  obtain ⟨i, j, e, q⟩ := q1
  subst e
  cases r1 with
  | cons r rr =>
    cases rr with
    | cons r' rr =>
      cases rr
      obtain ⟨t, rfl⟩ := r
      obtain ⟨t', rfl⟩ := r'
      exact call_range_2 (range_itL I1 q)
theorem sw_rng {tg : Expr} {x : Str} {p : Pos} {fz : Bool} (hx : x = "range") (hgl : Gl X x) (hm : X.mg x = none) (hga : (e :: es).all good = true) (hn : n = (e :: es).length) (ha : PA X (e :: es) (LA NM X.K W n g)) (h3 : es.length < 2) : PI X tg (.Call (.Name x p) (e :: es) [] pos) (LW NM X.K W fz fun ρ k x => g ρ (fun ds => rngW ds k) x) := by
  subst hx
  have hg2 := Bool.and_eq_true_iff.mp (show (good e && es.all good) = true from hga)
  have sz : sizeLine = 16777216 := sizeLine_eq
  cases es with
  | nil =>
    refine pi_imp (pi_range1 hgl hm ha (starEach_good hg2.1)) fun σ H Q ⟨F, ρ, G, kd, kx, r, q, h1, h2⟩ => ⟨F, ρ, G, _, kx, r, q, fun vs G1 H1 ds x1 r1 l1 q1 => ?_, h2⟩
    unfold rngW at q1
    split at q1
    · cases r1 with
      | cons a b =>
        cases a
        cases b
        obtain ⟨⟨b1, b2⟩, q1⟩ := q1
        exact ⟨_, rfl, b1, by omega, h1 _ G1 H1 _ x1 wlk_rng (by simp [rangeD]; omega) q1⟩
    · have := r1.len
      rw [l1, hn] at this
      simp at this
    · exact q1.elim
  | cons e2 es =>
    cases es with
    | cons _ _ => exact absurd h3 (by simp)
    | nil =>
    have hg3 := Bool.and_eq_true_iff.mp (show (good e2 && true) = true from hg2.2)
    have s1 : starEach [e2] X.env = [(false, eval e2 X.env)] := starEach_good hg3.1
    refine pi_imp (pi_rangeL hgl hm ha (by rw [starEach_good hg2.1, s1]) s1) fun σ H Q ⟨F, ρ, G, kd, kx, r, q, h1, h2⟩ => ⟨F, ρ, G, _, kx, r, q, fun vs G1 H1 ds x1 r1 l1 q1 => ?_, h2⟩
    unfold rngW at q1
    split at q1
    · have := r1.len
      rw [l1, hn] at this
      simp at this
    · cases r1 with
      | cons a b =>
        cases a
        cases b with
        | cons a b =>
          cases a
          cases b
          obtain ⟨b5, q1⟩ := q1
          exact ⟨_, _, rfl, h1 _ G1 H1 _ x1 wlk_rng (by simp [rangeD]; omega) q1⟩
    · exact q1.elim
theorem wlk_zip {G0 : Hp} {a b : Addr} {xs ys : List V} {ds es : List D} {rl : Hp → Hp → Prop} (g0 : ∀ G H, rl G H → Same G0 G) (hs : ∀ G H, Same G H → rl G H → SqL X.K H a xs) (ht : ∀ G H, Same G H → rl G H → SqL X.K H b ys) (r : Reps NM X.K G0 xs ds) (r2 : Reps NM X.K G0 ys es) :
    Wlk NM X.K (Itz X.K a b) rl (List.zipWith (fun u v => .tup [u, v]) ds es) where
  go := fun i G H s q hi => by
    rw [List.length_zipWith] at hi
    obtain ⟨v, h1, h2⟩ := r.get (List.getElem?_eq_getElem (show i < ds.length by omega))
    obtain ⟨u, h3, h4⟩ := r2.get (List.getElem?_eq_getElem (show i < es.length by omega))
    refine ⟨⟨xs, ys, v, u, hs G H s q, ht G H s q, h1, h3⟩, fun x H' ⟨T, y, z, e1, e2, e3, e4, e5⟩ => ?_⟩
    subst e1 e3
    cases h1.symm.trans (e4 xs (hs G _ s q))
    cases h3.symm.trans (e5 ys (ht G _ s q))
    have m := (g0 G _ q).trans (same_upd (o := .tup [v, u]) (s.free e2))
    exact ⟨upd G T (.tup [v, u]), .tup [ds[i], es[i]], .new s e2 _, by simp [List.getElem?_zipWith, show i < ds.length by omega, show i < es.length by omega], .tup (.of upd_same) (by show 2 ≤ sizeLine; rw [sizeLine_eq]; decide) (.cons (h2.mono m) (.cons (h4.mono m) .nil))⟩
  stop := fun G H s q => by
    refine ⟨xs, ys, hs G H s q, ht G H s q, ?_⟩
    have := r.len
    have := r2.len
    rw [List.length_zipWith]
    omega
theorem wlk_zipT {G0 : Hp} {a b : Addr} {xs ys : List V} {ds es : List D} {rl : Hp → Hp → Prop} (g0 : ∀ G H, rl G H → Same G0 G) (hs : ∀ G H, Same G H → rl G H → SqT X.K H a xs) (ht : ∀ G H, Same G H → rl G H → SqT X.K H b ys) (r : Reps NM X.K G0 xs ds) (r2 : Reps NM X.K G0 ys es) :
    Wlk NM X.K (RZ.ItzT X.K a b) rl (List.zipWith (fun u v => .tup [u, v]) ds es) where
  go := fun i G H s q hi => by
    rw [List.length_zipWith] at hi
    obtain ⟨v, h1, h2⟩ := r.get (List.getElem?_eq_getElem (show i < ds.length by omega))
    obtain ⟨u, h3, h4⟩ := r2.get (List.getElem?_eq_getElem (show i < es.length by omega))
    refine ⟨⟨xs, ys, v, u, hs G H s q, ht G H s q, h1, h3⟩, fun x H' ⟨T, y, z, e1, e2, e3, e4, e5⟩ => ?_⟩
    subst e1 e3
    cases h1.symm.trans (e4 xs (hs G _ s q))
    cases h3.symm.trans (e5 ys (ht G _ s q))
    have m := (g0 G _ q).trans (same_upd (o := .tup [v, u]) (s.free e2))
    exact ⟨upd G T (.tup [v, u]), .tup [ds[i], es[i]], .new s e2 _, by simp [List.getElem?_zipWith, show i < ds.length by omega, show i < es.length by omega], .tup (.of upd_same) (by show 2 ≤ sizeLine; rw [sizeLine_eq]; decide) (.cons (h2.mono m) (.cons (h4.mono m) .nil))⟩
  stop := fun G H s q => by
    refine ⟨xs, ys, hs G H s q, ht G H s q, ?_⟩
    have := r.len
    have := r2.len
    rw [List.length_zipWith]
    omega
theorem sw_zip {x : Str} {p tp : Pos} {e2 : Expr} {ts : List Expr} {kk : Nat} {fz : Bool} (hx : x = "zip") (hgl : Gl X x) (hm : X.mg x = none) (hg : good e = true) (hg2 : good e2 = true) (ha : PE X e (LE NM X.K W fa)) (hb : PE X e2 (LE NM X.K W fb)) :
    PI X (.Tuple ts kk tp) (.Call (.Name x p) [e, e2] [] pos) (LW NM X.K W fz fun ρ k x => fa ρ (fun d => fb ρ (fun e => zipW d e k) x) x) := by
  subst hx
  refine pi_imp (RZ.pi_zipA hgl hm (sa_cons hg ha (sa_cons hg2 hb sa_nil)) (starEach_good hg) (starAny (es := [e2]) (by simp [hg2]))) fun σ H Q ⟨F, ρ, G, kd, kx, r, q, h1, h2⟩ =>
    ⟨F, ρ, G, fun ds => ∃ d e, ds = [d, e] ∧ zipW d e kd, kx, r, ?_, fun vs G1 H1 ds x1 r1 l1 ⟨d, e, z, q1⟩ => ?_, h2⟩
  · have e : ∀ d e : D, (∃ d' e', [d, e] = [d', e'] ∧ zipW d' e' kd) = zipW d e kd := fun d e => propext ⟨fun ⟨_, _, z, w⟩ => by cases z; exact w, fun w => ⟨_, _, rfl, w⟩⟩
    simp only [e]
    exact q
  · subst z
    cases r1 with
    | cons a b =>
      cases b with
      | cons b c =>
        cases c
        cases d <;> first | (cases e <;> exact q1.elim) | skip
        · cases e <;> first | exact q1.elim | skip
          cases a with
          | tup a1 a2 a3 =>
            cases b with
            | tup b1 b2 b3 =>
              refine ⟨_, _, _, _, rfl, .inr ⟨sqT_mono x1.sub a1, sqT_mono x1.sub b1, h1 _ G1 H1 _ x1 (wlk_zipT (G0 := G1) (fun _ _ z => z.1) (fun G H s z => sqT_mono s (sqT_mono z.1 a1)) (fun G H s z => sqT_mono s (sqT_mono z.1 b1)) a3 b3) ?_ q1⟩⟩
              rw [List.length_zipWith, ← a3.len]
              omega
        · cases e <;> first | exact q1.elim | skip
          cases a with
          | lst a1 a2 a3 =>
            cases b with
            | lst b1 b2 b3 =>
              refine ⟨_, _, _, _, rfl, .inl ⟨.of (x1.sub _ _ a1), .of (x1.sub _ _ b1), h1 _ G1 H1 _ x1 (wlk_zip (G0 := G1) (fun _ _ z => z.1) (fun G H s z => .of (s _ _ (z.1 _ _ a1))) (fun G H s z => .of (s _ _ (z.1 _ _ b1))) a3 b3) ?_ q1⟩⟩
              rw [List.length_zipWith, ← a3.len]
              omega
end
end Q

/-! QJ: comprehensions; every expression of the small language. -/
namespace Q
open PySem PySem.Spec L2

section
variable {X : Cx} {NM : Nam} {B : List Str} {Φ : List Cal} {Γ : List (Str × D)} {AT : List (Nat × Nat)} {W : WX} {a b c e : Expr} {fa fb fc : Wk} {pos : Pos} {n : Nat} {g : Ak} {es : List Expr}
theorem R.clear {K : PySem.W.Frag} {F : Fr} {G H : Hp} {ρ : Env} {σ : L2.St} (r : R NM K F ρ G σ H) (i : Nat) : R NM K F (ρ.set i .un) G (σ.set i none) H where
  len := by rw [List.length_set, List.length_set]; exact r.len
  sub := r.sub
  gg := r.gg
  keep := r.keep
  md := r.md
  sep := r.sep
  sl := fun j s o h1 h2 => by
    by_cases hj : i = j
    · subst hj
      have hl : i < ρ.length := by
        have := (List.getElem?_eq_some_iff.mp h1).1
        rw [List.length_set] at this
        exact this
      rw [List.getElem?_set_self hl] at h1
      cases h1
      trivial
    · rw [List.getElem?_set_ne hj] at h1 h2
      exact r.sl j s o h1 h2
  dis := fun j k s t o u a hjk h1 h2 h3 h4 h5 h6 => by
    have no : ∀ {m : Nat} {s : Sl} {o : Option V}, i = m → (ρ.set i .un)[m]? = some s → ownAt s o a → False := fun {m s o} e q z => by
      subst e
      have hl : i < ρ.length := by
        have := (List.getElem?_eq_some_iff.mp q).1
        rw [List.length_set] at this
        exact this
      rw [List.getElem?_set_self hl] at q
      cases q
      exact z.2
    by_cases ej : i = j
    · exact no ej h1 h5
    · by_cases ek : i = k
      · exact no ek h2 h6
      · rw [List.getElem?_set_ne ej] at h1 h3
        rw [List.getElem?_set_ne ek] at h2 h4
        exact r.dis j k s t o u a hjk h1 h2 h3 h4 h5 h6
theorem R.wipe {K : PySem.W.Frag} {F : Fr} {G H : Hp} {ρ : Env} {σ : L2.St} (r : R NM K F ρ G σ H) : ∀ vs : List Nat, R NM K F (wipeR ρ vs) G (L2.wipe σ vs) H
  | [] => r
  | v :: vs => (R.wipe r vs).clear v
def LTs (NM : Nam) (K : PySem.W.Frag) (W : WX) (f : Tk) : TT := LT NM K W f
theorem pts_imp {ifs : List Expr} {t t' : TT} (h : PTs X ifs t) (i : ∀ σ H Q, t' σ H Q → t σ H Q) : PTs X ifs t' := ⟨fun pins s σ H Q I q => h.run pins s σ H Q I (i _ _ _ q)⟩
theorem sts_nil : PTs X [] (LT NM X.K W fun _ k _ => k true) := pts_imp pts_nil fun σ H Q ⟨F, ρ, G, kd, kx, r, q, h1, h2⟩ => h1 true G H (.refl r.sub) q
theorem sts_one {c : Expr} {t : Tk} (h : PT X c (LT NM X.K W t)) : PTs X [c] (LT NM X.K W t) := pts_one h
abbrev W0 : WX := fun _ _ _ _ => False
theorem foldGood {iter : Expr} {env : PySem.Env} (h : good iter = true) : ∀ x, foldedSetIterable iter env x = pure x := by
  intro x
  cases iter <;> first | rfl | cases h
theorem lf_tlc {vs : List Nat} {fi : Ak} {fg : Gk} {ft : Tk} {fe : Wk} {σ : L2.St} {H : Hp} {Q : VK}
    (h : LF NM X.K W (fun ρ k x => fi ρ (fun ds => mapW (fun d kk => fg d (wipeR ρ vs) fun ρ' => ft ρ' (fun b => if b = true then fe ρ' (fun y => kk (some y)) (fun _ => False) else kk none) fun _ => False) ds fun ys => k (.lst ys)) x) σ H Q) :
    tLc (LW NM X.K W false fi) (LG NM X.K vs fg) (LT NM X.K W0 ft) (LE NM X.K W0 fe) vs σ H Q := by
  obtain ⟨F, ρ, G, kd, kx, r, q, h1, h2⟩ := h
  refine ⟨F, ρ, G, _, kx, r, q, fun J G1 H1 ds x1 wl hl q1 D hD => ?_, h2⟩
  have gD : G1 D = none := x1.sub.free hD
  refine ⟨fun i m Hc => ∃ Gc acc ad, m = ds.length - i ∧ i ≤ ds.length ∧ Ext G1 H1 Gc Hc ∧ Hc D = some (.lst acc) ∧ Gc D = none ∧ Reps NM X.K Gc acc ad ∧ acc.length ≤ i ∧
    mapW (fun d kk => fg d (wipeR ρ vs) fun ρ' => ft ρ' (fun b => if b = true then fe ρ' (fun y => kk (some y)) (fun _ => False) else kk none) fun _ => False) (ds.drop i) fun ys => kd (.lst (ad ++ ys)),
    ⟨ds.length, G1, [], [], by omega, Nat.zero_le _, .own x1.sub hD _, upd_same, gD, .nil, Nat.le_refl _, q1⟩, fun i m Hc ⟨Gc, acc, ad, em, ei, xc, eD, eG, ra, la, q2⟩ => ?_⟩
  have rl : Same G1 Gc ∧ (false = false → Same H1 Hc) := ⟨xc.gg, fun _ => xc.hh⟩
  by_cases hi : i < ds.length
  · obtain ⟨j1, j2⟩ := wl.go i Gc Hc xc.sub rl hi
    have eg : ds.drop i = ds[i] :: ds.drop (i + 1) := List.drop_eq_getElem_cons hi
    rw [eg] at q2
    refine .inr ⟨j1, fun Hn => ∃ Gn accn adn, Ext G1 H1 Gn Hn ∧ Hn D = some (.lst accn) ∧ Gn D = none ∧ Reps NM X.K Gn accn adn ∧ accn.length ≤ i + 1 ∧
      mapW (fun d kk => fg d (wipeR ρ vs) fun ρ' => ft ρ' (fun b => if b = true then fe ρ' (fun y => kk (some y)) (fun _ => False) else kk none) fun _ => False) (ds.drop (i + 1)) fun ys => kd (.lst (adn ++ ys)), ?_, fun x H' hy => ?_⟩
    · rintro Hn ⟨Gn, accn, adn, a1, a2, a3, a4, a5, a6⟩
      exact ⟨ds.length - (i + 1), by omega, Gn, accn, adn, rfl, hi, a1, a2, a3, a4, a5, a6⟩
    · obtain ⟨G', d, x2, hd, rd⟩ := j2 x H' hy
      rw [List.getElem?_eq_getElem hi] at hd
      cases hd
      have r2 : R NM X.K F ρ G' σ H' := ((r.ext x1).ext xc).ext x2
      refine ⟨F, wipeR ρ vs, G', _, _, r2.wipe vs, rd, q2, fun σ2 ρ2 r3 df q3 => ⟨?_, F, ρ2, G', _, _, r3, q3, fun b G3 H3 x3 q4 => ?_, fun _ _ _ _ _ _ _ z => z⟩⟩
      · rw [df.wipe]
        apply List.ext_getElem?
        intro k
        by_cases hk : k ∈ vs
        · by_cases hl : k < σ.length
          · rw [wipe_in hk (by rw [wipe_length]; exact hl), wipe_in hk hl]
          · rw [List.getElem?_eq_none (by rw [wipe_length, wipe_length]; omega), List.getElem?_eq_none (by rw [wipe_length]; omega)]
        · rw [wipe_out hk]
      · have x4 := (xc.trans x2).trans x3
        have dD : H3 D = some (.lst acc) := (x2.trans x3).hh _ _ eD
        have dG : G3 D = none := (x2.trans x3).sep D (by rw [eD]; exact fun z => nomatch z) eG
        cases b with
        | false => exact iteF ⟨G3, acc, ad, x4, dD, dG, ra.mono ((x2.trans x3).gg), by omega, q4⟩
        | true =>
          refine iteT ⟨F, ρ2, G3, _, _, r3.ext x3, q4, fun y G5 H5 dy x5 r5 q5 => ?_, fun _ _ _ _ _ _ _ z => z⟩
          have x6 := x4.trans x5
          have fD : H5 D = some (.lst acc) := x5.hh _ _ dD
          have fG : G5 D = none := x5.sep D (by rw [dD]; exact fun z => nomatch z) dG
          refine ⟨acc, fD, by omega, G5, acc ++ [y], ad ++ [dy], ⟨fun b o z => ?_, x6.gg, fun b o z => ?_, x6.sep⟩, upd_same, fG, (ra.mono (((x2.trans x3).trans x5).gg)).app (.cons r5 .nil), by rw [List.length_append]; exact Nat.succ_le_succ la, ?_⟩
          · rw [upd_ne (ne_of_none z hD)]
            exact x6.hh b o z
          · rw [upd_ne (ne_of_none z fG)]
            exact x6.sub b o z
          · simp only [List.append_assoc, List.singleton_append]
            exact q5
  · have e : i = ds.length := by omega
    subst e
    rw [List.drop_length] at q2
    have q3 : kd (.lst (ad ++ [])) := q2
    rw [List.append_nil] at q3
    exact .inl ⟨wl.stop Gc Hc xc.sub rl, h1 D acc Gc Hc ad (x1.trans xc) eD eG (x1.hh.free hD) (by omega) ra q3⟩

theorem sf_comp (ok : Ok X NM B Φ Γ AT) {elt tg iter : Expr} {ifs : List Expr} {scope : Scope} {vs : List Nat} {fi : Ak} {fg : Gk} {ft : Tk} {fe : Wk} (hi : PI X tg iter (LW NM X.K W false fi)) (bk : BlkOk X.N X.env.scope scope (vs.map fun i => (X.N.getD i "", i)))
    (hg : ∀ (s : Shared) (H : Hp) (C : Addr) (cl : List (Str × Addr)) (fp : List Addr), PG (X.blk s H scope (compEnvC scope cl C X.env) fp) tg (LG NM X.K vs fg)) (ht : ∀ (s : Shared) (H : Hp) (C : Addr) (cl : List (Str × Addr)) (fp : List Addr), PTs (X.blk s H scope (compEnvC scope cl C X.env) fp) ifs (LT NM X.K W0 ft))
    (he : ∀ (s : Shared) (H : Hp) (C : Addr) (cl : List (Str × Addr)) (fp : List Addr), PE (X.blk s H scope (compEnvC scope cl C X.env) fp) elt (LE NM X.K W0 fe)) (hs : ∀ x, foldedSetIterable iter X.env x = pure x) :
    PE X (.ListComp elt [⟨tg, iter, ifs, 0⟩] scope pos) (LF NM X.K W fun ρ k x => fi ρ (fun ds => mapW (fun d kk => fg d (wipeR ρ vs) fun ρ' => ft ρ' (fun b => if b = true then fe ρ' (fun y => kk (some y)) (fun _ => False) else kk none) fun _ => False) ds fun ys => k (.lst ys)) x) := by
  have pe := pe_lc (pos := pos) ok.calm ok.nd hi bk hg ht he hs
  rw [show (vs.map fun i => (X.N.getD i "", i)).map (·.2) = vs by rw [List.map_map]; exact (List.map_congr_left fun _ _ => rfl).trans (List.map_id' vs)] at pe
  exact pe_imp pe fun σ H Q h => lf_tlc h
/-- name = [..], on one line -/
theorem ss_comp (ok : Ok X NM B Φ Γ AT) {i : Nat} {y : Str} {py spos : Pos} {elt tg iter : Expr} {ifs : List Expr} {scope : Scope} {vs : List Nat} {fi : Ak} {fg : Gk} {ft : Tk} {fe : Wk} (hy : X.N[i]? = some y) (hyl : X.env.scope.names.lookup y = some .local)
    (hsw : swapsWith (.ListComp elt [⟨tg, iter, ifs, 0⟩] scope pos) (some (.Name y py)) spos.line X.env = pure true) (hi : PI X tg iter (LW NM X.K W false fi)) (bk : BlkOk X.N X.env.scope scope (vs.map fun i => (X.N.getD i "", i)))
    (hg : ∀ (s : Shared) (H : Hp) (C : Addr) (cl : List (Str × Addr)) (fp : List Addr), PG (X.blk s H scope (compEnvC scope cl C X.env) fp) tg (LG NM X.K vs fg)) (ht : ∀ (s : Shared) (H : Hp) (C : Addr) (cl : List (Str × Addr)) (fp : List Addr), PTs (X.blk s H scope (compEnvC scope cl C X.env) fp) ifs (LT NM X.K W0 ft))
    (he : ∀ (s : Shared) (H : Hp) (C : Addr) (cl : List (Str × Addr)) (fp : List Addr), PE (X.blk s H scope (compEnvC scope cl C X.env) fp) elt (LE NM X.K W0 fe)) (hs : ∀ x, foldedSetIterable iter X.env x = pure x) :
    PS X (.Assign [.Name y py] (.ListComp elt [⟨tg, iter, ifs, 0⟩] scope pos) spos) (tAsg (LF NM X.K W fun ρ k x => fi ρ (fun ds => mapW (fun d kk => fg d (wipeR ρ vs) fun ρ' => ft ρ' (fun b => if b = true then fe ρ' (fun y => kk (some y)) (fun _ => False) else kk none) fun _ => False) ds fun ys => k (.lst ys)) x) (gName i)) := by
  have ps := ps_setLc (pos := pos) (py := py) (spos := spos) ok.calm ok.nd hy hyl hsw hi bk hg ht he hs
  rw [show (vs.map fun i => (X.N.getD i "", i)).map (·.2) = vs by rw [List.map_map]; exact (List.map_congr_left fun _ _ => rfl).trans (List.map_id' vs)] at ps
  exact ⟨fun pins s σ H D I h => ps.run pins s σ H D I (lf_tlc h)⟩
theorem toB {N : List Str} {i : E} (h : i.noB = true → PE X e (LE NM X.K W (wpE NM AT Φ Γ i))) (hc : chE NM X.N B Φ Γ i X.env.scope e = true) : PE X e (LB NM X.K W (wpE NM AT Φ Γ i)) := by
  cases i <;> first | exact le_lb (h rfl) | skip
  unfold chE at hc
  split at hc
  · rename_i x hx
    obtain ⟨p, rfl⟩ := asName_eq hx
    exact se_brw (varB_pv hc rfl rfl)
  · cases hc
theorem band {x y : Bool} (h : (x && y) = true) : x = true ∧ y = true := Bool.and_eq_true_iff.mp h
theorem freB_ok {sc : Scope} {x : Str} (h : freB B sc x = true) (hs : X.env.scope = sc) (ok : Ok X NM B Φ Γ AT) (hi : x ≠ "isqrt!") : Gl X x ∧ (x == ("__debug__" : Str)) = false ∧ X.mg x = none ∧ x ≠ "__name__" := by
  obtain ⟨h, h3⟩ := band h
  obtain ⟨h1, h2⟩ := band h
  obtain ⟨a, b⟩ := gloB_gl h1 hs
  refine ⟨a, b, ok.fre x (of_decide_eq_true h2) hi, fun z => ?_⟩
  subst z
  simp at h3
theorem bltN_ne : ∀ b : Blt, bltN b ≠ "isqrt!" := by
  intro b
  cases b <;> decide +kernel
theorem tyN_ok : ∀ {x : Str} {n : String}, tyN.lookup x = some n → bootBuiltins x = some (.type n) ∧ x ≠ "isqrt!" := by
  intro x n h
  have : ∀ p ∈ tyN, bootBuiltins p.1 = some (.type p.2) ∧ p.1 ≠ "isqrt!" := by decide +kernel
  have m : (x, n) ∈ tyN := PySem.mem_of_lookup h
  exact this _ m
end
end Q

/-! QK: every expression of the small language. -/
namespace Q
open PySem PySem.Spec L2

section
variable {NM : Nam} {B : List Str} {Φ : List Cal} {Γ : List (Str × D)} {AT : List (Nat × Nat)}
/-- the rule of one kind of expression -/
abbrev RE (NM : Nam) (B : List Str) (Φ : List Cal) (Γ : List (Str × D)) (AT : List (Nat × Nat)) (i : E) : Prop := ∀ (X : Cx) (W : WX) (e : Expr), Ok X NM B Φ Γ AT → Takes X W → chE NM X.N B Φ Γ i X.env.scope e = true → i.noB = true → PE X e (LE NM X.K W (wpE NM AT Φ Γ i))
abbrev REs (NM : Nam) (B : List Str) (Φ : List Cal) (Γ : List (Str × D)) (AT : List (Nat × Nat)) (is : List E) : Prop := ∀ (X : Cx) (W : WX) (es : List Expr), Ok X NM B Φ Γ AT → Takes X W → chEs NM X.N B Φ Γ is X.env.scope es = true → PA X es (LA NM X.K W is.length (wpEs NM AT Φ Γ is)) ∧ es.all good = true ∧ is.length = es.length
/-- for and, or: each by itself -/
abbrev RL (NM : Nam) (B : List Str) (Φ : List Cal) (Γ : List (Str × D)) (AT : List (Nat × Nat)) (is : List E) : Prop := ∀ (X : Cx) (W : WX) (es : List Expr) (pos : Pos), Ok X NM B Φ Γ AT → Takes X W → chEs NM X.N B Φ Γ is X.env.scope es = true → es ≠ [] → PE X (.BoolOp .And es pos) (LE NM X.K W (wpAnd NM AT Φ Γ is)) ∧ PE X (.BoolOp .Or es pos) (LE NM X.K W (wpOr NM AT Φ Γ is))
abbrev RO (NM : Nam) (B : List Str) (Φ : List Cal) (Γ : List (Str × D)) (AT : List (Nat × Nat)) (i : Option E) : Prop := ∀ (X : Cx) (W : WX) (e : Option Expr), Ok X NM B Φ Γ AT → Takes X W → chO NM X.N B Φ Γ i X.env.scope e = true → PO X e (LO NM X.K W (wpO NM AT Φ Γ i))
abbrev RT (NM : Nam) (B : List Str) (Φ : List Cal) (Γ : List (Str × D)) (AT : List (Nat × Nat)) (i : T) : Prop := ∀ (X : Cx) (W : WX) (e : Expr), Ok X NM B Φ Γ AT → Takes X W → chT NM X.N B Φ Γ i X.env.scope e = true → PT X e (LT NM X.K W (wpT NM AT Φ Γ i))
abbrev RTl (NM : Nam) (B : List Str) (Φ : List Cal) (Γ : List (Str × D)) (AT : List (Nat × Nat)) (is : List T) : Prop := ∀ (X : Cx) (W : WX) (es : List Expr) (pos : Pos), Ok X NM B Φ Γ AT → Takes X W → chTl NM X.N B Φ Γ is X.env.scope es = true → es ≠ [] → PW X (.BoolOp .And es pos) (LT NM X.K W (wpTand NM AT Φ Γ is)) ∧ PW X (.BoolOp .Or es pos) (LT NM X.K W (wpTor NM AT Φ Γ is))
abbrev RTs (NM : Nam) (B : List Str) (Φ : List Cal) (Γ : List (Str × D)) (AT : List (Nat × Nat)) (is : List T) : Prop := ∀ (X : Cx) (W : WX) (es : List Expr), Ok X NM B Φ Γ AT → Takes X W → chTs NM X.N B Φ Γ is X.env.scope es = true → PTs X es (LT NM X.K W (wpTs NM AT Φ Γ is))
abbrev RI (NM : Nam) (B : List Str) (Φ : List Cal) (Γ : List (Str × D)) (AT : List (Nat × Nat)) (i : It) : Prop := ∀ (X : Cx) (W : WX) (tg e : Expr), Ok X NM B Φ Γ AT → Takes X W → chI NM X.N B Φ Γ i X.env.scope tg e = true → PI X tg e (LW NM X.K W false (wpI NM AT Φ Γ i)) ∧ ((∀ a, i = .ex a → a.noB = true) → PI X tg e (LW NM X.K W true (wpI NM AT Φ Γ i)))

theorem es_ne {is : List E} {X : Cx} {es : List Expr} (h : chEs NM X.N B Φ Γ is X.env.scope es = true) (hn : es ≠ []) : is ≠ [] := by
  intro z
  subst z
  cases es with
  | nil => exact hn rfl
  | cons _ _ =>
    unfold chEs at h
    cases h
theorem re_var (i : Nat) : RE NM B Φ Γ AT (.var i) := fun X W e ok tk h _ => by
  unfold chE at h
  split at h
  · rename_i x hx
    obtain ⟨p, rfl⟩ := asName_eq hx
    exact se_var (varB_pv h rfl rfl)
  · cases h
theorem re_cst (d : D) : RE NM B Φ Γ AT (.cst d) := fun X W e ok tk h _ => by
  unfold chE at h
  split at h
  · rename_i c hc
    obtain ⟨j, p, rfl⟩ := asConst_eq hc
    cases d <;> cases c <;> first | (cases h; done) | skip
    · exact se_atom pe_non fun G => .non
    · cases (show _ = _ from eq_of_beq h)
      exact se_atom pe_bl fun G => .bl _
    · cases of_decide_eq_true h
      exact se_atom pe_int fun G => .int _
    · cases of_decide_eq_true h
      exact se_atom pe_str fun G => .str _
  · split at h
    · rename_i n x hx _
      obtain ⟨p, rfl⟩ := asName_eq hx
      obtain ⟨h1, h2⟩ := band h
      obtain ⟨b1, b2⟩ := tyN_ok (of_decide_eq_true h2)
      obtain ⟨g1, g2, g3, g4⟩ := freB_ok (X := X) h1 rfl ok b2
      exact se_atom (pe_bltn (v := .ty n) g1 g3 b1 rfl g4 g2) fun G => .ty n
    · cases h
theorem re_glo (j : Nat) : RE NM B Φ Γ AT (.glo j) := fun X W e ok tk h _ => by
  unfold chE at h
  split at h
  · rename_i x p hx hp
    obtain ⟨q, rfl⟩ := asName_eq hx
    obtain ⟨h1, h2⟩ := band h
    cases of_decide_eq_true h1
    obtain ⟨g1, g2⟩ := gloB_gl (X := X) h2 rfl
    obtain ⟨v, u, m1, m2, m3⟩ := ok.glo j p hp
    have := se_atom (W := W) (NM := NM) (pe_glob (pos := q) g1 m1 m2 g2) m3
    refine pe_imp this fun σ H Q ⟨F, ρ, G, kd, kx, r, w, h1, h2⟩ => ⟨F, ρ, G, kd, kx, r, ?_, h1, h2⟩
    simp only [wpE, hp] at w
    exact w
  · cases h
theorem re_bin (o : Bop) {a b : E} (ia : RE NM B Φ Γ AT a) (ib : RE NM B Φ Γ AT b) : RE NM B Φ Γ AT (.bin o a b) := fun X W e ok tk h _ => by
  unfold chE at h
  split at h
  · rename_i x p y hx
    obtain ⟨q, rfl⟩ := asBin_eq hx
    obtain ⟨h, h3⟩ := band h
    obtain ⟨h1, h2⟩ := band h
    exact se_bin h1 (toB (N := []) (ia X W _ ok tk h2) h2) (toB (N := []) (ib X W _ ok tk h3) h3)
  · cases h
theorem re_cmp (o : Cop) {a b : E} (ia : RE NM B Φ Γ AT a) (ib : RE NM B Φ Γ AT b) : RE NM B Φ Γ AT (.cmp o a b) := fun X W e ok tk h _ => by
  unfold chE at h
  split at h
  · rename_i x p y hx
    obtain ⟨q, rfl⟩ := asCmp_eq hx
    obtain ⟨h, h3⟩ := band h
    obtain ⟨h1, h2⟩ := band h
    exact se_cmp ok h1 (toB (N := []) (ia X W _ ok tk h2) h2) (toB (N := []) (ib X W _ ok tk h3) h3)
  · cases h
theorem re_chn (o o' : Cop) {a b c : E} (ia : RE NM B Φ Γ AT a) (ib : RE NM B Φ Γ AT b) (ic : RE NM B Φ Γ AT c) : RE NM B Φ Γ AT (.chn o o' a b c) := fun X W e ok tk h _ => by
  unfold chE at h
  split at h
  · rename_i x p p' y z hx
    obtain ⟨q, rfl⟩ := asCmp_eq hx
    obtain ⟨h, h5⟩ := band h
    obtain ⟨h, h4⟩ := band h
    obtain ⟨h, h3⟩ := band h
    obtain ⟨h1, h2⟩ := band h
    exact se_chn ok h1 h2 (toB (N := []) (ia X W _ ok tk h3) h3) (toB (N := []) (ib X W _ ok tk h4) h4) (toB (N := []) (ic X W _ ok tk h5) h5)
  · cases h
theorem re_ch3 (o o' o3 : Cop) {a b c d : E} (ia : RE NM B Φ Γ AT a) (ib : RE NM B Φ Γ AT b) (ic : RE NM B Φ Γ AT c) (id' : RE NM B Φ Γ AT d) : RE NM B Φ Γ AT (.ch3 o o' o3 a b c d) := fun X W e ok tk h _ => by
  unfold chE at h
  split at h
  · rename_i x p p' p3 y z t hx
    obtain ⟨q, rfl⟩ := asCmp_eq hx
    obtain ⟨h, h7⟩ := band h
    obtain ⟨h, h6⟩ := band h
    obtain ⟨h, h5⟩ := band h
    obtain ⟨h, h4⟩ := band h
    obtain ⟨h, h3⟩ := band h
    obtain ⟨h1, h2⟩ := band h
    exact se_ch3 ok h1 h2 h3 (toB (N := []) (ia X W _ ok tk h4) h4) (toB (N := []) (ib X W _ ok tk h5) h5) (toB (N := []) (ic X W _ ok tk h6) h6) (toB (N := []) (id' X W _ ok tk h7) h7)
  · cases h
theorem re_neg {a : E} (ia : RE NM B Φ Γ AT a) : RE NM B Φ Γ AT (.neg a) := fun X W e ok tk h _ => by
  unfold chE at h
  split at h
  · rename_i x hx
    obtain ⟨q, rfl⟩ := asUn_eq hx
    obtain ⟨h1, h2⟩ := band h
    exact se_neg (le_lb (ia X W _ ok tk h2 h1))
  · cases h
theorem re_not {a : E} (ia : RE NM B Φ Γ AT a) : RE NM B Φ Γ AT (.not a) := fun X W e ok tk h _ => by
  unfold chE at h
  split at h
  · rename_i x hx
    obtain ⟨q, rfl⟩ := asUn_eq hx
    obtain ⟨h1, h2⟩ := band h
    exact se_not (le_lb (ia X W _ ok tk h2 h1))
  · cases h
theorem re_and {as : List E} (ia : RL NM B Φ Γ AT as) (hn : as ≠ []) : RE NM B Φ Γ AT (.and as) := fun X W e ok tk h _ => by
  unfold chE at h
  split at h
  · rename_i xs hx
    obtain ⟨q, rfl⟩ := asBoo_eq hx
    refine (ia X W xs q ok tk h fun z => ?_).1
    subst z
    cases as with
    | nil => exact hn rfl
    | cons _ _ => unfold chEs at h; cases h
  · cases h
theorem re_or {as : List E} (ia : RL NM B Φ Γ AT as) (hn : as ≠ []) : RE NM B Φ Γ AT (.or as) := fun X W e ok tk h _ => by
  unfold chE at h
  split at h
  · rename_i xs hx
    obtain ⟨q, rfl⟩ := asBoo_eq hx
    refine (ia X W xs q ok tk h fun z => ?_).2
    subst z
    cases as with
    | nil => exact hn rfl
    | cons _ _ => unfold chEs at h; cases h
  · cases h
theorem re_ife {c : T} {a b : E} (ic : RT NM B Φ Γ AT c) (ia : RE NM B Φ Γ AT a) (ib : RE NM B Φ Γ AT b) : RE NM B Φ Γ AT (.ife c a b) := fun X W e ok tk h _ => by
  unfold chE at h
  split at h
  · rename_i x y z hx
    obtain ⟨q, rfl⟩ := asIfE_eq hx
    obtain ⟨h, h5⟩ := band h
    obtain ⟨h, h4⟩ := band h
    obtain ⟨h, h3⟩ := band h
    obtain ⟨h1, h2⟩ := band h
    exact se_ife (ic X W _ ok tk h3) (ia X W _ ok tk h4 h1) (ib X W _ ok tk h5 h2)
  · cases h
theorem re_call (j : Nat) {as : List E} (ia : REs NM B Φ Γ AT as) : RE NM B Φ Γ AT (.call j as) := fun X W e ok tk h _ => by
  unfold chE at h
  split at h
  · rename_i f x xs hx
    obtain ⟨q, rfl⟩ := asCall_eq hx
    obtain ⟨h1, h2⟩ := band h
    obtain ⟨a1, a2, a3⟩ := ia X W _ ok tk h2
    split at h1
    · rename_i n c hn hc
      obtain ⟨p, rfl⟩ := asName_eq hn
      obtain ⟨h1, h6⟩ := band h1
      obtain ⟨h1, h5⟩ := band h1
      obtain ⟨h3, h4⟩ := band h1
      obtain ⟨g1, g2⟩ := gloB_gl (X := X) h6 rfl
      have := se_call (pos := q) (p := p) tk (ok.dfs c (List.mem_of_getElem? hc) (of_decide_eq_true h4)) (of_decide_eq_true h3) g1 g2 a2 (by rw [a3]; exact of_decide_eq_true h5) a1
      refine pe_imp this fun σ H Q ⟨F, ρ, G, kd, kx, r, w, h1, h2⟩ => ⟨F, ρ, G, kd, kx, r, ?_, h1, h2⟩
      simp only [wpE, hc] at w
      exact w
    · cases h1
  · cases h
theorem re_make (j : Nat) {as : List E} (ia : REs NM B Φ Γ AT as) : RE NM B Φ Γ AT (.make j as) := fun X W e ok tk h _ => by
  unfold chE at h
  split at h
  · rename_i f x xs hx
    obtain ⟨q, rfl⟩ := asCall_eq hx
    obtain ⟨h1, h2⟩ := band h
    obtain ⟨a1, a2, a3⟩ := ia X W _ ok tk h2
    split at h1
    · rename_i n c hn hc
      obtain ⟨p, rfl⟩ := asName_eq hn
      obtain ⟨h1, h6⟩ := band h1
      obtain ⟨h1, h5⟩ := band h1
      obtain ⟨h1, h7⟩ := band h1
      obtain ⟨h3, h4⟩ := band h1
      obtain ⟨g1, g2⟩ := gloB_gl (X := X) h6 rfl
      have := se_make (pos := q) (p := p) tk (ok.cls c (List.mem_of_getElem? hc) (of_decide_eq_true h4)) (of_decide_eq_true h3) g1 g2 a2 (by rw [a3]; exact of_decide_eq_true h5) a1
      refine pe_imp this fun σ H Q ⟨F, ρ, G, kd, kx, r, w, h1, h2⟩ => ⟨F, ρ, G, kd, kx, r, ?_, h1, h2⟩
      simp only [wpE, hc] at w
      exact w
    · cases h1
  · cases h
theorem re_meth (j : Nat) {o : E} {as : List E} (io : RE NM B Φ Γ AT o) (ia : REs NM B Φ Γ AT as) : RE NM B Φ Γ AT (.meth j o as) := fun X W e ok tk h _ => by
  unfold chE at h
  split at h
  · rename_i y m ap x xs p hx
    cases asMet_eq hx
    obtain ⟨h, h2⟩ := band h
    obtain ⟨h, h3⟩ := band h
    obtain ⟨h, h4⟩ := band h
    obtain ⟨h, h5⟩ := band h
    obtain ⟨h, h6⟩ := band h
    obtain ⟨h, h7⟩ := band h
    obtain ⟨a1, a2, a3⟩ := ia X W _ ok tk h2
    split at h
    · rename_i c hc
      obtain ⟨h, k4⟩ := band h
      obtain ⟨h, k3⟩ := band h
      obtain ⟨k1, k2⟩ := band h
      cases of_decide_eq_true k1
      have := se_meth (pos := p) tk (ok.met c (List.mem_of_getElem? hc) (of_decide_eq_true k2) (of_decide_eq_true k3)) h6 h5 (of_decide_eq_true h4) rfl a2 (by rw [a3]; have := of_decide_eq_true k4; rw [List.length_cons]; omega) (io X W _ ok tk h3 h7) a1
      refine pe_imp this fun σ H Q ⟨F, ρ, G, kd, kx, r, w, h1, h2⟩ => ⟨F, ρ, G, kd, kx, r, ?_, h1, h2⟩
      simp only [wpE, hc] at w
      exact w
    · cases h
  · split at h
    · rename_i y m ap p hx
      cases asMet0_eq hx
      obtain ⟨ha, h3⟩ := band h
      obtain ⟨hb, h4⟩ := band ha
      obtain ⟨hc0, h5⟩ := band hb
      obtain ⟨hd, h6⟩ := band hc0
      obtain ⟨he, h7⟩ := band hd
      have has : as = [] := by
        cases as with
        | nil => rfl
        | cons a as => cases h4
      subst has
      split at he
      · rename_i c hc
        obtain ⟨hf, k4⟩ := band he
        obtain ⟨hg, k3⟩ := band hf
        obtain ⟨k1, k2⟩ := band hg
        cases of_decide_eq_true k1
        have := se_meth0 (pos := p) tk (ok.met c (List.mem_of_getElem? hc) (of_decide_eq_true k2) (of_decide_eq_true k3)) h6 h5 rfl (of_decide_eq_true k4) (io X W _ ok tk h3 h7)
        refine pe_imp this fun σ H Q ⟨F, ρ, G, kd, kx, r, w, h1, h2⟩ => ⟨F, ρ, G, kd, kx, r, ?_, h1, h2⟩
        simp only [wpE, wpEs, hc] at w
        exact w
      · cases he
    · cases h
theorem re_atr (inj : ∀ i j, NM.at_ i = NM.at_ j → i = j) (f : Nat) {a : E} (ia : RE NM B Φ Γ AT a) : RE NM B Φ Γ AT (.atr a f) := fun X W e ok tk h _ => by
  unfold chE at h
  split at h
  · rename_i x n hx
    obtain ⟨q, rfl⟩ := asAtr_eq hx
    obtain ⟨h, h3⟩ := band h
    obtain ⟨h1, h2⟩ := band h
    exact se_atr inj ok (of_decide_eq_true h1) h2 (toB (N := []) (ia X W _ ok tk h3) h3)
  · cases h
theorem re_idx {a b : E} (ia : RE NM B Φ Γ AT a) (ib : RE NM B Φ Γ AT b) : RE NM B Φ Γ AT (.idx a b) := fun X W e ok tk h _ => by
  unfold chE at h
  split at h
  · rename_i x y hx
    obtain ⟨q, rfl⟩ := asSub_eq hx
    obtain ⟨h, h4⟩ := band h
    obtain ⟨h, h3⟩ := band h
    obtain ⟨h1, h2⟩ := band h
    exact se_idx h1 (toB (N := []) (ia X W _ ok tk h3) h3) (le_lb (ib X W _ ok tk h4 h2))
  · cases h
theorem rf_slc {a : E} {lo hi : Option E} (ia : RE NM B Φ Γ AT a) (il : RO NM B Φ Γ AT lo) (ih : RO NM B Φ Γ AT hi) : ∀ (X : Cx) (W : WX) (e : Expr), Ok X NM B Φ Γ AT → Takes X W → chE NM X.N B Φ Γ (.slc a lo hi) X.env.scope e = true → PE X e (LF NM X.K W (wpE NM AT Φ Γ (.slc a lo hi))) := fun X W e ok tk h => by
  unfold chE at h
  split at h
  · rename_i x y hx
    obtain ⟨q, rfl⟩ := asSub_eq hx
    split at h
    · rename_i l u hy
      obtain ⟨q2, rfl⟩ := asSlc_eq hy
      obtain ⟨h, h3⟩ := band h
      obtain ⟨h1, h2⟩ := band h
      exact sf_slc (toB (N := []) (ia X W _ ok tk h1) h1) (il X W _ ok tk h2) (ih X W _ ok tk h3)
    · cases h
  · cases h
theorem re_tup {as : List E} (ia : REs NM B Φ Γ AT as) : RE NM B Φ Γ AT (.tup as) := fun X W e ok tk h _ => by
  unfold chE at h
  split at h
  · rename_i xs hx
    obtain ⟨k, q, rfl⟩ := asTup_eq hx
    exact se_tup (ia X W _ ok tk h).1
  · cases h
theorem rf_lst {as : List E} (ia : REs NM B Φ Γ AT as) : ∀ (X : Cx) (W : WX) (e : Expr), Ok X NM B Φ Γ AT → Takes X W → chE NM X.N B Φ Γ (.lst as) X.env.scope e = true → PE X e (LF NM X.K W (wpE NM AT Φ Γ (.lst as))) := fun X W e ok tk h => by
  unfold chE at h
  split at h
  · rename_i xs hx
    obtain ⟨q, rfl⟩ := asLst_eq hx
    exact sf_lst (ia X W _ ok tk h).1
  · cases h
theorem rf_comp {a : E} {t : Tg} {it : It} {c : List T} (ia : RE NM B Φ Γ AT a) (ii : RI NM B Φ Γ AT it) (ic : RTs NM B Φ Γ AT c) : ∀ (X : Cx) (W : WX) (e : Expr), Ok X NM B Φ Γ AT → Takes X W → chE NM X.N B Φ Γ (.comp a t it c) X.env.scope e = true → PE X e (LF NM X.K W (wpE NM AT Φ Γ (.comp a t it c))) := fun X W e ok tk h => by
  unfold chE at h
  split at h
  · rename_i x y z w s hx
    obtain ⟨q, rfl⟩ := asComp_eq hx
    obtain ⟨h, h7⟩ := band h
    obtain ⟨h, h6⟩ := band h
    obtain ⟨h, h5⟩ := band h
    obtain ⟨h, h4⟩ := band h
    obtain ⟨h, h3⟩ := band h
    obtain ⟨h1, h2⟩ := band h
    refine sf_comp ok (ii X W y z ok tk h3).1 (blkOk_by h1) (fun s1 H1 C cl fp => sg (ok.blk _ _ _ _ _) tgOk_blk t y h4) (fun s1 H1 C cl fp => ic _ W0 w (ok.blk _ _ _ _ _) takes0 h5) (fun s1 H1 C cl fp => ia _ W0 x (ok.blk _ _ _ _ _) takes0 h7 h6) ?_
    exact foldGood h2
  · cases h

theorem re_blt (b : Blt) {as : List E} (ia : REs NM B Φ Γ AT as) (i1 : ∀ a, as = [a] → RE NM B Φ Γ AT a) : RE NM B Φ Γ AT (.blt b as) := fun X W e ok tk h _ => by
  unfold chE at h
  split at h
  · rename_i f x xs hx
    obtain ⟨q, rfl⟩ := asCall_eq hx
    obtain ⟨h, h3⟩ := band h
    obtain ⟨h1, h2⟩ := band h
    split at h1
    · rename_i n hn
      obtain ⟨p, rfl⟩ := asName_eq hn
      obtain ⟨h4, h5⟩ := band h1
      have en := of_decide_eq_true h4
      subst en
      have key : Gl X (bltN b) ∧ (bltN b == ("__debug__" : Str)) = false ∧ ((X.mg (bltN b) = none ∧ bootBuiltins (bltN b) = some (bltV b) ∧ bltN b ≠ "__name__") ∨ (b = .isqrt ∧ X.mg (bltN b) = some (.builtin "math.isqrt"))) := by
        by_cases hb : b = .isqrt
        · subst hb
          obtain ⟨k1, k2⟩ := band h5
          obtain ⟨g1, g2⟩ := gloB_gl (X := X) k1 rfl
          exact ⟨g1, g2, .inr ⟨rfl, ok.isq (of_decide_eq_true k2)⟩⟩
        · have k1 : freB B X.env.scope (bltN b) = true := by
            cases b <;> first | exact h5 | exact absurd rfl hb
          obtain ⟨g1, g2, g3, g4⟩ := freB_ok (X := X) k1 rfl ok (bltN_ne b)
          exact ⟨g1, g2, .inl ⟨g3, bltB_eq b hb, g4⟩⟩
      obtain ⟨g1, g2, g3⟩ := key
      split at h3
      · rename_i a _
        have := se_blt1 (pos := q) (p := p) ok g1 g2 h2 g3 (toB (N := []) (i1 a rfl X W _ ok tk h3) h3)
        refine pe_imp this fun σ H Q ⟨F, ρ, G, kd, kx, r, w, h1, h2⟩ => ⟨F, ρ, G, kd, kx, r, ?_, h1, h2⟩
        simp only [wpE, wpEs] at w
        exact w
      · obtain ⟨a1, a2, a3⟩ := ia X W _ ok tk h3
        exact se_blt (pos := q) (p := p) ok g1 g2 a2 g3 a1
    · cases h1
  · cases h
theorem rt_val {a : E} (ia : RE NM B Φ Γ AT a) : RT NM B Φ Γ AT (.val a) := fun X W e ok tk h => by
  unfold chT at h
  obtain ⟨h1, h2⟩ := band h
  exact st_val h1 (toB (N := []) (ia X W _ ok tk h2) h2)
theorem rt_cmp (o : Cop) {a b : E} (ia : RE NM B Φ Γ AT a) (ib : RE NM B Φ Γ AT b) : RT NM B Φ Γ AT (.cmp o a b) := fun X W e ok tk h => by
  unfold chT at h
  split at h
  · rename_i x p y hx
    obtain ⟨q, rfl⟩ := asCmp_eq hx
    obtain ⟨h, h3⟩ := band h
    obtain ⟨h1, h2⟩ := band h
    exact st_cmp ok h1 (toB (N := []) (ia X W _ ok tk h2) h2) (toB (N := []) (ib X W _ ok tk h3) h3)
  · cases h
theorem rt_chn (o o' : Cop) {a b c : E} (ia : RE NM B Φ Γ AT a) (ib : RE NM B Φ Γ AT b) (ic : RE NM B Φ Γ AT c) : RT NM B Φ Γ AT (.chn o o' a b c) := fun X W e ok tk h => by
  unfold chT at h
  split at h
  · rename_i x p p' y z hx
    obtain ⟨q, rfl⟩ := asCmp_eq hx
    obtain ⟨h, h5⟩ := band h
    obtain ⟨h, h4⟩ := band h
    obtain ⟨h, h3⟩ := band h
    obtain ⟨h1, h2⟩ := band h
    exact st_chn ok h1 h2 (toB (N := []) (ia X W _ ok tk h3) h3) (toB (N := []) (ib X W _ ok tk h4) h4) (toB (N := []) (ic X W _ ok tk h5) h5)
  · cases h
theorem rt_ch3 (o o' o3 : Cop) {a b c d : E} (ia : RE NM B Φ Γ AT a) (ib : RE NM B Φ Γ AT b) (ic : RE NM B Φ Γ AT c) (id' : RE NM B Φ Γ AT d) : RT NM B Φ Γ AT (.ch3 o o' o3 a b c d) := fun X W e ok tk h => by
  unfold chT at h
  split at h
  · rename_i x p p' p3 y z t hx
    obtain ⟨q, rfl⟩ := asCmp_eq hx
    obtain ⟨h, h7⟩ := band h
    obtain ⟨h, h6⟩ := band h
    obtain ⟨h, h5⟩ := band h
    obtain ⟨h, h4⟩ := band h
    obtain ⟨h, h3⟩ := band h
    obtain ⟨h1, h2⟩ := band h
    exact st_ch3 ok h1 h2 h3 (toB (N := []) (ia X W _ ok tk h4) h4) (toB (N := []) (ib X W _ ok tk h5) h5) (toB (N := []) (ic X W _ ok tk h6) h6) (toB (N := []) (id' X W _ ok tk h7) h7)
  · cases h
theorem rt_not {t : T} (it : RT NM B Φ Γ AT t) : RT NM B Φ Γ AT (.not t) := fun X W e ok tk h => by
  unfold chT at h
  split at h
  · rename_i x hx
    obtain ⟨q, rfl⟩ := asUn_eq hx
    exact st_not (it X W _ ok tk h)
  · cases h
theorem rt_and {ts : List T} (it : RTl NM B Φ Γ AT ts) (hn : ts ≠ []) : RT NM B Φ Γ AT (.and ts) := fun X W e ok tk h => by
  unfold chT at h
  split at h
  · rename_i xs hx
    obtain ⟨q, rfl⟩ := asBoo_eq hx
    refine (it X W xs q ok tk h fun z => ?_).1.pt
    subst z
    cases ts with
    | nil => exact hn rfl
    | cons _ _ => unfold chTl at h; cases h
  · cases h
theorem rt_or {ts : List T} (it : RTl NM B Φ Γ AT ts) (hn : ts ≠ []) : RT NM B Φ Γ AT (.or ts) := fun X W e ok tk h => by
  unfold chT at h
  split at h
  · rename_i xs hx
    obtain ⟨q, rfl⟩ := asBoo_eq hx
    refine (it X W xs q ok tk h fun z => ?_).2.pt
    subst z
    cases ts with
    | nil => exact hn rfl
    | cons _ _ => unfold chTl at h; cases h
  · cases h
theorem ri_ex {a : E} (ia : RE NM B Φ Γ AT a) : RI NM B Φ Γ AT (.ex a) := fun X W tg e ok tk h => by
  unfold chI at h
  exact ⟨sw_exB (toB (N := []) (ia X W _ ok tk h) h), fun hb => sw_ex (ia X W _ ok tk h (hb a rfl))⟩
theorem ri_rng {as : List E} (ia : REs NM B Φ Γ AT as) : RI NM B Φ Γ AT (.rng as) := fun X W tg e ok tk h => by
  unfold chI at h
  split at h
  · rename_i f x xs hx
    obtain ⟨q, rfl⟩ := asCall_eq hx
    obtain ⟨h, h2⟩ := band h
    obtain ⟨h1, h4⟩ := band h
    obtain ⟨a1, a2, a3⟩ := ia X W _ ok tk h2
    split at h1
    · rename_i n hn
      obtain ⟨p, rfl⟩ := asName_eq hn
      obtain ⟨h1, h3⟩ := band h1
      have en := of_decide_eq_true h1
      subst en
      obtain ⟨g1, g2, g3, g4⟩ := freB_ok (X := X) h3 rfl ok (by decide +kernel)
      exact ⟨sw_rng rfl g1 g3 a2 a3 a1 (of_decide_eq_true h4), fun _ => sw_rng rfl g1 g3 a2 a3 a1 (of_decide_eq_true h4)⟩
    · cases h1
  · cases h
theorem ri_zip {a b : E} (ia : RE NM B Φ Γ AT a) (ib : RE NM B Φ Γ AT b) : RI NM B Φ Γ AT (.zip a b) := fun X W tg e ok tk h => by
  unfold chI at h
  split at h
  · rename_i f x y hx
    obtain ⟨q, rfl⟩ := asCall_eq hx
    obtain ⟨h, h8⟩ := band h
    obtain ⟨h, h7⟩ := band h
    obtain ⟨h, h6⟩ := band h
    obtain ⟨h, h5⟩ := band h
    obtain ⟨h, h4⟩ := band h
    obtain ⟨h, h3⟩ := band h
    obtain ⟨h1, h2⟩ := band h
    split at h1
    · rename_i n hn
      obtain ⟨p, rfl⟩ := asName_eq hn
      obtain ⟨k1, k2⟩ := band h1
      have en := of_decide_eq_true k1
      subst en
      obtain ⟨g1, g2, g3, g4⟩ := freB_ok (X := X) k2 rfl ok (by decide +kernel)
      cases ht : asTup tg with
      | none => rw [ht] at h2; cases h2
      | some ts =>
        obtain ⟨kk, tp, rfl⟩ := asTup_eq ht
        exact ⟨sw_zip rfl g1 g3 h3 h4 (ia X W _ ok tk h7 h5) (ib X W _ ok tk h8 h6), fun _ => sw_zip rfl g1 g3 h3 h4 (ia X W _ ok tk h7 h5) (ib X W _ ok tk h8 h6)⟩
    · cases h1
  · cases h
variable (inj : ∀ i j, NM.at_ i = NM.at_ j → i = j)
include inj
mutual
theorem snE : ∀ i : E, RE NM B Φ Γ AT i
  | .var i => re_var i
  | .brw _ => fun _ _ _ _ _ _ h => by cases h
  | .cst d => re_cst d
  | .glo j => re_glo j
  | .bin o a b => re_bin o (snE a) (snE b)
  | .neg a => re_neg (snE a)
  | .not a => re_not (snE a)
  | .and [] => fun X W e ok tk h _ => by
    unfold chE at h
    split at h
    · rename_i xs hx
      cases xs with
      | nil => obtain ⟨q, rfl⟩ := asBoo_eq hx; exact ⟨fun pins s σ H Q I ⟨F, ρ, G, kd, kx, r, w, _⟩ => by simp only [wpE, wpAnd] at w⟩
      | cons _ _ => unfold chEs at h; cases h
    · cases h
  | .and (a :: as) => re_and (snL (a :: as)) (by simp)
  | .or [] => fun X W e ok tk h _ => by
    unfold chE at h
    split at h
    · rename_i xs hx
      cases xs with
      | nil => obtain ⟨q, rfl⟩ := asBoo_eq hx; exact ⟨fun pins s σ H Q I ⟨F, ρ, G, kd, kx, r, w, _⟩ => by simp only [wpE, wpOr] at w⟩
      | cons _ _ => unfold chEs at h; cases h
    · cases h
  | .or (a :: as) => re_or (snL (a :: as)) (by simp)
  | .cmp o a b => re_cmp o (snE a) (snE b)
  | .chn o p a b c => re_chn o p (snE a) (snE b) (snE c)
  | .ch3 o p q a b c d => re_ch3 o p q (snE a) (snE b) (snE c) (snE d)
  | .ife c a b => re_ife (snT c) (snE a) (snE b)
  | .call j as => re_call j (snEs as)
  | .make j as => re_make j (snEs as)
  | .meth j o as => re_meth j (snE o) (snEs as)
  | .blt b [] => re_blt b (snEs []) (fun a z => by cases z)
  | .blt b [a] => re_blt b (snEs [a]) (fun a' z => by cases z; exact snE a)
  | .blt b (a :: c :: as) => re_blt b (snEs (a :: c :: as)) (fun a z => by cases z)
  | .atr a f => re_atr inj f (snE a)
  | .idx a b => re_idx (snE a) (snE b)
  | .slc a lo hi => fun X W e ok tk h _ => lf_le (rf_slc (snE a) (snO lo) (snO hi) X W e ok tk h)
  | .tup as => re_tup (snEs as)
  | .lst as => fun X W e ok tk h _ => lf_le (rf_lst (snEs as) X W e ok tk h)
  | .comp a t it c => fun X W e ok tk h _ => lf_le (rf_comp (snE a) (snI it) (snTs c) X W e ok tk h)
theorem snEs : ∀ is : List E, REs NM B Φ Γ AT is
  | [] => fun X W es ok tk h => by
    cases es with
    | nil => exact ⟨sa_nil, rfl, rfl⟩
    | cons _ _ => unfold chEs at h; cases h
  | a :: as => fun X W es ok tk h => by
    cases es with
    | nil => unfold chEs at h; cases h
    | cons e es =>
      unfold chEs at h
      obtain ⟨h, h4⟩ := band h
      obtain ⟨h, h3⟩ := band h
      obtain ⟨h1, h2⟩ := band h
      obtain ⟨a1, a2, a3⟩ := snEs as X W es ok tk h4
      exact ⟨sa_cons h1 (snE a X W e ok tk h3 h2) a1, by rw [List.all_cons, h1, a2]; rfl, congrArg Nat.succ a3⟩
theorem snL : ∀ is : List E, RL NM B Φ Γ AT is
  | [] => fun X W es pos ok tk h hn => by
    cases es with
    | nil => exact absurd rfl hn
    | cons _ _ => unfold chEs at h; cases h
  | [a] => fun X W es pos ok tk h hn => by
    cases es with
    | nil => exact absurd rfl hn
    | cons e es =>
      unfold chEs at h
      obtain ⟨h, h4⟩ := band h
      obtain ⟨h, h3⟩ := band h
      obtain ⟨h1, h2⟩ := band h
      cases es with
      | nil => exact ⟨se_one (snE a X W e ok tk h3 h2), se_one (snE a X W e ok tk h3 h2)⟩
      | cons _ _ => unfold chEs at h4; cases h4
  | a :: c :: as => fun X W es pos ok tk h hn => by
    cases es with
    | nil => exact absurd rfl hn
    | cons e es =>
      unfold chEs at h
      obtain ⟨h, h4⟩ := band h
      obtain ⟨h, h3⟩ := band h
      obtain ⟨h1, h2⟩ := band h
      cases es with
      | nil => unfold chEs at h4; cases h4
      | cons e2 es =>
        obtain ⟨b1, b2⟩ := snL (c :: as) X W (e2 :: es) pos ok tk h4 (by simp)
        exact ⟨se_and (snE a X W e ok tk h3 h2) b1, se_or (snE a X W e ok tk h3 h2) b2⟩
theorem snO : ∀ i : Option E, RO NM B Φ Γ AT i
  | none => fun X W e ok tk h => by
    cases e with
    | none => exact so_none
    | some _ => unfold chO at h; cases h
  | some a => fun X W e ok tk h => by
    cases e with
    | none => unfold chO at h; cases h
    | some e =>
      unfold chO at h
      obtain ⟨h1, h2⟩ := band h
      exact so_some (snE a X W e ok tk h2 h1)
theorem snT : ∀ i : T, RT NM B Φ Γ AT i
  | .val a => rt_val (snE a)
  | .cmp o a b => rt_cmp o (snE a) (snE b)
  | .chn o p a b c => rt_chn o p (snE a) (snE b) (snE c)
  | .ch3 o p q a b c d => rt_ch3 o p q (snE a) (snE b) (snE c) (snE d)
  | .not t => rt_not (snT t)
  | .and [] => fun X W e ok tk h => by
    unfold chT at h
    split at h
    · rename_i xs hx
      cases xs with
      | nil => obtain ⟨q, rfl⟩ := asBoo_eq hx; exact ⟨fun pins s σ H Q I ⟨F, ρ, G, kd, kx, r, w, _⟩ => by simp only [wpT, wpTand] at w⟩
      | cons _ _ => unfold chTl at h; cases h
    · cases h
  | .and (t :: ts) => rt_and (snTl (t :: ts)) (by simp)
  | .or [] => fun X W e ok tk h => by
    unfold chT at h
    split at h
    · rename_i xs hx
      cases xs with
      | nil => obtain ⟨q, rfl⟩ := asBoo_eq hx; exact ⟨fun pins s σ H Q I ⟨F, ρ, G, kd, kx, r, w, _⟩ => by simp only [wpT, wpTor] at w⟩
      | cons _ _ => unfold chTl at h; cases h
    · cases h
  | .or (t :: ts) => rt_or (snTl (t :: ts)) (by simp)
theorem snTl : ∀ is : List T, RTl NM B Φ Γ AT is
  | [] => fun X W es pos ok tk h hn => by
    cases es with
    | nil => exact absurd rfl hn
    | cons _ _ => unfold chTl at h; cases h
  | [a] => fun X W es pos ok tk h hn => by
    cases es with
    | nil => exact absurd rfl hn
    | cons e es =>
      unfold chTl at h
      obtain ⟨h1, h2⟩ := band h
      cases es with
      | nil => exact ⟨st_and1 (snT a X W e ok tk h1), st_or1 (snT a X W e ok tk h1)⟩
      | cons _ _ => unfold chTl at h2; cases h2
  | a :: c :: as => fun X W es pos ok tk h hn => by
    cases es with
    | nil => exact absurd rfl hn
    | cons e es =>
      unfold chTl at h
      obtain ⟨h1, h2⟩ := band h
      cases es with
      | nil => unfold chTl at h2; cases h2
      | cons e2 es =>
        obtain ⟨b1, b2⟩ := snTl (c :: as) X W (e2 :: es) pos ok tk h2 (by simp)
        exact ⟨st_and (snT a X W e ok tk h1) b1, st_or (snT a X W e ok tk h1) b2⟩
theorem snTs : ∀ is : List T, RTs NM B Φ Γ AT is
  | [] => fun X W es ok tk h => by
    cases es with
    | nil => exact sts_nil
    | cons _ _ => unfold chTs at h; cases h
  | [a] => fun X W es ok tk h => by
    cases es with
    | nil => unfold chTs at h; cases h
    | cons e es =>
      cases es with
      | nil => exact sts_one (snT a X W e ok tk (by unfold chTs at h; exact h))
      | cons _ _ => unfold chTs at h; cases h
  | _ :: _ :: _ => fun X W es ok tk h => by
    unfold chTs at h
    cases h
theorem snI : ∀ i : It, RI NM B Φ Γ AT i
  | .ex a => ri_ex (snE a)
  | .rng as => ri_rng (snEs as)
  | .zip a b => ri_zip (snE a) (snE b)
end
end
end Q

/-! QL: statements' rules. -/
namespace Q
open PySem PySem.Spec L2

section
variable {NM : Nam} {K : PySem.W.Frag} {F : Fr} {G H G' H' : Hp} {ρ : Env} {σ : L2.St}
theorem SlOk.own_ne {s : Sl} {o : Option V} (h : SlOk NM K F G H s o) {a : Addr} (z : ownAt s o a) : H a ≠ none ∧ G a = none := by
  cases s with
  | un => exact z.2.elim
  | val d => exact z.2.elim
  | own ds =>
    obtain ⟨l, vs, h1, h2, h3, _⟩ := h
    cases (show some (V.ref l) = some (V.ref a) from h1.symm.trans z.1)
    exact ⟨by rw [h2]; exact fun q => (nomatch q), h3⟩
  | obj c ks ds =>
    obtain ⟨x, dx, xs, h1, h2, h3, h4, _⟩ := h
    cases (show some (V.ref x) = some (V.ref a) from h1.symm.trans z.1)
    exact ⟨by rw [h2]; exact fun q => (nomatch q), h4⟩
theorem set_same {α : Type} {l : List α} {i : Nat} {a b c : α} (h : l[i]? = some a) (e : (l.set i b)[i]? = some c) : c = b := by
  have hl := (List.getElem?_eq_some_iff.mp h).1
  rw [List.getElem?_set_self hl] at e
  exact (Option.some.inj e).symm
/-- the list of slot i is frozen -/
theorem R.freeze (r : R NM K F ρ G σ H) {i : Nat} {ds : List D} (h : ρ[i]? = some (.own ds)) : ∃ G', R NM K F (ρ.set i (.val (.lst ds))) G' σ H ∧ Same G G' := by
  have hi : i < σ.length := by
    rw [← r.len]
    exact (List.getElem?_eq_some_iff.mp h).1
  have ho : σ[i]? = some σ[i] := List.getElem?_eq_getElem hi
  obtain ⟨l, vs, h1, h2, h3, h4, h5, h6⟩ := r.sl i _ _ h ho
  have gg := same_upd (o := .lst vs) h3
  refine ⟨upd G l (.lst vs), ⟨by rw [List.length_set]; exact r.len, fun b o z => ?_, r.gg.trans gg, r.keep, r.md, fun b z1 z2 => ?_, fun j s o z1 z2 => ?_, fun j k s t o u a hjk z1 z2 z3 z4 z5 z6 => ?_⟩, gg⟩
  · by_cases hb : b = l
    · subst hb
      rw [upd_same] at z
      rw [← z]
      exact h2
    · rw [upd_ne hb] at z
      exact r.sub b o z
  · rw [upd_ne (fun e => z1 (by rw [e]; exact h4))]
    exact r.sep b z1 z2
  · by_cases hj : i = j
    · subst hj
      cases set_same h z1
      rw [ho] at z2
      cases z2
      exact ⟨.ref l, h1, .lst upd_same h5 (h6.mono gg)⟩
    · rw [List.getElem?_set_ne hj] at z1
      have q := r.sl j s o z1 z2
      cases s with
      | un => trivial
      | val d =>
        obtain ⟨v, q1, q2⟩ := q
        exact ⟨v, q1, q2.mono gg⟩
      | own es =>
        obtain ⟨l2, us, q1, q2, q3, q4, q5, q6⟩ := q
        refine ⟨l2, us, q1, q2, ?_, q4, q5, q6.mono gg⟩
        rw [upd_ne (fun e => r.dis i j _ _ _ _ l hj h z1 ho z2 ⟨h1, trivial⟩ ⟨by rw [← e]; exact q1, trivial⟩)]
        exact q3
      | obj c ks es =>
        obtain ⟨x, dx, xs, q1, q2, q3, q4, q5, q6⟩ := q
        refine ⟨x, dx, xs, q1, q2, q3, ?_, q5, q6.mono gg⟩
        rw [upd_ne (fun e => r.dis i j _ _ _ _ l hj h z1 ho z2 ⟨h1, trivial⟩ ⟨by rw [← e]; exact q1, trivial⟩)]
        exact q4
  · by_cases hj : i = j
    · subst hj
      cases set_same h z1
      exact z5.2
    · by_cases hk : i = k
      · subst hk
        cases set_same h z2
        exact z6.2
      · rw [List.getElem?_set_ne hj] at z1
        rw [List.getElem?_set_ne hk] at z2
        exact r.dis j k s t o u a hjk z1 z2 z3 z4 z5 z6
/-- slot i gets a new list -/
theorem R.own (r : R NM K F ρ G σ H) (x : Ext G H G' H') {i : Nat} {l : Addr} {vs : List V} {ds : List D} (h0 : H l = none) (h1 : H' l = some (.lst vs)) (h2 : G' l = none) (h3 : vs.length ≤ sizeLine) (h4 : Reps NM K G' vs ds) :
    R NM K F (ρ.set i (.own ds)) G' (σ.set i (some (.ref l))) H' := by
  have r' := r.ext x
  have no : ∀ (j : Nat) s o, i ≠ j → ρ[j]? = some s → σ[j]? = some o → ¬ ownAt s o l := fun j s o hj z1 z2 z3 => ((r.sl j s o z1 z2).own_ne z3).1 h0
  have isO : ∀ {s : Sl} {o : Option V} {a : Addr}, (ρ.set i (.own ds))[i]? = some s → (σ.set i (some (.ref l)))[i]? = some o → ownAt s o a → a = l := fun {s o a} z1 z2 z3 => by
    have hl : i < (ρ.set i (Sl.own ds)).length := (List.getElem?_eq_some_iff.mp z1).1
    rw [List.length_set] at hl
    rw [List.getElem?_set_self (by rw [← r.len]; exact hl)] at z2
    cases z2
    cases z3.1
    rfl
  refine ⟨by rw [List.length_set, List.length_set]; exact r.len, r'.sub, r'.gg, r'.keep, r'.md, r'.sep, fun j s o z1 z2 => ?_, fun j k s t o u a hjk z1 z2 z3 z4 z5 z6 => ?_⟩
  · by_cases hj : i = j
    · subst hj
      have hl : i < (ρ.set i (Sl.own ds)).length := (List.getElem?_eq_some_iff.mp z1).1
      rw [List.length_set] at hl
      rw [List.getElem?_set_self hl] at z1
      rw [List.getElem?_set_self (by rw [← r.len]; exact hl)] at z2
      cases z1
      cases z2
      exact ⟨l, vs, rfl, h1, h2, r.fresh h0, h3, h4⟩
    · rw [List.getElem?_set_ne hj] at z1 z2
      exact r'.sl j s o z1 z2
  · by_cases hj : i = j
    · subst hj
      have := isO z1 z3 z5
      subst this
      rw [List.getElem?_set_ne hjk] at z2 z4
      exact no k t u hjk z2 z4 z6
    · by_cases hk : i = k
      · subst hk
        have := isO z2 z4 z6
        subst this
        rw [List.getElem?_set_ne hj] at z1 z3
        exact no j s o hj z1 z3 z5
      · rw [List.getElem?_set_ne hj] at z1 z3
        rw [List.getElem?_set_ne hk] at z2 z4
        exact r.dis j k s t o u a hjk z1 z2 z3 z4 z5 z6
/-- the object of slot i is another one now -/
theorem R.chg (r : R NM K F ρ G σ H) {i : Nat} {s0 s1 : Sl} {a : Addr} {u : HO} (h : ρ[i]? = some s0) (ha : σ[i]? = some (some (.ref a))) (hw : ownAt s0 (some (.ref a)) a) (hw1 : ∀ b, ownAt s1 (some (.ref a)) b → b = a)
    (hm : F.H_0 a = none ∨ F.M a) (hs : SlOk NM K F G (upd H a u) s1 (some (.ref a))) : R NM K F (ρ.set i s1) G σ (upd H a u) := by
  have g0 := (r.sl i _ _ h ha).own_ne hw
  refine ⟨by rw [List.length_set]; exact r.len, fun b o z => ?_, r.gg, fun b o z1 z2 => ?_, fun b z => ?_, r.sep, fun j s o z1 z2 => ?_, fun j k s t o w b hjk z1 z2 z3 z4 z5 z6 => ?_⟩
  · rw [upd_ne (ne_of_none z g0.2)]
    exact r.sub b o z
  · rw [upd_ne (fun e => by
      subst e
      rcases hm with hm | hm
      · rw [hm] at z1; cases z1
      · exact z2 hm)]
    exact r.keep b o z1 z2
  · by_cases hb : b = a
    · rw [hb, upd_same]
      exact fun q => nomatch q
    · rw [upd_ne hb]
      exact r.md b z
  · by_cases hj : i = j
    · subst hj
      cases set_same h z1
      rw [ha] at z2
      cases z2
      exact hs
    · rw [List.getElem?_set_ne hj] at z1
      have q := r.sl j s o z1 z2
      have nd : ∀ b, ownAt s o b → b ≠ a := fun b q e => by
        subst e
        exact r.dis i j _ _ _ _ b hj h z1 ha z2 hw q
      cases s with
      | un => trivial
      | val d => exact q
      | own es =>
        obtain ⟨l2, us, q1, q2, q3⟩ := q
        exact ⟨l2, us, q1, by rw [upd_ne (nd l2 ⟨q1, trivial⟩)]; exact q2, q3⟩
      | obj c ks es =>
        obtain ⟨x, dx, xs, q1, q2, q3⟩ := q
        exact ⟨x, dx, xs, q1, by rw [upd_ne (nd x ⟨q1, trivial⟩)]; exact q2, q3⟩
  · by_cases hj : i = j
    · subst hj
      cases set_same h z1
      rw [ha] at z3
      cases z3
      have := hw1 b z5
      subst this
      rw [List.getElem?_set_ne hjk] at z2
      exact r.dis i k _ _ _ _ b hjk h z2 ha z4 hw z6
    · by_cases hk : i = k
      · subst hk
        cases set_same h z2
        rw [ha] at z4
        cases z4
        have := hw1 b z6
        subst this
        rw [List.getElem?_set_ne hj] at z1
        exact r.dis i j _ _ _ _ b hj h z1 ha z3 hw z5
      · rw [List.getElem?_set_ne hj] at z1
        rw [List.getElem?_set_ne hk] at z2
        exact r.dis j k s t o w b hjk z1 z2 z3 z4 z5 z6
theorem own_at {a b : Addr} {ds : List D} (h : ownAt (.own ds) (some (.ref a)) b) : b = a := by
  cases h.1
  rfl
theorem obj_at {a b : Addr} {c : Nat} {ks : List Nat} {ds : List D} (h : ownAt (.obj c ks ds) (some (.ref a)) b) : b = a := by
  cases h.1
  rfl
end

section
variable (NM : Nam) (K : PySem.W.Frag) (W : WX)
/-- what a statement asks -/
def LS_ (f : Env → Dn → Prop) : TS := fun De σ H => ∃ F ρ G d, R NM K F ρ G σ H ∧ f ρ d ∧
  (∀ ρ' G' σ' H', R NM K F ρ' G' σ' H' → Same G G' → d.nx ρ' → De.nx σ' H') ∧ (∀ ρ' G' σ' H', R NM K F ρ' G' σ' H' → Same G G' → d.bk ρ' → De.bk σ' H') ∧ (∀ ρ' G' σ' H', R NM K F ρ' G' σ' H' → Same G G' → d.ct ρ' → De.ct σ' H') ∧
  (∀ v e ρ' G' σ' H', R NM K F ρ' G' σ' H' → Same G G' → Rep NM K G' v e → d.rt e → De.rt v H') ∧ (∀ cls dx ρ' G' σ' H' x, R NM K F ρ' G' σ' H' → Same G G' → RepX NM K G' cls dx x → d.er x ρ' → W cls dx σ' H')
end
structure OkS (X : Cx) (NM : Nam) (B : List Str) (Φ : List Cal) (Γ : List (Str × D)) (AT : List (Nat × Nat)) : Prop where
  ok : Ok X NM B Φ Γ AT
  kind : X.env.scope.kind = .function
  fn : ∀ x, X.fn x = true
  po : PassesOwn (model X.prog X.w) X.A X.env X.xe
theorem OkS.tg {X : Cx} {NM : Nam} {B : List Str} {Φ : List Cal} {Γ : List (Str × D)} {AT : List (Nat × Nat)} (o : OkS X NM B Φ Γ AT) : TgOk X X.env.scope := fun x => ⟨fun h => h, fun h => ⟨h, o.fn x⟩⟩
section
variable {X : Cx} {NM : Nam} {B : List Str} {Φ : List Cal} {Γ : List (Str × D)} {AT : List (Nat × Nat)} {W : WX} {e : Expr} {fa fb : Wk} {pos : Pos} {st : Stmt} {f f2 : Env → Dn → Prop} {sts sts2 : List Stmt}
theorem ps_imp {t t' : TS} (h : PS X st t) (i : ∀ D σ H, t' D σ H → t D σ H) : PS X st t' := ⟨fun pins s σ H D I q => h.run pins s σ H D I (i _ _ _ q)⟩
theorem pss_imp {t t' : TS} (h : PSs X sts t) (i : ∀ D σ H, t' D σ H → t D σ H) : PSs X sts t' := ⟨fun pins s σ H D I q => h.run pins s σ H D I (i _ _ _ q)⟩
theorem ss_nil : PSs X [] (LS_ NM X.K W fun ρ d => d.nx ρ) := pss_imp pss_nil fun D σ H ⟨F, ρ, G, d, r, q, h1, _⟩ => h1 ρ G σ H r (.refl _) q
theorem ss_cons (h : PS X st (LS_ NM X.K W f)) (h2 : PSs X sts (LS_ NM X.K W f2)) : PSs X (st :: sts) (LS_ NM X.K W fun ρ d => f ρ { d with nx := fun ρ' => f2 ρ' d }) :=
  pss_imp (pss_cons h h2) fun D σ H ⟨F, ρ, G, d, r, q, h1, h2, h3, h4, h5⟩ => ⟨F, ρ, G, _, r, q, fun ρ' G' σ' H' r' g' q' => ⟨F, ρ', G', d, r', q', fun ρ2 G2 σ2 H2 r2 g2 => h1 ρ2 G2 σ2 H2 r2 (g'.trans g2),
    fun ρ2 G2 σ2 H2 r2 g2 => h2 ρ2 G2 σ2 H2 r2 (g'.trans g2), fun ρ2 G2 σ2 H2 r2 g2 => h3 ρ2 G2 σ2 H2 r2 (g'.trans g2), fun v e ρ2 G2 σ2 H2 r2 g2 => h4 v e ρ2 G2 σ2 H2 r2 (g'.trans g2), fun c dx ρ2 G2 σ2 H2 x r2 g2 => h5 c dx ρ2 G2 σ2 H2 x r2 (g'.trans g2)⟩, h2, h3, h4, h5⟩
theorem ss_frz (i : Nat) (h : PSs X sts (LS_ NM X.K W f)) : PSs X sts (LS_ NM X.K W fun ρ d => f (frzR ρ i) d) :=
  pss_imp h fun D σ H ⟨F, ρ, G, d, r, q, h1, h2, h3, h4, h5⟩ => by
    have q' : f (frzR ρ i) d := q
    clear q
    unfold frzR at q'
    split at q'
    · rename_i ds hd
      obtain ⟨G', r', g'⟩ := r.freeze hd
      exact ⟨F, _, G', d, r', q', fun ρ2 G2 σ2 H2 r2 g2 => h1 ρ2 G2 σ2 H2 r2 (g'.trans g2),
        fun ρ2 G2 σ2 H2 r2 g2 => h2 ρ2 G2 σ2 H2 r2 (g'.trans g2), fun ρ2 G2 σ2 H2 r2 g2 => h3 ρ2 G2 σ2 H2 r2 (g'.trans g2), fun v e ρ2 G2 σ2 H2 r2 g2 => h4 v e ρ2 G2 σ2 H2 r2 (g'.trans g2), fun c dx ρ2 G2 σ2 H2 x r2 g2 => h5 c dx ρ2 G2 σ2 H2 x r2 (g'.trans g2)⟩
    · exact ⟨F, ρ, G, d, r, q', h1, h2, h3, h4, h5⟩
/-! ### new lists -/
/-- a new list, or a thing that is none -/
def LN (NM : Nam) (K : PySem.W.Frag) (W : WX) (f : Wk) : TE := fun σ H Q => ∃ F ρ G kd kx, R NM K F ρ G σ H ∧ f ρ kd kx ∧
  (∀ v G' H' d, Ext G H G' H' → Rep NM K G' v d → (∀ ds, d ≠ .lst ds) → kd d → Q v H') ∧
  (∀ l vs G' H' ds, Ext G H G' H' → H' l = some (.lst vs) → G' l = none → H l = none → vs.length ≤ sizeLine → Reps NM K G' vs ds → kd (.lst ds) → Q (.ref l) H') ∧ (∀ cls dx G' H' x, Ext G H G' H' → RepX NM K G' cls dx x → kx x → W cls dx σ H')
theorem lf_ln (h : PE X e (LF NM X.K W fa)) : PE X e (LN NM X.K W fa) := pe_imp h fun σ H Q ⟨F, ρ, G, kd, kx, r, q, _, h1, h2⟩ => ⟨F, ρ, G, kd, kx, r, q, h1, h2⟩
theorem addN_ok : OpR X (binaryOp .Add) (fun x y H Q => ∃ G d e kd, Same G H ∧ RepB NM X.K G H x d ∧ RepB NM X.K G H y e ∧ bopW .add d e kd ∧ (∀ v r, Rep NM X.K G v r → (∀ ds, r ≠ .lst ds) → kd r → Q v H) ∧
    (∀ l vs ds, H l = none → vs.length ≤ sizeLine → Reps NM X.K G vs ds → kd (.lst ds) → Q (.ref l) (upd H l (.lst vs))) ∧
    ∀ l vs ds, H l = none → vs.length ≤ sizeLine → Reps NM X.K G vs ds → kd (.tup ds) → Q (.ref l) (upd H l (.tup vs))) := by
  rintro pins s σ H x y v u Q I rx ry ⟨G, d, e, kd, sub, hd, he, w, q, q2, q3⟩
  cases d <;> cases e <;> first | exact w.elim | skip
  · cases hd.int; cases he.int
    exact op_add pins s σ H _ _ v u Q I rx ry ⟨_, _, rfl, rfl, q _ _ (.int _) (fun _ z => (nomatch z)) w⟩
  · cases hd.str; cases he.str
    exact op_add_str pins s σ H _ _ v u Q I rx ry ⟨_, _, rfl, rfl, w.1, q _ _ (.str _) (fun _ z => (nomatch z)) w.2⟩
  · obtain ⟨a, xs, rfl, s1, z1, r1⟩ := hd.tup sub
    obtain ⟨b, ys, rfl, s2, z2, r2⟩ := he.tup sub
    have e1 := r1.len
    have e2 := r2.len
    have w1 := w.1
    refine op_catA pins s σ H _ _ v u Q I rx ry ⟨_, _, _, _, rfl, rfl, s1, s2, by omega, fun z => ?_, fun _ z => ?_, fun _ _ p hp => q3 p _ _ hp (by rw [List.length_append]; omega) (r1.app r2) w.2⟩
    · subst z
      cases r1
      cases he with
      | frz t => exact q _ _ t (fun _ z => nomatch z) w.2
    · subst z
      cases r2
      have w2 := w.2
      rw [List.append_nil] at w2
      cases hd with
      | frz t => exact q _ _ t (fun _ z => nomatch z) w2
  · obtain ⟨a, xs, rfl, s1, z1, r1⟩ := hd.lst sub
    obtain ⟨b, ys, rfl, s2, z2, r2⟩ := he.lst sub
    have e1 := r1.len
    have e2 := r2.len
    have w1 := w.1
    exact op_cat pins s σ H _ _ v u Q I rx ry ⟨_, _, _, _, rfl, rfl, s1, s2, by omega, fun p hp => q2 p _ _ hp (by rw [List.length_append]; omega) (r1.app r2) w.2⟩
theorem sn_add {a b : Expr} (ha : PE X a (LB NM X.K W fa)) (hb : PE X b (LB NM X.K W fb)) : PE X (.BinOp a .Add b pos) (LN NM X.K W fun ρ k x => fa ρ (fun d => fb ρ (fun e => bopW .add d e k) x) x) :=
  pe_imp (pe_op addN_ok ha hb) fun σ H Q ⟨F, ρ, G, kd, kx, r, q, h1, h3, h2⟩ => ⟨F, ρ, G, _, kx, r, q, fun v G1 H1 d x1 r1 q1 => ⟨F, ρ, G1, _, kx, r.ext x1, q1, fun w G2 H2 e x2 r2 q2 =>
    ⟨G2, d, e, kd, x2.sub, r1.ext x2, r2, q2, fun u g r3 nl q3 => h1 u G2 H2 g (x1.trans x2) r3 nl q3, fun l vs ds z1 z2 z3 z4 => h3 l vs G2 _ ds ((x1.trans x2).trans (.own x2.sub z1 _)) upd_same (x2.sub.free z1) ((x1.trans x2).hh.free z1) z2 z3 z4, fun l vs ds z1 z2 z3 z4 => h1 (.ref l) (upd G2 l (.tup vs)) _ (.tup ds) ((x1.trans x2).trans (.new x2.sub z1 _)) (.tup (.of upd_same) z2 (z3.mono (same_upd (x2.sub.free z1)))) (fun _ z => nomatch z) z4⟩, fun c d G2 H2 x x2 => h2 c d G2 H2 x (x1.trans x2)⟩, h2⟩
theorem sf_list (ok : Ok X NM B Φ Γ AT) {x : Str} {p : Pos} (hgl : Gl X x) (hdb : (x == ("__debug__" : Str)) = false) (hg : good e = true) (h1 : X.mg x = none) (h2 : bootBuiltins x = some (.type "list")) (h3 : x ≠ "__name__") (ha : PE X e (LB NM X.K W fa)) :
    PE X (.Call (.Name x p) [e] [] pos) (LF NM X.K W fun ρ k x => fa ρ (fun d => bltW .list [d] k) x) :=
  pe_imp (pe_callTy call_list_of hgl h1 h2 (sa_oneB hg ha) h3 hdb (starEach_good hg) rfl) fun σ H Q ⟨F, ρ, G, kd, kx, r, q, h1, h2⟩ => ⟨F, ρ, G, _, kx, r, q, fun v G1 H1 d x1 r1 q1 => by
    cases d <;> first | exact q1.elim | skip
    · obtain ⟨a, xs, rfl, s1, z1, r2⟩ := r1.tup x1.sub
      exact ⟨_, _, rfl, .inr s1, fun l hl => h1 l _ G1 _ _ (x1.trans (.own x1.sub hl _)) upd_same (x1.sub.free hl) (x1.hh.free hl) z1 r2 q1⟩
    · obtain ⟨a, xs, rfl, s1, z1, r2⟩ := r1.lst x1.sub
      exact ⟨_, _, rfl, .inl (.of s1), fun l hl => h1 l _ G1 _ _ (x1.trans (.own x1.sub hl _)) upd_same (x1.sub.free hl) (x1.hh.free hl) z1 r2 q1⟩, h2⟩
/-! ### stores -/
theorem swaps_val (h : (match e with | .ListComp _ _ _ _ => false | .SetComp _ _ _ _ => false | .DictComp _ _ _ _ _ => false | _ => true) = true) {t : Option Expr} {l : Nat} : swapsWith e t l X.env = pure false := by
  cases e <;> first | rfl | cases h
theorem ss_asg (ok : OkS X NM B Φ Γ AT) {tg : Expr} {vs : List Nat} {fg : Gk} (he : PE X e (LE NM X.K W fa)) (hg : PG X tg (LG NM X.K vs fg)) (hs : swapsWithSole [tg] e pos.line X.env = pure false) (hw : swappedStores [tg] e X.env = pure none) (h1 : good tg = true) :
    PS X (.Assign [tg] e pos) (LS_ NM X.K W fun ρ d => fa ρ (fun v => fg v ρ d.nx) fun x => d.er x ρ) :=
  ps_imp (ps_asg he hg hs hw (by rw [assignGood h1]; rfl)) fun D σ H ⟨F, ρ, G, d, r, q, h1, h2, h3, h4, h5⟩ => ⟨F, ρ, G, _, _, r, q, fun v G1 H1 dv x1 r1 q1 =>
    ⟨F, ρ, G1, dv, _, r.ext x1, r1, q1, fun σ' ρ' r' _ q' => h1 ρ' G1 σ' H1 r' x1.gg q'⟩, fun c dx G1 H1 x x1 rx q1 => h5 c dx ρ G1 σ H1 x (r.ext x1) x1.gg rx q1⟩
theorem ss_new {tg : Expr} {i : Nat} (h : PS X (.Assign [tg] e pos) (tAsg (LN NM X.K W fa) (gName i))) : PS X (.Assign [tg] e pos) (LS_ NM X.K W fun ρ d => fa ρ (fun v => d.nx (ρ.set i (slOf v))) fun x => d.er x ρ) :=
  ps_imp h fun D σ H ⟨F, ρ, G, d, r, q, h1, h2, h3, h4, h5⟩ => ⟨F, ρ, G, _, _, r, q, fun v G1 H1 dv x1 r1 nl q1 => by
      have e : slOf dv = .val dv := by
        cases dv <;> first | rfl | exact absurd rfl (nl _)
      refine h1 _ G1 _ H1 ((r.ext x1).set r1) x1.gg ?_
      rw [← e]
      exact q1, fun l vs G1 H1 ds x1 a1 a2 a3 a4 a5 q1 => h1 _ G1 _ H1 (r.own x1 a3 a1 a2 a4 a5) x1.gg q1, fun c dx G1 H1 x x1 rx q1 => h5 c dx ρ G1 σ H1 x (r.ext x1) x1.gg rx q1⟩
/-- name = a new list that stays as it is -/
theorem ss_fz {tg : Expr} {i : Nat} (h : PS X (.Assign [tg] e pos) (tAsg (LF NM X.K W fa) (gName i))) : PS X (.Assign [tg] e pos) (LS_ NM X.K W fun ρ d => fa ρ (fun v => d.nx (ρ.set i (.val v))) fun x => d.er x ρ) :=
  ps_imp h fun D σ H ⟨F, ρ, G, d, r, q, h1, h2, h3, h4, h5⟩ => ⟨F, ρ, G, _, _, r, q, fun l vs G1 H1 ds x1 a1 a2 a3 a4 a5 q1 =>
    h1 _ (upd G1 l (.lst vs)) _ H1 ((r.ext (x1.freeze a1 a2 a3)).set (.lst upd_same a4 (a5.mono (same_upd a2)))) (x1.freeze a1 a2 a3).gg q1, fun c dx G1 H1 x x1 rx q1 => h5 c dx ρ G1 σ H1 x (r.ext x1) x1.gg rx q1⟩
theorem ss_par (ok : OkS X NM B Φ Γ AT) {i j : Nat} {x y : Str} {a b : Expr} {px py pt : Pos} {kt k2 : Nat} {pt2 : Pos} (hi : X.N[i]? = some x) (hj : X.N[j]? = some y) (hij : i ≠ j)
    (hx : X.env.scope.names.lookup x = some .local) (hy : X.env.scope.names.lookup y = some .local) (ga : good a = true) (gb : good b = true) (ha : PE X a (LE NM X.K W fa)) (hb : PE X b (LE NM X.K W fb))
    (hw : swappedStores [.Tuple [.Name x px, .Name y py] kt pt] (.Tuple [a, b] k2 pt2) X.env = pure (some [x, y])) :
    PS X (.Assign [.Tuple [.Name x px, .Name y py] kt pt] (.Tuple [a, b] k2 pt2) pos) (LS_ NM X.K W fun ρ d => fa ρ (fun v => fb ρ (fun w => d.nx ((ρ.set i (.val v)).set j (.val w))) fun x => d.er x ρ) fun x => d.er x ρ) :=
  ps_imp (ps_par (pos := pos) ok.ok.calm ok.ok.nd hi hj hij hx hy (sa_cons ga ha (sa_cons gb hb sa_nil)) hw) fun D σ H ⟨F, ρ, G, d, r, q, h1, h2, h3, h4, h5⟩ =>
    ⟨F, ρ, G, fun ds => ∃ v w, ds = [v, w] ∧ d.nx ((ρ.set i (.val v)).set j (.val w)), _, r, (by
      have e : ∀ v w : Q.D, (∃ v' w', [v, w] = [v', w'] ∧ d.nx ((ρ.set i (.val v')).set j (.val w'))) = d.nx ((ρ.set i (.val v)).set j (.val w)) := fun v w => propext ⟨fun ⟨_, _, z, q⟩ => by cases z; exact q, fun q => ⟨_, _, rfl, q⟩⟩
      have q' : fa ρ (fun v => fb ρ (fun w => d.nx ((ρ.set i (.val v)).set j (.val w))) fun x => d.er x ρ) (fun x => d.er x ρ) := q
      simp only [e]
      exact q'), fun us G1 H1 ds x1 r1 l1 ⟨v, w, z, q1⟩ => by
      subst z
      cases r1 with
      | cons a1 a2 =>
        cases a2 with
        | cons a2 a3 =>
          cases a3
          exact ⟨_, _, rfl, h1 _ G1 _ H1 (((r.ext x1).set a1).set a2) x1.gg q1⟩, fun c dx G1 H1 x x1 rx q1 => h5 c dx ρ G1 σ H1 x (r.ext x1) x1.gg rx q1⟩
theorem ss_exp (he : PE X e (LE NM X.K W fa)) (hs : swapsWith e none pos.line X.env = pure false) : PS X (.Expr e pos) (LS_ NM X.K W fun ρ d => fa ρ (fun _ => d.nx ρ) fun x => d.er x ρ) :=
  ps_imp (ps_expr he hs) fun D σ H ⟨F, ρ, G, d, r, q, h1, h2, h3, h4, h5⟩ => ⟨F, ρ, G, _, _, r, q, fun v G1 H1 dv x1 r1 q1 => h1 ρ G1 σ H1 (r.ext x1) x1.gg q1, fun c dx G1 H1 x x1 rx q1 => h5 c dx ρ G1 σ H1 x (r.ext x1) x1.gg rx q1⟩
theorem ss_ret (he : PE X e (LE NM X.K W fa)) : PS X (.Return (some e) pos) (LS_ NM X.K W fun ρ d => fa ρ d.rt fun x => d.er x ρ) :=
  ps_imp (ps_ret he) fun D σ H ⟨F, ρ, G, d, r, q, h1, h2, h3, h4, h5⟩ => ⟨F, ρ, G, _, _, r, q, fun v G1 H1 dv x1 r1 q1 => h4 v dv ρ G1 σ H1 (r.ext x1) x1.gg r1 q1, fun c dx G1 H1 x x1 rx q1 => h5 c dx ρ G1 σ H1 x (r.ext x1) x1.gg rx q1⟩
theorem ss_retN : PS X (.Return none pos) (LS_ NM X.K W fun _ d => d.rt .non) :=
  ps_imp ps_retN fun D σ H ⟨F, ρ, G, d, r, q, h1, h2, h3, h4, h5⟩ => h4 .non .non ρ G σ H r (.refl _) .non q
theorem ss_ite {c : Expr} {t : Tk} (hc : PT X c (LT NM X.K W t)) (ha : PSs X sts (LS_ NM X.K W f)) (hb : PSs X sts2 (LS_ NM X.K W f2)) : PS X (.If c sts sts2 pos) (LS_ NM X.K W fun ρ d => t ρ (fun b => if b = true then f ρ d else f2 ρ d) fun x => d.er x ρ) :=
  ps_imp (ps_if hc ha hb) fun D σ H ⟨F, ρ, G, d, r, q, h1, h2, h3, h4, h5⟩ => ⟨F, ρ, G, _, _, r, q, fun b G1 H1 x1 q1 => by
    have g' := x1.gg
    cases b with
    | true => exact iteT ⟨F, ρ, G1, d, r.ext x1, q1, fun ρ2 G2 σ2 H2 r2 g2 => h1 ρ2 G2 σ2 H2 r2 (g'.trans g2),
        fun ρ2 G2 σ2 H2 r2 g2 => h2 ρ2 G2 σ2 H2 r2 (g'.trans g2), fun ρ2 G2 σ2 H2 r2 g2 => h3 ρ2 G2 σ2 H2 r2 (g'.trans g2), fun v e ρ2 G2 σ2 H2 r2 g2 => h4 v e ρ2 G2 σ2 H2 r2 (g'.trans g2), fun c dx ρ2 G2 σ2 H2 x r2 g2 => h5 c dx ρ2 G2 σ2 H2 x r2 (g'.trans g2)⟩
    | false => exact iteF ⟨F, ρ, G1, d, r.ext x1, q1, fun ρ2 G2 σ2 H2 r2 g2 => h1 ρ2 G2 σ2 H2 r2 (g'.trans g2),
        fun ρ2 G2 σ2 H2 r2 g2 => h2 ρ2 G2 σ2 H2 r2 (g'.trans g2), fun ρ2 G2 σ2 H2 r2 g2 => h3 ρ2 G2 σ2 H2 r2 (g'.trans g2), fun v e ρ2 G2 σ2 H2 r2 g2 => h4 v e ρ2 G2 σ2 H2 r2 (g'.trans g2), fun c dx ρ2 G2 σ2 H2 x r2 g2 => h5 c dx ρ2 G2 σ2 H2 x r2 (g'.trans g2)⟩, fun c dx G1 H1 x x1 rx q1 => h5 c dx ρ G1 σ H1 x (r.ext x1) x1.gg rx q1⟩
theorem ss_pas : PS X (.Pass pos) (LS_ NM X.K W fun ρ d => d.nx ρ) := ps_imp ps_pass fun D σ H ⟨F, ρ, G, d, r, q, h1, _⟩ => h1 ρ G σ H r (.refl _) q
theorem ss_nev {st : Stmt} : PS X st (LS_ NM X.K W fun _ _ => False) := ps_imp ps_never fun D σ H ⟨F, ρ, G, d, r, q, _⟩ => q.elim
theorem ss_brk : PS X (.Break pos) (LS_ NM X.K W fun ρ d => d.bk ρ) := ps_imp ps_break fun D σ H ⟨F, ρ, G, d, r, q, _, h1, _⟩ => h1 ρ G σ H r (.refl _) q
theorem ss_cnt : PS X (.Continue pos) (LS_ NM X.K W fun ρ d => d.ct ρ) := ps_imp ps_continue fun D σ H ⟨F, ρ, G, d, r, q, _, _, h1, _⟩ => h1 ρ G σ H r (.refl _) q

/-! ### changes -/
theorem ss_app {x : Str} {i : Nat} {p ap : Pos} (hp : PE X (.Name x p) (tVar i)) (hg : good e = true) (he : PE X e (LE NM X.K W fa)) (hl : (ap.endLine == pos.line) = true) {ep : Pos} :
    PS X (.Expr (.Call (.Attribute (.Name x p) "append" ap) [e] [] pos) ep) (LS_ NM X.K W fun ρ d => match ρ[i]? with
    | some (.own ds) => fa ρ (fun v => ds.length < sizeLine ∧ d.nx (ρ.set i (.own (ds ++ [v])))) fun x => d.er x ρ
    | _ => False) := by
  have fm : ((backTo pos (starEach [e] X.env)).all (fun x => !x.1) && (backToKw pos (keywordEach [] X.env)).all (fun x => x.1.isSome) && decide ([e].length + ([] : List Keyword).length + (if ([] : List Keyword).isEmpty then 0 else 1) < 30)) = true := by
    rw [starEach_good hg]
    rfl
  have pe := pe_bm (cpos := pos) (apos := ap) PySem.F.plainAttrs_list PySem.F.slot_list_append PySem.F.type_list_append mt_append hp (pa_cons he pa_nil (starEach_good hg)) rfl fm hl (starEach_good hg) rfl
  refine ps_imp (ps_expr (pos := ep) pe (swaps_val rfl)) fun De σ H ⟨F, ρ, G, d, r, q, h1, h2, h3, h4, h5⟩ => ?_
  dsimp only at q
  split at q
  · rename_i ds hd
    obtain ⟨o, ho, l, us, hv, a1, a2, a3, a4, a5⟩ := r.slot hd
    subst hv
    refine ⟨.ref l, ho, .inl ⟨rfl, _, .inl (.inl a1)⟩, F, ρ, G, _, _, r, q, fun v G1 H1 dv x1 r1 q1 => ?_, fun c dx G1 H1 x x1 rx q1 => h5 c dx ρ G1 σ H1 x (r.ext x1) x1.gg rx q1⟩
    have b1 := x1.hh _ _ a1
    have b2 := x1.sep l (by rw [a1]; exact fun z => (nomatch z)) a2
    have ll := a5.len
    refine ⟨l, us, v, rfl, rfl, b1, by rw [ll]; exact q1.1, h1 _ G1 _ _ ((r.ext x1).chg hd ho ⟨rfl, trivial⟩ (fun b => own_at) (.inl a3) ⟨l, us ++ [v], rfl, upd_same, b2, a3, ?_, (a5.mono x1.gg).app (.cons r1 .nil)⟩) x1.gg q1.2⟩
    rw [List.length_append, ll]
    exact q1.1
  · exact q.elim
theorem ss_setIx {x : Str} {i : Nat} {p sp : Pos} {ix : Expr} (hp : PE X (.Name x p) (tVar i)) (hg : good ix = true) (he : PE X e (LE NM X.K W fa)) (hi : PE X ix (LE NM X.K W fb)) (hs : swapsWithSole [.Subscript (.Name x p) ix sp] e pos.line X.env = pure false) :
    PS X (.Assign [.Subscript (.Name x p) ix sp] e pos) (LS_ NM X.K W fun ρ d => match ρ[i]? with
    | some (.own ds) => fa ρ (fun v => fb ρ (fun n => match n with
      | .int n => (match ixN ds.length n with
        | some m => d.nx (ρ.set i (.own (ds.set m v)))
        | none => False)
      | _ => False) fun x => d.er x ρ) (fun x => d.er x ρ)
    | _ => False) := by
  have ha : assign (.Subscript (.Name x p) ix sp) X.env = assign (.Subscript (.Name x p) ix sp) X.env := rfl
  have ps := ps_asg (pos := pos) he (pg_sub (pos := sp) hp hi set_list (by intro v; cases ix <;> first | rfl | cases hg)) hs (by cases e <;> rfl) rfl
  refine ps_imp ps fun De σ H ⟨F, ρ, G, d, r, q, h1, h2, h3, h4, h5⟩ => ?_
  dsimp only at q
  split at q
  · rename_i ds hd
    obtain ⟨o, ho, l, us, hv, a1, a2, a3, a4, a5⟩ := r.slot hd
    subst hv
    refine ⟨F, ρ, G, _, _, r, q, fun v G1 H1 dv x1 r1 q1 => ⟨.ref l, ho, F, ρ, G1, _, _, r.ext x1, q1, fun w G2 H2 dw x2 r2 q2 => ?_, fun c dx G2 H2 x x2 rx q2 => h5 c dx ρ G2 σ H2 x ((r.ext x1).ext x2) (x1.gg.trans x2.gg) rx q2⟩, fun c dx G1 H1 x x1 rx q1 => h5 c dx ρ G1 σ H1 x (r.ext x1) x1.gg rx q1⟩
    have x3 := x1.trans x2
    have b1 := x3.hh _ _ a1
    have b2 := x3.sep l (by rw [a1]; exact fun z => (nomatch z)) a2
    have ll := a5.len
    cases dw <;> first | exact q2.elim | skip
    cases r2
    dsimp only at q2
    split at q2
    · rename_i m hm
      refine ⟨l, us, _, m, rfl, rfl, b1, by rw [ll]; exact hm, h1 _ G2 _ _ ((r.ext x3).chg hd ho ⟨rfl, trivial⟩ (fun b => own_at) (.inl a3) ⟨l, us.set m v, rfl, upd_same, b2, a3, ?_, (a5.mono x3.gg).set m (r1.mono x2.gg)⟩) x3.gg q2⟩
      rw [List.length_set]
      exact a4
    · exact q2.elim
  · exact q.elim
theorem ss_aug (ok : OkS X NM B Φ Γ AT) {x : Str} {i : Nat} {p : Pos} {o : Bop} {op : Operator} (ho : (match o, op with | .add, .Add => true | .sub, .Sub => true | _, _ => false) = true) (hi : X.N[i]? = some x) (hx : Loc X.env.scope x) (he : PE X e (LE NM X.K W fa)) :
    PS X (.AugAssign (.Name x p) op e pos) (LS_ NM X.K W fun ρ d => match ρ[i]? with
    | some (.val (.int v)) => fa ρ (fun w => match w with
      | .int w => bopW o (.int v) (.int w) fun r => d.nx (ρ.set i (.val r))
      | _ => False) fun x => d.er x ρ
    | _ => False) := by
  cases o <;> cases op <;> first | (cases ho; done) | skip
  · refine ps_imp (ps_aug (pos := pos) ok.ok.nd hi hx he ip_add (.inl (ok.fn x))) fun De σ H ⟨F, ρ, G, d, r, q, h1, h2, h3, h4, h5⟩ => ?_
    dsimp only at q
    split at q
    · rename_i v hd
      obtain ⟨o, ho, w, hv, hr⟩ := r.slot hd
      subst hv
      cases hr
      refine ⟨_, ho, F, ρ, G, _, _, r, q, fun w G1 H1 dw x1 r1 q1 => ?_, fun c dx G1 H1 x x1 rx q1 => h5 c dx ρ G1 σ H1 x (r.ext x1) x1.gg rx q1⟩
      cases dw <;> first | exact q1.elim | skip
      cases r1
      exact ⟨_, _, rfl, rfl, h1 _ G1 _ H1 ((r.ext x1).set (.int _)) x1.gg q1⟩
    · exact q.elim
  · refine ps_imp (ps_aug (pos := pos) ok.ok.nd hi hx he ip_sub (.inl (ok.fn x))) fun De σ H ⟨F, ρ, G, d, r, q, h1, h2, h3, h4, h5⟩ => ?_
    dsimp only at q
    split at q
    · rename_i v hd
      obtain ⟨o, ho, w, hv, hr⟩ := r.slot hd
      subst hv
      cases hr
      refine ⟨_, ho, F, ρ, G, _, _, r, q, fun w G1 H1 dw x1 r1 q1 => ?_, fun c dx G1 H1 x x1 rx q1 => h5 c dx ρ G1 σ H1 x (r.ext x1) x1.gg rx q1⟩
      cases dw <;> first | exact q1.elim | skip
      cases r1
      exact ⟨_, _, rfl, rfl, h1 _ G1 _ H1 ((r.ext x1).set (.int _)) x1.gg q1⟩
    · exact q.elim
theorem putD_zip {nm : Nat → Str} (inj : ∀ i j, nm i = nm j → i = j) {G : Hp} {K : PySem.W.Frag} {f : Nat} {v : V} {d : D} (hv : Rep NM K G v d) : ∀ {ks : List Nat} {xs : List V} {ds : List D}, Reps NM K G xs ds → ks.length = xs.length →
    ∃ ys, L2.putF (nm f) v ((ks.map nm).zip xs) = ((putD f d ks ds).1.map nm).zip ys ∧ Reps NM K G ys (putD f d ks ds).2 ∧ (putD f d ks ds).1.length = ys.length
  | [], _, _, .nil, _ => ⟨[v], rfl, .cons hv .nil, rfl⟩
  | [], _, _, .cons _ _, h => by cases h
  | _ :: _, _, _, .nil, h => by cases h
  | k :: ks, x :: xs, _, .cons (d := e) (ds := es) r rs, h => by
    obtain ⟨ys, h1, h2, h3⟩ := putD_zip inj hv (ks := ks) rs (by simpa using h)
    have pd : putD f d (k :: ks) (e :: es) = if k = f then (k :: ks, d :: es) else (k :: (putD f d ks es).1, e :: (putD f d ks es).2) := rfl
    by_cases hk : k = f
    · rw [pd, if_pos hk]
      subst hk
      refine ⟨v :: xs, ?_, .cons hv rs, by simpa using h⟩
      show (if nm k = nm k then (nm k, v) :: (ks.map nm).zip xs else _) = _
      rw [if_pos rfl]
      rfl
    · rw [pd, if_neg hk]
      refine ⟨x :: ys, ?_, .cons r h2, congrArg Nat.succ h3⟩
      show (if nm k = nm f then _ else (nm k, x) :: L2.putF (nm f) v ((ks.map nm).zip xs)) = _
      rw [if_neg (fun z => hk (inj _ _ z)), h1]
      rfl
theorem ss_fld (inj : ∀ i j, NM.at_ i = NM.at_ j → i = j) (ok : OkS X NM B Φ Γ AT) {x y : Str} {i f : Nat} {p ap : Pos} (hp : PE X (.Name x p) (tVar i)) (hf : NM.at_ f = y) (he : PE X e (LE NM X.K W fa)) (hs : swapsWith e (some (.Attribute (.Name x p) y ap)) pos.line X.env = pure false) :
    PS X (.Assign [.Attribute (.Name x p) y ap] e pos) (LS_ NM X.K W fun ρ d => match ρ[i]? with
    | some (.obj c ks ds) => atB AT c f = true ∧ ks.length < 1000 ∧ fa ρ (fun v => d.nx (ρ.set i (.obj c (putD f v ks ds).1 (putD f v ks ds).2))) fun x => d.er x ρ
    | _ => False) := by
  subst hf
  refine ps_imp (L2.ps_fld (pos := pos) hp he hs) fun De σ H ⟨F, ρ, G, d, r, q, h1, h2, h3, h4, h5⟩ => ?_
  dsimp only at q
  split at q
  · rename_i c ks ds hd
    obtain ⟨o, ho, a, dx, us, hv, a1, a2, a3, a4, a5⟩ := r.slot hd
    subst hv
    obtain ⟨q1, q2, q⟩ := q
    refine ⟨F, ρ, G, _, _, r, q, fun v G1 H1 dv x1 r1 q3 => ⟨.ref a, ho, a, _, dx, _, rfl, x1.hh _ _ a1, (ok.ok.atr _ (atB_mem q1)).1, (ok.ok.atr _ (atB_mem q1)).2, ?_, ?_⟩, fun c dx G1 H1 x x1 rx q1 => h5 c dx ρ G1 σ H1 x (r.ext x1) x1.gg rx q1⟩
    · rw [List.length_zip, List.length_map, a2, Nat.min_self, ← a2]
      exact q2
    · obtain ⟨ys, e1, e2, e3⟩ := putD_zip (NM := NM) inj (f := f) r1 (ks := ks) (a5.mono x1.gg) a2
      have b2 := x1.sep a (by rw [a1]; exact fun z => (nomatch z)) a3
      rw [e1]
      exact h1 _ G1 _ _ ((r.ext x1).chg hd ho ⟨rfl, trivial⟩ (fun b => obj_at) (.inr a4) ⟨a, dx, ys, rfl, upd_same, e3, b2, a4, e2⟩) x1.gg q3
  · exact q.elim
theorem ss_for (ok : OkS X NM B Φ Γ AT) {tg iter : Expr} {vs : List Nat} {fi : Ak} {fg : Gk} (hi : PI X tg iter (LW NM X.K W true fi)) (hg : PG X tg (LG NM X.K vs fg)) (hb : PSs X sts (LS_ NM X.K W f)) (hs : ∀ x, foldedSetIterable iter X.env x = pure x) :
    PS X (.For tg iter sts [] pos) (LS_ NM X.K W fun ρ d => fi ρ (fun ds => forW (fun v ρ' d' => fg v ρ' fun ρ'' => f ρ'' d') ds ρ d) fun x => d.er x ρ) :=
  ps_imp (ps_for ok.po ok.ok.calm hi hg hb hs) fun De σ H ⟨F, ρ, G, d, r, q, h1, h2, h3, h4, h5⟩ => ⟨F, ρ, G, _, _, r, q, fun J G1 H1 ds x1 wl hl q1 => by
    refine ⟨fun i m σ' H' => ∃ ρ' G', m = ds.length - i ∧ i ≤ ds.length ∧ R NM X.K F ρ' G' σ' H' ∧ Same G1 G' ∧ forW (fun v ρ' d' => fg v ρ' fun ρ'' => f ρ'' d') (ds.drop i) ρ' d, ⟨ds.length, ρ, G1, by omega, Nat.zero_le _, r.ext x1, .refl _, q1⟩, fun i m σ' H' ⟨ρ', G', em, ei, r', g', q'⟩ => ?_⟩
    have rl : Same G1 G' ∧ (true = false → Same H1 H') := ⟨g', fun z => (nomatch z)⟩
    by_cases hi : i < ds.length
    · obtain ⟨j1, j2⟩ := wl.go i G' H' r'.sub rl hi
      have eg : ds.drop i = ds[i] :: ds.drop (i + 1) := List.drop_eq_getElem_cons hi
      rw [eg] at q'
      refine .inr ⟨j1, fun σ2 H2 => ∃ ρ2 G2, R NM X.K F ρ2 G2 σ2 H2 ∧ Same G1 G2 ∧ forW (fun v ρ' d' => fg v ρ' fun ρ'' => f ρ'' d') (ds.drop (i + 1)) ρ2 d, fun σ2 H2 ⟨ρ2, G2, a1, a2, a3⟩ => ⟨ds.length - (i + 1), by omega, ρ2, G2, rfl, hi, a1, a2, a3⟩, fun x H2 hy => ?_⟩
      obtain ⟨G2, dv, x2, hd, rd⟩ := j2 x H2 hy
      rw [List.getElem?_eq_getElem hi] at hd
      cases hd
      have gg := x1.gg.trans (g'.trans x2.gg)
      refine ⟨F, ρ', G2, _, _, r'.ext x2, rd, q', fun σ3 ρ3 r3 _ q3 => ⟨F, ρ3, G2, _, r3, q3, fun ρ4 G4 σ4 H4 r4 g4 q4 => ⟨ρ4, G4, r4, (g'.trans x2.gg).trans g4, q4⟩, fun ρ4 G4 σ4 H4 r4 g4 q4 => h1 ρ4 G4 σ4 H4 r4 (gg.trans g4) q4,
        fun ρ4 G4 σ4 H4 r4 g4 q4 => ⟨ρ4, G4, r4, (g'.trans x2.gg).trans g4, q4⟩, fun v e ρ4 G4 σ4 H4 r4 g4 => h4 v e ρ4 G4 σ4 H4 r4 (gg.trans g4), fun c dx ρ4 G4 σ4 H4 x r4 g4 => h5 c dx ρ4 G4 σ4 H4 x r4 (gg.trans g4)⟩⟩
    · have e : i = ds.length := by omega
      subst e
      rw [List.drop_length] at q'
      exact .inl ⟨wl.stop G' H' r'.sub rl, h1 ρ' G' σ' H' r' (x1.gg.trans g') q'⟩, fun c dx G1 H1 x x1 rx q1 => h5 c dx ρ G1 σ H1 x (r.ext x1) x1.gg rx q1⟩
theorem ss_whl (ok : OkS X NM B Φ Γ AT) {c : Expr} {t : Tk} (hc : PT X c (LT NM X.K W t)) (hb : PSs X sts (LS_ NM X.K W f)) :
    PS X (.While c sts [] pos) (LS_ NM X.K W fun ρ d => ∃ n, whlW (fun ρ' d' => t ρ' (fun r => if r = true then f ρ' d' else d'.bk ρ') fun x => d'.er x ρ') n ρ d) :=
  ps_imp (ps_while ok.po hc hb) fun De σ H ⟨F, ρ, G, d, r, ⟨n, q⟩, h1, h2, h3, h4, h5⟩ => by
    refine ⟨fun m σ' H' => ∃ ρ' G', R NM X.K F ρ' G' σ' H' ∧ Same G G' ∧ whlW (fun ρ' d' => t ρ' (fun r => if r = true then f ρ' d' else d'.bk ρ') fun x => d'.er x ρ') m ρ' d, ⟨n, ρ, G, r, .refl _, q⟩, fun m σ' H' ⟨ρ', G', r', g', q'⟩ => ?_⟩
    cases m with
    | zero => exact q'.elim
    | succ m =>
      refine ⟨F, ρ', G', _, _, r', q', fun b G1 H1 x1 q1 => ?_, fun c dx G1 H1 x x1 rx q1 => h5 c dx ρ' G1 σ' H1 x (r'.ext x1) (g'.trans x1.gg) rx q1⟩
      have gg := g'.trans x1.gg
      cases b with
      | false => exact iteF (h1 ρ' G1 σ' H1 (r'.ext x1) gg q1)
      | true =>
        refine iteT ⟨fun σ2 H2 => ∃ ρ2 G2, R NM X.K F ρ2 G2 σ2 H2 ∧ Same G G2 ∧ whlW (fun ρ' d' => t ρ' (fun r => if r = true then f ρ' d' else d'.bk ρ') fun x => d'.er x ρ') m ρ2 d, fun σ2 H2 z => ⟨m, Nat.lt_succ_self m, z⟩, ?_⟩
        exact ⟨F, ρ', G1, _, r'.ext x1, q1, fun ρ4 G4 σ4 H4 r4 g4 q4 => ⟨ρ4, G4, r4, gg.trans g4, q4⟩, fun ρ4 G4 σ4 H4 r4 g4 q4 => h1 ρ4 G4 σ4 H4 r4 (gg.trans g4) q4,
          fun ρ4 G4 σ4 H4 r4 g4 q4 => ⟨ρ4, G4, r4, gg.trans g4, q4⟩, fun v e ρ4 G4 σ4 H4 r4 g4 => h4 v e ρ4 G4 σ4 H4 r4 (gg.trans g4), fun c dx ρ4 G4 σ4 H4 x r4 g4 => h5 c dx ρ4 G4 σ4 H4 x r4 (gg.trans g4)⟩
end
end Q

/-! QM: does the text of a block say what the small language says? Every statement. -/
namespace Q
open PySem PySem.Spec L2

def stRet : Stmt → Option (Option Expr)
  | .Return v _ => some v
  | _ => none
def stAsg : Stmt → Option (Expr × Expr × Pos)
  | .Assign [t] v p => some (t, v, p)
  | _ => none
def stAug : Stmt → Option (Expr × Operator × Expr)
  | .AugAssign t o v _ => some (t, o, v)
  | _ => none
def stFor : Stmt → Option (Expr × Expr × List Stmt)
  | .For t i b [] _ => some (t, i, b)
  | _ => none
def stWhl : Stmt → Option (Expr × List Stmt)
  | .While c b [] _ => some (c, b)
  | _ => none
def stIf : Stmt → Option (Expr × List Stmt × List Stmt)
  | .If c a b _ => some (c, a, b)
  | _ => none
def stExp : Stmt → Option Expr
  | .Expr e _ => some e
  | _ => none
theorem stRet_eq {s : Stmt} {v} (h : stRet s = some v) : ∃ p, s = .Return v p := by cases s <;> cases h; exact ⟨_, rfl⟩
theorem stAsg_eq {s : Stmt} {t v p} (h : stAsg s = some (t, v, p)) : s = .Assign [t] v p := by
  unfold stAsg at h
  split at h <;> cases h
  rfl
theorem stAug_eq {s : Stmt} {t o v} (h : stAug s = some (t, o, v)) : ∃ p, s = .AugAssign t o v p := by cases s <;> cases h; exact ⟨_, rfl⟩
theorem stFor_eq {s : Stmt} {t i b} (h : stFor s = some (t, i, b)) : ∃ p, s = .For t i b [] p := by
  unfold stFor at h
  split at h <;> cases h
  exact ⟨_, rfl⟩
theorem stWhl_eq {s : Stmt} {c b} (h : stWhl s = some (c, b)) : ∃ p, s = .While c b [] p := by
  unfold stWhl at h
  split at h <;> cases h
  exact ⟨_, rfl⟩
theorem stIf_eq {s : Stmt} {c a b} (h : stIf s = some (c, a, b)) : ∃ p, s = .If c a b p := by cases s <;> cases h; exact ⟨_, rfl⟩
theorem stExp_eq {s : Stmt} {e} (h : stExp s = some e) : ∃ p, s = .Expr e p := by cases s <;> cases h; exact ⟨_, rfl⟩
/-- no comprehension -/
def noLc : Expr → Bool
  | .ListComp _ _ _ _ => false
  | .SetComp _ _ _ _ => false
  | .DictComp _ _ _ _ _ => false
  | _ => true
/-- is the pair not stored name by name? -/
def noPar (t v : Expr) : Bool := match t, v with
  | .Tuple _ _ _, .Tuple _ _ _ => false
  | _, _ => true
/-- name = [..]: stored within the comprehension? -/
def swB (sc : Scope) (y : Str) (py : Pos) (v : Expr) (s : Scope) : Bool := (match sc.names.lookup y with | some .local => true | _ => false) && py.line == v.pos.line && !(s.names.any fun (n, k) => n == y && (k == .local || k == .cell))
def asPar : Expr → Expr → Option (Str × Str × Expr × Expr)
  | .Tuple [.Name x px, .Name y py] _ _, .Tuple [a, b] _ _ => if px.line == py.line then some (x, y, a, b) else none
  | _, _ => none
def asApp : Expr → Option (Str × Pos × Expr × Pos)
  | .Call (.Attribute (.Name x _) m ap) [e] [] p => if m = "append" then some (x, ap, e, p) else none
  | _ => none
def notFolded (a b : Expr) : Bool := !([a, b].all (foldedForSure 8)) && !([a, b].all (constantsAlone 8))

section
variable (NM : Nam) (N : List Str) (B : List Str) (Φ : List Cal) (Γ : List (Str × D))
mutual
def chS : S → Scope → Stmt → Bool
  | .frz _, _, _ => false
  | .asg t e, sc, s => match stAsg s with
    | some (x, v, p) => good x && e.noB && chTg N t sc x && (match t, e with
      | .nm i, .comp _ _ _ _ => chE NM N B Φ Γ e sc v
      | _, _ => noLc v && noPar x v && chE NM N B Φ Γ e sc v)
    | none => false
  | .new i e, sc, s => match stAsg s with
    | some (x, v, p) => (match asName x with
      | some y => e.fresh && decide (N[i]? = some y) && locB sc y && chE NM N B Φ Γ e sc v
      | none => false)
    | none => false
  | .par i j a b, sc, s => match stAsg s with
    | some (x, v, _) => (match asPar x v with
      | some (y, z, u, w) => decide (N[i]? = some y) && decide (N[j]? = some z) && decide (i ≠ j) && decide (y ≠ z) && (match sc.names.lookup y with | some .local => true | _ => false) && (match sc.names.lookup z with | some .local => true | _ => false) && good u && good w && a.noB && b.noB && notFolded u w && chE NM N B Φ Γ a sc u && chE NM N B Φ Γ b sc w
      | none => false)
    | none => false
  | .setIx i a e, sc, s => match stAsg s with
    | some (x, v, _) => (match asSub x with
      | some (o, ix) => (match asName o with
        | some y => varB N sc i y && good ix && a.noB && e.noB && chE NM N B Φ Γ a sc ix && chE NM N B Φ Γ e sc v
        | none => false)
      | none => false)
    | none => false
  | .app i e, sc, s => match stExp s with
    | some x => (match asApp x with
      | some (y, ap, v, p) => varB N sc i y && good v && e.noB && (ap.endLine == p.line) && chE NM N B Φ Γ e sc v
      | none => false)
    | none => false
  | .aug i o e, sc, s => match stAug s with
    | some (x, op, v) => (match asName x with
      | some y => decide (N[i]? = some y) && locB sc y && e.noB && (match o, op with | .add, .Add => true | .sub, .Sub => true | _, _ => false) && chE NM N B Φ Γ e sc v
      | none => false)
    | none => false
  | .fld i f e, sc, s => match stAsg s with
    | some (x, v, _) => (match asAtr x with
      | some (o, n) => (match asName o with
        | some y => varB N sc i y && decide (NM.at_ f = n) && e.noB && chE NM N B Φ Γ e sc v
        | none => false)
      | none => false)
    | none => false
  | .exp e, sc, s => match stExp s with
    | some x => e.noB && noLc x && chE NM N B Φ Γ e sc x
    | none => false
  | .ret e, sc, s => match stRet s with
    | some (some x) => e.noB && chE NM N B Φ Γ e sc x
    | _ => false
  | .retN, sc, s => match stRet s with
    | some none => true
    | _ => false
  | .ite c a b, sc, s => match stIf s with
    | some (x, y, z) => chT NM N B Φ Γ c sc x && chSs a sc y && chSs b sc z
    | none => false
  | .for_ t it b, sc, s => match stFor s with
    | some (x, y, z) => good y && (match it with | .ex a => a.noB | _ => true) && chI NM N B Φ Γ it sc x y && chTg N t sc x && chSs b sc z
    | none => false
  | .whl c b, sc, s => match stWhl s with
    | some (x, z) => chT NM N B Φ Γ c sc x && chSs b sc z
    | none => false
  | .brk, _, s => match s with
    | .Break _ => true
    | _ => false
  | .cnt, _, s => match s with
    | .Continue _ => true
    | _ => false
  | .pas, _, s => match s with
    | .Pass _ => true
    | _ => false
  | .nev, _, _ => true
def chSs : List S → Scope → List Stmt → Bool
  | [], _, [] => true
  | .frz _ :: r, sc, sts => chSs r sc sts
  | s :: r, sc, st :: sts => chS s sc st && chSs r sc sts
  | _, _, _ => false
end
end
end Q

/-! QN: every statement of the small language. -/
namespace Q
open PySem PySem.Spec L2
section
variable {NM : Nam} {B : List Str} {Φ : List Cal} {Γ : List (Str × D)} {AT : List (Nat × Nat)}
abbrev RS (NM : Nam) (B : List Str) (Φ : List Cal) (Γ : List (Str × D)) (AT : List (Nat × Nat)) (i : S) : Prop := ∀ (X : Cx) (W : WX) (st : Stmt), OkS X NM B Φ Γ AT → Takes X W → chS NM X.N B Φ Γ i X.env.scope st = true → PS X st (LS_ NM X.K W (wpS NM AT Φ Γ i))
abbrev RSs (NM : Nam) (B : List Str) (Φ : List Cal) (Γ : List (Str × D)) (AT : List (Nat × Nat)) (is : List S) : Prop := ∀ (X : Cx) (W : WX) (st : List Stmt), OkS X NM B Φ Γ AT → Takes X W → chSs NM X.N B Φ Γ is X.env.scope st = true → PSs X st (LS_ NM X.K W (wpSs NM AT Φ Γ is))
theorem noLc_swaps {X : Cx} {e : Expr} (h : noLc e = true) {t : Option Expr} {l : Nat} : swapsWith e t l X.env = pure false := by
  cases e <;> first | rfl | cases h
def notLst : Expr → Bool
  | .List _ _ => false
  | _ => true
theorem noPar_sw {X : Cx} {t v : Expr} (h : noPar t v = true) (hl : notLst t = true) : swappedStores [t] v X.env = pure none := by
  cases t <;> first | (cases hl; done) | (cases v <;> rfl) | skip
  cases v <;> first | (cases h; done) | rfl
theorem chTg_noList {X : Cx} {t : Tg} {sc : Scope} {x : Expr} (h : chTg X.N t sc x = true) : notLst x = true := by
  cases t with
  | nm i =>
    unfold chTg at h
    split at h
    · rename_i y hy
      obtain ⟨p, rfl⟩ := asName_eq hy
      rfl
    · cases h
  | tp ts =>
    unfold chTg at h
    split at h
    · rename_i y hy
      obtain ⟨k, p, rfl⟩ := asTup_eq hy
      rfl
    · cases h
variable (inj : ∀ i j, NM.at_ i = NM.at_ j → i = j)
include inj
/-- a new list's expression -/
theorem snN {i : E} (hf : i.fresh = true) (X : Cx) (W : WX) (e : Expr) (ok : Ok X NM B Φ Γ AT) (tk : Takes X W) (h : chE NM X.N B Φ Γ i X.env.scope e = true) : PE X e (LN NM X.K W (wpE NM AT Φ Γ i)) := by
  cases i <;> first | (cases hf; done) | skip
  · rename_i o a b
    cases o <;> first | (cases hf; done) | skip
    unfold chE at h
    split at h
    · rename_i x p y hx
      obtain ⟨q, rfl⟩ := asBin_eq hx
      obtain ⟨h, h3⟩ := band h
      obtain ⟨h1, h2⟩ := band h
      cases p <;> first | (cases h1; done) | skip
      exact sn_add (toB (N := []) (snE inj a X W _ ok tk h2) h2) (toB (N := []) (snE inj b X W _ ok tk h3) h3)
    · cases h
  · rename_i b as
    cases b <;> first | (cases hf; done) | skip
    cases as with
    | nil => cases hf
    | cons a as =>
      cases as with
      | cons _ _ => cases hf
      | nil =>
        unfold chE at h
        split at h
        · rename_i f x xs hx
          obtain ⟨q, rfl⟩ := asCall_eq hx
          obtain ⟨h, h3⟩ := band h
          obtain ⟨h1, h2⟩ := band h
          split at h1
          · rename_i n hn
            obtain ⟨p, rfl⟩ := asName_eq hn
            obtain ⟨h4, h5⟩ := band h1
            have en := of_decide_eq_true h4
            subst en
            obtain ⟨g1, g2, g3, g4⟩ := freB_ok (X := X) h5 rfl ok (bltN_ne .list)
            cases xs with
            | nil =>
              have h3' : chE NM X.N B Φ Γ a X.env.scope x = true := h3
              have := lf_ln (sf_list (W := W) (pos := q) (p := p) ok g1 g2 h2 g3 (bltB_eq .list (by intro z; cases z)) g4 (toB (N := []) (snE inj a X W _ ok tk h3') h3'))
              refine pe_imp this fun σ H Q ⟨F, ρ, G, kd, kx, r, w, h1, h2⟩ => ⟨F, ρ, G, kd, kx, r, ?_, h1, h2⟩
              simp only [wpE, wpEs] at w
              exact w
            | cons _ _ =>
              have h3' : chEs NM X.N B Φ Γ [a] X.env.scope (x :: _ :: _) = true := h3
              unfold chEs at h3'
              obtain ⟨_, h3'⟩ := band h3'
              unfold chEs at h3'
              cases h3'
          · cases h1
        · cases h
  · rename_i a lo hi
    exact lf_ln (rf_slc (snE inj a) (snO inj lo) (snO inj hi) X W e ok tk h)
  · rename_i as
    exact lf_ln (rf_lst (snEs inj as) X W e ok tk h)
  · rename_i a t it c
    exact lf_ln (rf_comp (snE inj a) (snI inj it) (snTs inj c) X W e ok tk h)
theorem rs_frz (i : Nat) : RS NM B Φ Γ AT (.frz i) := fun X W st ok tk h => by
  unfold chS at h
  cases h
omit inj in
theorem sw_eq {X : Cx} (hk : X.env.scope.kind = .function) {y : Str} {q q2 p : Pos} {x1 y1 z1 : Expr} {w1 : List Expr} {s1 : Scope} : swapsWith (.ListComp x1 [⟨y1, z1, w1, 0⟩] s1 q2) (some (.Name y q)) p.line X.env = pure (swB X.env.scope y q (.ListComp x1 [⟨y1, z1, w1, 0⟩] s1 q2) s1) := by
  have hb : X.env.blockKind = .function := by unfold PySem.Env.blockKind; rw [hk]; rfl
  unfold swapsWith swB
  simp only [hb, PySem.Env.kindOf]
  cases hk : X.env.scope.names.lookup y with
  | none => rfl
  | some k => cases k <;> rfl
/-- name = a comprehension -/
theorem rs_comp {X : Cx} {W : WX} (ok : OkS X NM B Φ Γ AT) (tk : Takes X W) {i : Nat} {a : E} {t2 : Tg} {it : It} {c : List T} {y : Str} {q p : Pos} {v : Expr} (k1 : X.N[i]? = some y) (k2 : locB X.env.scope y = true) (h : chE NM X.N B Φ Γ (.comp a t2 it c) X.env.scope v = true) :
    PS X (.Assign [.Name y q] v p) (tAsg (LF NM X.K W (wpE NM AT Φ Γ (.comp a t2 it c))) (gName i)) := by
  obtain ⟨hl, hfn⟩ := locB_loc (X := X) k2 ok.tg
  have h5' := h
  unfold chE at h
  split at h
  · rename_i x1 y1 z1 w1 s1 hx
    obtain ⟨q2, rfl⟩ := asComp_eq hx
    obtain ⟨h, m7⟩ := band h
    obtain ⟨h, m6⟩ := band h
    obtain ⟨h, m5⟩ := band h
    obtain ⟨h, m4⟩ := band h
    obtain ⟨h, m3⟩ := band h
    obtain ⟨m1, m2⟩ := band h
    have sw := sw_eq (X := X) ok.kind (y := y) (q := q) (q2 := q2) (p := p) (x1 := x1) (y1 := y1) (z1 := z1) (w1 := w1) (s1 := s1)
    by_cases hsw : swB X.env.scope y q (.ListComp x1 [⟨y1, z1, w1, 0⟩] s1 q2) s1 = true
    · rw [hsw] at sw
      have hloc : X.env.scope.names.lookup y = some .local := by
        unfold swB at hsw
        obtain ⟨hsw, _⟩ := band hsw
        obtain ⟨hsw, _⟩ := band hsw
        split at hsw
        · assumption
        · cases hsw
      exact ss_comp (W := W) ok.ok k1 hloc sw (snI inj it X W y1 z1 ok.ok tk m3).1 (blkOk_by m1) (fun s2 H1 C cl fp => sg (ok.ok.blk _ _ _ _ _) tgOk_blk t2 y1 m4) (fun s2 H1 C cl fp => snTs inj c _ W0 w1 (ok.ok.blk _ _ _ _ _) takes0 m5) (fun s2 H1 C cl fp => snE inj a _ W0 x1 (ok.ok.blk _ _ _ _ _) takes0 m7 m6) (foldGood m2)
    · have hsw' : swB X.env.scope y q (.ListComp x1 [⟨y1, z1, w1, 0⟩] s1 q2) s1 = false := by simpa using hsw
      rw [hsw'] at sw
      exact ps_set (pos := p) (pos' := q) ok.ok.nd k1 hl (rf_comp (snE inj a) (snI inj it) (snTs inj c) X W _ ok.ok tk h5') sw hfn
  · cases h
theorem rs_asg (t : Tg) (e : E) : RS NM B Φ Γ AT (.asg t e) := fun X W st ok tk h => by
  unfold chS at h
  split at h
  · rename_i x v p hs
    cases stAsg_eq hs
    obtain ⟨h, h4⟩ := band h
    obtain ⟨h, h3⟩ := band h
    obtain ⟨h1, h2⟩ := band h
    have nl := chTg_noList h3
    split at h4
    · rename_i i a t2 it c _ _
      unfold chTg at h3
      split at h3
      · rename_i y hy
        obtain ⟨q, rfl⟩ := asName_eq hy
        obtain ⟨k1, k2⟩ := band h3
        have ps := ss_fz (rs_comp inj (p := p) (q := q) ok tk (of_decide_eq_true k1) k2 h4)
        refine ps_imp ps fun De σ H ⟨F, ρ, G, d, r, w, z⟩ => ⟨F, ρ, G, d, r, ?_, z⟩
        simp only [wpS, bindW] at w
        exact w
      · cases h3
    · obtain ⟨h4, h7⟩ := band h4
      obtain ⟨h5, h6⟩ := band h4
      have ps := ss_asg (pos := p) ok (snE inj e X W v ok.ok tk h7 h2) (sg ok.ok ok.tg t x h3) (show swapsWith v (some x) p.line X.env = pure false from noLc_swaps h5) (noPar_sw h6 nl) h1
      refine ps_imp ps fun De σ H ⟨F, ρ, G, d, r, w, z⟩ => ⟨F, ρ, G, d, r, ?_, z⟩
      simp only [wpS] at w
      exact w
  · cases h
theorem rs_new (i : Nat) (e : E) : RS NM B Φ Γ AT (.new i e) := fun X W st ok tk h => by
  unfold chS at h
  split at h
  · rename_i x v p hs
    cases stAsg_eq hs
    split at h
    · rename_i y hy
      obtain ⟨q, rfl⟩ := asName_eq hy
      obtain ⟨h, h4⟩ := band h
      obtain ⟨h, k2⟩ := band h
      obtain ⟨hf, k1⟩ := band h
      obtain ⟨hl, hfn⟩ := locB_loc (X := X) k2 ok.tg
      have fin : ∀ {De : Ends} {σ : L2.St} {H : Hp}, LS_ NM X.K W (wpS NM AT Φ Γ (.new i e)) De σ H → LS_ NM X.K W (fun ρ d => wpE NM AT Φ Γ e ρ (fun v => d.nx (ρ.set i (slOf v))) fun x => d.er x ρ) De σ H := fun {De σ H} ⟨F, ρ, G, d, r, w, z⟩ => ⟨F, ρ, G, d, r, by
            simp only [wpS] at w
            exact w, z⟩
      by_cases hc : ∃ a t2 it c, e = .comp a t2 it c
      · obtain ⟨a, t2, it, c, rfl⟩ := hc
        have ps := rs_comp inj (p := p) (q := q) (W := W) ok tk (of_decide_eq_true k1) k2 h4
        refine ps_imp (ss_new (ps_imp ps fun De σ H w => ?_)) fun De σ H w => fin w
        obtain ⟨F, ρ, G, kd, kx, r, w, _, h1, h2⟩ := w
        exact ⟨F, ρ, G, kd, kx, r, w, h1, h2⟩
      · have hn : noLc v = true := by
          cases e <;> first | (cases hf; done) | exact absurd ⟨_, _, _, _, rfl⟩ hc | skip
          all_goals
            unfold chE at h4
            split at h4 <;> first | (cases h4; done) | skip
          · rename_i hx
            obtain ⟨_, rfl⟩ := asBin_eq hx
            rfl
          · rename_i hx
            obtain ⟨_, rfl⟩ := asCall_eq hx
            rfl
          · rename_i hx
            obtain ⟨_, rfl⟩ := asSub_eq hx
            rfl
          · rename_i hx
            obtain ⟨_, rfl⟩ := asLst_eq hx
            rfl
        have ps := ss_new (W := W) (NM := NM) (ps_set (pos := p) (pos' := q) ok.ok.nd (of_decide_eq_true k1) hl (snN inj hf X W v ok.ok tk h4) (noLc_swaps hn) hfn)
        exact ps_imp ps fun De σ H w => fin w
    · cases h
  · cases h
omit inj in
theorem asPar_eq {t v : Expr} {x y a b} (h : asPar t v = some (x, y, a, b)) : ∃ px py k p k2 p2, t = .Tuple [.Name x px, .Name y py] k p ∧ v = .Tuple [a, b] k2 p2 ∧ (px.line == py.line) = true := by
  unfold asPar at h
  split at h
  · split at h
    · rename_i hl
      cases h
      exact ⟨_, _, _, _, _, _, rfl, rfl, hl⟩
    · cases h
  · cases h
omit inj in
theorem rs_par (i j : Nat) {a b : E} (ia : RE NM B Φ Γ AT a) (ib : RE NM B Φ Γ AT b) : RS NM B Φ Γ AT (.par i j a b) := fun X W st ok tk h => by
  unfold chS at h
  split at h
  · rename_i x v p hs
    cases stAsg_eq hs
    split at h
    · rename_i y z u w hp
      obtain ⟨px, py, k, p1, k2, p2, rfl, rfl, hl⟩ := asPar_eq hp
      obtain ⟨h, m13⟩ := band h
      obtain ⟨h, m12⟩ := band h
      obtain ⟨h, m11⟩ := band h
      obtain ⟨h, m10⟩ := band h
      obtain ⟨h, m9⟩ := band h
      obtain ⟨h, m8⟩ := band h
      obtain ⟨h, m7⟩ := band h
      obtain ⟨h, m6⟩ := band h
      obtain ⟨h, m5⟩ := band h
      obtain ⟨h, m4⟩ := band h
      obtain ⟨h, m3⟩ := band h
      obtain ⟨m1, m2⟩ := band h
      have loc : ∀ {o : Option NameKind}, (match o with | some .local => true | _ => false) = true → o = some .local := fun {o} h => by
        split at h
        · rfl
        · cases h
      have ly := loc m5
      have lz := loc m6
      have nyz := of_decide_eq_true m4
      have hw : swappedStores [.Tuple [.Name y px, .Name z py] k p1] (.Tuple [u, w] k2 p2) X.env = pure (some [y, z]) := by
        have hb : X.env.blockKind = .function := by unfold PySem.Env.blockKind; rw [ok.kind]; rfl
        have ky : X.env.kindOf y = some .local := ly
        have kz : X.env.kindOf z = some .local := lz
        have st : ([u, w].any fun | .Starred .. => true | _ => false) = false := by
          cases u <;> first | (cases m7; done) | (cases w <;> first | (cases m8; done) | rfl)
        obtain ⟨f1, f2⟩ := band m11
        have g1 : ([u, w].all (foldedForSure 8)) = false := by rw [Bool.not_eq_true'] at f1; exact f1
        have g2 : ([u, w].all (constantsAlone 8)) = false := by rw [Bool.not_eq_true'] at f2; exact f2
        have l2 : py.line = px.line := (eq_of_beq hl).symm
        have hd : ([y, z].eraseDups.length != [y, z].length) = false := by
          have : (z == y) = false := beq_eq_false_iff_ne.mpr fun e => nyz e.symm
          simp [List.eraseDups_cons, this]
        unfold swappedStores
        simp only [hb, st, g1, g2, List.head?, List.filterMap, ky, kz, Expr.pos, l2]
        simp [nyz, List.eraseDups_cons, Ne.symm nyz]
        intro hh
        simp only [List.any_cons, List.any_nil, Bool.or_false, Bool.or_eq_false_iff] at st
        rcases hh with q | q
        · exact absurd (st.1.symm.trans q) (fun h => nomatch h)
        · exact absurd (st.2.symm.trans q) (fun h => nomatch h)
      exact ss_par (pos := p) ok (of_decide_eq_true m1) (of_decide_eq_true m2) (of_decide_eq_true m3) ly lz m7 m8 (ia X W _ ok.ok tk m12 m9) (ib X W _ ok.ok tk m13 m10) hw
    · cases h
  · cases h
omit inj in
theorem rs_setIx (i : Nat) {a e : E} (ia : RE NM B Φ Γ AT a) (ie : RE NM B Φ Γ AT e) : RS NM B Φ Γ AT (.setIx i a e) := fun X W st ok tk h => by
  unfold chS at h
  split at h
  · rename_i x v p hs
    cases stAsg_eq hs
    split at h
    · rename_i o ix hx
      obtain ⟨sp, rfl⟩ := asSub_eq hx
      split at h
      · rename_i y hy
        obtain ⟨q, rfl⟩ := asName_eq hy
        obtain ⟨h, m7⟩ := band h
        obtain ⟨h, m6⟩ := band h
        obtain ⟨h, m4⟩ := band h
        obtain ⟨h, m3⟩ := band h
        obtain ⟨m1, m2⟩ := band h
        have ps := ss_setIx (pos := p) (sp := sp) (varB_pv (p := q) m1 rfl rfl) m2 (ie X W _ ok.ok tk m7 m4) (ia X W _ ok.ok tk m6 m3) (show swapsWith v (some (.Subscript (.Name y q) ix sp)) p.line X.env = pure false from by cases v <;> rfl)
        refine ps_imp ps fun De σ H ⟨F, ρ, G, d, r, w, z⟩ => ⟨F, ρ, G, d, r, ?_, z⟩
        simp only [wpS] at w
        exact w
      · cases h
    · cases h
  · cases h
omit inj in
theorem asApp_eq {e : Expr} {x ap v p} (h : asApp e = some (x, ap, v, p)) : ∃ q, e = .Call (.Attribute (.Name x q) "append" ap) [v] [] p := by
  unfold asApp at h
  split at h
  · split at h
    · rename_i hm
      cases h
      subst hm
      exact ⟨_, rfl⟩
    · cases h
  · cases h
omit inj in
theorem rs_app (i : Nat) {e : E} (ie : RE NM B Φ Γ AT e) : RS NM B Φ Γ AT (.app i e) := fun X W st ok tk h => by
  unfold chS at h
  split at h
  · rename_i x hs
    obtain ⟨ep, rfl⟩ := stExp_eq hs
    split at h
    · rename_i y ap v p hx
      obtain ⟨q, rfl⟩ := asApp_eq hx
      obtain ⟨h, m5⟩ := band h
      obtain ⟨h, m4⟩ := band h
      obtain ⟨h, m3⟩ := band h
      obtain ⟨m1, m2⟩ := band h
      have ps := ss_app (pos := p) (ep := ep) (varB_pv (p := q) m1 rfl rfl) m2 (ie X W _ ok.ok tk m5 m3) m4
      refine ps_imp ps fun De σ H ⟨F, ρ, G, d, r, w, z⟩ => ⟨F, ρ, G, d, r, ?_, z⟩
      simp only [wpS] at w
      exact w
    · cases h
  · cases h
omit inj in
theorem rs_aug (i : Nat) (o : Bop) {e : E} (ie : RE NM B Φ Γ AT e) : RS NM B Φ Γ AT (.aug i o e) := fun X W st ok tk h => by
  unfold chS at h
  split at h
  · rename_i x op v hs
    obtain ⟨p, rfl⟩ := stAug_eq hs
    split at h
    · rename_i y hy
      obtain ⟨q, rfl⟩ := asName_eq hy
      obtain ⟨h, m5⟩ := band h
      obtain ⟨h, m4⟩ := band h
      obtain ⟨h, m3⟩ := band h
      obtain ⟨m1, m2⟩ := band h
      have ps := ss_aug (pos := p) (p := q) ok m4 (of_decide_eq_true m1) (locB_loc (X := X) m2 ok.tg).1 (ie X W _ ok.ok tk m5 m3)
      refine ps_imp ps fun De σ H ⟨F, ρ, G, d, r, w, z⟩ => ⟨F, ρ, G, d, r, ?_, z⟩
      simp only [wpS] at w
      exact w
    · cases h
  · cases h
theorem rs_fld (i f : Nat) {e : E} (ie : RE NM B Φ Γ AT e) : RS NM B Φ Γ AT (.fld i f e) := fun X W st ok tk h => by
  unfold chS at h
  split at h
  · rename_i x v p hs
    cases stAsg_eq hs
    split at h
    · rename_i o n hx
      obtain ⟨ap, rfl⟩ := asAtr_eq hx
      split at h
      · rename_i y hy
        obtain ⟨q, rfl⟩ := asName_eq hy
        obtain ⟨h, m5⟩ := band h
        obtain ⟨h, m3⟩ := band h
        obtain ⟨m1, m2⟩ := band h
        have ps := ss_fld inj (pos := p) (ap := ap) ok (varB_pv (p := q) m1 rfl rfl) (of_decide_eq_true m2) (ie X W _ ok.ok tk m5 m3) (by cases v <;> rfl)
        refine ps_imp ps fun De σ H ⟨F, ρ, G, d, r, w, z⟩ => ⟨F, ρ, G, d, r, ?_, z⟩
        simp only [wpS] at w
        exact w
      · cases h
    · cases h
  · cases h
omit inj in
theorem rs_exp {e : E} (ie : RE NM B Φ Γ AT e) : RS NM B Φ Γ AT (.exp e) := fun X W st ok tk h => by
  unfold chS at h
  split at h
  · rename_i x hs
    obtain ⟨p, rfl⟩ := stExp_eq hs
    obtain ⟨h, m3⟩ := band h
    obtain ⟨m1, m2⟩ := band h
    exact ss_exp (pos := p) (ie X W _ ok.ok tk m3 m1) (noLc_swaps m2)
  · cases h
omit inj in
theorem rs_ret {e : E} (ie : RE NM B Φ Γ AT e) : RS NM B Φ Γ AT (.ret e) := fun X W st ok tk h => by
  unfold chS at h
  split at h
  · rename_i x hs
    obtain ⟨p, rfl⟩ := stRet_eq hs
    obtain ⟨m1, m2⟩ := band h
    exact ss_ret (pos := p) (ie X W _ ok.ok tk m2 m1)
  · cases h
omit inj in
theorem rs_retN : RS NM B Φ Γ AT .retN := fun X W st ok tk h => by
  unfold chS at h
  split at h
  · rename_i hs
    obtain ⟨p, rfl⟩ := stRet_eq hs
    exact ss_retN
  · cases h
omit inj in
theorem rs_ite {c : T} {a b : List S} (ic : RT NM B Φ Γ AT c) (ia : RSs NM B Φ Γ AT a) (ib : RSs NM B Φ Γ AT b) : RS NM B Φ Γ AT (.ite c a b) := fun X W st ok tk h => by
  unfold chS at h
  split at h
  · rename_i x y z hs
    obtain ⟨p, rfl⟩ := stIf_eq hs
    obtain ⟨h, m3⟩ := band h
    obtain ⟨m1, m2⟩ := band h
    exact ss_ite (ic X W _ ok.ok tk m1) (ia X W _ ok tk m2) (ib X W _ ok tk m3)
  · cases h
omit inj in
theorem rs_for (t : Tg) {it : It} {b : List S} (ii : RI NM B Φ Γ AT it) (ib : RSs NM B Φ Γ AT b) : RS NM B Φ Γ AT (.for_ t it b) := fun X W st ok tk h => by
  unfold chS at h
  split at h
  · rename_i x y z hs
    obtain ⟨p, rfl⟩ := stFor_eq hs
    obtain ⟨h, m5⟩ := band h
    obtain ⟨h, m4⟩ := band h
    obtain ⟨h, m3⟩ := band h
    obtain ⟨m1, m2⟩ := band h
    exact ss_for ok ((ii X W x y ok.ok tk m3).2 fun a e => by subst e; exact m2) (sg ok.ok ok.tg t x m4) (ib X W _ ok tk m5) (foldGood m1)
  · cases h
omit inj in
theorem rs_whl {c : T} {b : List S} (ic : RT NM B Φ Γ AT c) (ib : RSs NM B Φ Γ AT b) : RS NM B Φ Γ AT (.whl c b) := fun X W st ok tk h => by
  unfold chS at h
  split at h
  · rename_i x z hs
    obtain ⟨p, rfl⟩ := stWhl_eq hs
    obtain ⟨m1, m2⟩ := band h
    exact ss_whl ok (ic X W _ ok.ok tk m1) (ib X W _ ok tk m2)
  · cases h
mutual
theorem snS : ∀ i : S, RS NM B Φ Γ AT i
  | .frz i => rs_frz inj i
  | .asg t e => rs_asg inj t e
  | .new i e => rs_new inj i e
  | .par i j a b => rs_par i j (snE inj a) (snE inj b)
  | .setIx i a e => rs_setIx i (snE inj a) (snE inj e)
  | .app i e => rs_app i (snE inj e)
  | .aug i o e => rs_aug i o (snE inj e)
  | .fld i f e => rs_fld inj i f (snE inj e)
  | .exp e => rs_exp (snE inj e)
  | .ret e => rs_ret (snE inj e)
  | .retN => rs_retN
  | .ite c a b => rs_ite (snT inj c) (snSs a) (snSs b)
  | .for_ t it b => rs_for t (snI inj it) (snSs b)
  | .whl c b => rs_whl (snT inj c) (snSs b)
  | .brk => fun X W st ok tk h => by
    unfold chS at h
    split at h
    · exact ss_brk
    · cases h
  | .cnt => fun X W st ok tk h => by
    unfold chS at h
    split at h
    · exact ss_cnt
    · cases h
  | .pas => fun X W st ok tk h => by
    unfold chS at h
    split at h
    · exact ss_pas
    · cases h
  | .nev => fun X W st ok tk h => ss_nev
theorem snSs : ∀ is : List S, RSs NM B Φ Γ AT is
  | [] => fun X W st ok tk h => by
    cases st with
    | nil => exact ss_nil
    | cons _ _ => unfold chSs at h; cases h
  | s :: r => fun X W st ok tk h => by
    by_cases hf : ∃ i, s = .frz i
    · obtain ⟨i, rfl⟩ := hf
      have h' : chSs NM X.N B Φ Γ r X.env.scope st = true := by
        cases st <;> (unfold chSs at h; exact h)
      have := ss_frz i (snSs r X W st ok tk h')
      refine pss_imp this fun De σ H ⟨F, ρ, G, d, q, w, z⟩ => ⟨F, ρ, G, d, q, ?_, z⟩
      simp only [wpSs, wpS] at w
      exact w
    · cases st with
      | nil =>
        unfold chSs at h
        cases s <;> first | cases h | exact absurd ⟨_, rfl⟩ hf
      | cons t ts =>
        have h' : (chS NM X.N B Φ Γ s X.env.scope t && chSs NM X.N B Φ Γ r X.env.scope ts) = true := by
          unfold chSs at h
          cases s <;> first | exact h | exact absurd ⟨_, rfl⟩ hf
        obtain ⟨m1, m2⟩ := band h'
        have := ss_cons (snS s X W t ok tk m1) (snSs r X W ts ok tk m2)
        refine pss_imp this fun De σ H ⟨F, ρ, G, d, q, w, z⟩ => ⟨F, ρ, G, d, q, ?_, z⟩
        simp only [wpSs] at w
        exact w
end
end
end Q

/-! QO: a def by its body in the small language; an __init__; the law's end. -/
namespace Q
open PySem PySem.Spec L2
open PyProof.Rows (envOfC)

/-- what the module holds -/
structure GE (K : PySem.W.Frag) (mg : Str → Option Value) (NM : Nam) (B : List Str) (Γ : List (Str × D)) (AT : List (Nat × Nat)) : Prop where
  fre : ∀ x, x ∈ B → x ≠ "isqrt!" → mg x = none
  isq : ("isqrt!" : Str) ∈ B → mg "isqrt" = some (.builtin "math.isqrt")
  glo : ∀ (j : Nat) (p : Str × D), Γ[j]? = some p → ∃ v u, mg p.1 = some u ∧ RelV v u ∧ ∀ G, Rep NM K G v p.2
  atr : ∀ (p : Nat × Nat), p ∈ AT → Cls K (He.ga K (NM.cl p.1)) ∧ NoAttr K (He.ga K (NM.cl p.1)) (NM.at_ p.2)

section
variable (P : Program) (w : World) (K : PySem.W.Frag) (mg : Str → Option Value) (base : Heap) (NM : Nam)
/-- a callee that may be called at the level k -/
structure CalE (k : Nat) (c : Cal) : Prop where
  df : c.mt = "" → ∃ j f fd ps ds dvs, j ≤ k ∧ FnOk P w K mg base (L2.CX P w) j f fd ps (LS NM K c.ar c.fs) ∧ mg c.nm = some (.ref f) ∧ PySem.W.keepIn K (.ref f) = true ∧ Binds K fd ps ds ∧ Vals dvs ds ∧ ∀ G, Reps NM K G dvs c.dfl
  cl : c.mt = "__init__" → ∃ j f fd ps ds dvs, j + 1 ≤ k ∧ FnOk P w K mg base (L2.CX P w) j f fd ps (LI NM K (c.ar + 1) c.cls c.is) ∧ mg c.nm = some (.ref (He.ga K (NM.cl c.cls))) ∧ Mk K (He.ga K (NM.cl c.cls)) f ∧ Binds K fd ps ds ∧ Vals dvs ds ∧ ∀ G, Reps NM K G dvs c.dfl
  me : c.mt ≠ "" → c.mt ≠ "__init__" → ∃ j f fd ps ds dvs, j ≤ k ∧ FnOk P w K mg base (L2.CX P w) j f fd ps (LS NM K c.ar c.fs) ∧ Cls K (He.ga K (NM.cl c.cls)) ∧ Meth K (He.ga K (NM.cl c.cls)) c.mt f ∧ Binds K fd ps ds ∧ Vals dvs ds ∧ ∀ G, Reps NM K G dvs c.dfl
end
theorem CalE.mono {P : Program} {w : World} {K : PySem.W.Frag} {mg : Str → Option Value} {base : Heap} {NM : Nam} {k m : Nat} {c : Cal} (h : CalE P w K mg base NM k c) (hm : k ≤ m) : CalE P w K mg base NM m c where
  df := fun e => by
    obtain ⟨j, f, fd, ps, ds, dvs, hj, r⟩ := h.df e
    exact ⟨j, f, fd, ps, ds, dvs, Nat.le_trans hj hm, r⟩
  cl := fun e => by
    obtain ⟨j, f, fd, ps, ds, dvs, hj, r⟩ := h.cl e
    exact ⟨j, f, fd, ps, ds, dvs, Nat.le_trans hj hm, r⟩
  me := fun e e' => by
    obtain ⟨j, f, fd, ps, ds, dvs, hj, r⟩ := h.me e e'
    exact ⟨j, f, fd, ps, ds, dvs, Nat.le_trans hj hm, r⟩
def startR (n : Nat) (ds : List D) : Env := ds.map .val ++ List.replicate (n - ds.length) .un

section
variable {P : Program} {w : World} {K : PySem.W.Frag} {mg : Str → Option Value} {base : Heap} {NM : Nam} {B : List Str} {Φ : List Cal} {Γ : List (Str × D)} {AT : List (Nat × Nat)}
theorem ok_of {CXX : CXT} {N ps : List Str} {qual : Str} {scope : Scope} {f : Addr} {cd : Value} {A : Around} {outer : List PySem.Env} {s : Shared} {H : Hp} {E : XK} {k : Nat} (S : FnScope N ps scope) (hr : Room k (A.deeper (envOfC qual scope s.heap.objs.size f cd))) (ge : GE K mg NM B Γ AT) (ce : ∀ c ∈ Φ, CalE P w K mg base NM k c) :
    Ok (cxOf (L2.CX P w) P w K mg base N qual scope f cd A outer s H E) NM B Φ Γ AT where
  calm := rfl
  nd := S.nd
  hu := by have := hr.un; show (A.deeper (envOfC qual scope s.heap.objs.size f cd)).units + 65 < cLine; omega
  fre := ge.fre
  isq := ge.isq
  glo := ge.glo
  dfs := fun c hc h => by
    obtain ⟨j, f, fd, ps, ds, dvs, hj, a, b, c, d, e, g⟩ := (ce c hc).df h
    exact ⟨j, f, fd, ps, ds, dvs, a, hr.mono hj, b, c, d, e, g⟩
  cls := fun c hc h => by
    obtain ⟨j, f, fd, ps, ds, dvs, hj, a, b, c, d, e, g⟩ := (ce c hc).cl h
    exact ⟨j, f, fd, ps, ds, dvs, a, hr.mono hj, b, c, d, e, g⟩
  met := fun c hc h h' => by
    obtain ⟨j, f, fd, ps, ds, dvs, hj, a, b, c, d, e, g⟩ := (ce c hc).me h h'
    exact ⟨j, f, fd, ps, ds, dvs, a, hr.mono hj, b, c, d, e, g⟩
  atr := ge.atr
theorem oks_of {N ps : List Str} {qual : Str} {scope : Scope} {f : Addr} {cd : Value} {A : Around} {outer : List PySem.Env} {s : Shared} {H : Hp} {E : XK} {k : Nat} (S : FnScope N ps scope) (hr : Room k (A.deeper (envOfC qual scope s.heap.objs.size f cd))) (ge : GE K mg NM B Γ AT) (ce : ∀ c ∈ Φ, CalE P w K mg base NM k c) :
    OkS (cxOf (L2.CX P w) P w K mg base N qual scope f cd A outer s H E) NM B Φ Γ AT where
  ok := ok_of S hr ge ce (CXX := L2.CX P w)
  kind := S.kind
  fn := fun _ => rfl
  po := passes_of (X := cxOf (L2.CX P w) P w K mg base N qual scope f cd A outer s H E) rfl
theorem start_val {G : Hp} {vs : List V} {ds : List D} (r : Reps NM K G vs ds) {n i : Nat} {s : Sl} {o : Option V} (h1 : (startR n ds)[i]? = some s) (h2 : (vs.map some ++ List.replicate (n - vs.length) (none : Option V))[i]? = some o) : s = .un ∨ ∃ v d, s = .val d ∧ o = some v ∧ Rep NM K G v d := by
  have hl := r.len
  unfold startR at h1
  by_cases hi : i < ds.length
  · rw [List.getElem?_append_left (by rw [List.length_map]; exact hi), List.getElem?_map] at h1
    rw [List.getElem?_append_left (by rw [List.length_map]; omega), List.getElem?_map] at h2
    obtain ⟨v, q1, q2⟩ := r.get (List.getElem?_eq_getElem hi)
    rw [List.getElem?_eq_getElem hi] at h1
    rw [q1] at h2
    cases h1
    cases h2
    exact .inr ⟨v, _, rfl, rfl, q2⟩
  · rw [List.getElem?_append_right (by rw [List.length_map]; omega), List.getElem?_replicate] at h1
    split at h1
    · cases h1
      exact .inl rfl
    · cases h1
theorem r_start {N : List Str} {G H : Hp} {vs : List V} {ds : List D} (r : Reps NM K G vs ds) (s : Same G H) : R NM K ⟨H, G, fun _ => False⟩ (startR N.length ds) G (L2.start N vs) H where
  len := by
    unfold startR L2.start
    rw [List.length_append, List.length_append, List.length_map, List.length_map, List.length_replicate, List.length_replicate, r.len]
  sub := s
  gg := .refl _
  keep := fun b o h _ => h
  md := fun b h => h.elim
  sep := fun b _ h => h
  sl := fun i s o h1 h2 => by
    rcases start_val r h1 h2 with rfl | ⟨v, d, rfl, rfl, h⟩
    · trivial
    · exact ⟨v, rfl, h⟩
  dis := fun i j s t o u a _ h1 _ h3 _ h5 _ => by
    rcases start_val r h1 h3 with rfl | ⟨v, d, rfl, rfl, h⟩
    · exact h5.2
    · exact h5.2
/-- THE RULE for a def -/
theorem def_ok {x qual : Str} {params : Arguments} {body : List Stmt} {scope : Scope} {dvs : List V} {kws : List (Str × V)} {f : Addr} {fd : FuncData} {N ps : List Str} {k : Nat} {fs : FS} {is : List S} (inj : ∀ i j, NM.at_ i = NM.at_ j → i = j)
    (Fd : FunD K x qual params body scope dvs kws f fd) (S : FnScope N ps scope) (ge : GE K mg NM B Γ AT) (ce : ∀ c ∈ Φ, CalE P w K mg base NM k c) (hc : chSs NM N B Φ Γ is scope body = true)
    (hw : ∀ ds kd kx, ds.length = ps.length → fs ds kd kx → wpSs NM AT Φ Γ is (startR N.length ds) { nx := fun _ => kd .non, rt := kd, bk := fun _ => False, ct := fun _ => False, er := fun x _ => kx x }) :
    FnOk P w K mg base (L2.CX P w) (k + 1) f fd ps (LS NM K ps.length fs) := by
  refine Fd.ok S (fun vs H Q E ⟨_, _, _, _, _, _, h, _⟩ => h) fun cdv A outer s H vs Q E hr hsp => ?_
  obtain ⟨G, ds, kd, kx, sub, rp, hl, hf, h1, h2⟩ := hsp
  have ok := oks_of (E := E) (outer := outer) (H := H) S hr ge ce
  have tk : Takes (cxOf (L2.CX P w) P w K mg base N qual scope f cdv A outer s H E) (fun cls d _ H => E cls d H) := takes_of (E₁ := fun e' s'' => L2.CX P w outer H s E e' s'') rfl rfl rfl rfl
  refine ⟨_, snSs inj is _ _ body ok tk hc, ⟨H, G, fun _ => False⟩, startR N.length ds, G, _, r_start rp sub, hw ds kd kx (by rw [← rp.len]; exact hl) hf, ?_, ?_, ?_, ?_, ?_⟩
  · intro ρ' G' σ' H' r g q
    exact h1 .non G' H' .non ⟨fun b o z => r.keep b o z (fun m => m), r.gg, r.sub, r.sep⟩ .non q
  · intro ρ' G' σ' H' r g q
    exact q.elim
  · intro ρ' G' σ' H' r g q
    exact q.elim
  · intro v e ρ' G' σ' H' r g rv q
    exact h1 v G' H' e ⟨fun b o z => r.keep b o z (fun m => m), r.gg, r.sub, r.sep⟩ rv q
  · intro cls dx ρ' G' σ' H' x r g rx q
    exact h2 cls dx G' H' x ⟨fun b o z => r.keep b o z (fun m => m), r.gg, r.sub, r.sep⟩ rx q
theorem R.slot' {F : Fr} {ρ : Env} {G H : Hp} {σ : L2.St} (r : R NM K F ρ G σ H) {i : Nat} {s : Sl} (h : ρ[i]? = some s) : ∃ o, σ[i]? = some o ∧ SlOk NM K F G H s o := by
  have hi : i < σ.length := by
    rw [← r.len]
    exact (List.getElem?_eq_some_iff.mp h).1
  exact ⟨σ[i], List.getElem?_eq_getElem hi, r.sl i s _ h (List.getElem?_eq_getElem hi)⟩
/-- the slots at an __init__'s entry -/
def startI (n c : Nat) (ds : List D) : Env := .obj c [] [] :: startR (n - 1) ds
def initNx (c : Nat) (kd : List Nat → List D → Prop) : List Sl → Prop
  | .obj c' ks xs :: _ => c' = c ∧ kd ks xs
  | _ => False
theorem init_ok {x qual : Str} {params : Arguments} {body : List Stmt} {scope : Scope} {dvs : List V} {kws : List (Str × V)} {f : Addr} {fd : FuncData} {N ps : List Str} {k c : Nat} {fs : IS} {is : List S} (inj : ∀ i j, NM.at_ i = NM.at_ j → i = j)
    (Fd : FunD K x qual params body scope dvs kws f fd) (S : FnScope N ps scope) (ge : GE K mg NM B Γ AT) (ce : ∀ c ∈ Φ, CalE P w K mg base NM k c) (hc : chSs NM N B Φ Γ is scope body = true) (hN : 0 < N.length)
    (hw : ∀ ds kd kx, ds.length + 1 = ps.length → fs ds kd kx → wpSs NM AT Φ Γ is (startI N.length c ds) { nx := initNx c kd, rt := fun _ => False, bk := fun _ => False, ct := fun _ => False, er := fun x _ => kx x }) :
    FnOk P w K mg base (L2.CX P w) (k + 1) f fd ps (LI NM K ps.length c fs) := by
  refine Fd.ok S (fun vs H Q E ⟨_, _, _, _, _, _, _, e, h, _⟩ => by rw [e]; exact h) fun cdv A outer s H vs Q E hr hsp => ?_
  obtain ⟨a, dx, us, G, ds, kd, kx, rfl, hl, sub, hx, gx, rp, hf, h1, h2⟩ := hsp
  have ok := oks_of (E := E) (outer := outer) (H := H) S hr ge ce
  have tk : Takes (cxOf (L2.CX P w) P w K mg base N qual scope f cdv A outer s H E) (fun cls d _ H => E cls d H) := takes_of (E₁ := fun e' s'' => L2.CX P w outer H s E e' s'') rfl rfl rfl rfl
  have est : L2.start N (V.ref a :: us) = some (.ref a) :: (us.map some ++ List.replicate (N.length - 1 - us.length) none) := by
    unfold L2.start
    rw [List.map_cons, List.cons_append, List.length_cons, show N.length - (us.length + 1) = N.length - 1 - us.length by omega]
  have rst : R NM K ⟨H, G, fun b => b = a⟩ (startI N.length c ds) G (L2.start N (V.ref a :: us)) H := by
    rw [est]
    unfold startI
    refine ⟨?_, sub, .refl _, fun b o z _ => z, fun b z => by rw [z, hx]; exact fun q => (nomatch q), fun b _ z => z, fun i s o z1 z2 => ?_, fun i j s t o u b hij z1 z2 z3 z4 z5 z6 => ?_⟩
    · unfold startR
      rw [List.length_cons, List.length_cons, List.length_append, List.length_append, List.length_map, List.length_map, List.length_replicate, List.length_replicate, rp.len]
    · cases i with
      | zero =>
        cases z1
        cases z2
        exact ⟨a, dx, [], rfl, hx, rfl, gx, rfl, .nil⟩
      | succ i =>
        rcases start_val rp z1 z2 with rfl | ⟨v, d, rfl, rfl, h⟩
        · trivial
        · exact ⟨v, rfl, h⟩
    · have no : ∀ {i : Nat} {s : Sl} {o : Option V}, (startR (N.length - 1) ds)[i]? = some s → (us.map some ++ List.replicate (N.length - 1 - us.length) (none : Option V))[i]? = some o → ownAt s o b → False := fun {i s o} z1 z2 z => by
        rcases start_val rp z1 z2 with rfl | ⟨v, d, rfl, rfl, h⟩
        · exact z.2
        · exact z.2
      cases i with
      | succ i => exact no z1 z3 z5
      | zero =>
        cases j with
        | zero => exact hij rfl
        | succ j => exact no z2 z4 z6
  have fin : ∀ {ρ' : Env} {G' : Hp} {σ' : L2.St} {H' : Hp}, R NM K ⟨H, G, fun b => b = a⟩ ρ' G' σ' H' → ∀ b o, H b = some o → b ≠ a → H' b = some o := fun r b o z n => r.keep b o z n
  refine ⟨_, snSs inj is _ _ body ok tk hc, ⟨H, G, fun b => b = a⟩, startI N.length c ds, G, _, rst, hw ds kd kx (by rw [← rp.len]; exact hl) hf, ?_, ?_, ?_, ?_, ?_⟩
  · intro ρ' G' σ' H' r g q
    have q' : initNx c kd ρ' := q
    unfold initNx at q'
    split at q'
    · rename_i c' ks xs tl
      obtain ⟨e, q'⟩ := q'
      subst e
      have h0 : (Sl.obj c' ks xs :: tl)[0]? = some (Sl.obj c' ks xs) := rfl
      obtain ⟨o, ho, y, dy, ys, hv, a1, a2, a3, a4, a5⟩ := r.slot' h0
      cases (show y = a from a4)
      exact h1 G' H' ks ys xs dy (fin r) r.gg r.sub r.sep a1 a2 a5 q'
    · exact q'.elim
  · intro ρ' G' σ' H' r g q
    exact q.elim
  · intro ρ' G' σ' H' r g q
    exact q.elim
  · intro v e ρ' G' σ' H' r g rv q
    exact q.elim
  · intro cls dx ρ' G' σ' H' x r g rx q
    exact h2 cls dx G' H' x (fin r) r.gg r.sub r.sep rx q
end
end Q

/-! QP: names by numbers; what the module's top leaves, by a Hook; the law's end. -/
namespace Q
open PySem PySem.Spec L2

/-! ### names by numbers -/
def nameAt (l : List Str) (i : Nat) : Str := match l[i]? with
  | some s => s
  | none => ⟨#[0, i]⟩
def plainNm (s : Str) : Bool := match s.cps.toList with
  | 0 :: _ => false
  | _ => true
theorem nameAt_inj {l : List Str} (nd : l.Nodup) (pl : l.all plainNm = true) : ∀ i j, nameAt l i = nameAt l j → i = j := by
  intro i j h
  have key : ∀ {a b : Nat} {s : Str}, l[a]? = some s → l[b]? = none → ¬ s = ⟨#[0, b]⟩ := fun {a b s} h1 h2 e => by
    have := List.all_eq_true.mp pl s (List.mem_of_getElem? h1)
    rw [e] at this
    cases this
  unfold nameAt at h
  cases hi : l[i]? with
  | some s =>
    cases hj : l[j]? with
    | some t =>
      rw [hi, hj] at h
      have e : s = t := h
      subst e
      obtain ⟨a1, a2⟩ := List.getElem?_eq_some_iff.mp hi
      obtain ⟨b1, b2⟩ := List.getElem?_eq_some_iff.mp hj
      exact (List.getElem_inj nd).mp (a2.trans b2.symm)
    | none =>
      rw [hi, hj] at h
      exact absurd h (key hi hj)
  | none =>
    cases hj : l[j]? with
    | some t =>
      rw [hi, hj] at h
      exact absurd h.symm (key hj hi)
    | none =>
      rw [hi, hj] at h
      injection h with h
      simpa using h

/-! ### constants of the module -/
mutual
def isD (K : PySem.W.Frag) : D → Value → Bool
  | .non, .none => true
  | .bl b, .bool c => b == c
  | .int i, .int j _ => decide (i = j)
  | .str s, .str t _ => decide (s = t)
  | .tup ds, .ref a => (match K.lookup a with
    | some ⟨.type c, _, .seq its _, _⟩ => decide (c = "tuple") && decide (its.size ≤ sizeLine) && isDs K ds its.toList
    | _ => false)
  | .ro ds, .ref a => (match K.lookup a with
    | some ⟨.type c, none, .seq its _, _⟩ => decide (c = "list") && decide (its.size ≤ sizeLine) && isDs K ds its.toList
    | _ => false)
  | _, _ => false
def isDs (K : PySem.W.Frag) : List D → List Value → Bool
  | [], [] => true
  | d :: ds, u :: us => isD K d u && isDs K ds us
  | _, _ => false
end
section
variable {K : PySem.W.Frag} {NM : Nam}
mutual
theorem isD_ok : ∀ {d : D} {u : Value}, isD K d u = true → ∃ v, RelV v u ∧ ∀ G, Rep NM K G v d
  | .non, u, h => by
    cases u <;> first | (cases h; done) | exact ⟨.non, rfl, fun G => .non⟩
  | .bl b, u, h => by
    cases u <;> first | (cases h; done) | skip
    cases eq_of_beq h
    exact ⟨.bl b, rfl, fun G => .bl b⟩
  | .int i, u, h => by
    cases u <;> first | (cases h; done) | skip
    cases of_decide_eq_true h
    exact ⟨.int i, ⟨_, rfl⟩, fun G => .int i⟩
  | .str s, u, h => by
    cases u <;> first | (cases h; done) | skip
    cases of_decide_eq_true h
    exact ⟨.str s, ⟨_, rfl⟩, fun G => .str s⟩
  | .tup ds, u, h => by
    cases u <;> first | (cases h; done) | skip
    rename_i a
    unfold isD at h
    split at h
    · rename_i c _ its _ _ hk
      obtain ⟨h, h3⟩ := band h
      obtain ⟨h1, h2⟩ := band h
      obtain ⟨vs, r1, r2⟩ := isDs_ok h3
      have hz := of_decide_eq_true h2
      refine ⟨.ref a, rfl, fun G => .tup (.inr ⟨_, its, _, hk, congrArg Value.type (of_decide_eq_true h1), rfl, hz, r1⟩) ?_ (r2 G)⟩
      rw [r1.length, Array.length_toList]
      exact hz
    · cases h
  | .lst ds, u, h => by cases u <;> cases h
  | .ro ds, u, h => by
    cases u <;> first | (cases h; done) | skip
    rename_i a
    unfold isD at h
    split at h
    · rename_i c its _ _ hk
      obtain ⟨h, h3⟩ := band h
      obtain ⟨h1, h2⟩ := band h
      obtain ⟨vs, r1, r2⟩ := isDs_ok h3
      have hz := of_decide_eq_true h2
      refine ⟨.ref a, rfl, fun G => .ro (.inr ⟨_, its, _, hk, congrArg Value.type (of_decide_eq_true h1), rfl, rfl, hz, r1⟩) ?_ (r2 G)⟩
      rw [r1.length, Array.length_toList]
      exact hz
    · cases h
  | .ins _ _ _, u, h => by cases u <;> cases h
  | .ty _, u, h => by cases u <;> cases h
theorem isDs_ok : ∀ {ds : List D} {us : List Value}, isDs K ds us = true → ∃ vs, Vals vs us ∧ ∀ G, Reps NM K G vs ds
  | [], [], _ => ⟨[], .nil, fun G => .nil⟩
  | [], _ :: _, h => by cases h
  | _ :: _, [], h => by cases h
  | d :: ds, u :: us, h => by
    unfold isDs at h
    obtain ⟨h1, h2⟩ := band h
    obtain ⟨v, a1, a2⟩ := isD_ok h1
    obtain ⟨vs, b1, b2⟩ := isDs_ok h2
    exact ⟨v :: vs, .cons a1 b1, fun G => .cons (a2 G) (b2 G)⟩
end
end
/-- the module's name x is d -/
def gloD (p : Str × D) (K : PySem.W.Frag) : Bool := match PySem.W.nsIn K mainGlobals p.1 with
  | some (some u) => isD K p.2 u
  | _ => false
def isqD (K : PySem.W.Frag) : Bool := match PySem.W.nsIn K mainGlobals "isqrt" with
  | some (some (.builtin b)) => decide (b = "math.isqrt")
  | _ => false

/-! ### the Hook -/
def obsQ (fa : List He.Fa) (fn : List He.DefD) (fb : List (PySem.W.Frag → Bool)) (K : PySem.W.Frag) : He.AlD := ((He.obsD fa fn K).1 && fb.all fun f => f K, (He.obsD fa fn K).2)
def SaysQ (fa : List He.Fa) (fn : List He.DefD) (fb : List (PySem.W.Frag → Bool)) (K : PySem.W.Frag) : Prop := obsQ fa fn fb K = He.valD fn
def obsQG (as : List Addr) (fa : List He.Fa) (fn : List He.DefD) (fb : List (PySem.W.Frag → Bool)) (g : Addr → Option Obj) : He.AlD := obsQ fa fn fb (He.frG g as)
def hookQ (as : List Addr) (fa : List He.Fa) (fn : List He.DefD) (fb : List (PySem.W.Frag → Bool)) : PySem.W.Hook where
  α := He.AlD
  obs := fun s => obsQG as fa fn fb s.heap.get?
  val := fun _ => He.valD fn
  says := fun _ h => ∃ K : PySem.W.Frag, K.In h ∧ SaysQ fa fn fb K
  of := fun _ _ e => ⟨_, He.frG_in, e⟩
  keeps := fun _ _ _ ⟨K, hK, c⟩ k => ⟨K, PySem.W.Frag.In.keeps hK k, c⟩
theorem obsQG_eq {as : List Addr} {fa : List He.Fa} {fn : List He.DefD} {fb : List (PySem.W.Frag → Bool)} {g : Addr → Option Obj} {s : Shared} (h : ∀ a, g a = s.heap.get? a) : obsQG as fa fn fb g = (hookQ as fa fn fb).obs s := by
  have e : g = s.heap.get? := funext h
  rw [e] <;> rfl
section
variable {fa : List He.Fa} {fn : List He.DefD} {fb : List (PySem.W.Frag → Bool)} {K : PySem.W.Frag}
theorem SaysQ.d (c : SaysQ fa fn fb K) : He.SaysD fa fn K := by
  have c' : obsQ fa fn fb K = He.valD fn := c
  unfold obsQ He.valD at c'
  have c1 := congrArg (fun z : He.AlD => z.1) c'
  have c2 := congrArg (fun z : He.AlD => z.2) c'
  have c1' := (band c1).1
  show He.obsD fa fn K = He.valD fn
  exact Prod.ext c1' c2
theorem SaysQ.b (c : SaysQ fa fn fb K) (i : Nat) {f : PySem.W.Frag → Bool} (h : fb[i]? = some f) : f K = true := by
  have c' : obsQ fa fn fb K = He.valD fn := c
  unfold obsQ He.valD at c'
  have c1 := congrArg (fun z : He.AlD => z.1) c'
  exact List.all_eq_true.mp (band c1).2 f (List.mem_of_getElem? h)
theorem SaysQ.ball (c : SaysQ fa fn fb K) : (fb.all fun f => f K) = true := by
  have c' : obsQ fa fn fb K = He.valD fn := c
  unfold obsQ He.valD at c'
  exact (band (congrArg (fun z : He.AlD => z.1) c')).2
theorem SaysQ.aall (c : SaysQ fa fn fb K) : (fa.all fun f => f.ok K) = true := by
  have c1 := congrArg (fun z : He.AlD => z.1) (show He.obsD fa fn K = He.valD fn from c.d)
  exact (band c1).1
end
/-- all that the law's proof takes from the top -/
structure Hd (fa : List He.Fa) (fn : List He.DefD) (fb : List (PySem.W.Frag → Bool)) (K : PySem.W.Frag) (mg : Str → Option Value) : Prop where
  says : SaysQ fa fn fb K
  h : ∃ h : Heap, K.In h ∧ h.Ns mainGlobals mg
section
variable {fa : List He.Fa} {fn : List He.DefD} {fb : List (PySem.W.Frag → Bool)} {K : PySem.W.Frag} {mg : Str → Option Value} {NM : Nam}
theorem Hd.glo (c : Hd fa fn fb K mg) {x : Str} (i : Nat) (h : fa[i]? = some (.glo x) := by rfl) : mg x = some (.ref (He.ga K x)) := by
  obtain ⟨hp, a, b⟩ := c.h
  exact He.glo_ok a b (c.says.d.fact i h)
theorem Hd.def_ (c : Hd fa fn fb K mg) (i : Nat) {d : He.DefD} (h : fn[i]? = some d := by rfl) : ∃ fd, FunD K d.name d.qual d.params d.body d.scope (d.dvs K) (d.kws K) (He.fAd K d.at_) fd := c.says.d.def_ i h
/-- the module's names: B free (and isqrt), Γ constants, AT attributes; fb is the constants' facts, then isqrt's -/
theorem Hd.ge (c : Hd fa fn fb K mg) {B : List Str} {Γ : List (Str × D)} {AT : List (Nat × Nat)}
    (hB : B.all (fun x => decide (x = "isqrt!") || fa.any fun f => match f with | .free y => decide (x = y) | _ => false) = true)
    (hI : ("isqrt!" : Str) ∈ B → isqD K = true) (hG : ∀ (p : Str × D), p ∈ Γ → gloD p K = true)
    (hA : AT.all (fun p => (fa.any fun f => match f with | .cls y => decide (NM.cl p.1 = y) | _ => false) && fa.any fun f => match f with | .noat y z => decide (NM.cl p.1 = y) && decide (NM.at_ p.2 = z) | _ => false) = true) : GE K mg NM B Γ AT := by
  obtain ⟨hp, a, b⟩ := c.h
  have A := List.all_eq_true.mp c.says.aall
  refine ⟨fun x hx hn => ?_, fun hx => ?_, fun j p hj => ?_, fun p hp' => ?_⟩
  · have q := List.all_eq_true.mp hB x hx
    rcases Bool.or_eq_true_iff.mp q with q | q
    · exact absurd (of_decide_eq_true q) hn
    · obtain ⟨f, hf, q⟩ := List.any_eq_true.mp q
      split at q
      · rename_i y
        cases of_decide_eq_true q
        exact He.free_ok a b (A _ hf)
      · cases q
  · have q := hI hx
    unfold isqD at q
    split at q
    · rename_i z hz
      cases of_decide_eq_true q
      exact PySem.W.mg_of a b hz
    · cases q
  · have q := hG p (List.mem_of_getElem? hj)
    unfold gloD at q
    split at q
    · rename_i u hu
      obtain ⟨v, r1, r2⟩ := isD_ok (NM := NM) q
      exact ⟨v, u, PySem.W.mg_of a b hu, r1, r2⟩
    · cases q
  · obtain ⟨q1, q2⟩ := band (List.all_eq_true.mp hA p hp')
    obtain ⟨f, hf, q1⟩ := List.any_eq_true.mp q1
    obtain ⟨g, hg, q2⟩ := List.any_eq_true.mp q2
    refine ⟨?_, ?_⟩
    · split at q1
      · rename_i y
        cases of_decide_eq_true q1
        exact He.cls_ok (A _ hf)
      · cases q1
    · split at q2
      · rename_i y z
        obtain ⟨e1, e2⟩ := band q2
        cases of_decide_eq_true e1
        cases of_decide_eq_true e2
        exact He.noat_ok (A _ hg)
      · cases q2
end
/-! ### the law's end -/
/-- what the law's def promises -/
def fsLaw : FS := fun ds k _ => ∃ ns : List Int, ds = [.ro (ns.map .int)] ∧ ns.length ≤ 63 ∧ (∀ z ∈ ns, Builtin.Int.intBits z ≤ 1048576) ∧ k (.bl true)
def spLaw (K : PySem.W.Frag) : Sp := fun vs H Q _ => ∃ (a : Addr) (ns : List Int), vs = [.ref a] ∧ SqL K H a (ns.map V.int) ∧ ns.length ≤ 63 ∧ (∀ z ∈ ns, Builtin.Int.intBits z ≤ 1048576) ∧ ∀ H', Q (.bl true) H'
/-- the walk's end, the script's bits told -/
theorem walk_q {l : PySem.W.OpenLaw} {n k : Nat} {q : Program} {loose : List Str} {XP : (Str → Option Value) → Heap → Prop} {YP : World → Heap → Prop} {d : DefRec} {CX : CXT} {x : Str}
    (hn : l.most = some n) (hn2 : n ≤ sizeLine) (hdf : d.params.defaults = []) (hr : Room k PySem.callerA)
    (F : ∀ (w : World) (mg : Str → Option Value) (fa : Addr) (h : Heap), YP w h → h.Ns mainGlobals mg → mg d.name = some (.ref fa) →
      ∃ (K : PySem.W.Frag) (fd : FuncData) (sp : Sp), K.In h ∧ (∀ (s : Shared) (u : Value), BindsTo s fd ⟨[u], []⟩ [(x, u)]) ∧
        (∀ (H : Hp) (a : Addr) (ns : List Int), ns.length ≤ n → (∀ z ∈ ns, Builtin.Int.intBits z ≤ 1048576) → SqL K H a (ns.map V.int) → sp [.ref a] H (fun v _ => v = .bl true) fun _ _ _ => False) ∧
        ∀ base : Heap, K.In base → base.Ns mainGlobals mg → FnOk l.prog w K mg base CX k fa fd [x] sp)
    (hCX : ∀ (H : Hp) (s : Shared) (e : Value) (s' : Shared), CX [] H s (fun _ _ _ => False) e s' → False) :
    PySem.W.WalkO q loose XP YP l.row.toRowW d [] (fun f vs => PySem.call f vs) := by
  refine Att.attach_callB hn hdf fun w s₀ s₁ mg mb fa o pm cd doc a vs ns G Y ho hd hcd hmg hobj hints hlen hbits hg => ?_
  obtain ⟨K, fd, sp, KX, hb, hsp, hF⟩ := F w mg fa _ Y G.T.g hmg
  exact law_call KX G.T.g G.T.b G.T.builtins G.T.nolimit hg hobj hints (Nat.le_trans hlen hn2) hr hF hb (fun H hO hS => hsp H a ns hlen hbits hS) fun H e s' => hCX H s₁ e s'
theorem law_ok {P : Program} {w : World} {K : PySem.W.Frag} {mg : Str → Option Value} {base : Heap} {NM : Nam} {k : Nat} {f : Addr} {fd : FuncData} {x : Str} (F : FnOk P w K mg base (L2.CX P w) k f fd [x] (LS NM K 1 fsLaw)) : FnOk P w K mg base CX0 k f fd [x] (spLaw K) := by
  refine ⟨fun vs H Q E ⟨_, _, h, _⟩ => by rw [h]; rfl, fun A outer s H args us vs Q E hr e0 hb hv hsp => ?_⟩
  obtain ⟨a, ns, rfl, hs, hl, hz, q⟩ := hsp
  refine codeAny_mono (F.run A outer s H args us _ (fun v H' => v = .bl true) (fun _ _ _ => False) hr e0 hb hv ⟨H, [.ro (ns.map .int)], fun d => d = .bl true, fun _ => False, .refl _, .cons (.ro hs (by rw [List.length_map, sizeLine_eq]; omega) .ints) .nil, rfl, ⟨ns, rfl, hl, hz, rfl⟩, fun v G' H' d _ r e => by subst e; cases r; rfl, fun _ _ _ _ _ _ _ z => z⟩) fun r s' hq => ?_
  cases r with
  | error e =>
    obtain ⟨_, _, _, _, _, _, _, _, _, _, _, _, z⟩ := hq
    exact z.elim
  | ok fl =>
    cases fl with
    | ret u =>
      obtain ⟨v, H', a1, a2, a3, a4, a5, e⟩ := hq
      subst e
      exact ⟨_, H', a1, a2, a3, a4, a5, q H'⟩
    | next => exact hq
    | brk => exact hq
    | cont => exact hq
end Q

namespace Q
open PySem PySem.Spec L2
def top (i : Nat) : Stmt := PySem.Challenge.pw_orrery_k42_sites_are_in_their_boxes.main.body.getD i (.Pass ⟨0, 0, 0, 0⟩)
abbrev BB : List Str := ["int", "len", "range", "bool", "isinstance", "tuple", "max", "min", "zip"]
abbrev st_law_row : Stmt := top 23
def d_law_row : He.DefD := ⟨("_law_row", none), "_law_row", "_law_row", defArgs st_law_row, defBody st_law_row, defScope st_law_row, [], []⟩
abbrev st_law_turn : Stmt := top 25
def d_law_turn : He.DefD := ⟨("_law_turn", none), "_law_turn", "_law_turn", defArgs st_law_turn, defBody st_law_turn, defScope st_law_turn, [], []⟩
abbrev st_check : Stmt := top 18
def d_check : He.DefD := ⟨("check", none), "check", "check", defArgs st_check, defBody st_check, defScope st_check, [], []⟩
abbrev st_Body___init__ : Stmt := inClass (top 20) 0
def d_Body___init__ : He.DefD := ⟨("Body", some "__init__"), "__init__", "Body.__init__", defArgs st_Body___init__, defBody st_Body___init__, defScope st_Body___init__, [], []⟩
abbrev st_law_spread : Stmt := top 24
def d_law_spread : He.DefD := ⟨("_law_spread", none), "_law_spread", "_law_spread", defArgs st_law_spread, defBody st_law_spread, defScope st_law_spread, [], []⟩
abbrev st_law_site : Stmt := top 29
def d_law_site : He.DefD := ⟨("_law_site", none), "_law_site", "_law_site", defArgs st_law_site, defBody st_law_site, defScope st_law_site, [], []⟩
abbrev st_is_name : Stmt := top 19
def d_is_name : He.DefD := ⟨("is_name", none), "is_name", "is_name", defArgs st_is_name, defBody st_is_name, defScope st_is_name, [], []⟩
abbrev st_Site___init__ : Stmt := inClass (top 21) 0
def d_Site___init__ : He.DefD := ⟨("Site", some "__init__"), "__init__", "Site.__init__", defArgs st_Site___init__, defBody st_Site___init__, defScope st_Site___init__, [], []⟩
abbrev st_law_turned : Stmt := top 26
def d_law_turned : He.DefD := ⟨("_law_turned", none), "_law_turned", "_law_turned", defArgs st_law_turned, defBody st_law_turned, defScope st_law_turned, [], []⟩
abbrev st_law_station : Stmt := top 27
def d_law_station : He.DefD := ⟨("_law_station", none), "_law_station", "_law_station", defArgs st_law_station, defBody st_law_station, defScope st_law_station, [], []⟩
abbrev st_law_is_number : Stmt := top 28
def d_law_is_number : He.DefD := ⟨("_law_is_number", none), "_law_is_number", "_law_is_number", defArgs st_law_is_number, defBody st_law_is_number, defScope st_law_is_number, [], []⟩
abbrev st_law_encloses : Stmt := top 30
def d_law_encloses : He.DefD := ⟨("_law_encloses", none), "_law_encloses", "_law_encloses", defArgs st_law_encloses, defBody st_law_encloses, defScope st_law_encloses, [], []⟩
abbrev st_rounded : Stmt := top 2
def d_rounded : He.DefD := ⟨("rounded", none), "rounded", "rounded", defArgs st_rounded, defBody st_rounded, defScope st_rounded, [], []⟩
abbrev st_products : Stmt := top 3
def d_products : He.DefD := ⟨("products", none), "products", "products", defArgs st_products, defBody st_products, defScope st_products, [], []⟩
abbrev st_limited : Stmt := top 4
def d_limited : He.DefD := ⟨("limited", none), "limited", "limited", defArgs st_limited, defBody st_limited, defScope st_limited, [], []⟩
abbrev st_together : Stmt := top 5
def d_together : He.DefD := ⟨("together", none), "together", "together", defArgs st_together, defBody st_together, defScope st_together, [], []⟩
abbrev st_unit_power : Stmt := top 6
def d_unit_power : He.DefD := ⟨("unit_power", none), "unit_power", "unit_power", defArgs st_unit_power, defBody st_unit_power, defScope st_unit_power, [], []⟩
abbrev st_plus : Stmt := top 9
def d_plus : He.DefD := ⟨("plus", none), "plus", "plus", defArgs st_plus, defBody st_plus, defScope st_plus, [], []⟩
abbrev st_times : Stmt := top 8
def d_times : He.DefD := ⟨("times", none), "times", "times", defArgs st_times, defBody st_times, defScope st_times, [], []⟩
abbrev st_site_at : Stmt := top 10
def d_site_at : He.DefD := ⟨("site_at", none), "site_at", "site_at", defArgs st_site_at, defBody st_site_at, defScope st_site_at, [], []⟩
abbrev st_wider : Stmt := top 11
def d_wider : He.DefD := ⟨("wider", none), "wider", "wider", defArgs st_wider, defBody st_wider, defScope st_wider, [], []⟩
abbrev st_site_over : Stmt := top 12
def d_site_over : He.DefD := ⟨("site_over", none), "site_over", "site_over", defArgs st_site_over, defBody st_site_over, defScope st_site_over, [], []⟩
abbrev st_law : Stmt := top 31
def d_law : He.DefD := ⟨("law", none), "law", "law", defArgs st_law, defBody st_law, defScope st_law, [], []⟩
def fn : List He.DefD := [d_law_row, d_law_turn, d_check, d_Body___init__, d_law_spread, d_law_site, d_is_name, d_Site___init__, d_law_turned, d_law_station, d_law_is_number, d_law_encloses, d_rounded, d_products, d_limited, d_together, d_unit_power, d_plus, d_times, d_site_at, d_wider, d_site_over, d_law]
def fa : List He.Fa := [.glo "_law_row", .glo "_law_turn", .glo "check", .glo "_law_spread", .glo "_law_site", .glo "is_name", .glo "_law_turned", .glo "_law_station", .glo "_law_is_number", .glo "_law_encloses", .glo "rounded", .glo "products", .glo "limited", .glo "together", .glo "unit_power", .glo "plus", .glo "times", .glo "site_at", .glo "wider", .glo "site_over", .glo "law", .glo "Body", .glo "Site", .free "int", .free "len", .free "range", .free "bool", .free "isinstance", .free "tuple", .free "max", .free "min", .free "zip", .cls "Body", .cls "Site", .noat "Body" "mu", .noat "Body" "oblateness", .noat "Body" "turn", .noat "Site" "name", .noat "Site" "place", .mkr "Body", .mkr "Site"]
def fb : List (PySem.W.Frag → Bool) := [gloD ("MOST", .int 1000000000000000), gloD ("SCALE", .int 1000000000000000000)]
def oth0 : List Str := ["SCALE", "rounded", "products", "limited", "together", "unit_power", "times", "plus", "site_at", "wider", "site_over", "OrreryError", "BadArgument", "MOST", "check", "is_name", "Body", "Site", "_law_row", "_law_spread"]
def oth1 : List Str := ["_law_turn", "_law_turned", "_law_station", "_law_is_number", "_law_site", "_law_encloses"]
def oth : List Str := oth0 ++ oth1
abbrev RR : PySem.W.OpenRow := PySem.W.OpenLaw.row PySem.Challenge.rw_orrery_k42_sites_are_in_their_boxes
def AS : List Addr := [3, 6, 4, 21, 28, 35, 42, 49, 56, 63, 70, 77, 84, 94, 116, 125, 132, 149, 170, 181, 188, 195, 202, 209, 216, 223, 230, 235, 0, 20, 27, 34, 41, 48, 55, 62, 69, 76, 83, 93, 115, 124, 131, 148, 169, 180, 187, 194, 201, 208, 215, 222, 229, 234, 15, 16, 17, 18, 19, 22, 23, 24, 25, 26, 29, 30, 31, 32, 33, 36, 37, 38, 39, 40, 43, 44, 45, 46, 47, 50, 51, 52, 53, 54, 57, 58, 59, 60, 61, 64, 65, 66, 67, 68, 71, 72, 73, 74, 75, 78, 79, 80, 81, 82, 92, 95, 113, 114, 119, 120, 121, 122, 123, 126, 127, 128, 129, 130, 146, 147, 150, 151, 167, 168, 171, 172, 175, 176, 177, 178, 179, 182, 183, 184, 185, 186, 189, 190, 191, 192, 193, 196, 197, 198, 199, 200, 203, 204, 205, 206, 207, 210, 211, 212, 213, 214, 217, 218, 219, 220, 221, 224, 225, 226, 227, 228, 231, 232, 233, 112, 101, 145, 166, 107, 108, 109, 110, 111, 140, 141, 142, 143, 144, 161, 162, 163, 164, 165]
abbrev hk : PySem.W.Hook := hookQ AS fa fn fb
def ob (s : PySem.W.SharedT) : He.AlD := obsQG AS fa fn fb (HandSHeadRun.getT s)
theorem ob_eq (s : PySem.W.SharedT) : ob s = hk.obs s.abs := obsQG_eq (HandSHeadRun.getT_eq s)
theorem run (w : World) : HandSHeadRun.RunEq RR (PySem.W.view RR.prog [31]) hk ob 12000 oth w := by
  intro os
  kernel_rfl
end Q
/-! QR: tools for the laws' own proofs. -/
namespace Q
open PySem PySem.Spec L2
section
variable {NM : Nam} {AT : List (Nat × Nat)} {Φ : List Cal} {Γ : List (Str × D)}
/-- one statement, its rest kept shut -/
theorem stp {s : S} {ss : List S} {ρ : Env} {d : Dn} (h : ∀ nx : Env → Prop, (∀ ρ', wpSs NM AT Φ Γ ss ρ' d → nx ρ') → wpS NM AT Φ Γ s ρ ⟨nx, d.rt, d.bk, d.ct, d.er⟩) : wpSs NM AT Φ Γ (s :: ss) ρ d := h _ fun _ h => h
/-- one statement, its joint J -/
theorem cut (J : Env → Prop) {s : S} {ss : List S} {ρ : Env} {d : Dn} (h : ∀ nx : Env → Prop, (∀ ρ', J ρ' → nx ρ') → wpS NM AT Φ Γ s ρ ⟨nx, d.rt, d.bk, d.ct, d.er⟩) (g : ∀ ρ', J ρ' → wpSs NM AT Φ Γ ss ρ' d) : wpSs NM AT Φ Γ (s :: ss) ρ d := h _ g
theorem wpSs_nil {ρ : Env} {d : Dn} : wpSs NM AT Φ Γ [] ρ d = d.nx ρ := rfl
theorem nil {ρ : Env} {d : Dn} (h : d.nx ρ) : wpSs NM AT Φ Γ [] ρ d := h
end
/-- a loop over a list: I says what holds with the rest still to come -/
theorem for_list (I : List D → Env → Prop) {b : D → Env → Dn → Prop} {d : Dn} (h : ∀ x r ρ, I (x :: r) ρ → ∀ nx ct : Env → Prop, (∀ ρ', I r ρ' → nx ρ') → (∀ ρ', I r ρ' → ct ρ') → b x ρ ⟨nx, d.rt, d.nx, ct, d.er⟩) (e : ∀ ρ, I [] ρ → d.nx ρ) : ∀ {l : List D} {ρ : Env}, I l ρ → forW b l ρ d
  | [], ρ, i => e ρ i
  | x :: r, ρ, i => h x r ρ i _ _ (fun _ j => for_list I h e j) fun _ j => for_list I h e j
theorem for_range (I : Nat → Env → Prop) {b : D → Env → Dn → Prop} {d : Dn} {lo : Int} {n : Nat} {ρ : Env} (i0 : I 0 ρ) (h : ∀ i ρ, i < n → I i ρ → ∀ nx ct : Env → Prop, (∀ ρ', I (i + 1) ρ' → nx ρ') → (∀ ρ', I (i + 1) ρ' → ct ρ') → b (.int (lo + (i : Nat))) ρ ⟨nx, d.rt, d.nx, ct, d.er⟩) (e : ∀ ρ, I n ρ → d.nx ρ) : forW b (rangeD lo n) ρ d := by
  refine for_list (fun l ρ => ∃ i, i ≤ n ∧ l = (rangeD lo n).drop i ∧ I i ρ) ?_ ?_ ⟨0, Nat.zero_le _, rfl, i0⟩
  · rintro x r ρ ⟨i, hi, hl, hI⟩ nx ct h1 h2
    have hlt : i < n := by
      rcases Nat.lt_or_ge i n with q | q
      · exact q
      · rw [List.drop_eq_nil_of_le (by unfold rangeD; rw [List.length_map, List.length_range]; exact q)] at hl
        cases hl
    have hlen : i < (rangeD lo n).length := by unfold rangeD; rw [List.length_map, List.length_range]; exact hlt
    rw [List.drop_eq_getElem_cons hlen] at hl
    injection hl with hx hr
    have hx' : x = .int (lo + (i : Nat)) := by rw [hx]; simp only [rangeD, List.getElem_map, List.getElem_range]
    rw [hx']
    exact h i ρ hlt hI nx ct (fun ρ' q => h1 ρ' ⟨i + 1, hlt, hr, q⟩) fun ρ' q => h2 ρ' ⟨i + 1, hlt, hr, q⟩
  · rintro ρ ⟨i, hi, hl, hI⟩
    have hlen : (rangeD lo n).length = n := by unfold rangeD; rw [List.length_map, List.length_range]
    have : i = n := by
      have q := congrArg List.length hl
      rw [List.length_drop, hlen] at q
      simp only [List.length_nil] at q
      omega
    subst this
    exact e ρ hI
/-- an item of a list by a number that is not below 0 -/
theorem ixD_nn {ds : List D} {i : Int} (h : 0 ≤ i) : ixD ds i = ds[i.toNat]? := by
  cases i with
  | ofNat n => rfl
  | negSucc n => exact absurd h (by omega)
theorem idx_ints {ns : List Int} {i : Int} {k : D → Prop} (h0 : 0 ≤ i) (h1 : i < ns.length) (h : k (.int (ns[i.toNat]'(by omega)))) : idxW (.ro (ns.map .int)) (.int i) k := by
  show match ixD (ns.map .int) i with
    | some d => k d
    | none => False
  rw [ixD_nn h0, List.getElem?_map, List.getElem?_eq_getElem (by omega)]
  exact h
theorem kb_NoneType_int : kitB "NoneType" "int" = some false := rfl
theorem kb_NoneType_bool : kitB "NoneType" "bool" = some false := rfl
theorem kb_NoneType_tuple : kitB "NoneType" "tuple" = some false := rfl
theorem kb_NoneType_list : kitB "NoneType" "list" = some false := rfl
theorem kb_NoneType_str : kitB "NoneType" "str" = some false := rfl
theorem kb_bool_int : kitB "bool" "int" = some true := rfl
theorem kb_bool_bool : kitB "bool" "bool" = some true := rfl
theorem kb_bool_tuple : kitB "bool" "tuple" = some false := rfl
theorem kb_bool_list : kitB "bool" "list" = some false := rfl
theorem kb_bool_str : kitB "bool" "str" = some false := rfl
theorem kb_int_int : kitB "int" "int" = some true := rfl
theorem kb_int_bool : kitB "int" "bool" = some false := rfl
theorem kb_int_tuple : kitB "int" "tuple" = some false := rfl
theorem kb_int_list : kitB "int" "list" = some false := rfl
theorem kb_int_str : kitB "int" "str" = some false := rfl
theorem kb_str_int : kitB "str" "int" = some false := rfl
theorem kb_str_bool : kitB "str" "bool" = some false := rfl
theorem kb_str_tuple : kitB "str" "tuple" = some false := rfl
theorem kb_str_list : kitB "str" "list" = some false := rfl
theorem kb_str_str : kitB "str" "str" = some true := rfl
theorem kb_tuple_int : kitB "tuple" "int" = some false := rfl
theorem kb_tuple_bool : kitB "tuple" "bool" = some false := rfl
theorem kb_tuple_tuple : kitB "tuple" "tuple" = some true := rfl
theorem kb_tuple_list : kitB "tuple" "list" = some false := rfl
theorem kb_tuple_str : kitB "tuple" "str" = some false := rfl
theorem kb_list_int : kitB "list" "int" = some false := rfl
theorem kb_list_bool : kitB "list" "bool" = some false := rfl
theorem kb_list_tuple : kitB "list" "tuple" = some false := rfl
theorem kb_list_list : kitB "list" "list" = some true := rfl
theorem kb_list_str : kitB "list" "str" = some false := rfl
/-! comparing data: only ints, texts, None, tuples, lists; not too deep -/
mutual
def nice : Nat → D → Bool
  | _, .int _ => true
  | _, .non => true
  | _, .str s => PyData.strOk s
  | n + 1, .tup xs => nices n xs
  | n + 1, .lst xs => nices n xs
  | _, _ => false
def nices : Nat → List D → Bool
  | _, [] => true
  | n, x :: xs => nice n x && nices n xs
end
mutual
theorem nice_lay : ∀ {n : Nat} {d : D}, nice n d = true → d.py.canLay0 = true ∧ d.py.depth ≤ n
  | n, .non, _ => by cases n <;> exact ⟨rfl, Nat.zero_le _⟩
  | n, .int _, _ => by cases n <;> exact ⟨rfl, Nat.zero_le _⟩
  | n, .str s, h => by
    have h' : PyData.strOk s = true := by cases n <;> exact h
    cases n <;> exact ⟨h', Nat.zero_le _⟩
  | 0, .tup _, h => by cases h
  | 0, .lst _, h => by cases h
  | n + 1, .tup xs, h => by
    have q := nices_lay (n := n) (ds := xs) h
    exact ⟨q.1, Nat.succ_le_succ q.2⟩
  | n + 1, .lst xs, h => by
    have q := nices_lay (n := n) (ds := xs) h
    exact ⟨q.1, Nat.succ_le_succ q.2⟩
  | n, .bl _, h => by cases n <;> cases h
  | n, .ro _, h => by cases n <;> cases h
  | n, .ins _ _ _, h => by cases n <;> cases h
  | n, .ty _, h => by cases n <;> cases h
theorem nices_lay : ∀ {n : Nat} {ds : List D}, nices n ds = true → PyData.canLayAll0 (D.py.pys ds) = true ∧ PyData.depthAll (D.py.pys ds) ≤ n
  | _, [], _ => ⟨rfl, Nat.zero_le _⟩
  | n, x :: xs, h => by
    have h' : (nice n x && nices n xs) = true := h
    obtain ⟨h1, h2⟩ := Bool.and_eq_true_iff.mp h'
    have q1 := nice_lay h1
    have q2 := nices_lay h2
    refine ⟨?_, ?_⟩
    · show (x.py.canLay0 && PyData.canLayAll0 (D.py.pys xs)) = true
      rw [q1.1, q2.1]; rfl
    · show max x.py.depth (PyData.depthAll (D.py.pys xs)) ≤ n
      exact Nat.max_le.mpr ⟨q1.2, q2.2⟩
end
mutual
theorem eqv_same : ∀ {n : Nat} {d : D}, nice n d = true → PyData.eqv d.py d.py = true
  | n, .non, _ => rfl
  | n, .int i, _ => by show (i == i) = true; exact beq_self_eq_true i
  | n, .str s, h => by show (s == s) = true; exact beq_self_eq_true s
  | 0, .tup _, h => by cases h
  | 0, .lst _, h => by cases h
  | n + 1, .tup xs, h => eqvs_same (n := n) (ds := xs) h
  | n + 1, .lst xs, h => eqvs_same (n := n) (ds := xs) h
  | n, .bl _, h => by cases n <;> cases h
  | n, .ro _, h => by cases n <;> cases h
  | n, .ins _ _ _, h => by cases n <;> cases h
  | n, .ty _, h => by cases n <;> cases h
theorem eqvs_same : ∀ {n : Nat} {ds : List D}, nices n ds = true → PyData.eqvAll (D.py.pys ds) (D.py.pys ds) = true
  | _, [], _ => rfl
  | n, x :: xs, h => by
    have h' : (nice n x && nices n xs) = true := h
    obtain ⟨h1, h2⟩ := Bool.and_eq_true_iff.mp h'
    show (PyData.eqv x.py x.py && PyData.eqvAll (D.py.pys xs) (D.py.pys xs)) = true
    rw [eqv_same h1, eqvs_same h2]; rfl
end
mutual
theorem eqv_dist : ∀ {n m : Nat} {d e : D}, nice n d = true → nice m e = true → PyData.eqv d.py e.py = true → d = e
  | n, m, d, e, h1, h2, h => by
    cases d <;> cases e <;> first | rfl | (cases h; done) | (cases n <;> cases h1; done) | (cases m <;> cases h2; done) | skip
    · rename_i i j
      have h' : (i == j) = true := h
      rw [eq_of_beq h']
    · rename_i i j
      have h' : (i == j) = true := h
      rw [eq_of_beq h']
    · rename_i i j
      cases n with
      | zero => cases h1
      | succ n =>
        cases m with
        | zero => cases h2
        | succ m => rw [eqvs_dist (n := n) (m := m) (ds := i) (es := j) h1 h2 h]
    · rename_i i j
      cases n with
      | zero => cases h1
      | succ n =>
        cases m with
        | zero => cases h2
        | succ m => rw [eqvs_dist (n := n) (m := m) (ds := i) (es := j) h1 h2 h]
theorem eqvs_dist : ∀ {n m : Nat} {ds es : List D}, nices n ds = true → nices m es = true → PyData.eqvAll (D.py.pys ds) (D.py.pys es) = true → ds = es
  | _, _, [], [], _, _, _ => rfl
  | _, _, [], _ :: _, _, _, h => by cases h
  | _, _, _ :: _, [], _, _, h => by cases h
  | n, m, x :: xs, y :: ys, h1, h2, h => by
    obtain ⟨a1, a2⟩ := Bool.and_eq_true_iff.mp (show (nice n x && nices n xs) = true from h1)
    obtain ⟨b1, b2⟩ := Bool.and_eq_true_iff.mp (show (nice m y && nices m ys) = true from h2)
    obtain ⟨c1, c2⟩ := Bool.and_eq_true_iff.mp (show (PyData.eqv x.py y.py && PyData.eqvAll (D.py.pys xs) (D.py.pys ys)) = true from h)
    rw [eqv_dist a1 b1 c1, eqvs_dist a2 b2 c2]
end
theorem nice_shaped {n : Nat} (hn : n ≤ 64) {d : D} (h : nice n d = true) : SeqAt.shaped d.py = true := by
  have q := nice_lay h
  unfold SeqAt.shaped
  rw [q.1, decide_eq_true (Nat.le_trans q.2 hn)]; rfl
theorem eqW_nice (n : Nat) {d e : D} {k : Bool → Prop} (h1 : nice n d = true) (h2 : nice n e = true) (hn : n ≤ 64) (hs : d = e → k true) (hd : d ≠ e → k false) : eqW d e k := by
  have gen : SeqAt.shaped d.py = true ∧ SeqAt.shaped e.py = true ∧ k (PyData.eqv d.py e.py) := by
    refine ⟨nice_shaped hn h1, nice_shaped hn h2, ?_⟩
    cases q : PyData.eqv d.py e.py with
    | true => exact hs (eqv_dist h1 h2 q)
    | false => exact hd fun z => by subst z; rw [eqv_same h1] at q; cases q
  have dec : ∀ {p : Prop} [Decidable p], (p ↔ d = e) → k (decide p) := fun {p} _ hp => by
    by_cases z : p
    · rw [decide_eq_true z]; exact hs (hp.mp z)
    · rw [decide_eq_false z]; exact hd fun y => z (hp.mpr y)
  cases d <;> cases e <;> first | exact gen | (cases n <;> cases h1; done) | (cases n <;> cases h2; done) | skip
  · exact dec ⟨fun z => by rw [z], fun z => by cases z; rfl⟩
  · exact dec ⟨fun z => by rw [z], fun z => by cases z; rfl⟩
theorem eqW_same (n : Nat) {d e : D} {k : Bool → Prop} (h1 : nice n d = true) (hn : n ≤ 64) (h : d = e) (hk : k true) : eqW d e k := by
  subst h
  exact eqW_nice n h1 h1 hn (fun _ => hk) fun z => absurd rfl z
theorem eqW_int {a b : Int} {k : Bool → Prop} : eqW (.int a) (.int b) k = k (decide (a = b)) := rfl
theorem eqW_str {a b : Str} {k : Bool → Prop} : eqW (.str a) (.str b) k = k (decide (a = b)) := rfl
theorem eqW_bl {a b : Bool} {k : Bool → Prop} : eqW (.bl a) (.bl b) k = k (decide (a = b)) := rfl
theorem ix_lst_0 {a0 : D} {l : List D} {k : D → Prop} : idxW (.lst (a0 :: l)) (.int 0) k = k a0 := rfl
theorem ix_lst_1 {a0 a1 : D} {l : List D} {k : D → Prop} : idxW (.lst (a0 :: a1 :: l)) (.int 1) k = k a1 := rfl
theorem ix_lst_2 {a0 a1 a2 : D} {l : List D} {k : D → Prop} : idxW (.lst (a0 :: a1 :: a2 :: l)) (.int 2) k = k a2 := rfl
theorem ix_lst_3 {a0 a1 a2 a3 : D} {l : List D} {k : D → Prop} : idxW (.lst (a0 :: a1 :: a2 :: a3 :: l)) (.int 3) k = k a3 := rfl
theorem ix_lst_4 {a0 a1 a2 a3 a4 : D} {l : List D} {k : D → Prop} : idxW (.lst (a0 :: a1 :: a2 :: a3 :: a4 :: l)) (.int 4) k = k a4 := rfl
theorem ix_lst_5 {a0 a1 a2 a3 a4 a5 : D} {l : List D} {k : D → Prop} : idxW (.lst (a0 :: a1 :: a2 :: a3 :: a4 :: a5 :: l)) (.int 5) k = k a5 := rfl
theorem ix_lst_6 {a0 a1 a2 a3 a4 a5 a6 : D} {l : List D} {k : D → Prop} : idxW (.lst (a0 :: a1 :: a2 :: a3 :: a4 :: a5 :: a6 :: l)) (.int 6) k = k a6 := rfl
theorem ix_lst_m1 {a0 : D} {k : D → Prop} : idxW (.lst [a0]) (.int (-1)) k = k a0 := rfl
theorem ix_lst_m2 {a0 a1 : D} {k : D → Prop} : idxW (.lst [a0, a1]) (.int (-1)) k = k a1 := rfl
theorem ix_lst_m3 {a0 a1 a2 : D} {k : D → Prop} : idxW (.lst [a0, a1, a2]) (.int (-1)) k = k a2 := rfl
theorem ix_lst_m4 {a0 a1 a2 a3 : D} {k : D → Prop} : idxW (.lst [a0, a1, a2, a3]) (.int (-1)) k = k a3 := rfl
theorem ix_tup_0 {a0 : D} {l : List D} {k : D → Prop} : idxW (.tup (a0 :: l)) (.int 0) k = k a0 := rfl
theorem ix_tup_1 {a0 a1 : D} {l : List D} {k : D → Prop} : idxW (.tup (a0 :: a1 :: l)) (.int 1) k = k a1 := rfl
theorem ix_tup_2 {a0 a1 a2 : D} {l : List D} {k : D → Prop} : idxW (.tup (a0 :: a1 :: a2 :: l)) (.int 2) k = k a2 := rfl
theorem ix_tup_3 {a0 a1 a2 a3 : D} {l : List D} {k : D → Prop} : idxW (.tup (a0 :: a1 :: a2 :: a3 :: l)) (.int 3) k = k a3 := rfl
theorem ix_tup_4 {a0 a1 a2 a3 a4 : D} {l : List D} {k : D → Prop} : idxW (.tup (a0 :: a1 :: a2 :: a3 :: a4 :: l)) (.int 4) k = k a4 := rfl
theorem ix_tup_5 {a0 a1 a2 a3 a4 a5 : D} {l : List D} {k : D → Prop} : idxW (.tup (a0 :: a1 :: a2 :: a3 :: a4 :: a5 :: l)) (.int 5) k = k a5 := rfl
theorem ix_tup_6 {a0 a1 a2 a3 a4 a5 a6 : D} {l : List D} {k : D → Prop} : idxW (.tup (a0 :: a1 :: a2 :: a3 :: a4 :: a5 :: a6 :: l)) (.int 6) k = k a6 := rfl
theorem ix_tup_m1 {a0 : D} {k : D → Prop} : idxW (.tup [a0]) (.int (-1)) k = k a0 := rfl
theorem ix_tup_m2 {a0 a1 : D} {k : D → Prop} : idxW (.tup [a0, a1]) (.int (-1)) k = k a1 := rfl
theorem ix_tup_m3 {a0 a1 a2 : D} {k : D → Prop} : idxW (.tup [a0, a1, a2]) (.int (-1)) k = k a2 := rfl
theorem ix_tup_m4 {a0 a1 a2 a3 : D} {k : D → Prop} : idxW (.tup [a0, a1, a2, a3]) (.int (-1)) k = k a3 := rfl
theorem ix_ro_0 {a0 : D} {l : List D} {k : D → Prop} : idxW (.ro (a0 :: l)) (.int 0) k = k a0 := rfl
theorem ix_ro_1 {a0 a1 : D} {l : List D} {k : D → Prop} : idxW (.ro (a0 :: a1 :: l)) (.int 1) k = k a1 := rfl
theorem ix_ro_2 {a0 a1 a2 : D} {l : List D} {k : D → Prop} : idxW (.ro (a0 :: a1 :: a2 :: l)) (.int 2) k = k a2 := rfl
theorem ix_ro_3 {a0 a1 a2 a3 : D} {l : List D} {k : D → Prop} : idxW (.ro (a0 :: a1 :: a2 :: a3 :: l)) (.int 3) k = k a3 := rfl
theorem ix_ro_4 {a0 a1 a2 a3 a4 : D} {l : List D} {k : D → Prop} : idxW (.ro (a0 :: a1 :: a2 :: a3 :: a4 :: l)) (.int 4) k = k a4 := rfl
theorem ix_ro_5 {a0 a1 a2 a3 a4 a5 : D} {l : List D} {k : D → Prop} : idxW (.ro (a0 :: a1 :: a2 :: a3 :: a4 :: a5 :: l)) (.int 5) k = k a5 := rfl
theorem ix_ro_6 {a0 a1 a2 a3 a4 a5 a6 : D} {l : List D} {k : D → Prop} : idxW (.ro (a0 :: a1 :: a2 :: a3 :: a4 :: a5 :: a6 :: l)) (.int 6) k = k a6 := rfl
theorem ix_ro_m1 {a0 : D} {k : D → Prop} : idxW (.ro [a0]) (.int (-1)) k = k a0 := rfl
theorem ix_ro_m2 {a0 a1 : D} {k : D → Prop} : idxW (.ro [a0, a1]) (.int (-1)) k = k a1 := rfl
theorem ix_ro_m3 {a0 a1 a2 : D} {k : D → Prop} : idxW (.ro [a0, a1, a2]) (.int (-1)) k = k a2 := rfl
theorem ix_ro_m4 {a0 a1 a2 a3 : D} {k : D → Prop} : idxW (.ro [a0, a1, a2, a3]) (.int (-1)) k = k a3 := rfl
theorem idx_lst {ds : List D} {i : Int} {k : D → Prop} (h0 : 0 ≤ i) (h1 : i < ds.length) (h : k (ds[i.toNat]'(by omega))) : idxW (.lst ds) (.int i) k := by
  show match ixD ds i with
    | some d => k d
    | none => False
  rw [ixD_nn h0, List.getElem?_eq_getElem (by omega)]
  exact h
theorem idxa_lst {ds : List D} {i : Int} {k : D → Prop} (h0 : 0 ≤ i) (h1 : i < ds.length) (h : ∀ d ∈ ds, k d) : idxW (.lst ds) (.int i) k := idx_lst h0 h1 (h _ (List.getElem_mem _))
theorem idx_tup {ds : List D} {i : Int} {k : D → Prop} (h0 : 0 ≤ i) (h1 : i < ds.length) (h : k (ds[i.toNat]'(by omega))) : idxW (.tup ds) (.int i) k := by
  show match ixD ds i with
    | some d => k d
    | none => False
  rw [ixD_nn h0, List.getElem?_eq_getElem (by omega)]
  exact h
theorem idxa_tup {ds : List D} {i : Int} {k : D → Prop} (h0 : 0 ≤ i) (h1 : i < ds.length) (h : ∀ d ∈ ds, k d) : idxW (.tup ds) (.int i) k := idx_tup h0 h1 (h _ (List.getElem_mem _))
theorem idx_ro {ds : List D} {i : Int} {k : D → Prop} (h0 : 0 ≤ i) (h1 : i < ds.length) (h : k (ds[i.toNat]'(by omega))) : idxW (.ro ds) (.int i) k := by
  show match ixD ds i with
    | some d => k d
    | none => False
  rw [ixD_nn h0, List.getElem?_eq_getElem (by omega)]
  exact h
theorem idxa_ro {ds : List D} {i : Int} {k : D → Prop} (h0 : 0 ≤ i) (h1 : i < ds.length) (h : ∀ d ∈ ds, k d) : idxW (.ro ds) (.int i) k := idx_ro h0 h1 (h _ (List.getElem_mem _))
theorem mm {n : Nat} {lo hi : Int} (h0 : 0 ≤ lo) (h1 : lo ≤ hi) : ∃ m : Nat, lo ≤ m ∧ (m : Int) ≤ hi ∧ (if lo < (if (n : Int) < hi then (n : Int) else hi) then (if (n : Int) < hi then (n : Int) else hi) else lo) = m := by
  refine ⟨(if lo < (if (n : Int) < hi then (n : Int) else hi) then (if (n : Int) < hi then (n : Int) else hi) else lo).toNat, ?_⟩
  split <;> split <;> omega
theorem bl_len_lst {xs : List D} {k : D → Prop} : bltW .len [.lst xs] k = (k (.int xs.length)) := rfl
theorem bl_len_tup {xs : List D} {k : D → Prop} : bltW .len [.tup xs] k = (k (.int xs.length)) := rfl
theorem bl_len_ro {xs : List D} {k : D → Prop} : bltW .len [.ro xs] k = (k (.int xs.length)) := rfl
theorem bl_len_str {s : Str} {k : D → Prop} : bltW .len [.str s] k = (s.length ≤ sizeLine ∧ k (.int s.length)) := rfl
theorem bl_abs {i : Int} {k : D → Prop} : bltW .abs [.int i] k = (k (.int (if i < 0 then -i else i))) := rfl
theorem bl_int {i : Int} {k : D → Prop} : bltW .int [.int i] k = (k (.int i)) := rfl
theorem bl_intb {b : Bool} {k : D → Prop} : bltW .int [.bl b] k = (k (.int (if b = true then 1 else 0))) := rfl
theorem bl_isqrt {i : Int} {k : D → Prop} : bltW .isqrt [.int i] k = (0 ≤ i ∧ i.toNat.log2 < 13470 ∧ k (.int (Float64.isqrt i.toNat : Nat))) := rfl
theorem bl_min2 {a b : Int} {k : D → Prop} : bltW .min [.int a, .int b] k = (k (.int (if b < a then b else a))) := rfl
theorem bl_max2 {a b : Int} {k : D → Prop} : bltW .max [.int a, .int b] k = (k (.int (if a < b then b else a))) := rfl
theorem bl_list1 {xs : List D} {k : D → Prop} : bltW .list [.lst xs] k = (k (.lst xs)) := rfl
theorem bl_list2 {xs : List D} {k : D → Prop} : bltW .list [.tup xs] k = (k (.lst xs)) := rfl
theorem bl_tup1 {xs : List D} {k : D → Prop} : bltW .tuple [.lst xs] k = (k (.tup xs)) := rfl
theorem bl_tup2 {xs : List D} {k : D → Prop} : bltW .tuple [.tup xs] k = (k (.tup xs)) := rfl
theorem bl_str {i : Int} {k : D → Prop} : bltW .str [.int i] k = (i.natAbs.log2 < 1920 ∧ k (.str (toString i : String))) := rfl
theorem bl_isi {d : D} {n : String} {k : D → Prop} : bltW .isi [d, .ty n] k = (match kitD d n with | some b => k (.bl b) | none => False) := rfl
theorem bl_min_l1 {a0 : Int} {k : D → Prop} : bltW .min [.lst [.int a0]] k = (k (.int (minL a0 []))) := rfl
theorem bl_min_l2 {a0 a1 : Int} {k : D → Prop} : bltW .min [.lst [.int a0, .int a1]] k = (k (.int (minL a0 [a1]))) := rfl
theorem bl_min_l3 {a0 a1 a2 : Int} {k : D → Prop} : bltW .min [.lst [.int a0, .int a1, .int a2]] k = (k (.int (minL a0 [a1, a2]))) := rfl
theorem bl_min_l4 {a0 a1 a2 a3 : Int} {k : D → Prop} : bltW .min [.lst [.int a0, .int a1, .int a2, .int a3]] k = (k (.int (minL a0 [a1, a2, a3]))) := rfl
theorem bl_min_l5 {a0 a1 a2 a3 a4 : Int} {k : D → Prop} : bltW .min [.lst [.int a0, .int a1, .int a2, .int a3, .int a4]] k = (k (.int (minL a0 [a1, a2, a3, a4]))) := rfl
theorem bl_min_l6 {a0 a1 a2 a3 a4 a5 : Int} {k : D → Prop} : bltW .min [.lst [.int a0, .int a1, .int a2, .int a3, .int a4, .int a5]] k = (k (.int (minL a0 [a1, a2, a3, a4, a5]))) := rfl
theorem bl_min_l7 {a0 a1 a2 a3 a4 a5 a6 : Int} {k : D → Prop} : bltW .min [.lst [.int a0, .int a1, .int a2, .int a3, .int a4, .int a5, .int a6]] k = (k (.int (minL a0 [a1, a2, a3, a4, a5, a6]))) := rfl
theorem bl_min_l8 {a0 a1 a2 a3 a4 a5 a6 a7 : Int} {k : D → Prop} : bltW .min [.lst [.int a0, .int a1, .int a2, .int a3, .int a4, .int a5, .int a6, .int a7]] k = (k (.int (minL a0 [a1, a2, a3, a4, a5, a6, a7]))) := rfl
theorem bl_max_l1 {a0 : Int} {k : D → Prop} : bltW .max [.lst [.int a0]] k = (k (.int (maxL a0 []))) := rfl
theorem bl_max_l2 {a0 a1 : Int} {k : D → Prop} : bltW .max [.lst [.int a0, .int a1]] k = (k (.int (maxL a0 [a1]))) := rfl
theorem bl_max_l3 {a0 a1 a2 : Int} {k : D → Prop} : bltW .max [.lst [.int a0, .int a1, .int a2]] k = (k (.int (maxL a0 [a1, a2]))) := rfl
theorem bl_max_l4 {a0 a1 a2 a3 : Int} {k : D → Prop} : bltW .max [.lst [.int a0, .int a1, .int a2, .int a3]] k = (k (.int (maxL a0 [a1, a2, a3]))) := rfl
theorem bl_max_l5 {a0 a1 a2 a3 a4 : Int} {k : D → Prop} : bltW .max [.lst [.int a0, .int a1, .int a2, .int a3, .int a4]] k = (k (.int (maxL a0 [a1, a2, a3, a4]))) := rfl
theorem bl_max_l6 {a0 a1 a2 a3 a4 a5 : Int} {k : D → Prop} : bltW .max [.lst [.int a0, .int a1, .int a2, .int a3, .int a4, .int a5]] k = (k (.int (maxL a0 [a1, a2, a3, a4, a5]))) := rfl
theorem bl_max_l7 {a0 a1 a2 a3 a4 a5 a6 : Int} {k : D → Prop} : bltW .max [.lst [.int a0, .int a1, .int a2, .int a3, .int a4, .int a5, .int a6]] k = (k (.int (maxL a0 [a1, a2, a3, a4, a5, a6]))) := rfl
theorem bl_max_l8 {a0 a1 a2 a3 a4 a5 a6 a7 : Int} {k : D → Prop} : bltW .max [.lst [.int a0, .int a1, .int a2, .int a3, .int a4, .int a5, .int a6, .int a7]] k = (k (.int (maxL a0 [a1, a2, a3, a4, a5, a6, a7]))) := rfl
theorem ints_mp : ∀ {ns : List Int}, ints? (ns.map .int) = some ns
  | [] => rfl
  | n :: ns => by
    show (match ints? (ns.map .int) with | some l => some (n :: l) | none => none) = _
    rw [ints_mp]
theorem bl_min {ns : List Int} {k : D → Prop} (h : ∃ n r, ns = n :: r ∧ k (.int (minL n r))) : bltW .min [.lst (ns.map .int)] k := by
  obtain ⟨n, r, rfl, h⟩ := h
  show match ints? ((n :: r).map .int) with
    | some (n :: r) => k (.int (minL n r))
    | _ => False
  rw [ints_mp]
  exact h
theorem bl_max {ns : List Int} {k : D → Prop} (h : ∃ n r, ns = n :: r ∧ k (.int (maxL n r))) : bltW .max [.lst (ns.map .int)] k := by
  obtain ⟨n, r, rfl, h⟩ := h
  show match ints? ((n :: r).map .int) with
    | some (n :: r) => k (.int (maxL n r))
    | _ => False
  rw [ints_mp]
  exact h
theorem bl_sum {ns : List Int} {k : D → Prop} (h : k (.int ns.sum)) : bltW .sum [.lst (ns.map .int)] k := by
  show match ints? (ns.map .int) with
    | some ns => k (.int ns.sum)
    | none => False
  rw [ints_mp]
  exact h
theorem mapW_nil {f : D → (Option D → Prop) → Prop} {k : List D → Prop} : mapW f [] k = k [] := rfl
theorem mapW_cons {f : D → (Option D → Prop) → Prop} {x : D} {r : List D} {k : List D → Prop} : mapW f (x :: r) k = f x fun o => mapW f r fun ys => k (match o with
    | some y => y :: ys
    | none => ys) := rfl
theorem rangeD_2 : rangeD 0 2 = [.int 0, .int 1] := rfl
theorem rangeD_3 : rangeD 0 3 = [.int 0, .int 1, .int 2] := rfl
theorem rangeD_6 : rangeD 0 6 = [.int 0, .int 1, .int 2, .int 3, .int 4, .int 5] := rfl
theorem slots_nm {i : Nat} : Tg.slots (.nm i) = [i] := rfl
theorem wipeR_nil {ρ : Env} : wipeR ρ [] = ρ := rfl
theorem wipeR_one {ρ : Env} {i : Nat} : wipeR ρ [i] = ρ.set i .un := rfl
/-! bounds -/
theorem cml {i j : Int} (h : -(2 ^ 64) < i ∧ i < 2 ^ 64) : CMulQ i j := .inr (.inl (.inl h))
theorem cmr {i j : Int} (h : -(2 ^ 64) < j ∧ j < 2 ^ 64) : CMulQ i j := .inr (.inl (.inr h))
theorem cmb {i j : Int} (h : -(2 ^ 200) < i ∧ i < 2 ^ 200) (h' : -(2 ^ 200) < j ∧ j < 2 ^ 200) : CMulQ i j := .inl (wide_mul (a := 200) (b := 200) (by omega) (by omega) (by decide) (by decide) (by decide))
theorem cmT {i j : Int} (h1 : -(10 ^ 40) ≤ i) (h2 : i ≤ 10 ^ 40) (h3 : -(10 ^ 40) ≤ j) (h4 : j ≤ 10 ^ 40) : CMulQ i j := cmb ⟨by omega, by omega⟩ ⟨by omega, by omega⟩
theorem in_iv {a b r : Int} (h : a ≤ b) : 0 < b - a + 1 ∧ a ≤ a + r % (b - a + 1) ∧ a + r % (b - a + 1) ≤ b := by
  have p1 := Int.emod_nonneg r (b := b - a + 1) (by omega)
  have p2 := Int.emod_lt_of_pos r (b := b - a + 1) (by omega)
  omega
theorem in_span {s r : Int} (h0 : 0 ≤ s) : 0 < 2 * s + 1 ∧ -s ≤ r % (2 * s + 1) - s ∧ r % (2 * s + 1) - s ≤ s := by
  have p1 := Int.emod_nonneg r (b := 2 * s + 1) (by omega)
  have p2 := Int.emod_lt_of_pos r (b := 2 * s + 1) (by omega)
  omega
theorem div_bd {x d B : Int} (hd : 0 < d) (h1 : -B ≤ x) (h2 : x ≤ B) : -B ≤ x / d ∧ x / d ≤ B := by
  have q : B * 1 ≤ B * d := Int.mul_le_mul_of_nonneg_left (by omega) (by omega)
  rw [Int.mul_one] at q
  refine ⟨Int.le_ediv_of_mul_le hd ?_, Int.ediv_le_of_le_mul hd (by omega)⟩
  rw [Int.neg_mul]
  omega
theorem cdv {i j : Int} (h : 0 < j) (h' : j < 2 ^ 200) : CDivW i j := wide_div (b := 200) h (by omega) (by decide) (by decide)
theorem mulB {i j A B : Int} (h : -A ≤ i ∧ i ≤ A) (h' : -B ≤ j ∧ j ≤ B) : -(A * B) ≤ i * j ∧ i * j ≤ A * B := by
  have q : (i * j).natAbs ≤ A.natAbs * B.natAbs := by
    rw [Int.natAbs_mul]
    exact Nat.mul_le_mul (by omega) (by omega)
  have e : ((A.natAbs * B.natAbs : Nat) : Int) = A * B := by
    rw [Int.natCast_mul, Int.natAbs_of_nonneg (by omega), Int.natAbs_of_nonneg (by omega)]
  omega
end Q

/-! QS: steps, calls by instances, sizes by instances, data of the program as plain tuples. -/
namespace Q
open PySem PySem.Spec L2

/-! ### steps -/
class Stm (ss : List S) (s : outParam S) (r : outParam (List S)) : Prop where
  eq : ss = s :: r
instance stm_cons {s : S} {r : List S} : Stm (s :: r) s r := ⟨rfl⟩
section
variable {NM : Nam} {AT : List (Nat × Nat)} {Φ : List Cal} {Γ : List (Str × D)}
theorem st1 {ss : List S} {s : S} {r : List S} [i : Stm ss s r] {ρ : Env} {d : Dn} (h : wpS NM AT Φ Γ s ρ ⟨fun ρ' => wpSs NM AT Φ Γ r ρ' d, d.rt, d.bk, d.ct, d.er⟩) : wpSs NM AT Φ Γ ss ρ d := by
  rw [i.eq]; exact h
theorem cut1 (J : Env → Prop) {ss : List S} {s : S} {r : List S} [i : Stm ss s r] {ρ : Env} {d : Dn} (h : ∀ nx : Env → Prop, (∀ ρ', J ρ' → nx ρ') → wpS NM AT Φ Γ s ρ ⟨nx, d.rt, d.bk, d.ct, d.er⟩) (g : ∀ ρ', J ρ' → wpSs NM AT Φ Γ r ρ' d) : wpSs NM AT Φ Γ ss ρ d := by
  rw [i.eq]; exact h _ g
end
/-- a statement without a joint -/
class Pl (s : S) : Prop where
  t : True
instance {a b} : Pl (.asg a b) := ⟨trivial⟩
instance {a b} : Pl (.new a b) := ⟨trivial⟩
instance {a b} : Pl (.app a b) := ⟨trivial⟩
instance {a b c} : Pl (.setIx a b c) := ⟨trivial⟩
instance {a b c} : Pl (.aug a b c) := ⟨trivial⟩
instance {a b c} : Pl (.fld a b c) := ⟨trivial⟩
instance {a b c e} : Pl (.par a b c e) := ⟨trivial⟩
instance {a} : Pl (.exp a) := ⟨trivial⟩
instance {a} : Pl (.ret a) := ⟨trivial⟩
instance {a} : Pl (.frz a) := ⟨trivial⟩
instance : Pl .retN := ⟨trivial⟩
instance : Pl .pas := ⟨trivial⟩
instance : Pl .brk := ⟨trivial⟩
instance : Pl .cnt := ⟨trivial⟩
theorem st1p {NM : Nam} {AT : List (Nat × Nat)} {Φ : List Cal} {Γ : List (Str × D)} {ss : List S} {s : S} {r : List S} [i : Stm ss s r] [Pl s] {ρ : Env} {d : Dn} (h : wpS NM AT Φ Γ s ρ ⟨fun ρ' => wpSs NM AT Φ Γ r ρ' d, d.rt, d.bk, d.ct, d.er⟩) : wpSs NM AT Φ Γ ss ρ d := st1 h
/-! ### calls -/
class Call (f : FS) (as : List D) (k : D → Prop) (x : Exc → Prop) (p : outParam Prop) : Prop where
  ok : p → f as k x
class CallI (f : IS) (as : List D) (k : List Nat → List D → Prop) (x : Exc → Prop) (p : outParam Prop) : Prop where
  ok : p → f as k x

/-! ### sizes: |x| < 2 ^ n -/
class Bd (x : Int) (n : outParam Nat) : Prop where
  h : x.natAbs < 2 ^ n
theorem two_mono {n m : Nat} (h : n ≤ m) : 2 ^ n ≤ 2 ^ m := Nat.pow_le_pow_right (by decide) h
theorem Bd.of {x : Int} {n m : Nat} (b : Bd x n) (h : n ≤ m) : Bd x m := ⟨Nat.lt_of_lt_of_le b.h (two_mono h)⟩
theorem bdOf {x B : Int} (n : Nat) (h1 : -B ≤ x) (h2 : x ≤ B) (h : B.natAbs < 2 ^ n := by decide) : Bd x n := ⟨by omega⟩
/-- what is known of a number by itself: for literals -/
instance (priority := 10) bd_lit {x : Int} : Bd x (x.natAbs.log2 + 1) := ⟨Nat.lt_log2_self⟩
instance bd_neg {a : Int} {n : Nat} [b : Bd a n] : Bd (-a) n := ⟨by rw [Int.natAbs_neg]; exact b.h⟩
theorem two_max {n m a b : Nat} (h1 : a < 2 ^ n) (h2 : b < 2 ^ m) : a + b < 2 ^ (max n m + 1) := by
  have := two_mono (Nat.le_max_left n m)
  have := two_mono (Nat.le_max_right n m)
  rw [Nat.pow_succ]
  omega
instance bd_add {a b : Int} {n m : Nat} [h : Bd a n] [g : Bd b m] : Bd (a + b) (max n m + 1) := ⟨Nat.lt_of_le_of_lt (Int.natAbs_add_le a b) (two_max h.h g.h)⟩
instance bd_sub {a b : Int} {n m : Nat} [h : Bd a n] [g : Bd b m] : Bd (a - b) (max n m + 1) := ⟨Nat.lt_of_le_of_lt (by rw [Int.sub_eq_add_neg, ← Int.natAbs_neg b]; exact Int.natAbs_add_le a (-b)) (two_max h.h g.h)⟩
instance bd_mul {a b : Int} {n m : Nat} [h : Bd a n] [g : Bd b m] : Bd (a * b) (n + m) := ⟨by
  rw [Int.natAbs_mul, Nat.pow_add]
  exact Nat.mul_lt_mul'' h.h g.h⟩
instance bd_div {a b : Int} {n : Nat} [h : Bd a n] : Bd (a / b) n := ⟨by
  have : (a / b).natAbs ≤ a.natAbs := Int.natAbs_ediv_le_natAbs a b
  exact Nat.lt_of_le_of_lt this h.h⟩
instance bd_ite {c : Prop} [Decidable c] {a b : Int} {n m : Nat} [h : Bd a n] [g : Bd b m] : Bd (if c then a else b) (max n m) := ⟨by
  have := two_mono (Nat.le_max_left n m)
  have := two_mono (Nat.le_max_right n m)
  have := h.h
  have := g.h
  split <;> omega⟩
instance bd_sqrt {a : Int} {n : Nat} [h : Bd a n] : Bd ((Float64.isqrt a.toNat : Nat) : Int) n := ⟨by
  have h1 := h.h
  have h2 : Float64.isqrt a.toNat ≤ a.toNat := Nat.le_trans (Nat.le_mul_self _) (Float64.isqrt_spec a.toNat).1
  omega⟩
theorem bd_mod {a b : Int} {n : Nat} [g : Bd b n] (h : 0 < b) : Bd (a % b) n := ⟨by
  have := Int.emod_nonneg a (b := b) (by omega)
  have := Int.emod_lt_of_pos a h
  have := g.h
  omega⟩
theorem bits_le {x : Int} {n : Nat} (h : x.natAbs < 2 ^ n) : Builtin.Int.intBits x ≤ n := by
  unfold Builtin.Int.intBits
  split
  · exact Nat.zero_le _
  · rename_i z
    have : x.natAbs.log2 < n := (Nat.log2_lt (by simpa using z)).mpr h
    omega
theorem cmq {a b : Int} {n m : Nat} [h : Bd a n] [g : Bd b m] (l : n + m < 130000000) : CMulQ a b := .inr (.inr (by
  have h1 := bits_le h.h
  have h2 := bits_le g.h
  unfold IntMulOk
  intro z
  rw [Bool.and_eq_true] at z
  have z2 := z.2
  unfold Builtin.Int.intTooBig at z2
  have z3 := of_decide_eq_true z2
  have e : bitsLine = 134217728 := by decide
  rw [e] at z3
  omega))
/-- a number of the script, and what the row makes of it -/
theorem bd_bits {z : Int} (h : Builtin.Int.intBits z ≤ 1048576) : Bd z 1048576 := ⟨by
  unfold Builtin.Int.intBits at h
  split at h
  · rename_i q
    have : z.natAbs = 0 := by
      first | (simpa using q) | omega
    rw [this]
    exact Nat.two_pow_pos _
  · have : z.natAbs.log2 + 1 ≤ 1048576 := h
    exact Nat.lt_of_lt_of_le Nat.lt_log2_self (two_mono this)⟩
theorem cdq {a b : Int} {n : Nat} [g : Bd b n] (h : 0 < b) (l : n < 8990) : CDivW a b := ⟨h, by
  have h2 := g.h
  have : b.natAbs.log2 < n := (Nat.log2_lt (by omega)).mpr h2
  omega⟩
theorem cpq {a b : Int} {n : Nat} [g : Bd a n] (h : 0 ≤ b) (l : (n : Int) * b ≤ 2 ^ 27) : CPowQ a b := ⟨h, by
  have h2 := g.h
  have e : Builtin.Int.intBits a ≤ n := by
    unfold Builtin.Int.intBits
    split
    · exact Nat.zero_le _
    · rename_i z
      have : a.natAbs.log2 < n := (Nat.log2_lt (by simpa using z)).mpr h2
      omega
  have : (Builtin.Int.intBits a : Int) * b ≤ (n : Int) * b := Int.mul_le_mul_of_nonneg_right (by omega) h
  omega⟩
theorem sqrt_log {a : Int} {n : Nat} [g : Bd a n] (l : n < 13460) : a.toNat.log2 < 13470 := by
  have h2 := g.h
  by_cases z : a.toNat = 0
  · rw [z]; decide
  · have : a.toNat.log2 < n := (Nat.log2_lt z).mpr (by omega)
    omega

/-! ### intervals, points, boxes -/
abbrev Iv := Int × Int
abbrev Pt := Int × Int × Int
abbrev Box := Iv × Iv × Iv
def dIv (a : Iv) : D := .tup [.int a.1, .int a.2]
def dPt (a : Pt) : D := .tup [.int a.1, .int a.2.1, .int a.2.2]
def dBox (a : Box) : D := .tup [dIv a.1, dIv a.2.1, dIv a.2.2]
def dPts (a : Pt × Pt) : D := .tup [dPt a.1, dPt a.2]
theorem f_iv {x y : Int} : D.tup [.int x, .int y] = dIv (x, y) := rfl
theorem f_pt {x y z : Int} : D.tup [.int x, .int y, .int z] = dPt (x, y, z) := rfl
theorem f_box {x y z : Iv} : D.tup [dIv x, dIv y, dIv z] = dBox (x, y, z) := rfl
theorem f_pts {x y : Pt} : D.tup [dPt x, dPt y] = dPts (x, y) := rfl
class BdI (x : Iv) (n : outParam Nat) : Prop where
  l : Bd x.1 n
  r : Bd x.2 n
instance bdI_1 {x : Iv} {n : Nat} [h : BdI x n] : Bd x.1 n := h.l
instance bdI_2 {x : Iv} {n : Nat} [h : BdI x n] : Bd x.2 n := h.r
instance bdI_mk {x y : Int} {n m : Nat} [h : Bd x n] [g : Bd y m] : BdI (x, y) (max n m) := ⟨h.of (Nat.le_max_left ..), g.of (Nat.le_max_right ..)⟩
class BdP (x : Pt) (n : outParam Nat) : Prop where
  b1 : Bd x.1 n
  b2 : Bd x.2.1 n
  b3 : Bd x.2.2 n
instance bdP_1 {x : Pt} {n : Nat} [h : BdP x n] : Bd x.1 n := h.b1
instance bdP_2 {x : Pt} {n : Nat} [h : BdP x n] : Bd x.2.1 n := h.b2
instance bdP_3 {x : Pt} {n : Nat} [h : BdP x n] : Bd x.2.2 n := h.b3
instance bdP_mk {x y z : Int} {n m k : Nat} [h : Bd x n] [g : Bd y m] [f : Bd z k] : BdP (x, y, z) (max n (max m k)) := ⟨h.of (Nat.le_max_left ..), g.of (Nat.le_trans (Nat.le_max_left ..) (Nat.le_max_right ..)), f.of (Nat.le_trans (Nat.le_max_right ..) (Nat.le_max_right ..))⟩
class BdB (x : Box) (n : outParam Nat) : Prop where
  b1 : BdI x.1 n
  b2 : BdI x.2.1 n
  b3 : BdI x.2.2 n
instance bdB_1 {x : Box} {n : Nat} [h : BdB x n] : BdI x.1 n := h.b1
instance bdB_2 {x : Box} {n : Nat} [h : BdB x n] : BdI x.2.1 n := h.b2
instance bdB_3 {x : Box} {n : Nat} [h : BdB x n] : BdI x.2.2 n := h.b3
theorem BdI.of {x : Iv} {n m : Nat} (b : BdI x n) (h : n ≤ m) : BdI x m := ⟨b.l.of h, b.r.of h⟩
theorem BdP.of {x : Pt} {n m : Nat} (b : BdP x n) (h : n ≤ m) : BdP x m := ⟨b.b1.of h, b.b2.of h, b.b3.of h⟩
theorem BdB.of {x : Box} {n m : Nat} (b : BdB x n) (h : n ≤ m) : BdB x m := ⟨b.b1.of h, b.b2.of h, b.b3.of h⟩
instance bdB_mk {x y z : Iv} {n m k : Nat} [h : BdI x n] [g : BdI y m] [f : BdI z k] : BdB (x, y, z) (max n (max m k)) := ⟨h.of (Nat.le_max_left ..), g.of (Nat.le_trans (Nat.le_max_left ..) (Nat.le_max_right ..)), f.of (Nat.le_trans (Nat.le_max_right ..) (Nat.le_max_right ..))⟩
/-! indexes, targets -/
section
variable {k : D → Prop} {ρ : Env} {q : Env → Prop}
theorem ix_iv_0 {a : Iv} : idxW (dIv a) (.int 0) k = k (.int a.1) := rfl
theorem ix_iv_1 {a : Iv} : idxW (dIv a) (.int 1) k = k (.int a.2) := rfl
theorem ix_pt_0 {a : Pt} : idxW (dPt a) (.int 0) k = k (.int a.1) := rfl
theorem ix_pt_1 {a : Pt} : idxW (dPt a) (.int 1) k = k (.int a.2.1) := rfl
theorem ix_pt_2 {a : Pt} : idxW (dPt a) (.int 2) k = k (.int a.2.2) := rfl
theorem ix_box_0 {a : Box} : idxW (dBox a) (.int 0) k = k (dIv a.1) := rfl
theorem ix_box_1 {a : Box} : idxW (dBox a) (.int 1) k = k (dIv a.2.1) := rfl
theorem ix_box_2 {a : Box} : idxW (dBox a) (.int 2) k = k (dIv a.2.2) := rfl
theorem ix_pts_0 {a : Pt × Pt} : idxW (dPts a) (.int 0) k = k (dPt a.1) := rfl
theorem ix_pts_1 {a : Pt × Pt} : idxW (dPts a) (.int 1) k = k (dPt a.2) := rfl
theorem bi_iv {a : Iv} {i j : Nat} : bindW (.tp [.nm i, .nm j]) (dIv a) ρ q = q ((ρ.set i (.val (.int a.1))).set j (.val (.int a.2))) := by
  show (([.nm i, .nm j] : List Tg).length = [D.int a.1, D.int a.2].length ∧ _) = _
  exact propext ⟨fun h => h.2, fun h => ⟨rfl, h⟩⟩
theorem bi_pt {a : Pt} {i j l : Nat} : bindW (.tp [.nm i, .nm j, .nm l]) (dPt a) ρ q = q (((ρ.set i (.val (.int a.1))).set j (.val (.int a.2.1))).set l (.val (.int a.2.2))) := by
  show (([.nm i, .nm j, .nm l] : List Tg).length = [D.int a.1, D.int a.2.1, D.int a.2.2].length ∧ _) = _
  exact propext ⟨fun h => h.2, fun h => ⟨rfl, h⟩⟩
theorem bi_box {a : Box} {i j l : Nat} : bindW (.tp [.nm i, .nm j, .nm l]) (dBox a) ρ q = q (((ρ.set i (.val (dIv a.1))).set j (.val (dIv a.2.1))).set l (.val (dIv a.2.2))) := by
  show (([.nm i, .nm j, .nm l] : List Tg).length = [dIv a.1, dIv a.2.1, dIv a.2.2].length ∧ _) = _
  exact propext ⟨fun h => h.2, fun h => ⟨rfl, h⟩⟩
theorem bi_pts {a : Pt × Pt} {i j : Nat} : bindW (.tp [.nm i, .nm j]) (dPts a) ρ q = q ((ρ.set i (.val (dPt a.1))).set j (.val (dPt a.2))) := by
  show (([.nm i, .nm j] : List Tg).length = [dPt a.1, dPt a.2].length ∧ _) = _
  exact propext ⟨fun h => h.2, fun h => ⟨rfl, h⟩⟩
theorem bi_nm {i : Nat} {d : D} : bindW (.nm i) d ρ q = q (ρ.set i (.val d)) := rfl
end
/-! comparing -/
theorem eqW_tt (n : Nat) {xs ys : List D} {k : Bool → Prop} {p : Prop} [Decidable p] (h1 : nice n (.tup xs) = true) (h2 : nice n (.tup ys) = true) (hn : n ≤ 64) (e : D.tup xs = .tup ys ↔ p) : eqW (.tup xs) (.tup ys) k = k (decide p) := by
  have q : PyData.eqv (D.tup xs).py (D.tup ys).py = decide p := by
    by_cases z : p
    · rw [decide_eq_true z, ← e.mpr z]; exact eqv_same h1
    · rw [decide_eq_false z]
      cases y : PyData.eqv (D.tup xs).py (D.tup ys).py with
      | false => rfl
      | true => exact absurd (e.mp (eqv_dist h1 h2 y)) z
  refine propext ⟨fun h => ?_, fun h => ?_⟩
  · have h' := h.2.2
    rw [q] at h'; exact h'
  · refine ⟨nice_shaped hn h1, nice_shaped hn h2, ?_⟩
    rw [q]; exact h
theorem dIv_inj {a b : Iv} : dIv a = dIv b ↔ a = b := by
  constructor
  · intro h
    injection h with h
    injection h with h1 h2
    injection h2 with h2 _
    injection h1 with h1
    injection h2 with h2
    exact Prod.ext h1 h2
  · exact fun h => by rw [h]
theorem dPt_inj {a b : Pt} : dPt a = dPt b ↔ a = b := by
  constructor
  · intro h
    injection h with h
    injection h with h1 h
    injection h with h2 h
    injection h with h3 _
    injection h1 with h1
    injection h2 with h2
    injection h3 with h3
    exact Prod.ext h1 (Prod.ext h2 h3)
  · exact fun h => by rw [h]
theorem dBox_inj {a b : Box} : dBox a = dBox b ↔ a = b := by
  constructor
  · intro h
    injection h with h
    injection h with h1 h
    injection h with h2 h
    injection h with h3 _
    exact Prod.ext (dIv_inj.mp h1) (Prod.ext (dIv_inj.mp h2) (dIv_inj.mp h3))
  · exact fun h => by rw [h]
theorem dPts_inj {a b : Pt × Pt} : dPts a = dPts b ↔ a = b := by
  constructor
  · intro h
    injection h with h
    injection h with h1 h
    injection h with h2 h
    exact Prod.ext (dPt_inj.mp h1) (dPt_inj.mp h2)
  · exact fun h => by rw [h]
section
variable {k : Bool → Prop}
theorem eq_iv {a b : Iv} : eqW (dIv a) (dIv b) k = k (decide (a = b)) := eqW_tt 4 rfl rfl (by decide) dIv_inj
theorem eq_pt {a b : Pt} : eqW (dPt a) (dPt b) k = k (decide (a = b)) := eqW_tt 4 rfl rfl (by decide) dPt_inj
theorem eq_box {a b : Box} : eqW (dBox a) (dBox b) k = k (decide (a = b)) := eqW_tt 4 rfl rfl (by decide) dBox_inj
theorem eq_pts {a b : Pt × Pt} : eqW (dPts a) (dPts b) k = k (decide (a = b)) := eqW_tt 4 rfl rfl (by decide) dPts_inj
theorem eq_non {a : List D} (h : nice 8 (.tup a) = true) : eqW (.tup a) .non k = k false := by
  refine propext ⟨fun h => h.2.2, fun g => ⟨nice_shaped (by decide) h, by decide, g⟩⟩
theorem eq_non' {a : List D} (h : nice 8 (.tup a) = true) : eqW .non (.tup a) k = k false := by
  refine propext ⟨fun h => h.2.2, fun g => ⟨by decide, nice_shaped (by decide) h, g⟩⟩
theorem eq_non_iv {a : Iv} : eqW (dIv a) .non k = k false := eq_non rfl
theorem eq_iv_non {a : Iv} : eqW .non (dIv a) k = k false := eq_non' rfl
theorem eq_non_box {a : Box} : eqW (dBox a) .non k = k false := eq_non rfl
theorem eq_box_non {a : Box} : eqW .non (dBox a) k = k false := eq_non' rfl
theorem eq_nn : eqW .non .non k = k true := by
  refine propext ⟨fun h => h.2.2, fun g => ⟨by decide, by decide, g⟩⟩
/-! operators by case -/
theorem co_lt {a b : Int} : copW .lt (.int a) (.int b) k = k (decide (a < b)) := rfl
theorem co_le {a b : Int} : copW .le (.int a) (.int b) k = k (decide (a ≤ b)) := rfl
theorem co_gt {a b : Int} : copW .gt (.int a) (.int b) k = k (decide (b < a)) := rfl
theorem co_ge {a b : Int} : copW .ge (.int a) (.int b) k = k (decide (b ≤ a)) := rfl
theorem co_eq {a b : D} : copW .eq a b k = eqW a b k := rfl
theorem co_ne {a b : D} : copW .ne a b k = eqW a b fun r => k !r := rfl
theorem co_lts {a b : Str} : copW .lt (.str a) (.str b) k = k (decide (a.cps.toList < b.cps.toList)) := rfl
theorem co_ins {a b : Str} : copW .in_ (.str a) (.str b) k = k (!(Builtin.Str.occurrences b a 0 b.length 1).isEmpty) := rfl
theorem co_nins {a b : Str} : copW .notin (.str a) (.str b) k = k (!(!(Builtin.Str.occurrences b a 0 b.length 1).isEmpty)) := rfl
theorem co_inl {a : D} {ds : List D} : copW .in_ a (.lst ds) k = (SeqAt.shaped a.py = true ∧ SeqAt.shaped (D.lst ds).py = true ∧ k ((D.py.pys ds).any fun z => PyData.eqv z a.py)) := by cases a <;> rfl
theorem co_ninl {a : D} {ds : List D} : copW .notin a (.lst ds) k = (SeqAt.shaped a.py = true ∧ SeqAt.shaped (D.lst ds).py = true ∧ k (!(D.py.pys ds).any fun z => PyData.eqv z a.py)) := by cases a <;> rfl
theorem co_is_n : copW .is_ .non .non k = k true := rfl
theorem co_is_t {l : List D} : copW .is_ (.tup l) .non k = k false := rfl
theorem co_is_l {l : List D} : copW .is_ (.lst l) .non k = k false := rfl
theorem co_is_i {l : Int} : copW .is_ (.int l) .non k = k false := rfl
theorem co_is_s {l : Str} : copW .is_ (.str l) .non k = k false := rfl
theorem co_is_o {c : Nat} {l : List Nat} {m : List D} : copW .is_ (.ins c l m) .non k = k false := rfl
theorem co_is_iv {a : Iv} : copW .is_ (dIv a) .non k = k false := rfl
theorem co_is_pt {a : Pt} : copW .is_ (dPt a) .non k = k false := rfl
theorem co_is_box {a : Box} : copW .is_ (dBox a) .non k = k false := rfl
theorem co_in_n : copW .isnot .non .non k = k false := rfl
theorem co_in_t {l : List D} : copW .isnot (.tup l) .non k = k true := rfl
theorem co_in_l {l : List D} : copW .isnot (.lst l) .non k = k true := rfl
theorem co_in_i {l : Int} : copW .isnot (.int l) .non k = k true := rfl
theorem co_in_s {l : Str} : copW .isnot (.str l) .non k = k true := rfl
theorem co_in_o {c : Nat} {l : List Nat} {m : List D} : copW .isnot (.ins c l m) .non k = k true := rfl
theorem co_in_iv {a : Iv} : copW .isnot (dIv a) .non k = k true := rfl
theorem co_in_pt {a : Pt} : copW .isnot (dPt a) .non k = k true := rfl
theorem co_in_box {a : Box} : copW .isnot (dBox a) .non k = k true := rfl
end
section
variable {k : D → Prop}
theorem bo_add {a b : Int} : bopW .add (.int a) (.int b) k = k (.int (a + b)) := rfl
theorem bo_sub {a b : Int} : bopW .sub (.int a) (.int b) k = k (.int (a - b)) := rfl
theorem bo_mul {a b : Int} : bopW .mul (.int a) (.int b) k = (CMulQ a b ∧ k (.int (a * b))) := rfl
theorem bo_div {a b : Int} : bopW .fdiv (.int a) (.int b) k = (CDivW a b ∧ k (.int (a / b))) := rfl
theorem bo_mod {a b : Int} : bopW .mod (.int a) (.int b) k = (0 < b ∧ k (.int (a % b))) := rfl
theorem bo_pow {a b : Int} : bopW .pow (.int a) (.int b) k = (CPowQ a b ∧ k (.int (a ^ b.toNat))) := rfl
theorem bo_adds {a b : Str} : bopW .add (.str a) (.str b) k = (a.length + b.length ≤ sizeLine ∧ k (.str (a ++ b))) := rfl
theorem bo_addl {a b : List D} : bopW .add (.lst a) (.lst b) k = (a.length + b.length ≤ sizeLine ∧ k (.lst (a ++ b))) := rfl
/-- an item of a list of numbers, by what they all keep -/
theorem idxP (P : Int → Prop) {l : List D} {i : Int} (h0 : 0 ≤ i) (h1 : i < l.length) (hP : ∀ d ∈ l, ∃ z, d = .int z ∧ P z) (h : ∀ z, P z → k (.int z)) : idxW (.lst l) (.int i) k :=
  idxa_lst h0 h1 fun d hd => by
    obtain ⟨z, rfl, hz⟩ := hP d hd
    exact h z hz
theorem idx2 {a b i : Int} (h0 : 0 ≤ i) (h1 : i < 2) (ha : k (.int a)) (hb : k (.int b)) : idxW (.lst [.int a, .int b]) (.int i) k := idxa_lst h0 h1 fun d hd => by
  simp only [List.mem_cons, List.not_mem_nil, or_false] at hd
  rcases hd with rfl | rfl <;> assumption
end
/-! comprehensions, loops over typed lists -/
theorem mapW_map {α : Type} {f : D → (Option D → Prop) → Prop} {k : List D → Prop} (enc : α → D) (g : α → D) : ∀ {l : List α}, (∀ a ∈ l, ∀ kk : Option D → Prop, kk (some (g a)) → f (enc a) kk) → k (l.map g) → mapW f (l.map enc) k
  | [], _, h => h
  | a :: l, hf, h => hf a (.head _) _ (mapW_map (l := l) (k := fun ys => k (g a :: ys)) enc g (fun b hb => hf b (.tail _ hb)) h)
theorem mapW_filterMap {α : Type} {f : D → (Option D → Prop) → Prop} {k : List D → Prop} (enc : α → D) (g : α → Option D) : ∀ {l : List α}, (∀ a ∈ l, ∀ kk : Option D → Prop, kk (g a) → f (enc a) kk) → k (l.filterMap g) → mapW f (l.map enc) k
  | [], _, h => h
  | a :: l, hf, h => hf a (.head _) _ (mapW_filterMap (l := l) (k := fun ys => k (match g a with
    | some y => y :: ys
    | none => ys)) enc g (fun b hb => hf b (.tail _ hb)) (by
      rw [List.filterMap_cons] at h
      cases q : g a <;> rw [q] at h <;> exact h))
theorem for_map {α : Type} {enc : α → D} (I : List α → List α → Env → Prop) {b : D → Env → Dn → Prop} {d : Dn} {l : List α} {ρ : Env} (i0 : I [] l ρ) (h : ∀ u a r ρ, l = u ++ a :: r → I u (a :: r) ρ → ∀ nx ct : Env → Prop, (∀ ρ', I (u ++ [a]) r ρ' → nx ρ') → (∀ ρ', I (u ++ [a]) r ρ' → ct ρ') → b (enc a) ρ ⟨nx, d.rt, d.nx, ct, d.er⟩) (e : ∀ ρ, I l [] ρ → d.nx ρ) : forW b (l.map enc) ρ d := by
  refine for_list (fun x ρ => ∃ u r, l = u ++ r ∧ x = r.map enc ∧ I u r ρ) ?_ ?_ ⟨[], l, rfl, rfl, i0⟩
  · rintro x r' ρ ⟨u, r, hl, hx, hI⟩ nx ct h1 h2
    cases r with
    | nil => cases hx
    | cons a r =>
      injection hx with e1 e2
      rw [e1]
      have hl' : l = (u ++ [a]) ++ r := by rw [hl, List.append_assoc]; rfl
      exact h u a r ρ hl hI nx ct (fun ρ' q => h1 ρ' ⟨_, r, hl', e2, q⟩) fun ρ' q => h2 ρ' ⟨_, r, hl', e2, q⟩
  · rintro ρ ⟨u, r, hl, hx, hI⟩
    cases r with
    | cons a r => cases hx
    | nil =>
      rw [List.append_nil] at hl
      rw [hl] at e
      exact e ρ hI
/-- a while loop, its measure m -/
theorem whl_meas {turn : Env → Dn → Prop} {d : Dn} (I : Nat → Env → Prop) (h : ∀ m ρ, I m ρ → ∀ nx ct : Env → Prop, (∀ m' ρ', m' < m → I m' ρ' → nx ρ') → (∀ m' ρ', m' < m → I m' ρ' → ct ρ') → turn ρ ⟨nx, d.rt, d.nx, ct, d.er⟩) {m : Nat} {ρ : Env} (i0 : I m ρ) : ∃ n, whlW turn n ρ d := by
  refine ⟨m + 1, ?_⟩
  have : ∀ n m ρ, m < n → I m ρ → whlW turn n ρ d := by
    intro n
    induction n with
    | zero => exact fun m ρ h => absurd h (by omega)
    | succ n ih =>
      intro m ρ hm hi
      exact h m ρ hi _ _ (fun m' ρ' l q => ih m' ρ' (by omega) q) fun m' ρ' l q => ih m' ρ' (by omega) q
  exact this _ m ρ (by omega) i0
end Q
namespace Q
open PySem PySem.Spec L2
section
variable {NM : Nam} {AT : List (Nat × Nat)} {Φ : List Cal} {Γ : List (Str × D)} {ρ : Env} {k : List D → Prop} {x : Exc → Prop}
/-- what a for walks over -/
def itW (d : D) (k : List D → Prop) : Prop := match d with
  | .lst xs => k xs
  | .tup xs => k xs
  | .ro xs => k xs
  | .str s => s.length ≤ sizeLine ∧ k (strD s)
  | _ => False
theorem it_str {s : Str} : itW (.str s) k = (s.length ≤ sizeLine ∧ k (strD s)) := rfl
theorem wi_ex {e : E} : wpI NM AT Φ Γ (.ex e) ρ k x = wpE NM AT Φ Γ e ρ (fun d => itW d k) x := by rw [wpI]; rfl
theorem wi_rng {es : List E} : wpI NM AT Φ Γ (.rng es) ρ k x = wpEs NM AT Φ Γ es ρ (fun ds => rngW ds k) x := by rw [wpI]
theorem zw_ll {xs ys : List D} : zipW (.lst xs) (.lst ys) k = k (List.zipWith (fun u v => .tup [u, v]) xs ys) := rfl
theorem wi_zip {a b : E} : wpI NM AT Φ Γ (.zip a b) ρ k x = wpE NM AT Φ Γ a ρ (fun d => wpE NM AT Φ Γ b ρ (fun e => zipW d e k) x) x := by
  rw [wpI]
theorem it_lst {xs : List D} : itW (.lst xs) k = k xs := rfl
theorem it_tup {xs : List D} : itW (.tup xs) k = k xs := rfl
theorem it_ro {xs : List D} : itW (.ro xs) k = k xs := rfl
theorem it_iv {a : Iv} : itW (dIv a) k = k [.int a.1, .int a.2] := rfl
theorem it_pt {a : Pt} : itW (dPt a) k = k [.int a.1, .int a.2.1, .int a.2.2] := rfl
theorem it_box {a : Box} : itW (dBox a) k = k [dIv a.1, dIv a.2.1, dIv a.2.2] := rfl
end
section
variable {ρ : Env} {q : Env → Prop}
theorem bi_tp {ts : List Tg} {xs : List D} : bindW (.tp ts) (.tup xs) ρ q = (ts.length = xs.length ∧ bindsW ts xs ρ q) := by rw [bindW]
theorem bi_tpl {ts : List Tg} {xs : List D} : bindW (.tp ts) (.lst xs) ρ q = (ts.length = xs.length ∧ bindsW ts xs ρ q) := by rw [bindW]
theorem bis_nil : bindsW [] [] ρ q = q ρ := by rw [bindsW]
theorem bis_cons {t : Tg} {ts : List Tg} {d : D} {ds : List D} : bindsW (t :: ts) (d :: ds) ρ q = bindW t d ρ fun ρ' => bindsW ts ds ρ' q := by rw [bindsW]
theorem bl_list_box {a : Box} {k : D → Prop} : bltW .list [dBox a] k = k (.lst [dIv a.1, dIv a.2.1, dIv a.2.2]) := rfl
theorem bl_tup_lst {xs : List D} {k : D → Prop} : bltW .tuple [.lst xs] k = k (.tup xs) := rfl
theorem bl_len_iv {a : Iv} {k : D → Prop} : bltW .len [dIv a] k = k (.int 2) := rfl
theorem bl_len_pt {a : Pt} {k : D → Prop} : bltW .len [dPt a] k = k (.int 3) := rfl
theorem bl_len_box {a : Box} {k : D → Prop} : bltW .len [dBox a] k = k (.int 3) := rfl
theorem kd_iv {a : Iv} {n : String} : kitD (dIv a) n = kitB "tuple" n := rfl
theorem kd_pt {a : Pt} {n : String} : kitD (dPt a) n = kitB "tuple" n := rfl
theorem kd_box {a : Box} {n : String} : kitD (dBox a) n = kitB "tuple" n := rfl
theorem kd_int {a : Int} {n : String} : kitD (.int a) n = kitB "int" n := rfl
theorem kd_bl {a : Bool} {n : String} : kitD (.bl a) n = kitB "bool" n := rfl
theorem kd_str {a : Str} {n : String} : kitD (.str a) n = kitB "str" n := rfl
theorem kd_tup {a : List D} {n : String} : kitD (.tup a) n = kitB "tuple" n := rfl
theorem kd_lst {a : List D} {n : String} : kitD (.lst a) n = kitB "list" n := rfl
theorem kd_non {n : String} : kitD .non n = kitB "NoneType" n := rfl
theorem eq_str_non {a : Str} {k : Bool → Prop} (h : PyData.strOk a = true) : eqW (.str a) .non k = k false :=
  propext ⟨fun h => h.2.2, fun g => ⟨nice_shaped (n := 1) (by decide) h, by decide, g⟩⟩
/-- a test of three values -/
theorem bl_max3 {a b c : Int} {k : D → Prop} : bltW .max [.int a, .int b, .int c] k = k (.int (if (if a < b then b else a) < c then c else (if a < b then b else a))) := rfl
theorem bl_min3 {a b c : Int} {k : D → Prop} : bltW .min [.int a, .int b, .int c] k = k (.int (if c < (if b < a then b else a) then c else (if b < a then b else a))) := rfl
end
end Q
namespace Q
theorem forW_nil {b : D → Env → Dn → Prop} {ρ : Env} {d : Dn} : forW b [] ρ d = d.nx ρ := rfl
theorem forW_cons {b : D → Env → Dn → Prop} {x : D} {r : List D} {ρ : Env} {d : Dn} : forW b (x :: r) ρ d = b x ρ { nx := fun ρ' => forW b r ρ' d, ct := fun ρ' => forW b r ρ' d, bk := d.nx, rt := d.rt, er := d.er } := rfl
end Q
namespace Q
open PySem PySem.Spec L2
section
variable {NM : Nam} {AT : List (Nat × Nat)} {Φ : List Cal} {Γ : List (Str × D)} {ρ : Env} {x : Exc → Prop}
theorem wts_nil {k : Bool → Prop} : wpTs NM AT Φ Γ [] ρ k x = k true := by rw [wpTs]
theorem wts_one {t : T} {k : Bool → Prop} : wpTs NM AT Φ Γ [t] ρ k x = wpT NM AT Φ Γ t ρ k x := by rw [wpTs]
theorem wta_one {t : T} {k : Bool → Prop} : wpTand NM AT Φ Γ [t] ρ k x = wpT NM AT Φ Γ t ρ k x := by rw [wpTand]
theorem wta_cons {t u : T} {ts : List T} {k : Bool → Prop} : wpTand NM AT Φ Γ (t :: u :: ts) ρ k x = wpT NM AT Φ Γ t ρ (fun b => if b = true then wpTand NM AT Φ Γ (u :: ts) ρ k x else k false) x := by
  conv => lhs; rw [wpTand.eq_def]
theorem wto_one {t : T} {k : Bool → Prop} : wpTor NM AT Φ Γ [t] ρ k x = wpT NM AT Φ Γ t ρ k x := by rw [wpTor]
theorem wto_cons {t u : T} {ts : List T} {k : Bool → Prop} : wpTor NM AT Φ Γ (t :: u :: ts) ρ k x = wpT NM AT Φ Γ t ρ (fun b => if b = true then k true else wpTor NM AT Φ Γ (u :: ts) ρ k x) x := by
  conv => lhs; rw [wpTor.eq_def]
theorem wan_one {t : E} {k : D → Prop} : wpAnd NM AT Φ Γ [t] ρ k x = wpE NM AT Φ Γ t ρ k x := by rw [wpAnd]
theorem wan_cons {t u : E} {ts : List E} {k : D → Prop} : wpAnd NM AT Φ Γ (t :: u :: ts) ρ k x = wpE NM AT Φ Γ t ρ (fun d => match d with
    | .bl b => if b = true then wpAnd NM AT Φ Γ (u :: ts) ρ k x else k (.bl false)
    | _ => False) x := by
  rw [wpAnd.eq_def] <;> rfl
theorem wor_one {t : E} {k : D → Prop} : wpOr NM AT Φ Γ [t] ρ k x = wpE NM AT Φ Γ t ρ k x := by rw [wpOr]
theorem wor_cons {t u : E} {ts : List E} {k : D → Prop} : wpOr NM AT Φ Γ (t :: u :: ts) ρ k x = wpE NM AT Φ Γ t ρ (fun d => match d with
    | .bl b => if b = true then k (.bl true) else wpOr NM AT Φ Γ (u :: ts) ρ k x
    | _ => False) x := by
  rw [wpOr.eq_def] <;> rfl
end
end Q
namespace Q
theorem fstep {b : D → Env → Dn → Prop} {x : D} {r : List D} {ρ : Env} {d : Dn} (h : b x ρ { nx := fun ρ' => forW b r ρ' d, ct := fun ρ' => forW b r ρ' d, bk := d.nx, rt := d.rt, er := d.er }) : forW b (x :: r) ρ d := h
theorem fnil {b : D → Env → Dn → Prop} {ρ : Env} {d : Dn} (h : d.nx ρ) : forW b [] ρ d := h
/-- a chain's two tests as one -/
theorem if_chain {p q : Prop} [Decidable p] [Decidable q] {A B : Prop} (h1 : ¬ (p ∧ q) → A) (h2 : p ∧ q → B) : if p then (if ¬q then A else B) else A := by
  by_cases a : p
  · rw [if_pos a]
    by_cases b : q
    · rw [if_neg (fun z => z b)]; exact h2 ⟨a, b⟩
    · rw [if_pos b]; exact h1 fun z => b z.2
  · rw [if_neg a]; exact h1 fun z => a z.1
theorem if_chain' {p q : Prop} [Decidable p] [Decidable q] {A B : Prop} (h1 : p ∧ q → A) (h2 : ¬ (p ∧ q) → B) : if p then (if q then A else B) else B := by
  by_cases a : p
  · rw [if_pos a]
    by_cases b : q
    · rw [if_pos b]; exact h1 ⟨a, b⟩
    · rw [if_neg b]; exact h2 fun z => b z.2
  · rw [if_neg a]; exact h2 fun z => a z.1
theorem if_dec {p q : Prop} [Decidable p] [Decidable q] {k : Bool → Prop} (h : k (decide (p ∧ q))) : if p then k (decide q) else k false := by
  by_cases a : p
  · rw [if_pos a]; simpa only [a, true_and] using h
  · rw [if_neg a]; simpa only [a, false_and, decide_false] using h
end Q
namespace Q
theorem lg_0 : Nat.log2 (Int.natAbs 0) = 0 := rfl
theorem lg_1 : Nat.log2 (Int.natAbs 1) = 0 := rfl
theorem lg_2 : Nat.log2 (Int.natAbs 2) = 1 := rfl
theorem lg_3 : Nat.log2 (Int.natAbs 3) = 1 := rfl
theorem lg_5 : Nat.log2 (Int.natAbs 5) = 2 := rfl
end Q
namespace Q
open PySem PySem.Spec L2
/-! top-down steps -/
section
variable {NM : Nam} {AT : List (Nat × Nat)} {Φ : List Cal} {Γ : List (Str × D)} {ρ : Env} {x : Exc → Prop} {k : D → Prop}
theorem wv_0 {d : D} : wpE NM AT Φ Γ (.var 0) (.val d :: ρ) k x = k d := by rw [wpE]; rfl
theorem wv_s {n : Nat} {s : Sl} : wpE NM AT Φ Γ (.var (n + 1)) (s :: ρ) k x = wpE NM AT Φ Γ (.var n) ρ k x := by rw [wpE, wpE]; rfl
theorem wb_0 {d : D} : wpE NM AT Φ Γ (.brw 0) (.val d :: ρ) k x = k d := by rw [wpE]; rfl
theorem wb_o {ds : List D} : wpE NM AT Φ Γ (.brw 0) (.own ds :: ρ) k x = k (.lst ds) := by rw [wpE]; rfl
theorem wb_i {c : Nat} {ks : List Nat} {ds : List D} : wpE NM AT Φ Γ (.brw 0) (.obj c ks ds :: ρ) k x = k (.ins c ks ds) := by rw [wpE]; rfl
theorem wb_s {n : Nat} {s : Sl} : wpE NM AT Φ Γ (.brw (n + 1)) (s :: ρ) k x = wpE NM AT Φ Γ (.brw n) ρ k x := by rw [wpE, wpE]; rfl
theorem wcal {j : Nat} {es : List E} {c : Cal} (h : Φ[j]? = some c) : wpE NM AT Φ Γ (.call j es) ρ k x = wpEs NM AT Φ Γ es ρ (fun ds => c.fs (ds ++ c.dfl) k x) x := by rw [wpE, h]
theorem wmak {j : Nat} {es : List E} {c : Cal} (h : Φ[j]? = some c) : wpE NM AT Φ Γ (.make j es) ρ k x = wpEs NM AT Φ Γ es ρ (fun ds => c.is (ds ++ c.dfl) (fun ks xs => k (.ins c.cls ks xs)) x) x := by rw [wpE, h]
theorem wglo {j : Nat} {p : Str × D} (h : Γ[j]? = some p) : wpE NM AT Φ Γ (.glo j) ρ k x = k p.2 := by rw [wpE, h]
end
end Q

/-! QT: what the program computes, as plain functions; their laws. -/
namespace Q
open PySem PySem.Spec L2

theorem max_def' {a b : Int} : (if a < b then b else a) = max a b := by rw [Int.max_def]; split <;> split <;> omega
theorem min_def' {a b : Int} : (if b < a then b else a) = min a b := by rw [Int.min_def]; split <;> split <;> omega
theorem bl_min2' {a b : Int} {k : D → Prop} : bltW .min [.int a, .int b] k = (k (.int (min a b))) := by rw [bl_min2, min_def']
theorem bl_max2' {a b : Int} {k : D → Prop} : bltW .max [.int a, .int b] k = (k (.int (max a b))) := by rw [bl_max2, max_def']
theorem bl_min3' {a b c : Int} {k : D → Prop} : bltW .min [.int a, .int b, .int c] k = (k (.int (min (min a b) c))) := by rw [bl_min3, min_def', min_def']
theorem bl_max3' {a b c : Int} {k : D → Prop} : bltW .max [.int a, .int b, .int c] k = (k (.int (max (max a b) c))) := by rw [bl_max3, max_def', max_def']
theorem bl_abs' {i : Int} {k : D → Prop} : bltW .abs [.int i] k = (k (.int (max i (-i)))) := by
  rw [bl_abs]
  congr 1
  congr 1
  split <;> omega
theorem minL_fold : ∀ (l : List Int) (a : Int), minL a l = l.foldl min a
  | [], a => rfl
  | b :: l, a => by
    show minL (if b < a then b else a) l = _
    rw [min_def', minL_fold l]; rfl
theorem maxL_fold : ∀ (l : List Int) (a : Int), maxL a l = l.foldl max a
  | [], a => rfl
  | b :: l, a => by
    show maxL (if a < b then b else a) l = _
    rw [max_def', maxL_fold l]; rfl
theorem minL_1 {a b : Int} : minL a [b] = min a b := minL_fold _ _
theorem minL_2 {a b c : Int} : minL a [b, c] = min (min a b) c := minL_fold _ _
theorem minL_3 {a b c d : Int} : minL a [b, c, d] = min (min (min a b) c) d := minL_fold _ _
theorem maxL_1 {a b : Int} : maxL a [b] = max a b := maxL_fold _ _
theorem maxL_2 {a b c : Int} : maxL a [b, c] = max (max a b) c := maxL_fold _ _
theorem maxL_3 {a b c d : Int} : maxL a [b, c, d] = max (max (max a b) c) d := maxL_fold _ _
theorem two_max' {n m : Nat} : 2 ^ n ≤ 2 ^ max n m ∧ 2 ^ m ≤ 2 ^ max n m := ⟨two_mono (Nat.le_max_left n m), two_mono (Nat.le_max_right n m)⟩
instance bd_max {a b : Int} {n m : Nat} [h : Bd a n] [g : Bd b m] : Bd (max a b) (max n m) := ⟨by
  have := two_max' (n := n) (m := m)
  have := h.h
  have := g.h
  omega⟩
instance bd_min {a b : Int} {n m : Nat} [h : Bd a n] [g : Bd b m] : Bd (min a b) (max n m) := ⟨by
  have := two_max' (n := n) (m := m)
  have := h.h
  have := g.h
  omega⟩
/-- the integer root -/
def isq (n : Int) : Int := (Float64.isqrt n.toNat : Nat)
theorem isq_nn {n : Int} : 0 ≤ isq n := Int.natCast_nonneg _
theorem isq_spec {n : Int} (h : 0 ≤ n) : isq n * isq n ≤ n ∧ n < (isq n + 1) * (isq n + 1) := by
  obtain ⟨h1, h2⟩ := Float64.isqrt_spec n.toNat
  unfold isq
  constructor
  · have : ((Float64.isqrt n.toNat * Float64.isqrt n.toNat : Nat) : Int) ≤ (n.toNat : Int) := Int.ofNat_le.mpr h1
    rw [Int.natCast_mul] at this
    omega
  · have : (n.toNat : Int) < (((Float64.isqrt n.toNat + 1) * (Float64.isqrt n.toNat + 1) : Nat) : Int) := Int.ofNat_lt.mpr h2
    rw [Int.natCast_mul, Int.natCast_add] at this
    rw [show ((1 : Nat) : Int) = 1 from rfl] at this
    omega
theorem sq_lt {a b : Int} (h0 : 0 ≤ a) (h : a < b) : a * a < b * b := by
  have h1 : a * a ≤ a * b := Int.mul_le_mul_of_nonneg_left (Int.le_of_lt h) h0
  have h2 : a * b < b * b := Int.mul_lt_mul_of_pos_right h (by omega)
  omega
theorem sq_le {a b : Int} (h0 : 0 ≤ a) (h : a ≤ b) : a * a ≤ b * b := Int.mul_le_mul h h h0 (by omega)
theorem isq_uniq {n r : Int} (hr : 0 ≤ r) (h1 : r * r ≤ n) (h2 : n < (r + 1) * (r + 1)) : isq n = r := by
  have h0 : 0 ≤ n := Int.le_trans (Int.mul_nonneg hr hr) h1
  obtain ⟨g1, g2⟩ := isq_spec h0
  have hq := isq_nn (n := n)
  rcases Int.lt_trichotomy (isq n) r with z | z | z
  · have := sq_le (a := isq n + 1) (b := r) (by omega) (by omega)
    omega
  · exact z
  · have := sq_le (a := r + 1) (b := isq n) (by omega) (by omega)
    omega
theorem isq_mono {a b : Int} (h0 : 0 ≤ a) (h : a ≤ b) : isq a ≤ isq b := by
  obtain ⟨g1, g2⟩ := isq_spec h0
  obtain ⟨f1, f2⟩ := isq_spec (show 0 ≤ b by omega)
  have := isq_nn (n := b)
  rcases Int.lt_or_le (isq b) (isq a) with z | z
  · have := sq_le (a := isq b + 1) (b := isq a) (by omega) (by omega)
    omega
  · exact z
theorem isq_pos {a : Int} (h : 0 < a) : 0 < isq a := by
  obtain ⟨g1, g2⟩ := isq_spec (show 0 ≤ a by omega)
  have := isq_nn (n := a)
  rcases Int.lt_or_le 0 (isq a) with z | z
  · exact z
  · have e : isq a = 0 := by omega
    rw [e] at g2
    omega
theorem bl_isqrt' {i : Int} {k : D → Prop} : bltW .isqrt [.int i] k = (0 ≤ i ∧ i.toNat.log2 < 13470 ∧ k (.int (isq i))) := rfl
instance bd_isq {a : Int} {n : Nat} [h : Bd a n] : Bd (isq a) n := bd_sqrt

/-! ### intervals -/
def iAdd (a b : Iv) : Iv := (a.1 + b.1, a.2 + b.2)
def iSub (a b : Iv) : Iv := (a.1 - b.2, a.2 - b.1)
def iNeg (a : Iv) : Iv := (-a.2, -a.1)
def iScale (a : Iv) (n : Int) : Iv := if n < 0 then (a.2 * n, a.1 * n) else (a.1 * n, a.2 * n)
def iMul (a b : Iv) : Iv := (min (min (min (a.1 * b.1) (a.1 * b.2)) (a.2 * b.1)) (a.2 * b.2), max (max (max (a.1 * b.1) (a.1 * b.2)) (a.2 * b.1)) (a.2 * b.2))
def iSq (a : Iv) : Iv := if 0 ≤ a.1 then (a.1 * a.1, a.2 * a.2) else if a.2 ≤ 0 then (a.2 * a.2, a.1 * a.1) else (0, max (a.1 * a.1) (a.2 * a.2))
def iQuo (a d : Iv) : Iv := (min (a.1 / d.1) (a.1 / d.2), max (a.2 / d.1) (a.2 / d.2))
def iRoot (a : Iv) : Iv := (isq (max a.1 0), isq a.2)
def iMeet (a b : Iv) : Option Iv := if min a.2 b.2 < max a.1 b.1 then none else some (max a.1 b.1, min a.2 b.2)
def iHull (a b : Iv) : Iv := (min a.1 b.1, max a.2 b.2)
def iWid (a : Iv) (w : Int) : Iv := (a.1 - w, a.2 + w)
def iMid (a : Iv) : Int := (a.1 + a.2) / 2
def iSize (a : Iv) : Int := max (max a.1 (-a.1)) (max a.2 (-a.2))
def iIn (a b : Iv) : Bool := decide (b.1 ≤ a.1 ∧ a.2 ≤ b.2)
def iHas (a : Iv) (n : Int) : Bool := decide (a.1 ≤ n ∧ n ≤ a.2)
instance {a b : Iv} {n m : Nat} [BdI a n] [BdI b m] : BdI (iAdd a b) (max n m + 1) := by unfold iAdd; exact BdI.of inferInstance (by omega)
instance {a b : Iv} {n m : Nat} [BdI a n] [BdI b m] : BdI (iSub a b) (max n m + 1) := by unfold iSub; exact BdI.of inferInstance (by omega)
instance {a : Iv} {n : Nat} [BdI a n] : BdI (iNeg a) n := by unfold iNeg; exact BdI.of inferInstance (by omega)
instance {c : Prop} [Decidable c] {a b : Iv} {n m : Nat} [h : BdI a n] [g : BdI b m] : BdI (if c then a else b) (max n m) := by
  split
  · exact h.of (Nat.le_max_left ..)
  · exact g.of (Nat.le_max_right ..)
instance {a : Iv} {b : Int} {n m : Nat} [BdI a n] [Bd b m] : BdI (iScale a b) (n + m) := by unfold iScale; exact BdI.of inferInstance (by omega)
instance {a b : Iv} {n m : Nat} [BdI a n] [BdI b m] : BdI (iMul a b) (n + m) := by unfold iMul; exact BdI.of inferInstance (by omega)
instance {a : Iv} {n : Nat} [BdI a n] : BdI (iSq a) (n + n + 1) := by unfold iSq; exact BdI.of inferInstance (by rw [show Nat.log2 (Int.natAbs 0) = 0 from rfl]; omega)
instance {a b : Iv} {n m : Nat} [BdI a n] [BdI b m] : BdI (iQuo a b) n := by unfold iQuo; exact BdI.of inferInstance (by omega)
instance {a : Iv} {n : Nat} [BdI a n] : BdI (iRoot a) (n + 1) := by unfold iRoot; exact BdI.of inferInstance (by rw [show Nat.log2 (Int.natAbs 0) = 0 from rfl]; omega)
instance {a b : Iv} {n m : Nat} [BdI a n] [BdI b m] : BdI (iHull a b) (max n m) := by unfold iHull; exact BdI.of inferInstance (by omega)
instance {a : Iv} {b : Int} {n m : Nat} [BdI a n] [Bd b m] : BdI (iWid a b) (max n m + 1) := by unfold iWid; exact BdI.of inferInstance (by omega)
instance {a : Iv} {n : Nat} [BdI a n] : Bd (iSize a) n := by unfold iSize; exact Bd.of inferInstance (by omega)
instance {a : Iv} {n : Nat} [BdI a n] : Bd (iMid a) (n + 1) := by unfold iMid; exact Bd.of inferInstance (by omega)
/-- x is a member -/
def iM (x : Int) (a : Iv) : Prop := a.1 ≤ x ∧ x ≤ a.2
section
variable {a b : Iv} {x y n : Int}
theorem iM_add (h : iM x a) (g : iM y b) : iM (x + y) (iAdd a b) := by unfold iM iAdd at *; dsimp only; omega
theorem iM_sub (h : iM x a) (g : iM y b) : iM (x - y) (iSub a b) := by unfold iM iSub at *; dsimp only; omega
theorem iM_neg (h : iM x a) : iM (-x) (iNeg a) := by unfold iM iNeg at *; dsimp only; omega
theorem mul_le_r {a b c : Int} (h : a ≤ b) (hc : 0 ≤ c) : a * c ≤ b * c := Int.mul_le_mul_of_nonneg_right h hc
theorem mul_le_r' {a b c : Int} (h : a ≤ b) (hc : c ≤ 0) : b * c ≤ a * c := Int.mul_le_mul_of_nonpos_right h hc
theorem mul_le_l {a b c : Int} (h : a ≤ b) (hc : 0 ≤ c) : c * a ≤ c * b := Int.mul_le_mul_of_nonneg_left h hc
theorem mul_le_l' {a b c : Int} (h : a ≤ b) (hc : c ≤ 0) : c * b ≤ c * a := Int.mul_le_mul_of_nonpos_left hc h
theorem iM_scale (h : iM x a) : iM (x * n) (iScale a n) := by
  unfold iM iScale at *
  by_cases z : n < 0
  · rw [if_pos z]
    exact ⟨mul_le_r' h.2 (by omega), mul_le_r' h.1 (by omega)⟩
  · rw [if_neg z]
    exact ⟨mul_le_r h.1 (by omega), mul_le_r h.2 (by omega)⟩
theorem iM_mul (h : iM x a) (g : iM y b) : iM (x * y) (iMul a b) := by
  obtain ⟨h1, h2⟩ := h
  obtain ⟨g1, g2⟩ := g
  unfold iM iMul
  dsimp only
  have c1 : min (a.1 * y) (a.2 * y) ≤ x * y ∧ x * y ≤ max (a.1 * y) (a.2 * y) := by
    rcases Int.le_total 0 y with z | z
    · have := mul_le_r h1 z; have := mul_le_r h2 z; omega
    · have := mul_le_r' h1 z; have := mul_le_r' h2 z; omega
  have c2 : ∀ u : Int, min (u * b.1) (u * b.2) ≤ u * y ∧ u * y ≤ max (u * b.1) (u * b.2) := fun u => by
    rcases Int.le_total 0 u with z | z
    · have := mul_le_l g1 z; have := mul_le_l g2 z; omega
    · have := mul_le_l' g1 z; have := mul_le_l' g2 z; omega
  have := c2 a.1
  have := c2 a.2
  omega
theorem sq_nn {x : Int} : 0 ≤ x * x := by
  rcases Int.le_total 0 x with z | z
  · exact Int.mul_nonneg z z
  · exact Int.mul_nonneg_of_nonpos_of_nonpos z z
theorem iM_sq (h : iM x a) : iM (x * x) (iSq a) := by
  obtain ⟨h1, h2⟩ := h
  have n1 : ∀ {u v : Int}, u ≤ v → v ≤ 0 → v * v ≤ u * u := fun {u v} z w => by
    have := sq_le (a := -v) (b := -u) (by omega) (by omega)
    rw [Int.neg_mul_neg, Int.neg_mul_neg] at this
    exact this
  unfold iM iSq
  by_cases c : 0 ≤ a.1
  · rw [if_pos c]; exact ⟨sq_le c h1, sq_le (by omega) h2⟩
  · rw [if_neg c]
    by_cases d : a.2 ≤ 0
    · rw [if_pos d]; exact ⟨n1 h2 d, n1 h1 (by omega)⟩
    · rw [if_neg d]
      refine ⟨sq_nn, ?_⟩
      show x * x ≤ max _ _
      rcases Int.le_total 0 x with z | z
      · have := sq_le z h2; omega
      · have := n1 h1 z; omega
theorem iSq_nn : 0 ≤ (iSq a).1 := by
  unfold iSq
  split
  · exact sq_nn
  · split
    · exact sq_nn
    · exact Int.le_refl _
/-- floor division in both arguments -/
theorem div_mono {a b d : Int} (hd : 0 < d) (h : a ≤ b) : a / d ≤ b / d := Int.ediv_le_ediv hd h
theorem div_anti {a d e : Int} (hd : 0 < d) (h : d ≤ e) : min (a / d) (a / e) = if 0 ≤ a then a / e else a / d := by
  by_cases z : 0 ≤ a
  · rw [if_pos z]
    have : a / e ≤ a / d := by
      refine Int.le_ediv_of_mul_le hd ?_
      have h1 := Int.ediv_mul_le a (b := e) (by omega)
      have h2 : 0 ≤ a / e := Int.ediv_nonneg z (by omega)
      have := mul_le_l h h2
      omega
    omega
  · rw [if_neg z]
    have : a / d ≤ a / e := by
      refine Int.le_ediv_of_mul_le (by omega) ?_
      have h1 := Int.ediv_mul_le a (b := d) (by omega)
      have h2 : a / d < 0 := Int.ediv_neg_of_neg_of_pos (by omega) hd
      have := mul_le_l' h (show a / d ≤ 0 by omega)
      omega
    omega
theorem div_dec {a d e : Int} (hd : 0 < d) (h : d ≤ e) (z : 0 ≤ a) : a / e ≤ a / d := by
  have := div_anti (a := a) hd h
  rw [if_pos z] at this
  omega
theorem div_inc {a d e : Int} (hd : 0 < d) (h : d ≤ e) (z : a < 0) : a / d ≤ a / e := by
  have := div_anti (a := a) hd h
  rw [if_neg (by omega)] at this
  omega
theorem iM_quo {d : Iv} (hd : 0 < d.1) (h : iM x a) (g : iM y d) : iM (x / y) (iQuo a d) := by
  obtain ⟨h1, h2⟩ := h
  obtain ⟨g1, g2⟩ := g
  unfold iM iQuo
  dsimp only
  have m1 := div_mono (a := a.1) (b := x) (d := y) (by omega) h1
  have m2 := div_mono (a := x) (b := a.2) (d := y) (by omega) h2
  constructor
  · rcases Int.lt_or_le a.1 0 with z | z
    · have := div_inc (a := a.1) hd g1 z; omega
    · have := div_dec (a := a.1) (d := y) (e := d.2) (by omega) g2 z; omega
  · rcases Int.lt_or_le a.2 0 with z | z
    · have := div_inc (a := a.2) (d := y) (e := d.2) (by omega) g2 z; omega
    · have := div_dec (a := a.2) hd g1 z; omega
theorem iM_root (h : iM x a) (h0 : 0 ≤ x) : iM (isq x) (iRoot a) := ⟨isq_mono (by omega) (by have := h.1; omega), isq_mono h0 h.2⟩
theorem iM_hull1 (h : iM x a) : iM x (iHull a b) := by unfold iM iHull at *; dsimp only; omega
theorem iM_hull2 (h : iM x b) : iM x (iHull a b) := by unfold iM iHull at *; dsimp only; omega
theorem iM_wid (h : iM x a) (h1 : -n ≤ y) (h2 : y ≤ n) : iM (x + y) (iWid a n) := by unfold iM iWid at *; dsimp only; omega
end
/-! ### boxes -/
def pAdd (a b : Pt) : Pt := (a.1 + b.1, a.2.1 + b.2.1, a.2.2 + b.2.2)
def pSub (a b : Pt) : Pt := (a.1 - b.1, a.2.1 - b.2.1, a.2.2 - b.2.2)
def pBox (a : Pt) : Box := ((a.1, a.1), (a.2.1, a.2.1), (a.2.2, a.2.2))
def bMap2 (f : Iv → Iv → Iv) (a b : Box) : Box := (f a.1 b.1, f a.2.1 b.2.1, f a.2.2 b.2.2)
def bAdd : Box → Box → Box := bMap2 iAdd
def bSub : Box → Box → Box := bMap2 iSub
def bHull : Box → Box → Box := bMap2 iHull
def bWid (a : Box) (w : Int) : Box := (iWid a.1 w, iWid a.2.1 w, iWid a.2.2 w)
def bMeet (a b : Box) : Option Box := match iMeet a.1 b.1, iMeet a.2.1 b.2.1, iMeet a.2.2 b.2.2 with
  | some x, some y, some z => some (x, y, z)
  | _, _, _ => none
def bIn (a b : Box) : Bool := iIn a.1 b.1 && iIn a.2.1 b.2.1 && iIn a.2.2 b.2.2
def bHas (a : Box) (p : Pt) : Bool := iHas a.1 p.1 && iHas a.2.1 p.2.1 && iHas a.2.2 p.2.2
def bMid (a : Box) : Pt := (iMid a.1, iMid a.2.1, iMid a.2.2)
def bInner (a b : Box) : Iv := iAdd (iAdd (iMul a.1 b.1) (iMul a.2.1 b.2.1)) (iMul a.2.2 b.2.2)
def bSqLen (a : Box) : Iv := iAdd (iAdd (iSq a.1) (iSq a.2.1)) (iSq a.2.2)
def bSize (a : Box) : Int := max (max (iSize a.1) (iSize a.2.1)) (iSize a.2.2)
instance {a b : Pt} {n m : Nat} [BdP a n] [BdP b m] : BdP (pAdd a b) (max n m + 1) := by unfold pAdd; exact BdP.of inferInstance (by omega)
instance {a b : Pt} {n m : Nat} [BdP a n] [BdP b m] : BdP (pSub a b) (max n m + 1) := by unfold pSub; exact BdP.of inferInstance (by omega)
instance {a : Pt} {n : Nat} [BdP a n] : BdB (pBox a) n := by unfold pBox; exact BdB.of inferInstance (by omega)
instance {a b : Box} {n m : Nat} [BdB a n] [BdB b m] : BdB (bAdd a b) (max n m + 1) := by unfold bAdd bMap2; exact BdB.of inferInstance (by omega)
instance {a b : Box} {n m : Nat} [BdB a n] [BdB b m] : BdB (bSub a b) (max n m + 1) := by unfold bSub bMap2; exact BdB.of inferInstance (by omega)
instance {a b : Box} {n m : Nat} [BdB a n] [BdB b m] : BdB (bHull a b) (max n m) := by unfold bHull bMap2; exact BdB.of inferInstance (by omega)
instance {a : Box} {b : Int} {n m : Nat} [BdB a n] [Bd b m] : BdB (bWid a b) (max n m + 1) := by unfold bWid; exact BdB.of inferInstance (by omega)
instance {a : Box} {n : Nat} [BdB a n] : BdP (bMid a) (n + 1) := by unfold bMid; exact BdP.of inferInstance (by omega)
instance {a b : Box} {n m : Nat} [BdB a n] [BdB b m] : BdI (bInner a b) (n + m + 2) := by unfold bInner; exact BdI.of inferInstance (by omega)
instance {a : Box} {n : Nat} [BdB a n] : BdI (bSqLen a) (n + n + 3) := by unfold bSqLen; exact BdI.of inferInstance (by omega)
instance {a : Box} {n : Nat} [BdB a n] : Bd (bSize a) n := by unfold bSize; exact Bd.of inferInstance (by omega)
/-- p is a member -/
def bM (p : Pt) (a : Box) : Prop := iM p.1 a.1 ∧ iM p.2.1 a.2.1 ∧ iM p.2.2 a.2.2
section
variable {a b : Box} {p q : Pt}
theorem bM_add (h : bM p a) (g : bM q b) : bM (pAdd p q) (bAdd a b) := ⟨iM_add h.1 g.1, iM_add h.2.1 g.2.1, iM_add h.2.2 g.2.2⟩
theorem bM_sub (h : bM p a) (g : bM q b) : bM (pSub p q) (bSub a b) := ⟨iM_sub h.1 g.1, iM_sub h.2.1 g.2.1, iM_sub h.2.2 g.2.2⟩
theorem bM_hull1 (h : bM p a) : bM p (bHull a b) := ⟨iM_hull1 h.1, iM_hull1 h.2.1, iM_hull1 h.2.2⟩
theorem bM_hull2 (h : bM p b) : bM p (bHull a b) := ⟨iM_hull2 h.1, iM_hull2 h.2.1, iM_hull2 h.2.2⟩
theorem bM_pt : bM p (pBox p) := ⟨⟨Int.le_refl _, Int.le_refl _⟩, ⟨Int.le_refl _, Int.le_refl _⟩, ⟨Int.le_refl _, Int.le_refl _⟩⟩
theorem iHas_iff {a : Iv} {n : Int} : iHas a n = true ↔ iM n a := decide_eq_true_iff
theorem bHas_iff : bHas a p = true ↔ bM p a := by
  unfold bHas bM
  rw [Bool.and_eq_true, Bool.and_eq_true, iHas_iff, iHas_iff, iHas_iff, and_assoc]
def pDot (p q : Pt) : Int := p.1 * q.1 + p.2.1 * q.2.1 + p.2.2 * q.2.2
theorem bM_inner (h : bM p a) (g : bM q b) : iM (pDot p q) (bInner a b) := iM_add (iM_add (iM_mul h.1 g.1) (iM_mul h.2.1 g.2.1)) (iM_mul h.2.2 g.2.2)
theorem bM_sqLen (h : bM p a) : iM (pDot p p) (bSqLen a) := iM_add (iM_add (iM_sq h.1) (iM_sq h.2.1)) (iM_sq h.2.2)
end
end Q
namespace Q
open PySem PySem.Spec L2
def allI (P : Int → Prop) : List D → Prop
  | [] => True
  | .int z :: l => P z ∧ allI P l
  | _ => False
theorem allI_mem {P : Int → Prop} : ∀ {l : List D}, allI P l → ∀ d ∈ l, ∃ z, d = .int z ∧ P z
  | .int z :: l, h, d, hd => by
    rcases List.mem_cons.mp hd with rfl | hd
    · exact ⟨z, rfl, h.1⟩
    · exact allI_mem h.2 d hd
theorem idxA (P : Int → Prop) {l : List D} {i : Int} {k : D → Prop} (h0 : 0 ≤ i) (h1 : i < l.length) (hP : allI P l) (h : ∀ z, P z → k (.int z)) : idxW (.lst l) (.int i) k := idxP P h0 h1 (allI_mem hP) h
theorem minL_is {n m : Int} {r : List Int} (h1 : m ∈ n :: r) (h2 : ∀ z ∈ n :: r, m ≤ z) : minL n r = m := (minL_uniq h1 h2).symm
theorem maxL_is {n m : Int} {r : List Int} (h1 : m ∈ n :: r) (h2 : ∀ z ∈ n :: r, z ≤ m) : maxL n r = m := (maxL_uniq h1 h2).symm
theorem bl_min_is {ns : List Int} {m : Int} {k : D → Prop} (h1 : m ∈ ns) (h2 : ∀ z ∈ ns, m ≤ z) (h : k (.int m)) : bltW .min [.lst (ns.map .int)] k := by
  cases ns with
  | nil => cases h1
  | cons n r => exact bl_min ⟨n, r, rfl, by rw [minL_is h1 h2]; exact h⟩
theorem bl_max_is {ns : List Int} {m : Int} {k : D → Prop} (h1 : m ∈ ns) (h2 : ∀ z ∈ ns, z ≤ m) (h : k (.int m)) : bltW .max [.lst (ns.map .int)] k := by
  cases ns with
  | nil => cases h1
  | cons n r => exact bl_max ⟨n, r, rfl, by rw [maxL_is h1 h2]; exact h⟩
theorem snoc_int {L : List Int} {z : Int} : L.map D.int ++ [D.int z] = (L ++ [z]).map D.int := by rw [List.map_append]; rfl
end Q
namespace Q
open PySem PySem.Spec L2
theorem bd_iM {a : Iv} {x : Int} {n : Nat} [b : BdI a n] (h : iM x a) : Bd x n := ⟨by
  have := b.l.h
  have := b.r.h
  have := h.1
  have := h.2
  omega⟩
theorem bd_bM {a : Box} {x : Pt} {n : Nat} [b : BdB a n] (h : bM x a) : BdP x n := ⟨@bd_iM _ _ _ b.b1 h.1, @bd_iM _ _ _ b.b2 h.2.1, @bd_iM _ _ _ b.b3 h.2.2⟩
end Q
namespace Q
open PySem PySem.Spec L2
theorem rangeD_succ {lo : Int} {n : Nat} : rangeD lo (n + 1) = rangeD lo n ++ [.int (lo + n)] := by
  unfold rangeD
  rw [List.range_succ, List.map_append]
  rfl
theorem rangeD_zero {lo : Int} : rangeD lo 0 = [] := rfl
theorem mapW_app {f : D → (Option D → Prop) → Prop} {r : List D} : ∀ {l : List D} {k : List D → Prop}, mapW f (l ++ r) k = mapW f l fun ys => mapW f r fun zs => k (ys ++ zs)
  | [], k => rfl
  | x :: l, k => by
    show (f x fun o => mapW f (l ++ r) fun ys => k _) = f x fun o => mapW f l fun ys => mapW f r fun zs => k _
    congr 1
    funext o
    rw [mapW_app]
    cases o <;> rfl
/-- the numbers of a range that lie between two numbers -/
theorem mapW_rngF {f : D → (Option D → Prop) → Prop} {lo c d : Int} : ∀ {n : Nat} {k : List D → Prop}, (∀ z : Int, lo ≤ z → z < lo + n → ∀ kk : Option D → Prop, (c ≤ z ∧ z ≤ d → kk (some (.int z))) → (¬ (c ≤ z ∧ z ≤ d) → kk none) → f (.int z) kk) → k (rangeD (max lo c) (min (lo + n - 1) d - max lo c + 1).toNat) → mapW f (rangeD lo n) k
  | 0, k, hf, h => by
    have e : (min (lo + (0 : Nat) - 1) d - max lo c + 1).toNat = 0 := by omega
    rw [e] at h
    exact h
  | n + 1, k, hf, h => by
    rw [rangeD_succ, mapW_app]
    refine mapW_rngF (fun z h1 h2 kk g1 g2 => hf z h1 (by omega) kk g1 g2) ?_
    rw [mapW_cons]
    refine hf _ (by omega) (by omega) _ (fun q => ?_) fun q => ?_
    · rw [mapW_nil]
      have e : (min (lo + (n + 1 : Nat) - 1) d - max lo c + 1).toNat = (min (lo + n - 1) d - max lo c + 1).toNat + 1 := by omega
      rw [e, rangeD_succ] at h
      have e2 : max lo c + ((min (lo + n - 1) d - max lo c + 1).toNat : Int) = lo + n := by omega
      rw [e2] at h
      exact h
    · rw [mapW_nil]
      have e : (min (lo + (n + 1 : Nat) - 1) d - max lo c + 1).toNat = (min (lo + n - 1) d - max lo c + 1).toNat := by omega
      rw [e] at h
      rw [List.append_nil]
      exact h
theorem rangeD_len {lo : Int} {n : Nat} : (rangeD lo n).length = n := by unfold rangeD; rw [List.length_map, List.length_range]
theorem idx_rng0 {lo : Int} {n : Nat} {k : D → Prop} (h : 0 < n) (hk : k (.int lo)) : idxW (.lst (rangeD lo n)) (.int 0) k := by
  refine idx_lst (by decide) (by rw [rangeD_len]; omega) ?_
  have e : (rangeD lo n)[(0 : Int).toNat]'(by rw [rangeD_len]; exact h) = .int lo := by simp [rangeD]
  rw [e]; exact hk
/-- the last item -/
theorem idx_last {l : List D} {d : D} {k : D → Prop} (hk : k d) : idxW (.lst (l ++ [d])) (.int (-1)) k := by
  show match ixD (l ++ [d]) (.negSucc 0) with
    | some d => k d
    | none => False
  have : ixD (l ++ [d]) (.negSucc 0) = some d := by
    show (if 0 < (l ++ [d]).length then (l ++ [d])[(l ++ [d]).length - 1 - 0]? else none) = _
    rw [if_pos (by simp)]
    simp
  rw [this]; exact hk
theorem idx_rngL {lo : Int} {n : Nat} {k : D → Prop} (h : 0 < n) (hk : k (.int (lo + n - 1))) : idxW (.lst (rangeD lo n)) (.int (-1)) k := by
  cases n with
  | zero => exact absurd h (by decide)
  | succ n =>
    rw [rangeD_succ]
    refine idx_last ?_
    have : lo + ((n + 1 : Nat) : Int) - 1 = lo + n := by omega
    rw [this] at hk
    exact hk
end Q
namespace Q
instance bd_pow {a : Int} {k n : Nat} [h : Bd a n] : Bd (a ^ k) (n * k + 1) := ⟨by
  rw [Int.natAbs_pow]
  have h1 : a.natAbs ^ k ≤ (2 ^ n) ^ k := Nat.pow_le_pow_left (Nat.le_of_lt h.h) k
  rw [← Nat.pow_mul] at h1
  have h2 : 2 ^ (n * k) < 2 ^ (n * k + 1) := Nat.pow_lt_pow_right (by decide) (by omega)
  omega⟩
/-- an interval around a number of at most s, of a half width of at most w -/
def iRnd (s w : Int) (a : Iv) : Prop := a.1 ≤ a.2 ∧ a.2 ≤ a.1 + 2 * w ∧ -(s + w) ≤ a.1 ∧ a.2 ≤ s + w ∧ (∃ c, -s ≤ c ∧ c ≤ s ∧ iM c a)
def bRnd (s w : Int) (b : Box) : Prop := iRnd s w b.1 ∧ iRnd s w b.2.1 ∧ iRnd s w b.2.2
def iWf (a : Iv) : Prop := a.1 ≤ a.2
def bWf (b : Box) : Prop := iWf b.1 ∧ iWf b.2.1 ∧ iWf b.2.2
theorem bRnd.wf {s w : Int} {b : Box} (h : bRnd s w b) : bWf b := ⟨h.1.1, h.2.1.1, h.2.2.1⟩
theorem iRnd_mk {s w c h : Int} (h1 : -s ≤ c) (h2 : c ≤ s) (h3 : 0 ≤ h) (h4 : h ≤ w) : iRnd s w (c - h, c + h) := ⟨by dsimp only; omega, by dsimp only; omega, by dsimp only; omega, by dsimp only; omega, c, h1, h2, by dsimp only; omega, by dsimp only; omega⟩
theorem mod_in {r w : Int} (h : 0 ≤ w) : 0 ≤ r % (w + 1) ∧ r % (w + 1) ≤ w := by
  have b1 := Int.emod_nonneg r (b := w + 1) (by omega)
  have b2 := Int.emod_lt_of_pos r (b := w + 1) (by omega)
  omega
theorem mem_draw {a : Iv} {r : Int} (h : a.1 ≤ a.2) : iM (a.1 + r % (a.2 - a.1 + 1)) a := by
  have := in_iv (r := r) h
  exact ⟨by omega, by omega⟩
end Q
namespace Q
open PySem PySem.Spec L2
theorem slots_tp2 {i j : Nat} : Tg.slots (.tp [.nm i, .nm j]) = [i, j] := rfl
theorem slots_tp3 {i j l : Nat} : Tg.slots (.tp [.nm i, .nm j, .nm l]) = [i, j, l] := rfl
theorem wipeR_two {ρ : Env} {i j : Nat} : wipeR ρ [i, j] = (ρ.set j .un).set i .un := rfl
theorem wipeR_three {ρ : Env} {i j l : Nat} : wipeR ρ [i, j, l] = ((ρ.set l .un).set j .un).set i .un := rfl
theorem kdec {p : Prop} [Decidable p] {k : D → Prop} (hp : p) (h : k (.bl true)) : k (.bl (decide p)) := by rw [decide_eq_true hp]; exact h
theorem bl_sum3 {a b c : Int} {k : D → Prop} : bltW .sum [.lst [.int a, .int b, .int c]] k = k (.int (a + b + c)) := by
  show k (.int (a + (b + (c + 0)))) = _
  rw [Int.add_zero, Int.add_assoc]
/-- a box or None -/
def dOB : Option Box → D
  | none => .non
  | some b => dBox b
theorem eq_ob {a b : Option Box} {k : Bool → Prop} : eqW (dOB a) (dOB b) k = k (decide (a = b)) := by
  cases a with
  | none => cases b with
    | none => exact eq_nn
    | some b => exact eq_box_non
  | some a => cases b with
    | none => exact eq_non_box
    | some b => exact (eq_box (a := a) (b := b)).trans (by congr 1; exact decide_eq_decide.mpr ⟨fun h => by rw [h], fun h => Option.some.inj h⟩)
/-- the ends of the common part -/
def bBoth (a b : Box) : Box := ((max a.1.1 b.1.1, min a.1.2 b.1.2), (max a.2.1.1 b.2.1.1, min a.2.1.2 b.2.1.2), (max a.2.2.1 b.2.2.1, min a.2.2.2 b.2.2.2))
theorem bMeet_some {a b : Box} (h : bWf (bBoth a b)) : bMeet a b = some (bBoth a b) := by
  have e : ∀ {a b : Iv}, max a.1 b.1 ≤ min a.2 b.2 → iMeet a b = some (max a.1 b.1, min a.2 b.2) := fun {a b} h => by
    unfold iMeet; rw [if_neg (by omega)]
  unfold bMeet
  rw [e h.1, e h.2.1, e h.2.2]
  rfl
theorem bMeet_none {a b : Box} (h : ¬ bWf (bBoth a b)) : bMeet a b = none := by
  have e : ∀ {a b : Iv} {c : Iv}, iMeet a b = some c → max a.1 b.1 ≤ min a.2 b.2 := fun {a b c} h => by
    unfold iMeet at h; split at h
    · cases h
    · omega
  unfold bMeet
  split
  · rename_i x y z h1 h2 h3
    exact absurd ⟨e h1, e h2, e h3⟩ h
  · rfl
theorem bMeet_iff {a b c : Box} : bMeet a b = some c ↔ bWf (bBoth a b) ∧ c = bBoth a b := by
  constructor
  · intro h
    by_cases z : bWf (bBoth a b)
    · rw [bMeet_some z] at h
      exact ⟨z, (Option.some.inj h).symm⟩
    · rw [bMeet_none z] at h; cases h
  · rintro ⟨h, rfl⟩
    exact bMeet_some h
theorem bM_both {a b : Box} {p : Pt} : bM p (bBoth a b) ↔ bM p a ∧ bM p b := by
  unfold bM bBoth iM
  dsimp only
  constructor
  · intro h; refine ⟨⟨⟨?_, ?_⟩, ⟨?_, ?_⟩, ⟨?_, ?_⟩⟩, ⟨⟨?_, ?_⟩, ⟨?_, ?_⟩, ⟨?_, ?_⟩⟩⟩ <;> omega
  · intro h; refine ⟨⟨?_, ?_⟩, ⟨?_, ?_⟩, ⟨?_, ?_⟩⟩ <;> omega
theorem bIn_both {a b : Box} : bIn a b = decide (bBoth a b = a) := by
  have e : ∀ {a b : Iv}, iIn a b = decide ((max a.1 b.1, min a.2 b.2) = a) := fun {a b} => by
    unfold iIn
    refine decide_eq_decide.mpr ⟨fun h => Prod.ext (by dsimp only; omega) (by dsimp only; omega), fun h => ?_⟩
    have h1 := congrArg Prod.fst h
    have h2 := congrArg Prod.snd h
    dsimp only at h1 h2
    omega
  unfold bIn
  rw [e, e, e, ← Bool.decide_and, ← Bool.decide_and]
  refine decide_eq_decide.mpr ⟨fun h => Prod.ext h.1.1 (Prod.ext h.1.2 h.2), fun h => ?_⟩
  exact ⟨⟨congrArg Prod.fst h, congrArg (fun z : Box => z.2.1) h⟩, congrArg (fun z : Box => z.2.2) h⟩
end Q
namespace Q
open PySem PySem.Spec L2
theorem rangeD_1 : rangeD 0 1 = [.int 0] := rfl
/-! ### the pull -/
def pullC (mu ob s r z c f : Int) : Int := -mu * c / (s * r) + ob * c * (5 * z * z - f * s) / (s * s * s * r)
def pPull (mu ob : Int) (p : Pt) : Pt := (pullC mu ob (pDot p p) (isq (pDot p p)) p.2.2 p.1 1, pullC mu ob (pDot p p) (isq (pDot p p)) p.2.2 p.2.1 1, pullC mu ob (pDot p p) (isq (pDot p p)) p.2.2 p.2.2 3)
def bPullC (mu ob : Int) (s d e h c : Iv) (f : Int) : Iv := iAdd (iQuo (iScale c (-mu)) d) (iQuo (iScale (iMul c (iSub h (iScale s f))) ob) e)
/-- the divisors -/
def bD (b : Box) : Iv := iMul (bSqLen b) (iRoot (bSqLen b))
def bE (b : Box) : Iv := iMul (iMul (bSqLen b) (bSqLen b)) (bD b)
def bPullS (mu ob : Int) (b : Box) : Box := (bPullC mu ob (bSqLen b) (bD b) (bE b) (iScale (iSq b.2.2) 5) b.1 1, bPullC mu ob (bSqLen b) (bD b) (bE b) (iScale (iSq b.2.2) 5) b.2.1 1, bPullC mu ob (bSqLen b) (bD b) (bE b) (iScale (iSq b.2.2) 5) b.2.2 3)
def bPull (mu ob : Int) (b : Box) : Option Box := if (bSqLen b).1 = 0 then none else some (bPullS mu ob b)
instance {mu ob : Int} {s d e h c : Iv} {f : Int} {n1 n2 n3 n4 n5 n6 n7 n8 : Nat} [Bd mu n1] [Bd ob n2] [BdI s n3] [BdI d n4] [BdI e n5] [BdI h n6] [BdI c n7] [Bd f n8] : BdI (bPullC mu ob s d e h c f) (n1 + n2 + n3 + n6 + n7 + n7 + n8 + 2) := by
  unfold bPullC; exact BdI.of inferInstance (by omega)
instance {b : Box} {n : Nat} [BdB b n] : BdI (bD b) (4 * n + 7) := by unfold bD; exact BdI.of inferInstance (by omega)
instance {b : Box} {n : Nat} [BdB b n] : BdI (bE b) (8 * n + 13) := by unfold bE; exact BdI.of inferInstance (by omega)
instance {mu ob : Int} {b : Box} {n m k : Nat} [BdB b n] [Bd mu m] [Bd ob k] : BdB (bPullS mu ob b) (6 * n + m + k + 20) := by
  have e1 : Nat.log2 (Int.natAbs 1) = 0 := rfl
  have e3 : Nat.log2 (Int.natAbs 3) = 1 := rfl
  have e5 : Nat.log2 (Int.natAbs 5) = 2 := rfl
  unfold bPullS; exact BdB.of inferInstance (by rw [e1, e3, e5]; omega)
def iPos (a : Iv) : Prop := 0 < a.1 ∧ a.1 ≤ a.2
theorem iPos_mul {a b : Iv} (h : iPos a) (g : iPos b) : iPos (iMul a b) := by
  obtain ⟨h1, h2⟩ := h
  obtain ⟨g1, g2⟩ := g
  have p1 := Int.mul_pos h1 g1
  have p2 : 0 < a.1 * b.2 := Int.mul_pos h1 (by omega)
  have p3 : 0 < a.2 * b.1 := Int.mul_pos (by omega) g1
  have p4 : 0 < a.2 * b.2 := Int.mul_pos (by omega) (by omega)
  unfold iMul iPos
  dsimp only
  omega
theorem iPos_root {a : Iv} (h : iPos a) : iPos (iRoot a) := by
  obtain ⟨h1, h2⟩ := h
  unfold iRoot iPos
  dsimp only
  have e : max a.1 0 = a.1 := by omega
  rw [e]
  exact ⟨isq_pos h1, isq_mono (by omega) h2⟩
theorem iSq_wf {a : Iv} (h : iWf a) : iWf (iSq a) := by
  have := iM_sq (x := a.1) (a := a) ⟨Int.le_refl _, h⟩
  exact Int.le_trans this.1 this.2
theorem bSqLen_wf {b : Box} (h : bWf b) : iWf (bSqLen b) := by
  have h1 := iSq_wf h.1
  have h2 := iSq_wf h.2.1
  have h3 := iSq_wf h.2.2
  unfold iWf bSqLen iAdd at *
  dsimp only
  omega
theorem bSqLen_nn {b : Box} : 0 ≤ (bSqLen b).1 := by
  have h1 := iSq_nn (a := b.1)
  have h2 := iSq_nn (a := b.2.1)
  have h3 := iSq_nn (a := b.2.2)
  unfold bSqLen iAdd
  dsimp only
  omega
theorem bSqLen_pos {b : Box} (h : bWf b) (z : (bSqLen b).1 ≠ 0) : iPos (bSqLen b) := ⟨by have := bSqLen_nn (b := b); omega, bSqLen_wf h⟩
theorem bD_pos {b : Box} (h : bWf b) (z : (bSqLen b).1 ≠ 0) : iPos (bD b) := iPos_mul (bSqLen_pos h z) (iPos_root (bSqLen_pos h z))
theorem bE_pos {b : Box} (h : bWf b) (z : (bSqLen b).1 ≠ 0) : iPos (bE b) := iPos_mul (iPos_mul (bSqLen_pos h z) (bSqLen_pos h z)) (bD_pos h z)
theorem bM_wf {b : Box} {p : Pt} (h : bM p b) : bWf b := ⟨Int.le_trans h.1.1 h.1.2, Int.le_trans h.2.1.1 h.2.1.2, Int.le_trans h.2.2.1 h.2.2.2⟩
theorem pullC_in {mu ob z c f s r : Int} {S Dd Ee Hh C : Iv} (hd : 0 < Dd.1) (he : 0 < Ee.1) (hs : iM s S) (h1 : iM (s * r) Dd) (h2 : iM (s * s * (s * r)) Ee) (h3 : iM (z * z * 5) Hh) (hc : iM c C) : iM (pullC mu ob s r z c f) (bPullC mu ob S Dd Ee Hh C f) := by
  unfold pullC bPullC
  refine iM_add ?_ ?_
  · have := iM_quo hd (iM_scale (n := -mu) hc) h1
    rw [Int.mul_comm c (-mu)] at this
    exact this
  · have := iM_quo he (iM_scale (n := ob) (iM_mul hc (iM_sub h3 (iM_scale (n := f) hs)))) h2
    have e1 : c * (z * z * 5 - s * f) * ob = ob * c * (5 * z * z - f * s) := by
      have e5 : z * z * 5 = 5 * z * z := by ac_rfl
      rw [e5, Int.mul_comm s f]
      ac_rfl
    have e2 : s * s * (s * r) = s * s * s * r := by rw [← Int.mul_assoc]
    rw [e1, e2] at this
    exact this
/-- the pull of a member is a member -/
theorem bPull_in {mu ob : Int} {b c : Box} {p : Pt} (h : bM p b) (e : bPull mu ob b = some c) : bM (pPull mu ob p) c := by
  unfold bPull at e
  split at e
  · cases e
  rename_i z
  cases e
  have w := bM_wf h
  have hs := bM_sqLen h
  have pd := bD_pos w z
  have pe := bE_pos w z
  have ps := bSqLen_pos w z
  have hr : iM (isq (pDot p p)) (iRoot (bSqLen b)) := iM_root hs (by have := hs.1; have := ps.1; omega)
  have h1 := iM_mul hs hr
  have h2 := iM_mul (iM_mul hs hs) h1
  have h3 := iM_scale (n := 5) (iM_sq h.2.2)
  exact ⟨pullC_in pd.1 pe.1 hs h1 h2 h3 h.1, pullC_in pd.1 pe.1 hs h1 h2 h3 h.2.1, pullC_in pd.1 pe.1 hs h1 h2 h3 h.2.2⟩
/-- the centre is a member -/
theorem bSqLen_zero {b : Box} (h : bWf b) : (bSqLen b).1 = 0 ↔ bM (0, 0, 0) b := by
  have e : ∀ {a : Iv}, iWf a → ((iSq a).1 = 0 ↔ iM 0 a) := fun {a} w => by
    unfold iWf at w
    unfold iSq iM
    have pos : ∀ {x : Int}, x ≠ 0 → 0 < x * x := fun {x} hx => by
      rcases Int.lt_or_gt_of_ne hx with q | q
      · exact Int.mul_pos_of_neg_of_neg q q
      · exact Int.mul_pos q q
    by_cases c : 0 ≤ a.1
    · rw [if_pos c]
      by_cases d : a.1 = 0
      · rw [d]; dsimp only; omega
      · have := pos d; dsimp only; omega
    · rw [if_neg c]
      by_cases d : a.2 ≤ 0
      · rw [if_pos d]
        by_cases d2 : a.2 = 0
        · rw [d2]; dsimp only; omega
        · have := pos d2; dsimp only; omega
      · rw [if_neg d]; dsimp only; omega
  have h1 := iSq_nn (a := b.1)
  have h2 := iSq_nn (a := b.2.1)
  have h3 := iSq_nn (a := b.2.2)
  have e1 := e h.1
  have e2 := e h.2.1
  have e3 := e h.2.2
  unfold bM
  dsimp only
  rw [← e1, ← e2, ← e3]
  show (iSq b.1).1 + (iSq b.2.1).1 + (iSq b.2.2).1 = 0 ↔ _
  omega
end Q
namespace Q
theorem two_pow_int (i : Nat) : ((2 ^ i : Nat) : Int) = (2 : Int) ^ i := by simp
theorem bd_two {i N : Nat} (h : i < N) : Bd ((2 : Int) ^ i) N := ⟨by
  rw [← two_pow_int, Int.natAbs_natCast]
  exact Nat.pow_lt_pow_right (by decide) h⟩
theorem two_sq_le {i m : Nat} {n : Int} (h : (2 : Int) ^ i * 2 ^ i ≤ n) (hn : n.natAbs < 2 ^ m) : i + i < m := by
  rw [← Int.pow_add, ← two_pow_int] at h
  rcases Nat.lt_or_ge (i + i) m with z | z
  · exact z
  · have := two_mono z
    omega
theorem two_pos (i : Nat) : (1 : Int) ≤ 2 ^ i := by
  have := Nat.two_pow_pos i
  rw [← two_pow_int]
  omega
theorem two_half {i : Nat} (h : 0 < i) : (2 : Int) ^ i = 2 * 2 ^ (i - 1) := by
  cases i with
  | zero => cases h
  | succ i => rw [Nat.add_sub_cancel, Int.pow_succ, Int.mul_comm]
end Q
namespace Q
/-- an interval of one number -/
def dg (x : Int) : Iv := (x, x)
section
variable {x y n : Int}
theorem dg_add : iAdd (dg x) (dg y) = dg (x + y) := rfl
theorem dg_sub : iSub (dg x) (dg y) = dg (x - y) := rfl
theorem dg_neg : iNeg (dg x) = dg (-x) := rfl
theorem dg_scale : iScale (dg x) n = dg (x * n) := by unfold iScale dg; split <;> rfl
theorem dg_mul : iMul (dg x) (dg y) = dg (x * y) := by
  unfold iMul dg
  dsimp only
  rw [Int.min_self, Int.min_self, Int.min_self, Int.max_self, Int.max_self, Int.max_self]
theorem dg_sq : iSq (dg x) = dg (x * x) := by
  unfold iSq dg
  dsimp only
  by_cases z : 0 ≤ x
  · rw [if_pos z]
  · rw [if_neg z, if_pos (by omega)]
theorem dg_quo : iQuo (dg x) (dg y) = dg (x / y) := by
  unfold iQuo dg
  dsimp only
  rw [Int.min_self, Int.max_self]
theorem dg_root (h : 0 ≤ x) : iRoot (dg x) = dg (isq x) := by
  unfold iRoot dg
  dsimp only
  rw [Int.max_eq_left h]
theorem dg_wid : iWid (dg x) 0 = dg x := by unfold iWid dg; dsimp only; rw [Int.sub_zero, Int.add_zero]
end
theorem pBox_dg {p : Pt} : pBox p = (dg p.1, dg p.2.1, dg p.2.2) := rfl
theorem pDot_nn {p : Pt} : 0 ≤ pDot p p := by
  have h1 := sq_nn (x := p.1)
  have h2 := sq_nn (x := p.2.1)
  have h3 := sq_nn (x := p.2.2)
  unfold pDot
  omega
theorem pDot_pos {p : Pt} (hp : p ≠ (0, 0, 0)) : 0 < pDot p p := by
  have f : ∀ {x : Int}, 0 ≤ x * x ∧ (x * x = 0 → x = 0) := fun {x} => ⟨sq_nn, fun h => by
    rcases Int.mul_eq_zero.mp h with z | z <;> exact z⟩
  have h1 := f (x := p.1)
  have h2 := f (x := p.2.1)
  have h3 := f (x := p.2.2)
  unfold pDot
  rcases Int.lt_or_le 0 (p.1 * p.1 + p.2.1 * p.2.1 + p.2.2 * p.2.2) with q | q
  · exact q
  · exact absurd (Prod.ext (h1.2 (by omega)) (Prod.ext (h2.2 (by omega)) (h3.2 (by omega)))) hp
theorem bSqLen_pt {p : Pt} : bSqLen (pBox p) = dg (pDot p p) := by
  show iAdd (iAdd (iSq (dg p.1)) (iSq (dg p.2.1))) (iSq (dg p.2.2)) = _
  rw [dg_sq, dg_sq, dg_sq, dg_add, dg_add]
  rfl
theorem bPullC_pt {mu ob s r z c f : Int} : bPullC mu ob (dg s) (dg (s * r)) (dg (s * s * (s * r))) (dg (z * z * 5)) (dg c) f = dg (pullC mu ob s r z c f) := by
  unfold bPullC pullC
  rw [dg_scale, dg_scale, dg_sub, dg_mul, dg_scale, dg_quo, dg_quo, dg_add]
  have e1 : c * (z * z * 5 - s * f) * ob = ob * c * (5 * z * z - f * s) := by
    have e5 : z * z * 5 = 5 * z * z := by ac_rfl
    rw [e5, Int.mul_comm s f]
    ac_rfl
  have e2 : s * s * (s * r) = s * s * s * r := by rw [← Int.mul_assoc]
  rw [e1, e2, Int.mul_comm c (-mu)]
/-- over one point alone: the pull there -/
theorem bPull_pt {mu ob : Int} {p : Pt} (hp : p ≠ (0, 0, 0)) : bPull mu ob (pBox p) = some (pBox (pPull mu ob p)) := by
  have hs := pDot_pos hp
  unfold bPull
  rw [bSqLen_pt, if_neg (by unfold dg; dsimp only; omega)]
  congr 1
  have hd : bD (pBox p) = dg (pDot p p * isq (pDot p p)) := by unfold bD; rw [bSqLen_pt, dg_root (by omega), dg_mul]
  have he : bE (pBox p) = dg (pDot p p * pDot p p * (pDot p p * isq (pDot p p))) := by unfold bE; rw [bSqLen_pt, hd, dg_mul, dg_mul]
  unfold bPullS
  rw [hd, he, bSqLen_pt, show (pBox p).2.2 = dg p.2.2 from rfl, show (pBox p).1 = dg p.1 from rfl, show (pBox p).2.1 = dg p.2.1 from rfl, dg_sq, dg_scale, bPullC_pt, bPullC_pt, bPullC_pt]
  rfl
theorem bPull_none {mu ob : Int} {b : Box} (h : bWf b) : bPull mu ob b = none ↔ bM (0, 0, 0) b := by
  rw [← bSqLen_zero h]
  unfold bPull
  constructor
  · intro z; split at z
    · assumption
    · cases z
  · intro z; rw [if_pos z]
end Q

/-! QU: the program's classes as plain structures. -/
namespace Q
open PySem PySem.Spec L2
namespace M
def dO {α : Type} (n : α → D) : Option α → D
  | none => .non
  | some a => n a
end M
abbrev dOI : Option Int → D := M.dO .int
/-- a method's receiver -/
def mthW (NM : Nam) (c : Cal) (d : D) : Prop := match d with
  | .ins i ks _ => i = c.cls ∧ (ks.all fun k => decide (NM.at_ k ≠ c.mt)) = true
  | _ => False
theorem wmet {NM : Nam} {AT : List (Nat × Nat)} {Φ : List Cal} {Γ : List (Str × D)} {j : Nat} {o : E} {es : List E} {ρ : Env} {k : D → Prop} {x : Exc → Prop} {c : Cal} (h : Φ[j]? = some c) : wpE NM AT Φ Γ (.meth j o es) ρ k x = wpE NM AT Φ Γ o ρ (fun d => mthW NM c d ∧ wpEs NM AT Φ Γ es ρ (fun ds => c.fs (d :: (ds ++ c.dfl)) k x) x) x := by
  rw [wpE, h]; rfl

structure Body where
  mu : Int
  ob : Int
  turn : Pt
def dBody (s : Body) : D := .ins 4 [34, 38, 60] [.int s.mu, .int s.ob, dPt s.turn]
theorem at_Body_mu {AT : List (Nat × Nat)} {k : D → Prop} {s : Body} : atrW AT (dBody s) 34 k = (atB AT 4 34 = true ∧ k (.int s.mu)) := rfl
theorem at_Body_ob {AT : List (Nat × Nat)} {k : D → Prop} {s : Body} : atrW AT (dBody s) 38 k = (atB AT 4 38 = true ∧ k (.int s.ob)) := rfl
theorem at_Body_turn {AT : List (Nat × Nat)} {k : D → Prop} {s : Body} : atrW AT (dBody s) 60 k = (atB AT 4 60 = true ∧ k (dPt s.turn)) := rfl
theorem f_Body {v0 : Int} {v1 : Int} {v2 : Pt} : D.ins 4 [34, 38, 60] [.int v0, .int v1, dPt v2] = dBody ⟨v0, v1, v2⟩ := rfl
theorem co_is_Body {s : Body} {k : Bool → Prop} : copW .is_ (dBody s) .non k = k false := rfl
theorem co_in_Body {s : Body} {k : Bool → Prop} : copW .isnot (dBody s) .non k = k true := rfl
theorem mt_Body {NM : Nam} {c : Cal} {s : Body} : mthW NM c (dBody s) = (4 = c.cls ∧ ([34, 38, 60].all fun k => decide (NM.at_ k ≠ c.mt)) = true) := rfl
structure Burn where
  b : Int
  e : Int
  push : Box
def dBurn (s : Burn) : D := .ins 5 [4, 19, 47] [.int s.b, .int s.e, dBox s.push]
theorem at_Burn_b {AT : List (Nat × Nat)} {k : D → Prop} {s : Burn} : atrW AT (dBurn s) 4 k = (atB AT 5 4 = true ∧ k (.int s.b)) := rfl
theorem at_Burn_e {AT : List (Nat × Nat)} {k : D → Prop} {s : Burn} : atrW AT (dBurn s) 19 k = (atB AT 5 19 = true ∧ k (.int s.e)) := rfl
theorem at_Burn_push {AT : List (Nat × Nat)} {k : D → Prop} {s : Burn} : atrW AT (dBurn s) 47 k = (atB AT 5 47 = true ∧ k (dBox s.push)) := rfl
theorem f_Burn {v0 : Int} {v1 : Int} {v2 : Box} : D.ins 5 [4, 19, 47] [.int v0, .int v1, dBox v2] = dBurn ⟨v0, v1, v2⟩ := rfl
theorem co_is_Burn {s : Burn} {k : Bool → Prop} : copW .is_ (dBurn s) .non k = k false := rfl
theorem co_in_Burn {s : Burn} {k : Bool → Prop} : copW .isnot (dBurn s) .non k = k true := rfl
theorem mt_Burn {NM : Nam} {c : Cal} {s : Burn} : mthW NM c (dBurn s) = (5 = c.cls ∧ ([4, 19, 47].all fun k => decide (NM.at_ k ≠ c.mt)) = true) := rfl
structure Sight where
  at_ : Int
  place : Box
def dSight (s : Sight) : D := .ins 26 [3, 44] [.int s.at_, dBox s.place]
theorem at_Sight_at_ {AT : List (Nat × Nat)} {k : D → Prop} {s : Sight} : atrW AT (dSight s) 3 k = (atB AT 26 3 = true ∧ k (.int s.at_)) := rfl
theorem at_Sight_place {AT : List (Nat × Nat)} {k : D → Prop} {s : Sight} : atrW AT (dSight s) 44 k = (atB AT 26 44 = true ∧ k (dBox s.place)) := rfl
theorem f_Sight {v0 : Int} {v1 : Box} : D.ins 26 [3, 44] [.int v0, dBox v1] = dSight ⟨v0, v1⟩ := rfl
theorem co_is_Sight {s : Sight} {k : Bool → Prop} : copW .is_ (dSight s) .non k = k false := rfl
theorem co_in_Sight {s : Sight} {k : Bool → Prop} : copW .isnot (dSight s) .non k = k true := rfl
theorem mt_Sight {NM : Nam} {c : Cal} {s : Sight} : mthW NM c (dSight s) = (26 = c.cls ∧ ([3, 44].all fun k => decide (NM.at_ k ≠ c.mt)) = true) := rfl
structure Stt where
  place : Box
  speed : Box
def dStt (s : Stt) : D := .ins 28 [44, 53] [dBox s.place, dBox s.speed]
theorem at_Stt_place {AT : List (Nat × Nat)} {k : D → Prop} {s : Stt} : atrW AT (dStt s) 44 k = (atB AT 28 44 = true ∧ k (dBox s.place)) := rfl
theorem at_Stt_speed {AT : List (Nat × Nat)} {k : D → Prop} {s : Stt} : atrW AT (dStt s) 53 k = (atB AT 28 53 = true ∧ k (dBox s.speed)) := rfl
theorem f_Stt {v0 : Box} {v1 : Box} : D.ins 28 [44, 53] [dBox v0, dBox v1] = dStt ⟨v0, v1⟩ := rfl
theorem co_is_Stt {s : Stt} {k : Bool → Prop} : copW .is_ (dStt s) .non k = k false := rfl
theorem co_in_Stt {s : Stt} {k : Bool → Prop} : copW .isnot (dStt s) .non k = k true := rfl
theorem mt_Stt {NM : Nam} {c : Cal} {s : Stt} : mthW NM c (dStt s) = (28 = c.cls ∧ ([44, 53].all fun k => decide (NM.at_ k ≠ c.mt)) = true) := rfl
structure Craft where
  name : Str
  start : Int
  place : Box
  speed : Box
  drift : Int
  burns : List Burn
  sights : List Sight
def dCraft (s : Craft) : D := .ins 13 [35, 55, 44, 53, 15, 8, 51] [.str s.name, .int s.start, dBox s.place, dBox s.speed, .int s.drift, .tup (s.burns.map dBurn), .tup (s.sights.map dSight)]
theorem at_Craft_name {AT : List (Nat × Nat)} {k : D → Prop} {s : Craft} : atrW AT (dCraft s) 35 k = (atB AT 13 35 = true ∧ k (.str s.name)) := rfl
theorem at_Craft_start {AT : List (Nat × Nat)} {k : D → Prop} {s : Craft} : atrW AT (dCraft s) 55 k = (atB AT 13 55 = true ∧ k (.int s.start)) := rfl
theorem at_Craft_place {AT : List (Nat × Nat)} {k : D → Prop} {s : Craft} : atrW AT (dCraft s) 44 k = (atB AT 13 44 = true ∧ k (dBox s.place)) := rfl
theorem at_Craft_speed {AT : List (Nat × Nat)} {k : D → Prop} {s : Craft} : atrW AT (dCraft s) 53 k = (atB AT 13 53 = true ∧ k (dBox s.speed)) := rfl
theorem at_Craft_drift {AT : List (Nat × Nat)} {k : D → Prop} {s : Craft} : atrW AT (dCraft s) 15 k = (atB AT 13 15 = true ∧ k (.int s.drift)) := rfl
theorem at_Craft_burns {AT : List (Nat × Nat)} {k : D → Prop} {s : Craft} : atrW AT (dCraft s) 8 k = (atB AT 13 8 = true ∧ k (.tup (s.burns.map dBurn))) := rfl
theorem at_Craft_sights {AT : List (Nat × Nat)} {k : D → Prop} {s : Craft} : atrW AT (dCraft s) 51 k = (atB AT 13 51 = true ∧ k (.tup (s.sights.map dSight))) := rfl
theorem f_Craft {v0 : Str} {v1 : Int} {v2 : Box} {v3 : Box} {v4 : Int} {v5 : List Burn} {v6 : List Sight} : D.ins 13 [35, 55, 44, 53, 15, 8, 51] [.str v0, .int v1, dBox v2, dBox v3, .int v4, .tup (v5.map dBurn), .tup (v6.map dSight)] = dCraft ⟨v0, v1, v2, v3, v4, v5, v6⟩ := rfl
theorem co_is_Craft {s : Craft} {k : Bool → Prop} : copW .is_ (dCraft s) .non k = k false := rfl
theorem co_in_Craft {s : Craft} {k : Bool → Prop} : copW .isnot (dCraft s) .non k = k true := rfl
theorem mt_Craft {NM : Nam} {c : Cal} {s : Craft} : mthW NM c (dCraft s) = (13 = c.cls ∧ ([35, 55, 44, 53, 15, 8, 51].all fun k => decide (NM.at_ k ≠ c.mt)) = true) := rfl
structure Site where
  name : Str
  place : Pt
def dSite (s : Site) : D := .ins 27 [35, 44] [.str s.name, dPt s.place]
theorem at_Site_name {AT : List (Nat × Nat)} {k : D → Prop} {s : Site} : atrW AT (dSite s) 35 k = (atB AT 27 35 = true ∧ k (.str s.name)) := rfl
theorem at_Site_place {AT : List (Nat × Nat)} {k : D → Prop} {s : Site} : atrW AT (dSite s) 44 k = (atB AT 27 44 = true ∧ k (dPt s.place)) := rfl
theorem f_Site {v0 : Str} {v1 : Pt} : D.ins 27 [35, 44] [.str v0, dPt v1] = dSite ⟨v0, v1⟩ := rfl
theorem co_is_Site {s : Site} {k : Bool → Prop} : copW .is_ (dSite s) .non k = k false := rfl
theorem co_in_Site {s : Site} {k : Bool → Prop} : copW .isnot (dSite s) .non k = k true := rfl
theorem mt_Site {NM : Nam} {c : Cal} {s : Site} : mthW NM c (dSite s) = (27 = c.cls ∧ ([35, 44].all fun k => decide (NM.at_ k ≠ c.mt)) = true) := rfl
structure Conts where
  body : Body
  stride : Int
  fine : Int
  crafts : List Craft
  sites : List Site
def dConts (s : Conts) : D := .ins 9 [5, 58, 22, 14, 52] [dBody s.body, .int s.stride, .int s.fine, .tup (s.crafts.map dCraft), .tup (s.sites.map dSite)]
theorem at_Conts_body {AT : List (Nat × Nat)} {k : D → Prop} {s : Conts} : atrW AT (dConts s) 5 k = (atB AT 9 5 = true ∧ k (dBody s.body)) := rfl
theorem at_Conts_stride {AT : List (Nat × Nat)} {k : D → Prop} {s : Conts} : atrW AT (dConts s) 58 k = (atB AT 9 58 = true ∧ k (.int s.stride)) := rfl
theorem at_Conts_fine {AT : List (Nat × Nat)} {k : D → Prop} {s : Conts} : atrW AT (dConts s) 22 k = (atB AT 9 22 = true ∧ k (.int s.fine)) := rfl
theorem at_Conts_crafts {AT : List (Nat × Nat)} {k : D → Prop} {s : Conts} : atrW AT (dConts s) 14 k = (atB AT 9 14 = true ∧ k (.tup (s.crafts.map dCraft))) := rfl
theorem at_Conts_sites {AT : List (Nat × Nat)} {k : D → Prop} {s : Conts} : atrW AT (dConts s) 52 k = (atB AT 9 52 = true ∧ k (.tup (s.sites.map dSite))) := rfl
theorem f_Conts {v0 : Body} {v1 : Int} {v2 : Int} {v3 : List Craft} {v4 : List Site} : D.ins 9 [5, 58, 22, 14, 52] [dBody v0, .int v1, .int v2, .tup (v3.map dCraft), .tup (v4.map dSite)] = dConts ⟨v0, v1, v2, v3, v4⟩ := rfl
theorem co_is_Conts {s : Conts} {k : Bool → Prop} : copW .is_ (dConts s) .non k = k false := rfl
theorem co_in_Conts {s : Conts} {k : Bool → Prop} : copW .isnot (dConts s) .non k = k true := rfl
theorem mt_Conts {NM : Nam} {c : Cal} {s : Conts} : mthW NM c (dConts s) = (9 = c.cls ∧ ([5, 58, 22, 14, 52].all fun k => decide (NM.at_ k ≠ c.mt)) = true) := rfl
structure Mom where
  at_ : Int
  states : List Stt
def dMom (s : Mom) : D := .ins 16 [3, 57] [.int s.at_, .lst (s.states.map dStt)]
theorem at_Mom_at_ {AT : List (Nat × Nat)} {k : D → Prop} {s : Mom} : atrW AT (dMom s) 3 k = (atB AT 16 3 = true ∧ k (.int s.at_)) := rfl
theorem at_Mom_states {AT : List (Nat × Nat)} {k : D → Prop} {s : Mom} : atrW AT (dMom s) 57 k = (atB AT 16 57 = true ∧ k (.lst (s.states.map dStt))) := rfl
theorem f_Mom {v0 : Int} {v1 : List Stt} : D.ins 16 [3, 57] [.int v0, .lst (v1.map dStt)] = dMom ⟨v0, v1⟩ := rfl
theorem co_is_Mom {s : Mom} {k : Bool → Prop} : copW .is_ (dMom s) .non k = k false := rfl
theorem co_in_Mom {s : Mom} {k : Bool → Prop} : copW .isnot (dMom s) .non k = k true := rfl
theorem mt_Mom {NM : Nam} {c : Cal} {s : Mom} : mthW NM c (dMom s) = (16 = c.cls ∧ ([3, 57].all fun k => decide (NM.at_ k ≠ c.mt)) = true) := rfl
structure Jour where
  moms : List Mom
  ending : Str
  broken : Option Int
def dJour (s : Jour) : D := .ins 14 [33, 20, 7] [.lst (s.moms.map dMom), .str s.ending, dOI s.broken]
theorem at_Jour_moms {AT : List (Nat × Nat)} {k : D → Prop} {s : Jour} : atrW AT (dJour s) 33 k = (atB AT 14 33 = true ∧ k (.lst (s.moms.map dMom))) := rfl
theorem at_Jour_ending {AT : List (Nat × Nat)} {k : D → Prop} {s : Jour} : atrW AT (dJour s) 20 k = (atB AT 14 20 = true ∧ k (.str s.ending)) := rfl
theorem at_Jour_broken {AT : List (Nat × Nat)} {k : D → Prop} {s : Jour} : atrW AT (dJour s) 7 k = (atB AT 14 7 = true ∧ k (dOI s.broken)) := rfl
theorem f_Jour {v0 : List Mom} {v1 : Str} {v2 : Option Int} : D.ins 14 [33, 20, 7] [.lst (v0.map dMom), .str v1, dOI v2] = dJour ⟨v0, v1, v2⟩ := rfl
theorem co_is_Jour {s : Jour} {k : Bool → Prop} : copW .is_ (dJour s) .non k = k false := rfl
theorem co_in_Jour {s : Jour} {k : Bool → Prop} : copW .isnot (dJour s) .non k = k true := rfl
theorem mt_Jour {NM : Nam} {c : Cal} {s : Jour} : mthW NM c (dJour s) = (14 = c.cls ∧ ([33, 20, 7].all fun k => decide (NM.at_ k ≠ c.mt)) = true) := rfl
structure Piece where
  b : Int
  e : Int
  parts : List Box
def dPiece (s : Piece) : D := .ins 23 [4, 19, 40] [.int s.b, .int s.e, .tup (s.parts.map dBox)]
theorem at_Piece_b {AT : List (Nat × Nat)} {k : D → Prop} {s : Piece} : atrW AT (dPiece s) 4 k = (atB AT 23 4 = true ∧ k (.int s.b)) := rfl
theorem at_Piece_e {AT : List (Nat × Nat)} {k : D → Prop} {s : Piece} : atrW AT (dPiece s) 19 k = (atB AT 23 19 = true ∧ k (.int s.e)) := rfl
theorem at_Piece_parts {AT : List (Nat × Nat)} {k : D → Prop} {s : Piece} : atrW AT (dPiece s) 40 k = (atB AT 23 40 = true ∧ k (.tup (s.parts.map dBox))) := rfl
theorem f_Piece {v0 : Int} {v1 : Int} {v2 : List Box} : D.ins 23 [4, 19, 40] [.int v0, .int v1, .tup (v2.map dBox)] = dPiece ⟨v0, v1, v2⟩ := rfl
theorem co_is_Piece {s : Piece} {k : Bool → Prop} : copW .is_ (dPiece s) .non k = k false := rfl
theorem co_in_Piece {s : Piece} {k : Bool → Prop} : copW .isnot (dPiece s) .non k = k true := rfl
theorem mt_Piece {NM : Nam} {c : Cal} {s : Piece} : mthW NM c (dPiece s) = (23 = c.cls ∧ ([4, 19, 40].all fun k => decide (NM.at_ k ≠ c.mt)) = true) := rfl
structure Cert where
  body : Body
  fine : Int
  craft : Craft
  claims : List (List Stt)
def dCert (s : Cert) : D := .ins 8 [5, 22, 12, 10] [dBody s.body, .int s.fine, dCraft s.craft, .lst (s.claims.map fun l => .lst (l.map dStt))]
theorem at_Cert_body {AT : List (Nat × Nat)} {k : D → Prop} {s : Cert} : atrW AT (dCert s) 5 k = (atB AT 8 5 = true ∧ k (dBody s.body)) := rfl
theorem at_Cert_fine {AT : List (Nat × Nat)} {k : D → Prop} {s : Cert} : atrW AT (dCert s) 22 k = (atB AT 8 22 = true ∧ k (.int s.fine)) := rfl
theorem at_Cert_craft {AT : List (Nat × Nat)} {k : D → Prop} {s : Cert} : atrW AT (dCert s) 12 k = (atB AT 8 12 = true ∧ k (dCraft s.craft)) := rfl
theorem at_Cert_claims {AT : List (Nat × Nat)} {k : D → Prop} {s : Cert} : atrW AT (dCert s) 10 k = (atB AT 8 10 = true ∧ k (.lst (s.claims.map fun l => .lst (l.map dStt)))) := rfl
theorem f_Cert {v0 : Body} {v1 : Int} {v2 : Craft} {v3 : List (List Stt)} : D.ins 8 [5, 22, 12, 10] [dBody v0, .int v1, dCraft v2, .lst (v3.map fun l => .lst (l.map dStt))] = dCert ⟨v0, v1, v2, v3⟩ := rfl
theorem co_is_Cert {s : Cert} {k : Bool → Prop} : copW .is_ (dCert s) .non k = k false := rfl
theorem co_in_Cert {s : Cert} {k : Bool → Prop} : copW .isnot (dCert s) .non k = k true := rfl
theorem mt_Cert {NM : Nam} {c : Cal} {s : Cert} : mthW NM c (dCert s) = (8 = c.cls ∧ ([5, 22, 12, 10].all fun k => decide (NM.at_ k ≠ c.mt)) = true) := rfl
structure Course where
  pieces : List Piece
  ending : Str
def dCourse (s : Course) : D := .ins 10 [42, 20] [.lst (s.pieces.map dPiece), .str s.ending]
theorem at_Course_pieces {AT : List (Nat × Nat)} {k : D → Prop} {s : Course} : atrW AT (dCourse s) 42 k = (atB AT 10 42 = true ∧ k (.lst (s.pieces.map dPiece))) := rfl
theorem at_Course_ending {AT : List (Nat × Nat)} {k : D → Prop} {s : Course} : atrW AT (dCourse s) 20 k = (atB AT 10 20 = true ∧ k (.str s.ending)) := rfl
theorem f_Course {v0 : List Piece} {v1 : Str} : D.ins 10 [42, 20] [.lst (v0.map dPiece), .str v1] = dCourse ⟨v0, v1⟩ := rfl
theorem co_is_Course {s : Course} {k : Bool → Prop} : copW .is_ (dCourse s) .non k = k false := rfl
theorem co_in_Course {s : Course} {k : Bool → Prop} : copW .isnot (dCourse s) .non k = k true := rfl
theorem mt_Course {NM : Nam} {c : Cal} {s : Course} : mthW NM c (dCourse s) = (10 = c.cls ∧ ([42, 20].all fun k => decide (NM.at_ k ≠ c.mt)) = true) := rfl

/-! arguments in bounds -/
def iOk (m : Int) (a : Iv) : Prop := -m ≤ a.1 ∧ a.1 ≤ a.2 ∧ a.2 ≤ m
def bOk (m : Int) (b : Box) : Prop := iOk m b.1 ∧ iOk m b.2.1 ∧ iOk m b.2.2
instance {m : Int} {a : Iv} : Decidable (iOk m a) := inferInstanceAs (Decidable (_ ∧ _ ∧ _))
instance {m : Int} {b : Box} : Decidable (bOk m b) := inferInstanceAs (Decidable (_ ∧ _ ∧ _))
def nameCh (c : Nat) : Bool := !(Builtin.Str.occurrences "abcdefghijklmnopqrstuvwxyz0123456789_" ⟨#[c]⟩ 0 37 1).isEmpty
def nameOk (s : Str) : Bool := decide (1 ≤ s.length ∧ s.length ≤ 12) && s.cps.toList.all nameCh
def tickOk (i : Int) : Prop := 0 ≤ i ∧ i ≤ 100000
instance {i : Int} : Decidable (tickOk i) := inferInstanceAs (Decidable (_ ∧ _))
def Body.Ok (b : Body) : Prop := 1 ≤ b.mu ∧ b.mu ≤ 10 ^ 30 ∧ 0 ≤ b.ob ∧ b.ob ≤ 10 ^ 30 ∧ 1 ≤ b.turn.2.2 ∧ b.turn.2.2 ≤ 10 ^ 6 ∧ b.turn.1 * b.turn.1 + b.turn.2.1 * b.turn.2.1 = b.turn.2.2 * b.turn.2.2
def Burn.Ok (b : Burn) : Prop := tickOk b.b ∧ (tickOk b.e ∧ b.b < b.e) ∧ bOk (10 ^ 12) b.push
def Sight.Ok (s : Sight) : Prop := tickOk s.at_ ∧ bOk (10 ^ 15) s.place
def Craft.Ok (c : Craft) : Prop := nameOk c.name = true ∧ tickOk c.start ∧ bOk (10 ^ 15) c.place ∧ bOk (10 ^ 15) c.speed ∧ (0 ≤ c.drift ∧ c.drift ≤ 10 ^ 12)
def Conts.Ok (c : Conts) : Prop := (1 ≤ c.stride ∧ c.stride ≤ 1000) ∧ (0 ≤ c.fine ∧ c.fine ≤ 6)
theorem body_ok {mu ob : Int} {t : Pt} (h1 : 1 ≤ mu) (h2 : mu ≤ 10 ^ 30) (h3 : 0 ≤ ob) (h4 : ob ≤ 10 ^ 30) (ht : 1 ≤ t.2.2 ∧ t.2.2 ≤ 10 ^ 6 ∧ t.1 * t.1 + t.2.1 * t.2.1 = t.2.2 * t.2.2) : Body.Ok ⟨mu, ob, t⟩ := ⟨h1, h2, h3, h4, ht.1, ht.2.1, ht.2.2⟩
theorem iOk.bd {m : Int} {a : Iv} (h : iOk m a) (n : Nat) (l : m.natAbs < 2 ^ n := by decide) : BdI a n := ⟨⟨by unfold iOk at h; omega⟩, ⟨by unfold iOk at h; omega⟩⟩
theorem bOk.bd {m : Int} {a : Box} (h : bOk m a) (n : Nat) (l : m.natAbs < 2 ^ n := by decide) : BdB a n := ⟨h.1.bd n l, h.2.1.bd n l, h.2.2.bd n l⟩

end Q

/-! QV: typed models. Rs: a run's end; RP, RE, RU, RT, RX, RK: a text does what a model says. -/
namespace Q
namespace M
open PySem PySem.Spec L2
noncomputable section

inductive Rs (α : Type) where
  | ok (a : α)
  | er (x : Exc)
  | no
/-- keeps simp out of a term -/
inductive Tag {α : Sort u} (a : α) : Type where
  | mk
namespace Rs
variable {α β γ : Type}
def bind (r : Rs α) (f : α → Rs β) (_ : Tag f := .mk) : Rs β := match r with
  | .ok a => f a
  | .er x => .er x
  | .no => .no
def sat (r : Rs α) (k : α → Prop) (x : Exc → Prop) : Prop := match r with
  | .ok a => k a
  | .er e => x e
  | .no => False
theorem bind_ok {a : α} {f : α → Rs β} : (Rs.ok a).bind f = f a := rfl
theorem bind_er {a : Exc} {f : α → Rs β} : (Rs.er a).bind f = .er a := rfl
theorem bind_no {f : α → Rs β} : (Rs.no).bind f = .no := rfl
theorem bind_assoc {r : Rs α} {f : α → Rs β} {g : β → Rs γ} : (r.bind f).bind g = r.bind fun a => (f a).bind g := by cases r <;> rfl
theorem sat_bind {r : Rs α} {f : α → Rs β} {k : β → Prop} {x : Exc → Prop} : (r.bind f).sat k x = r.sat (fun a => (f a).sat k x) x := by cases r <;> rfl
theorem sat_ok {a : α} {k : α → Prop} {x : Exc → Prop} : (Rs.ok a).sat k x = k a := rfl
theorem sat_er {a : Exc} {k : α → Prop} {x : Exc → Prop} : (Rs.er a).sat k x = x a := rfl
theorem sat_no {k : α → Prop} {x : Exc → Prop} : (Rs.no).sat k x = False := rfl
theorem sat_mono {r : Rs α} {k k' : α → Prop} {x x' : Exc → Prop} (h : r.sat k x) (h1 : ∀ a, k a → k' a) (h2 : ∀ e, x e → x' e) : r.sat k' x' := by
  cases r with
  | ok a => exact h1 a h
  | er e => exact h2 e h
  | no => exact h
end Rs

def cnd {α : Type} (p : Prop) [Decidable p] (a b : Rs α) (_ : Tag a := .mk) (_ : Tag b := .mk) : Rs α := if p then a else b
theorem cnd_pos {α : Type} {p : Prop} [Decidable p] {a b : Rs α} (h : p) : cnd p a b = a := if_pos h
theorem cnd_neg {α : Type} {p : Prop} [Decidable p] {a b : Rs α} (h : ¬p) : cnd p a b = b := if_neg h
theorem cnd_t {α : Type} {a b : Rs α} {i : Decidable True} : @cnd α True i a b .mk .mk = a := if_pos trivial
theorem cnd_f {α : Type} {a b : Rs α} {i : Decidable False} : @cnd α False i a b .mk .mk = b := if_neg id

structure Cx where
  NM : Nam
  AT : List (Nat × Nat)
  Φ : List Cal
  Γ : List (Str × D)
  RR : Prop := True

section
variable (c : Cx)
def RP (e : E) (ρ : Env) (v : D) : Prop := ∀ (k : D → Prop) (x : Exc → Prop), k v → wpE c.NM c.AT c.Φ c.Γ e ρ k x
def RPs (es : List E) (ρ : Env) (v : List D) : Prop := ∀ (k : List D → Prop) (x : Exc → Prop), k v → wpEs c.NM c.AT c.Φ c.Γ es ρ k x
def RE {α : Type} (e : E) (ρ : Env) (r : Rs α) (n : α → D) : Prop := ∀ (k : D → Prop) (x : Exc → Prop), r.sat (fun a => k (n a)) x → wpE c.NM c.AT c.Φ c.Γ e ρ k x
def RX {β : Type} (es : List E) (ρ : Env) (r : Rs β) (Q : List D → Rs β → Prop) : Prop := ∀ (kk : List D → Prop) (K : β → Prop) (x : Exc → Prop), (∀ ds r', Q ds r' → r'.sat K x → kk ds) → r.sat K x → wpEs c.NM c.AT c.Φ c.Γ es ρ kk x
def RT (t : T) (ρ : Env) (r : Rs Bool) : Prop := ∀ (k : Bool → Prop) (x : Exc → Prop), r.sat k x → wpT c.NM c.AT c.Φ c.Γ t ρ k x
def RU (t : T) (ρ : Env) (p : Prop) [Decidable p] : Prop := ∀ (k : Bool → Prop) (x : Exc → Prop), k (decide p) → wpT c.NM c.AT c.Φ c.Γ t ρ k x
def RI (it : It) (ρ : Env) (ds : List D) : Prop := ∀ (k : List D → Prop) (x : Exc → Prop), k ds → wpI c.NM c.AT c.Φ c.Γ it ρ k x
def RIE {α : Type} (it : It) (ρ : Env) (r : Rs (List α)) (n : α → D) : Prop := ∀ (k : List D → Prop) (x : Exc → Prop), r.sat (fun l => k (l.map n)) x → wpI c.NM c.AT c.Φ c.Γ it ρ k x
/-- a block's text from ρ on does what r says; N, B, C: what may follow at its end, behind a break, behind a continue -/
def RK {β : Type} (n : β → D) (ss : List S) (ρ : Env) (r : Rs β) (N B C : Env → Rs β → Prop) : Prop :=
  ∀ (d : Dn) (K : β → Prop), (c.RR → ∀ b, K b → d.rt (n b)) → (∀ ρ' r', N ρ' r' → r'.sat K (fun e => ∀ q, d.er e q) → d.nx ρ') →
    (∀ ρ' r', B ρ' r' → r'.sat K (fun e => ∀ q, d.er e q) → d.bk ρ') →
    (∀ ρ' r', C ρ' r' → r'.sat K (fun e => ∀ q, d.er e q) → d.ct ρ') →
    r.sat K (fun e => ∀ q, d.er e q) → wpSs c.NM c.AT c.Φ c.Γ ss ρ d
end
def F0 {β : Type} : Env → Rs β → Prop := fun _ _ => False
abbrev NR {β : Type} (c : Cx) (n : β → D) (rest : List S) (N B C : Env → Rs β → Prop) : Env → Rs β → Prop := fun ρ r => RK c n rest ρ r N B C
def NX {β σ J : Type} (E : σ → J → Env) (nx : σ → Rs β) : Env → Rs β → Prop := fun ρ r => ∃ s j, ρ = E s j ∧ r = nx s
theorem nx_i {β σ J : Type} {E : σ → J → Env} {nx : σ → Rs β} (s : σ) (j : J) : NX E nx (E s j) (nx s) := ⟨s, j, rfl, rfl⟩

/-! encoders -/
def d2 {α β : Type} (m : α → D) (n : β → D) : α × β → D := fun p => .tup [m p.1, n p.2]
def d3 {α β γ : Type} (m : α → D) (n : β → D) (o : γ → D) : α × β × γ → D := fun p => .tup [m p.1, n p.2.1, o p.2.2]
def d4 {α β γ δ : Type} (m : α → D) (n : β → D) (o : γ → D) (q : δ → D) : α × β × γ × δ → D := fun p => .tup [m p.1, n p.2.1, o p.2.2.1, q p.2.2.2]
def d5 {α β γ δ ε : Type} (m : α → D) (n : β → D) (o : γ → D) (q : δ → D) (s : ε → D) : α × β × γ × δ × ε → D := fun p => .tup [m p.1, n p.2.1, o p.2.2.1, q p.2.2.2.1, s p.2.2.2.2]
def d6 {α β γ δ ε ζ : Type} (m : α → D) (n : β → D) (o : γ → D) (q : δ → D) (s : ε → D) (t : ζ → D) : α × β × γ × δ × ε × ζ → D := fun p => .tup [m p.1, n p.2.1, o p.2.2.1, q p.2.2.2.1, s p.2.2.2.2.1, t p.2.2.2.2.2]
def d7 {α β γ δ ε ζ η : Type} (m : α → D) (n : β → D) (o : γ → D) (q : δ → D) (s : ε → D) (t : ζ → D) (u : η → D) : α × β × γ × δ × ε × ζ × η → D := fun p => .tup [m p.1, n p.2.1, o p.2.2.1, q p.2.2.2.1, s p.2.2.2.2.1, t p.2.2.2.2.2.1, u p.2.2.2.2.2.2]
def d8 {α β γ δ ε ζ η θ : Type} (m : α → D) (n : β → D) (o : γ → D) (q : δ → D) (s : ε → D) (t : ζ → D) (u : η → D) (v : θ → D) : α × β × γ × δ × ε × ζ × η × θ → D := fun p => .tup [m p.1, n p.2.1, o p.2.2.1, q p.2.2.2.1, s p.2.2.2.2.1, t p.2.2.2.2.2.1, u p.2.2.2.2.2.2.1, v p.2.2.2.2.2.2.2]
def d9 {α β γ δ ε ζ η θ ι : Type} (m : α → D) (n : β → D) (o : γ → D) (q : δ → D) (s : ε → D) (t : ζ → D) (u : η → D) (v : θ → D) (w : ι → D) : α × β × γ × δ × ε × ζ × η × θ × ι → D := fun p => .tup [m p.1, n p.2.1, o p.2.2.1, q p.2.2.2.1, s p.2.2.2.2.1, t p.2.2.2.2.2.1, u p.2.2.2.2.2.2.1, v p.2.2.2.2.2.2.2.1, w p.2.2.2.2.2.2.2.2]
def d1 {α : Type} (m : α → D) : α → D := fun p => .tup [m p]
def dL {α : Type} (n : α → D) : List α → D := fun l => .lst (l.map n)
def dR {α : Type} (n : α → D) : List α → D := fun l => .ro (l.map n)
def dV {α : Type} (n : α → D) : List α → D := fun l => .tup (l.map n)
def dN : Unit → D := fun _ => .non
def dD : D → D := fun d => d

/-! ### expressions -/
section
variable {c : Cx} {ρ : Env}
theorem wpEs_one {a : E} {kk : List D → Prop} {x : Exc → Prop} : wpEs c.NM c.AT c.Φ c.Γ [a] ρ kk x = wpE c.NM c.AT c.Φ c.Γ a ρ (fun d => kk [d]) x := by
  rw [wpEs]
  congr 1
theorem wpEs_two {a b : E} {kk : List D → Prop} {x : Exc → Prop} : wpEs c.NM c.AT c.Φ c.Γ [a, b] ρ kk x = wpE c.NM c.AT c.Φ c.Γ a ρ (fun d => wpE c.NM c.AT c.Φ c.Γ b ρ (fun e => kk [d, e]) x) x := by
  rw [wpEs]
  congr 1
theorem re_p {α : Type} {e : E} {a : α} {n : α → D} (h : RP c e ρ (n a)) : RE c e ρ (.ok a) n := fun k x q => h k x q
theorem rp_var {i : Nat} {d : D} (h : ρ[i]? = some (.val d)) : RP c (.var i) ρ d := fun k x q => by rw [wpE, h]; exact q
theorem rp_brw {i : Nat} {d : D} (h : ρ[i]? = some (.val d)) : RP c (.brw i) ρ d := fun k x q => by rw [wpE, h]; exact q
theorem rp_brwo {i : Nat} {ds : List D} (h : ρ[i]? = some (.own ds)) : RP c (.brw i) ρ (.lst ds) := fun k x q => by rw [wpE, h]; exact q
theorem rp_brwj {i a : Nat} {ks : List Nat} {ds : List D} (h : ρ[i]? = some (.obj a ks ds)) : RP c (.brw i) ρ (.ins a ks ds) := fun k x q => by rw [wpE, h]; exact q
theorem rp_cst {d : D} : RP c (.cst d) ρ d := fun k x q => by rw [wpE]; exact q
theorem rp_glo {j : Nat} {s : Str} {d : D} (h : c.Γ[j]? = some (s, d)) : RP c (.glo j) ρ d := fun k x q => by rw [wpE, h]; exact q
theorem rps_nil : RPs c [] ρ [] := fun k x q => by rw [wpEs]; exact q
theorem rps_cons {e : E} {es : List E} {d : D} {ds : List D} (h : RP c e ρ d) (g : RPs c es ρ ds) : RPs c (e :: es) ρ (d :: ds) := fun k x q => by rw [wpEs]; exact h _ _ (g _ _ q)
section
variable {β : Type} {es : List E} {Q : List D → Rs β → Prop}
theorem rx_nil {r : Rs β} (h : Q [] r) : RX c [] ρ r Q := fun kk K x g q => by rw [wpEs]; exact g _ _ h q
theorem rx_p {e : E} {d : D} {r : Rs β} (h : RP c e ρ d) (g : RX c es ρ r fun ds r' => Q (d :: ds) r') : RX c (e :: es) ρ r Q := fun kk K x f q => by rw [wpEs]; exact h _ _ (g _ K x (fun ds r' z w => f _ _ z w) q)
theorem rx_e {α : Type} {e : E} {re : Rs α} {n : α → D} {f : α → Rs β} (h : RE c e ρ re n) (g : ∀ a, RX c es ρ (f a) fun ds r' => Q (n a :: ds) r') : RX c (e :: es) ρ (re.bind f) Q := fun kk K x w q => by
  rw [wpEs]
  rw [Rs.sat_bind] at q
  exact h _ _ (Rs.sat_mono q (fun a z => g a _ K x (fun ds r' u v => w _ _ u v) z) fun _ z => z)
end
def QB {α : Type} (o : Bop) (n : α → D) : List D → Rs α → Prop := fun ds r => ∀ (k : D → Prop) (x : Exc → Prop), r.sat (fun a => k (n a)) x → (match ds with
  | [d, e] => bopW o d e k
  | _ => False)
theorem re_bin {α : Type} {o : Bop} {a b : E} {r : Rs α} {n : α → D} (h : RX c [a, b] ρ r (QB o n)) : RE c (.bin o a b) ρ r n := fun k x q => by
  have := h (fun ds => match ds with
    | [d, e] => bopW o d e k
    | _ => False) (fun a => k (n a)) x (fun ds r' z w => z k x w) q
  rw [wpE]; rw [wpEs_two] at this
  exact this
def mulR (x y : Int) : Rs Int := open Classical in if CMulQ x y then .ok (x * y) else .no
def divR (x y : Int) : Rs Int := open Classical in if CDivW x y then .ok (x / y) else .no
def modR (x y : Int) : Rs Int := if 0 < y then .ok (x % y) else .no
def powR (x y : Int) : Rs Int := open Classical in if CPowQ x y then .ok (x ^ y.toNat) else .no
def catR {α : Type} (x y : List α) : Rs (List α) := if x.length + y.length ≤ sizeLine then .ok (x ++ y) else .no
def catsR (x y : Str) : Rs Str := if x.length + y.length ≤ sizeLine then .ok (x ++ y) else .no
theorem sat_if {α : Type} {p : Prop} {i : Decidable p} {a : α} {k : α → Prop} {x : Exc → Prop} (h : (if p then Rs.ok a else Rs.no).sat k x) : p ∧ k a := by
  by_cases z : p
  · rw [if_pos z] at h; exact ⟨z, h⟩
  · rw [if_neg z] at h; exact h.elim
theorem qb_add {x y : Int} : QB .add .int [.int x, .int y] (.ok (x + y)) := fun k e q => q
theorem qb_sub {x y : Int} : QB .sub .int [.int x, .int y] (.ok (x - y)) := fun k e q => q
theorem qb_mul {x y : Int} : QB .mul .int [.int x, .int y] (mulR x y) := fun k e q => sat_if (k := fun a => k (.int a)) q
theorem qb_fdiv {x y : Int} : QB .fdiv .int [.int x, .int y] (divR x y) := fun k e q => sat_if (k := fun a => k (.int a)) q
theorem qb_mod {x y : Int} : QB .mod .int [.int x, .int y] (modR x y) := fun k e q => sat_if (k := fun a => k (.int a)) q
theorem qb_pow {x y : Int} : QB .pow .int [.int x, .int y] (powR x y) := fun k e q => sat_if (k := fun a => k (.int a)) q
theorem qb_cat {α : Type} {n : α → D} {x y : List α} : QB .add (dL n) [.lst (x.map n), .lst (y.map n)] (catR x y) := fun k e q => by
  have := sat_if q
  refine ⟨by rw [List.length_map, List.length_map]; exact this.1, ?_⟩
  rw [← List.map_append]; exact this.2
theorem qb_cats {x y : Str} : QB .add .str [.str x, .str y] (catsR x y) := fun k e q => sat_if (k := fun a => k (.str a)) q
theorem rp_add {a b : E} {x y : Int} (h : RP c a ρ (.int x)) (g : RP c b ρ (.int y)) : RP c (.bin .add a b) ρ (.int (x + y)) := fun k z q => by rw [wpE]; exact h _ _ (g _ _ q)
theorem rp_sub {a b : E} {x y : Int} (h : RP c a ρ (.int x)) (g : RP c b ρ (.int y)) : RP c (.bin .sub a b) ρ (.int (x - y)) := fun k z q => by rw [wpE]; exact h _ _ (g _ _ q)
theorem rp_neg {a : E} {x : Int} (h : RP c a ρ (.int x)) : RP c (.neg a) ρ (.int (-x)) := fun k z q => by rw [wpE]; exact h _ _ q
theorem re_neg {a : E} {r : Rs Int} (h : RE c a ρ r .int) : RE c (.neg a) ρ (r.bind fun x => .ok (-x)) .int := fun k z q => by rw [wpE]; rw [Rs.sat_bind] at q; exact h _ _ q
theorem rp_not {a : E} {x : Bool} (h : RP c a ρ (.bl x)) : RP c (.not a) ρ (.bl (!x)) := fun k z q => by rw [wpE]; exact h _ _ q
theorem re_not {a : E} {r : Rs Bool} (h : RE c a ρ r .bl) : RE c (.not a) ρ (r.bind fun x => .ok (!x)) .bl := fun k z q => by rw [wpE]; rw [Rs.sat_bind] at q; exact h _ _ q
/-! calls -/
def QF {α : Type} (cal : Cal) (n : α → D) : List D → Rs α → Prop := fun ds r => ∀ (k : D → Prop) (x : Exc → Prop), r.sat (fun a => k (n a)) x → cal.fs (ds ++ cal.dfl) k x
def QI {α : Type} (cal : Cal) (n : α → D) : List D → Rs α → Prop := fun ds r => ∀ (k : D → Prop) (x : Exc → Prop), r.sat (fun a => k (n a)) x → cal.is (ds ++ cal.dfl) (fun ks xs => k (.ins cal.cls ks xs)) x
theorem re_call {α : Type} {j : Nat} {es : List E} {cal : Cal} {r : Rs α} {n : α → D} (hj : c.Φ[j]? = some cal) (h : RX c es ρ r (QF cal n)) : RE c (.call j es) ρ r n := fun k x q => by
  rw [wpE, hj]
  exact h _ _ _ (fun ds r' z w => z k x w) q
theorem re_make {α : Type} {j : Nat} {es : List E} {cal : Cal} {r : Rs α} {n : α → D} (hj : c.Φ[j]? = some cal) (h : RX c es ρ r (QI cal n)) : RE c (.make j es) ρ r n := fun k x q => by
  rw [wpE, hj]
  exact h _ _ _ (fun ds r' z w => z k x w) q
theorem re_meth {α : Type} {j : Nat} {o : E} {es : List E} {cal : Cal} {r : Rs α} {n : α → D} {d : D} (hj : c.Φ[j]? = some cal) (ho : RP c o ρ d) (hm : mthW c.NM cal d) (h : RX c es ρ r fun ds r' => QF cal n (d :: ds) r') : RE c (.meth j o es) ρ r n := fun k x q => by
  rw [wpE, hj]
  exact ho _ _ ⟨hm, h _ _ _ (fun ds r' z w => z k x w) q⟩
/-! built-ins -/
def QL {α : Type} (b : Blt) (n : α → D) : List D → Rs α → Prop := fun ds r => ∀ (k : D → Prop) (x : Exc → Prop), r.sat (fun a => k (n a)) x → bltW b ds k
theorem re_blt {α : Type} {b : Blt} {es : List E} {r : Rs α} {n : α → D} (h : RX c es ρ r (QL b n)) : RE c (.blt b es) ρ r n := fun k x q => by
  rw [wpE]
  exact h _ _ _ (fun ds r' z w => z k x w) q
theorem rp_blt {b : Blt} {es : List E} {ds : List D} {v : D} (h : RPs c es ρ ds) (g : ∀ k : D → Prop, k v → bltW b ds k) : RP c (.blt b es) ρ v := fun k x q => by
  rw [wpE]
  exact h _ _ (g _ q)
def isqrtR (x : Int) : Rs Int := if 0 ≤ x ∧ x.toNat.log2 < 13470 then .ok (isq x) else .no
def strR (x : Int) : Rs Str := if x.natAbs.log2 < 1920 then .ok (toString x : String) else .no
def slenR (x : Str) : Rs Int := if x.length ≤ sizeLine then .ok x.length else .no
def minR : List Int → Rs Int
  | [] => .no
  | a :: l => .ok (minL a l)
def maxR : List Int → Rs Int
  | [] => .no
  | a :: l => .ok (maxL a l)
theorem ql_isqrt {x : Int} : QL .isqrt .int [.int x] (isqrtR x) := fun k e q => ⟨(sat_if (k := fun a => k (.int a)) q).1.1, (sat_if (k := fun a => k (.int a)) q).1.2, (sat_if (k := fun a => k (.int a)) q).2⟩
theorem ql_str {x : Int} : QL .str .str [.int x] (strR x) := fun k e q => sat_if (k := fun a => k (.str a)) q
theorem ql_slen {x : Str} : QL .len .int [.str x] (slenR x) := fun k e q => sat_if (k := fun a => k (.int a)) q
theorem ints_mapD : ∀ {l : List Int}, ints? (l.map D.int) = some l
  | [] => rfl
  | a :: l => by
    show (match ints? (l.map D.int) with
      | some l => some (a :: l)
      | none => none) = _
    rw [ints_mapD]
theorem ql_min {l : List Int} : QL .min .int [.lst (l.map .int)] (minR l) := fun k e q => by
  cases l with
  | nil => exact q.elim
  | cons a l =>
    show (match ints? ((a :: l).map D.int) with
      | some (n :: r) => k (.int (minL n r))
      | _ => False)
    rw [ints_mapD]; exact q
theorem ql_max {l : List Int} : QL .max .int [.lst (l.map .int)] (maxR l) := fun k e q => by
  cases l with
  | nil => exact q.elim
  | cons a l =>
    show (match ints? ((a :: l).map D.int) with
      | some (n :: r) => k (.int (maxL n r))
      | _ => False)
    rw [ints_mapD]; exact q
theorem bl_sum' {l : List Int} : ∀ k : D → Prop, k (.int l.sum) → bltW .sum [.lst (l.map .int)] k := fun k h => by
  show (match ints? (l.map D.int) with
      | some ns => k (.int ns.sum)
      | none => False)
  rw [ints_mapD]; exact h
theorem bl_lenl {α : Type} {n : α → D} {l : List α} : ∀ k : D → Prop, k (.int (l.length : Int)) → bltW .len [.lst (l.map n)] k := fun k h => by
  show k (.int (l.map n).length)
  rw [List.length_map]; exact h
theorem bl_lenv {α : Type} {n : α → D} {l : List α} : ∀ k : D → Prop, k (.int (l.length : Int)) → bltW .len [.tup (l.map n)] k := fun k h => by
  show k (.int (l.map n).length)
  rw [List.length_map]; exact h
theorem bl_lenr {α : Type} {n : α → D} {l : List α} : ∀ k : D → Prop, k (.int (l.length : Int)) → bltW .len [.ro (l.map n)] k := fun k h => by
  show k (.int (l.map n).length)
  rw [List.length_map]; exact h
theorem bk_min2 {a b : Int} : ∀ k : D → Prop, k (.int (min a b)) → bltW .min [.int a, .int b] k := fun k h => by rw [bl_min2']; exact h
theorem bk_max2 {a b : Int} : ∀ k : D → Prop, k (.int (max a b)) → bltW .max [.int a, .int b] k := fun k h => by rw [bl_max2']; exact h
theorem bk_min3 {a b d : Int} : ∀ k : D → Prop, k (.int (min (min a b) d)) → bltW .min [.int a, .int b, .int d] k := fun k h => by rw [bl_min3']; exact h
theorem bk_max3 {a b d : Int} : ∀ k : D → Prop, k (.int (max (max a b) d)) → bltW .max [.int a, .int b, .int d] k := fun k h => by rw [bl_max3']; exact h
theorem bk_abs {a : Int} : ∀ k : D → Prop, k (.int (max a (-a))) → bltW .abs [.int a] k := fun k h => by rw [bl_abs']; exact h
/-! attributes, places -/
def QA {α : Type} (AT : List (Nat × Nat)) (f : Nat) (n : α → D) : List D → Rs α → Prop := fun ds r => ∀ (k : D → Prop) (x : Exc → Prop), r.sat (fun a => k (n a)) x → (match ds with
  | [d] => atrW AT d f k
  | _ => False)
theorem rp_atr {e : E} {f : Nat} {d v : D} (h : RP c e ρ d) (g : ∀ k : D → Prop, k v → atrW c.AT d f k) : RP c (.atr e f) ρ v := fun k x q => by rw [wpE]; exact h _ _ (g _ q)
theorem re_atr {α β : Type} {e : E} {f : Nat} {r : Rs α} {n : α → D} {m : β → D} {g : α → β} (h : RE c e ρ r n) (hg : ∀ a, ∀ k : D → Prop, k (m (g a)) → atrW c.AT (n a) f k) : RE c (.atr e f) ρ (r.bind fun a => .ok (g a)) m := fun k x q => by
  rw [wpE]
  rw [Rs.sat_bind] at q
  exact h _ _ (Rs.sat_mono q (fun a z => hg a _ z) fun _ z => z)
def ixA {α : Type} : List α → Int → Option α
  | ds, .ofNat n => ds[n]?
  | ds, .negSucc n => if n < ds.length then ds[ds.length - 1 - n]? else none
theorem ixD_map {α : Type} {n : α → D} {l : List α} : ∀ {i : Int}, ixD (l.map n) i = (ixA l i).map n
  | .ofNat m => by
    show (l.map n)[m]? = (l[m]?).map n
    rw [List.getElem?_map]
  | .negSucc m => by
    show (if m < (l.map n).length then (l.map n)[(l.map n).length - 1 - m]? else none) = (if m < l.length then l[l.length - 1 - m]? else none).map n
    rw [List.length_map, List.getElem?_map]
    split <;> rfl
def idxR {α : Type} (l : List α) (i : Int) : Rs α := match ixA l i with
  | some a => .ok a
  | none => .no
def QIx {α : Type} (n : α → D) : List D → Rs α → Prop := fun ds r => ∀ (k : D → Prop) (x : Exc → Prop), r.sat (fun a => k (n a)) x → (match ds with
  | [d, e] => idxW d e k
  | _ => False)
theorem re_idx {α : Type} {a b : E} {r : Rs α} {n : α → D} (h : RX c [a, b] ρ r (QIx n)) : RE c (.idx a b) ρ r n := fun k x q => by
  have := h (fun ds => match ds with
    | [d, e] => idxW d e k
    | _ => False) (fun a => k (n a)) x (fun ds r' z w => z k x w) q
  rw [wpE]; rw [wpEs_two] at this
  exact this
theorem idxR_k {α : Type} {n : α → D} {l : List α} {i : Int} {k : D → Prop} {x : Exc → Prop} (q : (idxR l i).sat (fun a => k (n a)) x) : match ixD (l.map n) i with
  | some d => k d
  | none => False := by
  rw [ixD_map]
  unfold idxR at q
  cases z : ixA l i with
  | none => rw [z] at q; exact q
  | some a => rw [z] at q; exact q
theorem qi_lst {α : Type} {n : α → D} {l : List α} {i : Int} : QIx n [.lst (l.map n), .int i] (idxR l i) := fun k x q => idxR_k q
theorem qi_tup {α : Type} {n : α → D} {l : List α} {i : Int} : QIx n [.tup (l.map n), .int i] (idxR l i) := fun k x q => idxR_k q
theorem qi_ro {α : Type} {n : α → D} {l : List α} {i : Int} : QIx n [.ro (l.map n), .int i] (idxR l i) := fun k x q => idxR_k q
theorem rp_idx {a b : E} {d e v : D} (h : RP c a ρ d) (g : RP c b ρ e) (w : ∀ k : D → Prop, k v → idxW d e k) : RP c (.idx a b) ρ v := fun k x q => by rw [wpE]; exact h _ _ (g _ _ (w _ q))
/-! slices -/
def cutL {α : Type} (l : List α) (lo hi : Option Int) : List α := (l.drop (HT.sIx l.length 0 lo)).take (HT.sIx l.length l.length hi - HT.sIx l.length 0 lo)
theorem cutD_map {α : Type} {n : α → D} {l : List α} {lo hi : Option Int} : cutD (l.map n) lo hi = (cutL l lo hi).map n := by
  unfold cutD cutL
  rw [List.length_map, ← List.map_drop, ← List.map_take]
def RO (c : Cx) (e : Option E) (ρ : Env) (i : Option Int) : Prop := ∀ (k : Option Int → Prop) (x : Exc → Prop), k i → wpO c.NM c.AT c.Φ c.Γ e ρ k x
theorem ro_none : RO c none ρ none := fun k x q => by rw [wpO]; exact q
theorem ro_some {e : E} {i : Int} (h : RP c e ρ (.int i)) : RO c (some e) ρ (some i) := fun k x q => by rw [wpO]; exact h _ _ q
theorem rp_slc {α : Type} {n : α → D} {a : E} {lo hi : Option E} {l : List α} {i j : Option Int} (h : RP c a ρ (.lst (l.map n))) (h1 : RO c lo ρ i) (h2 : RO c hi ρ j) : RP c (.slc a lo hi) ρ (.lst ((cutL l i j).map n)) := fun k x q => by
  rw [wpE]
  refine h _ _ (h1 _ _ (h2 _ _ ?_))
  show k (.lst (cutD (l.map n) i j))
  rw [cutD_map]; exact q
/-! tuples, lists -/
theorem rp_tup {es : List E} {ds : List D} (h : RPs c es ρ ds) (l : es.length ≤ sizeLine := by decide) : RP c (.tup es) ρ (.tup ds) := fun k x q => by rw [wpE]; exact ⟨l, h _ _ q⟩
theorem rp_lst {es : List E} {ds : List D} (h : RPs c es ρ ds) (l : es.length ≤ sizeLine := by decide) : RP c (.lst es) ρ (.lst ds) := fun k x q => by rw [wpE]; exact ⟨l, h _ _ q⟩
def QT {α : Type} (n : α → D) : List D → Rs α → Prop := fun ds r => ∃ a, r = .ok a ∧ n a = .tup ds
def QS {α : Type} (n : α → D) : List D → Rs α → Prop := fun ds r => ∃ a, r = .ok a ∧ n a = .lst ds
theorem re_tup {α : Type} {n : α → D} {es : List E} {r : Rs α} (h : RX c es ρ r (QT n)) (l : es.length ≤ sizeLine := by decide) : RE c (.tup es) ρ r n := fun k x q => by
  rw [wpE]
  exact ⟨l, h _ _ _ (fun ds r' ⟨a, z, w⟩ u => by subst z; rw [← w]; exact u) q⟩
theorem re_lst {α : Type} {n : α → D} {es : List E} {r : Rs α} (h : RX c es ρ r (QS n)) (l : es.length ≤ sizeLine := by decide) : RE c (.lst es) ρ r n := fun k x q => by
  rw [wpE]
  exact ⟨l, h _ _ _ (fun ds r' ⟨a, z, w⟩ u => by subst z; rw [← w]; exact u) q⟩
/-! None or a value -/
def unO {α : Type} : Option α → Rs α
  | none => .no
  | some a => .ok a
theorem re_un {α : Type} {n : α → D} {e : E} {o : Option α} (h : RP c e ρ (dO n o)) : RE c e ρ (unO o) n := fun k x q => by
  cases o with
  | none => exact q.elim
  | some a => exact h _ _ q
/-! ### tests -/
theorem ru_bl {e : E} {b : Bool} (h : RP c e ρ (.bl b)) : RU c (.val e) ρ (b = true) := fun k x q => by
  rw [wpT]
  refine h _ _ ?_
  rw [show decide (b = true) = b by cases b <;> rfl] at q
  exact q
theorem ru_int {e : E} {i : Int} (h : RP c e ρ (.int i)) : RU c (.val e) ρ (i ≠ 0) := fun k x q => by
  rw [wpT]
  refine h _ _ ?_
  rw [show decide (i ≠ 0) = (i != 0) by rw [bne, decide_not]; rfl] at q
  exact q
theorem ru_lst {α : Type} {n : α → D} {e : E} {l : List α} (h : RP c e ρ (.lst (l.map n))) : RU c (.val e) ρ (l.isEmpty = false) := fun k x q => by
  rw [wpT]
  refine h _ _ ?_
  show k (!(l.map n).isEmpty)
  rw [show (!(l.map n).isEmpty) = decide (l.isEmpty = false) by cases l <;> rfl]
  exact q
theorem ru_vtp {α : Type} {n : α → D} {e : E} {l : List α} (h : RP c e ρ (.tup (l.map n))) : RU c (.val e) ρ (l.isEmpty = false) := fun k x q => by
  rw [wpT]
  refine h _ _ ?_
  show k (!(l.map n).isEmpty)
  rw [show (!(l.map n).isEmpty) = decide (l.isEmpty = false) by cases l <;> rfl]
  exact q
theorem ru_cmp {o : Cop} {a b : E} {d e : D} {p : Prop} [Decidable p] (h : RP c a ρ d) (g : RP c b ρ e) (w : ∀ k : Bool → Prop, k (decide p) → copW o d e k) : RU c (.cmp o a b) ρ p := fun k x q => by rw [wpT]; exact h _ _ (g _ _ (w _ q))
theorem ru_chn {o u : Cop} {a b e : E} {d f g : D} {p q : Prop} [Decidable p] [Decidable q] (h1 : RP c a ρ d) (h2 : RP c b ρ f) (h3 : RP c e ρ g) (w1 : ∀ k : Bool → Prop, k (decide p) → copW o d f k) (w2 : ∀ k : Bool → Prop, k (decide q) → copW u f g k) : RU c (.chn o u a b e) ρ (p ∧ q) := fun k x z => by
  rw [wpT]
  refine h1 _ _ (h2 _ _ (w1 _ ?_))
  by_cases hp : p
  · rw [decide_eq_true hp, if_pos rfl]
    refine h3 _ _ (w2 _ ?_)
    rw [show decide (p ∧ q) = decide q by simp only [hp, true_and]] at z
    exact z
  · rw [decide_eq_false hp, if_neg (fun h => nomatch h)]
    rw [show decide (p ∧ q) = false by simp only [hp, false_and, decide_false]] at z
    exact z
theorem ru_ch3 {o u v : Cop} {a b e e2 : E} {d f g g2 : D} {p q s : Prop} [Decidable p] [Decidable q] [Decidable s] (h1 : RP c a ρ d) (h2 : RP c b ρ f) (h3 : RP c e ρ g) (h4 : RP c e2 ρ g2) (w1 : ∀ k : Bool → Prop, k (decide p) → copW o d f k) (w2 : ∀ k : Bool → Prop, k (decide q) → copW u f g k) (w3 : ∀ k : Bool → Prop, k (decide s) → copW v g g2 k) : RU c (.ch3 o u v a b e e2) ρ (p ∧ q ∧ s) := fun k x z => by
  rw [wpT]
  refine h1 _ _ (h2 _ _ (w1 _ ?_))
  by_cases hp : p
  · rw [decide_eq_true hp, if_pos rfl]
    refine h3 _ _ (w2 _ ?_)
    by_cases hq : q
    · rw [decide_eq_true hq, if_pos rfl]
      refine h4 _ _ (w3 _ ?_)
      rw [show decide (p ∧ q ∧ s) = decide s by simp only [hp, hq, true_and]] at z
      exact z
    · rw [decide_eq_false hq, if_neg (fun h => nomatch h)]
      rw [show decide (p ∧ q ∧ s) = false by simp only [hq, false_and, and_false, decide_false]] at z
      exact z
  · rw [decide_eq_false hp, if_neg (fun h => nomatch h)]
    rw [show decide (p ∧ q ∧ s) = false by simp only [hp, false_and, decide_false]] at z
    exact z
theorem ck_ne {d e : D} {p : Prop} [Decidable p] (w : ∀ k : Bool → Prop, k (decide p) → copW .eq d e k) : ∀ k : Bool → Prop, k (decide ¬p) → copW .ne d e k := fun k h => by
  refine w (fun r => k !r) ?_
  rw [← decide_not]; exact h
theorem ru_not {t : T} {p : Prop} [Decidable p] (h : RU c t ρ p) : RU c (.not t) ρ (¬p) := fun k x q => by
  rw [wpT]
  refine h _ _ ?_
  rw [← decide_not]; exact q
def RUa (c : Cx) (ts : List T) (ρ : Env) (p : Prop) [Decidable p] : Prop := ∀ (k : Bool → Prop) (x : Exc → Prop), k (decide p) → wpTand c.NM c.AT c.Φ c.Γ ts ρ k x
def RUo (c : Cx) (ts : List T) (ρ : Env) (p : Prop) [Decidable p] : Prop := ∀ (k : Bool → Prop) (x : Exc → Prop), k (decide p) → wpTor c.NM c.AT c.Φ c.Γ ts ρ k x
theorem rua_one {t : T} {p : Prop} [Decidable p] (h : RU c t ρ p) : RUa c [t] ρ p := fun k x q => by rw [wta_one]; exact h _ _ q
theorem rua_cons {t u : T} {ts : List T} {p q : Prop} [Decidable p] [Decidable q] (h : RU c t ρ p) (g : RUa c (u :: ts) ρ q) : RUa c (t :: u :: ts) ρ (p ∧ q) := fun k x z => by
  rw [wta_cons]
  refine h _ _ ?_
  by_cases hp : p
  · rw [decide_eq_true hp, if_pos rfl]
    refine g _ _ ?_
    rw [show decide (p ∧ q) = decide q by simp only [hp, true_and]] at z
    exact z
  · rw [decide_eq_false hp, if_neg (fun h => nomatch h)]
    rw [show decide (p ∧ q) = false by simp only [hp, false_and, decide_false]] at z
    exact z
theorem ruo_one {t : T} {p : Prop} [Decidable p] (h : RU c t ρ p) : RUo c [t] ρ p := fun k x q => by rw [wto_one]; exact h _ _ q
theorem ruo_cons {t u : T} {ts : List T} {p q : Prop} [Decidable p] [Decidable q] (h : RU c t ρ p) (g : RUo c (u :: ts) ρ q) : RUo c (t :: u :: ts) ρ (p ∨ q) := fun k x z => by
  rw [wto_cons]
  refine h _ _ ?_
  by_cases hp : p
  · rw [decide_eq_true hp, if_pos rfl]
    rw [show decide (p ∨ q) = true by simp only [hp, true_or, decide_true]] at z
    exact z
  · rw [decide_eq_false hp, if_neg (fun h => nomatch h)]
    refine g _ _ ?_
    rw [show decide (p ∨ q) = decide q by simp only [hp, false_or]] at z
    exact z
theorem ru_and {ts : List T} {p : Prop} [Decidable p] (h : RUa c ts ρ p) : RU c (.and ts) ρ p := fun k x q => by rw [wpT]; exact h _ _ q
theorem ru_or {ts : List T} {p : Prop} [Decidable p] (h : RUo c ts ρ p) : RU c (.or ts) ρ p := fun k x q => by rw [wpT]; exact h _ _ q
/-! tests with calls -/
theorem rt_u {t : T} {p : Prop} [Decidable p] (h : RU c t ρ p) : RT c t ρ (.ok (decide p)) := fun k x q => h k x q
theorem rt_bl {e : E} {r : Rs Bool} (h : RE c e ρ r .bl) : RT c (.val e) ρ r := fun k x q => by rw [wpT]; exact h _ _ q
theorem rt_int {e : E} {r : Rs Int} (h : RE c e ρ r .int) : RT c (.val e) ρ (r.bind fun i => .ok (i != 0)) := fun k x q => by rw [wpT]; rw [Rs.sat_bind] at q; exact h _ _ q
theorem rt_lst {α : Type} {n : α → D} {e : E} {r : Rs (List α)} (h : RE c e ρ r (dL n)) : RT c (.val e) ρ (r.bind fun l => .ok (!l.isEmpty)) := fun k x q => by
  rw [wpT]
  rw [Rs.sat_bind] at q
  refine h _ _ (Rs.sat_mono q (fun l z => ?_) fun _ z => z)
  show k (!(l.map n).isEmpty)
  rw [show (!(l.map n).isEmpty) = (!l.isEmpty) by cases l <;> rfl]
  exact z
def QC (o : Cop) : List D → Rs Bool → Prop := fun ds r => ∀ (k : Bool → Prop) (x : Exc → Prop), r.sat k x → (match ds with
  | [d, e] => copW o d e k
  | _ => False)
theorem qc {o : Cop} {d e : D} {p : Prop} [Decidable p] (w : ∀ k : Bool → Prop, k (decide p) → copW o d e k) : QC o [d, e] (.ok (decide p)) := fun k x q => w k q
theorem rt_cmp {o : Cop} {a b : E} {r : Rs Bool} (h : RX c [a, b] ρ r (QC o)) : RT c (.cmp o a b) ρ r := fun k x q => by
  have := h (fun ds => match ds with
    | [d, e] => copW o d e k
    | _ => False) k x (fun ds r' z w => z k x w) q
  rw [wpT]; rw [wpEs_two] at this
  exact this
/-- chains: R says what the rest of the chain is, by the second value -/
def QH (c : Cx) (ρ : Env) (o u : Cop) (e : E) : List D → Rs Bool → Prop := fun ds r => ∀ (k : Bool → Prop) (x : Exc → Prop), r.sat k x → (match ds with
  | [d, f] => copW o d f fun r => if r = true then wpE c.NM c.AT c.Φ c.Γ e ρ (fun g => copW u f g k) x else k false
  | _ => False)
theorem qh {o u : Cop} {e : E} {d f : D} {p : Prop} [Decidable p] {r : Rs Bool} (w : ∀ k : Bool → Prop, k (decide p) → copW o d f k) (h : RX c [e] ρ r fun gs r' => QC u (f :: gs) r') : QH c ρ o u e [d, f] (cnd p r (.ok false)) := fun k x q => by
  unfold cnd at q
  refine w _ ?_
  by_cases hp : p
  · rw [decide_eq_true hp, if_pos rfl]
    rw [if_pos hp] at q
    have := h (fun ds => match ds with
      | [g] => copW u f g k
      | _ => False) k x (fun ds r' z w => by
        have z' := z k x w
        match ds, z' with
        | [g], z' => exact z'
        | [], z' => exact z'
        | _ :: _ :: _, z' => exact z') q
    rw [wpEs_one] at this
    exact this
  · rw [decide_eq_false hp, if_neg (fun h => nomatch h)]
    rw [if_neg hp] at q
    exact q
theorem rt_chn {o u : Cop} {a b e : E} {r : Rs Bool} (h : RX c [a, b] ρ r (QH c ρ o u e)) : RT c (.chn o u a b e) ρ r := fun k x q => by
  have := h (fun ds => match ds with
    | [d, f] => copW o d f fun r => if r = true then wpE c.NM c.AT c.Φ c.Γ e ρ (fun g => copW u f g k) x else k false
    | _ => False) k x (fun ds r' z w => z k x w) q
  rw [wpT]; rw [wpEs_two] at this
  exact this
theorem rt_not {t : T} {r : Rs Bool} (h : RT c t ρ r) : RT c (.not t) ρ (r.bind fun b => .ok (!b)) := fun k x q => by rw [wpT]; rw [Rs.sat_bind] at q; exact h _ _ q
def RTa (c : Cx) (ts : List T) (ρ : Env) (r : Rs Bool) : Prop := ∀ (k : Bool → Prop) (x : Exc → Prop), r.sat k x → wpTand c.NM c.AT c.Φ c.Γ ts ρ k x
def RTo (c : Cx) (ts : List T) (ρ : Env) (r : Rs Bool) : Prop := ∀ (k : Bool → Prop) (x : Exc → Prop), r.sat k x → wpTor c.NM c.AT c.Φ c.Γ ts ρ k x
def andR (r q : Rs Bool) (_ : Tag q := .mk) : Rs Bool := r.bind fun b => if b = true then q else .ok false
def orR (r q : Rs Bool) (_ : Tag q := .mk) : Rs Bool := r.bind fun b => if b = true then .ok true else q
theorem rta_one {t : T} {r : Rs Bool} (h : RT c t ρ r) : RTa c [t] ρ r := fun k x q => by rw [wta_one]; exact h _ _ q
theorem rta_cons {t u : T} {ts : List T} {r s : Rs Bool} (h : RT c t ρ r) (g : RTa c (u :: ts) ρ s) : RTa c (t :: u :: ts) ρ (andR r s) := fun k x z => by
  rw [wta_cons]
  unfold andR at z
  rw [Rs.sat_bind] at z
  refine h _ _ (Rs.sat_mono z (fun b y => ?_) fun _ y => y)
  cases b with
  | true => exact g _ _ y
  | false => exact y
theorem rto_one {t : T} {r : Rs Bool} (h : RT c t ρ r) : RTo c [t] ρ r := fun k x q => by rw [wto_one]; exact h _ _ q
theorem rto_cons {t u : T} {ts : List T} {r s : Rs Bool} (h : RT c t ρ r) (g : RTo c (u :: ts) ρ s) : RTo c (t :: u :: ts) ρ (orR r s) := fun k x z => by
  rw [wto_cons]
  unfold orR at z
  rw [Rs.sat_bind] at z
  refine h _ _ (Rs.sat_mono z (fun b y => ?_) fun _ y => y)
  cases b with
  | true => exact y
  | false => exact g _ _ y
theorem rt_and {ts : List T} {r : Rs Bool} (h : RTa c ts ρ r) : RT c (.and ts) ρ r := fun k x q => by rw [wpT]; exact h _ _ q
theorem rt_or {ts : List T} {r : Rs Bool} (h : RTo c ts ρ r) : RT c (.or ts) ρ r := fun k x q => by rw [wpT]; exact h _ _ q
/-! comparisons as values -/
theorem rp_cmp {o : Cop} {a b : E} {p : Prop} [Decidable p] (h : RU c (.cmp o a b) ρ p) : RP c (.cmp o a b) ρ (.bl (decide p)) := fun k x q => by
  have := h (fun r => k (.bl r)) x q
  rw [wpT] at this; rw [wpE]; exact this
theorem rp_chn {o u : Cop} {a b e : E} {p : Prop} [Decidable p] (h : RU c (.chn o u a b e) ρ p) : RP c (.chn o u a b e) ρ (.bl (decide p)) := fun k x q => by
  have := h (fun r => k (.bl r)) x q
  rw [wpT] at this; rw [wpE]; exact this
theorem rp_ch3 {o u v : Cop} {a b e f : E} {p : Prop} [Decidable p] (h : RU c (.ch3 o u v a b e f) ρ p) : RP c (.ch3 o u v a b e f) ρ (.bl (decide p)) := fun k x q => by
  have := h (fun r => k (.bl r)) x q
  rw [wpT] at this; rw [wpE]; exact this
theorem re_cmp {o : Cop} {a b : E} {r : Rs Bool} (h : RT c (.cmp o a b) ρ r) : RE c (.cmp o a b) ρ r .bl := fun k x q => by
  have := h (fun r => k (.bl r)) x q
  rw [wpT] at this; rw [wpE]; exact this
theorem re_chn {o u : Cop} {a b e : E} {r : Rs Bool} (h : RT c (.chn o u a b e) ρ r) : RE c (.chn o u a b e) ρ r .bl := fun k x q => by
  have := h (fun r => k (.bl r)) x q
  rw [wpT] at this; rw [wpE]; exact this
def REa (c : Cx) (ts : List E) (ρ : Env) (r : Rs Bool) : Prop := ∀ (k : D → Prop) (x : Exc → Prop), r.sat (fun b => k (.bl b)) x → wpAnd c.NM c.AT c.Φ c.Γ ts ρ k x
def REo (c : Cx) (ts : List E) (ρ : Env) (r : Rs Bool) : Prop := ∀ (k : D → Prop) (x : Exc → Prop), r.sat (fun b => k (.bl b)) x → wpOr c.NM c.AT c.Φ c.Γ ts ρ k x
theorem rea_one {t : E} {r : Rs Bool} (h : RE c t ρ r .bl) : REa c [t] ρ r := fun k x q => by rw [wan_one]; exact h _ _ q
theorem rea_cons {t u : E} {ts : List E} {r s : Rs Bool} (h : RE c t ρ r .bl) (g : REa c (u :: ts) ρ s) : REa c (t :: u :: ts) ρ (andR r s) := fun k x z => by
  rw [wan_cons]
  unfold andR at z
  rw [Rs.sat_bind] at z
  refine h _ _ (Rs.sat_mono z (fun b y => ?_) fun _ y => y)
  cases b with
  | true => exact g _ _ y
  | false => exact y
theorem reo_one {t : E} {r : Rs Bool} (h : RE c t ρ r .bl) : REo c [t] ρ r := fun k x q => by rw [wor_one]; exact h _ _ q
theorem reo_cons {t u : E} {ts : List E} {r s : Rs Bool} (h : RE c t ρ r .bl) (g : REo c (u :: ts) ρ s) : REo c (t :: u :: ts) ρ (orR r s) := fun k x z => by
  rw [wor_cons]
  unfold orR at z
  rw [Rs.sat_bind] at z
  refine h _ _ (Rs.sat_mono z (fun b y => ?_) fun _ y => y)
  cases b with
  | true => exact y
  | false => exact g _ _ y
theorem re_and {ts : List E} {r : Rs Bool} (h : REa c ts ρ r) : RE c (.and ts) ρ r .bl := fun k x q => by rw [wpE]; exact h _ _ q
theorem re_or {ts : List E} {r : Rs Bool} (h : REo c ts ρ r) : RE c (.or ts) ρ r .bl := fun k x q => by rw [wpE]; exact h _ _ q
theorem rp_and {ts : List E} {b : Bool} (h : REa c ts ρ (.ok b)) : RP c (.and ts) ρ (.bl b) := fun k x q => by rw [wpE]; exact h _ _ q
theorem rp_or {ts : List E} {b : Bool} (h : REo c ts ρ (.ok b)) : RP c (.or ts) ρ (.bl b) := fun k x q => by rw [wpE]; exact h _ _ q
theorem rea_consp {t u : E} {ts : List E} {r s : Bool} (h : RP c t ρ (.bl r)) (g : REa c (u :: ts) ρ (.ok s)) : REa c (t :: u :: ts) ρ (.ok (r && s)) := fun k x z => by
  rw [wan_cons]
  refine h _ _ ?_
  cases r with
  | true => exact g _ _ z
  | false => exact z
theorem reo_consp {t u : E} {ts : List E} {r s : Bool} (h : RP c t ρ (.bl r)) (g : REo c (u :: ts) ρ (.ok s)) : REo c (t :: u :: ts) ρ (.ok (r || s)) := fun k x z => by
  rw [wor_cons]
  refine h _ _ ?_
  cases r with
  | true => exact z
  | false => exact g _ _ z
/-! a or b by a test -/
def iteR {α : Type} (r : Rs Bool) (a b : Rs α) (_ : Tag a := .mk) (_ : Tag b := .mk) : Rs α := r.bind fun q => if q = true then a else b
theorem iteR_ok {α : Type} {p : Prop} [Decidable p] {a b : Rs α} : iteR (.ok (decide p)) a b = cnd p a b := by
  show (if decide p = true then a else b) = if p then a else b
  by_cases h : p
  · rw [decide_eq_true h, if_pos rfl, if_pos h]
  · rw [decide_eq_false h, if_neg h]; rfl
theorem iteR_tt {α : Type} {a b : Rs α} : iteR (.ok true) a b = a := rfl
theorem iteR_ff {α : Type} {a b : Rs α} : iteR (.ok false) a b = b := rfl
theorem iteR_bl {α : Type} {q : Bool} {a b : Rs α} : iteR (.ok q) a b = cnd (q = true) a b := rfl
theorem rp_ife {α : Type} {n : α → D} {t : T} {a b : E} {p : Prop} [Decidable p] {x y : α} (h : RU c t ρ p) (h1 : RP c a ρ (n x)) (h2 : RP c b ρ (n y)) : RP c (.ife t a b) ρ (n (if p then x else y)) := fun k e q => by
  rw [wpE]
  refine h _ _ ?_
  by_cases hp : p
  · rw [decide_eq_true hp, if_pos rfl]
    rw [if_pos hp] at q
    exact h1 _ _ q
  · rw [decide_eq_false hp, if_neg (fun h => nomatch h)]
    rw [if_neg hp] at q
    exact h2 _ _ q
theorem re_ife {α : Type} {n : α → D} {t : T} {a b : E} {r : Rs Bool} {x y : Rs α} (h : RT c t ρ r) (h1 : RE c a ρ x n) (h2 : RE c b ρ y n) : RE c (.ife t a b) ρ (iteR r x y) n := fun k e q => by
  rw [wpE]
  unfold iteR at q
  rw [Rs.sat_bind] at q
  refine h _ _ (Rs.sat_mono q (fun z w => ?_) fun _ w => w)
  cases z with
  | true => exact h1 _ _ w
  | false => exact h2 _ _ w
theorem re_ifu {α : Type} {n : α → D} {t : T} {a b : E} {p : Prop} [Decidable p] {x y : Rs α} (h : RU c t ρ p) (h1 : RE c a ρ x n) (h2 : RE c b ρ y n) : RE c (.ife t a b) ρ (cnd p x y) n := fun k e q => by
  unfold cnd at q
  rw [wpE]
  refine h _ _ ?_
  by_cases hp : p
  · rw [decide_eq_true hp, if_pos rfl]
    rw [if_pos hp] at q
    exact h1 _ _ q
  · rw [decide_eq_false hp, if_neg (fun h => nomatch h)]
    rw [if_neg hp] at q
    exact h2 _ _ q
end
end
end M
end Q

/-! QW: typed models: comprehensions, equal data, statements, loops. -/
namespace Q
namespace M
open PySem PySem.Spec L2
noncomputable section

/-! ### targets -/
mutual
def bindR : Tg → D → Env → Option Env
  | .nm i, d, ρ => some (ρ.set i (.val d))
  | .tp ts, d, ρ => match d with
    | .tup xs => if ts.length = xs.length then bindRs ts xs ρ else none
    | .lst xs => if ts.length = xs.length then bindRs ts xs ρ else none
    | _ => none
def bindRs : List Tg → List D → Env → Option Env
  | [], [], ρ => some ρ
  | t :: ts, d :: ds, ρ => match bindR t d ρ with
    | some ρ' => bindRs ts ds ρ'
    | none => none
  | _, _, _ => none
end
mutual
theorem bindR_k : ∀ (t : Tg) (d : D) (ρ ρ' : Env) (q : Env → Prop), bindR t d ρ = some ρ' → q ρ' → bindW t d ρ q
  | .nm i, d, ρ, ρ', q, h, g => by
    rw [bindR] at h
    cases h
    rw [bindW]; exact g
  | .tp ts, d, ρ, ρ', q, h, g => by
    cases d with
    | tup xs =>
      rw [bindR] at h
      rw [bi_tp]
      split at h
      · rename_i z
        exact ⟨z, bindRs_k ts _ _ _ _ h g⟩
      · cases h
    | lst xs =>
      rw [bindR] at h
      rw [bi_tpl]
      split at h
      · rename_i z
        exact ⟨z, bindRs_k ts _ _ _ _ h g⟩
      · cases h
    | _ => rw [bindR] at h <;> first | (exact nomatch h) | (intro xs z; exact nomatch z)
theorem bindRs_k : ∀ (ts : List Tg) (ds : List D) (ρ ρ' : Env) (q : Env → Prop), bindRs ts ds ρ = some ρ' → q ρ' → bindsW ts ds ρ q
  | [], [], ρ, ρ', q, h, g => by
    rw [bindRs] at h
    cases h
    rw [bis_nil]; exact g
  | t :: ts, d :: ds, ρ, ρ', q, h, g => by
    rw [bindRs] at h
    rw [bis_cons]
    split at h
    · rename_i ρ'' z
      exact bindR_k t d ρ ρ'' _ z (bindRs_k ts ds _ _ _ h g)
    · cases h
  | [], _ :: _, _, _, _, h, _ => by rw [bindRs] at h <;> first | (cases h) | (intros; simp_all)
  | _ :: _, [], _, _, _, h, _ => by rw [bindRs] at h <;> first | (cases h) | (intros; simp_all)
end

/-! ### items -/
section
variable {c : Cx} {ρ : Env}
theorem ri_lst {e : E} {ds : List D} (h : RP c e ρ (.lst ds)) : RI c (.ex e) ρ ds := fun k x q => by rw [wi_ex]; exact h _ _ q
theorem ri_tup {e : E} {ds : List D} (h : RP c e ρ (.tup ds)) : RI c (.ex e) ρ ds := fun k x q => by rw [wi_ex]; exact h _ _ q
theorem ri_ro {e : E} {ds : List D} (h : RP c e ρ (.ro ds)) : RI c (.ex e) ρ ds := fun k x q => by rw [wi_ex]; exact h _ _ q
theorem ri_e {α : Type} {it : It} {l : List α} {n : α → D} (h : RI c it ρ (l.map n)) : RIE c it ρ (.ok l) n := fun k x q => h k x q
theorem rie_lst {α : Type} {n : α → D} {e : E} {r : Rs (List α)} (h : RE c e ρ r (dL n)) : RIE c (.ex e) ρ r n := fun k x q => by rw [wi_ex]; exact h _ _ q
theorem rie_vtp {α : Type} {n : α → D} {e : E} {r : Rs (List α)} (h : RE c e ρ r (dV n)) : RIE c (.ex e) ρ r n := fun k x q => by rw [wi_ex]; exact h _ _ q
/-- an expression whose items a function g lists -/
theorem rie_of {α β : Type} {n : α → D} {m : β → D} {g : α → List β} {e : E} {r : Rs α} (h : RE c e ρ r n) (hg : ∀ a, n a = .tup ((g a).map m) ∨ n a = .lst ((g a).map m)) : RIE c (.ex e) ρ (r.bind fun a => .ok (g a)) m := fun k x q => by
  rw [wi_ex]
  rw [Rs.sat_bind] at q
  refine h _ _ (Rs.sat_mono q (fun a z => ?_) fun _ z => z)
  rcases hg a with w | w <;> rw [w] <;> exact z
def rngL (a b : Int) : List Int := (List.range (b - a).toNat).map fun i => a + (i : Nat)
theorem rngL_D {a b : Int} : rangeD a (b - a).toNat = (rngL a b).map .int := by
  unfold rangeD rngL
  rw [List.map_map]; rfl
def rngR (a b : Int) : Rs (List Int) := if b - a ≤ 16777216 then .ok (rngL a b) else .no
def rngR1 (b : Int) : Rs (List Int) := if -(2 ^ 62) ≤ b ∧ b ≤ 16777216 then .ok (rngL 0 b) else .no
def QR (n : Int → D) : List D → Rs (List Int) → Prop := fun ds r => ∀ (k : List D → Prop) (x : Exc → Prop), r.sat (fun l => k (l.map n)) x → rngW ds k
theorem qr_2 {a b : Int} : QR .int [.int a, .int b] (rngR a b) := fun k x q => by
  obtain ⟨h1, h2⟩ := sat_if (k := fun (l : List Int) => k (l.map .int)) q
  refine ⟨h1, ?_⟩
  rw [rngL_D]; exact h2
theorem qr_1 {b : Int} : QR .int [.int b] (rngR1 b) := fun k x q => by
  obtain ⟨h1, h2⟩ := sat_if (k := fun (l : List Int) => k (l.map .int)) q
  refine ⟨h1, ?_⟩
  have e : b.toNat = (b - 0).toNat := by rw [Int.sub_zero]
  rw [e, rngL_D]; exact h2
theorem rie_rng {es : List E} {r : Rs (List Int)} (h : RX c es ρ r (QR .int)) : RIE c (.rng es) ρ r .int := fun k x q => by
  rw [wi_rng]
  exact h _ _ _ (fun ds r' z w => z k x w) q
theorem ri_rng {e : E} {n : Int} {ds : List D} (h : RP c e ρ (.int n)) (g : ∀ k : List D → Prop, k ds → rngW [.int n] k) : RI c (.rng [e]) ρ ds := fun k x q => by
  rw [wi_rng, wpEs_one]
  exact h _ _ (g _ q)
theorem zip_map {α β : Type} {n : α → D} {m : β → D} : ∀ {l : List α} {l' : List β}, List.zipWith (fun u v => D.tup [u, v]) (l.map n) (l'.map m) = (l.zip l').map (d2 n m)
  | [], _ => rfl
  | _ :: _, [] => rfl
  | a :: l, b :: l' => by
    show D.tup [n a, m b] :: List.zipWith _ (l.map n) (l'.map m) = _
    rw [zip_map]; rfl
theorem zw_tt {xs ys : List D} {k : List D → Prop} : zipW (.tup xs) (.tup ys) k = k (List.zipWith (fun u v => .tup [u, v]) xs ys) := rfl
theorem ri_zipt {a b : E} {ds es : List D} (h : RP c a ρ (.tup ds)) (g : RP c b ρ (.tup es)) : RI c (.zip a b) ρ (List.zipWith (fun u v => .tup [u, v]) ds es) := fun k x q => by
  rw [wi_zip]
  refine h _ _ (g _ _ ?_)
  rw [zw_tt]; exact q
theorem ri_zip {α β : Type} {n : α → D} {m : β → D} {a b : E} {l : List α} {l' : List β} (h : RP c a ρ (.lst (l.map n))) (g : RP c b ρ (.lst (l'.map m))) : RI c (.zip a b) ρ ((l.zip l').map (d2 n m)) := fun k x q => by
  rw [wi_zip]
  refine h _ _ (g _ _ ?_)
  rw [zw_ll, zip_map]; exact q
theorem rie_b {α β : Type} {n : α → D} {it : It} {r : Rs β} {f : β → Rs (List α)} {e : E} {m : β → D} (h : RE c e ρ r m) (hi : ∀ b (k : List D → Prop) (x : Exc → Prop), (f b).sat (fun l => k (l.map n)) x → itW (m b) k) : RIE c (.ex e) ρ (r.bind f) n := fun k x q => by
  rw [wi_ex]
  rw [Rs.sat_bind] at q
  exact h _ _ (Rs.sat_mono q (fun b z => hi b _ _ z) fun _ z => z)

/-! ### comprehensions -/
def noE {α : Type} (r : Rs α) : Rs α := match r with
  | .ok a => .ok a
  | .er _ => .no
  | .no => .no
theorem noE_ok {α : Type} {a : α} : noE (.ok a) = .ok a := rfl
theorem noE_sat {α : Type} {r : Rs α} {k : α → Prop} {x : Exc → Prop} (h : (noE r).sat k x) : r.sat k fun _ => False := by
  cases r with
  | ok a => exact h
  | er e => exact h
  | no => exact h
def mapR0 {α β : Type} (f : α → Rs β) : List α → Rs (List β)
  | [] => .ok []
  | a :: l => (noE (f a)).bind fun b => (mapR0 f l).bind fun bs => .ok (b :: bs)
def mapR {α β : Type} (f : α → Rs β) (l : List α) (_ : Tag f := .mk) : Rs (List β) := mapR0 f l
def filR0 {α β : Type} (p : α → Rs Bool) (f : α → Rs β) : List α → Rs (List β)
  | [] => .ok []
  | a :: l => (noE (p a)).bind fun q => if q = true then (noE (f a)).bind fun b => (filR0 p f l).bind fun bs => .ok (b :: bs) else filR0 p f l
def filR {α β : Type} (p : α → Rs Bool) (f : α → Rs β) (l : List α) (_ : Tag p := .mk) (_ : Tag f := .mk) : Rs (List β) := filR0 p f l
/-- what a comprehension's items make -/
def RC {α β : Type} (c : Cx) (e : E) (t : Tg) (cs : List T) (ρ : Env) (n : α → D) (l : List α) (r : Rs (List β)) (m : β → D) : Prop :=
  ∀ (k : List D → Prop) (x : Exc → Prop), r.sat (fun ys => k (ys.map m)) x → mapW (fun d kk => bindW t d (wipeR ρ t.slots) fun ρ' => wpTs c.NM c.AT c.Φ c.Γ cs ρ' (fun b => if b = true then wpE c.NM c.AT c.Φ c.Γ e ρ' (fun y => kk (some y)) (fun _ => False) else kk none) fun _ => False) (l.map n) k
theorem rc_p {α β : Type} {e : E} {t : Tg} {n : α → D} {m : β → D} {l : List α} {f : α → β} (h : ∀ a, ∃ ρ', bindR t (n a) (wipeR ρ t.slots) = some ρ' ∧ RP c e ρ' (m (f a))) : RC c e t [] ρ n l (.ok (l.map f)) m := by
  induction l with
  | nil => exact fun k x q => q
  | cons a l ih =>
    intro k x q
    obtain ⟨ρ', h1, h2⟩ := h a
    show bindW t (n a) _ _
    refine bindR_k _ _ _ _ _ h1 ?_
    rw [wts_nil, if_pos rfl]
    refine h2 _ _ ?_
    exact ih (fun ys => k (m (f a) :: ys)) x q
theorem rc_e {α β : Type} {e : E} {t : Tg} {n : α → D} {m : β → D} {l : List α} {f : α → Rs β} (h : ∀ a, ∃ ρ', bindR t (n a) (wipeR ρ t.slots) = some ρ' ∧ RE c e ρ' (f a) m) : RC c e t [] ρ n l (mapR f l) m := by
  induction l with
  | nil => exact fun k x q => q
  | cons a l ih =>
    intro k x q
    obtain ⟨ρ', h1, h2⟩ := h a
    show bindW t (n a) _ _
    refine bindR_k _ _ _ _ _ h1 ?_
    rw [wts_nil, if_pos rfl]
    unfold mapR mapR0 at q
    rw [Rs.sat_bind] at q
    refine h2 _ _ (Rs.sat_mono (noE_sat q) (fun b z => ?_) fun _ z => z)
    rw [Rs.sat_bind] at z
    exact ih (fun ys => k (m b :: ys)) x z
theorem rc_fp {α β : Type} {e : E} {t : Tg} {s : T} {n : α → D} {m : β → D} {l : List α} {f : α → β} {p : α → Prop} [∀ a, Decidable (p a)] (h : ∀ a, ∃ ρ', bindR t (n a) (wipeR ρ t.slots) = some ρ' ∧ RU c s ρ' (p a) ∧ RP c e ρ' (m (f a))) : RC c e t [s] ρ n l (.ok ((l.filter fun a => decide (p a)).map f)) m := by
  induction l with
  | nil => exact fun k x q => q
  | cons a l ih =>
    intro k x q
    obtain ⟨ρ', h1, h2, h3⟩ := h a
    show bindW t (n a) _ _
    refine bindR_k _ _ _ _ _ h1 ?_
    rw [wts_one]
    refine h2 _ _ ?_
    rw [List.filter_cons] at q
    by_cases z : p a
    · rw [decide_eq_true z, if_pos rfl] at *
      refine h3 _ _ ?_
      exact ih (fun ys => k (m (f a) :: ys)) x q
    · rw [decide_eq_false z, if_neg (fun h => nomatch h)] at *
      exact ih _ _ q
theorem rc_fe {α β : Type} {e : E} {t : Tg} {s : T} {n : α → D} {m : β → D} {l : List α} {f : α → Rs β} {p : α → Rs Bool} (h : ∀ a, ∃ ρ', bindR t (n a) (wipeR ρ t.slots) = some ρ' ∧ RT c s ρ' (p a) ∧ RE c e ρ' (f a) m) : RC c e t [s] ρ n l (filR p f l) m := by
  induction l with
  | nil => exact fun k x q => q
  | cons a l ih =>
    intro k x q
    obtain ⟨ρ', h1, h2, h3⟩ := h a
    show bindW t (n a) _ _
    refine bindR_k _ _ _ _ _ h1 ?_
    rw [wts_one]
    unfold filR filR0 at q
    rw [Rs.sat_bind] at q
    refine h2 _ _ (Rs.sat_mono (noE_sat q) (fun b z => ?_) fun _ z => z)
    cases b with
    | true =>
      rw [if_pos rfl] at *
      rw [Rs.sat_bind] at z
      refine h3 _ _ (Rs.sat_mono (noE_sat z) (fun y w => ?_) fun _ w => w)
      rw [Rs.sat_bind] at w
      exact ih (fun ys => k (m y :: ys)) x w
    | false => exact ih _ _ z
theorem rp_comp {α β : Type} {e : E} {t : Tg} {it : It} {cs : List T} {n : α → D} {m : β → D} {l : List α} {l' : List β} (h : RI c it ρ (l.map n)) (g : RC c e t cs ρ n l (.ok l') m) : RP c (.comp e t it cs) ρ (.lst (l'.map m)) := fun k x q => by
  rw [wpE]
  exact h _ _ (g (fun ys => k (.lst ys)) x q)
theorem re_comp {α β : Type} {e : E} {t : Tg} {it : It} {cs : List T} {n : α → D} {m : β → D} {r : Rs (List α)} {f : List α → Rs (List β)} (h : RIE c it ρ r n) (g : ∀ l, RC c e t cs ρ n l (f l) m) : RE c (.comp e t it cs) ρ (r.bind f) (dL m) := fun k x q => by
  rw [wpE]
  rw [Rs.sat_bind] at q
  exact h _ _ (Rs.sat_mono q (fun l z => g l (fun ys => k (.lst ys)) x z) fun _ z => z)
theorem re_comp1 {α β : Type} {e : E} {t : Tg} {it : It} {cs : List T} {n : α → D} {m : β → D} {l : List α} {f : Rs (List β)} (h : RI c it ρ (l.map n)) (g : RC c e t cs ρ n l f m) : RE c (.comp e t it cs) ρ f (dL m) := fun k x q => by
  rw [wpE]
  exact h _ _ (g (fun ys => k (.lst ys)) x q)
/-- items that stand there one by one -/
def RM {β : Type} (c : Cx) (e : E) (t : Tg) (ρ : Env) (ds : List D) (r : Rs β) (Q : List D → Rs β → Prop) : Prop :=
  ∀ (kk : List D → Prop) (K : β → Prop) (x : Exc → Prop), (∀ ys r', Q ys r' → r'.sat K x → kk ys) → r.sat K x → mapW (fun d kk => bindW t d (wipeR ρ t.slots) fun ρ' => wpTs c.NM c.AT c.Φ c.Γ [] ρ' (fun b => if b = true then wpE c.NM c.AT c.Φ c.Γ e ρ' (fun y => kk (some y)) (fun _ => False) else kk none) fun _ => False) ds kk
section
variable {β : Type} {e : E} {t : Tg} {ds : List D} {Q : List D → Rs β → Prop}
theorem rm_nil {r : Rs β} (h : Q [] r) : RM c e t ρ [] r Q := fun kk K x g q => g _ _ h q
theorem rm_p {ρ' : Env} {d y : D} {r : Rs β} (h1 : bindR t d (wipeR ρ t.slots) = some ρ') (h : RP c e ρ' y) (g : RM c e t ρ ds r fun ys r' => Q (y :: ys) r') : RM c e t ρ (d :: ds) r Q := fun kk K x f q => by
  show bindW t d _ _
  refine bindR_k _ _ _ _ _ h1 ?_
  rw [wts_nil, if_pos rfl]
  exact h _ _ (g _ K x (fun ys r' z w => f _ _ z w) q)
theorem rm_e {α : Type} {ρ' : Env} {d : D} {re : Rs α} {m : α → D} {f : α → Rs β} (h1 : bindR t d (wipeR ρ t.slots) = some ρ') (h : RE c e ρ' re m) (g : ∀ a, RM c e t ρ ds (f a) fun ys r' => Q (m a :: ys) r') : RM c e t ρ (d :: ds) ((noE re).bind f) Q := fun kk K x w q => by
  show bindW t d _ _
  refine bindR_k _ _ _ _ _ h1 ?_
  rw [wts_nil, if_pos rfl]
  rw [Rs.sat_bind] at q
  exact h _ _ (Rs.sat_mono (noE_sat q) (fun a z => g a _ K x (fun ys r' u v => w _ _ u v) z) fun _ z => z)
end
theorem re_comps {α : Type} {e : E} {t : Tg} {it : It} {ds : List D} {n : α → D} {r : Rs α} (h : RI c it ρ ds) (g : RM c e t ρ ds r (QS n)) : RE c (.comp e t it []) ρ r n := fun k x q => by
  rw [wpE]
  exact h _ _ (g _ _ _ (fun ys r' ⟨a, z, w⟩ u => by subst z; rw [← w]; exact u) q)
theorem rp_comps {e : E} {t : Tg} {it : It} {ds ys : List D} (h : RI c it ρ ds) (g : RM c e t ρ ds (.ok ()) fun zs r => zs = ys ∧ r = .ok ()) : RP c (.comp e t it []) ρ (.lst ys) := fun k x q => by
  rw [wpE]
  exact h _ _ (g _ (fun _ => True) x (fun zs r' z u => by rw [z.1]; exact q) trivial)
theorem re_comps1 {α : Type} {e : E} {t : Tg} {it : It} {ds : List D} {n : α → D} {r : Rs α} (h : RI c it ρ ds) (g : RM c e t ρ ds r fun ys r' => ∃ a, r' = .ok a ∧ D.lst ys = n a) : RE c (.comp e t it []) ρ r n := fun k x q => by
  rw [wpE]
  exact h _ _ (g _ _ _ (fun ys r' ⟨a, z, w⟩ u => by subst z; rw [w]; exact u) q)
/-- a tuple or a list of a list -/
theorem rp_blt1 {b : Blt} {e : E} {d v : D} (h : RP c e ρ d) (g : ∀ k : D → Prop, k v → bltW b [d] k) : RP c (.blt b [e]) ρ v := fun k x q => by
  rw [wpE, wpEs_one]
  exact h _ _ (g _ q)
theorem re_blt1 {α β : Type} {n : α → D} {m : β → D} {b : Blt} {e : E} {r : Rs α} {g : α → β} (h : RE c e ρ r n) (hg : ∀ a (k : D → Prop), k (m (g a)) → bltW b [n a] k) : RE c (.blt b [e]) ρ (r.bind fun a => .ok (g a)) m := fun k x q => by
  rw [wpE, wpEs_one]
  rw [Rs.sat_bind] at q
  exact h _ _ (Rs.sat_mono q (fun a z => hg a _ z) fun _ z => z)
end

/-! ### equal data -/
mutual
theorem nice_mono : ∀ {n m : Nat} {d : D}, n ≤ m → nice n d = true → nice m d = true
  | n, m, .int _, _, _ => by cases m <;> rfl
  | n, m, .non, _, _ => by cases m <;> rfl
  | n, m, .str s, _, h => by
    have h' : PyData.strOk s = true := by cases n <;> exact h
    cases m <;> exact h'
  | 0, _, .tup _, _, h => by cases h
  | 0, _, .lst _, _, h => by cases h
  | n + 1, 0, .tup _, l, _ => absurd l (by omega)
  | n + 1, 0, .lst _, l, _ => absurd l (by omega)
  | n + 1, m + 1, .tup xs, l, h => nices_mono (n := n) (m := m) (ds := xs) (by omega) h
  | n + 1, m + 1, .lst xs, l, h => nices_mono (n := n) (m := m) (ds := xs) (by omega) h
  | n, _, .bl _, _, h => by cases n <;> cases h
  | n, _, .ro _, _, h => by cases n <;> cases h
  | n, _, .ins _ _ _, _, h => by cases n <;> cases h
  | n, _, .ty _, _, h => by cases n <;> cases h
theorem nices_mono : ∀ {n m : Nat} {ds : List D}, n ≤ m → nices n ds = true → nices m ds = true
  | _, _, [], _, _ => rfl
  | n, m, x :: xs, l, h => by
    rw [nices, Bool.and_eq_true] at *
    exact ⟨nice_mono l h.1, nices_mono l h.2⟩
end
class EqE {α : Type} (n : α → D) (m : outParam Nat) : Prop where
  inj : ∀ a b, n a = n b → a = b
  nice : ∀ a, nice m (n a) = true
  nn : ∀ a, n a ≠ .non
instance : EqE D.int 0 := ⟨fun a b h => by injection h, fun _ => rfl, fun _ h => nomatch h⟩
theorem ns1 {m k : Nat} {d : D} {ds : List D} (h : nice m d = true) (g : nices k ds = true) : nices (max m k) (d :: ds) = true := by
  rw [nices, Bool.and_eq_true]
  exact ⟨nice_mono (Nat.le_max_left ..) h, nices_mono (Nat.le_max_right ..) g⟩
theorem ns0 : nices 0 [] = true := rfl
instance {α β : Type} {n : α → D} {m : β → D} {i j : Nat} [h : EqE n i] [g : EqE m j] : EqE (d2 n m) (max i (max j 0) + 1) where
  inj := fun a b e => by
    unfold d2 at e
    injection e with e
    injection e with e1 e2
    injection e2 with e2 _
    exact Prod.ext (h.inj _ _ e1) (g.inj _ _ e2)
  nice := fun a => ns1 (h.nice _) (ns1 (g.nice _) ns0)
  nn := fun _ h => nomatch h
instance {α β γ : Type} {n : α → D} {m : β → D} {o : γ → D} {i j k : Nat} [h : EqE n i] [g : EqE m j] [f : EqE o k] : EqE (d3 n m o) (max i (max j (max k 0)) + 1) where
  inj := fun a b e => by
    unfold d3 at e
    injection e with e
    injection e with e1 e2
    injection e2 with e2 e3
    injection e3 with e3 _
    exact Prod.ext (h.inj _ _ e1) (Prod.ext (g.inj _ _ e2) (f.inj _ _ e3))
  nice := fun a => ns1 (h.nice _) (ns1 (g.nice _) (ns1 (f.nice _) ns0))
  nn := fun _ h => nomatch h
instance {α β γ δ : Type} {n : α → D} {m : β → D} {o : γ → D} {u : δ → D} {i j k l : Nat} [h : EqE n i] [g : EqE m j] [f : EqE o k] [q : EqE u l] : EqE (d4 n m o u) (max i (max j (max k (max l 0))) + 1) where
  inj := fun a b e => by
    unfold d4 at e
    injection e with e
    injection e with e1 e2
    injection e2 with e2 e3
    injection e3 with e3 e4
    injection e4 with e4 _
    exact Prod.ext (h.inj _ _ e1) (Prod.ext (g.inj _ _ e2) (Prod.ext (f.inj _ _ e3) (q.inj _ _ e4)))
  nice := fun a => ns1 (h.nice _) (ns1 (g.nice _) (ns1 (f.nice _) (ns1 (q.nice _) ns0)))
  nn := fun _ h => nomatch h
instance : EqE dIv 1 := inferInstanceAs (EqE (d2 D.int D.int) 1)
instance : EqE dPt 1 := inferInstanceAs (EqE (d3 D.int D.int D.int) 1)
instance : EqE dBox 2 := inferInstanceAs (EqE (d3 dIv dIv dIv) 2)
theorem nices_map {α : Type} {n : α → D} {i : Nat} [h : EqE n i] : ∀ {l : List α}, nices i (l.map n) = true
  | [] => rfl
  | a :: l => by
    show nices i (n a :: l.map n) = true
    rw [nices, Bool.and_eq_true]
    exact ⟨h.nice a, nices_map⟩
theorem map_inj {α : Type} {n : α → D} {i : Nat} [h : EqE n i] : ∀ {l l' : List α}, l.map n = l'.map n → l = l'
  | [], [], _ => rfl
  | [], _ :: _, e => nomatch e
  | _ :: _, [], e => nomatch e
  | a :: l, b :: l', e => by
    injection e with e1 e2
    rw [h.inj _ _ e1, map_inj e2]
instance {α : Type} {n : α → D} {i : Nat} [h : EqE n i] : EqE (dL n) (i + 1) where
  inj := fun a b e => by
    unfold dL at e
    injection e with e
    exact map_inj e
  nice := fun a => nices_map (n := n)
  nn := fun _ h => nomatch h
instance {α : Type} {n : α → D} {i : Nat} [h : EqE n i] : EqE (dV n) (i + 1) where
  inj := fun a b e => by
    unfold dV at e
    injection e with e
    exact map_inj e
  nice := fun a => nices_map (n := n)
  nn := fun _ h => nomatch h
/-- like EqE, None allowed -/
class EqO {α : Type} (n : α → D) (m : outParam Nat) : Prop where
  inj : ∀ a b, n a = n b → a = b
  nice : ∀ a, nice m (n a) = true
instance (priority := 500) {α : Type} {n : α → D} {i : Nat} [h : EqE n i] : EqO n i := ⟨h.inj, h.nice⟩
instance : EqO dN 0 := ⟨fun _ _ _ => rfl, fun _ => rfl⟩
instance {α : Type} {n : α → D} {i : Nat} [h : EqE n i] : EqO (dO n) i where
  inj := fun a b e => by
    cases a with
    | none => cases b with
      | none => rfl
      | some b => exact absurd e.symm (h.nn b)
    | some a => cases b with
      | none => exact absurd e (h.nn a)
      | some b => rw [h.inj a b e]
  nice := fun a => by
    cases a with
    | none => show Q.nice i .non = true; cases i <;> rfl
    | some a => exact h.nice a
theorem ck_eq {α : Type} {n : α → D} {i : Nat} [h : EqO n i] [DecidableEq α] {a b : α} (l : i ≤ 64 := by decide) : ∀ k : Bool → Prop, k (decide (a = b)) → copW .eq (n a) (n b) k := fun k q => by
  show eqW (n a) (n b) k
  refine eqW_nice i (h.nice a) (h.nice b) l (fun e => ?_) fun e => ?_
  · rw [decide_eq_true (h.inj _ _ e)] at q; exact q
  · rw [decide_eq_false (fun z => e (by rw [z]))] at q; exact q
theorem ck_eqs {a b : Str} : ∀ k : Bool → Prop, k (decide (a = b)) → copW .eq (.str a) (.str b) k := fun k q => q
theorem ck_eqb {a b : Bool} : ∀ k : Bool → Prop, k (decide (a = b)) → copW .eq (.bl a) (.bl b) k := fun k q => q
theorem ck_is {α : Type} {n : α → D} {o : Option α} (h : ∀ a, n a ≠ .non) : ∀ k : Bool → Prop, k (decide (o = none)) → copW .is_ (dO n o) .non k := fun k q => by
  cases o with
  | none => exact q
  | some a =>
    show k (match n a with | .non => true | _ => false)
    have := h a
    cases z : n a with
    | non => exact absurd z this
    | _ => exact q
theorem ck_isn {α : Type} {n : α → D} {o : Option α} (h : ∀ a, n a ≠ .non) : ∀ k : Bool → Prop, k (decide (o ≠ none)) → copW .isnot (dO n o) .non k := fun k q => by
  cases o with
  | none => exact q
  | some a =>
    show k (match n a with | .non => false | _ => true)
    have := h a
    cases z : n a with
    | non => exact absurd z this
    | _ => exact q

/-! ### statements -/
section
variable {c : Cx} {β : Type} {n : β → D} {rest : List S} {ρ : Env} {r : Rs β} {N B C : Env → Rs β → Prop}
theorem rk_nil (h : N ρ r) : RK c n [] ρ r N B C := fun d K hK hN hB hC q => by rw [wpSs]; exact hN _ _ h q
theorem rk_asg {α : Type} {i : Nat} {e : E} {re : Rs α} {m : α → D} {f : α → Rs β} {g : α → Env} (h : RE c e ρ re m) (hg : ∀ a, ρ.set i (.val (m a)) = g a) (k : ∀ a, RK c n rest (g a) (f a) N B C) : RK c n (.asg (.nm i) e :: rest) ρ (re.bind f) N B C := fun d K hK hN hB hC q => by
  rw [Rs.sat_bind] at q
  rw [wpSs, wpS]
  refine h _ _ (Rs.sat_mono q (fun a z => ?_) fun e z => z ρ)
  rw [bindW]
  have := k a d K hK hN hB hC z
  rw [← hg] at this
  exact this
theorem rk_asgp {i : Nat} {e : E} {v : D} {ρ' : Env} (h : RP c e ρ v) (hg : ρ.set i (.val v) = ρ') (k : RK c n rest ρ' r N B C) : RK c n (.asg (.nm i) e :: rest) ρ r N B C := fun d K hK hN hB hC q => by
  rw [wpSs, wpS]
  refine h _ _ ?_
  rw [bindW, hg]
  exact k d K hK hN hB hC q
theorem rk_tgt {α : Type} {t : Tg} {e : E} {re : Rs α} {m : α → D} {f : α → Rs β} {g : α → Env} (h : RE c e ρ re m) (hg : ∀ a, bindR t (m a) ρ = some (g a)) (k : ∀ a, RK c n rest (g a) (f a) N B C) : RK c n (.asg t e :: rest) ρ (re.bind f) N B C := fun d K hK hN hB hC q => by
  rw [Rs.sat_bind] at q
  rw [wpSs, wpS]
  refine h _ _ (Rs.sat_mono q (fun a z => ?_) fun e z => z ρ)
  exact bindR_k _ _ _ _ _ (hg a) (k a d K hK hN hB hC z)
theorem rk_tgtp {t : Tg} {e : E} {v : D} {ρ' : Env} (h : RP c e ρ v) (hg : bindR t v ρ = some ρ') (k : RK c n rest ρ' r N B C) : RK c n (.asg t e :: rest) ρ r N B C := fun d K hK hN hB hC q => by
  rw [wpSs, wpS]
  exact h _ _ (bindR_k _ _ _ _ _ hg (k d K hK hN hB hC q))
theorem rk_newp {i : Nat} {e : E} {ds : List D} {ρ' : Env} (h : RP c e ρ (.lst ds)) (hg : ρ.set i (.own ds) = ρ') (k : RK c n rest ρ' r N B C) : RK c n (.new i e :: rest) ρ r N B C := fun d K hK hN hB hC q => by
  rw [wpSs, wpS]
  refine h _ _ ?_
  show wpSs _ _ _ _ rest (ρ.set i (.own ds)) d
  rw [hg]
  exact k d K hK hN hB hC q
theorem rk_new {α : Type} {m : α → D} {i : Nat} {e : E} {re : Rs (List α)} {f : List α → Rs β} {g : List α → Env} (h : RE c e ρ re (dL m)) (hg : ∀ a, ρ.set i (.own (a.map m)) = g a) (k : ∀ a, RK c n rest (g a) (f a) N B C) : RK c n (.new i e :: rest) ρ (re.bind f) N B C := fun d K hK hN hB hC q => by
  rw [Rs.sat_bind] at q
  rw [wpSs, wpS]
  refine h _ _ (Rs.sat_mono q (fun a z => ?_) fun e z => z ρ)
  show wpSs _ _ _ _ rest (ρ.set i (.own (a.map m))) d
  rw [hg]
  exact k a d K hK hN hB hC z
theorem rk_par {i j : Nat} {a b : E} {v w : D} {ρ' : Env} (h1 : RP c a ρ v) (h2 : RP c b ρ w) (hg : (ρ.set i (.val v)).set j (.val w) = ρ') (k : RK c n rest ρ' r N B C) : RK c n (.par i j a b :: rest) ρ r N B C := fun d K hK hN hB hC q => by
  rw [wpSs, wpS]
  refine h1 _ _ (h2 _ _ ?_)
  rw [hg]
  exact k d K hK hN hB hC q
theorem rk_pare {α γ : Type} {i j : Nat} {a b : E} {ra : Rs α} {rb : Rs γ} {n1 : α → D} {n2 : γ → D} {f : α → γ → Rs β} {g : α → γ → Env} (h1 : RE c a ρ ra n1) (h2 : RE c b ρ rb n2) (hg : ∀ u v, (ρ.set i (.val (n1 u))).set j (.val (n2 v)) = g u v) (k : ∀ u v, RK c n rest (g u v) (f u v) N B C) : RK c n (.par i j a b :: rest) ρ (ra.bind fun u => rb.bind fun v => f u v) N B C := fun d K hK hN hB hC q => by
  rw [Rs.sat_bind] at q
  rw [wpSs, wpS]
  refine h1 _ _ (Rs.sat_mono q (fun u z => ?_) fun e z => z ρ)
  rw [Rs.sat_bind] at z
  refine h2 _ _ (Rs.sat_mono z (fun v y => ?_) fun e z => z ρ)
  have := k u v d K hK hN hB hC y
  rw [← hg] at this
  exact this
theorem rk_frz {i : Nat} {ds : List D} {ρ' : Env} (h : ρ[i]? = some (.own ds)) (hg : ρ.set i (.val (.lst ds)) = ρ') (k : RK c n rest ρ' r N B C) : RK c n (.frz i :: rest) ρ r N B C := fun d K hK hN hB hC q => by
  rw [wpSs, wpS]
  show wpSs _ _ _ _ rest (frzR ρ i) d
  rw [frzR, h]
  show wpSs _ _ _ _ rest (ρ.set i (.val (.lst ds))) d
  rw [hg]
  exact k d K hK hN hB hC q
/-- nothing to freeze -/
theorem rk_frz0 {i : Nat} {v : D} (h : ρ[i]? = some (.val v)) (k : RK c n rest ρ r N B C) : RK c n (.frz i :: rest) ρ r N B C := fun d K hK hN hB hC q => by
  rw [wpSs, wpS]
  show wpSs _ _ _ _ rest (frzR ρ i) d
  rw [frzR, h]
  exact k d K hK hN hB hC q
def pushR {α : Type} (l : List α) (a : α) : Rs (List α) := if l.length < sizeLine then .ok (l ++ [a]) else .no
theorem rk_app {α : Type} {m : α → D} {i : Nat} {e : E} {re : Rs α} {l : List α} {f : List α → Rs β} {g : List α → Env} (hi : ρ[i]? = some (.own (l.map m))) (h : RE c e ρ re m) (hg : ∀ l', ρ.set i (.own (l'.map m)) = g l') (k : ∀ l', RK c n rest (g l') (f l') N B C) : RK c n (.app i e :: rest) ρ (re.bind fun a => (pushR l a).bind f) N B C := fun d K hK hN hB hC q => by
  rw [Rs.sat_bind] at q
  rw [wpSs, wpS, hi]
  refine h _ _ (Rs.sat_mono q (fun a z => ?_) fun e z => z ρ)
  rw [Rs.sat_bind] at z
  unfold pushR at z
  obtain ⟨z1, z2⟩ := sat_if (k := fun l' => (f l').sat _ _) z
  refine ⟨by rw [List.length_map]; exact z1, ?_⟩
  rw [show l.map m ++ [m a] = (l ++ [a]).map m by rw [List.map_append]; rfl]
  show wpSs _ _ _ _ rest (ρ.set i (.own ((l ++ [a]).map m))) d
  rw [hg]
  exact k _ d K hK hN hB hC z2
theorem rk_appp {α : Type} {m : α → D} {i : Nat} {e : E} {a : α} {l : List α} {f : List α → Rs β} {g : List α → Env} (hi : ρ[i]? = some (.own (l.map m))) (h : RP c e ρ (m a)) (hg : ∀ l', ρ.set i (.own (l'.map m)) = g l') (k : ∀ l', RK c n rest (g l') (f l') N B C) : RK c n (.app i e :: rest) ρ ((pushR l a).bind f) N B C := rk_app (re := .ok a) hi (re_p h) hg k
def setR {α : Type} (l : List α) (i : Int) (a : α) : Rs (List α) := match ixN l.length i with
  | some m => .ok (l.set m a)
  | none => .no
theorem rk_aug {i : Nat} {o : Bop} {e : E} {v : Int} {re : Rs Int} {op : Int → Int → Rs Int} {f : Int → Rs β} {g : Int → Env} (hi : ρ[i]? = some (.val (.int v))) (h : RE c e ρ re .int) (ho : ∀ w (k : D → Prop) (x : Exc → Prop), (op v w).sat (fun a => k (.int a)) x → bopW o (.int v) (.int w) k) (hg : ∀ a, ρ.set i (.val (.int a)) = g a) (k : ∀ a, RK c n rest (g a) (f a) N B C) : RK c n (.aug i o e :: rest) ρ (re.bind fun w => (op v w).bind f) N B C := fun d K hK hN hB hC q => by
  rw [Rs.sat_bind] at q
  rw [wpSs, wpS, hi]
  refine h _ _ (Rs.sat_mono q (fun w z => ?_) fun e z => z ρ)
  rw [Rs.sat_bind] at z
  have z' : (op v w).sat (fun a => wpSs c.NM c.AT c.Φ c.Γ rest (ρ.set i (.val (.int a))) d) (fun e => ∀ q, d.er e q) := Rs.sat_mono z (fun a y => by
    have := k a d K hK hN hB hC y
    rw [← hg] at this; exact this) fun _ y => y
  exact ho w (fun r => wpSs c.NM c.AT c.Φ c.Γ rest (ρ.set i (.val r)) d) _ z'
theorem rk_fld {i f a : Nat} {e : E} {v : D} {ks : List Nat} {ds : List D} {ρ' : Env} (hi : ρ[i]? = some (.obj a ks ds)) (hA : atB c.AT a f = true) (hk : ks.length < 1000) (h : RP c e ρ v) (hg : ρ.set i (.obj a (putD f v ks ds).1 (putD f v ks ds).2) = ρ') (k : RK c n rest ρ' r N B C) : RK c n (.fld i f e :: rest) ρ r N B C := fun d K hK hN hB hC q => by
  rw [wpSs, wpS, hi]
  refine ⟨hA, hk, h _ _ ?_⟩
  show wpSs _ _ _ _ rest (ρ.set i (.obj a (putD f v ks ds).1 (putD f v ks ds).2)) d
  rw [hg]
  exact k d K hK hN hB hC q
theorem rk_exp {α : Type} {e : E} {re : Rs α} {m : α → D} {f : α → Rs β} (h : RE c e ρ re m) (k : ∀ a, RK c n rest ρ (f a) N B C) : RK c n (.exp e :: rest) ρ (re.bind f) N B C := fun d K hK hN hB hC q => by
  rw [Rs.sat_bind] at q
  rw [wpSs, wpS]
  exact h _ _ (Rs.sat_mono q (fun a z => k a d K hK hN hB hC z) fun e z => z ρ)
theorem rk_ret {e : E} (hR : c.RR) (h : RE c e ρ r n) : RK c n (.ret e :: rest) ρ r N B C := fun d K hK hN hB hC q => by
  rw [wpSs, wpS]
  exact h _ _ (Rs.sat_mono q (fun a z => hK hR a z) fun e z => z ρ)
theorem rk_retp {e : E} {a : β} (hR : c.RR) (h : RP c e ρ (n a)) : RK c n (.ret e :: rest) ρ (.ok a) N B C := rk_ret hR (re_p h)
theorem rk_retN {a : β} (hR : c.RR) (h : n a = .non) : RK c n (.retN :: rest) ρ (.ok a) N B C := fun d K hK hN hB hC q => by
  rw [wpSs, wpS]
  show d.rt .non
  rw [← h]; exact hK hR a q
theorem rk_brk (h : B ρ r) : RK c n (.brk :: rest) ρ r N B C := fun d K hK hN hB hC q => by rw [wpSs, wpS]; exact hB _ _ h q
theorem rk_cnt (h : C ρ r) : RK c n (.cnt :: rest) ρ r N B C := fun d K hK hN hB hC q => by rw [wpSs, wpS]; exact hC _ _ h q
theorem rk_pas (k : RK c n rest ρ r N B C) : RK c n (.pas :: rest) ρ r N B C := fun d K hK hN hB hC q => by rw [wpSs, wpS]; exact k d K hK hN hB hC q
theorem rk_nev : RK c n (.nev :: rest) ρ .no N B C := fun d K hK hN hB hC q => q.elim
theorem rk_no {ss : List S} : RK c n ss ρ .no N B C := fun d K hK hN hB hC q => q.elim
theorem rk_ifu {t : T} {p : Prop} [Decidable p] {a b : List S} {x y : Rs β} (h : RU c t ρ p) (ha : p → RK c n a ρ x (NR c n rest N B C) B C) (hb : ¬p → RK c n b ρ y (NR c n rest N B C) B C) : RK c n (.ite t a b :: rest) ρ (cnd p x y) N B C := fun d K hK hN hB hC q => by
  unfold cnd at q
  rw [wpSs, wpS]
  refine h _ _ ?_
  by_cases z : p
  · rw [decide_eq_true z, if_pos rfl]
    rw [if_pos z] at q
    exact ha z ⟨fun ρ' => wpSs c.NM c.AT c.Φ c.Γ rest ρ' d, d.rt, d.bk, d.ct, d.er⟩ K hK (fun ρ' r' w1 w2 => w1 d K hK hN hB hC w2) hB hC q
  · rw [decide_eq_false z, if_neg (fun h => nomatch h)]
    rw [if_neg z] at q
    exact hb z ⟨fun ρ' => wpSs c.NM c.AT c.Φ c.Γ rest ρ' d, d.rt, d.bk, d.ct, d.er⟩ K hK (fun ρ' r' w1 w2 => w1 d K hK hN hB hC w2) hB hC q
theorem rk_ite {t : T} {rt : Rs Bool} {a b : List S} {x y : Rs β} (h : RT c t ρ rt) (ha : RK c n a ρ x (NR c n rest N B C) B C) (hb : RK c n b ρ y (NR c n rest N B C) B C) : RK c n (.ite t a b :: rest) ρ (iteR rt x y) N B C := fun d K hK hN hB hC q => by
  rw [wpSs, wpS]
  unfold iteR at q
  rw [Rs.sat_bind] at q
  refine h _ _ (Rs.sat_mono q (fun b z => ?_) fun e z => z ρ)
  cases b with
  | true => exact ha ⟨fun ρ' => wpSs c.NM c.AT c.Φ c.Γ rest ρ' d, d.rt, d.bk, d.ct, d.er⟩ K hK (fun ρ' r' w1 w2 => w1 d K hK hN hB hC w2) hB hC z
  | false => exact hb ⟨fun ρ' => wpSs c.NM c.AT c.Φ c.Γ rest ρ' d, d.rt, d.bk, d.ct, d.er⟩ K hK (fun ρ' r' w1 w2 => w1 d K hK hN hB hC w2) hB hC z
/-- a name that holds None or a value -/
def mtO {α γ : Type} (o : Option α) (x : Rs γ) (y : α → Rs γ) (_ : Tag x := .mk) (_ : Tag y := .mk) : Rs γ := match o with
  | none => x
  | some a => y a
theorem set_same {i : Nat} {s : Sl} (h : ρ[i]? = some s) : ρ.set i s = ρ := by
  apply List.ext_getElem?
  intro j
  rw [List.getElem?_set]
  split
  · rename_i e
    subst e
    split
    · exact h.symm
    · rename_i z
      rw [List.getElem?_eq_none (by omega)]
  · rfl
theorem rk_mt {α : Type} {m : α → D} {i : Nat} {e : E} {o : Option α} {a b : List S} {x : Rs β} {y : α → Rs β} {ρ0 : Env} {ρ1 : α → Env} (hm : ∀ a, m a ≠ .non) (he : RP c e ρ (dO m o)) (hi : ρ[i]? = some (.val (dO m o))) (h0 : ρ.set i (.val .non) = ρ0) (h1 : ∀ a, ρ.set i (.val (m a)) = ρ1 a) (ha : RK c n a ρ0 x (NR c n rest N B C) B C) (hb : ∀ z, RK c n b (ρ1 z) (y z) (NR c n rest N B C) B C) : RK c n (.ite (.cmp .is_ e (.cst .non)) a b :: rest) ρ (mtO o x y) N B C := fun d K hK hN hB hC q => by
  rw [wpSs, wpS]
  refine ru_cmp he rp_cst (ck_is hm) _ _ ?_
  cases o with
  | none =>
    rw [decide_eq_true rfl, if_pos rfl]
    have e0 : ρ.set i (.val .non) = ρ := set_same hi
    rw [← h0, e0] at ha
    exact ha ⟨fun ρ' => wpSs c.NM c.AT c.Φ c.Γ rest ρ' d, d.rt, d.bk, d.ct, d.er⟩ K hK (fun ρ' r' w1 w2 => w1 d K hK hN hB hC w2) hB hC q
  | some z =>
    rw [decide_eq_false (fun h => nomatch h), if_neg (fun h => nomatch h)]
    have := hb z
    have e1 : ρ.set i (.val (m z)) = ρ := set_same hi
    rw [← h1, e1] at this
    exact this ⟨fun ρ' => wpSs c.NM c.AT c.Φ c.Γ rest ρ' d, d.rt, d.bk, d.ct, d.er⟩ K hK (fun ρ' r' w1 w2 => w1 d K hK hN hB hC w2) hB hC q
theorem rk_mtn {α : Type} {m : α → D} {i : Nat} {e : E} {o : Option α} {a b : List S} {x : Rs β} {y : α → Rs β} {ρ0 : Env} {ρ1 : α → Env} (hm : ∀ a, m a ≠ .non) (he : RP c e ρ (dO m o)) (hi : ρ[i]? = some (.val (dO m o))) (h0 : ρ.set i (.val .non) = ρ0) (h1 : ∀ a, ρ.set i (.val (m a)) = ρ1 a) (ha : RK c n b ρ0 x (NR c n rest N B C) B C) (hb : ∀ z, RK c n a (ρ1 z) (y z) (NR c n rest N B C) B C) : RK c n (.ite (.cmp .isnot e (.cst .non)) a b :: rest) ρ (mtO o x y) N B C := fun d K hK hN hB hC q => by
  rw [wpSs, wpS]
  refine ru_cmp he rp_cst (ck_isn hm) _ _ ?_
  cases o with
  | none =>
    rw [decide_eq_false (fun h => h rfl), if_neg (fun h => nomatch h)]
    have e0 : ρ.set i (.val .non) = ρ := set_same hi
    rw [← h0, e0] at ha
    exact ha ⟨fun ρ' => wpSs c.NM c.AT c.Φ c.Γ rest ρ' d, d.rt, d.bk, d.ct, d.er⟩ K hK (fun ρ' r' w1 w2 => w1 d K hK hN hB hC w2) hB hC q
  | some z =>
    rw [decide_eq_true (fun h => nomatch h), if_pos rfl]
    have := hb z
    have e1 : ρ.set i (.val (m z)) = ρ := set_same hi
    rw [← h1, e1] at this
    exact this ⟨fun ρ' => wpSs c.NM c.AT c.Φ c.Γ rest ρ' d, d.rt, d.bk, d.ct, d.er⟩ K hK (fun ρ' r' w1 w2 => w1 d K hK hN hB hC w2) hB hC q
theorem rk_mts {α : Type} {m : α → D} {i : Nat} {e : E} {o : Option α} {a b : List S} {x : Rs β} {y : α → Rs β} {ρ0 : Env} {ρ1 : α → Env} (hm : ∀ a, m a ≠ .non) (he : RP c e ρ (dO m o)) (hi : ρ[i]? = some (.val (dO m o))) (h0 : ρ.set i (.val .non) = ρ0) (h1 : ∀ a, ρ.set i (.val (m a)) = ρ1 a) (ha : o = none → RK c n a ρ0 x (NR c n rest N B C) B C) (hb : ∀ z, o = some z → RK c n b (ρ1 z) (y z) (NR c n rest N B C) B C) : RK c n (.ite (.cmp .is_ e (.cst .non)) a b :: rest) ρ (mtO o x y) N B C := fun d K hK hN hB hC q => by
  rw [wpSs, wpS]
  refine ru_cmp he rp_cst (ck_is hm) _ _ ?_
  cases o with
  | none =>
    have ha := ha rfl
    rw [decide_eq_true rfl, if_pos rfl]
    have e0 : ρ.set i (.val .non) = ρ := set_same hi
    rw [← h0, e0] at ha
    exact ha ⟨fun ρ' => wpSs c.NM c.AT c.Φ c.Γ rest ρ' d, d.rt, d.bk, d.ct, d.er⟩ K hK (fun ρ' r' w1 w2 => w1 d K hK hN hB hC w2) hB hC q
  | some z =>
    rw [decide_eq_false (fun h => nomatch h), if_neg (fun h => nomatch h)]
    have := hb z rfl
    have e1 : ρ.set i (.val (m z)) = ρ := set_same hi
    rw [← h1, e1] at this
    exact this ⟨fun ρ' => wpSs c.NM c.AT c.Φ c.Γ rest ρ' d, d.rt, d.bk, d.ct, d.er⟩ K hK (fun ρ' r' w1 w2 => w1 d K hK hN hB hC w2) hB hC q
theorem rk_mtns {α : Type} {m : α → D} {i : Nat} {e : E} {o : Option α} {a b : List S} {x : Rs β} {y : α → Rs β} {ρ0 : Env} {ρ1 : α → Env} (hm : ∀ a, m a ≠ .non) (he : RP c e ρ (dO m o)) (hi : ρ[i]? = some (.val (dO m o))) (h0 : ρ.set i (.val .non) = ρ0) (h1 : ∀ a, ρ.set i (.val (m a)) = ρ1 a) (ha : o = none → RK c n b ρ0 x (NR c n rest N B C) B C) (hb : ∀ z, o = some z → RK c n a (ρ1 z) (y z) (NR c n rest N B C) B C) : RK c n (.ite (.cmp .isnot e (.cst .non)) a b :: rest) ρ (mtO o x y) N B C := fun d K hK hN hB hC q => by
  rw [wpSs, wpS]
  refine ru_cmp he rp_cst (ck_isn hm) _ _ ?_
  cases o with
  | none =>
    have ha := ha rfl
    rw [decide_eq_false (fun h => h rfl), if_neg (fun h => nomatch h)]
    have e0 : ρ.set i (.val .non) = ρ := set_same hi
    rw [← h0, e0] at ha
    exact ha ⟨fun ρ' => wpSs c.NM c.AT c.Φ c.Γ rest ρ' d, d.rt, d.bk, d.ct, d.er⟩ K hK (fun ρ' r' w1 w2 => w1 d K hK hN hB hC w2) hB hC q
  | some z =>
    rw [decide_eq_true (fun h => nomatch h), if_pos rfl]
    have := hb z rfl
    have e1 : ρ.set i (.val (m z)) = ρ := set_same hi
    rw [← h1, e1] at this
    exact this ⟨fun ρ' => wpSs c.NM c.AT c.Φ c.Γ rest ρ' d, d.rt, d.bk, d.ct, d.er⟩ K hK (fun ρ' r' w1 w2 => w1 d K hK hN hB hC w2) hB hC q
/-! loops -/
def forC0 {α σ : Type} (F : α → σ → (σ → Rs β) → (σ → Rs β) → Rs β) (k : σ → Rs β) : List α → σ → Rs β
  | [], s => k s
  | a :: l, s => F a s (fun s' => forC0 F k l s') k
def forC {α σ : Type} (F : α → σ → (σ → Rs β) → (σ → Rs β) → Rs β) (k : σ → Rs β) (l : List α) (s : σ) (_ : Tag F := .mk) (_ : Tag k := .mk) : Rs β := forC0 F k l s
theorem rk_for {α σ J : Type} {m : α → D} {t : Tg} {it : It} {b : List S} {l : List α} (E : σ → J → Env) (F : α → σ → (σ → Rs β) → (σ → Rs β) → Rs β) {k : σ → Rs β} {s0 : σ} {j0 : J} (hi : RI c it ρ (l.map m)) (h0 : ρ = E s0 j0)
    (hb : ∀ a s j (nx bk : σ → Rs β), ∃ ρ', bindR t (m a) (E s j) = some ρ' ∧ RK c n b ρ' (F a s nx bk) (NX E nx) (NX E bk) (NX E nx))
    (hr : ∀ s j, RK c n rest (E s j) (k s) N B C) : RK c n (.for_ t it b :: rest) ρ (forC F k l s0) N B C := fun d K hK hN hB hC q => by
  rw [wpSs, wpS]
  refine hi _ _ ?_
  subst h0
  clear hi
  have main : ∀ (l : List α) (s : σ) (j : J), (forC0 F k l s).sat K (fun e => ∀ q, d.er e q) → forW (fun v ρ' d' => bindW t v ρ' fun ρ'' => wpSs c.NM c.AT c.Φ c.Γ b ρ'' d') (l.map m) (E s j) ⟨fun ρ' => wpSs c.NM c.AT c.Φ c.Γ rest ρ' d, d.rt, d.bk, d.ct, d.er⟩ := by
    intro l
    induction l with
    | nil => exact fun s j q => hr s j d K hK hN hB hC q
    | cons a l ih =>
      intro s j q
      obtain ⟨ρ', h1, h2⟩ := hb a s j (fun s' => forC0 F k l s') k
      refine bindR_k _ _ _ _ _ h1 ?_
      refine h2 ⟨fun ρ' => forW (fun v ρ' d' => bindW t v ρ' fun ρ'' => wpSs c.NM c.AT c.Φ c.Γ b ρ'' d') (l.map m) ρ' ⟨fun ρ' => wpSs c.NM c.AT c.Φ c.Γ rest ρ' d, d.rt, d.bk, d.ct, d.er⟩, d.rt, fun ρ' => wpSs c.NM c.AT c.Φ c.Γ rest ρ' d, fun ρ' => forW (fun v ρ' d' => bindW t v ρ' fun ρ'' => wpSs c.NM c.AT c.Φ c.Γ b ρ'' d') (l.map m) ρ' ⟨fun ρ' => wpSs c.NM c.AT c.Φ c.Γ rest ρ' d, d.rt, d.bk, d.ct, d.er⟩, d.er⟩ K hK ?_ ?_ ?_ q
      · rintro ρ' r' ⟨s', j', rfl, rfl⟩ q'
        exact ih s' j' q'
      · rintro ρ' r' ⟨s', j', rfl, rfl⟩ q'
        exact hr s' j' d K hK hN hB hC q'
      · rintro ρ' r' ⟨s', j', rfl, rfl⟩ q'
        exact ih s' j' q'
  exact main l s0 j0 q
theorem rk_fore {α σ J : Type} {m : α → D} {t : Tg} {it : It} {b : List S} {ri : Rs (List α)} (E : σ → J → Env) (F : α → σ → (σ → Rs β) → (σ → Rs β) → Rs β) {k : σ → Rs β} {s0 : σ} {j0 : J} (hi : RIE c it ρ ri m) (h0 : ρ = E s0 j0)
    (hb : ∀ a s j (nx bk : σ → Rs β), ∃ ρ', bindR t (m a) (E s j) = some ρ' ∧ RK c n b ρ' (F a s nx bk) (NX E nx) (NX E bk) (NX E nx))
    (hr : ∀ s j, RK c n rest (E s j) (k s) N B C) : RK c n (.for_ t it b :: rest) ρ (ri.bind fun l => forC F k l s0) N B C := fun d K hK hN hB hC q => by
  rw [Rs.sat_bind] at q
  rw [wpSs, wpS]
  refine hi _ _ (Rs.sat_mono q (fun l z => ?_) fun e z => z ρ)
  have := rk_for (c := c) (n := n) (ρ := ρ) (it := .ex (.cst (.lst (l.map m)))) (N := N) (B := B) (C := C) (rest := rest) (t := t) (b := b) E F (k := k) (s0 := s0) (j0 := j0) (l := l) (m := m) (ri_lst rp_cst) h0 hb hr d K hK hN hB hC z
  rw [wpSs, wpS, wi_ex, wpE] at this
  exact this
/-- at most so many turns -/
def whlN0 {σ : Type} (cnd : σ → Rs Bool) (F : σ → (σ → Rs β) → (σ → Rs β) → Rs β) (k : σ → Rs β) : Nat → σ → Rs β
  | 0, _ => .no
  | m + 1, s => (cnd s).bind fun b => if b = true then F s (fun s' => whlN0 cnd F k m s') k else k s
def whlN {σ : Type} (cnd : σ → Rs Bool) (F : σ → (σ → Rs β) → (σ → Rs β) → Rs β) (k : σ → Rs β) (m : Nat) (s : σ) (_ : Tag cnd := .mk) (_ : Tag F := .mk) (_ : Tag k := .mk) : Rs β := whlN0 cnd F k m s
theorem rk_whl {σ J : Type} {t : T} {b : List S} {m : Nat} (E : σ → J → Env) (cnd : σ → Rs Bool) (F : σ → (σ → Rs β) → (σ → Rs β) → Rs β) {k : σ → Rs β} {s0 : σ} {j0 : J} (h0 : ρ = E s0 j0) (ht : ∀ s j, RT c t (E s j) (cnd s))
    (hb : ∀ s j (nx bk : σ → Rs β), RK c n b (E s j) (F s nx bk) (NX E nx) (NX E bk) (NX E nx))
    (hr : ∀ s j, RK c n rest (E s j) (k s) N B C) : RK c n (.whl t b :: rest) ρ (whlN cnd F k m s0) N B C := fun d K hK hN hB hC q => by
  rw [wpSs, wpS]
  refine ⟨m, ?_⟩
  subst h0
  have main : ∀ (m : Nat) (s : σ) (j : J), (whlN0 cnd F k m s).sat K (fun e => ∀ q, d.er e q) → whlW (fun ρ' d' => wpT c.NM c.AT c.Φ c.Γ t ρ' (fun r => if r = true then wpSs c.NM c.AT c.Φ c.Γ b ρ' d' else d'.bk ρ') (fun x => d'.er x ρ')) m (E s j) ⟨fun ρ' => wpSs c.NM c.AT c.Φ c.Γ rest ρ' d, d.rt, d.bk, d.ct, d.er⟩ := by
    intro m
    induction m with
    | zero => exact fun s j q => q.elim
    | succ m ih =>
      intro s j q
      unfold whlN0 at q
      rw [Rs.sat_bind] at q
      refine ht s j _ _ (Rs.sat_mono q (fun b' z => ?_) fun e z => z _)
      cases b' with
      | false => exact hr s j d K hK hN hB hC z
      | true =>
        rw [if_pos rfl] at *
        refine hb s j _ _ _ K hK ?_ ?_ ?_ z
        · rintro ρ' r' ⟨s', j', rfl, rfl⟩ q'
          exact ih s' j' q'
        · rintro ρ' r' ⟨s', j', rfl, rfl⟩ q'
          exact hr s' j' d K hK hN hB hC q'
        · rintro ρ' r' ⟨s', j', rfl, rfl⟩ q'
          exact ih s' j' q'
  exact main m s0 j0 q
/-- a joint: what follows, told once -/
theorem rk_jn {σ J : Type} {s : S} (E : σ → J → Env) (f : σ → Rs β) (hJ : ∀ s j, RK c n rest (E s j) (f s) N B C) (h : (∀ s j, RK c n rest (E s j) (f s) N B C) → RK c n (s :: rest) ρ r N B C) : RK c n (s :: rest) ρ r N B C := h hJ
theorem re_co {α γ : Type} {e : E} {m : α → D} {m' : γ → D} {g : α → γ} {r : Rs α} (h : RE c e ρ r m) (hg : ∀ a, m' (g a) = m a) : RE c e ρ (r.bind fun a => .ok (g a)) m' := fun k x q => by
  rw [Rs.sat_bind] at q
  exact h _ _ (Rs.sat_mono q (fun a z => by
    rw [Rs.sat_ok, hg] at z; exact z) fun _ z => z)
theorem re_tcomps {α : Type} {e : E} {t : Tg} {it : It} {ds : List D} {m : α → D} {r : Rs α} (h : RI c it ρ ds) (g : RM c e t ρ ds r fun ys r' => ∃ a, r' = .ok a ∧ m a = .tup ys) : RE c (.blt .tuple [.comp e t it []]) ρ r m := fun k x q => by
  rw [wpE, wpEs_one, wpE]
  exact h _ _ (g _ _ _ (fun ys r' ⟨a, z, w⟩ u => by
    subst z
    show k (.tup ys)
    rw [← w]; exact u) q)
theorem rp_powc {a b : E} {x y v : Int} (h : RP c a ρ (.int x)) (g : RP c b ρ (.int y)) (w : CPowQ x y) (e : x ^ y.toNat = v) : RP c (.bin .pow a b) ρ (.int v) := fun k z q => by
  rw [wpE]
  refine h _ _ (g _ _ ⟨w, ?_⟩)
  rw [e]; exact q
theorem rp_isio {α : Type} {m : α → D} {e1 e2 : E} {o : Option α} {s : String} (h : RP c e1 ρ (dO m o)) (g : RP c e2 ρ (.ty s)) (w : ∀ a, kitD (m a) s = some true) (w0 : kitB "NoneType" s = some false) : RP c (.blt .isi [e1, e2]) ρ (.bl o.isSome) := rp_blt (rps_cons h (rps_cons g rps_nil)) fun k q => by
  cases o with
  | none =>
    show (match kitB "NoneType" s with
      | some b => k (.bl b)
      | none => False)
    rw [w0]; exact q
  | some a =>
    show (match kitD (m a) s with
      | some b => k (.bl b)
      | none => False)
    rw [w]; exact q
/-! a def's run -/
def NN (n : β → D) : Env → Rs β → Prop := fun _ r => ∃ v, r = .ok v ∧ n v = .non
def NI (a : Nat) (n : β → D) : Env → Rs β → Prop := fun ρ r => ∃ v ks xs rest, r = .ok v ∧ ρ = .obj a ks xs :: rest ∧ n v = .ins a ks xs
theorem fin_f {ss : List S} (h : RK c n ss ρ r (NN n) F0 F0) {kd : D → Prop} {kx : Exc → Prop} (q : r.sat (fun v => kd (n v)) kx) : wpSs c.NM c.AT c.Φ c.Γ ss ρ { nx := fun _ => kd .non, rt := kd, bk := fun _ => False, ct := fun _ => False, er := fun x _ => kx x } :=
  h _ (fun v => kd (n v)) (fun _ _ z => z) (fun ρ' r' ⟨v, e, w⟩ z => by
    subst e
    show kd .non
    rw [← w]; exact z) (fun _ _ z => z.elim) (fun _ _ z => z.elim) (Rs.sat_mono q (fun _ z => z) fun _ z _ => z)
theorem fin_i {a : Nat} {ss : List S} (hR : c.RR = False) (h : RK c n ss ρ r (NI a n) F0 F0) {kd : List Nat → List D → Prop} {kx : Exc → Prop} (q : r.sat (fun v => ∃ ks xs, n v = .ins a ks xs ∧ kd ks xs) kx) : wpSs c.NM c.AT c.Φ c.Γ ss ρ { nx := initNx a kd, rt := fun _ => False, bk := fun _ => False, ct := fun _ => False, er := fun x _ => kx x } :=
  h _ (fun v => ∃ ks xs, n v = .ins a ks xs ∧ kd ks xs) (fun z => by rw [hR] at z; exact z.elim) (fun ρ' r' ⟨v, ks, xs, rest, e, w, u⟩ z => by
    subst e w
    obtain ⟨ks', xs', u', z⟩ := z
    rw [u] at u'
    injection u' with _ u1 u2
    subst u1 u2
    exact ⟨rfl, z⟩) (fun _ _ z => z.elim) (fun _ _ z => z.elim) (Rs.sat_mono q (fun _ z => z) fun _ z _ => z)
end
end
end M
end Q

/-! QX: more rules of typed models; tools for the laws. -/
namespace Q
open PySem PySem.Spec L2
theorem dfl_tup {NM : Nam} {K : PySem.W.Frag} {a : Addr} (h : isD K (.tup []) (.ref a) = true) (G : Hp) : Rep NM K G (.ref a) (.tup []) := by
  obtain ⟨v, r, q⟩ := isD_ok (NM := NM) h
  cases v with
  | ref b =>
    have r' : Value.ref a = Value.ref b := r
    injection r' with r'
    subst r'
    exact q G
  | _ => first
    | (obtain ⟨_, r⟩ := r; cases r; done)
    | (cases r; done)
end Q
namespace Q
namespace M
open PySem PySem.Spec L2
noncomputable section
/-- a string's sign -/
def ixsR (s : Str) (i : Int) : Rs Str := if s.length ≤ sizeLine then (match ixS s i with
  | some c => .ok ⟨#[c]⟩
  | none => .no) else .no
theorem qi_str {s : Str} {i : Int} : QIx .str [.str s, .int i] (ixsR s i) := fun k x q => by
  unfold ixsR at q
  by_cases z : s.length ≤ sizeLine
  · rw [if_pos z] at q
    refine ⟨z, ?_⟩
    cases h : ixS s i with
    | some c => rw [h] at q; exact q
    | none => rw [h] at q; exact q
  · rw [if_neg z] at q; exact q.elim
/-- a string's signs -/
def chsR (s : Str) : Rs (List Str) := if s.length ≤ sizeLine then .ok (s.cps.toList.map fun c => ⟨#[c]⟩) else .no
section
variable {c : Cx} {ρ : Env}
theorem rie_str {e : E} {s : Str} (h : RP c e ρ (.str s)) : RIE c (.ex e) ρ (chsR s) .str := fun k x q => by
  rw [wi_ex]
  refine h _ _ ?_
  obtain ⟨h1, h2⟩ := sat_if (k := fun (l : List Str) => k (l.map .str)) q
  rw [it_str]
  refine ⟨h1, ?_⟩
  unfold strD
  rw [List.map_map] at h2
  exact h2
end
def inS (a b : Str) : Bool := !(Builtin.Str.occurrences b a 0 b.length 1).isEmpty
theorem ck_ins {a b : Str} : ∀ k : Bool → Prop, k (decide (inS a b = true)) → copW .in_ (.str a) (.str b) k := fun k h => by
  rw [co_ins]
  rw [show decide (inS a b = true) = inS a b by cases inS a b <;> rfl] at h
  exact h
theorem ck_nins {a b : Str} : ∀ k : Bool → Prop, k (decide ¬(inS a b = true)) → copW .notin (.str a) (.str b) k := fun k h => by
  rw [co_nins]
  rw [decide_not, show decide (inS a b = true) = inS a b by cases inS a b <;> rfl] at h
  exact h
section
variable {c : Cx} {ρ : Env}
theorem re_compsE {α β : Type} {e e' : E} {t : Tg} {n : α → D} {m : β → D} {ds : α → List D} {re : Rs α} {f : α → Rs β} (h : RE c e ρ re n) (hd : ∀ a, n a = .tup (ds a) ∨ n a = .lst (ds a)) (g : ∀ a, RM c e' t ρ (ds a) (f a) (QS m)) : RE c (.comp e' t (.ex e) []) ρ (re.bind f) m := fun k x q => by
  rw [wpE, wi_ex]
  rw [Rs.sat_bind] at q
  refine h _ _ (Rs.sat_mono q (fun a z => ?_) fun _ z => z)
  have := g a (fun ys => k (.lst ys)) (fun b => k (m b)) x (fun ys r' ⟨b, z, w⟩ u => by subst z; rw [← w]; exact u) z
  rcases hd a with w | w <;> rw [w] <;> exact this
theorem re_tcompsE {α β : Type} {e e' : E} {t : Tg} {n : α → D} {m : β → D} {ds : α → List D} {re : Rs α} {f : α → Rs β} (h : RE c e ρ re n) (hd : ∀ a, n a = .tup (ds a) ∨ n a = .lst (ds a)) (g : ∀ a, RM c e' t ρ (ds a) (f a) (fun ys r' => ∃ b, r' = .ok b ∧ m b = .tup ys)) : RE c (.blt .tuple [.comp e' t (.ex e) []]) ρ (re.bind f) m := fun k x q => by
  rw [wpE, wpEs_one, wpE, wi_ex]
  rw [Rs.sat_bind] at q
  refine h _ _ (Rs.sat_mono q (fun a z => ?_) fun _ z => z)
  have := g a (fun ys => bltW .tuple [.lst ys] k) (fun b => k (m b)) x (fun ys r' ⟨b, z, w⟩ u => by
    subst z
    show k (.tup ys)
    rw [← w]; exact u) z
  rcases hd a with w | w <;> rw [w] <;> exact this
theorem rp_lsto {α : Type} {n : α → D} {e : E} {l : List α} (h : RP c e ρ (dL n l)) : RP c e ρ (dL (dO n) (l.map some)) := by
  have : dL (dO n) (l.map some) = dL n l := by
    unfold dL
    rw [List.map_map]; rfl
  rw [this]; exact h
variable {β : Type} {n : β → D} {rest : List S} {N B C : Env → Rs β → Prop}
theorem rk_setIx {α : Type} {m : α → D} {i : Nat} {ix e : E} {rj : Rs Int} {re : Rs α} {l : List α} {f : List α → Rs β} {g : List α → Env} (hi : ρ[i]? = some (.own (l.map m))) (h1 : RE c ix ρ rj .int) (h2 : RE c e ρ re m) (hg : ∀ l', ρ.set i (.own (l'.map m)) = g l') (k : ∀ l', RK c n rest (g l') (f l') N B C) : RK c n (.setIx i ix e :: rest) ρ (re.bind fun a => rj.bind fun j => (setR l j a).bind f) N B C := fun d K hK hN hB hC q => by
  rw [Rs.sat_bind] at q
  rw [wpSs, wpS, hi]
  refine h2 _ _ (Rs.sat_mono q (fun a q => ?_) fun e z => z ρ)
  rw [Rs.sat_bind] at q
  refine h1 _ _ (Rs.sat_mono q (fun j q => ?_) fun e z => z ρ)
  rw [Rs.sat_bind] at q
  unfold setR at q
  dsimp only
  rw [List.length_map]
  cases z : ixN l.length j with
  | none => rw [z] at q; exact q
  | some u =>
    rw [z] at q
    dsimp only
    have := k _ d K hK hN hB hC q
    rw [← hg] at this
    show wpSs _ _ _ _ rest (ρ.set i (.own ((l.map m).set u (m a)))) d
    rw [← List.map_set]
    exact this
end
/-! equal data with texts in it -/
open Classical in
def eqR {α : Type} (n : α → D) (a b : α) : Rs Bool := if Q.nice 32 (n a) = true ∧ Q.nice 32 (n b) = true then .ok (decide (n a = n b)) else .no
theorem qc_eqR {α : Type} {n : α → D} {a b : α} : QC .eq [n a, n b] (eqR n a b) := fun k x q => by
  obtain ⟨⟨h1, h2⟩, h3⟩ := sat_if q
  refine eqW_nice 32 h1 h2 (by decide) (fun e => ?_) fun e => ?_
  · simp only [e, decide_true] at h3; exact h3
  · simp only [e, decide_false] at h3; exact h3
theorem qc_neR {d e : D} {r : Rs Bool} (h : QC .eq [d, e] r) : QC .ne [d, e] (r.bind fun x => .ok (!x)) := fun k x q => by
  rw [Rs.sat_bind] at q
  exact h (fun b => k !b) x q
open Classical in
def inLR (a : Str) (l : List Str) : Rs Bool := if PyData.strOk a = true ∧ ∀ b ∈ l, PyData.strOk b = true then .ok (decide (a ∈ l)) else .no
theorem nices_str : ∀ {l : List Str}, (∀ b ∈ l, PyData.strOk b = true) → Q.nices 31 (l.map D.str) = true
  | [], _ => rfl
  | a :: l, h => by
    show Q.nices 31 (D.str a :: l.map D.str) = true
    rw [Q.nices, Bool.and_eq_true]
    exact ⟨h a (.head _), nices_str fun b hb => h b (.tail _ hb)⟩
theorem any_str {a : Str} (ha : PyData.strOk a = true) : ∀ {l : List Str}, (∀ b ∈ l, PyData.strOk b = true) → ((D.py.pys (l.map D.str)).any fun z => PyData.eqv z (D.str a).py) = decide (a ∈ l)
  | [], _ => by rw [decide_eq_false (fun h => nomatch h)]; rfl
  | b :: l, h => by
    have hb := h b (.head _)
    show (PyData.eqv (D.str b).py (D.str a).py || ((D.py.pys (l.map D.str)).any fun z => PyData.eqv z (D.str a).py)) = _
    rw [any_str ha fun b hb => h b (.tail _ hb)]
    by_cases e : a = b
    · subst e
      rw [eqv_same (n := 1) (d := .str a) hb, Bool.true_or, decide_eq_true (List.mem_cons_self ..)]
    · have : PyData.eqv (D.str b).py (D.str a).py = false := by
        cases y : PyData.eqv (D.str b).py (D.str a).py with
        | false => rfl
        | true =>
          have := eqv_dist (n := 1) (m := 1) (d := .str b) (e := .str a) hb ha y
          injection this with this
          exact absurd this.symm e
      rw [this, Bool.false_or]
      by_cases m : a ∈ l
      · rw [decide_eq_true m, decide_eq_true (List.mem_cons_of_mem _ m)]
      · rw [decide_eq_false m, decide_eq_false (fun z => (List.mem_cons.mp z).elim e m)]
theorem qc_inLR {a : Str} {l : List Str} : QC .in_ [.str a, dL D.str l] (inLR a l) := fun k x q => by
  obtain ⟨⟨h1, h2⟩, h3⟩ := sat_if q
  show copW .in_ (.str a) (.lst (l.map D.str)) k
  rw [co_inl, any_str h1 h2]
  exact ⟨nice_shaped (n := 1) (by decide) (d := .str a) h1, nice_shaped (n := 32) (by decide) (d := .lst (l.map D.str)) (nices_str h2), h3⟩
theorem qc_ninLR {a : Str} {l : List Str} : QC .notin [.str a, dL D.str l] ((inLR a l).bind fun x => .ok (!x)) := fun k x q => by
  rw [Rs.sat_bind] at q
  obtain ⟨⟨h1, h2⟩, h3⟩ := sat_if (k := fun x => k !x) q
  show copW .notin (.str a) (.lst (l.map D.str)) k
  rw [co_ninl, any_str h1 h2]
  exact ⟨nice_shaped (n := 1) (by decide) (d := .str a) h1, nice_shaped (n := 32) (by decide) (d := .lst (l.map D.str)) (nices_str h2), h3⟩
/-! and, or at an if: one test after another -/
section
variable {c : Cx} {ρ : Env} {β : Type} {n : β → D} {rest : List S} {r : Rs β} {N B C : Env → Rs β → Prop} {t u : T} {ts : List T} {a b : List S}
theorem rk_or1 (h : RK c n (.ite t a b :: rest) ρ r N B C) : RK c n (.ite (.or [t]) a b :: rest) ρ r N B C := fun d K hK hN hB hC q => by
  have := h d K hK hN hB hC q
  rw [wpSs, wpS] at this ⊢
  rw [wpT, wto_one]; exact this
theorem rk_and1 (h : RK c n (.ite t a b :: rest) ρ r N B C) : RK c n (.ite (.and [t]) a b :: rest) ρ r N B C := fun d K hK hN hB hC q => by
  have := h d K hK hN hB hC q
  rw [wpSs, wpS] at this ⊢
  rw [wpT, wta_one]; exact this
theorem rk_or2 (h : RK c n (.ite t a [.ite (.or (u :: ts)) a b] :: rest) ρ r N B C) : RK c n (.ite (.or (t :: u :: ts)) a b :: rest) ρ r N B C := fun d K hK hN hB hC q => by
  have := h d K hK hN hB hC q
  rw [wpSs, wpS] at this ⊢
  rw [wpT, wto_cons]
  have e : ∀ d' : Dn, d'.er = d.er → wpSs c.NM c.AT c.Φ c.Γ [.ite (.or (u :: ts)) a b] ρ d' = wpTor c.NM c.AT c.Φ c.Γ (u :: ts) ρ (fun r => if r = true then wpSs c.NM c.AT c.Φ c.Γ a ρ d' else wpSs c.NM c.AT c.Φ c.Γ b ρ d') (fun x => d.er x ρ) := by
    intro d' hd
    rw [wpSs, wpS, wpT]
    show wpTor c.NM c.AT c.Φ c.Γ (u :: ts) ρ (fun r => if r = true then wpSs c.NM c.AT c.Φ c.Γ a ρ ⟨fun ρ' => wpSs c.NM c.AT c.Φ c.Γ [] ρ' d', d'.rt, d'.bk, d'.ct, d'.er⟩ else wpSs c.NM c.AT c.Φ c.Γ b ρ ⟨fun ρ' => wpSs c.NM c.AT c.Φ c.Γ [] ρ' d', d'.rt, d'.bk, d'.ct, d'.er⟩) (fun x => d'.er x ρ) = _
    rw [hd]
    have : (fun ρ' => wpSs c.NM c.AT c.Φ c.Γ [] ρ' d') = d'.nx := by funext ρ'; rw [wpSs]
    rw [this, ← hd]
  rw [e ⟨fun ρ' => wpSs c.NM c.AT c.Φ c.Γ rest ρ' d, d.rt, d.bk, d.ct, d.er⟩ rfl] at this
  exact this
theorem rk_and2 (h : RK c n (.ite t [.ite (.and (u :: ts)) a b] b :: rest) ρ r N B C) : RK c n (.ite (.and (t :: u :: ts)) a b :: rest) ρ r N B C := fun d K hK hN hB hC q => by
  have := h d K hK hN hB hC q
  rw [wpSs, wpS] at this ⊢
  rw [wpT, wta_cons]
  have e : ∀ d' : Dn, d'.er = d.er → wpSs c.NM c.AT c.Φ c.Γ [.ite (.and (u :: ts)) a b] ρ d' = wpTand c.NM c.AT c.Φ c.Γ (u :: ts) ρ (fun r => if r = true then wpSs c.NM c.AT c.Φ c.Γ a ρ d' else wpSs c.NM c.AT c.Φ c.Γ b ρ d') (fun x => d.er x ρ) := by
    intro d' hd
    rw [wpSs, wpS, wpT]
    show wpTand c.NM c.AT c.Φ c.Γ (u :: ts) ρ (fun r => if r = true then wpSs c.NM c.AT c.Φ c.Γ a ρ ⟨fun ρ' => wpSs c.NM c.AT c.Φ c.Γ [] ρ' d', d'.rt, d'.bk, d'.ct, d'.er⟩ else wpSs c.NM c.AT c.Φ c.Γ b ρ ⟨fun ρ' => wpSs c.NM c.AT c.Φ c.Γ [] ρ' d', d'.rt, d'.bk, d'.ct, d'.er⟩) (fun x => d'.er x ρ) = _
    rw [hd]
    have : (fun ρ' => wpSs c.NM c.AT c.Φ c.Γ [] ρ' d') = d'.nx := by funext ρ'; rw [wpSs]
    rw [this, ← hd]
  rw [e ⟨fun ρ' => wpSs c.NM c.AT c.Φ c.Γ rest ρ' d, d.rt, d.bk, d.ct, d.er⟩ rfl] at this
  exact this
end
/-! tuples of so many -/
def unL2 {α : Type} : List α → Rs (α × α)
  | [a, b] => .ok (a, b)
  | _ => .no
def unL3 {α : Type} : List α → Rs (α × α × α)
  | [a, b, c] => .ok (a, b, c)
  | _ => .no
def unL4 {α : Type} : List α → Rs (α × α × α × α)
  | [a, b, c, d] => .ok (a, b, c, d)
  | _ => .no
section
variable {c : Cx} {ρ : Env}
theorem re_unv2 {α : Type} {n : α → D} {e : E} {r : Rs (List α)} (h : RE c e ρ r (dV n)) : RE c e ρ (r.bind unL2) (d2 n n) := fun k x q => by
  rw [Rs.sat_bind] at q
  refine h _ _ (Rs.sat_mono q (fun l z => ?_) fun _ z => z)
  match l, z with
  | [a, b], z => exact z
theorem re_unv3 {α : Type} {n : α → D} {e : E} {r : Rs (List α)} (h : RE c e ρ r (dV n)) : RE c e ρ (r.bind unL3) (d3 n n n) := fun k x q => by
  rw [Rs.sat_bind] at q
  refine h _ _ (Rs.sat_mono q (fun l z => ?_) fun _ z => z)
  match l, z with
  | [a, b, c], z => exact z
theorem re_unv4 {α : Type} {n : α → D} {e : E} {r : Rs (List α)} (h : RE c e ρ r (dV n)) : RE c e ρ (r.bind unL4) (d4 n n n n) := fun k x q => by
  rw [Rs.sat_bind] at q
  refine h _ _ (Rs.sat_mono q (fun l z => ?_) fun _ z => z)
  match l, z with
  | [a, b, c, d], z => exact z
end
def dl2 {α : Type} (n : α → D) : α × α → D := fun p => .lst [n p.1, n p.2]
def dl3 {α : Type} (n : α → D) : α × α × α → D := fun p => .lst [n p.1, n p.2.1, n p.2.2]
def dl4 {α : Type} (n : α → D) : α × α × α × α → D := fun p => .lst [n p.1, n p.2.1, n p.2.2.1, n p.2.2.2]
section
variable {c : Cx} {ρ : Env}
theorem re_unl2 {α : Type} {n : α → D} {e : E} {r : Rs (List α)} (h : RE c e ρ r (dL n)) : RE c e ρ (r.bind unL2) (dl2 n) := fun k x q => by
  rw [Rs.sat_bind] at q
  refine h _ _ (Rs.sat_mono q (fun l z => ?_) fun _ z => z)
  match l, z with
  | [a, b], z => exact z
theorem re_unl3 {α : Type} {n : α → D} {e : E} {r : Rs (List α)} (h : RE c e ρ r (dL n)) : RE c e ρ (r.bind unL3) (dl3 n) := fun k x q => by
  rw [Rs.sat_bind] at q
  refine h _ _ (Rs.sat_mono q (fun l z => ?_) fun _ z => z)
  match l, z with
  | [a, b, c], z => exact z
theorem re_unl4 {α : Type} {n : α → D} {e : E} {r : Rs (List α)} (h : RE c e ρ r (dL n)) : RE c e ρ (r.bind unL4) (dl4 n) := fun k x q => by
  rw [Rs.sat_bind] at q
  refine h _ _ (Rs.sat_mono q (fun l z => ?_) fun _ z => z)
  match l, z with
  | [a, b, c, d], z => exact z
def ROE (c : Cx) (e : Option E) (ρ : Env) (r : Rs (Option Int)) : Prop := ∀ (k : Option Int → Prop) (x : Exc → Prop), r.sat k x → wpO c.NM c.AT c.Φ c.Γ e ρ k x
theorem roe_p {e : Option E} {i : Option Int} (h : RO c e ρ i) : ROE c e ρ (.ok i) := fun k x q => h k x q
theorem roe_some {e : E} {r : Rs Int} (h : RE c e ρ r .int) : ROE c (some e) ρ (r.bind fun i => .ok (some i)) := fun k x q => by
  rw [wpO]
  rw [Rs.sat_bind] at q
  exact h _ _ q
theorem re_slc {α : Type} {n : α → D} {a : E} {lo hi : Option E} {r : Rs (List α)} {r1 r2 : Rs (Option Int)} (h : RE c a ρ r (dL n)) (h1 : ROE c lo ρ r1) (h2 : ROE c hi ρ r2) : RE c (.slc a lo hi) ρ (r.bind fun l => r1.bind fun i => r2.bind fun j => .ok (cutL l i j)) (dL n) := fun k x q => by
  rw [wpE]
  rw [Rs.sat_bind] at q
  refine h _ _ (Rs.sat_mono q (fun l q => ?_) fun _ z => z)
  rw [Rs.sat_bind] at q
  refine h1 _ _ (Rs.sat_mono q (fun i q => ?_) fun _ z => z)
  rw [Rs.sat_bind] at q
  refine h2 _ _ (Rs.sat_mono q (fun j q => ?_) fun _ z => z)
  show k (.lst (cutD (l.map n) i j))
  rw [cutD_map]; exact q
theorem re_methe {α β : Type} {j : Nat} {o : E} {es : List E} {cal : Cal} {ro : Rs β} {f : β → Rs α} {n : α → D} {m : β → D} (hj : c.Φ[j]? = some cal) (ho : RE c o ρ ro m) (h : ∀ b, mthW c.NM cal (m b) ∧ RX c es ρ (f b) fun ds r' => QF cal n (m b :: ds) r') : RE c (.meth j o es) ρ (ro.bind f) n := fun k x q => by
  rw [wpE, hj]
  rw [Rs.sat_bind] at q
  exact ho _ _ (Rs.sat_mono q (fun b z => ⟨(h b).1, (h b).2 _ _ _ (fun ds r' z w => z k x w) z⟩) fun _ z => z)
theorem qb_catv {α : Type} {n : α → D} {x y : List α} : QB .add (dV n) [.tup (x.map n), .tup (y.map n)] (catR x y) := fun k e q => by
  have := sat_if q
  refine ⟨by rw [List.length_map, List.length_map]; exact this.1, ?_⟩
  rw [← List.map_append]; exact this.2
theorem ck_not {p : Prop} [Decidable p] {k : Bool → Prop} (h : k (decide ¬p)) : k (!(decide p)) := by rw [decide_not] at h; exact h
theorem rp_catt {a b : E} {xs ys : List D} {v : D} (h : RP c a ρ (.tup xs)) (g : RP c b ρ (.tup ys)) (l : xs.length + ys.length ≤ 16) (e : D.tup (xs ++ ys) = v) : RP c (.bin .add a b) ρ v := fun k z q => by
  rw [wpE]
  refine h _ _ (g _ _ ⟨by rw [sizeLine_eq]; omega, ?_⟩)
  rw [e]; exact q
theorem qb_catt {α : Type} {n : α → D} {xs ys : List D} {v : α} (l : xs.length + ys.length ≤ 16) (e : D.tup (xs ++ ys) = n v) : QB .add n [.tup xs, .tup ys] (.ok v) := fun k x q => by
  refine ⟨by rw [sizeLine_eq]; omega, ?_⟩
  rw [e]; exact q
end
end
end M
end Q

/-! QY: tools for the laws over typed models. -/
namespace Q
namespace M
open PySem PySem.Spec L2
noncomputable section
section
variable {a b : Int} {n m : Nat}
theorem mulR_ok [h : Bd a n] [g : Bd b m] (l : n + m < 130000000) : mulR a b = .ok (a * b) := if_pos (cmq l)
theorem mulR_of (h : CMulQ a b) : mulR a b = .ok (a * b) := if_pos h
theorem divR_ok [g : Bd b n] (h : 0 < b) (l : n < 8990) : divR a b = .ok (a / b) := if_pos (cdq h l)
theorem divR_of (h : CDivW a b) : divR a b = .ok (a / b) := if_pos h
theorem modR_ok (h : 0 < b) : modR a b = .ok (a % b) := if_pos h
theorem powR_ok [g : Bd a n] (h : 0 ≤ b) (l : (n : Int) * b ≤ 2 ^ 27) : powR a b = .ok (a ^ b.toNat) := if_pos (cpq h l)
theorem powR_of (h : CPowQ a b) : powR a b = .ok (a ^ b.toNat) := if_pos h
theorem isqrtR_ok [g : Bd a n] (h : 0 ≤ a) (l : n < 13460) : isqrtR a = .ok (isq a) := if_pos ⟨h, sqrt_log l⟩
theorem rngR1_ok (h1 : -(2 ^ 62) ≤ b) (h2 : b ≤ 16777216) : rngR1 b = .ok (rngL 0 b) := if_pos ⟨h1, h2⟩
theorem rngR_ok (h : b - a ≤ 16777216) : rngR a b = .ok (rngL a b) := if_pos h
end
theorem rngL_1 : rngL 0 1 = [0] := rfl
theorem rngL_2 : rngL 0 2 = [0, 1] := rfl
theorem rngL_3 : rngL 0 3 = [0, 1, 2] := rfl
theorem rngL_4 : rngL 0 4 = [0, 1, 2, 3] := rfl
theorem rngL_5 : rngL 0 5 = [0, 1, 2, 3, 4] := rfl
theorem rngL_6 : rngL 0 6 = [0, 1, 2, 3, 4, 5] := rfl
theorem rngL_16 : rngL 1 6 = [1, 2, 3, 4, 5] := rfl
theorem rngR1_0 : rngR1 0 = .ok [] := rfl
theorem rngR1_1 : rngR1 1 = .ok [0] := rfl
theorem rngR1_2 : rngR1 2 = .ok [0, 1] := rfl
theorem rngR1_3 : rngR1 3 = .ok [0, 1, 2] := rfl
theorem rngR1_4 : rngR1 4 = .ok [0, 1, 2, 3] := rfl
theorem rngR1_5 : rngR1 5 = .ok [0, 1, 2, 3, 4] := rfl
theorem rngR1_6 : rngR1 6 = .ok [0, 1, 2, 3, 4, 5] := rfl
theorem rngR_16 : rngR 1 6 = .ok [1, 2, 3, 4, 5] := rfl
theorem rngR_13 : rngR 1 3 = .ok [1, 2] := rfl
section
variable {α β γ : Type} {a b c d e f : α} {l : List α}
theorem idxR_0 : idxR (a :: l) 0 = .ok a := rfl
theorem idxR_1 : idxR (a :: b :: l) 1 = .ok b := rfl
theorem idxR_2 : idxR (a :: b :: c :: l) 2 = .ok c := rfl
theorem idxR_3 : idxR (a :: b :: c :: d :: l) 3 = .ok d := rfl
theorem idxR_4 : idxR (a :: b :: c :: d :: e :: l) 4 = .ok e := rfl
theorem idxR_5 : idxR (a :: b :: c :: d :: e :: f :: l) 5 = .ok f := rfl
theorem idxR_m1_1 : idxR [a] (-1) = .ok a := rfl
theorem idxR_m1_2 : idxR [a, b] (-1) = .ok b := rfl
theorem idxR_m1_3 : idxR [a, b, c] (-1) = .ok c := rfl
theorem ixA_nn {i : Int} (h : 0 ≤ i) : ixA l i = l[i.toNat]? := by
  cases i with
  | ofNat n => rfl
  | negSucc n => exact absurd h (by omega)
theorem idxR_at {i : Int} (h0 : 0 ≤ i) (h1 : i < l.length) : idxR l i = .ok (l[i.toNat]'(by omega)) := by
  unfold idxR
  rw [ixA_nn h0, List.getElem?_eq_getElem (by omega)]
theorem idxR_ex {i : Int} (h0 : 0 ≤ i) (h1 : i < l.length) : ∃ z, idxR l i = .ok z ∧ z ∈ l := ⟨_, idxR_at h0 h1, List.getElem_mem _⟩
theorem idxR_last : idxR (l ++ [a]) (-1) = .ok a := by
  have : ixA (l ++ [a]) (.negSucc 0) = some a := by
    show (if 0 < (l ++ [a]).length then (l ++ [a])[(l ++ [a]).length - 1 - 0]? else none) = _
    rw [if_pos (by simp)]
    simp
  show (match ixA (l ++ [a]) (.negSucc 0) with
    | some a => Rs.ok a
    | none => Rs.no) = _
  rw [this]
/-- a draw out of a few -/
theorem idx2_ex (P : α → Prop) (ha : P a) (hb : P b) (r : Int) : ∃ z, idxR [a, b] (r % 2) = .ok z ∧ P z := by
  obtain ⟨z, h1, h2⟩ := idxR_ex (l := [a, b]) (i := r % 2) (by omega) (by simp only [List.length_cons, List.length_nil]; omega)
  refine ⟨z, h1, ?_⟩
  simp only [List.mem_cons, List.not_mem_nil, or_false] at h2
  rcases h2 with rfl | rfl <;> assumption
theorem idx3_ex (P : α → Prop) (ha : P a) (hb : P b) (hc : P c) (r : Int) : ∃ z, idxR [a, b, c] (r % 3) = .ok z ∧ P z := by
  obtain ⟨z, h1, h2⟩ := idxR_ex (l := [a, b, c]) (i := r % 3) (by omega) (by simp only [List.length_cons, List.length_nil]; omega)
  refine ⟨z, h1, ?_⟩
  simp only [List.mem_cons, List.not_mem_nil, or_false] at h2
  rcases h2 with rfl | rfl | rfl <;> assumption
theorem idx4_ex (P : α → Prop) (ha : P a) (hb : P b) (hc : P c) (hd : P d) (r : Int) : ∃ z, idxR [a, b, c, d] (r % 4) = .ok z ∧ P z := by
  obtain ⟨z, h1, h2⟩ := idxR_ex (l := [a, b, c, d]) (i := r % 4) (by omega) (by simp only [List.length_cons, List.length_nil]; omega)
  refine ⟨z, h1, ?_⟩
  simp only [List.mem_cons, List.not_mem_nil, or_false] at h2
  rcases h2 with rfl | rfl | rfl | rfl <;> assumption
theorem idx5_ex (P : α → Prop) (ha : P a) (hb : P b) (hc : P c) (hd : P d) (he : P e) (r : Int) : ∃ z, idxR [a, b, c, d, e] (r % 5) = .ok z ∧ P z := by
  obtain ⟨z, h1, h2⟩ := idxR_ex (l := [a, b, c, d, e]) (i := r % 5) (by omega) (by simp only [List.length_cons, List.length_nil]; omega)
  refine ⟨z, h1, ?_⟩
  simp only [List.mem_cons, List.not_mem_nil, or_false] at h2
  rcases h2 with rfl | rfl | rfl | rfl | rfl <;> assumption
theorem pushR_ok (h : l.length < 16777216) : pushR l a = .ok (l ++ [a]) := if_pos (by rw [sizeLine_eq]; exact h)
theorem catR_ok {l' : List α} (h : l.length + l'.length ≤ 16777216) : catR l l' = .ok (l ++ l') := if_pos (by rw [sizeLine_eq]; exact h)
theorem forC_nil {σ : Type} {F : α → σ → (σ → Rs β) → (σ → Rs β) → Rs β} {k : σ → Rs β} {s : σ} : forC F k [] s = k s := rfl
theorem forC_cons {σ : Type} {F : α → σ → (σ → Rs β) → (σ → Rs β) → Rs β} {k : σ → Rs β} {s : σ} : forC F k (a :: l) s = F a s (fun s' => forC F k l s') k := rfl
theorem mapR_nil {f : α → Rs β} : mapR f [] = .ok [] := rfl
theorem mapR_cons {f : α → Rs β} : mapR f (a :: l) = (noE (f a)).bind fun b => (mapR f l).bind fun bs => .ok (b :: bs) := rfl
theorem mapR_ok {f : α → Rs β} {g : α → β} {l : List α} (h : ∀ a ∈ l, f a = .ok (g a)) : mapR f l = .ok (l.map g) := by
  induction l with
  | nil => rfl
  | cons a l ih => rw [mapR_cons, h a (.head _), noE_ok, Rs.bind_ok, ih (fun b hb => h b (.tail _ hb)), Rs.bind_ok]; rfl
theorem filR_ok {p : α → Rs Bool} {f : α → Rs β} {q : α → Bool} {g : α → β} {l : List α} (h : ∀ a ∈ l, p a = .ok (q a)) (h2 : ∀ a ∈ l, q a = true → f a = .ok (g a)) : filR p f l = .ok ((l.filter q).map g) := by
  induction l with
  | nil => rfl
  | cons a l ih =>
    show ((noE (p a)).bind fun q => if q = true then (noE (f a)).bind fun b => (filR p f l).bind fun bs => .ok (b :: bs) else filR p f l) = _
    rw [h a (.head _), noE_ok, Rs.bind_ok, ih (fun b hb => h b (.tail _ hb)) (fun b hb => h2 b (.tail _ hb)), List.filter_cons]
    cases z : q a with
    | true => rw [if_pos rfl, if_pos rfl, h2 a (.head _) z]; rfl
    | false => rw [if_neg (fun h => nomatch h), if_neg (fun h => nomatch h)]
theorem unO_some : unO (some a) = .ok a := rfl
theorem unO_none : unO (none : Option α) = .no := rfl
theorem mtO_none {x : Rs γ} {y : α → Rs γ} : mtO none x y = x := rfl
theorem mtO_some {x : Rs γ} {y : α → Rs γ} : mtO (some a) x y = y a := rfl
end
theorem minR_1 {a : Int} : minR [a] = .ok a := rfl
theorem minR_2 {a b : Int} : minR [a, b] = .ok (min a b) := congrArg Rs.ok minL_1
theorem minR_3 {a b c : Int} : minR [a, b, c] = .ok (min (min a b) c) := congrArg Rs.ok minL_2
theorem minR_4 {a b c d : Int} : minR [a, b, c, d] = .ok (min (min (min a b) c) d) := congrArg Rs.ok minL_3
theorem maxR_1 {a : Int} : maxR [a] = .ok a := rfl
theorem maxR_2 {a b : Int} : maxR [a, b] = .ok (max a b) := congrArg Rs.ok maxL_1
theorem maxR_3 {a b c : Int} : maxR [a, b, c] = .ok (max (max a b) c) := congrArg Rs.ok maxL_2
theorem maxR_4 {a b c d : Int} : maxR [a, b, c, d] = .ok (max (max (max a b) c) d) := congrArg Rs.ok maxL_3
theorem andR_dec {p : Prop} [Decidable p] {r : Rs Bool} : andR (.ok (decide p)) r = cnd p r (.ok false) := by
  show (if decide p = true then r else .ok false) = if p then r else .ok false
  by_cases h : p
  · rw [decide_eq_true h, if_pos rfl, if_pos h]
  · rw [decide_eq_false h, if_neg h]; rfl
theorem orR_dec {p : Prop} [Decidable p] {r : Rs Bool} : orR (.ok (decide p)) r = cnd p (.ok true) r := by
  show (if decide p = true then .ok true else r) = if p then .ok true else r
  by_cases h : p
  · rw [decide_eq_true h, if_pos rfl, if_pos h]
  · rw [decide_eq_false h, if_neg h]; rfl
theorem andR_ok {b : Bool} {r : Rs Bool} : andR (.ok b) r = cnd (b = true) r (.ok false) := rfl
theorem orR_ok {b : Bool} {r : Rs Bool} : orR (.ok b) r = cnd (b = true) (.ok true) r := rfl
theorem andR_okk {b c : Bool} : andR (.ok b) (.ok c) = .ok (b && c) := by cases b <;> rfl
theorem orR_okk {b c : Bool} : orR (.ok b) (.ok c) = .ok (b || c) := by cases b <;> rfl
theorem iteR_not {α : Type} {p : Prop} [Decidable p] {a b : Rs α} : iteR (.ok (!decide p)) a b = cnd p b a := by
  unfold cnd
  by_cases h : p
  · rw [decide_eq_true h, if_pos h]; rfl
  · rw [decide_eq_false h, if_neg h]; rfl
theorem iteR_nbl {α : Type} {q : Bool} {a b : Rs α} : iteR (.ok (!q)) a b = cnd (q = true) b a := by cases q <;> rfl
/-! loops by what stays true -/
theorem forC_inv {α β σ : Type} {F : α → σ → (σ → Rs β) → (σ → Rs β) → Rs β} {k : σ → Rs β} {K : β → Prop} {X : Exc → Prop} (I : List α → σ → Prop) {l : List α} {s : σ}
    (h : ∀ a r s nx bk, I (a :: r) s → (∀ s', I r s' → (nx s').sat K X) → (F a s nx bk).sat K X) (e : ∀ s, I [] s → (k s).sat K X) (i : I l s) : (forC F k l s).sat K X := by
  induction l generalizing s with
  | nil => exact e s i
  | cons a l ih => exact h a l s _ _ i fun s' hs => ih hs
/-- each turn for itself -/
theorem forC_all {α β : Type} {F : α → Unit → (Unit → Rs β) → (Unit → Rs β) → Rs β} {k : Unit → Rs β} {K : β → Prop} {X : Exc → Prop} {l : List α}
    (h : ∀ a ∈ l, ∀ nx bk : Unit → Rs β, (nx ()).sat K X → (F a () nx bk).sat K X) (e : (k ()).sat K X) : (forC F k l ()).sat K X := by
  induction l with
  | nil => exact e
  | cons a l ih => exact h a (.head _) _ _ (ih fun b hb => h b (.tail _ hb))
/-- each turn goes on -/
theorem forC_go {α β σ : Type} {F : α → σ → (σ → Rs β) → (σ → Rs β) → Rs β} {k : σ → Rs β} (g : α → σ → σ) (I : List α → σ → Prop) {l : List α} {s : σ}
    (h : ∀ a r s nx bk, I (a :: r) s → F a s nx bk = nx (g a s) ∧ I r (g a s)) (i : I l s) : forC F k l s = k (l.foldl (fun s a => g a s) s) := by
  induction l generalizing s with
  | nil => rfl
  | cons a l ih =>
    rw [forC_cons, (h a l s _ _ i).1]
    exact ih (h a l s k k i).2
theorem forC_goU {α β : Type} {F : α → Unit → (Unit → Rs β) → (Unit → Rs β) → Rs β} {k : Unit → Rs β} {l : List α} (h : ∀ a ∈ l, ∀ nx bk : Unit → Rs β, F a () nx bk = nx ()) : forC F k l () = k () := by
  induction l with
  | nil => rfl
  | cons a l ih =>
    rw [forC_cons, h a (.head _)]
    exact ih fun b hb => h b (.tail _ hb)
theorem rngL_mem {a b z : Int} : z ∈ rngL a b ↔ a ≤ z ∧ z < b := by
  unfold rngL
  simp only [List.mem_map, List.mem_range]
  constructor
  · rintro ⟨i, hi, rfl⟩; omega
  · intro h; exact ⟨(z - a).toNat, by omega, by omega⟩
theorem rngL_nil {a b : Int} (h : b ≤ a) : rngL a b = [] := by
  unfold rngL
  rw [show (b - a).toNat = 0 by omega]; rfl
theorem rngL_len {a b : Int} : (rngL a b).length = (b - a).toNat := by unfold rngL; rw [List.length_map, List.length_range]
theorem rngL_cons {a b : Int} (h : a < b) : rngL a b = a :: rngL (a + 1) b := by
  unfold rngL
  rw [show (b - a).toNat = (b - (a + 1)).toNat + 1 by omega, List.range_succ_eq_map, List.map_cons, List.map_map]
  congr 1
  · omega
  · congr 1
    funext i
    show a + ((i + 1 : Nat) : Int) = _
    omega
/-- a loop over a range, its invariant by the number -/
theorem forC_rng {β σ : Type} {F : Int → σ → (σ → Rs β) → (σ → Rs β) → Rs β} {k : σ → Rs β} {K : β → Prop} {X : Exc → Prop} (I : Int → σ → Prop) {a b : Int} {s : σ}
    (h : ∀ i s nx bk, a ≤ i → i < b → I i s → (∀ s', I (i + 1) s' → (nx s').sat K X) → (F i s nx bk).sat K X) (e : ∀ s, I (max a b) s → (k s).sat K X) (i : I a s) : (forC F k (rngL a b) s).sat K X := by
  refine forC_inv (fun l s => ∃ i, a ≤ i ∧ i ≤ max a b ∧ l = rngL i b ∧ I i s) ?_ ?_ ⟨a, by omega, by omega, rfl, i⟩
  · rintro x r s nx bk ⟨i, h1, h2, h3, h4⟩ hn
    rcases Int.lt_or_le i b with z | z
    · rw [rngL_cons z] at h3
      injection h3 with e1 e2
      subst e1
      exact h x s nx bk h1 z h4 fun s' hs => hn s' ⟨x + 1, by omega, by omega, e2, hs⟩
    · rw [rngL_nil z] at h3; cases h3
  · rintro s ⟨i, h1, h2, h3, h4⟩
    rcases Int.lt_or_le i b with z | z
    · rw [rngL_cons z] at h3; cases h3
    · have : i = max a b := by omega
      rw [this] at h4
      exact e s h4
/-- with a break: J at its end -/
theorem forC_invb {α β σ : Type} {F : α → σ → (σ → Rs β) → (σ → Rs β) → Rs β} {k : σ → Rs β} {K : β → Prop} {X : Exc → Prop} (I : List α → σ → Prop) (J : σ → Prop) {l : List α} {s : σ}
    (h : ∀ a r s nx bk, I (a :: r) s → (∀ s', I r s' → (nx s').sat K X) → (∀ s', J s' → (bk s').sat K X) → (F a s nx bk).sat K X) (e : ∀ s, J s → (k s).sat K X) (ij : ∀ s, I [] s → J s) (i : I l s) : (forC F k l s).sat K X := by
  induction l generalizing s with
  | nil => exact e s (ij s i)
  | cons a l ih => exact h a l s _ _ i (fun s' hs => ih hs) e
theorem forC_rngb {β σ : Type} {F : Int → σ → (σ → Rs β) → (σ → Rs β) → Rs β} {k : σ → Rs β} {K : β → Prop} {X : Exc → Prop} (I : Int → σ → Prop) (J : σ → Prop) {a b : Int} {s : σ}
    (h : ∀ i s nx bk, a ≤ i → i < b → I i s → (∀ s', I (i + 1) s' → (nx s').sat K X) → (∀ s', J s' → (bk s').sat K X) → (F i s nx bk).sat K X) (e : ∀ s, J s → (k s).sat K X) (ij : ∀ s, I (max a b) s → J s) (i : I a s) : (forC F k (rngL a b) s).sat K X := by
  refine forC_invb (fun l s => ∃ i, a ≤ i ∧ i ≤ max a b ∧ l = rngL i b ∧ I i s) J ?_ e ?_ ⟨a, by omega, by omega, rfl, i⟩
  · rintro x r s nx bk ⟨i, h1, h2, h3, h4⟩ hn hb
    rcases Int.lt_or_le i b with z | z
    · rw [rngL_cons z] at h3
      injection h3 with e1 e2
      subst e1
      exact h x s nx bk h1 z h4 (fun s' hs => hn s' ⟨x + 1, by omega, by omega, e2, hs⟩) hb
    · rw [rngL_nil z] at h3; cases h3
  · rintro s ⟨i, h1, h2, h3, h4⟩
    rcases Int.lt_or_le i b with z | z
    · rw [rngL_cons z] at h3; cases h3
    · have : i = max a b := by omega
      rw [this] at h4
      exact ij s h4
/-- the same as an equation -/
theorem forC_rng_eq {β σ : Type} {F : Int → σ → (σ → Rs β) → (σ → Rs β) → Rs β} {k : σ → Rs β} (g : Int → σ) {a b : Int} (hab : a ≤ b)
    (h : ∀ i nx bk, a ≤ i → i < b → F i (g i) nx bk = nx (g (i + 1))) : forC F k (rngL a b) (g a) = k (g b) := by
  have : ∀ n : Nat, ∀ a : Int, a ≤ b → (b - a).toNat = n → (∀ i nx bk, a ≤ i → i < b → F i (g i) nx bk = nx (g (i + 1))) → forC F k (rngL a b) (g a) = k (g b) := by
    intro n
    induction n with
    | zero =>
      intro a h1 h2 h
      have : a = b := by omega
      rw [this, rngL_nil (Int.le_refl _)]; rfl
    | succ n ih =>
      intro a h1 h2 h
      rw [rngL_cons (by omega), forC_cons, h a _ _ (by omega) (by omega)]
      exact ih (a + 1) (by omega) (by omega) fun i nx bk h3 h4 => h i nx bk (by omega) h4
  exact this _ a hab rfl h
/-- a run that is told to end well -/
theorem sat_of {α : Type} {r : Rs α} {a : α} {K : α → Prop} {X : Exc → Prop} (h : r = .ok a) (k : K a) : r.sat K X := by rw [h]; exact k
theorem sat_bind_of {α β : Type} {r : Rs α} {f : α → Rs β} {a : α} {K : β → Prop} {X : Exc → Prop} (h : r = .ok a) (k : (f a).sat K X) : (r.bind f).sat K X := by rw [h]; exact k
theorem sat_cnd {α : Type} {p : Prop} [Decidable p] {a b : Rs α} {K : α → Prop} {X : Exc → Prop} (h : p → a.sat K X) (g : ¬p → b.sat K X) : (cnd p a b).sat K X := by
  unfold cnd
  by_cases z : p
  · rw [if_pos z]; exact h z
  · rw [if_neg z]; exact g z
/-! sizes -/
theorem emod_abs {a : Int} {n : Nat} (h : n ≠ 0) : (a % (n : Int)).natAbs < n := by
  have := Int.emod_nonneg a (b := (n : Int)) (by omega)
  have := Int.emod_lt_of_pos a (b := (n : Int)) (by omega)
  omega
class NZ (b : Int) : Prop where
  h : b ≠ 0
instance bd_modl {a b : Int} [h : NZ b] : Bd (a % b) (b.natAbs.log2 + 1) := ⟨by
  have h1 := Int.emod_nonneg a h.h
  have h2 : a % b < (b.natAbs : Int) := by
    have := Int.emod_lt a h.h
    exact this
  have h3 : b.natAbs < 2 ^ (b.natAbs.log2 + 1) := Nat.lt_log2_self
  omega⟩
theorem sat_idx2 {α β : Type} (P : α → Prop) {a b : α} {r : Int} {f : α → Rs β} {K : β → Prop} {X : Exc → Prop} (ha : P a) (hb : P b) (h : ∀ z, P z → (f z).sat K X) : ((idxR [a, b] (r % 2)).bind f).sat K X := by
  obtain ⟨z, h1, h2⟩ := idxR_ex (l := [a, b]) (i := r % 2) (by omega) (by simp only [List.length_cons, List.length_nil]; omega)
  simp only [List.mem_cons, List.not_mem_nil, or_false] at h2
  rw [h1, Rs.bind_ok]
  rcases h2 with rfl | rfl <;> exact h _ (by assumption)
theorem sat_idx2b {β : Type} (lo hi : Int) {a b : Int} {r : Int} {f : Int → Rs β} {K : β → Prop} {X : Exc → Prop} (ha : lo ≤ a ∧ a ≤ hi) (hb : lo ≤ b ∧ b ≤ hi) (h : ∀ z, lo ≤ z → z ≤ hi → (f z).sat K X) : ((idxR [a, b] (r % 2)).bind f).sat K X := sat_idx2 (fun z => lo ≤ z ∧ z ≤ hi) ha hb fun z hz => h z hz.1 hz.2
theorem sat_idx3 {α β : Type} (P : α → Prop) {a b c : α} {r : Int} {f : α → Rs β} {K : β → Prop} {X : Exc → Prop} (ha : P a) (hb : P b) (hc : P c) (h : ∀ z, P z → (f z).sat K X) : ((idxR [a, b, c] (r % 3)).bind f).sat K X := by
  obtain ⟨z, h1, h2⟩ := idxR_ex (l := [a, b, c]) (i := r % 3) (by omega) (by simp only [List.length_cons, List.length_nil]; omega)
  simp only [List.mem_cons, List.not_mem_nil, or_false] at h2
  rw [h1, Rs.bind_ok]
  rcases h2 with rfl | rfl | rfl <;> exact h _ (by assumption)
theorem sat_idx3b {β : Type} (lo hi : Int) {a b c : Int} {r : Int} {f : Int → Rs β} {K : β → Prop} {X : Exc → Prop} (ha : lo ≤ a ∧ a ≤ hi) (hb : lo ≤ b ∧ b ≤ hi) (hc : lo ≤ c ∧ c ≤ hi) (h : ∀ z, lo ≤ z → z ≤ hi → (f z).sat K X) : ((idxR [a, b, c] (r % 3)).bind f).sat K X := sat_idx3 (fun z => lo ≤ z ∧ z ≤ hi) ha hb hc fun z hz => h z hz.1 hz.2
theorem sat_idx4 {α β : Type} (P : α → Prop) {a b c d : α} {r : Int} {f : α → Rs β} {K : β → Prop} {X : Exc → Prop} (ha : P a) (hb : P b) (hc : P c) (hd : P d) (h : ∀ z, P z → (f z).sat K X) : ((idxR [a, b, c, d] (r % 4)).bind f).sat K X := by
  obtain ⟨z, h1, h2⟩ := idxR_ex (l := [a, b, c, d]) (i := r % 4) (by omega) (by simp only [List.length_cons, List.length_nil]; omega)
  simp only [List.mem_cons, List.not_mem_nil, or_false] at h2
  rw [h1, Rs.bind_ok]
  rcases h2 with rfl | rfl | rfl | rfl <;> exact h _ (by assumption)
theorem sat_idx4b {β : Type} (lo hi : Int) {a b c d : Int} {r : Int} {f : Int → Rs β} {K : β → Prop} {X : Exc → Prop} (ha : lo ≤ a ∧ a ≤ hi) (hb : lo ≤ b ∧ b ≤ hi) (hc : lo ≤ c ∧ c ≤ hi) (hd : lo ≤ d ∧ d ≤ hi) (h : ∀ z, lo ≤ z → z ≤ hi → (f z).sat K X) : ((idxR [a, b, c, d] (r % 4)).bind f).sat K X := sat_idx4 (fun z => lo ≤ z ∧ z ≤ hi) ha hb hc hd fun z hz => h z hz.1 hz.2
theorem sat_idx5 {α β : Type} (P : α → Prop) {a b c d e : α} {r : Int} {f : α → Rs β} {K : β → Prop} {X : Exc → Prop} (ha : P a) (hb : P b) (hc : P c) (hd : P d) (he : P e) (h : ∀ z, P z → (f z).sat K X) : ((idxR [a, b, c, d, e] (r % 5)).bind f).sat K X := by
  obtain ⟨z, h1, h2⟩ := idxR_ex (l := [a, b, c, d, e]) (i := r % 5) (by omega) (by simp only [List.length_cons, List.length_nil]; omega)
  simp only [List.mem_cons, List.not_mem_nil, or_false] at h2
  rw [h1, Rs.bind_ok]
  rcases h2 with rfl | rfl | rfl | rfl | rfl <;> exact h _ (by assumption)
theorem sat_idx5b {β : Type} (lo hi : Int) {a b c d e : Int} {r : Int} {f : Int → Rs β} {K : β → Prop} {X : Exc → Prop} (ha : lo ≤ a ∧ a ≤ hi) (hb : lo ≤ b ∧ b ≤ hi) (hc : lo ≤ c ∧ c ≤ hi) (hd : lo ≤ d ∧ d ≤ hi) (he : lo ≤ e ∧ e ≤ hi) (h : ∀ z, lo ≤ z → z ≤ hi → (f z).sat K X) : ((idxR [a, b, c, d, e] (r % 5)).bind f).sat K X := sat_idx5 (fun z => lo ≤ z ∧ z ≤ hi) ha hb hc hd he fun z hz => h z hz.1 hz.2
theorem sat_idx6 {α β : Type} (P : α → Prop) {a b c d e g : α} {r : Int} {f : α → Rs β} {K : β → Prop} {X : Exc → Prop} (ha : P a) (hb : P b) (hc : P c) (hd : P d) (he : P e) (hg : P g) (h : ∀ z, P z → (f z).sat K X) : ((idxR [a, b, c, d, e, g] (r % 6)).bind f).sat K X := by
  obtain ⟨z, h1, h2⟩ := idxR_ex (l := [a, b, c, d, e, g]) (i := r % 6) (by omega) (by simp only [List.length_cons, List.length_nil]; omega)
  simp only [List.mem_cons, List.not_mem_nil, or_false] at h2
  rw [h1, Rs.bind_ok]
  rcases h2 with rfl | rfl | rfl | rfl | rfl | rfl <;> exact h _ (by assumption)
theorem sat_idx6b {β : Type} (lo hi : Int) {a b c d e g : Int} {r : Int} {f : Int → Rs β} {K : β → Prop} {X : Exc → Prop} (ha : lo ≤ a ∧ a ≤ hi) (hb : lo ≤ b ∧ b ≤ hi) (hc : lo ≤ c ∧ c ≤ hi) (hd : lo ≤ d ∧ d ≤ hi) (he : lo ≤ e ∧ e ≤ hi) (hg : lo ≤ g ∧ g ≤ hi) (h : ∀ z, lo ≤ z → z ≤ hi → (f z).sat K X) : ((idxR [a, b, c, d, e, g] (r % 6)).bind f).sat K X := sat_idx6 (fun z => lo ≤ z ∧ z ≤ hi) ha hb hc hd he hg fun z hz => h z hz.1 hz.2
theorem inLR_mem {a : Str} {l : List Str} (hl : ∀ b ∈ l, PyData.strOk b = true) (h : a ∈ l) : inLR a l = .ok true := by
  unfold inLR
  rw [if_pos ⟨hl a h, hl⟩, decide_eq_true h]
theorem eqR_same {α : Type} {n : α → D} {a : α} (h : Q.nice 32 (n a) = true) : eqR n a a = .ok true := by
  unfold eqR
  rw [if_pos ⟨h, h⟩]
  exact congrArg Rs.ok (by simp)
theorem nice_is {b1 : Int} {w : Str} (h : PyData.strOk w = true) : Q.nice 32 (dO (d2 D.int D.str) (some (b1, w))) = true := by
  show (true && (PyData.strOk w && true)) = true
  rw [h]; rfl
theorem cutL_take {α : Type} {l : List α} {k : Int} (h : 0 ≤ k) : cutL l none (some k) = l.take k.toNat := by
  unfold cutL
  show (l.drop 0).take ((if k < 0 then (k + (l.length : Int)).toNat else min k.toNat l.length) - 0) = _
  rw [if_neg (by omega), List.drop_zero, Nat.sub_zero]
  rcases Nat.le_total k.toNat l.length with z | z
  · rw [Nat.min_eq_left z]
  · rw [Nat.min_eq_right z, List.take_length, List.take_of_length_le z]
theorem setR_at {α : Type} {l : List α} {i : Int} {a : α} (h0 : 0 ≤ i) (h1 : i < l.length) : setR l i a = .ok (l.set i.toNat a) := by
  unfold setR ixN
  rw [if_pos h0, if_pos h1]
theorem setR_last {α : Type} {u : List α} {y a : α} : setR (u ++ [y]) (-1) a = .ok (u ++ [a]) := by
  unfold setR ixN
  rw [if_neg (by decide), if_pos (by rw [List.length_append]; simp only [List.length_cons, List.length_nil]; omega)]
  have e : (-1 + ((u ++ [y]).length : Int)).toNat = u.length := by
    rw [List.length_append]
    simp only [List.length_cons, List.length_nil]
    omega
  dsimp only
  rw [e, List.set_append_right _ _ (Nat.le_refl _), Nat.sub_self]
  rfl
end
end M
end Q

/-! QZ: worlds, motions, states: what the laws tell of them. -/
namespace Q
open PySem PySem.Spec L2
/-! ### pulls are small -/
theorem div_le_abs {x d m : Int} (hd : 0 < d) (h1 : x ≤ m * d) (h2 : -(m * d) ≤ x) : -m ≤ x / d ∧ x / d ≤ m :=
  ⟨Int.le_ediv_of_mul_le hd (by rw [Int.neg_mul]; exact h2), Int.ediv_le_of_le_mul hd h1⟩
theorem mul_abs {a b A B : Int} (h1 : -A ≤ a) (h2 : a ≤ A) (h3 : -B ≤ b) (h4 : b ≤ B) : -(A * B) ≤ a * b ∧ a * b ≤ A * B := by
  have hA : 0 ≤ A := by omega
  have hB : 0 ≤ B := by omega
  have c1 : a.natAbs ≤ A.natAbs := by omega
  have c2 : b.natAbs ≤ B.natAbs := by omega
  have c3 := Nat.mul_le_mul c1 c2
  rw [← Int.natAbs_mul, ← Int.natAbs_mul] at c3
  have : 0 ≤ A * B := Int.mul_nonneg hA hB
  omega
theorem sq_abs {c s : Int} (h : c * c ≤ s) : -s ≤ c ∧ c ≤ s := by
  have hs : 0 ≤ s := Int.le_trans sq_nn h
  constructor
  · rcases Int.lt_or_le c (-s) with z | z
    · have h1 : c ≤ -1 := by omega
      have := mul_le_r' (c := c) h1 (by omega)
      omega
    · exact z
  · rcases Int.lt_or_le s c with z | z
    · have h1 : 1 ≤ c := by omega
      have := mul_le_r (c := c) h1 (by omega)
      omega
    · exact z
theorem pullC_le {mu ob s r z c f : Int} (hs : 1 ≤ s) (hr : 1 ≤ r) (hc : c * c ≤ s) (hz : z * z ≤ s) (hm : 0 ≤ mu) (ho : 0 ≤ ob) (hf : f = 1 ∨ f = 3) : -(mu + 5 * ob) ≤ pullC mu ob s r z c f ∧ pullC mu ob s r z c f ≤ mu + 5 * ob := by
  obtain ⟨c1, c2⟩ := sq_abs hc
  have sr : s ≤ s * r := by have := mul_le_l (c := s) hr (by omega); rw [Int.mul_one] at this; exact this
  have ss : s ≤ s * s := by have := mul_le_l (c := s) hs (by omega); rw [Int.mul_one] at this; exact this
  have p1 : 0 < s * r := by omega
  have sss : s * s ≤ s * s * s * r := by
    have h1 : s * s ≤ s * s * s := by have := mul_le_l (c := s * s) hs (by omega); rw [Int.mul_one] at this; exact this
    have h2 : s * s * s ≤ s * s * s * r := by have := mul_le_l (c := s * s * s) hr (by omega); rw [Int.mul_one] at this; exact this
    omega
  have p2 : 0 < s * s * s * r := by omega
  have m1 : -mu ≤ -mu * c / (s * r) ∧ -mu * c / (s * r) ≤ mu := by
    obtain ⟨a1, a2⟩ := mul_abs (a := -mu) (A := mu) (b := c) (B := s) (by omega) (by omega) c1 c2
    have := mul_le_l (c := mu) sr hm
    exact div_le_abs p1 (by omega) (by omega)
  have m2 : -(5 * ob) ≤ ob * c * (5 * z * z - f * s) / (s * s * s * r) ∧ ob * c * (5 * z * z - f * s) / (s * s * s * r) ≤ 5 * ob := by
    obtain ⟨a1, a2⟩ := mul_abs (a := ob) (A := ob) (b := c) (B := s) (by omega) (by omega) c1 c2
    have hz0 : 0 ≤ z * z := sq_nn
    have e : 5 * z * z = 5 * (z * z) := Int.mul_assoc ..
    obtain ⟨b1, b2⟩ := mul_abs (a := ob * c) (A := ob * s) (b := 5 * z * z - f * s) (B := 5 * s) a1 a2 (by rcases hf with rfl | rfl <;> omega) (by rcases hf with rfl | rfl <;> omega)
    have e2 : ob * s * (5 * s) = 5 * ob * (s * s) := by
      rw [Int.mul_comm 5 s, ← Int.mul_assoc, Int.mul_comm _ 5, Int.mul_assoc ob s s, Int.mul_assoc 5]
    rw [e2] at b1 b2
    have := mul_le_l (c := 5 * ob) sss (by omega)
    exact div_le_abs p2 (by omega) (by omega)
  unfold pullC
  omega
/-- no number is greater -/
def nP (B : Int) (p : Pt) : Prop := (-B ≤ p.1 ∧ p.1 ≤ B) ∧ (-B ≤ p.2.1 ∧ p.2.1 ≤ B) ∧ (-B ≤ p.2.2 ∧ p.2.2 ≤ B)
theorem nP.mono {B C : Int} {p : Pt} (h : nP B p) (l : B ≤ C) : nP C p := by unfold nP at *; omega
theorem nP_add {B C : Int} {p q : Pt} (h : nP B p) (g : nP C q) : nP (B + C) (pAdd p q) := by unfold nP pAdd at *; dsimp only; omega
theorem nP.bd {B : Int} {p : Pt} (h : nP B p) (n : Nat) (l : B.natAbs < 2 ^ n := by decide) : BdP p n := ⟨⟨by unfold nP at h; omega⟩, ⟨by unfold nP at h; omega⟩, ⟨by unfold nP at h; omega⟩⟩
theorem pPull_le {mu ob : Int} {p : Pt} (hp : p ≠ (0, 0, 0)) (hm : 0 ≤ mu) (ho : 0 ≤ ob) : nP (mu + 5 * ob) (pPull mu ob p) := by
  have h := pDot_pos hp
  have hr := isq_pos h
  have h1 := sq_nn (x := p.1)
  have h2 := sq_nn (x := p.2.1)
  have h3 := sq_nn (x := p.2.2)
  have e : pDot p p = p.1 * p.1 + p.2.1 * p.2.1 + p.2.2 * p.2.2 := rfl
  exact ⟨pullC_le (by omega) (by omega) (by omega) (by omega) hm ho (.inl rfl), pullC_le (by omega) (by omega) (by omega) (by omega) hm ho (.inl rfl), pullC_le (by omega) (by omega) (by omega) (by omega) hm ho (.inr rfl)⟩

/-! ### motions -/
abbrev Pv := Pt × Pt
def pNext (mu ob : Int) (x : Pv) (b u : Pt) : Pv := (pAdd x.1 (pAdd (pAdd (pAdd x.2 (pPull mu ob x.1)) b) u), pAdd (pAdd (pAdd x.2 (pPull mu ob x.1)) b) u)
abbrev Brn := Int × Int × Box
def zBox : Box := ((0, 0), (0, 0), (0, 0))
def pushL : List Brn → Int → Box
  | [], _ => zBox
  | b :: l, t => if b.1 ≤ t ∧ t < b.2.1 then b.2.2 else pushL l t
theorem pushL_in (P : Box → Prop) {l : List Brn} {t : Int} (h0 : P zBox) (h : ∀ b ∈ l, P b.2.2) : P (pushL l t) := by
  induction l with
  | nil => exact h0
  | cons b l ih =>
    unfold pushL
    split
    · exact h b (.head _)
    · exact ih fun c hc => h c (.tail _ hc)
theorem bRnd_z {s w : Int} (hs : 0 ≤ s) (hw : 0 ≤ w) : bRnd s w zBox := by
  have : iRnd s w (0, 0) := ⟨by dsimp only; omega, by dsimp only; omega, by dsimp only; omega, by dsimp only; omega, 0, by omega, hs, ⟨by decide, by decide⟩⟩
  exact ⟨this, this, this⟩
theorem bM_rnd {s w : Int} {b : Box} {p : Pt} (h : bRnd s w b) (g : bM p b) : nP (s + w) p := by
  obtain ⟨⟨_, _, a1, a2, _⟩, ⟨_, _, b1, b2, _⟩, ⟨_, _, c1, c2, _⟩⟩ := h
  obtain ⟨⟨d1, d2⟩, ⟨e1, e2⟩, ⟨f1, f2⟩⟩ := g
  unfold nP
  omega
theorem bRnd.ok {s w m : Int} {b : Box} (h : bRnd s w b) (l : s + w ≤ m) : bOk m b := by
  obtain ⟨⟨a0, _, a1, a2, _⟩, ⟨b0, _, b1, b2, _⟩, ⟨c0, _, c1, c2, _⟩⟩ := h
  exact ⟨⟨by omega, a0, by omega⟩, ⟨by omega, b0, by omega⟩, ⟨by omega, c0, by omega⟩⟩
theorem bOk.wf {m : Int} {b : Box} (h : bOk m b) : bWf b := ⟨h.1.2.1, h.2.1.2.1, h.2.2.2.1⟩
theorem iOk.ok {n m : Int} {a : Iv} (h : iOk n a) (l : n ≤ m) : iOk m a := by unfold iOk at *; omega
theorem bOk.ok {n m : Int} {b : Box} (h : bOk n b) (l : n ≤ m) : bOk m b := ⟨h.1.ok l, h.2.1.ok l, h.2.2.ok l⟩
theorem bM_ok {m : Int} {b : Box} {p : Pt} (h : bOk m b) (g : bM p b) : nP m p := by
  obtain ⟨⟨a0, _, a1⟩, ⟨b0, _, b1⟩, ⟨c0, _, c1⟩⟩ := h
  obtain ⟨⟨d1, d2⟩, ⟨e1, e2⟩, ⟨f1, f2⟩⟩ := g
  unfold nP
  omega
theorem bOk_z {m : Int} (h : 0 ≤ m) : bOk m zBox := by
  have : iOk m (0, 0) := by unfold iOk; dsimp only; omega
  exact ⟨this, this, this⟩
structure Wd where
  mu : Int
  ob : Int
  drift : Int
  start : Int
  fine : Int
  many : Int
  place : Box
  speed : Box
  burns : List Brn
def brnOk (a b : Int) (x : Brn) : Prop := a ≤ x.1 ∧ x.1 < x.2.1 ∧ x.2.1 ≤ b ∧ bOk 34 x.2.2
structure Wd.Ok (w : Wd) : Prop where
  mu1 : 1 ≤ w.mu
  mu2 : w.mu ≤ 10 ^ 9
  ob1 : 0 ≤ w.ob
  ob2 : w.ob ≤ 10 ^ 12
  dr1 : 0 ≤ w.drift
  dr2 : w.drift ≤ 5
  st1 : 0 ≤ w.start
  st2 : w.start ≤ 12
  fi1 : 0 ≤ w.fine
  fi2 : w.fine ≤ 2
  ma1 : 3 ≤ w.many
  ma2 : w.many ≤ 15
  pl : bOk 10000 w.place
  sp : bOk 100 w.speed
  br : ∀ b ∈ w.burns, brnOk w.start 100 b
  bl : w.burns.length ≤ 2
def cV : Int := 100 + 15 * (10 ^ 9 + 5 * 10 ^ 12 + 39)
/-- how far a motion may be after k ticks, and after 15 -/
def cP : Nat → Int
  | 0 => 10000
  | k + 1 => cP k + (100 + ((k : Int) + 1) * (10 ^ 9 + 5 * 10 ^ 12 + 39))
def cX : Int := 10000 + 1500 + 120 * (10 ^ 9 + 5 * 10 ^ 12 + 39)
theorem cP_le {k : Nat} (h : k ≤ 15) : cP k ≤ cX := by
  have : ∀ k : Fin 16, cP k.val ≤ cX := by decide
  exact this ⟨k, by omega⟩
/-- a motion of a world -/
structure Mot (w : Wd) (mo : List Pv) : Prop where
  ne : 0 < mo.length
  len : (mo.length : Int) ≤ w.many + 1
  hd : ∀ x, mo[0]? = some x → bM x.1 w.place ∧ bM x.2 w.speed
  st : ∀ (k : Nat) x y, mo[k]? = some x → mo[k + 1]? = some y → x.1 ≠ (0, 0, 0) ∧ ∃ b u, bM b (pushL w.burns (w.start + k)) ∧ nP w.drift u ∧ y = pNext w.mu w.ob x b u
  bd : ∀ (k : Nat) x, mo[k]? = some x → nP (cP k) x.1 ∧ nP (100 + k * (10 ^ 9 + 5 * 10 ^ 12 + 39)) x.2
  en : (mo.length : Int) < w.many + 1 → ∀ x, mo[mo.length - 1]? = some x → x.1 = (0, 0, 0)
theorem Mot.bd1 {w : Wd} {mo : List Pv} (h : Mot w mo) (hm : w.many ≤ 15) {k : Nat} {x : Pv} (e : mo[k]? = some x) : nP cX x.1 ∧ nP cV x.2 := by
  have hk : k < mo.length := (List.getElem?_eq_some_iff.mp e).1
  have := h.len
  obtain ⟨b1, b2⟩ := h.bd k x e
  have hk2 : (k : Int) ≤ 15 := by omega
  refine ⟨b1.mono (cP_le (by omega)), b2.mono ?_⟩
  · unfold cV
    have := mul_le_r (c := 10 ^ 9 + 5 * 10 ^ 12 + 39) hk2 (by decide); omega

structure MotI (w : Wd) (i : Nat) (x : Pv) (mo : List Pv) : Prop where
  ln : mo.length = i + 1
  la : mo[i]? = some x
  hd : ∀ x, mo[0]? = some x → bM x.1 w.place ∧ bM x.2 w.speed
  st : ∀ (k : Nat) x y, mo[k]? = some x → mo[k + 1]? = some y → x.1 ≠ (0, 0, 0) ∧ ∃ b u, bM b (pushL w.burns (w.start + k)) ∧ nP w.drift u ∧ y = pNext w.mu w.ob x b u
  bd : ∀ (k : Nat) x, mo[k]? = some x → nP (cP k) x.1 ∧ nP (100 + k * (10 ^ 9 + 5 * 10 ^ 12 + 39)) x.2
theorem Wd.Ok.push {w : Wd} (h : w.Ok) (t : Int) : bOk 34 (pushL w.burns t) := pushL_in (bOk 34) (bOk_z (by decide)) fun b hb => (h.br b hb).2.2.2
theorem MotI.one {w : Wd} {x : Pv} (h : w.Ok) (h1 : bM x.1 w.place) (h2 : bM x.2 w.speed) : MotI w 0 x [x] where
  ln := rfl
  la := rfl
  hd := fun y e => by cases e; exact ⟨h1, h2⟩
  st := fun k y z e1 e2 => by cases k <;> cases e2
  bd := fun k y e => by
    cases k with
    | zero => cases e; exact ⟨bM_ok h.pl h1, (bM_ok h.sp h2).mono (by omega)⟩
    | succ k => cases e
theorem pNext_bd {w : Wd} (h : w.Ok) {x : Pv} {b u : Pt} {B C : Int} (hx : x.1 ≠ (0, 0, 0)) (h1 : nP B x.1) (h2 : nP C x.2) (hb : nP 34 b) (hu : nP w.drift u) : nP (B + (C + (10 ^ 9 + 5 * 10 ^ 12 + 39))) (pNext w.mu w.ob x b u).1 ∧ nP (C + (10 ^ 9 + 5 * 10 ^ 12 + 39)) (pNext w.mu w.ob x b u).2 := by
  have hp := pPull_le (mu := w.mu) (ob := w.ob) hx (by have := h.mu1; omega) h.ob1
  have := h.mu2
  have := h.ob2
  have := h.dr2
  have hv := (nP_add (nP_add (nP_add h2 hp) hb) hu).mono (C := C + (10 ^ 9 + 5 * 10 ^ 12 + 39)) (by omega)
  exact ⟨nP_add h1 hv, hv⟩
theorem MotI.snoc {w : Wd} (h : w.Ok) {i : Nat} {x : Pv} {mo : List Pv} {b u : Pt} (m : MotI w i x mo) (hi : i + 1 ≤ 15) (hx : x.1 ≠ (0, 0, 0)) (hb : bM b (pushL w.burns (w.start + i))) (hu : nP w.drift u) : MotI w (i + 1) (pNext w.mu w.ob x b u) (mo ++ [pNext w.mu w.ob x b u]) := by
  have e1 : ∀ k, k < i + 1 → (mo ++ [pNext w.mu w.ob x b u])[k]? = mo[k]? := fun k hk => List.getElem?_append_left (by rw [m.ln]; exact hk)
  have e2 : (mo ++ [pNext w.mu w.ob x b u])[i + 1]? = some (pNext w.mu w.ob x b u) := by
    rw [← m.ln, List.getElem?_append_right (Nat.le_refl _), Nat.sub_self]; rfl
  have e3 : ∀ k, i + 1 < k → (mo ++ [pNext w.mu w.ob x b u])[k]? = none := fun k hk => List.getElem?_eq_none (by rw [List.length_append, m.ln]; simp only [List.length_cons, List.length_nil]; omega)
  refine ⟨by rw [List.length_append, m.ln]; rfl, e2, fun y e => m.hd y (by rw [e1 0 (by omega)] at e; exact e), fun k y z f g => ?_, fun k y e => ?_⟩
  · rcases Nat.lt_trichotomy k i with q | q | q
    · rw [e1 k (by omega)] at f
      rw [e1 (k + 1) (by omega)] at g
      exact m.st k y z f g
    · subst q
      rw [e1 k (by omega), m.la] at f
      rw [e2] at g
      cases f
      cases g
      exact ⟨hx, b, u, hb, hu, rfl⟩
    · rw [e3 (k + 1) (by omega)] at g; cases g
  · rcases Nat.lt_or_ge k (i + 1) with q | q
    · rw [e1 k q] at e; exact m.bd k y e
    · rcases Nat.lt_or_ge (i + 1) k with z | z
      · rw [e3 k z] at e; cases e
      · have : k = i + 1 := by omega
        subst this
        rw [e2] at e
        cases e
        obtain ⟨a1, a2⟩ := m.bd i x m.la
        obtain ⟨b1, b2⟩ := pNext_bd h hx a1 a2 (bM_ok (h.push _) hb) hu
        have hi2 : (i : Int) + 1 ≤ 15 := by omega
        have hc := mul_le_r (c := 10 ^ 9 + 5 * 10 ^ 12 + 39) hi2 (by decide)
        refine ⟨b1.mono ?_, b2.mono ?_⟩
        · show _ ≤ cP i + (100 + ((i : Int) + 1) * (10 ^ 9 + 5 * 10 ^ 12 + 39))
          omega
        · rw [Int.natCast_add]
          show _ ≤ 100 + ((i : Int) + 1) * (10 ^ 9 + 5 * 10 ^ 12 + 39)
          omega
theorem MotI.mot {w : Wd} {i : Nat} {x : Pv} {mo : List Pv} (m : MotI w i x mo) (hi : (i : Int) ≤ w.many) (he : (i : Int) < w.many → x.1 = (0, 0, 0)) : Mot w mo := ⟨by rw [m.ln]; omega, by rw [m.ln]; omega, m.hd, m.st, m.bd, fun h y e => by
  rw [m.ln, Nat.add_sub_cancel, m.la] at e
  cases e
  exact he (by rw [m.ln] at h; omega)⟩
/-- sightings around a motion -/
structure Seen (w : Wd) (mo : List Pv) (se : List (Int × Box)) : Prop where
  at_ : ∀ s ∈ se, ∃ (k : Nat) (x : Pv), mo[k]? = some x ∧ s.1 = w.start + k ∧ bM x.1 s.2 ∧ bOk (10 ^ 15) s.2
  up : se.Pairwise fun a b => a.1 < b.1
def mkB (b : Brn) : Burn := ⟨b.1, b.2.1, b.2.2⟩
def mkS (s : Int × Box) : Sight := ⟨s.1, s.2⟩
def mkC (n : Str) (w : Wd) (se : List (Int × Box)) : Craft := ⟨n, w.start, w.place, w.speed, w.drift, w.burns.map mkB, se.map mkS⟩
def pushC (c : Craft) (t : Int) : Box := pushL (c.burns.map fun b => (b.b, b.e, b.push)) t
theorem pushC_mk {n : Str} {w : Wd} {se : List (Int × Box)} {t : Int} : pushC (mkC n w se) t = pushL w.burns t := by
  unfold pushC mkC
  dsimp only
  rw [List.map_map]
  congr 1
  exact List.map_id _

/-! ### states -/
def sStep (mu ob : Int) (s : Stt) (push : Box) (drift : Int) : Option Stt := match bPull mu ob s.place with
  | none => none
  | some a => if 10000000000000000000000000000000000000000 < bSize (bAdd s.place (bWid (bAdd (bAdd s.speed a) push) drift)) ∨ 10000000000000000000000000000000000000000 < bSize (bWid (bAdd (bAdd s.speed a) push) drift) then none else some ⟨bAdd s.place (bWid (bAdd (bAdd s.speed a) push) drift), bWid (bAdd (bAdd s.speed a) push) drift⟩
def sCut (s : Stt) (b : Box) : Option Stt := (bMeet s.place b).map fun p => ⟨p, s.speed⟩
def sMem (x : Pv) (s : Stt) : Prop := bM x.1 s.place ∧ bM x.2 s.speed
theorem bM_wid {p u : Pt} {a : Box} {d : Int} (h : bM p a) (g : nP d u) : bM (pAdd p u) (bWid a d) := ⟨iM_wid h.1 g.1.1 g.1.2, iM_wid h.2.1 g.2.1.1 g.2.1.2, iM_wid h.2.2 g.2.2.1 g.2.2.2⟩
theorem sStep_in {mu ob : Int} {s s' : Stt} {push : Box} {drift : Int} {x : Pv} {b u : Pt} (h : sMem x s) (hb : bM b push) (hu : nP drift u) (e : sStep mu ob s push drift = some s') : sMem (pNext mu ob x b u) s' := by
  unfold sStep at e
  split at e
  · cases e
  rename_i a ha
  split at e
  · cases e
  cases e
  have hw := bM_wid (bM_add (bM_add h.2 (bPull_in h.1 ha)) hb) hu
  exact ⟨bM_add h.1 hw, hw⟩
theorem iMeet_in {a b : Iv} {x : Int} (h : iM x a) (g : iM x b) : iMeet a b = some (max a.1 b.1, min a.2 b.2) := by
  unfold iMeet iM at *
  rw [if_neg (by omega)]
theorem sCut_in {s : Stt} {b : Box} {x : Pv} (h : sMem x s) (g : bM x.1 b) : ∃ s', sCut s b = some s' ∧ sMem x s' := by
  have hb := bM_both.mpr ⟨h.1, g⟩
  exact ⟨⟨bBoth s.place b, s.speed⟩, by unfold sCut; rw [bMeet_some (bM_wf hb)]; rfl, hb, h.2⟩
theorem bPull_bd {mu ob : Int} {b c : Box} [BdB b 14] [Bd mu 31] [Bd ob 41] (e : bPull mu ob b = some c) : BdB c 100 := by
  unfold bPull at e
  split at e
  · cases e
  cases e
  unfold bPullS bPullC
  exact BdB.of inferInstance (by decide)
theorem lim_ok {x : Int} {n : Nat} [b : Bd x n] (h : n ≤ 130) : ¬ 10000000000000000000000000000000000000000 < x := by
  have h1 := (b.of h).h
  have h2 : (2 : Nat) ^ 130 ≤ 10000000000000000000000000000000000000000 := by decide
  generalize (2 : Nat) ^ 130 = q at h1 h2
  omega
theorem Wd.Ok.body {w : Wd} (h : w.Ok) : Body.Ok ⟨w.mu, w.ob, (1, 0, 1)⟩ := body_ok h.mu1 (by have := h.mu2; omega) h.ob1 (by have := h.ob2; omega) (by decide)
theorem Wd.Ok.bmu {w : Wd} (h : w.Ok) : Bd w.mu 31 := bdOf (B := 10 ^ 9) 31 (by have := h.mu1; omega) h.mu2
theorem Wd.Ok.bob {w : Wd} (h : w.Ok) : Bd w.ob 41 := bdOf (B := 10 ^ 12) 41 (by have := h.ob1; omega) h.ob2
theorem iRnd0 {s : Int} {a : Iv} (h : iRnd s 0 a) : a = dg a.1 := by
  obtain ⟨h1, h2, _⟩ := h
  exact Prod.ext rfl (show a.2 = a.1 by omega)
theorem bRnd0 {s : Int} {b : Box} (h : bRnd s 0 b) : b = pBox (b.1.1, b.2.1.1, b.2.2.1) := Prod.ext (iRnd0 h.1) (Prod.ext (iRnd0 h.2.1) (iRnd0 h.2.2))
theorem bM_pt_eq {p q : Pt} (h : bM p (pBox q)) : p = q := by
  obtain ⟨⟨a1, a2⟩, ⟨b1, b2⟩, ⟨c1, c2⟩⟩ := h
  unfold pBox at *
  dsimp only at *
  exact Prod.ext (show p.1 = q.1 by omega) (Prod.ext (show p.2.1 = q.2.1 by omega) (show p.2.2 = q.2.2 by omega))
theorem nP_zero {p : Pt} (h : nP 0 p) : p = (0, 0, 0) := by
  obtain ⟨⟨a1, a2⟩, ⟨b1, b2⟩, ⟨c1, c2⟩⟩ := h
  exact Prod.ext (show p.1 = 0 by omega) (Prod.ext (show p.2.1 = 0 by omega) (show p.2.2 = 0 by omega))
theorem bAdd_pt {p q : Pt} : bAdd (pBox p) (pBox q) = pBox (pAdd p q) := rfl
theorem bWid_pt {p : Pt} : bWid (pBox p) 0 = pBox p := by unfold bWid pBox iWid; simp
theorem pAdd_z {p : Pt} : pAdd p (0, 0, 0) = p := by unfold pAdd; simp
/-- a point alone, no drift: the next point alone -/
theorem sStep_pt {mu ob : Int} {p v b : Pt} {s' : Stt} (hp : p ≠ (0, 0, 0)) (e : sStep mu ob ⟨pBox p, pBox v⟩ (pBox b) 0 = some s') : s' = ⟨pBox (pNext mu ob (p, v) b (0, 0, 0)).1, pBox (pNext mu ob (p, v) b (0, 0, 0)).2⟩ := by
  unfold sStep at e
  dsimp only at e
  rw [bPull_pt hp] at e
  dsimp only at e
  split at e
  · cases e
  cases e
  rw [bAdd_pt, bAdd_pt, bWid_pt, bAdd_pt]
  unfold pNext
  rw [pAdd_z]
/-! ### parts of states -/
abbrev Bp := Box × Box
def toS (x : Bp) : Stt := ⟨x.1, x.2⟩
def ofS (s : Stt) : Bp := (s.place, s.speed)
def sidesB (x : Bp) : List Iv := [x.1.1, x.1.2.1, x.1.2.2, x.2.1, x.2.2.1, x.2.2.2]
def gi (x : Bp) (k : Int) : Iv := if k = 0 then x.1.1 else if k = 1 then x.1.2.1 else if k = 2 then x.1.2.2 else if k = 3 then x.2.1 else if k = 4 then x.2.2.1 else x.2.2.2
def wid1 (x : Bp) (best k : Int) : Int := if (gi x best).2 - (gi x best).1 < (gi x k).2 - (gi x k).1 then k else best
def widest (x : Bp) : Int := wid1 x (wid1 x (wid1 x (wid1 x (wid1 x 0 1) 2) 3) 4) 5
def setI (x : Bp) (k : Int) (h : Iv) : Bp := ((if 0 = k then h else x.1.1, if 1 = k then h else x.1.2.1, if 2 = k then h else x.1.2.2), (if 3 = k then h else x.2.1, if 4 = k then h else x.2.2.1, if 5 = k then h else x.2.2.2))
def halvesB (x : Bp) : List Bp := if (gi x (widest x)).1 = (gi x (widest x)).2 then [x] else [setI x (widest x) ((gi x (widest x)).1, ((gi x (widest x)).1 + (gi x (widest x)).2) / 2), setI x (widest x) (((gi x (widest x)).1 + (gi x (widest x)).2) / 2 + 1, (gi x (widest x)).2)]
def partsL : Nat → List Bp → List Bp
  | 0, l => l
  | n + 1, l => partsL n (l.flatMap halvesB)
theorem wid1_in {x : Bp} {b k : Int} (h : 0 ≤ b ∧ b ≤ 5) (g : 0 ≤ k ∧ k ≤ 5) : 0 ≤ wid1 x b k ∧ wid1 x b k ≤ 5 := by unfold wid1; split <;> assumption
theorem widest_in {x : Bp} : 0 ≤ widest x ∧ widest x ≤ 5 := by
  unfold widest
  repeat (first | exact ⟨by decide, by decide⟩ | refine wid1_in ?_ ⟨by decide, by decide⟩)
theorem six {k : Int} (h : 0 ≤ k ∧ k ≤ 5) : k = 0 ∨ k = 1 ∨ k = 2 ∨ k = 3 ∨ k = 4 ∨ k = 5 := by omega
def hasB (x : Pv) (b : Bp) : Bool := bHas b.1 x.1 && bHas b.2 x.2
def gx (x : Pv) (k : Int) : Int := if k = 0 then x.1.1 else if k = 1 then x.1.2.1 else if k = 2 then x.1.2.2 else if k = 3 then x.2.1 else if k = 4 then x.2.2.1 else x.2.2.2
theorem hasB_iff {x : Pv} {b : Bp} : hasB x b = true ↔ ∀ k : Int, 0 ≤ k ∧ k ≤ 5 → iM (gx x k) (gi b k) := by
  unfold hasB
  rw [Bool.and_eq_true, bHas_iff, bHas_iff]
  constructor
  · rintro ⟨⟨h0, h1, h2⟩, ⟨h3, h4, h5⟩⟩ k hk
    rcases six hk with rfl | rfl | rfl | rfl | rfl | rfl <;> assumption
  · intro h
    exact ⟨⟨h 0 (by omega), h 1 (by omega), h 2 (by omega)⟩, ⟨h 3 (by omega), h 4 (by omega), h 5 (by omega)⟩⟩
theorem gi_set {b : Bp} {k j : Int} {h : Iv} (hk : 0 ≤ k ∧ k ≤ 5) (hj : 0 ≤ j ∧ j ≤ 5) : gi (setI b k h) j = if j = k then h else gi b j := by
  rcases six hk with rfl | rfl | rfl | rfl | rfl | rfl <;> rcases six hj with rfl | rfl | rfl | rfl | rfl | rfl <;> rfl
theorem hasB_set {x : Pv} {b : Bp} {k : Int} {h : Iv} (hk : 0 ≤ k ∧ k ≤ 5) (hs : h.1 ≥ (gi b k).1 ∧ h.2 ≤ (gi b k).2) : hasB x (setI b k h) = (hasB x b && iHas h (gx x k)) := by
  rw [Bool.eq_iff_iff, Bool.and_eq_true, hasB_iff, hasB_iff, iHas_iff]
  constructor
  · intro g
    refine ⟨fun j hj => ?_, ?_⟩
    · have := g j hj
      rw [gi_set hk hj] at this
      split at this
      · rename_i e
        rw [e] at this ⊢
        unfold iM at *
        omega
      · exact this
    · have := g k hk
      rw [gi_set hk hk, if_pos rfl] at this
      exact this
  · rintro ⟨g1, g2⟩ j hj
    rw [gi_set hk hj]
    split
    · rename_i e
      rw [e]; exact g2
    · exact g1 j hj
def wfB (b : Bp) : Prop := ∀ k : Int, 0 ≤ k ∧ k ≤ 5 → iWf (gi b k)
theorem halves_wf {b c : Bp} (h : wfB b) (g : c ∈ halvesB b) : wfB c := by
  unfold halvesB at g
  have w := h _ (widest_in (x := b))
  unfold iWf at w
  split at g
  · cases List.mem_singleton.mp g; exact h
  · simp only [List.mem_cons, List.not_mem_nil, or_false] at g
    intro j hj
    rcases g with rfl | rfl
    · rw [gi_set widest_in hj]
      split
      · unfold iWf; dsimp only; omega
      · exact h j hj
    · rw [gi_set widest_in hj]
      split
      · unfold iWf; dsimp only; omega
      · exact h j hj
/-- how many have a member -/
def cnt (x : Pv) (l : List Bp) : Nat := (l.filter (hasB x)).length
theorem cnt_halves {x : Pv} {b : Bp} (h : wfB b) : cnt x (halvesB b) = cnt x [b] := by
  unfold halvesB
  have w := h _ (widest_in (x := b))
  unfold iWf at w
  split
  · rfl
  · rename_i z
    unfold cnt
    have e1 := hasB_set (x := x) (b := b) (k := widest b) (h := ((gi b (widest b)).1, ((gi b (widest b)).1 + (gi b (widest b)).2) / 2)) widest_in (by dsimp only; omega)
    have e2 := hasB_set (x := x) (b := b) (k := widest b) (h := (((gi b (widest b)).1 + (gi b (widest b)).2) / 2 + 1, (gi b (widest b)).2)) widest_in (by dsimp only; omega)
    simp only [List.filter_cons, List.filter_nil, e1, e2]
    cases y : hasB x b with
    | false => rfl
    | true =>
      have m := hasB_iff.mp y _ (widest_in (x := b))
      unfold iM at m
      by_cases q : gx x (widest b) ≤ ((gi b (widest b)).1 + (gi b (widest b)).2) / 2
      · rw [show iHas ((gi b (widest b)).1, ((gi b (widest b)).1 + (gi b (widest b)).2) / 2) (gx x (widest b)) = true from decide_eq_true ⟨m.1, q⟩, show iHas (((gi b (widest b)).1 + (gi b (widest b)).2) / 2 + 1, (gi b (widest b)).2) (gx x (widest b)) = false from decide_eq_false (fun z => by have := z.1; dsimp only at this; omega)]
        rfl
      · rw [show iHas ((gi b (widest b)).1, ((gi b (widest b)).1 + (gi b (widest b)).2) / 2) (gx x (widest b)) = false from decide_eq_false (fun z => q z.2), show iHas (((gi b (widest b)).1 + (gi b (widest b)).2) / 2 + 1, (gi b (widest b)).2) (gx x (widest b)) = true from decide_eq_true ⟨by dsimp only; omega, m.2⟩]
        rfl
theorem cnt_app {x : Pv} {l m : List Bp} : cnt x (l ++ m) = cnt x l + cnt x m := by unfold cnt; rw [List.filter_append, List.length_append]
theorem cnt_flat {x : Pv} {l : List Bp} (h : ∀ b ∈ l, wfB b) : cnt x (l.flatMap halvesB) = cnt x l := by
  induction l with
  | nil => rfl
  | cons b l ih =>
    rw [List.flatMap_cons, cnt_app, cnt_halves (h b (.head _)), ih fun c hc => h c (.tail _ hc), show b :: l = [b] ++ l from rfl, cnt_app]
theorem flat_wf {l : List Bp} (h : ∀ b ∈ l, wfB b) : ∀ b ∈ l.flatMap halvesB, wfB b := fun b hb => by
  obtain ⟨c, hc, h1⟩ := List.mem_flatMap.mp hb
  exact halves_wf (h c hc) h1
theorem cnt_parts {x : Pv} {n : Nat} {l : List Bp} (h : ∀ b ∈ l, wfB b) : cnt x (partsL n l) = cnt x l := by
  induction n generalizing l with
  | zero => rfl
  | succ n ih =>
    show cnt x (partsL n (l.flatMap halvesB)) = _
    rw [ih (flat_wf h), cnt_flat h]
theorem halves_len {b : Bp} : (halvesB b).length ≤ 2 := by unfold halvesB; split <;> simp
theorem flat_len {l : List Bp} : (l.flatMap halvesB).length ≤ 2 * l.length := by
  induction l with
  | nil => exact Nat.le_refl _
  | cons b l ih =>
    rw [List.flatMap_cons, List.length_append, List.length_cons]
    have := halves_len (b := b)
    omega
theorem wfB_of {b : Bp} (h1 : bWf b.1) (h2 : bWf b.2) : wfB b := fun k hk => by
  rcases six hk with rfl | rfl | rfl | rfl | rfl | rfl
  · exact h1.1
  · exact h1.2.1
  · exact h1.2.2
  · exact h2.1
  · exact h2.2.1
  · exact h2.2.2
theorem wfB_to {b : Bp} (h : wfB b) : bWf b.1 ∧ bWf b.2 := ⟨⟨h 0 (by omega), h 1 (by omega), h 2 (by omega)⟩, ⟨h 3 (by omega), h 4 (by omega), h 5 (by omega)⟩⟩
theorem parts_wf {n : Nat} {l : List Bp} (h : ∀ b ∈ l, wfB b) : ∀ b ∈ partsL n l, wfB b := by
  induction n generalizing l with
  | zero => exact h
  | succ n ih => exact ih (flat_wf h)
theorem parts_len {n : Nat} {l : List Bp} : (partsL n l).length ≤ 2 ^ n * l.length := by
  induction n generalizing l with
  | zero => rw [Nat.pow_zero, Nat.one_mul]; exact Nat.le_refl _
  | succ n ih =>
    have h1 := ih (l := l.flatMap halvesB)
    have h2 := flat_len (l := l)
    have h3 := Nat.mul_le_mul_left (2 ^ n) h2
    rw [Nat.pow_succ, Nat.mul_assoc]
    exact Nat.le_trans h1 h3
theorem sideR {x : Bp} {k : Int} (h : 0 ≤ k ∧ k ≤ 5) : M.idxR [x.1.1, x.1.2.1, x.1.2.2, x.2.1, x.2.2.1, x.2.2.2] k = .ok (gi x k) := by
  rcases six h with rfl | rfl | rfl | rfl | rfl | rfl <;> rfl
/-! ### elevations -/
def uM : Int := 1000000000000000000
def elev (b s : Box) (m : Int) : Str :=
  if 0 ≤ (bInner (bSub b s) s).1 ∧ (bSqLen (bSub b s)).2 * (bSqLen s).2 * m * m ≤ (bInner (bSub b s) s).1 * (bInner (bSub b s) s).1 * uM then "sure"
  else if (bInner (bSub b s) s).2 < 0 ∨ (bInner (bSub b s) s).2 * (bInner (bSub b s) s).2 * uM < (bSqLen (bSub b s)).1 * (bSqLen s).1 * m * m then "never" else "possible"
def high (x s : Pt) (m : Int) : Prop := 0 ≤ pDot (pSub x s) s ∧ m * m * pDot (pSub x s) (pSub x s) * pDot s s ≤ uM * pDot (pSub x s) s * pDot (pSub x s) s
theorem mul4_le {a b c d m : Int} (h1 : 0 ≤ a) (h2 : a ≤ c) (h3 : 0 ≤ b) (h4 : b ≤ d) : a * b * m * m ≤ c * d * m * m := by
  rw [Int.mul_assoc (a * b), Int.mul_assoc (c * d)]
  exact mul_le_r (Int.mul_le_mul h2 h4 h3 (by omega)) sq_nn
theorem mm_eq {m t h : Int} : m * m * t * h = t * h * m * m := by
  rw [Int.mul_comm (m * m) t, Int.mul_assoc t, Int.mul_comm (m * m) h, ← Int.mul_assoc, ← Int.mul_assoc]
theorem uq_eq {q : Int} : uM * q * q = q * q * uM := by rw [Int.mul_assoc, Int.mul_comm]
theorem elev_sure {b s : Box} {m : Int} {x y : Pt} (hx : bM x b) (hy : bM y s) (h : elev b s m = "sure") : high x y m := by
  have hd := bM_sub hx hy
  have hq := bM_inner hd hy
  have ht := bM_sqLen hd
  have hh := bM_sqLen hy
  unfold elev at h
  split at h
  · rename_i z
    obtain ⟨z1, z2⟩ := z
    refine ⟨Int.le_trans z1 hq.1, ?_⟩
    rw [mm_eq, uq_eq]
    have h1 := mul4_le (m := m) (pDot_nn (p := pSub x y)) ht.2 (pDot_nn (p := y)) hh.2
    have h2 := sq_le z1 hq.1
    have h3 := mul_le_r (c := uM) h2 (by decide)
    omega
  · split at h
    · exact absurd h (by decide)
    · exact absurd h (by decide)
theorem elev_never {b s : Box} {m : Int} {x y : Pt} (hx : bM x b) (hy : bM y s) (h : elev b s m = "never") : ¬ high x y m := by
  have hd := bM_sub hx hy
  have hq := bM_inner hd hy
  have ht := bM_sqLen hd
  have hh := bM_sqLen hy
  unfold elev at h
  split at h
  · exact absurd h (by decide)
  · split at h
    · rename_i z
      rintro ⟨h1, h2⟩
      rcases z with z | z
      · have := hq.2; omega
      · rw [mm_eq, uq_eq] at h2
        have h3 := mul4_le (m := m) (bSqLen_nn (b := bSub b s)) ht.1 (bSqLen_nn (b := s)) hh.1
        have h4 := sq_le h1 hq.2
        have h5 := mul_le_r (c := uM) h4 (by decide)
        omega
    · exact absurd h (by decide)
theorem elev_one {b s : Box} {m : Int} : elev b s m ∈ (["sure", "never", "possible"] : List Str) := by
  unfold elev
  split
  · exact .head _
  · split
    · exact .tail _ (.head _)
    · exact .tail _ (.tail _ (.head _))
/-! ### light -/
def pCross (a b : Pt) : Pt := (a.2.1 * b.2.2 - a.2.2 * b.2.1, a.2.2 * b.1 - a.1 * b.2.2, a.1 * b.2.1 - a.2.1 * b.1)
def bCross (a b : Box) : Box := (iSub (iMul a.2.1 b.2.2) (iMul a.2.2 b.2.1), iSub (iMul a.2.2 b.1) (iMul a.1 b.2.2), iSub (iMul a.1 b.2.1) (iMul a.2.1 b.1))
theorem bM_cross {a b : Box} {p q : Pt} (h : bM p a) (g : bM q b) : bM (pCross p q) (bCross a b) := ⟨iM_sub (iM_mul h.2.1 g.2.2) (iM_mul h.2.2 g.2.1), iM_sub (iM_mul h.2.2 g.1) (iM_mul h.1 g.2.2), iM_sub (iM_mul h.1 g.2.1) (iM_mul h.2.1 g.1)⟩
instance {a b : Box} {n m : Nat} [BdB a n] [BdB b m] : BdB (bCross a b) (n + m + 1) := by unfold bCross; exact BdB.of inferInstance (by omega)
instance {a b : Pt} {n m : Nat} [BdP a n] [BdP b m] : BdP (pCross a b) (n + m + 1) := by unfold pCross; exact BdP.of inferInstance (by omega)
def light (b w : Box) (r : Int) : Str :=
  if (bInner b w).2 < 0 ∧ (bSqLen (bCross b w)).2 < r * r * (bSqLen w).1 then "dark"
  else if 0 ≤ (bInner b w).1 ∨ r * r * (bSqLen w).2 ≤ (bSqLen (bCross b w)).1 then "lit" else "either"
def shade (x w : Pt) (r : Int) : Prop := pDot x w < 0 ∧ pDot (pCross x w) (pCross x w) < r * r * pDot w w
theorem light_dark {b w : Box} {r : Int} {x y : Pt} (hx : bM x b) (hy : bM y w) (h : light b w r = "dark") : shade x y r := by
  have hq := bM_inner hx hy
  have hc := bM_sqLen (bM_cross hx hy)
  have hw := bM_sqLen hy
  unfold light at h
  split at h
  · rename_i z
    have := mul_le_l hw.1 (sq_nn (x := r))
    exact ⟨by have := hq.2; omega, by have := hc.2; omega⟩
  · split at h
    · exact absurd h (by decide)
    · exact absurd h (by decide)
theorem light_lit {b w : Box} {r : Int} {x y : Pt} (hx : bM x b) (hy : bM y w) (h : light b w r = "lit") : ¬ shade x y r := by
  have hq := bM_inner hx hy
  have hc := bM_sqLen (bM_cross hx hy)
  have hw := bM_sqLen hy
  unfold light at h
  split at h
  · exact absurd h (by decide)
  · split at h
    · rename_i z
      rintro ⟨h1, h2⟩
      have := mul_le_l hw.2 (sq_nn (x := r))
      have := hq.1
      have := hc.1
      omega
    · exact absurd h (by decide)
theorem light_one {b w : Box} {r : Int} : light b w r ∈ (["dark", "lit", "either"] : List Str) := by
  unfold light
  split
  · exact .head _
  · split
    · exact .tail _ (.head _)
    · exact .tail _ (.tail _ (.head _))
/-! ### breaches -/
abbrev Br := Int × Str
def wStep (mu ob drift : Int) (push : Box) (t : Int) (x y : Pv) : Option Br :=
  if x.1 = (0, 0, 0) then some (t, "centre")
  else if bHas (bWid push drift) (pSub (pSub y.2 x.2) (pPull mu ob x.1)) = true then (if y.1 = pAdd x.1 y.2 then none else some (t + 1, "step"))
  else some (t + 1, "push")
def unS (l : List (Int × Box)) (t : Int) (p : Pt) : Bool := l.any fun s => decide (s.1 = t) && !bHas s.2 p
def brF (W : Int → Pv → Pv → Option Br) (U : Int → Pt → Bool) : Int → List Pv → Option Br
  | _, [] => none
  | t, x :: r => if U t x.1 = true then some (t, "seen") else match r with
    | [] => none
    | y :: _ => match W t x y with
      | some b => some b
      | none => brF W U (t + 1) r
def breach (W : Int → Pv → Pv → Option Br) (U : Int → Pt → Bool) (start : Int) (place speed : Box) (mo : List Pv) : Option Br := match mo with
  | [] => none
  | x :: _ => if bHas place x.1 = true then (if bHas speed x.2 = true then brF W U start mo else some (start, "speed")) else some (start, "place")
section
variable {W : Int → Pv → Pv → Option Br} {U : Int → Pt → Bool}
theorem brF_ge (hW : ∀ t x y b, W t x y = some b → b.1 = t ∨ b.1 = t + 1) : ∀ {mo : List Pv} {t : Int} {b : Br}, brF W U t mo = some b → t ≤ b.1
  | [], _, _, h => by cases h
  | [x], t, b, h => by
    rw [brF] at h
    split at h
    · cases h; exact Int.le_refl _
    · cases h
  | x :: y :: r, t, b, h => by
    rw [brF] at h
    split at h
    · cases h; exact Int.le_refl _
    · split at h
      · rename_i b' e
        cases h
        have := hW _ _ _ _ e
        omega
      · have := brF_ge hW h
        omega
theorem brF_take (hW : ∀ t x y b, W t x y = some b → b.1 = t ∨ b.1 = t + 1) : ∀ {mo : List Pv} {t : Int} {b : Br}, brF W U t mo = some b → brF W U t (mo.take (b.1 - t).toNat) = none
  | [], _, _, h => by cases h
  | [x], t, b, h => by
    rw [brF] at h
    split at h
    · cases h
      dsimp only
      rw [Int.sub_self]; rfl
    · cases h
  | x :: y :: r, t, b, h => by
    rw [brF] at h
    split at h
    · cases h
      dsimp only
      rw [Int.sub_self]; rfl
    · rename_i u
      split at h
      · rename_i b' e
        cases h
        rcases hW _ _ _ _ e with q | q
        · rw [q, Int.sub_self]; rfl
        · rw [q, show (t + 1 - t).toNat = 1 by omega]
          show brF W U t [x] = none
          rw [brF, if_neg u]
      · rename_i e
        have g := brF_ge hW h
        have ih := brF_take hW h
        rw [show (b.1 - t).toNat = (b.1 - (t + 1)).toNat + 1 by omega, List.take_succ_cons]
        generalize (b.1 - (t + 1)).toNat = n at ih
        cases n with
        | zero =>
          rw [List.take_zero, brF, if_neg u]
        | succ n =>
          rw [List.take_succ_cons] at ih ⊢
          rw [brF, if_neg u]
          rw [e]
          exact ih
end
theorem wStep_at {mu ob drift : Int} {P : Int → Box} : ∀ t x y b, wStep mu ob drift (P t) t x y = some b → b.1 = t ∨ b.1 = t + 1 := by
  intro t x y b h
  unfold wStep at h
  split at h
  · cases h; exact .inl rfl
  · split at h
    · split at h
      · cases h
      · cases h; exact .inr rfl
    · cases h; exact .inr rfl
def brW : List Str := ["place", "speed", "seen", "centre", "push", "step"]
theorem wStep_w {mu ob drift : Int} {p : Box} {t : Int} {x y : Pv} {b : Br} (h : wStep mu ob drift p t x y = some b) : b.2 ∈ brW := by
  unfold wStep at h
  unfold brW
  split at h
  · cases h; exact .tail _ (.tail _ (.tail _ (.head _)))
  · split at h
    · split at h
      · cases h
      · cases h; exact .tail _ (.tail _ (.tail _ (.tail _ (.tail _ (.head _)))))
    · cases h; exact .tail _ (.tail _ (.tail _ (.tail _ (.head _))))
theorem brF_w {W : Int → Pv → Pv → Option Br} {U : Int → Pt → Bool} (hW : ∀ t x y b, W t x y = some b → b.2 ∈ brW) : ∀ {mo : List Pv} {t : Int} {b : Br}, brF W U t mo = some b → b.2 ∈ brW
  | [], _, _, h => by cases h
  | [x], t, b, h => by
    rw [brF] at h
    split at h
    · cases h; exact .tail _ (.tail _ (.head _))
    · cases h
  | x :: y :: r, t, b, h => by
    rw [brF] at h
    split at h
    · cases h; exact .tail _ (.tail _ (.head _))
    · split at h
      · rename_i b' e
        cases h
        exact hW _ _ _ _ e
      · exact brF_w hW h
theorem breach_w {W : Int → Pv → Pv → Option Br} {U : Int → Pt → Bool} (hW : ∀ t x y b, W t x y = some b → b.2 ∈ brW) {s : Int} {p v : Box} {mo : List Pv} {b : Br} (h : breach W U s p v mo = some b) : b.2 ∈ brW := by
  unfold breach at h
  split at h
  · cases h
  · split at h
    · split at h
      · exact brF_w hW h
      · cases h; exact .tail _ (.head _)
    · cases h; exact .head _
namespace M
def brK (W : Int → Pv → Pv → Option Br) (t : Int) (x : Pv) (o : Option Pv) (nx : Rs (Option Br)) : Rs (Option Br) := match o with
  | none => nx
  | some y => match W t x y with
    | some b => .ok (some b)
    | none => nx
theorem br_loop {W : Int → Pv → Pv → Option Br} {U : Int → Pt → Bool} {F : Int → Unit → (Unit → Rs (Option Br)) → (Unit → Rs (Option Br)) → Rs (Option Br)} {mo : List Pv} {start : Int}
    (hF : ∀ (k : Nat) x nx bk, mo[k]? = some x → F k () nx bk = if U (start + k) x.1 = true then .ok (some (start + k, "seen")) else brK W (start + k) x mo[k + 1]? (nx ())) :
    forC F (fun _ => .ok none) (rngL 0 mo.length) () = .ok (brF W U start mo) := by
  have main : ∀ (n k : Nat), k + n = mo.length → forC F (fun _ => .ok none) (rngL k mo.length) () = .ok (brF W U (start + k) (mo.drop k)) := by
    intro n
    induction n with
    | zero =>
      intro k e
      rw [rngL_nil (by omega), List.drop_eq_nil_of_le (by omega)]
      rfl
    | succ n ih =>
      intro k e
      have hk : k < mo.length := by omega
      rw [rngL_cons (by omega), forC_cons, List.drop_eq_getElem_cons hk]
      have h1 : mo[k]? = some mo[k] := List.getElem?_eq_getElem hk
      rw [hF k _ _ _ h1, brF.eq_def]
      dsimp only
      by_cases u : U (start + k) mo[k].1 = true
      · rw [if_pos u, if_pos u]
      · rw [if_neg u, if_neg u]
        have ih' := ih (k + 1) (by omega)
        rw [show ((k + 1 : Nat) : Int) = (k : Int) + 1 from rfl] at ih'
        unfold brK
        cases q : mo[k + 1]? with
        | none =>
          have hl := List.getElem?_eq_none_iff.mp q
          rw [List.drop_eq_nil_of_le hl] at ih' ⊢
          exact ih'
        | some y =>
          obtain ⟨hl, hy⟩ := List.getElem?_eq_some_iff.mp q
          dsimp only
          rw [List.drop_eq_getElem_cons hl] at ih' ⊢
          dsimp only
          rw [hy] at ih' ⊢
          cases W (start + k) mo[k] y with
          | some b => rfl
          | none =>
            dsimp only
            rw [show start + ((k : Int) + 1) = start + k + 1 by omega] at ih'
            exact ih'
  have := main mo.length 0 (by omega)
  rw [show start + ((0 : Nat) : Int) = start by omega, List.drop_zero] at this
  exact this
end M
end Q
namespace Q.M
theorem sat_ex {α : Type} {r : Rs α} {P : α → Prop} (h : r.sat P fun _ => False) : ∃ a, r = .ok a ∧ P a := by
  cases r with
  | ok a => exact ⟨a, rfl, h⟩
  | er x => exact h.elim
  | no => exact h.elim
theorem bind_eq {α β : Type} {r : Rs α} {f : α → Rs β} {b : β} {a : α} (h : r = .ok a) (g : f a = .ok b) : r.bind f = .ok b := by rw [h]; exact g
end Q.M

/-! Q0: journeys. -/
namespace Q
open PySem PySem.Spec L2
/-! ### narrower -/
def iLe (a b : Iv) : Prop := a.1 ≤ a.2 ∧ b.1 ≤ a.1 ∧ a.2 ≤ b.2
def bLe (a b : Box) : Prop := iLe a.1 b.1 ∧ iLe a.2.1 b.2.1 ∧ iLe a.2.2 b.2.2
theorem iLe.l {a b : Iv} (h : iLe a b) : iM a.1 b := by unfold iLe at h; unfold iM; omega
theorem iLe.r {a b : Iv} (h : iLe a b) : iM a.2 b := by unfold iLe at h; unfold iM; omega
theorem iLe.ll {a b : Iv} (h : iLe a b) : iM a.1 a := by unfold iLe at h; unfold iM; omega
theorem iLe.rr {a b : Iv} (h : iLe a b) : iM a.2 a := by unfold iLe at h; unfold iM; omega
theorem iLe.refl {a : Iv} (h : iWf a) : iLe a a := ⟨h, Int.le_refl _, Int.le_refl _⟩
theorem bLe.refl {a : Box} (h : bWf a) : bLe a a := ⟨.refl h.1, .refl h.2.1, .refl h.2.2⟩
theorem iLe.trans {a b c : Iv} (h : iLe a b) (g : iLe b c) : iLe a c := by unfold iLe at *; omega
theorem bLe.trans {a b c : Box} (h : bLe a b) (g : bLe b c) : bLe a c := ⟨h.1.trans g.1, h.2.1.trans g.2.1, h.2.2.trans g.2.2⟩
theorem bLe.wf {a b : Box} (h : bLe a b) : bWf a := ⟨h.1.1, h.2.1.1, h.2.2.1⟩
theorem bLe.wf2 {a b : Box} (h : bLe a b) : bWf b := by unfold bLe iLe at h; unfold bWf iWf; omega
theorem bLe.isIn {a b : Box} (h : bLe a b) : bIn a b = true := by
  unfold bIn iIn
  rw [decide_eq_true h.1.2, decide_eq_true h.2.1.2, decide_eq_true h.2.2.2]; rfl
theorem iLe_add {a b c d : Iv} (h : iLe a c) (g : iLe b d) : iLe (iAdd a b) (iAdd c d) := by unfold iLe iAdd at *; dsimp only; omega
theorem iLe_sub {a b c d : Iv} (h : iLe a c) (g : iLe b d) : iLe (iSub a b) (iSub c d) := by unfold iLe iSub at *; dsimp only; omega
theorem iLe_wid {a b : Iv} {n m : Int} (h : iLe a b) (h0 : 0 ≤ n) (g : n ≤ m) : iLe (iWid a n) (iWid b m) := by unfold iLe iWid at *; dsimp only; omega
theorem bLe_add {a b c d : Box} (h : bLe a c) (g : bLe b d) : bLe (bAdd a b) (bAdd c d) := ⟨iLe_add h.1 g.1, iLe_add h.2.1 g.2.1, iLe_add h.2.2 g.2.2⟩
theorem bLe_wid {a b : Box} {n m : Int} (h : bLe a b) (h0 : 0 ≤ n) (g : n ≤ m) : bLe (bWid a n) (bWid b m) := ⟨iLe_wid h.1 h0 g, iLe_wid h.2.1 h0 g, iLe_wid h.2.2 h0 g⟩
theorem iLe_scale {a b : Iv} {n : Int} (h : iLe a b) : iLe (iScale a n) (iScale b n) := by
  have e1 := iM_scale (n := n) h.l
  have e2 := iM_scale (n := n) h.r
  have w := iM_scale (n := n) h.ll
  refine ⟨Int.le_trans w.1 w.2, ?_⟩
  by_cases z : n < 0
  · simp only [iScale, if_pos z] at e1 e2 ⊢
    exact ⟨e2.1, e1.2⟩
  · simp only [iScale, if_neg z] at e1 e2 ⊢
    exact ⟨e1.1, e2.2⟩
theorem iLe_mul {a b c d : Iv} (h : iLe a c) (g : iLe b d) : iLe (iMul a b) (iMul c d) := by
  have e1 := iM_mul h.l g.l
  have e2 := iM_mul h.l g.r
  have e3 := iM_mul h.r g.l
  have e4 := iM_mul h.r g.r
  have w := iM_mul h.ll g.ll
  refine ⟨Int.le_trans w.1 w.2, ?_, ?_⟩ <;> generalize iMul c d = q at * <;> unfold iM at * <;> unfold iMul <;> dsimp only <;> omega
theorem iLe_sq {a b : Iv} (h : iLe a b) : iLe (iSq a) (iSq b) := by
  have e1 := iM_sq h.l
  have e2 := iM_sq h.r
  have w := iM_sq h.ll
  have h1 := h.1
  have e3 : ¬ 0 ≤ a.1 → ¬ a.2 ≤ 0 → iM 0 (iSq b) := fun y z => by
    have : iM 0 b := by unfold iLe at h; unfold iM; omega
    exact iM_sq this
  refine ⟨Int.le_trans w.1 w.2, ?_, ?_⟩ <;> generalize iSq b = q at * <;> unfold iM at * <;> unfold iSq <;> split <;> try (dsimp only; omega)
  · split
    · dsimp only; omega
    · rename_i y z; exact (e3 y z).1
  · split
    · dsimp only; omega
    · dsimp only; omega
theorem iLe_quo {a b c d : Iv} (hd : 0 < d.1) (h : iLe a c) (g : iLe b d) : iLe (iQuo a b) (iQuo c d) := by
  have e1 := iM_quo hd h.l g.l
  have e2 := iM_quo hd h.l g.r
  have e3 := iM_quo hd h.r g.l
  have e4 := iM_quo hd h.r g.r
  have w := iM_quo (show 0 < b.1 by have := g.2.1; omega) h.ll g.ll
  refine ⟨Int.le_trans w.1 w.2, ?_, ?_⟩ <;> generalize iQuo c d = q at * <;> unfold iM at * <;> unfold iQuo <;> dsimp only
  · generalize a.1 / b.1 = x1 at *
    generalize a.1 / b.2 = x2 at *
    omega
  · generalize a.2 / b.1 = x1 at *
    generalize a.2 / b.2 = x2 at *
    omega
theorem iLe_root {a b : Iv} (h : iLe a b) (h0 : 0 ≤ a.1) : iLe (iRoot a) (iRoot b) := by
  obtain ⟨h1, h2, h3⟩ := h
  exact ⟨isq_mono (by omega) (by omega), isq_mono (by omega) (by omega), isq_mono (by omega) h3⟩
theorem bLe_sqLen {a b : Box} (h : bLe a b) : iLe (bSqLen a) (bSqLen b) := iLe_add (iLe_add (iLe_sq h.1) (iLe_sq h.2.1)) (iLe_sq h.2.2)
theorem bLe_pull {mu ob : Int} {a b c : Box} (h : bLe a b) (e : bPull mu ob b = some c) : ∃ d, bPull mu ob a = some d ∧ bLe d c := by
  unfold bPull at e ⊢
  split at e
  · cases e
  rename_i z
  cases e
  have l := bLe_sqLen h
  have p := bSqLen_pos h.wf2 z
  have z2 : (bSqLen a).1 ≠ 0 := by have := l.2.1; have := p.1; omega
  rw [if_neg z2]
  have p2 := bSqLen_pos h.wf z2
  have lD : iLe (bD a) (bD b) := iLe_mul l (iLe_root l (by have := p2.1; omega))
  have lE : iLe (bE a) (bE b) := iLe_mul (iLe_mul l l) lD
  have lH : iLe (iScale (iSq a.2.2) 5) (iScale (iSq b.2.2) 5) := iLe_scale (iLe_sq h.2.2)
  have pC : ∀ {x y : Iv} {f : Int}, iLe x y → iLe (bPullC mu ob (bSqLen a) (bD a) (bE a) (iScale (iSq a.2.2) 5) x f) (bPullC mu ob (bSqLen b) (bD b) (bE b) (iScale (iSq b.2.2) 5) y f) := fun {x y f} g =>
    iLe_add (iLe_quo (bD_pos h.wf2 z).1 (iLe_scale g) lD) (iLe_quo (bE_pos h.wf2 z).1 (iLe_scale (iLe_mul g (iLe_sub lH (iLe_scale l)))) lE)
  exact ⟨_, rfl, pC h.1, pC h.2.1, pC h.2.2⟩
theorem iSize_le {a b : Iv} (h : iLe a b) : iSize a ≤ iSize b := by
  unfold iLe at h
  unfold iSize
  omega
theorem bSize_le {a b : Box} (h : bLe a b) : bSize a ≤ bSize b := by
  have h1 := iSize_le h.1
  have h2 := iSize_le h.2.1
  have h3 := iSize_le h.2.2
  unfold bSize
  omega
def sLe (a b : Stt) : Prop := bLe a.place b.place ∧ bLe a.speed b.speed
theorem sLe.refl {a : Stt} (h : bWf a.place) (g : bWf a.speed) : sLe a a := ⟨.refl h, .refl g⟩
theorem sLe.isIn {a b : Stt} (h : sLe a b) : (bIn a.place b.place && bIn a.speed b.speed) = true := by rw [h.1.isIn, h.2.isIn]; rfl
theorem sLe_step {mu ob d e : Int} {s t x : Stt} {p q : Box} (h : sLe s t) (hp : bLe p q) (h0 : 0 ≤ d) (hd : d ≤ e) (r : sStep mu ob t q e = some x) : ∃ y, sStep mu ob s p d = some y ∧ sLe y x := by
  unfold sStep at r ⊢
  split at r
  · cases r
  rename_i c hc
  split at r
  · cases r
  rename_i z
  cases r
  obtain ⟨f, hf, lf⟩ := bLe_pull h.1 hc
  have l1 := bLe_wid (bLe_add (bLe_add h.2 lf) hp) h0 hd
  have l2 := bLe_add h.1 l1
  have z1 := bSize_le l1
  have z2 := bSize_le l2
  rw [hf]
  dsimp only
  rw [if_neg (fun q => z (q.elim (fun q => .inl (Int.lt_of_lt_of_le q z2)) fun q => .inr (Int.lt_of_lt_of_le q z1)))]
  exact ⟨_, rfl, l2, l1⟩
theorem iMeet_inv {a b c : Iv} (h : iMeet a b = some c) : c = (max a.1 b.1, min a.2 b.2) ∧ iWf c := by
  unfold iMeet at h
  split at h
  · cases h
  · cases h
    exact ⟨rfl, by unfold iWf; dsimp only; omega⟩
theorem bMeet_inv {a b c : Box} (h : bMeet a b = some c) : c = bBoth a b ∧ bWf c := by
  unfold bMeet at h
  split at h
  · rename_i x y z hx hy hz
    cases h
    obtain ⟨rfl, w1⟩ := iMeet_inv hx
    obtain ⟨rfl, w2⟩ := iMeet_inv hy
    obtain ⟨rfl, w3⟩ := iMeet_inv hz
    exact ⟨rfl, w1, w2, w3⟩
  · cases h
theorem sLe_cut {s t y : Stt} {b : Box} (h : sLe s t) (e : sCut s b = some y) : ∃ x, sCut t b = some x ∧ sLe y x := by
  unfold sCut at e ⊢
  cases hm : bMeet s.place b with
  | none => rw [hm] at e; cases e
  | some p =>
    rw [hm] at e
    cases e
    obtain ⟨rfl, w⟩ := bMeet_inv hm
    have one : ∀ {a c d : Iv}, iLe a c → iWf (max a.1 d.1, min a.2 d.2) → iLe (max a.1 d.1, min a.2 d.2) (max c.1 d.1, min c.2 d.2) := fun {a c d} l w => by
      unfold iLe at l ⊢
      unfold iWf at w
      dsimp only at *
      omega
    have l2 : bLe (bBoth s.place b) (bBoth t.place b) := ⟨one h.1.1 w.1, one h.1.2.1 w.2.1, one h.1.2.2 w.2.2⟩
    rw [bMeet_some l2.wf2]
    exact ⟨_, rfl, l2, h.2⟩
theorem sLe_cut_in {s y : Stt} {b : Box} (hs : bWf s.speed) (e : sCut s b = some y) : sLe y s := by
  unfold sCut at e
  cases hm : bMeet s.place b with
  | none => rw [hm] at e; cases e
  | some p =>
    rw [hm] at e
    cases e
    obtain ⟨rfl, w⟩ := bMeet_inv hm
    have one : ∀ {a d : Iv}, iWf (max a.1 d.1, min a.2 d.2) → iLe (max a.1 d.1, min a.2 d.2) a := fun {a d} w => by
      unfold iLe
      unfold iWf at w
      dsimp only at *
      omega
    exact ⟨⟨one w.1, one w.2.1, one w.2.2⟩, .refl hs⟩
/-! ### journeys -/
def lim : Int := 10000000000000000000000000000000000000000
def sOk (s : Stt) : Prop := bOk lim s.place ∧ bOk lim s.speed
theorem iOk_of {m : Int} {a : Iv} (h : iWf a) (g : iSize a ≤ m) : iOk m a := by
  unfold iSize at g
  unfold iWf at h
  unfold iOk
  omega
theorem bOk_of {m : Int} {b : Box} (h : bWf b) (g : bSize b ≤ m) : bOk m b := by
  unfold bSize at g
  exact ⟨iOk_of h.1 (by omega), iOk_of h.2.1 (by omega), iOk_of h.2.2 (by omega)⟩
theorem iLe.ok {m : Int} {a b : Iv} (h : iLe a b) (g : iOk m b) : iOk m a := by unfold iLe at h; unfold iOk at *; omega
theorem bLe.ok {m : Int} {a b : Box} (h : bLe a b) (g : bOk m b) : bOk m a := ⟨h.1.ok g.1, h.2.1.ok g.2.1, h.2.2.ok g.2.2⟩
theorem sStep_sok {mu ob d : Int} {s x : Stt} {p : Box} (h : bWf s.place) (g : bWf s.speed) (hp : bWf p) (h0 : 0 ≤ d) (e : sStep mu ob s p d = some x) : sOk x := by
  obtain ⟨y, hy, l⟩ := sLe_step (sLe.refl h g) (.refl hp) h0 (Int.le_refl d) e
  rw [e] at hy
  cases hy
  unfold sStep at e
  split at e
  · cases e
  split at e
  · cases e
  rename_i z
  cases e
  exact ⟨bOk_of l.1.wf (Int.not_lt.mp fun q => z (.inl q)), bOk_of l.2.wf (Int.not_lt.mp fun q => z (.inr q))⟩
theorem sLe.sok {a b : Stt} (h : sLe a b) (g : sOk b) : sOk a := ⟨h.1.ok g.1, h.2.ok g.2⟩
theorem sCut_sok {s x : Stt} {b : Box} (h : sOk s) (e : sCut s b = some x) : sOk x := (sLe_cut_in h.2.wf e).sok h
def sAt : List Sight → Int → Option Box
  | [], _ => none
  | s :: l, t => if s.at_ = t then some s.place else sAt l t
def cutA (l : List Stt) (o : Option Box) : List Stt := match o with
  | none => l
  | some b => l.filterMap fun s => sCut s b
def stepA (F : Stt → Option Stt) : List Stt → Option (List Stt)
  | [] => some []
  | s :: l => match F s with
    | none => none
    | some x => match stepA F l with
      | none => none
      | some r => some (x :: r)
def jGo (S : Int → List Stt → Option (List Stt)) (C : Int → List Stt → List Stt) : Nat → Int → List Stt → List Mom × Str × Option Int
  | 0, _, _ => ([], "whole", none)
  | n + 1, t, l => match S (t - 1) l with
    | none => ([], "lost", some t)
    | some r => if C t r = [] then ([], "void", some t) else (⟨t, C t r⟩ :: (jGo S C n (t + 1) (C t r)).1, (jGo S C n (t + 1) (C t r)).2.1, (jGo S C n (t + 1) (C t r)).2.2)
def jS (mu ob : Int) (c : Craft) (t : Int) (l : List Stt) : Option (List Stt) := stepA (fun s => sStep mu ob s (pushC c t) c.drift) l
def jC (c : Craft) (t : Int) (l : List Stt) : List Stt := cutA l (sAt c.sights t)
def jFirst (c : Craft) (f : Int) : List Stt := cutA ((partsL f.toNat [(c.place, c.speed)]).map toS) (sAt c.sights c.start)
def jMk (mu ob : Int) (c : Craft) (f u : Int) : Jour :=
  if u < c.start then ⟨[], "whole", none⟩
  else if jFirst c f = [] then ⟨[], "void", some c.start⟩
  else ⟨⟨c.start, jFirst c f⟩ :: (jGo (jS mu ob c) (jC c) (u - c.start).toNat (c.start + 1) (jFirst c f)).1, (jGo (jS mu ob c) (jC c) (u - c.start).toNat (c.start + 1) (jFirst c f)).2.1, (jGo (jS mu ob c) (jC c) (u - c.start).toNat (c.start + 1) (jFirst c f)).2.2⟩
structure cOk (c : Craft) : Prop where
  pl : bOk lim c.place
  sp : bOk lim c.speed
  dr : 0 ≤ c.drift
  pu : ∀ t, bWf (pushC c t)
def lOk (l : List Stt) : Prop := l.length ≤ 64 ∧ ∀ s ∈ l, sOk s
theorem stepA_len {F : Stt → Option Stt} {l r : List Stt} (h : stepA F l = some r) : r.length = l.length := by
  induction l generalizing r with
  | nil => cases h; rfl
  | cons s l ih =>
    unfold stepA at h
    split at h
    · cases h
    split at h
    · cases h
    rename_i q hq
    cases h
    rw [List.length_cons, List.length_cons, ih hq]
theorem stepA_mem {F : Stt → Option Stt} {l r : List Stt} (h : stepA F l = some r) : (∀ x ∈ r, ∃ s ∈ l, F s = some x) ∧ ∀ s ∈ l, ∃ x ∈ r, F s = some x := by
  induction l generalizing r with
  | nil => cases h; exact ⟨fun x hx => (nomatch hx), fun x hx => (nomatch hx)⟩
  | cons s l ih =>
    unfold stepA at h
    split at h
    · cases h
    rename_i y hy
    split at h
    · cases h
    rename_i q hq
    cases h
    obtain ⟨h1, h2⟩ := ih hq
    refine ⟨fun x hx => ?_, fun x hx => ?_⟩
    · rcases List.mem_cons.mp hx with rfl | z
      · exact ⟨s, .head _, hy⟩
      · obtain ⟨s', m, e⟩ := h1 x z
        exact ⟨s', .tail _ m, e⟩
    · rcases List.mem_cons.mp hx with rfl | z
      · exact ⟨y, .head _, hy⟩
      · obtain ⟨s', m, e⟩ := h2 x z
        exact ⟨s', .tail _ m, e⟩
theorem stepA_all {F : Stt → Option Stt} {l : List Stt} (h : ∀ s ∈ l, ∃ x, F s = some x) : ∃ r, stepA F l = some r := by
  induction l with
  | nil => exact ⟨_, rfl⟩
  | cons s l ih =>
    obtain ⟨x, hx⟩ := h s (.head _)
    obtain ⟨r, hr⟩ := ih fun t ht => h t (.tail _ ht)
    exact ⟨x :: r, by unfold stepA; rw [hx, hr]⟩
theorem cutA_len {l : List Stt} {o : Option Box} : (cutA l o).length ≤ l.length := by
  cases o with
  | none => exact Nat.le_refl _
  | some b => exact List.length_filterMap_le _ _
theorem cutA_mem {l : List Stt} {o : Option Box} {x : Stt} (h : x ∈ cutA l o) : (o = none ∧ x ∈ l) ∨ ∃ b, o = some b ∧ ∃ s ∈ l, sCut s b = some x := by
  cases o with
  | none => exact .inl ⟨rfl, h⟩
  | some b =>
    obtain ⟨s, hs, e⟩ := List.mem_filterMap.mp h
    exact .inr ⟨b, rfl, s, hs, e⟩
theorem lOk.step {mu ob : Int} {c : Craft} {t : Int} {l r : List Stt} (hc : cOk c) (h : lOk l) (e : jS mu ob c t l = some r) : lOk r := by
  refine ⟨by rw [stepA_len e]; exact h.1, fun x hx => ?_⟩
  obtain ⟨s, hs, e'⟩ := (stepA_mem e).1 x hx
  have := h.2 s hs
  exact sStep_sok this.1.wf this.2.wf (hc.pu t) hc.dr e'
theorem lOk.cut {l : List Stt} {o : Option Box} (h : lOk l) : lOk (cutA l o) := by
  refine ⟨Nat.le_trans cutA_len h.1, fun x hx => ?_⟩
  rcases cutA_mem hx with ⟨_, z⟩ | ⟨b, _, s, hs, e⟩
  · exact h.2 x z
  · exact sCut_sok (h.2 s hs) e
theorem halves_le {b c : Bp} (h : wfB b) (g : c ∈ halvesB b) : sLe (toS c) (toS b) := by
  have wc := halves_wf h g
  have main : ∀ k : Int, 0 ≤ k ∧ k ≤ 5 → iLe (gi c k) (gi b k) := fun k hk => by
    refine ⟨wc k hk, ?_⟩
    have w := h _ (widest_in (x := b))
    unfold iWf at w
    unfold halvesB at g
    split at g
    · cases List.mem_singleton.mp g; exact ⟨Int.le_refl _, Int.le_refl _⟩
    · simp only [List.mem_cons, List.not_mem_nil, or_false] at g
      rcases g with rfl | rfl <;> rw [gi_set widest_in hk] <;> split <;> rename_i z
      · rw [z]; dsimp only; omega
      · exact ⟨Int.le_refl _, Int.le_refl _⟩
      · rw [z]; dsimp only; omega
      · exact ⟨Int.le_refl _, Int.le_refl _⟩
  exact ⟨⟨main 0 (by omega), main 1 (by omega), main 2 (by omega)⟩, ⟨main 3 (by omega), main 4 (by omega), main 5 (by omega)⟩⟩
theorem parts_sok {n : Nat} {l : List Bp} (h : ∀ b ∈ l, sOk (toS b)) : ∀ b ∈ partsL n l, sOk (toS b) := by
  induction n generalizing l with
  | zero => exact h
  | succ n ih =>
    refine ih fun b hb => ?_
    obtain ⟨c, hc, h1⟩ := List.mem_flatMap.mp hb
    have w := h c hc
    exact (halves_le (wfB_of w.1.wf w.2.wf) h1).sok w
theorem parts_snoc {n : Nat} {l : List Bp} : partsL (n + 1) l = (partsL n l).flatMap halvesB := by
  induction n generalizing l with
  | zero => rfl
  | succ n ih => exact ih (l := l.flatMap halvesB)
theorem jFirst_ok {c : Craft} (hc : cOk c) {f : Int} (h : f ≤ 6) : lOk (jFirst c f) := by
  refine lOk.cut ⟨?_, fun s hs => ?_⟩
  · rw [List.length_map]
    have h1 := parts_len (n := f.toNat) (l := [(c.place, c.speed)])
    have h2 : f.toNat ≤ 6 := by omega
    have := Nat.pow_le_pow_right (n := 2) (by decide) h2
    simp only [List.length_cons, List.length_nil] at h1
    omega
  · obtain ⟨b, hb, rfl⟩ := List.mem_map.mp hs
    exact parts_sok (l := [(c.place, c.speed)]) (fun b hb => by cases List.mem_singleton.mp hb; exact ⟨hc.pl, hc.sp⟩) b hb
/-- each of the second is within one of the first -/
def lLe (l m : List Stt) : Prop := ∀ s ∈ m, ∃ t ∈ l, sLe s t
theorem lLe.nil {m : List Stt} (h : lLe [] m) : m = [] := by
  cases m with
  | nil => rfl
  | cons s m => obtain ⟨t, ht, _⟩ := h s (.head _); cases ht

section
variable {S S' : Int → List Stt → Option (List Stt)} {C C' : Int → List Stt → List Stt}
theorem jGo_none {n : Nat} {t : Int} {l : List Stt} (h : S (t - 1) l = none) : jGo S C (n + 1) t l = ([], ("lost" : Str), some t) := by rw [jGo, h]
theorem jGo_void {n : Nat} {t : Int} {l r : List Stt} (h : S (t - 1) l = some r) (z : C t r = []) : jGo S C (n + 1) t l = ([], ("void" : Str), some t) := by
  rw [jGo, h]; dsimp only; rw [if_pos z]
theorem jGo_cons {n : Nat} {t : Int} {l r : List Stt} (h : S (t - 1) l = some r) (z : C t r ≠ []) : jGo S C (n + 1) t l = (⟨t, C t r⟩ :: (jGo S C n (t + 1) (C t r)).1, (jGo S C n (t + 1) (C t r)).2.1, (jGo S C n (t + 1) (C t r)).2.2) := by
  rw [jGo, h]; dsimp only; rw [if_neg z]
/-- how it ends -/
def jEnd (t : Int) (e : Str) (b : Option Int) : Prop := (e = "whole" ∧ b = none) ∨ (e = "lost" ∧ ∃ a, b = some a ∧ t ≤ a) ∨ (e = "void" ∧ ∃ a, b = some a ∧ t ≤ a)
theorem jGo_end : ∀ (n : Nat) (t : Int) (l : List Stt), jEnd t (jGo S C n t l).2.1 (jGo S C n t l).2.2 := by
  intro n
  induction n with
  | zero => intro t l; exact .inl ⟨rfl, rfl⟩
  | succ n ih =>
    intro t l
    cases e : S (t - 1) l with
    | none => rw [jGo_none e]; exact .inr (.inl ⟨rfl, t, rfl, Int.le_refl _⟩)
    | some r =>
      by_cases z : C t r = []
      · rw [jGo_void e z]; exact .inr (.inr ⟨rfl, t, rfl, Int.le_refl _⟩)
      · rw [jGo_cons e z]
        rcases ih (t + 1) (C t r) with h | ⟨h, a, h2, h3⟩ | ⟨h, a, h2, h3⟩
        · exact .inl h
        · exact .inr (.inl ⟨h, a, h2, by omega⟩)
        · exact .inr (.inr ⟨h, a, h2, by omega⟩)
theorem jGo_ne : ∀ (n : Nat) (t : Int) (l : List Stt) (m : Mom), m ∈ (jGo S C n t l).1 → m.states ≠ [] := by
  intro n
  induction n with
  | zero => intro t l m h; cases h
  | succ n ih =>
    intro t l m h
    cases e : S (t - 1) l with
    | none => rw [jGo_none e] at h; cases h
    | some r =>
      by_cases z : C t r = []
      · rw [jGo_void e z] at h; cases h
      · rw [jGo_cons e z] at h
        rcases List.mem_cons.mp h with rfl | h
        · exact z
        · exact ih _ _ _ h
theorem jGo_len : ∀ (n : Nat) (t : Int) (l : List Stt), (jGo S C n t l).1.length ≤ n := by
  intro n
  induction n with
  | zero => intro t l; exact Nat.le_refl _
  | succ n ih =>
    intro t l
    cases e : S (t - 1) l with
    | none => rw [jGo_none e]; exact Nat.zero_le _
    | some r =>
      by_cases z : C t r = []
      · rw [jGo_void e z]; exact Nat.zero_le _
      · rw [jGo_cons e z, List.length_cons]
        have := ih (t + 1) (C t r)
        omega
/-- how two journeys go together -/
structure jRel (R : List Stt → List Stt → Prop) (a b : List Mom × Str × Option Int) : Prop where
  st : ∀ (k : Nat) m m', a.1[k]? = some m → b.1[k]? = some m' → R m.states m'.states
  wh : a.2.1 = "whole" → b.2.1 = "whole" ∨ b.2.1 = "void"
  vo : a.2.1 = "void" → b.2.1 = "void" ∧ ∃ x y, a.2.2 = some x ∧ b.2.2 = some y ∧ y ≤ x
theorem jGo_rel {R : List Stt → List Stt → Prop} {lo u : Int} (hS : ∀ t l l' r, R l l' → S t l = some r → ∃ r', S' t l' = some r' ∧ R r r') (hC : ∀ t r r', lo ≤ t → t ≤ u → R r r' → R (C t r) (C' t r')) (hn : ∀ l, R [] l → l = []) :
    ∀ (n : Nat) (t : Int) (l l' : List Stt), lo ≤ t → t + n ≤ u + 1 → R l l' → jRel R (jGo S C n t l) (jGo S' C' n t l') := by
  intro n
  induction n with
  | zero =>
    intro t l l' b1 b2 h
    exact ⟨fun k m m' e => (by cases e), fun _ => .inl rfl, fun e => absurd (show ("whole" : Str) = "void" from e) (by decide)⟩
  | succ n ih =>
    intro t l l' b1 b2 h
    cases e1 : S (t - 1) l with
    | none =>
      rw [jGo_none e1]
      exact ⟨fun k m m' e => (by cases e), fun e => absurd (show ("lost" : Str) = "whole" from e) (by decide), fun e => absurd (show ("lost" : Str) = "void" from e) (by decide)⟩
    | some r =>
      obtain ⟨r', e2, h2⟩ := hS _ _ _ _ h e1
      have h3 := hC t r r' b1 (by omega) h2
      by_cases z : C t r = []
      · have z' : C' t r' = [] := hn _ (z ▸ h3)
        rw [jGo_void e1 z, jGo_void e2 z']
        exact ⟨fun k m m' e => (by cases e), fun e => absurd (show ("void" : Str) = "whole" from e) (by decide), fun _ => ⟨rfl, t, t, rfl, rfl, Int.le_refl _⟩⟩
      · by_cases z' : C' t r' = []
        · rw [jGo_cons e1 z, jGo_void e2 z']
          refine ⟨fun k m m' _ e => (by cases e), fun _ => .inr rfl, fun e => ⟨rfl, ?_⟩⟩
          rcases jGo_end n (t + 1) (C t r) with ⟨q, _⟩ | ⟨q, _⟩ | ⟨_, a, q, g⟩
          · exact absurd (q.symm.trans e) (by decide)
          · exact absurd (q.symm.trans e) (by decide)
          · exact ⟨a, t, q, rfl, by omega⟩
        · rw [jGo_cons e1 z, jGo_cons e2 z']
          have q := ih (t + 1) _ _ (by omega) (by omega) h3
          refine ⟨fun k m m' f g => ?_, q.wh, q.vo⟩
          cases k with
          | zero => cases f; cases g; exact h3
          | succ k => exact q.st k m m' f g
end
theorem w_v : ("whole" : Str) ≠ "void" := by decide
def jT (j : Jour) : List Mom × Str × Option Int := (j.moms, j.ending, j.broken)
theorem jMk_end {mu ob : Int} {c : Craft} {f u : Int} : jEnd c.start (jMk mu ob c f u).ending (jMk mu ob c f u).broken := by
  unfold jMk
  split
  · exact .inl ⟨rfl, rfl⟩
  · split
    · exact .inr (.inr ⟨rfl, _, rfl, Int.le_refl _⟩)
    · rcases jGo_end (S := jS mu ob c) (C := jC c) (u - c.start).toNat (c.start + 1) (jFirst c f) with h | ⟨h, a, h2, h3⟩ | ⟨h, a, h2, h3⟩
      · exact .inl h
      · exact .inr (.inl ⟨h, a, h2, by omega⟩)
      · exact .inr (.inr ⟨h, a, h2, by omega⟩)
theorem jMk_ne {mu ob : Int} {c : Craft} {f u : Int} {m : Mom} (h : m ∈ (jMk mu ob c f u).moms) : m.states ≠ [] := by
  unfold jMk at h
  split at h
  · cases h
  · split at h
    · cases h
    · rename_i z
      rcases List.mem_cons.mp h with rfl | h
      · exact z
      · exact jGo_ne _ _ _ _ h
theorem jMk_len {mu ob : Int} {c : Craft} {f u : Int} : (jMk mu ob c f u).moms.length ≤ (u - c.start).toNat + 1 := by
  unfold jMk
  split
  · exact Nat.zero_le _
  · split
    · exact Nat.zero_le _
    · exact Nat.succ_le_succ (jGo_len _ _ _)
theorem jMk_rel {mu ob : Int} {c c' : Craft} {f f' u : Int} {R : List Stt → List Stt → Prop} (hs : c'.start = c.start) (hS : ∀ t l l' r, R l l' → jS mu ob c t l = some r → ∃ r', jS mu ob c' t l' = some r' ∧ R r r') (hC : ∀ t r r', c.start ≤ t → t ≤ u → R r r' → R (jC c t r) (jC c' t r')) (hn : ∀ l, R [] l → l = []) (h : R (jFirst c f) (jFirst c' f')) : jRel R (jT (jMk mu ob c f u)) (jT (jMk mu ob c' f' u)) := by
  unfold jMk
  rw [hs]
  by_cases y : u < c.start
  · rw [if_pos y, if_pos y]
    exact ⟨fun k m m' e => (by cases e), fun _ => .inl rfl, fun e => absurd (show ("whole" : Str) = "void" from e) (by decide)⟩
  · rw [if_neg y, if_neg y]
    by_cases z : jFirst c f = []
    · have z' : jFirst c' f' = [] := hn _ (z ▸ h)
      rw [if_pos z, if_pos z']
      exact ⟨fun k m m' e => (by cases e), fun e => absurd (show ("void" : Str) = "whole" from e) (by decide), fun _ => ⟨rfl, _, _, rfl, rfl, Int.le_refl _⟩⟩
    · rw [if_neg z]
      by_cases z' : jFirst c' f' = []
      · rw [if_pos z']
        refine ⟨fun k m m' _ e => (by cases e), fun _ => .inr rfl, fun e => ⟨rfl, ?_⟩⟩
        rcases jGo_end (S := jS mu ob c) (C := jC c) (u - c.start).toNat (c.start + 1) (jFirst c f) with ⟨q, _⟩ | ⟨q, _⟩ | ⟨_, a, q, g⟩
        · exact absurd (q.symm.trans e) (by decide)
        · exact absurd (q.symm.trans e) (by decide)
        · exact ⟨a, c.start, q, rfl, by omega⟩
      · rw [if_neg z']
        have q := jGo_rel (lo := c.start) (u := u) hS hC hn (u - c.start).toNat (c.start + 1) _ _ (by omega) (by omega) h
        refine ⟨fun k m m' f g => ?_, q.wh, q.vo⟩
        cases k with
        | zero => cases f; cases g; exact h
        | succ k => exact q.st k m m' f g
theorem lLe_step {mu ob : Int} {c c' : Craft} (hp : ∀ t, bLe (pushC c' t) (pushC c t)) (h0 : 0 ≤ c'.drift) (h1 : c'.drift ≤ c.drift) {t : Int} {l l' r : List Stt} (h : lLe l l') (e : jS mu ob c t l = some r) : ∃ r', jS mu ob c' t l' = some r' ∧ lLe r r' := by
  obtain ⟨m1, m2⟩ := stepA_mem e
  have one : ∀ s ∈ l', ∃ y, sStep mu ob s (pushC c' t) c'.drift = some y ∧ ∃ x ∈ r, sLe y x := fun s hs => by
    obtain ⟨q, hq, hl⟩ := h s hs
    obtain ⟨x, hx, ex⟩ := m2 q hq
    obtain ⟨y, ey, ly⟩ := sLe_step hl (hp t) h0 h1 ex
    exact ⟨y, ey, x, hx, ly⟩
  obtain ⟨r', e'⟩ := stepA_all (F := fun s => sStep mu ob s (pushC c' t) c'.drift) (l := l') fun s hs => by
    obtain ⟨y, ey, _⟩ := one s hs
    exact ⟨y, ey⟩
  refine ⟨r', e', fun y hy => ?_⟩
  obtain ⟨s, hs, es⟩ := (stepA_mem e').1 y hy
  obtain ⟨y', ey, z⟩ := one s hs
  rw [es] at ey
  cases ey
  exact z
theorem lLe_cut {l l' : List Stt} {o o' : Option Box} (ho : ∀ b, o = some b → o' = some b) (h : lLe l l') : lLe (cutA l o) (cutA l' o') := by
  intro y hy
  rcases cutA_mem hy with ⟨q, z⟩ | ⟨b, q, s, hs, e⟩
  · cases o with
    | some b => rw [ho b rfl] at q; cases q
    | none => exact h y z
  · obtain ⟨x, hx, l1⟩ := h s hs
    cases o with
    | none => exact ⟨x, hx, ⟨(sLe_cut_in l1.2.wf e).1.trans l1.1, (sLe_cut_in l1.2.wf e).2.trans l1.2⟩⟩
    | some c =>
      have := ho c rfl
      rw [q] at this
      cases this
      obtain ⟨w, ew, lw⟩ := sLe_cut l1 e
      exact ⟨w, List.mem_filterMap.mpr ⟨x, hx, ew⟩, lw⟩

theorem Wd.Ok.cok {w : Wd} (h : w.Ok) {n : Str} {se : List (Int × Box)} : cOk (mkC n w se) := ⟨h.pl.ok (by decide), h.sp.ok (by decide), h.dr1, fun t => by rw [pushC_mk]; exact (h.push t).wf⟩
theorem jFirst_finer {c : Craft} (hc : cOk c) {f : Int} (h0 : 0 ≤ f) : lLe (jFirst c f) (jFirst c (f + 1)) := by
  refine lLe_cut (fun b e => e) fun s hs => ?_
  obtain ⟨b, hb, rfl⟩ := List.mem_map.mp hs
  rw [show (f + 1).toNat = f.toNat + 1 by omega, parts_snoc] at hb
  obtain ⟨p, hp, h1⟩ := List.mem_flatMap.mp hb
  have w := parts_sok (n := f.toNat) (l := [(c.place, c.speed)]) (fun b hb => by cases List.mem_singleton.mp hb; exact ⟨hc.pl, hc.sp⟩) p hp
  exact ⟨toS p, List.mem_map.mpr ⟨p, hp, rfl⟩, halves_le (wfB_of w.1.wf w.2.wf) h1⟩
theorem jMk_finer {mu ob : Int} {c : Craft} (hc : cOk c) {f u : Int} (h0 : 0 ≤ f) : jRel lLe (jT (jMk mu ob c f u)) (jT (jMk mu ob c (f + 1) u)) :=
  jMk_rel rfl (fun t l l' r h e => lLe_step (fun t => .refl (hc.pu t)) hc.dr (Int.le_refl _) h e) (fun t r r' _ _ h => lLe_cut (fun b e => e) h) (fun l h => lLe.nil h) (jFirst_finer hc h0)
namespace M
def all2 {α β : Type} (P : α → β → Prop) : List α → List β → Prop
  | [], [] => True
  | a :: l, b :: m => P a b ∧ all2 P l m
  | _, _ => False
theorem mapR_ex {α β : Type} {f : α → Rs β} {P : α → β → Prop} {l : List α} (h : ∀ a ∈ l, ∃ b, f a = .ok b ∧ P a b) : ∃ m, mapR f l = .ok m ∧ all2 P l m := by
  induction l with
  | nil => exact ⟨[], rfl, trivial⟩
  | cons a l ih =>
    obtain ⟨b, e, p⟩ := h a (.head _)
    obtain ⟨m, e2, p2⟩ := ih fun c hc => h c (.tail _ hc)
    refine ⟨b :: m, ?_, p, p2⟩
    rw [mapR_cons, e, e2]
    rfl
theorem all2.len {α β : Type} {P : α → β → Prop} : ∀ {l : List α} {m : List β}, all2 P l m → l.length = m.length
  | [], [], _ => rfl
  | a :: l, b :: m, h => congrArg (· + 1) (all2.len h.2)
theorem all2.mem {α β : Type} {P : α → β → Prop} : ∀ {l : List α} {m : List β}, all2 P l m → ∀ b ∈ m, ∃ a ∈ l, P a b
  | [], [], _, b, hb => nomatch hb
  | a :: l, c :: m, h, b, hb => by
    rcases List.mem_cons.mp hb with rfl | z
    · exact ⟨a, .head _, h.1⟩
    · obtain ⟨x, hx, p⟩ := all2.mem h.2 b z
      exact ⟨x, .tail _ hx, p⟩
end M
theorem pushL_le {l m : List Brn} (h : M.all2 (fun a b => b.1 = a.1 ∧ b.2.1 = a.2.1 ∧ bLe b.2.2 a.2.2) l m) (t : Int) : bLe (pushL m t) (pushL l t) := by
  induction l generalizing m with
  | nil =>
    cases m with
    | nil => exact .refl (by unfold pushL zBox; exact ⟨Int.le_refl _, Int.le_refl _, Int.le_refl _⟩)
    | cons b m => exact h.elim
  | cons a l ih =>
    cases m with
    | nil => exact h.elim
    | cons b m =>
      obtain ⟨⟨h1, h2, h3⟩, h4⟩ := h
      unfold pushL
      rw [h1, h2]
      split
      · exact h3
      · exact ih h4
theorem sAt_snoc {l : List Sight} {s : Sight} {t : Int} : sAt (l ++ [s]) t = match sAt l t with
    | some b => some b
    | none => if s.at_ = t then some s.place else none := by
  induction l with
  | nil => rfl
  | cons a l ih =>
    show sAt (a :: (l ++ [s])) t = _
    unfold sAt
    split
    · rfl
    · exact ih
theorem sAt_none {l : List Sight} {t : Int} (h : ∀ s ∈ l, s.at_ ≠ t) : sAt l t = none := by
  induction l with
  | nil => rfl
  | cons a l ih =>
    unfold sAt
    rw [if_neg (h a (.head _))]
    exact ih fun s hs => h s (.tail _ hs)
theorem known_at {se : List (Int × Box)} (up : se.Pairwise fun a b => a.1 < b.1) {t : Int} : (sAt (se.map mkS) t = none ∧ (se.filter fun p => decide (p.1 = t)) = []) ∨ ∃ b, sAt (se.map mkS) t = some b ∧ (t, b) ∈ se ∧ ((se.filter fun p => decide (p.1 = t)).map fun p => p.2) = [b] := by
  induction se with
  | nil => exact .inl ⟨rfl, rfl⟩
  | cons a l ih =>
    obtain ⟨u1, u2⟩ := List.pairwise_cons.mp up
    by_cases z : a.1 = t
    · refine .inr ⟨a.2, ?_, ?_, ?_⟩
      · show (if a.1 = t then _ else _) = _
        rw [if_pos z]; rfl
      · rw [← z]; exact .head _
      · have : (l.filter fun p => decide (p.1 = t)) = [] := List.filter_eq_nil_iff.mpr fun b hb => by
          have := u1 b hb
          rw [decide_eq_true_iff]; omega
        rw [List.filter_cons, decide_eq_true z, if_pos rfl, this]; rfl
    · have e1 : sAt ((a :: l).map mkS) t = sAt (l.map mkS) t := by
        show (if a.1 = t then _ else _) = _
        rw [if_neg z]
      have e2 : ((a :: l).filter fun p => decide (p.1 = t)) = l.filter fun p => decide (p.1 = t) := by rw [List.filter_cons, decide_eq_false z, if_neg (fun h => nomatch h)]
      rw [e1, e2]
      rcases ih u2 with h | ⟨b, h1, h2, h3⟩
      · exact .inl h
      · exact .inr ⟨b, h1, .tail _ h2, h3⟩
end Q

/-! Q1: journeys that hold motions; hulls; gaps. -/
namespace Q
open PySem PySem.Spec L2
/-- a motion that obeys a craft's data -/
structure Obs (mu ob : Int) (c : Craft) (mo : List Pv) : Prop where
  hd : ∀ x, mo[0]? = some x → sMem x ⟨c.place, c.speed⟩
  st : ∀ (k : Nat) x y, mo[k]? = some x → mo[k + 1]? = some y → bM (pSub (pSub y.2 x.2) (pPull mu ob x.1)) (bWid (pushC c (c.start + k)) c.drift) ∧ y.1 = pAdd x.1 y.2
  se : ∀ (k : Nat) x b, mo[k]? = some x → sAt c.sights (c.start + k) = some b → bM x.1 b
theorem Obs.take {mu ob : Int} {c : Craft} {mo : List Pv} (o : Obs mu ob c mo) (n : Nat) : Obs mu ob c (mo.take n) where
  hd := fun x h => o.hd x (by rw [List.getElem?_take] at h; split at h <;> first | exact h | cases h)
  st := fun k x y h g => o.st k x y (by rw [List.getElem?_take] at h; split at h <;> first | exact h | cases h) (by rw [List.getElem?_take] at g; split at g <;> first | exact g | cases g)
  se := fun k x b h => o.se k x b (by rw [List.getElem?_take] at h; split at h <;> first | exact h | cases h)
theorem iM_ob {v p w : Int} {s a q : Iv} {d : Int} (h1 : iM v s) (h2 : iM p a) (h3 : iM (w - v - p) (iWid q d)) : iM w (iWid (iAdd (iAdd s a) q) d) := by
  unfold iM iWid iAdd at *; dsimp only at *; omega
theorem sStep_ob {mu ob : Int} {s s' : Stt} {push : Box} {drift : Int} {x y : Pv} (h : sMem x s) (hb : bM (pSub (pSub y.2 x.2) (pPull mu ob x.1)) (bWid push drift)) (hy : y.1 = pAdd x.1 y.2) (e : sStep mu ob s push drift = some s') : sMem y s' := by
  unfold sStep at e
  split at e
  · cases e
  rename_i a ha
  split at e
  · cases e
  cases e
  have hp := bPull_in h.1 ha
  have hw : bM y.2 (bWid (bAdd (bAdd s.speed a) push) drift) := ⟨iM_ob h.2.1 hp.1 hb.1, iM_ob h.2.2.1 hp.2.1 hb.2.1, iM_ob h.2.2.2 hp.2.2 hb.2.2⟩
  exact ⟨hy ▸ bM_add h.1 hw, hw⟩
theorem cutA_in {l : List Stt} {o : Option Box} {x : Pv} (h : ∃ s ∈ l, sMem x s) (g : ∀ b, o = some b → bM x.1 b) : ∃ s ∈ cutA l o, sMem x s := by
  obtain ⟨s, hs, m⟩ := h
  cases o with
  | none => exact ⟨s, hs, m⟩
  | some b =>
    obtain ⟨t, ht, mt⟩ := sCut_in m (g b rfl)
    exact ⟨t, List.mem_filterMap.mpr ⟨s, hs, ht⟩, mt⟩
theorem jS_in {mu ob : Int} {c : Craft} {mo : List Pv} (o : Obs mu ob c mo) {k : Nat} {l r : List Stt} (h : ∀ x, mo[k]? = some x → ∃ s ∈ l, sMem x s) (e : jS mu ob c (c.start + k) l = some r) : ∀ y, mo[k + 1]? = some y → ∃ s ∈ r, sMem y s := by
  intro y hy
  have hk : k < mo.length := by have := (List.getElem?_eq_some_iff.mp hy).1; omega
  obtain ⟨s, hs, m⟩ := h _ (List.getElem?_eq_getElem hk)
  obtain ⟨t, ht, et⟩ := (stepA_mem e).2 s hs
  obtain ⟨s1, s2⟩ := o.st k _ y (List.getElem?_eq_getElem hk) hy
  exact ⟨t, ht, sStep_ob m s1 s2 et⟩
theorem jGo_at {S : Int → List Stt → Option (List Stt)} {C : Int → List Stt → List Stt} : ∀ (n : Nat) (t : Int) (l : List Stt) (j : Nat) (m : Mom), (jGo S C n t l).1[j]? = some m → m.at_ = t + j := by
  intro n
  induction n with
  | zero => intro t l j m h; cases h
  | succ n ih =>
    intro t l j m h
    cases e : S (t - 1) l with
    | none => rw [jGo_none e] at h; cases h
    | some r =>
      by_cases z : C t r = []
      · rw [jGo_void e z] at h; cases h
      · rw [jGo_cons e z] at h
        cases j with
        | zero => cases h; show t = t + 0; omega
        | succ j => have := ih _ _ j m h; omega
theorem jGo_br {S : Int → List Stt → Option (List Stt)} {C : Int → List Stt → List Stt} : ∀ (n : Nat) (t : Int) (l : List Stt), ((jGo S C n t l).2.1 = "whole" ∧ (jGo S C n t l).2.2 = none ∧ (jGo S C n t l).1.length = n) ∨ ((jGo S C n t l).2.1 ≠ "whole" ∧ (jGo S C n t l).2.2 = some (t + (jGo S C n t l).1.length) ∧ (jGo S C n t l).1.length < n) := by
  intro n
  induction n with
  | zero => intro t l; exact .inl ⟨rfl, rfl, rfl⟩
  | succ n ih =>
    intro t l
    cases e : S (t - 1) l with
    | none => rw [jGo_none e]; exact .inr ⟨show ("lost" : Str) ≠ "whole" by decide, by simp, by simp⟩
    | some r =>
      by_cases z : C t r = []
      · rw [jGo_void e z]; exact .inr ⟨show ("void" : Str) ≠ "whole" by decide, by simp, by simp⟩
      · rw [jGo_cons e z]
        rcases ih (t + 1) (C t r) with ⟨h1, h2, h3⟩ | ⟨h1, h2, h3⟩
        · exact .inl ⟨h1, h2, by rw [List.length_cons, h3]⟩
        · refine .inr ⟨h1, ?_, by rw [List.length_cons]; omega⟩
          dsimp only
          rw [h2, List.length_cons]
          congr 1; omega
theorem jMk_at {mu ob : Int} {c : Craft} {f u : Int} {j : Nat} {m : Mom} (h : (jMk mu ob c f u).moms[j]? = some m) : m.at_ = c.start + j := by
  unfold jMk at h
  split at h
  · cases h
  split at h
  · cases h
  cases j with
  | zero => cases h; show c.start = c.start + 0; omega
  | succ j => have := jGo_at _ _ _ j m h; omega
/-- how a journey ends, and how many moments it has -/
theorem jMk_br {mu ob : Int} {c : Craft} {f u : Int} (h : c.start ≤ u) : ((jMk mu ob c f u).ending = "whole" ∧ (jMk mu ob c f u).broken = none ∧ ((jMk mu ob c f u).moms.length : Int) = u - c.start + 1) ∨ ((jMk mu ob c f u).ending ≠ "whole" ∧ (jMk mu ob c f u).broken = some (c.start + (jMk mu ob c f u).moms.length) ∧ ((jMk mu ob c f u).moms.length : Int) ≤ u - c.start) := by
  unfold jMk
  rw [if_neg (show ¬ u < c.start by omega)]
  split
  · exact .inr ⟨show ("void" : Str) ≠ "whole" by decide, by simp, by simp; omega⟩
  · rcases jGo_br (S := jS mu ob c) (C := jC c) (u - c.start).toNat (c.start + 1) (jFirst c f) with ⟨h1, h2, h3⟩ | ⟨h1, h2, h3⟩
    · exact .inl ⟨h1, h2, by dsimp only; rw [List.length_cons]; omega⟩
    · refine .inr ⟨h1, ?_, by dsimp only; rw [List.length_cons]; omega⟩
      dsimp only
      rw [h2, List.length_cons]
      congr 1; omega
theorem jMk_early {mu ob : Int} {c : Craft} {f u : Int} (h : u < c.start) : jMk mu ob c f u = ⟨[], "whole", none⟩ := by unfold jMk; rw [if_pos h]
theorem jGo_obs {mu ob : Int} {c : Craft} {mo : List Pv} (o : Obs mu ob c mo) : ∀ (n k : Nat) (l : List Stt), (∀ x, mo[k]? = some x → ∃ s ∈ l, sMem x s) →
    (∀ (j : Nat) m, (jGo (jS mu ob c) (jC c) n (c.start + k + 1) l).1[j]? = some m → ∀ x, mo[k + 1 + j]? = some x → ∃ s ∈ m.states, sMem x s) ∧
    ((jGo (jS mu ob c) (jC c) n (c.start + k + 1) l).2.1 = "void" → mo[k + 1 + (jGo (jS mu ob c) (jC c) n (c.start + k + 1) l).1.length]? = none) := by
  intro n
  induction n with
  | zero => intro k l h; exact ⟨fun j m e => (by cases e), fun e => absurd (show ("whole" : Str) = "void" from e) (by decide)⟩
  | succ n ih =>
    intro k l h
    have e0 : c.start + (k : Int) + 1 - 1 = c.start + k := by omega
    cases e : jS mu ob c (c.start + k) l with
    | none =>
      rw [jGo_none (by rw [e0]; exact e)]
      exact ⟨fun j m e => (by cases e), fun e => absurd (show ("lost" : Str) = "void" from e) (by decide)⟩
    | some r =>
      have hr := jS_in o h e
      have hc : ∀ y, mo[k + 1]? = some y → ∃ s ∈ jC c (c.start + k + 1) r, sMem y s := fun y hy => cutA_in (hr y hy) fun b hb => o.se (k + 1) y b hy (by rw [show c.start + ((k + 1 : Nat) : Int) = c.start + k + 1 by omega]; exact hb)
      by_cases z : jC c (c.start + k + 1) r = []
      · rw [jGo_void (by rw [e0]; exact e) z]
        refine ⟨fun j m e => (by cases e), fun _ => ?_⟩
        cases q : mo[k + 1]? with
        | none => rfl
        | some y =>
          obtain ⟨s, hs, _⟩ := hc y q
          rw [z] at hs; cases hs
      · rw [jGo_cons (by rw [e0]; exact e) z]
        have i := ih (k + 1) _ hc
        rw [show c.start + ((k + 1 : Nat) : Int) + 1 = c.start + k + 1 + 1 by omega] at i
        refine ⟨fun j m e x hx => ?_, fun e => ?_⟩
        · cases j with
          | zero => cases e; exact hc x hx
          | succ j => exact i.1 j m e x (by rw [show k + 1 + 1 + j = k + 1 + (j + 1) by omega]; exact hx)
        · have := i.2 e
          rw [List.length_cons, show k + 1 + ((jGo (jS mu ob c) (jC c) n (c.start + k + 1 + 1) (jC c (c.start + k + 1) r)).1.length + 1) = k + 1 + 1 + (jGo (jS mu ob c) (jC c) n (c.start + k + 1 + 1) (jC c (c.start + k + 1) r)).1.length by omega]
          exact this
theorem parts_in {x : Pv} {b : Bp} {n : Nat} (w : wfB b) (h : hasB x b = true) : ∃ p ∈ partsL n [b], hasB x p = true := by
  have e : cnt x (partsL n [b]) = cnt x [b] := cnt_parts fun c hc => by cases List.mem_singleton.mp hc; exact w
  have e2 : cnt x [b] = 1 := by unfold cnt; rw [List.filter_cons, if_pos h]; rfl
  rw [e2] at e
  unfold cnt at e
  cases q : (partsL n [b]).filter (hasB x) with
  | nil => rw [q] at e; cases e
  | cons p r =>
    have : p ∈ (partsL n [b]).filter (hasB x) := by rw [q]; exact .head _
    obtain ⟨h1, h2⟩ := List.mem_filter.mp this
    exact ⟨p, h1, h2⟩
theorem jFirst_obs {mu ob : Int} {c : Craft} {mo : List Pv} (hc : cOk c) (o : Obs mu ob c mo) {f : Int} : ∀ x, mo[0]? = some x → ∃ s ∈ jFirst c f, sMem x s := by
  intro x hx
  have h0 := o.hd x hx
  obtain ⟨p, hp, h⟩ := parts_in (x := x) (b := (c.place, c.speed)) (n := f.toNat) (wfB_of hc.pl.wf hc.sp.wf) (by unfold hasB; rw [Bool.and_eq_true, bHas_iff, bHas_iff]; exact h0)
  unfold hasB at h
  rw [Bool.and_eq_true, bHas_iff, bHas_iff] at h
  exact cutA_in ⟨toS p, List.mem_map.mpr ⟨p, hp, rfl⟩, h⟩ fun b hb => o.se 0 x b hx (by rw [show c.start + ((0 : Nat) : Int) = c.start by omega]; exact hb)
theorem jMk_obs {mu ob : Int} {c : Craft} {mo : List Pv} (hc : cOk c) (o : Obs mu ob c mo) {f u : Int} :
    (∀ (j : Nat) m, (jMk mu ob c f u).moms[j]? = some m → ∀ x, mo[j]? = some x → ∃ s ∈ m.states, sMem x s) ∧
    ((jMk mu ob c f u).ending = "void" → mo[(jMk mu ob c f u).moms.length]? = none) := by
  have h0 := jFirst_obs hc o (f := f)
  unfold jMk
  split
  · exact ⟨fun j m e => (by cases e), fun e => absurd (show ("whole" : Str) = "void" from e) (by decide)⟩
  split
  · rename_i z
    refine ⟨fun j m e => (by cases e), fun _ => ?_⟩
    show mo[0]? = none
    cases q : mo[0]? with
    | none => rfl
    | some y => obtain ⟨s, hs, _⟩ := h0 y q; rw [z] at hs; cases hs
  · have i := jGo_obs o (u - c.start).toNat 0 (jFirst c f) h0
    rw [show c.start + ((0 : Nat) : Int) + 1 = c.start + 1 by omega] at i
    refine ⟨fun j m e x hx => ?_, fun e => ?_⟩
    · cases j with
      | zero => cases e; exact h0 x hx
      | succ j => exact i.1 j m e x (by rw [show 0 + 1 + j = j + 1 by omega]; exact hx)
    · have := i.2 e
      dsimp only
      rw [List.length_cons, Nat.add_comm]
      rw [Nat.zero_add] at this
      exact this
/-! ### where obeying motions come from -/
theorem iM_wid2 {p u v w x : Int} {a : Iv} {d : Int} (h : iM p a) (g : -d ≤ u ∧ u ≤ d) (e : w - v - x = p + u) : iM (w - v - x) (iWid a d) := by
  unfold iM iWid at *; dsimp only; omega
theorem Mot.obs {w : Wd} {mo : List Pv} {se : List (Int × Box)} {n : Str} (m : Mot w mo) (s : Seen w mo se) : Obs w.mu w.ob (mkC n w se) mo where
  hd := fun x h => m.hd x h
  st := fun k x y h g => by
    obtain ⟨_, b, u, hb, hu, rfl⟩ := m.st k x y h g
    rw [pushC_mk]
    refine ⟨?_, rfl⟩
    have e : ∀ {a p c d : Int}, a + p + c + d - a - p = c + d := by intros; omega
    exact ⟨iM_wid2 hb.1 hu.1 e, iM_wid2 hb.2.1 hu.2.1 e, iM_wid2 hb.2.2 hu.2.2 e⟩
  se := fun k x b h g => by
    have g' : sAt (se.map mkS) (w.start + k) = some b := g
    rcases known_at s.up (t := w.start + (k : Int)) with ⟨q, _⟩ | ⟨c, q1, q2, _⟩
    · rw [q] at g'; cases g'
    · rw [q1] at g'
      cases g'
      obtain ⟨k', x', e1, e2, e3, _⟩ := s.at_ _ q2
      have : k' = k := by dsimp only at e2; omega
      subst this
      rw [h] at e1
      cases e1
      exact e3
theorem breach_obs {mu ob : Int} {c : Craft} {mo : List Pv} (h : breach (fun t => wStep mu ob c.drift (pushC c t) t) (unS (c.sights.map fun s => (s.at_, s.place))) c.start c.place c.speed mo = none) : Obs mu ob c mo := by
  have un : ∀ {t : Int} {p : Pt} {b : Box}, unS (c.sights.map fun s => (s.at_, s.place)) t p = false → sAt c.sights t = some b → bM p b := by
    intro t p b
    generalize c.sights = l
    induction l with
    | nil => intro _ e; cases e
    | cons s l ih =>
      intro h e
      unfold unS at h
      rw [List.map_cons, List.any_cons, Bool.or_eq_false_iff] at h
      unfold sAt at e
      split at e
      · rename_i z
        cases e
        have h1 := h.1
        dsimp only at h1
        rw [decide_eq_true z, Bool.true_and] at h1
        refine bHas_iff.mp ?_
        cases q : bHas s.place p with
        | true => rfl
        | false => rw [q] at h1; cases h1
      · exact ih h.2 e
  have go : ∀ (mo : List Pv) (t : Int), brF (fun t => wStep mu ob c.drift (pushC c t) t) (unS (c.sights.map fun s => (s.at_, s.place))) t mo = none →
      (∀ (k : Nat) x y, mo[k]? = some x → mo[k + 1]? = some y → bM (pSub (pSub y.2 x.2) (pPull mu ob x.1)) (bWid (pushC c (t + k)) c.drift) ∧ y.1 = pAdd x.1 y.2) ∧ (∀ (k : Nat) x b, mo[k]? = some x → sAt c.sights (t + k) = some b → bM x.1 b) := by
    intro mo
    induction mo with
    | nil => intro t _; exact ⟨fun k x y h => (by cases h), fun k x b h => (by cases h)⟩
    | cons x r ih =>
      intro t h
      rw [brF.eq_def] at h
      dsimp only at h
      split at h
      · cases h
      rename_i u
      have u' := Bool.eq_false_iff.mpr u
      cases r with
      | nil =>
        refine ⟨fun k x y _ g => ?_, fun k y b g e => ?_⟩
        · cases k <;> cases g
        · cases k with
          | zero => cases g; exact un u' (by rw [show t + ((0 : Nat) : Int) = t by omega] at e; exact e)
          | succ k => cases g
      | cons y r =>
        dsimp only at h
        split at h
        · cases h
        rename_i w
        obtain ⟨i1, i2⟩ := ih (t + 1) h
        unfold wStep at w
        split at w
        · cases w
        split at w
        case isFalse => cases w
        rename_i w1
        split at w
        case isFalse => cases w
        rename_i w2
        refine ⟨fun k a b g1 g2 => ?_, fun k a b g e => ?_⟩
        · cases k with
          | zero => cases g1; cases g2; rw [show t + ((0 : Nat) : Int) = t by omega]; exact ⟨bHas_iff.mp w1, w2⟩
          | succ k =>
            have := i1 k a b g1 g2
            rw [show t + 1 + (k : Int) = t + ((k + 1 : Nat) : Int) by omega] at this
            exact this
        · cases k with
          | zero => cases g; exact un u' (by rw [show t + ((0 : Nat) : Int) = t by omega] at e; exact e)
          | succ k => exact i2 k a b g (by rw [show t + 1 + (k : Int) = t + ((k + 1 : Nat) : Int) by omega]; exact e)
  cases mo with
  | nil => exact ⟨fun x h => (by cases h), fun k x y h => (by cases h), fun k x b h => (by cases h)⟩
  | cons x r =>
    unfold breach at h
    dsimp only at h
    split at h
    case isFalse => cases h
    rename_i h1
    split at h
    case isFalse => cases h
    rename_i h2
    obtain ⟨g1, g2⟩ := go _ _ h
    exact ⟨fun y e => by cases e; exact ⟨bHas_iff.mp h1, bHas_iff.mp h2⟩, g1, g2⟩
/-! ### moments -/
def momAt : List Mom → Int → Option Mom
  | [], _ => none
  | m :: l, t => if m.at_ = t then some m else momAt l t
theorem momAt_of : ∀ {l : List Mom} {s t : Int}, (∀ (j : Nat) m, l[j]? = some m → m.at_ = s + j) → momAt l t = if s ≤ t then l[(t - s).toNat]? else none
  | [], s, t, _ => by unfold momAt; split <;> simp
  | m :: l, s, t, h => by
    have h0 := h 0 m rfl
    unfold momAt
    by_cases z : m.at_ = t
    · rw [if_pos z, if_pos (by omega), show (t - s).toNat = 0 by omega]; rfl
    · rw [if_neg z, momAt_of (s := s + 1) fun j m' e => by have := h (j + 1) m' e; omega]
      by_cases y : s + 1 ≤ t
      · rw [if_pos y, if_pos (by omega), show (t - s).toNat = (t - (s + 1)).toNat + 1 by omega, List.getElem?_cons_succ]
      · rw [if_neg y]
        split
        · rename_i q; exact absurd (show m.at_ = t by omega) z
        · rfl
theorem jMk_mom {mu ob : Int} {c : Craft} {f u t : Int} : momAt (jMk mu ob c f u).moms t = if c.start ≤ t then (jMk mu ob c f u).moms[(t - c.start).toNat]? else none := momAt_of fun j m h => jMk_at h
/-! ### hulls -/
def hullB (b : Box) (l : List Box) : Box := l.foldl bHull b
theorem hullB_1 {p : Pt} {l : List Box} : ∀ {b : Box}, bM p b → bM p (hullB b l) := by
  induction l with
  | nil => exact fun h => h
  | cons a l ih => exact fun h => ih (bM_hull1 h)
theorem hullB_2 {p : Pt} {l : List Box} : ∀ {b : Box} {c : Box}, c ∈ l → bM p c → bM p (hullB b l) := by
  induction l with
  | nil => exact fun h => nomatch h
  | cons a l ih =>
    intro b c hc h
    rcases List.mem_cons.mp hc with rfl | q
    · exact hullB_1 (b := bHull b _) (bM_hull2 h)
    · exact ih q h
theorem bHull_ok {m : Int} {a b : Box} (h : bOk m a) (g : bOk m b) : bOk m (bHull a b) := by
  have : ∀ {a b : Iv}, iOk m a → iOk m b → iOk m (iHull a b) := by intro a b h g; unfold iOk iHull at *; dsimp only; omega
  exact ⟨this h.1 g.1, this h.2.1 g.2.1, this h.2.2 g.2.2⟩
theorem hullB_ok {m : Int} {l : List Box} : ∀ {b : Box}, bOk m b → (∀ c ∈ l, bOk m c) → bOk m (hullB b l) := by
  induction l with
  | nil => exact fun h _ => h
  | cons a l ih => exact fun h g => ih (bHull_ok h (g a (.head _))) fun c hc => g c (.tail _ hc)
/-! ### gaps -/
def gaps1 (s : Stt) (m : List Stt) : List Iv := m.map fun t => bSqLen (bSub s.place t.place)
def gapsL (l m : List Stt) : List Iv := l.flatMap fun s => gaps1 s m
def hullI (i : Iv) (l : List Iv) : Iv := l.foldl iHull i
def gapI (l m : List Stt) : Iv := match gapsL l m with
  | [] => (0, 0)
  | g :: r => hullI g (g :: r)
theorem hullI_1 {p : Int} {l : List Iv} : ∀ {b : Iv}, iM p b → iM p (hullI b l) := by
  induction l with
  | nil => exact fun h => h
  | cons a l ih => exact fun h => ih (iM_hull1 h)
theorem hullI_2 {p : Int} {l : List Iv} : ∀ {b c : Iv}, c ∈ l → iM p c → iM p (hullI b l) := by
  induction l with
  | nil => exact fun h => nomatch h
  | cons a l ih =>
    intro b c hc h
    rcases List.mem_cons.mp hc with rfl | q
    · exact hullI_1 (b := iHull b _) (iM_hull2 h)
    · exact ih q h
theorem gapsL_mem {l m : List Stt} {g : Iv} : g ∈ gapsL l m ↔ ∃ s ∈ l, ∃ t ∈ m, g = bSqLen (bSub s.place t.place) := by
  unfold gapsL gaps1
  rw [List.mem_flatMap]
  constructor
  · rintro ⟨s, hs, h⟩
    obtain ⟨t, ht, e⟩ := List.mem_map.mp h
    exact ⟨s, hs, t, ht, e.symm⟩
  · rintro ⟨s, hs, t, ht, rfl⟩
    exact ⟨s, hs, List.mem_map.mpr ⟨t, ht, rfl⟩⟩
theorem gap_in {l m : List Stt} {x y : Pv} (h : ∃ s ∈ l, sMem x s) (g : ∃ s ∈ m, sMem y s) : iM (pDot (pSub x.1 y.1) (pSub x.1 y.1)) (gapI l m) := by
  obtain ⟨s, hs, ms⟩ := h
  obtain ⟨t, ht, mt⟩ := g
  have q : bSqLen (bSub s.place t.place) ∈ gapsL l m := gapsL_mem.mpr ⟨s, hs, t, ht, rfl⟩
  have i := bM_sqLen (bM_sub ms.1 mt.1)
  unfold gapI
  cases e : gapsL l m with
  | nil => rw [e] at q; cases q
  | cons a r => rw [e] at q; exact hullI_2 q i
def momPl : List Stt → Box
  | [] => zBox
  | s :: r => hullB s.place ((s :: r).map fun t => t.place)
def momSp : List Stt → Box
  | [] => zBox
  | s :: r => hullB s.speed ((s :: r).map fun t => t.speed)
theorem momPl_in {l : List Stt} {x : Pv} (h : ∃ s ∈ l, sMem x s) : bM x.1 (momPl l) := by
  obtain ⟨s, hs, m⟩ := h
  cases l with
  | nil => cases hs
  | cons a r => exact hullB_2 (List.mem_map.mpr ⟨s, hs, rfl⟩) m.1
theorem momSp_in {l : List Stt} {x : Pv} (h : ∃ s ∈ l, sMem x s) : bM x.2 (momSp l) := by
  obtain ⟨s, hs, m⟩ := h
  cases l with
  | nil => cases hs
  | cons a r => exact hullB_2 (List.mem_map.mpr ⟨s, hs, rfl⟩) m.2
theorem ones_sum {α : Type} {l : List α} : (l.map fun _ => (1:Int)).sum = l.length := by
  induction l with
  | nil => rfl
  | cons a l ih => rw [List.map_cons, List.sum_cons, ih, List.length_cons]; omega
theorem ones_ne {α : Type} {p : α → Bool} {l : List α} (h : ∃ a ∈ l, p a = true) : ¬ ((l.filter p).map fun _ => (1:Int)).sum = 0 := by
  obtain ⟨a, h1, h2⟩ := h
  rw [ones_sum]
  have : 0 < (l.filter p).length := List.length_pos_of_mem (List.mem_filter.mpr ⟨h1, h2⟩)
  omega
theorem MotI.bd64 {w : Wd} {i : Nat} {x : Pv} {mo : List Pv} (m : MotI w i x mo) (h : i ≤ 15) : BdP x.1 64 := by
  have bd := m.bd i _ m.la
  exact (bd.1.mono (C := 10 ^ 15) (Int.le_trans (cP_le h) (by decide))).bd 64
theorem breach_none {mu ob : Int} {c : Craft} {mo : List Pv} (hd : ∀ x, mo[0]? = some x → sMem x ⟨c.place, c.speed⟩)
    (st : ∀ (k : Nat) x y, mo[k]? = some x → mo[k + 1]? = some y → x.1 ≠ (0, 0, 0) ∧ bM (pSub (pSub y.2 x.2) (pPull mu ob x.1)) (bWid (pushC c (c.start + k)) c.drift) ∧ y.1 = pAdd x.1 y.2)
    (se : ∀ (k : Nat) x, mo[k]? = some x → unS (c.sights.map fun s => (s.at_, s.place)) (c.start + k) x.1 = false) :
    breach (fun t => wStep mu ob c.drift (pushC c t) t) (unS (c.sights.map fun s => (s.at_, s.place))) c.start c.place c.speed mo = none := by
  have go : ∀ (mo : List Pv) (t : Int), (∀ (k : Nat) x y, mo[k]? = some x → mo[k + 1]? = some y → x.1 ≠ (0, 0, 0) ∧ bM (pSub (pSub y.2 x.2) (pPull mu ob x.1)) (bWid (pushC c (t + k)) c.drift) ∧ y.1 = pAdd x.1 y.2) →
      (∀ (k : Nat) x, mo[k]? = some x → unS (c.sights.map fun s => (s.at_, s.place)) (t + k) x.1 = false) → brF (fun t => wStep mu ob c.drift (pushC c t) t) (unS (c.sights.map fun s => (s.at_, s.place))) t mo = none := by
    intro mo
    induction mo with
    | nil => intro t _ _; rw [brF.eq_def]
    | cons x r ih =>
      intro t h1 h2
      have u := h2 0 x rfl
      rw [show t + ((0 : Nat) : Int) = t by omega] at u
      rw [brF.eq_def]
      dsimp only
      rw [u, if_neg (fun h => nomatch h)]
      cases r with
      | nil => rfl
      | cons y r =>
        obtain ⟨g1, g2, g3⟩ := h1 0 x y rfl rfl
        rw [show t + ((0 : Nat) : Int) = t by omega] at g2
        dsimp only
        have e : wStep mu ob c.drift (pushC c t) t x y = none := by
          unfold wStep
          rw [if_neg g1, if_pos (bHas_iff.mpr g2), if_pos g3]
        rw [e]
        refine ih (t + 1) (fun k a b p q => ?_) fun k a p => ?_
        · have := h1 (k + 1) a b p q
          rw [show t + ((k + 1 : Nat) : Int) = t + 1 + k by omega] at this
          exact this
        · have := h2 (k + 1) a p
          rw [show t + ((k + 1 : Nat) : Int) = t + 1 + k by omega] at this
          exact this
  cases mo with
  | nil => rfl
  | cons x r =>
    obtain ⟨h1, h2⟩ := hd x rfl
    unfold breach
    dsimp only
    rw [if_pos (bHas_iff.mpr h1), if_pos (bHas_iff.mpr h2)]
    exact go _ _ st se
theorem pNext_ob {mu ob : Int} {x : Pv} {b u : Pt} {p : Box} {d : Int} (hb : bM b p) (hu : nP d u) : bM (pSub (pSub (pNext mu ob x b u).2 x.2) (pPull mu ob x.1)) (bWid p d) ∧ (pNext mu ob x b u).1 = pAdd x.1 (pNext mu ob x b u).2 := by
  have e : ∀ {a p c d : Int}, a + p + c + d - a - p = c + d := by intros; omega
  exact ⟨⟨iM_wid2 hb.1 hu.1 e, iM_wid2 hb.2.1 hu.2.1 e, iM_wid2 hb.2.2 hu.2.2 e⟩, rfl⟩
/-! ### middle motions -/
def mmGo (mu ob : Int) (P : Int → Pt) : Nat → Int → Pv → List Pv → List Pv
  | 0, _, _, acc => acc
  | n + 1, t, x, acc => if x.1 = (0, 0, 0) then acc else mmGo mu ob P n (t + 1) (pNext mu ob x (P t) (0, 0, 0)) (acc ++ [pNext mu ob x (P t) (0, 0, 0)])
theorem nextM {mu ob : Int} {x : Pv} {b : Pt} : pNext mu ob x b (0, 0, 0) = (pAdd x.1 (pAdd (pAdd x.2 (pPull mu ob x.1)) b), pAdd (pAdd x.2 (pPull mu ob x.1)) b) := by unfold pNext; rw [pAdd_z]
theorem bMid_in {b : Box} (h : bWf b) : bM (bMid b) b := by
  have : ∀ {a : Iv}, iWf a → iM (iMid a) a := fun {a} h => by unfold iWf at h; unfold iM iMid; omega
  exact ⟨this h.1, this h.2.1, this h.2.2⟩
theorem MotI.mid {w : Wd} (hw : w.Ok) {i : Nat} {x : Pv} {mo : List Pv} (m : MotI w i x mo) (hi : i + 1 ≤ 15) (hx : x.1 ≠ (0, 0, 0)) : MotI w (i + 1) (pNext w.mu w.ob x (bMid (pushL w.burns (w.start + i))) (0, 0, 0)) (mo ++ [pNext w.mu w.ob x (bMid (pushL w.burns (w.start + i))) (0, 0, 0)]) :=
  m.snoc hw hi hx (bMid_in (hw.push _).wf) (by have := hw.dr1; unfold nP; dsimp only; omega)
theorem mmGo_mot {w : Wd} (hw : w.Ok) : ∀ (n i : Nat) (x : Pv) (acc : List Pv), MotI w i x acc → i + n ≤ 15 → ∃ j y, j ≤ 15 ∧ MotI w j y (mmGo w.mu w.ob (fun t => bMid (pushL w.burns t)) n (w.start + i) x acc) := by
  intro n
  induction n with
  | zero => intro i x acc m h; exact ⟨i, x, by omega, m⟩
  | succ n ih =>
    intro i x acc m h
    unfold mmGo
    by_cases z : x.1 = (0, 0, 0)
    · rw [if_pos z]; exact ⟨i, x, by omega, m⟩
    · rw [if_neg z]
      have := ih (i + 1) _ _ (m.mid hw (by omega) z) (by omega)
      rw [show w.start + ((i + 1 : Nat) : Int) = w.start + i + 1 by omega] at this
      exact this
/-- a number of a script, or a row made of one -/
def scr (z : Int) : Prop := Builtin.Int.intBits z ≤ 1048576 ∨ (0 ≤ z ∧ Bd z 1048580)
def rootUp (n : Int) : Int := if isq n * isq n = n then isq n else isq n + 1
theorem rootUp_spec {n : Int} (h : 0 ≤ n) : 0 ≤ rootUp n ∧ n ≤ rootUp n * rootUp n ∧ (0 < rootUp n → (rootUp n - 1) * (rootUp n - 1) < n) := by
  obtain ⟨g1, g2⟩ := isq_spec h
  have g0 := isq_nn (n := n)
  unfold rootUp
  split
  · rename_i e
    refine ⟨g0, by omega, fun q => ?_⟩
    have : (isq n - 1) * (isq n - 1) = isq n * isq n - 2 * isq n + 1 := by
      rw [Int.sub_mul, Int.mul_sub, Int.mul_one, Int.one_mul]; omega
    omega
  · rename_i e
    refine ⟨by omega, by omega, fun _ => ?_⟩
    rw [show isq n + 1 - 1 = isq n by omega]
    omega
end Q

/-! Q2: gaps and meetings. -/
namespace Q
open PySem PySem.Spec L2
/-! ### moments' states stay within bounds -/
theorem jGo_lok {mu ob : Int} {c : Craft} (hc : cOk c) : ∀ (n : Nat) (t : Int) (l : List Stt), lOk l → ∀ m ∈ (jGo (jS mu ob c) (jC c) n t l).1, lOk m.states := by
  intro n
  induction n with
  | zero => intro t l _ m h; cases h
  | succ n ih =>
    intro t l ok m h
    cases e : jS mu ob c (t - 1) l with
    | none => rw [jGo_none e] at h; cases h
    | some r =>
      have okr := (ok.step hc e).cut (o := sAt c.sights t)
      by_cases z : jC c t r = []
      · rw [jGo_void e z] at h; cases h
      · rw [jGo_cons e z] at h
        rcases List.mem_cons.mp h with rfl | h
        · exact okr
        · exact ih _ _ okr _ h
theorem jMk_lok {mu ob : Int} {c : Craft} (hc : cOk c) {f u : Int} (hf : f ≤ 6) : ∀ m ∈ (jMk mu ob c f u).moms, lOk m.states := by
  intro m h
  unfold jMk at h
  split at h
  · cases h
  split at h
  · cases h
  rcases List.mem_cons.mp h with rfl | h
  · exact jFirst_ok hc hf
  · exact jGo_lok hc _ _ _ (jFirst_ok hc hf) m h
theorem momAt_mem : ∀ {l : List Mom} {t : Int} {m : Mom}, momAt l t = some m → m ∈ l ∧ m.at_ = t
  | [], _, _, h => by cases h
  | a :: l, t, m, h => by
    unfold momAt at h
    split at h
    · rename_i z; cases h; exact ⟨.head _, z⟩
    · obtain ⟨h1, h2⟩ := momAt_mem h; exact ⟨.tail _ h1, h2⟩
/-! ### gaps -/
structure gOk (g : Iv) : Prop where
  bd : BdI g 280
  nn : 0 ≤ g.1
  wf : g.1 ≤ g.2
theorem gOk.nn2 {g : Iv} (h : gOk g) : 0 ≤ g.2 := Int.le_trans h.nn h.wf
theorem gOk.hull {a b : Iv} (h : gOk a) (g : gOk b) : gOk (iHull a b) := by
  obtain ⟨h1, h2, h3⟩ := h
  obtain ⟨g1, g2, g3⟩ := g
  have a1 := h1.l.h
  have a2 := h1.r.h
  have b1 := g1.l.h
  have b2 := g1.r.h
  refine ⟨⟨⟨?_⟩, ⟨?_⟩⟩, ?_, ?_⟩ <;> unfold iHull <;> dsimp only
  · generalize (2 : Nat) ^ 280 = q at *; omega
  · generalize (2 : Nat) ^ 280 = q at *; omega
  · omega
  · omega
theorem gOk_sq {s t : Stt} (h : sOk s) (g : sOk t) : gOk (bSqLen (bSub s.place t.place)) := by
  have b1 : BdB s.place 134 := h.1.bd 134
  have b2 : BdB t.place 134 := g.1.bd 134
  have w1 := h.1.wf
  have w2 := g.1.wf
  have hm := bM_sqLen (bM_sub (p := (s.place.1.1, s.place.2.1.1, s.place.2.2.1)) (q := (t.place.1.1, t.place.2.1.1, t.place.2.2.1)) (a := s.place) (b := t.place) ⟨⟨Int.le_refl _, w1.1⟩, ⟨Int.le_refl _, w1.2.1⟩, ⟨Int.le_refl _, w1.2.2⟩⟩ ⟨⟨Int.le_refl _, w2.1⟩, ⟨Int.le_refl _, w2.2.1⟩, ⟨Int.le_refl _, w2.2.2⟩⟩)
  exact ⟨BdI.of inferInstance (by decide), bSqLen_nn, Int.le_trans hm.1 hm.2⟩
theorem hullI_ok {l : List Iv} : ∀ {b : Iv}, gOk b → (∀ c ∈ l, gOk c) → gOk (hullI b l) := by
  induction l with
  | nil => exact fun h _ => h
  | cons a l ih => exact fun h g => ih (h.hull (g a (.head _))) fun c hc => g c (.tail _ hc)
theorem gapsL_ok {l m : List Stt} (h : lOk l) (g : lOk m) : ∀ c ∈ gapsL l m, gOk c := by
  intro c hc
  obtain ⟨s, hs, t, ht, rfl⟩ := gapsL_mem.mp hc
  exact gOk_sq (h.2 s hs) (g.2 t ht)
theorem gapI_ok {l m : List Stt} (h : lOk l) (g : lOk m) : gOk (gapI l m) := by
  have q := gapsL_ok h g
  unfold gapI
  cases e : gapsL l m with
  | nil => exact ⟨⟨⟨by decide⟩, ⟨by decide⟩⟩, by decide, by decide⟩
  | cons a r => rw [e] at q; exact hullI_ok (q a (.head _)) q
theorem gapsL_len {l m : List Stt} : (gapsL l m).length = l.length * m.length := by
  unfold gapsL gaps1
  induction l with
  | nil => simp
  | cons s l ih => rw [List.flatMap_cons, List.length_append, ih, List.length_map, List.length_cons, Nat.add_mul, Nat.one_mul, Nat.add_comm]
/-! ### the ticks of two journeys -/
abbrev Row := Int × Option Iv × Option Str
def brkW (a b : Jour) (t : Int) : Str := if (momAt a.moms t = none ∧ a.ending = "void") ∨ (momAt b.moms t = none ∧ b.ending = "void") then "void" else "unknown"
def tkRow (a b : Jour) (t : Int) : Row := match momAt a.moms t, momAt b.moms t with
  | some x, some y => (t, some (gapI x.states y.states), none)
  | _, _ => (t, none, some (brkW a b t))
def tkLo (x y z : Int) : Int := max (max x y) z
theorem tkRow_at {a b : Jour} {t : Int} : (tkRow a b t).1 = t := by unfold tkRow; split <;> rfl
theorem tkRow_some {a b : Jour} {t : Int} {g : Iv} (h : (tkRow a b t).2.1 = some g) : ∃ x y, momAt a.moms t = some x ∧ momAt b.moms t = some y ∧ g = gapI x.states y.states := by
  unfold tkRow at h
  split at h
  · rename_i x y e1 e2; cases h; exact ⟨x, y, e1, e2, rfl⟩
  · cases h
theorem tkRow_none {a b : Jour} {t : Int} (h : (tkRow a b t).2.1 = none) : momAt a.moms t = none ∨ momAt b.moms t = none := by
  unfold tkRow at h
  split at h
  · cases h
  · rename_i q
    cases e1 : momAt a.moms t with
    | none => exact .inl rfl
    | some x =>
      cases e2 : momAt b.moms t with
      | none => exact .inr rfl
      | some y => exact (q x y e1 e2).elim
/-! ### the least distance -/
def clGo : List Row → Option Iv → Option (Option Iv)
  | [], o => some o
  | r :: rs, o => match r.2.1 with
    | none => none
    | some g => clGo rs (some (match o with
      | none => g
      | some p => (if g.1 < p.1 then g.1 else p.1, if g.2 < p.2 then g.2 else p.2)))
def clo (rows : List Row) : Option Iv := match clGo rows none with
  | some (some p) => some (isq p.1, rootUp p.2)
  | _ => none
theorem rootUp_succ {n : Int} (h : 0 ≤ n) : rootUp (n + 1) = isq n + 1 := by
  obtain ⟨g1, g2⟩ := isq_spec h
  have g0 := isq_nn (n := n)
  have e1 : (isq n + 1) * (isq n + 1) = isq n * isq n + 2 * isq n + 1 := by
    rw [Int.add_mul, Int.mul_add, Int.mul_one, Int.one_mul]; omega
  unfold rootUp
  by_cases z : n + 1 = (isq n + 1) * (isq n + 1)
  · have : isq (n + 1) = isq n + 1 := by
      refine isq_uniq (by omega) (by omega) ?_
      have e2 : (isq n + 1 + 1) * (isq n + 1 + 1) = (isq n + 1) * (isq n + 1) + 2 * (isq n + 1) + 1 := by
        rw [Int.add_mul (isq n + 1), Int.mul_add, Int.mul_one, Int.one_mul]; omega
      omega
    rw [this, if_pos z.symm]
  · have : isq (n + 1) = isq n := isq_uniq g0 (by omega) (by omega)
    rw [this]
    by_cases y : isq n * isq n = n + 1
    · omega
    · rw [if_neg y]
theorem clGo_none {rows : List Row} : ∀ {o : Option Iv}, (∃ r ∈ rows, r.2.1 = none) → clGo rows o = none := by
  induction rows with
  | nil => rintro o ⟨r, hr, _⟩; cases hr
  | cons a rows ih =>
    rintro o ⟨r, hr, h⟩
    unfold clGo
    rcases List.mem_cons.mp hr with rfl | q
    · rw [h]
    · cases a.2.1 with
      | none => rfl
      | some g => exact ih ⟨r, q, h⟩
theorem minL_cons {g : Int} {l : List Int} : minL g l = minL g l := rfl
/-- all have gaps: the least low and the least high -/
theorem clGo_some {T : Type} {f : T → Iv} {h : T → Row} (hf : ∀ t, (h t).2.1 = some (f t)) : ∀ {l : List T} {p : Iv}, clGo (l.map h) (some p) = some (some (minL p.1 (l.map fun t => (f t).1), minL p.2 (l.map fun t => (f t).2))) := by
  intro l
  induction l with
  | nil => intro p; rfl
  | cons a l ih =>
    intro p
    rw [List.map_cons]
    unfold clGo
    rw [hf]
    dsimp only
    rw [ih]
    rfl
theorem minL_in : ∀ {l : List Int} {m : Int}, minL m l ∈ m :: l
  | [], m => .head _
  | x :: l, m => by
    unfold minL
    rcases List.mem_cons.mp (minL_in (l := l) (m := if x < m then x else m)) with h | h
    · rw [h]
      split
      · exact .tail _ (.head _)
      · exact .head _
    · exact .tail _ (.tail _ h)
theorem minL_lo : ∀ {l : List Int} {m x : Int}, x ∈ m :: l → minL m l ≤ x
  | [], m, x, h => by cases List.mem_singleton.mp h; exact Int.le_refl _
  | y :: l, m, x, h => by
    unfold minL
    have h0 := minL_lo (l := l) (m := if y < m then y else m) (.head _)
    rcases List.mem_cons.mp h with rfl | h
    · split at h0 <;> split <;> omega
    · rcases List.mem_cons.mp h with rfl | h
      · split at h0 <;> split <;> omega
      · exact minL_lo (.tail _ h)
/-! ### meetings -/
abbrev RSp := Int × Int × Option Str × Option Iv
abbrev Span := Int × Int × Option Str × Option Int × Option Int
def vd (g : Iv) (d : Int) : Str := if d * d < g.1 then "impossible" else if g.2 ≤ d * d then "certain" else "possible"
def vdR (d : Int) (r : Row) : Option Str := match r.2.1 with
  | none => r.2.2
  | some g => some (vd g d)
def both (a b : Option Iv) : Option Iv := match b with
  | none => none
  | some g => some (iHull (a.getD (0, 0)) g)
def mtS (d : Int) : List RSp → Row → List RSp
  | [], r => [(r.1, r.1, vdR d r, r.2.1)]
  | b :: acc, r => if b.2.2.1 = vdR d r then (b.1, r.1, vdR d r, both b.2.2.2 r.2.1) :: acc else (r.1, r.1, vdR d r, r.2.1) :: b :: acc
def toldS (s : RSp) : Span := (s.1, s.2.1, s.2.2.1, s.2.2.2.map fun g => isq g.1, s.2.2.2.map fun g => rootUp g.2)
def mtF (d : Int) (rows : List Row) : List RSp := (rows.foldl (mtS d) []).reverse
def mtg (d : Int) (rows : List Row) : List Span := (mtF d rows).map toldS
def mtW : List Str := ["impossible", "certain", "possible", "void", "unknown"]
theorem mtW_ok : ∀ w ∈ mtW, PyData.strOk w = true := by decide +kernel
structure rowOk (r : Row) : Prop where
  g : ∀ g, r.2.1 = some g → gOk g ∧ r.2.2 = none
  n : r.2.1 = none → r.2.2 = some "void" ∨ r.2.2 = some "unknown"
structure spOk (s : RSp) : Prop where
  g : ∀ g, s.2.2.2 = some g → gOk g
  v : ∃ w ∈ mtW, s.2.2.1 = some w ∧ (s.2.2.2 = none ↔ w = "void" ∨ w = "unknown")
theorem vd_w {g : Iv} {d : Int} : vd g d ∈ mtW ∧ ¬ (vd g d = "void" ∨ vd g d = "unknown") := by
  unfold vd
  split
  · exact ⟨.head _, by decide +kernel⟩
  · split
    · exact ⟨.tail _ (.head _), by decide +kernel⟩
    · exact ⟨.tail _ (.tail _ (.head _)), by decide +kernel⟩
theorem vdR_ok {d : Int} {r : Row} (h : rowOk r) : ∃ w ∈ mtW, vdR d r = some w ∧ (r.2.1 = none ↔ w = "void" ∨ w = "unknown") := by
  unfold vdR
  cases e : r.2.1 with
  | none =>
    rcases h.n e with q | q
    · exact ⟨"void", .tail _ (.tail _ (.tail _ (.head _))), q, ⟨fun _ => .inl rfl, fun _ => rfl⟩⟩
    · exact ⟨"unknown", .tail _ (.tail _ (.tail _ (.tail _ (.head _)))), q, ⟨fun _ => .inr rfl, fun _ => rfl⟩⟩
  | some g => exact ⟨vd g d, vd_w.1, rfl, ⟨fun q => (nomatch q), fun q => absurd q vd_w.2⟩⟩
theorem mtS_new {d : Int} {r : Row} (h : rowOk r) : spOk (r.1, r.1, vdR d r, r.2.1) := ⟨fun g e => (h.g g e).1, vdR_ok h⟩
theorem mtS_ok {d : Int} {acc : List RSp} {r : Row} (h : ∀ s ∈ acc, spOk s) (hr : rowOk r) : ∀ s ∈ mtS d acc r, spOk s := by
  cases acc with
  | nil => intro s hs; cases List.mem_singleton.mp hs; exact mtS_new hr
  | cons b acc =>
    intro s hs
    change s ∈ (if b.2.2.1 = vdR d r then (b.1, r.1, vdR d r, both b.2.2.2 r.2.1) :: acc else (r.1, r.1, vdR d r, r.2.1) :: b :: acc) at hs
    split at hs
    · rename_i z
      rcases List.mem_cons.mp hs with rfl | q
      · have hb := h b (.head _)
        obtain ⟨w, hw, ew, iw⟩ := vdR_ok (d := d) hr
        refine ⟨fun g e => ?_, w, hw, ew, ?_⟩
        · unfold both at e
          dsimp only at e
          cases er : r.2.1 with
          | none => rw [er] at e; cases e
          | some g0 =>
            rw [er] at e
            cases e
            obtain ⟨w', hw', ew', iw'⟩ := hb.v
            have : w' = w := Option.some.inj (ew'.symm.trans (z.trans ew))
            subst this
            cases eb : b.2.2.2 with
            | none =>
              have := iw.mpr (iw'.mp eb)
              rw [er] at this; cases this
            | some g1 => exact (hb.g g1 eb).hull (hr.g g0 er).1
        · rw [← iw]
          unfold both
          dsimp only
          cases r.2.1 <;> simp
      · exact h s (.tail _ q)
    · rcases List.mem_cons.mp hs with rfl | q
      · exact mtS_new hr
      · exact h s q
theorem mtF_ok {d : Int} {rows : List Row} (h : ∀ r ∈ rows, rowOk r) : ∀ s ∈ mtF d rows, spOk s := by
  have : ∀ (rows : List Row) (acc : List RSp), (∀ r ∈ rows, rowOk r) → (∀ s ∈ acc, spOk s) → ∀ s ∈ rows.foldl (mtS d) acc, spOk s := by
    intro rows
    induction rows with
    | nil => intro acc _ h; exact h
    | cons r rows ih => intro acc h g; exact ih _ (fun q hq => h q (.tail _ hq)) (mtS_ok g (h r (.head _)))
  intro s hs
  exact this rows [] h (fun s hs => nomatch hs) s (List.mem_reverse.mp hs)
theorem mtS_len {d : Int} {acc : List RSp} {r : Row} : (mtS d acc r).length ≤ acc.length + 1 := by
  cases acc with
  | nil => exact Nat.le_refl _
  | cons b acc =>
    show (if b.2.2.1 = vdR d r then (b.1, r.1, vdR d r, both b.2.2.2 r.2.1) :: acc else (r.1, r.1, vdR d r, r.2.1) :: b :: acc).length ≤ _
    split <;> simp
theorem mtF_len {d : Int} {rows : List Row} : (mtF d rows).length ≤ rows.length := by
  have : ∀ (rows : List Row) (acc : List RSp), (rows.foldl (mtS d) acc).length ≤ acc.length + rows.length := by
    intro rows
    induction rows with
    | nil => intro acc; exact Nat.le_refl _
    | cons r rows ih => intro acc; have := ih (mtS d acc r); have := mtS_len (d := d) (acc := acc) (r := r); rw [List.foldl_cons, List.length_cons]; omega
  unfold mtF
  rw [List.length_reverse]
  have := this rows []
  rw [List.length_nil] at this
  omega
theorem tkRow_ok {a b : Jour} (ha : ∀ m ∈ a.moms, lOk m.states) (hb : ∀ m ∈ b.moms, lOk m.states) (t : Int) : rowOk (tkRow a b t) := by
  unfold tkRow
  cases e1 : momAt a.moms t with
  | none => exact ⟨fun g e => (by cases e), fun _ => by unfold brkW; dsimp only; split <;> simp⟩
  | some x =>
    cases e2 : momAt b.moms t with
    | none => exact ⟨fun g e => (by cases e), fun _ => by unfold brkW; dsimp only; split <;> simp⟩
    | some y => exact ⟨fun g e => by cases e; exact ⟨gapI_ok (ha x (momAt_mem e1).1) (hb y (momAt_mem e2).1), rfl⟩, fun e => by cases e⟩
namespace M
theorem unL3_mk {α : Type} {x y z : α} : unL3 [x, y, z] = .ok (x, y, z) := rfl
theorem unL2_mk {α : Type} {x y : α} : unL2 [x, y] = .ok (x, y) := rfl
theorem eqR_os {w v : Str} (h : PyData.strOk w = true) (g : PyData.strOk v = true) : eqR (dO D.str) (some w) (some v) = .ok (decide ((some w : Option Str) = some v)) := by
  have e1 : Q.nice 32 (dO D.str (some w)) = true := h
  have e2 : Q.nice 32 (dO D.str (some v)) = true := g
  unfold eqR
  rw [if_pos ⟨e1, e2⟩]
  refine congrArg Rs.ok (Bool.eq_iff_iff.mpr ?_)
  constructor
  · intro q
    have q2 : dO D.str (some w) = dO D.str (some v) := @of_decide_eq_true _ (_) q
    exact decide_eq_true (congrArg some (D.str.inj q2))
  · intro q
    have := Option.some.inj (of_decide_eq_true q)
    subst this
    exact @decide_eq_true _ (_) rfl
/-- a list of values that may be compared -/
theorem nices_of {α : Type} {n : α → D} {k : Nat} : ∀ {l : List α}, (∀ a ∈ l, Q.nice k (n a) = true) → Q.nices k (l.map n) = true
  | [], _ => by cases k <;> rfl
  | a :: l, h => by
    rw [List.map_cons, Q.nices, h a (.head _), nices_of fun b hb => h b (.tail _ hb)]; rfl
theorem nice_span {s : RSp} (h : spOk s) : Q.nice 31 (d5 D.int D.int (dO D.str) (dO D.int) (dO D.int) (toldS s)) = true := by
  obtain ⟨w, hw, ew, _⟩ := h.v
  have e := mtW_ok w hw
  unfold toldS
  rw [ew]
  cases s.2.2.2 with
  | none =>
    show (Q.nice 30 (D.int s.1) && (Q.nice 30 (D.int s.2.1) && (Q.nice 30 (D.str w) && (Q.nice 30 D.non && (Q.nice 30 D.non && Q.nices 30 []))))) = true
    rw [show Q.nice 30 (D.str w) = true from e]; rfl
  | some g =>
    show (Q.nice 30 (D.int s.1) && (Q.nice 30 (D.int s.2.1) && (Q.nice 30 (D.str w) && (Q.nice 30 (D.int (isq g.1)) && (Q.nice 30 (D.int (rootUp g.2)) && Q.nices 30 []))))) = true
    rw [show Q.nice 30 (D.str w) = true from e]; rfl
theorem nice_span' {s : RSp} (h : spOk s) : Q.nice 30 (d5 D.int D.int (dO D.str) (dO D.int) (dO D.int) (toldS s)) = true := by
  obtain ⟨w, hw, ew, _⟩ := h.v
  have e := mtW_ok w hw
  unfold toldS
  rw [ew]
  cases s.2.2.2 with
  | none =>
    show (Q.nice 29 (D.int s.1) && (Q.nice 29 (D.int s.2.1) && (Q.nice 29 (D.str w) && (Q.nice 29 D.non && (Q.nice 29 D.non && Q.nices 29 []))))) = true
    rw [show Q.nice 29 (D.str w) = true from e]; rfl
  | some g =>
    show (Q.nice 29 (D.int s.1) && (Q.nice 29 (D.int s.2.1) && (Q.nice 29 (D.str w) && (Q.nice 29 (D.int (isq g.1)) && (Q.nice 29 (D.int (rootUp g.2)) && Q.nices 29 []))))) = true
    rw [show Q.nice 29 (D.str w) = true from e]; rfl
theorem nice_mtg {d : Int} {rows : List Row} (h : ∀ r ∈ rows, rowOk r) : Q.nice 32 (dL (d5 D.int D.int (dO D.str) (dO D.int) (dO D.int)) (mtg d rows)) = true := by
  show Q.nices 31 ((mtg d rows).map _) = true
  refine nices_of fun s hs => ?_
  obtain ⟨q, hq, rfl⟩ := List.mem_map.mp hs
  exact nice_span (mtF_ok h q hq)
end M
/-! ### screens -/
def fOpen (l : List Span) : Option Span := l.find? fun s => !decide (s.2.2.1 = some ("impossible" : Str))
def scr1 (cs : List Craft) (T : Craft → Craft → List Span) (i j : Int) : Option (Str × Str × Span) := match cs[i.toNat]?, cs[j.toNat]? with
  | some a, some b => (fOpen (T a b)).map fun s => (a.name, b.name, s)
  | _, _ => none
def scrL (cs : List Craft) (T : Craft → Craft → List Span) : List (Str × Str × Span) := (M.rngL 0 cs.length).flatMap fun i => (M.rngL (i + 1) cs.length).filterMap (scr1 cs T i)
theorem mtg_w {d : Int} {rows : List Row} (h : ∀ r ∈ rows, rowOk r) : ∀ s ∈ mtg d rows, ∃ w ∈ mtW, s.2.2.1 = some w := by
  intro s hs
  obtain ⟨q, hq, rfl⟩ := List.mem_map.mp hs
  obtain ⟨w, hw, ew, _⟩ := (mtF_ok h q hq).v
  exact ⟨w, hw, ew⟩
end Q

/-! Q3: the checker of certificates. -/
namespace Q
open PySem PySem.Spec L2
def inSt (s t : Stt) : Bool := bIn s.place t.place && bIn s.speed t.speed
def heldB (s : Stt) (l : List Stt) : Bool := l.any fun t => inSt s t
def cutO (x : Stt) (o : Option Box) : Option Stt := match o with
  | none => some x
  | some b => sCut x b
def holdC (o : Option Box) (later : List Stt) (x : Stt) : Bool := match cutO x o with
  | none => true
  | some y => heldB y later
def stepH1 (mu ob : Int) (push : Box) (drift : Int) (o : Option Box) (later : List Stt) (s : Stt) : Bool := match sStep mu ob s push drift with
  | none => false
  | some x => holdC o later x
def stepH (mu ob : Int) (c : Craft) (t : Int) (l later : List Stt) : Bool := l.all (stepH1 mu ob (pushC c t) c.drift (sAt c.sights (t + 1)) later)
def refGo (S : Int → List Stt → List Stt → Bool) : Int → List (List Stt) → Option Int
  | t, a :: b :: r => if S t a b = true then refGo S (t + 1) (b :: r) else some (t + 1)
  | _, _ => none
def refA (mu ob f : Int) (c : Craft) (cl : List (List Stt)) : Option Int := match cl with
  | [] => none
  | a :: r => if (jFirst c f).all (fun s => heldB s a) = true then refGo (stepH mu ob c) c.start (a :: r) else some c.start
theorem bIn_mem {a b : Box} {p : Pt} (h : bIn a b = true) (m : bM p a) : bM p b := by
  have one : ∀ {a b : Iv} {x : Int}, iIn a b = true → iM x a → iM x b := fun {a b x} h m => by
    unfold iIn at h
    have := of_decide_eq_true h
    unfold iM at *
    omega
  unfold bIn at h
  rw [Bool.and_eq_true, Bool.and_eq_true] at h
  exact ⟨one h.1.1 m.1, one h.1.2 m.2.1, one h.2 m.2.2⟩
theorem held_in {s : Stt} {l : List Stt} {x : Pv} (h : heldB s l = true) (m : sMem x s) : ∃ t ∈ l, sMem x t := by
  obtain ⟨t, ht, e⟩ := List.any_eq_true.mp h
  unfold inSt at e
  rw [Bool.and_eq_true] at e
  exact ⟨t, ht, bIn_mem e.1 m.1, bIn_mem e.2 m.2⟩
theorem refGo_in {mu ob : Int} {c : Craft} {mo : List Pv} (o : Obs mu ob c mo) : ∀ (cl : List (List Stt)) (k : Nat), (∀ l ∈ cl.head?, ∀ x, mo[k]? = some x → ∃ s ∈ l, sMem x s) →
    (refGo (stepH mu ob c) (c.start + k) cl = none → ∀ (j : Nat) l, cl[j]? = some l → ∀ x, mo[k + j]? = some x → ∃ s ∈ l, sMem x s) ∧
    ∀ b, refGo (stepH mu ob c) (c.start + k) cl = some b → c.start + k + 1 ≤ b ∧ b < c.start + k + cl.length ∧ ∀ (j : Nat) l, c.start + k + j < b → cl[j]? = some l → ∀ x, mo[k + j]? = some x → ∃ s ∈ l, sMem x s := by
  intro cl
  induction cl with
  | nil => intro k _; exact ⟨fun _ j l e => (by cases e), fun b e => by cases e⟩
  | cons a r ih =>
    intro k h
    have h0 := h a rfl
    cases r with
    | nil =>
      refine ⟨fun _ j l e x hx => ?_, fun b e => by cases e⟩
      cases j with
      | zero => cases e; exact h0 x hx
      | succ j => cases e
    | cons b r =>
      unfold refGo
      by_cases z : stepH mu ob c (c.start + k) a b = true
      · have nx : ∀ y, mo[k + 1]? = some y → ∃ s ∈ b, sMem y s := by
          intro y hy
          have hk : k < mo.length := by have := (List.getElem?_eq_some_iff.mp hy).1; omega
          obtain ⟨s, hs, m⟩ := h0 _ (List.getElem?_eq_getElem hk)
          have e := List.all_eq_true.mp z s hs
          unfold stepH1 at e
          cases es : sStep mu ob s (pushC c (c.start + k)) c.drift with
          | none => rw [es] at e; cases e
          | some x =>
            rw [es] at e
            obtain ⟨s1, s2⟩ := o.st k _ y (List.getElem?_eq_getElem hk) hy
            have my := sStep_ob m s1 s2 es
            dsimp only at e
            unfold holdC cutO at e
            cases ea : sAt c.sights (c.start + (k : Int) + 1) with
            | none => rw [ea] at e; exact held_in e my
            | some bx =>
              rw [ea] at e
              obtain ⟨w, ew, mw⟩ := sCut_in my (o.se (k + 1) y bx hy (by rw [show c.start + ((k + 1 : Nat) : Int) = c.start + k + 1 by omega]; exact ea))
              dsimp only at e
              rw [ew] at e
              exact held_in e mw
        have i := ih (k + 1) (fun l hl x hx => by cases hl; exact nx x hx)
        rw [show c.start + ((k + 1 : Nat) : Int) = c.start + k + 1 by omega] at i
        rw [if_pos z]
        refine ⟨fun e j l el x hx => ?_, fun d e => ?_⟩
        · cases j with
          | zero => cases el; exact h0 x hx
          | succ j => exact i.1 e j l el x (by rw [show k + 1 + j = k + (j + 1) by omega]; exact hx)
        · obtain ⟨i1, i2, i3⟩ := i.2 d e
          refine ⟨by omega, by rw [List.length_cons]; omega, fun j l hj el x hx => ?_⟩
          cases j with
          | zero => cases el; exact h0 x hx
          | succ j => exact i3 j l (by omega) el x (by rw [show k + 1 + j = k + (j + 1) by omega]; exact hx)
      · rw [if_neg z]
        refine ⟨fun e => (nomatch e), fun d e => ?_⟩
        cases e
        refine ⟨Int.le_refl _, by simp only [List.length_cons]; omega, fun j l hj el x hx => ?_⟩
        have : j = 0 := by omega
        subst this
        cases el
        exact h0 x hx
/-- what is accepted holds the motion -/
theorem refA_in {mu ob f : Int} {c : Craft} (hc : cOk c) {mo : List Pv} (o : Obs mu ob c mo) {cl : List (List Stt)} (hn : cl ≠ []) :
    (refA mu ob f c cl = none → ∀ (j : Nat) l, cl[j]? = some l → ∀ x, mo[j]? = some x → ∃ s ∈ l, sMem x s) ∧
    ∀ b, refA mu ob f c cl = some b → c.start ≤ b ∧ b < c.start + cl.length ∧ ∀ (j : Nat) l, c.start + j < b → cl[j]? = some l → ∀ x, mo[j]? = some x → ∃ s ∈ l, sMem x s := by
  cases cl with
  | nil => exact absurd rfl hn
  | cons a r =>
    unfold refA
    dsimp only
    by_cases z : (jFirst c f).all (fun s => heldB s a) = true
    · rw [if_pos z]
      have i := refGo_in o (a :: r) 0 (fun l hl x hx => by
        cases hl
        obtain ⟨s, hs, m⟩ := jFirst_obs hc o (f := f) x hx
        exact held_in (List.all_eq_true.mp z s hs) m)
      rw [show c.start + ((0 : Nat) : Int) = c.start by omega] at i
      refine ⟨fun e j l el x hx => i.1 e j l el x (by rw [Nat.zero_add]; exact hx), fun b e => ?_⟩
      obtain ⟨i1, i2, i3⟩ := i.2 b e
      exact ⟨by omega, i2, fun j l hj el x hx => i3 j l hj el x (by rw [Nat.zero_add]; exact hx)⟩
    · rw [if_neg z]
      refine ⟨fun e => (nomatch e), fun b e => ?_⟩
      cases e
      exact ⟨Int.le_refl _, by simp only [List.length_cons]; omega, fun j l hj => by omega⟩
namespace M
theorem ref_loop {S : Int → List Stt → List Stt → Bool} {F : Int → Unit → (Unit → Rs (Option Int)) → (Unit → Rs (Option Int)) → Rs (Option Int)} {cl : List (List Stt)} {start : Int}
    (hF : ∀ (k : Nat) a b nx bk, cl[k]? = some a → cl[k + 1]? = some b → F k () nx bk = if S (start + k) a b = true then nx () else .ok (some (start + k + 1))) :
    forC F (fun _ => .ok none) (rngL 0 ((cl.length : Int) - 1)) () = .ok (refGo S start cl) := by
  have main : ∀ (n k : Nat), k + n = cl.length → forC F (fun _ => .ok none) (rngL k ((cl.length : Int) - 1)) () = .ok (refGo S (start + k) (cl.drop k)) := by
    intro n
    induction n with
    | zero =>
      intro k e
      rw [rngL_nil (by omega), List.drop_eq_nil_of_le (by omega)]
      rfl
    | succ n ih =>
      intro k e
      have hk : k < cl.length := by omega
      rw [List.drop_eq_getElem_cons hk]
      by_cases hk2 : k + 1 < cl.length
      · have ih' := ih (k + 1) (by omega)
        rw [show ((k + 1 : Nat) : Int) = (k : Int) + 1 from rfl, show start + ((k : Int) + 1) = start + k + 1 by omega] at ih'
        rw [rngL_cons (by omega), forC_cons, hF k _ _ _ _ (List.getElem?_eq_getElem hk) (List.getElem?_eq_getElem hk2)]
        rw [List.drop_eq_getElem_cons hk2] at ih' ⊢
        unfold refGo
        by_cases z : S (start + k) cl[k] cl[k + 1] = true
        · rw [if_pos z, if_pos z]; exact ih'
        · rw [if_neg z, if_neg z]
      · rw [rngL_nil (by omega), List.drop_eq_nil_of_le (by omega)]
        rfl
  have := main cl.length 0 (by omega)
  rw [show start + ((0 : Nat) : Int) = start by omega, List.drop_zero] at this
  exact this
theorem cutL_sub {α : Type} {l : List α} {a b : Option Int} : (∀ x ∈ cutL l a b, x ∈ l) ∧ (cutL l a b).length ≤ l.length := by
  unfold cutL
  exact ⟨fun x hx => List.mem_of_mem_drop (List.mem_of_mem_take hx), by rw [List.length_take, List.length_drop]; omega⟩
end M
theorem cutO_A {l : List Stt} {o : Option Box} : (l.filterMap fun s => cutO s o) = cutA l o := by
  cases o with
  | none =>
    show l.filterMap (fun s => some s) = l
    exact List.filterMap_some
  | some b => rfl
theorem stepH_none {mu ob : Int} {p : Box} {d : Int} {o : Option Box} {later l : List Stt} (h : stepA (fun s => sStep mu ob s p d) l = none) : l.all (stepH1 mu ob p d o later) = false := by
  induction l with
  | nil => cases h
  | cons s l ih =>
    unfold stepA at h
    rw [List.all_cons]
    split at h
    · rename_i e
      unfold stepH1
      rw [e]; rfl
    · split at h
      · rename_i q; rw [ih q, Bool.and_false]
      · cases h
theorem stepH_some {mu ob : Int} {p : Box} {d : Int} {o : Option Box} {later : List Stt} : ∀ {l r : List Stt}, stepA (fun s => sStep mu ob s p d) l = some r → l.all (stepH1 mu ob p d o later) = (r.filterMap fun s => cutO s o).all fun s => heldB s later := by
  intro l
  induction l with
  | nil => intro r h; cases h; rfl
  | cons s l ih =>
    intro r h
    unfold stepA at h
    split at h
    · cases h
    · rename_i x ex
      split at h
      · cases h
      · rename_i q eq
        cases h
        rw [List.all_cons, ih eq]
        unfold stepH1 holdC
        rw [ex]
        dsimp only
        cases e : cutO x o with
        | none => rw [List.filterMap_cons_none (f := fun s => cutO s o) e]; rfl
        | some y => rw [List.filterMap_cons_some (f := fun s => cutO s o) e, List.all_cons]
end Q

/-! Q4: courses. -/
namespace Q
open PySem PySem.Spec L2
abbrev CRow := Stt × Box
def cutR (d : Box) (o : Option Stt) (r : List CRow) : List CRow := match o with
  | none => r
  | some y => (y, bHull d y.place) :: r
def stepR (S : Stt → Option Stt) (o : Option Box) : List CRow → Option (List CRow)
  | [] => some []
  | p :: l => match S p.1 with
    | none => none
    | some x => match stepR S o l with
      | none => none
      | some r => some (cutR p.2 (cutO x o) r)
def nextR (mu ob : Int) (c : Craft) (t : Int) (l : List CRow) : List CRow × Str := match stepR (fun s => sStep mu ob s (pushC c t) c.drift) (sAt c.sights (t + 1)) l with
  | none => ([], "lost")
  | some [] => ([], "void")
  | some (a :: r) => (a :: r, "whole")
def cGo (N : Int → List CRow → List CRow × Str) (st u : Int) : Nat → List Piece → List CRow → Int → Int → Course
  | 0, pcs, _, _, _ => ⟨pcs, "whole"⟩
  | n + 1, pcs, rows, b, t =>
    if t = b + st - 1 then
      if u ≤ t then ⟨pcs ++ [⟨b, t, rows.map fun p => p.2⟩], "whole"⟩
      else if (N t rows).2 = "whole" then cGo N st u n (pcs ++ [⟨b, t, rows.map fun p => p.2⟩]) ((N t rows).1.map fun p => (p.1, p.1.place)) (t + 1) (t + 1) else ⟨pcs ++ [⟨b, t, rows.map fun p => p.2⟩], (N t rows).2⟩
    else if (N t rows).2 = "whole" then cGo N st u n pcs (N t rows).1 b (t + 1) else ⟨pcs, (N t rows).2⟩
def cMk (mu ob : Int) (c : Craft) (f st u : Int) : Course :=
  if u < c.start then ⟨[], "whole"⟩
  else if jFirst c f = [] then ⟨[], "void"⟩
  else cGo (nextR mu ob c) st u ((u - c.start).toNat + st.toNat) [] ((jFirst c f).map fun s => (s, s.place)) c.start c.start
/-- rows within bounds -/
def rOk (l : List CRow) : Prop := l.length ≤ 64 ∧ ∀ p ∈ l, sOk p.1 ∧ bOk lim p.2
theorem cutO_sok {x y : Stt} {o : Option Box} (h : sOk x) (e : cutO x o = some y) : sOk y := by
  cases o with
  | none => cases e; exact h
  | some b => exact sCut_sok h e
theorem stepR_len {S : Stt → Option Stt} {o : Option Box} : ∀ {l r : List CRow}, stepR S o l = some r → r.length ≤ l.length := by
  intro l
  induction l with
  | nil => intro r h; cases h; exact Nat.le_refl _
  | cons p l ih =>
    intro r h
    unfold stepR at h
    split at h
    · cases h
    split at h
    · cases h
    rename_i q eq
    cases h
    have := ih eq
    unfold cutR
    split <;> simp only [List.length_cons] <;> omega
theorem stepR_mem {S : Stt → Option Stt} {o : Option Box} : ∀ {l r : List CRow}, stepR S o l = some r → ∀ q ∈ r, ∃ p ∈ l, ∃ x, S p.1 = some x ∧ cutO x o = some q.1 ∧ q.2 = bHull p.2 q.1.place := by
  intro l
  induction l with
  | nil => intro r h q hq; cases h; cases hq
  | cons p l ih =>
    intro r h q hq
    unfold stepR at h
    split at h
    · cases h
    rename_i x ex
    split at h
    · cases h
    rename_i r' er
    cases h
    unfold cutR at hq
    split at hq
    · obtain ⟨p', h1, h2⟩ := ih er q hq
      exact ⟨p', .tail _ h1, h2⟩
    · rename_i y ey
      rcases List.mem_cons.mp hq with rfl | hq
      · exact ⟨p, .head _, x, ex, ey, rfl⟩
      · obtain ⟨p', h1, h2⟩ := ih er q hq
        exact ⟨p', .tail _ h1, h2⟩
theorem stepR_keep {S : Stt → Option Stt} {o : Option Box} : ∀ {l r : List CRow}, stepR S o l = some r → ∀ p ∈ l, ∃ x, S p.1 = some x ∧ ∀ y, cutO x o = some y → (y, bHull p.2 y.place) ∈ r := by
  intro l
  induction l with
  | nil => intro r h p hp; cases hp
  | cons a l ih =>
    intro r h p hp
    unfold stepR at h
    split at h
    · cases h
    rename_i x ex
    split at h
    · cases h
    rename_i r' er
    cases h
    rcases List.mem_cons.mp hp with rfl | hp
    · exact ⟨x, ex, fun y ey => by rw [ey]; exact .head _⟩
    · obtain ⟨x', h1, h2⟩ := ih er p hp
      refine ⟨x', h1, fun y ey => ?_⟩
      unfold cutR
      split
      · exact h2 y ey
      · exact .tail _ (h2 y ey)
theorem rOk.next {mu ob : Int} {c : Craft} (hc : cOk c) {t : Int} {l : List CRow} (h : rOk l) : rOk (nextR mu ob c t l).1 := by
  unfold nextR
  cases e : stepR (fun s => sStep mu ob s (pushC c t) c.drift) (sAt c.sights (t + 1)) l with
  | none => exact ⟨Nat.zero_le _, (fun p hp => nomatch hp)⟩
  | some r =>
    have ok : rOk r := by
      refine ⟨Nat.le_trans (stepR_len e) h.1, fun q hq => ?_⟩
      obtain ⟨p, hp, x, ex, ey, e2⟩ := stepR_mem e q hq
      obtain ⟨h1, h2⟩ := h.2 p hp
      have sy := cutO_sok (sStep_sok h1.1.wf h1.2.wf (hc.pu t) hc.dr ex) ey
      exact ⟨sy, by rw [e2]; exact bHull_ok h2 sy.1⟩
    cases r with
    | nil => exact ⟨Nat.zero_le _, (fun p hp => nomatch hp)⟩
    | cons a r => exact ok
theorem nextR_ne {mu ob : Int} {c : Craft} {t : Int} {l : List CRow} (h : (nextR mu ob c t l).2 = "whole") : (nextR mu ob c t l).1 ≠ [] := by
  unfold nextR at *
  cases e : stepR (fun s => sStep mu ob s (pushC c t) c.drift) (sAt c.sights (t + 1)) l with
  | none => rw [e] at h; exact absurd (show ("lost" : Str) = "whole" from h) (by decide)
  | some r =>
    rw [e] at h
    cases r with
    | nil => exact absurd (show ("void" : Str) = "whole" from h) (by decide)
    | cons a r => exact List.cons_ne_nil _ _
theorem rOk.news {l : List CRow} (h : rOk l) : rOk (l.map fun p => (p.1, p.1.place)) := ⟨by rw [List.length_map]; exact h.1, fun q hq => by
  obtain ⟨p, hp, rfl⟩ := List.mem_map.mp hq
  exact ⟨(h.2 p hp).1, (h.2 p hp).1.1⟩⟩
theorem lOk.news {l : List Stt} (h : lOk l) : rOk (l.map fun s => (s, s.place)) := ⟨by rw [List.length_map]; exact h.1, fun q hq => by
  obtain ⟨p, hp, rfl⟩ := List.mem_map.mp hq
  exact ⟨h.2 p hp, (h.2 p hp).1⟩⟩
/-- the rows hold the motion from tick a to tick k -/
def rIn (mo : List Pv) (a k : Nat) (l : List CRow) : Prop := ∀ x, mo[k]? = some x → ∃ p ∈ l, sMem x p.1 ∧ ∀ j, a ≤ j → j ≤ k → ∀ y, mo[j]? = some y → bM y.1 p.2
theorem rIn.news {mo : List Pv} {a k : Nat} {l : List CRow} (h : rIn mo a k l) : rIn mo k k (l.map fun p => (p.1, p.1.place)) := fun x hx => by
  obtain ⟨p, hp, m, _⟩ := h x hx
  refine ⟨(p.1, p.1.place), List.mem_map.mpr ⟨p, hp, rfl⟩, m, fun j j1 j2 y hy => ?_⟩
  have : j = k := by omega
  subst this
  rw [hx] at hy; cases hy
  exact m.1
theorem rIn.next {mu ob : Int} {c : Craft} {mo : List Pv} (o : Obs mu ob c mo) {a k : Nat} {l : List CRow} (h : rIn mo a k l) :
    ((nextR mu ob c (c.start + k) l).2 = "whole" → rIn mo a (k + 1) (nextR mu ob c (c.start + k) l).1) ∧ ((nextR mu ob c (c.start + k) l).2 = "void" → mo[k + 1]? = none) := by
  unfold nextR
  cases e : stepR (fun s => sStep mu ob s (pushC c (c.start + k)) c.drift) (sAt c.sights (c.start + k + 1)) l with
  | none => exact ⟨fun z => absurd (show ("lost" : Str) = "whole" from z) (by decide), fun z => absurd (show ("lost" : Str) = "void" from z) (by decide)⟩
  | some r =>
    have hr : rIn mo a (k + 1) r := fun y hy => by
      have hk : k < mo.length := by have := (List.getElem?_eq_some_iff.mp hy).1; omega
      obtain ⟨p, hp, m, ma⟩ := h _ (List.getElem?_eq_getElem hk)
      obtain ⟨x, ex, hx⟩ := stepR_keep e p hp
      obtain ⟨s1, s2⟩ := o.st k _ y (List.getElem?_eq_getElem hk) hy
      have my := sStep_ob m s1 s2 ex
      have : ∃ z, cutO x (sAt c.sights (c.start + k + 1)) = some z ∧ sMem y z := by
        cases eo : sAt c.sights (c.start + (k : Int) + 1) with
        | none => exact ⟨x, rfl, my⟩
        | some b => exact sCut_in my (o.se (k + 1) y b hy (by rw [show c.start + ((k + 1 : Nat) : Int) = c.start + k + 1 by omega]; exact eo))
      obtain ⟨z, ez, mz⟩ := this
      refine ⟨_, hx z ez, mz, fun j j1 j2 w hw => ?_⟩
      by_cases q : j = k + 1
      · subst q
        rw [hy] at hw; cases hw
        exact bM_hull2 mz.1
      · exact bM_hull1 (ma j j1 (by omega) w hw)
    cases r with
    | nil =>
      refine ⟨fun z => absurd (show ("void" : Str) = "whole" from z) (by decide), fun _ => ?_⟩
      cases q : mo[k + 1]? with
      | none => rfl
      | some y => obtain ⟨p, hp, _⟩ := hr y q; cases hp
    | cons b r => exact ⟨fun _ => hr, fun z => absurd (show ("whole" : Str) = "void" from z) (by decide)⟩
theorem nextR_end {mu ob : Int} {c : Craft} {t : Int} {l : List CRow} : (nextR mu ob c t l).2 = "whole" ∨ (nextR mu ob c t l).2 = "lost" ∨ (nextR mu ob c t l).2 = "void" := by
  unfold nextR
  split
  · exact .inr (.inl rfl)
  · exact .inr (.inr rfl)
  · exact .inl rfl
/-- a piece of a course -/
structure PcOk (c : Craft) (st : Int) (p : Piece) : Prop where
  b0 : c.start ≤ p.b
  e0 : p.e = p.b + st - 1
  ne : p.parts ≠ []
  le : p.parts.length ≤ 64
  bd : ∀ b ∈ p.parts, bOk lim b
/-- a piece holds the motion -/
def PcIn (c : Craft) (mo : List Pv) (p : Piece) : Prop := ∀ x, mo[(p.e - c.start).toNat]? = some x → ∃ d ∈ p.parts, ∀ j : Nat, p.b ≤ c.start + j → c.start + j ≤ p.e → ∀ y, mo[j]? = some y → bM y.1 d
structure CoOk (c : Craft) (st u : Int) (co : Course) : Prop where
  pc : ∀ (i : Nat) p, co.pieces[i]? = some p → PcOk c st p ∧ p.b = c.start + i * st
  en : (co.ending = "whole" ∧ (co.pieces.length : Int) * st ≤ u - c.start + st ∧ u - c.start < (co.pieces.length : Int) * st) ∨ ((co.ending = "lost" ∨ co.ending = "void") ∧ (co.pieces.length : Int) * st ≤ u - c.start)
/-- the loop's invariant -/
structure CoInv (c : Craft) (st u : Int) (pcs : List Piece) (rows : List CRow) (b t : Int) : Prop where
  pc : ∀ (i : Nat) p, pcs[i]? = some p → PcOk c st p ∧ p.b = c.start + i * st
  bb : b = c.start + (pcs.length : Int) * st
  bu : b ≤ u
  bs : c.start ≤ b
  bt : b ≤ t
  te : t ≤ b + st - 1
  ro : rOk rows
  rn : rows ≠ []
theorem CoInv.push {c : Craft} {st u : Int} {pcs : List Piece} {rows : List CRow} {b t : Int} (i : CoInv c st u pcs rows b t) (e : t = b + st - 1) : ∀ (k : Nat) p, (pcs ++ [⟨b, t, rows.map fun p => p.2⟩])[k]? = some p → PcOk c st p ∧ p.b = c.start + k * st := by
  intro k p h
  rcases Nat.lt_trichotomy k pcs.length with z | z | z
  · rw [List.getElem?_append_left z] at h
    exact i.pc k p h
  · subst z
    rw [List.getElem?_append_right (Nat.le_refl _), Nat.sub_self] at h
    cases h
    refine ⟨⟨i.bs, e, fun z => i.rn (List.map_eq_nil_iff.mp z), by dsimp only; rw [List.length_map]; exact i.ro.1, fun d hd => ?_⟩, i.bb⟩
    obtain ⟨q, hq, rfl⟩ := List.mem_map.mp hd
    exact (i.ro.2 q hq).2
  · rw [List.getElem?_eq_none (by rw [List.length_append]; simp only [List.length_cons, List.length_nil]; omega)] at h
    cases h
theorem CoInv.go {mu ob : Int} {c : Craft} {st u : Int} (hc : cOk c) (h1 : 1 ≤ st) {pcs : List Piece} {rows : List CRow} {b t : Int} (i : CoInv c st u pcs rows b t) (w : (nextR mu ob c t rows).2 = "whole") :
    (t = b + st - 1 → ¬ u ≤ t → CoInv c st u (pcs ++ [⟨b, t, rows.map fun p => p.2⟩]) ((nextR mu ob c t rows).1.map fun p => (p.1, p.1.place)) (t + 1) (t + 1)) ∧
    (t ≠ b + st - 1 → CoInv c st u pcs (nextR mu ob c t rows).1 b (t + 1)) := by
  have bb := i.bb
  have bu := i.bu
  have bs := i.bs
  have bt := i.bt
  have te := i.te
  refine ⟨fun e z => ⟨i.push e, ?_, by omega, by omega, Int.le_refl _, by omega, (i.ro.next hc).news, fun z => nextR_ne w (List.map_eq_nil_iff.mp z)⟩, fun e => ⟨i.pc, bb, bu, bs, by omega, by omega, i.ro.next hc, nextR_ne w⟩⟩
  rw [List.length_append]
  simp only [List.length_cons, List.length_nil]
  have : ((pcs.length + (0 + 1) : Nat) : Int) * st = (pcs.length : Int) * st + st := by rw [show ((pcs.length + (0 + 1) : Nat) : Int) = (pcs.length : Int) + 1 by omega, Int.add_mul, Int.one_mul]
  rw [this]
  omega
theorem cGo_ok {mu ob : Int} {c : Craft} {st u : Int} (hc : cOk c) (h1 : 1 ≤ st) : ∀ (n : Nat) (pcs : List Piece) (rows : List CRow) (b t : Int), CoInv c st u pcs rows b t → max u b + st - t ≤ n → CoOk c st u (cGo (nextR mu ob c) st u n pcs rows b t) := by
  intro n
  induction n with
  | zero => intro pcs rows b t i hn; have := i.te; omega
  | succ n ih =>
    intro pcs rows b t i hn
    have bb := i.bb
    have bu := i.bu
    have bs := i.bs
    have bt := i.bt
    have te := i.te
    have lp : ((pcs ++ [(⟨b, t, rows.map fun p => p.2⟩ : Piece)]).length : Int) * st = (pcs.length : Int) * st + st := by
      rw [List.length_append]
      simp only [List.length_cons, List.length_nil]
      rw [show ((pcs.length + (0 + 1) : Nat) : Int) = (pcs.length : Int) + 1 by omega, Int.add_mul, Int.one_mul]
    unfold cGo
    by_cases e : t = b + st - 1
    · rw [if_pos e]
      by_cases z : u ≤ t
      · rw [if_pos z]
        exact ⟨i.push e, .inl ⟨rfl, by dsimp only; rw [lp]; omega, by dsimp only; rw [lp]; omega⟩⟩
      · rw [if_neg z]
        by_cases w : (nextR mu ob c t rows).2 = "whole"
        · rw [if_pos w]
          exact ih _ _ _ _ ((i.go hc h1 w).1 e z) (by omega)
        · rw [if_neg w]
          refine ⟨i.push e, .inr ⟨(nextR_end (mu := mu) (ob := ob) (c := c) (t := t) (l := rows)).resolve_left w, by dsimp only; rw [lp]; omega⟩⟩
    · rw [if_neg e]
      by_cases w : (nextR mu ob c t rows).2 = "whole"
      · rw [if_pos w]
        exact ih _ _ _ _ ((i.go hc h1 w).2 e) (by omega)
      · rw [if_neg w]
        exact ⟨i.pc, .inr ⟨(nextR_end (mu := mu) (ob := ob) (c := c) (t := t) (l := rows)).resolve_left w, by dsimp only; omega⟩⟩
theorem cGo_in {mu ob : Int} {c : Craft} {st u : Int} (hc : cOk c) (h1 : 1 ≤ st) {mo : List Pv} (o : Obs mu ob c mo) {E : Int} (hE : ∀ m : Int, m * st ≤ u - c.start → c.start + m * st + st - 1 ≤ E) : ∀ (n : Nat) (pcs : List Piece) (rows : List CRow) (a k : Nat), CoInv c st u pcs rows (c.start + a) (c.start + k) → max u (c.start + a) + st - (c.start + k) ≤ n → rIn mo a k rows → (∀ p ∈ pcs, PcIn c mo p) →
    (∀ p ∈ (cGo (nextR mu ob c) st u n pcs rows (c.start + a) (c.start + k)).pieces, PcIn c mo p) ∧ ((cGo (nextR mu ob c) st u n pcs rows (c.start + a) (c.start + k)).ending = "void" → ∃ j : Nat, mo[j]? = none ∧ c.start + j ≤ E) := by
  intro n
  induction n with
  | zero => intro pcs rows a k i hn; have := i.te; omega
  | succ n ih =>
    intro pcs rows a k i hn hr hp
    have bb := i.bb
    have bu := i.bu
    have bs := i.bs
    have bt := i.bt
    have te := i.te
    have nw : ¬ ("whole" : Str) = "void" := by decide
    have hx := rIn.next o hr
    have k1 : c.start + (k : Int) + 1 = c.start + ((k + 1 : Nat) : Int) := by omega
    have he := hE pcs.length (by omega)
    have pp : c.start + (k : Int) = c.start + a + st - 1 → ∀ p ∈ pcs ++ [⟨c.start + a, c.start + k, rows.map fun p => p.2⟩], PcIn c mo p := fun e p hm => by
      rcases List.mem_append.mp hm with hm | hm
      · exact hp p hm
      · cases List.mem_singleton.mp hm
        intro x ex
        dsimp only at ex ⊢
        rw [show (c.start + (k : Int) - c.start).toNat = k by omega] at ex
        obtain ⟨q, hq, _, m⟩ := hr x ex
        exact ⟨q.2, List.mem_map.mpr ⟨q, hq, rfl⟩, fun j j1 j2 y hy => m j (by omega) (by omega) y hy⟩
    unfold cGo
    by_cases e : c.start + (k : Int) = c.start + a + st - 1
    · rw [if_pos e]
      by_cases z : u ≤ c.start + k
      · rw [if_pos z]
        exact ⟨pp e, fun w => absurd w nw⟩
      · rw [if_neg z]
        by_cases w : (nextR mu ob c (c.start + k) rows).2 = "whole"
        · rw [if_pos w]
          have i' := (i.go hc h1 w).1 e z
          rw [k1] at i' ⊢
          exact ih _ _ _ _ i' (by omega) (hx.1 w).news (pp e)
        · rw [if_neg w]
          refine ⟨pp e, fun v => ⟨k + 1, hx.2 v, ?_⟩⟩
          have he2 := hE (pcs.length + 1) (by rw [Int.add_mul, Int.one_mul]; omega)
          rw [Int.add_mul, Int.one_mul] at he2
          omega
    · rw [if_neg e]
      by_cases w : (nextR mu ob c (c.start + k) rows).2 = "whole"
      · rw [if_pos w]
        have i' := (i.go hc h1 w).2 e
        rw [k1] at i' ⊢
        exact ih _ _ _ _ i' (by omega) (hx.1 w) hp
      · rw [if_neg w]
        exact ⟨hp, fun v => ⟨k + 1, hx.2 v, by omega⟩⟩
theorem cInv0 {c : Craft} {f st u : Int} (hc : cOk c) (h1 : 1 ≤ st) (hf : f ≤ 6) (hu : c.start ≤ u) (hn : jFirst c f ≠ []) : CoInv c st u [] ((jFirst c f).map fun s => (s, s.place)) c.start c.start :=
  ⟨fun i p h => (by cases h), by simp, hu, Int.le_refl _, Int.le_refl _, by omega, (jFirst_ok hc hf).news, fun z => hn (List.map_eq_nil_iff.mp z)⟩
theorem cMk_ok {mu ob : Int} {c : Craft} {f st u : Int} (hc : cOk c) (h1 : 1 ≤ st) (hf : f ≤ 6) (hu : c.start ≤ u) : CoOk c st u (cMk mu ob c f st u) := by
  unfold cMk
  rw [if_neg (by omega)]
  split
  · exact ⟨fun i p h => (by cases h), .inr ⟨.inr rfl, by dsimp only; rw [List.length_nil]; omega⟩⟩
  · rename_i z
    exact cGo_ok hc h1 _ _ _ _ _ (cInv0 hc h1 hf hu z) (by omega)
theorem cMk_in {mu ob : Int} {c : Craft} {f st u : Int} (hc : cOk c) (h1 : 1 ≤ st) (hf : f ≤ 6) {mo : List Pv} (o : Obs mu ob c mo) :
    (∀ p ∈ (cMk mu ob c f st u).pieces, PcIn c mo p) ∧ ((cMk mu ob c f st u).ending = "void" → ∃ j : Nat, mo[j]? = none ∧ c.start + j ≤ c.start + (u - c.start) / st * st + st - 1) := by
  have h0 := jFirst_obs hc o (f := f)
  unfold cMk
  split
  · exact ⟨(fun p hp => nomatch hp), fun e => absurd (show ("whole" : Str) = "void" from e) (by decide)⟩
  rename_i hu
  have hE : ∀ m : Int, m * st ≤ u - c.start → c.start + m * st + st - 1 ≤ c.start + (u - c.start) / st * st + st - 1 := fun m h => by
    have a := Int.le_ediv_of_mul_le (c := st) (a := m) (b := u - c.start) (by omega) h
    have := Int.mul_le_mul_of_nonneg_right a (show 0 ≤ st by omega)
    omega
  split
  · rename_i z
    refine ⟨(fun p hp => nomatch hp), fun _ => ⟨0, ?_, ?_⟩⟩
    · cases q : mo[0]? with
      | none => rfl
      | some y => obtain ⟨s, hs, _⟩ := h0 y q; rw [z] at hs; cases hs
    · have := hE 0 (by omega); omega
  · rename_i z
    have i := cInv0 (u := u) hc h1 hf (by omega) z
    have e0 : c.start + ((0 : Nat) : Int) = c.start := by omega
    have g := cGo_in hc h1 o hE ((u - c.start).toNat + st.toNat) [] ((jFirst c f).map fun s => (s, s.place)) 0 0 (by rw [e0]; exact i) (by rw [e0]; omega) (fun x hx => by
      obtain ⟨s, hs, m⟩ := h0 x hx
      refine ⟨(s, s.place), List.mem_map.mpr ⟨s, hs, rfl⟩, m, fun j j1 j2 y hy => ?_⟩
      have : j = 0 := by omega
      subst this
      rw [hx] at hy; cases hy
      exact m.1) fun p hp => nomatch hp
    rw [e0] at g
    exact g
namespace M
section
variable {c : Cx} {ρ : Env}
theorem re_une {α : Type} {n : α → D} {e : E} {r : Rs (Option α)} (h : RE c e ρ r (dO n)) : RE c e ρ (r.bind unO) n := fun k x q => by
  rw [Rs.sat_bind] at q
  refine h _ _ (Rs.sat_mono q (fun o z => ?_) fun _ z => z)
  cases o with
  | none => exact z.elim
  | some a => exact z
end
end M
end Q

/-! Q5: turns of the question: exchanged, cut, moved. -/
namespace Q
open PySem PySem.Spec L2
/-! ### exchanged -/
theorem sq_sym {a b : Iv} (ha : iWf a) (hb : iWf b) : iSq (iSub a b) = iSq (iSub b a) := by
  unfold iWf at ha hb
  have key : ∀ x y : Int, x ≤ y → iSq (x, y) = iSq (-y, -x) := fun x y h => by
    unfold iSq
    dsimp only
    rw [Int.neg_mul_neg, Int.neg_mul_neg]
    by_cases z : 0 ≤ x
    · rw [if_pos z]
      by_cases w : 0 ≤ -y
      · have e1 : x = 0 := by omega
        have e2 : y = 0 := by omega
        subst e1 e2
        rfl
      · rw [if_neg w, if_pos (by omega)]
    · rw [if_neg z]
      by_cases w : y ≤ 0
      · rw [if_pos w, if_pos (by omega)]
      · rw [if_neg w, if_neg (by omega), if_neg (by omega), Int.max_comm]
  have e : iSub b a = (-(a.2 - b.1), -(a.1 - b.2)) := by unfold iSub; exact Prod.ext (by dsimp only; omega) (by dsimp only; omega)
  rw [e]
  exact key _ _ (by omega)
theorem bSq_sym {a b : Box} (ha : bWf a) (hb : bWf b) : bSqLen (bSub a b) = bSqLen (bSub b a) := by
  unfold bSqLen bSub bMap2
  dsimp only
  rw [sq_sym ha.1 hb.1, sq_sym ha.2.1 hb.2.1, sq_sym ha.2.2 hb.2.2]
theorem hullI_out {l : List Iv} : ∀ {b : Iv}, ((hullI b l).1 ≤ b.1 ∧ b.2 ≤ (hullI b l).2) ∧ ∀ c ∈ l, (hullI b l).1 ≤ c.1 ∧ c.2 ≤ (hullI b l).2 := by
  induction l with
  | nil => exact ⟨⟨Int.le_refl _, Int.le_refl _⟩, fun c hc => nomatch hc⟩
  | cons a l ih =>
    intro b
    have i := ih (b := iHull b a)
    have e : hullI b (a :: l) = hullI (iHull b a) l := rfl
    have h1 := i.1
    rw [e]
    generalize hullI (iHull b a) l = q at *
    unfold iHull at h1
    dsimp only at h1
    refine ⟨by omega, fun c hc => ?_⟩
    rcases List.mem_cons.mp hc with rfl | hc
    · omega
    · exact i.2 c hc
theorem hullI_att {l : List Iv} : ∀ {b : Iv}, (∃ c ∈ b :: l, (hullI b l).1 = c.1) ∧ ∃ c ∈ b :: l, (hullI b l).2 = c.2 := by
  induction l with
  | nil => intro b; exact ⟨⟨b, .head _, rfl⟩, ⟨b, .head _, rfl⟩⟩
  | cons a l ih =>
    intro b
    have e : hullI b (a :: l) = hullI (iHull b a) l := rfl
    obtain ⟨⟨c, hc, ec⟩, ⟨d, hd, ed⟩⟩ := ih (b := iHull b a)
    rw [e]
    constructor
    · rcases List.mem_cons.mp hc with rfl | hc
      · rcases Int.le_total b.1 a.1 with z | z
        · exact ⟨b, .head _, by rw [ec]; unfold iHull; dsimp only; omega⟩
        · exact ⟨a, .tail _ (.head _), by rw [ec]; unfold iHull; dsimp only; omega⟩
      · exact ⟨c, .tail _ (.tail _ hc), ec⟩
    · rcases List.mem_cons.mp hd with rfl | hd
      · rcases Int.le_total b.2 a.2 with z | z
        · exact ⟨a, .tail _ (.head _), by rw [ed]; unfold iHull; dsimp only; omega⟩
        · exact ⟨b, .head _, by rw [ed]; unfold iHull; dsimp only; omega⟩
      · exact ⟨d, .tail _ (.tail _ hd), ed⟩
theorem hull_same {a b : Iv} {l m : List Iv} (h : ∀ c, c ∈ a :: l ↔ c ∈ b :: m) : hullI a (a :: l) = hullI b (b :: m) := by
  have e : ∀ (a : Iv) (l : List Iv), (∀ c ∈ a :: l, (hullI a (a :: l)).1 ≤ c.1 ∧ c.2 ≤ (hullI a (a :: l)).2) ∧ (∃ c ∈ a :: l, (hullI a (a :: l)).1 = c.1) ∧ ∃ c ∈ a :: l, (hullI a (a :: l)).2 = c.2 := fun a l => by
    refine ⟨hullI_out.2, ?_⟩
    obtain ⟨⟨c, hc, ec⟩, ⟨d, hd, ed⟩⟩ := hullI_att (b := a) (l := a :: l)
    have f : ∀ c, c ∈ a :: a :: l → c ∈ a :: l := fun c hc => by
      rcases List.mem_cons.mp hc with rfl | hc
      · exact .head _
      · exact hc
    exact ⟨⟨c, f c hc, ec⟩, ⟨d, f d hd, ed⟩⟩
  obtain ⟨h1, ⟨c, hc, ec⟩, ⟨d, hd, ed⟩⟩ := e a l
  obtain ⟨g1, ⟨c', hc', ec'⟩, ⟨d', hd', ed'⟩⟩ := e b m
  have i1 := g1 c ((h c).mp hc)
  have i2 := g1 d ((h d).mp hd)
  have i3 := h1 c' ((h c').mpr hc')
  have i4 := h1 d' ((h d').mpr hd')
  exact Prod.ext (by omega) (by omega)
theorem gap_sym {l m : List Stt} (hl : lOk l) (hm : lOk m) : gapI l m = gapI m l := by
  have mem : ∀ {l m : List Stt}, lOk l → lOk m → ∀ c, c ∈ gapsL l m → c ∈ gapsL m l := fun {l m} hl hm c hc => by
    obtain ⟨s, hs, t, ht, e⟩ := gapsL_mem.mp hc
    exact gapsL_mem.mpr ⟨t, ht, s, hs, by rw [e, bSq_sym (hl.2 s hs).1.wf (hm.2 t ht).1.wf]⟩
  have h : ∀ c, c ∈ gapsL l m ↔ c ∈ gapsL m l := fun c => ⟨mem hl hm c, mem hm hl c⟩
  unfold gapI
  cases e1 : gapsL l m with
  | nil =>
    cases e2 : gapsL m l with
    | nil => rfl
    | cons b r => rw [e1, e2] at h; exact nomatch (h b).mpr (.head _)
  | cons a r =>
    cases e2 : gapsL m l with
    | nil => rw [e1, e2] at h; exact nomatch (h a).mp (.head _)
    | cons b q => rw [e1, e2] at h; exact hull_same h
theorem tkRow_sym {a b : Jour} (ha : ∀ m ∈ a.moms, lOk m.states) (hb : ∀ m ∈ b.moms, lOk m.states) (t : Int) : tkRow a b t = tkRow b a t := by
  have bw : brkW a b t = brkW b a t := by
    unfold brkW
    by_cases z : (momAt a.moms t = none ∧ a.ending = "void") ∨ (momAt b.moms t = none ∧ b.ending = "void")
    · rw [if_pos z, if_pos z.symm]
    · rw [if_neg z, if_neg fun y => z y.symm]
  unfold tkRow
  cases e1 : momAt a.moms t with
  | none => cases momAt b.moms t <;> (dsimp only; rw [bw])
  | some x =>
    cases e2 : momAt b.moms t with
    | none => dsimp only; rw [bw]
    | some y => dsimp only; rw [gap_sym (ha x (momAt_mem e1).1) (hb y (momAt_mem e2).1)]
/-! ### up to an earlier end -/
theorem jGo_pre {S : Int → List Stt → Option (List Stt)} {C : Int → List Stt → List Stt} : ∀ (m n : Nat) (t : Int) (l : List Stt), m ≤ n → ∀ j, j < m → (jGo S C n t l).1[j]? = (jGo S C m t l).1[j]? ∧ ((jGo S C n t l).1[j]? = none → (jGo S C n t l).2.1 = (jGo S C m t l).2.1) := by
  intro m
  induction m with
  | zero => intro n t l _ j hj; omega
  | succ m ih =>
    intro n t l h j hj
    obtain ⟨n, rfl⟩ : ∃ k, n = k + 1 := ⟨n - 1, by omega⟩
    cases e : S (t - 1) l with
    | none => rw [jGo_none e, jGo_none e]; exact ⟨rfl, fun _ => rfl⟩
    | some r =>
      by_cases z : C t r = []
      · rw [jGo_void e z, jGo_void e z]; exact ⟨rfl, fun _ => rfl⟩
      · rw [jGo_cons e z, jGo_cons e z]
        cases j with
        | zero => exact ⟨rfl, fun q => nomatch q⟩
        | succ j => exact ih n (t + 1) (C t r) (by omega) j (by omega)
theorem jMk_pre {mu ob : Int} {c : Craft} {f s u t : Int} (h1 : c.start ≤ t) (h2 : t ≤ s) (h3 : s ≤ u) : momAt (jMk mu ob c f u).moms t = momAt (jMk mu ob c f s).moms t ∧ (momAt (jMk mu ob c f u).moms t = none → (jMk mu ob c f u).ending = (jMk mu ob c f s).ending) := by
  rw [jMk_mom, jMk_mom, if_pos h1, if_pos h1]
  unfold jMk
  rw [if_neg (show ¬ u < c.start by omega), if_neg (show ¬ s < c.start by omega)]
  by_cases z : jFirst c f = []
  · rw [if_pos z, if_pos z]; exact ⟨rfl, fun _ => rfl⟩
  · rw [if_neg z, if_neg z]
    dsimp only
    cases e : (t - c.start).toNat with
    | zero => exact ⟨rfl, fun q => nomatch q⟩
    | succ k => exact jGo_pre _ _ _ _ (by omega) k (by omega)
theorem tkRow_pre {mu ob : Int} {c d : Craft} {f s u t : Int} (h1 : c.start ≤ t) (h1' : d.start ≤ t) (h2 : t ≤ s) (h3 : s ≤ u) : tkRow (jMk mu ob c f u) (jMk mu ob d f u) t = tkRow (jMk mu ob c f s) (jMk mu ob d f s) t := by
  obtain ⟨a1, a2⟩ := jMk_pre (mu := mu) (ob := ob) (f := f) h1 h2 h3
  obtain ⟨b1, b2⟩ := jMk_pre (mu := mu) (ob := ob) (f := f) h1' h2 h3
  have bw : brkW (jMk mu ob c f u) (jMk mu ob d f u) t = brkW (jMk mu ob c f s) (jMk mu ob d f s) t := by
    unfold brkW
    have e1 : (momAt (jMk mu ob c f u).moms t = none ∧ (jMk mu ob c f u).ending = "void") ↔ (momAt (jMk mu ob c f s).moms t = none ∧ (jMk mu ob c f s).ending = "void") := by
      rw [← a1]
      exact ⟨fun q => ⟨q.1, by rw [← a2 q.1]; exact q.2⟩, fun q => ⟨q.1, by rw [a2 q.1]; exact q.2⟩⟩
    have e2 : (momAt (jMk mu ob d f u).moms t = none ∧ (jMk mu ob d f u).ending = "void") ↔ (momAt (jMk mu ob d f s).moms t = none ∧ (jMk mu ob d f s).ending = "void") := by
      rw [← b1]
      exact ⟨fun q => ⟨q.1, by rw [← b2 q.1]; exact q.2⟩, fun q => ⟨q.1, by rw [b2 q.1]; exact q.2⟩⟩
    by_cases z : (momAt (jMk mu ob c f s).moms t = none ∧ (jMk mu ob c f s).ending = "void") ∨ (momAt (jMk mu ob d f s).moms t = none ∧ (jMk mu ob d f s).ending = "void")
    · rw [if_pos z, if_pos (z.elim (fun q => .inl (e1.mpr q)) fun q => .inr (e2.mpr q))]
    · rw [if_neg z, if_neg fun q => z (q.elim (fun q => .inl (e1.mp q)) fun q => .inr (e2.mp q))]
  unfold tkRow
  rw [a1, b1, bw]
/-- a span, cut -/
def cutP (s : Int) (p : RSp) : Int × Int × Option Str := (p.1, min p.2.1 s, p.2.2.1)
def cutF (s : Int) (l : List RSp) : List (Int × Int × Option Str) := (l.filter fun p => decide (p.1 ≤ s)).map (cutP s)
theorem mtS_head {d : Int} {acc : List RSp} {r : Row} : ∃ b q, mtS d acc r = b :: q ∧ b.2.1 = r.1 := by
  cases acc with
  | nil => exact ⟨_, _, rfl, rfl⟩
  | cons b acc =>
    show ∃ b' q, (if b.2.2.1 = vdR d r then (b.1, r.1, vdR d r, both b.2.2.2 r.2.1) :: acc else (r.1, r.1, vdR d r, r.2.1) :: b :: acc) = b' :: q ∧ _
    split
    · exact ⟨_, _, rfl, rfl⟩
    · exact ⟨_, _, rfl, rfl⟩
theorem mtS_cut {d s : Int} {acc : List RSp} {r : Row} (h : ∀ b ∈ acc.head?, b.2.1 + 1 = r.1) (hs : s < r.1) : cutF s (mtS d acc r) = cutF s acc := by
  unfold cutF
  cases acc with
  | nil =>
    show (([(r.1, r.1, vdR d r, r.2.1)] : List RSp).filter fun p => decide (p.1 ≤ s)).map (cutP s) = _
    rw [List.filter_cons_of_neg (by simp; omega)]
  | cons b acc =>
    have hb := h b rfl
    show ((if b.2.2.1 = vdR d r then (b.1, r.1, vdR d r, both b.2.2.2 r.2.1) :: acc else (r.1, r.1, vdR d r, r.2.1) :: b :: acc).filter fun p => decide (p.1 ≤ s)).map (cutP s) = _
    split
    · rename_i z
      by_cases y : b.1 ≤ s
      · rw [List.filter_cons_of_pos (by simpa using y), List.filter_cons_of_pos (by simpa using y), List.map_cons, List.map_cons]
        congr 1
        unfold cutP
        dsimp only
        rw [z, show min r.1 s = s by omega, show min b.2.1 s = s by omega]
      · rw [List.filter_cons_of_neg (by simpa using y), List.filter_cons_of_neg (by simpa using y)]
    · rw [List.filter_cons_of_neg (by simp; omega)]
theorem fold_cut {d s : Int} {F : Int → Row} (hF : ∀ t, (F t).1 = t) : ∀ (n : Nat) (a : Int) (acc : List RSp), s < a → (∀ b ∈ acc.head?, b.2.1 + 1 = a) → cutF s (((M.rngL a (a + n)).map F).foldl (mtS d) acc) = cutF s acc := by
  intro n
  induction n with
  | zero => intro a acc _ _; rw [M.rngL_nil (by omega)]; rfl
  | succ n ih =>
    intro a acc hs h
    rw [M.rngL_cons (by omega), List.map_cons, List.foldl_cons, show a + ((n + 1 : Nat) : Int) = a + 1 + n by omega]
    rw [ih (a + 1) _ (by omega) fun b hb => ?_]
    · exact mtS_cut (by rw [hF]; exact h) (by rw [hF]; exact hs)
    · obtain ⟨b', q, e, eb⟩ := mtS_head (d := d) (acc := acc) (r := F a)
      rw [e] at hb
      cases hb
      rw [eb, hF]
theorem fold_end {d : Int} {F : Int → Row} (hF : ∀ t, (F t).1 = t) : ∀ (n : Nat) (a : Int) (acc : List RSp), (∀ p ∈ acc, p.1 < a ∧ p.2.1 < a) → (∀ b ∈ acc.head?, b.2.1 + 1 = a) → (∀ p ∈ ((M.rngL a (a + n)).map F).foldl (mtS d) acc, p.1 < a + n ∧ p.2.1 < a + n) ∧ ∀ b ∈ (((M.rngL a (a + n)).map F).foldl (mtS d) acc).head?, b.2.1 + 1 = a + n := by
  intro n
  induction n with
  | zero => intro a acc h g; rw [M.rngL_nil (by omega), show a + ((0 : Nat) : Int) = a by omega]; exact ⟨h, g⟩
  | succ n ih =>
    intro a acc h g
    rw [M.rngL_cons (by omega), List.map_cons, List.foldl_cons, show a + ((n + 1 : Nat) : Int) = a + 1 + n by omega]
    refine ih (a + 1) _ (fun p hp => ?_) fun b hb => ?_
    · cases acc with
      | nil =>
        change p ∈ [((F a).1, (F a).1, vdR d (F a), (F a).2.1)] at hp
        cases List.mem_singleton.mp hp
        dsimp only
        rw [hF]; omega
      | cons b acc =>
        change p ∈ (if b.2.2.1 = vdR d (F a) then (b.1, (F a).1, vdR d (F a), both b.2.2.2 (F a).2.1) :: acc else ((F a).1, (F a).1, vdR d (F a), (F a).2.1) :: b :: acc) at hp
        have old : ∀ q ∈ b :: acc, q.1 < a + 1 ∧ q.2.1 < a + 1 := fun q hq => by have := h q hq; omega
        split at hp
        · rcases List.mem_cons.mp hp with rfl | hp
          · have := old b (.head _)
            dsimp only
            rw [hF]; omega
          · exact old p (.tail _ hp)
        · rcases List.mem_cons.mp hp with rfl | hp
          · dsimp only
            rw [hF]; omega
          · exact old p hp
    · obtain ⟨b', q, e, eb⟩ := mtS_head (d := d) (acc := acc) (r := F a)
      rw [e] at hb
      cases hb
      rw [eb, hF]
theorem rngL_app : ∀ (n : Nat) (a b : Int), a + n ≤ b → M.rngL a b = M.rngL a (a + n) ++ M.rngL (a + n) b := by
  intro n
  induction n with
  | zero => intro a b h; rw [show a + ((0 : Nat) : Int) = a by omega, M.rngL_nil (Int.le_refl a)]; rfl
  | succ n ih =>
    intro a b h
    rw [M.rngL_cons (show a < b by omega), M.rngL_cons (show a < a + ((n + 1 : Nat) : Int) by omega), List.cons_append, show a + ((n + 1 : Nat) : Int) = a + 1 + n by omega, ih (a + 1) b (by omega)]
theorem mtg_cutF {d s : Int} {rows : List Row} : ((mtg d rows).filter fun p => decide (p.1 ≤ s)).map (fun p => (p.1, min p.2.1 s, p.2.2.1)) = (cutF s (rows.foldl (mtS d) [])).reverse := by
  unfold mtg mtF cutF
  rw [List.filter_map, List.map_map, List.filter_reverse, List.map_reverse]
  rfl
theorem mtg_cut {mu ob : Int} {c d : Craft} {f lo s u dist : Int} (h : s ≤ u) (h1 : c.start ≤ lo) (h2 : d.start ≤ lo) :
    (mtg dist ((M.rngL lo (s + 1)).map (tkRow (jMk mu ob c f s) (jMk mu ob d f s)))).map (fun p => (p.1, p.2.1, p.2.2.1)) = ((mtg dist ((M.rngL lo (u + 1)).map (tkRow (jMk mu ob c f u) (jMk mu ob d f u)))).filter fun p => decide (p.1 ≤ s)).map (fun p => (p.1, min p.2.1 s, p.2.2.1)) := by
  rw [mtg_cutF]
  have tk : ∀ t, (tkRow (jMk mu ob c f u) (jMk mu ob d f u) t).1 = t := fun t => tkRow_at
  have tk' : ∀ t, (tkRow (jMk mu ob c f s) (jMk mu ob d f s) t).1 = t := fun t => tkRow_at
  rcases Int.lt_or_le s lo with z | z
  · rw [M.rngL_nil (show s + 1 ≤ lo by omega)]
    rcases Int.lt_or_le u lo with y | y
    · rw [M.rngL_nil (show u + 1 ≤ lo by omega)]; rfl
    · have := fold_cut (d := dist) (s := s) tk (u + 1 - lo).toNat lo [] z (fun b hb => nomatch hb)
      rw [show lo + (((u + 1 - lo).toNat : Nat) : Int) = u + 1 by omega] at this
      rw [this]; rfl
  · have e1 : lo + (((s + 1 - lo).toNat : Nat) : Int) = s + 1 := by omega
    have ap := rngL_app (s + 1 - lo).toNat lo (u + 1) (by omega)
    rw [e1] at ap
    have same : (M.rngL lo (s + 1)).map (tkRow (jMk mu ob c f u) (jMk mu ob d f u)) = (M.rngL lo (s + 1)).map (tkRow (jMk mu ob c f s) (jMk mu ob d f s)) := List.map_congr_left fun t ht => by
      obtain ⟨t0, t1⟩ := M.rngL_mem.mp ht
      exact tkRow_pre (by omega) (by omega) (by omega) h
    rw [ap, List.map_append, List.foldl_append, same]
    obtain ⟨q1, q2⟩ := fold_end (d := dist) tk' (s + 1 - lo).toNat lo [] (fun p hp => nomatch hp) (fun b hb => nomatch hb)
    rw [e1] at q1 q2
    unfold mtg mtF
    generalize ((M.rngL lo (s + 1)).map (tkRow (jMk mu ob c f s) (jMk mu ob d f s))).foldl (mtS dist) [] = acc at *
    have fc := fold_cut (d := dist) (s := s) tk (u - s).toNat (s + 1) acc (by omega) q2
    rw [show s + 1 + (((u - s).toNat : Nat) : Int) = u + 1 by omega] at fc
    rw [fc]
    unfold cutF
    rw [List.filter_eq_self.mpr fun p hp => decide_eq_true (by have := q1 p hp; omega), ← List.map_reverse, List.map_map]
    refine List.map_congr_left fun p hp => ?_
    have := q1 p (List.mem_reverse.mp hp)
    unfold cutP
    rw [show min p.2.1 s = p.2.1 by omega]
    rfl
/-! ### moved -/
structure Shift (k : Int) (c' c : Craft) : Prop where
  st : c'.start = c.start + k
  pl : c'.place = c.place
  sp : c'.speed = c.speed
  dr : c'.drift = c.drift
  pu : ∀ t, pushC c' (t + k) = pushC c t
  sa : ∀ t, sAt c'.sights (t + k) = sAt c.sights t
def shM (k : Int) (m : Mom) : Mom := ⟨m.at_ + k, m.states⟩
theorem jGo_sh {S S' : Int → List Stt → Option (List Stt)} {C C' : Int → List Stt → List Stt} {k : Int} (hS : ∀ t l, S' (t + k) l = S t l) (hC : ∀ t l, C' (t + k) l = C t l) : ∀ (n : Nat) (t : Int) (l : List Stt), (jGo S' C' n (t + k) l).1 = (jGo S C n t l).1.map (shM k) ∧ (jGo S' C' n (t + k) l).2.1 = (jGo S C n t l).2.1 := by
  intro n
  induction n with
  | zero => intro t l; exact ⟨rfl, rfl⟩
  | succ n ih =>
    intro t l
    have s0 : S' (t + k - 1) l = S (t - 1) l := by rw [show t + k - 1 = t - 1 + k by omega]; exact hS _ _
    cases e : S (t - 1) l with
    | none => rw [jGo_none e, jGo_none (s0.trans e)]; exact ⟨rfl, rfl⟩
    | some r =>
      by_cases z : C t r = []
      · rw [jGo_void e z, jGo_void (s0.trans e) ((hC t r).trans z)]; exact ⟨rfl, rfl⟩
      · rw [jGo_cons e z, jGo_cons (s0.trans e) (by rw [hC]; exact z)]
        obtain ⟨i1, i2⟩ := ih (t + 1) (C t r)
        rw [hC, show t + k + 1 = t + 1 + k by omega]
        exact ⟨by dsimp only; rw [i1, List.map_cons]; rfl, i2⟩
theorem jMk_sh {k mu ob : Int} {c' c : Craft} (h : Shift k c' c) {f u : Int} : (jMk mu ob c' f (u + k)).moms = (jMk mu ob c f u).moms.map (shM k) ∧ (jMk mu ob c' f (u + k)).ending = (jMk mu ob c f u).ending := by
  have fi : jFirst c' f = jFirst c f := by unfold jFirst; rw [h.pl, h.sp, h.st, h.sa]
  have g := jGo_sh (S := jS mu ob c) (S' := jS mu ob c') (C := jC c) (C' := jC c') (k := k) (fun t l => by unfold jS; rw [h.pu, h.dr]) (fun t l => by unfold jC; rw [h.sa]) (u - c.start).toNat (c.start + 1) (jFirst c f)
  unfold jMk
  rw [fi, h.st]
  by_cases z : u < c.start
  · rw [if_pos z, if_pos (by omega)]; exact ⟨rfl, rfl⟩
  · rw [if_neg z, if_neg (by omega)]
    split
    · exact ⟨rfl, rfl⟩
    · rw [show u + k - (c.start + k) = u - c.start by omega, show c.start + k + 1 = c.start + 1 + k by omega]
      dsimp only
      rw [g.1, g.2]
      exact ⟨rfl, rfl⟩
theorem momAt_sh {k t : Int} : ∀ {l : List Mom}, momAt (l.map (shM k)) (t + k) = (momAt l t).map (shM k)
  | [] => rfl
  | m :: l => by
    rw [List.map_cons]
    unfold momAt
    by_cases z : m.at_ = t
    · rw [if_pos z, if_pos (show (shM k m).at_ = t + k from by show m.at_ + k = t + k; omega)]; rfl
    · rw [if_neg z, if_neg (show ¬ (shM k m).at_ = t + k from by show ¬ m.at_ + k = t + k; omega)]; exact momAt_sh
def shR (k : Int) (r : Row) : Row := (r.1 + k, r.2)
def shP (k : Int) (p : RSp) : RSp := (p.1 + k, p.2.1 + k, p.2.2)
theorem tkRow_sh {k t : Int} {a a' b b' : Jour} (ha : a'.moms = a.moms.map (shM k)) (ea : a'.ending = a.ending) (hb : b'.moms = b.moms.map (shM k)) (eb : b'.ending = b.ending) : tkRow a' b' (t + k) = shR k (tkRow a b t) := by
  have bw : brkW a' b' (t + k) = brkW a b t := by
    unfold brkW
    rw [ha, hb, ea, eb, momAt_sh, momAt_sh]
    have q : ∀ o : Option Mom, o.map (shM k) = none ↔ o = none := fun o => by cases o <;> simp
    by_cases z : (momAt a.moms t = none ∧ a.ending = "void") ∨ (momAt b.moms t = none ∧ b.ending = "void")
    · rw [if_pos z, if_pos (by rw [q, q]; exact z)]
    · rw [if_neg z, if_neg (by rw [q, q]; exact z)]
  unfold tkRow
  rw [ha, hb, momAt_sh, momAt_sh, bw]
  cases momAt a.moms t with
  | none => cases momAt b.moms t <;> rfl
  | some x => cases momAt b.moms t <;> rfl
theorem rngL_sh {k : Int} : ∀ (n : Nat) (a : Int), M.rngL (a + k) (a + n + k) = (M.rngL a (a + n)).map (· + k) := by
  intro n
  induction n with
  | zero => intro a; rw [M.rngL_nil (by omega), M.rngL_nil (by omega)]; rfl
  | succ n ih =>
    intro a
    rw [M.rngL_cons (show a + k < _ by omega), M.rngL_cons (show a < _ by omega), List.map_cons, show a + k + 1 = a + 1 + k by omega, show a + ((n + 1 : Nat) : Int) = a + 1 + n by omega, ih (a + 1)]
theorem rows_sh {k mu ob : Int} {c' c d' d : Craft} (hc : Shift k c' c) (hd : Shift k d' d) {f lo u : Int} : (M.rngL (lo + k) (u + k + 1)).map (tkRow (jMk mu ob c' f (u + k)) (jMk mu ob d' f (u + k))) = ((M.rngL lo (u + 1)).map (tkRow (jMk mu ob c f u) (jMk mu ob d f u))).map (shR k) := by
  obtain ⟨a1, a2⟩ := jMk_sh (mu := mu) (ob := ob) hc (f := f) (u := u)
  obtain ⟨b1, b2⟩ := jMk_sh (mu := mu) (ob := ob) hd (f := f) (u := u)
  rcases Int.lt_or_le (u + 1) lo with z | z
  · rw [M.rngL_nil (by omega), M.rngL_nil (by omega)]; rfl
  · have e := rngL_sh (k := k) (u + 1 - lo).toNat lo
    rw [show lo + (((u + 1 - lo).toNat : Nat) : Int) = u + 1 by omega] at e
    rw [show u + k + 1 = u + 1 + k by omega, e, List.map_map, List.map_map]
    exact List.map_congr_left fun t _ => tkRow_sh a1 a2 b1 b2
theorem mtS_sh {k d : Int} {acc : List RSp} {r : Row} : mtS d (acc.map (shP k)) (shR k r) = (mtS d acc r).map (shP k) := by
  cases acc with
  | nil => rfl
  | cons b acc =>
    have e : vdR d (shR k r) = vdR d r := rfl
    show (if b.2.2.1 = vdR d (shR k r) then (b.1 + k, r.1 + k, vdR d (shR k r), both b.2.2.2 r.2.1) :: acc.map (shP k) else (r.1 + k, r.1 + k, vdR d (shR k r), r.2.1) :: shP k b :: acc.map (shP k)) = (if b.2.2.1 = vdR d r then (b.1, r.1, vdR d r, both b.2.2.2 r.2.1) :: acc else (r.1, r.1, vdR d r, r.2.1) :: b :: acc).map (shP k)
    rw [e]
    split <;> rfl
theorem mtg_sh {k d : Int} {rows : List Row} : (mtg d (rows.map (shR k))).map (fun p => (p.1 - k, p.2.1 - k, p.2.2.1, p.2.2.2.1, p.2.2.2.2)) = mtg d rows := by
  have main : ∀ (rows : List Row) (acc : List RSp), (rows.map (shR k)).foldl (mtS d) (acc.map (shP k)) = (rows.foldl (mtS d) acc).map (shP k) := by
    intro rows
    induction rows with
    | nil => intro acc; rfl
    | cons r rows ih => intro acc; rw [List.map_cons, List.foldl_cons, List.foldl_cons, mtS_sh, ih]
  unfold mtg mtF
  have m0 := main rows []
  rw [List.map_nil] at m0
  rw [m0, ← List.map_reverse, List.map_map, List.map_map]
  refine List.map_congr_left fun p _ => ?_
  show (p.1 + k - k, p.2.1 + k - k, (toldS p).2.2) = toldS p
  rw [show p.1 + k - k = p.1 by omega, show p.2.1 + k - k = p.2.1 by omega]
  rfl
theorem clo_sh {k : Int} {rows : List Row} : clo (rows.map (shR k)) = clo rows := by
  have main : ∀ (rows : List Row) (o : Option Iv), clGo (rows.map (shR k)) o = clGo rows o := by
    intro rows
    induction rows with
    | nil => intro o; rfl
    | cons r rows ih =>
      intro o
      rw [List.map_cons]
      unfold clGo
      show (match r.2.1 with
        | none => none
        | some g => _) = _
      cases r.2.1 with
      | none => rfl
      | some g => exact ih _
  unfold clo
  rw [main]
end Q

/-! Q6: turns of the body, sites, spans of passes and of light. -/
namespace Q
open PySem PySem.Spec L2
/-! ### turns -/
abbrev uS : Int := 1000000000000000000
def rnd (a : Iv) (d : Int) : Iv := (a.1 / d, -(-a.2 / d))
def lmt (a : Iv) : Iv := (max a.1 (-uS), min a.2 uS)
def tog (a b : Iv × Iv) : Iv × Iv := (lmt (rnd (iSub (iMul a.1 b.1) (iMul a.2 b.2)) uS), lmt (rnd (iAdd (iMul a.2 b.1) (iMul a.1 b.2)) uS))
def uGo : Nat → Int → Iv × Iv → Iv × Iv → Iv × Iv
  | 0, _, _, r => r
  | n + 1, t, p, r => if 0 < t then uGo n (t / 2) (tog p p) (if t % 2 = 1 then tog r p else r) else r
def uOne (w : Pt) : Iv × Iv := (rnd (w.1 * uS, w.1 * uS) w.2.2, rnd (w.2.1 * uS, w.2.1 * uS) w.2.2)
def uPow (w : Pt) (t : Int) : Iv × Iv := uGo 20 t (uOne w) ((uS, uS), (0, 0))
/-- the exact turn: cosine, sine, scale -/
def tN (w : Pt) : Nat → Pt
  | 0 => (1, 0, 1)
  | n + 1 => ((tN w n).1 * w.1 - (tN w n).2.1 * w.2.1, (tN w n).2.1 * w.1 + (tN w n).1 * w.2.1, (tN w n).2.2 * w.2.2)
def cm (x y : Pt) : Pt := (x.1 * y.1 - x.2.1 * y.2.1, x.2.1 * y.1 + x.1 * y.2.1, x.2.2 * y.2.2)
theorem cm_assoc {x y z : Pt} : cm (cm x y) z = cm x (cm y z) := by
  unfold cm
  dsimp only
  refine Prod.ext ?_ (Prod.ext ?_ ?_) <;> dsimp only <;> grind
theorem tN_succ {w : Pt} {n : Nat} : tN w (n + 1) = cm (tN w n) w := rfl
theorem tN_add {w : Pt} {m n : Nat} : tN w (m + n) = cm (tN w m) (tN w n) := by
  induction n with
  | zero =>
    show tN w m = cm (tN w m) (1, 0, 1)
    unfold cm
    refine Prod.ext ?_ (Prod.ext ?_ ?_) <;> dsimp only <;> omega
  | succ n ih => rw [← Nat.add_assoc, tN_succ, ih, tN_succ, cm_assoc]
/-- a turn's exact numbers lie on the circle -/
def circ (x : Pt) : Prop := x.1 * x.1 + x.2.1 * x.2.1 = x.2.2 * x.2.2 ∧ 1 ≤ x.2.2
theorem circ_cm {x y : Pt} (h : circ x) (g : circ y) : circ (cm x y) := by
  obtain ⟨h1, h2⟩ := h
  obtain ⟨g1, g2⟩ := g
  unfold circ cm
  dsimp only
  refine ⟨by grind, ?_⟩
  have := Int.mul_le_mul h2 g2 (by decide) (by omega)
  omega
theorem circ_tN {w : Pt} (h : circ w) : ∀ n, circ (tN w n)
  | 0 => ⟨rfl, Int.le_refl _⟩
  | n + 1 => by rw [tN_succ]; exact circ_cm (circ_tN h n) h
theorem sq_bd {a d : Int} (h : a * a ≤ d * d) (hd : 0 ≤ d) : -d ≤ a ∧ a ≤ d := by
  refine ⟨?_, ?_⟩
  · rcases Int.lt_or_le a (-d) with z | z
    · have := Int.mul_lt_mul_of_pos_right (a := d) (b := -a) (c := -a) (by omega) (by omega)
      have h2 := mul_le_l (a := d) (b := -a) (c := d) (by omega) hd
      rw [Int.neg_mul_neg] at this
      omega
    · exact z
  · rcases Int.lt_or_le d a with z | z
    · have := Int.mul_lt_mul_of_pos_right (a := d) (b := a) (c := a) z (by omega)
      have h2 := mul_le_l (a := d) (b := a) (c := d) (by omega) hd
      omega
    · exact z
theorem circ_bd {x : Pt} (h : circ x) : (-x.2.2 ≤ x.1 ∧ x.1 ≤ x.2.2) ∧ -x.2.2 ≤ x.2.1 ∧ x.2.1 ≤ x.2.2 := by
  obtain ⟨h1, h2⟩ := h
  have a1 := sq_nn (x := x.1)
  have a2 := sq_nn (x := x.2.1)
  exact ⟨sq_bd (by omega) (by omega), sq_bd (by omega) (by omega)⟩
/-- an interval made greater -/
def sc (k : Int) (a : Iv) : Iv := (a.1 * k, a.2 * k)
theorem min_sc {k x y : Int} (h : 0 ≤ k) : min (x * k) (y * k) = min x y * k := by
  rcases Int.le_total x y with z | z
  · have := mul_le_r z h
    rw [Int.min_eq_left z, Int.min_eq_left this]
  · have := mul_le_r z h
    rw [Int.min_eq_right z, Int.min_eq_right this]
theorem max_sc {k x y : Int} (h : 0 ≤ k) : max (x * k) (y * k) = max x y * k := by
  rcases Int.le_total x y with z | z
  · have := mul_le_r z h
    rw [Int.max_eq_right z, Int.max_eq_right this]
  · have := mul_le_r z h
    rw [Int.max_eq_left z, Int.max_eq_left this]
theorem iMul_sc {k l : Int} (hk : 0 ≤ k) (hl : 0 ≤ l) {a b : Iv} : iMul (sc k a) (sc l b) = sc (k * l) (iMul a b) := by
  have h := Int.mul_nonneg hk hl
  have e : ∀ x y : Int, x * k * (y * l) = x * y * (k * l) := fun x y => by grind
  unfold iMul sc
  dsimp only
  simp only [e, min_sc h, max_sc h]
theorem iSub_sc {k : Int} {a b : Iv} : iSub (sc k a) (sc k b) = sc k (iSub a b) := by
  unfold iSub sc
  dsimp only
  rw [Int.sub_mul, Int.sub_mul]
theorem iAdd_sc {k : Int} {a b : Iv} : iAdd (sc k a) (sc k b) = sc k (iAdd a b) := by
  unfold iAdd sc
  dsimp only
  rw [Int.add_mul, Int.add_mul]
theorem iScale_sc {k n : Int} {a : Iv} : iScale (sc k a) n = sc k (iScale a n) := by
  have e : ∀ x : Int, x * k * n = x * n * k := fun x => by grind
  unfold iScale sc
  split <;> (dsimp only; rw [e, e])
theorem iMul_comm {a b : Iv} : iMul a b = iMul b a := by
  unfold iMul
  rw [Int.mul_comm a.1 b.1, Int.mul_comm a.1 b.2, Int.mul_comm a.2 b.1, Int.mul_comm a.2 b.2]
  refine Prod.ext ?_ ?_ <;> dsimp only <;> omega
/-- rounding keeps what is enclosed -/
theorem rnd_in {a : Iv} {k d x : Int} (hk : 0 < k) (hd : 0 ≤ d) (h : iM (x * k) (sc d a)) : iM x (sc d (rnd a k)) := by
  obtain ⟨h1, h2⟩ := h
  unfold sc at h1 h2
  dsimp only at h1 h2
  refine ⟨?_, ?_⟩
  · show a.1 / k * d ≤ x
    have q := mul_le_r (Int.ediv_mul_le a.1 (b := k) (by omega)) hd
    have e : a.1 / k * k * d = a.1 / k * d * k := by grind
    rw [e] at q
    exact Int.le_of_mul_le_mul_right (Int.le_trans q h1) hk
  · show x ≤ -(-a.2 / k) * d
    have q := mul_le_r (Int.ediv_mul_le (-a.2) (b := k) (by omega)) hd
    have e : -a.2 / k * k * d = -(-(-a.2 / k) * d * k) := by grind
    have e2 : -a.2 * d = -(a.2 * d) := by grind
    rw [e, e2] at q
    exact Int.le_of_mul_le_mul_right (show x * k ≤ -(-a.2 / k) * d * k by omega) hk
theorem lmt_in {a : Iv} {d x : Int} (hd : 0 ≤ d) (h1 : -d ≤ x) (h2 : x ≤ d) (h : iM (x * uS) (sc d a)) : iM (x * uS) (sc d (lmt a)) := by
  obtain ⟨g1, g2⟩ := h
  unfold sc at g1 g2
  dsimp only at g1 g2
  have e1 := max_sc (x := a.1) (y := -uS) hd
  have e2 := min_sc (x := a.2) (y := uS) hd
  have u1 : -uS * d ≤ x * uS := by unfold uS; omega
  have u2 : x * uS ≤ uS * d := by unfold uS; omega
  refine ⟨?_, ?_⟩
  · show max a.1 (-uS) * d ≤ _
    rw [← e1]; omega
  · show _ ≤ min a.2 uS * d
    rw [← e2]; omega
/-- an interval encloses the number c of scale d, exactly if the scale is 1 -/
structure Enc (a : Iv) (c d : Int) : Prop where
  m : iM (c * uS) (sc d a)
  lo : -uS ≤ a.1
  hi : a.2 ≤ uS
  ex : d = 1 → a = dg (c * uS)
theorem Enc.le {a : Iv} {c d : Int} (h : Enc a c d) (hd : 1 ≤ d) : a.1 ≤ a.2 := by
  have h1 : a.1 * d ≤ c * uS := h.m.1
  have h2 : c * uS ≤ a.2 * d := h.m.2
  exact Int.le_of_mul_le_mul_right (Int.le_trans h1 h2) (by omega)
def Enc2 (a : Iv × Iv) (z : Pt) : Prop := Enc a.1 z.1 z.2.2 ∧ Enc a.2 z.2.1 z.2.2
theorem rnd_dg {c k : Int} (hk : k ≠ 0) : rnd (dg (c * k)) k = dg c := by
  unfold rnd dg
  dsimp only
  rw [Int.mul_ediv_cancel _ hk, ← Int.neg_mul, Int.mul_ediv_cancel _ hk, Int.neg_neg]
theorem lmt_dg {c : Int} (h1 : -1 ≤ c) (h2 : c ≤ 1) : lmt (dg (c * uS)) = dg (c * uS) := by
  unfold lmt dg uS
  dsimp only
  refine Prod.ext ?_ ?_ <;> dsimp only <;> omega
theorem one_mul_one {d e : Int} (hd : 1 ≤ d) (he : 1 ≤ e) (h : d * e = 1) : d = 1 ∧ e = 1 := by
  have a := mul_le_l he (show 0 ≤ d by omega)
  have b := mul_le_r hd (show 0 ≤ e by omega)
  omega
theorem tog_enc {a b : Iv × Iv} {x y : Pt} (hx : circ x) (hy : circ y) (h : Enc2 a x) (g : Enc2 b y) : Enc2 (tog a b) (cm x y) := by
  have hx2 := hx.2
  have hy2 := hy.2
  have cxy := circ_cm hx hy
  obtain ⟨c1, c2⟩ := circ_bd cxy
  obtain ⟨h1, h2⟩ := h
  obtain ⟨g1, g2⟩ := g
  have dn : 0 ≤ x.2.2 * y.2.2 := Int.mul_nonneg (by omega) (by omega)
  have up : ∀ {u v : Iv} {p q : Int}, iM (p * uS) (sc x.2.2 u) → iM (q * uS) (sc y.2.2 v) → iM (p * uS * (q * uS)) (sc (x.2.2 * y.2.2) (iMul u v)) := fun {u v p q} m1 m2 => by
    have m := iM_mul m1 m2
    rw [iMul_sc (by omega) (by omega)] at m
    exact m
  have k1 := iM_sub (up h1.m g1.m) (up h2.m g2.m)
  have k2 := iM_add (up h2.m g1.m) (up h1.m g2.m)
  rw [iSub_sc] at k1
  rw [iAdd_sc] at k2
  have e1 : x.1 * uS * (y.1 * uS) - x.2.1 * uS * (y.2.1 * uS) = (x.1 * y.1 - x.2.1 * y.2.1) * uS * uS := by generalize uS = s; grind
  have e2 : x.2.1 * uS * (y.1 * uS) + x.1 * uS * (y.2.1 * uS) = (x.2.1 * y.1 + x.1 * y.2.1) * uS * uS := by generalize uS = s; grind
  rw [e1] at k1
  rw [e2] at k2
  have ex : ∀ hd : x.2.2 * y.2.2 = 1, (a.1 = dg (x.1 * uS) ∧ a.2 = dg (x.2.1 * uS)) ∧ b.1 = dg (y.1 * uS) ∧ b.2 = dg (y.2.1 * uS) := fun hd => by
    obtain ⟨d1, d2⟩ := one_mul_one hx2 hy2 hd
    exact ⟨⟨h1.ex d1, h2.ex d1⟩, g1.ex d2, g2.ex d2⟩
  refine ⟨⟨lmt_in dn c1.1 c1.2 (rnd_in (by decide) dn k1), ?_, ?_, fun hd => ?_⟩, ⟨lmt_in dn c2.1 c2.2 (rnd_in (by decide) dn k2), ?_, ?_, fun hd => ?_⟩⟩
  · show -uS ≤ max _ _; omega
  · show min _ _ ≤ uS; omega
  · obtain ⟨⟨q1, q2⟩, q3, q4⟩ := ex hd
    change x.2.2 * y.2.2 = 1 at hd
    change -(x.2.2 * y.2.2) ≤ _ ∧ _ ≤ x.2.2 * y.2.2 at c1
    show lmt (rnd (iSub (iMul a.1 b.1) (iMul a.2 b.2)) uS) = _
    rw [q1, q2, q3, q4, dg_mul, dg_mul, dg_sub, e1, rnd_dg (by decide)]
    exact lmt_dg (by rw [hd] at c1; exact c1.1) (by rw [hd] at c1; exact c1.2)
  · show -uS ≤ max _ _; omega
  · show min _ _ ≤ uS; omega
  · obtain ⟨⟨q1, q2⟩, q3, q4⟩ := ex hd
    change x.2.2 * y.2.2 = 1 at hd
    change -(x.2.2 * y.2.2) ≤ _ ∧ _ ≤ x.2.2 * y.2.2 at c2
    show lmt (rnd (iAdd (iMul a.2 b.1) (iMul a.1 b.2)) uS) = _
    rw [q1, q2, q3, q4, dg_mul, dg_mul, dg_add, e2, rnd_dg (by decide)]
    exact lmt_dg (by rw [hd] at c2; exact c2.1) (by rw [hd] at c2; exact c2.2)
theorem uOne_enc {w : Pt} (h : circ w) : Enc2 (uOne w) w := by
  obtain ⟨c1, c2⟩ := circ_bd h
  have h2 := h.2
  have one : ∀ {x : Int}, -w.2.2 ≤ x → x ≤ w.2.2 → Enc (rnd (x * uS, x * uS) w.2.2) x w.2.2 := fun {x} b1 b2 => by
    have d0 : (0 : Int) < w.2.2 := by omega
    refine ⟨rnd_in (by omega) (by omega) ⟨Int.le_refl _, Int.le_refl _⟩, ?_, ?_, fun d => ?_⟩
    · show -uS ≤ x * uS / w.2.2
      refine Int.le_ediv_of_mul_le d0 ?_
      unfold uS; omega
    · show -(-(x * uS) / w.2.2) ≤ uS
      have : -uS ≤ -(x * uS) / w.2.2 := Int.le_ediv_of_mul_le d0 (by unfold uS; omega)
      omega
    · rw [d]
      unfold rnd dg
      dsimp only
      rw [Int.ediv_one, Int.ediv_one, Int.neg_neg]
  exact ⟨one c1.1 c1.2, one c2.1 c2.2⟩
theorem uGo_enc {w : Pt} (h : circ w) : ∀ (n : Nat) (t : Int) (p r : Iv × Iv) (P R : Nat), 0 ≤ t → t < 2 ^ n → Enc2 p (tN w P) → Enc2 r (tN w R) → Enc2 (uGo n t p r) (tN w (R + P * t.toNat)) := by
  intro n
  induction n with
  | zero =>
    intro t p r P R t0 t1 hp hr
    have : t = 0 := by omega
    subst this
    exact hr
  | succ n ih =>
    intro t p r P R t0 t1 hp hr
    unfold uGo
    by_cases z : 0 < t
    · rw [if_pos z]
      have t2 : t / 2 < 2 ^ n := by rw [Int.pow_succ] at t1; omega
      have p2 : Enc2 (tog p p) (tN w (P + P)) := by rw [tN_add]; exact tog_enc (circ_tN h P) (circ_tN h P) hp hp
      by_cases y : t % 2 = 1
      · rw [if_pos y]
        have r2 : Enc2 (tog r p) (tN w (R + P)) := by rw [tN_add]; exact tog_enc (circ_tN h R) (circ_tN h P) hr hp
        have := ih (t / 2) _ _ (P + P) (R + P) (by omega) t2 p2 r2
        have e : R + P + (P + P) * (t / 2).toNat = R + P * t.toNat := by
          obtain ⟨m, hm⟩ : ∃ m : Nat, (t / 2).toNat = m := ⟨_, rfl⟩
          have : t.toNat = 2 * m + 1 := by omega
          rw [hm, this]; grind
        rw [e] at this
        exact this
      · rw [if_neg y]
        have := ih (t / 2) _ _ (P + P) R (by omega) t2 p2 hr
        have e : R + (P + P) * (t / 2).toNat = R + P * t.toNat := by
          obtain ⟨m, hm⟩ : ∃ m : Nat, (t / 2).toNat = m := ⟨_, rfl⟩
          have : t.toNat = 2 * m := by omega
          rw [hm, this]; grind
        rw [e] at this
        exact this
    · rw [if_neg z]
      have : t = 0 := by omega
      subst this
      exact hr
theorem tN_one {w : Pt} : tN w 1 = w := by
  show cm (1, 0, 1) w = w
  unfold cm
  refine Prod.ext ?_ (Prod.ext ?_ ?_) <;> dsimp only <;> omega
theorem enc0 {w : Pt} : Enc2 ((uS, uS), (0, 0)) (tN w 0) := by
  have a : Enc (uS, uS) 1 1 := ⟨⟨by decide, by decide⟩, by decide, by decide, fun _ => rfl⟩
  have b : Enc (0, 0) 0 1 := ⟨⟨by decide, by decide⟩, by decide, by decide, fun _ => rfl⟩
  exact ⟨a, b⟩
theorem uPow_enc {w : Pt} (h : circ w) {t : Int} (t0 : 0 ≤ t) (t1 : t < 2 ^ 20) : Enc2 (uPow w t) (tN w t.toNat) := by
  have := uGo_enc h 20 t (uOne w) ((uS, uS), (0, 0)) 1 0 t0 t1 (by rw [tN_one]; exact uOne_enc h) enc0
  rw [Nat.zero_add, Nat.one_mul] at this
  exact this
/-! ### widths -/
theorem mul_diff {x y u v k p q : Int} (hx : -k ≤ x ∧ x ≤ k) (hv : -k ≤ v ∧ v ≤ k) (hp : -p ≤ y - v ∧ y - v ≤ p) (hq : -q ≤ x - u ∧ x - u ≤ q) : x * y - u * v ≤ k * (p + q) := by
  have k0 : 0 ≤ k := by omega
  have p0 : 0 ≤ p := by omega
  have q0 : 0 ≤ q := by omega
  have e : x * y - u * v = x * (y - v) + (x - u) * v := by grind
  have a : x * (y - v) ≤ k * p := by
    rcases Int.le_total 0 x with z | z
    · exact Int.le_trans (mul_le_l hp.2 z) (mul_le_r hx.2 p0)
    · have h1 := mul_le_l' hp.1 z
      have h2 := mul_le_r hx.1 p0
      have e2 : x * -p = -(x * p) := by grind
      have e3 : -k * p = -(k * p) := by grind
      rw [e2] at h1
      rw [e3] at h2
      omega
  have b : (x - u) * v ≤ k * q := by
    rw [Int.mul_comm]
    rcases Int.le_total 0 v with z | z
    · exact Int.le_trans (mul_le_l hq.2 z) (mul_le_r hv.2 q0)
    · have h1 := mul_le_l' hq.1 z
      have h2 := mul_le_r hv.1 q0
      have e2 : v * -q = -(v * q) := by grind
      have e3 : -k * q = -(k * q) := by grind
      rw [e2] at h1
      rw [e3] at h2
      omega
  rw [e, Int.mul_add]
  omega
def inS (a : Iv) : Prop := -uS ≤ a.1 ∧ a.1 ≤ a.2 ∧ a.2 ≤ uS
def wI (a : Iv) : Int := a.2 - a.1
theorem iMul_wide {a b : Iv} (h : inS a) (g : inS b) : wI (iMul a b) ≤ uS * (wI a + wI b) := by
  obtain ⟨h1, h2, h3⟩ := h
  obtain ⟨g1, g2, g3⟩ := g
  have d : ∀ {x y u v : Int}, (x = a.1 ∨ x = a.2) → (u = a.1 ∨ u = a.2) → (y = b.1 ∨ y = b.2) → (v = b.1 ∨ v = b.2) → x * y - u * v ≤ uS * (wI b + wI a) := fun {x y u v} i1 i2 i3 i4 => by
    unfold wI
    refine mul_diff ⟨?_, ?_⟩ ⟨?_, ?_⟩ ⟨?_, ?_⟩ ⟨?_, ?_⟩ <;> omega
  rw [Int.add_comm (wI a)]
  generalize uS * (wI b + wI a) = B at d ⊢
  have l1 : a.1 = a.1 ∨ a.1 = a.2 := .inl rfl
  have l2 : a.2 = a.1 ∨ a.2 = a.2 := .inr rfl
  have m1 : b.1 = b.1 ∨ b.1 = b.2 := .inl rfl
  have m2 : b.2 = b.1 ∨ b.2 = b.2 := .inr rfl
  have q1 := d l1 l1 m1 m1
  have q2 := d l1 l1 m1 m2
  have q3 := d l1 l2 m1 m1
  have q4 := d l1 l2 m1 m2
  have q5 := d l1 l1 m2 m1
  have q6 := d l1 l2 m2 m1
  have q7 := d l1 l2 m2 m2
  have q8 := d l2 l1 m1 m1
  have q9 := d l2 l1 m1 m2
  have r1 := d l2 l2 m1 m2
  have r2 := d l2 l1 m2 m1
  have r3 := d l2 l1 m2 m2
  have r4 := d l2 l2 m2 m1
  clear d l1 l2 m1 m2
  unfold wI iMul
  dsimp only
  generalize a.1 * b.1 = x at *
  generalize a.1 * b.2 = y at *
  generalize a.2 * b.1 = z at *
  generalize a.2 * b.2 = w at *
  omega
theorem rnd_wide {a : Iv} {B : Int} (h : wI a ≤ uS * B) : wI (rnd a uS) ≤ B + 2 := by
  unfold wI rnd uS at *
  dsimp only
  omega
theorem lmt_wide {a : Iv} {B : Int} (h : wI a ≤ B) : wI (lmt a) ≤ B := by
  unfold wI lmt at *
  dsimp only
  omega
theorem wI_sub {a b : Iv} : wI (iSub a b) = wI a + wI b := by unfold wI iSub; dsimp only; omega
theorem wI_add {a b : Iv} : wI (iAdd a b) = wI a + wI b := by unfold wI iAdd; dsimp only; omega
theorem Enc.inS {a : Iv} {c d : Int} (h : Enc a c d) (hd : 1 ≤ d) : inS a := ⟨h.lo, h.le hd, h.hi⟩
theorem Enc.bd {a : Iv} {c d : Int} (h : Enc a c d) (hd : 1 ≤ d) : BdI a 60 := iOk.bd (m := uS) (h.inS hd) 60
def w2 (a : Iv × Iv) (w : Int) : Prop := wI a.1 ≤ w ∧ wI a.2 ≤ w
theorem tog_wide {a b : Iv × Iv} {x y : Pt} (hx : 1 ≤ x.2.2) (hy : 1 ≤ y.2.2) (h : Enc2 a x) (g : Enc2 b y) {u v : Int} (hu : w2 a u) (hv : w2 b v) : w2 (tog a b) (2 * (u + v) + 2) := by
  have a1 := h.1.inS hx
  have a2 := h.2.inS hx
  have b1 := g.1.inS hy
  have b2 := g.2.inS hy
  obtain ⟨u1, u2⟩ := hu
  obtain ⟨v1, v2⟩ := hv
  have m1 := iMul_wide a1 b1
  have m2 := iMul_wide a2 b2
  have m3 := iMul_wide a2 b1
  have m4 := iMul_wide a1 b2
  have uu : uS = 1000000000000000000 := rfl
  rw [uu] at m1 m2 m3 m4
  refine ⟨lmt_wide (rnd_wide ?_), lmt_wide (rnd_wide ?_)⟩
  · rw [wI_sub, uu]; omega
  · rw [wI_add, uu]; omega
def uW : Nat → Int → Int → Int
  | 0, _, w => w
  | n + 1, t, w => uW n (t / 2) (if 0 < t then w * 4 else w)
theorem uGo_wide {w : Pt} (h : circ w) : ∀ (n : Nat) (t : Int) (p r : Iv × Iv) (P R : Nat) (u v B : Int), 0 ≤ t → Enc2 p (tN w P) → Enc2 r (tN w R) → w2 p u → w2 r v → 3 * u + 2 ≤ 5 * B → v ≤ 4 * B → 0 < B → w2 (uGo n t p r) (uW n t (4 * B)) := by
  intro n
  induction n with
  | zero =>
    intro t p r P R u v B t0 hp hr hu hv h1 h2 h3
    have := hv.1
    have := hv.2
    exact ⟨by show wI r.1 ≤ 4 * B; omega, by show wI r.2 ≤ 4 * B; omega⟩
  | succ n ih =>
    intro t p r P R u v B t0 hp hr hu hv h1 h2 h3
    have cP := circ_tN h P
    have cR := circ_tN h R
    unfold uGo uW
    by_cases z : 0 < t
    · rw [if_pos z, if_pos z]
      have p2 : Enc2 (tog p p) (tN w (P + P)) := by rw [tN_add]; exact tog_enc cP cP hp hp
      have pw := tog_wide cP.2 cP.2 hp hp hu hu
      have e : 4 * B * 4 = 4 * (4 * B) := by omega
      rw [e]
      by_cases y : t % 2 = 1
      · rw [if_pos y]
        have r2 : Enc2 (tog r p) (tN w (R + P)) := by rw [tN_add]; exact tog_enc cR cP hr hp
        exact ih (t / 2) _ _ _ _ _ _ (4 * B) (by omega) p2 r2 pw (tog_wide cR.2 cP.2 hr hp hv hu) (by omega) (by omega) (by omega)
      · rw [if_neg y]
        exact ih (t / 2) _ _ _ _ _ _ (4 * B) (by omega) p2 hr pw hv (by omega) (by omega) (by omega)
    · rw [if_neg z, if_neg z]
      have : t = 0 := by omega
      subst this
      have e : ∀ (n : Nat) (w : Int), uW n 0 w = w := by
        intro n
        induction n with
        | zero => intro w; rfl
        | succ n ih => intro w; unfold uW; exact ih w
      rw [show (0 : Int) / 2 = 0 from rfl, e]
      have := hv.1
      have := hv.2
      exact ⟨by omega, by omega⟩
theorem uOne_wide {w : Pt} (h : circ w) : w2 (uOne w) 1 := by
  have d0 := h.2
  have one : ∀ x : Int, wI (rnd (x, x) w.2.2) ≤ 1 := fun x => by
    have a := Int.lt_ediv_add_one_mul_self x (b := w.2.2) (by omega)
    have b := Int.lt_ediv_add_one_mul_self (-x) (b := w.2.2) (by omega)
    unfold wI rnd
    dsimp only
    rcases Int.lt_or_le (x / w.2.2 + -x / w.2.2) (-1) with z | z
    · have m := mul_le_r (c := w.2.2) (show x / w.2.2 + 1 + (-x / w.2.2 + 1) ≤ 0 by omega) (by omega)
      rw [Int.add_mul, Int.zero_mul] at m
      omega
    · omega
  exact ⟨one _, one _⟩
theorem uPow_wide {w : Pt} (h : circ w) {t : Int} (t0 : 0 ≤ t) : w2 (uPow w t) (uW 20 t 4) :=
  uGo_wide h 20 t (uOne w) ((uS, uS), (0, 0)) 1 0 1 0 1 t0 (by rw [tN_one]; exact uOne_enc h) enc0 (uOne_wide h) ⟨by decide, by decide⟩ (by decide) (by decide) (by decide)
theorem uW_more : ∀ (n k : Nat) (t w : Int), 0 ≤ t → t < 2 ^ n → uW (n + k) t w = uW n t w := by
  intro n
  induction n with
  | zero =>
    intro k t w t0 t1
    have : t = 0 := by omega
    subst this
    rw [Nat.zero_add]
    induction k with
    | zero => rfl
    | succ k ih => unfold uW; exact ih
  | succ n ih =>
    intro k t w t0 t1
    rw [show n + 1 + k = n + k + 1 by omega]
    unfold uW
    exact ih k _ _ (by omega) (by rw [Int.pow_succ] at t1; omega)
theorem uW_mono : ∀ (n : Nat) (t v w : Int), v ≤ w → uW n t v ≤ uW n t w := by
  intro n
  induction n with
  | zero => intro t v w h; exact h
  | succ n ih =>
    intro t v w h
    unfold uW
    refine ih _ _ _ ?_
    split <;> omega
/-! ### sites -/
def siteB (w p : Pt) (t : Int) : Box := (rnd (iAdd (iScale (uPow w t).1 p.1) (iScale (uPow w t).2 (-p.2.1))) uS, rnd (iAdd (iScale (uPow w t).2 p.1) (iScale (uPow w t).1 p.2.1)) uS, (p.2.2, p.2.2))
def siteO (w p : Pt) (b e : Int) : Box := (M.rngL (b + 1) (e + 1)).foldl (fun x t => bHull x (siteB w p t)) (siteB w p b)
/-- the exact place of a site, times its scale -/
def siteN (w p : Pt) (n : Nat) : Pt := (p.1 * (tN w n).1 - p.2.1 * (tN w n).2.1, p.1 * (tN w n).2.1 + p.2.1 * (tN w n).1, p.2.2 * (tN w n).2.2)
def bSc (k : Int) (b : Box) : Box := (sc k b.1, sc k b.2.1, sc k b.2.2)
theorem siteB_in {w p : Pt} (h : circ w) {t : Int} (t0 : 0 ≤ t) (t1 : t < 2 ^ 20) : bM (siteN w p t.toNat) (bSc (tN w t.toNat).2.2 (siteB w p t)) := by
  obtain ⟨⟨e1, _, _, _⟩, e2, _, _, _⟩ := uPow_enc h t0 t1
  have c := circ_tN h t.toNat
  unfold siteN siteB
  generalize tN w t.toNat = z at *
  generalize uPow w t = u at *
  have d := c.2
  refine ⟨rnd_in (by decide) (by omega) ?_, rnd_in (by decide) (by omega) ?_, ⟨Int.le_refl _, Int.le_refl _⟩⟩
  · have q := iM_add (iM_scale (n := p.1) e1) (iM_scale (n := -p.2.1) e2)
    rw [iScale_sc, iScale_sc, iAdd_sc] at q
    have e : z.1 * uS * p.1 + z.2.1 * uS * -p.2.1 = (p.1 * z.1 - p.2.1 * z.2.1) * uS := by generalize uS = s; grind
    rw [e] at q
    exact q
  · have q := iM_add (iM_scale (n := p.1) e2) (iM_scale (n := p.2.1) e1)
    rw [iScale_sc, iScale_sc, iAdd_sc] at q
    have e : z.2.1 * uS * p.1 + z.1 * uS * p.2.1 = (p.1 * z.2.1 + p.2.1 * z.1) * uS := by generalize uS = s; grind
    rw [e] at q
    exact q
theorem sc_hull {k x : Int} {a b : Iv} (hk : 0 ≤ k) : (iM x (sc k a) → iM x (sc k (iHull a b))) ∧ (iM x (sc k b) → iM x (sc k (iHull a b))) := by
  have e1 := min_sc (x := a.1) (y := b.1) hk
  have e2 := max_sc (x := a.2) (y := b.2) hk
  unfold iM sc iHull
  dsimp only
  rw [← e1, ← e2]
  exact ⟨fun h => by omega, fun h => by omega⟩
theorem bSc_hull1 {k : Int} {x : Pt} {a b : Box} (hk : 0 ≤ k) (h : bM x (bSc k a)) : bM x (bSc k (bHull a b)) := ⟨(sc_hull hk).1 h.1, (sc_hull hk).1 h.2.1, (sc_hull hk).1 h.2.2⟩
theorem bSc_hull2 {k : Int} {x : Pt} {a b : Box} (hk : 0 ≤ k) (h : bM x (bSc k b)) : bM x (bSc k (bHull a b)) := ⟨(sc_hull hk).2 h.1, (sc_hull hk).2 h.2.1, (sc_hull hk).2 h.2.2⟩
theorem foldH_in {k : Int} {x : Pt} {f : Int → Box} (hk : 0 ≤ k) : ∀ (l : List Int) (b : Box), (bM x (bSc k b) ∨ ∃ t ∈ l, bM x (bSc k (f t))) → bM x (bSc k (l.foldl (fun y t => bHull y (f t)) b))
  | [], b, h => by
    rcases h with h | ⟨t, ht, _⟩
    · exact h
    · cases ht
  | a :: l, b, h => by
    rw [List.foldl_cons]
    refine foldH_in hk l _ ?_
    rcases h with h | ⟨t, ht, h⟩
    · exact .inl (bSc_hull1 hk h)
    · rcases List.mem_cons.mp ht with rfl | ht
      · exact .inl (bSc_hull2 hk h)
      · exact .inr ⟨t, ht, h⟩
theorem siteO_in {w p : Pt} (h : circ w) {b e t : Int} (b0 : 0 ≤ b) (t0 : b ≤ t) (t1 : t ≤ e) (te : t < 2 ^ 20) : bM (siteN w p t.toNat) (bSc (tN w t.toNat).2.2 (siteO w p b e)) := by
  have c := circ_tN h t.toNat
  have s := siteB_in (p := p) h (show 0 ≤ t by omega) te
  unfold siteO
  refine foldH_in (by have := c.2; omega) _ _ ?_
  by_cases z : t = b
  · subst z; exact .inl s
  · exact .inr ⟨t, M.rngL_mem.mpr ⟨by omega, by omega⟩, s⟩
/-- verdicts do not hang on the scale -/
theorem bSub_sc {k : Int} {a b : Box} : bSub (bSc k a) (bSc k b) = bSc k (bSub a b) := by
  unfold bSub bMap2 bSc
  simp only [iSub_sc]
theorem bInner_sc {k : Int} (hk : 0 ≤ k) {a b : Box} : bInner (bSc k a) (bSc k b) = sc (k * k) (bInner a b) := by
  unfold bInner bSc
  simp only [iMul_sc hk hk, iAdd_sc]
theorem iSq_sc {k : Int} (hk : 0 < k) {a : Iv} : iSq (sc k a) = sc (k * k) (iSq a) := by
  have h : ∀ x : Int, 0 ≤ x * k ↔ 0 ≤ x := fun x => ⟨fun z => by
    rcases Int.lt_or_le x 0 with y | y
    · have := Int.mul_neg_of_neg_of_pos y hk
      omega
    · exact y, fun z => Int.mul_nonneg z (by omega)⟩
  have g : ∀ x : Int, x * k ≤ 0 ↔ x ≤ 0 := fun x => ⟨fun z => by
    rcases Int.lt_or_le 0 x with y | y
    · have := Int.mul_pos y hk
      omega
    · exact y, fun z => Int.mul_nonpos_of_nonpos_of_nonneg z (by omega)⟩
  have e : ∀ x : Int, x * k * (x * k) = x * x * (k * k) := fun x => by grind
  have kk : 0 ≤ k * k := sq_nn
  unfold iSq sc
  dsimp only
  simp only [h, g, e, max_sc kk]
  split
  · rfl
  · split
    · rfl
    · rw [Int.zero_mul]
theorem bSqLen_sc {k : Int} (hk : 0 < k) {a : Box} : bSqLen (bSc k a) = sc (k * k) (bSqLen a) := by
  unfold bSqLen bSc
  simp only [iSq_sc hk, iAdd_sc]
theorem elev_sc {k m : Int} (hk : 0 < k) {b s : Box} : elev (bSc k b) (bSc k s) m = elev b s m := by
  have kk : 0 < k * k := Int.mul_pos hk hk
  have k4 : 0 < k * k * (k * k) := Int.mul_pos kk kk
  unfold elev
  rw [bSub_sc, bInner_sc (by omega), bSqLen_sc hk, bSqLen_sc hk]
  generalize bInner (bSub b s) s = q
  generalize bSqLen (bSub b s) = t
  generalize bSqLen s = u
  generalize k * k = d at *
  unfold sc
  dsimp only
  have h : ∀ x : Int, 0 ≤ x * d ↔ 0 ≤ x := fun x => ⟨fun z => by
    rcases Int.lt_or_le x 0 with y | y
    · have := Int.mul_neg_of_neg_of_pos y kk
      omega
    · exact y, fun z => Int.mul_nonneg z (by omega)⟩
  have g : ∀ x : Int, x * d < 0 ↔ x < 0 := fun x => by
    have := h x
    omega
  have l : ∀ x y : Int, x * (d * d) ≤ y * (d * d) ↔ x ≤ y := fun x y => ⟨fun z => Int.le_of_mul_le_mul_right z k4, fun z => mul_le_r z (by omega)⟩
  have l2 : ∀ x y : Int, x * (d * d) < y * (d * d) ↔ x < y := fun x y => by
    have := l y x
    omega
  have e1 : ∀ x y : Int, x * d * (y * d) * m * m = x * y * m * m * (d * d) := fun x y => by grind
  have e2 : ∀ x : Int, x * d * (x * d) * uM = x * x * uM * (d * d) := fun x => by generalize uM = s; grind
  simp only [h, g, e1, e2, l, l2]
/-! ### spans -/
abbrev Sp := Int × Int × Str
/-- spans without a gap from s on, the next tick is e -/
def chn : Int → List Sp → Int → Prop
  | s, [], e => s = e
  | s, x :: l, e => x.1 = s ∧ x.1 ≤ x.2.1 ∧ chn (x.2.1 + 1) l e
theorem chn_snoc : ∀ {l : List Sp} {s e : Int} {x : Sp}, chn s l e → x.1 = e → x.1 ≤ x.2.1 → chn s (l ++ [x]) (x.2.1 + 1)
  | [], s, e, x, h, h1, h2 => ⟨by have : s = e := h; omega, h2, rfl⟩
  | a :: l, s, e, x, h, h1, h2 => ⟨h.1, h.2.1, chn_snoc h.2.2 h1 h2⟩
theorem chn_last : ∀ {u : List Sp} {s e e' : Int} {y : Sp} {w : Str}, chn s (u ++ [y]) e → y.2.1 < e' → chn s (u ++ [(y.1, e', w)]) (e' + 1)
  | [], s, e, e', y, w, h, h2 => ⟨h.1, by have := h.2.1; dsimp only; omega, rfl⟩
  | a :: u, s, e, e', y, w, h, h2 => ⟨h.1, h.2.1, chn_last h.2.2 h2⟩
theorem chn_end : ∀ {u : List Sp} {s e : Int} {y : Sp}, chn s (u ++ [y]) e → y.2.1 + 1 = e ∧ y.1 ≤ y.2.1
  | [], s, e, y, h => ⟨h.2.2, h.2.1⟩
  | a :: u, s, e, y, h => chn_end (u := u) h.2.2
/-- where the k-th span begins -/
def bnd : Int → List Sp → Nat → Int
  | s, [], _ => s
  | s, _ :: _, 0 => s
  | s, x :: l, k + 1 => bnd (x.2.1 + 1) l k
theorem chn_at : ∀ {l : List Sp} {s e : Int}, chn s l e → ∀ (k : Nat) x, l[k]? = some x → x.1 = bnd s l k ∧ x.1 ≤ x.2.1 ∧ bnd s l (k + 1) = x.2.1 + 1
  | [], s, e, h, k, x, hx => by cases hx
  | a :: l, s, e, h, 0, x, hx => by
    cases hx
    refine ⟨h.1, h.2.1, ?_⟩
    cases l with
    | nil => rfl
    | cons b l => rfl
  | a :: l, s, e, h, k + 1, x, hx => chn_at h.2.2 k x hx
theorem chn_len : ∀ {l : List Sp} {s e : Int}, chn s l e → bnd s l l.length = e
  | [], s, e, h => h
  | a :: l, s, e, h => show bnd (a.2.1 + 1) l l.length = e from chn_len h.2.2
theorem bnd_0 {s : Int} {l : List Sp} : bnd s l 0 = s := by cases l <;> rfl
theorem chn_le : ∀ {l : List Sp} {s e : Int}, chn s l e → s ≤ e
  | [], s, e, h => by have : s = e := h; omega
  | a :: l, s, e, h => by
    have := chn_le h.2.2
    have := h.1
    have := h.2.1
    omega
theorem chn_mem : ∀ {l : List Sp} {s e : Int}, chn s l e → ∀ x ∈ l, s ≤ x.1 ∧ x.1 ≤ x.2.1 ∧ x.2.1 < e
  | a :: l, s, e, h, x, hx => by
    have := chn_le h.2.2
    obtain ⟨h1, h2, h3⟩ := h
    rcases List.mem_cons.mp hx with rfl | hx
    · omega
    · have := chn_mem h3 x hx
      omega
/-- neighbours differ -/
def dif (l : List Sp) : Prop := ∀ (k : Nat) x y, l[k]? = some x → l[k + 1]? = some y → x.2.2 ≠ y.2.2
/-- each tick of a span has a first span that told it -/
def told (r l : List Sp) : Prop := ∀ x ∈ r, ∀ t, x.1 ≤ t → t ≤ x.2.1 → ∃ y ∈ l, y.1 ≤ t ∧ t ≤ y.2.1 ∧ y.2.2 = x.2.2
def joinA (r : List Sp) (x : Sp) : List Sp := match r.getLast? with
  | none => [x]
  | some y => if y.2.2 = x.2.2 ∧ y.2.1 + 1 = x.1 then r.dropLast ++ [(y.1, x.2.1, x.2.2)] else r ++ [x]
def joinL (l : List Sp) : List Sp := l.foldl joinA []
theorem last_cases {α : Type} (l : List α) : l = [] ∨ ∃ u y, l = u ++ [y] := by
  rcases List.eq_nil_or_concat l with h | ⟨u, y, h⟩
  · exact .inl h
  · exact .inr ⟨u, y, by rw [h, List.concat_eq_append]⟩
theorem joinA_snoc {u : List Sp} {y x : Sp} : joinA (u ++ [y]) x = if y.2.2 = x.2.2 ∧ y.2.1 + 1 = x.1 then u ++ [(y.1, x.2.1, x.2.2)] else u ++ [y] ++ [x] := by
  unfold joinA
  rw [List.getLast?_concat]
  show (if _ then _ else _) = _
  rw [List.dropLast_concat]
theorem joinA_len {r : List Sp} {x : Sp} : (joinA r x).length ≤ r.length + 1 := by
  rcases last_cases r with h | ⟨u, y, h⟩
  · subst h; exact Nat.le_refl _
  · subst h
    rw [joinA_snoc]
    split
    · rw [List.length_append, List.length_append]; simp only [List.length_cons, List.length_nil]; omega
    · rw [List.length_append]; exact Nat.le_refl _
structure JOk (s e : Int) (r l : List Sp) : Prop where
  c : chn s r e
  d : dif r
  t : told r l
theorem dif_snoc {u : List Sp} {x : Sp} (h : dif u) (g : ∀ y, u.getLast? = some y → y.2.2 ≠ x.2.2) : dif (u ++ [x]) := by
  intro k a b ha hb
  rcases Nat.lt_trichotomy (k + 1) u.length with z | z | z
  · rw [List.getElem?_append_left (by omega)] at ha hb
    exact h k a b ha hb
  · rw [List.getElem?_append_left (by omega)] at ha
    rw [List.getElem?_append_right (by omega), z, Nat.sub_self] at hb
    cases hb
    refine g a ?_
    rw [List.getLast?_eq_getElem?, ← z]
    exact ha
  · rw [List.getElem?_eq_none (by rw [List.length_append]; simp only [List.length_cons, List.length_nil]; omega)] at hb
    cases hb
theorem dif_pre {u v : List Sp} (h : dif (u ++ v)) : dif u := by
  intro k a b ha hb
  have l1 := (List.getElem?_eq_some_iff.mp ha).1
  have l2 := (List.getElem?_eq_some_iff.mp hb).1
  exact h k a b (by rw [List.getElem?_append_left l1]; exact ha) (by rw [List.getElem?_append_left l2]; exact hb)
theorem joinA_ok {s e : Int} {r l : List Sp} {x : Sp} (h : JOk s e r l) (h1 : x.1 = e) (h2 : x.1 ≤ x.2.1) : JOk s (x.2.1 + 1) (joinA r x) (l ++ [x]) := by
  have old : told r (l ++ [x]) := fun z hz t t1 t2 => by
    obtain ⟨y, hy, q⟩ := h.t z hz t t1 t2
    exact ⟨y, List.mem_append_left _ hy, q⟩
  have new : ∀ t, x.1 ≤ t → t ≤ x.2.1 → ∃ y ∈ l ++ [x], y.1 ≤ t ∧ t ≤ y.2.1 ∧ y.2.2 = x.2.2 := fun t t1 t2 => ⟨x, List.mem_append_right _ (.head _), t1, t2, rfl⟩
  rcases last_cases r with z | ⟨u, y, z⟩
  · subst z
    refine ⟨?_, ?_, ?_⟩
    · exact ⟨by have : s = e := h.c; omega, h2, rfl⟩
    · intro k a b ha hb; cases hb
    · intro z hz
      cases List.mem_singleton.mp hz
      exact new
  · subst z
    rw [joinA_snoc]
    obtain ⟨ce, cl⟩ := chn_end h.c
    by_cases c : y.2.2 = x.2.2 ∧ y.2.1 + 1 = x.1
    · rw [if_pos c]
      refine ⟨chn_last h.c (by omega), dif_snoc (dif_pre h.d) fun a ha => ?_, fun z hz t t1 t2 => ?_⟩
      · show a.2.2 ≠ x.2.2
        rw [← c.1]
        have ul : 0 < u.length := by
          cases u with
          | nil => cases ha
          | cons b u => exact Nat.succ_pos _
        rw [List.getLast?_eq_getElem?] at ha
        refine h.d (u.length - 1) a y (by rw [List.getElem?_append_left (by omega)]; exact ha) ?_
        rw [List.getElem?_append_right (by omega), show u.length - 1 + 1 - u.length = 0 by omega]
        rfl
      · rcases List.mem_append.mp hz with hz | hz
        · exact old z (List.mem_append_left _ hz) t t1 t2
        · cases List.mem_singleton.mp hz
          dsimp only at t1 t2 ⊢
          rcases Int.lt_or_le t x.1 with q | q
          · obtain ⟨a, ha, h3, h4, h5⟩ := old y (List.mem_append_right _ (.head _)) t t1 (by omega)
            exact ⟨a, ha, h3, h4, h5.trans c.1⟩
          · exact new t q t2
    · rw [if_neg c]
      refine ⟨chn_snoc h.c h1 h2, dif_snoc h.d fun a ha => ?_, fun z hz t t1 t2 => ?_⟩
      · rw [List.getLast?_concat] at ha
        cases ha
        exact fun q => c ⟨q, by omega⟩
      · rcases List.mem_append.mp hz with hz | hz
        · exact old z hz t t1 t2
        · cases List.mem_singleton.mp hz
          exact new t t1 t2
theorem joinL_go {s : Int} : ∀ {l r k : List Sp} {m e : Int}, JOk s m r k → chn m l e → JOk s e (l.foldl joinA r) (k ++ l)
  | [], r, k, m, e, h, c => by
    have : m = e := c
    subst this
    rw [List.append_nil]
    exact h
  | x :: l, r, k, m, e, h, c => by
    have := joinL_go (joinA_ok h c.1 c.2.1) c.2.2
    rw [List.append_assoc] at this
    exact this
theorem joinL_ok {s e : Int} {l : List Sp} (c : chn s l e) : JOk s e (joinL l) l := by
  have := joinL_go (r := []) (k := []) ⟨rfl, (fun k a b ha hb => by cases hb), (fun z hz => by cases hz)⟩ c
  exact this
/-- the spans of a course's pieces between two ticks -/
def rawL (V : Piece → Int → Int → Str) (b e : Int) (l : List Piece) : List Sp := l.filterMap fun p => if max b p.b ≤ min e p.e then some (max b p.b, min e p.e, V p (max b p.b) (min e p.e)) else none
def pcs (st : Int) : Int → List Piece → Prop
  | _, [] => True
  | s, p :: l => p.b = s ∧ p.e = s + st - 1 ∧ pcs st (s + st) l
theorem pcs_nil {V : Piece → Int → Int → Str} {b e st : Int} : ∀ {l : List Piece} {s : Int}, pcs st s l → 1 ≤ st → e < max b s → rawL V b e l = []
  | [], s, _, _, _ => rfl
  | p :: l, s, h, hs, he => by
    unfold rawL
    rw [List.filterMap_cons, if_neg (by have := h.1; omega)]
    exact pcs_nil h.2.2 hs (by omega)
theorem raw_chn {V : Piece → Int → Int → Str} {b e st : Int} (hs : 1 ≤ st) : ∀ {l : List Piece} {s : Int}, pcs st s l → chn (max b s) (rawL V b e l) (max (max b s) (min (e + 1) (s + l.length * st)))
  | [], s, _ => by
    show max b s = _
    rw [List.length_nil]
    omega
  | p :: l, s, h => by
    obtain ⟨h1, h2, h3⟩ := h
    have ih := raw_chn (V := V) (b := b) (e := e) hs h3
    have el : s + ((p :: l).length : Int) * st = s + st + (l.length : Int) * st := by
      rw [List.length_cons, Int.natCast_add, Int.add_mul]
      omega
    have ll : 0 ≤ (l.length : Int) * st := Int.mul_nonneg (by omega) (by omega)
    rw [el]
    unfold rawL
    rw [List.filterMap_cons]
    by_cases z : max b p.b ≤ min e p.e
    · rw [if_pos z]
      refine ⟨by dsimp only; omega, z, ?_⟩
      show chn (min e p.e + 1) (rawL V b e l) _
      by_cases y : s + st ≤ e + 1
      · rw [show min e p.e + 1 = max b (s + st) by omega, show max (max b s) (min (e + 1) (s + st + (l.length : Int) * st)) = max (max b (s + st)) (min (e + 1) (s + st + (l.length : Int) * st)) by omega]
        exact ih
      · rw [pcs_nil h3 hs (by omega)]
        show min e p.e + 1 = _
        omega
    · rw [if_neg z]
      show chn (max b s) (rawL V b e l) _
      by_cases y : s + st ≤ b
      · rw [show max b s = max b (s + st) by omega]
        exact ih
      · rw [pcs_nil h3 hs (by omega)]
        show max b s = _
        omega
theorem raw_mem {V : Piece → Int → Int → Str} {b e : Int} {l : List Piece} {x : Sp} (h : x ∈ rawL V b e l) : ∃ p ∈ l, p.b ≤ x.1 ∧ b ≤ x.1 ∧ x.1 ≤ x.2.1 ∧ x.2.1 ≤ p.e ∧ x.2.1 ≤ e ∧ x.2.2 = V p x.1 x.2.1 := by
  unfold rawL at h
  obtain ⟨p, hp, e⟩ := List.mem_filterMap.mp h
  split at e
  · rename_i z
    cases e
    exact ⟨p, hp, by dsimp only; omega, by dsimp only; omega, z, by dsimp only; omega, by dsimp only; omega, rfl⟩
  · cases e
theorem CoOk.pcs {c : Craft} {st u : Int} {co : Course} (h : CoOk c st u co) : pcs st c.start co.pieces := by
  have g : ∀ (l : List Piece) (s : Int), (∀ (i : Nat) p, l[i]? = some p → p.b = s + i * st ∧ p.e = p.b + st - 1) → Q.pcs st s l := by
    intro l
    induction l with
    | nil => intro s _; exact trivial
    | cons p l ih =>
      intro s q
      obtain ⟨q1, q2⟩ := q 0 p rfl
      refine ⟨by omega, by omega, ih _ fun i p hp => ?_⟩
      obtain ⟨r1, r2⟩ := q (i + 1) p hp
      refine ⟨?_, r2⟩
      rw [r1, Int.natCast_add, Int.add_mul]
      omega
  refine g _ _ fun i p hp => ?_
  obtain ⟨q1, q2⟩ := h.pc i p hp
  exact ⟨q2, q1.e0⟩
/-- the verdict that all have -/
def agr : List Str → Str
  | [] => "possible"
  | a :: l => if l.all (fun b => decide (b = a)) = true then a else "possible"
theorem agr_all {l : List Str} {v : Str} (h : agr l = v) (hv : v ≠ "possible") : ∀ x ∈ l, x = v := by
  cases l with
  | nil => intro x hx; cases hx
  | cons a l =>
    rw [agr] at h
    split at h
    · rename_i z
      subst h
      intro x hx
      rcases List.mem_cons.mp hx with rfl | hx
      · rfl
      · exact of_decide_eq_true (List.all_eq_true.mp z x hx)
    · exact absurd h.symm hv
theorem agr_in {l : List Str} {W : List Str} (h : ∀ x ∈ l, x ∈ W) (hp : ("possible" : Str) ∈ W) : agr l ∈ W := by
  cases l with
  | nil => exact hp
  | cons a l =>
    rw [agr]
    split
    · exact h a (.head _)
    · exact hp
end Q

namespace Q
open PySem PySem.Spec L2
def ATS0 : List Str := ["__init__", "ahead", "append", "at", "begin", "body", "box", "broken", "burns", "change", "claims", "contents", "craft", "craft_named", "crafts", "drift", "during", "earlier", "edit", "end", "ending", "fail", "fineness", "found", "get", "index", "join", "last", "line", "lines"]
def ATS1 : List Str := ["lstrip", "made", "moment", "moments", "mu", "name", "need", "numbers", "oblateness", "offset", "parts", "peek", "pieces", "pieces_of", "place", "pop", "position", "push", "replace", "row", "rows", "sightings", "sites", "speed", "split", "start", "startswith", "states", "stride", "take"]
def ATS2 : List Str := ["turn", "undo", "upper", "version", "word", "words"]
def ATS : List Str := ATS0 ++ ATS1 ++ ATS2
def CLS0 : List Str := ["BadArgument", "BadQuestion", "BadText", "BeforeStart", "Body", "Burn", "BurnsOverlap", "Catalogue", "Certificate", "Contents", "Course", "CourseLost", "CourseVoid", "Craft", "Journey", "Known", "Moment", "NoSuchBurn", "NoSuchCraft", "NoSuchSighting", "NoSuchSite", "NothingKnown", "OrreryError", "Piece", "Reader", "SavedReader", "Sighting", "Site", "State", "TooMany"]
def CLS : List Str := CLS0
def NM : Nam := ⟨nameAt ATS, nameAt CLS⟩
theorem NMinj : ∀ i j, NM.at_ i = NM.at_ j → i = j := nameAt_inj (l := ATS) (by decide +kernel) (by decide +kernel)
abbrev AT_ : List (Nat × Nat) := [(4, 34), (4, 38), (4, 60), (27, 35), (27, 44)]
namespace M
open PySem PySem.Spec L2
end M
namespace M
instance : NZ 1 := ⟨by decide⟩
instance : NZ 2 := ⟨by decide⟩
instance : NZ 3 := ⟨by decide⟩
instance : NZ 4 := ⟨by decide⟩
instance : NZ 5 := ⟨by decide⟩
instance : NZ 6 := ⟨by decide⟩
instance : NZ 7 := ⟨by decide⟩
instance : NZ 8 := ⟨by decide⟩
instance : NZ 11 := ⟨by decide⟩
instance : NZ 12 := ⟨by decide⟩
instance : NZ 20 := ⟨by decide⟩
instance : NZ 31 := ⟨by decide⟩
instance : NZ 40 := ⟨by decide⟩
instance : NZ 200 := ⟨by decide⟩
instance : NZ 399 := ⟨by decide⟩
instance : NZ 401 := ⟨by decide⟩
instance : NZ 700 := ⟨by decide⟩
instance : NZ 900 := ⟨by decide⟩
instance : NZ 1000 := ⟨by decide⟩
instance : NZ 2100 := ⟨by decide⟩
instance : NZ 9999 := ⟨by decide⟩
instance : NZ 10001 := ⟨by decide⟩
instance : NZ 16807 := ⟨by decide⟩
instance : NZ 40014 := ⟨by decide⟩
instance : NZ 48271 := ⟨by decide⟩
instance : NZ 69621 := ⟨by decide⟩
instance : NZ 1000000 := ⟨by decide⟩
instance : NZ 1000000000 := ⟨by decide⟩
instance : NZ 2147482951 := ⟨by decide⟩
instance : NZ 2147483029 := ⟨by decide⟩
instance : NZ 2147483399 := ⟨by decide⟩
instance : NZ 2147483647 := ⟨by decide⟩
instance : NZ 1000000000000000 := ⟨by decide⟩
instance : NZ 1000000000000000000 := ⟨by decide⟩
instance : NZ 1000000000000000000000000000000 := ⟨by decide⟩
end M
/-! _law_row -/
def b_law_row_0 : List S := .asg (.nm 2) (.bin .mod (.blt .int [.bin .add (.bin .mul (.bin .add (.var 2) (.cst (.int 1))) (.cst (.int 48271))) (.bin .mul (.bin .add (.var 1) (.cst (.int 1))) (.cst (.int 69621)))]) (.cst (.int 2147483647))) :: [.asg (.nm 2) (.bin .add (.bin .mul (.bin .mod (.blt .int [.bin .add (.bin .add (.bin .mul (.var 2) (.cst (.int 16807))) (.bin .mul (.var 1) (.cst (.int 40014)))) (.cst (.int 11))]) (.cst (.int 2147483399))) (.cst (.int 2147483029))) (.bin .mod (.blt .int [.bin .mul (.var 2) (.var 2)]) (.cst (.int 2147482951))))]
def i_law_row_3 : List S := .ite (.cmp .lt (.var 2) (.bin .pow (.cst (.int 10)) (.cst (.int 9)))) b_law_row_0 [] :: [.ret (.var 2)]
def i_law_row_2 : List S := .ite (.cmp .lt (.var 2) (.cst (.int 0))) [.asg (.nm 2) (.bin .sub (.cst (.int 1)) (.bin .mul (.cst (.int 2)) (.var 2)))] [] :: i_law_row_3
def i_law_row_1 : List S := .ite (.cmp .lt (.var 1) (.blt .len [.var 0])) [.asg (.nm 2) (.blt .int [.idx (.var 0) (.var 1)])] [] :: i_law_row_2
def i_law_row : List S := .asg (.nm 2) (.cst (.int 0)) :: i_law_row_1
abbrev G_law_row : List (Str × D) := []
abbrev P_law_row : List Cal := []
abbrev c_law_row : M.Cx := ⟨NM, AT_, P_law_row, G_law_row, True⟩
namespace M
open PySem PySem.Spec L2
noncomputable section
def m_law_row_J2 (k_2 : Int) (row_8 : Int) : Rs Int :=
  (cnd (row_8 < (1000000000:Int)) (((((mulR (row_8 + (1:Int)) (48271:Int)).bind fun a_9 => ((mulR (k_2 + (1:Int)) (69621:Int)).bind fun a_10 => (Rs.ok (a_9 + a_10)))).bind fun a_11 => (Rs.ok a_11)).bind fun a_12 => (modR a_12 (2147483647:Int))).bind fun row_13 => ((((((((mulR row_13 (16807:Int)).bind fun a_14 => ((mulR k_2 (40014:Int)).bind fun a_15 => (Rs.ok (a_14 + a_15)))).bind fun a_16 => (Rs.ok (a_16 + (11:Int)))).bind fun a_17 => (Rs.ok a_17)).bind fun a_18 => (modR a_18 (2147483399:Int))).bind fun a_19 => (mulR a_19 (2147483029:Int))).bind fun a_22 => ((((mulR row_13 row_13).bind fun a_20 => (Rs.ok a_20)).bind fun a_21 => (modR a_21 (2147482951:Int))).bind fun a_23 => (Rs.ok (a_22 + a_23)))).bind fun row_24 => (Rs.ok row_24))) (Rs.ok row_8))
def m_law_row_J1 (k_2 : Int) (row_5 : Int) : Rs Int :=
  (cnd (row_5 < (0:Int)) (((mulR (2:Int) row_5).bind fun a_6 => (Rs.ok ((1:Int) - a_6))).bind fun row_7 => (m_law_row_J2 k_2 row_7)) (m_law_row_J2 k_2 row_5))
def m_law_row (script_1 : (List Int)) (k_2 : Int) : Rs Int :=
  (cnd (k_2 < (script_1.length : Int)) (((idxR script_1 k_2).bind fun a_3 => (Rs.ok a_3)).bind fun row_4 => (m_law_row_J1 k_2 row_4)) (m_law_row_J1 k_2 (0:Int)))
theorem k_law_row (script_1 : (List Int)) (k_2 : Int) : RK c_law_row D.int i_law_row [Sl.val ((dR D.int) script_1), Sl.val (D.int k_2), Sl.un] (m_law_row script_1 k_2) (NN D.int) F0 F0 := by
  unfold m_law_row
  refine rk_asgp (ρ' := [Sl.val ((dR D.int) script_1), Sl.val (D.int k_2), Sl.val (D.int (0:Int))]) rp_cst rfl ?_
  refine rk_jn (σ := Int) (J := Unit) (fun s j => [Sl.val ((dR D.int) script_1), Sl.val (D.int k_2), Sl.val (D.int s)]) (fun s => m_law_row_J1 k_2 s) ?_ (fun m_law_row_J1_k => ?_)
  · rintro row_5 _
    show RK _ _ _ [Sl.val ((dR D.int) script_1), Sl.val (D.int k_2), Sl.val (D.int row_5)] (m_law_row_J1 k_2 row_5) _ _ _
    unfold m_law_row_J1
    refine rk_jn (σ := Int) (J := Unit) (fun s j => [Sl.val ((dR D.int) script_1), Sl.val (D.int k_2), Sl.val (D.int s)]) (fun s => m_law_row_J2 k_2 s) ?_ (fun m_law_row_J2_k => ?_)
    · rintro row_8 _
      show RK _ _ _ [Sl.val ((dR D.int) script_1), Sl.val (D.int k_2), Sl.val (D.int row_8)] (m_law_row_J2 k_2 row_8) _ _ _
      unfold m_law_row_J2
      refine rk_ifu (ru_cmp (rp_var rfl) (rp_powc (v := 1000000000) rp_cst rp_cst (cpq (by decide) (by decide +kernel)) (by decide +kernel)) (fun _ h => h)) (fun _ => ?_) (fun _ => ?_)
      · refine rk_asg (g := fun row_13 => [Sl.val ((dR D.int) script_1), Sl.val (D.int k_2), Sl.val (D.int row_13)]) (re_bin (rx_e (n := D.int) (re_blt (n := D.int) (rx_e (n := D.int) (re_bin (rx_e (n := D.int) (re_bin (rx_p (rp_add (rp_var rfl) rp_cst) (rx_p rp_cst (rx_nil qb_mul)))) (fun a_9 => (rx_e (n := D.int) (re_bin (rx_p (rp_add (rp_var rfl) rp_cst) (rx_p rp_cst (rx_nil qb_mul)))) (fun a_10 => (rx_nil qb_add)))))) (fun a_11 => (rx_nil (fun k _ h => h))))) (fun a_12 => (rx_p rp_cst (rx_nil qb_mod))))) (fun _ => rfl) (fun row_13 => ?_)
        refine rk_asg (g := fun row_24 => [Sl.val ((dR D.int) script_1), Sl.val (D.int k_2), Sl.val (D.int row_24)]) (re_bin (rx_e (n := D.int) (re_bin (rx_e (n := D.int) (re_bin (rx_e (n := D.int) (re_blt (n := D.int) (rx_e (n := D.int) (re_bin (rx_e (n := D.int) (re_bin (rx_e (n := D.int) (re_bin (rx_p (rp_var rfl) (rx_p rp_cst (rx_nil qb_mul)))) (fun a_14 => (rx_e (n := D.int) (re_bin (rx_p (rp_var rfl) (rx_p rp_cst (rx_nil qb_mul)))) (fun a_15 => (rx_nil qb_add)))))) (fun a_16 => (rx_p rp_cst (rx_nil qb_add))))) (fun a_17 => (rx_nil (fun k _ h => h))))) (fun a_18 => (rx_p rp_cst (rx_nil qb_mod))))) (fun a_19 => (rx_p rp_cst (rx_nil qb_mul))))) (fun a_22 => (rx_e (n := D.int) (re_bin (rx_e (n := D.int) (re_blt (n := D.int) (rx_e (n := D.int) (re_bin (rx_p (rp_var rfl) (rx_p (rp_var rfl) (rx_nil qb_mul)))) (fun a_20 => (rx_nil (fun k _ h => h))))) (fun a_21 => (rx_p rp_cst (rx_nil qb_mod))))) (fun a_23 => (rx_nil qb_add)))))) (fun _ => rfl) (fun row_24 => ?_)
        refine rk_nil ?_
        exact rk_retp (a := row_24) trivial (rp_var rfl)
      · refine rk_nil ?_
        exact rk_retp (a := row_8) trivial (rp_var rfl)
    · refine rk_ifu (ru_cmp (rp_var rfl) rp_cst (fun _ h => h)) (fun _ => ?_) (fun _ => ?_)
      · refine rk_asg (g := fun row_7 => [Sl.val ((dR D.int) script_1), Sl.val (D.int k_2), Sl.val (D.int row_7)]) (re_bin (rx_p rp_cst (rx_e (n := D.int) (re_bin (rx_p rp_cst (rx_p (rp_var rfl) (rx_nil qb_mul)))) (fun a_6 => (rx_nil qb_sub))))) (fun _ => rfl) (fun row_7 => ?_)
        exact rk_nil (m_law_row_J2_k (row_7) (()))
      · exact rk_nil (m_law_row_J2_k (row_5) (()))
  · refine rk_ifu (ru_cmp (rp_var rfl) (rp_blt (v := (D.int (script_1.length : Int))) (rps_cons (rp_var rfl) rps_nil) bl_lenr) (fun _ h => h)) (fun _ => ?_) (fun _ => ?_)
    · refine rk_asg (g := fun row_4 => [Sl.val ((dR D.int) script_1), Sl.val (D.int k_2), Sl.val (D.int row_4)]) (re_blt (n := D.int) (rx_e (n := D.int) (re_idx (n := D.int) (rx_p (rp_var rfl) (rx_p (rp_var rfl) (rx_nil (qi_ro (n := D.int) (l := script_1)))))) (fun a_3 => (rx_nil (fun k _ h => h))))) (fun _ => rfl) (fun row_4 => ?_)
      exact rk_nil (m_law_row_J1_k (row_4) (()))
    · exact rk_nil (m_law_row_J1_k ((0:Int)) (()))
end
end M
def fs_law_row : FS := fun ds k x => (∃ (script_1 : (List Int)) (k_2 : Int), ds = [(M.dR D.int) script_1, D.int k_2] ∧ (M.m_law_row script_1 k_2).sat (fun v => k (D.int v)) x)
def C_law_row : Cal := { nm := "_law_row", ar := 2, dfl := [], fs := fs_law_row }
theorem w_law_row : ∀ ds kd kx, ds.length = 2 → fs_law_row ds kd kx → wpSs NM AT_ P_law_row G_law_row i_law_row (startR 3 ds) { nx := fun _ => kd .non, rt := kd, bk := fun _ => False, ct := fun _ => False, er := fun x _ => kx x } := by
  rintro ds kd kx hl (⟨script_1, k_2, rfl, h⟩)
  · exact M.fin_f (c := c_law_row) (M.k_law_row script_1 k_2) h
namespace M
open PySem PySem.Spec L2
noncomputable section
theorem q_law_row (script_1 : (List Int)) (k_2 : Int) : QF C_law_row D.int [(dR D.int) script_1, D.int k_2] (m_law_row script_1 k_2) := fun k x h => ⟨script_1, k_2, rfl, h⟩
local macro_rules | `(tactic| fail "rs1") => `(tactic| try simp (config := {decide := true, dsimp := false, implicitDefEqProofs := false}) only [mulR_ok, divR_ok, modR_ok, isqrtR_ok, rngR1_0, rngR1_1, rngR1_2, rngR1_3, rngR1_4, rngR1_5, rngR1_6, rngR_16, rngR_13, idxR_0, idxR_1, idxR_2, idxR_3, idxR_4, idxR_5, idxR_m1_1, idxR_m1_2, idxR_m1_3, idxR_last, pushR_ok, catR_ok, forC_nil, forC_cons, mapR_nil, mapR_cons, unO_some, mtO_none, mtO_some, minR_1, minR_2, minR_3, minR_4, maxR_1, maxR_2, maxR_3, maxR_4, andR_okk, orR_okk, andR_dec, orR_dec, andR_ok, orR_ok, iteR_not, iteR_nbl, cnd_t, cnd_f, iteR_ok, iteR_bl, decide_eq_true_eq, Rs.bind_ok, Rs.bind_er, Rs.bind_no, Rs.bind_assoc, noE_ok, List.nil_append, List.cons_append, List.length_cons, List.length_nil, Rs.sat_ok, Rs.sat_er, Rs.sat_no, if_true, if_false, reduceIte, Bool.false_eq_true, decide_true, decide_false, not_true_eq_false, not_false_eq_true, List.map_cons, List.map_nil, List.zip_cons_cons, List.zip_nil_left, List.zip_nil_right, Int.reduceAdd, Int.reduceSub, Int.reduceMul, Int.reduceMod, Int.reduceDiv, Int.reduceEq, Int.reduceNeg, Int.reduceLT, Int.reduceLE, Bool.not_true, Bool.not_false, Option.isSome_some, Option.isSome_none, Bool.and_true, Bool.true_and, Bool.and_false, Bool.false_and, Bool.or_false, Bool.or_true, Bool.false_or, Bool.true_or, reduceCtorEq, ne_eq, true_and, and_true, Int.zero_add, Int.add_zero, Int.sub_zero])
theorem m_law_row_J2_ex {k r : Int} (h0 : 0 ≤ k) (h1 : k ≤ 1000) (hr : 0 ≤ r) [br : Bd r 1048580] : ∃ r', m_law_row_J2 k r = .ok r' ∧ 0 ≤ r' ∧ Bd r' 1048580 := by
  unfold m_law_row_J2
  by_cases z : r < 1000000000
  · rw [cnd_pos z]
    have b1 : Bd r 30 := bdOf (B := 1000000000) 30 (by omega) (by omega)
    have b2 : Bd k 10 := bdOf (B := 1000) 10 (by omega) (by omega)
    fail "rs1"
    refine ⟨_, rfl, by omega, Bd.of inferInstance (by decide)⟩
  · rw [cnd_neg z]
    exact ⟨_, rfl, hr, br⟩
theorem m_law_row_exs {ns : List Int} {k : Int} (h0 : 0 ≤ k) (h1 : k ≤ 1000) (hb : ∀ z ∈ ns, scr z) : ∃ r, m_law_row ns k = .ok r ∧ 0 ≤ r ∧ Bd r 1048580 := by
  have main : ∀ r : Int, Bd r 1048576 → ∃ r', m_law_row_J1 k r = .ok r' ∧ 0 ≤ r' ∧ Bd r' 1048580 := by
    intro r br
    unfold m_law_row_J1
    by_cases z : r < 0
    · rw [cnd_pos z]
      fail "rs1"
      have : Bd (1 - 2 * r) 1048580 := Bd.of inferInstance (by decide)
      exact m_law_row_J2_ex h0 h1 (by omega)
    · rw [cnd_neg z]
      have : Bd r 1048580 := br.of (by decide)
      exact m_law_row_J2_ex h0 h1 (by omega)
  unfold m_law_row
  by_cases z : k < ns.length
  · rw [cnd_pos z, idxR_at h0 z]
    fail "rs1"
    rcases hb _ (List.getElem_mem (l := ns) (n := k.toNat) (by omega)) with q | ⟨q1, q2⟩
    · exact main _ (bd_bits q)
    · unfold m_law_row_J1
      rw [cnd_neg (by omega)]
      exact m_law_row_J2_ex h0 h1 q1
  · rw [cnd_neg z]
    exact main 0 (Bd.of inferInstance (by decide))
theorem m_law_row_ex {ns : List Int} {k : Int} (h0 : 0 ≤ k) (h1 : k ≤ 1000) (hb : ∀ z ∈ ns, Builtin.Int.intBits z ≤ 1048576) : ∃ r, m_law_row ns k = .ok r ∧ 0 ≤ r ∧ Bd r 1048580 := m_law_row_exs h0 h1 fun z hz => .inl (hb z hz)
end
end M
/-! _law_turn -/
def b_law_turn_0_1 : List S := .asg (.nm 3) (.bin .mod (.bin .fdiv (.var 0) (.cst (.int 2100))) (.cst (.int 700))) :: [.ret (.tup [.bin .sub (.bin .mul (.var 2) (.var 2)) (.bin .mul (.var 3) (.var 3)), .bin .mul (.bin .mul (.cst (.int 2)) (.var 2)) (.var 3), .bin .add (.bin .mul (.var 2) (.var 2)) (.bin .mul (.var 3) (.var 3))])]
def b_law_turn_0 : List S := .asg (.nm 2) (.bin .add (.cst (.int 1)) (.bin .mod (.bin .fdiv (.var 0) (.cst (.int 3))) (.cst (.int 700)))) :: b_law_turn_0_1
def i_law_turn_1 : List S := .ite (.cmp .eq (.bin .mod (.blt .int [.var 0]) (.cst (.int 3))) (.cst (.int 0))) b_law_turn_0 [] :: [.ret (.idx (.var 1) (.bin .mod (.bin .fdiv (.blt .int [.var 0]) (.cst (.int 3))) (.cst (.int 8))))]
def i_law_turn : List S := .asg (.nm 1) (.lst [.tup [.cst (.int 1), .cst (.int 0), .cst (.int 1)], .tup [.cst (.int 0), .cst (.int 1), .cst (.int 1)], .tup [.cst (.int 3), .cst (.int 4), .cst (.int 5)], .tup [.neg (.cst (.int 4)), .cst (.int 3), .cst (.int 5)], .tup [.cst (.int 399), .cst (.int 40), .cst (.int 401)], .tup [.cst (.int 9999), .cst (.int 200), .cst (.int 10001)], .tup [.neg (.cst (.int 1)), .cst (.int 0), .cst (.int 1)], .tup [.cst (.int 0), .neg (.cst (.int 1)), .cst (.int 1)]]) :: i_law_turn_1
abbrev G_law_turn : List (Str × D) := []
abbrev P_law_turn : List Cal := []
abbrev c_law_turn : M.Cx := ⟨NM, AT_, P_law_turn, G_law_turn, True⟩
namespace M
open PySem PySem.Spec L2
noncomputable section
def m_law_turn (row_1 : Int) : Rs Pt :=
  (iteR ((modR row_1 (3:Int)).bind fun a_2 => (Rs.ok (decide (a_2 = (0:Int))))) ((((divR row_1 (3:Int)).bind fun a_3 => (modR a_3 (700:Int))).bind fun a_4 => (Rs.ok ((1:Int) + a_4))).bind fun p_5 => (((divR row_1 (2100:Int)).bind fun a_6 => (modR a_6 (700:Int))).bind fun q_7 => (((mulR p_5 p_5).bind fun a_8 => ((mulR q_7 q_7).bind fun a_9 => (Rs.ok (a_8 - a_9)))).bind fun a_13 => (((mulR (2:Int) p_5).bind fun a_10 => (mulR a_10 q_7)).bind fun a_14 => (((mulR p_5 p_5).bind fun a_11 => ((mulR q_7 q_7).bind fun a_12 => (Rs.ok (a_11 + a_12)))).bind fun a_15 => (Rs.ok (a_13, a_14, a_15))))))) (((divR row_1 (3:Int)).bind fun a_16 => (modR a_16 (8:Int))).bind fun a_17 => (idxR [((1:Int), (0:Int), (1:Int)), ((0:Int), (1:Int), (1:Int)), ((3:Int), (4:Int), (5:Int)), ((-4:Int), (3:Int), (5:Int)), ((399:Int), (40:Int), (401:Int)), ((9999:Int), (200:Int), (10001:Int)), ((-1:Int), (0:Int), (1:Int)), ((0:Int), (-1:Int), (1:Int))] a_17)))
theorem k_law_turn (row_1 : Int) : RK c_law_turn dPt i_law_turn [Sl.val (D.int row_1), Sl.un, Sl.un, Sl.un] (m_law_turn row_1) (NN dPt) F0 F0 := by
  unfold m_law_turn
  refine rk_asgp (ρ' := [Sl.val (D.int row_1), Sl.val ((dL dPt) [((1:Int), (0:Int), (1:Int)), ((0:Int), (1:Int), (1:Int)), ((3:Int), (4:Int), (5:Int)), ((-4:Int), (3:Int), (5:Int)), ((399:Int), (40:Int), (401:Int)), ((9999:Int), (200:Int), (10001:Int)), ((-1:Int), (0:Int), (1:Int)), ((0:Int), (-1:Int), (1:Int))]), Sl.un, Sl.un]) (rp_lst (rps_cons (rp_tup (rps_cons rp_cst (rps_cons rp_cst (rps_cons rp_cst rps_nil)))) (rps_cons (rp_tup (rps_cons rp_cst (rps_cons rp_cst (rps_cons rp_cst rps_nil)))) (rps_cons (rp_tup (rps_cons rp_cst (rps_cons rp_cst (rps_cons rp_cst rps_nil)))) (rps_cons (rp_tup (rps_cons (rp_neg rp_cst) (rps_cons rp_cst (rps_cons rp_cst rps_nil)))) (rps_cons (rp_tup (rps_cons rp_cst (rps_cons rp_cst (rps_cons rp_cst rps_nil)))) (rps_cons (rp_tup (rps_cons rp_cst (rps_cons rp_cst (rps_cons rp_cst rps_nil)))) (rps_cons (rp_tup (rps_cons (rp_neg rp_cst) (rps_cons rp_cst (rps_cons rp_cst rps_nil)))) (rps_cons (rp_tup (rps_cons rp_cst (rps_cons (rp_neg rp_cst) (rps_cons rp_cst rps_nil)))) rps_nil))))))))) rfl ?_
  refine rk_ite (rt_cmp (rx_e (n := D.int) (re_bin (rx_p (rp_blt (rps_cons (rp_var rfl) rps_nil) (fun _ h => h)) (rx_p rp_cst (rx_nil qb_mod)))) (fun a_2 => (rx_p rp_cst (rx_nil (qc (fun _ h => h))))))) ?_ ?_
  · refine rk_asg (g := fun p_5 => [Sl.val (D.int row_1), Sl.val ((dL dPt) [((1:Int), (0:Int), (1:Int)), ((0:Int), (1:Int), (1:Int)), ((3:Int), (4:Int), (5:Int)), ((-4:Int), (3:Int), (5:Int)), ((399:Int), (40:Int), (401:Int)), ((9999:Int), (200:Int), (10001:Int)), ((-1:Int), (0:Int), (1:Int)), ((0:Int), (-1:Int), (1:Int))]), Sl.val (D.int p_5), Sl.un]) (re_bin (rx_p rp_cst (rx_e (n := D.int) (re_bin (rx_e (n := D.int) (re_bin (rx_p (rp_var rfl) (rx_p rp_cst (rx_nil qb_fdiv)))) (fun a_3 => (rx_p rp_cst (rx_nil qb_mod))))) (fun a_4 => (rx_nil qb_add))))) (fun _ => rfl) (fun p_5 => ?_)
    refine rk_asg (g := fun q_7 => [Sl.val (D.int row_1), Sl.val ((dL dPt) [((1:Int), (0:Int), (1:Int)), ((0:Int), (1:Int), (1:Int)), ((3:Int), (4:Int), (5:Int)), ((-4:Int), (3:Int), (5:Int)), ((399:Int), (40:Int), (401:Int)), ((9999:Int), (200:Int), (10001:Int)), ((-1:Int), (0:Int), (1:Int)), ((0:Int), (-1:Int), (1:Int))]), Sl.val (D.int p_5), Sl.val (D.int q_7)]) (re_bin (rx_e (n := D.int) (re_bin (rx_p (rp_var rfl) (rx_p rp_cst (rx_nil qb_fdiv)))) (fun a_6 => (rx_p rp_cst (rx_nil qb_mod))))) (fun _ => rfl) (fun q_7 => ?_)
    exact rk_ret trivial (re_tup (n := dPt) (rx_e (n := D.int) (re_bin (rx_e (n := D.int) (re_bin (rx_p (rp_var rfl) (rx_p (rp_var rfl) (rx_nil qb_mul)))) (fun a_8 => (rx_e (n := D.int) (re_bin (rx_p (rp_var rfl) (rx_p (rp_var rfl) (rx_nil qb_mul)))) (fun a_9 => (rx_nil qb_sub)))))) (fun a_13 => (rx_e (n := D.int) (re_bin (rx_e (n := D.int) (re_bin (rx_p rp_cst (rx_p (rp_var rfl) (rx_nil qb_mul)))) (fun a_10 => (rx_p (rp_var rfl) (rx_nil qb_mul))))) (fun a_14 => (rx_e (n := D.int) (re_bin (rx_e (n := D.int) (re_bin (rx_p (rp_var rfl) (rx_p (rp_var rfl) (rx_nil qb_mul)))) (fun a_11 => (rx_e (n := D.int) (re_bin (rx_p (rp_var rfl) (rx_p (rp_var rfl) (rx_nil qb_mul)))) (fun a_12 => (rx_nil qb_add)))))) (fun a_15 => (rx_nil ⟨_, rfl, rfl⟩))))))))
  · refine rk_nil ?_
    exact rk_ret trivial (re_idx (n := dPt) (rx_p (rp_var rfl) (rx_e (n := D.int) (re_bin (rx_e (n := D.int) (re_bin (rx_p (rp_blt (rps_cons (rp_var rfl) rps_nil) (fun _ h => h)) (rx_p rp_cst (rx_nil qb_fdiv)))) (fun a_16 => (rx_p rp_cst (rx_nil qb_mod))))) (fun a_17 => (rx_nil (qi_lst (n := dPt) (l := [((1:Int), (0:Int), (1:Int)), ((0:Int), (1:Int), (1:Int)), ((3:Int), (4:Int), (5:Int)), ((-4:Int), (3:Int), (5:Int)), ((399:Int), (40:Int), (401:Int)), ((9999:Int), (200:Int), (10001:Int)), ((-1:Int), (0:Int), (1:Int)), ((0:Int), (-1:Int), (1:Int))])))))))
end
end M
def fs_law_turn : FS := fun ds k x => (∃ (row_1 : Int), ds = [D.int row_1] ∧ (M.m_law_turn row_1).sat (fun v => k (dPt v)) x)
def C_law_turn : Cal := { nm := "_law_turn", ar := 1, dfl := [], fs := fs_law_turn }
theorem w_law_turn : ∀ ds kd kx, ds.length = 1 → fs_law_turn ds kd kx → wpSs NM AT_ P_law_turn G_law_turn i_law_turn (startR 4 ds) { nx := fun _ => kd .non, rt := kd, bk := fun _ => False, ct := fun _ => False, er := fun x _ => kx x } := by
  rintro ds kd kx hl (⟨row_1, rfl, h⟩)
  · exact M.fin_f (c := c_law_turn) (M.k_law_turn row_1) h
namespace M
open PySem PySem.Spec L2
noncomputable section
theorem q_law_turn (row_1 : Int) : QF C_law_turn dPt [D.int row_1] (m_law_turn row_1) := fun k x h => ⟨row_1, rfl, h⟩
local macro_rules | `(tactic| fail "rs2") => `(tactic| try simp (config := {decide := true, dsimp := false, implicitDefEqProofs := false}) only [mulR_ok, divR_ok, modR_ok, isqrtR_ok, rngR1_0, rngR1_1, rngR1_2, rngR1_3, rngR1_4, rngR1_5, rngR1_6, rngR_16, rngR_13, idxR_0, idxR_1, idxR_2, idxR_3, idxR_4, idxR_5, idxR_m1_1, idxR_m1_2, idxR_m1_3, idxR_last, pushR_ok, catR_ok, forC_nil, forC_cons, mapR_nil, mapR_cons, unO_some, mtO_none, mtO_some, minR_1, minR_2, minR_3, minR_4, maxR_1, maxR_2, maxR_3, maxR_4, andR_okk, orR_okk, andR_dec, orR_dec, andR_ok, orR_ok, iteR_not, iteR_nbl, cnd_t, cnd_f, iteR_ok, iteR_bl, decide_eq_true_eq, Rs.bind_ok, Rs.bind_er, Rs.bind_no, Rs.bind_assoc, noE_ok, List.nil_append, List.cons_append, List.length_cons, List.length_nil, Rs.sat_ok, Rs.sat_er, Rs.sat_no, if_true, if_false, reduceIte, Bool.false_eq_true, decide_true, decide_false, not_true_eq_false, not_false_eq_true, List.map_cons, List.map_nil, List.zip_cons_cons, List.zip_nil_left, List.zip_nil_right, Int.reduceAdd, Int.reduceSub, Int.reduceMul, Int.reduceMod, Int.reduceDiv, Int.reduceEq, Int.reduceNeg, Int.reduceLT, Int.reduceLE, Bool.not_true, Bool.not_false, Option.isSome_some, Option.isSome_none, Bool.and_true, Bool.true_and, Bool.and_false, Bool.false_and, Bool.or_false, Bool.or_true, Bool.false_or, Bool.true_or, reduceCtorEq, ne_eq, true_and, and_true, Int.zero_add, Int.add_zero, Int.sub_zero])
theorem m_law_turn_ex {r : Int} (hr : 0 ≤ r) : ∃ t, m_law_turn r = .ok t ∧ 1 ≤ t.2.2 ∧ t.2.2 ≤ 10 ^ 6 ∧ t.1 * t.1 + t.2.1 * t.2.1 = t.2.2 * t.2.2 := by
  refine sat_ex ?_
  unfold m_law_turn
  rw [modR_ok (by decide), Rs.bind_ok, iteR_ok]
  refine sat_cnd (fun z => ?_) fun z => ?_
  · have b1 : Bd (r / 3 % 700) 10 := bdOf (B := 1000) 10 (by omega) (by omega)
    have b2 : Bd (r / 2100 % 700) 10 := bdOf (B := 1000) 10 (by omega) (by omega)
    fail "rs2"
    obtain ⟨p, hp⟩ : ∃ p, 1 + r / 3 % 700 = p := ⟨_, rfl⟩
    obtain ⟨q, hq⟩ : ∃ q, r / 2100 % 700 = q := ⟨_, rfl⟩
    rw [hp, hq]
    have p2 := sq_le (a := p) (b := 700) (by omega) (by omega)
    have p1 := sq_le (a := 1) (b := p) (by omega) (by omega)
    have q2 := sq_le (a := q) (b := 700) (by omega) (by omega)
    have q1 := sq_nn (x := q)
    exact ⟨by omega, by omega, by grind⟩
  · rw [divR_ok (by decide) (by decide), Rs.bind_ok, modR_ok (by decide), Rs.bind_ok]
    obtain ⟨z, h1, h2⟩ := idxR_ex (l := [((1, 0, 1) : Pt), (0, 1, 1), (3, 4, 5), (-4, 3, 5), (399, 40, 401), (9999, 200, 10001), (-1, 0, 1), (0, -1, 1)]) (i := r / 3 % 8) (by omega) (by simp only [List.length_cons, List.length_nil]; omega)
    rw [h1]
    simp only [List.mem_cons, List.not_mem_nil, or_false] at h2
    rcases h2 with rfl | rfl | rfl | rfl | rfl | rfl | rfl | rfl <;> exact ⟨by decide, by decide, by decide⟩
end
end M
/-! check -/
def i_check : List S := [.ite (.not (.val (.var 0))) [.nev] []]
abbrev G_check : List (Str × D) := []
abbrev P_check : List Cal := []
abbrev c_check : M.Cx := ⟨NM, AT_, P_check, G_check, True⟩
namespace M
open PySem PySem.Spec L2
noncomputable section
def m_check (good_1 : Bool) (name_2 : Str) : Rs Unit :=
  (cnd (¬(good_1 = true)) Rs.no (Rs.ok ()))
theorem k_check (good_1 : Bool) (name_2 : Str) : RK c_check dN i_check [Sl.val (D.bl good_1), Sl.val (D.str name_2)] (m_check good_1 name_2) (NN dN) F0 F0 := by
  unfold m_check
  refine rk_ifu (ru_not (ru_bl (rp_var rfl))) (fun _ => ?_) (fun _ => ?_)
  · exact rk_nev
  · refine rk_nil ?_
    exact rk_nil ⟨_, rfl, rfl⟩
end
end M
def fs_check : FS := fun ds k x => (∃ (good_1 : Bool) (name_2 : Str), ds = [D.bl good_1, D.str name_2] ∧ (M.m_check good_1 name_2).sat (fun v => k (M.dN v)) x)
def C_check : Cal := { nm := "check", ar := 2, dfl := [], fs := fs_check }
theorem w_check : ∀ ds kd kx, ds.length = 2 → fs_check ds kd kx → wpSs NM AT_ P_check G_check i_check (startR 2 ds) { nx := fun _ => kd .non, rt := kd, bk := fun _ => False, ct := fun _ => False, er := fun x _ => kx x } := by
  rintro ds kd kx hl (⟨good_1, name_2, rfl, h⟩)
  · exact M.fin_f (c := c_check) (M.k_check good_1 name_2) h
namespace M
open PySem PySem.Spec L2
noncomputable section
theorem q_check (good_1 : Bool) (name_2 : Str) : QF C_check dN [D.bl good_1, D.str name_2] (m_check good_1 name_2) := fun k x h => ⟨good_1, name_2, rfl, h⟩
local macro_rules | `(tactic| fail "rs3") => `(tactic| try simp (config := {decide := true, dsimp := false, implicitDefEqProofs := false}) only [mulR_ok, divR_ok, modR_ok, isqrtR_ok, rngR1_0, rngR1_1, rngR1_2, rngR1_3, rngR1_4, rngR1_5, rngR1_6, rngR_16, rngR_13, idxR_0, idxR_1, idxR_2, idxR_3, idxR_4, idxR_5, idxR_m1_1, idxR_m1_2, idxR_m1_3, idxR_last, pushR_ok, catR_ok, forC_nil, forC_cons, mapR_nil, mapR_cons, unO_some, mtO_none, mtO_some, minR_1, minR_2, minR_3, minR_4, maxR_1, maxR_2, maxR_3, maxR_4, andR_okk, orR_okk, andR_dec, orR_dec, andR_ok, orR_ok, iteR_not, iteR_nbl, cnd_t, cnd_f, iteR_ok, iteR_bl, decide_eq_true_eq, Rs.bind_ok, Rs.bind_er, Rs.bind_no, Rs.bind_assoc, noE_ok, List.nil_append, List.cons_append, List.length_cons, List.length_nil, Rs.sat_ok, Rs.sat_er, Rs.sat_no, if_true, if_false, reduceIte, Bool.false_eq_true, decide_true, decide_false, not_true_eq_false, not_false_eq_true, List.map_cons, List.map_nil, List.zip_cons_cons, List.zip_nil_left, List.zip_nil_right, Int.reduceAdd, Int.reduceSub, Int.reduceMul, Int.reduceMod, Int.reduceDiv, Int.reduceEq, Int.reduceNeg, Int.reduceLT, Int.reduceLE, Bool.not_true, Bool.not_false, Option.isSome_some, Option.isSome_none, Bool.and_true, Bool.true_and, Bool.and_false, Bool.false_and, Bool.or_false, Bool.or_true, Bool.false_or, Bool.true_or, reduceCtorEq, ne_eq, true_and, and_true, Int.zero_add, Int.add_zero, Int.sub_zero])
theorem m_check_ok {b : Bool} {s : Str} (h : b = true) : m_check b s = .ok () := by subst h; rfl
theorem m_check_dec {p : Prop} [Decidable p] {s : Str} (h : p) : m_check (decide p) s = .ok () := m_check_ok (decide_eq_true h)
end
end M
/-! Body.__init__ -/
def i_Body___init___5 : List S := .fld 0 38 (.var 2) :: [.fld 0 60 (.var 3)]
def i_Body___init___4 : List S := .fld 0 34 (.var 1) :: i_Body___init___5
def i_Body___init___3 : List S := .exp (.call 0 [.and [.chn .le .le (.cst (.int 1)) (.var 6) (.bin .pow (.cst (.int 10)) (.cst (.int 6))), .cmp .eq (.bin .add (.bin .mul (.var 4) (.var 4)) (.bin .mul (.var 5) (.var 5))) (.bin .mul (.var 6) (.var 6))], .cst (.str "turn")]) :: i_Body___init___4
def i_Body___init___2 : List S := .asg (.tp [.nm 4, .nm 5, .nm 6]) (.var 3) :: i_Body___init___3
def i_Body___init___1 : List S := .exp (.call 0 [.chn .le .le (.cst (.int 0)) (.var 2) (.bin .pow (.cst (.int 10)) (.cst (.int 30))), .cst (.str "oblateness")]) :: i_Body___init___2
def i_Body___init__ : List S := .exp (.call 0 [.chn .le .le (.cst (.int 1)) (.var 1) (.bin .pow (.cst (.int 10)) (.cst (.int 30))), .cst (.str "mu")]) :: i_Body___init___1
abbrev G_Body___init__ : List (Str × D) := []
abbrev P_Body___init__ : List Cal := [C_check]
theorem p_Body___init___0 : P_Body___init__[0]? = some C_check := rfl
abbrev c_Body___init__ : M.Cx := ⟨NM, AT_, P_Body___init__, G_Body___init__, False⟩
namespace M
open PySem PySem.Spec L2
noncomputable section
def m_Body___init__ (mu_1 : Int) (oblateness_2 : Int) (turn_3 : Pt) : Rs Body :=
  ((m_check (decide (((1:Int) ≤ mu_1) ∧ (mu_1 ≤ (1000000000000000000000000000000:Int)))) ("mu":Str)).bind fun _ => ((m_check (decide (((0:Int) ≤ oblateness_2) ∧ (oblateness_2 ≤ (1000000000000000000000000000000:Int)))) ("oblateness":Str)).bind fun _ => (((andR (Rs.ok (decide (((1:Int) ≤ turn_3.2.2) ∧ (turn_3.2.2 ≤ (1000000:Int))))) (((mulR turn_3.1 turn_3.1).bind fun a_4 => ((mulR turn_3.2.1 turn_3.2.1).bind fun a_5 => (Rs.ok (a_4 + a_5)))).bind fun a_6 => ((mulR turn_3.2.2 turn_3.2.2).bind fun a_7 => (Rs.ok (decide (a_6 = a_7)))))).bind fun a_8 => (m_check a_8 ("turn":Str))).bind fun _ => (Rs.ok (⟨mu_1, oblateness_2, turn_3⟩ : Body)))))
theorem k_Body___init__ (mu_1 : Int) (oblateness_2 : Int) (turn_3 : Pt) : RK c_Body___init__ dBody i_Body___init__ [Sl.obj 4 [] [], Sl.val (D.int mu_1), Sl.val (D.int oblateness_2), Sl.val (dPt turn_3), Sl.un, Sl.un, Sl.un] (m_Body___init__ mu_1 oblateness_2 turn_3) (NI 4 dBody) F0 F0 := by
  unfold m_Body___init__
  refine rk_exp (m := dN) (re_call (cal := C_check) (n := dN) rfl (rx_p (rp_chn (ru_chn rp_cst (rp_var rfl) (rp_powc (v := 1000000000000000000000000000000) rp_cst rp_cst (cpq (by decide) (by decide +kernel)) (by decide +kernel)) (fun _ h => h) (fun _ h => h))) (rx_p rp_cst (rx_nil (q_check (decide (((1:Int) ≤ mu_1) ∧ (mu_1 ≤ (1000000000000000000000000000000:Int)))) ("mu":Str)))))) (fun _ => ?_)
  refine rk_exp (m := dN) (re_call (cal := C_check) (n := dN) rfl (rx_p (rp_chn (ru_chn rp_cst (rp_var rfl) (rp_powc (v := 1000000000000000000000000000000) rp_cst rp_cst (cpq (by decide) (by decide +kernel)) (by decide +kernel)) (fun _ h => h) (fun _ h => h))) (rx_p rp_cst (rx_nil (q_check (decide (((0:Int) ≤ oblateness_2) ∧ (oblateness_2 ≤ (1000000000000000000000000000000:Int)))) ("oblateness":Str)))))) (fun _ => ?_)
  refine rk_tgtp (ρ' := [Sl.obj 4 [] [], Sl.val (D.int mu_1), Sl.val (D.int oblateness_2), Sl.val (dPt turn_3), Sl.val (D.int turn_3.1), Sl.val (D.int turn_3.2.1), Sl.val (D.int turn_3.2.2)]) (rp_var rfl) rfl ?_
  refine rk_exp (m := dN) (re_call (cal := C_check) (n := dN) rfl (rx_e (n := D.bl) (re_and (rea_cons (re_p (n := D.bl) (a := (decide (((1:Int) ≤ turn_3.2.2) ∧ (turn_3.2.2 ≤ (1000000:Int))))) (rp_chn (ru_chn rp_cst (rp_var rfl) (rp_powc (v := 1000000) rp_cst rp_cst (cpq (by decide) (by decide +kernel)) (by decide +kernel)) (fun _ h => h) (fun _ h => h)))) (rea_one (re_cmp (rt_cmp (rx_e (n := D.int) (re_bin (rx_e (n := D.int) (re_bin (rx_p (rp_var rfl) (rx_p (rp_var rfl) (rx_nil qb_mul)))) (fun a_4 => (rx_e (n := D.int) (re_bin (rx_p (rp_var rfl) (rx_p (rp_var rfl) (rx_nil qb_mul)))) (fun a_5 => (rx_nil qb_add)))))) (fun a_6 => (rx_e (n := D.int) (re_bin (rx_p (rp_var rfl) (rx_p (rp_var rfl) (rx_nil qb_mul)))) (fun a_7 => (rx_nil (qc (fun _ h => h)))))))))))) (fun a_8 => (rx_p rp_cst (rx_nil (q_check a_8 ("turn":Str))))))) (fun _ => ?_)
  refine rk_fld (ρ' := [Sl.obj 4 [34] [(D.int mu_1)], Sl.val (D.int mu_1), Sl.val (D.int oblateness_2), Sl.val (dPt turn_3), Sl.val (D.int turn_3.1), Sl.val (D.int turn_3.2.1), Sl.val (D.int turn_3.2.2)]) rfl rfl (by decide) (rp_var rfl) rfl ?_
  refine rk_fld (ρ' := [Sl.obj 4 [34, 38] [(D.int mu_1), (D.int oblateness_2)], Sl.val (D.int mu_1), Sl.val (D.int oblateness_2), Sl.val (dPt turn_3), Sl.val (D.int turn_3.1), Sl.val (D.int turn_3.2.1), Sl.val (D.int turn_3.2.2)]) rfl rfl (by decide) (rp_var rfl) rfl ?_
  refine rk_fld (ρ' := [Sl.obj 4 [34, 38, 60] [(D.int mu_1), (D.int oblateness_2), (dPt turn_3)], Sl.val (D.int mu_1), Sl.val (D.int oblateness_2), Sl.val (dPt turn_3), Sl.val (D.int turn_3.1), Sl.val (D.int turn_3.2.1), Sl.val (D.int turn_3.2.2)]) rfl rfl (by decide) (rp_var rfl) rfl ?_
  exact rk_nil ⟨_, _, _, _, rfl, rfl, rfl⟩
end
end M
def is_Body___init__ : IS := fun ds k x => (∃ (mu_1 : Int) (oblateness_2 : Int) (turn_3 : Pt), ds = [D.int mu_1, D.int oblateness_2, dPt turn_3] ∧ (M.m_Body___init__ mu_1 oblateness_2 turn_3).sat (fun s => ∃ ks xs, dBody s = .ins 4 ks xs ∧ k ks xs) x)
def C_Body___init__ : Cal := { nm := "Body", mt := "__init__", ar := 3, dfl := [], cls := 4, is := is_Body___init__ }
theorem w_Body___init__ : ∀ ds kd kx, ds.length + 1 = 4 → is_Body___init__ ds kd kx → wpSs NM AT_ P_Body___init__ G_Body___init__ i_Body___init__ (startI 7 4 ds) { nx := initNx 4 kd, rt := fun _ => False, bk := fun _ => False, ct := fun _ => False, er := fun x _ => kx x } := by
  rintro ds kd kx hl (⟨mu_1, oblateness_2, turn_3, rfl, h⟩)
  · exact M.fin_i (c := c_Body___init__) rfl (M.k_Body___init__ mu_1 oblateness_2 turn_3) h
namespace M
open PySem PySem.Spec L2
noncomputable section
theorem q_Body___init__ (mu_1 : Int) (oblateness_2 : Int) (turn_3 : Pt) : QI C_Body___init__ dBody [D.int mu_1, D.int oblateness_2, dPt turn_3] (m_Body___init__ mu_1 oblateness_2 turn_3) := fun k x h => ⟨mu_1, oblateness_2, turn_3, rfl, Rs.sat_mono h (fun _ z => ⟨_, _, rfl, z⟩) fun _ z => z⟩
local macro_rules | `(tactic| fail "rs4") => `(tactic| try simp (config := {decide := true, dsimp := false, implicitDefEqProofs := false}) only [mulR_ok, divR_ok, modR_ok, isqrtR_ok, rngR1_0, rngR1_1, rngR1_2, rngR1_3, rngR1_4, rngR1_5, rngR1_6, rngR_16, rngR_13, idxR_0, idxR_1, idxR_2, idxR_3, idxR_4, idxR_5, idxR_m1_1, idxR_m1_2, idxR_m1_3, idxR_last, pushR_ok, catR_ok, forC_nil, forC_cons, mapR_nil, mapR_cons, unO_some, mtO_none, mtO_some, minR_1, minR_2, minR_3, minR_4, maxR_1, maxR_2, maxR_3, maxR_4, andR_okk, orR_okk, andR_dec, orR_dec, andR_ok, orR_ok, iteR_not, iteR_nbl, cnd_t, cnd_f, iteR_ok, iteR_bl, decide_eq_true_eq, Rs.bind_ok, Rs.bind_er, Rs.bind_no, Rs.bind_assoc, noE_ok, List.nil_append, List.cons_append, List.length_cons, List.length_nil, Rs.sat_ok, Rs.sat_er, Rs.sat_no, if_true, if_false, reduceIte, Bool.false_eq_true, decide_true, decide_false, not_true_eq_false, not_false_eq_true, List.map_cons, List.map_nil, List.zip_cons_cons, List.zip_nil_left, List.zip_nil_right, Int.reduceAdd, Int.reduceSub, Int.reduceMul, Int.reduceMod, Int.reduceDiv, Int.reduceEq, Int.reduceNeg, Int.reduceLT, Int.reduceLE, Bool.not_true, Bool.not_false, Option.isSome_some, Option.isSome_none, Bool.and_true, Bool.true_and, Bool.and_false, Bool.false_and, Bool.or_false, Bool.or_true, Bool.false_or, Bool.true_or, reduceCtorEq, ne_eq, true_and, and_true, Int.zero_add, Int.add_zero, Int.sub_zero, m_check_ok])
theorem m_Body___init___of {mu ob : Int} {t : Pt} (h : Body.Ok ⟨mu, ob, t⟩) : m_Body___init__ mu ob t = .ok ⟨mu, ob, t⟩ := by
  obtain ⟨h1, h2, h3, h4, h5, h6, h7⟩ := h
  dsimp only at h1 h2 h3 h4 h5 h6 h7
  unfold m_Body___init__
  have e : ∀ (m n : Int), -(10 ^ 6) ≤ m → m ≤ 10 ^ 6 → CMulQ m n := fun m n z1 z2 => cml (by omega)
  have s1 := sq_nn (x := t.1)
  have s2 := sq_nn (x := t.2.1)
  have big : ∀ m : Int, m * m ≤ t.2.2 * t.2.2 → -(10 ^ 6) ≤ m ∧ m ≤ 10 ^ 6 := fun m hm => by
    have q1 : t.2.2 * t.2.2 ≤ 10 ^ 12 := by
      have := sq_le (a := t.2.2) (b := 10 ^ 6) (by omega) (by omega)
      exact this
    constructor
    · rcases Int.lt_or_le m (-(10 ^ 6)) with z | z
      · have := sq_lt (a := 10 ^ 6) (b := -m) (by omega) (by omega)
        rw [Int.neg_mul_neg] at this
        omega
      · exact z
    · rcases Int.lt_or_le (10 ^ 6) m with z | z
      · have := sq_lt (a := 10 ^ 6) (b := m) (by omega) z
        omega
      · exact z
  have b1 := big t.1 (by omega)
  have b2 := big t.2.1 (by omega)
  rw [mulR_of (e _ _ b1.1 b1.2), mulR_of (e _ _ b2.1 b2.2), mulR_of (e t.2.2 t.2.2 (by omega) (by omega)), m_check_dec (by omega), m_check_dec (by omega), Rs.bind_ok, Rs.bind_ok, Rs.bind_ok, Rs.bind_ok, Rs.bind_ok, Rs.bind_ok, andR_okk, Rs.bind_ok, m_check_ok (by rw [decide_eq_true (by omega), decide_eq_true h7]; rfl)]
  rfl
end
end M
/-! _law_spread -/
def b_law_spread_0 : List S := .app 3 (.bin .sub (.bin .mod (.blt .int [.var 0]) (.bin .add (.bin .mul (.cst (.int 2)) (.var 2)) (.cst (.int 1)))) (.var 2)) :: [.asg (.nm 0) (.bin .fdiv (.var 0) (.bin .add (.bin .mul (.cst (.int 2)) (.var 2)) (.cst (.int 1))))]
def i_law_spread_2 : List S := .frz 3 :: [.ret (.var 3)]
def i_law_spread_1 : List S := .for_ (.nm 4) (.rng [.var 1]) b_law_spread_0 :: i_law_spread_2
def i_law_spread : List S := .new 3 (.lst []) :: i_law_spread_1
abbrev G_law_spread : List (Str × D) := []
abbrev P_law_spread : List Cal := []
abbrev c_law_spread : M.Cx := ⟨NM, AT_, P_law_spread, G_law_spread, True⟩
namespace M
open PySem PySem.Spec L2
noncomputable section
def m_law_spread_L1 (span_3 : Int) (k_9 : Int) (row_4 : Int) (numbers_5 : (List Int)) (nx_7 : ((Int × (List Int)) → Rs (List Int))) (bk_8 : ((Int × (List Int)) → Rs (List Int))) : Rs (List Int) :=
  (((((mulR (2:Int) span_3).bind fun a_10 => (Rs.ok (a_10 + (1:Int)))).bind fun a_11 => (modR row_4 a_11)).bind fun a_12 => (Rs.ok (a_12 - span_3))).bind fun a_17 => (pushR numbers_5 a_17).bind fun numbers_13 => ((((mulR (2:Int) span_3).bind fun a_14 => (Rs.ok (a_14 + (1:Int)))).bind fun a_15 => (divR row_4 a_15)).bind fun row_16 => (nx_7 (row_16, numbers_13))))
def m_law_spread_K1 (row_18 : Int) (numbers_19 : (List Int)) : Rs (List Int) :=
  (Rs.ok numbers_19)
def m_law_spread (row_1 : Int) (places_2 : Int) (span_3 : Int) : Rs (List Int) :=
  ((rngR1 places_2).bind fun l_21 => forC (fun a s nx bk => m_law_spread_L1 span_3 a s.1 s.2 nx bk) (fun (s : (Int × (List Int))) => m_law_spread_K1 s.1 s.2) l_21 ((row_1, ([] : (List Int))) : (Int × (List Int))))
theorem k_law_spread (row_1 : Int) (places_2 : Int) (span_3 : Int) : RK c_law_spread (dL D.int) i_law_spread [Sl.val (D.int row_1), Sl.val (D.int places_2), Sl.val (D.int span_3), Sl.un, Sl.un] (m_law_spread row_1 places_2 span_3) (NN (dL D.int)) F0 F0 := by
  unfold m_law_spread
  refine rk_newp (ρ' := [Sl.val (D.int row_1), Sl.val (D.int places_2), Sl.val (D.int span_3), Sl.own [], Sl.un]) (rp_lst rps_nil) rfl ?_
  refine rk_fore (σ := (Int × (List Int))) (J := Sl) (m := D.int) (fun (s : (Int × (List Int))) (j : Sl) => [Sl.val (D.int s.1), Sl.val (D.int places_2), Sl.val (D.int span_3), Sl.own (s.2.map D.int), j]) (fun a s nx bk => m_law_spread_L1 span_3 a s.1 s.2 nx bk) (k := (fun (s : (Int × (List Int))) => m_law_spread_K1 s.1 s.2)) (s0 := ((row_1, ([] : (List Int))) : (Int × (List Int)))) (j0 := (Sl.un)) (rie_rng (rx_p (rp_var rfl) (rx_nil qr_1))) rfl ?_ ?_
  · rintro k_9 ⟨row_4, numbers_5⟩ z_6 nx_7 bk_8
    refine ⟨_, rfl, ?_⟩
    show RK _ _ _ [Sl.val (D.int row_4), Sl.val (D.int places_2), Sl.val (D.int span_3), Sl.own (numbers_5.map D.int), Sl.val (D.int k_9)] (m_law_spread_L1 span_3 k_9 row_4 numbers_5 nx_7 bk_8) _ _ _
    unfold m_law_spread_L1
    refine rk_app (m := D.int) (l := numbers_5) (g := fun numbers_13 => [Sl.val (D.int row_4), Sl.val (D.int places_2), Sl.val (D.int span_3), Sl.own (numbers_13.map D.int), Sl.val (D.int k_9)]) rfl (re_bin (rx_e (n := D.int) (re_bin (rx_p (rp_blt (rps_cons (rp_var rfl) rps_nil) (fun _ h => h)) (rx_e (n := D.int) (re_bin (rx_e (n := D.int) (re_bin (rx_p rp_cst (rx_p (rp_var rfl) (rx_nil qb_mul)))) (fun a_10 => (rx_p rp_cst (rx_nil qb_add))))) (fun a_11 => (rx_nil qb_mod))))) (fun a_12 => (rx_p (rp_var rfl) (rx_nil qb_sub))))) (fun _ => rfl) (fun numbers_13 => ?_)
    refine rk_asg (g := fun row_16 => [Sl.val (D.int row_16), Sl.val (D.int places_2), Sl.val (D.int span_3), Sl.own (numbers_13.map D.int), Sl.val (D.int k_9)]) (re_bin (rx_p (rp_var rfl) (rx_e (n := D.int) (re_bin (rx_e (n := D.int) (re_bin (rx_p rp_cst (rx_p (rp_var rfl) (rx_nil qb_mul)))) (fun a_14 => (rx_p rp_cst (rx_nil qb_add))))) (fun a_15 => (rx_nil qb_fdiv))))) (fun _ => rfl) (fun row_16 => ?_)
    exact rk_nil (nx_i (row_16, numbers_13) (Sl.val (D.int k_9)))
  · rintro ⟨row_18, numbers_19⟩ z_20
    show RK _ _ _ [Sl.val (D.int row_18), Sl.val (D.int places_2), Sl.val (D.int span_3), Sl.own (numbers_19.map D.int), z_20] (m_law_spread_K1 row_18 numbers_19) _ _ _
    unfold m_law_spread_K1
    refine rk_frz (ρ' := [Sl.val (D.int row_18), Sl.val (D.int places_2), Sl.val (D.int span_3), Sl.val ((dL D.int) numbers_19), z_20]) rfl rfl ?_
    exact rk_retp (a := numbers_19) trivial (rp_var rfl)
end
end M
def fs_law_spread : FS := fun ds k x => (∃ (row_1 : Int) (places_2 : Int) (span_3 : Int), ds = [D.int row_1, D.int places_2, D.int span_3] ∧ (M.m_law_spread row_1 places_2 span_3).sat (fun v => k ((M.dL D.int) v)) x)
def C_law_spread : Cal := { nm := "_law_spread", ar := 3, dfl := [], fs := fs_law_spread }
theorem w_law_spread : ∀ ds kd kx, ds.length = 3 → fs_law_spread ds kd kx → wpSs NM AT_ P_law_spread G_law_spread i_law_spread (startR 5 ds) { nx := fun _ => kd .non, rt := kd, bk := fun _ => False, ct := fun _ => False, er := fun x _ => kx x } := by
  rintro ds kd kx hl (⟨row_1, places_2, span_3, rfl, h⟩)
  · exact M.fin_f (c := c_law_spread) (M.k_law_spread row_1 places_2 span_3) h
namespace M
open PySem PySem.Spec L2
noncomputable section
theorem q_law_spread (row_1 : Int) (places_2 : Int) (span_3 : Int) : QF C_law_spread (dL D.int) [D.int row_1, D.int places_2, D.int span_3] (m_law_spread row_1 places_2 span_3) := fun k x h => ⟨row_1, places_2, span_3, rfl, h⟩
local macro_rules | `(tactic| fail "rs5") => `(tactic| try simp (config := {decide := true, dsimp := false, implicitDefEqProofs := false}) only [mulR_ok, divR_ok, modR_ok, isqrtR_ok, rngR1_0, rngR1_1, rngR1_2, rngR1_3, rngR1_4, rngR1_5, rngR1_6, rngR_16, rngR_13, idxR_0, idxR_1, idxR_2, idxR_3, idxR_4, idxR_5, idxR_m1_1, idxR_m1_2, idxR_m1_3, idxR_last, pushR_ok, catR_ok, forC_nil, forC_cons, mapR_nil, mapR_cons, unO_some, mtO_none, mtO_some, minR_1, minR_2, minR_3, minR_4, maxR_1, maxR_2, maxR_3, maxR_4, andR_okk, orR_okk, andR_dec, orR_dec, andR_ok, orR_ok, iteR_not, iteR_nbl, cnd_t, cnd_f, iteR_ok, iteR_bl, decide_eq_true_eq, Rs.bind_ok, Rs.bind_er, Rs.bind_no, Rs.bind_assoc, noE_ok, List.nil_append, List.cons_append, List.length_cons, List.length_nil, Rs.sat_ok, Rs.sat_er, Rs.sat_no, if_true, if_false, reduceIte, Bool.false_eq_true, decide_true, decide_false, not_true_eq_false, not_false_eq_true, List.map_cons, List.map_nil, List.zip_cons_cons, List.zip_nil_left, List.zip_nil_right, Int.reduceAdd, Int.reduceSub, Int.reduceMul, Int.reduceMod, Int.reduceDiv, Int.reduceEq, Int.reduceNeg, Int.reduceLT, Int.reduceLE, Bool.not_true, Bool.not_false, Option.isSome_some, Option.isSome_none, Bool.and_true, Bool.true_and, Bool.and_false, Bool.false_and, Bool.or_false, Bool.or_true, Bool.false_or, Bool.true_or, reduceCtorEq, ne_eq, true_and, and_true, Int.zero_add, Int.add_zero, Int.sub_zero, m_check_ok])
theorem m_law_spread_ex {r s : Int} {n} [is : Bd s n] (hs : 0 ≤ s) (hn : n < 8000) : ∃ a b c : Int, m_law_spread r 3 s = .ok [a, b, c] ∧ (-s ≤ a ∧ a ≤ s) ∧ (-s ≤ b ∧ b ≤ s) ∧ (-s ≤ c ∧ c ≤ s) ∧ Bd a n ∧ Bd b n ∧ Bd c n := by
  have i1 : Bd s 8000 := is.of (by omega)
  have p1 : 0 < 2 * s + 1 := by omega
  unfold m_law_spread m_law_spread_L1
  try simp (config := {decide := true, dsimp := false, implicitDefEqProofs := false}) only [p1, mulR_ok, divR_ok, modR_ok, isqrtR_ok, rngR1_0, rngR1_1, rngR1_2, rngR1_3, rngR1_4, rngR1_5, rngR1_6, rngR_16, rngR_13, idxR_0, idxR_1, idxR_2, idxR_3, idxR_4, idxR_5, idxR_m1_1, idxR_m1_2, idxR_m1_3, idxR_last, pushR_ok, catR_ok, forC_nil, forC_cons, mapR_nil, mapR_cons, unO_some, mtO_none, mtO_some, minR_1, minR_2, minR_3, minR_4, maxR_1, maxR_2, maxR_3, maxR_4, andR_okk, orR_okk, andR_dec, orR_dec, andR_ok, orR_ok, iteR_not, iteR_nbl, cnd_t, cnd_f, iteR_ok, iteR_bl, decide_eq_true_eq, Rs.bind_ok, Rs.bind_er, Rs.bind_no, Rs.bind_assoc, noE_ok, List.nil_append, List.cons_append, List.length_cons, List.length_nil, Rs.sat_ok, Rs.sat_er, Rs.sat_no, if_true, if_false, reduceIte, Bool.false_eq_true, decide_true, decide_false, not_true_eq_false, not_false_eq_true, List.map_cons, List.map_nil, List.zip_cons_cons, List.zip_nil_left, List.zip_nil_right, Int.reduceAdd, Int.reduceSub, Int.reduceMul, Int.reduceMod, Int.reduceDiv, Int.reduceEq, Int.reduceNeg, Int.reduceLT, Int.reduceLE, Bool.not_true, Bool.not_false, Option.isSome_some, Option.isSome_none, Bool.and_true, Bool.true_and, Bool.and_false, Bool.false_and, Bool.or_false, Bool.or_true, Bool.false_or, Bool.true_or, reduceCtorEq, ne_eq, true_and, and_true, Int.zero_add, Int.add_zero, Int.sub_zero, m_check_ok]
  have f : ∀ r, (-s ≤ r % (2 * s + 1) - s ∧ r % (2 * s + 1) - s ≤ s) := fun r => (in_span (r := r) hs).2
  have f2 : ∀ r, Bd (r % (2 * s + 1) - s) n := fun r => ⟨by have := is.h; have := f r; omega⟩
  exact ⟨_, _, _, rfl, f _, f _, f _, f2 _, f2 _, f2 _⟩
end
end M
/-! _law_site -/
def i_law_site_1 : List S := .ite (.cmp .eq (.var 1) (.lst [.cst (.int 0), .cst (.int 0), .cst (.int 0)])) [.ret (.tup [.cst (.int 1), .cst (.int 0), .cst (.int 0)])] [] :: [.ret (.tup [.idx (.var 1) (.cst (.int 0)), .idx (.var 1) (.cst (.int 1)), .idx (.var 1) (.cst (.int 2))])]
def i_law_site : List S := .asg (.nm 1) (.call 0 [.bin .fdiv (.var 0) (.cst (.int 3)), .cst (.int 3), .idx (.lst [.cst (.int 20), .cst (.int 900)]) (.bin .mod (.blt .int [.var 0]) (.cst (.int 2)))]) :: i_law_site_1
abbrev G_law_site : List (Str × D) := []
abbrev P_law_site : List Cal := [C_law_spread]
theorem p_law_site_0 : P_law_site[0]? = some C_law_spread := rfl
abbrev c_law_site : M.Cx := ⟨NM, AT_, P_law_site, G_law_site, True⟩
namespace M
open PySem PySem.Spec L2
noncomputable section
def m_law_site (row_1 : Int) : Rs Pt :=
  (((divR row_1 (3:Int)).bind fun a_3 => (((modR row_1 (2:Int)).bind fun a_2 => (idxR [(20:Int), (900:Int)] a_2)).bind fun a_4 => (m_law_spread a_3 (3:Int) a_4))).bind fun place_5 => (cnd (place_5 = [(0:Int), (0:Int), (0:Int)]) (Rs.ok ((1:Int), (0:Int), (0:Int))) ((idxR place_5 (0:Int)).bind fun a_6 => ((idxR place_5 (1:Int)).bind fun a_7 => ((idxR place_5 (2:Int)).bind fun a_8 => (Rs.ok (a_6, a_7, a_8)))))))
theorem k_law_site (row_1 : Int) : RK c_law_site dPt i_law_site [Sl.val (D.int row_1), Sl.un] (m_law_site row_1) (NN dPt) F0 F0 := by
  unfold m_law_site
  refine rk_asg (g := fun place_5 => [Sl.val (D.int row_1), Sl.val ((dL D.int) place_5)]) (re_call (cal := C_law_spread) (n := (dL D.int)) rfl (rx_e (n := D.int) (re_bin (rx_p (rp_var rfl) (rx_p rp_cst (rx_nil qb_fdiv)))) (fun a_3 => (rx_p rp_cst (rx_e (n := D.int) (re_idx (n := D.int) (rx_p (rp_lst (rps_cons rp_cst (rps_cons rp_cst rps_nil))) (rx_e (n := D.int) (re_bin (rx_p (rp_blt (rps_cons (rp_var rfl) rps_nil) (fun _ h => h)) (rx_p rp_cst (rx_nil qb_mod)))) (fun a_2 => (rx_nil (qi_lst (n := D.int) (l := [(20:Int), (900:Int)]))))))) (fun a_4 => (rx_nil (q_law_spread a_3 (3:Int) a_4)))))))) (fun _ => rfl) (fun place_5 => ?_)
  refine rk_ifu (ru_cmp (rp_var rfl) (rp_lst (rps_cons rp_cst (rps_cons rp_cst (rps_cons rp_cst rps_nil)))) (ck_eq (n := (dL D.int)) (a := place_5) (b := [(0:Int), (0:Int), (0:Int)]))) (fun _ => ?_) (fun _ => ?_)
  · exact rk_retp (a := ((1:Int), (0:Int), (0:Int))) trivial (rp_tup (rps_cons rp_cst (rps_cons rp_cst (rps_cons rp_cst rps_nil))))
  · refine rk_nil ?_
    exact rk_ret trivial (re_tup (n := dPt) (rx_e (n := D.int) (re_idx (n := D.int) (rx_p (rp_var rfl) (rx_p rp_cst (rx_nil (qi_lst (n := D.int) (l := place_5)))))) (fun a_6 => (rx_e (n := D.int) (re_idx (n := D.int) (rx_p (rp_var rfl) (rx_p rp_cst (rx_nil (qi_lst (n := D.int) (l := place_5)))))) (fun a_7 => (rx_e (n := D.int) (re_idx (n := D.int) (rx_p (rp_var rfl) (rx_p rp_cst (rx_nil (qi_lst (n := D.int) (l := place_5)))))) (fun a_8 => (rx_nil ⟨_, rfl, rfl⟩))))))))
end
end M
def fs_law_site : FS := fun ds k x => (∃ (row_1 : Int), ds = [D.int row_1] ∧ (M.m_law_site row_1).sat (fun v => k (dPt v)) x)
def C_law_site : Cal := { nm := "_law_site", ar := 1, dfl := [], fs := fs_law_site }
theorem w_law_site : ∀ ds kd kx, ds.length = 1 → fs_law_site ds kd kx → wpSs NM AT_ P_law_site G_law_site i_law_site (startR 2 ds) { nx := fun _ => kd .non, rt := kd, bk := fun _ => False, ct := fun _ => False, er := fun x _ => kx x } := by
  rintro ds kd kx hl (⟨row_1, rfl, h⟩)
  · exact M.fin_f (c := c_law_site) (M.k_law_site row_1) h
namespace M
open PySem PySem.Spec L2
noncomputable section
theorem q_law_site (row_1 : Int) : QF C_law_site dPt [D.int row_1] (m_law_site row_1) := fun k x h => ⟨row_1, rfl, h⟩
local macro_rules | `(tactic| fail "rs6") => `(tactic| try simp (config := {decide := true, dsimp := false, implicitDefEqProofs := false}) only [mulR_ok, divR_ok, modR_ok, isqrtR_ok, rngR1_0, rngR1_1, rngR1_2, rngR1_3, rngR1_4, rngR1_5, rngR1_6, rngR_16, rngR_13, idxR_0, idxR_1, idxR_2, idxR_3, idxR_4, idxR_5, idxR_m1_1, idxR_m1_2, idxR_m1_3, idxR_last, pushR_ok, catR_ok, forC_nil, forC_cons, mapR_nil, mapR_cons, unO_some, mtO_none, mtO_some, minR_1, minR_2, minR_3, minR_4, maxR_1, maxR_2, maxR_3, maxR_4, andR_okk, orR_okk, andR_dec, orR_dec, andR_ok, orR_ok, iteR_not, iteR_nbl, cnd_t, cnd_f, iteR_ok, iteR_bl, decide_eq_true_eq, Rs.bind_ok, Rs.bind_er, Rs.bind_no, Rs.bind_assoc, noE_ok, List.nil_append, List.cons_append, List.length_cons, List.length_nil, Rs.sat_ok, Rs.sat_er, Rs.sat_no, if_true, if_false, reduceIte, Bool.false_eq_true, decide_true, decide_false, not_true_eq_false, not_false_eq_true, List.map_cons, List.map_nil, List.zip_cons_cons, List.zip_nil_left, List.zip_nil_right, Int.reduceAdd, Int.reduceSub, Int.reduceMul, Int.reduceMod, Int.reduceDiv, Int.reduceEq, Int.reduceNeg, Int.reduceLT, Int.reduceLE, Bool.not_true, Bool.not_false, Option.isSome_some, Option.isSome_none, Bool.and_true, Bool.true_and, Bool.and_false, Bool.false_and, Bool.or_false, Bool.or_true, Bool.false_or, Bool.true_or, reduceCtorEq, ne_eq, true_and, and_true, Int.zero_add, Int.add_zero, Int.sub_zero, m_check_ok])
theorem m_law_site_ex {r : Int} (hr : 0 ≤ r) : ∃ p, m_law_site r = .ok p ∧ p ≠ (0, 0, 0) ∧ nP 900 p := by
  refine sat_ex ?_
  unfold m_law_site
  fail "rs6"
  refine sat_idx2b 20 900 (by omega) (by omega) fun s s1 s2 => ?_
  have bs : Bd s 10 := bdOf (B := 1000) 10 (by omega) (by omega)
  obtain ⟨a, b, c, e, i1, i2, i3, _⟩ := m_law_spread_ex (r := r / 3) (s := s) (by omega) (by decide)
  try simp (config := {decide := true, dsimp := false, implicitDefEqProofs := false}) only [e, mulR_ok, divR_ok, modR_ok, isqrtR_ok, rngR1_0, rngR1_1, rngR1_2, rngR1_3, rngR1_4, rngR1_5, rngR1_6, rngR_16, rngR_13, idxR_0, idxR_1, idxR_2, idxR_3, idxR_4, idxR_5, idxR_m1_1, idxR_m1_2, idxR_m1_3, idxR_last, pushR_ok, catR_ok, forC_nil, forC_cons, mapR_nil, mapR_cons, unO_some, mtO_none, mtO_some, minR_1, minR_2, minR_3, minR_4, maxR_1, maxR_2, maxR_3, maxR_4, andR_okk, orR_okk, andR_dec, orR_dec, andR_ok, orR_ok, iteR_not, iteR_nbl, cnd_t, cnd_f, iteR_ok, iteR_bl, decide_eq_true_eq, Rs.bind_ok, Rs.bind_er, Rs.bind_no, Rs.bind_assoc, noE_ok, List.nil_append, List.cons_append, List.length_cons, List.length_nil, Rs.sat_ok, Rs.sat_er, Rs.sat_no, if_true, if_false, reduceIte, Bool.false_eq_true, decide_true, decide_false, not_true_eq_false, not_false_eq_true, List.map_cons, List.map_nil, List.zip_cons_cons, List.zip_nil_left, List.zip_nil_right, Int.reduceAdd, Int.reduceSub, Int.reduceMul, Int.reduceMod, Int.reduceDiv, Int.reduceEq, Int.reduceNeg, Int.reduceLT, Int.reduceLE, Bool.not_true, Bool.not_false, Option.isSome_some, Option.isSome_none, Bool.and_true, Bool.true_and, Bool.and_false, Bool.false_and, Bool.or_false, Bool.or_true, Bool.false_or, Bool.true_or, reduceCtorEq, ne_eq, true_and, and_true, Int.zero_add, Int.add_zero, Int.sub_zero, m_check_ok]
  refine sat_cnd (fun z => ?_) fun z => ?_
  · exact ⟨by decide, by unfold nP; decide⟩
  · fail "rs6"
    refine ⟨fun q => z ?_, ⟨by dsimp only; omega, by dsimp only; omega, by dsimp only; omega⟩⟩
    cases q
    rfl
end
end M
/-! is_name -/
def i_is_name_1 : List S := .for_ (.nm 1) (.ex (.var 0)) [.ite (.cmp .notin (.var 1) (.cst (.str "abcdefghijklmnopqrstuvwxyz0123456789_"))) [.ret (.cst (.bl false))] []] :: [.ret (.cst (.bl true))]
def i_is_name : List S := .ite (.not (.chn .le .le (.cst (.int 1)) (.blt .len [.var 0]) (.cst (.int 12)))) [.ret (.cst (.bl false))] [] :: i_is_name_1
abbrev G_is_name : List (Str × D) := []
abbrev P_is_name : List Cal := []
abbrev c_is_name : M.Cx := ⟨NM, AT_, P_is_name, G_is_name, True⟩
namespace M
open PySem PySem.Spec L2
noncomputable section
def m_is_name_L1 (char_6 : Str) (nx_4 : (Unit → Rs Bool)) (bk_5 : (Unit → Rs Bool)) : Rs Bool :=
  (cnd (¬(inS char_6 ("abcdefghijklmnopqrstuvwxyz0123456789_":Str) = true)) (Rs.ok false) (nx_4 ()))
def m_is_name (text_1 : Str) : Rs Bool :=
  (iteR (((slenR text_1).bind fun a_2 => (cnd ((1:Int) ≤ a_2) (Rs.ok (decide (a_2 ≤ (12:Int)))) (Rs.ok false))).bind fun x => Rs.ok (!x)) (Rs.ok false) ((chsR text_1).bind fun l_8 => forC (fun a s nx bk => m_is_name_L1 a  nx bk) (fun (s : Unit) => (Rs.ok true)) l_8 (() : Unit)))
theorem k_is_name (text_1 : Str) : RK c_is_name D.bl i_is_name [Sl.val (D.str text_1), Sl.un] (m_is_name text_1) (NN D.bl) F0 F0 := by
  unfold m_is_name
  refine rk_ite (rt_not (rt_chn (rx_p rp_cst (rx_e (n := D.int) (re_blt (n := D.int) (rx_p (rp_var rfl) (rx_nil ql_slen))) (fun a_2 => (rx_nil (qh (fun _ h => h) (rx_p rp_cst (rx_nil (qc (fun _ h => h))))))))))) ?_ ?_
  · exact rk_retp (a := false) trivial rp_cst
  · refine rk_nil ?_
    refine rk_fore (σ := Unit) (J := Sl) (m := D.str) (fun (s : Unit) (j : Sl) => [Sl.val (D.str text_1), j]) (fun a s nx bk => m_is_name_L1 a  nx bk) (k := (fun (s : Unit) => (Rs.ok true))) (s0 := (() : Unit)) (j0 := (Sl.un)) (rie_str (rp_var rfl)) rfl ?_ ?_
    · rintro char_6 _ z_3 nx_4 bk_5
      refine ⟨_, rfl, ?_⟩
      show RK _ _ _ [Sl.val (D.str text_1), Sl.val (D.str char_6)] (m_is_name_L1 char_6 nx_4 bk_5) _ _ _
      unfold m_is_name_L1
      refine rk_ifu (ru_cmp (rp_var rfl) rp_cst ck_nins) (fun _ => ?_) (fun _ => ?_)
      · exact rk_retp (a := false) trivial rp_cst
      · refine rk_nil ?_
        exact rk_nil (nx_i () (Sl.val (D.str char_6)))
    · rintro _ z_7
      show RK _ _ _ [Sl.val (D.str text_1), z_7] ((Rs.ok true)) _ _ _
      exact rk_retp (a := true) trivial rp_cst
end
end M
def fs_is_name : FS := fun ds k x => (∃ (text_1 : Str), ds = [D.str text_1] ∧ (M.m_is_name text_1).sat (fun v => k (D.bl v)) x)
def C_is_name : Cal := { nm := "is_name", ar := 1, dfl := [], fs := fs_is_name }
theorem w_is_name : ∀ ds kd kx, ds.length = 1 → fs_is_name ds kd kx → wpSs NM AT_ P_is_name G_is_name i_is_name (startR 2 ds) { nx := fun _ => kd .non, rt := kd, bk := fun _ => False, ct := fun _ => False, er := fun x _ => kx x } := by
  rintro ds kd kx hl (⟨text_1, rfl, h⟩)
  · exact M.fin_f (c := c_is_name) (M.k_is_name text_1) h
namespace M
open PySem PySem.Spec L2
noncomputable section
theorem q_is_name (text_1 : Str) : QF C_is_name D.bl [D.str text_1] (m_is_name text_1) := fun k x h => ⟨text_1, rfl, h⟩
local macro_rules | `(tactic| fail "rs7") => `(tactic| try simp (config := {decide := true, dsimp := false, implicitDefEqProofs := false}) only [mulR_ok, divR_ok, modR_ok, isqrtR_ok, rngR1_0, rngR1_1, rngR1_2, rngR1_3, rngR1_4, rngR1_5, rngR1_6, rngR_16, rngR_13, idxR_0, idxR_1, idxR_2, idxR_3, idxR_4, idxR_5, idxR_m1_1, idxR_m1_2, idxR_m1_3, idxR_last, pushR_ok, catR_ok, forC_nil, forC_cons, mapR_nil, mapR_cons, unO_some, mtO_none, mtO_some, minR_1, minR_2, minR_3, minR_4, maxR_1, maxR_2, maxR_3, maxR_4, andR_okk, orR_okk, andR_dec, orR_dec, andR_ok, orR_ok, iteR_not, iteR_nbl, cnd_t, cnd_f, iteR_ok, iteR_bl, decide_eq_true_eq, Rs.bind_ok, Rs.bind_er, Rs.bind_no, Rs.bind_assoc, noE_ok, List.nil_append, List.cons_append, List.length_cons, List.length_nil, Rs.sat_ok, Rs.sat_er, Rs.sat_no, if_true, if_false, reduceIte, Bool.false_eq_true, decide_true, decide_false, not_true_eq_false, not_false_eq_true, List.map_cons, List.map_nil, List.zip_cons_cons, List.zip_nil_left, List.zip_nil_right, Int.reduceAdd, Int.reduceSub, Int.reduceMul, Int.reduceMod, Int.reduceDiv, Int.reduceEq, Int.reduceNeg, Int.reduceLT, Int.reduceLE, Bool.not_true, Bool.not_false, Option.isSome_some, Option.isSome_none, Bool.and_true, Bool.true_and, Bool.and_false, Bool.false_and, Bool.or_false, Bool.or_true, Bool.false_or, Bool.true_or, reduceCtorEq, ne_eq, true_and, and_true, Int.zero_add, Int.add_zero, Int.sub_zero, m_check_ok])
theorem m_is_name_of {s : Str} (h : nameOk s = true) : m_is_name s = .ok true := by
  unfold nameOk at h
  rw [Bool.and_eq_true, decide_eq_true_eq, List.all_eq_true] at h
  obtain ⟨⟨h1, h2⟩, h3⟩ := h
  unfold m_is_name slenR chsR
  rw [if_pos (by rw [sizeLine_eq]; omega), if_pos (by rw [sizeLine_eq]; omega), Rs.bind_ok, Rs.bind_ok, cnd_pos (by omega), decide_eq_true (show (s.length : Int) ≤ 12 by omega)]
  show forC _ _ _ _ = _
  refine forC_goU fun a ha nx bk => ?_
  obtain ⟨c, hc, rfl⟩ := List.mem_map.mp ha
  unfold m_is_name_L1
  exact cnd_neg (fun z => z (h3 c hc))
end
end M
/-! Site.__init__ -/
def i_Site___init___5 : List S := .fld 0 35 (.var 1) :: [.fld 0 44 (.var 2)]
def i_Site___init___4 : List S := .exp (.call 0 [.var 3, .cst (.str "place")]) :: i_Site___init___5
def i_Site___init___3 : List S := .for_ (.nm 4) (.ex (.var 2)) [.asg (.nm 3) (.and [.var 3, .chn .le .le (.neg (.glo 0)) (.var 4) (.glo 0)])] :: i_Site___init___4
def i_Site___init___2 : List S := .for_ (.nm 4) (.ex (.var 2)) [.asg (.nm 3) (.or [.var 3, .cmp .ne (.var 4) (.cst (.int 0))])] :: i_Site___init___3
def i_Site___init___1 : List S := .asg (.nm 3) (.cst (.bl false)) :: i_Site___init___2
def i_Site___init__ : List S := .exp (.call 0 [.call 1 [.var 1], .cst (.str "name")]) :: i_Site___init___1
abbrev G_Site___init__ : List (Str × D) := [("MOST", .int 1000000000000000)]
abbrev P_Site___init__ : List Cal := [C_check, C_is_name]
theorem p_Site___init___0 : P_Site___init__[0]? = some C_check := rfl
theorem p_Site___init___1 : P_Site___init__[1]? = some C_is_name := rfl
theorem g_Site___init___0 : G_Site___init__[0]? = some (("MOST", .int 1000000000000000) : Str × D) := rfl
abbrev c_Site___init__ : M.Cx := ⟨NM, AT_, P_Site___init__, G_Site___init__, False⟩
namespace M
open PySem PySem.Spec L2
noncomputable section
def m_Site___init___L1 (number_8 : Int) (good_4 : Bool) (nx_6 : (Bool → Rs Site)) (bk_7 : (Bool → Rs Site)) : Rs Site :=
  ((Rs.ok (good_4 || (decide (¬(number_8 = (0:Int)))))).bind fun good_9 => (nx_6 good_9))
def m_Site___init___L2 (number_16 : Int) (good_12 : Bool) (nx_14 : (Bool → Rs Site)) (bk_15 : (Bool → Rs Site)) : Rs Site :=
  ((Rs.ok (good_12 && (decide (((-1000000000000000:Int) ≤ number_16) ∧ (number_16 ≤ (1000000000000000:Int)))))).bind fun good_17 => (nx_14 good_17))
def m_Site___init___K1 (name_1 : Str) (place_2 : Pt) (good_18 : Bool) : Rs Site :=
  ((m_check good_18 ("place":Str)).bind fun _ => (Rs.ok (⟨name_1, place_2⟩ : Site)))
def m_Site___init___K2 (name_1 : Str) (place_2 : Pt) (good_10 : Bool) : Rs Site :=
  (forC (fun a s nx bk => m_Site___init___L2 a s nx bk) (fun (s : Bool) => m_Site___init___K1 name_1 place_2 s) [place_2.1, place_2.2.1, place_2.2.2] (good_10 : Bool))
def m_Site___init__ (name_1 : Str) (place_2 : Pt) : Rs Site :=
  (((m_is_name name_1).bind fun a_3 => (m_check a_3 ("name":Str))).bind fun _ => (forC (fun a s nx bk => m_Site___init___L1 a s nx bk) (fun (s : Bool) => m_Site___init___K2 name_1 place_2 s) [place_2.1, place_2.2.1, place_2.2.2] (false : Bool)))
theorem k_Site___init__ (name_1 : Str) (place_2 : Pt) : RK c_Site___init__ dSite i_Site___init__ [Sl.obj 27 [] [], Sl.val (D.str name_1), Sl.val (dPt place_2), Sl.un, Sl.un] (m_Site___init__ name_1 place_2) (NI 27 dSite) F0 F0 := by
  unfold m_Site___init__
  refine rk_exp (m := dN) (re_call (cal := C_check) (n := dN) rfl (rx_e (n := D.bl) (re_call (cal := C_is_name) (n := D.bl) rfl (rx_p (rp_var rfl) (rx_nil (q_is_name name_1)))) (fun a_3 => (rx_p rp_cst (rx_nil (q_check a_3 ("name":Str))))))) (fun _ => ?_)
  refine rk_asgp (ρ' := [Sl.obj 27 [] [], Sl.val (D.str name_1), Sl.val (dPt place_2), Sl.val (D.bl false), Sl.un]) rp_cst rfl ?_
  refine rk_for (σ := Bool) (J := Sl) (m := D.int) (l := [place_2.1, place_2.2.1, place_2.2.2]) (fun (s : Bool) (j : Sl) => [Sl.obj 27 [] [], Sl.val (D.str name_1), Sl.val (dPt place_2), Sl.val (D.bl s), j]) (fun a s nx bk => m_Site___init___L1 a s nx bk) (k := (fun (s : Bool) => m_Site___init___K2 name_1 place_2 s)) (s0 := (false : Bool)) (j0 := (Sl.un)) (ri_tup (rp_var rfl)) rfl ?_ ?_
  · rintro number_8 good_4 z_5 nx_6 bk_7
    refine ⟨_, rfl, ?_⟩
    show RK _ _ _ [Sl.obj 27 [] [], Sl.val (D.str name_1), Sl.val (dPt place_2), Sl.val (D.bl good_4), Sl.val (D.int number_8)] (m_Site___init___L1 number_8 good_4 nx_6 bk_7) _ _ _
    unfold m_Site___init___L1
    refine rk_asg (g := fun good_9 => [Sl.obj 27 [] [], Sl.val (D.str name_1), Sl.val (dPt place_2), Sl.val (D.bl good_9), Sl.val (D.int number_8)]) (re_p (n := D.bl) (a := (good_4 || (decide (¬(number_8 = (0:Int)))))) (rp_or (reo_consp (rp_var rfl) (reo_one (re_p (n := D.bl) (rp_cmp (ru_cmp (rp_var rfl) rp_cst (ck_ne (fun _ h => h))))))))) (fun _ => rfl) (fun good_9 => ?_)
    exact rk_nil (nx_i good_9 (Sl.val (D.int number_8)))
  · rintro good_10 z_11
    show RK _ _ _ [Sl.obj 27 [] [], Sl.val (D.str name_1), Sl.val (dPt place_2), Sl.val (D.bl good_10), z_11] (m_Site___init___K2 name_1 place_2 good_10) _ _ _
    unfold m_Site___init___K2
    refine rk_for (σ := Bool) (J := Sl) (m := D.int) (l := [place_2.1, place_2.2.1, place_2.2.2]) (fun (s : Bool) (j : Sl) => [Sl.obj 27 [] [], Sl.val (D.str name_1), Sl.val (dPt place_2), Sl.val (D.bl s), j]) (fun a s nx bk => m_Site___init___L2 a s nx bk) (k := (fun (s : Bool) => m_Site___init___K1 name_1 place_2 s)) (s0 := (good_10 : Bool)) (j0 := (z_11)) (ri_tup (rp_var rfl)) rfl ?_ ?_
    · rintro number_16 good_12 z_13 nx_14 bk_15
      refine ⟨_, rfl, ?_⟩
      show RK _ _ _ [Sl.obj 27 [] [], Sl.val (D.str name_1), Sl.val (dPt place_2), Sl.val (D.bl good_12), Sl.val (D.int number_16)] (m_Site___init___L2 number_16 good_12 nx_14 bk_15) _ _ _
      unfold m_Site___init___L2
      refine rk_asg (g := fun good_17 => [Sl.obj 27 [] [], Sl.val (D.str name_1), Sl.val (dPt place_2), Sl.val (D.bl good_17), Sl.val (D.int number_16)]) (re_p (n := D.bl) (a := (good_12 && (decide (((-1000000000000000:Int) ≤ number_16) ∧ (number_16 ≤ (1000000000000000:Int)))))) (rp_and (rea_consp (rp_var rfl) (rea_one (re_p (n := D.bl) (rp_chn (ru_chn (rp_neg (rp_glo rfl)) (rp_var rfl) (rp_glo rfl) (fun _ h => h) (fun _ h => h)))))))) (fun _ => rfl) (fun good_17 => ?_)
      exact rk_nil (nx_i good_17 (Sl.val (D.int number_16)))
    · rintro good_18 z_19
      show RK _ _ _ [Sl.obj 27 [] [], Sl.val (D.str name_1), Sl.val (dPt place_2), Sl.val (D.bl good_18), z_19] (m_Site___init___K1 name_1 place_2 good_18) _ _ _
      unfold m_Site___init___K1
      refine rk_exp (m := dN) (re_call (cal := C_check) (n := dN) rfl (rx_p (rp_var rfl) (rx_p rp_cst (rx_nil (q_check good_18 ("place":Str)))))) (fun _ => ?_)
      refine rk_fld (ρ' := [Sl.obj 27 [35] [(D.str name_1)], Sl.val (D.str name_1), Sl.val (dPt place_2), Sl.val (D.bl good_18), z_19]) rfl rfl (by decide) (rp_var rfl) rfl ?_
      refine rk_fld (ρ' := [Sl.obj 27 [35, 44] [(D.str name_1), (dPt place_2)], Sl.val (D.str name_1), Sl.val (dPt place_2), Sl.val (D.bl good_18), z_19]) rfl rfl (by decide) (rp_var rfl) rfl ?_
      exact rk_nil ⟨_, _, _, _, rfl, rfl, rfl⟩
end
end M
def is_Site___init__ : IS := fun ds k x => (∃ (name_1 : Str) (place_2 : Pt), ds = [D.str name_1, dPt place_2] ∧ (M.m_Site___init__ name_1 place_2).sat (fun s => ∃ ks xs, dSite s = .ins 27 ks xs ∧ k ks xs) x)
def C_Site___init__ : Cal := { nm := "Site", mt := "__init__", ar := 2, dfl := [], cls := 27, is := is_Site___init__ }
theorem w_Site___init__ : ∀ ds kd kx, ds.length + 1 = 3 → is_Site___init__ ds kd kx → wpSs NM AT_ P_Site___init__ G_Site___init__ i_Site___init__ (startI 5 27 ds) { nx := initNx 27 kd, rt := fun _ => False, bk := fun _ => False, ct := fun _ => False, er := fun x _ => kx x } := by
  rintro ds kd kx hl (⟨name_1, place_2, rfl, h⟩)
  · exact M.fin_i (c := c_Site___init__) rfl (M.k_Site___init__ name_1 place_2) h
namespace M
open PySem PySem.Spec L2
noncomputable section
theorem q_Site___init__ (name_1 : Str) (place_2 : Pt) : QI C_Site___init__ dSite [D.str name_1, dPt place_2] (m_Site___init__ name_1 place_2) := fun k x h => ⟨name_1, place_2, rfl, Rs.sat_mono h (fun _ z => ⟨_, _, rfl, z⟩) fun _ z => z⟩
local macro_rules | `(tactic| fail "rs8") => `(tactic| try simp (config := {decide := true, dsimp := false, implicitDefEqProofs := false}) only [mulR_ok, divR_ok, modR_ok, isqrtR_ok, rngR1_0, rngR1_1, rngR1_2, rngR1_3, rngR1_4, rngR1_5, rngR1_6, rngR_16, rngR_13, idxR_0, idxR_1, idxR_2, idxR_3, idxR_4, idxR_5, idxR_m1_1, idxR_m1_2, idxR_m1_3, idxR_last, pushR_ok, catR_ok, forC_nil, forC_cons, mapR_nil, mapR_cons, unO_some, mtO_none, mtO_some, minR_1, minR_2, minR_3, minR_4, maxR_1, maxR_2, maxR_3, maxR_4, andR_okk, orR_okk, andR_dec, orR_dec, andR_ok, orR_ok, iteR_not, iteR_nbl, cnd_t, cnd_f, iteR_ok, iteR_bl, decide_eq_true_eq, Rs.bind_ok, Rs.bind_er, Rs.bind_no, Rs.bind_assoc, noE_ok, List.nil_append, List.cons_append, List.length_cons, List.length_nil, Rs.sat_ok, Rs.sat_er, Rs.sat_no, if_true, if_false, reduceIte, Bool.false_eq_true, decide_true, decide_false, not_true_eq_false, not_false_eq_true, List.map_cons, List.map_nil, List.zip_cons_cons, List.zip_nil_left, List.zip_nil_right, Int.reduceAdd, Int.reduceSub, Int.reduceMul, Int.reduceMod, Int.reduceDiv, Int.reduceEq, Int.reduceNeg, Int.reduceLT, Int.reduceLE, Bool.not_true, Bool.not_false, Option.isSome_some, Option.isSome_none, Bool.and_true, Bool.true_and, Bool.and_false, Bool.false_and, Bool.or_false, Bool.or_true, Bool.false_or, Bool.true_or, reduceCtorEq, ne_eq, true_and, and_true, Int.zero_add, Int.add_zero, Int.sub_zero, m_check_ok])
theorem m_Site___init___of {n : Str} {p : Pt} (h : nameOk n = true) (hp : p ≠ (0, 0, 0)) (hb : nP (10 ^ 15) p) : m_Site___init__ n p = .ok ⟨n, p⟩ := by
  unfold m_Site___init__
  rw [m_is_name_of h, Rs.bind_ok, m_check_ok rfl, Rs.bind_ok]
  unfold m_Site___init___L1 m_Site___init___K2 m_Site___init___L2 m_Site___init___K1
  fail "rs8"
  obtain ⟨⟨a1, a2⟩, ⟨b1, b2⟩, ⟨c1, c2⟩⟩ := hb
  rw [m_check_ok]
  · fail "rs8"
  · have : ¬ (p.1 = 0 ∧ p.2.1 = 0 ∧ p.2.2 = 0) := fun z => hp (Prod.ext z.1 (Prod.ext z.2.1 z.2.2))
    simp only [Bool.and_eq_true, Bool.or_eq_true, decide_eq_true_eq]
    refine ⟨⟨⟨?_, by omega⟩, by omega⟩, by omega⟩
    omega
end
end M
/-! _law_turned -/
def b_law_turned_0 : List S := .par 2 3 (.bin .sub (.bin .mul (.var 2) (.var 6)) (.bin .mul (.var 3) (.var 7))) (.bin .add (.bin .mul (.var 3) (.var 6)) (.bin .mul (.var 2) (.var 7))) :: [.asg (.nm 4) (.bin .mul (.var 4) (.var 8))]
def i_law_turned_4 : List S := .for_ (.nm 5) (.rng [.var 1]) b_law_turned_0 :: [.ret (.tup [.var 2, .var 3, .var 4])]
def i_law_turned_3 : List S := .asg (.nm 4) (.cst (.int 1)) :: i_law_turned_4
def i_law_turned_2 : List S := .asg (.nm 3) (.cst (.int 0)) :: i_law_turned_3
def i_law_turned_1 : List S := .asg (.nm 2) (.cst (.int 1)) :: i_law_turned_2
def i_law_turned : List S := .asg (.tp [.nm 6, .nm 7, .nm 8]) (.var 0) :: i_law_turned_1
abbrev G_law_turned : List (Str × D) := []
abbrev P_law_turned : List Cal := []
abbrev c_law_turned : M.Cx := ⟨NM, AT_, P_law_turned, G_law_turned, True⟩
namespace M
open PySem PySem.Spec L2
noncomputable section
def m_law_turned_L1 (turn_1 : Pt) (k_9 : Int) (c_3 : Int) (s_4 : Int) (scale_5 : Int) (nx_7 : ((Int × Int × Int) → Rs Pt)) (bk_8 : ((Int × Int × Int) → Rs Pt)) : Rs Pt :=
  (((mulR c_3 turn_1.1).bind fun a_10 => ((mulR s_4 turn_1.2.1).bind fun a_11 => (Rs.ok (a_10 - a_11)))).bind fun c_14 => ((mulR s_4 turn_1.1).bind fun a_12 => ((mulR c_3 turn_1.2.1).bind fun a_13 => (Rs.ok (a_12 + a_13)))).bind fun s_15 => ((mulR scale_5 turn_1.2.2).bind fun scale_16 => (nx_7 (c_14, s_15, scale_16))))
def m_law_turned (turn_1 : Pt) (ticks_2 : Int) : Rs Pt :=
  ((rngR1 ticks_2).bind fun l_21 => forC (fun a s nx bk => m_law_turned_L1 turn_1 a s.1 s.2.1 s.2.2 nx bk) (fun (s : (Int × Int × Int)) => (Rs.ok (s.1, s.2.1, s.2.2))) l_21 (((1:Int), (0:Int), (1:Int)) : (Int × Int × Int)))
theorem k_law_turned (turn_1 : Pt) (ticks_2 : Int) : RK c_law_turned dPt i_law_turned [Sl.val (dPt turn_1), Sl.val (D.int ticks_2), Sl.un, Sl.un, Sl.un, Sl.un, Sl.un, Sl.un, Sl.un] (m_law_turned turn_1 ticks_2) (NN dPt) F0 F0 := by
  unfold m_law_turned
  refine rk_tgtp (ρ' := [Sl.val (dPt turn_1), Sl.val (D.int ticks_2), Sl.un, Sl.un, Sl.un, Sl.un, Sl.val (D.int turn_1.1), Sl.val (D.int turn_1.2.1), Sl.val (D.int turn_1.2.2)]) (rp_var rfl) rfl ?_
  refine rk_asgp (ρ' := [Sl.val (dPt turn_1), Sl.val (D.int ticks_2), Sl.val (D.int (1:Int)), Sl.un, Sl.un, Sl.un, Sl.val (D.int turn_1.1), Sl.val (D.int turn_1.2.1), Sl.val (D.int turn_1.2.2)]) rp_cst rfl ?_
  refine rk_asgp (ρ' := [Sl.val (dPt turn_1), Sl.val (D.int ticks_2), Sl.val (D.int (1:Int)), Sl.val (D.int (0:Int)), Sl.un, Sl.un, Sl.val (D.int turn_1.1), Sl.val (D.int turn_1.2.1), Sl.val (D.int turn_1.2.2)]) rp_cst rfl ?_
  refine rk_asgp (ρ' := [Sl.val (dPt turn_1), Sl.val (D.int ticks_2), Sl.val (D.int (1:Int)), Sl.val (D.int (0:Int)), Sl.val (D.int (1:Int)), Sl.un, Sl.val (D.int turn_1.1), Sl.val (D.int turn_1.2.1), Sl.val (D.int turn_1.2.2)]) rp_cst rfl ?_
  refine rk_fore (σ := (Int × Int × Int)) (J := Sl) (m := D.int) (fun (s : (Int × Int × Int)) (j : Sl) => [Sl.val (dPt turn_1), Sl.val (D.int ticks_2), Sl.val (D.int s.1), Sl.val (D.int s.2.1), Sl.val (D.int s.2.2), j, Sl.val (D.int turn_1.1), Sl.val (D.int turn_1.2.1), Sl.val (D.int turn_1.2.2)]) (fun a s nx bk => m_law_turned_L1 turn_1 a s.1 s.2.1 s.2.2 nx bk) (k := (fun (s : (Int × Int × Int)) => (Rs.ok (s.1, s.2.1, s.2.2)))) (s0 := (((1:Int), (0:Int), (1:Int)) : (Int × Int × Int))) (j0 := (Sl.un)) (rie_rng (rx_p (rp_var rfl) (rx_nil qr_1))) rfl ?_ ?_
  · rintro k_9 ⟨c_3, s_4, scale_5⟩ z_6 nx_7 bk_8
    refine ⟨_, rfl, ?_⟩
    show RK _ _ _ [Sl.val (dPt turn_1), Sl.val (D.int ticks_2), Sl.val (D.int c_3), Sl.val (D.int s_4), Sl.val (D.int scale_5), Sl.val (D.int k_9), Sl.val (D.int turn_1.1), Sl.val (D.int turn_1.2.1), Sl.val (D.int turn_1.2.2)] (m_law_turned_L1 turn_1 k_9 c_3 s_4 scale_5 nx_7 bk_8) _ _ _
    unfold m_law_turned_L1
    refine rk_pare (n1 := D.int) (n2 := D.int) (g := fun c_14 s_15 => [Sl.val (dPt turn_1), Sl.val (D.int ticks_2), Sl.val (D.int c_14), Sl.val (D.int s_15), Sl.val (D.int scale_5), Sl.val (D.int k_9), Sl.val (D.int turn_1.1), Sl.val (D.int turn_1.2.1), Sl.val (D.int turn_1.2.2)]) (re_bin (rx_e (n := D.int) (re_bin (rx_p (rp_var rfl) (rx_p (rp_var rfl) (rx_nil qb_mul)))) (fun a_10 => (rx_e (n := D.int) (re_bin (rx_p (rp_var rfl) (rx_p (rp_var rfl) (rx_nil qb_mul)))) (fun a_11 => (rx_nil qb_sub)))))) (re_bin (rx_e (n := D.int) (re_bin (rx_p (rp_var rfl) (rx_p (rp_var rfl) (rx_nil qb_mul)))) (fun a_12 => (rx_e (n := D.int) (re_bin (rx_p (rp_var rfl) (rx_p (rp_var rfl) (rx_nil qb_mul)))) (fun a_13 => (rx_nil qb_add)))))) (fun _ _ => rfl) (fun c_14 s_15 => ?_)
    refine rk_asg (g := fun scale_16 => [Sl.val (dPt turn_1), Sl.val (D.int ticks_2), Sl.val (D.int c_14), Sl.val (D.int s_15), Sl.val (D.int scale_16), Sl.val (D.int k_9), Sl.val (D.int turn_1.1), Sl.val (D.int turn_1.2.1), Sl.val (D.int turn_1.2.2)]) (re_bin (rx_p (rp_var rfl) (rx_p (rp_var rfl) (rx_nil qb_mul)))) (fun _ => rfl) (fun scale_16 => ?_)
    exact rk_nil (nx_i (c_14, s_15, scale_16) (Sl.val (D.int k_9)))
  · rintro ⟨c_17, s_18, scale_19⟩ z_20
    show RK _ _ _ [Sl.val (dPt turn_1), Sl.val (D.int ticks_2), Sl.val (D.int c_17), Sl.val (D.int s_18), Sl.val (D.int scale_19), z_20, Sl.val (D.int turn_1.1), Sl.val (D.int turn_1.2.1), Sl.val (D.int turn_1.2.2)] ((Rs.ok (c_17, s_18, scale_19))) _ _ _
    exact rk_retp (a := (c_17, s_18, scale_19)) trivial (rp_tup (rps_cons (rp_var rfl) (rps_cons (rp_var rfl) (rps_cons (rp_var rfl) rps_nil))))
end
end M
def fs_law_turned : FS := fun ds k x => (∃ (turn_1 : Pt) (ticks_2 : Int), ds = [dPt turn_1, D.int ticks_2] ∧ (M.m_law_turned turn_1 ticks_2).sat (fun v => k (dPt v)) x)
def C_law_turned : Cal := { nm := "_law_turned", ar := 2, dfl := [], fs := fs_law_turned }
theorem w_law_turned : ∀ ds kd kx, ds.length = 2 → fs_law_turned ds kd kx → wpSs NM AT_ P_law_turned G_law_turned i_law_turned (startR 9 ds) { nx := fun _ => kd .non, rt := kd, bk := fun _ => False, ct := fun _ => False, er := fun x _ => kx x } := by
  rintro ds kd kx hl (⟨turn_1, ticks_2, rfl, h⟩)
  · exact M.fin_f (c := c_law_turned) (M.k_law_turned turn_1 ticks_2) h
namespace M
open PySem PySem.Spec L2
noncomputable section
theorem q_law_turned (turn_1 : Pt) (ticks_2 : Int) : QF C_law_turned dPt [dPt turn_1, D.int ticks_2] (m_law_turned turn_1 ticks_2) := fun k x h => ⟨turn_1, ticks_2, rfl, h⟩
local macro_rules | `(tactic| fail "rs9") => `(tactic| try simp (config := {decide := true, dsimp := false, implicitDefEqProofs := false}) only [mulR_ok, divR_ok, modR_ok, isqrtR_ok, rngR1_0, rngR1_1, rngR1_2, rngR1_3, rngR1_4, rngR1_5, rngR1_6, rngR_16, rngR_13, idxR_0, idxR_1, idxR_2, idxR_3, idxR_4, idxR_5, idxR_m1_1, idxR_m1_2, idxR_m1_3, idxR_last, pushR_ok, catR_ok, forC_nil, forC_cons, mapR_nil, mapR_cons, unO_some, mtO_none, mtO_some, minR_1, minR_2, minR_3, minR_4, maxR_1, maxR_2, maxR_3, maxR_4, andR_okk, orR_okk, andR_dec, orR_dec, andR_ok, orR_ok, iteR_not, iteR_nbl, cnd_t, cnd_f, iteR_ok, iteR_bl, decide_eq_true_eq, Rs.bind_ok, Rs.bind_er, Rs.bind_no, Rs.bind_assoc, noE_ok, List.nil_append, List.cons_append, List.length_cons, List.length_nil, Rs.sat_ok, Rs.sat_er, Rs.sat_no, if_true, if_false, reduceIte, Bool.false_eq_true, decide_true, decide_false, not_true_eq_false, not_false_eq_true, List.map_cons, List.map_nil, List.zip_cons_cons, List.zip_nil_left, List.zip_nil_right, Int.reduceAdd, Int.reduceSub, Int.reduceMul, Int.reduceMod, Int.reduceDiv, Int.reduceEq, Int.reduceNeg, Int.reduceLT, Int.reduceLE, Bool.not_true, Bool.not_false, Option.isSome_some, Option.isSome_none, Bool.and_true, Bool.true_and, Bool.and_false, Bool.false_and, Bool.or_false, Bool.or_true, Bool.false_or, Bool.true_or, reduceCtorEq, ne_eq, true_and, and_true, Int.zero_add, Int.add_zero, Int.sub_zero, m_check_ok])
theorem tN_bd {w : Pt} [h : BdP w 20] : ∀ n, BdP (tN w n) (22 * n + 2)
  | 0 => ⟨⟨by show 1 < 2 ^ 2; decide⟩, ⟨by show 0 < 2 ^ 2; decide⟩, ⟨by show 1 < 2 ^ 2; decide⟩⟩
  | n + 1 => by
    have := tN_bd (w := w) n
    unfold tN
    exact ⟨Bd.of inferInstance (by omega), Bd.of inferInstance (by omega), Bd.of inferInstance (by omega)⟩
theorem m_law_turned_ok {w : Pt} [h : BdP w 20] {t : Int} (t0 : 0 ≤ t) (t1 : t ≤ 1000) : m_law_turned w t = .ok (tN w t.toNat) := by
  suffices q : (m_law_turned w t).sat (fun v => v = tN w t.toNat) fun _ => False by
    obtain ⟨v, e, rfl⟩ := sat_ex q
    exact e
  unfold m_law_turned
  rw [rngR1_ok (by omega) (by omega), Rs.bind_ok]
  refine forC_rng (fun i s => s = tN w i.toNat) ?_ ?_ rfl
  · rintro i s nx bk i0 i1 rfl hn
    have b := tN_bd (w := w) i.toNat
    have l : 22 * i.toNat + 2 + 20 < 130000000 := by omega
    unfold m_law_turned_L1
    try simp (config := {decide := true, dsimp := false, implicitDefEqProofs := false}) only [l, mulR_ok, divR_ok, modR_ok, isqrtR_ok, rngR1_0, rngR1_1, rngR1_2, rngR1_3, rngR1_4, rngR1_5, rngR1_6, rngR_16, rngR_13, idxR_0, idxR_1, idxR_2, idxR_3, idxR_4, idxR_5, idxR_m1_1, idxR_m1_2, idxR_m1_3, idxR_last, pushR_ok, catR_ok, forC_nil, forC_cons, mapR_nil, mapR_cons, unO_some, mtO_none, mtO_some, minR_1, minR_2, minR_3, minR_4, maxR_1, maxR_2, maxR_3, maxR_4, andR_okk, orR_okk, andR_dec, orR_dec, andR_ok, orR_ok, iteR_not, iteR_nbl, cnd_t, cnd_f, iteR_ok, iteR_bl, decide_eq_true_eq, Rs.bind_ok, Rs.bind_er, Rs.bind_no, Rs.bind_assoc, noE_ok, List.nil_append, List.cons_append, List.length_cons, List.length_nil, Rs.sat_ok, Rs.sat_er, Rs.sat_no, if_true, if_false, reduceIte, Bool.false_eq_true, decide_true, decide_false, not_true_eq_false, not_false_eq_true, List.map_cons, List.map_nil, List.zip_cons_cons, List.zip_nil_left, List.zip_nil_right, Int.reduceAdd, Int.reduceSub, Int.reduceMul, Int.reduceMod, Int.reduceDiv, Int.reduceEq, Int.reduceNeg, Int.reduceLT, Int.reduceLE, Bool.not_true, Bool.not_false, Option.isSome_some, Option.isSome_none, Bool.and_true, Bool.true_and, Bool.and_false, Bool.false_and, Bool.or_false, Bool.or_true, Bool.false_or, Bool.true_or, reduceCtorEq, ne_eq, true_and, and_true, Int.zero_add, Int.add_zero, Int.sub_zero, m_check_ok]
    refine hn _ ?_
    rw [show (i + 1).toNat = i.toNat + 1 by omega]
    rfl
  · rintro s e
    have : max 0 t = t := by omega
    rw [this] at e
    subst e
    rfl
end
end M
/-! _law_station -/
def i_law_station_1 : List S := .asg (.tp [.nm 6, .nm 7, .nm 8]) (.var 1) :: [.ret (.tup [.tup [.bin .sub (.bin .mul (.var 6) (.var 3)) (.bin .mul (.var 7) (.var 4)), .bin .add (.bin .mul (.var 6) (.var 4)) (.bin .mul (.var 7) (.var 3)), .bin .mul (.var 8) (.var 5)], .var 5])]
def i_law_station : List S := .asg (.tp [.nm 3, .nm 4, .nm 5]) (.call 0 [.var 0, .var 2]) :: i_law_station_1
abbrev G_law_station : List (Str × D) := []
abbrev P_law_station : List Cal := [C_law_turned]
theorem p_law_station_0 : P_law_station[0]? = some C_law_turned := rfl
abbrev c_law_station : M.Cx := ⟨NM, AT_, P_law_station, G_law_station, True⟩
namespace M
open PySem PySem.Spec L2
noncomputable section
def m_law_station (turn_1 : Pt) (place_2 : Pt) (ticks_3 : Int) : Rs (Pt × Int) :=
  ((m_law_turned turn_1 ticks_3).bind fun p_4 => ((((mulR place_2.1 p_4.1).bind fun a_5 => ((mulR place_2.2.1 p_4.2.1).bind fun a_6 => (Rs.ok (a_5 - a_6)))).bind fun a_9 => (((mulR place_2.1 p_4.2.1).bind fun a_7 => ((mulR place_2.2.1 p_4.1).bind fun a_8 => (Rs.ok (a_7 + a_8)))).bind fun a_10 => ((mulR place_2.2.2 p_4.2.2).bind fun a_11 => (Rs.ok (a_9, a_10, a_11))))).bind fun a_12 => (Rs.ok (a_12, p_4.2.2))))
theorem k_law_station (turn_1 : Pt) (place_2 : Pt) (ticks_3 : Int) : RK c_law_station (d2 dPt D.int) i_law_station [Sl.val (dPt turn_1), Sl.val (dPt place_2), Sl.val (D.int ticks_3), Sl.un, Sl.un, Sl.un, Sl.un, Sl.un, Sl.un] (m_law_station turn_1 place_2 ticks_3) (NN (d2 dPt D.int)) F0 F0 := by
  unfold m_law_station
  refine rk_tgt (g := fun p_4 => [Sl.val (dPt turn_1), Sl.val (dPt place_2), Sl.val (D.int ticks_3), Sl.val (D.int p_4.1), Sl.val (D.int p_4.2.1), Sl.val (D.int p_4.2.2), Sl.un, Sl.un, Sl.un]) (re_call (cal := C_law_turned) (n := dPt) rfl (rx_p (rp_var rfl) (rx_p (rp_var rfl) (rx_nil (q_law_turned turn_1 ticks_3))))) (fun _ => rfl) (fun p_4 => ?_)
  refine rk_tgtp (ρ' := [Sl.val (dPt turn_1), Sl.val (dPt place_2), Sl.val (D.int ticks_3), Sl.val (D.int p_4.1), Sl.val (D.int p_4.2.1), Sl.val (D.int p_4.2.2), Sl.val (D.int place_2.1), Sl.val (D.int place_2.2.1), Sl.val (D.int place_2.2.2)]) (rp_var rfl) rfl ?_
  exact rk_ret trivial (re_tup (n := (d2 dPt D.int)) (rx_e (n := dPt) (re_tup (n := dPt) (rx_e (n := D.int) (re_bin (rx_e (n := D.int) (re_bin (rx_p (rp_var rfl) (rx_p (rp_var rfl) (rx_nil qb_mul)))) (fun a_5 => (rx_e (n := D.int) (re_bin (rx_p (rp_var rfl) (rx_p (rp_var rfl) (rx_nil qb_mul)))) (fun a_6 => (rx_nil qb_sub)))))) (fun a_9 => (rx_e (n := D.int) (re_bin (rx_e (n := D.int) (re_bin (rx_p (rp_var rfl) (rx_p (rp_var rfl) (rx_nil qb_mul)))) (fun a_7 => (rx_e (n := D.int) (re_bin (rx_p (rp_var rfl) (rx_p (rp_var rfl) (rx_nil qb_mul)))) (fun a_8 => (rx_nil qb_add)))))) (fun a_10 => (rx_e (n := D.int) (re_bin (rx_p (rp_var rfl) (rx_p (rp_var rfl) (rx_nil qb_mul)))) (fun a_11 => (rx_nil ⟨_, rfl, rfl⟩)))))))) (fun a_12 => (rx_p (rp_var rfl) (rx_nil ⟨_, rfl, rfl⟩)))))
end
end M
def fs_law_station : FS := fun ds k x => (∃ (turn_1 : Pt) (place_2 : Pt) (ticks_3 : Int), ds = [dPt turn_1, dPt place_2, D.int ticks_3] ∧ (M.m_law_station turn_1 place_2 ticks_3).sat (fun v => k ((M.d2 dPt D.int) v)) x)
def C_law_station : Cal := { nm := "_law_station", ar := 3, dfl := [], fs := fs_law_station }
theorem w_law_station : ∀ ds kd kx, ds.length = 3 → fs_law_station ds kd kx → wpSs NM AT_ P_law_station G_law_station i_law_station (startR 9 ds) { nx := fun _ => kd .non, rt := kd, bk := fun _ => False, ct := fun _ => False, er := fun x _ => kx x } := by
  rintro ds kd kx hl (⟨turn_1, place_2, ticks_3, rfl, h⟩)
  · exact M.fin_f (c := c_law_station) (M.k_law_station turn_1 place_2 ticks_3) h
namespace M
open PySem PySem.Spec L2
noncomputable section
theorem q_law_station (turn_1 : Pt) (place_2 : Pt) (ticks_3 : Int) : QF C_law_station (d2 dPt D.int) [dPt turn_1, dPt place_2, D.int ticks_3] (m_law_station turn_1 place_2 ticks_3) := fun k x h => ⟨turn_1, place_2, ticks_3, rfl, h⟩
local macro_rules | `(tactic| fail "rs10") => `(tactic| try simp (config := {decide := true, dsimp := false, implicitDefEqProofs := false}) only [mulR_ok, divR_ok, modR_ok, isqrtR_ok, rngR1_0, rngR1_1, rngR1_2, rngR1_3, rngR1_4, rngR1_5, rngR1_6, rngR_16, rngR_13, idxR_0, idxR_1, idxR_2, idxR_3, idxR_4, idxR_5, idxR_m1_1, idxR_m1_2, idxR_m1_3, idxR_last, pushR_ok, catR_ok, forC_nil, forC_cons, mapR_nil, mapR_cons, unO_some, mtO_none, mtO_some, minR_1, minR_2, minR_3, minR_4, maxR_1, maxR_2, maxR_3, maxR_4, andR_okk, orR_okk, andR_dec, orR_dec, andR_ok, orR_ok, iteR_not, iteR_nbl, cnd_t, cnd_f, iteR_ok, iteR_bl, decide_eq_true_eq, Rs.bind_ok, Rs.bind_er, Rs.bind_no, Rs.bind_assoc, noE_ok, List.nil_append, List.cons_append, List.length_cons, List.length_nil, Rs.sat_ok, Rs.sat_er, Rs.sat_no, if_true, if_false, reduceIte, Bool.false_eq_true, decide_true, decide_false, not_true_eq_false, not_false_eq_true, List.map_cons, List.map_nil, List.zip_cons_cons, List.zip_nil_left, List.zip_nil_right, Int.reduceAdd, Int.reduceSub, Int.reduceMul, Int.reduceMod, Int.reduceDiv, Int.reduceEq, Int.reduceNeg, Int.reduceLT, Int.reduceLE, Bool.not_true, Bool.not_false, Option.isSome_some, Option.isSome_none, Bool.and_true, Bool.true_and, Bool.and_false, Bool.false_and, Bool.or_false, Bool.or_true, Bool.false_or, Bool.true_or, reduceCtorEq, ne_eq, true_and, and_true, Int.zero_add, Int.add_zero, Int.sub_zero, m_check_ok, m_law_turned_ok])
theorem m_law_station_ok {w p : Pt} {n : Nat} [h : BdP w 20] [BdP p n] (hn : n < 1000) {t : Int} (t0 : 0 ≤ t) (t1 : t ≤ 1000) : m_law_station w p t = .ok (siteN w p t.toNat, (tN w t.toNat).2.2) := by
  have b := tN_bd (w := w) t.toNat
  have l : n + (22 * t.toNat + 2) < 130000000 := by omega
  unfold m_law_station siteN
  rw [m_law_turned_ok t0 t1]
  try simp (config := {decide := true, dsimp := false, implicitDefEqProofs := false}) only [l, mulR_ok, divR_ok, modR_ok, isqrtR_ok, rngR1_0, rngR1_1, rngR1_2, rngR1_3, rngR1_4, rngR1_5, rngR1_6, rngR_16, rngR_13, idxR_0, idxR_1, idxR_2, idxR_3, idxR_4, idxR_5, idxR_m1_1, idxR_m1_2, idxR_m1_3, idxR_last, pushR_ok, catR_ok, forC_nil, forC_cons, mapR_nil, mapR_cons, unO_some, mtO_none, mtO_some, minR_1, minR_2, minR_3, minR_4, maxR_1, maxR_2, maxR_3, maxR_4, andR_okk, orR_okk, andR_dec, orR_dec, andR_ok, orR_ok, iteR_not, iteR_nbl, cnd_t, cnd_f, iteR_ok, iteR_bl, decide_eq_true_eq, Rs.bind_ok, Rs.bind_er, Rs.bind_no, Rs.bind_assoc, noE_ok, List.nil_append, List.cons_append, List.length_cons, List.length_nil, Rs.sat_ok, Rs.sat_er, Rs.sat_no, if_true, if_false, reduceIte, Bool.false_eq_true, decide_true, decide_false, not_true_eq_false, not_false_eq_true, List.map_cons, List.map_nil, List.zip_cons_cons, List.zip_nil_left, List.zip_nil_right, Int.reduceAdd, Int.reduceSub, Int.reduceMul, Int.reduceMod, Int.reduceDiv, Int.reduceEq, Int.reduceNeg, Int.reduceLT, Int.reduceLE, Bool.not_true, Bool.not_false, Option.isSome_some, Option.isSome_none, Bool.and_true, Bool.true_and, Bool.and_false, Bool.false_and, Bool.or_false, Bool.or_true, Bool.false_or, Bool.true_or, reduceCtorEq, ne_eq, true_and, and_true, Int.zero_add, Int.add_zero, Int.sub_zero, m_check_ok, m_law_turned_ok]
end
end M
/-! _law_is_number -/
def i_law_is_number : List S := [.ret (.and [.blt .isi [.var 0, .cst (.ty "int")], .not (.blt .isi [.var 0, .cst (.ty "bool")])])]
abbrev G_law_is_number : List (Str × D) := []
abbrev P_law_is_number : List Cal := []
abbrev c_law_is_number : M.Cx := ⟨NM, AT_, P_law_is_number, G_law_is_number, True⟩
namespace M
open PySem PySem.Spec L2
noncomputable section
def m_law_is_number (x_1 : Int) : Rs Bool :=
  (Rs.ok (true && (!false)))
theorem k_law_is_number (x_1 : Int) : RK c_law_is_number D.bl i_law_is_number [Sl.val (D.int x_1)] (m_law_is_number x_1) (NN D.bl) F0 F0 := by
  unfold m_law_is_number
  exact rk_retp (a := (true && (!false))) trivial (rp_and (rea_consp (rp_blt (v := .bl true) (rps_cons (rp_var rfl) (rps_cons rp_cst rps_nil)) (fun _ h => h)) (rea_one (re_p (n := D.bl) (rp_not (rp_blt (v := .bl false) (rps_cons (rp_var rfl) (rps_cons rp_cst rps_nil)) (fun _ h => h)))))))
end
end M
def fs_law_is_number : FS := fun ds k x => (∃ (x_1 : Int), ds = [D.int x_1] ∧ (M.m_law_is_number x_1).sat (fun v => k (D.bl v)) x)
def C_law_is_number : Cal := { nm := "_law_is_number", ar := 1, dfl := [], fs := fs_law_is_number }
theorem w_law_is_number : ∀ ds kd kx, ds.length = 1 → fs_law_is_number ds kd kx → wpSs NM AT_ P_law_is_number G_law_is_number i_law_is_number (startR 1 ds) { nx := fun _ => kd .non, rt := kd, bk := fun _ => False, ct := fun _ => False, er := fun x _ => kx x } := by
  rintro ds kd kx hl (⟨x_1, rfl, h⟩)
  · exact M.fin_f (c := c_law_is_number) (M.k_law_is_number x_1) h
namespace M
open PySem PySem.Spec L2
noncomputable section
theorem q_law_is_number (x_1 : Int) : QF C_law_is_number D.bl [D.int x_1] (m_law_is_number x_1) := fun k x h => ⟨x_1, rfl, h⟩
local macro_rules | `(tactic| fail "rs11") => `(tactic| try simp (config := {decide := true, dsimp := false, implicitDefEqProofs := false}) only [mulR_ok, divR_ok, modR_ok, isqrtR_ok, rngR1_0, rngR1_1, rngR1_2, rngR1_3, rngR1_4, rngR1_5, rngR1_6, rngR_16, rngR_13, idxR_0, idxR_1, idxR_2, idxR_3, idxR_4, idxR_5, idxR_m1_1, idxR_m1_2, idxR_m1_3, idxR_last, pushR_ok, catR_ok, forC_nil, forC_cons, mapR_nil, mapR_cons, unO_some, mtO_none, mtO_some, minR_1, minR_2, minR_3, minR_4, maxR_1, maxR_2, maxR_3, maxR_4, andR_okk, orR_okk, andR_dec, orR_dec, andR_ok, orR_ok, iteR_not, iteR_nbl, cnd_t, cnd_f, iteR_ok, iteR_bl, decide_eq_true_eq, Rs.bind_ok, Rs.bind_er, Rs.bind_no, Rs.bind_assoc, noE_ok, List.nil_append, List.cons_append, List.length_cons, List.length_nil, Rs.sat_ok, Rs.sat_er, Rs.sat_no, if_true, if_false, reduceIte, Bool.false_eq_true, decide_true, decide_false, not_true_eq_false, not_false_eq_true, List.map_cons, List.map_nil, List.zip_cons_cons, List.zip_nil_left, List.zip_nil_right, Int.reduceAdd, Int.reduceSub, Int.reduceMul, Int.reduceMod, Int.reduceDiv, Int.reduceEq, Int.reduceNeg, Int.reduceLT, Int.reduceLE, Bool.not_true, Bool.not_false, Option.isSome_some, Option.isSome_none, Bool.and_true, Bool.true_and, Bool.and_false, Bool.false_and, Bool.or_false, Bool.or_true, Bool.false_or, Bool.true_or, reduceCtorEq, ne_eq, true_and, and_true, Int.zero_add, Int.add_zero, Int.sub_zero, m_check_ok, m_law_turned_ok, m_law_station_ok])
theorem m_law_is_number_ok {x : Int} : m_law_is_number x = .ok true := by
  unfold m_law_is_number
  first | rfl | fail "rs11"
end
end M
/-! _law_encloses -/
def b_law_encloses_0_2 : List S := .ite (.or [.not (.val (.call 0 [.var 4])), .not (.val (.call 0 [.var 5]))]) [.ret (.cst (.bl false))] [] :: [.ite (.not (.chn .le .le (.bin .mul (.var 4) (.var 2)) (.idx (.var 1) (.var 3)) (.bin .mul (.var 5) (.var 2)))) [.ret (.cst (.bl false))] []]
def b_law_encloses_0_1 : List S := .asg (.tp [.nm 4, .nm 5]) (.idx (.var 0) (.var 3)) :: b_law_encloses_0_2
def b_law_encloses_0 : List S := .ite (.or [.not (.val (.blt .isi [.idx (.var 0) (.var 3), .cst (.ty "tuple")])), .cmp .ne (.blt .len [.idx (.var 0) (.var 3)]) (.cst (.int 2))]) [.ret (.cst (.bl false))] [] :: b_law_encloses_0_1
def i_law_encloses_1 : List S := .for_ (.nm 3) (.rng [.cst (.int 3)]) b_law_encloses_0 :: [.ret (.cmp .eq (.idx (.var 0) (.cst (.int 2))) (.tup [.bin .fdiv (.idx (.var 1) (.cst (.int 2))) (.var 2), .bin .fdiv (.idx (.var 1) (.cst (.int 2))) (.var 2)]))]
def i_law_encloses : List S := .ite (.or [.not (.val (.blt .isi [.var 0, .cst (.ty "tuple")])), .cmp .ne (.blt .len [.var 0]) (.cst (.int 3))]) [.ret (.cst (.bl false))] [] :: i_law_encloses_1
abbrev G_law_encloses : List (Str × D) := []
abbrev P_law_encloses : List Cal := [C_law_is_number]
theorem p_law_encloses_0 : P_law_encloses[0]? = some C_law_is_number := rfl
abbrev c_law_encloses : M.Cx := ⟨NM, AT_, P_law_encloses, G_law_encloses, True⟩
namespace M
open PySem PySem.Spec L2
noncomputable section
def m_law_encloses_L1 (box_1 : Box) (there_2 : Pt) (scale_3 : Int) (k_9 : Int) (nx_7 : (Unit → Rs Bool)) (bk_8 : (Unit → Rs Bool)) : Rs Bool :=
  (iteR (orR (((idxR [box_1.1, box_1.2.1, box_1.2.2] k_9).bind fun a_10 => (Rs.ok true)).bind fun x => Rs.ok (!x)) (((idxR [box_1.1, box_1.2.1, box_1.2.2] k_9).bind fun a_11 => (Rs.ok (2:Int))).bind fun a_12 => (Rs.ok (decide (¬(a_12 = (2:Int))))))) (Rs.ok false) ((idxR [box_1.1, box_1.2.1, box_1.2.2] k_9).bind fun p_13 => (iteR (orR ((m_law_is_number p_13.1).bind fun x => Rs.ok (!x)) ((m_law_is_number p_13.2).bind fun x => Rs.ok (!x))) (Rs.ok false) (iteR (((mulR p_13.1 scale_3).bind fun a_14 => ((idxR [there_2.1, there_2.2.1, there_2.2.2] k_9).bind fun a_15 => (cnd (a_14 ≤ a_15) ((mulR p_13.2 scale_3).bind fun a_16 => (Rs.ok (decide (a_15 ≤ a_16)))) (Rs.ok false)))).bind fun x => Rs.ok (!x)) (Rs.ok false) (nx_7 ())))))
def m_law_encloses_K1 (box_1 : Box) (there_2 : Pt) (scale_3 : Int) : Rs Bool :=
  (((divR there_2.2.2 scale_3).bind fun a_20 => ((divR there_2.2.2 scale_3).bind fun a_21 => (Rs.ok (a_20, a_21)))).bind fun a_22 => (Rs.ok (decide (box_1.2.2 = a_22))))
def m_law_encloses (box_1 : Box) (there_2 : Pt) (scale_3 : Int) : Rs Bool :=
  (cnd ((¬(true = true)) ∨ (¬((3:Int) = (3:Int)))) (Rs.ok false) ((rngR1 (3:Int)).bind fun l_23 => forC (fun a s nx bk => m_law_encloses_L1 box_1 there_2 scale_3 a  nx bk) (fun (s : Unit) => m_law_encloses_K1 box_1 there_2 scale_3 ) l_23 (() : Unit)))
theorem k_law_encloses (box_1 : Box) (there_2 : Pt) (scale_3 : Int) : RK c_law_encloses D.bl i_law_encloses [Sl.val (dBox box_1), Sl.val (dPt there_2), Sl.val (D.int scale_3), Sl.un, Sl.un, Sl.un] (m_law_encloses box_1 there_2 scale_3) (NN D.bl) F0 F0 := by
  unfold m_law_encloses
  refine rk_ifu (ru_or (ruo_cons (ru_not (ru_bl (rp_blt (v := .bl true) (rps_cons (rp_var rfl) (rps_cons rp_cst rps_nil)) (fun _ h => h)))) (ruo_one (ru_cmp (rp_blt (v := .int 3) (rps_cons (rp_var rfl) rps_nil) (fun _ h => h)) rp_cst (ck_ne (fun _ h => h)))))) (fun _ => ?_) (fun _ => ?_)
  · exact rk_retp (a := false) trivial rp_cst
  · refine rk_nil ?_
    refine rk_fore (σ := Unit) (J := (Sl × Sl × Sl)) (m := D.int) (fun (s : Unit) (j : (Sl × Sl × Sl)) => [Sl.val (dBox box_1), Sl.val (dPt there_2), Sl.val (D.int scale_3), j.1, j.2.1, j.2.2]) (fun a s nx bk => m_law_encloses_L1 box_1 there_2 scale_3 a  nx bk) (k := (fun (s : Unit) => m_law_encloses_K1 box_1 there_2 scale_3 )) (s0 := (() : Unit)) (j0 := ((Sl.un, Sl.un, Sl.un))) (rie_rng (rx_p rp_cst (rx_nil qr_1))) rfl ?_ ?_
    · rintro k_9 _ ⟨z_4, z_5, z_6⟩ nx_7 bk_8
      refine ⟨_, rfl, ?_⟩
      show RK _ _ _ [Sl.val (dBox box_1), Sl.val (dPt there_2), Sl.val (D.int scale_3), Sl.val (D.int k_9), z_5, z_6] (m_law_encloses_L1 box_1 there_2 scale_3 k_9 nx_7 bk_8) _ _ _
      unfold m_law_encloses_L1
      refine rk_ite (rt_or (rto_cons (rt_not (rt_bl (re_blt (n := D.bl) (rx_e (n := dIv) (re_idx (n := dIv) (rx_p (rp_var rfl) (rx_p (rp_var rfl) (rx_nil (qi_tup (n := dIv) (l := [box_1.1, box_1.2.1, box_1.2.2])))))) (fun a_10 => (rx_p rp_cst (rx_nil (fun k _ h => h)))))))) (rto_one (rt_cmp (rx_e (n := D.int) (re_blt (n := D.int) (rx_e (n := dIv) (re_idx (n := dIv) (rx_p (rp_var rfl) (rx_p (rp_var rfl) (rx_nil (qi_tup (n := dIv) (l := [box_1.1, box_1.2.1, box_1.2.2])))))) (fun a_11 => (rx_nil (fun k _ h => h))))) (fun a_12 => (rx_p rp_cst (rx_nil (qc (ck_ne (fun _ h => h))))))))))) ?_ ?_
      · exact rk_retp (a := false) trivial rp_cst
      · refine rk_nil ?_
        refine rk_tgt (g := fun p_13 => [Sl.val (dBox box_1), Sl.val (dPt there_2), Sl.val (D.int scale_3), Sl.val (D.int k_9), Sl.val (D.int p_13.1), Sl.val (D.int p_13.2)]) (re_idx (n := dIv) (rx_p (rp_var rfl) (rx_p (rp_var rfl) (rx_nil (qi_tup (n := dIv) (l := [box_1.1, box_1.2.1, box_1.2.2])))))) (fun _ => rfl) (fun p_13 => ?_)
        refine rk_ite (rt_or (rto_cons (rt_not (rt_bl (re_call (cal := C_law_is_number) (n := D.bl) rfl (rx_p (rp_var rfl) (rx_nil (q_law_is_number p_13.1)))))) (rto_one (rt_not (rt_bl (re_call (cal := C_law_is_number) (n := D.bl) rfl (rx_p (rp_var rfl) (rx_nil (q_law_is_number p_13.2))))))))) ?_ ?_
        · exact rk_retp (a := false) trivial rp_cst
        · refine rk_nil ?_
          refine rk_ite (rt_not (rt_chn (rx_e (n := D.int) (re_bin (rx_p (rp_var rfl) (rx_p (rp_var rfl) (rx_nil qb_mul)))) (fun a_14 => (rx_e (n := D.int) (re_idx (n := D.int) (rx_p (rp_var rfl) (rx_p (rp_var rfl) (rx_nil (qi_tup (n := D.int) (l := [there_2.1, there_2.2.1, there_2.2.2])))))) (fun a_15 => (rx_nil (qh (fun _ h => h) (rx_e (n := D.int) (re_bin (rx_p (rp_var rfl) (rx_p (rp_var rfl) (rx_nil qb_mul)))) (fun a_16 => (rx_nil (qc (fun _ h => h))))))))))))) ?_ ?_
          · exact rk_retp (a := false) trivial rp_cst
          · refine rk_nil ?_
            exact rk_nil (nx_i () ((Sl.val (D.int k_9), Sl.val (D.int p_13.1), Sl.val (D.int p_13.2))))
    · rintro _ ⟨z_17, z_18, z_19⟩
      show RK _ _ _ [Sl.val (dBox box_1), Sl.val (dPt there_2), Sl.val (D.int scale_3), z_17, z_18, z_19] (m_law_encloses_K1 box_1 there_2 scale_3 ) _ _ _
      unfold m_law_encloses_K1
      exact rk_ret trivial (re_cmp (rt_cmp (rx_p (rp_idx (v := (dIv box_1.2.2)) (rp_var rfl) rp_cst (by exact fun _ h => h)) (rx_e (n := dIv) (re_tup (n := dIv) (rx_e (n := D.int) (re_bin (rx_p (rp_idx (v := (D.int there_2.2.2)) (rp_var rfl) rp_cst (by exact fun _ h => h)) (rx_p (rp_var rfl) (rx_nil qb_fdiv)))) (fun a_20 => (rx_e (n := D.int) (re_bin (rx_p (rp_idx (v := (D.int there_2.2.2)) (rp_var rfl) rp_cst (by exact fun _ h => h)) (rx_p (rp_var rfl) (rx_nil qb_fdiv)))) (fun a_21 => (rx_nil ⟨_, rfl, rfl⟩)))))) (fun a_22 => (rx_nil (qc (ck_eq (n := dIv) (a := box_1.2.2) (b := a_22)))))))))
end
end M
def fs_law_encloses : FS := fun ds k x => (∃ (box_1 : Box) (there_2 : Pt) (scale_3 : Int), ds = [dBox box_1, dPt there_2, D.int scale_3] ∧ (M.m_law_encloses box_1 there_2 scale_3).sat (fun v => k (D.bl v)) x)
def C_law_encloses : Cal := { nm := "_law_encloses", ar := 3, dfl := [], fs := fs_law_encloses }
theorem w_law_encloses : ∀ ds kd kx, ds.length = 3 → fs_law_encloses ds kd kx → wpSs NM AT_ P_law_encloses G_law_encloses i_law_encloses (startR 6 ds) { nx := fun _ => kd .non, rt := kd, bk := fun _ => False, ct := fun _ => False, er := fun x _ => kx x } := by
  rintro ds kd kx hl (⟨box_1, there_2, scale_3, rfl, h⟩)
  · exact M.fin_f (c := c_law_encloses) (M.k_law_encloses box_1 there_2 scale_3) h
namespace M
open PySem PySem.Spec L2
noncomputable section
theorem q_law_encloses (box_1 : Box) (there_2 : Pt) (scale_3 : Int) : QF C_law_encloses D.bl [dBox box_1, dPt there_2, D.int scale_3] (m_law_encloses box_1 there_2 scale_3) := fun k x h => ⟨box_1, there_2, scale_3, rfl, h⟩
local macro_rules | `(tactic| fail "rs12") => `(tactic| try simp (config := {decide := true, dsimp := false, implicitDefEqProofs := false}) only [mulR_ok, divR_ok, modR_ok, isqrtR_ok, rngR1_0, rngR1_1, rngR1_2, rngR1_3, rngR1_4, rngR1_5, rngR1_6, rngR_16, rngR_13, idxR_0, idxR_1, idxR_2, idxR_3, idxR_4, idxR_5, idxR_m1_1, idxR_m1_2, idxR_m1_3, idxR_last, pushR_ok, catR_ok, forC_nil, forC_cons, mapR_nil, mapR_cons, unO_some, mtO_none, mtO_some, minR_1, minR_2, minR_3, minR_4, maxR_1, maxR_2, maxR_3, maxR_4, andR_okk, orR_okk, andR_dec, orR_dec, andR_ok, orR_ok, iteR_not, iteR_nbl, cnd_t, cnd_f, iteR_ok, iteR_bl, decide_eq_true_eq, Rs.bind_ok, Rs.bind_er, Rs.bind_no, Rs.bind_assoc, noE_ok, List.nil_append, List.cons_append, List.length_cons, List.length_nil, Rs.sat_ok, Rs.sat_er, Rs.sat_no, if_true, if_false, reduceIte, Bool.false_eq_true, decide_true, decide_false, not_true_eq_false, not_false_eq_true, List.map_cons, List.map_nil, List.zip_cons_cons, List.zip_nil_left, List.zip_nil_right, Int.reduceAdd, Int.reduceSub, Int.reduceMul, Int.reduceMod, Int.reduceDiv, Int.reduceEq, Int.reduceNeg, Int.reduceLT, Int.reduceLE, Bool.not_true, Bool.not_false, Option.isSome_some, Option.isSome_none, Bool.and_true, Bool.true_and, Bool.and_false, Bool.false_and, Bool.or_false, Bool.or_true, Bool.false_or, Bool.true_or, reduceCtorEq, ne_eq, true_and, and_true, Int.zero_add, Int.add_zero, Int.sub_zero, m_check_ok, m_law_turned_ok, m_law_station_ok, m_law_is_number_ok])
theorem m_law_encloses_ok {b : Box} {p : Pt} {d z : Int} {n m k : Nat} [b1 : BdB b n] [b2 : BdP p m] [b3 : Bd d k] (hn : n < 2000) (hm : m < 2000) (hk : k < 2000) (h : bM p (bSc d b)) (hz : b.2.2 = (z, z)) (hp : p.2.2 = z * d) (hd : 1 ≤ d) : m_law_encloses b p d = .ok true := by
  replace b1 : BdB b 2000 := b1.of (by omega)
  replace b2 : BdP p 2000 := b2.of (by omega)
  replace b3 : Bd d 2000 := b3.of (by omega)
  obtain ⟨⟨h1, h2⟩, ⟨h3, h4⟩, ⟨h5, h6⟩⟩ := h
  unfold bSc sc at h1 h2 h3 h4 h5 h6
  dsimp only at h1 h2 h3 h4 h5 h6
  have d0 : 0 < d := by omega
  unfold m_law_encloses m_law_encloses_L1 m_law_encloses_K1
  try simp (config := {decide := true, dsimp := false, implicitDefEqProofs := false}) only [h1, h2, h3, h4, h5, h6, d0, mulR_ok, divR_ok, modR_ok, isqrtR_ok, rngR1_0, rngR1_1, rngR1_2, rngR1_3, rngR1_4, rngR1_5, rngR1_6, rngR_16, rngR_13, idxR_0, idxR_1, idxR_2, idxR_3, idxR_4, idxR_5, idxR_m1_1, idxR_m1_2, idxR_m1_3, idxR_last, pushR_ok, catR_ok, forC_nil, forC_cons, mapR_nil, mapR_cons, unO_some, mtO_none, mtO_some, minR_1, minR_2, minR_3, minR_4, maxR_1, maxR_2, maxR_3, maxR_4, andR_okk, orR_okk, andR_dec, orR_dec, andR_ok, orR_ok, iteR_not, iteR_nbl, cnd_t, cnd_f, iteR_ok, iteR_bl, decide_eq_true_eq, Rs.bind_ok, Rs.bind_er, Rs.bind_no, Rs.bind_assoc, noE_ok, List.nil_append, List.cons_append, List.length_cons, List.length_nil, Rs.sat_ok, Rs.sat_er, Rs.sat_no, if_true, if_false, reduceIte, Bool.false_eq_true, decide_true, decide_false, not_true_eq_false, not_false_eq_true, List.map_cons, List.map_nil, List.zip_cons_cons, List.zip_nil_left, List.zip_nil_right, Int.reduceAdd, Int.reduceSub, Int.reduceMul, Int.reduceMod, Int.reduceDiv, Int.reduceEq, Int.reduceNeg, Int.reduceLT, Int.reduceLE, Bool.not_true, Bool.not_false, Option.isSome_some, Option.isSome_none, Bool.and_true, Bool.true_and, Bool.and_false, Bool.false_and, Bool.or_false, Bool.or_true, Bool.false_or, Bool.true_or, reduceCtorEq, ne_eq, true_and, and_true, Int.zero_add, Int.add_zero, Int.sub_zero, m_check_ok, m_law_turned_ok, m_law_station_ok, m_law_is_number_ok]
  rw [hz, hp, Int.mul_ediv_cancel _ (by omega)]
  exact congrArg Rs.ok (decide_eq_true (Eq.refl ((z, z) : Iv)))
end
end M
/-! rounded -/
def i_rounded : List S := .asg (.tp [.nm 2, .nm 3]) (.var 0) :: [.ret (.tup [.bin .fdiv (.var 2) (.var 1), .neg (.bin .fdiv (.neg (.var 3)) (.var 1))])]
abbrev G_rounded : List (Str × D) := []
abbrev P_rounded : List Cal := []
abbrev c_rounded : M.Cx := ⟨NM, AT_, P_rounded, G_rounded, True⟩
namespace M
open PySem PySem.Spec L2
noncomputable section
def m_rounded (interval_1 : Iv) (divisor_2 : Int) : Rs Iv :=
  ((divR interval_1.1 divisor_2).bind fun a_4 => (((divR (-interval_1.2) divisor_2).bind fun a_3 => Rs.ok (-a_3)).bind fun a_5 => (Rs.ok (a_4, a_5))))
theorem k_rounded (interval_1 : Iv) (divisor_2 : Int) : RK c_rounded dIv i_rounded [Sl.val (dIv interval_1), Sl.val (D.int divisor_2), Sl.un, Sl.un] (m_rounded interval_1 divisor_2) (NN dIv) F0 F0 := by
  unfold m_rounded
  refine rk_tgtp (ρ' := [Sl.val (dIv interval_1), Sl.val (D.int divisor_2), Sl.val (D.int interval_1.1), Sl.val (D.int interval_1.2)]) (rp_var rfl) rfl ?_
  exact rk_ret trivial (re_tup (n := dIv) (rx_e (n := D.int) (re_bin (rx_p (rp_var rfl) (rx_p (rp_var rfl) (rx_nil qb_fdiv)))) (fun a_4 => (rx_e (n := D.int) (re_neg (re_bin (rx_p (rp_neg (rp_var rfl)) (rx_p (rp_var rfl) (rx_nil qb_fdiv))))) (fun a_5 => (rx_nil ⟨_, rfl, rfl⟩))))))
end
end M
def fs_rounded : FS := fun ds k x => (∃ (interval_1 : Iv) (divisor_2 : Int), ds = [dIv interval_1, D.int divisor_2] ∧ (M.m_rounded interval_1 divisor_2).sat (fun v => k (dIv v)) x)
def C_rounded : Cal := { nm := "rounded", ar := 2, dfl := [], fs := fs_rounded }
theorem w_rounded : ∀ ds kd kx, ds.length = 2 → fs_rounded ds kd kx → wpSs NM AT_ P_rounded G_rounded i_rounded (startR 4 ds) { nx := fun _ => kd .non, rt := kd, bk := fun _ => False, ct := fun _ => False, er := fun x _ => kx x } := by
  rintro ds kd kx hl (⟨interval_1, divisor_2, rfl, h⟩)
  · exact M.fin_f (c := c_rounded) (M.k_rounded interval_1 divisor_2) h
namespace M
open PySem PySem.Spec L2
noncomputable section
theorem q_rounded (interval_1 : Iv) (divisor_2 : Int) : QF C_rounded dIv [dIv interval_1, D.int divisor_2] (m_rounded interval_1 divisor_2) := fun k x h => ⟨interval_1, divisor_2, rfl, h⟩
local macro_rules | `(tactic| fail "rs13") => `(tactic| try simp (config := {decide := true, dsimp := false, implicitDefEqProofs := false}) only [mulR_ok, divR_ok, modR_ok, isqrtR_ok, rngR1_0, rngR1_1, rngR1_2, rngR1_3, rngR1_4, rngR1_5, rngR1_6, rngR_16, rngR_13, idxR_0, idxR_1, idxR_2, idxR_3, idxR_4, idxR_5, idxR_m1_1, idxR_m1_2, idxR_m1_3, idxR_last, pushR_ok, catR_ok, forC_nil, forC_cons, mapR_nil, mapR_cons, unO_some, mtO_none, mtO_some, minR_1, minR_2, minR_3, minR_4, maxR_1, maxR_2, maxR_3, maxR_4, andR_okk, orR_okk, andR_dec, orR_dec, andR_ok, orR_ok, iteR_not, iteR_nbl, cnd_t, cnd_f, iteR_ok, iteR_bl, decide_eq_true_eq, Rs.bind_ok, Rs.bind_er, Rs.bind_no, Rs.bind_assoc, noE_ok, List.nil_append, List.cons_append, List.length_cons, List.length_nil, Rs.sat_ok, Rs.sat_er, Rs.sat_no, if_true, if_false, reduceIte, Bool.false_eq_true, decide_true, decide_false, not_true_eq_false, not_false_eq_true, List.map_cons, List.map_nil, List.zip_cons_cons, List.zip_nil_left, List.zip_nil_right, Int.reduceAdd, Int.reduceSub, Int.reduceMul, Int.reduceMod, Int.reduceDiv, Int.reduceEq, Int.reduceNeg, Int.reduceLT, Int.reduceLE, Bool.not_true, Bool.not_false, Option.isSome_some, Option.isSome_none, Bool.and_true, Bool.true_and, Bool.and_false, Bool.false_and, Bool.or_false, Bool.or_true, Bool.false_or, Bool.true_or, reduceCtorEq, ne_eq, true_and, and_true, Int.zero_add, Int.add_zero, Int.sub_zero, m_check_ok, m_law_turned_ok, m_law_station_ok, m_law_is_number_ok, m_law_encloses_ok])
theorem m_rounded_ok {a : Iv} {d : Int} {n : Nat} [Bd d n] (hd : 0 < d) (hn : n < 8990) : m_rounded a d = .ok (rnd a d) := by
  unfold m_rounded
  try simp (config := {decide := true, dsimp := false, implicitDefEqProofs := false}) only [hd, hn, mulR_ok, divR_ok, modR_ok, isqrtR_ok, rngR1_0, rngR1_1, rngR1_2, rngR1_3, rngR1_4, rngR1_5, rngR1_6, rngR_16, rngR_13, idxR_0, idxR_1, idxR_2, idxR_3, idxR_4, idxR_5, idxR_m1_1, idxR_m1_2, idxR_m1_3, idxR_last, pushR_ok, catR_ok, forC_nil, forC_cons, mapR_nil, mapR_cons, unO_some, mtO_none, mtO_some, minR_1, minR_2, minR_3, minR_4, maxR_1, maxR_2, maxR_3, maxR_4, andR_okk, orR_okk, andR_dec, orR_dec, andR_ok, orR_ok, iteR_not, iteR_nbl, cnd_t, cnd_f, iteR_ok, iteR_bl, decide_eq_true_eq, Rs.bind_ok, Rs.bind_er, Rs.bind_no, Rs.bind_assoc, noE_ok, List.nil_append, List.cons_append, List.length_cons, List.length_nil, Rs.sat_ok, Rs.sat_er, Rs.sat_no, if_true, if_false, reduceIte, Bool.false_eq_true, decide_true, decide_false, not_true_eq_false, not_false_eq_true, List.map_cons, List.map_nil, List.zip_cons_cons, List.zip_nil_left, List.zip_nil_right, Int.reduceAdd, Int.reduceSub, Int.reduceMul, Int.reduceMod, Int.reduceDiv, Int.reduceEq, Int.reduceNeg, Int.reduceLT, Int.reduceLE, Bool.not_true, Bool.not_false, Option.isSome_some, Option.isSome_none, Bool.and_true, Bool.true_and, Bool.and_false, Bool.false_and, Bool.or_false, Bool.or_true, Bool.false_or, Bool.true_or, reduceCtorEq, ne_eq, true_and, and_true, Int.zero_add, Int.add_zero, Int.sub_zero, m_check_ok, m_law_turned_ok, m_law_station_ok, m_law_is_number_ok, m_law_encloses_ok]
  rfl
end
end M
/-! products -/
def i_products : List S := .asg (.nm 2) (.lst [.bin .mul (.idx (.var 0) (.cst (.int 0))) (.idx (.var 1) (.cst (.int 0))), .bin .mul (.idx (.var 0) (.cst (.int 0))) (.idx (.var 1) (.cst (.int 1))), .bin .mul (.idx (.var 0) (.cst (.int 1))) (.idx (.var 1) (.cst (.int 0))), .bin .mul (.idx (.var 0) (.cst (.int 1))) (.idx (.var 1) (.cst (.int 1)))]) :: [.ret (.tup [.blt .min [.var 2], .blt .max [.var 2]])]
abbrev G_products : List (Str × D) := []
abbrev P_products : List Cal := []
abbrev c_products : M.Cx := ⟨NM, AT_, P_products, G_products, True⟩
namespace M
open PySem PySem.Spec L2
noncomputable section
def m_products (first_1 : Iv) (second_2 : Iv) : Rs Iv :=
  (((mulR first_1.1 second_2.1).bind fun a_3 => ((mulR first_1.1 second_2.2).bind fun a_4 => ((mulR first_1.2 second_2.1).bind fun a_5 => ((mulR first_1.2 second_2.2).bind fun a_6 => (Rs.ok [a_3, a_4, a_5, a_6]))))).bind fun corners_7 => ((minR corners_7).bind fun a_8 => ((maxR corners_7).bind fun a_9 => (Rs.ok (a_8, a_9)))))
theorem k_products (first_1 : Iv) (second_2 : Iv) : RK c_products dIv i_products [Sl.val (dIv first_1), Sl.val (dIv second_2), Sl.un] (m_products first_1 second_2) (NN dIv) F0 F0 := by
  unfold m_products
  refine rk_asg (g := fun corners_7 => [Sl.val (dIv first_1), Sl.val (dIv second_2), Sl.val ((dL D.int) corners_7)]) (re_lst (n := (dL D.int)) (rx_e (n := D.int) (re_bin (rx_p (rp_idx (v := (D.int first_1.1)) (rp_var rfl) rp_cst (by exact fun _ h => h)) (rx_p (rp_idx (v := (D.int second_2.1)) (rp_var rfl) rp_cst (by exact fun _ h => h)) (rx_nil qb_mul)))) (fun a_3 => (rx_e (n := D.int) (re_bin (rx_p (rp_idx (v := (D.int first_1.1)) (rp_var rfl) rp_cst (by exact fun _ h => h)) (rx_p (rp_idx (v := (D.int second_2.2)) (rp_var rfl) rp_cst (by exact fun _ h => h)) (rx_nil qb_mul)))) (fun a_4 => (rx_e (n := D.int) (re_bin (rx_p (rp_idx (v := (D.int first_1.2)) (rp_var rfl) rp_cst (by exact fun _ h => h)) (rx_p (rp_idx (v := (D.int second_2.1)) (rp_var rfl) rp_cst (by exact fun _ h => h)) (rx_nil qb_mul)))) (fun a_5 => (rx_e (n := D.int) (re_bin (rx_p (rp_idx (v := (D.int first_1.2)) (rp_var rfl) rp_cst (by exact fun _ h => h)) (rx_p (rp_idx (v := (D.int second_2.2)) (rp_var rfl) rp_cst (by exact fun _ h => h)) (rx_nil qb_mul)))) (fun a_6 => (rx_nil ⟨_, rfl, rfl⟩)))))))))) (fun _ => rfl) (fun corners_7 => ?_)
  exact rk_ret trivial (re_tup (n := dIv) (rx_e (n := D.int) (re_blt (n := D.int) (rx_p (rp_var rfl) (rx_nil (ql_min (l := corners_7))))) (fun a_8 => (rx_e (n := D.int) (re_blt (n := D.int) (rx_p (rp_var rfl) (rx_nil (ql_max (l := corners_7))))) (fun a_9 => (rx_nil ⟨_, rfl, rfl⟩))))))
end
end M
def fs_products : FS := fun ds k x => (∃ (first_1 : Iv) (second_2 : Iv), ds = [dIv first_1, dIv second_2] ∧ (M.m_products first_1 second_2).sat (fun v => k (dIv v)) x)
def C_products : Cal := { nm := "products", ar := 2, dfl := [], fs := fs_products }
theorem w_products : ∀ ds kd kx, ds.length = 2 → fs_products ds kd kx → wpSs NM AT_ P_products G_products i_products (startR 3 ds) { nx := fun _ => kd .non, rt := kd, bk := fun _ => False, ct := fun _ => False, er := fun x _ => kx x } := by
  rintro ds kd kx hl (⟨first_1, second_2, rfl, h⟩)
  · exact M.fin_f (c := c_products) (M.k_products first_1 second_2) h
namespace M
open PySem PySem.Spec L2
noncomputable section
theorem q_products (first_1 : Iv) (second_2 : Iv) : QF C_products dIv [dIv first_1, dIv second_2] (m_products first_1 second_2) := fun k x h => ⟨first_1, second_2, rfl, h⟩
local macro_rules | `(tactic| fail "rs14") => `(tactic| try simp (config := {decide := true, dsimp := false, implicitDefEqProofs := false}) only [mulR_ok, divR_ok, modR_ok, isqrtR_ok, rngR1_0, rngR1_1, rngR1_2, rngR1_3, rngR1_4, rngR1_5, rngR1_6, rngR_16, rngR_13, idxR_0, idxR_1, idxR_2, idxR_3, idxR_4, idxR_5, idxR_m1_1, idxR_m1_2, idxR_m1_3, idxR_last, pushR_ok, catR_ok, forC_nil, forC_cons, mapR_nil, mapR_cons, unO_some, mtO_none, mtO_some, minR_1, minR_2, minR_3, minR_4, maxR_1, maxR_2, maxR_3, maxR_4, andR_okk, orR_okk, andR_dec, orR_dec, andR_ok, orR_ok, iteR_not, iteR_nbl, cnd_t, cnd_f, iteR_ok, iteR_bl, decide_eq_true_eq, Rs.bind_ok, Rs.bind_er, Rs.bind_no, Rs.bind_assoc, noE_ok, List.nil_append, List.cons_append, List.length_cons, List.length_nil, Rs.sat_ok, Rs.sat_er, Rs.sat_no, if_true, if_false, reduceIte, Bool.false_eq_true, decide_true, decide_false, not_true_eq_false, not_false_eq_true, List.map_cons, List.map_nil, List.zip_cons_cons, List.zip_nil_left, List.zip_nil_right, Int.reduceAdd, Int.reduceSub, Int.reduceMul, Int.reduceMod, Int.reduceDiv, Int.reduceEq, Int.reduceNeg, Int.reduceLT, Int.reduceLE, Bool.not_true, Bool.not_false, Option.isSome_some, Option.isSome_none, Bool.and_true, Bool.true_and, Bool.and_false, Bool.false_and, Bool.or_false, Bool.or_true, Bool.false_or, Bool.true_or, reduceCtorEq, ne_eq, true_and, and_true, Int.zero_add, Int.add_zero, Int.sub_zero, m_check_ok, m_law_turned_ok, m_law_station_ok, m_law_is_number_ok, m_law_encloses_ok, m_rounded_ok])
theorem m_products_ok {a b : Iv} {n m : Nat} [BdI a n] [BdI b m] (l : n + m < 130000000) : m_products a b = .ok (iMul a b) := by
  unfold m_products
  try simp (config := {decide := true, dsimp := false, implicitDefEqProofs := false}) only [l, mulR_ok, divR_ok, modR_ok, isqrtR_ok, rngR1_0, rngR1_1, rngR1_2, rngR1_3, rngR1_4, rngR1_5, rngR1_6, rngR_16, rngR_13, idxR_0, idxR_1, idxR_2, idxR_3, idxR_4, idxR_5, idxR_m1_1, idxR_m1_2, idxR_m1_3, idxR_last, pushR_ok, catR_ok, forC_nil, forC_cons, mapR_nil, mapR_cons, unO_some, mtO_none, mtO_some, minR_1, minR_2, minR_3, minR_4, maxR_1, maxR_2, maxR_3, maxR_4, andR_okk, orR_okk, andR_dec, orR_dec, andR_ok, orR_ok, iteR_not, iteR_nbl, cnd_t, cnd_f, iteR_ok, iteR_bl, decide_eq_true_eq, Rs.bind_ok, Rs.bind_er, Rs.bind_no, Rs.bind_assoc, noE_ok, List.nil_append, List.cons_append, List.length_cons, List.length_nil, Rs.sat_ok, Rs.sat_er, Rs.sat_no, if_true, if_false, reduceIte, Bool.false_eq_true, decide_true, decide_false, not_true_eq_false, not_false_eq_true, List.map_cons, List.map_nil, List.zip_cons_cons, List.zip_nil_left, List.zip_nil_right, Int.reduceAdd, Int.reduceSub, Int.reduceMul, Int.reduceMod, Int.reduceDiv, Int.reduceEq, Int.reduceNeg, Int.reduceLT, Int.reduceLE, Bool.not_true, Bool.not_false, Option.isSome_some, Option.isSome_none, Bool.and_true, Bool.true_and, Bool.and_false, Bool.false_and, Bool.or_false, Bool.or_true, Bool.false_or, Bool.true_or, reduceCtorEq, ne_eq, true_and, and_true, Int.zero_add, Int.add_zero, Int.sub_zero, m_check_ok, m_law_turned_ok, m_law_station_ok, m_law_is_number_ok, m_law_encloses_ok, m_rounded_ok]
  rfl
end
end M
/-! limited -/
def i_limited : List S := [.ret (.tup [.blt .max [.idx (.var 0) (.cst (.int 0)), .neg (.glo 0)], .blt .min [.idx (.var 0) (.cst (.int 1)), .glo 0]])]
abbrev G_limited : List (Str × D) := [("SCALE", .int 1000000000000000000)]
abbrev P_limited : List Cal := []
theorem g_limited_0 : G_limited[0]? = some (("SCALE", .int 1000000000000000000) : Str × D) := rfl
abbrev c_limited : M.Cx := ⟨NM, AT_, P_limited, G_limited, True⟩
namespace M
open PySem PySem.Spec L2
noncomputable section
def m_limited (interval_1 : Iv) : Rs Iv :=
  (Rs.ok ((max interval_1.1 (-1000000000000000000:Int)), (min interval_1.2 (1000000000000000000:Int))))
theorem k_limited (interval_1 : Iv) : RK c_limited dIv i_limited [Sl.val (dIv interval_1)] (m_limited interval_1) (NN dIv) F0 F0 := by
  unfold m_limited
  exact rk_retp (a := ((max interval_1.1 (-1000000000000000000:Int)), (min interval_1.2 (1000000000000000000:Int)))) trivial (rp_tup (rps_cons (rp_blt (v := (D.int (max interval_1.1 (-1000000000000000000:Int)))) (rps_cons (rp_idx (v := (D.int interval_1.1)) (rp_var rfl) rp_cst (by exact fun _ h => h)) (rps_cons (rp_neg (rp_glo rfl)) rps_nil)) bk_max2) (rps_cons (rp_blt (v := (D.int (min interval_1.2 (1000000000000000000:Int)))) (rps_cons (rp_idx (v := (D.int interval_1.2)) (rp_var rfl) rp_cst (by exact fun _ h => h)) (rps_cons (rp_glo rfl) rps_nil)) bk_min2) rps_nil)))
end
end M
def fs_limited : FS := fun ds k x => (∃ (interval_1 : Iv), ds = [dIv interval_1] ∧ (M.m_limited interval_1).sat (fun v => k (dIv v)) x)
def C_limited : Cal := { nm := "limited", ar := 1, dfl := [], fs := fs_limited }
theorem w_limited : ∀ ds kd kx, ds.length = 1 → fs_limited ds kd kx → wpSs NM AT_ P_limited G_limited i_limited (startR 1 ds) { nx := fun _ => kd .non, rt := kd, bk := fun _ => False, ct := fun _ => False, er := fun x _ => kx x } := by
  rintro ds kd kx hl (⟨interval_1, rfl, h⟩)
  · exact M.fin_f (c := c_limited) (M.k_limited interval_1) h
namespace M
open PySem PySem.Spec L2
noncomputable section
theorem q_limited (interval_1 : Iv) : QF C_limited dIv [dIv interval_1] (m_limited interval_1) := fun k x h => ⟨interval_1, rfl, h⟩
local macro_rules | `(tactic| fail "rs15") => `(tactic| try simp (config := {decide := true, dsimp := false, implicitDefEqProofs := false}) only [mulR_ok, divR_ok, modR_ok, isqrtR_ok, rngR1_0, rngR1_1, rngR1_2, rngR1_3, rngR1_4, rngR1_5, rngR1_6, rngR_16, rngR_13, idxR_0, idxR_1, idxR_2, idxR_3, idxR_4, idxR_5, idxR_m1_1, idxR_m1_2, idxR_m1_3, idxR_last, pushR_ok, catR_ok, forC_nil, forC_cons, mapR_nil, mapR_cons, unO_some, mtO_none, mtO_some, minR_1, minR_2, minR_3, minR_4, maxR_1, maxR_2, maxR_3, maxR_4, andR_okk, orR_okk, andR_dec, orR_dec, andR_ok, orR_ok, iteR_not, iteR_nbl, cnd_t, cnd_f, iteR_ok, iteR_bl, decide_eq_true_eq, Rs.bind_ok, Rs.bind_er, Rs.bind_no, Rs.bind_assoc, noE_ok, List.nil_append, List.cons_append, List.length_cons, List.length_nil, Rs.sat_ok, Rs.sat_er, Rs.sat_no, if_true, if_false, reduceIte, Bool.false_eq_true, decide_true, decide_false, not_true_eq_false, not_false_eq_true, List.map_cons, List.map_nil, List.zip_cons_cons, List.zip_nil_left, List.zip_nil_right, Int.reduceAdd, Int.reduceSub, Int.reduceMul, Int.reduceMod, Int.reduceDiv, Int.reduceEq, Int.reduceNeg, Int.reduceLT, Int.reduceLE, Bool.not_true, Bool.not_false, Option.isSome_some, Option.isSome_none, Bool.and_true, Bool.true_and, Bool.and_false, Bool.false_and, Bool.or_false, Bool.or_true, Bool.false_or, Bool.true_or, reduceCtorEq, ne_eq, true_and, and_true, Int.zero_add, Int.add_zero, Int.sub_zero, m_check_ok, m_law_turned_ok, m_law_station_ok, m_law_is_number_ok, m_law_encloses_ok, m_rounded_ok, m_products_ok])
theorem m_limited_ok {a : Iv} : m_limited a = .ok (lmt a) := rfl
end
end M
/-! together -/
def i_together_5 : List S := .asg (.nm 7) (.call 1 [.tup [.bin .add (.idx (.var 5) (.cst (.int 0))) (.idx (.var 6) (.cst (.int 0))), .bin .add (.idx (.var 5) (.cst (.int 1))) (.idx (.var 6) (.cst (.int 1)))], .glo 0]) :: [.ret (.tup [.call 2 [.var 4], .call 2 [.var 7]])]
def i_together_4 : List S := .asg (.nm 6) (.call 0 [.idx (.var 0) (.cst (.int 0)), .idx (.var 1) (.cst (.int 1))]) :: i_together_5
def i_together_3 : List S := .asg (.nm 5) (.call 0 [.idx (.var 0) (.cst (.int 1)), .idx (.var 1) (.cst (.int 0))]) :: i_together_4
def i_together_2 : List S := .asg (.nm 4) (.call 1 [.tup [.bin .sub (.idx (.var 2) (.cst (.int 0))) (.idx (.var 3) (.cst (.int 1))), .bin .sub (.idx (.var 2) (.cst (.int 1))) (.idx (.var 3) (.cst (.int 0)))], .glo 0]) :: i_together_3
def i_together_1 : List S := .asg (.nm 3) (.call 0 [.idx (.var 0) (.cst (.int 1)), .idx (.var 1) (.cst (.int 1))]) :: i_together_2
def i_together : List S := .asg (.nm 2) (.call 0 [.idx (.var 0) (.cst (.int 0)), .idx (.var 1) (.cst (.int 0))]) :: i_together_1
abbrev G_together : List (Str × D) := [("SCALE", .int 1000000000000000000)]
abbrev P_together : List Cal := [C_products, C_rounded, C_limited]
theorem p_together_0 : P_together[0]? = some C_products := rfl
theorem p_together_1 : P_together[1]? = some C_rounded := rfl
theorem p_together_2 : P_together[2]? = some C_limited := rfl
theorem g_together_0 : G_together[0]? = some (("SCALE", .int 1000000000000000000) : Str × D) := rfl
abbrev c_together : M.Cx := ⟨NM, AT_, P_together, G_together, True⟩
namespace M
open PySem PySem.Spec L2
noncomputable section
def m_together (first_1 : (Iv × Iv)) (second_2 : (Iv × Iv)) : Rs (Iv × Iv) :=
  ((m_products first_1.1 second_2.1).bind fun both_3 => ((m_products first_1.2 second_2.2).bind fun cross_4 => ((m_rounded ((both_3.1 - cross_4.2), (both_3.2 - cross_4.1)) (1000000000000000000:Int)).bind fun cosine_5 => ((m_products first_1.2 second_2.1).bind fun left_6 => ((m_products first_1.1 second_2.2).bind fun right_7 => ((m_rounded ((left_6.1 + right_7.1), (left_6.2 + right_7.2)) (1000000000000000000:Int)).bind fun sine_8 => ((m_limited cosine_5).bind fun a_9 => ((m_limited sine_8).bind fun a_10 => (Rs.ok (a_9, a_10))))))))))
theorem k_together (first_1 : (Iv × Iv)) (second_2 : (Iv × Iv)) : RK c_together (d2 dIv dIv) i_together [Sl.val ((d2 dIv dIv) first_1), Sl.val ((d2 dIv dIv) second_2), Sl.un, Sl.un, Sl.un, Sl.un, Sl.un, Sl.un] (m_together first_1 second_2) (NN (d2 dIv dIv)) F0 F0 := by
  unfold m_together
  refine rk_asg (g := fun both_3 => [Sl.val ((d2 dIv dIv) first_1), Sl.val ((d2 dIv dIv) second_2), Sl.val (dIv both_3), Sl.un, Sl.un, Sl.un, Sl.un, Sl.un]) (re_call (cal := C_products) (n := dIv) rfl (rx_p (rp_idx (v := (dIv first_1.1)) (rp_var rfl) rp_cst (by exact fun _ h => h)) (rx_p (rp_idx (v := (dIv second_2.1)) (rp_var rfl) rp_cst (by exact fun _ h => h)) (rx_nil (q_products first_1.1 second_2.1))))) (fun _ => rfl) (fun both_3 => ?_)
  refine rk_asg (g := fun cross_4 => [Sl.val ((d2 dIv dIv) first_1), Sl.val ((d2 dIv dIv) second_2), Sl.val (dIv both_3), Sl.val (dIv cross_4), Sl.un, Sl.un, Sl.un, Sl.un]) (re_call (cal := C_products) (n := dIv) rfl (rx_p (rp_idx (v := (dIv first_1.2)) (rp_var rfl) rp_cst (by exact fun _ h => h)) (rx_p (rp_idx (v := (dIv second_2.2)) (rp_var rfl) rp_cst (by exact fun _ h => h)) (rx_nil (q_products first_1.2 second_2.2))))) (fun _ => rfl) (fun cross_4 => ?_)
  refine rk_asg (g := fun cosine_5 => [Sl.val ((d2 dIv dIv) first_1), Sl.val ((d2 dIv dIv) second_2), Sl.val (dIv both_3), Sl.val (dIv cross_4), Sl.val (dIv cosine_5), Sl.un, Sl.un, Sl.un]) (re_call (cal := C_rounded) (n := dIv) rfl (rx_p (rp_tup (rps_cons (rp_sub (rp_idx (v := (D.int both_3.1)) (rp_var rfl) rp_cst (by exact fun _ h => h)) (rp_idx (v := (D.int cross_4.2)) (rp_var rfl) rp_cst (by exact fun _ h => h))) (rps_cons (rp_sub (rp_idx (v := (D.int both_3.2)) (rp_var rfl) rp_cst (by exact fun _ h => h)) (rp_idx (v := (D.int cross_4.1)) (rp_var rfl) rp_cst (by exact fun _ h => h))) rps_nil))) (rx_p (rp_glo rfl) (rx_nil (q_rounded ((both_3.1 - cross_4.2), (both_3.2 - cross_4.1)) (1000000000000000000:Int)))))) (fun _ => rfl) (fun cosine_5 => ?_)
  refine rk_asg (g := fun left_6 => [Sl.val ((d2 dIv dIv) first_1), Sl.val ((d2 dIv dIv) second_2), Sl.val (dIv both_3), Sl.val (dIv cross_4), Sl.val (dIv cosine_5), Sl.val (dIv left_6), Sl.un, Sl.un]) (re_call (cal := C_products) (n := dIv) rfl (rx_p (rp_idx (v := (dIv first_1.2)) (rp_var rfl) rp_cst (by exact fun _ h => h)) (rx_p (rp_idx (v := (dIv second_2.1)) (rp_var rfl) rp_cst (by exact fun _ h => h)) (rx_nil (q_products first_1.2 second_2.1))))) (fun _ => rfl) (fun left_6 => ?_)
  refine rk_asg (g := fun right_7 => [Sl.val ((d2 dIv dIv) first_1), Sl.val ((d2 dIv dIv) second_2), Sl.val (dIv both_3), Sl.val (dIv cross_4), Sl.val (dIv cosine_5), Sl.val (dIv left_6), Sl.val (dIv right_7), Sl.un]) (re_call (cal := C_products) (n := dIv) rfl (rx_p (rp_idx (v := (dIv first_1.1)) (rp_var rfl) rp_cst (by exact fun _ h => h)) (rx_p (rp_idx (v := (dIv second_2.2)) (rp_var rfl) rp_cst (by exact fun _ h => h)) (rx_nil (q_products first_1.1 second_2.2))))) (fun _ => rfl) (fun right_7 => ?_)
  refine rk_asg (g := fun sine_8 => [Sl.val ((d2 dIv dIv) first_1), Sl.val ((d2 dIv dIv) second_2), Sl.val (dIv both_3), Sl.val (dIv cross_4), Sl.val (dIv cosine_5), Sl.val (dIv left_6), Sl.val (dIv right_7), Sl.val (dIv sine_8)]) (re_call (cal := C_rounded) (n := dIv) rfl (rx_p (rp_tup (rps_cons (rp_add (rp_idx (v := (D.int left_6.1)) (rp_var rfl) rp_cst (by exact fun _ h => h)) (rp_idx (v := (D.int right_7.1)) (rp_var rfl) rp_cst (by exact fun _ h => h))) (rps_cons (rp_add (rp_idx (v := (D.int left_6.2)) (rp_var rfl) rp_cst (by exact fun _ h => h)) (rp_idx (v := (D.int right_7.2)) (rp_var rfl) rp_cst (by exact fun _ h => h))) rps_nil))) (rx_p (rp_glo rfl) (rx_nil (q_rounded ((left_6.1 + right_7.1), (left_6.2 + right_7.2)) (1000000000000000000:Int)))))) (fun _ => rfl) (fun sine_8 => ?_)
  exact rk_ret trivial (re_tup (n := (d2 dIv dIv)) (rx_e (n := dIv) (re_call (cal := C_limited) (n := dIv) rfl (rx_p (rp_var rfl) (rx_nil (q_limited cosine_5)))) (fun a_9 => (rx_e (n := dIv) (re_call (cal := C_limited) (n := dIv) rfl (rx_p (rp_var rfl) (rx_nil (q_limited sine_8)))) (fun a_10 => (rx_nil ⟨_, rfl, rfl⟩))))))
end
end M
def fs_together : FS := fun ds k x => (∃ (first_1 : (Iv × Iv)) (second_2 : (Iv × Iv)), ds = [(M.d2 dIv dIv) first_1, (M.d2 dIv dIv) second_2] ∧ (M.m_together first_1 second_2).sat (fun v => k ((M.d2 dIv dIv) v)) x)
def C_together : Cal := { nm := "together", ar := 2, dfl := [], fs := fs_together }
theorem w_together : ∀ ds kd kx, ds.length = 2 → fs_together ds kd kx → wpSs NM AT_ P_together G_together i_together (startR 8 ds) { nx := fun _ => kd .non, rt := kd, bk := fun _ => False, ct := fun _ => False, er := fun x _ => kx x } := by
  rintro ds kd kx hl (⟨first_1, second_2, rfl, h⟩)
  · exact M.fin_f (c := c_together) (M.k_together first_1 second_2) h
namespace M
open PySem PySem.Spec L2
noncomputable section
theorem q_together (first_1 : (Iv × Iv)) (second_2 : (Iv × Iv)) : QF C_together (d2 dIv dIv) [(d2 dIv dIv) first_1, (d2 dIv dIv) second_2] (m_together first_1 second_2) := fun k x h => ⟨first_1, second_2, rfl, h⟩
local macro_rules | `(tactic| fail "rs16") => `(tactic| try simp (config := {decide := true, dsimp := false, implicitDefEqProofs := false}) only [mulR_ok, divR_ok, modR_ok, isqrtR_ok, rngR1_0, rngR1_1, rngR1_2, rngR1_3, rngR1_4, rngR1_5, rngR1_6, rngR_16, rngR_13, idxR_0, idxR_1, idxR_2, idxR_3, idxR_4, idxR_5, idxR_m1_1, idxR_m1_2, idxR_m1_3, idxR_last, pushR_ok, catR_ok, forC_nil, forC_cons, mapR_nil, mapR_cons, unO_some, mtO_none, mtO_some, minR_1, minR_2, minR_3, minR_4, maxR_1, maxR_2, maxR_3, maxR_4, andR_okk, orR_okk, andR_dec, orR_dec, andR_ok, orR_ok, iteR_not, iteR_nbl, cnd_t, cnd_f, iteR_ok, iteR_bl, decide_eq_true_eq, Rs.bind_ok, Rs.bind_er, Rs.bind_no, Rs.bind_assoc, noE_ok, List.nil_append, List.cons_append, List.length_cons, List.length_nil, Rs.sat_ok, Rs.sat_er, Rs.sat_no, if_true, if_false, reduceIte, Bool.false_eq_true, decide_true, decide_false, not_true_eq_false, not_false_eq_true, List.map_cons, List.map_nil, List.zip_cons_cons, List.zip_nil_left, List.zip_nil_right, Int.reduceAdd, Int.reduceSub, Int.reduceMul, Int.reduceMod, Int.reduceDiv, Int.reduceEq, Int.reduceNeg, Int.reduceLT, Int.reduceLE, Bool.not_true, Bool.not_false, Option.isSome_some, Option.isSome_none, Bool.and_true, Bool.true_and, Bool.and_false, Bool.false_and, Bool.or_false, Bool.or_true, Bool.false_or, Bool.true_or, reduceCtorEq, ne_eq, true_and, and_true, Int.zero_add, Int.add_zero, Int.sub_zero, m_check_ok, m_law_turned_ok, m_law_station_ok, m_law_is_number_ok, m_law_encloses_ok, m_rounded_ok, m_products_ok, m_limited_ok])
theorem m_together_ok {a b : Iv × Iv} {n m : Nat} [BdI a.1 n] [BdI a.2 n] [BdI b.1 m] [BdI b.2 m] (l : n + m < 130000000) : m_together a b = .ok (tog a b) := by
  unfold m_together
  try simp (config := {decide := true, dsimp := false, implicitDefEqProofs := false}) only [l, mulR_ok, divR_ok, modR_ok, isqrtR_ok, rngR1_0, rngR1_1, rngR1_2, rngR1_3, rngR1_4, rngR1_5, rngR1_6, rngR_16, rngR_13, idxR_0, idxR_1, idxR_2, idxR_3, idxR_4, idxR_5, idxR_m1_1, idxR_m1_2, idxR_m1_3, idxR_last, pushR_ok, catR_ok, forC_nil, forC_cons, mapR_nil, mapR_cons, unO_some, mtO_none, mtO_some, minR_1, minR_2, minR_3, minR_4, maxR_1, maxR_2, maxR_3, maxR_4, andR_okk, orR_okk, andR_dec, orR_dec, andR_ok, orR_ok, iteR_not, iteR_nbl, cnd_t, cnd_f, iteR_ok, iteR_bl, decide_eq_true_eq, Rs.bind_ok, Rs.bind_er, Rs.bind_no, Rs.bind_assoc, noE_ok, List.nil_append, List.cons_append, List.length_cons, List.length_nil, Rs.sat_ok, Rs.sat_er, Rs.sat_no, if_true, if_false, reduceIte, Bool.false_eq_true, decide_true, decide_false, not_true_eq_false, not_false_eq_true, List.map_cons, List.map_nil, List.zip_cons_cons, List.zip_nil_left, List.zip_nil_right, Int.reduceAdd, Int.reduceSub, Int.reduceMul, Int.reduceMod, Int.reduceDiv, Int.reduceEq, Int.reduceNeg, Int.reduceLT, Int.reduceLE, Bool.not_true, Bool.not_false, Option.isSome_some, Option.isSome_none, Bool.and_true, Bool.true_and, Bool.and_false, Bool.false_and, Bool.or_false, Bool.or_true, Bool.false_or, Bool.true_or, reduceCtorEq, ne_eq, true_and, and_true, Int.zero_add, Int.add_zero, Int.sub_zero, m_check_ok, m_law_turned_ok, m_law_station_ok, m_law_is_number_ok, m_law_encloses_ok, m_rounded_ok, m_products_ok, m_limited_ok]
  rfl
end
end M
/-! unit_power -/
def t_unit_power_0 : T := .cmp .gt (.var 1) (.cst (.int 0))
def b_unit_power_0_1 : List S := .asg (.nm 2) (.call 1 [.var 2, .var 2]) :: [.asg (.nm 1) (.bin .fdiv (.var 1) (.cst (.int 2)))]
def b_unit_power_0 : List S := .ite (.cmp .eq (.bin .mod (.var 1) (.cst (.int 2))) (.cst (.int 1))) [.asg (.nm 3) (.call 1 [.var 3, .var 2])] [] :: b_unit_power_0_1
def i_unit_power_3 : List S := .whl t_unit_power_0 b_unit_power_0 :: [.ret (.var 3)]
def i_unit_power_2 : List S := .asg (.nm 3) (.tup [.tup [.glo 0, .glo 0], .tup [.cst (.int 0), .cst (.int 0)]]) :: i_unit_power_3
def i_unit_power_1 : List S := .asg (.nm 2) (.tup [.call 0 [.tup [.bin .mul (.var 4) (.glo 0), .bin .mul (.var 4) (.glo 0)], .var 6], .call 0 [.tup [.bin .mul (.var 5) (.glo 0), .bin .mul (.var 5) (.glo 0)], .var 6]]) :: i_unit_power_2
def i_unit_power : List S := .asg (.tp [.nm 4, .nm 5, .nm 6]) (.var 0) :: i_unit_power_1
abbrev G_unit_power : List (Str × D) := [("SCALE", .int 1000000000000000000)]
abbrev P_unit_power : List Cal := [C_rounded, C_together]
theorem p_unit_power_0 : P_unit_power[0]? = some C_rounded := rfl
theorem p_unit_power_1 : P_unit_power[1]? = some C_together := rfl
theorem g_unit_power_0 : G_unit_power[0]? = some (("SCALE", .int 1000000000000000000) : Str × D) := rfl
abbrev c_unit_power : M.Cx := ⟨NM, AT_, P_unit_power, G_unit_power, True⟩
namespace M
open PySem PySem.Spec L2
noncomputable section
def m_unit_power_J1 (ticks_12 : Int) (power_13 : (Iv × Iv)) (nx_15 : ((Int × (Iv × Iv) × (Iv × Iv)) → Rs (Iv × Iv))) (result_19 : (Iv × Iv)) : Rs (Iv × Iv) :=
  ((m_together power_13 power_13).bind fun power_20 => ((divR ticks_12 (2:Int)).bind fun ticks_21 => (nx_15 (ticks_21, power_20, result_19))))
def m_unit_power_L1 (ticks_12 : Int) (power_13 : (Iv × Iv)) (result_14 : (Iv × Iv)) (nx_15 : ((Int × (Iv × Iv) × (Iv × Iv)) → Rs (Iv × Iv))) (bk_16 : ((Int × (Iv × Iv) × (Iv × Iv)) → Rs (Iv × Iv))) : Rs (Iv × Iv) :=
  (iteR ((modR ticks_12 (2:Int)).bind fun a_17 => (Rs.ok (decide (a_17 = (1:Int))))) ((m_together result_14 power_13).bind fun result_18 => (m_unit_power_J1 ticks_12 power_13 nx_15 result_18)) (m_unit_power_J1 ticks_12 power_13 nx_15 result_14))
def m_unit_power (F : Nat) (turn_1 : Pt) (ticks_2 : Int) : Rs (Iv × Iv) :=
  (((((mulR turn_1.1 (1000000000000000000:Int)).bind fun a_3 => ((mulR turn_1.1 (1000000000000000000:Int)).bind fun a_4 => (Rs.ok (a_3, a_4)))).bind fun a_5 => (m_rounded a_5 turn_1.2.2)).bind fun a_9 => ((((mulR turn_1.2.1 (1000000000000000000:Int)).bind fun a_6 => ((mulR turn_1.2.1 (1000000000000000000:Int)).bind fun a_7 => (Rs.ok (a_6, a_7)))).bind fun a_8 => (m_rounded a_8 turn_1.2.2)).bind fun a_10 => (Rs.ok (a_9, a_10)))).bind fun power_11 => (whlN (fun (s : (Int × (Iv × Iv) × (Iv × Iv))) => (Rs.ok (decide ((0:Int) < s.1)))) (fun s nx bk => m_unit_power_L1 s.1 s.2.1 s.2.2 nx bk) (fun (s : (Int × (Iv × Iv) × (Iv × Iv))) => (Rs.ok s.2.2)) F ((ticks_2, power_11, (((1000000000000000000:Int), (1000000000000000000:Int)), ((0:Int), (0:Int)))) : (Int × (Iv × Iv) × (Iv × Iv)))))
theorem k_unit_power (F : Nat) (turn_1 : Pt) (ticks_2 : Int) : RK c_unit_power (d2 dIv dIv) i_unit_power [Sl.val (dPt turn_1), Sl.val (D.int ticks_2), Sl.un, Sl.un, Sl.un, Sl.un, Sl.un] (m_unit_power F turn_1 ticks_2) (NN (d2 dIv dIv)) F0 F0 := by
  unfold m_unit_power
  refine rk_tgtp (ρ' := [Sl.val (dPt turn_1), Sl.val (D.int ticks_2), Sl.un, Sl.un, Sl.val (D.int turn_1.1), Sl.val (D.int turn_1.2.1), Sl.val (D.int turn_1.2.2)]) (rp_var rfl) rfl ?_
  refine rk_asg (g := fun power_11 => [Sl.val (dPt turn_1), Sl.val (D.int ticks_2), Sl.val ((d2 dIv dIv) power_11), Sl.un, Sl.val (D.int turn_1.1), Sl.val (D.int turn_1.2.1), Sl.val (D.int turn_1.2.2)]) (re_tup (n := (d2 dIv dIv)) (rx_e (n := dIv) (re_call (cal := C_rounded) (n := dIv) rfl (rx_e (n := dIv) (re_tup (n := dIv) (rx_e (n := D.int) (re_bin (rx_p (rp_var rfl) (rx_p (rp_glo rfl) (rx_nil qb_mul)))) (fun a_3 => (rx_e (n := D.int) (re_bin (rx_p (rp_var rfl) (rx_p (rp_glo rfl) (rx_nil qb_mul)))) (fun a_4 => (rx_nil ⟨_, rfl, rfl⟩)))))) (fun a_5 => (rx_p (rp_var rfl) (rx_nil (q_rounded a_5 turn_1.2.2)))))) (fun a_9 => (rx_e (n := dIv) (re_call (cal := C_rounded) (n := dIv) rfl (rx_e (n := dIv) (re_tup (n := dIv) (rx_e (n := D.int) (re_bin (rx_p (rp_var rfl) (rx_p (rp_glo rfl) (rx_nil qb_mul)))) (fun a_6 => (rx_e (n := D.int) (re_bin (rx_p (rp_var rfl) (rx_p (rp_glo rfl) (rx_nil qb_mul)))) (fun a_7 => (rx_nil ⟨_, rfl, rfl⟩)))))) (fun a_8 => (rx_p (rp_var rfl) (rx_nil (q_rounded a_8 turn_1.2.2)))))) (fun a_10 => (rx_nil ⟨_, rfl, rfl⟩)))))) (fun _ => rfl) (fun power_11 => ?_)
  refine rk_asgp (ρ' := [Sl.val (dPt turn_1), Sl.val (D.int ticks_2), Sl.val ((d2 dIv dIv) power_11), Sl.val ((d2 dIv dIv) (((1000000000000000000:Int), (1000000000000000000:Int)), ((0:Int), (0:Int)))), Sl.val (D.int turn_1.1), Sl.val (D.int turn_1.2.1), Sl.val (D.int turn_1.2.2)]) (rp_tup (rps_cons (rp_tup (rps_cons (rp_glo rfl) (rps_cons (rp_glo rfl) rps_nil))) (rps_cons (rp_tup (rps_cons rp_cst (rps_cons rp_cst rps_nil))) rps_nil))) rfl ?_
  refine rk_whl (σ := (Int × (Iv × Iv) × (Iv × Iv))) (J := Unit) (m := F) (fun (s : (Int × (Iv × Iv) × (Iv × Iv))) (j : Unit) => [Sl.val (dPt turn_1), Sl.val (D.int s.1), Sl.val ((d2 dIv dIv) s.2.1), Sl.val ((d2 dIv dIv) s.2.2), Sl.val (D.int turn_1.1), Sl.val (D.int turn_1.2.1), Sl.val (D.int turn_1.2.2)]) (fun (s : (Int × (Iv × Iv) × (Iv × Iv))) => (Rs.ok (decide ((0:Int) < s.1)))) (fun s nx bk => m_unit_power_L1 s.1 s.2.1 s.2.2 nx bk) (k := (fun (s : (Int × (Iv × Iv) × (Iv × Iv))) => (Rs.ok s.2.2))) (s0 := ((ticks_2, power_11, (((1000000000000000000:Int), (1000000000000000000:Int)), ((0:Int), (0:Int)))) : (Int × (Iv × Iv) × (Iv × Iv)))) (j0 := (())) rfl ?_ ?_ ?_
  · rintro ⟨ticks_12, power_13, result_14⟩ _
    show RT _ _ [Sl.val (dPt turn_1), Sl.val (D.int ticks_12), Sl.val ((d2 dIv dIv) power_13), Sl.val ((d2 dIv dIv) result_14), Sl.val (D.int turn_1.1), Sl.val (D.int turn_1.2.1), Sl.val (D.int turn_1.2.2)] (Rs.ok (decide ((0:Int) < ticks_12)))
    exact (rt_u (ru_cmp (rp_var rfl) rp_cst (fun _ h => h)))
  · rintro ⟨ticks_12, power_13, result_14⟩ _ nx_15 bk_16
    show RK _ _ _ [Sl.val (dPt turn_1), Sl.val (D.int ticks_12), Sl.val ((d2 dIv dIv) power_13), Sl.val ((d2 dIv dIv) result_14), Sl.val (D.int turn_1.1), Sl.val (D.int turn_1.2.1), Sl.val (D.int turn_1.2.2)] (m_unit_power_L1 ticks_12 power_13 result_14 nx_15 bk_16) _ _ _
    unfold m_unit_power_L1
    refine rk_jn (σ := (Iv × Iv)) (J := Unit) (fun s j => [Sl.val (dPt turn_1), Sl.val (D.int ticks_12), Sl.val ((d2 dIv dIv) power_13), Sl.val ((d2 dIv dIv) s), Sl.val (D.int turn_1.1), Sl.val (D.int turn_1.2.1), Sl.val (D.int turn_1.2.2)]) (fun s => m_unit_power_J1 ticks_12 power_13 nx_15 s) ?_ (fun m_unit_power_J1_k => ?_)
    · rintro result_19 _
      show RK _ _ _ [Sl.val (dPt turn_1), Sl.val (D.int ticks_12), Sl.val ((d2 dIv dIv) power_13), Sl.val ((d2 dIv dIv) result_19), Sl.val (D.int turn_1.1), Sl.val (D.int turn_1.2.1), Sl.val (D.int turn_1.2.2)] (m_unit_power_J1 ticks_12 power_13 nx_15 result_19) _ _ _
      unfold m_unit_power_J1
      refine rk_asg (g := fun power_20 => [Sl.val (dPt turn_1), Sl.val (D.int ticks_12), Sl.val ((d2 dIv dIv) power_20), Sl.val ((d2 dIv dIv) result_19), Sl.val (D.int turn_1.1), Sl.val (D.int turn_1.2.1), Sl.val (D.int turn_1.2.2)]) (re_call (cal := C_together) (n := (d2 dIv dIv)) rfl (rx_p (rp_var rfl) (rx_p (rp_var rfl) (rx_nil (q_together power_13 power_13))))) (fun _ => rfl) (fun power_20 => ?_)
      refine rk_asg (g := fun ticks_21 => [Sl.val (dPt turn_1), Sl.val (D.int ticks_21), Sl.val ((d2 dIv dIv) power_20), Sl.val ((d2 dIv dIv) result_19), Sl.val (D.int turn_1.1), Sl.val (D.int turn_1.2.1), Sl.val (D.int turn_1.2.2)]) (re_bin (rx_p (rp_var rfl) (rx_p rp_cst (rx_nil qb_fdiv)))) (fun _ => rfl) (fun ticks_21 => ?_)
      exact rk_nil (nx_i (ticks_21, power_20, result_19) (()))
    · refine rk_ite (rt_cmp (rx_e (n := D.int) (re_bin (rx_p (rp_var rfl) (rx_p rp_cst (rx_nil qb_mod)))) (fun a_17 => (rx_p rp_cst (rx_nil (qc (fun _ h => h))))))) ?_ ?_
      · refine rk_asg (g := fun result_18 => [Sl.val (dPt turn_1), Sl.val (D.int ticks_12), Sl.val ((d2 dIv dIv) power_13), Sl.val ((d2 dIv dIv) result_18), Sl.val (D.int turn_1.1), Sl.val (D.int turn_1.2.1), Sl.val (D.int turn_1.2.2)]) (re_call (cal := C_together) (n := (d2 dIv dIv)) rfl (rx_p (rp_var rfl) (rx_p (rp_var rfl) (rx_nil (q_together result_14 power_13))))) (fun _ => rfl) (fun result_18 => ?_)
        exact rk_nil (m_unit_power_J1_k (result_18) (()))
      · exact rk_nil (m_unit_power_J1_k (result_14) (()))
  · rintro ⟨ticks_22, power_23, result_24⟩ _
    show RK _ _ _ [Sl.val (dPt turn_1), Sl.val (D.int ticks_22), Sl.val ((d2 dIv dIv) power_23), Sl.val ((d2 dIv dIv) result_24), Sl.val (D.int turn_1.1), Sl.val (D.int turn_1.2.1), Sl.val (D.int turn_1.2.2)] ((Rs.ok result_24)) _ _ _
    exact rk_retp (a := result_24) trivial (rp_var rfl)
end
end M
def fs_unit_power : FS := fun ds k x => (∃ (F : Nat) (turn_1 : Pt) (ticks_2 : Int), ds = [dPt turn_1, D.int ticks_2] ∧ (M.m_unit_power F turn_1 ticks_2).sat (fun v => k ((M.d2 dIv dIv) v)) x)
def C_unit_power : Cal := { nm := "unit_power", ar := 2, dfl := [], fs := fs_unit_power }
theorem w_unit_power : ∀ ds kd kx, ds.length = 2 → fs_unit_power ds kd kx → wpSs NM AT_ P_unit_power G_unit_power i_unit_power (startR 7 ds) { nx := fun _ => kd .non, rt := kd, bk := fun _ => False, ct := fun _ => False, er := fun x _ => kx x } := by
  rintro ds kd kx hl (⟨F, turn_1, ticks_2, rfl, h⟩)
  · exact M.fin_f (c := c_unit_power) (M.k_unit_power F turn_1 ticks_2) h
namespace M
open PySem PySem.Spec L2
noncomputable section
theorem q_unit_power (F : Nat) (turn_1 : Pt) (ticks_2 : Int) : QF C_unit_power (d2 dIv dIv) [dPt turn_1, D.int ticks_2] (m_unit_power F turn_1 ticks_2) := fun k x h => ⟨F, turn_1, ticks_2, rfl, h⟩
local macro_rules | `(tactic| fail "rs17") => `(tactic| try simp (config := {decide := true, dsimp := false, implicitDefEqProofs := false}) only [mulR_ok, divR_ok, modR_ok, isqrtR_ok, rngR1_0, rngR1_1, rngR1_2, rngR1_3, rngR1_4, rngR1_5, rngR1_6, rngR_16, rngR_13, idxR_0, idxR_1, idxR_2, idxR_3, idxR_4, idxR_5, idxR_m1_1, idxR_m1_2, idxR_m1_3, idxR_last, pushR_ok, catR_ok, forC_nil, forC_cons, mapR_nil, mapR_cons, unO_some, mtO_none, mtO_some, minR_1, minR_2, minR_3, minR_4, maxR_1, maxR_2, maxR_3, maxR_4, andR_okk, orR_okk, andR_dec, orR_dec, andR_ok, orR_ok, iteR_not, iteR_nbl, cnd_t, cnd_f, iteR_ok, iteR_bl, decide_eq_true_eq, Rs.bind_ok, Rs.bind_er, Rs.bind_no, Rs.bind_assoc, noE_ok, List.nil_append, List.cons_append, List.length_cons, List.length_nil, Rs.sat_ok, Rs.sat_er, Rs.sat_no, if_true, if_false, reduceIte, Bool.false_eq_true, decide_true, decide_false, not_true_eq_false, not_false_eq_true, List.map_cons, List.map_nil, List.zip_cons_cons, List.zip_nil_left, List.zip_nil_right, Int.reduceAdd, Int.reduceSub, Int.reduceMul, Int.reduceMod, Int.reduceDiv, Int.reduceEq, Int.reduceNeg, Int.reduceLT, Int.reduceLE, Bool.not_true, Bool.not_false, Option.isSome_some, Option.isSome_none, Bool.and_true, Bool.true_and, Bool.and_false, Bool.false_and, Bool.or_false, Bool.or_true, Bool.false_or, Bool.true_or, reduceCtorEq, ne_eq, true_and, and_true, Int.zero_add, Int.add_zero, Int.sub_zero, m_check_ok, m_law_turned_ok, m_law_station_ok, m_law_is_number_ok, m_law_encloses_ok, m_rounded_ok, m_products_ok, m_limited_ok, m_together_ok])
theorem unit_go {w : Pt} (h : circ w) : ∀ (n F : Nat) (t : Int) (p r : Iv × Iv) (P R : Nat), 0 ≤ t → t < 2 ^ n → n < F → Enc2 p (tN w P) → Enc2 r (tN w R) → whlN0 (fun (s : (Int × (Iv × Iv) × (Iv × Iv))) => (Rs.ok (decide (0 < s.1)))) (fun s nx bk => m_unit_power_L1 s.1 s.2.1 s.2.2 nx bk) (fun (s : (Int × (Iv × Iv) × (Iv × Iv))) => (Rs.ok s.2.2)) F (t, p, r) = .ok (uGo n t p r) := by
  intro n
  induction n with
  | zero =>
    intro F t p r P R t0 t1 hF hp hr
    obtain ⟨G, rfl⟩ : ∃ G, F = G + 1 := ⟨F - 1, by omega⟩
    have : t = 0 := by omega
    subst this
    rfl
  | succ n ih =>
    intro F t p r P R t0 t1 hF hp hr
    obtain ⟨G, rfl⟩ : ∃ G, F = G + 1 := ⟨F - 1, by omega⟩
    have cP := (circ_tN h P)
    have cR := (circ_tN h R)
    have b1 := hp.1.bd cP.2
    have b2 := hp.2.bd cP.2
    have b3 := hr.1.bd cR.2
    have b4 := hr.2.bd cR.2
    rw [whlN0, Rs.bind_ok]
    dsimp only
    unfold uGo
    by_cases z : 0 < t
    · rw [if_pos (decide_eq_true z), if_pos z]
      have t2 : t / 2 < 2 ^ n := by rw [Int.pow_succ] at t1; omega
      have p2 : Enc2 (tog p p) (tN w (P + P)) := by rw [tN_add]; exact tog_enc cP cP hp hp
      unfold m_unit_power_L1
      rw [modR_ok (by decide), Rs.bind_ok, iteR_ok]
      by_cases y : t % 2 = 1
      · rw [if_pos y, cnd_pos y, m_together_ok (by decide), Rs.bind_ok]
        unfold m_unit_power_J1
        rw [m_together_ok (by decide), Rs.bind_ok, divR_ok (by decide) (by decide), Rs.bind_ok]
        exact ih G (t / 2) _ _ (P + P) (R + P) (by omega) t2 (by omega) p2 (by rw [tN_add]; exact tog_enc cR cP hr hp)
      · rw [if_neg y, cnd_neg y]
        unfold m_unit_power_J1
        rw [m_together_ok (by decide), Rs.bind_ok, divR_ok (by decide) (by decide), Rs.bind_ok]
        exact ih G (t / 2) _ _ (P + P) R (by omega) t2 (by omega) p2 hr
    · rw [if_neg (fun q => z (of_decide_eq_true q)), if_neg z]
theorem m_unit_power_ok {F : Nat} {w : Pt} (h : circ w) (hw : w.2.2 ≤ 10 ^ 6) {t : Int} (t0 : 0 ≤ t) (t1 : t < 2 ^ 20) (hF : 21 ≤ F) : m_unit_power F w t = .ok (uPow w t) := by
  obtain ⟨⟨c1, c2⟩, c3, c4⟩ := circ_bd h
  have d := h.2
  have i1 : Bd w.1 20 := bdOf (B := 10 ^ 6) 20 (by omega) (by omega)
  have i2 : Bd w.2.1 20 := bdOf (B := 10 ^ 6) 20 (by omega) (by omega)
  have i3 : Bd w.2.2 20 := bdOf (B := 10 ^ 6) 20 (by omega) (by omega)
  have d0 : 0 < w.2.2 := by omega
  have q1 := m_rounded_ok (a := (w.1 * 1000000000000000000, w.1 * 1000000000000000000)) d0 (by decide)
  have q2 := m_rounded_ok (a := (w.2.1 * 1000000000000000000, w.2.1 * 1000000000000000000)) d0 (by decide)
  unfold m_unit_power
  try simp (config := {decide := true, dsimp := false, implicitDefEqProofs := false}) only [q1, q2, mulR_ok, divR_ok, modR_ok, isqrtR_ok, rngR1_0, rngR1_1, rngR1_2, rngR1_3, rngR1_4, rngR1_5, rngR1_6, rngR_16, rngR_13, idxR_0, idxR_1, idxR_2, idxR_3, idxR_4, idxR_5, idxR_m1_1, idxR_m1_2, idxR_m1_3, idxR_last, pushR_ok, catR_ok, forC_nil, forC_cons, mapR_nil, mapR_cons, unO_some, mtO_none, mtO_some, minR_1, minR_2, minR_3, minR_4, maxR_1, maxR_2, maxR_3, maxR_4, andR_okk, orR_okk, andR_dec, orR_dec, andR_ok, orR_ok, iteR_not, iteR_nbl, cnd_t, cnd_f, iteR_ok, iteR_bl, decide_eq_true_eq, Rs.bind_ok, Rs.bind_er, Rs.bind_no, Rs.bind_assoc, noE_ok, List.nil_append, List.cons_append, List.length_cons, List.length_nil, Rs.sat_ok, Rs.sat_er, Rs.sat_no, if_true, if_false, reduceIte, Bool.false_eq_true, decide_true, decide_false, not_true_eq_false, not_false_eq_true, List.map_cons, List.map_nil, List.zip_cons_cons, List.zip_nil_left, List.zip_nil_right, Int.reduceAdd, Int.reduceSub, Int.reduceMul, Int.reduceMod, Int.reduceDiv, Int.reduceEq, Int.reduceNeg, Int.reduceLT, Int.reduceLE, Bool.not_true, Bool.not_false, Option.isSome_some, Option.isSome_none, Bool.and_true, Bool.true_and, Bool.and_false, Bool.false_and, Bool.or_false, Bool.or_true, Bool.false_or, Bool.true_or, reduceCtorEq, ne_eq, true_and, and_true, Int.zero_add, Int.add_zero, Int.sub_zero, m_check_ok, m_law_turned_ok, m_law_station_ok, m_law_is_number_ok, m_law_encloses_ok, m_rounded_ok, m_products_ok, m_limited_ok, m_together_ok]
  unfold whlN
  exact unit_go h 20 F t _ _ 1 0 t0 t1 (by omega) (by rw [tN_one]; exact uOne_enc h) enc0
end
end M
/-! plus -/
def i_plus : List S := [.ret (.tup [.bin .add (.idx (.var 0) (.cst (.int 0))) (.idx (.var 1) (.cst (.int 0))), .bin .add (.idx (.var 0) (.cst (.int 1))) (.idx (.var 1) (.cst (.int 1)))])]
abbrev G_plus : List (Str × D) := []
abbrev P_plus : List Cal := []
abbrev c_plus : M.Cx := ⟨NM, AT_, P_plus, G_plus, True⟩
namespace M
open PySem PySem.Spec L2
noncomputable section
def m_plus (first_1 : Iv) (second_2 : Iv) : Rs Iv :=
  (Rs.ok ((first_1.1 + second_2.1), (first_1.2 + second_2.2)))
theorem k_plus (first_1 : Iv) (second_2 : Iv) : RK c_plus dIv i_plus [Sl.val (dIv first_1), Sl.val (dIv second_2)] (m_plus first_1 second_2) (NN dIv) F0 F0 := by
  unfold m_plus
  exact rk_retp (a := ((first_1.1 + second_2.1), (first_1.2 + second_2.2))) trivial (rp_tup (rps_cons (rp_add (rp_idx (v := (D.int first_1.1)) (rp_var rfl) rp_cst (by exact fun _ h => h)) (rp_idx (v := (D.int second_2.1)) (rp_var rfl) rp_cst (by exact fun _ h => h))) (rps_cons (rp_add (rp_idx (v := (D.int first_1.2)) (rp_var rfl) rp_cst (by exact fun _ h => h)) (rp_idx (v := (D.int second_2.2)) (rp_var rfl) rp_cst (by exact fun _ h => h))) rps_nil)))
end
end M
def fs_plus : FS := fun ds k x => (∃ (first_1 : Iv) (second_2 : Iv), ds = [dIv first_1, dIv second_2] ∧ (M.m_plus first_1 second_2).sat (fun v => k (dIv v)) x)
def C_plus : Cal := { nm := "plus", ar := 2, dfl := [], fs := fs_plus }
theorem w_plus : ∀ ds kd kx, ds.length = 2 → fs_plus ds kd kx → wpSs NM AT_ P_plus G_plus i_plus (startR 2 ds) { nx := fun _ => kd .non, rt := kd, bk := fun _ => False, ct := fun _ => False, er := fun x _ => kx x } := by
  rintro ds kd kx hl (⟨first_1, second_2, rfl, h⟩)
  · exact M.fin_f (c := c_plus) (M.k_plus first_1 second_2) h
namespace M
open PySem PySem.Spec L2
noncomputable section
theorem q_plus (first_1 : Iv) (second_2 : Iv) : QF C_plus dIv [dIv first_1, dIv second_2] (m_plus first_1 second_2) := fun k x h => ⟨first_1, second_2, rfl, h⟩
local macro_rules | `(tactic| fail "rs18") => `(tactic| try simp (config := {decide := true, dsimp := false, implicitDefEqProofs := false}) only [mulR_ok, divR_ok, modR_ok, isqrtR_ok, rngR1_0, rngR1_1, rngR1_2, rngR1_3, rngR1_4, rngR1_5, rngR1_6, rngR_16, rngR_13, idxR_0, idxR_1, idxR_2, idxR_3, idxR_4, idxR_5, idxR_m1_1, idxR_m1_2, idxR_m1_3, idxR_last, pushR_ok, catR_ok, forC_nil, forC_cons, mapR_nil, mapR_cons, unO_some, mtO_none, mtO_some, minR_1, minR_2, minR_3, minR_4, maxR_1, maxR_2, maxR_3, maxR_4, andR_okk, orR_okk, andR_dec, orR_dec, andR_ok, orR_ok, iteR_not, iteR_nbl, cnd_t, cnd_f, iteR_ok, iteR_bl, decide_eq_true_eq, Rs.bind_ok, Rs.bind_er, Rs.bind_no, Rs.bind_assoc, noE_ok, List.nil_append, List.cons_append, List.length_cons, List.length_nil, Rs.sat_ok, Rs.sat_er, Rs.sat_no, if_true, if_false, reduceIte, Bool.false_eq_true, decide_true, decide_false, not_true_eq_false, not_false_eq_true, List.map_cons, List.map_nil, List.zip_cons_cons, List.zip_nil_left, List.zip_nil_right, Int.reduceAdd, Int.reduceSub, Int.reduceMul, Int.reduceMod, Int.reduceDiv, Int.reduceEq, Int.reduceNeg, Int.reduceLT, Int.reduceLE, Bool.not_true, Bool.not_false, Option.isSome_some, Option.isSome_none, Bool.and_true, Bool.true_and, Bool.and_false, Bool.false_and, Bool.or_false, Bool.or_true, Bool.false_or, Bool.true_or, reduceCtorEq, ne_eq, true_and, and_true, Int.zero_add, Int.add_zero, Int.sub_zero, m_check_ok, m_law_turned_ok, m_law_station_ok, m_law_is_number_ok, m_law_encloses_ok, m_rounded_ok, m_products_ok, m_limited_ok, m_together_ok, m_unit_power_ok])
theorem m_plus_ok {a b : Iv} : m_plus a b = .ok (iAdd a b) := rfl
end
end M
/-! times -/
def i_times : List S := .ite (.cmp .ge (.var 0) (.cst (.int 0))) [.ret (.tup [.bin .mul (.var 0) (.idx (.var 1) (.cst (.int 0))), .bin .mul (.var 0) (.idx (.var 1) (.cst (.int 1)))])] [] :: [.ret (.tup [.bin .mul (.var 0) (.idx (.var 1) (.cst (.int 1))), .bin .mul (.var 0) (.idx (.var 1) (.cst (.int 0)))])]
abbrev G_times : List (Str × D) := []
abbrev P_times : List Cal := []
abbrev c_times : M.Cx := ⟨NM, AT_, P_times, G_times, True⟩
namespace M
open PySem PySem.Spec L2
noncomputable section
def m_times (number_1 : Int) (interval_2 : Iv) : Rs Iv :=
  (cnd ((0:Int) ≤ number_1) ((mulR number_1 interval_2.1).bind fun a_3 => ((mulR number_1 interval_2.2).bind fun a_4 => (Rs.ok (a_3, a_4)))) ((mulR number_1 interval_2.2).bind fun a_5 => ((mulR number_1 interval_2.1).bind fun a_6 => (Rs.ok (a_5, a_6)))))
theorem k_times (number_1 : Int) (interval_2 : Iv) : RK c_times dIv i_times [Sl.val (D.int number_1), Sl.val (dIv interval_2)] (m_times number_1 interval_2) (NN dIv) F0 F0 := by
  unfold m_times
  refine rk_ifu (ru_cmp (rp_var rfl) rp_cst (fun _ h => h)) (fun _ => ?_) (fun _ => ?_)
  · exact rk_ret trivial (re_tup (n := dIv) (rx_e (n := D.int) (re_bin (rx_p (rp_var rfl) (rx_p (rp_idx (v := (D.int interval_2.1)) (rp_var rfl) rp_cst (by exact fun _ h => h)) (rx_nil qb_mul)))) (fun a_3 => (rx_e (n := D.int) (re_bin (rx_p (rp_var rfl) (rx_p (rp_idx (v := (D.int interval_2.2)) (rp_var rfl) rp_cst (by exact fun _ h => h)) (rx_nil qb_mul)))) (fun a_4 => (rx_nil ⟨_, rfl, rfl⟩))))))
  · refine rk_nil ?_
    exact rk_ret trivial (re_tup (n := dIv) (rx_e (n := D.int) (re_bin (rx_p (rp_var rfl) (rx_p (rp_idx (v := (D.int interval_2.2)) (rp_var rfl) rp_cst (by exact fun _ h => h)) (rx_nil qb_mul)))) (fun a_5 => (rx_e (n := D.int) (re_bin (rx_p (rp_var rfl) (rx_p (rp_idx (v := (D.int interval_2.1)) (rp_var rfl) rp_cst (by exact fun _ h => h)) (rx_nil qb_mul)))) (fun a_6 => (rx_nil ⟨_, rfl, rfl⟩))))))
end
end M
def fs_times : FS := fun ds k x => (∃ (number_1 : Int) (interval_2 : Iv), ds = [D.int number_1, dIv interval_2] ∧ (M.m_times number_1 interval_2).sat (fun v => k (dIv v)) x)
def C_times : Cal := { nm := "times", ar := 2, dfl := [], fs := fs_times }
theorem w_times : ∀ ds kd kx, ds.length = 2 → fs_times ds kd kx → wpSs NM AT_ P_times G_times i_times (startR 2 ds) { nx := fun _ => kd .non, rt := kd, bk := fun _ => False, ct := fun _ => False, er := fun x _ => kx x } := by
  rintro ds kd kx hl (⟨number_1, interval_2, rfl, h⟩)
  · exact M.fin_f (c := c_times) (M.k_times number_1 interval_2) h
namespace M
open PySem PySem.Spec L2
noncomputable section
theorem q_times (number_1 : Int) (interval_2 : Iv) : QF C_times dIv [D.int number_1, dIv interval_2] (m_times number_1 interval_2) := fun k x h => ⟨number_1, interval_2, rfl, h⟩
local macro_rules | `(tactic| fail "rs19") => `(tactic| try simp (config := {decide := true, dsimp := false, implicitDefEqProofs := false}) only [mulR_ok, divR_ok, modR_ok, isqrtR_ok, rngR1_0, rngR1_1, rngR1_2, rngR1_3, rngR1_4, rngR1_5, rngR1_6, rngR_16, rngR_13, idxR_0, idxR_1, idxR_2, idxR_3, idxR_4, idxR_5, idxR_m1_1, idxR_m1_2, idxR_m1_3, idxR_last, pushR_ok, catR_ok, forC_nil, forC_cons, mapR_nil, mapR_cons, unO_some, mtO_none, mtO_some, minR_1, minR_2, minR_3, minR_4, maxR_1, maxR_2, maxR_3, maxR_4, andR_okk, orR_okk, andR_dec, orR_dec, andR_ok, orR_ok, iteR_not, iteR_nbl, cnd_t, cnd_f, iteR_ok, iteR_bl, decide_eq_true_eq, Rs.bind_ok, Rs.bind_er, Rs.bind_no, Rs.bind_assoc, noE_ok, List.nil_append, List.cons_append, List.length_cons, List.length_nil, Rs.sat_ok, Rs.sat_er, Rs.sat_no, if_true, if_false, reduceIte, Bool.false_eq_true, decide_true, decide_false, not_true_eq_false, not_false_eq_true, List.map_cons, List.map_nil, List.zip_cons_cons, List.zip_nil_left, List.zip_nil_right, Int.reduceAdd, Int.reduceSub, Int.reduceMul, Int.reduceMod, Int.reduceDiv, Int.reduceEq, Int.reduceNeg, Int.reduceLT, Int.reduceLE, Bool.not_true, Bool.not_false, Option.isSome_some, Option.isSome_none, Bool.and_true, Bool.true_and, Bool.and_false, Bool.false_and, Bool.or_false, Bool.or_true, Bool.false_or, Bool.true_or, reduceCtorEq, ne_eq, true_and, and_true, Int.zero_add, Int.add_zero, Int.sub_zero, m_check_ok, m_law_turned_ok, m_law_station_ok, m_law_is_number_ok, m_law_encloses_ok, m_rounded_ok, m_products_ok, m_limited_ok, m_together_ok, m_unit_power_ok, m_plus_ok])
theorem m_times_ok {a : Iv} {x : Int} {n m : Nat} [BdI a n] [Bd x m] (l : m + n < 130000000) : m_times x a = .ok (iScale a x) := by
  unfold m_times iScale
  by_cases z : 0 ≤ x
  · rw [cnd_pos z, if_neg (by omega)]
    try simp (config := {decide := true, dsimp := false, implicitDefEqProofs := false}) only [l, mulR_ok, divR_ok, modR_ok, isqrtR_ok, rngR1_0, rngR1_1, rngR1_2, rngR1_3, rngR1_4, rngR1_5, rngR1_6, rngR_16, rngR_13, idxR_0, idxR_1, idxR_2, idxR_3, idxR_4, idxR_5, idxR_m1_1, idxR_m1_2, idxR_m1_3, idxR_last, pushR_ok, catR_ok, forC_nil, forC_cons, mapR_nil, mapR_cons, unO_some, mtO_none, mtO_some, minR_1, minR_2, minR_3, minR_4, maxR_1, maxR_2, maxR_3, maxR_4, andR_okk, orR_okk, andR_dec, orR_dec, andR_ok, orR_ok, iteR_not, iteR_nbl, cnd_t, cnd_f, iteR_ok, iteR_bl, decide_eq_true_eq, Rs.bind_ok, Rs.bind_er, Rs.bind_no, Rs.bind_assoc, noE_ok, List.nil_append, List.cons_append, List.length_cons, List.length_nil, Rs.sat_ok, Rs.sat_er, Rs.sat_no, if_true, if_false, reduceIte, Bool.false_eq_true, decide_true, decide_false, not_true_eq_false, not_false_eq_true, List.map_cons, List.map_nil, List.zip_cons_cons, List.zip_nil_left, List.zip_nil_right, Int.reduceAdd, Int.reduceSub, Int.reduceMul, Int.reduceMod, Int.reduceDiv, Int.reduceEq, Int.reduceNeg, Int.reduceLT, Int.reduceLE, Bool.not_true, Bool.not_false, Option.isSome_some, Option.isSome_none, Bool.and_true, Bool.true_and, Bool.and_false, Bool.false_and, Bool.or_false, Bool.or_true, Bool.false_or, Bool.true_or, reduceCtorEq, ne_eq, true_and, and_true, Int.zero_add, Int.add_zero, Int.sub_zero, m_check_ok, m_law_turned_ok, m_law_station_ok, m_law_is_number_ok, m_law_encloses_ok, m_rounded_ok, m_products_ok, m_limited_ok, m_together_ok, m_unit_power_ok, m_plus_ok]
    rw [Int.mul_comm x, Int.mul_comm x]
  · rw [cnd_neg z, if_pos (by omega)]
    try simp (config := {decide := true, dsimp := false, implicitDefEqProofs := false}) only [l, mulR_ok, divR_ok, modR_ok, isqrtR_ok, rngR1_0, rngR1_1, rngR1_2, rngR1_3, rngR1_4, rngR1_5, rngR1_6, rngR_16, rngR_13, idxR_0, idxR_1, idxR_2, idxR_3, idxR_4, idxR_5, idxR_m1_1, idxR_m1_2, idxR_m1_3, idxR_last, pushR_ok, catR_ok, forC_nil, forC_cons, mapR_nil, mapR_cons, unO_some, mtO_none, mtO_some, minR_1, minR_2, minR_3, minR_4, maxR_1, maxR_2, maxR_3, maxR_4, andR_okk, orR_okk, andR_dec, orR_dec, andR_ok, orR_ok, iteR_not, iteR_nbl, cnd_t, cnd_f, iteR_ok, iteR_bl, decide_eq_true_eq, Rs.bind_ok, Rs.bind_er, Rs.bind_no, Rs.bind_assoc, noE_ok, List.nil_append, List.cons_append, List.length_cons, List.length_nil, Rs.sat_ok, Rs.sat_er, Rs.sat_no, if_true, if_false, reduceIte, Bool.false_eq_true, decide_true, decide_false, not_true_eq_false, not_false_eq_true, List.map_cons, List.map_nil, List.zip_cons_cons, List.zip_nil_left, List.zip_nil_right, Int.reduceAdd, Int.reduceSub, Int.reduceMul, Int.reduceMod, Int.reduceDiv, Int.reduceEq, Int.reduceNeg, Int.reduceLT, Int.reduceLE, Bool.not_true, Bool.not_false, Option.isSome_some, Option.isSome_none, Bool.and_true, Bool.true_and, Bool.and_false, Bool.false_and, Bool.or_false, Bool.or_true, Bool.false_or, Bool.true_or, reduceCtorEq, ne_eq, true_and, and_true, Int.zero_add, Int.add_zero, Int.sub_zero, m_check_ok, m_law_turned_ok, m_law_station_ok, m_law_is_number_ok, m_law_encloses_ok, m_rounded_ok, m_products_ok, m_limited_ok, m_together_ok, m_unit_power_ok, m_plus_ok]
    rw [Int.mul_comm x, Int.mul_comm x]
end
end M
/-! site_at -/
def i_site_at_3 : List S := .asg (.nm 4) (.call 1 [.call 2 [.var 5, .var 9], .call 2 [.var 6, .var 8]]) :: [.ret (.tup [.call 3 [.var 3, .glo 0], .call 3 [.var 4, .glo 0], .tup [.var 7, .var 7]])]
def i_site_at_2 : List S := .asg (.nm 3) (.call 1 [.call 2 [.var 5, .var 8], .call 2 [.neg (.var 6), .var 9]]) :: i_site_at_3
def i_site_at_1 : List S := .asg (.tp [.nm 8, .nm 9]) (.call 0 [.atr (.var 0) 60, .var 2]) :: i_site_at_2
def i_site_at : List S := .asg (.tp [.nm 5, .nm 6, .nm 7]) (.atr (.var 1) 44) :: i_site_at_1
abbrev G_site_at : List (Str × D) := [("SCALE", .int 1000000000000000000)]
abbrev P_site_at : List Cal := [C_unit_power, C_plus, C_times, C_rounded]
theorem p_site_at_0 : P_site_at[0]? = some C_unit_power := rfl
theorem p_site_at_1 : P_site_at[1]? = some C_plus := rfl
theorem p_site_at_2 : P_site_at[2]? = some C_times := rfl
theorem p_site_at_3 : P_site_at[3]? = some C_rounded := rfl
theorem g_site_at_0 : G_site_at[0]? = some (("SCALE", .int 1000000000000000000) : Str × D) := rfl
abbrev c_site_at : M.Cx := ⟨NM, AT_, P_site_at, G_site_at, True⟩
namespace M
open PySem PySem.Spec L2
noncomputable section
def m_site_at (F : Nat) (body_1 : Body) (site_2 : Site) (tick_3 : Int) : Rs Box :=
  ((m_unit_power F body_1.turn tick_3).bind fun p_4 => (((m_times site_2.place.1 p_4.1).bind fun a_5 => ((m_times (-site_2.place.2.1) p_4.2).bind fun a_6 => (m_plus a_5 a_6))).bind fun across_7 => (((m_times site_2.place.1 p_4.2).bind fun a_8 => ((m_times site_2.place.2.1 p_4.1).bind fun a_9 => (m_plus a_8 a_9))).bind fun along_10 => ((m_rounded across_7 (1000000000000000000:Int)).bind fun a_11 => ((m_rounded along_10 (1000000000000000000:Int)).bind fun a_12 => (Rs.ok (a_11, a_12, (site_2.place.2.2, site_2.place.2.2))))))))
theorem k_site_at (F : Nat) (body_1 : Body) (site_2 : Site) (tick_3 : Int) : RK c_site_at dBox i_site_at [Sl.val (dBody body_1), Sl.val (dSite site_2), Sl.val (D.int tick_3), Sl.un, Sl.un, Sl.un, Sl.un, Sl.un, Sl.un, Sl.un] (m_site_at F body_1 site_2 tick_3) (NN dBox) F0 F0 := by
  unfold m_site_at
  refine rk_tgtp (ρ' := [Sl.val (dBody body_1), Sl.val (dSite site_2), Sl.val (D.int tick_3), Sl.un, Sl.un, Sl.val (D.int site_2.place.1), Sl.val (D.int site_2.place.2.1), Sl.val (D.int site_2.place.2.2), Sl.un, Sl.un]) (rp_atr (rp_var rfl) (fun _ h => ⟨rfl, h⟩)) rfl ?_
  refine rk_tgt (g := fun p_4 => [Sl.val (dBody body_1), Sl.val (dSite site_2), Sl.val (D.int tick_3), Sl.un, Sl.un, Sl.val (D.int site_2.place.1), Sl.val (D.int site_2.place.2.1), Sl.val (D.int site_2.place.2.2), Sl.val (dIv p_4.1), Sl.val (dIv p_4.2)]) (re_call (cal := C_unit_power) (n := (d2 dIv dIv)) rfl (rx_p (rp_atr (rp_var rfl) (fun _ h => ⟨rfl, h⟩)) (rx_p (rp_var rfl) (rx_nil (q_unit_power F body_1.turn tick_3))))) (fun _ => rfl) (fun p_4 => ?_)
  refine rk_asg (g := fun across_7 => [Sl.val (dBody body_1), Sl.val (dSite site_2), Sl.val (D.int tick_3), Sl.val (dIv across_7), Sl.un, Sl.val (D.int site_2.place.1), Sl.val (D.int site_2.place.2.1), Sl.val (D.int site_2.place.2.2), Sl.val (dIv p_4.1), Sl.val (dIv p_4.2)]) (re_call (cal := C_plus) (n := dIv) rfl (rx_e (n := dIv) (re_call (cal := C_times) (n := dIv) rfl (rx_p (rp_var rfl) (rx_p (rp_var rfl) (rx_nil (q_times site_2.place.1 p_4.1))))) (fun a_5 => (rx_e (n := dIv) (re_call (cal := C_times) (n := dIv) rfl (rx_p (rp_neg (rp_var rfl)) (rx_p (rp_var rfl) (rx_nil (q_times (-site_2.place.2.1) p_4.2))))) (fun a_6 => (rx_nil (q_plus a_5 a_6))))))) (fun _ => rfl) (fun across_7 => ?_)
  refine rk_asg (g := fun along_10 => [Sl.val (dBody body_1), Sl.val (dSite site_2), Sl.val (D.int tick_3), Sl.val (dIv across_7), Sl.val (dIv along_10), Sl.val (D.int site_2.place.1), Sl.val (D.int site_2.place.2.1), Sl.val (D.int site_2.place.2.2), Sl.val (dIv p_4.1), Sl.val (dIv p_4.2)]) (re_call (cal := C_plus) (n := dIv) rfl (rx_e (n := dIv) (re_call (cal := C_times) (n := dIv) rfl (rx_p (rp_var rfl) (rx_p (rp_var rfl) (rx_nil (q_times site_2.place.1 p_4.2))))) (fun a_8 => (rx_e (n := dIv) (re_call (cal := C_times) (n := dIv) rfl (rx_p (rp_var rfl) (rx_p (rp_var rfl) (rx_nil (q_times site_2.place.2.1 p_4.1))))) (fun a_9 => (rx_nil (q_plus a_8 a_9))))))) (fun _ => rfl) (fun along_10 => ?_)
  exact rk_ret trivial (re_tup (n := dBox) (rx_e (n := dIv) (re_call (cal := C_rounded) (n := dIv) rfl (rx_p (rp_var rfl) (rx_p (rp_glo rfl) (rx_nil (q_rounded across_7 (1000000000000000000:Int)))))) (fun a_11 => (rx_e (n := dIv) (re_call (cal := C_rounded) (n := dIv) rfl (rx_p (rp_var rfl) (rx_p (rp_glo rfl) (rx_nil (q_rounded along_10 (1000000000000000000:Int)))))) (fun a_12 => (rx_p (rp_tup (rps_cons (rp_var rfl) (rps_cons (rp_var rfl) rps_nil))) (rx_nil ⟨_, rfl, rfl⟩)))))))
end
end M
def fs_site_at : FS := fun ds k x => (∃ (F : Nat) (body_1 : Body) (site_2 : Site) (tick_3 : Int), ds = [dBody body_1, dSite site_2, D.int tick_3] ∧ (M.m_site_at F body_1 site_2 tick_3).sat (fun v => k (dBox v)) x)
def C_site_at : Cal := { nm := "site_at", ar := 3, dfl := [], fs := fs_site_at }
theorem w_site_at : ∀ ds kd kx, ds.length = 3 → fs_site_at ds kd kx → wpSs NM AT_ P_site_at G_site_at i_site_at (startR 10 ds) { nx := fun _ => kd .non, rt := kd, bk := fun _ => False, ct := fun _ => False, er := fun x _ => kx x } := by
  rintro ds kd kx hl (⟨F, body_1, site_2, tick_3, rfl, h⟩)
  · exact M.fin_f (c := c_site_at) (M.k_site_at F body_1 site_2 tick_3) h
namespace M
open PySem PySem.Spec L2
noncomputable section
theorem q_site_at (F : Nat) (body_1 : Body) (site_2 : Site) (tick_3 : Int) : QF C_site_at dBox [dBody body_1, dSite site_2, D.int tick_3] (m_site_at F body_1 site_2 tick_3) := fun k x h => ⟨F, body_1, site_2, tick_3, rfl, h⟩
local macro_rules | `(tactic| fail "rs20") => `(tactic| try simp (config := {decide := true, dsimp := false, implicitDefEqProofs := false}) only [mulR_ok, divR_ok, modR_ok, isqrtR_ok, rngR1_0, rngR1_1, rngR1_2, rngR1_3, rngR1_4, rngR1_5, rngR1_6, rngR_16, rngR_13, idxR_0, idxR_1, idxR_2, idxR_3, idxR_4, idxR_5, idxR_m1_1, idxR_m1_2, idxR_m1_3, idxR_last, pushR_ok, catR_ok, forC_nil, forC_cons, mapR_nil, mapR_cons, unO_some, mtO_none, mtO_some, minR_1, minR_2, minR_3, minR_4, maxR_1, maxR_2, maxR_3, maxR_4, andR_okk, orR_okk, andR_dec, orR_dec, andR_ok, orR_ok, iteR_not, iteR_nbl, cnd_t, cnd_f, iteR_ok, iteR_bl, decide_eq_true_eq, Rs.bind_ok, Rs.bind_er, Rs.bind_no, Rs.bind_assoc, noE_ok, List.nil_append, List.cons_append, List.length_cons, List.length_nil, Rs.sat_ok, Rs.sat_er, Rs.sat_no, if_true, if_false, reduceIte, Bool.false_eq_true, decide_true, decide_false, not_true_eq_false, not_false_eq_true, List.map_cons, List.map_nil, List.zip_cons_cons, List.zip_nil_left, List.zip_nil_right, Int.reduceAdd, Int.reduceSub, Int.reduceMul, Int.reduceMod, Int.reduceDiv, Int.reduceEq, Int.reduceNeg, Int.reduceLT, Int.reduceLE, Bool.not_true, Bool.not_false, Option.isSome_some, Option.isSome_none, Bool.and_true, Bool.true_and, Bool.and_false, Bool.false_and, Bool.or_false, Bool.or_true, Bool.false_or, Bool.true_or, reduceCtorEq, ne_eq, true_and, and_true, Int.zero_add, Int.add_zero, Int.sub_zero, m_check_ok, m_law_turned_ok, m_law_station_ok, m_law_is_number_ok, m_law_encloses_ok, m_rounded_ok, m_products_ok, m_limited_ok, m_together_ok, m_unit_power_ok, m_plus_ok, m_times_ok])
theorem m_site_at_ok {F : Nat} {b : Body} {s : Site} {n : Nat} [BdP s.place n] (hn : n < 1000) (h : circ b.turn) (hw : b.turn.2.2 ≤ 10 ^ 6) {t : Int} (t0 : 0 ≤ t) (t1 : t < 2 ^ 20) (hF : 21 ≤ F) : m_site_at F b s t = .ok (siteB b.turn s.place t) := by
  obtain ⟨e1, e2⟩ := uPow_enc h t0 t1
  have c := (circ_tN h t.toNat).2
  have b1 := e1.bd c
  have b2 := e2.bd c
  have l : n + 60 < 130000000 := by omega
  unfold m_site_at siteB
  rw [m_unit_power_ok h hw t0 t1 hF]
  try simp (config := {decide := true, dsimp := false, implicitDefEqProofs := false}) only [l, mulR_ok, divR_ok, modR_ok, isqrtR_ok, rngR1_0, rngR1_1, rngR1_2, rngR1_3, rngR1_4, rngR1_5, rngR1_6, rngR_16, rngR_13, idxR_0, idxR_1, idxR_2, idxR_3, idxR_4, idxR_5, idxR_m1_1, idxR_m1_2, idxR_m1_3, idxR_last, pushR_ok, catR_ok, forC_nil, forC_cons, mapR_nil, mapR_cons, unO_some, mtO_none, mtO_some, minR_1, minR_2, minR_3, minR_4, maxR_1, maxR_2, maxR_3, maxR_4, andR_okk, orR_okk, andR_dec, orR_dec, andR_ok, orR_ok, iteR_not, iteR_nbl, cnd_t, cnd_f, iteR_ok, iteR_bl, decide_eq_true_eq, Rs.bind_ok, Rs.bind_er, Rs.bind_no, Rs.bind_assoc, noE_ok, List.nil_append, List.cons_append, List.length_cons, List.length_nil, Rs.sat_ok, Rs.sat_er, Rs.sat_no, if_true, if_false, reduceIte, Bool.false_eq_true, decide_true, decide_false, not_true_eq_false, not_false_eq_true, List.map_cons, List.map_nil, List.zip_cons_cons, List.zip_nil_left, List.zip_nil_right, Int.reduceAdd, Int.reduceSub, Int.reduceMul, Int.reduceMod, Int.reduceDiv, Int.reduceEq, Int.reduceNeg, Int.reduceLT, Int.reduceLE, Bool.not_true, Bool.not_false, Option.isSome_some, Option.isSome_none, Bool.and_true, Bool.true_and, Bool.and_false, Bool.false_and, Bool.or_false, Bool.or_true, Bool.false_or, Bool.true_or, reduceCtorEq, ne_eq, true_and, and_true, Int.zero_add, Int.add_zero, Int.sub_zero, m_check_ok, m_law_turned_ok, m_law_station_ok, m_law_is_number_ok, m_law_encloses_ok, m_rounded_ok, m_products_ok, m_limited_ok, m_together_ok, m_unit_power_ok, m_plus_ok, m_times_ok]
theorem siteB_bd {w p : Pt} {n : Nat} [BdP p n] (h : circ w) {t : Int} (t0 : 0 ≤ t) (t1 : t < 2 ^ 20) : BdB (siteB w p t) (n + 61) := by
  obtain ⟨e1, e2⟩ := uPow_enc h t0 t1
  have c := (circ_tN h t.toNat).2
  have b1 := e1.bd c
  have b2 := e2.bd c
  unfold siteB
  refine ⟨?_, ?_, ?_⟩
  · unfold rnd; exact BdI.of inferInstance (by omega)
  · unfold rnd; exact BdI.of inferInstance (by omega)
  · exact ⟨Bd.of inferInstance (by omega), Bd.of inferInstance (by omega)⟩
theorem siteO_bd {w p : Pt} {n : Nat} [BdP p n] (h : circ w) {b e : Int} (b0 : 0 ≤ b) (be : b ≤ e) (e1 : e ≤ 200000) : BdB (siteO w p b e) (n + 61) := by
  have go : ∀ (l : List Int) (x : Box), (∀ t ∈ l, 0 ≤ t ∧ t < 2 ^ 20) → BdB x (n + 61) → BdB (l.foldl (fun x t => bHull x (siteB w p t)) x) (n + 61) := by
    intro l
    induction l with
    | nil => intro x _ h; exact h
    | cons a l ih =>
      intro x hl hx
      rw [List.foldl_cons]
      have := siteB_bd (p := p) h (hl a (.head _)).1 (hl a (.head _)).2
      exact ih _ (fun t ht => hl t (.tail _ ht)) (BdB.of inferInstance (by omega))
  refine go _ _ (fun t ht => ?_) (siteB_bd h b0 (by omega))
  have := rngL_mem.mp ht
  omega
end
end M
/-! wider -/
def i_wider_1 : List S := .for_ (.tp [.nm 3, .nm 4]) (.zip (.var 0) (.var 1)) [.app 2 (.tup [.blt .min [.idx (.var 3) (.cst (.int 0)), .idx (.var 4) (.cst (.int 0))], .blt .max [.idx (.var 3) (.cst (.int 1)), .idx (.var 4) (.cst (.int 1))]])] :: [.ret (.tup [.idx (.brw 2) (.cst (.int 0)), .idx (.brw 2) (.cst (.int 1)), .idx (.brw 2) (.cst (.int 2))])]
def i_wider : List S := .new 2 (.lst []) :: i_wider_1
abbrev G_wider : List (Str × D) := []
abbrev P_wider : List Cal := []
abbrev c_wider : M.Cx := ⟨NM, AT_, P_wider, G_wider, True⟩
namespace M
open PySem PySem.Spec L2
noncomputable section
def m_wider_L1 (p_8 : (Iv × Iv)) (sides_3 : (List Iv)) (nx_6 : ((List Iv) → Rs Box)) (bk_7 : ((List Iv) → Rs Box)) : Rs Box :=
  ((pushR sides_3 ((min p_8.1.1 p_8.2.1), (max p_8.1.2 p_8.2.2))).bind fun sides_9 => (nx_6 sides_9))
def m_wider_K1 (sides_10 : (List Iv)) : Rs Box :=
  ((idxR sides_10 (0:Int)).bind fun a_13 => ((idxR sides_10 (1:Int)).bind fun a_14 => ((idxR sides_10 (2:Int)).bind fun a_15 => (Rs.ok (a_13, a_14, a_15)))))
def m_wider (first_1 : Box) (second_2 : Box) : Rs Box :=
  (forC (fun a s nx bk => m_wider_L1 a s nx bk) (fun (s : (List Iv)) => m_wider_K1 s) [(first_1.1, second_2.1), (first_1.2.1, second_2.2.1), (first_1.2.2, second_2.2.2)] (([] : (List Iv)) : (List Iv)))
theorem k_wider (first_1 : Box) (second_2 : Box) : RK c_wider dBox i_wider [Sl.val (dBox first_1), Sl.val (dBox second_2), Sl.un, Sl.un, Sl.un] (m_wider first_1 second_2) (NN dBox) F0 F0 := by
  unfold m_wider
  refine rk_newp (ρ' := [Sl.val (dBox first_1), Sl.val (dBox second_2), Sl.own [], Sl.un, Sl.un]) (rp_lst rps_nil) rfl ?_
  refine rk_for (σ := (List Iv)) (J := (Sl × Sl)) (m := (d2 dIv dIv)) (l := [(first_1.1, second_2.1), (first_1.2.1, second_2.2.1), (first_1.2.2, second_2.2.2)]) (fun (s : (List Iv)) (j : (Sl × Sl)) => [Sl.val (dBox first_1), Sl.val (dBox second_2), Sl.own (s.map dIv), j.1, j.2]) (fun a s nx bk => m_wider_L1 a s nx bk) (k := (fun (s : (List Iv)) => m_wider_K1 s)) (s0 := (([] : (List Iv)) : (List Iv))) (j0 := ((Sl.un, Sl.un))) (ri_zipt (ds := [(dIv first_1.1), (dIv first_1.2.1), (dIv first_1.2.2)]) (es := [(dIv second_2.1), (dIv second_2.2.1), (dIv second_2.2.2)]) (rp_var rfl) (rp_var rfl)) rfl ?_ ?_
  · rintro p_8 sides_3 ⟨z_4, z_5⟩ nx_6 bk_7
    refine ⟨_, rfl, ?_⟩
    show RK _ _ _ [Sl.val (dBox first_1), Sl.val (dBox second_2), Sl.own (sides_3.map dIv), Sl.val (dIv p_8.1), Sl.val (dIv p_8.2)] (m_wider_L1 p_8 sides_3 nx_6 bk_7) _ _ _
    unfold m_wider_L1
    refine rk_appp (m := dIv) (a := ((min p_8.1.1 p_8.2.1), (max p_8.1.2 p_8.2.2))) (l := sides_3) (g := fun sides_9 => [Sl.val (dBox first_1), Sl.val (dBox second_2), Sl.own (sides_9.map dIv), Sl.val (dIv p_8.1), Sl.val (dIv p_8.2)]) rfl (rp_tup (rps_cons (rp_blt (v := (D.int (min p_8.1.1 p_8.2.1))) (rps_cons (rp_idx (v := (D.int p_8.1.1)) (rp_var rfl) rp_cst (by exact fun _ h => h)) (rps_cons (rp_idx (v := (D.int p_8.2.1)) (rp_var rfl) rp_cst (by exact fun _ h => h)) rps_nil)) bk_min2) (rps_cons (rp_blt (v := (D.int (max p_8.1.2 p_8.2.2))) (rps_cons (rp_idx (v := (D.int p_8.1.2)) (rp_var rfl) rp_cst (by exact fun _ h => h)) (rps_cons (rp_idx (v := (D.int p_8.2.2)) (rp_var rfl) rp_cst (by exact fun _ h => h)) rps_nil)) bk_max2) rps_nil))) (fun _ => rfl) (fun sides_9 => ?_)
    exact rk_nil (nx_i sides_9 ((Sl.val (dIv p_8.1), Sl.val (dIv p_8.2))))
  · rintro sides_10 ⟨z_11, z_12⟩
    show RK _ _ _ [Sl.val (dBox first_1), Sl.val (dBox second_2), Sl.own (sides_10.map dIv), z_11, z_12] (m_wider_K1 sides_10) _ _ _
    unfold m_wider_K1
    exact rk_ret trivial (re_tup (n := dBox) (rx_e (n := dIv) (re_idx (n := dIv) (rx_p (rp_brwo rfl) (rx_p rp_cst (rx_nil (qi_lst (n := dIv) (l := sides_10)))))) (fun a_13 => (rx_e (n := dIv) (re_idx (n := dIv) (rx_p (rp_brwo rfl) (rx_p rp_cst (rx_nil (qi_lst (n := dIv) (l := sides_10)))))) (fun a_14 => (rx_e (n := dIv) (re_idx (n := dIv) (rx_p (rp_brwo rfl) (rx_p rp_cst (rx_nil (qi_lst (n := dIv) (l := sides_10)))))) (fun a_15 => (rx_nil ⟨_, rfl, rfl⟩))))))))
end
end M
def fs_wider : FS := fun ds k x => (∃ (first_1 : Box) (second_2 : Box), ds = [dBox first_1, dBox second_2] ∧ (M.m_wider first_1 second_2).sat (fun v => k (dBox v)) x)
def C_wider : Cal := { nm := "wider", ar := 2, dfl := [], fs := fs_wider }
theorem w_wider : ∀ ds kd kx, ds.length = 2 → fs_wider ds kd kx → wpSs NM AT_ P_wider G_wider i_wider (startR 5 ds) { nx := fun _ => kd .non, rt := kd, bk := fun _ => False, ct := fun _ => False, er := fun x _ => kx x } := by
  rintro ds kd kx hl (⟨first_1, second_2, rfl, h⟩)
  · exact M.fin_f (c := c_wider) (M.k_wider first_1 second_2) h
namespace M
open PySem PySem.Spec L2
noncomputable section
theorem q_wider (first_1 : Box) (second_2 : Box) : QF C_wider dBox [dBox first_1, dBox second_2] (m_wider first_1 second_2) := fun k x h => ⟨first_1, second_2, rfl, h⟩
local macro_rules | `(tactic| fail "rs21") => `(tactic| try simp (config := {decide := true, dsimp := false, implicitDefEqProofs := false}) only [mulR_ok, divR_ok, modR_ok, isqrtR_ok, rngR1_0, rngR1_1, rngR1_2, rngR1_3, rngR1_4, rngR1_5, rngR1_6, rngR_16, rngR_13, idxR_0, idxR_1, idxR_2, idxR_3, idxR_4, idxR_5, idxR_m1_1, idxR_m1_2, idxR_m1_3, idxR_last, pushR_ok, catR_ok, forC_nil, forC_cons, mapR_nil, mapR_cons, unO_some, mtO_none, mtO_some, minR_1, minR_2, minR_3, minR_4, maxR_1, maxR_2, maxR_3, maxR_4, andR_okk, orR_okk, andR_dec, orR_dec, andR_ok, orR_ok, iteR_not, iteR_nbl, cnd_t, cnd_f, iteR_ok, iteR_bl, decide_eq_true_eq, Rs.bind_ok, Rs.bind_er, Rs.bind_no, Rs.bind_assoc, noE_ok, List.nil_append, List.cons_append, List.length_cons, List.length_nil, Rs.sat_ok, Rs.sat_er, Rs.sat_no, if_true, if_false, reduceIte, Bool.false_eq_true, decide_true, decide_false, not_true_eq_false, not_false_eq_true, List.map_cons, List.map_nil, List.zip_cons_cons, List.zip_nil_left, List.zip_nil_right, Int.reduceAdd, Int.reduceSub, Int.reduceMul, Int.reduceMod, Int.reduceDiv, Int.reduceEq, Int.reduceNeg, Int.reduceLT, Int.reduceLE, Bool.not_true, Bool.not_false, Option.isSome_some, Option.isSome_none, Bool.and_true, Bool.true_and, Bool.and_false, Bool.false_and, Bool.or_false, Bool.or_true, Bool.false_or, Bool.true_or, reduceCtorEq, ne_eq, true_and, and_true, Int.zero_add, Int.add_zero, Int.sub_zero, m_check_ok, m_law_turned_ok, m_law_station_ok, m_law_is_number_ok, m_law_encloses_ok, m_rounded_ok, m_products_ok, m_limited_ok, m_together_ok, m_unit_power_ok, m_plus_ok, m_times_ok, m_site_at_ok])
theorem m_wider_ok {a b : Box} : m_wider a b = .ok (bHull a b) := by
  unfold m_wider m_wider_L1 m_wider_K1
  fail "rs21"
  rfl
end
end M
/-! site_over -/
def i_site_over_1 : List S := .for_ (.nm 5) (.rng [.bin .add (.var 2) (.cst (.int 1)), .bin .add (.var 3) (.cst (.int 1))]) [.asg (.nm 4) (.call 1 [.var 4, .call 0 [.var 0, .var 1, .var 5]])] :: [.ret (.var 4)]
def i_site_over : List S := .asg (.nm 4) (.call 0 [.var 0, .var 1, .var 2]) :: i_site_over_1
abbrev G_site_over : List (Str × D) := []
abbrev P_site_over : List Cal := [C_site_at, C_wider]
theorem p_site_over_0 : P_site_over[0]? = some C_site_at := rfl
theorem p_site_over_1 : P_site_over[1]? = some C_wider := rfl
abbrev c_site_over : M.Cx := ⟨NM, AT_, P_site_over, G_site_over, True⟩
namespace M
open PySem PySem.Spec L2
noncomputable section
def m_site_over_L1 (F : Nat) (body_1 : Body) (site_2 : Site) (tick_10 : Int) (box_6 : Box) (nx_8 : (Box → Rs Box)) (bk_9 : (Box → Rs Box)) : Rs Box :=
  (((m_site_at F body_1 site_2 tick_10).bind fun a_11 => (m_wider box_6 a_11)).bind fun box_12 => (nx_8 box_12))
def m_site_over (F : Nat) (body_1 : Body) (site_2 : Site) (begin_3 : Int) (end_4 : Int) : Rs Box :=
  ((m_site_at F body_1 site_2 begin_3).bind fun box_5 => ((rngR (begin_3 + (1:Int)) (end_4 + (1:Int))).bind fun l_15 => forC (fun a s nx bk => m_site_over_L1 F body_1 site_2 a s nx bk) (fun (s : Box) => (Rs.ok s)) l_15 (box_5 : Box)))
theorem k_site_over (F : Nat) (body_1 : Body) (site_2 : Site) (begin_3 : Int) (end_4 : Int) : RK c_site_over dBox i_site_over [Sl.val (dBody body_1), Sl.val (dSite site_2), Sl.val (D.int begin_3), Sl.val (D.int end_4), Sl.un, Sl.un] (m_site_over F body_1 site_2 begin_3 end_4) (NN dBox) F0 F0 := by
  unfold m_site_over
  refine rk_asg (g := fun box_5 => [Sl.val (dBody body_1), Sl.val (dSite site_2), Sl.val (D.int begin_3), Sl.val (D.int end_4), Sl.val (dBox box_5), Sl.un]) (re_call (cal := C_site_at) (n := dBox) rfl (rx_p (rp_var rfl) (rx_p (rp_var rfl) (rx_p (rp_var rfl) (rx_nil (q_site_at F body_1 site_2 begin_3)))))) (fun _ => rfl) (fun box_5 => ?_)
  refine rk_fore (σ := Box) (J := Sl) (m := D.int) (fun (s : Box) (j : Sl) => [Sl.val (dBody body_1), Sl.val (dSite site_2), Sl.val (D.int begin_3), Sl.val (D.int end_4), Sl.val (dBox s), j]) (fun a s nx bk => m_site_over_L1 F body_1 site_2 a s nx bk) (k := (fun (s : Box) => (Rs.ok s))) (s0 := (box_5 : Box)) (j0 := (Sl.un)) (rie_rng (rx_p (rp_add (rp_var rfl) rp_cst) (rx_p (rp_add (rp_var rfl) rp_cst) (rx_nil qr_2)))) rfl ?_ ?_
  · rintro tick_10 box_6 z_7 nx_8 bk_9
    refine ⟨_, rfl, ?_⟩
    show RK _ _ _ [Sl.val (dBody body_1), Sl.val (dSite site_2), Sl.val (D.int begin_3), Sl.val (D.int end_4), Sl.val (dBox box_6), Sl.val (D.int tick_10)] (m_site_over_L1 F body_1 site_2 tick_10 box_6 nx_8 bk_9) _ _ _
    unfold m_site_over_L1
    refine rk_asg (g := fun box_12 => [Sl.val (dBody body_1), Sl.val (dSite site_2), Sl.val (D.int begin_3), Sl.val (D.int end_4), Sl.val (dBox box_12), Sl.val (D.int tick_10)]) (re_call (cal := C_wider) (n := dBox) rfl (rx_p (rp_var rfl) (rx_e (n := dBox) (re_call (cal := C_site_at) (n := dBox) rfl (rx_p (rp_var rfl) (rx_p (rp_var rfl) (rx_p (rp_var rfl) (rx_nil (q_site_at F body_1 site_2 tick_10)))))) (fun a_11 => (rx_nil (q_wider box_6 a_11)))))) (fun _ => rfl) (fun box_12 => ?_)
    exact rk_nil (nx_i box_12 (Sl.val (D.int tick_10)))
  · rintro box_13 z_14
    show RK _ _ _ [Sl.val (dBody body_1), Sl.val (dSite site_2), Sl.val (D.int begin_3), Sl.val (D.int end_4), Sl.val (dBox box_13), z_14] ((Rs.ok box_13)) _ _ _
    exact rk_retp (a := box_13) trivial (rp_var rfl)
end
end M
def fs_site_over : FS := fun ds k x => (∃ (F : Nat) (body_1 : Body) (site_2 : Site) (begin_3 : Int) (end_4 : Int), ds = [dBody body_1, dSite site_2, D.int begin_3, D.int end_4] ∧ (M.m_site_over F body_1 site_2 begin_3 end_4).sat (fun v => k (dBox v)) x)
def C_site_over : Cal := { nm := "site_over", ar := 4, dfl := [], fs := fs_site_over }
theorem w_site_over : ∀ ds kd kx, ds.length = 4 → fs_site_over ds kd kx → wpSs NM AT_ P_site_over G_site_over i_site_over (startR 6 ds) { nx := fun _ => kd .non, rt := kd, bk := fun _ => False, ct := fun _ => False, er := fun x _ => kx x } := by
  rintro ds kd kx hl (⟨F, body_1, site_2, begin_3, end_4, rfl, h⟩)
  · exact M.fin_f (c := c_site_over) (M.k_site_over F body_1 site_2 begin_3 end_4) h
namespace M
open PySem PySem.Spec L2
noncomputable section
theorem q_site_over (F : Nat) (body_1 : Body) (site_2 : Site) (begin_3 : Int) (end_4 : Int) : QF C_site_over dBox [dBody body_1, dSite site_2, D.int begin_3, D.int end_4] (m_site_over F body_1 site_2 begin_3 end_4) := fun k x h => ⟨F, body_1, site_2, begin_3, end_4, rfl, h⟩
local macro_rules | `(tactic| fail "rs22") => `(tactic| try simp (config := {decide := true, dsimp := false, implicitDefEqProofs := false}) only [mulR_ok, divR_ok, modR_ok, isqrtR_ok, rngR1_0, rngR1_1, rngR1_2, rngR1_3, rngR1_4, rngR1_5, rngR1_6, rngR_16, rngR_13, idxR_0, idxR_1, idxR_2, idxR_3, idxR_4, idxR_5, idxR_m1_1, idxR_m1_2, idxR_m1_3, idxR_last, pushR_ok, catR_ok, forC_nil, forC_cons, mapR_nil, mapR_cons, unO_some, mtO_none, mtO_some, minR_1, minR_2, minR_3, minR_4, maxR_1, maxR_2, maxR_3, maxR_4, andR_okk, orR_okk, andR_dec, orR_dec, andR_ok, orR_ok, iteR_not, iteR_nbl, cnd_t, cnd_f, iteR_ok, iteR_bl, decide_eq_true_eq, Rs.bind_ok, Rs.bind_er, Rs.bind_no, Rs.bind_assoc, noE_ok, List.nil_append, List.cons_append, List.length_cons, List.length_nil, Rs.sat_ok, Rs.sat_er, Rs.sat_no, if_true, if_false, reduceIte, Bool.false_eq_true, decide_true, decide_false, not_true_eq_false, not_false_eq_true, List.map_cons, List.map_nil, List.zip_cons_cons, List.zip_nil_left, List.zip_nil_right, Int.reduceAdd, Int.reduceSub, Int.reduceMul, Int.reduceMod, Int.reduceDiv, Int.reduceEq, Int.reduceNeg, Int.reduceLT, Int.reduceLE, Bool.not_true, Bool.not_false, Option.isSome_some, Option.isSome_none, Bool.and_true, Bool.true_and, Bool.and_false, Bool.false_and, Bool.or_false, Bool.or_true, Bool.false_or, Bool.true_or, reduceCtorEq, ne_eq, true_and, and_true, Int.zero_add, Int.add_zero, Int.sub_zero, m_check_ok, m_law_turned_ok, m_law_station_ok, m_law_is_number_ok, m_law_encloses_ok, m_rounded_ok, m_products_ok, m_limited_ok, m_together_ok, m_unit_power_ok, m_plus_ok, m_times_ok, m_site_at_ok, m_wider_ok])
theorem m_site_over_ok {F : Nat} {b : Body} {s : Site} {n : Nat} [BdP s.place n] (hn : n < 1000) (h : circ b.turn) (hw : b.turn.2.2 ≤ 10 ^ 6) {u v : Int} (u0 : 0 ≤ u) (v0 : u ≤ v) (v1 : v ≤ 200000) (hF : 21 ≤ F) : m_site_over F b s u v = .ok (siteO b.turn s.place u v) := by
  unfold m_site_over siteO
  rw [m_site_at_ok hn h hw u0 (by omega) hF, Rs.bind_ok, rngR_ok (by omega), Rs.bind_ok]
  have go : ∀ (l : List Int) (x : Box), (∀ t ∈ l, 0 ≤ t ∧ t < 2 ^ 20) → forC (fun a s1 nx bk => m_site_over_L1 F b s a s1 nx bk) (fun (s : Box) => (Rs.ok s)) l x = .ok (l.foldl (fun x t => bHull x (siteB b.turn s.place t)) x) := by
    intro l
    induction l with
    | nil => intro x _; rfl
    | cons a l ih =>
      intro x hl
      obtain ⟨a0, a1⟩ := hl a (.head _)
      rw [forC_cons, m_site_over_L1, m_site_at_ok hn h hw a0 a1 hF, Rs.bind_ok, m_wider_ok, Rs.bind_ok]
      exact ih _ fun t ht => hl t (.tail _ ht)
  exact go _ _ fun t ht => by
    have := rngL_mem.mp ht
    omega
end
end M
/-! law -/
def x_law_0 : E := .call 7 [.var 3, .var 5, .bin .add (.var 7) (.var 13)]
def x_law_1 : E := .idx (.idx (.var 14) (.var 13)) (.cst (.int 0))
def x_law_2 : E := .idx (.idx (.var 14) (.var 13)) (.cst (.int 1))
def x_law_3 : E := .tup [.blt .min [.comp x_law_1 (.nm 14) (.ex (.var 9)) []], .blt .max [.comp x_law_2 (.nm 14) (.ex (.var 9)) []]]
def b_law_0_6 : List S := .asg (.nm 10) (.blt .tuple [.comp x_law_3 (.nm 13) (.rng [.cst (.int 3)]) []]) :: [.ite (.cmp .ne (.call 8 [.var 3, .var 5, .var 7, .var 8]) (.var 10)) [.ret (.cst (.bl false))] []]
def b_law_0_5 : List S := .asg (.nm 9) (.comp x_law_0 (.nm 13) (.rng [.bin .add (.bin .sub (.var 8) (.var 7)) (.cst (.int 1))]) []) :: b_law_0_6
def b_law_0_4 : List S := .asg (.nm 8) (.bin .add (.var 7) (.bin .mod (.bin .fdiv (.var 1) (.cst (.int 31))) (.cst (.int 5)))) :: b_law_0_5
def b_law_0_3 : List S := .ite (.not (.val (.call 6 [.call 7 [.var 3, .var 5, .var 7], .var 11, .var 12]))) [.ret (.cst (.bl false))] [] :: b_law_0_4
def b_law_0_2 : List S := .asg (.tp [.nm 11, .nm 12]) (.call 5 [.var 2, .var 4, .var 7]) :: b_law_0_3
def b_law_0_1 : List S := .asg (.nm 7) (.bin .mod (.var 1) (.cst (.int 31))) :: b_law_0_2
def b_law_0 : List S := .asg (.nm 1) (.call 0 [.var 0, .bin .add (.cst (.int 2)) (.var 6)]) :: b_law_0_1
def i_law_6 : List S := .for_ (.nm 6) (.rng [.blt .max [.cst (.int 2), .blt .min [.cst (.int 6), .blt .len [.var 0]]]]) b_law_0 :: [.ret (.cst (.bl true))]
def i_law_5 : List S := .asg (.nm 5) (.make 4 [.cst (.str "s"), .var 4]) :: i_law_6
def i_law_4 : List S := .ite (.cmp .eq (.bin .mod (.var 1) (.cst (.int 5))) (.cst (.int 0))) [.asg (.nm 4) (.tup [.bin .mul (.idx (.var 4) (.cst (.int 0))) (.bin .pow (.cst (.int 10)) (.cst (.int 9))), .bin .add (.bin .mul (.idx (.var 4) (.cst (.int 1))) (.bin .pow (.cst (.int 10)) (.cst (.int 9)))) (.cst (.int 7)), .idx (.var 4) (.cst (.int 2))])] [] :: i_law_5
def i_law_3 : List S := .asg (.nm 4) (.call 3 [.call 0 [.var 0, .cst (.int 1)]]) :: i_law_4
def i_law_2 : List S := .asg (.nm 3) (.make 2 [.bin .add (.cst (.int 1)) (.bin .mod (.var 1) (.cst (.int 1000))), .cst (.int 0), .var 2]) :: i_law_3
def i_law_1 : List S := .asg (.nm 2) (.call 1 [.var 1]) :: i_law_2
def i_law : List S := .asg (.nm 1) (.call 0 [.var 0, .cst (.int 0)]) :: i_law_1
abbrev G_law : List (Str × D) := []
abbrev P_law : List Cal := [C_law_row, C_law_turn, C_Body___init__, C_law_site, C_Site___init__, C_law_station, C_law_encloses, C_site_at, C_site_over]
theorem p_law_0 : P_law[0]? = some C_law_row := rfl
theorem p_law_1 : P_law[1]? = some C_law_turn := rfl
theorem p_law_2 : P_law[2]? = some C_Body___init__ := rfl
theorem p_law_3 : P_law[3]? = some C_law_site := rfl
theorem p_law_4 : P_law[4]? = some C_Site___init__ := rfl
theorem p_law_5 : P_law[5]? = some C_law_station := rfl
theorem p_law_6 : P_law[6]? = some C_law_encloses := rfl
theorem p_law_7 : P_law[7]? = some C_site_at := rfl
theorem p_law_8 : P_law[8]? = some C_site_over := rfl
abbrev c_law : M.Cx := ⟨NM, AT_, P_law, G_law, True⟩
namespace M
open PySem PySem.Spec L2
noncomputable section
def m_law_L1 (F : Nat) (script_1 : (List Int)) (turn_3 : Pt) (body_6 : Body) (place_14 : Pt) (site_15 : Site) (k_26 : Int) (nx_24 : (Unit → Rs Bool)) (bk_25 : (Unit → Rs Bool)) : Rs Bool :=
  ((m_law_row script_1 ((2:Int) + k_26)).bind fun row_27 => ((modR row_27 (31:Int)).bind fun tick_28 => ((m_law_station turn_3 place_14 tick_28).bind fun p_29 => (iteR (((m_site_at F body_6 site_15 tick_28).bind fun a_30 => (m_law_encloses a_30 p_29.1 p_29.2)).bind fun x => Rs.ok (!x)) (Rs.ok false) ((((divR row_27 (31:Int)).bind fun a_31 => (modR a_31 (5:Int))).bind fun a_32 => (Rs.ok (tick_28 + a_32))).bind fun last_33 => (((rngR1 ((last_33 - tick_28) + (1:Int))).bind fun l_35 => (mapR (fun (j_34 : Int) => (m_site_at F body_6 site_15 (tick_28 + j_34))) l_35)).bind fun boxes_36 => (((noE ((minR (boxes_36.map (fun (box_37 : Box) => box_37.1.1))).bind fun a_39 => ((maxR (boxes_36.map (fun (box_38 : Box) => box_38.1.2))).bind fun a_40 => (Rs.ok (a_39, a_40))))).bind fun b_49 => ((noE ((minR (boxes_36.map (fun (box_41 : Box) => box_41.2.1.1))).bind fun a_43 => ((maxR (boxes_36.map (fun (box_42 : Box) => box_42.2.1.2))).bind fun a_44 => (Rs.ok (a_43, a_44))))).bind fun b_50 => ((noE ((minR (boxes_36.map (fun (box_45 : Box) => box_45.2.2.1))).bind fun a_47 => ((maxR (boxes_36.map (fun (box_46 : Box) => box_46.2.2.2))).bind fun a_48 => (Rs.ok (a_47, a_48))))).bind fun b_51 => (Rs.ok (b_49, b_50, b_51))))).bind fun hull_52 => (iteR ((m_site_over F body_6 site_15 tick_28 last_33).bind fun a_53 => (Rs.ok (decide (¬(a_53 = hull_52))))) (Rs.ok false) (nx_24 ())))))))))
def m_law_J1 (F : Nat) (script_1 : (List Int)) (turn_3 : Pt) (body_6 : Body) (place_14 : Pt) : Rs Bool :=
  ((m_Site___init__ ("s":Str) place_14).bind fun site_15 => ((rngR1 (max (2:Int) (min (6:Int) (script_1.length : Int)))).bind fun l_62 => forC (fun a s nx bk => m_law_L1 F script_1 turn_3 body_6 place_14 site_15 a  nx bk) (fun (s : Unit) => (Rs.ok true)) l_62 (() : Unit)))
def m_law (F : Nat) (script_1 : (List Int)) : Rs Bool :=
  ((m_law_row script_1 (0:Int)).bind fun row_2 => ((m_law_turn row_2).bind fun turn_3 => ((((modR row_2 (1000:Int)).bind fun a_4 => (Rs.ok ((1:Int) + a_4))).bind fun a_5 => (m_Body___init__ a_5 (0:Int) turn_3)).bind fun body_6 => (((m_law_row script_1 (1:Int)).bind fun a_7 => (m_law_site a_7)).bind fun place_8 => (iteR ((modR row_2 (5:Int)).bind fun a_9 => (Rs.ok (decide (a_9 = (0:Int))))) (((mulR place_8.1 (1000000000:Int)).bind fun a_11 => (((mulR place_8.2.1 (1000000000:Int)).bind fun a_10 => (Rs.ok (a_10 + (7:Int)))).bind fun a_12 => (Rs.ok (a_11, a_12, place_8.2.2)))).bind fun place_13 => (m_law_J1 F script_1 turn_3 body_6 place_13)) (m_law_J1 F script_1 turn_3 body_6 place_8))))))
theorem k_law (F : Nat) (script_1 : (List Int)) : RK c_law D.bl i_law [Sl.val ((dR D.int) script_1), Sl.un, Sl.un, Sl.un, Sl.un, Sl.un, Sl.un, Sl.un, Sl.un, Sl.un, Sl.un, Sl.un, Sl.un, Sl.un, Sl.un] (m_law F script_1) (NN D.bl) F0 F0 := by
  unfold m_law
  refine rk_asg (g := fun row_2 => [Sl.val ((dR D.int) script_1), Sl.val (D.int row_2), Sl.un, Sl.un, Sl.un, Sl.un, Sl.un, Sl.un, Sl.un, Sl.un, Sl.un, Sl.un, Sl.un, Sl.un, Sl.un]) (re_call (cal := C_law_row) (n := D.int) rfl (rx_p (rp_var rfl) (rx_p rp_cst (rx_nil (q_law_row script_1 (0:Int)))))) (fun _ => rfl) (fun row_2 => ?_)
  refine rk_asg (g := fun turn_3 => [Sl.val ((dR D.int) script_1), Sl.val (D.int row_2), Sl.val (dPt turn_3), Sl.un, Sl.un, Sl.un, Sl.un, Sl.un, Sl.un, Sl.un, Sl.un, Sl.un, Sl.un, Sl.un, Sl.un]) (re_call (cal := C_law_turn) (n := dPt) rfl (rx_p (rp_var rfl) (rx_nil (q_law_turn row_2)))) (fun _ => rfl) (fun turn_3 => ?_)
  refine rk_asg (g := fun body_6 => [Sl.val ((dR D.int) script_1), Sl.val (D.int row_2), Sl.val (dPt turn_3), Sl.val (dBody body_6), Sl.un, Sl.un, Sl.un, Sl.un, Sl.un, Sl.un, Sl.un, Sl.un, Sl.un, Sl.un, Sl.un]) (re_make (cal := C_Body___init__) (n := dBody) rfl (rx_e (n := D.int) (re_bin (rx_p rp_cst (rx_e (n := D.int) (re_bin (rx_p (rp_var rfl) (rx_p rp_cst (rx_nil qb_mod)))) (fun a_4 => (rx_nil qb_add))))) (fun a_5 => (rx_p rp_cst (rx_p (rp_var rfl) (rx_nil (q_Body___init__ a_5 (0:Int) turn_3))))))) (fun _ => rfl) (fun body_6 => ?_)
  refine rk_asg (g := fun place_8 => [Sl.val ((dR D.int) script_1), Sl.val (D.int row_2), Sl.val (dPt turn_3), Sl.val (dBody body_6), Sl.val (dPt place_8), Sl.un, Sl.un, Sl.un, Sl.un, Sl.un, Sl.un, Sl.un, Sl.un, Sl.un, Sl.un]) (re_call (cal := C_law_site) (n := dPt) rfl (rx_e (n := D.int) (re_call (cal := C_law_row) (n := D.int) rfl (rx_p (rp_var rfl) (rx_p rp_cst (rx_nil (q_law_row script_1 (1:Int)))))) (fun a_7 => (rx_nil (q_law_site a_7))))) (fun _ => rfl) (fun place_8 => ?_)
  refine rk_jn (σ := Pt) (J := Unit) (fun s j => [Sl.val ((dR D.int) script_1), Sl.val (D.int row_2), Sl.val (dPt turn_3), Sl.val (dBody body_6), Sl.val (dPt s), Sl.un, Sl.un, Sl.un, Sl.un, Sl.un, Sl.un, Sl.un, Sl.un, Sl.un, Sl.un]) (fun s => m_law_J1 F script_1 turn_3 body_6 s) ?_ (fun m_law_J1_k => ?_)
  · rintro place_14 _
    show RK _ _ _ [Sl.val ((dR D.int) script_1), Sl.val (D.int row_2), Sl.val (dPt turn_3), Sl.val (dBody body_6), Sl.val (dPt place_14), Sl.un, Sl.un, Sl.un, Sl.un, Sl.un, Sl.un, Sl.un, Sl.un, Sl.un, Sl.un] (m_law_J1 F script_1 turn_3 body_6 place_14) _ _ _
    unfold m_law_J1
    refine rk_asg (g := fun site_15 => [Sl.val ((dR D.int) script_1), Sl.val (D.int row_2), Sl.val (dPt turn_3), Sl.val (dBody body_6), Sl.val (dPt place_14), Sl.val (dSite site_15), Sl.un, Sl.un, Sl.un, Sl.un, Sl.un, Sl.un, Sl.un, Sl.un, Sl.un]) (re_make (cal := C_Site___init__) (n := dSite) rfl (rx_p rp_cst (rx_p (rp_var rfl) (rx_nil (q_Site___init__ ("s":Str) place_14))))) (fun _ => rfl) (fun site_15 => ?_)
    refine rk_fore (σ := Unit) (J := (Sl × Sl × Sl × Sl × Sl × Sl × Sl × Sl)) (m := D.int) (fun (s : Unit) (j : (Sl × Sl × Sl × Sl × Sl × Sl × Sl × Sl)) => [Sl.val ((dR D.int) script_1), j.1, Sl.val (dPt turn_3), Sl.val (dBody body_6), Sl.val (dPt place_14), Sl.val (dSite site_15), j.2.1, j.2.2.1, j.2.2.2.1, j.2.2.2.2.1, j.2.2.2.2.2.1, j.2.2.2.2.2.2.1, j.2.2.2.2.2.2.2, Sl.un, Sl.un]) (fun a s nx bk => m_law_L1 F script_1 turn_3 body_6 place_14 site_15 a  nx bk) (k := (fun (s : Unit) => (Rs.ok true))) (s0 := (() : Unit)) (j0 := ((Sl.val (D.int row_2), Sl.un, Sl.un, Sl.un, Sl.un, Sl.un, Sl.un, Sl.un))) (rie_rng (rx_p (rp_blt (v := (D.int (max (2:Int) (min (6:Int) (script_1.length : Int))))) (rps_cons rp_cst (rps_cons (rp_blt (v := (D.int (min (6:Int) (script_1.length : Int)))) (rps_cons rp_cst (rps_cons (rp_blt (v := (D.int (script_1.length : Int))) (rps_cons (rp_var rfl) rps_nil) bl_lenr) rps_nil)) bk_min2) rps_nil)) bk_max2) (rx_nil qr_1))) rfl ?_ ?_
    · rintro k_26 _ ⟨z_16, z_17, z_18, z_19, z_20, z_21, z_22, z_23⟩ nx_24 bk_25
      refine ⟨_, rfl, ?_⟩
      show RK _ _ _ [Sl.val ((dR D.int) script_1), z_16, Sl.val (dPt turn_3), Sl.val (dBody body_6), Sl.val (dPt place_14), Sl.val (dSite site_15), Sl.val (D.int k_26), z_18, z_19, z_20, z_21, z_22, z_23, Sl.un, Sl.un] (m_law_L1 F script_1 turn_3 body_6 place_14 site_15 k_26 nx_24 bk_25) _ _ _
      unfold m_law_L1
      refine rk_asg (g := fun row_27 => [Sl.val ((dR D.int) script_1), Sl.val (D.int row_27), Sl.val (dPt turn_3), Sl.val (dBody body_6), Sl.val (dPt place_14), Sl.val (dSite site_15), Sl.val (D.int k_26), z_18, z_19, z_20, z_21, z_22, z_23, Sl.un, Sl.un]) (re_call (cal := C_law_row) (n := D.int) rfl (rx_p (rp_var rfl) (rx_p (rp_add rp_cst (rp_var rfl)) (rx_nil (q_law_row script_1 ((2:Int) + k_26)))))) (fun _ => rfl) (fun row_27 => ?_)
      refine rk_asg (g := fun tick_28 => [Sl.val ((dR D.int) script_1), Sl.val (D.int row_27), Sl.val (dPt turn_3), Sl.val (dBody body_6), Sl.val (dPt place_14), Sl.val (dSite site_15), Sl.val (D.int k_26), Sl.val (D.int tick_28), z_19, z_20, z_21, z_22, z_23, Sl.un, Sl.un]) (re_bin (rx_p (rp_var rfl) (rx_p rp_cst (rx_nil qb_mod)))) (fun _ => rfl) (fun tick_28 => ?_)
      refine rk_tgt (g := fun p_29 => [Sl.val ((dR D.int) script_1), Sl.val (D.int row_27), Sl.val (dPt turn_3), Sl.val (dBody body_6), Sl.val (dPt place_14), Sl.val (dSite site_15), Sl.val (D.int k_26), Sl.val (D.int tick_28), z_19, z_20, z_21, Sl.val (dPt p_29.1), Sl.val (D.int p_29.2), Sl.un, Sl.un]) (re_call (cal := C_law_station) (n := (d2 dPt D.int)) rfl (rx_p (rp_var rfl) (rx_p (rp_var rfl) (rx_p (rp_var rfl) (rx_nil (q_law_station turn_3 place_14 tick_28)))))) (fun _ => rfl) (fun p_29 => ?_)
      refine rk_ite (rt_not (rt_bl (re_call (cal := C_law_encloses) (n := D.bl) rfl (rx_e (n := dBox) (re_call (cal := C_site_at) (n := dBox) rfl (rx_p (rp_var rfl) (rx_p (rp_var rfl) (rx_p (rp_var rfl) (rx_nil (q_site_at F body_6 site_15 tick_28)))))) (fun a_30 => (rx_p (rp_var rfl) (rx_p (rp_var rfl) (rx_nil (q_law_encloses a_30 p_29.1 p_29.2))))))))) ?_ ?_
      · exact rk_retp (a := false) trivial rp_cst
      · refine rk_nil ?_
        refine rk_asg (g := fun last_33 => [Sl.val ((dR D.int) script_1), Sl.val (D.int row_27), Sl.val (dPt turn_3), Sl.val (dBody body_6), Sl.val (dPt place_14), Sl.val (dSite site_15), Sl.val (D.int k_26), Sl.val (D.int tick_28), Sl.val (D.int last_33), z_20, z_21, Sl.val (dPt p_29.1), Sl.val (D.int p_29.2), Sl.un, Sl.un]) (re_bin (rx_p (rp_var rfl) (rx_e (n := D.int) (re_bin (rx_e (n := D.int) (re_bin (rx_p (rp_var rfl) (rx_p rp_cst (rx_nil qb_fdiv)))) (fun a_31 => (rx_p rp_cst (rx_nil qb_mod))))) (fun a_32 => (rx_nil qb_add))))) (fun _ => rfl) (fun last_33 => ?_)
        refine rk_asg (g := fun boxes_36 => [Sl.val ((dR D.int) script_1), Sl.val (D.int row_27), Sl.val (dPt turn_3), Sl.val (dBody body_6), Sl.val (dPt place_14), Sl.val (dSite site_15), Sl.val (D.int k_26), Sl.val (D.int tick_28), Sl.val (D.int last_33), Sl.val ((dL dBox) boxes_36), z_21, Sl.val (dPt p_29.1), Sl.val (D.int p_29.2), Sl.un, Sl.un]) (re_comp (n := D.int) (m := dBox) (rie_rng (rx_p (rp_add (rp_sub (rp_var rfl) (rp_var rfl)) rp_cst) (rx_nil qr_1))) (fun l_35 => (rc_e (n := D.int) (m := dBox) (fun j_34 => ⟨_, rfl, (re_call (cal := C_site_at) (n := dBox) rfl (rx_p (rp_var rfl) (rx_p (rp_var rfl) (rx_p (rp_add (rp_var rfl) (rp_var rfl)) (rx_nil (q_site_at F body_6 site_15 (tick_28 + j_34)))))))⟩)))) (fun _ => rfl) (fun boxes_36 => ?_)
        refine rk_asg (g := fun hull_52 => [Sl.val ((dR D.int) script_1), Sl.val (D.int row_27), Sl.val (dPt turn_3), Sl.val (dBody body_6), Sl.val (dPt place_14), Sl.val (dSite site_15), Sl.val (D.int k_26), Sl.val (D.int tick_28), Sl.val (D.int last_33), Sl.val ((dL dBox) boxes_36), Sl.val (dBox hull_52), Sl.val (dPt p_29.1), Sl.val (D.int p_29.2), Sl.un, Sl.un]) (re_tcomps (m := dBox) (ri_rng (n := 3) rp_cst (fun _ h => ⟨by decide, h⟩)) (rm_e (m := dIv) rfl (re_tup (n := dIv) (rx_e (n := D.int) (re_blt (n := D.int) (rx_p (rp_comp (n := dBox) (m := D.int) (l := boxes_36) (ri_lst (rp_var rfl)) (rc_p (n := dBox) (m := D.int) (f := (fun (box_37 : Box) => box_37.1.1)) (fun box_37 => ⟨_, rfl, (rp_idx (v := (D.int box_37.1.1)) (rp_idx (v := (dIv box_37.1)) (rp_var rfl) (rp_var rfl) (by exact fun _ h => h)) rp_cst (by exact fun _ h => h))⟩))) (rx_nil (ql_min (l := (boxes_36.map (fun (box_37 : Box) => box_37.1.1))))))) (fun a_39 => (rx_e (n := D.int) (re_blt (n := D.int) (rx_p (rp_comp (n := dBox) (m := D.int) (l := boxes_36) (ri_lst (rp_var rfl)) (rc_p (n := dBox) (m := D.int) (f := (fun (box_38 : Box) => box_38.1.2)) (fun box_38 => ⟨_, rfl, (rp_idx (v := (D.int box_38.1.2)) (rp_idx (v := (dIv box_38.1)) (rp_var rfl) (rp_var rfl) (by exact fun _ h => h)) rp_cst (by exact fun _ h => h))⟩))) (rx_nil (ql_max (l := (boxes_36.map (fun (box_38 : Box) => box_38.1.2))))))) (fun a_40 => (rx_nil ⟨_, rfl, rfl⟩)))))) (fun b_49 => (rm_e (m := dIv) rfl (re_tup (n := dIv) (rx_e (n := D.int) (re_blt (n := D.int) (rx_p (rp_comp (n := dBox) (m := D.int) (l := boxes_36) (ri_lst (rp_var rfl)) (rc_p (n := dBox) (m := D.int) (f := (fun (box_41 : Box) => box_41.2.1.1)) (fun box_41 => ⟨_, rfl, (rp_idx (v := (D.int box_41.2.1.1)) (rp_idx (v := (dIv box_41.2.1)) (rp_var rfl) (rp_var rfl) (by exact fun _ h => h)) rp_cst (by exact fun _ h => h))⟩))) (rx_nil (ql_min (l := (boxes_36.map (fun (box_41 : Box) => box_41.2.1.1))))))) (fun a_43 => (rx_e (n := D.int) (re_blt (n := D.int) (rx_p (rp_comp (n := dBox) (m := D.int) (l := boxes_36) (ri_lst (rp_var rfl)) (rc_p (n := dBox) (m := D.int) (f := (fun (box_42 : Box) => box_42.2.1.2)) (fun box_42 => ⟨_, rfl, (rp_idx (v := (D.int box_42.2.1.2)) (rp_idx (v := (dIv box_42.2.1)) (rp_var rfl) (rp_var rfl) (by exact fun _ h => h)) rp_cst (by exact fun _ h => h))⟩))) (rx_nil (ql_max (l := (boxes_36.map (fun (box_42 : Box) => box_42.2.1.2))))))) (fun a_44 => (rx_nil ⟨_, rfl, rfl⟩)))))) (fun b_50 => (rm_e (m := dIv) rfl (re_tup (n := dIv) (rx_e (n := D.int) (re_blt (n := D.int) (rx_p (rp_comp (n := dBox) (m := D.int) (l := boxes_36) (ri_lst (rp_var rfl)) (rc_p (n := dBox) (m := D.int) (f := (fun (box_45 : Box) => box_45.2.2.1)) (fun box_45 => ⟨_, rfl, (rp_idx (v := (D.int box_45.2.2.1)) (rp_idx (v := (dIv box_45.2.2)) (rp_var rfl) (rp_var rfl) (by exact fun _ h => h)) rp_cst (by exact fun _ h => h))⟩))) (rx_nil (ql_min (l := (boxes_36.map (fun (box_45 : Box) => box_45.2.2.1))))))) (fun a_47 => (rx_e (n := D.int) (re_blt (n := D.int) (rx_p (rp_comp (n := dBox) (m := D.int) (l := boxes_36) (ri_lst (rp_var rfl)) (rc_p (n := dBox) (m := D.int) (f := (fun (box_46 : Box) => box_46.2.2.2)) (fun box_46 => ⟨_, rfl, (rp_idx (v := (D.int box_46.2.2.2)) (rp_idx (v := (dIv box_46.2.2)) (rp_var rfl) (rp_var rfl) (by exact fun _ h => h)) rp_cst (by exact fun _ h => h))⟩))) (rx_nil (ql_max (l := (boxes_36.map (fun (box_46 : Box) => box_46.2.2.2))))))) (fun a_48 => (rx_nil ⟨_, rfl, rfl⟩)))))) (fun b_51 => (rm_nil ⟨_, rfl, rfl⟩)))))))) (fun _ => rfl) (fun hull_52 => ?_)
        refine rk_ite (rt_cmp (rx_e (n := dBox) (re_call (cal := C_site_over) (n := dBox) rfl (rx_p (rp_var rfl) (rx_p (rp_var rfl) (rx_p (rp_var rfl) (rx_p (rp_var rfl) (rx_nil (q_site_over F body_6 site_15 tick_28 last_33))))))) (fun a_53 => (rx_p (rp_var rfl) (rx_nil (qc (ck_ne (ck_eq (n := dBox) (a := a_53) (b := hull_52))))))))) ?_ ?_
        · exact rk_retp (a := false) trivial rp_cst
        · refine rk_nil ?_
          exact rk_nil (nx_i () ((Sl.val (D.int row_27), Sl.val (D.int k_26), Sl.val (D.int tick_28), Sl.val (D.int last_33), Sl.val ((dL dBox) boxes_36), Sl.val (dBox hull_52), Sl.val (dPt p_29.1), Sl.val (D.int p_29.2))))
    · rintro _ ⟨z_54, z_55, z_56, z_57, z_58, z_59, z_60, z_61⟩
      show RK _ _ _ [Sl.val ((dR D.int) script_1), z_54, Sl.val (dPt turn_3), Sl.val (dBody body_6), Sl.val (dPt place_14), Sl.val (dSite site_15), z_55, z_56, z_57, z_58, z_59, z_60, z_61, Sl.un, Sl.un] ((Rs.ok true)) _ _ _
      exact rk_retp (a := true) trivial rp_cst
  · refine rk_ite (rt_cmp (rx_e (n := D.int) (re_bin (rx_p (rp_var rfl) (rx_p rp_cst (rx_nil qb_mod)))) (fun a_9 => (rx_p rp_cst (rx_nil (qc (fun _ h => h))))))) ?_ ?_
    · refine rk_asg (g := fun place_13 => [Sl.val ((dR D.int) script_1), Sl.val (D.int row_2), Sl.val (dPt turn_3), Sl.val (dBody body_6), Sl.val (dPt place_13), Sl.un, Sl.un, Sl.un, Sl.un, Sl.un, Sl.un, Sl.un, Sl.un, Sl.un, Sl.un]) (re_tup (n := dPt) (rx_e (n := D.int) (re_bin (rx_p (rp_idx (v := (D.int place_8.1)) (rp_var rfl) rp_cst (by exact fun _ h => h)) (rx_p (rp_powc (v := 1000000000) rp_cst rp_cst (cpq (by decide) (by decide +kernel)) (by decide +kernel)) (rx_nil qb_mul)))) (fun a_11 => (rx_e (n := D.int) (re_bin (rx_e (n := D.int) (re_bin (rx_p (rp_idx (v := (D.int place_8.2.1)) (rp_var rfl) rp_cst (by exact fun _ h => h)) (rx_p (rp_powc (v := 1000000000) rp_cst rp_cst (cpq (by decide) (by decide +kernel)) (by decide +kernel)) (rx_nil qb_mul)))) (fun a_10 => (rx_p rp_cst (rx_nil qb_add))))) (fun a_12 => (rx_p (rp_idx (v := (D.int place_8.2.2)) (rp_var rfl) rp_cst (by exact fun _ h => h)) (rx_nil ⟨_, rfl, rfl⟩))))))) (fun _ => rfl) (fun place_13 => ?_)
      exact rk_nil (m_law_J1_k (place_13) (()))
    · exact rk_nil (m_law_J1_k (place_8) (()))
end
end M
abbrev fs_law : FS := fsLaw
def C_law : Cal := { nm := "law", ar := 1, dfl := [], fs := fs_law }
namespace M
open PySem PySem.Spec L2
noncomputable section
local macro_rules | `(tactic| fail "rs23") => `(tactic| try simp (config := {decide := true, dsimp := false, implicitDefEqProofs := false}) only [mulR_ok, divR_ok, modR_ok, isqrtR_ok, rngR1_0, rngR1_1, rngR1_2, rngR1_3, rngR1_4, rngR1_5, rngR1_6, rngR_16, rngR_13, idxR_0, idxR_1, idxR_2, idxR_3, idxR_4, idxR_5, idxR_m1_1, idxR_m1_2, idxR_m1_3, idxR_last, pushR_ok, catR_ok, forC_nil, forC_cons, mapR_nil, mapR_cons, unO_some, mtO_none, mtO_some, minR_1, minR_2, minR_3, minR_4, maxR_1, maxR_2, maxR_3, maxR_4, andR_okk, orR_okk, andR_dec, orR_dec, andR_ok, orR_ok, iteR_not, iteR_nbl, cnd_t, cnd_f, iteR_ok, iteR_bl, decide_eq_true_eq, Rs.bind_ok, Rs.bind_er, Rs.bind_no, Rs.bind_assoc, noE_ok, List.nil_append, List.cons_append, List.length_cons, List.length_nil, Rs.sat_ok, Rs.sat_er, Rs.sat_no, if_true, if_false, reduceIte, Bool.false_eq_true, decide_true, decide_false, not_true_eq_false, not_false_eq_true, List.map_cons, List.map_nil, List.zip_cons_cons, List.zip_nil_left, List.zip_nil_right, Int.reduceAdd, Int.reduceSub, Int.reduceMul, Int.reduceMod, Int.reduceDiv, Int.reduceEq, Int.reduceNeg, Int.reduceLT, Int.reduceLE, Bool.not_true, Bool.not_false, Option.isSome_some, Option.isSome_none, Bool.and_true, Bool.true_and, Bool.and_false, Bool.false_and, Bool.or_false, Bool.or_true, Bool.false_or, Bool.true_or, reduceCtorEq, ne_eq, true_and, and_true, Int.zero_add, Int.add_zero, Int.sub_zero, m_check_ok, m_law_turned_ok, m_law_station_ok, m_law_is_number_ok, m_law_encloses_ok, m_rounded_ok, m_products_ok, m_limited_ok, m_together_ok, m_unit_power_ok, m_plus_ok, m_times_ok, m_site_at_ok, m_wider_ok, m_site_over_ok])
theorem hullF {f : Int → Box} {g : Box → Iv} (hg : ∀ x y, g (bHull x y) = iHull (g x) (g y)) : ∀ (l : List Int) (x : Box), g (l.foldl (fun x t => bHull x (f t)) x) = (minL (g x).1 (l.map fun t => (g (f t)).1), maxL (g x).2 (l.map fun t => (g (f t)).2))
  | [], x => rfl
  | a :: l, x => by
    rw [List.foldl_cons, hullF hg l, hg, List.map_cons, List.map_cons]
    show (minL (min _ _) _, maxL (max _ _) _) = (minL (if _ then _ else _) _, maxL (if _ then _ else _) _)
    congr 2
    · split <;> omega
    · split <;> omega
theorem law_true (ns : List Int) (h1 : ns.length ≤ 63) (h2 : ∀ z ∈ ns, Builtin.Int.intBits z ≤ 1048576) : ∃ F, (m_law F ns).sat (fun v => v = true) (fun _ => False) := by
  refine ⟨30, ?_⟩
  obtain ⟨r, er, hr, br⟩ := m_law_row_ex (ns := ns) (k := 0) (by omega) (by omega) h2
  obtain ⟨q, eq, hq, bq⟩ := m_law_row_ex (ns := ns) (k := 1) (by omega) (by omega) h2
  obtain ⟨w, ew, w1, w2, w3⟩ := m_law_turn_ex hr
  obtain ⟨p, ep, p0, hp⟩ := m_law_site_ex hq
  have cw : circ w := ⟨w3, w1⟩
  obtain ⟨⟨c1, c2⟩, c3, c4⟩ := circ_bd cw
  have bw : BdP w 20 := ⟨bdOf (B := 10 ^ 6) 20 (by omega) (by omega), bdOf (B := 10 ^ 6) 20 (by omega) (by omega), bdOf (B := 10 ^ 6) 20 (by omega) (by omega)⟩
  have hb : Body.Ok ⟨1 + r % 1000, 0, w⟩ := body_ok (by omega) (by omega) (by decide) (by decide) ⟨w1, w2, w3⟩
  have bp : BdP p 10 := hp.bd 10
  have fin : ∀ p : Pt, p ≠ (0, 0, 0) → nP (10 ^ 12) p → (m_law_J1 30 ns w ⟨1 + r % 1000, 0, w⟩ p).sat (fun v => v = true) (fun _ => False) := by
    intro p p0 hp
    have bp : BdP p 40 := hp.bd 40
    unfold m_law_J1
    rw [m_Site___init___of (by decide +kernel) p0 (hp.mono (by decide)), Rs.bind_ok, rngR1_ok (by omega) (by omega), Rs.bind_ok]
    refine forC_all (fun k hk nx bk hnx => ?_) rfl
    rw [rngL_mem] at hk
    have bk' : Bd k 10 := bdOf (B := 1000) 10 (by omega) (by omega)
    obtain ⟨u, eu, hu, bu⟩ := m_law_row_ex (ns := ns) (k := 2 + k) (by omega) (by omega) h2
    obtain ⟨t, ht⟩ : ∃ t, u % 31 = t := ⟨_, rfl⟩
    obtain ⟨n, hn⟩ : ∃ n, u / 31 % 5 = n := ⟨_, rfl⟩
    have t0 : 0 ≤ t := by omega
    have t1 : t ≤ 30 := by omega
    have n0 : 0 ≤ n := by omega
    have n1 : n ≤ 4 := by omega
    have sa : ∀ j : Int, 0 ≤ j → j ≤ 100 → m_site_at 30 ⟨1 + r % 1000, 0, w⟩ ⟨"s", p⟩ j = .ok (siteB w p j) := fun j j0 j1 => m_site_at_ok (s := ⟨"s", p⟩) (n := 40) (by decide) cw w2 j0 (by omega) (by decide)
    have so := m_site_over_ok (F := 30) (b := ⟨1 + r % 1000, 0, w⟩) (s := ⟨"s", p⟩) (n := 40) (by decide) cw w2 t0 (show t ≤ t + n by omega) (by omega) (by decide)
    have ex := siteB_in (p := p) cw t0 (by omega)
    have bb := siteB_bd (p := p) cw t0 (by omega)
    have bt := tN_bd (w := w) t.toNat
    have bs : BdP (siteN w p t.toNat) 900 := by unfold siteN; exact BdP.of inferInstance (by omega)
    have bd : Bd (tN w t.toNat).2.2 900 := bt.b3.of (by omega)
    have en := m_law_encloses_ok (z := p.2.2) (by decide) (by decide) (by decide) ex rfl rfl (circ_tN cw _).2
    unfold m_law_L1
    rw [eu, Rs.bind_ok, modR_ok (by decide), Rs.bind_ok, ht, m_law_station_ok (by decide) t0 (by omega), Rs.bind_ok, sa t t0 (by omega), Rs.bind_ok, en, Rs.bind_ok]
    try simp (config := {decide := true, dsimp := false, implicitDefEqProofs := false}) only [hn, mulR_ok, divR_ok, modR_ok, isqrtR_ok, rngR1_0, rngR1_1, rngR1_2, rngR1_3, rngR1_4, rngR1_5, rngR1_6, rngR_16, rngR_13, idxR_0, idxR_1, idxR_2, idxR_3, idxR_4, idxR_5, idxR_m1_1, idxR_m1_2, idxR_m1_3, idxR_last, pushR_ok, catR_ok, forC_nil, forC_cons, mapR_nil, mapR_cons, unO_some, mtO_none, mtO_some, minR_1, minR_2, minR_3, minR_4, maxR_1, maxR_2, maxR_3, maxR_4, andR_okk, orR_okk, andR_dec, orR_dec, andR_ok, orR_ok, iteR_not, iteR_nbl, cnd_t, cnd_f, iteR_ok, iteR_bl, decide_eq_true_eq, Rs.bind_ok, Rs.bind_er, Rs.bind_no, Rs.bind_assoc, noE_ok, List.nil_append, List.cons_append, List.length_cons, List.length_nil, Rs.sat_ok, Rs.sat_er, Rs.sat_no, if_true, if_false, reduceIte, Bool.false_eq_true, decide_true, decide_false, not_true_eq_false, not_false_eq_true, List.map_cons, List.map_nil, List.zip_cons_cons, List.zip_nil_left, List.zip_nil_right, Int.reduceAdd, Int.reduceSub, Int.reduceMul, Int.reduceMod, Int.reduceDiv, Int.reduceEq, Int.reduceNeg, Int.reduceLT, Int.reduceLE, Bool.not_true, Bool.not_false, Option.isSome_some, Option.isSome_none, Bool.and_true, Bool.true_and, Bool.and_false, Bool.false_and, Bool.or_false, Bool.or_true, Bool.false_or, Bool.true_or, reduceCtorEq, ne_eq, true_and, and_true, Int.zero_add, Int.add_zero, Int.sub_zero, m_check_ok, m_law_turned_ok, m_law_station_ok, m_law_is_number_ok, m_law_encloses_ok, m_rounded_ok, m_products_ok, m_limited_ok, m_together_ok, m_unit_power_ok, m_plus_ok, m_times_ok, m_site_at_ok, m_wider_ok, m_site_over_ok]
    rw [show t + n - t + 1 = n + 1 by omega, rngR1_ok (by omega) (by omega), Rs.bind_ok, mapR_ok (g := fun j => siteB w p (t + j)) (fun j hj => by
      have := rngL_mem.mp hj
      exact sa _ (by omega) (by omega)), Rs.bind_ok]
    have el : (rngL 0 (n + 1)).map (fun j => siteB w p (t + j)) = siteB w p t :: (rngL (t + 1) (t + n + 1)).map (siteB w p) := by
      have h1 : rngL t (t + n + 1) = rngL t (t + 1) ++ rngL (t + 1) (t + n + 1) := rngL_app 1 t (t + n + 1) (by omega)
      have h2 : rngL t (t + 1) = [t] := by unfold rngL; rw [show (t + 1 - t).toNat = 1 by omega]; show [t + 0] = [t]; rw [Int.add_zero]
      have h3 := rngL_sh (k := t) (n + 1).toNat 0
      rw [show (0 : Int) + ((n + 1).toNat : Int) = n + 1 by omega, show (0 : Int) + t = t by omega, show n + 1 + t = t + n + 1 by omega, h1, h2] at h3
      have h4 := congrArg (List.map (siteB w p)) h3
      rw [List.map_map] at h4
      refine Eq.trans ?_ h4.symm
      refine List.map_congr_left fun j _ => ?_
      show siteB w p (t + j) = siteB w p (j + t)
      rw [Int.add_comm]
    have hull : siteO w p t (t + n) = ((minL (siteB w p t).1.1 ((rngL (t + 1) (t + n + 1)).map fun u => (siteB w p u).1.1), maxL (siteB w p t).1.2 ((rngL (t + 1) (t + n + 1)).map fun u => (siteB w p u).1.2)), (minL (siteB w p t).2.1.1 ((rngL (t + 1) (t + n + 1)).map fun u => (siteB w p u).2.1.1), maxL (siteB w p t).2.1.2 ((rngL (t + 1) (t + n + 1)).map fun u => (siteB w p u).2.1.2)), (minL (siteB w p t).2.2.1 ((rngL (t + 1) (t + n + 1)).map fun u => (siteB w p u).2.2.1), maxL (siteB w p t).2.2.2 ((rngL (t + 1) (t + n + 1)).map fun u => (siteB w p u).2.2.2))) := by
      unfold siteO
      exact Prod.ext (hullF (g := fun b => b.1) (fun _ _ => rfl) _ _) (Prod.ext (hullF (g := fun b => b.2.1) (fun _ _ => rfl) _ _) (hullF (g := fun b => b.2.2) (fun _ _ => rfl) _ _))
    rw [el]
    simp only [List.map_cons, List.map_map, minR, maxR, Rs.bind_ok, noE_ok]
    rw [so, Rs.bind_ok, hull]
    rw [iteR_ok]
    refine sat_cnd (fun z => absurd rfl z) fun _ => hnx
  unfold m_law
  try simp (config := {decide := true, dsimp := false, implicitDefEqProofs := false}) only [er, ew, eq, ep, m_Body___init___of hb, mulR_ok, divR_ok, modR_ok, isqrtR_ok, rngR1_0, rngR1_1, rngR1_2, rngR1_3, rngR1_4, rngR1_5, rngR1_6, rngR_16, rngR_13, idxR_0, idxR_1, idxR_2, idxR_3, idxR_4, idxR_5, idxR_m1_1, idxR_m1_2, idxR_m1_3, idxR_last, pushR_ok, catR_ok, forC_nil, forC_cons, mapR_nil, mapR_cons, unO_some, mtO_none, mtO_some, minR_1, minR_2, minR_3, minR_4, maxR_1, maxR_2, maxR_3, maxR_4, andR_okk, orR_okk, andR_dec, orR_dec, andR_ok, orR_ok, iteR_not, iteR_nbl, cnd_t, cnd_f, iteR_ok, iteR_bl, decide_eq_true_eq, Rs.bind_ok, Rs.bind_er, Rs.bind_no, Rs.bind_assoc, noE_ok, List.nil_append, List.cons_append, List.length_cons, List.length_nil, Rs.sat_ok, Rs.sat_er, Rs.sat_no, if_true, if_false, reduceIte, Bool.false_eq_true, decide_true, decide_false, not_true_eq_false, not_false_eq_true, List.map_cons, List.map_nil, List.zip_cons_cons, List.zip_nil_left, List.zip_nil_right, Int.reduceAdd, Int.reduceSub, Int.reduceMul, Int.reduceMod, Int.reduceDiv, Int.reduceEq, Int.reduceNeg, Int.reduceLT, Int.reduceLE, Bool.not_true, Bool.not_false, Option.isSome_some, Option.isSome_none, Bool.and_true, Bool.true_and, Bool.and_false, Bool.false_and, Bool.or_false, Bool.or_true, Bool.false_or, Bool.true_or, reduceCtorEq, ne_eq, true_and, and_true, Int.zero_add, Int.add_zero, Int.sub_zero, m_check_ok, m_law_turned_ok, m_law_station_ok, m_law_is_number_ok, m_law_encloses_ok, m_rounded_ok, m_products_ok, m_limited_ok, m_together_ok, m_unit_power_ok, m_plus_ok, m_times_ok, m_site_at_ok, m_wider_ok, m_site_over_ok]
  obtain ⟨⟨x1, x2⟩, ⟨y1, y2⟩, z1, z2⟩ := hp
  refine sat_cnd (fun z => ?_) fun z => fin p p0 ⟨by omega, by omega, by omega⟩
  fail "rs23"
  refine fin _ (fun q => ?_) ⟨by dsimp only; omega, by dsimp only; omega, by dsimp only; omega⟩
  have : p.2.1 * 1000000000 + 7 = 0 := congrArg (fun v => v.2.1) q
  omega
end
end M
theorem w_law : ∀ ds kd kx, ds.length = 1 → fs_law ds kd kx → wpSs NM AT_ P_law G_law i_law (startR 15 ds) { nx := fun _ => kd .non, rt := kd, bk := fun _ => False, ct := fun _ => False, er := fun x _ => kx x } := by
  rintro ds kd kx hl ⟨ns, rfl, h1, h2, h3⟩
  obtain ⟨F, h⟩ := M.law_true ns h1 h2
  exact M.fin_f (c := c_law) (M.k_law F ns) (M.Rs.sat_mono h (fun v e => by rw [e]; exact h3) fun _ z => z.elim)
abbrev HD (K : PySem.W.Frag) (mg : Str → Option Value) : Prop := Hd fa fn fb K mg
theorem sc_law_row : FnScope ["_law_script", "_law_k", "_law_row_here"] ["_law_script", "_law_k"] (defScope st_law_row) := ⟨rfl, rfl, rfl, by decide +kernel, rfl, by decide +kernel, by decide +kernel⟩
theorem ch_law_row : chSs NM ["_law_script", "_law_k", "_law_row_here"] BB P_law_row G_law_row i_law_row (defScope st_law_row) (defBody st_law_row) = true := by decide +kernel
theorem sc_law_turn : FnScope ["_law_row_here", "_law_turns", "_law_p", "_law_q"] ["_law_row_here"] (defScope st_law_turn) := ⟨rfl, rfl, rfl, by decide +kernel, rfl, by decide +kernel, by decide +kernel⟩
theorem ch_law_turn : chSs NM ["_law_row_here", "_law_turns", "_law_p", "_law_q"] BB P_law_turn G_law_turn i_law_turn (defScope st_law_turn) (defBody st_law_turn) = true := by decide +kernel
theorem sc_check : FnScope ["good", "name"] ["good", "name"] (defScope st_check) := ⟨rfl, rfl, rfl, by decide +kernel, rfl, by decide +kernel, by decide +kernel⟩
theorem ch_check : chSs NM ["good", "name"] BB P_check G_check i_check (defScope st_check) (defBody st_check) = true := by decide +kernel
theorem sc_Body___init__ : FnScope ["self", "mu", "oblateness", "turn", "a", "b", "n"] ["self", "mu", "oblateness", "turn"] (defScope st_Body___init__) := ⟨rfl, rfl, rfl, by decide +kernel, rfl, by decide +kernel, by decide +kernel⟩
theorem ch_Body___init__ : chSs NM ["self", "mu", "oblateness", "turn", "a", "b", "n"] BB P_Body___init__ G_Body___init__ i_Body___init__ (defScope st_Body___init__) (defBody st_Body___init__) = true := by decide +kernel
theorem sc_law_spread : FnScope ["_law_row_here", "_law_places", "_law_span", "_law_numbers", "_law_k"] ["_law_row_here", "_law_places", "_law_span"] (defScope st_law_spread) := ⟨rfl, rfl, rfl, by decide +kernel, rfl, by decide +kernel, by decide +kernel⟩
theorem ch_law_spread : chSs NM ["_law_row_here", "_law_places", "_law_span", "_law_numbers", "_law_k"] BB P_law_spread G_law_spread i_law_spread (defScope st_law_spread) (defBody st_law_spread) = true := by decide +kernel
theorem sc_law_site : FnScope ["_law_row_here", "_law_place"] ["_law_row_here"] (defScope st_law_site) := ⟨rfl, rfl, rfl, by decide +kernel, rfl, by decide +kernel, by decide +kernel⟩
theorem ch_law_site : chSs NM ["_law_row_here", "_law_place"] BB P_law_site G_law_site i_law_site (defScope st_law_site) (defBody st_law_site) = true := by decide +kernel
theorem sc_is_name : FnScope ["text", "char"] ["text"] (defScope st_is_name) := ⟨rfl, rfl, rfl, by decide +kernel, rfl, by decide +kernel, by decide +kernel⟩
theorem ch_is_name : chSs NM ["text", "char"] BB P_is_name G_is_name i_is_name (defScope st_is_name) (defBody st_is_name) = true := by decide +kernel
theorem sc_Site___init__ : FnScope ["self", "name", "place", "good", "number"] ["self", "name", "place"] (defScope st_Site___init__) := ⟨rfl, rfl, rfl, by decide +kernel, rfl, by decide +kernel, by decide +kernel⟩
theorem ch_Site___init__ : chSs NM ["self", "name", "place", "good", "number"] BB P_Site___init__ G_Site___init__ i_Site___init__ (defScope st_Site___init__) (defBody st_Site___init__) = true := by decide +kernel
theorem sc_law_turned : FnScope ["_law_turn_here", "_law_ticks", "_law_c", "_law_s", "_law_scale", "_law_k", "_law_a", "_law_b", "_law_n"] ["_law_turn_here", "_law_ticks"] (defScope st_law_turned) := ⟨rfl, rfl, rfl, by decide +kernel, rfl, by decide +kernel, by decide +kernel⟩
theorem ch_law_turned : chSs NM ["_law_turn_here", "_law_ticks", "_law_c", "_law_s", "_law_scale", "_law_k", "_law_a", "_law_b", "_law_n"] BB P_law_turned G_law_turned i_law_turned (defScope st_law_turned) (defBody st_law_turned) = true := by decide +kernel
theorem sc_law_station : FnScope ["_law_turn_here", "_law_place", "_law_ticks", "_law_c", "_law_s", "_law_scale", "_law_x", "_law_y", "_law_z"] ["_law_turn_here", "_law_place", "_law_ticks"] (defScope st_law_station) := ⟨rfl, rfl, rfl, by decide +kernel, rfl, by decide +kernel, by decide +kernel⟩
theorem ch_law_station : chSs NM ["_law_turn_here", "_law_place", "_law_ticks", "_law_c", "_law_s", "_law_scale", "_law_x", "_law_y", "_law_z"] BB P_law_station G_law_station i_law_station (defScope st_law_station) (defBody st_law_station) = true := by decide +kernel
theorem sc_law_is_number : FnScope ["_law_x"] ["_law_x"] (defScope st_law_is_number) := ⟨rfl, rfl, rfl, by decide +kernel, rfl, by decide +kernel, by decide +kernel⟩
theorem ch_law_is_number : chSs NM ["_law_x"] BB P_law_is_number G_law_is_number i_law_is_number (defScope st_law_is_number) (defBody st_law_is_number) = true := by decide +kernel
theorem sc_law_encloses : FnScope ["_law_box", "_law_there", "_law_scale", "_law_k", "_law_low", "_law_high"] ["_law_box", "_law_there", "_law_scale"] (defScope st_law_encloses) := ⟨rfl, rfl, rfl, by decide +kernel, rfl, by decide +kernel, by decide +kernel⟩
theorem ch_law_encloses : chSs NM ["_law_box", "_law_there", "_law_scale", "_law_k", "_law_low", "_law_high"] BB P_law_encloses G_law_encloses i_law_encloses (defScope st_law_encloses) (defBody st_law_encloses) = true := by decide +kernel
theorem sc_rounded : FnScope ["interval", "divisor", "low", "high"] ["interval", "divisor"] (defScope st_rounded) := ⟨rfl, rfl, rfl, by decide +kernel, rfl, by decide +kernel, by decide +kernel⟩
theorem ch_rounded : chSs NM ["interval", "divisor", "low", "high"] BB P_rounded G_rounded i_rounded (defScope st_rounded) (defBody st_rounded) = true := by decide +kernel
theorem sc_products : FnScope ["first", "second", "corners"] ["first", "second"] (defScope st_products) := ⟨rfl, rfl, rfl, by decide +kernel, rfl, by decide +kernel, by decide +kernel⟩
theorem ch_products : chSs NM ["first", "second", "corners"] BB P_products G_products i_products (defScope st_products) (defBody st_products) = true := by decide +kernel
theorem sc_limited : FnScope ["interval"] ["interval"] (defScope st_limited) := ⟨rfl, rfl, rfl, by decide +kernel, rfl, by decide +kernel, by decide +kernel⟩
theorem ch_limited : chSs NM ["interval"] BB P_limited G_limited i_limited (defScope st_limited) (defBody st_limited) = true := by decide +kernel
theorem sc_together : FnScope ["first", "second", "both", "cross", "cosine", "left", "right", "sine"] ["first", "second"] (defScope st_together) := ⟨rfl, rfl, rfl, by decide +kernel, rfl, by decide +kernel, by decide +kernel⟩
theorem ch_together : chSs NM ["first", "second", "both", "cross", "cosine", "left", "right", "sine"] BB P_together G_together i_together (defScope st_together) (defBody st_together) = true := by decide +kernel
theorem sc_unit_power : FnScope ["turn", "ticks", "power", "result", "a", "b", "n"] ["turn", "ticks"] (defScope st_unit_power) := ⟨rfl, rfl, rfl, by decide +kernel, rfl, by decide +kernel, by decide +kernel⟩
theorem ch_unit_power : chSs NM ["turn", "ticks", "power", "result", "a", "b", "n"] BB P_unit_power G_unit_power i_unit_power (defScope st_unit_power) (defBody st_unit_power) = true := by decide +kernel
theorem sc_plus : FnScope ["first", "second"] ["first", "second"] (defScope st_plus) := ⟨rfl, rfl, rfl, by decide +kernel, rfl, by decide +kernel, by decide +kernel⟩
theorem ch_plus : chSs NM ["first", "second"] BB P_plus G_plus i_plus (defScope st_plus) (defBody st_plus) = true := by decide +kernel
theorem sc_times : FnScope ["number", "interval"] ["number", "interval"] (defScope st_times) := ⟨rfl, rfl, rfl, by decide +kernel, rfl, by decide +kernel, by decide +kernel⟩
theorem ch_times : chSs NM ["number", "interval"] BB P_times G_times i_times (defScope st_times) (defBody st_times) = true := by decide +kernel
theorem sc_site_at : FnScope ["body", "site", "tick", "across", "along", "x", "y", "z", "cosine", "sine"] ["body", "site", "tick"] (defScope st_site_at) := ⟨rfl, rfl, rfl, by decide +kernel, rfl, by decide +kernel, by decide +kernel⟩
theorem ch_site_at : chSs NM ["body", "site", "tick", "across", "along", "x", "y", "z", "cosine", "sine"] BB P_site_at G_site_at i_site_at (defScope st_site_at) (defBody st_site_at) = true := by decide +kernel
theorem sc_wider : FnScope ["first", "second", "sides", "side", "other"] ["first", "second"] (defScope st_wider) := ⟨rfl, rfl, rfl, by decide +kernel, rfl, by decide +kernel, by decide +kernel⟩
theorem ch_wider : chSs NM ["first", "second", "sides", "side", "other"] BB P_wider G_wider i_wider (defScope st_wider) (defBody st_wider) = true := by decide +kernel
theorem sc_site_over : FnScope ["body", "site", "begin", "end", "box", "tick"] ["body", "site", "begin", "end"] (defScope st_site_over) := ⟨rfl, rfl, rfl, by decide +kernel, rfl, by decide +kernel, by decide +kernel⟩
theorem ch_site_over : chSs NM ["body", "site", "begin", "end", "box", "tick"] BB P_site_over G_site_over i_site_over (defScope st_site_over) (defBody st_site_over) = true := by decide +kernel
theorem sc_law : FnScope ["_law_script", "_law_row_here", "_law_turn_here", "_law_body", "_law_place", "_law_site_here", "_law_k", "_law_tick", "_law_last", "_law_boxes", "_law_hull", "_law_there", "_law_scale", "_law_j", "_law_box"] ["_law_script"] (defScope st_law) := ⟨rfl, rfl, rfl, by decide +kernel, rfl, by decide +kernel, by decide +kernel⟩
theorem ch_law : chSs NM ["_law_script", "_law_row_here", "_law_turn_here", "_law_body", "_law_place", "_law_site_here", "_law_k", "_law_tick", "_law_last", "_law_boxes", "_law_hull", "_law_there", "_law_scale", "_law_j", "_law_box"] BB P_law G_law i_law (defScope st_law) (defBody st_law) = true := by decide +kernel
section
variable {P : Program} {w : World} {K : PySem.W.Frag} {mg : Str → Option Value} {base : Heap}
theorem ge (hh : HD K mg) (G : List (Str × D)) (hG : ∀ p, p ∈ G → gloD p K = true) : GE K mg NM BB G AT_ := hh.ge (by decide +kernel) (fun h => absurd h (by decide +kernel)) hG (by decide +kernel)
theorem e_law_row (hh : HD K mg) : CalE P w K mg base NM 1 C_law_row := by
  obtain ⟨fd, F⟩ := hh.def_ 0 (d := d_law_row)
  have b := F.bindsN (ps := ["_law_script", "_law_k"]) fun _ _ _ _ _ _ us hl => match us, hl with | [_, _], _ => rfl
  have ok := def_ok (P := P) (w := w) (base := base) (k := 0) NMinj F sc_law_row (ge hh G_law_row (fun p h => (nomatch h))) (Φ := P_law_row) (fun c h => (nomatch h)) ch_law_row w_law_row
  exact ⟨fun _ => ⟨1, _, fd, _, [], [], by decide, ok, hh.glo 0, F.kp, b, .nil, fun _ => .nil⟩, fun h => absurd h (by decide +kernel), fun h => absurd rfl h⟩
theorem e_law_turn (hh : HD K mg) : CalE P w K mg base NM 1 C_law_turn := by
  obtain ⟨fd, F⟩ := hh.def_ 1 (d := d_law_turn)
  have b := F.bindsN (ps := ["_law_row_here"]) fun _ _ _ _ _ _ us hl => match us, hl with | [_], _ => rfl
  have ok := def_ok (P := P) (w := w) (base := base) (k := 0) NMinj F sc_law_turn (ge hh G_law_turn (fun p h => (nomatch h))) (Φ := P_law_turn) (fun c h => (nomatch h)) ch_law_turn w_law_turn
  exact ⟨fun _ => ⟨1, _, fd, _, [], [], by decide, ok, hh.glo 1, F.kp, b, .nil, fun _ => .nil⟩, fun h => absurd h (by decide +kernel), fun h => absurd rfl h⟩
theorem e_check (hh : HD K mg) : CalE P w K mg base NM 1 C_check := by
  obtain ⟨fd, F⟩ := hh.def_ 2 (d := d_check)
  have b := F.bindsN (ps := ["good", "name"]) fun _ _ _ _ _ _ us hl => match us, hl with | [_, _], _ => rfl
  have ok := def_ok (P := P) (w := w) (base := base) (k := 0) NMinj F sc_check (ge hh G_check (fun p h => (nomatch h))) (Φ := P_check) (fun c h => (nomatch h)) ch_check w_check
  exact ⟨fun _ => ⟨1, _, fd, _, [], [], by decide, ok, hh.glo 2, F.kp, b, .nil, fun _ => .nil⟩, fun h => absurd h (by decide +kernel), fun h => absurd rfl h⟩
theorem e_Body___init__ (hh : HD K mg) : CalE P w K mg base NM 3 C_Body___init__ := by
  obtain ⟨fd, F⟩ := hh.def_ 3 (d := d_Body___init__)
  have b := F.bindsN (ps := ["self", "mu", "oblateness", "turn"]) fun _ _ _ _ _ _ us hl => match us, hl with | [_, _, _, _], _ => rfl
  have ok := init_ok (P := P) (w := w) (base := base) (k := 1) NMinj F sc_Body___init__ (ge hh G_Body___init__ (fun p h => (nomatch h))) (Φ := P_Body___init__) (fun c h => by
    simp only [P_Body___init__, List.mem_cons, List.not_mem_nil, or_false] at h
    rcases h with rfl
    · exact (e_check hh).mono (by decide)) ch_Body___init__ (by decide) w_Body___init__
  exact ⟨fun h => absurd h (by decide +kernel), fun _ => ⟨2, _, fd, _, [], [], by decide, ok, hh.glo 21, He.mkr_ok (hh.says.d.fact 39 rfl), b, .nil, fun _ => .nil⟩, fun _ h => absurd rfl h⟩
theorem e_law_spread (hh : HD K mg) : CalE P w K mg base NM 1 C_law_spread := by
  obtain ⟨fd, F⟩ := hh.def_ 4 (d := d_law_spread)
  have b := F.bindsN (ps := ["_law_row_here", "_law_places", "_law_span"]) fun _ _ _ _ _ _ us hl => match us, hl with | [_, _, _], _ => rfl
  have ok := def_ok (P := P) (w := w) (base := base) (k := 0) NMinj F sc_law_spread (ge hh G_law_spread (fun p h => (nomatch h))) (Φ := P_law_spread) (fun c h => (nomatch h)) ch_law_spread w_law_spread
  exact ⟨fun _ => ⟨1, _, fd, _, [], [], by decide, ok, hh.glo 3, F.kp, b, .nil, fun _ => .nil⟩, fun h => absurd h (by decide +kernel), fun h => absurd rfl h⟩
theorem e_law_site (hh : HD K mg) : CalE P w K mg base NM 2 C_law_site := by
  obtain ⟨fd, F⟩ := hh.def_ 5 (d := d_law_site)
  have b := F.bindsN (ps := ["_law_row_here"]) fun _ _ _ _ _ _ us hl => match us, hl with | [_], _ => rfl
  have ok := def_ok (P := P) (w := w) (base := base) (k := 1) NMinj F sc_law_site (ge hh G_law_site (fun p h => (nomatch h))) (Φ := P_law_site) (fun c h => by
    simp only [P_law_site, List.mem_cons, List.not_mem_nil, or_false] at h
    rcases h with rfl
    · exact (e_law_spread hh).mono (by decide)) ch_law_site w_law_site
  exact ⟨fun _ => ⟨2, _, fd, _, [], [], by decide, ok, hh.glo 4, F.kp, b, .nil, fun _ => .nil⟩, fun h => absurd h (by decide +kernel), fun h => absurd rfl h⟩
theorem e_is_name (hh : HD K mg) : CalE P w K mg base NM 1 C_is_name := by
  obtain ⟨fd, F⟩ := hh.def_ 6 (d := d_is_name)
  have b := F.bindsN (ps := ["text"]) fun _ _ _ _ _ _ us hl => match us, hl with | [_], _ => rfl
  have ok := def_ok (P := P) (w := w) (base := base) (k := 0) NMinj F sc_is_name (ge hh G_is_name (fun p h => (nomatch h))) (Φ := P_is_name) (fun c h => (nomatch h)) ch_is_name w_is_name
  exact ⟨fun _ => ⟨1, _, fd, _, [], [], by decide, ok, hh.glo 5, F.kp, b, .nil, fun _ => .nil⟩, fun h => absurd h (by decide +kernel), fun h => absurd rfl h⟩
theorem e_Site___init__ (hh : HD K mg) : CalE P w K mg base NM 3 C_Site___init__ := by
  obtain ⟨fd, F⟩ := hh.def_ 7 (d := d_Site___init__)
  have b := F.bindsN (ps := ["self", "name", "place"]) fun _ _ _ _ _ _ us hl => match us, hl with | [_, _, _], _ => rfl
  have ok := init_ok (P := P) (w := w) (base := base) (k := 1) NMinj F sc_Site___init__ (ge hh G_Site___init__ (fun p h => by
    simp only [G_Site___init__, List.mem_cons, List.not_mem_nil, or_false] at h
    rcases h with rfl
    · exact hh.says.b 0 rfl)) (Φ := P_Site___init__) (fun c h => by
    simp only [P_Site___init__, List.mem_cons, List.not_mem_nil, or_false] at h
    rcases h with rfl | rfl
    · exact (e_check hh).mono (by decide)
    · exact (e_is_name hh).mono (by decide)) ch_Site___init__ (by decide) w_Site___init__
  exact ⟨fun h => absurd h (by decide +kernel), fun _ => ⟨2, _, fd, _, [], [], by decide, ok, hh.glo 22, He.mkr_ok (hh.says.d.fact 40 rfl), b, .nil, fun _ => .nil⟩, fun _ h => absurd rfl h⟩
theorem e_law_turned (hh : HD K mg) : CalE P w K mg base NM 1 C_law_turned := by
  obtain ⟨fd, F⟩ := hh.def_ 8 (d := d_law_turned)
  have b := F.bindsN (ps := ["_law_turn_here", "_law_ticks"]) fun _ _ _ _ _ _ us hl => match us, hl with | [_, _], _ => rfl
  have ok := def_ok (P := P) (w := w) (base := base) (k := 0) NMinj F sc_law_turned (ge hh G_law_turned (fun p h => (nomatch h))) (Φ := P_law_turned) (fun c h => (nomatch h)) ch_law_turned w_law_turned
  exact ⟨fun _ => ⟨1, _, fd, _, [], [], by decide, ok, hh.glo 6, F.kp, b, .nil, fun _ => .nil⟩, fun h => absurd h (by decide +kernel), fun h => absurd rfl h⟩
theorem e_law_station (hh : HD K mg) : CalE P w K mg base NM 2 C_law_station := by
  obtain ⟨fd, F⟩ := hh.def_ 9 (d := d_law_station)
  have b := F.bindsN (ps := ["_law_turn_here", "_law_place", "_law_ticks"]) fun _ _ _ _ _ _ us hl => match us, hl with | [_, _, _], _ => rfl
  have ok := def_ok (P := P) (w := w) (base := base) (k := 1) NMinj F sc_law_station (ge hh G_law_station (fun p h => (nomatch h))) (Φ := P_law_station) (fun c h => by
    simp only [P_law_station, List.mem_cons, List.not_mem_nil, or_false] at h
    rcases h with rfl
    · exact (e_law_turned hh).mono (by decide)) ch_law_station w_law_station
  exact ⟨fun _ => ⟨2, _, fd, _, [], [], by decide, ok, hh.glo 7, F.kp, b, .nil, fun _ => .nil⟩, fun h => absurd h (by decide +kernel), fun h => absurd rfl h⟩
theorem e_law_is_number (hh : HD K mg) : CalE P w K mg base NM 1 C_law_is_number := by
  obtain ⟨fd, F⟩ := hh.def_ 10 (d := d_law_is_number)
  have b := F.bindsN (ps := ["_law_x"]) fun _ _ _ _ _ _ us hl => match us, hl with | [_], _ => rfl
  have ok := def_ok (P := P) (w := w) (base := base) (k := 0) NMinj F sc_law_is_number (ge hh G_law_is_number (fun p h => (nomatch h))) (Φ := P_law_is_number) (fun c h => (nomatch h)) ch_law_is_number w_law_is_number
  exact ⟨fun _ => ⟨1, _, fd, _, [], [], by decide, ok, hh.glo 8, F.kp, b, .nil, fun _ => .nil⟩, fun h => absurd h (by decide +kernel), fun h => absurd rfl h⟩
theorem e_law_encloses (hh : HD K mg) : CalE P w K mg base NM 2 C_law_encloses := by
  obtain ⟨fd, F⟩ := hh.def_ 11 (d := d_law_encloses)
  have b := F.bindsN (ps := ["_law_box", "_law_there", "_law_scale"]) fun _ _ _ _ _ _ us hl => match us, hl with | [_, _, _], _ => rfl
  have ok := def_ok (P := P) (w := w) (base := base) (k := 1) NMinj F sc_law_encloses (ge hh G_law_encloses (fun p h => (nomatch h))) (Φ := P_law_encloses) (fun c h => by
    simp only [P_law_encloses, List.mem_cons, List.not_mem_nil, or_false] at h
    rcases h with rfl
    · exact (e_law_is_number hh).mono (by decide)) ch_law_encloses w_law_encloses
  exact ⟨fun _ => ⟨2, _, fd, _, [], [], by decide, ok, hh.glo 9, F.kp, b, .nil, fun _ => .nil⟩, fun h => absurd h (by decide +kernel), fun h => absurd rfl h⟩
theorem e_rounded (hh : HD K mg) : CalE P w K mg base NM 1 C_rounded := by
  obtain ⟨fd, F⟩ := hh.def_ 12 (d := d_rounded)
  have b := F.bindsN (ps := ["interval", "divisor"]) fun _ _ _ _ _ _ us hl => match us, hl with | [_, _], _ => rfl
  have ok := def_ok (P := P) (w := w) (base := base) (k := 0) NMinj F sc_rounded (ge hh G_rounded (fun p h => (nomatch h))) (Φ := P_rounded) (fun c h => (nomatch h)) ch_rounded w_rounded
  exact ⟨fun _ => ⟨1, _, fd, _, [], [], by decide, ok, hh.glo 10, F.kp, b, .nil, fun _ => .nil⟩, fun h => absurd h (by decide +kernel), fun h => absurd rfl h⟩
theorem e_products (hh : HD K mg) : CalE P w K mg base NM 1 C_products := by
  obtain ⟨fd, F⟩ := hh.def_ 13 (d := d_products)
  have b := F.bindsN (ps := ["first", "second"]) fun _ _ _ _ _ _ us hl => match us, hl with | [_, _], _ => rfl
  have ok := def_ok (P := P) (w := w) (base := base) (k := 0) NMinj F sc_products (ge hh G_products (fun p h => (nomatch h))) (Φ := P_products) (fun c h => (nomatch h)) ch_products w_products
  exact ⟨fun _ => ⟨1, _, fd, _, [], [], by decide, ok, hh.glo 11, F.kp, b, .nil, fun _ => .nil⟩, fun h => absurd h (by decide +kernel), fun h => absurd rfl h⟩
theorem e_limited (hh : HD K mg) : CalE P w K mg base NM 1 C_limited := by
  obtain ⟨fd, F⟩ := hh.def_ 14 (d := d_limited)
  have b := F.bindsN (ps := ["interval"]) fun _ _ _ _ _ _ us hl => match us, hl with | [_], _ => rfl
  have ok := def_ok (P := P) (w := w) (base := base) (k := 0) NMinj F sc_limited (ge hh G_limited (fun p h => by
    simp only [G_limited, List.mem_cons, List.not_mem_nil, or_false] at h
    rcases h with rfl
    · exact hh.says.b 1 rfl)) (Φ := P_limited) (fun c h => (nomatch h)) ch_limited w_limited
  exact ⟨fun _ => ⟨1, _, fd, _, [], [], by decide, ok, hh.glo 12, F.kp, b, .nil, fun _ => .nil⟩, fun h => absurd h (by decide +kernel), fun h => absurd rfl h⟩
theorem e_together (hh : HD K mg) : CalE P w K mg base NM 2 C_together := by
  obtain ⟨fd, F⟩ := hh.def_ 15 (d := d_together)
  have b := F.bindsN (ps := ["first", "second"]) fun _ _ _ _ _ _ us hl => match us, hl with | [_, _], _ => rfl
  have ok := def_ok (P := P) (w := w) (base := base) (k := 1) NMinj F sc_together (ge hh G_together (fun p h => by
    simp only [G_together, List.mem_cons, List.not_mem_nil, or_false] at h
    rcases h with rfl
    · exact hh.says.b 1 rfl)) (Φ := P_together) (fun c h => by
    simp only [P_together, List.mem_cons, List.not_mem_nil, or_false] at h
    rcases h with rfl | rfl | rfl
    · exact (e_products hh).mono (by decide)
    · exact (e_rounded hh).mono (by decide)
    · exact (e_limited hh).mono (by decide)) ch_together w_together
  exact ⟨fun _ => ⟨2, _, fd, _, [], [], by decide, ok, hh.glo 13, F.kp, b, .nil, fun _ => .nil⟩, fun h => absurd h (by decide +kernel), fun h => absurd rfl h⟩
theorem e_unit_power (hh : HD K mg) : CalE P w K mg base NM 3 C_unit_power := by
  obtain ⟨fd, F⟩ := hh.def_ 16 (d := d_unit_power)
  have b := F.bindsN (ps := ["turn", "ticks"]) fun _ _ _ _ _ _ us hl => match us, hl with | [_, _], _ => rfl
  have ok := def_ok (P := P) (w := w) (base := base) (k := 2) NMinj F sc_unit_power (ge hh G_unit_power (fun p h => by
    simp only [G_unit_power, List.mem_cons, List.not_mem_nil, or_false] at h
    rcases h with rfl
    · exact hh.says.b 1 rfl)) (Φ := P_unit_power) (fun c h => by
    simp only [P_unit_power, List.mem_cons, List.not_mem_nil, or_false] at h
    rcases h with rfl | rfl
    · exact (e_rounded hh).mono (by decide)
    · exact (e_together hh).mono (by decide)) ch_unit_power w_unit_power
  exact ⟨fun _ => ⟨3, _, fd, _, [], [], by decide, ok, hh.glo 14, F.kp, b, .nil, fun _ => .nil⟩, fun h => absurd h (by decide +kernel), fun h => absurd rfl h⟩
theorem e_plus (hh : HD K mg) : CalE P w K mg base NM 1 C_plus := by
  obtain ⟨fd, F⟩ := hh.def_ 17 (d := d_plus)
  have b := F.bindsN (ps := ["first", "second"]) fun _ _ _ _ _ _ us hl => match us, hl with | [_, _], _ => rfl
  have ok := def_ok (P := P) (w := w) (base := base) (k := 0) NMinj F sc_plus (ge hh G_plus (fun p h => (nomatch h))) (Φ := P_plus) (fun c h => (nomatch h)) ch_plus w_plus
  exact ⟨fun _ => ⟨1, _, fd, _, [], [], by decide, ok, hh.glo 15, F.kp, b, .nil, fun _ => .nil⟩, fun h => absurd h (by decide +kernel), fun h => absurd rfl h⟩
theorem e_times (hh : HD K mg) : CalE P w K mg base NM 1 C_times := by
  obtain ⟨fd, F⟩ := hh.def_ 18 (d := d_times)
  have b := F.bindsN (ps := ["number", "interval"]) fun _ _ _ _ _ _ us hl => match us, hl with | [_, _], _ => rfl
  have ok := def_ok (P := P) (w := w) (base := base) (k := 0) NMinj F sc_times (ge hh G_times (fun p h => (nomatch h))) (Φ := P_times) (fun c h => (nomatch h)) ch_times w_times
  exact ⟨fun _ => ⟨1, _, fd, _, [], [], by decide, ok, hh.glo 16, F.kp, b, .nil, fun _ => .nil⟩, fun h => absurd h (by decide +kernel), fun h => absurd rfl h⟩
theorem e_site_at (hh : HD K mg) : CalE P w K mg base NM 4 C_site_at := by
  obtain ⟨fd, F⟩ := hh.def_ 19 (d := d_site_at)
  have b := F.bindsN (ps := ["body", "site", "tick"]) fun _ _ _ _ _ _ us hl => match us, hl with | [_, _, _], _ => rfl
  have ok := def_ok (P := P) (w := w) (base := base) (k := 3) NMinj F sc_site_at (ge hh G_site_at (fun p h => by
    simp only [G_site_at, List.mem_cons, List.not_mem_nil, or_false] at h
    rcases h with rfl
    · exact hh.says.b 1 rfl)) (Φ := P_site_at) (fun c h => by
    simp only [P_site_at, List.mem_cons, List.not_mem_nil, or_false] at h
    rcases h with rfl | rfl | rfl | rfl
    · exact (e_unit_power hh).mono (by decide)
    · exact (e_plus hh).mono (by decide)
    · exact (e_times hh).mono (by decide)
    · exact (e_rounded hh).mono (by decide)) ch_site_at w_site_at
  exact ⟨fun _ => ⟨4, _, fd, _, [], [], by decide, ok, hh.glo 17, F.kp, b, .nil, fun _ => .nil⟩, fun h => absurd h (by decide +kernel), fun h => absurd rfl h⟩
theorem e_wider (hh : HD K mg) : CalE P w K mg base NM 1 C_wider := by
  obtain ⟨fd, F⟩ := hh.def_ 20 (d := d_wider)
  have b := F.bindsN (ps := ["first", "second"]) fun _ _ _ _ _ _ us hl => match us, hl with | [_, _], _ => rfl
  have ok := def_ok (P := P) (w := w) (base := base) (k := 0) NMinj F sc_wider (ge hh G_wider (fun p h => (nomatch h))) (Φ := P_wider) (fun c h => (nomatch h)) ch_wider w_wider
  exact ⟨fun _ => ⟨1, _, fd, _, [], [], by decide, ok, hh.glo 18, F.kp, b, .nil, fun _ => .nil⟩, fun h => absurd h (by decide +kernel), fun h => absurd rfl h⟩
theorem e_site_over (hh : HD K mg) : CalE P w K mg base NM 5 C_site_over := by
  obtain ⟨fd, F⟩ := hh.def_ 21 (d := d_site_over)
  have b := F.bindsN (ps := ["body", "site", "begin", "end"]) fun _ _ _ _ _ _ us hl => match us, hl with | [_, _, _, _], _ => rfl
  have ok := def_ok (P := P) (w := w) (base := base) (k := 4) NMinj F sc_site_over (ge hh G_site_over (fun p h => (nomatch h))) (Φ := P_site_over) (fun c h => by
    simp only [P_site_over, List.mem_cons, List.not_mem_nil, or_false] at h
    rcases h with rfl | rfl
    · exact (e_site_at hh).mono (by decide)
    · exact (e_wider hh).mono (by decide)) ch_site_over w_site_over
  exact ⟨fun _ => ⟨5, _, fd, _, [], [], by decide, ok, hh.glo 19, F.kp, b, .nil, fun _ => .nil⟩, fun h => absurd h (by decide +kernel), fun h => absurd rfl h⟩
theorem e_law (hh : HD K mg) : CalE P w K mg base NM 6 C_law := by
  obtain ⟨fd, F⟩ := hh.def_ 22 (d := d_law)
  have b := F.bindsN (ps := ["_law_script"]) fun _ _ _ _ _ _ us hl => match us, hl with | [_], _ => rfl
  have ok := def_ok (P := P) (w := w) (base := base) (k := 5) NMinj F sc_law (ge hh G_law (fun p h => (nomatch h))) (Φ := P_law) (fun c h => by
    simp only [P_law, List.mem_cons, List.not_mem_nil, or_false] at h
    rcases h with rfl | rfl | rfl | rfl | rfl | rfl | rfl | rfl | rfl
    · exact (e_law_row hh).mono (by decide)
    · exact (e_law_turn hh).mono (by decide)
    · exact (e_Body___init__ hh).mono (by decide)
    · exact (e_law_site hh).mono (by decide)
    · exact (e_Site___init__ hh).mono (by decide)
    · exact (e_law_station hh).mono (by decide)
    · exact (e_law_encloses hh).mono (by decide)
    · exact (e_site_at hh).mono (by decide)
    · exact (e_site_over hh).mono (by decide)) ch_law w_law
  exact ⟨fun _ => ⟨6, _, fd, _, [], [], by decide, ok, hh.glo 20, F.kp, b, .nil, fun _ => .nil⟩, fun h => absurd h (by decide +kernel), fun h => absurd rfl h⟩
end
end Q
open PySem PySem.W PySem.Calls PyProof.Rows
theorem PySem.Challenge.cw_orrery_k42_sites_are_in_their_boxes_holds : PySem.Challenge.rw_orrery_k42_sites_are_in_their_boxes.Holds := by
  w_on; o_law
  refine HandSHeadRun.head_any (r := OpenLaw.row PySem.Challenge.rw_orrery_k42_sites_are_in_their_boxes) (q := view (OpenLaw.row PySem.Challenge.rw_orrery_k42_sites_are_in_their_boxes).prog [31]) (H := Q.hk) (ob := Q.ob) (M := 12000) (loose := Q.oth) (d := HandSHeadRun.topDef (OpenLaw.row PySem.Challenge.rw_orrery_k42_sites_are_in_their_boxes).prog 31) (kwd := []) Q.ob_eq
    (by kernel_rfl) (fun s => by kernel_rfl) Q.run (by kernel_rfl) (by kernel_rfl) (by kernel_rfl) (by rfl) (by first | assumption | decide +kernel) (by decide +kernel) ⟨rfl, rfl, rfl, rfl, rfl, by decide +kernel⟩ ?hw ?hc
  case hw => w_witness2
  case hc =>
    refine Q.walk_q (l := PySem.Challenge.rw_orrery_k42_sites_are_in_their_boxes) (n := 63) (k := 6) (x := "_law_script") (CX := L2.CX0) rfl (by decide) (by kernel_rfl) ⟨rfl, by decide, by decide⟩ ?F (fun _ _ _ _ z => z)
    intro w mg fa h Y G hmg0
    obtain ⟨K, KX, c⟩ := Y
    have hmg : mg ("law" : PySem.Str) = some (.ref fa) := by
      have e : (HandSHeadRun.topDef (OpenLaw.row PySem.Challenge.rw_orrery_k42_sites_are_in_their_boxes).prog 31).name = ("law" : PySem.Str) := by kernel_rfl
      rw [← e]
      exact hmg0
    have hh : Q.HD K mg := ⟨c, h, KX, G⟩
    obtain ⟨fd, F⟩ := hh.def_ 22 (d := Q.d_law)
    have e := hmg.symm.trans (hh.glo 20)
    cases e
    have b := L2.FunD.bindsA (ps := ["_law_script"]) F fun _ _ _ _ _ _ us hl => match us, hl with | [_], _ => rfl
    exact ⟨K, fd, Q.spLaw K, KX, fun s v => b s [v] rfl, fun H a ns hl hz hS => ⟨a, ns, rfl, hS, hl, hz, fun _ => rfl⟩, fun base _ _ => Q.law_ok (Q.def_ok (k := 5) Q.NMinj F Q.sc_law (Q.ge hh Q.G_law (fun p h => (nomatch h))) (Φ := Q.P_law) (fun c h => by
      simp only [Q.P_law, List.mem_cons, List.not_mem_nil, or_false] at h
      rcases h with rfl | rfl | rfl | rfl | rfl | rfl | rfl | rfl | rfl
      · exact (Q.e_law_row hh).mono (by decide)
      · exact (Q.e_law_turn hh).mono (by decide)
      · exact (Q.e_Body___init__ hh).mono (by decide)
      · exact (Q.e_law_site hh).mono (by decide)
      · exact (Q.e_Site___init__ hh).mono (by decide)
      · exact (Q.e_law_station hh).mono (by decide)
      · exact (Q.e_law_encloses hh).mono (by decide)
      · exact (Q.e_site_at hh).mono (by decide)
      · exact (Q.e_site_over hh).mono (by decide)) Q.ch_law Q.w_law)⟩
#print axioms PySem.Challenge.cw_orrery_k42_sites_are_in_their_boxes_holds
