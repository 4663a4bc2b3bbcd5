import PyProof.Rows.All
import Wide.All
import OpenK.AllK
import Wide.FinOn
import KE.KMathG
import HandS.Base
import HandS.Call
import HandS.List
import HandS.Deep
import HandS.Comp
import HandS.Ends
import HandS.Iter
import HandS.Exc
import HandS.ExcOwn
import HandS.Words
import HandS.WordsList
import HandS.WordsExc
import HandS.Wide
import HandS.Defaults
import HandS.Zip
import HandS.CallSlots
import HandS.Gcd
import HandS.Flt
import PyProof.LongRange
import HandS.IsInst
import HandS.TryOnly
import HandS.TupAny
import PyProof.FString5
import HandS.Head0
import HandS.Head1
import HandS.Head2
import HandS.Head3
import HandS.HeadEnd
import HandS.EndBits
import HandS.HeadHook1
import HandS.HeadHook2
import HandS.HeadHook3
import HandS.IterVal
import HandS.Text
import HandS.StrMore
import HandS.Sort
import HandS.SortOrd
import HandS.SortRule
import HandS.SortInts
import KE.KSuper
import KE.KExcSuper
import HandS.ExcInit
import HandS.ExcField
import HandS.ExcIs
import HandS.TryMany
import PyProof.EnumMake
import PyProof.Draws
import KE.GoesMore
import HandS.Conv
import KE.KSortKey
import HandS.SortKw
import HandS.OwnEq
import KE.KExcIs
import Flt.RightSqrt
import KE.IntTextLaws
import KE.KIntText
import HandS.Codes
import PySem.Challenge.RW_orrery_k48_whole_plans_weigh_most
set_option Elab.async false
set_option linter.all false
set_option maxRecDepth 100000
set_option maxHeartbeats 0
set_option synthInstance.maxSize 100000
set_option synthInstance.maxHeartbeats 0
namespace Q
open PySem PySem.Spec L2
inductive D where
  | non
  | bl (b : Bool)
  | int (i : Int)
  | str (s : Str)
  | tup (xs : List D)
  | lst (xs : List D)
  /-- a list that nobody may change: the script, a list of the module's own -/
  | ro (xs : List D)
  /-- an instance of the class number c; ks: its attributes' numbers -/
  | ins (c : Nat) (ks : List Nat) (xs : List D)
  | ty (n : String)
  /-- a def of the module -/
  | fn (n : Str)
  /-- a dict of the module with text keys -/
  | kd (n : Str) (ks : List Str) (ds : List D)
structure Nam where
  at_ : Nat → Str
  cl : Nat → Str
  /-- exceptions with an __init__: class, its one attribute, is str() of it handed on? -/
  exs : List (Nat × Nat × Bool) := []
  /-- exceptions without -/
  ex0 : List Nat := []
  /-- is the first a subclass of the second? -/
  sub : List (Nat × Nat × Bool) := []
  /-- the module's dicts: name, keys -/
  kds : List (Str × List Str) := []
  /-- classes whose instances are told from tuples -/
  its : List Nat := []
def lookS {α : Type} : List Str → List α → Str → Option α
  | k :: ks, v :: vs, x => if k = x then some v else lookS ks vs x
  | _, _, _ => none
section
variable (N : Nam) (K : PySem.W.Frag)
mutual
inductive Rep (G : Hp) : V → D → Prop
  | non : Rep G .non .non
  | bl (b : Bool) : Rep G (.bl b) (.bl b)
  | int (i : Int) : Rep G (.int i) (.int i)
  | str (x : Str) : Rep G (.str x) (.str x)
  | ty (n : String) : Rep G (.ty n) (.ty n)
  | tup {a : Addr} {xs : List V} {ds : List D} : SqT K G a xs → xs.length ≤ sizeLine → Reps G xs ds → Rep G (.ref a) (.tup ds)
  | lst {a : Addr} {xs : List V} {ds : List D} : G a = some (.lst xs) → xs.length ≤ sizeLine → Reps G xs ds → Rep G (.ref a) (.lst ds)
  | ro {a : Addr} {xs : List V} {ds : List D} : SqL K G a xs → xs.length ≤ sizeLine → Reps G xs ds → Rep G (.ref a) (.ro ds)
  | fn (n : Str) : Rep G (.ref (He.ga K n)) (.fn n)
  | kd {n : Str} {ks : List Str} {us : List Value} {vs : List V} {ds : List D} : (n, ks) ∈ N.kds → ks.length = us.length → (∀ z, PySem.W.nsIn K (He.ga K n) z = some (lookS ks us z)) → Vals vs us → Reps G vs ds → Rep G (.ref (He.ga K n)) (.kd n ks ds)
  | ins {a dx : Addr} {c : Nat} {ks : List Nat} {xs : List V} {ds : List D} : G a = some (.ins (He.ga K (N.cl c)) dx ((ks.map N.at_).zip xs)) → ks.length = xs.length → Reps G xs ds → Rep G (.ref a) (.ins c ks ds)
inductive Reps (G : Hp) : List V → List D → Prop
  | nil : Reps G [] []
  | cons {v : V} {vs : List V} {d : D} {ds : List D} : Rep G v d → Reps G vs ds → Reps G (v :: vs) (d :: ds)
end
end
section
variable {N : Nam} {K : PySem.W.Frag} {G G' : Hp}
theorem sqT_mono (e : Same G G') {a : Addr} {xs : List V} (h : SqT K G a xs) : SqT K G' a xs := by
  rcases h with (h | ⟨o, h⟩) | h
  · exact .inl (.inl (e _ _ h))
  · exact .inl (.inr ⟨o, e _ _ h⟩)
  · exact .inr h
mutual
theorem Rep.mono (e : Same G G') : ∀ {v : V} {d : D}, Rep N K G v d → Rep N K G' v d
  | _, _, .non => .non
  | _, _, .bl b => .bl b
  | _, _, .int i => .int i
  | _, _, .str x => .str x
  | _, _, .ty n => .ty n
  | _, _, .fn n => .fn n
  | _, _, .kd h1 h2 h3 h4 r => .kd h1 h2 h3 h4 (Reps.mono e r)
  | _, _, .tup h l r => .tup (sqT_mono e h) l (Reps.mono e r)
  | _, _, .lst h l r => .lst (e _ _ h) l (Reps.mono e r)
  | _, _, .ro h l r => .ro (e.seq h) l (Reps.mono e r)
  | _, _, .ins h l r => .ins (e _ _ h) l (Reps.mono e r)
theorem Reps.mono (e : Same G G') : ∀ {vs : List V} {ds : List D}, Reps N K G vs ds → Reps N K G' vs ds
  | _, _, .nil => .nil
  | _, _, .cons h r => .cons (Rep.mono e h) (Reps.mono e r)
end
theorem Reps.len : ∀ {vs : List V} {ds : List D}, Reps N K G vs ds → vs.length = ds.length
  | _, _, .nil => rfl
  | _, _, .cons _ r => congrArg Nat.succ (Reps.len r)
theorem Reps.get : ∀ {vs : List V} {ds : List D} {i : Nat} {d : D}, Reps N K G vs ds → ds[i]? = some d → ∃ v, vs[i]? = some v ∧ Rep N K G v d
  | _, _, 0, _, .cons h _, e => by
    cases e
    exact ⟨_, rfl, h⟩
  | _, _, i + 1, _, .cons _ r, e => by
    obtain ⟨v, h1, h2⟩ := Reps.get (i := i) r e
    exact ⟨v, h1, h2⟩
theorem Reps.app : ∀ {vs us : List V} {ds es : List D}, Reps N K G vs ds → Reps N K G us es → Reps N K G (vs ++ us) (ds ++ es)
  | _, _, _, _, .nil, s => s
  | _, _, _, _, .cons h r, s => .cons h (Reps.app r s)
theorem Reps.drop : ∀ (n : Nat) {vs : List V} {ds : List D}, Reps N K G vs ds → Reps N K G (vs.drop n) (ds.drop n)
  | 0, _, _, r => r
  | _ + 1, _, _, .nil => .nil
  | n + 1, _, _, .cons _ r => Reps.drop n r
theorem Reps.take : ∀ (n : Nat) {vs : List V} {ds : List D}, Reps N K G vs ds → Reps N K G (vs.take n) (ds.take n)
  | 0, _, _, _ => .nil
  | _ + 1, _, _, .nil => .nil
  | n + 1, _, _, .cons h r => .cons h (Reps.take n r)
theorem Reps.set : ∀ (n : Nat) {vs : List V} {ds : List D} {v : V} {d : D}, Reps N K G vs ds → Rep N K G v d → Reps N K G (vs.set n v) (ds.set n d)
  | _, _, _, _, _, .nil, _ => .nil
  | 0, _, _, _, _, .cons _ r, h => .cons h r
  | n + 1, _, _, _, _, .cons h r, q => .cons h (Reps.set n r q)
theorem Reps.ints : ∀ {ns : List Int}, Reps N K G (ns.map V.int) (ns.map D.int)
  | [] => .nil
  | _ :: _ => .cons (.int _) Reps.ints
end
structure Ext (G H G' H' : Hp) : Prop where
  hh : Same H H'
  gg : Same G G'
  sub : Same G' H'
  sep : ∀ a, H a ≠ none → G a = none → G' a = none
section
variable {G H G1 H1 G2 H2 : Hp}
theorem Ext.refl (s : Same G H) : Ext G H G H := ⟨.refl _, .refl _, s, fun _ _ h => h⟩
theorem Ext.trans (a : Ext G H G1 H1) (b : Ext G1 H1 G2 H2) : Ext G H G2 H2 :=
  ⟨a.hh.trans b.hh, a.gg.trans b.gg, b.sub, fun c h1 h2 => b.sep c (fun z => h1 (a.hh.free z)) (a.sep c h1 h2)⟩
theorem same_upd {H : Hp} {p : Addr} {o : HO} (h : H p = none) : Same H (upd H p o) := fun b x e => (upd_ne (ne_of_none e h)).trans e
theorem Ext.new (s : Same G H) {p : Addr} (h : H p = none) (o : HO) : Ext G H (upd G p o) (upd H p o) := by
  refine ⟨same_upd h, same_upd (s.free h), fun b x e => ?_, fun a h1 h2 => ?_⟩
  · by_cases hb : b = p
    · rw [hb, upd_same] at e
      rw [hb, upd_same, e]
    · rw [upd_ne hb] at e
      rw [upd_ne hb]
      exact s _ _ e
  · by_cases hb : a = p
    · rw [hb] at h1
      exact absurd h h1
    · rw [upd_ne hb]
      exact h2
theorem Ext.own (s : Same G H) {p : Addr} (h : H p = none) (o : HO) : Ext G H G (upd H p o) :=
  ⟨same_upd h, .refl _, s.trans (same_upd h), fun _ _ h => h⟩
end
inductive Sl where
  | un
  | val (d : D)
  | own (ds : List D)
  | obj (c : Nat) (ks : List Nat) (ds : List D)
  /-- what the caller lends: it is looked at, nobody changes it -/
  | lok (d : D)
abbrev Env := List Sl
structure Fr where
  H_0 : Hp
  G_0 : Hp
  M : Addr → Prop
section
variable (N : Nam) (K : PySem.W.Frag)
inductive RepL (F : Fr) (G H : Hp) : V → D → Prop
  | frz {v : V} {d : D} : Rep N K G v d → RepL F G H v d
  | own {l : Addr} {vs : List V} {ds : List D} : H l = some (.lst vs) → G l = none → F.H_0 l ≠ none → ¬ F.M l → vs.length ≤ sizeLine → Reps N K G vs ds → RepL F G H (.ref l) (.lst ds)
  | obj {x dx : Addr} {c : Nat} {ks : List Nat} {xs : List V} {ds : List D} : H x = some (.ins (He.ga K (N.cl c)) dx ((ks.map N.at_).zip xs)) → ks.length = xs.length → G x = none → F.H_0 x ≠ none → ¬ F.M x → Reps N K G xs ds → RepL F G H (.ref x) (.ins c ks ds)
def SlOk (F : Fr) (G H : Hp) : Sl → Option V → Prop
  | .un, _ => True
  | .lok d, o => ∃ v, o = some v ∧ RepL N K F G H v d
  | .val d, o => ∃ v, o = some v ∧ Rep N K G v d
  | .own ds, o => ∃ l vs, o = some (.ref l) ∧ H l = some (.lst vs) ∧ G l = none ∧ F.H_0 l = none ∧ vs.length ≤ sizeLine ∧ Reps N K G vs ds
  | .obj c ks ds, o => ∃ x dx xs, o = some (.ref x) ∧ H x = some (.ins (He.ga K (N.cl c)) dx ((ks.map N.at_).zip xs)) ∧ ks.length = xs.length ∧ G x = none ∧ F.M x ∧ Reps N K G xs ds
def ownAt (s : Sl) (o : Option V) (a : Addr) : Prop := o = some (.ref a) ∧ match s with
  | .own _ => True
  | .obj _ _ _ => True
  | _ => False
structure R (F : Fr) (ρ : Env) (G : Hp) (σ : L2.St) (H : Hp) : Prop where
  len : ρ.length = σ.length
  sub : Same G H
  gg : Same F.G_0 G
  keep : ∀ b o, F.H_0 b = some o → ¬ F.M b → H b = some o
  md : ∀ b, F.M b → H b ≠ none
  sep : ∀ b, F.H_0 b ≠ none → F.G_0 b = none → G b = none
  sl : ∀ (i : Nat) s o, ρ[i]? = some s → σ[i]? = some o → SlOk N K F G H s o
  dis : ∀ (i j : Nat) s t o u a, i ≠ j → ρ[i]? = some s → ρ[j]? = some t → σ[i]? = some o → σ[j]? = some u → ownAt s o a → ¬ ownAt t u a
end
section
variable {N : Nam} {K : PySem.W.Frag} {F : Fr} {G H G' H' : Hp} {ρ : Env} {σ : L2.St}
theorem RepL.ext (e : Ext G H G' H') {v : V} {d : D} (h : RepL N K F G H v d) : RepL N K F G' H' v d := by
  cases h with
  | frz r => exact .frz (r.mono e.gg)
  | own h1 h2 h3 h4 h5 h6 => exact .own (e.hh _ _ h1) (e.sep _ (by rw [h1]; exact fun z => nomatch z) h2) h3 h4 h5 (h6.mono e.gg)
  | obj h1 h2 h3 h4 h5 h6 => exact .obj (e.hh _ _ h1) h2 (e.sep _ (by rw [h1]; exact fun z => nomatch z) h3) h4 h5 (h6.mono e.gg)
theorem SlOk.ext (e : Ext G H G' H') {s : Sl} {o : Option V} (h : SlOk N K F G H s o) : SlOk N K F G' H' s o := by
  cases s with
  | un => trivial
  | lok d =>
    obtain ⟨v, h1, h2⟩ := h
    exact ⟨v, h1, h2.ext e⟩
  | val d =>
    obtain ⟨v, h1, h2⟩ := h
    exact ⟨v, h1, h2.mono e.gg⟩
  | own ds =>
    obtain ⟨l, vs, h1, h2, h3, h4, hz, h5⟩ := h
    exact ⟨l, vs, h1, e.hh _ _ h2, e.sep _ (by rw [h2]; exact fun z => nomatch z) h3, h4, hz, h5.mono e.gg⟩
  | obj c ks ds =>
    obtain ⟨x, dx, xs, h1, h2, h3, h4, h5, h6⟩ := h
    exact ⟨x, dx, xs, h1, e.hh _ _ h2, h3, e.sep _ (by rw [h2]; exact fun z => nomatch z) h4, h5, h6.mono e.gg⟩
theorem R.ext (r : R N K F ρ G σ H) (e : Ext G H G' H') : R N K F ρ G' σ H' where
  len := r.len
  sub := e.sub
  gg := r.gg.trans e.gg
  keep := fun b o h1 h2 => e.hh _ _ (r.keep b o h1 h2)
  md := fun b h1 z => r.md b h1 (e.hh.free z)
  sep := fun b h1 h2 => e.sep b (fun z => by
    by_cases hm : F.M b
    · exact r.md b hm z
    · cases q : F.H_0 b with
      | none => exact h1 q
      | some o =>
        rw [r.keep b o q hm] at z
        cases z) (r.sep b h1 h2)
  sl := fun i s o h1 h2 => (r.sl i s o h1 h2).ext e
  dis := r.dis
theorem R.set (r : R N K F ρ G σ H) {i : Nat} {v : V} {d : D} (h : Rep N K G v d) : R N K F (ρ.set i (.val d)) G (σ.set i (some v)) H where
  len := by rw [List.length_set, List.length_set]; exact r.len
  sub := r.sub
  gg := r.gg
  keep := r.keep
  md := r.md
  sep := r.sep
  sl := fun j s o h1 h2 => by
    by_cases hj : i = j
    · subst hj
      rw [List.getElem?_set] at h1 h2
      simp only [if_pos] at h1 h2
      split at h1 <;> split at h2 <;> simp_all
      subst h1 h2
      exact ⟨v, rfl, h⟩
    · rw [List.getElem?_set_ne hj] at h1 h2
      exact r.sl j s o h1 h2
  dis := fun j k s t o u a hjk h1 h2 h3 h4 h5 h6 => by
    have no : ∀ {m : Nat} {s : Sl} {o : Option V}, i = m → (ρ.set i (.val d))[m]? = some s → ownAt s o a → False := fun {m s o} e q z => by
      subst e
      rw [List.getElem?_set] at q
      simp only [if_pos] at q
      split at q
      · cases q
        exact z.2
      · cases q
    by_cases ej : i = j
    · exact no ej h1 h5
    · by_cases ek : i = k
      · exact no ek h2 h6
      · rw [List.getElem?_set_ne ej] at h1 h3
        rw [List.getElem?_set_ne ek] at h2 h4
        exact r.dis j k s t o u a hjk h1 h2 h3 h4 h5 h6
end
end Q
namespace Q
open PySem PySem.Spec L2 PyProof.Rows
section
variable {prog : Program} {w : World} {A : Around} {E : Value → Shared → Prop} {h : Heap} {g : Array GenState} {d : Drawn} {t : Nat} {os : OsState}
variable {nm q : Str} {C N : Addr} {bs bm : List Value} {hdct : Bool} {sn : List Str} {sub : List Value} {ab : Bool} {col : Option Bool} {dd : Option Addr} {k0 k1 k2 k3 k5 : Option Value}
theorem call_bwV {u e t0 : Addr} {rest : List Value} {Q : Value → Shared → Prop}
    (hC : h.get? C = some (excClassObj nm q C N bs bm hdct sn sub ab col dd k0 k1 k2 k3 k5 "ValueError.__new__")) (he : h.get? e = some (HandSPX.excO C t0)) (hu : h.get? u = some (PySem.W.kxs_mw "ValueError.__init__" e)) (hrest : rest.length ≤ sizeLine)
    (hq : ∀ h' t1, (∀ b o, b ≠ e → h.get? b = some o → h'.get? b = some o) → h'.get? e = some (HandSPX.excO C t1) → Q .none ⟨h', g, d, t, os⟩) :
    wpAny (model prog w) A (call (.ref u) rest) Q E ⟨h, g, d, t, os⟩ := by
  refine wpAny_call (codeAny_of_tree ?_)
  show wpAny _ A.in1 (callAny (.ref u) ⟨rest, []⟩) _ _ _
  simp only [callAny]
  refine wpAny_bind (wpAny_load hu ?_)
  simp only [PySem.W.kxs_mw, show (Value.type "method-wrapper" == Value.type "method" || Value.type "method-wrapper" == Value.type "builtin_function_or_method" || Value.type "method-wrapper" == Value.type "method-wrapper") = true by decide, if_true]
  refine PySem.W.KFB.if_so (by decide) ?_
  refine wpAny_bind (PySem.W.check_bound_init F.excBase_ValueError.toExcCallFacts hC he rfl ?_)
  refine wpAny_bind (wpAny_pure (wpAny_pure ?_))
  refine ⟨plainId_quiet F.excBase_ValueError.init.plain _, codeAny_builtin F.excBase_ValueError.initEntry ?_⟩
  exact PySem.W.exc_init_tree (cls := .ref C) (t0 := t0) (dv := none) (c2 := .none) (c3 := .none) (b4 := .bool false) he hrest fun h' k e' _ => hq h' _ k e'
end
structure SiX (X : Cx) (C f cc cda : Addr) (fd : FuncData) (sn : Str) : Prop where
  T : OexC X.K C
  hks : X.env.kindOf "super" = some .globalImplicit
  hkc : X.env.kindOf "__class__" = some .free
  hfu : X.env.func = some f
  hf : ∃ oc od osl, X.K.lookup f = some ⟨oc, od, .func fd, osl⟩
  hp : ∃ ar, (fd.params.posonlyargs ++ fd.params.args).head? = some ar ∧ ar.arg = sn
  hco : X.env.code = .ref cda
  hcc : ∃ ccl cdd vs ccs file tf, X.K.lookup cda = some ⟨ccl, cdd, .fields vs, ccs⟩ ∧ vs[2]? = some (.str file tf) ∧ ((X.prog.main.file : Str) == file) = true
  htop : (X.prog.main.scope.names.lookup ("super" : Str)).isSome = false
  hcl : X.env.cells.lookup ("__class__" : Str) = some cc
  hcell : ∃ cl cld csl, X.K.lookup cc = some ⟨cl, cld, .cell (some (.ref C)), csl⟩
  hmg : X.mg "super" = none
  hN : X.N[0]? = some sn
  hka : X.env.kindOf sn = some .local
  hB : PySem.W.subIn X.K (.ref C) (.type "ValueError") = some true
  hm : PySem.W.ks_superIn X.K C C "__init__" = some (some (.builtin "ValueError.__init__"))
  hsub : PySem.W.mroIn X.K C (.ref C) = some true
  ho : PySem.W.nsIn X.K cStatics "thirdparty.any" = some none
section
variable {X : Cx} {C f cc cda a : Addr} {fd : FuncData} {sn : Str} {σ : L2.St} {H : Hp} {s : Shared} {body : List Stmt} {e : Expr} {ta : TA} {p0 p1 p2 pos : Pos}
theorem si_eval {pl : Sem Bool} (S : SiX X C f cc cda fd sn) (I : Inv X [] σ H s) (h0 : σ[0]? = some (some (.ref a))) (ha : H a = some (exo a C none)) (pa : PA X [e] ta) {QQ : Value → Shared → Prop} {E : Value → Shared → Prop}
    (hx : ∀ e s', X.xe e s' → E e s') (hq : ta σ H fun vs H1 => vs.length ≤ 1000 ∧ H1 a = some (exo a C none) ∧ ∀ s', Inv X [] σ H1 s' → QQ .none s')
    (hc : eval (.Call (.Attribute (.Call (.Name "super" p0) [] [] p1) "__init__" p2) [e] [] pos) X.env = (do
      let ov ← attributeBase (.Call (.Name "super" p0) [] [] p1) "__init__" X.env (eval (.Call (.Name "super" p0) [] [] p1) X.env)
      standAt p2.atName
      let (f, first) ← holding [ov] (getMethod ov "__init__" pl)
      callWith pos f first (backTo pos (starEach [e] X.env)) []))
    (he : starEach [e] X.env = (false, eval e X.env) :: starEach [] X.env := by rfl) (hpl : (backTo pos (starEach [] X.env)).any (·.1) = false := by rfl) :
    _root_.PySem.wpAt (model X.prog X.w) X.A (.func body X.env) (eval (.Call (.Attribute (.Call (.Name "super" p0) [] [] p1) "__init__" p2) [e] [] pos) X.env) QQ E s := by
  obtain ⟨oc, od, osl, hf⟩ := S.hf
  obtain ⟨ar, har, hsn⟩ := S.hp
  obtain ⟨ccl, cdd, vs, ccs, file, tf, hcc, hvs, hfile⟩ := S.hcc
  obtain ⟨cl, cld, csl, hcell⟩ := S.hcell
  obtain ⟨nm, q, N, bs, bm, sn', sub, ab, col, dd, k0, k1, k2, k3, k5, hC, hbm⟩ := S.T.cls
  have KX := I.kIn
  obtain ⟨hp, g, d, t, os⟩ := s
  refine ks_wpAt_MethodCall ?_ hc
  · refine ks_wpAt_super_base S.hks S.hkc (by decide) S.hfu (KX _ _ hf) rfl har S.hco (KX _ _ hcc) rfl hvs hfile S.htop ?_
    obtain ⟨mb, b1, b2⟩ := I.mod.blt
    refine PySem.W.ks_loadName_global I.ok.kind S.hks (Calls.loadGlobal_builtin (by rw [I.ok.glob]; exact I.mod.glob.keeps I.bk) S.hmg (by rw [I.ok.blt]; exact b1.keeps I.bk) ((b2 "super" (by decide)).trans (by first | boot_by_name | rfl | kernel_rfl)) ⟨rfl, ?_⟩)
    refine wpAny_loadName_free I.ok.kind S.hkc S.hcl ⟨_, KX _ _ hcell, rfl⟩ ?_
    obtain ⟨m, hn, hl⟩ := id I.loc
    obtain ⟨u, ru, lu⟩ := hl 0 sn _ S.hN h0 (.inl S.hka)
    obtain rfl : u = Value.ref a := ru
    have hms : m sn = some (.ref a) := by
      rcases lu with ⟨_, z⟩ | ⟨z, _⟩
      · exact z
      · rw [S.hka] at z
        rcases z with z | z <;> cases z
    rw [hsn]
    refine wpAny_loadName_local I.ok.kind S.hka hn hms ?_
    refine ks_wpAny_isType_cls (KX _ _ hC) rfl ⟨rfl, ?_⟩
    obtain ⟨t1, ho⟩ := exo_at I.hok ha
    refine ks_wpAny_call_super (KX _ _ hC) rfl ho rfl (fun c z => nomatch z) (PySem.W.looks_mroIn KX S.hsub) fun h1 e1 k1 => ?_
    have hac : a ≠ C := fun z => by
      rw [z, KX _ _ hC] at ho
      cases ho
    have clC : PySem.W.clsIn X.K C = some { name := nm, bases := bs, mro := .ref C :: bm, ns := N, qualname := q, hasDict := true, slotNames := sn', subclasses := sub, abstract := ab, collection := col, hasDel := false } := by unfold PySem.W.clsIn; rw [hC] <;> rfl
    have KX1 : X.K.In h1 := KX.keeps k1
    have along := S.hm
    unfold PySem.W.ks_superIn at along
    rw [clC] at along
    have IA : PySem.W.InstAt h1 a ({ cls := .ref C, dict := none, data := .fields #[.ref t1, .none, .none, .none, .bool false, .none] } : Obj) C none := ⟨k1 _ _ ho, rfl, rfl, trivial⟩
    refine PySem.W.kxs_getMethod PySem.W.kxs_ValueError e1 (PySem.W.looks_opaque KX1 S.ho) (l₀ := .ref C :: bm) ?_ rfl KX1 along (IA.type.andThen (PySem.W.looks_subIn KX1 S.hB)) hac (by decide) ?_
    · exact fun A Q E s k q => wpAny_bind ((PySem.W.looks_clsIn KX1 clC) A _ E s k (wpAny_pure q))
    have k2 : ∀ b o, hp.get? b = some o → (h1.push (PySem.W.kxs_mw "ValueError.__init__" a)).get? b = some o := fun b o z => Heap.get?_push_of_some _ (k1 _ _ z)
    have I2 : Inv X [] σ H ⟨h1.push (PySem.W.kxs_mw "ValueError.__init__" a), g, d, t + 1, os⟩ := I.kept (t' := t + 1) k2
    have hu : (h1.push (PySem.W.kxs_mw "ValueError.__init__" a)).get? h1.objs.size = some (PySem.W.kxs_mw "ValueError.__init__" a) := Heap.get?_push_at rfl rfl
    have hs1 : hp.objs.size < h1.objs.size := Heap.lt_size e1
    have I3 : Inv X [(h1.objs.size, PySem.W.kxs_mw "ValueError.__init__" a)] σ H ⟨h1.push (PySem.W.kxs_mw "ValueError.__init__" a), g, d, t + 1, os⟩ := I2.pins_of fun p hp' => by
      cases List.mem_singleton.mp hp'
      refine ⟨hu, I.hok.fresh (Nat.le_of_lt hs1), fun z => ?_, fun z => ?_, fun v z => (by cases z)⟩
      · have := I.lt
        rw [← z] at this
        exact absurd (Nat.lt_trans hs1 this) (Nat.lt_irrefl _)
      · obtain ⟨_, o, zo, _⟩ := I.ok.funs.mem z
        exact absurd (Nat.lt_of_lt_of_le (Nat.lt_of_le_of_lt I.sz hs1) (Nat.le_of_lt (Heap.lt_size zo))) (Nat.lt_irrefl _)
    have run := pa.run pos _ _ σ H _ I3 hq
    rw [he] at run ⊢
    refine PySem.W.kxs_callWith (i := "ValueError.__init__") (x := a) (by show (false || (backTo pos (starEach [] X.env)).any (·.1)) = false; rw [hpl]; rfl) ?_
    refine PySem.Calls.evalArgs_plain ?_
    refine wpAny_mono run (fun us s3 hh => ?_) fun e s' z => hx e s' z
    obtain ⟨vs3, H1, I4, r4, hl4, ha4, q4⟩ := hh
    obtain ⟨hget, _⟩ := I4.pin (h1.objs.size, PySem.W.kxs_mw "ValueError.__init__" a) (List.mem_append.mpr (.inr (List.mem_singleton.mpr rfl)))
    refine ⟨hget, ?_⟩
    obtain ⟨t4, ho4⟩ := exo_at I4.hok ha4
    obtain ⟨hp4, g4, d4, tk4, os4⟩ := s3
    refine call_bwV (I4.kIn _ _ hC) ho4 hget (by show us.length ≤ sizeLine; rw [← Paired.length r4, sizeLine_eq]; omega) fun h5 t5 k5 e5 => ?_
    have J := I4.write (t' := tk4) (x := a) (e := a) (o := exo a C none) (by rw [ha4]; exact True.intro) (.inl rfl) k5 ⟨_, e5⟩ (exo_ok e5)
    have eu : upd H1 a (exo a C none) = H1 := by
      funext b
      by_cases hb : b = a
      · rw [hb, upd_same, ha4]
      · rw [upd_ne hb]
    rw [eu] at J
    exact q4 _ (J.pins_of fun p hp' => absurd hp' (by simp))
end
def spX (C : Addr) (fn : Str) (st : Bool) : Sp := fun vs H Q _ => ∃ (a : Addr) (v : V), vs = [.ref a, v] ∧ H a = some (exo a C none) ∧ (st = true → ∃ i : Int, v = .int i ∧ i.natAbs.log2 < 1920) ∧
  ∀ dx, H dx = none → dx ≠ a → Q .non (upd (upd H dx (exd dx [(fn, v)])) a (exo a C (some dx)))
def siE (st : Bool) (xn : Str) (p9 p10 p11 : Pos) : Expr := if st then .Call (.Name "str" p10) [.Name xn p9] [] p11 else .Name xn p9
structure SiF (P : Program) (K : PySem.W.Frag) (mg : Str → Option Value) (C f cc cda : Addr) (fd : FuncData) (sn xn fn : Str) (st : Bool) : Prop where
  T : OexC K C
  lk : ∃ oc od osl, K.lookup f = some ⟨oc, od, .func fd, osl⟩
  cdi : PySem.W.codeIn K fd.code fd.qualname = true
  kind : fd.scope.kind = .function
  co : fd.scope.isCoroutine = false
  gen : fd.scope.isGenerator = false
  gl : fd.globals = mainGlobals
  bl : fd.builtins = builtinsNs
  clo : fd.closure = [(("__class__" : Str), cc)]
  code : fd.code = .ref cda
  ks : fd.scope.names.lookup ("super" : Str) = some .globalImplicit
  kc : fd.scope.names.lookup ("__class__" : Str) = some .free
  k1 : fd.scope.names.lookup sn = some .local
  k2 : fd.scope.names.lookup xn = some .local
  kstr : st = true → fd.scope.names.lookup ("str" : Str) = some .globalImplicit ∧ mg "str" = none
  nocell : ∀ y ∈ fd.scope.names, y.2 ≠ .cell
  onlyf : ∀ y ∈ fd.scope.names, y.2 = .free → y.1 = "__class__"
  ne : sn ≠ xn
  nd1 : (sn == ("__debug__" : Str)) = false ∧ (sn == ("__classdict__" : Str)) = false ∧ (xn == ("__debug__" : Str)) = false ∧ (xn == ("__classdict__" : Str)) = false
  hp : ∃ ar, (fd.params.posonlyargs ++ fd.params.args).head? = some ar ∧ ar.arg = sn
  hcc : ∃ ccl cdd vs ccs file tf, K.lookup cda = some ⟨ccl, cdd, .fields vs, ccs⟩ ∧ vs[2]? = some (.str file tf) ∧ ((P.main.file : Str) == file) = true
  htop : (P.main.scope.names.lookup ("super" : Str)).isSome = false
  hcell : ∃ cl cld csl, K.lookup cc = some ⟨cl, cld, .cell (some (.ref C)), csl⟩
  hmg : mg "super" = none
  hB : PySem.W.subIn K (.ref C) (.type "ValueError") = some true
  hm : PySem.W.ks_superIn K C C "__init__" = some (some (.builtin "ValueError.__init__"))
  hsub : PySem.W.mroIn K C (.ref C) = some true
  ho : PySem.W.nsIn K cStatics "thirdparty.any" = some none
  noat : PySem.W.findIn K (.ref C) fn = some none
  body : ∃ p0 p1 p2 p3 p4 p5 p6 p7 p8 p9 p10 p11, (p2.endLine == p3.line) = true ∧ fd.body = .stmts [.Expr (.Call (.Attribute (.Call (.Name "super" p0) [] [] p1) "__init__" p2) [siE st xn p9 p10 p11] [] p3) p4, .Assign [.Attribute (.Name sn p5) fn p6] (.Name xn p7) p8]
def siCx (P : Program) (w : World) (K : PySem.W.Frag) (mg : Str → Option Value) (base : Heap) (N : List Str) (fd : FuncData) (f : Addr) (A : Around) (outer : List PySem.Env) (s : Shared) (H : Hp) (E : XK) : Cx where
  prog := P
  w := w
  K := K
  mg := mg
  base := base
  A := A.deeper (callEnv fd s.heap.objs.size f)
  N := N
  s_0 := s
  H_0 := H
  env := callEnv fd s.heap.objs.size f
  outer := outer
  stack := callEnv fd s.heap.objs.size f :: outer
  ex := []
  calm := true
  fn := fun _ => false
  pn := []
  xe := fun e s' => wpAny (model P w) (A.deeper (callEnv fd s.heap.objs.size f)) (leaving (callEnv fd s.heap.objs.size f) e) (fun _ s'' => L2.CX P w outer H s E e s'') (fun e' s'' => L2.CX P w outer H s E e' s'') s'
section
variable {P : Program} {w : World} {K : PySem.W.Frag} {mg : Str → Option Value} {base : Heap} {C f cc cda : Addr} {fd : FuncData} {sn xn fn : Str} {st : Bool}
theorem lookup_c {β : Type} (x k : Str) (v : β) (r : List (Str × β)) : ((k, v) :: r).lookup x = if x = k then some v else r.lookup x := by
  by_cases h : x = k
  · subst h
    simp [List.lookup]
  · have e : (x == k) = false := by simpa using h
    rw [if_neg h]
    simp [List.lookup, e]
theorem lookup_zip2 {x y : Str} {a b : Value} (h : x ≠ y) (z : Str) : ([(x, a), (y, b)] : List (Str × Value)).reverse.lookup z = if z = y then some b else if z = x then some a else none := by
  show ([(y, b), (x, a)] : List (Str × Value)).lookup z = _
  rw [lookup_c, lookup_c]
  rfl
theorem si_inv (S : SiF P K mg C f cc cda fd sn xn fn st) {A : Around} {outer : List PySem.Env} {s : Shared} {H : Hp} {E : XK} {a : Addr} {v : V} {u : Value} {h₀ : Heap} {tk : Nat} (hd : A.handled = none) (e0 : Env0 P w K mg base A outer s H) (ru : RelV v u)
    (hns : h₀.Ns s.heap.objs.size (fun x => ([(sn, Value.ref a), (xn, u)] : List (Str × Value)).reverse.lookup x)) (hk : ∀ b o, s.heap.get? b = some o → h₀.get? b = some o) :
    Inv (siCx P w K mg base [sn, xn] fd f A outer s H E) [] [some (.ref a), some v] H { s with heap := h₀, toks := tk } := by
  have KX : K.In s.heap := e0.mod.kin.keeps fun b o e => (e0.bs b o e).1
  obtain ⟨cl, cld, csl, hcell⟩ := S.hcell
  have clk : ∀ {y c}, fd.closure.lookup y = some c → y = ("__class__" : Str) ∧ c = cc := fun {y c} h => by
    rw [S.clo, lookup_c] at h
    split at h
    · rename_i e
      exact ⟨e, (Option.some.inj h).symm⟩
    · cases h
  have noA : ∀ b : Addr, b ∉ (siCx P w K mg base [sn, xn] fd f A outer s H E).ex := fun b z => absurd (show b ∈ ([] : List Addr) from z) (by simp)
  refine ⟨⟨e0.mod, S.kind, S.gl, S.bl, Nat.le_refl _, fun y z c h1 h2 => (clk h1).1.trans (clk h2).1.symm, fun y hy => ?_, fun y c z _ => (by cases z), fun _ => hd, Around.frames_deeper e0.frames, .inr ⟨rfl, rfl⟩, fun b z => absurd z (noA b), e0.bs, e0.bsz, fun b _ _ => noA b, fun b z => absurd z (noA b), e0.funs, e0.frf⟩,
    rfl, e0.bare, Un.kept hk, ⟨_, hns, fun i y v' h1 h2 h3 => ?_⟩, fun y c h => ?_, e0.hok.fresh (Nat.le_refl _), fun y c h => ?_, fun p hp => absurd (show p ∈ ([] : List (Addr × Obj)) from hp) (by simp), e0.hok.kept hk, rfl⟩
  · have hy' : fd.scope.names.lookup y = some .cell ∨ fd.scope.names.lookup y = some .free := hy
    rcases hy' with hy' | hy'
    · exact absurd rfl (S.nocell _ (PySem.mem_of_lookup hy'))
    · have := S.onlyf _ (PySem.mem_of_lookup hy') rfl
      dsimp only at this
      subst this
      exact ⟨cc, by show fd.closure.lookup _ = _; rw [S.clo]; rfl⟩
  · have nex := S.ne
    cases i with
    | zero =>
      cases h1
      cases h2
      exact ⟨.ref a, rfl, .inl ⟨S.k1, (lookup_zip2 nex sn).trans (by rw [if_neg nex, if_pos rfl])⟩⟩
    | succ i =>
      cases i with
      | zero =>
        cases h1
        cases h2
        exact ⟨u, ru, .inl ⟨S.k2, (lookup_zip2 nex xn).trans (by rw [if_pos rfl])⟩⟩
      | succ i => cases h1
  · obtain ⟨_, rfl⟩ := clk h
    exact ⟨_, _, hk _ _ (KX _ _ hcell), rfl⟩
  · obtain ⟨_, rfl⟩ := clk h
    exact (e0.bs _ _ (e0.mod.kin _ _ hcell)).2
theorem si_hc {env : PySem.Env} {e : Expr} {p0 p1 p2 pos : Pos} (hl : (p2.endLine == pos.line) = true) (he : starEach [e] env = (false, eval e env) :: starEach [] env) : eval (.Call (.Attribute (.Call (.Name "super" p0) [] [] p1) "__init__" p2) [e] [] pos) env = (do
      let ov ← attributeBase (.Call (.Name "super" p0) [] [] p1) "__init__" env (eval (.Call (.Name "super" p0) [] [] p1) env)
      standAt p2.atName
      let (f, first) ← holding [ov] (getMethod ov "__init__" (do return (← importBound (.Call (.Name "super" p0) [] [] p1) env).getD true))
      callWith pos f first (backTo pos (starEach [e] env)) []) := by
  have q : eval (.Call (.Attribute (.Call (.Name "super" p0) [] [] p1) "__init__" p2) [e] [] pos) env = (do
      let ov ← attributeBase (.Call (.Name "super" p0) [] [] p1) "__init__" env (eval (.Call (.Name "super" p0) [] [] p1) env)
      standAt p2.atName
      methodCall (.Call (.Name "super" p0) [] [] p1) "__init__" p2 pos env ov ([e].length + 0) (backTo pos (starEach [e] env)) []) := rfl
  have fm : methodCallForm ([e].length + 0) (backTo pos (starEach [e] env)) [] = true := by
    rw [he]
    rfl
  rw [q]
  unfold methodCall
  rw [fm]
  have c1 : ∀ ov, calleeOf true (.Call (.Name "super" p0) [] [] p1) env ov "__init__" = getMethod ov "__init__" (do return (← importBound (.Call (.Name "super" p0) [] [] p1) env).getD true) := fun ov => rfl
  have c2 : methodCallPos true (.Call (.Name "super" p0) [] [] p1) env p2 pos = pure pos := by
    unfold methodCallPos
    rw [hl]
    rfl
  simp only [c1, c2, pure_bind]
theorem fn_si {k : Nat} (S : SiF P K mg C f cc cda fd sn xn fn st) : FnOk P w K mg base (L2.CX P w) (k + 1) f fd [sn, xn] (spX C fn st) := by
  refine ⟨fun vs H Q E ⟨_, _, h, _⟩ => by rw [h]; rfl, fun A outer s H args us vs Q E hr e0 hb r hsp => ?_⟩
  obtain ⟨a, v, rfl, ha, hst, hq⟩ := hsp
  cases r with
  | @cons _ ua _ ur ra rr =>
  cases rr with
  | @cons _ u _ ur2 ru rn =>
  cases rn
  obtain rfl : ua = Value.ref a := ra
  have KX : K.In s.heap := e0.mod.kin.keeps fun b o e => (e0.bs b o e).1
  have lim : s.heap.NoLimit := e0.mod.nolimit.keeps fun b o e => (e0.bs b o e).1
  obtain ⟨oc, od, osl, lk⟩ := S.lk
  obtain ⟨p0, p1, p2, p3, p4, p5, p6, p7, p8, p9, p10, p11, hline, hbody⟩ := S.body
  have hloc : ∀ y ∈ ([sn, xn].zip [Value.ref a, u] : List (Str × Value)), fd.scope.names.lookup y.1 = some .local := fun y hy => by
    rcases List.mem_cons.mp hy with rfl | hy
    · exact S.k1
    · rcases List.mem_cons.mp hy with rfl | hy
      · exact S.k2
      · cases hy
  refine ks_codeAny_call_defAt (fd := fd) hr.depth (KX _ _ lk) rfl lim (PySem.W.codeRec_of KX S.cdi) hbody hb S.nocell hloc (fun h₀ hns hk => ?_) S.co S.gen S.kind
  have I := si_inv (w := w) (E := E) (tk := s.toks + 2) S hr.hd e0 ru hns hk
  have SX : SiX (siCx P w K mg base [sn, xn] fd f A outer s H E) C f cc cda fd sn := ⟨S.T, S.ks, S.kc, rfl, S.lk, S.hp, S.code, S.hcc, S.htop, by show fd.closure.lookup _ = _; rw [S.clo]; rfl, S.hcell, S.hmg, rfl, S.k1, S.hB, S.hm, S.hsub, S.ho⟩
  have px : PE (siCx P w K mg base [sn, xn] fd f A outer s H E) (.Name xn p9) (tVar 1) := pe_var rfl (.inl S.k2) S.nd1.2.2.1 S.nd1.2.2.2
  have fin : ∀ s', Inv (siCx P w K mg base [sn, xn] fd f A outer s H E) [] [some (.ref a), some v] H s' →
      _root_.PySem.wpAt (model P w) (A.deeper (callEnv fd s.heap.objs.size f)) (.func [.Expr (.Call (.Attribute (.Call (.Name "super" p0) [] [] p1) "__init__" p2) [siE st xn p9 p10 p11] [] p3) p4, .Assign [.Attribute (.Name sn p5) fn p6] (.Name xn p7) p8] (callEnv fd s.heap.objs.size f))
        (execs [.Assign [.Attribute (.Name sn p5) fn p6] (.Name xn p7) p8] (callEnv fd s.heap.objs.size f)) (fun fl s' => CR (L2.CX P w) outer P w H s Q E (.ok (.ret (match fl with | .ret v => v | _ => .none))) s')
        (fun e s' => wpAny (model P w) (A.deeper (callEnv fd s.heap.objs.size f)) (leaving (callEnv fd s.heap.objs.size f) e) (fun _ s'' => CR (L2.CX P w) outer P w H s Q E (.error e) s'') (fun e' s'' => CR (L2.CX P w) outer P w H s Q E (.error e') s'') s') s' := fun s' J => by
    have ps := pss_cons (ps_ost (f := fn) (p' := p6) (pos := p8) (show PE (siCx P w K mg base [sn, xn] fd f A outer s H E) (.Name sn p5) (tVar 0) from pe_var rfl (.inl S.k1) S.nd1.1 S.nd1.2.1) (show PE (siCx P w K mg base [sn, xn] fd f A outer s H E) (.Name xn p7) (tVar 1) from pe_var rfl (.inl S.k2) S.nd1.2.2.1 S.nd1.2.2.2)) pss_nil
    refine wpAt_of_wpAny (wpAny_mono (ps.run [] s' _ H { nx := fun _ H' => Q .non H', rt := fun _ _ => False, bk := fun _ _ => False, ct := fun _ _ => False } J ⟨v, rfl, .ref a, rfl, a, C, rfl, S.T, S.noat, .inl ⟨ha, fun dx n1 n2 => hq dx n1 n2⟩⟩) (fun fl s2 hs => ?_) fun e s2 z => z)
    cases fl with
    | next =>
      obtain ⟨σ', H', J', q⟩ := hs
      exact ⟨.non, H', J'.os, J'.bare, J'.base, J'.hok, rfl, q⟩
    | ret u =>
      obtain ⟨_, _, _, _, _, q⟩ := hs
      exact False.elim q
    | brk =>
      obtain ⟨_, _, _, q⟩ := hs
      exact False.elim q
    | cont =>
      obtain ⟨_, _, _, q⟩ := hs
      exact False.elim q
  cases st with
  | false =>
    refine ks_wpAt_execs_cons (ks_wpAt_Expr_any ?_ I.quiet)
    exact si_eval SX I rfl ha (pa_cons px pa_nil) (fun e s' z => z) ⟨v, rfl, by show 1 ≤ 1000; omega, ha, fun s' J => fin s' J⟩ (si_hc hline rfl)
  | true =>
    refine ks_wpAt_execs_cons (ks_wpAt_Expr_any ?_ I.quiet)
    obtain ⟨i, hi, hl⟩ := hst rfl
    obtain ⟨hs1, hs2⟩ := S.kstr rfl
    subst hi
    have pst := pe_callTy (X := siCx P w K mg base [sn, xn] fd f A outer s H E) (p := p10) (pos := p11) call_str_int hs1 hs2 PyProof.Rows.Boot.str (pa_cons px pa_nil)
    exact si_eval SX I rfl ha (pa_cons pst pa_nil) (fun e s' z => z) ⟨.int i, rfl, i, rfl, hl, by show 1 ≤ 1000; omega, ha, fun s' J => fin s' J⟩ (si_hc hline rfl)
end
end Q
namespace Q
open PySem PySem.Spec L2 PyProof.Rows
def oexB (K : PySem.W.Frag) (C : Addr) : Bool := (match K.lookup C with
  | some ⟨.type "type", _, .cls cd, sl⟩ => (match cd.mro, sl.toList with
    | .ref C' :: bm, [_, _, _, _, some (.builtin n), _] => C' == C && n == "ValueError.__new__" && !cd.hasDel && cd.hasDict && HandSPX.refsVE bm
    | _, _ => false)
  | _ => false) && (decide (PySem.W.findIn K (.ref C) "__setattr__" = some (some (.builtin "object.__setattr__"))) && (decide (PySem.W.subIn K (.ref C) (.type "BaseException") = some true) && (decide (PySem.W.typeIn K (.ref C) = some (.type "type")) && PySem.W.keepIn K (.ref C))))
theorem and2 {a b : Bool} (h : (a && b) = true) : a = true ∧ b = true := Bool.and_eq_true_iff.mp h
theorem oexB_ok {K : PySem.W.Frag} {C : Addr} (h : oexB K C = true) : OexC K C := by
  obtain ⟨h1, h⟩ := and2 h
  obtain ⟨h2, h⟩ := and2 h
  obtain ⟨h3, h⟩ := and2 h
  obtain ⟨h4, h5⟩ := and2 h
  refine ⟨?_, of_decide_eq_true h2, of_decide_eq_true h3, of_decide_eq_true h4, h5⟩
  split at h1
  · rename_i dd cd sl ho
    split at h1
    · rename_i C' bm k0 k1 k2 k3 n k5 hm hs
      simp only [Bool.and_eq_true, beq_iff_eq, Bool.not_eq_true'] at h1
      obtain ⟨⟨⟨⟨rfl, rfl⟩, hdel⟩, hd⟩, ht⟩ := h1
      obtain ⟨nm, bs, mro, ns, qn, hdd, sn, sub, ab, col, del⟩ := cd
      dsimp only at hm hdel hd
      subst hm hdel hd
      have hsl : sl = #[k0, k1, k2, k3, some (.builtin "ValueError.__new__"), k5] := by
        obtain ⟨l⟩ := sl
        simp only at hs
        rw [hs]
      subst hsl
      exact ⟨nm, qn, ns, bs, bm, sn, sub, ab, col, dd, k0, k1, k2, k3, k5, ho, ht⟩
    · cases h1
  · cases h1
def eSh (st : Bool) (x : Str) : Expr → Bool
  | .Call (.Name b _) [.Name y _] [] _ => st && b == "str" && y == x
  | .Name y _ => !st && y == x
  | _ => false
theorem eSh_eq {st : Bool} {x : Str} {e : Expr} (h : eSh st x e = true) : ∃ p9 p10 p11, e = siE st x p9 p10 p11 := by
  unfold eSh at h
  split at h
  · rename_i b p y p2 p3
    obtain ⟨h, h3⟩ := and2 h
    obtain ⟨h1, h2⟩ := and2 h
    subst h1
    cases eq_of_beq h2
    cases eq_of_beq h3
    exact ⟨p2, p, p3, rfl⟩
  · rename_i y p
    obtain ⟨h1, h3⟩ := and2 h
    cases eq_of_beq h3
    cases st
    · exact ⟨p, p, p, rfl⟩
    · cases h1
  · cases h
def siSh (fn : Str) (st : Bool) : List Stmt → Option (Str × Str)
  | [.Expr (.Call (.Attribute (.Call (.Name a _) [] [] _) m p2) [e] [] p3) _, .Assign [.Attribute (.Name s _) f _] (.Name x _) _] => if (a == "super" && (m == "__init__" && (f == fn && (p2.endLine == p3.line && eSh st x e)))) = true then some (s, x) else none
  | _ => none
theorem siSh_eq {fn : Str} {st : Bool} {l : List Stmt} {sn xn : Str} (h : siSh fn st l = some (sn, xn)) :
    ∃ p0 p1 p2 p3 p4 p5 p6 p7 p8 p9 p10 p11, (p2.endLine == p3.line) = true ∧ l = [.Expr (.Call (.Attribute (.Call (.Name "super" p0) [] [] p1) "__init__" p2) [siE st xn p9 p10 p11] [] p3) p4, .Assign [.Attribute (.Name sn p5) fn p6] (.Name xn p7) p8] := by
  unfold siSh at h
  split at h
  · rename_i a p0 p1 m p2 e p3 p4 s p5 f p6 x p7 p8
    split at h
    · rename_i hc
      cases h
      obtain ⟨h1, hc⟩ := and2 hc
      obtain ⟨h2, hc⟩ := and2 hc
      obtain ⟨h3, hc⟩ := and2 hc
      obtain ⟨h4, h5⟩ := and2 hc
      cases eq_of_beq h1
      cases eq_of_beq h2
      cases eq_of_beq h3
      obtain ⟨p9, p10, p11, rfl⟩ := eSh_eq h5
      exact ⟨p0, p1, p2, p3, p4, p5, p6, p7, p8, p9, p10, p11, h4, rfl⟩
    · cases h
  · cases h
def par2 (p : Arguments) : Option (Str × Str) := match p with
  | ⟨[], [a, b], none, [], _, none, _⟩ => some (a.arg, b.arg)
  | _ => none
def lkB (sc : Scope) (x : Str) (k : NameKind) : Bool := match sc.names.lookup x with
  | some y => decide (y = k)
  | none => false
theorem lkB_ok {sc : Scope} {x : Str} {k : NameKind} (h : lkB sc x k = true) : sc.names.lookup x = some k := by
  unfold lkB at h
  split at h
  · rename_i y hy
    rw [hy, of_decide_eq_true h]
  · cases h
def noneV : Value → Bool
  | .none => true
  | _ => false
def siFd (file fn : Str) (st : Bool) (K : PySem.W.Frag) (C : Addr) (fd : FuncData) : Bool := match fd.body, fd.closure, fd.code with
  | .stmts body, [(z, cc)], .ref cda => (match siSh fn st body, par2 fd.params with
    | some (sn, xn), some (sn', xn') => sn == sn' && (xn == xn' && (lkB fd.scope sn .local && (lkB fd.scope xn .local && (sn != xn && (sn != "__debug__" && (sn != "__classdict__" && (xn != "__debug__" && (xn != "__classdict__"))))))))
    | _, _ => false) && (noneV fd.defaults && (z == "__class__" && (PySem.W.codeIn K fd.code fd.qualname && (decide (fd.scope.kind = .function) && (!fd.scope.isCoroutine && (!fd.scope.isGenerator && (decide (fd.globals = mainGlobals) && (decide (fd.builtins = builtinsNs) &&
      (lkB fd.scope "super" .globalImplicit && (lkB fd.scope "__class__" .free && ((!st || lkB fd.scope "str" .globalImplicit) && (fd.scope.names.all (fun y => decide (y.2 ≠ .cell) && (decide (y.2 ≠ .free) || y.1 == "__class__")) &&
      ((match K.lookup cda with
        | some ⟨_, _, .fields vs, _⟩ => (match (vs[2]? : Option Value) with
          | some (.str f _) => file == f
          | _ => false)
        | _ => false) && (match K.lookup cc with
        | some ⟨_, _, .cell (some (.ref C')), _⟩ => C' == C
        | _ => false))))))))))))))
  | _, _, _ => false
def siB (file nm fn : Str) (st : Bool) (K : PySem.W.Frag) : Bool :=
  oexB K (He.ga K nm) && (decide (PySem.W.findIn K (.ref (He.ga K nm)) "__init__" = some (some (.ref (He.ma K (He.ga K nm) "__init__")))) && (decide (PySem.W.typeIn K (.ref (He.ma K (He.ga K nm) "__init__")) = some (.type "function")) && ((match K.lookup (He.ma K (He.ga K nm) "__init__") with
    | some ⟨_, _, .func fd, _⟩ => siFd file fn st K (He.ga K nm) fd
    | _ => false) && (decide (PySem.W.subIn K (.ref (He.ga K nm)) (.type "ValueError") = some true) && (decide (PySem.W.ks_superIn K (He.ga K nm) (He.ga K nm) "__init__" = some (some (.builtin "ValueError.__init__"))) &&
    (decide (PySem.W.mroIn K (He.ga K nm) (.ref (He.ga K nm)) = some true) && (decide (PySem.W.nsIn K cStatics "thirdparty.any" = some none) && decide (PySem.W.findIn K (.ref (He.ga K nm)) fn = some none))))))))
structure SiAll (P : Program) (K : PySem.W.Frag) (mg : Str → Option Value) (C : Addr) (fn : Str) (st : Bool) : Prop where
  ex : ∃ f cc cda fd sn xn, PySem.W.findIn K (.ref C) "__init__" = some (some (.ref f)) ∧ PySem.W.typeIn K (.ref f) = some (.type "function") ∧ SiF P K mg C f cc cda fd sn xn fn st ∧ Binds K fd [sn, xn] []
theorem bind2 {fd : FuncData} {a b : Str} (hp : par2 fd.params = some (a, b)) (hd : fd.defaults = .none) (hne : a ≠ b) (u v : Value) : bindArgs fd ⟨[u, v], []⟩ = pure [(a, u), (b, v)] := by
  obtain ⟨name, qual, params, body, scope, globals, closure, defaults, kwd, doc, pm, an, cd, ct, bl⟩ := fd
  dsimp only at hp hd
  subst hd
  unfold par2 at hp
  split at hp
  · rename_i x y kwds ds
    cases hp
    obtain ⟨xa, xn, xp⟩ := x
    obtain ⟨ya, yn, yp⟩ := y
    dsimp only at hne
    have e1 : (ya == xa) = false := beq_eq_false_iff_ne.mpr fun e => hne e.symm
    have e2 : seqItems? Value.none = pure none := rfl
    unfold bindArgs
    simp [List.lookup, e1, e2]
  · cases hp
theorem siFd_ok {P : Program} {K : PySem.W.Frag} {mg : Str → Option Value} {file fn : Str} {st : Bool} {C f : Addr} {oc : Value} {od : Option Addr} {osl : Array (Option Value)} {fd : FuncData} (h : siFd file fn st K C fd = true) (lk : K.lookup f = some ⟨oc, od, .func fd, osl⟩)
    (hf : (P.main.file : Str) = file) (htop : (P.main.scope.names.lookup ("super" : Str)).isSome = false) (m1 : mg "super" = none) (m2 : mg "str" = none) (T : OexC K C) (hB : PySem.W.subIn K (.ref C) (.type "ValueError") = some true)
    (hm : PySem.W.ks_superIn K C C "__init__" = some (some (.builtin "ValueError.__init__"))) (hsub : PySem.W.mroIn K C (.ref C) = some true) (ho : PySem.W.nsIn K cStatics "thirdparty.any" = some none) (noat : PySem.W.findIn K (.ref C) fn = some none) :
    ∃ cc cda sn xn, SiF P K mg C f cc cda fd sn xn fn st ∧ Binds K fd [sn, xn] [] := by
  unfold siFd at h
  split at h
  · rename_i body z cc cda hb hc hcd
    obtain ⟨a1, h⟩ := and2 h
    obtain ⟨a2, h⟩ := and2 h
    obtain ⟨a3, h⟩ := and2 h
    obtain ⟨a4, h⟩ := and2 h
    obtain ⟨a5, h⟩ := and2 h
    obtain ⟨a6, h⟩ := and2 h
    obtain ⟨a7, h⟩ := and2 h
    obtain ⟨a8, h⟩ := and2 h
    obtain ⟨a9, h⟩ := and2 h
    obtain ⟨a10, h⟩ := and2 h
    obtain ⟨a11, h⟩ := and2 h
    obtain ⟨a12, h⟩ := and2 h
    obtain ⟨a13, h⟩ := and2 h
    obtain ⟨a14, a15⟩ := and2 h
    split at a1
    · rename_i sn xn sn' xn' e1 e2
      obtain ⟨b1, a1⟩ := and2 a1
      obtain ⟨b2, a1⟩ := and2 a1
      obtain ⟨b3, a1⟩ := and2 a1
      obtain ⟨b4, a1⟩ := and2 a1
      obtain ⟨b5, a1⟩ := and2 a1
      obtain ⟨b6, a1⟩ := and2 a1
      obtain ⟨b7, a1⟩ := and2 a1
      obtain ⟨b8, b9⟩ := and2 a1
      cases eq_of_beq b1
      cases eq_of_beq b2
      cases eq_of_beq a3
      have hne : sn ≠ xn := by simpa using b5
      have q : ∀ {x y : Str}, (x != y) = true → (x == y) = false := fun {x y} h => by
        have : ¬ x = y := by simpa using h
        exact beq_eq_false_iff_ne.mpr this
      have hd : fd.defaults = .none := by
        unfold noneV at a2
        split at a2
        · assumption
        · cases a2
      refine ⟨cc, cda, sn, xn, ⟨T, ⟨_, _, _, lk⟩, a4, of_decide_eq_true a5, by simpa using a6, by simpa using a7, of_decide_eq_true a8, of_decide_eq_true a9, hc, hcd, lkB_ok a10, lkB_ok a11, lkB_ok b3, lkB_ok b4, fun hst => ⟨?_, m2⟩, fun y hy => ?_, fun y hy hk => ?_, hne, ⟨q b6, q b7, q b8, q b9⟩, ?_, ?_, htop, ?_, m1, hB, hm, hsub, ho, noat, ?_⟩, Binds.all fun us hl => ?_⟩
      · subst hst
        exact lkB_ok a12
      · exact of_decide_eq_true (and2 (List.all_eq_true.mp a13 y hy)).1
      · rcases Bool.or_eq_true_iff.mp (and2 (List.all_eq_true.mp a13 y hy)).2 with z | z
        · exact absurd hk (of_decide_eq_true z)
        · exact eq_of_beq z
      · have e3 := e2
        unfold par2 at e3
        split at e3
        · rename_i a b _ _ hp
          cases e3
          rw [hp]
          exact ⟨a, rfl, rfl⟩
        · cases e3
      · split at a14
        · rename_i ccl cdd vs ccs hk
          split at a14
          · rename_i fl tf hv
            refine ⟨_, _, _, _, _, _, hk, hv, ?_⟩
            rw [hf]
            exact a14
          · cases a14
        · cases a14
      · split at a15
        · rename_i cl cld C' csl hk
          cases eq_of_beq a15
          exact ⟨_, _, _, hk⟩
        · cases a15
      · obtain ⟨p0, p1, p2, p3, p4, p5, p6, p7, p8, p9, p10, p11, x1, x2⟩ := siSh_eq e1
        exact ⟨p0, p1, p2, p3, p4, p5, p6, p7, p8, p9, p10, p11, x1, by rw [hb, x2]⟩
      · match us, hl with
        | [u, v], _ => exact bind2 e2 hd hne u v
    · cases a1
  · cases h
theorem siB_ok {P : Program} {K : PySem.W.Frag} {mg : Str → Option Value} {file nm fn : Str} {st : Bool} (h : siB file nm fn st K = true)
    (hf : (P.main.file : Str) = file) (htop : (P.main.scope.names.lookup ("super" : Str)).isSome = false) (m1 : mg "super" = none) (m2 : mg "str" = none) : SiAll P K mg (He.ga K nm) fn st := by
  unfold siB at h
  obtain ⟨h1, h⟩ := and2 h
  obtain ⟨h2, h⟩ := and2 h
  obtain ⟨h3, h⟩ := and2 h
  obtain ⟨h4, h⟩ := and2 h
  obtain ⟨h5, h⟩ := and2 h
  obtain ⟨h6, h⟩ := and2 h
  obtain ⟨h7, h⟩ := and2 h
  obtain ⟨h8, h9⟩ := and2 h
  split at h4
  · rename_i oc od fd osl lk
    obtain ⟨cc, cda, sn, xn, S, B⟩ := siFd_ok (mg := mg) h4 lk hf htop m1 m2 (oexB_ok h1) (of_decide_eq_true h5) (of_decide_eq_true h6) (of_decide_eq_true h7) (of_decide_eq_true h8) (of_decide_eq_true h9)
    exact ⟨_, cc, cda, fd, sn, xn, of_decide_eq_true h2, of_decide_eq_true h3, S, B⟩
  · cases h4
end Q
namespace Q
open PySem PySem.Spec L2
inductive Bop where
  | add | sub | mul | fdiv | mod | pow
inductive Cop where
  | lt | le | gt | ge | eq | ne | is_ | isnot | in_ | notin
inductive Blt where
  | len | abs | int | isqrt | min | max | sum | list | tuple | str | isi
inductive Op1 where
  | intS | sortI | sortP | sortS | upper
inductive Op2 where
  | join | split | starts | lstrip
inductive Tg where
  | nm (i : Nat)
  | tp (ts : List Tg)
mutual
inductive E where
  | var (i : Nat)
  /-- a slot that is only looked at -/
  | brw (i : Nat)
  | cst (d : D)
  | glo (j : Nat)
  | bin (o : Bop) (a b : E)
  | neg (a : E)
  | not (a : E)
  | and (es : List E)
  | or (es : List E)
  | cmp (o : Cop) (a b : E)
  | chn (o p : Cop) (a b c : E)
  | ch3 (o p q : Cop) (a b c d : E)
  | ife (c : T) (a b : E)
  | call (j : Nat) (es : List E)
  | make (j : Nat) (es : List E)
  | meth (j : Nat) (o : E) (es : List E)
  | blt (b : Blt) (es : List E)
  | atr (e : E) (f : Nat)
  | idx (a b : E)
  | slc (a : E) (lo hi : Option E)
  /-- a part of a tuple -/
  | slt (a : E) (lo hi : Option E)
  | tup (es : List E)
  | lst (es : List E)
  | comp (e : E) (t : Tg) (it : It) (c : List T)
  /-- a def of the module as a value -/
  | fnm (j : Nat)
  /-- a call of what a slot holds -/
  | calv (i : Nat) (es : List E)
  | op1 (o : Op1) (a : E)
  | op2 (o : Op2) (a b : E)
  | lrg (a b : E)
  | isn (es : List E)
  | dg2 (k1 k2 : Str) (a b w d : E)
  /-- sorted(a, key=f): the keys are ints, or pairs of ints -/
  | srt (pr : Bool) (j : Nat) (a : E)
  /-- f(..) of a def that some things are lent to -/
  | bcall (j : Nat) (es : List E)
  /-- x.m(..), x lent -/
  | bmeth (j i : Nat) (es : List E)
inductive T where
  | val (e : E)
  | cmp (o : Cop) (a b : E)
  | chn (o p : Cop) (a b c : E)
  | ch3 (o p q : Cop) (a b c d : E)
  | ch4 (o p q s : Cop) (a b c d e : E)
  | not (t : T)
  | and (ts : List T)
  | or (ts : List T)
inductive It where
  | ex (e : E)
  /-- what a slot holds that nobody changes -/
  | exl (i : Nat)
  | rng (es : List E)
  | zip (a b : E)
  | enm (a : E)
end
inductive U where
  | cst (d : D)
  | fld (f : Nat)
  | tup (us : List U)
inductive Vt where
  | isx (c : Nat)
  | isv
  | not (v : Vt)
  | and (vs : List Vt)
  | or (vs : List Vt)
inductive Su where
  | ret (u : U)
  | ifr (v : Vt) (u : U)
structure Hx where
  c : Nat
  i : Option Nat
  su : List Su
inductive S where
  | frz (i : Nat)
  | asg (t : Tg) (e : E)
  /-- name = a new list, which will be changed -/
  | new (i : Nat) (e : E)
  | par (i j : Nat) (a b : E)
  | setIx (i : Nat) (ix e : E)
  | app (i : Nat) (e : E)
  | aug (i : Nat) (o : Bop) (e : E)
  | fld (i f : Nat) (e : E)
  | exp (e : E)
  | ret (e : E)
  | retN
  | ite (c : T) (a b : List S)
  | for_ (t : Tg) (it : It) (b : List S)
  | whl (c : T) (b : List S)
  | brk
  | cnt
  | pas
  /-- a statement that is never reached -/
  | nev
  /-- raise C(e): f its attribute -/
  | raise (c f : Nat) (st : Bool) (e : E)
  /-- raise C("..") -/
  | raise0 (c : Nat)
  | try_ (b : List S) (hs : List Hx)
structure Exc where
  c : Nat
  ks : List Nat
  xs : List D
abbrev FS := List D → (D → Prop) → (Exc → Prop) → Prop
abbrev IS := List D → (List Nat → List D → Prop) → (Exc → Prop) → Prop
structure Cal where
  nm : Str
  mt : Str := ""
  ar : Nat
  dfl : List D := []
  cls : Nat := 0
  /-- which arguments are lent -/
  bw : List Bool := []
  /-- levels between a call's place and the def -/
  lv : Nat := 0
  fs : FS := fun _ _ _ => False
  is : IS := fun _ _ _ => False
structure Dn where
  nx : Env → Prop
  rt : D → Prop
  bk : Env → Prop
  ct : Env → Prop
  er : Exc → Env → Prop
def D.py : D → PyData
  | .non => .none
  | .bl b => .bool b
  | .int i => .int i
  | .str s => .str s
  | .tup xs => .tuple (pys xs)
  | .lst xs => .list (pys xs)
  | .ro _ => .dict []
  | .ins _ _ _ => .dict []
  | .ty _ => .dict []
  | .fn _ => .dict []
  | .kd _ _ _ => .dict []
where pys : List D → List PyData
  | [] => []
  | x :: r => D.py x :: pys r
def ints? : List D → Option (List Int)
  | [] => some []
  | .int i :: r => match ints? r with
    | some l => some (i :: l)
    | none => none
  | _ :: _ => none
def ixD : List D → Int → Option D
  | ds, .ofNat n => ds[n]?
  | ds, .negSucc n => if n < ds.length then ds[ds.length - 1 - n]? else none
def looks : List Nat → List D → Nat → Option D
  | k :: ks, d :: ds, f => if k = f then some d else looks ks ds f
  | _, _, _ => none
def kitD : D → String → Option Bool
  | .non, n => kitB "NoneType" n
  | .bl _, n => kitB "bool" n
  | .int _, n => kitB "int" n
  | .str _, n => kitB "str" n
  | .tup _, n => kitB "tuple" n
  | .lst _, n => kitB "list" n
  | _, _ => none
def maxL : Int → List Int → Int
  | m, [] => m
  | m, x :: r => maxL (if m < x then x else m) r
def minL : Int → List Int → Int
  | m, [] => m
  | m, x :: r => minL (if x < m then x else m) r
def cutD (ds : List D) (lo hi : Option Int) : List D := (ds.drop (HT.sIx ds.length 0 lo)).take (HT.sIx ds.length ds.length hi - HT.sIx ds.length 0 lo)
def CMulQ (i j : Int) : Prop := CMulW i j ∨ CMul i j ∨ IntMulOk i j
def CPowQ (i j : Int) : Prop := 0 ≤ j ∧ (Builtin.Int.intBits i : Int) * j ≤ 2 ^ 27
def repS (a : Str) (n : Int) : Str := if n < 1 then Str.empty else if (n == 1 || a.length == 0) = true then a else ⟨(List.replicate n.toNat a.cps).foldl (· ++ ·) #[]⟩
def bopW : Bop → D → D → (D → Prop) → Prop
  | .mul, .str a, .int n, k => (-(2 ^ 60) ≤ n ∧ n ≤ 2 ^ 60 ∧ a.length * n.toNat ≤ sizeLine ∧ (repS a n).length ≤ sizeLine) ∧ k (.str (repS a n))
  | .add, .int a, .int b, k => k (.int (a + b))
  | .add, .str a, .str b, k => a.length + b.length ≤ sizeLine ∧ k (.str (a ++ b))
  | .add, .lst a, .lst b, k => a.length + b.length ≤ sizeLine ∧ k (.lst (a ++ b))
  | .add, .tup a, .tup b, k => a.length + b.length ≤ sizeLine ∧ k (.tup (a ++ b))
  | .sub, .int a, .int b, k => k (.int (a - b))
  | .mul, .int a, .int b, k => CMulQ a b ∧ k (.int (a * b))
  | .fdiv, .int a, .int b, k => CDivW a b ∧ k (.int (a / b))
  | .mod, .int a, .int b, k => 0 < b ∧ k (.int (a % b))
  | .pow, .int a, .int b, k => CPowQ a b ∧ k (.int (a ^ b.toNat))
  | _, _, _, _ => False
def eqW (a b : D) (k : Bool → Prop) : Prop := match a, b with
  | .int x, .int y => k (decide (x = y))
  | .str x, .str y => k (decide (x = y))
  | .bl x, .bl y => k (decide (x = y))
  | a, b => SeqAt.shaped a.py = true ∧ SeqAt.shaped b.py = true ∧ k (PyData.eqv a.py b.py)
def copW : Cop → D → D → (Bool → Prop) → Prop
  | .lt, .int a, .int b, k => k (decide (a < b))
  | .le, .int a, .int b, k => k (decide (a ≤ b))
  | .gt, .int a, .int b, k => k (decide (b < a))
  | .ge, .int a, .int b, k => k (decide (b ≤ a))
  | .eq, a, b, k => eqW a b k
  | .ne, a, b, k => eqW a b fun r => k !r
  | .is_, a, .non, k => k (match a with | .non => true | _ => false)
  | .isnot, a, .non, k => k (match a with | .non => false | _ => true)
  | .lt, .str a, .str b, k => k (decide (a.cps.toList < b.cps.toList))
  | .gt, .str a, .str b, k => k (decide (b.cps.toList < a.cps.toList))
  | .le, .str a, .str b, k => k (!(decide (b.cps.toList < a.cps.toList)))
  | .ge, .str a, .str b, k => k (!(decide (a.cps.toList < b.cps.toList)))
  | .in_, .str a, .str b, k => k (!(Builtin.Str.occurrences b a 0 b.length 1).isEmpty)
  | .notin, .str a, .str b, k => k (!(!(Builtin.Str.occurrences b a 0 b.length 1).isEmpty))
  | .in_, a, .lst ds, k => SeqAt.shaped a.py = true ∧ SeqAt.shaped (D.lst ds).py = true ∧ k ((D.py.pys ds).any fun z => PyData.eqv z a.py)
  | .notin, a, .lst ds, k => SeqAt.shaped a.py = true ∧ SeqAt.shaped (D.lst ds).py = true ∧ k (!(D.py.pys ds).any fun z => PyData.eqv z a.py)
  | .in_, a, .tup ds, k => SeqAt.shaped a.py = true ∧ SeqAt.shaped (D.tup ds).py = true ∧ k ((D.py.pys ds).any fun z => PyData.eqv z a.py)
  | .notin, a, .tup ds, k => SeqAt.shaped a.py = true ∧ SeqAt.shaped (D.tup ds).py = true ∧ k (!(D.py.pys ds).any fun z => PyData.eqv z a.py)
  | .in_, a, .ro ds, k => SeqAt.shaped a.py = true ∧ SeqAt.shaped (D.lst ds).py = true ∧ k ((D.py.pys ds).any fun z => PyData.eqv z a.py)
  | .notin, a, .ro ds, k => SeqAt.shaped a.py = true ∧ SeqAt.shaped (D.lst ds).py = true ∧ k (!(D.py.pys ds).any fun z => PyData.eqv z a.py)
  | .in_, .str s, .kd _ ks ds, k => k (lookS ks ds s).isSome
  | .notin, .str s, .kd _ ks ds, k => k (!(lookS ks ds s).isSome)
  | _, _, _, _ => False
def insB {α : Type} (le : α → α → Bool) (x : α) : List α → List α
  | [] => [x]
  | y :: r => if le x y = true then x :: y :: r else y :: insB le x r
def sortB {α : Type} (le : α → α → Bool) : List α → List α
  | [] => []
  | x :: r => insB le x (sortB le r)
def leI (a b : Int) : Bool := decide (a ≤ b)
def leP (a b : Int × Int) : Bool := decide (a.1 < b.1 ∨ (a.1 = b.1 ∧ a.2 ≤ b.2))
def leS (a b : Str) : Bool := !decide (b.cps.toList < a.cps.toList)
def prs? : List D → Option (List (Int × Int))
  | [] => some []
  | .tup [.int i, .int j] :: r => match prs? r with
    | some l => some ((i, j) :: l)
    | none => none
  | _ :: _ => none
def strs? : List D → Option (List Str)
  | [] => some []
  | .str s :: r => match strs? r with
    | some l => some (s :: l)
    | none => none
  | _ :: _ => none
def prD (p : Int × Int) : D := .tup [.int p.1, .int p.2]
def op1W : Op1 → D → (D → Prop) → Prop
  | .intS, .str s, k => s.length ≤ 640 ∧ match PySem.intText? s with
    | some n => k (.int n)
    | none => False
  | .sortI, .lst xs, k => match ints? xs with
    | some ns => k (.lst ((sortB leI ns).map .int))
    | none => False
  | .sortP, .lst xs, k => match prs? xs with
    | some ps => k (.lst ((sortB leP ps).map prD))
    | none => False
  | .sortS, .lst xs, k => match strs? xs with
    | some ss => ss.length < 64 ∧ k (.lst ((sortB leS ss).map .str))
    | none => False
  | .upper, .str s, k => s.length ≤ 5592405 ∧ k (.str (Txt.upper s))
  | _, _, _ => False
def keysW (fs : FS) : List D → (List D → Prop) → Prop
  | [], k => k []
  | x :: r, k => fs [x] (fun y => keysW fs r fun ys => k (y :: ys)) fun _ => False
def sortK {κ α : Type} (le : κ → κ → Bool) (ks : List κ) (xs : List α) : List α := (sortB (fun (p q : κ × α) => le p.1 q.1) (ks.zip xs)).map (·.2)
def srtE (pr : Bool) (xs : List D) (k : D → Prop) (ks : List D) : Prop := match pr with
  | false => (match ints? ks with
    | some ns => k (.lst (sortK leI ns xs))
    | none => False)
  | true => (match prs? ks with
    | some ps => k (.lst (sortK leP ps xs))
    | none => False)
def srtW (pr : Bool) (fs : FS) : D → (D → Prop) → Prop
  | .lst xs, k => keysW fs xs (srtE pr xs k)
  | _, _ => False
def joinW (a : Str) (ys : List D) (k : D → Prop) : Prop := match strs? ys with
  | some zs => (zs.map (·.length)).sum + zs.length * a.length ≤ 16777216 ∧ k (.str (Txt.join a zs))
  | none => False
def isS : D → Prop
  | .str _ => True
  | _ => False
def op2W : Op2 → D → D → (D → Prop) → Prop
  | .join, .str a, .lst ys, k => joinW a ys k
  | .join, .str a, .tup ys, k => joinW a ys k
  | .split, .str a, .str b, k => (b.length == 0) = false ∧ a.length + 2 ≤ sizeLine ∧ k (.lst ((Txt.split a b).map .str))
  | .starts, .str a, .str b, k => k (.bl (Txt.startswith a b))
  | .lstrip, .str a, .str b, k => a.length ≤ sizeLine ∧ k (.str (Txt.lstripChars a b))
  | _, _, _, _ => False
def bltW : Blt → List D → (D → Prop) → Prop
  | .len, [.lst xs], k => k (.int xs.length)
  | .len, [.tup xs], k => k (.int xs.length)
  | .len, [.ro xs], k => k (.int xs.length)
  | .len, [.str s], k => s.length ≤ sizeLine ∧ k (.int s.length)
  | .abs, [.int i], k => k (.int (if i < 0 then -i else i))
  | .int, [.int i], k => k (.int i)
  | .int, [.bl b], k => k (.int (if b = true then 1 else 0))
  | .isqrt, [.int i], k => 0 ≤ i ∧ i.toNat.log2 < 13470 ∧ k (.int (Float64.isqrt i.toNat : Nat))
  | .min, [.int a, .int b], k => k (.int (if b < a then b else a))
  | .max, [.int a, .int b], k => k (.int (if a < b then b else a))
  | .min, [.int a, .int b, .int c], k => k (.int (if c < (if b < a then b else a) then c else (if b < a then b else a)))
  | .max, [.int a, .int b, .int c], k => k (.int (if (if a < b then b else a) < c then c else (if a < b then b else a)))
  | .min, [.lst xs], k => match ints? xs with
    | some (n :: r) => k (.int (minL n r))
    | _ => False
  | .max, [.lst xs], k => match ints? xs with
    | some (n :: r) => k (.int (maxL n r))
    | _ => False
  | .sum, [.lst xs], k => match ints? xs with
    | some ns => k (.int ns.sum)
    | none => False
  | .list, [.lst xs], k => k (.lst xs)
  | .list, [.tup xs], k => k (.lst xs)
  | .tuple, [.lst xs], k => k (.tup xs)
  | .tuple, [.tup xs], k => k (.tup xs)
  | .str, [.int i], k => i.natAbs.log2 < 1920 ∧ k (.str (toString i : String))
  | .isi, [d, .ty n], k => match kitD d n with
    | some b => k (.bl b)
    | none => False
  | _, _, _ => False
def truW : D → (Bool → Prop) → Prop
  | .bl b, k => k b
  | .int i, k => k (i != 0)
  | .str s, k => s.length ≤ sizeLine ∧ k (s.length != 0)
  | .lst xs, k => k (!xs.isEmpty)
  | .tup xs, k => k (!xs.isEmpty)
  | .non, k => k false
  | _, _ => False
def ixS (s : Str) : Int → Option Nat
  | .ofNat n => s.cps.toList[n]?
  | .negSucc n => if n < s.cps.toList.length then s.cps.toList[s.cps.toList.length - 1 - n]? else none
def idxW : D → D → (D → Prop) → Prop
  | .str s, .int i, k => s.length ≤ sizeLine ∧ match ixS s i with
    | some c => k (.str ⟨#[c]⟩)
    | none => False
  | .lst xs, .int i, k => match ixD xs i with
    | some d => k d
    | none => False
  | .lst xs, .bl b, k => match ixD xs (if b = true then 1 else 0) with
    | some d => k d
    | none => False
  | .tup xs, .int i, k => match ixD xs i with
    | some d => k d
    | none => False
  | .ro xs, .int i, k => match ixD xs i with
    | some d => k d
    | none => False
  | .kd _ ks ds, .str s, k => match lookS ks ds s with
    | some d => k d
    | none => False
  | _, _, _ => False
def sltW : D → Option Int → Option Int → (D → Prop) → Prop
  | .tup xs, lo, hi, k => k (.tup (cutD xs lo hi))
  | .str s, lo, hi, k => s.length ≤ sizeLine ∧ k (.str (cutS s lo hi))
  | _, _, _, _ => False
def slcW : D → Option Int → Option Int → (D → Prop) → Prop
  | .lst xs, lo, hi, k => k (.lst (cutD xs lo hi))
  | _, _, _, _ => False
def atB : List (Nat × Nat) → Nat → Nat → Bool
  | [], _, _ => false
  | p :: r, c, f => if p.1 = c then (if p.2 = f then true else atB r c f) else atB r c f
def atrW (AT : List (Nat × Nat)) : D → Nat → (D → Prop) → Prop
  | .ins c ks xs, f, k => atB AT c f = true ∧ match looks ks xs f with
    | some d => k d
    | none => False
  | _, _, _ => False
mutual
def bindW : Tg → D → Env → (Env → Prop) → Prop
  | .nm i, d, ρ, k => k (ρ.set i (.val d))
  | .tp ts, d, ρ, k => match d with
    | .tup xs => ts.length = xs.length ∧ bindsW ts xs ρ k
    | .lst xs => ts.length = xs.length ∧ bindsW ts xs ρ k
    | _ => False
def bindsW : List Tg → List D → Env → (Env → Prop) → Prop
  | [], [], ρ, k => k ρ
  | t :: ts, d :: ds, ρ, k => bindW t d ρ fun ρ' => bindsW ts ds ρ' k
  | _, _, _, _ => False
end
mutual
def Tg.slots : Tg → List Nat
  | .nm i => [i]
  | .tp ts => slotss ts
def slotss : List Tg → List Nat
  | [] => []
  | t :: ts => t.slots ++ slotss ts
end
def wipeR (ρ : Env) : List Nat → Env
  | [] => ρ
  | v :: vs => (wipeR ρ vs).set v .un
def mapW (f : D → (Option D → Prop) → Prop) : List D → (List D → Prop) → Prop
  | [], k => k []
  | x :: r, k => f x fun o => mapW f r fun ys => k (match o with
    | some y => y :: ys
    | none => ys)
def rangeD (lo : Int) (n : Nat) : List D := (List.range n).map fun i => .int (lo + (i : Nat))
def strD (s : Str) : List D := s.cps.toList.map fun c => .str ⟨#[c]⟩
theorem strD_len (s : Str) : (strD s).length = s.length := by
  show (s.cps.toList.map _).length = s.cps.size
  rw [List.length_map, Array.length_toList]
def zipW (d e : D) (k : List D → Prop) : Prop := match d, e with
  | .lst xs, .lst ys => k (List.zipWith (fun u v => .tup [u, v]) xs ys)
  | .tup xs, .tup ys => k (List.zipWith (fun u v => .tup [u, v]) xs ys)
  | _, _ => False
def enmD : Nat → List D → List D
  | _, [] => []
  | i, x :: r => .tup [.int (i : Nat), x] :: enmD (i + 1) r
def lrW : D → D → (D → Prop) → Prop
  | .int a, .int b, k => (-(2 ^ 62) ≤ a ∧ a < 2 ^ 62 ∧ -(2 ^ 62) ≤ b ∧ b < 2 ^ 62 ∧ b - a ≤ 16777216) ∧ k (.lst (rangeD a (b - a).toNat))
  | _, _, _ => False
def dg2W (k1 k2 : Str) (d1 d2 d3 : D) : D → (D → Prop) → Prop
  | .str z, k => k (if z = k1 then d1 else if z = k2 then d2 else d3)
  | _, _ => False
def isnW (its : List Nat) : List D → (D → Prop) → Prop
  | [d, .ty n], k => n = "tuple" ∧ (match d with
    | .ins c _ _ => its.contains c = true ∧ k (.bl false)
    | d => match kitD d "tuple" with
      | some b => k (.bl b)
      | none => False)
  | _, _ => False
def rngW : List D → (List D → Prop) → Prop
  | [.int n], k => (-(2 ^ 62) ≤ n ∧ n ≤ 16777216) ∧ k (rangeD 0 n.toNat)
  | [.int a, .int b], k => b - a ≤ 16777216 ∧ k (rangeD a (b - a).toNat)
  | _, _ => False
def lokW (i : Nat) (ρ : Env) (k : D → Prop) : Prop := match ρ[i]? with
  | some (.val d) => k d
  | some (.lok d) => k d
  | _ => False
def brwW (i : Nat) (ρ : Env) (k : D → Prop) : Prop := match ρ[i]? with
  | some (.val d) => k d
  | some (.own ds) => k (.lst ds)
  | some (.obj c ks ds) => k (.ins c ks ds)
  | some (.lok d) => k d
  | _ => False
section
variable (NM : Nam) (AT : List (Nat × Nat)) (Φ : List Cal) (Γ : List (Str × D))
mutual
def wpE : E → Env → (D → Prop) → (Exc → Prop) → Prop
  | .var i, ρ, k, _ => match ρ[i]? with
    | some (.val d) => k d
    | _ => False
  | .brw i, ρ, k, _ => match ρ[i]? with
    | some (.val d) => k d
    | some (.own ds) => k (.lst ds)
    | some (.obj c ks ds) => k (.ins c ks ds)
    | some (.lok d) => k d
    | _ => False
  | .cst d, _, k, _ => k d
  | .glo j, _, k, _ => match Γ[j]? with
    | some p => k p.2
    | none => False
  | .bin o a b, ρ, k, x => wpE a ρ (fun d => wpE b ρ (fun e => bopW o d e k) x) x
  | .neg a, ρ, k, x => wpE a ρ (fun d => match d with
    | .int i => k (.int (-i))
    | _ => False) x
  | .not a, ρ, k, x => wpE a ρ (fun d => match d with
    | .bl b => k (.bl !b)
    | _ => False) x
  | .and es, ρ, k, x => wpAnd es ρ k x
  | .or es, ρ, k, x => wpOr es ρ k x
  | .cmp o a b, ρ, k, x => wpE a ρ (fun d => wpE b ρ (fun e => copW o d e fun r => k (.bl r)) x) x
  | .chn o p a b c, ρ, k, x => wpE a ρ (fun d => wpE b ρ (fun e => copW o d e fun r => if r = true then wpE c ρ (fun g => copW p e g fun r => k (.bl r)) x else k (.bl false)) x) x
  | .ch3 o p q a b c g, ρ, k, x => wpE a ρ (fun d => wpE b ρ (fun e => copW o d e fun r => if r = true then wpE c ρ (fun h => copW p e h fun r => if r = true then wpE g ρ (fun i => copW q h i fun r => k (.bl r)) x else k (.bl false)) x else k (.bl false)) x) x
  | .ife c a b, ρ, k, x => wpT c ρ (fun r => if r = true then wpE a ρ k x else wpE b ρ k x) x
  | .call j es, ρ, k, x => match Φ[j]? with
    | some c => wpEs es ρ (fun ds => c.fs (ds ++ c.dfl) k x) x
    | none => False
  | .make j es, ρ, k, x => match Φ[j]? with
    | some c => wpEs es ρ (fun ds => c.is (ds ++ c.dfl) (fun ks xs => k (.ins c.cls ks xs)) x) x
    | none => False
  | .meth j o es, ρ, k, x => match Φ[j]? with
    | some c => wpE o ρ (fun d => (match d with
      | .ins i ks _ => i = c.cls ∧ (ks.all fun k => decide (NM.at_ k ≠ c.mt)) = true
      | _ => False) ∧ wpEs es ρ (fun ds => c.fs (d :: (ds ++ c.dfl)) k x) x) x
    | none => False
  | .blt b es, ρ, k, x => wpEs es ρ (fun ds => bltW b ds k) x
  | .atr e f, ρ, k, x => wpE e ρ (fun d => atrW AT d f k) x
  | .idx a b, ρ, k, x => wpE a ρ (fun d => wpE b ρ (fun i => idxW d i k) x) x
  | .slc a lo hi, ρ, k, x => wpE a ρ (fun d => wpO lo ρ (fun l => wpO hi ρ (fun h => slcW d l h k) x) x) x
  | .slt a lo hi, ρ, k, x => wpE a ρ (fun d => wpO lo ρ (fun l => wpO hi ρ (fun h => sltW d l h k) x) x) x
  | .tup es, ρ, k, x => es.length ≤ sizeLine ∧ wpEs es ρ (fun ds => k (.tup ds)) x
  | .lst es, ρ, k, x => es.length ≤ sizeLine ∧ wpEs es ρ (fun ds => k (.lst ds)) x
  | .comp e t it c, ρ, k, x => wpI it ρ (fun ds => mapW (fun d kk => bindW t d (wipeR ρ t.slots) fun ρ' => wpTs c ρ' (fun b => if b = true then wpE e ρ' (fun y => kk (some y)) (fun _ => False) else kk none) fun _ => False) ds fun ys => k (.lst ys)) x
  | .fnm j, _, k, _ => match Φ[j]? with
    | some c => k (.fn c.nm)
    | none => False
  | .calv i es, ρ, k, x => match ρ[i]? with
    | some (.val (.fn n)) => match Φ.find? (fun c => decide (c.nm = n) && decide (c.mt = ("" : Str)) && c.bw.isEmpty) with
      | some c => es.length + c.dfl.length = c.ar ∧ wpEs es ρ (fun ds => c.fs (ds ++ c.dfl) k x) x
      | none => False
    | _ => False
  | .op1 o a, ρ, k, x => wpE a ρ (fun d => op1W o d k) x
  | .op2 o a b, ρ, k, x => wpE a ρ (fun d => isS d ∧ wpE b ρ (fun e => op2W o d e k) x) x
  | .lrg a b, ρ, k, x => wpE a ρ (fun d => wpE b ρ (fun e => lrW d e k) x) x
  | .dg2 k1 k2 a b w d, ρ, k, x => wpE a ρ (fun d1 => wpE b ρ (fun d2 => wpE w ρ (fun s => wpE d ρ (fun d3 => dg2W k1 k2 d1 d2 d3 s k) x) x) x) x
  | .isn es, ρ, k, x => wpEs es ρ (fun ds => isnW NM.its ds k) x
  | .srt pr j a, ρ, k, x => match Φ[j]? with
    | some c => wpE a ρ (fun d => srtW pr c.fs d k) x
    | none => False
  | .bcall j es, ρ, k, x => match Φ[j]? with
    | some c => wpEs es ρ (fun ds => c.fs (ds ++ c.dfl) k x) x
    | none => False
  | .bmeth j i es, ρ, k, x => match Φ[j]? with
    | some c => brwW i ρ fun d => (match d with
      | .ins i ks _ => i = c.cls ∧ (ks.all fun k => decide (NM.at_ k ≠ c.mt)) = true
      | _ => False) ∧ wpEs es ρ (fun ds => c.fs (d :: (ds ++ c.dfl)) k x) x
    | none => False
def wpEs : List E → Env → (List D → Prop) → (Exc → Prop) → Prop
  | [], _, k, _ => k []
  | e :: es, ρ, k, x => wpE e ρ (fun d => wpEs es ρ (fun ds => k (d :: ds)) x) x
def wpAnd : List E → Env → (D → Prop) → (Exc → Prop) → Prop
  | [], _, _, _ => False
  | [e], ρ, k, x => wpE e ρ k x
  | e :: es, ρ, k, x => wpE e ρ (fun d => match d with
    | .bl b => if b = true then wpAnd es ρ k x else k (.bl false)
    | _ => False) x
def wpOr : List E → Env → (D → Prop) → (Exc → Prop) → Prop
  | [], _, _, _ => False
  | [e], ρ, k, x => wpE e ρ k x
  | e :: es, ρ, k, x => wpE e ρ (fun d => match d with
    | .bl b => if b = true then k (.bl true) else wpOr es ρ k x
    | _ => False) x
def wpO : Option E → Env → (Option Int → Prop) → (Exc → Prop) → Prop
  | none, _, k, _ => k none
  | some e, ρ, k, x => wpE e ρ (fun d => match d with
    | .int i => k (some i)
    | _ => False) x
def wpT : T → Env → (Bool → Prop) → (Exc → Prop) → Prop
  | .val e, ρ, k, x => wpE e ρ (fun d => truW d k) x
  | .cmp o a b, ρ, k, x => wpE a ρ (fun d => wpE b ρ (fun e => copW o d e k) x) x
  | .chn o p a b c, ρ, k, x => wpE a ρ (fun d => wpE b ρ (fun e => copW o d e fun r => if r = true then wpE c ρ (fun g => copW p e g k) x else k false) x) x
  | .ch3 o p q a b c g, ρ, k, x => wpE a ρ (fun d => wpE b ρ (fun e => copW o d e fun r => if r = true then wpE c ρ (fun h => copW p e h fun r => if r = true then wpE g ρ (fun i => copW q h i k) x else k false) x else k false) x) x
  | .ch4 o p q s a b c g u, ρ, k, x => wpE a ρ (fun d => wpE b ρ (fun e => copW o d e fun r => if r = true then wpE c ρ (fun h => copW p e h fun r => if r = true then wpE g ρ (fun i => copW q h i fun r => if r = true then wpE u ρ (fun j => copW s i j k) x else k false) x else k false) x else k false) x) x
  | .not t, ρ, k, x => wpT t ρ (fun b => k !b) x
  | .and ts, ρ, k, x => wpTand ts ρ k x
  | .or ts, ρ, k, x => wpTor ts ρ k x
def wpTand : List T → Env → (Bool → Prop) → (Exc → Prop) → Prop
  | [], _, _, _ => False
  | [t], ρ, k, x => wpT t ρ k x
  | t :: ts, ρ, k, x => wpT t ρ (fun b => if b = true then wpTand ts ρ k x else k false) x
def wpTor : List T → Env → (Bool → Prop) → (Exc → Prop) → Prop
  | [], _, _, _ => False
  | [t], ρ, k, x => wpT t ρ k x
  | t :: ts, ρ, k, x => wpT t ρ (fun b => if b = true then k true else wpTor ts ρ k x) x
def wpTs : List T → Env → (Bool → Prop) → (Exc → Prop) → Prop
  | [], _, k, _ => k true
  | [t], ρ, k, x => wpT t ρ k x
  | _, _, _, _ => False
def wpI : It → Env → (List D → Prop) → (Exc → Prop) → Prop
  | .exl i, ρ, k, _ => lokW i ρ fun d => match d with
    | .lst xs => k xs
    | .tup xs => k xs
    | .ro xs => k xs
    | .str s => s.length ≤ sizeLine ∧ k (strD s)
    | _ => False
  | .ex e, ρ, k, x => wpE e ρ (fun d => match d with
    | .lst xs => k xs
    | .tup xs => k xs
    | .ro xs => k xs
    | .str s => s.length ≤ sizeLine ∧ k (strD s)
    | _ => False) x
  | .rng es, ρ, k, x => wpEs es ρ (fun ds => rngW ds k) x
  | .zip a b, ρ, k, x => wpE a ρ (fun d => wpE b ρ (fun e => zipW d e k) x) x
  | .enm a, ρ, k, x => wpE a ρ (fun d => match d with
    | .lst xs => k (enmD 0 xs)
    | .tup xs => k (enmD 0 xs)
    | _ => False) x
end
end
def frzR (ρ : Env) (i : Nat) : Env := match ρ[i]? with
  | some (.own ds) => ρ.set i (.val (.lst ds))
  | _ => ρ
def E.fresh : E → Bool
  | .lst _ => true
  | .comp _ _ _ _ => true
  | .slc _ _ _ => true
  | .blt .list [_] => true
  | .bin .add _ _ => true
  | _ => false
def slOf : D → Sl
  | .lst ds => .own ds
  | d => .val d
def putD (f : Nat) (v : D) : List Nat → List D → List Nat × List D
  | k :: ks, d :: ds => if k = f then (k :: ks, v :: ds) else (k :: (putD f v ks ds).1, d :: (putD f v ks ds).2)
  | _, _ => ([f], [v])
def forW (body : D → Env → Dn → Prop) : List D → Env → Dn → Prop
  | [], ρ, d => d.nx ρ
  | x :: r, ρ, d => body x ρ { nx := fun ρ' => forW body r ρ' d, ct := fun ρ' => forW body r ρ' d, bk := d.nx, rt := d.rt, er := d.er }
def whlW (turn : Env → Dn → Prop) : Nat → Env → Dn → Prop
  | 0, _, _ => False
  | n + 1, ρ, d => turn ρ { nx := fun ρ' => whlW turn n ρ' d, ct := fun ρ' => whlW turn n ρ' d, bk := d.nx, rt := d.rt, er := d.er }
def subT : List (Nat × Nat × Bool) → Nat → Nat → Option Bool
  | [], _, _ => none
  | p :: r, a, b => if p.1 = a ∧ p.2.1 = b then some p.2.2 else subT r a b
def exnF (l : List (Nat × Nat × Bool)) (c f : Nat) : Bool := l.any fun p => decide (p.1 = c) && decide (p.2.1 = f)
section
variable (NM : Nam) (x : Exc)
mutual
def evU : U → Option D
  | .cst d => some d
  | .fld f => if exnF NM.exs x.c f = true then looks x.ks x.xs f else none
  | .tup us => match evUs us with
    | some ds => if ds.length ≤ 1000 then some (.tup ds) else none
    | none => none
def evUs : List U → Option (List D)
  | [] => some []
  | u :: us => match evU u, evUs us with
    | some d, some ds => some (d :: ds)
    | _, _ => none
end
mutual
def evV : Vt → Option Bool
  | .isx c => subT NM.sub x.c c
  | .isv => match NM.sub.find? fun p => decide (p.1 = x.c) with
    | some _ => some true
    | none => none
  | .not v => match evV v with
    | some b => some !b
    | none => none
  | .and vs => evA vs
  | .or vs => evO vs
def evA : List Vt → Option Bool
  | [] => none
  | [v] => evV v
  | v :: vs => match evV v with
    | some true => evA vs
    | some false => some false
    | none => none
def evO : List Vt → Option Bool
  | [] => none
  | [v] => evV v
  | v :: vs => match evV v with
    | some true => some true
    | some false => evO vs
    | none => none
end
def suW : List Su → (D → Prop) → Prop → Prop
  | [], _, nx => nx
  | .ret u :: _, rt, _ => match evU NM x u with
    | some d => rt d
    | none => False
  | .ifr v u :: r, rt, nx => match evV NM x v with
    | some true => (match evU NM x u with
      | some d => rt d
      | none => False)
    | some false => suW r rt nx
    | none => False
def hxR (h : Hx) (ρ : Env) : Env := match h.i with
  | some i => ρ.set i .un
  | none => ρ
def hdW : List Hx → Env → Dn → Prop
  | [], ρ, d => d.er x ρ
  | h :: r, ρ, d => match subT NM.sub x.c h.c with
    | some true => suW NM x h.su d.rt (d.nx (hxR h ρ))
    | some false => hdW r ρ d
    | none => False
end
def smallD (st : Bool) : D → Prop
  | .int i => i.natAbs.log2 < 1920
  | _ => st = false
section
variable (NM : Nam) (AT : List (Nat × Nat)) (Φ : List Cal) (Γ : List (Str × D))
mutual
def wpS : S → Env → Dn → Prop
  | .frz i, ρ, d => d.nx (frzR ρ i)
  | .asg t e, ρ, d => wpE NM AT Φ Γ e ρ (fun v => bindW t v ρ d.nx) (fun x => d.er x ρ)
  | .new i e, ρ, d => wpE NM AT Φ Γ e ρ (fun v => d.nx (ρ.set i (slOf v))) (fun x => d.er x ρ)
  | .par i j a b, ρ, d => wpE NM AT Φ Γ a ρ (fun v => wpE NM AT Φ Γ b ρ (fun w => d.nx ((ρ.set i (.val v)).set j (.val w))) fun x => d.er x ρ) (fun x => d.er x ρ)
  | .setIx i a e, ρ, d => match ρ[i]? with
    | some (.own ds) => wpE NM AT Φ Γ e ρ (fun v => wpE NM AT Φ Γ a ρ (fun n => match n with
      | .int n => (match ixN ds.length n with
        | some m => d.nx (ρ.set i (.own (ds.set m v)))
        | none => False)
      | _ => False) fun x => d.er x ρ) (fun x => d.er x ρ)
    | _ => False
  | .app i e, ρ, d => match ρ[i]? with
    | some (.own ds) => wpE NM AT Φ Γ e ρ (fun v => ds.length < sizeLine ∧ d.nx (ρ.set i (.own (ds ++ [v])))) (fun x => d.er x ρ)
    | _ => False
  | .aug i o e, ρ, d => match ρ[i]? with
    | some (.val (.int v)) => wpE NM AT Φ Γ e ρ (fun w => match w with
      | .int w => bopW o (.int v) (.int w) fun r => d.nx (ρ.set i (.val r))
      | _ => False) (fun x => d.er x ρ)
    | _ => False
  | .fld i f e, ρ, d => match ρ[i]? with
    | some (.obj c ks ds) => atB AT c f = true ∧ ks.length < 1000 ∧ wpE NM AT Φ Γ e ρ (fun v => d.nx (ρ.set i (.obj c (putD f v ks ds).1 (putD f v ks ds).2))) (fun x => d.er x ρ)
    | _ => False
  | .exp e, ρ, d => wpE NM AT Φ Γ e ρ (fun _ => d.nx ρ) (fun x => d.er x ρ)
  | .ret e, ρ, d => wpE NM AT Φ Γ e ρ d.rt (fun x => d.er x ρ)
  | .retN, _, d => d.rt .non
  | .ite c a b, ρ, d => wpT NM AT Φ Γ c ρ (fun r => if r = true then wpSs a ρ d else wpSs b ρ d) (fun x => d.er x ρ)
  | .for_ t it b, ρ, d => wpI NM AT Φ Γ it ρ (fun ds => forW (fun v ρ' d' => bindW t v ρ' fun ρ'' => wpSs b ρ'' d') ds ρ d) (fun x => d.er x ρ)
  | .whl c b, ρ, d => ∃ n, whlW (fun ρ' d' => wpT NM AT Φ Γ c ρ' (fun r => if r = true then wpSs b ρ' d' else d'.bk ρ') (fun x => d'.er x ρ')) n ρ d
  | .brk, ρ, d => d.bk ρ
  | .cnt, ρ, d => d.ct ρ
  | .pas, ρ, d => d.nx ρ
  | .nev, _, _ => False
  | .raise c f st e, ρ, d => wpE NM AT Φ Γ e ρ (fun v => smallD st v ∧ d.er ⟨c, [f], [v]⟩ ρ) (fun x => d.er x ρ)
  | .raise0 c, ρ, d => d.er ⟨c, [], []⟩ ρ
  | .try_ b hs, ρ, d => wpSs b ρ { d with er := fun x ρ' => hdW NM x hs ρ' d }
def wpSs : List S → Env → Dn → Prop
  | [], ρ, d => d.nx ρ
  | s :: ss, ρ, d => wpS s ρ { d with nx := fun ρ' => wpSs ss ρ' d }
end
end
end Q
namespace Q
open PySem PySem.Spec L2
def asName : Expr → Option Str
  | .Name x _ => some x
  | _ => none
def asConst : Expr → Option Const
  | .Constant c _ _ => some c
  | _ => none
def asBin : Expr → Option (Expr × Operator × Expr)
  | .BinOp a o b _ => some (a, o, b)
  | _ => none
def asUn : Expr → Option (UnaryOp × Expr)
  | .UnaryOp o a _ => some (o, a)
  | _ => none
def asBoo : Expr → Option (BoolOp × List Expr)
  | .BoolOp o es _ => some (o, es)
  | _ => none
def asCmp : Expr → Option (Expr × List CmpOp × List Expr)
  | .Compare a os es _ => some (a, os, es)
  | _ => none
def asIfE : Expr → Option (Expr × Expr × Expr)
  | .IfExp c a b _ => some (c, a, b)
  | _ => none
def asCall : Expr → Option (Expr × List Expr)
  | .Call f es [] _ => some (f, es)
  | _ => none
def asMet : Expr → Option (Expr × Str × Pos × Expr × List Expr × Pos)
  | .Call (.Attribute o m ap) (e :: es) [] p => some (o, m, ap, e, es, p)
  | _ => none
def asMet0 : Expr → Option (Expr × Str × Pos × Pos)
  | .Call (.Attribute o m ap) [] [] p => some (o, m, ap, p)
  | _ => none
theorem asMet0_eq {e : Expr} {o m ap p} (h : asMet0 e = some (o, m, ap, p)) : e = .Call (.Attribute o m ap) [] [] p := by
  unfold asMet0 at h
  split at h
  · cases h; rfl
  · cases h
def recvB : Expr → Bool
  | .Name _ _ => true
  | .Attribute _ _ _ => true
  | .Subscript _ _ _ => true
  | _ => false
def asAtr : Expr → Option (Expr × Str)
  | .Attribute e f _ => some (e, f)
  | _ => none
def asSub : Expr → Option (Expr × Expr)
  | .Subscript a b _ => some (a, b)
  | _ => none
def asSlc : Expr → Option (Option Expr × Option Expr)
  | .Slice a b none _ => some (a, b)
  | _ => none
def asTup : Expr → Option (List Expr)
  | .Tuple es _ _ => some es
  | _ => none
def asLst : Expr → Option (List Expr)
  | .List es _ => some es
  | _ => none
def asComp : Expr → Option (Expr × Expr × Expr × List Expr × Scope)
  | .ListComp e [⟨t, i, c, 0⟩] s _ => some (e, t, i, c, s)
  | _ => none
def good : Expr → Bool
  | .Slice _ _ _ _ => false
  | .Starred _ _ => false
  | .NamedExpr _ _ _ => false
  | .Set _ _ _ => false
  | _ => true
def plainT : Expr → Bool
  | .UnaryOp .Not _ _ => false
  | .BoolOp _ _ _ => false
  | .IfExp _ _ _ _ => false
  | .Compare _ _ _ _ => false
  | _ => true
def plainA : Expr → Bool
  | .Call _ [] _ _ => false
  | _ => true
theorem asName_eq {e : Expr} {x : Str} (h : asName e = some x) : ∃ p, e = .Name x p := by cases e <;> cases h; exact ⟨_, rfl⟩
theorem asConst_eq {e : Expr} {c} (h : asConst e = some c) : ∃ j p, e = .Constant c j p := by cases e <;> cases h; exact ⟨_, _, rfl⟩
theorem asBin_eq {e : Expr} {a o b} (h : asBin e = some (a, o, b)) : ∃ p, e = .BinOp a o b p := by cases e <;> cases h; exact ⟨_, rfl⟩
theorem asUn_eq {e : Expr} {o a} (h : asUn e = some (o, a)) : ∃ p, e = .UnaryOp o a p := by cases e <;> cases h; exact ⟨_, rfl⟩
theorem asBoo_eq {e : Expr} {o es} (h : asBoo e = some (o, es)) : ∃ p, e = .BoolOp o es p := by cases e <;> cases h; exact ⟨_, rfl⟩
theorem asCmp_eq {e : Expr} {a os es} (h : asCmp e = some (a, os, es)) : ∃ p, e = .Compare a os es p := by cases e <;> cases h; exact ⟨_, rfl⟩
theorem asIfE_eq {e : Expr} {c a b} (h : asIfE e = some (c, a, b)) : ∃ p, e = .IfExp c a b p := by cases e <;> cases h; exact ⟨_, rfl⟩
theorem asCall_eq {e : Expr} {f es} (h : asCall e = some (f, es)) : ∃ p, e = .Call f es [] p := by
  unfold asCall at h
  split at h <;> cases h
  exact ⟨_, rfl⟩
theorem asMet_eq {e : Expr} {o m ap x es p} (h : asMet e = some (o, m, ap, x, es, p)) : e = .Call (.Attribute o m ap) (x :: es) [] p := by
  unfold asMet at h
  split at h <;> cases h
  rfl
theorem asAtr_eq {e : Expr} {o f} (h : asAtr e = some (o, f)) : ∃ p, e = .Attribute o f p := by cases e <;> cases h; exact ⟨_, rfl⟩
theorem asSub_eq {e : Expr} {a b} (h : asSub e = some (a, b)) : ∃ p, e = .Subscript a b p := by cases e <;> cases h; exact ⟨_, rfl⟩
theorem asSlc_eq {e : Expr} {a b} (h : asSlc e = some (a, b)) : ∃ p, e = .Slice a b none p := by
  unfold asSlc at h
  split at h <;> cases h
  exact ⟨_, rfl⟩
theorem asTup_eq {e : Expr} {es} (h : asTup e = some es) : ∃ k p, e = .Tuple es k p := by cases e <;> cases h; exact ⟨_, _, rfl⟩
theorem asLst_eq {e : Expr} {es} (h : asLst e = some es) : ∃ p, e = .List es p := by cases e <;> cases h; exact ⟨_, rfl⟩
theorem asComp_eq {e : Expr} {x t i c s} (h : asComp e = some (x, t, i, c, s)) : ∃ p, e = .ListComp x [⟨t, i, c, 0⟩] s p := by
  unfold asComp at h
  split at h <;> cases h
  exact ⟨_, rfl⟩
def bopB : Bop → Operator → Bool
  | .add, .Add => true
  | .sub, .Sub => true
  | .mul, .Mult => true
  | .fdiv, .FloorDiv => true
  | .mod, .Mod => true
  | .pow, .Pow => true
  | _, _ => false
def copB : Cop → CmpOp → Bool
  | .lt, .Lt => true
  | .le, .LtE => true
  | .gt, .Gt => true
  | .ge, .GtE => true
  | .eq, .Eq => true
  | .ne, .NotEq => true
  | .is_, .Is => true
  | .isnot, .IsNot => true
  | _, _ => false
def copB1 : Cop → CmpOp → Bool
  | .in_, .In => true
  | .notin, .NotIn => true
  | o, p => copB o p
def bltN : Blt → Str
  | .len => "len"
  | .abs => "abs"
  | .int => "int"
  | .isqrt => "isqrt"
  | .min => "min"
  | .max => "max"
  | .sum => "sum"
  | .list => "list"
  | .tuple => "tuple"
  | .str => "str"
  | .isi => "isinstance"
def tyN : List (Str × String) := [("int", "int"), ("bool", "bool"), ("tuple", "tuple"), ("list", "list"), ("str", "str")]
def asM1 : Expr → Option (Expr × Str × Expr)
  | .Call (.Attribute o m ap) [e] [] p => if (ap.endLine == p.line) = true then some (o, m, e) else none
  | _ => none
def asDg2 : Expr → Option (Str × Str × Expr × Expr × Expr × Expr)
  | .Call (.Attribute (.Dict [some (.Constant (.str x1) _ _), some (.Constant (.str x2) _ _)] [a, b] _) m ap) [w, d] [] p => if m = "get" ∧ (ap.endLine == p.line) = true then some (x1, x2, a, b, w, d) else none
  | _ => none
theorem asDg2_eq {e a b w d : Expr} {x1 x2 : Str} (h : asDg2 e = some (x1, x2, a, b, w, d)) : ∃ j1 q1 j2 q2 pd ap p, e = .Call (.Attribute (.Dict [some (.Constant (.str x1) j1 q1), some (.Constant (.str x2) j2 q2)] [a, b] pd) "get" ap) [w, d] [] p ∧ (ap.endLine == p.line) = true := by
  unfold asDg2 at h
  split at h
  · split at h
    · rename_i z
      obtain ⟨rfl, z⟩ := z
      cases h
      exact ⟨_, _, _, _, _, _, _, rfl, z⟩
    · cases h
  · cases h
def asM0 : Expr → Option (Expr × Str)
  | .Call (.Attribute o m ap) [] [] p => if (ap.endLine == p.line) = true then some (o, m) else none
  | _ => none
theorem asM1_eq {e o x : Expr} {m : Str} (h : asM1 e = some (o, m, x)) : ∃ ap p, e = .Call (.Attribute o m ap) [x] [] p ∧ (ap.endLine == p.line) = true := by
  unfold asM1 at h
  split at h
  · split at h
    · rename_i z
      cases h
      exact ⟨_, _, rfl, z⟩
    · cases h
  · cases h
theorem asM0_eq {e o : Expr} {m : Str} (h : asM0 e = some (o, m)) : ∃ ap p, e = .Call (.Attribute o m ap) [] [] p ∧ (ap.endLine == p.line) = true := by
  unfold asM0 at h
  split at h
  · split at h
    · rename_i z
      cases h
      exact ⟨_, _, rfl, z⟩
    · cases h
  · cases h
def asB1 : Expr → Option (Str × Expr)
  | .Call (.Name f _) [x] [] _ => some (f, x)
  | _ => none
theorem asB1_eq {e x : Expr} {f : Str} (h : asB1 e = some (f, x)) : ∃ q p, e = .Call (.Name f q) [x] [] p := by
  unfold asB1 at h
  split at h
  · cases h
    exact ⟨_, _, rfl⟩
  · cases h
def asSK : Expr → Option (Str × Expr × Str × Str)
  | .Call (.Name f _) [x] [⟨some k, .Name g _, _⟩] _ => some (f, x, k, g)
  | _ => none
theorem asSK_eq {e x : Expr} {f k g : Str} (h : asSK e = some (f, x, k, g)) : ∃ p1 p2 p3 p4, e = .Call (.Name f p1) [x] [⟨some k, .Name g p2, p3⟩] p4 := by
  unfold asSK at h
  split at h
  · cases h
    exact ⟨_, _, _, _, rfl⟩
  · cases h
def op1N : Op1 → Option Str
  | .intS => some "int"
  | .sortI => some "sorted"
  | .sortP => some "sorted"
  | .sortS => some "sorted"
  | .upper => none
def op2N : Op2 → Str
  | .join => "join"
  | .split => "split"
  | .starts => "startswith"
  | .lstrip => "lstrip"
def E.noB : E → Bool
  | .brw _ => false
  | _ => true
section
variable (NM : Nam) (N : List Str) (B : List Str) (Φ : List Cal) (Γ : List (Str × D))
def visB (sc : Scope) (x : Str) : Bool := match sc.names.lookup x with
  | some .local => true
  | some .cell => true
  | some .free => true
  | _ => false
def locB (sc : Scope) (x : Str) : Bool := match sc.names.lookup x with
  | some .local => true
  | some .cell => true
  | _ => false
def gloB (sc : Scope) (x : Str) : Bool := (match sc.names.lookup x with
  | some .globalImplicit => true
  | _ => false) && !(x == ("__debug__" : Str))
def varB (sc : Scope) (i : Nat) (x : Str) : Bool := decide (N[i]? = some x) && visB sc x && !(x == ("__debug__" : Str)) && !(x == ("__classdict__" : Str))
def freB (sc : Scope) (x : Str) : Bool := gloB sc x && decide (x ∈ B) && !(x == ("__name__" : Str))
mutual
def chTg : Tg → Scope → Expr → Bool
  | .nm i, sc, e => match asName e with
    | some x => decide (N[i]? = some x) && locB sc x
    | none => false
  | .tp ts, sc, e => match asTup e with
    | some es => chTgs ts sc es
    | none => false
def chTgs : List Tg → Scope → List Expr → Bool
  | [], _, [] => true
  | t :: ts, sc, e :: es => good e && chTg t sc e && chTgs ts sc es
  | _, _, _ => false
end
def cstB : D → Const → Bool
  | .int i, .int j => decide (i = j)
  | .str s, .str t => decide (s = t)
  | .bl b, .bool c => b == c
  | .non, .none => true
  | _, _ => false
mutual
def chE : E → Scope → Expr → Bool
  | .var i, sc, e => match asName e with
    | some x => varB N sc i x
    | none => false
  | .brw i, sc, e => match asName e with
    | some x => varB N sc i x
    | none => false
  | .cst d, sc, e => match asConst e with
    | some c => cstB d c
    | none => match d, asName e with
      | .ty n, some x => freB B sc x && decide (tyN.lookup x = some n)
      | _, _ => false
  | .glo j, sc, e => match asName e, Γ[j]? with
    | some x, some p => decide (p.1 = x) && gloB sc x
    | _, _ => false
  | .bin o a b, sc, e => match asBin e with
    | some (x, p, y) => bopB o p && chE a sc x && chE b sc y
    | none => false
  | .neg a, sc, e => match asUn e with
    | some (.USub, x) => a.noB && chE a sc x
    | _ => false
  | .not a, sc, e => match asUn e with
    | some (.Not, x) => a.noB && chE a sc x
    | _ => false
  | .and es, sc, e => match asBoo e with
    | some (.And, xs) => chEs es sc xs
    | _ => false
  | .or es, sc, e => match asBoo e with
    | some (.Or, xs) => chEs es sc xs
    | _ => false
  | .cmp o a b, sc, e => match asCmp e with
    | some (x, [p], [y]) => (copB1 o p && !behindInMarks p y) && chE a sc x && chE b sc y
    | _ => false
  | .chn o o' a b c, sc, e => match asCmp e with
    | some (x, [p, p'], [y, z]) => copB o p && copB o' p' && chE a sc x && chE b sc y && chE c sc z
    | _ => false
  | .ch3 o o' o3 a b c d, sc, e => match asCmp e with
    | some (x, [p, p', p3], [y, z, t]) => copB o p && copB o' p' && copB o3 p3 && chE a sc x && chE b sc y && chE c sc z && chE d sc t
    | _ => false
  | .ife c a b, sc, e => match asIfE e with
    | some (x, y, z) => a.noB && b.noB && chT c sc x && chE a sc y && chE b sc z
    | none => false
  | .call j es, sc, e => match asCall e with
    | some (f, x :: xs) => (match asName f, Φ[j]? with
      | some n, some c => decide (c.nm = n) && decide (c.mt = "") && c.bw.isEmpty && decide (xs.length + 1 + c.dfl.length = c.ar) && gloB sc n
      | _, _ => false) && chEs es sc (x :: xs)
    | _ => false
  | .make j es, sc, e => match asCall e with
    | some (f, x :: xs) => (match asName f, Φ[j]? with
      | some n, some c => decide (c.nm = n) && decide (c.mt = "__init__") && decide (NM.cl c.cls = n) && decide (xs.length + 1 + c.dfl.length = c.ar) && gloB sc n
      | _, _ => false) && chEs es sc (x :: xs)
    | _ => false
  | .meth j o es, sc, e => match asMet e with
    | some (y, m, ap, x, xs, p) => (match Φ[j]? with
      | some c => decide (c.mt = m) && decide (m ≠ "") && decide (m ≠ "__init__") && c.bw.isEmpty && decide (xs.length + 2 + c.dfl.length = c.ar)
      | none => false) && o.noB && recvB y && (ap.endLine == p.line) && decide (xs.length < 28) && chE o sc y && chEs es sc (x :: xs)
    | none => (match asMet0 e with
      | some (y, m, ap, p) => (match Φ[j]? with
        | some c => decide (c.mt = m) && decide (m ≠ "") && decide (m ≠ "__init__") && c.bw.isEmpty && decide (1 + c.dfl.length = c.ar)
        | none => false) && o.noB && recvB y && (ap.endLine == p.line) && es.isEmpty && chE o sc y
      | none => false)
  | .blt b es, sc, e => match asCall e with
    | some (f, x :: xs) => (match asName f with
      | some n => decide (bltN b = n) && (match b with
        | .isqrt => gloB sc n && decide (("isqrt!" : Str) ∈ B)
        | _ => freB B sc n)
      | none => false) && good x && (match es, xs with
      | [a], [] => chE a sc x
      | es, xs => chEs es sc (x :: xs))
    | _ => false
  | .atr a f, sc, e => match asAtr e with
    | some (x, n) => decide (NM.at_ f = n) && plainA x && chE a sc x
    | none => false
  | .idx a b, sc, e => match asSub e with
    | some (x, y) => good y && b.noB && chE a sc x && chE b sc y
    | none => false
  | .slc a lo hi, sc, e => match asSub e with
    | some (x, y) => (match asSlc y with
      | some (l, h) => chE a sc x && chO lo sc l && chO hi sc h
      | none => false)
    | none => false
  | .slt a lo hi, sc, e => match asSub e with
    | some (x, y) => (match asSlc y with
      | some (l, h) => chE a sc x && chO lo sc l && chO hi sc h
      | none => false)
    | none => false
  | .tup es, sc, e => match asTup e with
    | some xs => chEs es sc xs
    | none => false
  | .lst es, sc, e => match asLst e with
    | some xs => chEs es sc xs
    | none => false
  | .comp a t it c, sc, e => match asComp e with
    | some (x, y, z, w, s) => blkC N sc s (t.slots.map fun i => (N.getD i "", i)) && good z && chI it sc y z && chTg N t s y && chTs c (relS s sc) w && a.noB && chE a (relS s sc) x
    | none => false
  | .fnm j, sc, e => match asName e, Φ[j]? with
    | some x, some c => decide (c.nm = x) && decide (c.mt = "") && c.bw.isEmpty && gloB sc x
    | _, _ => false
  | .calv i es, sc, e => match asCall e with
    | some (f, x :: xs) => (match asName f with
      | some n => varB N sc i n
      | none => false) && chEs es sc (x :: xs)
    | _ => false
  | .op1 o a, sc, e => match op1N o with
    | some m => (match asB1 e with
      | some (f, x) => decide (f = m) && freB B sc f && good x && a.noB && chE a sc x
      | none => false)
    | none => (match asM0 e with
      | some (x, m) => decide (m = "upper") && plainA x && a.noB && chE a sc x
      | none => false)
  | .lrg a b, sc, e => match asB1 e with
    | some (f, y) => decide (f = "list") && freB B sc f && (match asCall y with
      | some (g, [x1, x2]) => (match asName g with
        | some n => decide (n = "range") && freB B sc n
        | none => false) && good x1 && good x2 && a.noB && b.noB && chE a sc x1 && chE b sc x2
      | _ => false)
    | none => false
  | .dg2 k1 k2 a b w d, sc, e => match asDg2 e with
    | some (x1, x2, ea, eb, ew, ed) => decide (x1 = k1) && decide (x2 = k2) && !decide (k1 = k2) && good ew && good ed && a.noB && b.noB && w.noB && d.noB && chE a sc ea && chE b sc eb && chE w sc ew && chE d sc ed
    | none => false
  | .isn es, sc, e => match asCall e with
    | some (f, x :: xs) => (match asName f with
      | some n => decide (n = "isinstance") && freB B sc n
      | none => false) && good x && chEs es sc (x :: xs)
    | _ => false
  | .op2 o a b, sc, e => match asM1 e with
    | some (x, m, y) => decide (m = op2N o) && plainA x && good y && a.noB && b.noB && chE a sc x && chE b sc y
    | none => false
  | .srt _ j a, sc, e => match asSK e with
    | some (f, x, k, g) => decide (f = "sorted") && decide (k = "key") && freB B sc f && good x && (match Φ[j]? with
      | some c => decide (c.nm = g) && decide (c.mt = "") && c.bw.isEmpty && decide (1 + c.dfl.length = c.ar) && c.dfl.isEmpty && decide (2 ≤ c.lv) && gloB sc g
      | none => false) && chE a sc x
    | none => false
  | .bcall j es, sc, e => match asCall e with
    | some (f, x :: xs) => (match asName f, Φ[j]? with
      | some n, some c => decide (c.nm = n) && decide (c.mt = "") && !c.bw.isEmpty && decide (xs.length + 1 + c.dfl.length = c.ar) && gloB sc n && chEb c.bw es sc (x :: xs)
      | _, _ => false)
    | _ => false
  | .bmeth j i es, sc, e => match asMet e with
    | some (y, m, ap, x, xs, p) => (match Φ[j]?, asName y with
      | some c, some n => decide (c.mt = m) && decide (m ≠ "") && decide (m ≠ "__init__") && decide (c.bw = true :: List.replicate (xs.length + 1) false) && decide (xs.length + 2 + c.dfl.length = c.ar) && varB N sc i n
      | _, _ => false) && (ap.endLine == p.line) && decide (xs.length < 28) && chEs es sc (x :: xs)
    | none => (match asMet0 e with
      | some (y, m, ap, p) => (match Φ[j]?, asName y with
        | some c, some n => decide (c.mt = m) && decide (m ≠ "") && decide (m ≠ "__init__") && decide (c.bw = [true]) && decide (1 + c.dfl.length = c.ar) && varB N sc i n
        | _, _ => false) && (ap.endLine == p.line) && es.isEmpty
      | none => false)
def chEb : List Bool → List E → Scope → List Expr → Bool
  | [], [], _, [] => true
  | b :: bs, a :: as, sc, e :: es => good e && (b || a.noB) && chE a sc e && chEb bs as sc es
  | _, _, _, _ => false
def chEs : List E → Scope → List Expr → Bool
  | [], _, [] => true
  | a :: as, sc, e :: es => good e && a.noB && chE a sc e && chEs as sc es
  | _, _, _ => false
def chO : Option E → Scope → Option Expr → Bool
  | none, _, none => true
  | some a, sc, some e => a.noB && chE a sc e
  | _, _, _ => false
def chT : T → Scope → Expr → Bool
  | .val a, sc, e => plainT e && chE a sc e
  | .cmp o a b, sc, e => match asCmp e with
    | some (x, [p], [y]) => (copB1 o p && !behindInMarks p y) && chE a sc x && chE b sc y
    | _ => false
  | .chn o o' a b c, sc, e => match asCmp e with
    | some (x, [p, p'], [y, z]) => copB o p && copB o' p' && chE a sc x && chE b sc y && chE c sc z
    | _ => false
  | .ch3 o o' o3 a b c d, sc, e => match asCmp e with
    | some (x, [p, p', p3], [y, z, t]) => copB o p && copB o' p' && copB o3 p3 && chE a sc x && chE b sc y && chE c sc z && chE d sc t
    | _ => false
  | .ch4 o o' o3 o4 a b c d g, sc, e => match asCmp e with
    | some (x, [p, p', p3, p4], [y, z, t, u]) => copB o p && copB o' p' && copB o3 p3 && copB o4 p4 && chE a sc x && chE b sc y && chE c sc z && chE d sc t && chE g sc u
    | _ => false
  | .not t, sc, e => match asUn e with
    | some (.Not, x) => chT t sc x
    | _ => false
  | .and ts, sc, e => match asBoo e with
    | some (.And, xs) => chTl ts sc xs
    | _ => false
  | .or ts, sc, e => match asBoo e with
    | some (.Or, xs) => chTl ts sc xs
    | _ => false
def chTl : List T → Scope → List Expr → Bool
  | [], _, [] => true
  | a :: as, sc, e :: es => chT a sc e && chTl as sc es
  | _, _, _ => false
def chTs : List T → Scope → List Expr → Bool
  | [], _, [] => true
  | [t], sc, [e] => chT t sc e
  | _, _, _ => false
def chI : It → Scope → Expr → Expr → Bool
  | .ex a, sc, _, e => chE a sc e
  | .exl i, sc, _, e => match asName e with
    | some x => varB N sc i x
    | none => false
  | .rng es, sc, _, e => match asCall e with
    | some (f, x :: xs) => (match asName f with
      | some n => decide (n = "range") && freB B sc n
      | none => false) && decide (xs.length < 2) && chEs es sc (x :: xs)
    | _ => false
  | .zip a b, sc, tg, e => match asCall e with
    | some (f, [x, y]) => (match asName f with
      | some n => decide (n = "zip") && freB B sc n
      | none => false) && (asTup tg).isSome && good x && good y && a.noB && b.noB && chE a sc x && chE b sc y
    | _ => false
  | .enm a, sc, tg, e => match asB1 e with
    | some (f, x) => decide (f = "enumerate") && freB B sc f && (asTup tg).isSome && good x && a.noB && chE a sc x
    | none => false
end
end
end Q
namespace Q
open PySem PySem.Spec L2
section
variable (NM : Nam) (K : PySem.W.Frag)
inductive RepB (G H : Hp) : V → D → Prop
  | frz {v : V} {d : D} : Rep NM K G v d → RepB G H v d
  | own {l : Addr} {vs : List V} {ds : List D} : H l = some (.lst vs) → G l = none → vs.length ≤ sizeLine → Reps NM K G vs ds → RepB G H (.ref l) (.lst ds)
  | obj {x dx : Addr} {c : Nat} {ks : List Nat} {xs : List V} {ds : List D} : H x = some (.ins (He.ga K (NM.cl c)) dx ((ks.map NM.at_).zip xs)) → ks.length = xs.length → G x = none → Reps NM K G xs ds → RepB G H (.ref x) (.ins c ks ds)
def RepX (G : Hp) (cls : Value) (dx : Option Addr) (x : Exc) : Prop := cls = .ref (He.ga K (NM.cl x.c)) ∧
  ((x.ks = [] ∧ x.xs = [] ∧ dx = none) ∨ ∃ a vs, dx = some a ∧ G a = some (.xd ((x.ks.map NM.at_).zip vs)) ∧ x.ks.length = vs.length ∧ Reps NM K G vs x.xs)
end
section
variable {NM : Nam} {K : PySem.W.Frag} {G H G' H' : Hp}
theorem RepB.ext (e : Ext G H G' H') {v : V} {d : D} (h : RepB NM K G H v d) : RepB NM K G' H' v d := by
  cases h with
  | frz r => exact .frz (r.mono e.gg)
  | own h1 h2 h3 h4 => exact .own (e.hh _ _ h1) (e.sep _ (by rw [h1]; exact fun z => nomatch z) h2) h3 (h4.mono e.gg)
  | obj h1 h2 h3 h4 => exact .obj (e.hh _ _ h1) h2 (e.sep _ (by rw [h1]; exact fun z => nomatch z) h3) (h4.mono e.gg)
theorem RepB.int {v : V} {i : Int} (h : RepB NM K G H v (.int i)) : v = .int i := by
  cases h with
  | frz r => cases r; rfl
theorem RepB.bl {v : V} {b : Bool} (h : RepB NM K G H v (.bl b)) : v = .bl b := by
  cases h with
  | frz r => cases r; rfl
theorem RepB.str {v : V} {s : Str} (h : RepB NM K G H v (.str s)) : v = .str s := by
  cases h with
  | frz r => cases r; rfl
theorem RepB.non {v : V} (h : RepB NM K G H v .non) : v = .non := by
  cases h with
  | frz r => cases r; rfl
theorem RepB.lst {v : V} {ds : List D} (s : Same G H) (h : RepB NM K G H v (.lst ds)) : ∃ a xs, v = .ref a ∧ H a = some (.lst xs) ∧ xs.length ≤ sizeLine ∧ Reps NM K G xs ds := by
  cases h with
  | frz r =>
    cases r with
    | lst h1 h2 h3 => exact ⟨_, _, rfl, s _ _ h1, h2, h3⟩
  | own h1 h2 h3 h4 => exact ⟨_, _, rfl, h1, h3, h4⟩
theorem RepB.ro {v : V} {ds : List D} (s : Same G H) (h : RepB NM K G H v (.ro ds)) : ∃ a xs, v = .ref a ∧ SqL K H a xs ∧ xs.length ≤ sizeLine ∧ Reps NM K G xs ds := by
  cases h with
  | frz r =>
    cases r with
    | ro h1 h2 h3 => exact ⟨_, _, rfl, s.seq h1, h2, h3⟩
theorem RepB.tup {v : V} {ds : List D} (s : Same G H) (h : RepB NM K G H v (.tup ds)) : ∃ a xs, v = .ref a ∧ SqT K H a xs ∧ xs.length ≤ sizeLine ∧ Reps NM K G xs ds := by
  cases h with
  | frz r =>
    cases r with
    | tup h1 h2 h3 => exact ⟨_, _, rfl, sqT_mono s h1, h2, h3⟩
theorem RepB.isNon {v : V} {d : D} (h : RepB NM K G H v d) : decide (v = .non) = (match d with | .non => true | _ => false) := by
  cases h with
  | frz r => cases r <;> rfl
  | own _ _ _ _ => rfl
  | obj _ _ _ _ => rfl
theorem RepB.isNon' {v : V} {d : D} (h : RepB NM K G H v d) : (!decide (v = .non)) = (match d with | .non => false | _ => true) := by
  cases h with
  | frz r => cases r <;> rfl
  | own _ _ _ _ => rfl
  | obj _ _ _ _ => rfl
theorem DpAll.mono {K : PySem.W.Frag} {xs : List V} {ds : List PyData} (e : Same G H) (h : DpAll K G xs ds) : DpAll K H xs ds := by
  have : ∀ (ds : List PyData) (xs : List V), DpAll K G xs ds → DpAll K H xs ds := by
    intro ds
    exact PyData.rec_1 (motive_1 := fun d => ∀ v, Dp K G v d → Dp K H v d) (motive_2 := fun ds => ∀ xs, DpAll K G xs ds → DpAll K H xs ds) (motive_3 := fun _ => True) (motive_4 := fun _ => True)
      (fun v h => by cases h; exact .non) (fun b v h => by cases h; exact .bl b) (fun i v h => by cases h; exact .int i) (fun x v h => by cases h; exact .str x)
      (fun xs ih v h => by cases h with | lst a b => exact .lst (e.seq a) (ih _ b)) (fun xs ih v h => by cases h with | tup a b => exact .tup (sqT_mono e a) (ih _ b)) (fun kvs _ v h => by cases h)
      (fun xs h => by cases h; exact .nil) (fun d r i1 i2 xs h => by cases h with | cons a b => exact .cons (i1 _ a) (i2 _ b)) trivial (fun _ _ _ _ => trivial) (fun _ _ _ _ => trivial) ds
  exact this ds xs h
mutual
theorem Rep.dp : ∀ {v : V} {d : D}, Rep NM K G v d → SeqAt.shaped d.py = true → Dp K G v d.py
  | _, _, .non, _ => .non
  | _, _, .bl b, _ => .bl b
  | _, _, .int i, _ => .int i
  | _, _, .str x, _ => .str x
  | _, _, .ty n, h => by cases h
  | _, _, .tup h _ r, s => .tup h (Reps.dp r (SeqAt.canLay_of_shaped s))
  | _, _, .lst h _ r, s => .lst (.of h) (Reps.dp r (SeqAt.canLay_of_shaped s))
  | _, _, .ro _ _ _, h => by cases h
  | _, _, .ins _ _ _, h => by cases h
theorem Rep.dp0 : ∀ {v : V} {d : D}, Rep NM K G v d → d.py.canLay0 = true → Dp K G v d.py
  | _, _, .non, _ => .non
  | _, _, .bl b, _ => .bl b
  | _, _, .int i, _ => .int i
  | _, _, .str x, _ => .str x
  | _, _, .ty n, h => by cases h
  | _, _, .tup h _ r, s => .tup h (Reps.dp r s)
  | _, _, .lst h _ r, s => .lst (.of h) (Reps.dp r s)
  | _, _, .ro _ _ _, h => by cases h
  | _, _, .ins _ _ _, h => by cases h
theorem Reps.dp : ∀ {vs : List V} {ds : List D}, Reps NM K G vs ds → PyData.canLayAll0 (D.py.pys ds) = true → DpAll K G vs (D.py.pys ds)
  | _, _, .nil, _ => .nil
  | _, _, .cons h r, s => by
    have s2 := Bool.and_eq_true_iff.mp (show (PyData.canLay0 _ && PyData.canLayAll0 _) = true from s)
    exact .cons (Rep.dp0 h s2.1) (Reps.dp r s2.2)
end
theorem Dp.mono {K : PySem.W.Frag} (e : Same G H) {v : V} {d : PyData} (h : Dp K G v d) : Dp K H v d := by
  have q := DpAll.mono (K := K) e (.cons h .nil)
  cases q with
  | cons a _ => exact a
theorem RepB.dp (s : Same G H) {v : V} {d : D} (h : RepB NM K G H v d) (q : SeqAt.shaped d.py = true) : Dp K H v d.py := by
  cases h with
  | frz r => exact Q.Dp.mono s (r.dp q)
  | own h1 h2 h3 h4 => exact .lst (.of h1) (Q.DpAll.mono s (h4.dp (SeqAt.canLay_of_shaped q)))
  | obj _ _ _ _ => cases q
end
section
variable (NM : Nam) (K : PySem.W.Frag)
def LR2 (w : D → D → (D → Prop) → Prop) : R2 := fun x y H Q => ∃ G d e kd, Same G H ∧ RepB NM K G H x d ∧ RepB NM K G H y e ∧ w d e kd ∧ ∀ v G' H' r, Ext G H G' H' → Rep NM K G' v r → kd r → Q v H'
end
section
variable {X : Cx} {NM : Nam}
theorem op_powQ : OpR X (binaryOp .Pow) (rI CPowQ fun i j => .int (i ^ j.toNat)) := opI fun _ _ _ _ _ _ _ hc q => PyProof.Rows.pow_int hc.1 hc.2 q
theorem op_mulQ : OpR X (binaryOp .Mult) (rI CMulQ fun i j => .int (i * j)) := opI fun _ _ _ _ _ _ _ hc q => PyProof.Rows.mul_int q (hc.elim CMulW.ok fun z => z.elim CMul.ok id)
theorem op_mulS : OpR X (binaryOp .Mult) (fun x y H Q => ∃ a n, x = .str a ∧ y = .int n ∧ (-(2 ^ 60) ≤ n ∧ n ≤ 2 ^ 60 ∧ a.length * n.toNat ≤ sizeLine ∧ (repS a n).length ≤ sizeLine) ∧ Q (.str (repS a n)) H) := by
  intro pins s σ H x y v u Q I rx ry h
  obtain ⟨a, n, rfl, rfl, ⟨n1, n2, n3, n4⟩, q⟩ := h
  obtain ⟨t, rfl⟩ := rx
  obtain ⟨t', rfl⟩ := ry
  rw [sizeLine_eq] at n3
  refine PySem.P.mul_str (by
    rw [decide_eq_false (show ¬ n < -(2 ^ 63) by omega), decide_eq_false (show ¬ n ≥ 2 ^ 63 by omega)]
    rfl) (fun h1 h2 => ?_) (fun h1 h2 => decide_eq_false (by rw [sizeLine_eq]; omega)) ?_
  · have e : (a.length : Int) * n = ((a.length * n.toNat : Nat) : Int) := by
      rw [Int.natCast_mul, show ((n.toNat : Nat) : Int) = n by omega]
    have := Int.le_ediv_of_mul_le (a := (a.length : Int)) (b := 2 ^ 63 - 1) (c := n) (by omega) (by rw [e]; omega)
    omega
  · unfold repS at n4 q
    by_cases h1 : n < 1
    · rw [if_pos h1] at n4 q ⊢
      exact ⟨n4, .str Str.empty, H, I.tok _, ⟨_, rfl⟩, q⟩
    · rw [if_neg h1] at n4 q ⊢
      by_cases h2 : (n == 1 || a.length == 0) = true
      · rw [if_pos h2] at n4 q ⊢
        exact ⟨.str a, H, I, ⟨_, rfl⟩, q⟩
      · rw [if_neg h2] at n4 q ⊢
        exact ⟨n4, .str _, H, I.tok _, ⟨_, rfl⟩, q⟩
theorem op_gt_str : OpR X (compareOp .Gt) (fun x y H Q => ∃ i j, x = .str i ∧ y = .str j ∧ Q (.bl (decide (j.cps.toList < i.cps.toList))) H) := by
  intro pins s σ H x y v u Q I rx ry h
  obtain ⟨i, j, rfl, rfl, q⟩ := h
  obtain ⟨t, rfl⟩ := rx
  obtain ⟨t', rfl⟩ := ry
  exact PySem.P.gt_str (fin_bl I q rfl)
theorem op_le_str : OpR X (compareOp .LtE) (fun x y H Q => ∃ i j, x = .str i ∧ y = .str j ∧ Q (.bl (!(decide (j.cps.toList < i.cps.toList)))) H) := by
  intro pins s σ H x y v u Q I rx ry h
  obtain ⟨i, j, rfl, rfl, q⟩ := h
  obtain ⟨t, rfl⟩ := rx
  obtain ⟨t', rfl⟩ := ry
  exact PySem.P.le_str (fin_bl I q rfl)
theorem op_ge_str : OpR X (compareOp .GtE) (fun x y H Q => ∃ i j, x = .str i ∧ y = .str j ∧ Q (.bl (!(decide (i.cps.toList < j.cps.toList)))) H) := by
  intro pins s σ H x y v u Q I rx ry h
  obtain ⟨i, j, rfl, rfl, q⟩ := h
  obtain ⟨t, rfl⟩ := rx
  obtain ⟨t', rfl⟩ := ry
  exact PySem.P.ge_str (fin_bl I q rfl)
theorem bop_ok {o : Bop} {p : Operator} (h : bopB o p = true) : OpR X (binaryOp p) (LR2 NM X.K (bopW o)) := by
  intro pins s σ H x y v u Q I rx ry hh
  obtain ⟨G, d, e, kd, sub, hd, he, w, q⟩ := hh
  have fin : ∀ r v' , Rep NM X.K G v' r → kd r → Q v' H := fun r v' hr hk => q v' G H r (.refl sub) hr hk
  cases o with
  | add =>
    cases p <;> first | (cases h; done) | skip
    cases d <;> cases e <;> first | exact w.elim | skip
    · cases hd.int; cases he.int
      exact op_add pins s σ H _ _ v u Q I rx ry ⟨_, _, rfl, rfl, fin _ _ (.int _) w⟩
    · cases hd.str; cases he.str
      exact op_add_str pins s σ H _ _ v u Q I rx ry ⟨_, _, rfl, rfl, w.1, fin _ _ (.str _) w.2⟩
    · obtain ⟨a, xs, rfl, s1, z1, r1⟩ := hd.tup sub
      obtain ⟨b, ys, rfl, s2, z2, r2⟩ := he.tup sub
      have e1 := r1.len
      have e2 := r2.len
      have w1 := w.1
      refine op_catA pins s σ H _ _ v u Q I rx ry ⟨_, _, _, _, rfl, rfl, s1, s2, by omega, fun z => ?_, fun _ z => ?_, fun _ _ p hp => q _ (upd G p _) _ _ (.new sub hp _) (.tup (.of upd_same) (by rw [List.length_append]; omega) ((r1.app r2).mono (same_upd (sub.free hp)))) w.2⟩
      · subst z
        cases r1
        cases he with
        | frz t => exact q _ G H _ (.refl sub) t w.2
      · subst z
        cases r2
        have w2 := w.2
        rw [List.append_nil] at w2
        cases hd with
        | frz t => exact q _ G H _ (.refl sub) t w2
    · obtain ⟨a, xs, rfl, s1, z1, r1⟩ := hd.lst sub
      obtain ⟨b, ys, rfl, s2, z2, r2⟩ := he.lst sub
      have e1 := r1.len
      have e2 := r2.len
      have w1 := w.1
      exact op_cat pins s σ H _ _ v u Q I rx ry ⟨_, _, _, _, rfl, rfl, s1, s2, by omega, fun p hp => q _ (upd G p _) _ _ (.new sub hp _) (.lst upd_same (by rw [List.length_append]; omega) ((r1.app r2).mono (same_upd (sub.free hp)))) w.2⟩
  | sub =>
    cases p <;> first | (cases h; done) | skip
    cases d <;> cases e <;> first | exact w.elim | skip
    cases hd.int; cases he.int
    exact op_sub pins s σ H _ _ v u Q I rx ry ⟨_, _, rfl, rfl, fin _ _ (.int _) w⟩
  | mul =>
    cases p <;> first | (cases h; done) | skip
    cases d <;> cases e <;> first | exact w.elim | skip
    · cases hd.int; cases he.int
      exact op_mulQ pins s σ H _ _ v u Q I rx ry ⟨_, _, rfl, rfl, w.1, fin _ _ (.int _) w.2⟩
    · cases hd.str; cases he.int
      exact op_mulS pins s σ H _ _ v u Q I rx ry ⟨_, _, rfl, rfl, w.1, fin _ _ (.str _) w.2⟩
  | fdiv =>
    cases p <;> first | (cases h; done) | skip
    cases d <;> cases e <;> first | exact w.elim | skip
    cases hd.int; cases he.int
    exact op_fdivW pins s σ H _ _ v u Q I rx ry ⟨_, _, rfl, rfl, w.1, fin _ _ (.int _) w.2⟩
  | mod =>
    cases p <;> first | (cases h; done) | skip
    cases d <;> cases e <;> first | exact w.elim | skip
    cases hd.int; cases he.int
    exact op_mod pins s σ H _ _ v u Q I rx ry ⟨_, _, rfl, rfl, w.1, fin _ _ (.int _) w.2⟩
  | pow =>
    cases p <;> first | (cases h; done) | skip
    cases d <;> cases e <;> first | exact w.elim | skip
    cases hd.int; cases he.int
    exact op_powQ pins s σ H _ _ v u Q I rx ry ⟨_, _, rfl, rfl, w.1, fin _ _ (.int _) w.2⟩
theorem eq_ok (hu : X.A.units + 64 < cLine) {pins s σ H x y v u} {Q : VK} (I : Inv X pins σ H s) (rx : RelV x v) (ry : RelV y u) {G : Hp} {d e : D} (sub : Same G H) (hd : RepB NM X.K G H x d) (he : RepB NM X.K G H y e) (w : eqW d e fun r => Q (.bl r) H) :
    wpAny (model X.prog X.w) X.A (compareOp .Eq v u) (EP X pins σ Q) X.xe s := by
  have gen : SeqAt.shaped d.py = true ∧ SeqAt.shaped e.py = true ∧ Q (.bl (PyData.eqv d.py e.py)) H → wpAny (model X.prog X.w) X.A (compareOp .Eq v u) (EP X pins σ Q) X.xe s := fun z =>
    op_eqD hu pins s σ H x y v u Q I rx ry ⟨_, _, hd.dp sub z.1, he.dp sub z.2.1, z.1, z.2.1, z.2.2⟩
  unfold eqW at w
  split at w
  · cases hd.int; cases he.int
    refine op_eq pins s σ H _ _ v u Q I rx ry ⟨rfl, ?_⟩
    simp only [V.int.injEq]
    exact w
  · cases hd.str; cases he.str
    refine op_eq pins s σ H _ _ v u Q I rx ry ⟨rfl, ?_⟩
    simp only [V.str.injEq]
    exact w
  · cases hd.bl; cases he.bl
    refine op_eq pins s σ H _ _ v u Q I rx ry ⟨rfl, ?_⟩
    simp only [V.bl.injEq]
    exact w
  · exact gen w
theorem ne_ok (hu : X.A.units + 64 < cLine) {pins s σ H x y v u} {Q : VK} (I : Inv X pins σ H s) (rx : RelV x v) (ry : RelV y u) {G : Hp} {d e : D} (sub : Same G H) (hd : RepB NM X.K G H x d) (he : RepB NM X.K G H y e) (w : eqW d e fun r => Q (.bl !r) H) :
    wpAny (model X.prog X.w) X.A (compareOp .NotEq v u) (EP X pins σ Q) X.xe s := by
  have gen : SeqAt.shaped d.py = true ∧ SeqAt.shaped e.py = true ∧ Q (.bl !(PyData.eqv d.py e.py)) H → wpAny (model X.prog X.w) X.A (compareOp .NotEq v u) (EP X pins σ Q) X.xe s := fun z =>
    op_neD hu pins s σ H x y v u Q I rx ry ⟨_, _, hd.dp sub z.1, he.dp sub z.2.1, z.1, z.2.1, z.2.2⟩
  unfold eqW at w
  split at w
  · cases hd.int; cases he.int
    refine op_ne pins s σ H _ _ v u Q I rx ry ⟨rfl, ?_⟩
    simp only [V.int.injEq]
    exact w
  · cases hd.str; cases he.str
    refine op_ne pins s σ H _ _ v u Q I rx ry ⟨rfl, ?_⟩
    simp only [V.str.injEq]
    exact w
  · cases hd.bl; cases he.bl
    refine op_ne pins s σ H _ _ v u Q I rx ry ⟨rfl, ?_⟩
    simp only [V.bl.injEq]
    exact w
  · exact gen w
theorem eqW_mono {d e : D} {f g : Bool → Prop} (m : ∀ b, f b → g b) (z : eqW d e f) : eqW d e g := by
  cases d <;> cases e <;> first | exact m _ z | exact ⟨z.1, z.2.1, m _ z.2.2⟩
theorem cop_ok (hu : X.A.units + 64 < cLine) {o : Cop} {p : CmpOp} (h : copB o p = true) : OpR X (compareOp p) (LR2 NM X.K fun d e k => copW o d e fun r => k (.bl r)) := by
  intro pins s σ H x y v u Q I rx ry hh
  obtain ⟨G, d, e, kd, sub, hd, he, w, q⟩ := hh
  have fin : ∀ b, kd (.bl b) → Q (.bl b) H := fun b hk => q _ G H _ (.refl sub) (.bl b) hk
  cases o with
  | lt =>
    cases p <;> first | (cases h; done) | skip
    cases d <;> cases e <;> first | exact w.elim | skip
    · cases hd.int; cases he.int
      exact op_lt pins s σ H _ _ v u Q I rx ry ⟨_, _, rfl, rfl, fin _ w⟩
    · cases hd.str; cases he.str
      exact op_lt_str pins s σ H _ _ v u Q I rx ry ⟨_, _, rfl, rfl, fin _ w⟩
  | le =>
    cases p <;> first | (cases h; done) | skip
    cases d <;> cases e <;> first | exact w.elim | skip
    · cases hd.int; cases he.int
      exact op_le pins s σ H _ _ v u Q I rx ry ⟨_, _, rfl, rfl, fin _ w⟩
    · cases hd.str; cases he.str
      exact op_le_str pins s σ H _ _ v u Q I rx ry ⟨_, _, rfl, rfl, fin _ w⟩
  | gt =>
    cases p <;> first | (cases h; done) | skip
    cases d <;> cases e <;> first | exact w.elim | skip
    · cases hd.int; cases he.int
      exact op_gt pins s σ H _ _ v u Q I rx ry ⟨_, _, rfl, rfl, fin _ w⟩
    · cases hd.str; cases he.str
      exact op_gt_str pins s σ H _ _ v u Q I rx ry ⟨_, _, rfl, rfl, fin _ w⟩
  | ge =>
    cases p <;> first | (cases h; done) | skip
    cases d <;> cases e <;> first | exact w.elim | skip
    · cases hd.int; cases he.int
      exact op_ge pins s σ H _ _ v u Q I rx ry ⟨_, _, rfl, rfl, fin _ w⟩
    · cases hd.str; cases he.str
      exact op_ge_str pins s σ H _ _ v u Q I rx ry ⟨_, _, rfl, rfl, fin _ w⟩
  | eq =>
    cases p <;> first | (cases h; done) | skip
    exact eq_ok hu I rx ry sub hd he (eqW_mono (fun b => fin b) (show eqW d e fun r => kd (.bl r) from by cases d <;> cases e <;> exact w))
  | ne =>
    cases p <;> first | (cases h; done) | skip
    exact ne_ok hu I rx ry sub hd he (eqW_mono (fun b => fin !b) (show eqW d e fun r => kd (.bl !r) from by cases d <;> cases e <;> exact w))
  | is_ =>
    cases p <;> first | (cases h; done) | skip
    cases e <;> first | (cases d <;> exact w.elim) | skip
    cases he.non
    refine op_isN pins s σ H _ _ v u Q I rx ry ⟨rfl, ?_⟩
    rw [hd.isNon]
    exact fin _ (by cases d <;> exact w)
  | isnot =>
    cases p <;> first | (cases h; done) | skip
    cases e <;> first | (cases d <;> exact w.elim) | skip
    cases he.non
    refine op_notN pins s σ H _ _ v u Q I rx ry ⟨rfl, ?_⟩
    rw [hd.isNon']
    exact fin _ (by cases d <;> exact w)
  | in_ => cases h
  | notin => cases h
theorem lookS_rep {G : Hp} : ∀ {ks : List Str} {us : List Value} {vs : List V} {ds : List D} {z : Str}, Vals vs us → Reps NM X.K G vs ds →
    (lookS ks us z = none ∧ lookS ks ds z = none) ∨ ∃ u v d, lookS ks us z = some u ∧ RelV v u ∧ lookS ks ds z = some d ∧ Rep NM X.K G v d
  | [], _, _, _, _, _, _ => .inl ⟨by cases ‹List Value› <;> rfl, by cases ‹List D› <;> rfl⟩
  | _ :: _, _, _, _, _, .nil, .nil => .inl ⟨rfl, rfl⟩
  | k :: ks, u :: us, v :: vs, d :: ds, z, .cons r1 r, .cons h1 h => by
    by_cases e : k = z
    · exact .inr ⟨u, v, d, if_pos e, r1, if_pos e, h1⟩
    · have := lookS_rep (ks := ks) (z := z) r h
      unfold lookS
      rw [if_neg e, if_neg e]
      exact this
def KdH (X : Cx) (NM : Nam) : Prop := ∀ p ∈ NM.kds, ∃ es m, KDict X.K X.w (He.ga X.K p.1) es m
theorem RepB.kd {G H : Hp} {v : V} {n : Str} {ks : List Str} {ds : List D} (h : RepB NM X.K G H v (.kd n ks ds)) :
    v = .ref (He.ga X.K n) ∧ (n, ks) ∈ NM.kds ∧ ∃ us, (∀ z, PySem.W.nsIn X.K (He.ga X.K n) z = some (lookS ks us z)) ∧ ∃ vs, Vals vs us ∧ Reps NM X.K G vs ds := by
  cases h with
  | frz r =>
    cases r with
    | kd h1 h2 h3 h4 h5 => exact ⟨rfl, h1, _, h3, _, h4, h5⟩
theorem op_inDT (hu : X.A.units + 65 < cLine) : OpR X (compareOp .In) (fun x y H Q => ∃ d ds, Dp X.K H x d ∧ Dp X.K H y (.tuple ds) ∧ SeqAt.shaped d = true ∧ SeqAt.shaped (.tuple ds) = true ∧ Q (.bl (ds.any fun z => PyData.eqv z d)) H) := by
  intro pins s σ H x y v u Q I rx ry h
  obtain ⟨d, ds, hd, he, sd, se, q⟩ := h
  obtain ⟨as, r1⟩ := L2.Dp.reads I d x v hd rx
  obtain ⟨bs, r2⟩ := L2.Dp.reads I (.tuple ds) y u he ry
  exact SeqAt.in_tuple_reads r2 r1 (SeqAt.canLay_of_shaped se) (SeqAt.canLay_of_shaped sd) (PyProof.Rows.room_in_shaped sd hu) ⟨.bl _, H, I, rfl, q⟩
theorem op_notInDT (hu : X.A.units + 65 < cLine) : OpR X (compareOp .NotIn) (fun x y H Q => ∃ d ds, Dp X.K H x d ∧ Dp X.K H y (.tuple ds) ∧ SeqAt.shaped d = true ∧ SeqAt.shaped (.tuple ds) = true ∧ Q (.bl (!ds.any fun z => PyData.eqv z d)) H) := by
  intro pins s σ H x y v u Q I rx ry h
  obtain ⟨d, ds, hd, he, sd, se, q⟩ := h
  obtain ⟨as, r1⟩ := L2.Dp.reads I d x v hd rx
  obtain ⟨bs, r2⟩ := L2.Dp.reads I (.tuple ds) y u he ry
  exact SeqAt.notIn_tuple_reads r2 r1 (SeqAt.canLay_of_shaped se) (SeqAt.canLay_of_shaped sd) (PyProof.Rows.room_in_shaped sd hu) ⟨.bl _, H, I, rfl, q⟩
theorem cop_ok1 (hk : KdH X NM) (hu : X.A.units + 65 < cLine) {o : Cop} {p : CmpOp} (h : copB1 o p = true) : OpR X (compareOp p) (LR2 NM X.K fun d e k => copW o d e fun r => k (.bl r)) := by
  cases o <;> cases p <;> first | exact cop_ok (by omega) h | (cases h; done) | skip
  · intro pins s σ H x y v u Q I rx ry ⟨G, d, e, kd, sub, hd, he, w, q⟩
    cases e <;> first | (cases d <;> exact w.elim) | (cases d <;> first | exact w.elim | (cases hd.str; cases he.str; exact op_in_str pins s σ H _ _ v u Q I rx ry ⟨_, _, rfl, rfl, q _ G H _ (.refl sub) (.bl _) w⟩)) | skip
    · rename_i ds
      have w' : SeqAt.shaped d.py = true ∧ SeqAt.shaped (D.tup ds).py = true ∧ kd (.bl ((D.py.pys ds).any fun z => PyData.eqv z d.py)) := by cases d <;> exact w
      exact op_inDT hu pins s σ H x y v u Q I rx ry ⟨d.py, D.py.pys ds, RepB.dp sub hd w'.1, RepB.dp sub he w'.2.1, w'.1, w'.2.1, q _ G H _ (.refl sub) (.bl _) w'.2.2⟩
    · rename_i ds
      have w' : SeqAt.shaped d.py = true ∧ SeqAt.shaped (D.lst ds).py = true ∧ kd (.bl ((D.py.pys ds).any fun z => PyData.eqv z d.py)) := by cases d <;> exact w
      exact op_inD hu pins s σ H x y v u Q I rx ry ⟨d.py, D.py.pys ds, RepB.dp sub hd w'.1, RepB.dp sub he w'.2.1, w'.1, w'.2.1, q _ G H _ (.refl sub) (.bl _) w'.2.2⟩
    · rename_i ds
      have w' : SeqAt.shaped d.py = true ∧ SeqAt.shaped (D.lst ds).py = true ∧ kd (.bl ((D.py.pys ds).any fun z => PyData.eqv z d.py)) := by cases d <;> exact w
      obtain ⟨a, xs, rfl, s1, z1, r1⟩ := he.ro sub
      exact op_inD hu pins s σ H x _ v u Q I rx ry ⟨d.py, D.py.pys ds, RepB.dp sub hd w'.1, .lst s1 (_root_.Q.DpAll.mono sub (r1.dp (SeqAt.canLay_of_shaped w'.2.1))), w'.1, w'.2.1, q _ G H _ (.refl sub) (.bl _) w'.2.2⟩
    · cases d <;> first | exact w.elim | skip
      cases hd.str
      obtain ⟨rfl, hm, us, hz, vs, r1, r2⟩ := he.kd
      obtain ⟨es, m, kdd⟩ := hk _ hm
      refine op_in_kd kdd pins s σ H _ _ v u Q I rx ry ⟨_, _, rfl, rfl, hz _, ?_⟩
      refine q _ G H _ (.refl sub) (.bl _) ?_
      rcases lookS_rep r1 r2 with ⟨e1, e2⟩ | ⟨_, _, _, e1, _, e2, _⟩
      · have w' : kd (.bl (lookS _ _ _).isSome) := w
        rw [e2] at w'
        rw [e1]
        exact w'
      · have w' : kd (.bl (lookS _ _ _).isSome) := w
        rw [e2] at w'
        rw [e1]
        exact w'
  · intro pins s σ H x y v u Q I rx ry ⟨G, d, e, kd, sub, hd, he, w, q⟩
    cases e <;> first | (cases d <;> exact w.elim) | (cases d <;> first | exact w.elim | (cases hd.str; cases he.str; exact op_notin_str pins s σ H _ _ v u Q I rx ry ⟨_, _, rfl, rfl, q _ G H _ (.refl sub) (.bl _) w⟩)) | skip
    · rename_i ds
      have w' : SeqAt.shaped d.py = true ∧ SeqAt.shaped (D.tup ds).py = true ∧ kd (.bl (!(D.py.pys ds).any fun z => PyData.eqv z d.py)) := by cases d <;> exact w
      exact op_notInDT hu pins s σ H x y v u Q I rx ry ⟨d.py, D.py.pys ds, RepB.dp sub hd w'.1, RepB.dp sub he w'.2.1, w'.1, w'.2.1, q _ G H _ (.refl sub) (.bl _) w'.2.2⟩
    · rename_i ds
      have w' : SeqAt.shaped d.py = true ∧ SeqAt.shaped (D.lst ds).py = true ∧ kd (.bl (!(D.py.pys ds).any fun z => PyData.eqv z d.py)) := by cases d <;> exact w
      exact op_notInD hu pins s σ H x y v u Q I rx ry ⟨d.py, D.py.pys ds, RepB.dp sub hd w'.1, RepB.dp sub he w'.2.1, w'.1, w'.2.1, q _ G H _ (.refl sub) (.bl _) w'.2.2⟩
    · rename_i ds
      have w' : SeqAt.shaped d.py = true ∧ SeqAt.shaped (D.lst ds).py = true ∧ kd (.bl (!(D.py.pys ds).any fun z => PyData.eqv z d.py)) := by cases d <;> exact w
      obtain ⟨a, xs, rfl, s1, z1, r1⟩ := he.ro sub
      exact op_notInD hu pins s σ H x _ v u Q I rx ry ⟨d.py, D.py.pys ds, RepB.dp sub hd w'.1, .lst s1 (_root_.Q.DpAll.mono sub (r1.dp (SeqAt.canLay_of_shaped w'.2.1))), w'.1, w'.2.1, q _ G H _ (.refl sub) (.bl _) w'.2.2⟩
    · cases d <;> first | exact w.elim | skip
      cases hd.str
      obtain ⟨rfl, hm, us, hz, vs, r1, r2⟩ := he.kd
      obtain ⟨es, m, kdd⟩ := hk _ hm
      refine op_notIn_kd kdd pins s σ H _ _ v u Q I rx ry ⟨_, _, rfl, rfl, hz _, ?_⟩
      refine q _ G H _ (.refl sub) (.bl _) ?_
      rcases lookS_rep r1 r2 with ⟨e1, e2⟩ | ⟨_, _, _, e1, _, e2, _⟩
      · have w' : kd (.bl (!(lookS _ _ _).isSome)) := w
        rw [e2] at w'
        rw [e1]
        exact w'
      · have w' : kd (.bl (!(lookS _ _ _).isSome)) := w
        rw [e2] at w'
        rw [e1]
        exact w'
end
end Q
namespace Q
open PySem PySem.Spec L2
section
variable (NM : Nam) (K : PySem.W.Frag)
def LS (n : Nat) (fs : FS) : Sp := fun vs H Q E => ∃ G ds kd kx, Same G H ∧ Reps NM K G vs ds ∧ vs.length = n ∧ fs ds kd kx ∧
  (∀ v G' H' d, Ext G H G' H' → Rep NM K G' v d → kd d → Q v H') ∧ (∀ cls dx G' H' x, Ext G H G' H' → RepX NM K G' cls dx x → kx x → E cls dx H')
def LI (n c : Nat) (is : IS) : Sp := fun vs H Q E => ∃ x dx us G ds kd kx, vs = .ref x :: us ∧ us.length + 1 = n ∧ Same G H ∧ H x = some (.ins (He.ga K (NM.cl c)) dx []) ∧ G x = none ∧ Reps NM K G us ds ∧ is ds kd kx ∧
  (∀ G' H' ks xs fs dy, (∀ b o, H b = some o → b ≠ x → H' b = some o) → Same G G' → Same G' H' → (∀ a, H a ≠ none → G a = none → G' a = none) → H' x = some (.ins (He.ga K (NM.cl c)) dy ((ks.map NM.at_).zip xs)) → ks.length = xs.length → Reps NM K G' xs fs → kd ks fs → Q .non H') ∧
  (∀ cls dx' G' H' e, (∀ b o, H b = some o → b ≠ x → H' b = some o) → Same G G' → Same G' H' → (∀ a, H a ≠ none → G a = none → G' a = none) → RepX NM K G' cls dx' e → kx e → E cls dx' H')
end
def RepFs (NM : Nam) (K : PySem.W.Frag) (G H : Hp) : List Bool → List V → List D → Prop
  | _, [], [] => True
  | fl, v :: vs, d :: ds => (if fl.headD false = true then RepB NM K G H v d else Rep NM K G v d) ∧ RepFs NM K G H fl.tail vs ds
  | _, _, _ => False
def LSB (NM : Nam) (K : PySem.W.Frag) (n : Nat) (fl : List Bool) (fs : FS) : Sp := fun vs H Q E => ∃ G ds kd kx, Same G H ∧ RepFs NM K G H fl vs ds ∧ vs.length = n ∧ fs ds kd kx ∧
  (∀ v G' H' d, Ext G H G' H' → Rep NM K G' v d → kd d → Q v H') ∧ (∀ cls dx G' H' x, Ext G H G' H' → RepX NM K G' cls dx x → kx x → E cls dx H')
def DefOk (X : Cx) (NM : Nam) (c : Cal) : Prop := ∃ k f fd ps ds dvs, FnOk X.prog X.w X.K X.mg X.base (L2.CX X.prog X.w) k f fd ps (LS NM X.K c.ar c.fs) ∧ Room (k + c.lv) X.A ∧ (X.mg c.nm = some (.ref f) ∧ f = He.ga X.K c.nm) ∧ PySem.W.keepIn X.K (.ref f) = true ∧ Binds X.K fd ps ds ∧ Vals dvs ds ∧ ∀ G, Reps NM X.K G dvs c.dfl
def ClsOk (X : Cx) (NM : Nam) (c : Cal) : Prop := ∃ k f fd ps ds dvs, FnOk X.prog X.w X.K X.mg X.base (L2.CX X.prog X.w) k f fd ps (LI NM X.K (c.ar + 1) c.cls c.is) ∧ Room (k + 1) X.A ∧ X.mg c.nm = some (.ref (He.ga X.K (NM.cl c.cls))) ∧ Mk X.K (He.ga X.K (NM.cl c.cls)) f ∧ Binds X.K fd ps ds ∧ Vals dvs ds ∧ ∀ G, Reps NM X.K G dvs c.dfl
def MetOk (X : Cx) (NM : Nam) (c : Cal) : Prop := ∃ k f fd ps ds dvs, FnOk X.prog X.w X.K X.mg X.base (L2.CX X.prog X.w) k f fd ps (LS NM X.K c.ar c.fs) ∧ Room k X.A ∧ Cls X.K (He.ga X.K (NM.cl c.cls)) ∧ Meth X.K (He.ga X.K (NM.cl c.cls)) c.mt f ∧ Binds X.K fd ps ds ∧ Vals dvs ds ∧ ∀ G, Reps NM X.K G dvs c.dfl
def DefOkB (X : Cx) (NM : Nam) (c : Cal) : Prop := ∃ k f fd ps ds dvs, FnOk X.prog X.w X.K X.mg X.base (L2.CX X.prog X.w) k f fd ps (LSB NM X.K c.ar c.bw c.fs) ∧ Room k X.A ∧ (X.mg c.nm = some (.ref f) ∧ f = He.ga X.K c.nm) ∧ PySem.W.keepIn X.K (.ref f) = true ∧ Binds X.K fd ps ds ∧ Vals dvs ds ∧ ∀ G, Reps NM X.K G dvs c.dfl
def MetOkB (X : Cx) (NM : Nam) (c : Cal) : Prop := ∃ k f fd ps ds dvs, FnOk X.prog X.w X.K X.mg X.base (L2.CX X.prog X.w) k f fd ps (LSB NM X.K c.ar c.bw c.fs) ∧ Room k X.A ∧ Cls X.K (He.ga X.K (NM.cl c.cls)) ∧ Meth X.K (He.ga X.K (NM.cl c.cls)) c.mt f ∧ Binds X.K fd ps ds ∧ Vals dvs ds ∧ ∀ G, Reps NM X.K G dvs c.dfl
structure ExK (K : PySem.W.Frag) (C : Addr) : Prop where
  xf : XfC K C
  cls : (PySem.W.clsIn K C).isSome = true
  ha : PySem.W.findIn K (.ref C) "__class__" = some (some (.builtin "object.__class__"))
  hn : PySem.W.specialIn K (.builtin "object.__class__") "__get__" = some (some (.builtin "getset_descriptor.__get__"))
  ht : PySem.W.takesIn K (.builtin "object.__class__") = some true
  hm : PySem.W.mroIn K C (.type "object") = some true
  ve : PySem.W.kitOne K (.ref C) (.type "ValueError") = some true
def ExcOk (X : Cx) (NM : Nam) (p : Nat × Nat × Bool) : Prop := ∃ k f fd ps, OexC X.K (He.ga X.K (NM.cl p.1)) ∧ PySem.W.findIn X.K (.ref (He.ga X.K (NM.cl p.1))) "__init__" = some (some (.ref f)) ∧ PySem.W.typeIn X.K (.ref f) = some (.type "function") ∧
  FnOk X.prog X.w X.K X.mg X.base (L2.CX X.prog X.w) k f fd ps (spX (He.ga X.K (NM.cl p.1)) (NM.at_ p.2.1) p.2.2) ∧ Room (k + 1) X.A ∧ Binds X.K fd ps [] ∧ X.mg (NM.cl p.1) = some (.ref (He.ga X.K (NM.cl p.1))) ∧ PySem.W.findIn X.K (.ref (He.ga X.K (NM.cl p.1))) (NM.at_ p.2.1) = some none ∧ XfC X.K (He.ga X.K (NM.cl p.1))
def Ex0Ok (X : Cx) (NM : Nam) (c : Nat) : Prop := PySem.W.excIn X.K (He.ga X.K (NM.cl c)) He.veBase "ValueError.__new__" = true ∧ PySem.W.keepIn X.K (.ref (He.ga X.K (NM.cl c))) = true ∧ Raises X (.ref (He.ga X.K (NM.cl c))) ∧ X.mg (NM.cl c) = some (.ref (He.ga X.K (NM.cl c)))
structure SubOk (K : PySem.W.Frag) (NM : Nam) (p : Nat × Nat × Bool) : Prop where
  ek : ExK K (He.ga K (NM.cl p.1))
  exm : PySem.W.exmOne K (.ref (He.ga K (NM.cl p.1))) (.ref (He.ga K (NM.cl p.2.1))) = some p.2.2
  kit : PySem.W.kitOne K (.ref (He.ga K (NM.cl p.1))) (.ref (He.ga K (NM.cl p.2.1))) = some p.2.2
structure ItK (K : PySem.W.Frag) (C : Addr) : Prop where
  cl : Cls K C
  ha : PySem.W.findIn K (.ref C) "__class__" = some (some (.builtin "object.__class__"))
  hn : PySem.W.specialIn K (.builtin "object.__class__") "__get__" = some (some (.builtin "getset_descriptor.__get__"))
  ht : PySem.W.takesIn K (.builtin "object.__class__") = some true
  hm : PySem.W.mroIn K C (.type "object") = some true
  tu : PySem.W.kitOne K (.ref C) (.type "tuple") = some false
structure Ok (X : Cx) (NM : Nam) (B : List Str) (Φ : List Cal) (Γ : List (Str × D)) (AT : List (Nat × Nat)) : Prop where
  calm : X.calm = true
  nd : X.N.Nodup
  hu : X.A.units + 65 < cLine
  fre : ∀ x, x ∈ B → x ≠ "isqrt!" → X.mg x = none
  isq : ("isqrt!" : Str) ∈ B → X.mg "isqrt" = some (.builtin "math.isqrt")
  glo : ∀ (j : Nat) (p : Str × D), Γ[j]? = some p → ∃ v u, X.mg p.1 = some u ∧ RelV v u ∧ ∀ G, Rep NM X.K G v p.2
  dfs : ∀ c ∈ Φ, c.mt = "" → c.bw.isEmpty = true → DefOk X NM c
  dfb : ∀ c ∈ Φ, c.mt = "" → c.bw.isEmpty = false → DefOkB X NM c
  meb : ∀ c ∈ Φ, c.mt ≠ "" → c.mt ≠ "__init__" → c.bw.isEmpty = false → MetOkB X NM c
  cls : ∀ c ∈ Φ, c.mt = "__init__" → ClsOk X NM c
  met : ∀ c ∈ Φ, c.mt ≠ "" → c.mt ≠ "__init__" → c.bw.isEmpty = true → MetOk X NM c
  /-- AT: which class has which attribute -/
  atr : ∀ (p : Nat × Nat), p ∈ AT → Cls X.K (He.ga X.K (NM.cl p.1)) ∧ NoAttr X.K (He.ga X.K (NM.cl p.1)) (NM.at_ p.2)
  exs : ∀ p ∈ NM.exs, ExcOk X NM p
  ex0 : ∀ c ∈ NM.ex0, Ex0Ok X NM c
  kds : KdH X NM
  sub : ∀ p ∈ NM.sub, SubOk X.K NM p ∧ X.mg (NM.cl p.2.1) = some (.ref (He.ga X.K (NM.cl p.2.1)))
  its : ∀ c ∈ NM.its, ItK X.K (He.ga X.K (NM.cl c))
theorem Ok.blk {X : Cx} {NM : Nam} {B : List Str} {Φ : List Cal} {Γ : List (Str × D)} {AT : List (Nat × Nat)} (ok : Ok X NM B Φ Γ AT) (s : Shared) (H : Hp) (scope : Scope) (cenv : PySem.Env) (fp : List Addr) : Ok (X.blk s H scope cenv fp) NM B Φ Γ AT :=
  ⟨ok.calm, ok.nd, ok.hu, ok.fre, ok.isq, ok.glo, ok.dfs, ok.dfb, ok.meb, ok.cls, ok.met, ok.atr, ok.exs, ok.ex0, ok.kds, ok.sub, ok.its⟩
abbrev Wk := Env → (D → Prop) → (Exc → Prop) → Prop
section
variable (NM : Nam) (K : PySem.W.Frag) (W : WX)
def LE (f : Wk) : TE := fun σ H Q => ∃ F ρ G kd kx, R NM K F ρ G σ H ∧ f ρ kd kx ∧ (∀ v G' H' d, Ext G H G' H' → Rep NM K G' v d → kd d → Q v H') ∧ (∀ cls dx G' H' x, Ext G H G' H' → RepX NM K G' cls dx x → kx x → W cls dx σ H')
def LB (f : Wk) : TE := fun σ H Q => ∃ F ρ G kd kx, R NM K F ρ G σ H ∧ f ρ kd kx ∧ (∀ v G' H' d, Ext G H G' H' → RepB NM K G' H' v d → kd d → Q v H') ∧ (∀ cls dx G' H' x, Ext G H G' H' → RepX NM K G' cls dx x → kx x → W cls dx σ H')
def LA (n : Nat) (f : Env → (List D → Prop) → (Exc → Prop) → Prop) : TA := fun σ H Q => ∃ F ρ G kd kx, R NM K F ρ G σ H ∧ f ρ kd kx ∧ (∀ vs G' H' ds, Ext G H G' H' → Reps NM K G' vs ds → vs.length = n → kd ds → Q vs H') ∧ (∀ cls dx G' H' x, Ext G H G' H' → RepX NM K G' cls dx x → kx x → W cls dx σ H')
def LT (f : Env → (Bool → Prop) → (Exc → Prop) → Prop) : TT := fun σ H Q => ∃ F ρ G kd kx, R NM K F ρ G σ H ∧ f ρ kd kx ∧ (∀ b G' H', Ext G H G' H' → kd b → Q b H') ∧ (∀ cls dx G' H' x, Ext G H G' H' → RepX NM K G' cls dx x → kx x → W cls dx σ H')
end
section
variable {X : Cx} {NM : Nam} {B : List Str} {Φ : List Cal} {Γ : List (Str × D)} {AT : List (Nat × Nat)} {W : WX} {a b c e : Expr} {fa fb fc : Wk} {pos : Pos}
theorem pe_imp {t t' : TE} (h : PE X e t) (i : ∀ σ H Q, t' σ H Q → t σ H Q) : PE X e t' := ⟨fun pins s σ H Q I q => h.run pins s σ H Q I (i _ _ _ q)⟩
theorem pt_imp {t t' : TT} (h : PT X e t) (i : ∀ σ H Q, t' σ H Q → t σ H Q) : PT X e t' := ⟨fun pins s σ H Q I q => h.run pins s σ H Q I (i _ _ _ q)⟩
theorem pw_imp {t t' : TT} (h : PW X e t) (i : ∀ σ H Q, t' σ H Q → t σ H Q) : PW X e t' := ⟨fun w pins s σ H Q I q => h.run w pins s σ H Q I (i _ _ _ q)⟩
theorem pa_imp {es : List Expr} {t t' : TA} (h : PA X es t) (i : ∀ σ H Q, t' σ H Q → t σ H Q) : PA X es t' := ⟨fun p pins s σ H Q I q => h.run p pins s σ H Q I (i _ _ _ q)⟩
theorem le_lb (h : PE X e (LE NM X.K W fa)) : PE X e (LB NM X.K W fa) := pe_imp h fun σ H Q ⟨F, ρ, G, kd, kx, r, q, h1, h2⟩ => ⟨F, ρ, G, kd, kx, r, q, fun v G' H' d x r k => h1 v G' H' d x (.frz r) k, h2⟩
theorem RepL.look {F : Fr} {G H : Hp} {v : V} {d : D} (h : RepL NM X.K F G H v d) : RepB NM X.K G H v d := by
  cases h with
  | frz r => exact .frz r
  | own h1 h2 h3 h4 h5 h6 => exact .own h1 h2 h5 h6
  | obj h1 h2 h3 h4 h5 h6 => exact .obj h1 h2 h3 h6
theorem R.slot {F : Fr} {ρ : Env} {G H : Hp} {σ : L2.St} (r : R NM X.K F ρ G σ H) {i : Nat} {s : Sl} (h : ρ[i]? = some s) : ∃ o, σ[i]? = some o ∧ SlOk NM X.K F G H s o := by
  have hi : i < σ.length := by
    rw [← r.len]
    exact (List.getElem?_eq_some_iff.mp h).1
  exact ⟨σ[i], List.getElem?_eq_getElem hi, r.sl i s _ h (List.getElem?_eq_getElem hi)⟩
theorem varB_pv {N : List Str} {sc : Scope} {i : Nat} {x : Str} {p : Pos} (h : varB N sc i x = true) (hN : X.N = N) (hs : X.env.scope = sc) : PE X (.Name x p) (tVar i) := by
  unfold varB at h
  simp only [Bool.and_eq_true, decide_eq_true_eq, Bool.not_eq_true'] at h
  obtain ⟨⟨⟨h1, h2⟩, h3⟩, h4⟩ := h
  refine pe_var (by rw [hN]; exact h1) ?_ h3 h4
  unfold visB at h2
  unfold Vis
  rw [hs]
  split at h2 <;> first | (rename_i q; rw [q]; simp) | cases h2
theorem se_var {i : Nat} (h : PE X e (tVar i)) : PE X e (LE NM X.K W (wpE NM AT Φ Γ (.var i))) := pe_imp h fun σ H Q ⟨F, ρ, G, kd, kx, r, q, h1, h2⟩ => by
  simp only [wpE] at q
  split at q
  · rename_i d hd
    obtain ⟨o, ho, v, hv, hr⟩ := r.slot hd
    subst hv
    exact ⟨v, ho, h1 v G H d (.refl r.sub) hr q⟩
  · exact q.elim
theorem se_brw {i : Nat} (h : PE X e (tVar i)) : PE X e (LB NM X.K W (wpE NM AT Φ Γ (.brw i))) := pe_imp h fun σ H Q ⟨F, ρ, G, kd, kx, r, q, h1, h2⟩ => by
  simp only [wpE] at q
  split at q
  · rename_i d hd
    obtain ⟨o, ho, v, hv, hr⟩ := r.slot hd
    subst hv
    exact ⟨v, ho, h1 v G H d (.refl r.sub) (.frz hr) q⟩
  · rename_i ds hd
    obtain ⟨o, ho, l, vs, hv, a1, a2, a3, a4, a5⟩ := r.slot hd
    subst hv
    exact ⟨_, ho, h1 _ G H _ (.refl r.sub) (.own a1 a2 a4 a5) q⟩
  · rename_i c ks ds hd
    obtain ⟨o, ho, x, dx, xs, hv, a1, a2, a3, a4, a5⟩ := r.slot hd
    subst hv
    exact ⟨_, ho, h1 _ G H _ (.refl r.sub) (.obj a1 a2 a3 a5) q⟩
  · rename_i d hd
    obtain ⟨o, ho, v, hv, hr⟩ := r.slot hd
    subst hv
    exact ⟨_, ho, h1 _ G H _ (.refl r.sub) hr.look q⟩
  · exact q.elim
theorem se_atom {v : V} {d : D} (h : PE X e (tC v)) (r : ∀ G, Rep NM X.K G v d) : PE X e (LE NM X.K W fun _ k _ => k d) := pe_imp h fun σ H Q ⟨F, ρ, G, kd, kx, q, w, h1, h2⟩ => h1 v G H d (.refl q.sub) (r G) w
theorem se_bin {o : Bop} {p : Operator} (h : bopB o p = true) (ha : PE X a (LB NM X.K W fa)) (hb : PE X b (LB NM X.K W fb)) : PE X (.BinOp a p b pos) (LE NM X.K W fun ρ k x => fa ρ (fun d => fb ρ (fun e => bopW o d e k) x) x) :=
  pe_imp (pe_op (bop_ok h) ha hb) fun σ H Q ⟨F, ρ, G, kd, kx, r, q, h1, h2⟩ => ⟨F, ρ, G, _, kx, r, q, fun v G1 H1 d x1 r1 q1 => ⟨F, ρ, G1, _, kx, r.ext x1, q1, fun w G2 H2 e x2 r2 q2 =>
    ⟨G2, d, e, kd, x2.sub, r1.ext x2, r2, q2, fun u G3 H3 g x3 r3 q3 => h1 u G3 H3 g ((x1.trans x2).trans x3) r3 q3⟩, fun c d G2 H2 x x2 => h2 c d G2 H2 x (x1.trans x2)⟩, h2⟩
theorem se_cmp (ok : Ok X NM B Φ Γ AT) {o : Cop} {p : CmpOp} (h : (copB1 o p && !behindInMarks p b) = true) (ha : PE X a (LB NM X.K W fa)) (hb : PE X b (LB NM X.K W fb)) :
    PE X (.Compare a [p] [b] pos) (LE NM X.K W fun ρ k x => fa ρ (fun d => fb ρ (fun e => copW o d e fun r => k (.bl r)) x) x) :=
  pe_imp (pe_cmpR (cop_ok1 ok.kds ok.hu (Bool.and_eq_true_iff.mp h).1) ha hb (by have z := (Bool.and_eq_true_iff.mp h).2; cases q : behindInMarks p b with | true => rw [q] at z; cases z | false => rfl)) fun σ H Q ⟨F, ρ, G, kd, kx, r, q, h1, h2⟩ => ⟨F, ρ, G, _, kx, r, q, fun v G1 H1 d x1 r1 q1 => ⟨F, ρ, G1, _, kx, r.ext x1, q1, fun w G2 H2 e x2 r2 q2 =>
    ⟨G2, d, e, kd, x2.sub, r1.ext x2, r2, q2, fun u G3 H3 g x3 r3 q3 => h1 u G3 H3 g ((x1.trans x2).trans x3) r3 q3⟩, fun c d G2 H2 x x2 => h2 c d G2 H2 x (x1.trans x2)⟩, h2⟩
theorem copW_mono {o : Cop} {d e : D} {f g : Bool → Prop} (m : ∀ b, f b → g b) (z : copW o d e f) : copW o d e g := by
  cases o <;> first | exact eqW_mono m z | exact eqW_mono (fun b => m !b) z | (cases d <;> cases e <;> first | exact m _ z | exact ⟨z.1, z.2.1, m _ z.2.2⟩ | exact z.elim)
theorem tchain_le (ok : Ok X NM B Φ Γ AT) {o o' : Cop} {tc : TE} (htc : tc = LB NM X.K W fc) {σ : L2.St} {H : Hp} {Q : VK}
    (h : LE NM X.K W (fun ρ k x => fa ρ (fun d => fb ρ (fun e => copW o d e fun r => if r = true then fc ρ (fun g => copW o' e g fun r => k (.bl r)) x else k (.bl false)) x) x) σ H Q) :
    tChain (LR2 NM X.K fun d e k => copW o d e fun r => k (.bl r)) (LR2 NM X.K fun d e k => copW o' d e fun r => k (.bl r)) (LB NM X.K W fa) (LB NM X.K W fb) tc σ H Q := by
  subst htc
  obtain ⟨F, ρ, G, kd, kx, r, q, h1, h2⟩ := h
  refine ⟨F, ρ, G, _, kx, r, q, fun v G1 H1 d x1 r1 q1 => ⟨F, ρ, G1, _, kx, r.ext x1, q1, fun w G2 H2 e x2 r2 q2 => ?_, fun c d G2 H2 x x2 => h2 c d G2 H2 x (x1.trans x2)⟩, h2⟩
  refine ⟨G2, d, e, fun z => ∃ b, z = .bl b ∧ if b = true then fc ρ (fun g => copW o' e g fun r => kd (.bl r)) kx else kd (.bl false), x2.sub, r1.ext x2, r2, copW_mono (fun b z => ⟨b, rfl, z⟩) q2, ?_⟩
  rintro u G3 H3 g x3 r3 ⟨b, rfl, q3⟩
  cases r3
  refine ⟨b, rfl, ?_⟩
  have x4 := (x1.trans x2).trans x3
  cases b with
  | false => exact iteF (h1 _ G3 H3 _ x4 (.bl false) q3)
  | true =>
    refine iteT ⟨F, ρ, G3, _, kx, ((r.ext x1).ext x2).ext x3, q3, fun u G4 H4 g x5 r5 q5 => ?_, fun c d G4 H4 x x5 => h2 c d G4 H4 x (x4.trans x5)⟩
    exact ⟨G4, e, g, kd, x5.sub, (r2.ext x3).ext x5, r5, q5, fun u G5 H5 g x6 r6 q6 => h1 u G5 H5 g ((x4.trans x5).trans x6) r6 q6⟩
theorem marks2 {o' : Cop} {p p' : CmpOp} (h' : copB o' p' = true) : lastMarks [p, p'] [b, c] = false := by
  have q : behindInMarks p' c = false := by cases o' <;> cases p' <;> first | (cases h'; done) | exact nomark _
  rw [lastMarks, lastMarks]
  · exact q
  · simp
theorem se_chn (ok : Ok X NM B Φ Γ AT) {o o' : Cop} {p p' : CmpOp} (h : copB o p = true) (h' : copB o' p' = true) (ha : PE X a (LB NM X.K W fa)) (hb : PE X b (LB NM X.K W fb)) (hc : PE X c (LB NM X.K W fc)) :
    PE X (.Compare a [p, p'] [b, c] pos) (LE NM X.K W fun ρ k x => fa ρ (fun d => fb ρ (fun e => copW o d e fun r => if r = true then fc ρ (fun g => copW o' e g fun r => k (.bl r)) x else k (.bl false)) x) x) :=
  pe_imp (pe_chain (cop_ok (by have := ok.hu; omega) h) (cop_ok (by have := ok.hu; omega) h') ha hb hc (marks2 h')) fun σ H Q q => tchain_le ok rfl q
def tCh3 (r r' r3 : R2) (ta tb tc td : TE) : TE := fun σ H Q => ta σ H fun x H1 => tb σ H1 fun y H2 => r x y H2 fun z H3 => ∃ k, z = .bl k ∧
  (if k = true then tc σ H3 fun w' H4 => r' y w' H4 fun z' H5 => ∃ k, z' = .bl k ∧ (if k = true then td σ H5 fun t H6 => r3 w' t H6 Q else Q (.bl false) H5) else Q (.bl false) H3)
theorem pe_ch3 {op op' op3 : CmpOp} {r r' r3 : R2} (ho : OpR X (compareOp op) r) (ho' : OpR X (compareOp op') r') (ho3 : OpR X (compareOp op3) r3) (ha : PE X a ta) (hb : PE X b tb) (hc : PE X c tc) (hd : PE X d td)
    (hm : lastMarks [op, op', op3] [b, c, d] = false) : PE X (.Compare a [op, op', op3] [b, c, d] pos) (tCh3 r r' r3 ta tb tc td) := by
  refine ⟨fun pins s σ H Q I h => ?_⟩
  refine PyProof.Rows.Compare_chain (thn (ha.run pins s σ H _ I h) fun v s1 ⟨x, H1, I1, r1, q1⟩ => PyProof.Rows.chain_link (thn (hb.run pins s1 σ H1 _ I1 q1) fun u s2 ⟨y, H2, I2, r2, q2⟩ =>
    thn (ho pins s2 σ H2 x y v u _ I2 r1 r2 q2) fun d s3 ⟨z, H3, I3, r3, k, e, q3⟩ => ?_)) hm
  subst e
  cases r3
  refine wpAny_truthy_bool ?_
  cases k with
  | false => exact PyProof.Rows.ite_ff ⟨.bl false, H3, I3, rfl, q3⟩
  | true =>
    refine PyProof.Rows.ite_tt (PyProof.Rows.chain_link (thn (hc.run pins s3 σ H3 _ I3 q3) fun w' s4 ⟨z', H4, I4, r4, q4⟩ => thn (ho' pins s4 σ H4 y z' u w' _ I4 r2 r4 q4) fun d' s5 ⟨z5, H5, I5, r5, k', e', q5⟩ => ?_))
    subst e'
    cases r5
    refine wpAny_truthy_bool ?_
    cases k' with
    | false => exact PyProof.Rows.ite_ff ⟨.bl false, H5, I5, rfl, q5⟩
    | true => exact PyProof.Rows.ite_tt (PyProof.Rows.chain_last (thn (hd.run pins s5 σ H5 _ I5 q5) fun t s6 ⟨z6, H6, I6, r6, q6⟩ => ho3 pins s6 σ H6 z' z6 w' t Q I6 r4 r6 q6))
theorem pt_ch3 {op op' op3 : CmpOp} {r r' r3 : R2} (ho : OpR X (compareOp op) r) (ho' : OpR X (compareOp op') r') (ho3 : OpR X (compareOp op3) r3) (ha : PE X a ta) (hb : PE X b tb) (hc : PE X c tc) (hd : PE X d td)
    (hm : lastMarks [op, op', op3] [b, c, d] = false) : PT X (.Compare a [op, op', op3] [b, c, d] pos) (tTest (tCh3 r r' r3 ta tb tc td)) := by
  refine ⟨fun pins s σ H Q I h => ?_⟩
  refine PyProof.Rows.isTrue_chain (thn (ha.run pins s σ H _ I h) fun v s1 ⟨x, H1, I1, r1, q1⟩ => PyProof.Rows.test_link (thn (hb.run pins s1 σ H1 _ I1 q1) fun u s2 ⟨y, H2, I2, r2, q2⟩ =>
    thn (ho pins s2 σ H2 x y v u _ I2 r1 r2 q2) fun d s3 ⟨z, H3, I3, r3, k, e, q3⟩ => ?_)) hm
  subst e
  cases r3
  refine wpAny_truthy_bool ?_
  cases k with
  | false =>
    obtain ⟨k', e', q'⟩ := q3
    cases e'
    exact PyProof.Rows.ite_ff ⟨H3, I3, q'⟩
  | true =>
    refine PyProof.Rows.ite_tt (PyProof.Rows.test_link (thn (hc.run pins s3 σ H3 _ I3 q3) fun w' s4 ⟨z', H4, I4, r4, q4⟩ => thn (ho' pins s4 σ H4 y z' u w' _ I4 r2 r4 q4) fun d' s5 ⟨z5, H5, I5, r5, k', e', q5⟩ => ?_))
    subst e'
    cases r5
    refine wpAny_truthy_bool ?_
    cases k' with
    | false =>
      obtain ⟨k', e', q'⟩ := q5
      cases e'
      exact PyProof.Rows.ite_ff ⟨H5, I5, q'⟩
    | true =>
      refine PyProof.Rows.ite_tt (PyProof.Rows.test_last (thn (hd.run pins s5 σ H5 _ I5 q5) fun t s6 ⟨z6, H6, I6, r6, q6⟩ => thn (ho3 pins s6 σ H6 z' z6 w' t _ I6 r4 r6 q6) fun d' s7 ⟨z2, H7, I7, r7, k2, e2, q7⟩ => ?_))
      subst e2
      cases r7
      exact wpAny_truthy_bool ⟨H7, I7, q7⟩
def tCh4 (r r' r3 r4 : R2) (ta tb tc td te : TE) : TE := fun σ H Q => ta σ H fun x H1 => tb σ H1 fun y H2 => r x y H2 fun z H3 => ∃ k, z = .bl k ∧
  (if k = true then tc σ H3 fun w' H4 => r' y w' H4 fun z' H5 => ∃ k, z' = .bl k ∧ (if k = true then td σ H5 fun t H6 => r3 w' t H6 fun z7 H7 => ∃ k, z7 = .bl k ∧ (if k = true then te σ H7 fun u H8 => r4 t u H8 Q else Q (.bl false) H7) else Q (.bl false) H5) else Q (.bl false) H3)
theorem pt_ch4 {g : Expr} {te : TE} {op op' op3 op4 : CmpOp} {r r' r3 r4 : R2} (ho : OpR X (compareOp op) r) (ho' : OpR X (compareOp op') r') (ho3 : OpR X (compareOp op3) r3) (ho4 : OpR X (compareOp op4) r4) (ha : PE X a ta) (hb : PE X b tb) (hc : PE X c tc) (hd : PE X d td) (he : PE X g te)
    (hm : lastMarks [op, op', op3, op4] [b, c, d, g] = false) : PT X (.Compare a [op, op', op3, op4] [b, c, d, g] pos) (tTest (tCh4 r r' r3 r4 ta tb tc td te)) := by
  refine ⟨fun pins s σ H Q I h => ?_⟩
  refine PyProof.Rows.isTrue_chain (thn (ha.run pins s σ H _ I h) fun v s1 ⟨x, H1, I1, r1, q1⟩ => PyProof.Rows.test_link (thn (hb.run pins s1 σ H1 _ I1 q1) fun u s2 ⟨y, H2, I2, r2, q2⟩ =>
    thn (ho pins s2 σ H2 x y v u _ I2 r1 r2 q2) fun d s3 ⟨z, H3, I3, r3, k, e, q3⟩ => ?_)) hm
  subst e
  cases r3
  refine wpAny_truthy_bool ?_
  cases k with
  | false =>
    obtain ⟨k', e', q'⟩ := q3
    cases e'
    exact PyProof.Rows.ite_ff ⟨H3, I3, q'⟩
  | true =>
    refine PyProof.Rows.ite_tt (PyProof.Rows.test_link (thn (hc.run pins s3 σ H3 _ I3 q3) fun w' s4 ⟨z', H4, I4, r4, q4⟩ => thn (ho' pins s4 σ H4 y z' u w' _ I4 r2 r4 q4) fun d' s5 ⟨z5, H5, I5, r5, k', e', q5⟩ => ?_))
    subst e'
    cases r5
    refine wpAny_truthy_bool ?_
    cases k' with
    | false =>
      obtain ⟨k', e', q'⟩ := q5
      cases e'
      exact PyProof.Rows.ite_ff ⟨H5, I5, q'⟩
    | true =>
      refine PyProof.Rows.ite_tt (PyProof.Rows.test_link (thn (hd.run pins s5 σ H5 _ I5 q5) fun t s6 ⟨z6, H6, I6, r6, q6⟩ => thn (ho3 pins s6 σ H6 z' z6 w' t _ I6 r4 r6 q6) fun d' s7 ⟨z2, H7, I7, r7, k2, e2, q7⟩ => ?_))
      subst e2
      cases r7
      refine wpAny_truthy_bool ?_
      cases k2 with
      | false =>
        obtain ⟨k', e', q'⟩ := q7
        cases e'
        exact PyProof.Rows.ite_ff ⟨H7, I7, q'⟩
      | true =>
        refine PyProof.Rows.ite_tt (PyProof.Rows.test_last (thn (he.run pins s7 σ H7 _ I7 q7) fun t8 s8 ⟨z8, H8, I8, r8, q8⟩ => thn (ho4 pins s8 σ H8 z6 z8 t t8 _ I8 r6 r8 q8) fun d' s9 ⟨z9, H9, I9, r9, k9, e9, q9⟩ => ?_))
        subst e9
        cases r9
        exact wpAny_truthy_bool ⟨H9, I9, q9⟩
theorem marks4 {g : Expr} {o4 : Cop} {p p' p3 p4 : CmpOp} (h' : copB o4 p4 = true) : lastMarks [p, p', p3, p4] [b, c, d, g] = false := by
  have q : behindInMarks p4 g = false := by cases o4 <;> cases p4 <;> first | (cases h'; done) | exact nomark _
  rw [lastMarks, lastMarks, lastMarks, lastMarks]
  · exact q
  · simp
  · simp
  · simp
theorem tch3_le (ok : Ok X NM B Φ Γ AT) {o o' o3 : Cop} {σ : L2.St} {H : Hp} {Q : VK}
    (h : LE NM X.K W (fun ρ k x => fa ρ (fun d => fb ρ (fun e => copW o d e fun r => if r = true then fc ρ (fun h => copW o' e h fun r => if r = true then fd ρ (fun i => copW o3 h i fun r => k (.bl r)) x else k (.bl false)) x else k (.bl false)) x) x) σ H Q) :
    tCh3 (LR2 NM X.K fun d e k => copW o d e fun r => k (.bl r)) (LR2 NM X.K fun d e k => copW o' d e fun r => k (.bl r)) (LR2 NM X.K fun d e k => copW o3 d e fun r => k (.bl r)) (LB NM X.K W fa) (LB NM X.K W fb) (LB NM X.K W fc) (LB NM X.K W fd) σ H Q := by
  obtain ⟨F, ρ, G, kd, kx, r, q, h1, h2⟩ := h
  refine ⟨F, ρ, G, _, kx, r, q, fun v G1 H1 d x1 r1 q1 => ⟨F, ρ, G1, _, kx, r.ext x1, q1, fun w G2 H2 e x2 r2 q2 => ?_, fun c d G2 H2 x x2 => h2 c d G2 H2 x (x1.trans x2)⟩, h2⟩
  refine ⟨G2, d, e, fun z => ∃ b, z = .bl b ∧ if b = true then fc ρ (fun h => copW o' e h fun r => if r = true then fd ρ (fun i => copW o3 h i fun r => kd (.bl r)) kx else kd (.bl false)) kx else kd (.bl false), x2.sub, r1.ext x2, r2, copW_mono (fun b z => ⟨b, rfl, z⟩) q2, ?_⟩
  rintro u G3 H3 g x3 r3 ⟨b, rfl, q3⟩
  cases r3
  refine ⟨b, rfl, ?_⟩
  have x4 := (x1.trans x2).trans x3
  cases b with
  | false => exact iteF (h1 _ G3 H3 _ x4 (.bl false) q3)
  | true =>
    refine iteT ⟨F, ρ, G3, _, kx, ((r.ext x1).ext x2).ext x3, q3, fun u G4 H4 g x5 r5 q5 => ?_, fun c d G4 H4 x x5 => h2 c d G4 H4 x (x4.trans x5)⟩
    refine ⟨G4, e, g, fun z => ∃ b, z = .bl b ∧ if b = true then fd ρ (fun i => copW o3 g i fun r => kd (.bl r)) kx else kd (.bl false), x5.sub, (r2.ext x3).ext x5, r5, copW_mono (fun b z => ⟨b, rfl, z⟩) q5, ?_⟩
    rintro u' G5 H5 g' x6 r6 ⟨b, rfl, q6⟩
    cases r6
    refine ⟨b, rfl, ?_⟩
    have x7 := (x4.trans x5).trans x6
    cases b with
    | false => exact iteF (h1 _ G5 H5 _ x7 (.bl false) q6)
    | true =>
      refine iteT ⟨F, ρ, G5, _, kx, (((r.ext x1).ext x2).ext x3).ext (x5.trans x6), q6, fun u G6 H6 g2 x8 r8 q8 => ?_, fun c d G4 H4 x x5 => h2 c d G4 H4 x (x7.trans x5)⟩
      exact ⟨G6, g, g2, kd, x8.sub, (r5.ext x6).ext x8, r8, q8, fun u G7 H7 g x9 r9 q9 => h1 u G7 H7 g ((x7.trans x8).trans x9) r9 q9⟩
theorem marks3 {o3 : Cop} {p p' p3 : CmpOp} (h' : copB o3 p3 = true) : lastMarks [p, p', p3] [b, c, d] = false := by
  have q : behindInMarks p3 d = false := by cases o3 <;> cases p3 <;> first | (cases h'; done) | exact nomark _
  rw [lastMarks, lastMarks, lastMarks]
  · exact q
  · simp
  · simp
theorem se_ch3 (ok : Ok X NM B Φ Γ AT) {o o' o3 : Cop} {p p' p3 : CmpOp} (h : copB o p = true) (h' : copB o' p' = true) (h3 : copB o3 p3 = true) (ha : PE X a (LB NM X.K W fa)) (hb : PE X b (LB NM X.K W fb)) (hc : PE X c (LB NM X.K W fc)) (hd : PE X d (LB NM X.K W fd)) :
    PE X (.Compare a [p, p', p3] [b, c, d] pos) (LE NM X.K W fun ρ k x => fa ρ (fun d => fb ρ (fun e => copW o d e fun r => if r = true then fc ρ (fun h => copW o' e h fun r => if r = true then fd ρ (fun i => copW o3 h i fun r => k (.bl r)) x else k (.bl false)) x else k (.bl false)) x) x) :=
  pe_imp (pe_ch3 (cop_ok (by have := ok.hu; omega) h) (cop_ok (by have := ok.hu; omega) h') (cop_ok (by have := ok.hu; omega) h3) ha hb hc hd (marks3 h3)) fun σ H Q q => tch3_le ok q
theorem se_neg (ha : PE X a (LB NM X.K W fa)) : PE X (.UnaryOp .USub a pos) (LE NM X.K W fun ρ k x => fa ρ (fun d => match d with
    | .int i => k (.int (-i))
    | _ => False) x) :=
  pe_imp (pe_un un_neg ha) fun σ H Q ⟨F, ρ, G, kd, kx, r, q, h1, h2⟩ => ⟨F, ρ, G, _, kx, r, q, fun v G1 H1 d x1 r1 q1 => by
    cases d <;> first | exact q1.elim | skip
    cases r1.int
    exact ⟨_, rfl, h1 _ G1 H1 _ x1 (.int _) q1⟩, h2⟩
theorem se_not (ha : PE X a (LB NM X.K W fa)) : PE X (.UnaryOp .Not a pos) (LE NM X.K W fun ρ k x => fa ρ (fun d => match d with
    | .bl b => k (.bl !b)
    | _ => False) x) :=
  pe_imp (pe_not ha) fun σ H Q ⟨F, ρ, G, kd, kx, r, q, h1, h2⟩ => ⟨F, ρ, G, _, kx, r, q, fun v G1 H1 d x1 r1 q1 => by
    cases d <;> first | exact q1.elim | skip
    cases r1.bl
    exact ⟨_, rfl, h1 _ G1 H1 _ x1 (.bl _) q1⟩, h2⟩
theorem se_one {op : BoolOp} (ha : PE X a (LE NM X.K W fa)) : PE X (.BoolOp op [a] pos) (LE NM X.K W fa) := pe_one ha
theorem se_and {es : List Expr} (ha : PE X a (LE NM X.K W fa)) (hb : PE X (.BoolOp .And (b :: es) pos) (LE NM X.K W fb)) : PE X (.BoolOp .And (a :: b :: es) pos) (LE NM X.K W fun ρ k x => fa ρ (fun d => match d with
    | .bl b => if b = true then fb ρ k x else k (.bl false)
    | _ => False) x) :=
  pe_imp (pe_and ha hb) fun σ H Q ⟨F, ρ, G, kd, kx, r, q, h1, h2⟩ => ⟨F, ρ, G, _, kx, r, q, fun v G1 H1 d x1 r1 q1 => by
    cases d <;> first | exact q1.elim | skip
    cases r1
    rename_i t
    refine ⟨t, rfl, ?_⟩
    cases t with
    | false => exact iteF (h1 _ G1 H1 _ x1 (.bl _) q1)
    | true => exact iteT ⟨F, ρ, G1, kd, kx, r.ext x1, q1, fun v G2 H2 d x2 r2 q2 => h1 v G2 H2 d (x1.trans x2) r2 q2, fun c d G2 H2 x x2 => h2 c d G2 H2 x (x1.trans x2)⟩, h2⟩
theorem se_or {es : List Expr} (ha : PE X a (LE NM X.K W fa)) (hb : PE X (.BoolOp .Or (b :: es) pos) (LE NM X.K W fb)) : PE X (.BoolOp .Or (a :: b :: es) pos) (LE NM X.K W fun ρ k x => fa ρ (fun d => match d with
    | .bl b => if b = true then k (.bl true) else fb ρ k x
    | _ => False) x) :=
  pe_imp (pe_or ha hb) fun σ H Q ⟨F, ρ, G, kd, kx, r, q, h1, h2⟩ => ⟨F, ρ, G, _, kx, r, q, fun v G1 H1 d x1 r1 q1 => by
    cases d <;> first | exact q1.elim | skip
    cases r1
    rename_i t
    refine ⟨t, rfl, ?_⟩
    cases t with
    | true => exact iteT (h1 _ G1 H1 _ x1 (.bl _) q1)
    | false => exact iteF ⟨F, ρ, G1, kd, kx, r.ext x1, q1, fun v G2 H2 d x2 r2 q2 => h1 v G2 H2 d (x1.trans x2) r2 q2, fun c d G2 H2 x x2 => h2 c d G2 H2 x (x1.trans x2)⟩, h2⟩
abbrev Tk := Env → (Bool → Prop) → (Exc → Prop) → Prop
variable {ta tb : Tk}
theorem reps_empty {G : Hp} : ∀ {vs : List V} {ds : List D}, Reps NM X.K G vs ds → vs.isEmpty = ds.isEmpty
  | _, _, .nil => rfl
  | _, _, .cons _ _ => rfl
theorem truV_of {G H : Hp} {v : V} {d : D} (s : Same G H) (r : RepB NM X.K G H v d) {k : Bool → Prop} (w : truW d k) : ∃ b, TruV X.K v H b ∧ k b := by
  cases d <;> first | exact w.elim | skip
  · cases r.non
    exact ⟨false, rfl, w⟩
  · cases r.bl
    exact ⟨_, rfl, w⟩
  · cases r.int
    exact ⟨_, rfl, w⟩
  · cases r.str
    refine ⟨_, ⟨w.1, rfl⟩, ?_⟩
    rename_i z
    rw [show ((z.length : Int) != 0) = (z.length != 0) from by cases z.length <;> rfl]
    exact w.2
  · obtain ⟨a, xs, rfl, h1, h2, h3⟩ := r.tup s
    refine ⟨_, .inr (.inl ⟨xs, h1, rfl⟩), ?_⟩
    rw [reps_empty h3]
    exact w
  · obtain ⟨a, xs, rfl, h1, h2, h3⟩ := r.lst s
    refine ⟨_, .inl ⟨xs, .of h1, rfl⟩, ?_⟩
    rw [reps_empty h3]
    exact w
theorem isTrue_plainT (h : plainT a = true) : ∀ whole, isTrue a X.env whole = (do let v ← whole; standAt a.pos; holding [v] (truthy v)) := by
  intro whole
  cases a <;> first | rfl | (cases h; done) | skip
  rename_i o _ _
  cases o <;> first | rfl | (cases h; done)
theorem st_val (h : plainT a = true) (ha : PE X a (LB NM X.K W fa)) : PT X a (LT NM X.K W fun ρ k x => fa ρ (fun d => truW d k) x) :=
  pt_imp (pt_truth ha (isTrue_plainT h)) fun σ H Q ⟨F, ρ, G, kd, kx, r, q, h1, h2⟩ => ⟨F, ρ, G, _, kx, r, q, fun v G1 H1 d x1 r1 q1 => by
    obtain ⟨b, t, w⟩ := truV_of x1.sub r1 q1
    exact ⟨b, t, h1 b G1 H1 x1 w⟩, h2⟩
theorem st_cmp (ok : Ok X NM B Φ Γ AT) {o : Cop} {p : CmpOp} (h : (copB1 o p && !behindInMarks p b) = true) (ha : PE X a (LB NM X.K W fa)) (hb : PE X b (LB NM X.K W fb)) :
    PT X (.Compare a [p] [b] pos) (LT NM X.K W fun ρ k x => fa ρ (fun d => fb ρ (fun e => copW o d e fun r => truW (.bl r) k) x) x) :=
  pt_imp (pt_cmpR (cop_ok1 ok.kds ok.hu (Bool.and_eq_true_iff.mp h).1) ha hb (by have z := (Bool.and_eq_true_iff.mp h).2; cases q : behindInMarks p b with | true => rw [q] at z; cases z | false => rfl)) fun σ H Q ⟨F, ρ, G, kd, kx, r, q, h1, h2⟩ => ⟨F, ρ, G, _, kx, r, q, fun v G1 H1 d x1 r1 q1 => ⟨F, ρ, G1, _, kx, r.ext x1, q1, fun w G2 H2 e x2 r2 q2 =>
    ⟨G2, d, e, fun z => ∃ b, z = .bl b ∧ kd b, x2.sub, r1.ext x2, r2, copW_mono (fun b z => ⟨b, rfl, z⟩) q2, fun u G3 H3 g x3 r3 ⟨b, q3, q4⟩ => by
      subst q3
      cases r3
      exact ⟨b, rfl, h1 b G3 H3 ((x1.trans x2).trans x3) q4⟩⟩, fun c d G2 H2 x x2 => h2 c d G2 H2 x (x1.trans x2)⟩, h2⟩
theorem st_chn (ok : Ok X NM B Φ Γ AT) {o o' : Cop} {p p' : CmpOp} (h : copB o p = true) (h' : copB o' p' = true) (ha : PE X a (LB NM X.K W fa)) (hb : PE X b (LB NM X.K W fb)) (hc : PE X c (LB NM X.K W fc)) :
    PT X (.Compare a [p, p'] [b, c] pos) (LT NM X.K W fun ρ k x => fa ρ (fun d => fb ρ (fun e => copW o d e fun r => if r = true then fc ρ (fun g => copW o' e g fun r => truW (.bl r) k) x else truW (.bl false) k) x) x) :=
  pt_imp (pt_chain (cop_ok (by have := ok.hu; omega) h) (cop_ok (by have := ok.hu; omega) h') ha hb hc (marks2 h')) fun σ H Q ⟨F, ρ, G, kd, kx, r, q, h1, h2⟩ => by
    refine tchain_le (W := W) (o := o) (o' := o') (fc := fc) ok rfl (show LE NM X.K W _ σ H _ from ⟨F, ρ, G, fun z => ∃ b, z = .bl b ∧ kd b, kx, r, ?_, fun v G1 H1 d x1 r1 ⟨b, q1, q2⟩ => ?_, h2⟩)
    · have e : ∀ r : Bool, (∃ b, D.bl r = D.bl b ∧ kd b) = kd r := fun r => propext ⟨fun ⟨b, z, w⟩ => by cases z; exact w, fun w => ⟨r, rfl, w⟩⟩
      simp only [e]
      exact q
    · subst q1
      cases r1
      exact ⟨b, rfl, h1 b G1 H1 x1 q2⟩
theorem st_ch4 {g : Expr} {fg : Wk} (ok : Ok X NM B Φ Γ AT) {o o' o3 o4 : Cop} {p p' p3 p4 : CmpOp} (h : copB o p = true) (h' : copB o' p' = true) (h3 : copB o3 p3 = true) (h4 : copB o4 p4 = true) (ha : PE X a (LB NM X.K W fa)) (hb : PE X b (LB NM X.K W fb)) (hc : PE X c (LB NM X.K W fc)) (hd : PE X d (LB NM X.K W fd)) (hg : PE X g (LB NM X.K W fg)) :
    PT X (.Compare a [p, p', p3, p4] [b, c, d, g] pos) (LT NM X.K W fun ρ k x => fa ρ (fun d => fb ρ (fun e => copW o d e fun r => if r = true then fc ρ (fun h => copW o' e h fun r => if r = true then fd ρ (fun i => copW o3 h i fun r => if r = true then fg ρ (fun j => copW o4 i j k) x else k false) x else k false) x else k false) x) x) :=
  pt_imp (pt_ch4 (r := LR2 NM X.K fun d e k => copW o d e fun r => k (.bl r)) (r' := LR2 NM X.K fun d e k => copW o' d e fun r => k (.bl r)) (r3 := LR2 NM X.K fun d e k => copW o3 d e fun r => k (.bl r)) (r4 := LR2 NM X.K fun d e k => copW o4 d e fun r => k (.bl r)) (cop_ok (by have := ok.hu; omega) h) (cop_ok (by have := ok.hu; omega) h') (cop_ok (by have := ok.hu; omega) h3) (cop_ok (by have := ok.hu; omega) h4) ha hb hc hd hg (marks4 h4)) fun σ H Q ⟨F, ρ, G, kd, kx, r, q, h1, h2⟩ => by
    refine ⟨F, ρ, G, _, kx, r, q, fun v G1 H1 d x1 r1 q1 => ⟨F, ρ, G1, _, kx, r.ext x1, q1, fun w G2 H2 e x2 r2 q2 => ?_, fun c d G2 H2 x x2 => h2 c d G2 H2 x (x1.trans x2)⟩, h2⟩
    refine ⟨G2, d, e, fun z => ∃ b, z = .bl b ∧ if b = true then fc ρ (fun h => copW o' e h fun r => if r = true then fd ρ (fun i => copW o3 h i fun r => if r = true then fg ρ (fun j => copW o4 i j kd) kx else kd false) kx else kd false) kx else kd false, x2.sub, r1.ext x2, r2, copW_mono (fun b z => ⟨b, rfl, z⟩) q2, ?_⟩
    rintro u G3 H3 g3 x3 r3 ⟨b, rfl, q3⟩
    cases r3
    refine ⟨b, rfl, ?_⟩
    have x4 := (x1.trans x2).trans x3
    cases b with
    | false => exact iteF ⟨_, rfl, h1 false G3 H3 x4 q3⟩
    | true =>
      refine iteT ⟨F, ρ, G3, _, kx, ((r.ext x1).ext x2).ext x3, q3, fun u G4 H4 g4 x5 r5 q5 => ?_, fun c d G4 H4 x x5 => h2 c d G4 H4 x (x4.trans x5)⟩
      refine ⟨G4, e, g4, fun z => ∃ b, z = .bl b ∧ if b = true then fd ρ (fun i => copW o3 g4 i fun r => if r = true then fg ρ (fun j => copW o4 i j kd) kx else kd false) kx else kd false, x5.sub, (r2.ext x3).ext x5, r5, copW_mono (fun b z => ⟨b, rfl, z⟩) q5, ?_⟩
      rintro u' G5 H5 g' x6 r6 ⟨b, rfl, q6⟩
      cases r6
      refine ⟨b, rfl, ?_⟩
      have x7 := (x4.trans x5).trans x6
      cases b with
      | false => exact iteF ⟨_, rfl, h1 false G5 H5 x7 q6⟩
      | true =>
        refine iteT ⟨F, ρ, G5, _, kx, (((r.ext x1).ext x2).ext x3).ext (x5.trans x6), q6, fun u G6 H6 g2 x8 r8 q8 => ?_, fun c d G4 H4 x x5 => h2 c d G4 H4 x (x7.trans x5)⟩
        refine ⟨G6, g4, g2, fun z => ∃ b, z = .bl b ∧ if b = true then fg ρ (fun j => copW o4 g2 j kd) kx else kd false, x8.sub, (r5.ext x6).ext x8, r8, copW_mono (fun b z => ⟨b, rfl, z⟩) q8, ?_⟩
        rintro u' G7 H7 g' x9 r9 ⟨b, rfl, q9⟩
        cases r9
        refine ⟨b, rfl, ?_⟩
        have x10 := (x7.trans x8).trans x9
        cases b with
        | false => exact iteF ⟨_, rfl, h1 false G7 H7 x10 q9⟩
        | true =>
          refine iteT ⟨F, ρ, G7, _, kx, ((((r.ext x1).ext x2).ext x3).ext (x5.trans x6)).ext (x8.trans x9), q9, fun u G8 H8 g5 x11 r11 q11 => ?_, fun c d G4 H4 x x5 => h2 c d G4 H4 x (x10.trans x5)⟩
          exact ⟨G8, g2, g5, fun z => ∃ b, z = .bl b ∧ kd b, x11.sub, (r8.ext x9).ext x11, r11, copW_mono (fun b z => ⟨b, rfl, z⟩) q11, fun u G9 H9 g9 x12 r12 ⟨b, e9, q12⟩ => by
            subst e9
            cases r12
            exact ⟨b, rfl, h1 b G9 H9 ((x10.trans x11).trans x12) q12⟩⟩
theorem st_ch3 (ok : Ok X NM B Φ Γ AT) {o o' o3 : Cop} {p p' p3 : CmpOp} (h : copB o p = true) (h' : copB o' p' = true) (h3 : copB o3 p3 = true) (ha : PE X a (LB NM X.K W fa)) (hb : PE X b (LB NM X.K W fb)) (hc : PE X c (LB NM X.K W fc)) (hd : PE X d (LB NM X.K W fd)) :
    PT X (.Compare a [p, p', p3] [b, c, d] pos) (LT NM X.K W fun ρ k x => fa ρ (fun d => fb ρ (fun e => copW o d e fun r => if r = true then fc ρ (fun h => copW o' e h fun r => if r = true then fd ρ (fun i => copW o3 h i fun r => truW (.bl r) k) x else truW (.bl false) k) x else truW (.bl false) k) x) x) :=
  pt_imp (pt_ch3 (cop_ok (by have := ok.hu; omega) h) (cop_ok (by have := ok.hu; omega) h') (cop_ok (by have := ok.hu; omega) h3) ha hb hc hd (marks3 h3)) fun σ H Q ⟨F, ρ, G, kd, kx, r, q, h1, h2⟩ => by
    refine tch3_le (W := W) (o := o) (o' := o') (o3 := o3) (fc := fc) (fd := fd) ok (show LE NM X.K W _ σ H _ from ⟨F, ρ, G, fun z => ∃ b, z = .bl b ∧ kd b, kx, r, ?_, fun v G1 H1 d x1 r1 ⟨b, q1, q2⟩ => ?_, h2⟩)
    · have e : ∀ r : Bool, (∃ b, D.bl r = D.bl b ∧ kd b) = kd r := fun r => propext ⟨fun ⟨b, z, w⟩ => by cases z; exact w, fun w => ⟨r, rfl, w⟩⟩
      simp only [e]
      exact q
    · subst q1
      cases r1
      exact ⟨b, rfl, h1 b G1 H1 x1 q2⟩
theorem st_not (h : PT X a (LT NM X.K W ta)) : PT X (.UnaryOp .Not a pos) (LT NM X.K W fun ρ k x => ta ρ (fun b => k !b) x) :=
  pt_imp (pt_not h) fun σ H Q ⟨F, ρ, G, kd, kx, r, q, h1, h2⟩ => ⟨F, ρ, G, _, kx, r, q, fun b G1 H1 x1 q1 => h1 _ G1 H1 x1 q1, h2⟩
theorem st_and1 {a : Expr} (h : PT X a (LT NM X.K W ta)) : PW X (.BoolOp .And [a] pos) (LT NM X.K W ta) := pw_and1 h
theorem st_or1 {a : Expr} (h : PT X a (LT NM X.K W ta)) : PW X (.BoolOp .Or [a] pos) (LT NM X.K W ta) := pw_or1 h
theorem st_and {es : List Expr} (ha : PT X a (LT NM X.K W ta)) (hb : PW X (.BoolOp .And (b :: es) pos) (LT NM X.K W tb)) : PW X (.BoolOp .And (a :: b :: es) pos) (LT NM X.K W fun ρ k x => ta ρ (fun b => if b = true then tb ρ k x else k false) x) :=
  pw_imp (pw_and ha hb) fun σ H Q ⟨F, ρ, G, kd, kx, r, q, h1, h2⟩ => ⟨F, ρ, G, _, kx, r, q, fun b G1 H1 x1 q1 => by
    cases b with
    | false => exact iteF (h1 _ G1 H1 x1 q1)
    | true => exact iteT ⟨F, ρ, G1, kd, kx, r.ext x1, q1, fun v G2 H2 x2 q2 => h1 v G2 H2 (x1.trans x2) q2, fun c d G2 H2 x x2 => h2 c d G2 H2 x (x1.trans x2)⟩, h2⟩
theorem st_or {es : List Expr} (ha : PT X a (LT NM X.K W ta)) (hb : PW X (.BoolOp .Or (b :: es) pos) (LT NM X.K W tb)) : PW X (.BoolOp .Or (a :: b :: es) pos) (LT NM X.K W fun ρ k x => ta ρ (fun b => if b = true then k true else tb ρ k x) x) :=
  pw_imp (pw_or ha hb) fun σ H Q ⟨F, ρ, G, kd, kx, r, q, h1, h2⟩ => ⟨F, ρ, G, _, kx, r, q, fun b G1 H1 x1 q1 => by
    cases b with
    | true => exact iteT (h1 _ G1 H1 x1 q1)
    | false => exact iteF ⟨F, ρ, G1, kd, kx, r.ext x1, q1, fun v G2 H2 x2 q2 => h1 v G2 H2 (x1.trans x2) q2, fun c d G2 H2 x x2 => h2 c d G2 H2 x (x1.trans x2)⟩, h2⟩
theorem se_ife {c a b : Expr} (hc : PT X c (LT NM X.K W ta)) (ha : PE X a (LE NM X.K W fa)) (hb : PE X b (LE NM X.K W fb)) : PE X (.IfExp c a b pos) (LE NM X.K W fun ρ k x => ta ρ (fun r => if r = true then fa ρ k x else fb ρ k x) x) :=
  pe_imp (pe_ifExp hc ha hb) fun σ H Q ⟨F, ρ, G, kd, kx, r, q, h1, h2⟩ => ⟨F, ρ, G, _, kx, r, q, fun b G1 H1 x1 q1 => by
    cases b with
    | true => exact iteT ⟨F, ρ, G1, kd, kx, r.ext x1, q1, fun v G2 H2 d x2 r2 q2 => h1 v G2 H2 d (x1.trans x2) r2 q2, fun c d G2 H2 x x2 => h2 c d G2 H2 x (x1.trans x2)⟩
    | false => exact iteF ⟨F, ρ, G1, kd, kx, r.ext x1, q1, fun v G2 H2 d x2 r2 q2 => h1 v G2 H2 d (x1.trans x2) r2 q2, fun c d G2 H2 x x2 => h2 c d G2 H2 x (x1.trans x2)⟩, h2⟩
end
end Q
namespace Q
open PySem PySem.Spec L2
section
variable (NM : Nam) (K : PySem.W.Frag) (W : WX)
def LF (f : Wk) : TE := fun σ H Q => ∃ F ρ G kd kx, R NM K F ρ G σ H ∧ f ρ kd kx ∧
  (∀ l vs G' H' ds, Ext G H G' H' → H' l = some (.lst vs) → G' l = none → H l = none → vs.length ≤ sizeLine → Reps NM K G' vs ds → kd (.lst ds) → Q (.ref l) H') ∧ (∀ cls dx G' H' x, Ext G H G' H' → RepX NM K G' cls dx x → kx x → W cls dx σ H')
end
section
variable {NM : Nam} {K : PySem.W.Frag} {F : Fr} {G H G' H' : Hp} {ρ : Env} {σ : L2.St}
theorem Ext.freeze (e : Ext G H G' H') {l : Addr} {o : HO} (h1 : H' l = some o) (h2 : G' l = none) (h3 : H l = none) : Ext G H (upd G' l o) H' := by
  refine ⟨e.hh, fun b u z => (same_upd h2) b u (e.gg b u z), fun b u z => ?_, fun a z1 z2 => ?_⟩
  · by_cases hb : b = l
    · rw [hb, upd_same] at z
      rw [hb, ← z]
      exact h1
    · rw [upd_ne hb] at z
      exact e.sub b u z
  · by_cases ha : a = l
    · rw [ha] at z1
      exact absurd h3 z1
    · rw [upd_ne ha]
      exact e.sep a z1 z2
theorem R.fresh (r : R NM K F ρ G σ H) {l : Addr} (h : H l = none) : F.H_0 l = none := by
  cases q : F.H_0 l with
  | none => rfl
  | some o =>
    by_cases m : F.M l
    · exact absurd h (r.md l m)
    · rw [r.keep l o q m] at h
      cases h
end
section
variable {X : Cx} {NM : Nam} {B : List Str} {Φ : List Cal} {Γ : List (Str × D)} {AT : List (Nat × Nat)} {W : WX} {a b c e : Expr} {fa fb fc : Wk} {pos : Pos} {n : Nat}
abbrev Ak := Env → (List D → Prop) → (Exc → Prop) → Prop
variable {g : Ak} {es : List Expr}
theorem lf_le (h : PE X e (LF NM X.K W fa)) : PE X e (LE NM X.K W fa) := pe_imp h fun σ H Q ⟨F, ρ, G, kd, kx, r, q, h1, h2⟩ =>
  ⟨F, ρ, G, kd, kx, r, q, fun l vs G' H' ds x z1 z2 z3 z4 z5 k => h1 _ _ H' _ (x.freeze z1 z2 z3) (.lst upd_same z4 (z5.mono (same_upd z2))) k, h2⟩
theorem starEach_good {env : PySem.Env} (h : good e = true) : starEach (e :: es) env = (false, eval e env) :: starEach es env := by
  cases e <;> first | rfl | cases h
theorem starAny {p : Pos} {env : PySem.Env} : ∀ {es : List Expr}, es.all good = true → (backTo p (starEach es env)).any (·.1) = false
  | [], _ => rfl
  | e :: es, h => by
    have h2 := Bool.and_eq_true_iff.mp (show (good e && es.all good) = true from h)
    rw [starEach_good h2.1]
    have ih := starAny (p := p) (env := env) h2.2
    show (false || (backTo p (starEach es env)).any (·.1)) = false
    rw [ih]
    rfl
theorem sa_nil : PA X [] (LA NM X.K W 0 fun _ k _ => k []) := pa_imp pa_nil fun σ H Q ⟨F, ρ, G, kd, kx, r, q, h1, h2⟩ => h1 [] G H [] (.refl r.sub) .nil rfl q
theorem sa_cons (hg : good e = true) (ha : PE X e (LE NM X.K W fa)) (hr : PA X es (LA NM X.K W n g)) : PA X (e :: es) (LA NM X.K W (n + 1) fun ρ k x => fa ρ (fun d => g ρ (fun ds => k (d :: ds)) x) x) :=
  pa_imp (pa_cons ha hr (starEach_good hg)) fun σ H Q ⟨F, ρ, G, kd, kx, r, q, h1, h2⟩ => ⟨F, ρ, G, _, kx, r, q, fun v G1 H1 d x1 r1 q1 => ⟨F, ρ, G1, _, kx, r.ext x1, q1, fun vs G2 H2 ds x2 r2 l2 q2 =>
    h1 _ G2 H2 _ (x1.trans x2) (.cons (r1.mono x2.gg) r2) (congrArg Nat.succ l2) q2, fun c d G2 H2 x x2 => h2 c d G2 H2 x (x1.trans x2)⟩, h2⟩
theorem se_tup {k : Nat} (h : PA X es (LA NM X.K W n g)) : PE X (.Tuple es k pos) (LE NM X.K W fun ρ k x => n ≤ sizeLine ∧ g ρ (fun ds => k (.tup ds)) x) :=
  pe_imp (pe_tup h) fun σ H Q ⟨F, ρ, G, kd, kx, r, q, h1, h2⟩ => ⟨F, ρ, G, _, kx, r, q.2, fun vs G1 H1 ds x1 r1 l1 q1 => ⟨by rw [l1]; exact q.1, fun p hp =>
    h1 _ (upd G1 p (.tup vs)) _ _ (x1.trans (.new x1.sub hp _)) (.tup (.of upd_same) (by rw [l1]; exact q.1) (r1.mono (same_upd (x1.sub.free hp)))) q1⟩, h2⟩
theorem sf_lst (h : PA X es (LA NM X.K W n g)) : PE X (.List es pos) (LF NM X.K W fun ρ k x => n ≤ sizeLine ∧ g ρ (fun ds => k (.lst ds)) x) :=
  pe_imp (pe_lst h) fun σ H Q ⟨F, ρ, G, kd, kx, r, q, h1, h2⟩ => ⟨F, ρ, G, _, kx, r, q.2, fun vs G1 H1 ds x1 r1 l1 q1 => ⟨by rw [l1]; exact q.1, fun p hp =>
    h1 p vs G1 _ _ (x1.trans (.own x1.sub hp _)) upd_same (x1.sub.free hp) (x1.hh.free hp) (by rw [l1]; exact q.1) r1 q1⟩, h2⟩
theorem gloB_gl {sc : Scope} {x : Str} (h : gloB sc x = true) (hs : X.env.scope = sc) : Gl X x ∧ (x == ("__debug__" : Str)) = false := by
  unfold gloB at h
  simp only [Bool.and_eq_true, Bool.not_eq_true'] at h
  refine ⟨?_, h.2⟩
  have h1 := h.1
  unfold Gl PySem.Env.kindOf
  rw [hs]
  split at h1
  · assumption
  · cases h1
theorem se_calv (tk : Takes X W) {i : Nat} {c : Cal} (hc : DefOk X NM c) {x : Str} {p : Pos} (hN : X.N[i]? = some x) (hv : Vis X.env.scope x) (hdb : (x == ("__debug__" : Str)) = false) (hcd : (x == ("__classdict__" : Str)) = false) (hga : (e :: es).all good = true) (ha : PA X (e :: es) (LA NM X.K W n g)) :
    PE X (.Call (.Name x p) (e :: es) [] pos) (LE NM X.K W fun ρ k x => ρ[i]? = some (.val (.fn c.nm)) ∧ n + c.dfl.length = c.ar ∧ g ρ (fun ds => c.fs (ds ++ c.dfl) k x) x) := by
  obtain ⟨j, f, fd, ps, ds, dvs, F, hr, hm, hk, hb, hd, hvr⟩ := hc
  replace hr := hr.mono (Nat.le_add_right j c.lv)
  have hg2 := Bool.and_eq_true_iff.mp (show (good e && es.all good) = true from hga)
  refine ⟨fun pins s σ H Q I ⟨Fr, ρ, G, kd, kx, r, ⟨q1, q2, q3⟩, h1, h2⟩ => ?_⟩
  obtain ⟨o, ho, v, hv', hr'⟩ := r.slot q1
  subst hv'
  cases hr'
  have ef := hm.2
  refine wpAny_Call_Name_kw (thn ((pe_var (pos := p) (i := i) hN hv hdb hcd).run pins s σ H (fun v H1 => v = .ref f ∧ H1 = H) I ⟨_, ho, by rw [← ef], rfl⟩) fun u s1 ⟨v, H1, I1, r1, ev, eH⟩ => ?_)
  subst ev
  rw [eH] at I1
  cases r1
  refine PySem.W.callWith_K (h₀ := X.base) I.ok.mod.kin hk (thn (ha.run pos pins s1 σ H (fun vs H2 => LS NM X.K c.ar c.fs (vs ++ dvs) H2 Q (WE W σ)) I1 ⟨Fr, ρ, G, _, kx, r, q3, fun vs G1 H1 es' x1 r1 l1 w1 => ?_, h2⟩) fun us s2 ⟨vs, H2, I2, r2, w2⟩ => ⟨I2.kIn, ?_⟩) (starEach_good hg2.1) (starAny hg2.2)
  · refine ⟨G1, es' ++ c.dfl, kd, kx, x1.sub, r1.app (hvr G1), ?_, w1, fun v G2 H2 d x2 r2 w2 => h1 v G2 H2 d (x1.trans x2) r2 w2, fun cl d G2 H2 x x2 rx w2 => h2 cl d G2 H2 x (x1.trans x2) rx w2⟩
    rw [List.length_append, (hvr G1).len, l1]
    exact q2
  · exact run_fnSD F hr hb hd (passAt tk σ) I2 r2 w2
theorem se_call (tk : Takes X W) {c : Cal} (hc : DefOk X NM c) {x : Str} {p : Pos} (hx : c.nm = x) (hgl : Gl X x) (hdb : (x == ("__debug__" : Str)) = false) (hga : (e :: es).all good = true) (hn : n + c.dfl.length = c.ar) (ha : PA X (e :: es) (LA NM X.K W n g)) :
    PE X (.Call (.Name x p) (e :: es) [] pos) (LE NM X.K W fun ρ k x => g ρ (fun ds => c.fs (ds ++ c.dfl) k x) x) := by
  obtain ⟨j, f, fd, ps, ds, dvs, F, hr, hm, hk, hb, hd, hv⟩ := hc
  replace hr := hr.mono (Nat.le_add_right j c.lv)
  have hg2 := Bool.and_eq_true_iff.mp (show (good e && es.all good) = true from hga)
  refine pe_imp (pe_callSD (E := WE W) F hr hgl (by rw [← hx]; exact hm.1) hk hb hd (fun σ => passAt tk σ) ha hdb (starEach_good hg2.1) (starAny hg2.2)) fun σ H Q ⟨Fr, ρ, G, kd, kx, r, q, h1, h2⟩ => ?_
  refine ⟨Fr, ρ, G, _, kx, r, q, fun vs G1 H1 es x1 r1 l1 q1 => ?_, h2⟩
  refine ⟨G1, es ++ c.dfl, kd, kx, x1.sub, r1.app (hv G1), ?_, q1, fun v G2 H2 d x2 r2 q2 => h1 v G2 H2 d (x1.trans x2) r2 q2, fun cl d G2 H2 x x2 rx q2 => h2 cl d G2 H2 x (x1.trans x2) rx q2⟩
  rw [List.length_append, (hv G1).len, l1]
  exact hn
theorem run_makeS {CX : CXT} {k : Nat} {f C : Addr} {fd : FuncData} {ps : List Str} {sp : Sp} {dvs : List V} {ds : List Value} {E : L2.St → XK} {pins : List (Addr × Obj)} {σ : L2.St} {H : Hp} {s : Shared} {Q : VK} {us : List Value} {vs : List V} (M : Mk X.K C f) (F : FnOk X.prog X.w X.K X.mg X.base CX k f fd ps sp) (hr : Room (k + 1) X.A) (hb : Binds X.K fd ps ds) (hd : Vals dvs ds)
    (hx : PassesAt CX X σ (E σ)) (I : Inv X pins σ H s) (r : Vals vs us)
    (h : ∀ x dx, H x = none → H dx = none → dx ≠ x → sp (.ref x :: (vs ++ dvs)) (upd (upd H dx (.own x)) x (.ins C dx [])) (fun v H2 => v = .non ∧ Q (.ref x) H2) (E σ)) :
    wpAny (model X.prog X.w) X.A (call (.ref C) us) (EP X pins σ Q) X.xe s := by
  have hq := h (s.heap.objs.size + 1) s.heap.objs.size (I.hok.fresh (Nat.le_succ _)) (I.hok.fresh (Nat.le_refl _)) (Nat.ne_of_lt (Nat.lt_succ_self _))
  have J := Inv.made (C := C) I
  have rr : Vals (V.ref (s.heap.objs.size + 1) :: (vs ++ dvs)) (Value.ref (s.heap.objs.size + 1) :: (us ++ ds)) := .cons rfl (r.append hd)
  have hl : (Value.ref (s.heap.objs.size + 1) :: us ++ ds).length = ps.length := (rr.length.symm.trans (F.len _ _ _ _ hq))
  refine wpAny_call (make_map (f := f) I.kIn M.makes M.init (beq_iff_eq.mp M.fn) (codeAny_mono (F.run _ X.stack _ _ ⟨Value.ref (s.heap.objs.size + 1) :: us, []⟩ (Value.ref (s.heap.objs.size + 1) :: (us ++ ds)) _ _ (E σ) (hr.make C us [])
    (J.env0.make C us []) (hb _ (Value.ref (s.heap.objs.size + 1) :: us) J.kIn hl) rr hq) fun z s' w => ?_))
  cases z with
  | error e => exact hx pins _ _ e s' J w
  | ok fl =>
    cases fl with
    | ret u =>
      obtain ⟨v, H', I3, rv, ev, q3⟩ := J.after w
      subst ev
      exact ⟨rv, ⟨V.ref (s.heap.objs.size + 1), H', I3, rfl, q3⟩⟩
    | next => exact w.elim
    | brk => exact w.elim
    | cont => exact w.elim
def tMakeS (C : Addr) (sp : Sp) (dvs : List V) (E : L2.St → XK) (t : TA) : TE := fun σ H Q => t σ H fun vs H1 => ∀ x dx, H1 x = none → H1 dx = none → dx ≠ x →
  sp (.ref x :: (vs ++ dvs)) (upd (upd H1 dx (.own x)) x (.ins C dx [])) (fun v H2 => v = .non ∧ Q (.ref x) H2) (E σ)
theorem se_make (tk : Takes X W) {c : Cal} (hc : ClsOk X NM c) {x : Str} {p : Pos} (hx : c.nm = x) (hgl : Gl X x) (hdb : (x == ("__debug__" : Str)) = false) (hga : (e :: es).all good = true) (hn : n + c.dfl.length = c.ar) (ha : PA X (e :: es) (LA NM X.K W n g)) :
    PE X (.Call (.Name x p) (e :: es) [] pos) (LE NM X.K W fun ρ k x => g ρ (fun ds => c.is (ds ++ c.dfl) (fun ks xs => k (.ins c.cls ks xs)) x) x) := by
  obtain ⟨j, f, fd, ps, ds, dvs, F, hr, hm, hM, hb, hd, hv⟩ := hc
  have hg2 := Bool.and_eq_true_iff.mp (show (good e && es.all good) = true from hga)
  have pe : PE X (.Call (.Name x p) (e :: es) [] pos) (tMakeS (He.ga X.K (NM.cl c.cls)) (LI NM X.K (c.ar + 1) c.cls c.is) dvs (WE W) (LA NM X.K W n g)) := by
    refine ⟨fun pins s σ H Q I h => ?_⟩
    refine wpAny_Call_Name_kw (ld_glob I hgl (by rw [← hx]; exact hm) ?_ hdb)
    refine PySem.W.callWith_K (h₀ := X.base) I.ok.mod.kin hM.kp (thn (ha.run pos pins s σ H _ I h) fun us s1 ⟨vs, H1, I1, r, q⟩ => ⟨I1.kIn, ?_⟩) (starEach_good hg2.1) (starAny hg2.2)
    exact run_makeS (E := WE W) hM F hr hb hd (passAt tk σ) I1 r q
  refine pe_imp pe fun σ H Q ⟨Fr, ρ, G, kd, kx, r, q, h1, h2⟩ => ?_
  refine ⟨Fr, ρ, G, _, kx, r, q, fun vs G1 H1 es x1 r1 l1 q1 y dy ny nd ne => ?_, h2⟩
  have s2 : Same H1 (upd (upd H1 dy (.own y)) y (.ins (He.ga X.K (NM.cl c.cls)) dy [])) := (same_upd nd).trans (same_upd (by rw [upd_ne (Ne.symm ne)]; exact ny))
  have gy : G1 y = none := x1.sub.free ny
  have s3 : ∀ {H' : Hp}, (∀ b o, (upd (upd H1 dy (.own y)) y (.ins (He.ga X.K (NM.cl c.cls)) dy [])) b = some o → b ≠ y → H' b = some o) → Same H1 H' := fun {H'} k b o z => k b o (s2 b o z) (ne_of_none z ny)
  have s4 : ∀ {G' : Hp}, (∀ a, (upd (upd H1 dy (.own y)) y (.ins (He.ga X.K (NM.cl c.cls)) dy [])) a ≠ none → G1 a = none → G' a = none) → ∀ a, H1 a ≠ none → G1 a = none → G' a = none := fun {G'} k a z1 z2 => k a (fun z => z1 (s2.free z)) z2
  refine ⟨y, dy, _, G1, es ++ c.dfl, _, kx, rfl, ?_, x1.sub.trans s2, upd_same, gy, r1.app (hv G1), q1, fun G' H' ks xs fs dz k1 k2 k3 k4 k5 k6 k7 k8 => ⟨rfl, ?_⟩, fun cls dx' G' H' x k1 k2 k3 k4 k5 k6 => ?_⟩
  · rw [List.length_append, (hv G1).len, l1, hn]
  · have gy' : G' y = none := k4 y (by rw [upd_same]; exact fun z => nomatch z) gy
    have x2 : Ext G1 H1 G' H' := ⟨s3 k1, k2, k3, s4 k4⟩
    exact h1 _ _ H' _ (x1.trans (x2.freeze k5 gy' ny)) (.ins upd_same k6 (k7.mono (same_upd gy'))) k8
  · exact h2 cls dx' G' H' x (x1.trans ⟨s3 k1, k2, k3, s4 k4⟩) k5 k6
theorem zip_no {ks : List Nat} {m : Str} (h : (ks.all fun k => decide (NM.at_ k ≠ m)) = true) : ∀ {xs : List V}, ((ks.map NM.at_).zip xs).lookup m = none := by
  induction ks with
  | nil => intro xs; rfl
  | cons k ks ih =>
    intro xs
    have h2 := Bool.and_eq_true_iff.mp (show (decide (NM.at_ k ≠ m) && _) = true from h)
    cases xs with
    | nil => rfl
    | cons x xs =>
      show (match m == NM.at_ k with | true => some x | false => ((ks.map NM.at_).zip xs).lookup m) = none
      rw [show (m == NM.at_ k) = false from beq_eq_false_iff_ne.mpr (Ne.symm (of_decide_eq_true h2.1))]
      exact ih h2.2
theorem eval_meth {o : Expr} {m : Str} {apos : Pos} {e : Expr} {es : List Expr} {env : PySem.Env} (h : recvB o = true) (hl : (apos.endLine == pos.line) = true) (hg : (e :: es).all good = true) (hn : es.length < 28) : ∃ pl : Sem Bool, eval (.Call (.Attribute o m apos) (e :: es) [] pos) env = (do
      let ov ← eval o env
      standAt apos.atName
      let (f, first) ← holding [ov] (getMethod ov m pl)
      callWith pos f first (backTo pos (starEach (e :: es) env)) (backToKw pos (keywordEach [] env))) := by
  have q : eval (.Call (.Attribute o m apos) (e :: es) [] pos) env = (do
      let ov ← eval o env
      standAt apos.atName
      methodCall o m apos pos env ov ((e :: es).length + 0) (backTo pos (starEach (e :: es) env)) (backToKw pos (keywordEach [] env))) := by
    cases o <;> first | rfl | cases h
  have fm : methodCallForm ((e :: es).length + 0) (backTo pos (starEach (e :: es) env)) (backToKw pos (keywordEach [] env)) = true := by
    have a1 := starAny (p := pos) (env := env) hg
    have a2 : (backTo pos (starEach (e :: es) env)).all (fun x => !x.1) = true := by
      rw [List.all_eq_true]
      intro x hx
      rw [List.any_eq_false] at a1
      have := a1 x hx
      simpa using this
    unfold methodCallForm
    rw [a2]
    show (true && true && decide ((e :: es).length + 0 + 0 < 30)) = true
    rw [decide_eq_true (by rw [List.length_cons]; omega)]
    rfl
  refine ⟨do return (← importBound o env).getD true, ?_⟩
  rw [q]
  unfold methodCall
  rw [fm]
  have c1 : ∀ ov, calleeOf true o env ov m = getMethod ov m (do return (← importBound o env).getD true) := fun ov => rfl
  have c2 : methodCallPos true o env apos pos = pure pos := by
    unfold methodCallPos
    rw [hl]
    rfl
  simp only [c1, c2, pure_bind]
theorem se_meth (tk : Takes X W) {c : Cal} (hc : MetOk X NM c) {m : Str} {apos : Pos} {o : Expr} (hrv : recvB o = true) (hli : (apos.endLine == pos.line) = true) (h28 : es.length < 28) (hx : c.mt = m) (hga : (e :: es).all good = true) (hn : n + 1 + c.dfl.length = c.ar) (ho : PE X o (LE NM X.K W fa)) (ha : PA X (e :: es) (LA NM X.K W n g)) :
    PE X (.Call (.Attribute o m apos) (e :: es) [] pos) (LE NM X.K W fun ρ k x => fa ρ (fun d => (match d with
      | .ins i ks _ => i = c.cls ∧ (ks.all fun k => decide (NM.at_ k ≠ c.mt)) = true
      | _ => False) ∧ g ρ (fun ds => c.fs (d :: (ds ++ c.dfl)) k x) x) x) := by
  obtain ⟨j, f, fd, ps, ds, dvs, F, hr, hC, hM, hb, hd, hv⟩ := hc
  have hg2 := Bool.and_eq_true_iff.mp (show (good e && es.all good) = true from hga)
  subst hx
  have pe : PE X (.Call (.Attribute o c.mt apos) (e :: es) [] pos) (fun σ H Q => LE NM X.K W fa σ H fun x H1 => ∃ a dx fs, x = .ref a ∧ H1 a = some (.ins (He.ga X.K (NM.cl c.cls)) dx fs) ∧ fs.lookup c.mt = none ∧ LA NM X.K W n g σ H1 fun vs H2 => LS NM X.K c.ar c.fs (x :: (vs ++ dvs)) H2 Q (WE W σ)) := by
    refine ⟨fun pins s σ H Q I h => ?_⟩
    obtain ⟨pl, hpl⟩ := eval_meth (pos := pos) (m := c.mt) (apos := apos) (e := e) (es := es) (env := X.env) hrv hli hga h28
    refine PySem.W.methodCall_KW (pl := pl) (thn (ho.run pins s σ H _ I h) fun u s1 ⟨x, H1, I1, rx, a, dx, fs, ex, ea, l, q⟩ => ?_) hpl
    subst ex
    cases (show u = Value.ref a from rx)
    refine getmeth_ok I1 ea hC hM l ?_
    refine PySem.W.callWith_K (first := [.ref a]) (h₀ := X.base) I.ok.mod.kin hM.kp (thn (ha.run pos pins s1 σ H1 _ I1 q) fun us s2 ⟨vs, H2, I2, r, q2⟩ => ⟨I2.kIn, ?_⟩) (starEach_good hg2.1) (starAny hg2.2)
    exact run_fnSD (E := WE W) (us := .ref a :: us) (vs := .ref a :: vs) F hr hb hd (passAt tk σ) I2 (.cons rfl r) q2
  refine pe_imp pe fun σ H Q ⟨Fr, ρ, G, kd, kx, r, q, h1, h2⟩ => ⟨Fr, ρ, G, _, kx, r, q, fun v G1 H1 d x1 r1 q1 => ?_, h2⟩
  obtain ⟨q1, q2⟩ := q1
  cases d <;> first | exact q1.elim | skip
  obtain ⟨rfl, q3⟩ := q1
  cases r1 with
  | ins e1 e2 e3 =>
    refine ⟨_, _, _, rfl, x1.sub _ _ e1, zip_no q3, Fr, ρ, G1, _, kx, r.ext x1, q2, fun vs G2 H2 es x2 r2 l2 q4 => ?_, fun cl d G2 H2 x x2 rx q2 => h2 cl d G2 H2 x (x1.trans x2) rx q2⟩
    refine ⟨G2, _, kd, kx, x2.sub, .cons (.ins (x2.gg _ _ e1) e2 (e3.mono x2.gg)) (r2.app (hv G2)), ?_, q4, fun v G3 H3 d x3 r3 q5 => h1 v G3 H3 d ((x1.trans x2).trans x3) r3 q5, fun cl d G3 H3 x x3 rx q5 => h2 cl d G3 H3 x ((x1.trans x2).trans x3) rx q5⟩
    rw [List.length_cons, List.length_append, (hv G2).len, l2]
    omega
theorem eval_meth0 {o : Expr} {m : Str} {apos : Pos} {env : PySem.Env} (h : recvB o = true) (hl : (apos.endLine == pos.line) = true) : ∃ pl : Sem Bool, eval (.Call (.Attribute o m apos) [] [] pos) env = (do
      let ov ← eval o env
      standAt apos.atName
      let (f, first) ← holding [ov] (getMethod ov m pl)
      callWith pos f first (backTo pos (starEach [] env)) (backToKw pos (keywordEach [] env))) := by
  have q : eval (.Call (.Attribute o m apos) [] [] pos) env = (do
      let ov ← eval o env
      standAt apos.atName
      methodCall o m apos pos env ov (0 + 0) (backTo pos (starEach [] env)) (backToKw pos (keywordEach [] env))) := by
    cases o <;> first | rfl | cases h
  have fm : methodCallForm (0 + 0) (backTo pos (starEach [] env)) (backToKw pos (keywordEach [] env)) = true := rfl
  refine ⟨do return (← importBound o env).getD true, ?_⟩
  rw [q]
  unfold methodCall
  rw [fm]
  have c1 : ∀ ov, calleeOf true o env ov m = getMethod ov m (do return (← importBound o env).getD true) := fun ov => rfl
  have c2 : methodCallPos true o env apos pos = pure pos := by
    unfold methodCallPos
    rw [hl]
    rfl
  simp only [c1, c2, pure_bind]
theorem se_meth0 (tk : Takes X W) {c : Cal} (hc : MetOk X NM c) {m : Str} {apos : Pos} {o : Expr} (hrv : recvB o = true) (hli : (apos.endLine == pos.line) = true) (hx : c.mt = m) (hn : 1 + c.dfl.length = c.ar) (ho : PE X o (LE NM X.K W fa)) :
    PE X (.Call (.Attribute o m apos) [] [] pos) (LE NM X.K W fun ρ k x => fa ρ (fun d => (match d with
      | .ins i ks _ => i = c.cls ∧ (ks.all fun k => decide (NM.at_ k ≠ c.mt)) = true
      | _ => False) ∧ c.fs (d :: ([] ++ c.dfl)) k x) x) := by
  obtain ⟨j, f, fd, ps, ds, dvs, F, hr, hC, hM, hb, hd, hv⟩ := hc
  subst hx
  have pe : PE X (.Call (.Attribute o c.mt apos) [] [] pos) (fun σ H Q => LE NM X.K W fa σ H fun x H1 => ∃ a dx fs, x = .ref a ∧ H1 a = some (.ins (He.ga X.K (NM.cl c.cls)) dx fs) ∧ fs.lookup c.mt = none ∧ LS NM X.K c.ar c.fs (x :: ([] ++ dvs)) H1 Q (WE W σ)) := by
    refine ⟨fun pins s σ H Q I h => ?_⟩
    obtain ⟨pl, hpl⟩ := eval_meth0 (pos := pos) (m := c.mt) (apos := apos) (env := X.env) hrv hli
    refine PySem.W.methodCall_KW (pl := pl) (thn (ho.run pins s σ H _ I h) fun u s1 ⟨x, H1, I1, rx, a, dx, fs, ex, ea, l, q⟩ => ?_) hpl
    subst ex
    cases (show u = Value.ref a from rx)
    refine getmeth_ok I1 ea hC hM l ?_
    refine PySem.W.callWith_K0 (first := [.ref a]) I1.kIn hM.kp ?_
    exact run_fnSD (E := WE W) (us := [.ref a]) (vs := [.ref a]) F hr hb hd (passAt tk σ) I1 (.cons rfl .nil) q
  refine pe_imp pe fun σ H Q ⟨Fr, ρ, G, kd, kx, r, q, h1, h2⟩ => ⟨Fr, ρ, G, _, kx, r, q, fun v G1 H1 d x1 r1 q1 => ?_, h2⟩
  obtain ⟨q1, q2⟩ := q1
  cases d <;> first | exact q1.elim | skip
  obtain ⟨rfl, q3⟩ := q1
  cases r1 with
  | ins e1 e2 e3 =>
    refine ⟨_, _, _, rfl, x1.sub _ _ e1, zip_no q3, ?_⟩
    refine ⟨G1, _, kd, kx, x1.sub, .cons (.ins e1 e2 e3) (hv G1), ?_, q2, fun v G3 H3 d x3 r3 q5 => h1 v G3 H3 d (x1.trans x3) r3 q5, fun cl d G3 H3 x x3 rx q5 => h2 cl d G3 H3 x (x1.trans x3) rx q5⟩
    show ([] ++ dvs).length + 1 = c.ar
    rw [List.nil_append, (hv G1).len]
    omega
end
end Q
namespace Q
open PySem PySem.Spec L2
section
variable {X : Cx} {NM : Nam} {B : List Str} {Φ : List Cal} {Γ : List (Str × D)} {AT : List (Nat × Nat)} {W : WX} {a b c e : Expr} {fa fb fc : Wk} {pos : Pos} {n : Nat} {g : Ak} {es : List Expr}
theorem atB_mem : ∀ {AT : List (Nat × Nat)} {c f : Nat}, atB AT c f = true → (c, f) ∈ AT
  | [], _, _, h => by cases h
  | p :: r, c, f, h => by
    unfold atB at h
    split at h
    · split at h
      · rename_i h1 h2
        rw [← h1, ← h2]
        exact List.mem_cons_self
      · exact List.mem_cons_of_mem _ (atB_mem h)
    · exact List.mem_cons_of_mem _ (atB_mem h)
theorem looks_zip {nm : Nat → Str} (inj : ∀ i j, nm i = nm j → i = j) {G : Hp} {K : PySem.W.Frag} : ∀ {ks : List Nat} {xs : List V} {ds : List D} {f : Nat} {d : D}, Reps NM K G xs ds → looks ks ds f = some d → ∃ v, ((ks.map nm).zip xs).lookup (nm f) = some v ∧ Rep NM K G v d
  | [], _, _, _, _, _, h => by simp [looks] at h
  | _ :: _, _, _, _, _, .nil, h => by simp [looks] at h
  | k :: ks, _, _, f, d, .cons (v := v) r rs, h => by
    unfold looks at h
    split at h
    · rename_i e
      cases h
      subst e
      exact ⟨v, by show (match nm k == nm k with | true => some v | false => _) = some v; rw [beq_self_eq_true], r⟩
    · rename_i e
      obtain ⟨v', h1, h2⟩ := looks_zip inj rs h
      refine ⟨v', ?_, h2⟩
      show (match nm f == nm k with | true => some v | false => ((ks.map nm).zip _).lookup (nm f)) = some v'
      rw [show (nm f == nm k) = false from beq_eq_false_iff_ne.mpr fun z => e (inj _ _ z).symm]
      exact h1
theorem attrBase {f : Str} {env : PySem.Env} {w : Sem Value} (h : plainA e = true) : attributeBase e f env w = w := by
  cases e <;> first | rfl | skip
  rename_i fn as ks p
  cases as with
  | nil => cases h
  | cons _ _ => cases fn <;> rfl
theorem se_atr (inj : ∀ i j, NM.at_ i = NM.at_ j → i = j) (ok : Ok X NM B Φ Γ AT) {f : Nat} {x : Str} (hx : NM.at_ f = x) (hp : plainA e = true) (h : PE X e (LB NM X.K W fa)) : PE X (.Attribute e x pos) (LE NM X.K W fun ρ k x => fa ρ (fun d => atrW AT d f k) x) := by
  subst hx
  refine pe_imp (pe_fld h (attrBase hp)) fun σ H Q ⟨F, ρ, G, kd, kx, r, q, h1, h2⟩ => ⟨F, ρ, G, _, kx, r, q, fun v G1 H1 d x1 r1 q1 => ?_, h2⟩
  have fin : ∀ {c : Nat} {ks : List Nat} {ds : List D} {a dx : Addr} {xs : List V}, H1 a = some (.ins (He.ga X.K (NM.cl c)) dx ((ks.map NM.at_).zip xs)) → Reps NM X.K G1 xs ds → atrW AT (.ins c ks ds) f kd →
      ∃ a' C dx fs v, V.ref a = .ref a' ∧ H1 a' = some (.ins C dx fs) ∧ Cls X.K C ∧ NoAttr X.K C (NM.at_ f) ∧ fs.lookup (NM.at_ f) = some v ∧ Q v H1 := fun {c ks ds a dx xs} e1 e2 w => by
    obtain ⟨w1, w2⟩ := w
    have ha := ok.atr _ (atB_mem w1)
    split at w2
    · rename_i d' hd
      obtain ⟨v', l1, l2⟩ := looks_zip inj e2 hd
      exact ⟨a, _, dx, _, v', rfl, e1, ha.1, ha.2, l1, h1 v' G1 H1 d' x1 l2 w2⟩
    · exact w2.elim
  cases d <;> first | exact q1.elim | skip
  cases r1 with
  | frz z =>
    cases z with
    | ins e1 e2 e3 => exact fin (x1.sub _ _ e1) e3 q1
  | obj e1 e2 e3 e4 => exact fin e1 e4 q1
theorem plainIx (h : good b = true) : PlainIx b := by
  intro o i
  cases b <;> first | rfl | cases h
theorem atI_ix {G : Hp} {xs : List V} {ds : List D} (r : Reps NM X.K G xs ds) {i : Int} {d : D} (h : ixD ds i = some d) : ∃ v, atI xs i = some v ∧ Rep NM X.K G v d := by
  have hl := r.len
  cases i with
  | ofNat n =>
    obtain ⟨v, h1, h2⟩ := r.get (show ds[n]? = some d from h)
    exact ⟨v, atI_nat h1, h2⟩
  | negSucc n =>
    have h' : (if n < ds.length then ds[ds.length - 1 - n]? else none) = some d := h
    by_cases hn : n < ds.length
    · rw [if_pos hn] at h'
      obtain ⟨v, h1, h2⟩ := r.get h'
      refine ⟨v, ?_, h2⟩
      unfold atI ixN
      rw [if_neg (by omega), if_pos (by omega)]
      show xs[(Int.negSucc n + (xs.length : Int)).toNat]? = some v
      rw [show (Int.negSucc n + (xs.length : Int)).toNat = ds.length - 1 - n by omega]
      exact h1
    · rw [if_neg hn] at h'
      cases h'
theorem atI_ixS {s : Str} {i : Int} {c : Nat} (h : ixS s i = some c) : atI s.cps.toList i = some c := by
  cases i with
  | ofNat n => exact atI_nat h
  | negSucc n =>
    have h' : (if n < s.cps.toList.length then s.cps.toList[s.cps.toList.length - 1 - n]? else none) = some c := h
    by_cases hn : n < s.cps.toList.length
    · rw [if_pos hn] at h'
      unfold atI ixN
      rw [if_neg (by omega), if_pos (by omega)]
      show s.cps.toList[(Int.negSucc n + (s.cps.toList.length : Int)).toNat]? = some c
      rw [show (Int.negSucc n + (s.cps.toList.length : Int)).toNat = s.cps.toList.length - 1 - n by omega]
      exact h'
    · rw [if_neg hn] at h'
      cases h'
theorem bool_index : typeLookup (.type "bool") "__index__" = pure (some (.builtin "int.__index__")) := by rw [typeLookup_type, builtinLookup_eq_fast]; kernel_rfl
theorem listSub_bool {M : Model} {A : Around} {E : Value → Shared → Prop} {s : Shared} {b : Bool} {Q : Option Int → Shared → Prop} (h : Q (some (if b = true then 1 else 0)) s) : wpAny M A (Builtin.List.listSubscript? (.bool b)) Q E s := by
  unfold Builtin.List.listSubscript?
  refine wpAny_bind (wpAny_specialOf (T := "bool") (typeIs_bool s b) bool_index ?_)
  show wpAny M A (asIndex (.bool b) >>= _) Q E s
  refine wpAny_bind (wpAny_of_eq (a := if b = true then 1 else 0) (by cases b <;> rfl) ?_)
  cases b <;> exact wpAny_pure h
theorem getItem_listB {prog : Program} {w : World} {A : Around} {E : Value → Shared → Prop} {s : Shared} {l : Addr} {items : Array Value} {b : Bool} {x : Value} {Q : Value → Shared → Prop} (hl : s.heap.IsList l items) (hx : items[if b = true then 1 else 0]? = some x) (h : Q x s) :
    wpAny (model prog w) A (getItem (.ref l) (.bool b)) Q E s := by
  obtain ⟨o, ho, hc, ne, hd⟩ := id hl
  unfold getItem
  try with_reducible refine wpAny_holding ?_
  first | refine wpAny_bind (wpAny_pure ?_) | skip
  refine wpAny_bind (wpAny_sequenceKey hl.typeIs (by decide) ?_)
  refine wpAny_bind (wpAny_callSpecial?_slot (name := Str.ofString "__getitem__") hl.typeIs slot_list_getitem
    (wpAny_call_entry slot_list_getitem hl.typeIs entry_list_getitem ?_ (args_list_getitem _ _)))
  show wpAny _ _ (Builtin.List.listSubscript? (.bool b) >>= _) _ _ s
  refine wpAny_bind (listSub_bool ?_)
  cases b
  · have hx' : items[0]? = some x := hx
    show wpAny _ _ ((seqItemAt l 0 >>= fun r => pure (r.map (0, ·))) >>= _) _ _ s
    refine wpAny_bind (wpAny_bind (wpAny_seqItemAt ho hd (wpAny_pure ?_)))
    rw [hx']
    first
      | exact wpAny_bind (wpAny_pure (wpAny_pure ⟨x, rfl, wpAny_pure h⟩))
      | exact wpAny_pure ⟨x, rfl, wpAny_pure h⟩
  · have hx' : items[1]? = some x := hx
    show wpAny _ _ ((seqItemAt l 1 >>= fun r => pure (r.map (1, ·))) >>= _) _ _ s
    refine wpAny_bind (wpAny_bind (wpAny_seqItemAt ho hd (wpAny_pure ?_)))
    rw [hx']
    first
      | exact wpAny_bind (wpAny_pure (wpAny_pure ⟨x, rfl, wpAny_pure h⟩))
      | exact wpAny_pure ⟨x, rfl, wpAny_pure h⟩
def rIxLB (K : PySem.W.Frag) : R2 := fun x y H Q => ∃ p xs b v, x = .ref p ∧ y = .bl b ∧ SqL K H p xs ∧ atI xs (if b = true then 1 else 0) = some v ∧ Q v H
theorem ix_listB : IxR X (rIxLB X.K) := by
  intro value slice pins s σ H x y v u Q I rx ry h hs
  obtain ⟨p, xs, b, z, rfl, rfl, hq, he, q⟩ := h
  cases rx
  cases ry
  obtain ⟨its, r, pl, hz⟩ := I.list hq
  obtain ⟨j, h1, h2, h3, h4, h5⟩ := atI_get he
  obtain ⟨w, ew, rw'⟩ := r.get h2
  have fin : EP X pins σ Q w s := ⟨z, H, I, rw', q⟩
  have hj : (if b = true then 1 else 0) = j := by
    rw [seqIndex_of (by cases b <;> decide) h5] at h1
    have := Option.some.inj h1
    cases b <;> exact this
  exact PyProof.Rows.subscriptTail_builtinR (x := w) pl.isList.typeIs slot_list_getitem.lookup
    (getItem_listB (b := b) (Q := fun r s' => r = w ∧ EP X pins σ Q r s') pl.isList (by rw [hj]; simpa using ew) ⟨rfl, fin⟩) hs
theorem idx_ok (hkd : KdH X NM) : IxR X (LR2 NM X.K idxW) := by
  intro vl sl pins s σ H x y v u Q I rx ry h hs
  obtain ⟨G, d, e, kd, sub, hd, he, w, q⟩ := h
  have fin : ∀ r v' , Rep NM X.K G v' r → kd r → Q v' H := fun r v' hr hk => q v' G H r (.refl sub) hr hk
  cases d <;> cases e <;> first | exact w.elim | skip
  · rename_i z i
    cases he.int
    cases hd.str
    obtain ⟨hz, w⟩ := w
    have w' : match ixS z i with
      | some c => kd (.str ⟨#[c]⟩)
      | none => False := w
    split at w'
    · rename_i c hc
      exact ix_str vl sl pins s σ H _ _ v u Q I rx ry ⟨_, _, c, rfl, rfl, hz, atI_ixS hc, fin _ _ (.str _) w'⟩ hs
    · exact w'.elim
  · cases he.int
    obtain ⟨a, xs, rfl, s1, z1, r1⟩ := hd.tup sub
    simp only [idxW] at w
    split at w
    · rename_i d' hd'
      obtain ⟨v', l1, l2⟩ := atI_ix r1 hd'
      exact ix_tup vl sl pins s σ H _ _ v u Q I rx ry ⟨_, _, _, _, rfl, rfl, s1, l1, fin _ _ l2 w⟩ hs
    · exact w.elim
  · cases he.bl
    obtain ⟨a, xs, rfl, s1, z1, r1⟩ := hd.lst sub
    simp only [idxW] at w
    split at w
    · rename_i d' hd'
      obtain ⟨v', l1, l2⟩ := atI_ix r1 hd'
      exact ix_listB vl sl pins s σ H _ _ v u Q I rx ry ⟨_, _, _, _, rfl, rfl, .of s1, l1, fin _ _ l2 w⟩ hs
    · exact w.elim
  · cases he.int
    obtain ⟨a, xs, rfl, s1, z1, r1⟩ := hd.lst sub
    simp only [idxW] at w
    split at w
    · rename_i d' hd'
      obtain ⟨v', l1, l2⟩ := atI_ix r1 hd'
      exact ix_list vl sl pins s σ H _ _ v u Q I rx ry ⟨_, _, _, _, rfl, rfl, .of s1, l1, fin _ _ l2 w⟩ hs
    · exact w.elim
  · cases he.int
    obtain ⟨a, xs, rfl, s1, z1, r1⟩ := hd.ro sub
    simp only [idxW] at w
    split at w
    · rename_i d' hd'
      obtain ⟨v', l1, l2⟩ := atI_ix r1 hd'
      exact ix_list vl sl pins s σ H _ _ v u Q I rx ry ⟨_, _, _, _, rfl, rfl, s1, l1, fin _ _ l2 w⟩ hs
    · exact w.elim
  · cases he.str
    obtain ⟨rfl, hm, us, hz, vs, r1, r2⟩ := hd.kd
    obtain ⟨es, m, kdd⟩ := hkd _ hm
    simp only [idxW] at w
    rename_i n0 ks0 ds0 z0
    rcases lookS_rep (ks := ks0) (z := z0) r1 r2 with ⟨e1, e2⟩ | ⟨u0, v0, d0, e1, rv, e2, rr⟩
    · rw [e2] at w
      exact w.elim
    · rw [e2] at w
      exact ix_kdict vl sl pins s σ H _ _ v u Q I rx ry ⟨_, _, v0, rfl, rfl, ⟨es, m, u0, kdd.at_, kdd.lit, by rw [hz, e1], rv⟩, fin _ _ rr w⟩ hs
theorem se_idx (hkd : KdH X NM) (hg : good b = true) (ha : PE X a (LB NM X.K W fa)) (hb : PE X b (LB NM X.K W fb)) : PE X (.Subscript a b pos) (LE NM X.K W fun ρ k x => fa ρ (fun d => fb ρ (fun i => idxW d i k) x) x) :=
  pe_imp (pe_ix (idx_ok hkd) ha hb (plainIx hg)) fun σ H Q ⟨F, ρ, G, kd, kx, r, q, h1, h2⟩ => ⟨F, ρ, G, _, kx, r, q, fun v G1 H1 d x1 r1 q1 => ⟨F, ρ, G1, _, kx, r.ext x1, q1, fun w G2 H2 e x2 r2 q2 =>
    ⟨G2, d, e, kd, x2.sub, r1.ext x2, r2, q2, fun u G3 H3 g x3 r3 q3 => h1 u G3 H3 g ((x1.trans x2).trans x3) r3 q3⟩, fun c d G2 H2 x x2 => h2 c d G2 H2 x (x1.trans x2)⟩, h2⟩
abbrev Ok_ := Env → (Option Int → Prop) → (Exc → Prop) → Prop
def LO (NM : Nam) (K : PySem.W.Frag) (W : WX) (f : Ok_) : TO := fun σ H Q => ∃ F ρ G kd kx, R NM K F ρ G σ H ∧ f ρ kd kx ∧ (∀ o G' H', Ext G H G' H' → kd o → Q o H') ∧ (∀ cls dx G' H' x, Ext G H G' H' → RepX NM K G' cls dx x → kx x → W cls dx σ H')
theorem po_imp {o : Option Expr} {t t' : TO} (h : PO X o t) (i : ∀ σ H Q, t' σ H Q → t σ H Q) : PO X o t' := ⟨fun pins s σ H Q I q => h.run pins s σ H Q I (i _ _ _ q)⟩
theorem so_none : PO X none (LO NM X.K W fun _ k _ => k none) := po_imp po_none fun σ H Q ⟨F, ρ, G, kd, kx, r, q, h1, h2⟩ => h1 none G H (.refl r.sub) q
theorem so_some (h : PE X e (LE NM X.K W fa)) : PO X (some e) (LO NM X.K W fun ρ k x => fa ρ (fun d => match d with
    | .int i => k (some i)
    | _ => False) x) := po_imp (po_some h) fun σ H Q ⟨F, ρ, G, kd, kx, r, q, h1, h2⟩ => ⟨F, ρ, G, _, kx, r, q, fun v G1 H1 d x1 r1 q1 => by
    cases d <;> first | exact q1.elim | skip
    cases r1
    exact ⟨_, rfl, h1 _ G1 H1 x1 q1⟩, h2⟩
theorem cut_reps {G : Hp} {xs : List V} {ds : List D} (r : Reps NM X.K G xs ds) (lo hi : Option Int) : Reps NM X.K G (cutV xs lo hi) (cutD ds lo hi) := by
  unfold cutV cutD
  rw [r.len]
  exact (r.drop _).take _
theorem cut_whole {ds : List D} {lo hi : Option Int} (h : HT.sIx ds.length 0 lo = 0 ∧ HT.sIx ds.length ds.length hi = ds.length) : cutD ds lo hi = ds := by
  unfold cutD
  rw [h.1, h.2, List.drop_zero, Nat.sub_zero, List.take_length]
theorem se_slt {lo hi : Option Expr} {p2 : Pos} {fl fh : Ok_} (ha : PE X a (LB NM X.K W fa)) (hl : PO X lo (LO NM X.K W fl)) (hh : PO X hi (LO NM X.K W fh)) :
    PE X (.Subscript a (.Slice lo hi none p2) pos) (LE NM X.K W fun ρ k x => fa ρ (fun d => fl ρ (fun l => fh ρ (fun h => sltW d l h k) x) x) x) :=
  pe_imp (pe_slice (sl_tupA.or sl_str) ha hl hh) fun σ H Q ⟨F, ρ, G, kd, kx, r, q, h1, h2⟩ => ⟨F, ρ, G, _, kx, r, q, fun v G1 H1 d x1 r1 q1 => ⟨F, ρ, G1, _, kx, r.ext x1, q1, fun l G2 H2 x2 q2 => ⟨F, ρ, G2, _, kx, (r.ext x1).ext x2, q2, fun u G3 H3 x3 q3 => by
    have r3 := (r1.ext x2).ext x3
    have x4 := (x1.trans x2).trans x3
    cases d <;> first | exact q3.elim | skip
    · cases r3.str
      exact .inr ⟨_, rfl, q3.1, h1 _ G3 H3 _ x4 (.str _) q3.2⟩
    obtain ⟨a, xs, rfl, s1, z1, s2⟩ := r3.tup x3.sub
    refine .inl ⟨a, xs, rfl, s1, fun hw => ?_, fun hw p hp => ?_⟩
    · rw [s2.len] at hw
      have q4 : kd (.tup (cutD _ l u)) := q3
      rw [cut_whole hw] at q4
      cases r3 with
      | frz t => exact h1 _ G3 H3 _ x4 t q4
    · exact h1 _ (upd G3 p (.tup (cutV xs l u))) _ (.tup (cutD _ l u)) (x4.trans (.new x3.sub hp _)) (.tup (.of upd_same) (Nat.le_trans (cutV_length xs l u) z1) ((cut_reps s2 l u).mono (same_upd (x3.sub.free hp)))) q3, fun c d G3 H3 x x3 => h2 c d G3 H3 x ((x1.trans x2).trans x3)⟩, fun c d G2 H2 x x2 => h2 c d G2 H2 x (x1.trans x2)⟩, h2⟩
theorem sf_slc {lo hi : Option Expr} {p2 : Pos} {fl fh : Ok_} (ha : PE X a (LB NM X.K W fa)) (hl : PO X lo (LO NM X.K W fl)) (hh : PO X hi (LO NM X.K W fh)) :
    PE X (.Subscript a (.Slice lo hi none p2) pos) (LF NM X.K W fun ρ k x => fa ρ (fun d => fl ρ (fun l => fh ρ (fun h => slcW d l h k) x) x) x) :=
  pe_imp (pe_slice sl_list ha hl hh) fun σ H Q ⟨F, ρ, G, kd, kx, r, q, h1, h2⟩ => ⟨F, ρ, G, _, kx, r, q, fun v G1 H1 d x1 r1 q1 => ⟨F, ρ, G1, _, kx, r.ext x1, q1, fun l G2 H2 x2 q2 => ⟨F, ρ, G2, _, kx, (r.ext x1).ext x2, q2, fun u G3 H3 x3 q3 => by
    cases d <;> first | exact q3.elim | skip
    obtain ⟨a, xs, rfl, s1, z1, s2⟩ := ((r1.ext x2).ext x3).lst x3.sub
    refine ⟨a, xs, rfl, .of s1, fun p hp => ?_⟩
    have x4 := (x1.trans x2).trans x3
    exact h1 p _ G3 _ _ (x4.trans (.own x3.sub hp _)) upd_same (x3.sub.free hp) (x4.hh.free hp) (Nat.le_trans (cutV_length xs l u) z1) (cut_reps s2 l u) q3, fun c d G3 H3 x x3 => h2 c d G3 H3 x ((x1.trans x2).trans x3)⟩, fun c d G2 H2 x x2 => h2 c d G2 H2 x (x1.trans x2)⟩, h2⟩
end
end Q
namespace Q
open PySem PySem.Spec L2
section
variable {X : Cx} {NM : Nam} {B : List Str} {Φ : List Cal} {Γ : List (Str × D)} {AT : List (Nat × Nat)} {W : WX} {a b c e : Expr} {fa fb fc : Wk} {pos : Pos} {n : Nat} {g : Ak} {es : List Expr}
theorem isqrt_ok : CallR X (.builtin "math.isqrt") (fun xs H Q => ∃ i : Int, xs = [.int i] ∧ 0 ≤ i ∧ i.toNat.log2 < 13470 ∧ Q (.int (Float64.isqrt i.toNat : Nat)) H) := by
  rintro pins s σ H xs us Q I r ⟨i, rfl, h0, h1, q⟩
  obtain ⟨u, rfl, t, rfl⟩ := vals1 r
  exact call_function_meets PySem.W.MGF.kind_isqrt PySem.W.MGF.plain_isqrt PySem.W.MGF.entry_isqrt (PySem.W.MGF.args_isqrt _) (PySem.W.mg_run_isqrt i t (by omega) (by omega) (by omega)).meets ⟨.int _, H, I.tok _, ⟨_, rfl⟩, q⟩
theorem ints_map : ∀ {ds : List D} {ns : List Int}, ints? ds = some ns → ds = ns.map D.int
  | [], ns, h => by cases h; rfl
  | .int i :: r, ns, h => by
    unfold ints? at h
    split at h
    · rename_i l e
      cases h
      rw [ints_map e]
      rfl
    · cases h
  | .non :: _, _, h => by cases h
  | .bl _ :: _, _, h => by cases h
  | .str _ :: _, _, h => by cases h
  | .tup _ :: _, _, h => by cases h
  | .lst _ :: _, _, h => by cases h
  | .ro _ :: _, _, h => by cases h
  | .ins _ _ _ :: _, _, h => by cases h
  | .ty _ :: _, _, h => by cases h
theorem reps_ints {G : Hp} : ∀ {ns : List Int} {xs : List V}, Reps NM X.K G xs (ns.map D.int) → xs = ns.map V.int
  | [], _, .nil => rfl
  | _ :: _, _, .cons r rs => by
    cases r
    rw [reps_ints rs]
    rfl
theorem maxL_ge : ∀ (r : List Int) (m : Int), m ≤ maxL m r ∧ (∀ y ∈ r, y ≤ maxL m r) ∧ (maxL m r = m ∨ maxL m r ∈ r)
  | [], m => ⟨Int.le_refl _, (fun y h => nomatch h), .inl rfl⟩
  | x :: r, m => by
    obtain ⟨h1, h2, h3⟩ := maxL_ge r (if m < x then x else m)
    show m ≤ maxL (if m < x then x else m) r ∧ (∀ y ∈ x :: r, y ≤ maxL (if m < x then x else m) r) ∧ (maxL (if m < x then x else m) r = m ∨ maxL (if m < x then x else m) r ∈ x :: r)
    split at h1 <;> rename_i hc <;> simp only [hc, if_true, if_false] at h2 h3 ⊢
    · refine ⟨by omega, fun y hy => ?_, ?_⟩
      · rcases List.mem_cons.mp hy with rfl | hy
        · exact h1
        · exact h2 y hy
      · rcases h3 with h3 | h3
        · exact .inr (by rw [h3]; exact List.mem_cons_self)
        · exact .inr (List.mem_cons_of_mem _ h3)
    · refine ⟨h1, fun y hy => ?_, ?_⟩
      · rcases List.mem_cons.mp hy with rfl | hy
        · omega
        · exact h2 y hy
      · rcases h3 with h3 | h3
        · exact .inl h3
        · exact .inr (List.mem_cons_of_mem _ h3)
theorem minL_le : ∀ (r : List Int) (m : Int), minL m r ≤ m ∧ (∀ y ∈ r, minL m r ≤ y) ∧ (minL m r = m ∨ minL m r ∈ r)
  | [], m => ⟨Int.le_refl _, (fun y h => nomatch h), .inl rfl⟩
  | x :: r, m => by
    obtain ⟨h1, h2, h3⟩ := minL_le r (if x < m then x else m)
    show minL (if x < m then x else m) r ≤ m ∧ (∀ y ∈ x :: r, minL (if x < m then x else m) r ≤ y) ∧ (minL (if x < m then x else m) r = m ∨ minL (if x < m then x else m) r ∈ x :: r)
    split at h1 <;> rename_i hc <;> simp only [hc, if_true, if_false] at h2 h3 ⊢
    · refine ⟨by omega, fun y hy => ?_, ?_⟩
      · rcases List.mem_cons.mp hy with rfl | hy
        · exact h1
        · exact h2 y hy
      · rcases h3 with h3 | h3
        · exact .inr (by rw [h3]; exact List.mem_cons_self)
        · exact .inr (List.mem_cons_of_mem _ h3)
    · refine ⟨h1, fun y hy => ?_, ?_⟩
      · rcases List.mem_cons.mp hy with rfl | hy
        · omega
        · exact h2 y hy
      · rcases h3 with h3 | h3
        · exact .inl h3
        · exact .inr (List.mem_cons_of_mem _ h3)
theorem maxL_uniq {n m : Int} {r : List Int} (h1 : m ∈ n :: r) (h2 : ∀ y, y ∈ n :: r → y ≤ m) : m = maxL n r := by
  obtain ⟨a1, a2, a3⟩ := maxL_ge r n
  have b1 : maxL n r ≤ m := by
    rcases a3 with e | e
    · rw [e]; exact h2 _ List.mem_cons_self
    · exact h2 _ (List.mem_cons_of_mem _ e)
  have b2 : m ≤ maxL n r := by
    rcases List.mem_cons.mp h1 with e | e
    · rw [e]; exact a1
    · exact a2 _ e
  omega
theorem minL_uniq {n m : Int} {r : List Int} (h1 : m ∈ n :: r) (h2 : ∀ y, y ∈ n :: r → m ≤ y) : m = minL n r := by
  obtain ⟨a1, a2, a3⟩ := minL_le r n
  have b1 : m ≤ minL n r := by
    rcases a3 with e | e
    · rw [e]; exact h2 _ List.mem_cons_self
    · exact h2 _ (List.mem_cons_of_mem _ e)
  have b2 : minL n r ≤ m := by
    rcases List.mem_cons.mp h1 with e | e
    · rw [e]; exact a1
    · exact a2 _ e
  omega
def rBlt (NM : Nam) (K : PySem.W.Frag) (w : List D → (D → Prop) → Prop) : List V → Hp → VK → Prop := fun xs H Q => ∃ G ds kd, Same G H ∧ Paired (RepB NM K G H) xs ds ∧ w ds kd ∧ ∀ v G' H' r, Ext G H G' H' → Rep NM K G' v r → kd r → Q v H'
def bltV : Blt → Value
  | .len => .builtin "len"
  | .abs => .builtin "abs"
  | .int => .type "int"
  | .isqrt => .builtin "math.isqrt"
  | .min => .builtin "min"
  | .max => .builtin "max"
  | .sum => .builtin "sum"
  | .list => .type "list"
  | .tuple => .type "tuple"
  | .str => .type "str"
  | .isi => .builtin "isinstance"
theorem paired1 {R : V → D → Prop} {xs : List V} {d : D} (h : Paired R xs [d]) : ∃ v, xs = [v] ∧ R v d := by
  cases h with
  | cons h t =>
    cases t
    exact ⟨_, rfl, h⟩
theorem paired2 {R : V → D → Prop} {xs : List V} {d e : D} (h : Paired R xs [d, e]) : ∃ v u, xs = [v, u] ∧ R v d ∧ R u e := by
  cases h with
  | cons h t =>
    cases t with
    | cons h2 t =>
      cases t
      exact ⟨_, _, rfl, h, h2⟩
theorem paired3 {R : V → D → Prop} {xs : List V} {d e g : D} (h : Paired R xs [d, e, g]) : ∃ v u w, xs = [v, u, w] ∧ R v d ∧ R u e ∧ R w g := by
  cases h with
  | cons h t =>
    obtain ⟨u, w, rfl, h2, h3⟩ := paired2 t
    exact ⟨_, _, _, rfl, h, h2, h3⟩
theorem nu_max3 (a b c : Int) : nuMax3 (.int a) (.int b) (.int c) = some (.int (if (if a < b then b else a) < c then c else (if a < b then b else a))) := by
  have e : ∀ a b : Int, nuMax2 (.int a) (.int b) = some (.int (if a < b then b else a)) := fun a b => by
    show some (if decide (a < b) = true then V.int b else V.int a) = _
    by_cases z : a < b
    · rw [decide_eq_true z, if_pos rfl, if_pos z]
    · rw [decide_eq_false z, if_neg Bool.false_ne_true, if_neg z]
  unfold nuMax3
  rw [e]
  exact e _ _
theorem nu_min3 (a b c : Int) : nuMin3 (.int a) (.int b) (.int c) = some (.int (if c < (if b < a then b else a) then c else (if b < a then b else a))) := by
  have e : ∀ a b : Int, nuMin2 (.int a) (.int b) = some (.int (if b < a then b else a)) := fun a b => by
    show some (if decide (b < a) = true then V.int b else V.int a) = _
    by_cases z : b < a
    · rw [decide_eq_true z, if_pos rfl, if_pos z]
    · rw [decide_eq_false z, if_neg Bool.false_ne_true, if_neg z]
  unfold nuMin3
  rw [e]
  exact e _ _
theorem tyx_of {G H : Hp} {v : V} {d : D} {n : String} {b : Bool} (s : Same G H) (h : RepB NM X.K G H v d) (e : kitD d n = some b) : ∃ t, TyX X.K H v t ∧ PySem.W.kitOne X.K t (.type n) = some b := by
  cases d <;> first | (cases e; done) | skip
  · cases h.non; exact ⟨_, .base .non, kit_ty e⟩
  · cases h.bl; exact ⟨_, .base (.bl _), kit_ty e⟩
  · cases h.int; exact ⟨_, .base (.int _), kit_ty e⟩
  · cases h.str; exact ⟨_, .base (.str _), kit_ty e⟩
  · obtain ⟨a, xs, rfl, h1, _, _⟩ := h.tup s
    rcases h1 with (h1 | ⟨o, h1⟩) | ⟨o, its, m, h1, h2, _⟩
    · exact ⟨_, .base (.tup h1), kit_ty e⟩
    · exact ⟨_, .fTuple h1, kit_ty e⟩
    · exact ⟨_, .kTuple h1 h2, kit_ty e⟩
  · obtain ⟨a, xs, rfl, h1, _, _⟩ := h.lst s
    exact ⟨_, .base (.lst h1), kit_ty e⟩
theorem blt_ok (ok : Ok X NM B Φ Γ AT) : ∀ b : Blt, CallR X (bltV b) (rBlt NM X.K (bltW b)) := by
  intro b pins s σ H xs us Q I rs ⟨G, ds, kd, sub, rp, w, q⟩
  have fin : ∀ r v' , Rep NM X.K G v' r → kd r → Q v' H := fun r v' hr hk => q v' G H r (.refl sub) hr hk
  cases b with
  | len =>
    cases ds with
    | nil => exact w.elim
    | cons d r =>
    cases r with
    | cons _ _ => cases d <;> exact w.elim
    | nil =>
    obtain ⟨v, rfl, rv⟩ := paired1 rp
    cases d <;> first | exact w.elim | skip
    · cases rv.str
      exact call_len_str pins s σ H _ us Q I rs ⟨_, rfl, w.1, fin _ _ (.int _) w.2⟩
    · obtain ⟨a, xs, rfl, s1, z1, r1⟩ := rv.tup sub
      exact call_len_seq pins s σ H _ us Q I rs ⟨_, _, rfl, .inr s1, by rw [r1.len]; exact fin _ _ (.int _) w⟩
    · obtain ⟨a, xs, rfl, s1, z1, r1⟩ := rv.lst sub
      exact call_len_seq pins s σ H _ us Q I rs ⟨_, _, rfl, .inl (.of s1), by rw [r1.len]; exact fin _ _ (.int _) w⟩
    · obtain ⟨a, xs, rfl, s1, z1, r1⟩ := rv.ro sub
      exact call_len_seq pins s σ H _ us Q I rs ⟨_, _, rfl, .inl s1, by rw [r1.len]; exact fin _ _ (.int _) w⟩
  | abs =>
    cases ds with
    | nil => exact w.elim
    | cons d r =>
    cases r with
    | cons _ _ => cases d <;> exact w.elim
    | nil =>
    obtain ⟨v, rfl, rv⟩ := paired1 rp
    cases d <;> first | exact w.elim | skip
    cases rv.int
    exact call_abs pins s σ H _ us Q I rs ⟨_, rfl, fin _ _ (.int _) w⟩
  | int =>
    cases ds with
    | nil => exact w.elim
    | cons d r =>
    cases r with
    | cons _ _ => cases d <;> exact w.elim
    | nil =>
    obtain ⟨v, rfl, rv⟩ := paired1 rp
    cases d <;> first | exact w.elim | skip
    · cases rv.bl
      exact call_int1 pins s σ H _ us Q I rs (.inr ⟨_, rfl, fin _ _ (.int _) w⟩)
    · cases rv.int
      exact call_int1 pins s σ H _ us Q I rs (.inl ⟨_, rfl, fin _ _ (.int _) w⟩)
  | isqrt =>
    cases ds with
    | nil => exact w.elim
    | cons d r =>
    cases r with
    | cons _ _ => cases d <;> exact w.elim
    | nil =>
    obtain ⟨v, rfl, rv⟩ := paired1 rp
    cases d <;> first | exact w.elim | skip
    cases rv.int
    exact isqrt_ok pins s σ H _ us Q I rs ⟨_, rfl, w.1, w.2.1, fin _ _ (.int _) w.2.2⟩
  | min =>
    cases ds with
    | nil => exact w.elim
    | cons d r =>
    cases r with
    | cons d2 r2 =>
      cases r2 with
      | cons d3 r3 =>
        cases r3 with
        | cons _ _ => cases d <;> first | exact w.elim | (cases d2 <;> first | exact w.elim | (cases d3 <;> exact w.elim))
        | nil =>
        cases d <;> first | exact w.elim | (cases d2 <;> first | exact w.elim | (cases d3 <;> first | exact w.elim | skip))
        obtain ⟨v, u, u3, rfl, rv, ru, r3⟩ := paired3 rp
        cases rv.int; cases ru.int; cases r3.int
        exact call_min3Nu ok.calm pins s σ H _ us Q I rs ⟨_, _, _, _, rfl, nu_min3 _ _ _, fin _ _ (.int _) w⟩
      | nil =>
      cases d <;> first | exact w.elim | (cases d2 <;> first | exact w.elim | skip)
      obtain ⟨v, u, rfl, rv, ru⟩ := paired2 rp
      cases rv.int; cases ru.int
      exact call_min2 ok.calm pins s σ H _ us Q I rs ⟨_, _, rfl, fin _ _ (.int _) w⟩
    | nil =>
    obtain ⟨v, rfl, rv⟩ := paired1 rp
    cases d <;> first | exact w.elim | skip
    obtain ⟨a, xs, rfl, s1, z1, r1⟩ := rv.lst sub
    simp only [bltW] at w
    split at w
    · rename_i n r e
      rw [ints_map e] at r1
      rw [reps_ints r1] at s1
      exact cr_min ok.calm pins s σ H _ us Q I rs ⟨a, _, rfl, .of s1, by simp, fun m h1 h2 => by rw [minL_uniq h1 h2]; exact fin _ _ (.int _) w⟩
    · exact w.elim
  | max =>
    cases ds with
    | nil => exact w.elim
    | cons d r =>
    cases r with
    | cons d2 r2 =>
      cases r2 with
      | cons d3 r3 =>
        cases r3 with
        | cons _ _ => cases d <;> first | exact w.elim | (cases d2 <;> first | exact w.elim | (cases d3 <;> exact w.elim))
        | nil =>
        cases d <;> first | exact w.elim | (cases d2 <;> first | exact w.elim | (cases d3 <;> first | exact w.elim | skip))
        obtain ⟨v, u, u3, rfl, rv, ru, r3⟩ := paired3 rp
        cases rv.int; cases ru.int; cases r3.int
        exact call_max3Nu ok.calm pins s σ H _ us Q I rs ⟨_, _, _, _, rfl, nu_max3 _ _ _, fin _ _ (.int _) w⟩
      | nil =>
      cases d <;> first | exact w.elim | (cases d2 <;> first | exact w.elim | skip)
      obtain ⟨v, u, rfl, rv, ru⟩ := paired2 rp
      cases rv.int; cases ru.int
      exact call_max2 ok.calm pins s σ H _ us Q I rs ⟨_, _, rfl, fin _ _ (.int _) w⟩
    | nil =>
    obtain ⟨v, rfl, rv⟩ := paired1 rp
    cases d <;> first | exact w.elim | skip
    obtain ⟨a, xs, rfl, s1, z1, r1⟩ := rv.lst sub
    simp only [bltW] at w
    split at w
    · rename_i n r e
      rw [ints_map e] at r1
      rw [reps_ints r1] at s1
      exact cr_max ok.calm pins s σ H _ us Q I rs ⟨a, _, rfl, .of s1, by simp, fun m h1 h2 => by rw [maxL_uniq h1 h2]; exact fin _ _ (.int _) w⟩
    · exact w.elim
  | sum =>
    cases ds with
    | nil => exact w.elim
    | cons d r =>
    cases r with
    | cons _ _ => cases d <;> exact w.elim
    | nil =>
    obtain ⟨v, rfl, rv⟩ := paired1 rp
    cases d <;> first | exact w.elim | skip
    obtain ⟨a, xs, rfl, s1, z1, r1⟩ := rv.lst sub
    simp only [bltW] at w
    split at w
    · rename_i ns e
      rw [ints_map e] at r1
      rw [reps_ints r1] at s1
      exact cr_sum ok.calm pins s σ H _ us Q I rs ⟨a, _, rfl, .of s1, fin _ _ (.int _) w⟩
    · exact w.elim
  | list =>
    cases ds with
    | nil => exact w.elim
    | cons d r =>
    cases r with
    | cons _ _ => cases d <;> exact w.elim
    | nil =>
    obtain ⟨v, rfl, rv⟩ := paired1 rp
    cases d <;> first | exact w.elim | skip
    · obtain ⟨a, xs, rfl, s1, z1, r1⟩ := rv.tup sub
      exact call_list_of pins s σ H _ us Q I rs ⟨_, _, rfl, .inr s1, fun l hl => q _ (upd G l _) _ _ (.new sub hl _) (.lst upd_same z1 (r1.mono (same_upd (sub.free hl)))) w⟩
    · obtain ⟨a, xs, rfl, s1, z1, r1⟩ := rv.lst sub
      exact call_list_of pins s σ H _ us Q I rs ⟨_, _, rfl, .inl (.of s1), fun l hl => q _ (upd G l _) _ _ (.new sub hl _) (.lst upd_same z1 (r1.mono (same_upd (sub.free hl)))) w⟩
  | tuple =>
    cases ds with
    | nil => exact w.elim
    | cons d r =>
    cases r with
    | cons _ _ => cases d <;> exact w.elim
    | nil =>
    obtain ⟨v, rfl, rv⟩ := paired1 rp
    cases d <;> first | exact w.elim | skip
    · cases rv with
      | frz z =>
        obtain ⟨a, xs, rfl, s1, z1, r1⟩ := (RepB.frz (H := H) z).tup sub
        exact call_tuple_of pins s σ H _ us Q I rs ⟨_, _, rfl, .inr ⟨s1, fin _ _ z w⟩⟩
    · obtain ⟨a, xs, rfl, s1, z1, r1⟩ := rv.lst sub
      exact call_tuple_of pins s σ H _ us Q I rs ⟨_, _, rfl, .inl ⟨.of s1, fun l hl => q _ (upd G l _) _ _ (.new sub hl _) (.tup (.of upd_same) z1 (r1.mono (same_upd (sub.free hl)))) w⟩⟩
  | str =>
    cases ds with
    | nil => exact w.elim
    | cons d r =>
    cases r with
    | cons _ _ => cases d <;> exact w.elim
    | nil =>
    obtain ⟨v, rfl, rv⟩ := paired1 rp
    cases d <;> first | exact w.elim | skip
    cases rv.int
    exact call_str_int pins s σ H _ us Q I rs ⟨_, rfl, w.1, fin _ _ (.str _) w.2⟩
  | isi =>
    cases ds with
    | nil => exact w.elim
    | cons d r =>
    cases r with
    | nil => exact w.elim
    | cons d2 r2 =>
    cases r2 with
    | cons _ _ => cases d2 <;> exact w.elim
    | nil =>
    obtain ⟨v, u, rfl, rv, ru⟩ := paired2 rp
    cases d2 <;> first | exact w.elim | skip
    rename_i T
    cases ru with
    | frz z =>
      cases z
      simp only [bltW] at w
      split at w
      · rename_i b e
        obtain ⟨t, ht, hk⟩ := tyx_of sub rv e
        exact call_isi pins s σ H _ us Q I rs ⟨v, _, _, _, b, rfl, .ty T, ht, hk, fin _ _ (.bl _) w⟩
      · exact w.elim
theorem isn_ok (ok : Ok X NM B Φ Γ AT) : CallR X (.builtin "isinstance") (rBlt NM X.K (isnW NM.its)) := by
  intro pins s σ H xs us Q I rs ⟨G, ds, kd, sub, rp, w, q⟩
  have fin : ∀ r v' , Rep NM X.K G v' r → kd r → Q v' H := fun r v' hr hk => q v' G H r (.refl sub) hr hk
  cases ds with
  | nil => exact w.elim
  | cons d r =>
  cases r with
  | nil => exact w.elim
  | cons d2 r2 =>
  cases r2 with
  | cons _ _ => cases d2 <;> exact w.elim
  | nil =>
  obtain ⟨v, u, rfl, rv, ru⟩ := paired2 rp
  cases d2 <;> first | exact w.elim | skip
  rename_i T
  cases ru with
  | frz z =>
    cases z
    obtain ⟨e, w⟩ := w
    subst e
    by_cases hd : ∃ c ks xs, d = .ins c ks xs
    · obtain ⟨c, ks, xs, rfl⟩ := hd
      obtain ⟨w1, w2⟩ := w
      have it := ok.its c (List.contains_iff_mem.mp w1)
      have ⟨a, dx, fs, hv, hH⟩ : ∃ a dx fs, v = .ref a ∧ H a = some (.ins (He.ga X.K (NM.cl c)) dx fs) := by
        cases rv with
        | frz r => cases r with
          | ins h1 h2 h3 => exact ⟨_, _, _, rfl, sub _ _ h1⟩
        | obj h1 h2 h3 h4 => exact ⟨_, _, _, rfl, h1⟩
      subst hv
      exact call_isi pins s σ H _ us Q I rs ⟨_, _, _, _, false, rfl, .ty "tuple", .base (.ins hH it.cl it.ha it.hn it.ht it.hm), it.tu, fin _ _ (.bl _) w2⟩
    · have w' : (match kitD d "tuple" with | some b => kd (.bl b) | none => False) := by
        cases d <;> first | exact absurd ⟨_, _, _, rfl⟩ hd | exact w
      split at w'
      · rename_i b e
        obtain ⟨t, ht, hk⟩ := tyx_of sub rv e
        exact call_isi pins s σ H _ us Q I rs ⟨v, _, _, _, b, rfl, .ty "tuple", ht, hk, fin _ _ (.bl _) w'⟩
      · exact w'.elim
end
end Q
namespace Q
open PySem PySem.Spec L2
section
variable {X : Cx} {NM : Nam} {B : List Str} {Φ : List Cal} {Γ : List (Str × D)} {AT : List (Nat × Nat)} {W : WX} {a b c e : Expr} {fa fb fc : Wk} {pos : Pos} {n : Nat} {g : Ak} {es : List Expr}
theorem reps_paired {G H : Hp} : ∀ {vs : List V} {ds : List D}, Reps NM X.K G vs ds → Paired (RepB NM X.K G H) vs ds
  | _, _, .nil => .nil
  | _, _, .cons h r => .cons (.frz h) (reps_paired r)
theorem se_blt (ok : Ok X NM B Φ Γ AT) {bl : Blt} {x : Str} {p : Pos} (hgl : Gl X x) (hdb : (x == ("__debug__" : Str)) = false) (hga : (e :: es).all good = true)
    (hv : (X.mg x = none ∧ bootBuiltins x = some (bltV bl) ∧ x ≠ "__name__") ∨ (bl = .isqrt ∧ X.mg x = some (.builtin "math.isqrt"))) (ha : PA X (e :: es) (LA NM X.K W n g)) :
    PE X (.Call (.Name x p) (e :: es) [] pos) (LE NM X.K W fun ρ k x => g ρ (fun ds => bltW bl ds k) x) := by
  have hg2 := Bool.and_eq_true_iff.mp (show (good e && es.all good) = true from hga)
  have pe : PE X (.Call (.Name x p) (e :: es) [] pos) (tCB (rBlt NM X.K (bltW bl)) (LA NM X.K W n g)) := by
    rcases hv with ⟨h1, h2, h3⟩ | ⟨rfl, h1⟩
    · cases bl <;> first | exact pe_callB (blt_ok ok _) hgl h1 h2 ha h3 hdb (starEach_good hg2.1) (starAny hg2.2) | exact pe_callTy (blt_ok ok _) hgl h1 h2 ha h3 hdb (starEach_good hg2.1) (starAny hg2.2)
    · exact pe_callBfun (blt_ok ok .isqrt) hgl h1 ha hdb (starEach_good hg2.1) (starAny hg2.2)
  exact pe_imp pe fun σ H Q ⟨F, ρ, G, kd, kx, r, q, h1, h2⟩ => ⟨F, ρ, G, _, kx, r, q, fun vs G1 H1 ds x1 r1 l1 q1 =>
    ⟨G1, ds, kd, x1.sub, reps_paired r1, q1, fun v G2 H2 d x2 r2 q2 => h1 v G2 H2 d (x1.trans x2) r2 q2⟩, h2⟩
theorem se_isn (ok : Ok X NM B Φ Γ AT) {p : Pos} (hgl : Gl X "isinstance") (h1 : X.mg "isinstance" = none) (hga : (e :: es).all good = true) (ha : PA X (e :: es) (LA NM X.K W n g)) :
    PE X (.Call (.Name "isinstance" p) (e :: es) [] pos) (LE NM X.K W fun ρ k x => g ρ (fun ds => isnW NM.its ds k) x) := by
  have hg2 := Bool.and_eq_true_iff.mp (show (good e && es.all good) = true from hga)
  have pe : PE X (.Call (.Name "isinstance" p) (e :: es) [] pos) (tCB (rBlt NM X.K (isnW NM.its)) (LA NM X.K W n g)) :=
    pe_callB (isn_ok ok) hgl h1 (by decide +kernel) ha (by decide +kernel) (by decide +kernel) (starEach_good hg2.1) (starAny hg2.2)
  exact pe_imp pe fun σ H Q ⟨F, ρ, G, kd, kx, r, q, h1, h2⟩ => ⟨F, ρ, G, _, kx, r, q, fun vs G1 H1 ds x1 r1 l1 q1 =>
    ⟨G1, ds, kd, x1.sub, reps_paired r1, q1, fun v G2 H2 d x2 r2 q2 => h1 v G2 H2 d (x1.trans x2) r2 q2⟩, h2⟩
theorem sa_oneB (hg : good e = true) (ha : PE X e (LB NM X.K W fa)) : PA X [e] (fun σ H Q => LB NM X.K W fa σ H fun v H' => Q [v] H') :=
  pa_imp (pa_cons ha pa_nil (starEach_good hg)) fun σ H Q q => q
theorem se_blt1 (ok : Ok X NM B Φ Γ AT) {bl : Blt} {x : Str} {p : Pos} (hgl : Gl X x) (hdb : (x == ("__debug__" : Str)) = false) (hg : good e = true)
    (hv : (X.mg x = none ∧ bootBuiltins x = some (bltV bl) ∧ x ≠ "__name__") ∨ (bl = .isqrt ∧ X.mg x = some (.builtin "math.isqrt"))) (ha : PE X e (LB NM X.K W fa)) :
    PE X (.Call (.Name x p) [e] [] pos) (LE NM X.K W fun ρ k x => fa ρ (fun d => bltW bl [d] k) x) := by
  have pe : PE X (.Call (.Name x p) [e] [] pos) (tCB (rBlt NM X.K (bltW bl)) (fun σ H Q => LB NM X.K W fa σ H fun v H' => Q [v] H')) := by
    rcases hv with ⟨h1, h2, h3⟩ | ⟨rfl, h1⟩
    · cases bl <;> first | exact pe_callB (blt_ok ok _) hgl h1 h2 (sa_oneB hg ha) h3 hdb (starEach_good hg) rfl | exact pe_callTy (blt_ok ok _) hgl h1 h2 (sa_oneB hg ha) h3 hdb (starEach_good hg) rfl
    · exact pe_callBfun (blt_ok ok .isqrt) hgl h1 (sa_oneB hg ha) hdb (starEach_good hg) rfl
  exact pe_imp pe fun σ H Q ⟨F, ρ, G, kd, kx, r, q, h1, h2⟩ => ⟨F, ρ, G, _, kx, r, q, fun v G1 H1 d x1 r1 q1 =>
    ⟨G1, [d], kd, x1.sub, .cons r1 .nil, q1, fun v G2 H2 d x2 r2 q2 => h1 v G2 H2 d (x1.trans x2) r2 q2⟩, h2⟩
theorem bltB_eq : ∀ b : Blt, b ≠ .isqrt → bootBuiltins (bltN b) = some (bltV b) := by
  intro b hb
  cases b <;> first | exact absurd rfl hb | decide +kernel
abbrev Gk := D → Env → (Env → Prop) → Prop
def Dif (vs : List Nat) (σ σ' : L2.St) : Prop := σ'.length = σ.length ∧ ∀ i, i ∉ vs → σ'[i]? = σ[i]?
theorem Dif.refl {vs : List Nat} {σ : L2.St} : Dif vs σ σ := ⟨rfl, fun _ _ => rfl⟩
theorem Dif.trans {vs ws : List Nat} {σ σ1 σ2 : L2.St} (a : Dif vs σ σ1) (b : Dif ws σ1 σ2) : Dif (vs ++ ws) σ σ2 :=
  ⟨b.1.trans a.1, fun i h => (b.2 i fun z => h (List.mem_append_right _ z)).trans (a.2 i fun z => h (List.mem_append_left _ z))⟩
theorem wipe_in {σ : L2.St} {i : Nat} : ∀ {vs : List Nat}, i ∈ vs → i < σ.length → (wipe σ vs)[i]? = some none
  | v :: vs, h, hl => by
    unfold wipe
    by_cases hv : v = i
    · subst hv
      rw [List.getElem?_set_self (by rw [wipe_length]; exact hl)]
    · rw [List.getElem?_set_ne hv]
      exact wipe_in ((List.mem_cons.mp h).resolve_left (Ne.symm hv)) hl
theorem Dif.wipe {vs : List Nat} {σ σ' : L2.St} (h : Dif vs σ σ') : L2.wipe σ' vs = L2.wipe σ vs := by
  apply List.ext_getElem?
  intro i
  by_cases hi : i ∈ vs
  · by_cases hl : i < σ.length
    · rw [wipe_in hi hl, wipe_in hi (by rw [h.1]; exact hl)]
    · rw [List.getElem?_eq_none (by rw [wipe_length, h.1]; omega), List.getElem?_eq_none (by rw [wipe_length]; omega)]
  · rw [wipe_out hi, wipe_out hi]
    exact h.2 i hi
def LG (NM : Nam) (K : PySem.W.Frag) (vs : List Nat) (f : Gk) : TG := fun v σ H Q => ∃ F ρ G d k, R NM K F ρ G σ H ∧ Rep NM K G v d ∧ f d ρ k ∧ ∀ σ' ρ', R NM K F ρ' G σ' H → Dif vs σ σ' → k ρ' → Q σ' H
def LGs (NM : Nam) (K : PySem.W.Frag) (vs : List Nat) (f : List D → Env → (Env → Prop) → Prop) : TGs := fun us σ H Q => ∃ F ρ G ds k, R NM K F ρ G σ H ∧ Reps NM K G us ds ∧ f ds ρ k ∧ ∀ σ' ρ', R NM K F ρ' G σ' H → Dif vs σ σ' → k ρ' → Q σ' H
theorem pg_imp {t t' : TG} (h : PG X e t) (i : ∀ v σ H Q, t' v σ H Q → t v σ H Q) : PG X e t' := ⟨fun pins s σ H v u Q I r q => h.run pins s σ H v u Q I r (i _ _ _ _ q)⟩
theorem pgs_imp {t t' : TGs} (h : PGs X es t) (i : ∀ v σ H Q, t' v σ H Q → t v σ H Q) : PGs X es t' := ⟨fun pins s σ H v u Q I r q => h.run pins s σ H v u Q I r (i _ _ _ _ q)⟩
def TgOk (X : Cx) (sc : Scope) : Prop := ∀ x, (sc.names.lookup x = some .local → X.env.scope.names.lookup x = some .local) ∧ (sc.names.lookup x = some .cell → X.env.scope.names.lookup x = some .cell ∧ X.fn x = true)
theorem locB_loc {sc : Scope} {x : Str} (h : locB sc x = true) (hs : TgOk X sc) : Loc X.env.scope x ∧ (X.fn x = true ∨ X.env.scope.names.lookup x = some .local) := by
  unfold locB at h
  split at h
  · rename_i q
    exact ⟨.inl ((hs x).1 q), .inr ((hs x).1 q)⟩
  · rename_i q
    exact ⟨.inr ((hs x).2 q).1, .inl ((hs x).2 q).2⟩
  · cases h
theorem lookup_rel {sc : Scope} {x : Str} {k : NameKind} (hk : k ≠ .free) : ∀ {l : List (Str × NameKind)}, l.lookup x = some k → (l.map fun (n, k) => if (k == .free && sc.kind == .function && sc.names.lookup n == some .cell) then (n, NameKind.cell) else (n, k)).lookup x = some k
  | [], h => by cases h
  | (n, j) :: l, h => by
    rw [List.map_cons]
    by_cases e : (x == n) = true
    · have h' : some j = some k := by
        rw [List.lookup_cons, e] at h
        exact h
      cases h'
      have ne : (k == NameKind.free) = false := by cases k <;> first | rfl | exact absurd rfl hk
      simp only [ne, Bool.false_and]
      rw [List.lookup_cons]
      show (match x == n with | true => some k | false => _) = some k
      rw [e]
    · have e' : (x == n) = false := by simpa using e
      have h' : l.lookup x = some k := by
        rw [List.lookup_cons, e'] at h
        exact h
      have ih := lookup_rel (sc := sc) hk h'
      dsimp only
      split <;> (rw [List.lookup_cons]; show (match x == n with | true => _ | false => _) = some k; rw [e']; exact ih)
theorem tgOk_blk {s : Shared} {H : Hp} {scope : Scope} {C : Addr} {cl : List (Str × Addr)} {fp : List Addr} : TgOk (X.blk s H scope (compEnvC scope cl C X.env) fp) scope := fun x =>
  ⟨fun h => lookup_rel (by decide) h, fun h => ⟨lookup_rel (by decide) h, by show (scope.names.lookup x == some .cell) = true; rw [h]; rfl⟩⟩
theorem assignGood {env : PySem.Env} (h : good e = true) : assignEach (e :: es) env = (false, assign e env) :: assignEach es env := by
  cases e <;> first | rfl | cases h
theorem assign_len {env : PySem.Env} : ∀ es : List Expr, (assignEach es env).length = es.length
  | [] => rfl
  | e :: es => by
    have ih := assign_len (env := env) es
    cases e <;> exact congrArg Nat.succ ih
theorem assign_star {env : PySem.Env} : ∀ {es : List Expr}, es.all good = true → (assignEach es env).findIdx? (·.1) = none
  | [], _ => rfl
  | e :: es, h => by
    have h2 := Bool.and_eq_true_iff.mp (show (good e && es.all good) = true from h)
    rw [assignGood h2.1, List.findIdx?_cons]
    rw [assign_star h2.2]
    rfl
theorem pg_or {t1 t2 : TG} (h1 : PG X e t1) (h2 : PG X e t2) : PG X e (fun v σ H Q => t1 v σ H Q ∨ t2 v σ H Q) := ⟨fun pins s σ H v u Q I r q => q.elim (fun z => h1.run pins s σ H v u Q I r z) fun z => h2.run pins s σ H v u Q I r z⟩
mutual
theorem sg (ok : Ok X NM B Φ Γ AT) {sc : Scope} (hs : TgOk X sc) : ∀ (t : Tg) (e : Expr), chTg X.N t sc e = true → PG X e (LG NM X.K t.slots (bindW t))
  | .nm i, e, h => by
    unfold chTg at h
    split at h
    · rename_i x hx
      obtain ⟨p, rfl⟩ := asName_eq hx
      obtain ⟨h1, h2⟩ := Bool.and_eq_true_iff.mp h
      obtain ⟨hl, hf⟩ := locB_loc (X := X) h2 hs
      refine pg_imp (pg_name (i := i) ok.nd (of_decide_eq_true h1) hl hf) fun v σ H Q ⟨F, ρ, G, d, k, r, hd, q, w⟩ => ?_
      refine w _ _ (r.set hd) ⟨List.length_set .., fun j hj => List.getElem?_set_ne fun z => hj ?_⟩ q
      rw [← z]
      exact List.mem_singleton.mpr rfl
    · cases h
  | .tp ts, e, h => by
    unfold chTg at h
    split at h
    · rename_i xs hx
      obtain ⟨kk, p, rfl⟩ := asTup_eq hx
      obtain ⟨g1, g2, g3⟩ := sgs ok hs ts xs h
      refine pg_imp (pg_or (pg_tup (n := xs.length) ok.calm g1 (assign_len xs) (assign_star g2)) (pg_lst (n := xs.length) ok.calm g1 (assign_len xs) (assign_star g2))) fun v σ H Q ⟨F, ρ, G, d, k, r, hd, q, w⟩ => ?_
      unfold bindW at q
      cases d <;> first | exact q.elim | skip
      · cases hd with
        | tup h1 h2 h3 => exact .inl ⟨_, _, rfl, sqT_mono r.sub h1, by rw [h3.len, ← q.1, g3], F, ρ, G, _, k, r, h3, q.2, w⟩
      · cases hd with
        | lst h1 h2 h3 => exact .inr ⟨_, _, rfl, .of (r.sub _ _ h1), by rw [h3.len, ← q.1, g3], F, ρ, G, _, k, r, h3, q.2, w⟩
    · cases h
theorem sgs (ok : Ok X NM B Φ Γ AT) {sc : Scope} (hs : TgOk X sc) : ∀ (ts : List Tg) (es : List Expr), chTgs X.N ts sc es = true → PGs X es (LGs NM X.K (slotss ts) (bindsW ts)) ∧ es.all good = true ∧ ts.length = es.length
  | [], [], _ => ⟨pgs_imp pgs_nil fun vs σ H Q ⟨F, ρ, G, ds, k, r, hd, q, w⟩ => by
      cases hd with
      | nil =>
        refine ⟨rfl, w _ _ r .refl ?_⟩
        unfold bindsW at q
        exact q
      | cons _ _ =>
        unfold bindsW at q
        exact q.elim, rfl, rfl⟩
  | [], _ :: _, h => by
    unfold chTgs at h
    cases h
  | _ :: _, [], h => by
    unfold chTgs at h
    cases h
  | t :: ts, e :: es, h => by
    unfold chTgs at h
    obtain ⟨h1, h2⟩ := Bool.and_eq_true_iff.mp h
    obtain ⟨h0, h1⟩ := Bool.and_eq_true_iff.mp h1
    obtain ⟨a1, a2, a3⟩ := sgs ok hs ts es h2
    refine ⟨pgs_imp (pgs_cons (sg ok hs t e h1) a1 (by rw [assignGood h0]; rfl)) fun vs σ H Q ⟨F, ρ, G, ds, k, r, hd, q, w⟩ => ?_, by rw [List.all_cons, h0, a2]; rfl, congrArg Nat.succ a3⟩
    cases hd with
    | nil =>
      unfold bindsW at q
      exact q.elim
    | cons x1 x2 =>
      unfold bindsW at q
      exact ⟨_, _, rfl, F, ρ, G, _, _, r, x1, q, fun σ' ρ' r' d' q' => ⟨F, ρ', G, _, k, r', x2, q', fun σ2 ρ2 r2 d2 q2 => w σ2 ρ2 r2 (d'.trans d2) q2⟩⟩
end
structure Wlk (NM : Nam) (K : PySem.W.Frag) (J : L2.It) (rl : Hp → Hp → Prop) (ds : List D) : Prop where
  go : ∀ i G H, Same G H → rl G H → i < ds.length → J.go i H ∧ ∀ x H', J.yld i H x H' → ∃ G' d, Ext G H G' H' ∧ ds[i]? = some d ∧ Rep NM K G' x d
  stop : ∀ G H, Same G H → rl G H → J.stop ds.length H
def LW (NM : Nam) (K : PySem.W.Frag) (W : WX) (fz : Bool) (f : Ak) : TI := fun σ H Rk => ∃ F ρ G kd kx, R NM K F ρ G σ H ∧ f ρ kd kx ∧
  (∀ J G' H' ds, Ext G H G' H' → Wlk NM K J (fun G1 H1 => Same G' G1 ∧ (fz = false → Same H' H1) ∧ ∀ b o, F.H_0 b = some o → ¬ F.M b → H1 b = some o) ds → ds.length ≤ sizeLine → kd ds → Rk J H') ∧ (∀ cls dx G' H' x, Ext G H G' H' → RepX NM K G' cls dx x → kx x → W cls dx σ H')
theorem pi_imp {tg : Expr} {t t' : TI} (h : PI X tg e t) (i : ∀ σ H Q, t' σ H Q → t σ H Q) : PI X tg e t' := ⟨fun pins s σ H Q I q => h.run pins s σ H Q I (i _ _ _ q)⟩
theorem pi_seq {tg l : Expr} {tl : TE} (hl : PE X l tl) : PI X tg l (fun σ H Rk => tl σ H fun x H1 => (∃ a, x = .ref a ∧ (∃ xs, SqL X.K H1 a xs) ∧ Rk (Itl X.K a) H1) ∨ (∃ a, x = .ref a ∧ (∃ xs, SqT X.K H1 a xs) ∧ Rk (Itt X.K a) H1) ∨ (∃ y, x = .str y ∧ Rk (Its y) H1)) := by
  refine ⟨fun pins s σ H Rk I h => ?_⟩
  refine thn (hl.run pins s σ H _ I h) fun v s1 ⟨x, H1, I1, r1, q1⟩ => ?_
  have fpo : ∀ b ∈ [s1.heap.objs.size], FpOk X pins H1 b := fun b hb => by
    cases (show b = s1.heap.objs.size from by simpa using hb)
    exact I1.fpOk (Nat.le_refl _) (I1.hok.fresh (Nat.le_refl _))
  rcases q1 with ⟨a, z, ⟨xs, hq⟩, q⟩ | ⟨a, z, ⟨xs, hq⟩, q⟩ | ⟨y, z, q⟩
  · subst z
    cases r1
    obtain ⟨its, rv, p, hz⟩ := I1.list hq
    exact wpAny_pyIter_list p.isList ⟨s1.heap.objs.size, [s1.heap.objs.size], _, _, H1, rfl, I1.kept (t' := s1.toks) fun b o e => Heap.get?_push_of_some _ e, turn_list a _, ⟨_, Heap.get?_push_size _ rfl, rfl, rfl⟩, fpo, q⟩
  · subst z
    cases r1
    obtain ⟨its, rv, p, hz⟩ := I1.tuple hq
    exact wpAny_pyIter_tuple (show s1.heap.IsTuple a its.toArray from p) ⟨s1.heap.objs.size, [s1.heap.objs.size], _, _, H1, rfl, I1.kept (t' := s1.toks) fun b o e => Heap.get?_push_of_some _ e, turn_tuple a _, ⟨_, Heap.get?_push_size _ rfl, rfl, rfl⟩, fpo, q⟩
  · subst z
    obtain ⟨t, rfl⟩ := r1
    cases ha : y.cps.all (· < 128)
    · exact wpAny_pyIter_wide ha (pi_one (tk := s1.toks) I1 _ (turn_str _ y t "str_iterator" (.inr rfl)) ⟨_, Heap.get?_push_size _ rfl, rfl, rfl⟩ q)
    · exact wpAny_pyIter_ascii ha (pi_one (tk := s1.toks) I1 _ (turn_str _ y t "str_ascii_iterator" (.inl rfl)) ⟨_, Heap.get?_push_size _ rfl, rfl, rfl⟩ q)
theorem wlk_str {y : Str} {rl : Hp → Hp → Prop} : Wlk NM X.K (Its y) rl (strD y) where
  go := fun i G H s q hi => by
    have hi' : i < y.cps.size := by simpa [strD] using hi
    refine ⟨hi', fun x H' ⟨e1, c, e2, e3⟩ => ?_⟩
    subst e1 e3
    refine ⟨G, .str ⟨#[c]⟩, .refl s, ?_, .str _⟩
    have e2' : y.cps.toList[i]? = some c := by rw [Array.getElem?_toList]; exact e2
    unfold strD
    rw [List.getElem?_map, e2']
    rfl
  stop := fun G H s q => by
    show y.cps.size ≤ (strD y).length
    simp [strD]
theorem wlk_list {G0 H0 : Hp} {a : Addr} {xs : List V} {ds : List D} {rl : Hp → Hp → Prop} (g0 : ∀ G H, rl G H → Same G0 G) (hs : ∀ G H, Same G H → rl G H → SqL X.K H a xs) (r : Reps NM X.K G0 xs ds) : Wlk NM X.K (Itl X.K a) rl ds where
  go := fun i G H s q hi => by
    obtain ⟨v, h1, h2⟩ := r.get (List.getElem?_eq_getElem hi)
    refine ⟨⟨xs, v, hs G H s q, h1⟩, fun x H' ⟨e1, e2⟩ => ?_⟩
    subst e1
    cases h1.symm.trans (e2 xs (hs G _ s q))
    exact ⟨G, _, .refl s, List.getElem?_eq_getElem hi, h2.mono (g0 G _ q)⟩
  stop := fun G H s q => ⟨xs, hs G H s q, Nat.le_of_eq r.len⟩
theorem wlk_tup {G0 H0 : Hp} {a : Addr} {xs : List V} {ds : List D} {rl : Hp → Hp → Prop} (g0 : ∀ G H, rl G H → Same G0 G) (hs : ∀ G H, Same G H → rl G H → SqT X.K H a xs) (r : Reps NM X.K G0 xs ds) : Wlk NM X.K (Itt X.K a) rl ds where
  go := fun i G H s q hi => by
    obtain ⟨v, h1, h2⟩ := r.get (List.getElem?_eq_getElem hi)
    refine ⟨⟨xs, v, hs G H s q, h1⟩, fun x H' ⟨e1, e2⟩ => ?_⟩
    subst e1
    cases h1.symm.trans (e2 xs (hs G _ s q))
    exact ⟨G, _, .refl s, List.getElem?_eq_getElem hi, h2.mono (g0 G _ q)⟩
  stop := fun G H s q => ⟨xs, hs G H s q, Nat.le_of_eq r.len⟩
abbrev exF (f : Wk) : Ak := fun ρ k x => f ρ (fun d => match d with
    | .lst xs => k xs
    | .tup xs => k xs
    | .ro xs => k xs
    | .str s => s.length ≤ sizeLine ∧ k (strD s)
    | _ => False) x
theorem sw_ex {tg : Expr} (h : PE X e (LE NM X.K W fa)) : PI X tg e (LW NM X.K W true (exF fa)) := pi_imp (pi_seq h) fun σ H Q ⟨F, ρ, G, kd, kx, r, q, h1, h2⟩ => ⟨F, ρ, G, _, kx, r, q, fun v G1 H1 d x1 r1 q1 => by
    cases d <;> first | exact q1.elim | skip
    · cases r1
      exact .inr (.inr ⟨_, rfl, h1 _ G1 H1 _ x1 wlk_str (by rw [strD_len]; exact q1.1) q1.2⟩)
    · cases r1 with
      | tup a1 a2 a3 => exact .inr (.inl ⟨_, rfl, ⟨_, sqT_mono x1.sub a1⟩, h1 _ G1 H1 _ x1 (wlk_tup (G0 := G1) (H0 := H1) (fun _ _ z => z.1) (fun G H s z => sqT_mono (z.1.trans s) a1) a3) (by rw [← a3.len]; exact a2) q1⟩)
    · cases r1 with
      | lst a1 a2 a3 => exact .inl ⟨_, rfl, ⟨_, .of (x1.sub _ _ a1)⟩, h1 _ G1 H1 _ x1 (wlk_list (G0 := G1) (H0 := H1) (fun _ _ z => z.1) (fun G H s z => .of (s _ _ (z.1 _ _ a1))) a3) (by rw [← a3.len]; exact a2) q1⟩
    · cases r1 with
      | ro a1 a2 a3 => exact .inl ⟨_, rfl, ⟨_, x1.sub.seq a1⟩, h1 _ G1 H1 _ x1 (wlk_list (G0 := G1) (H0 := H1) (fun _ _ z => z.1) (fun G H s z => (z.1.trans s).seq a1) a3) (by rw [← a3.len]; exact a2) q1⟩, h2⟩
abbrev exD (k : List D → Prop) (d : D) : Prop := match d with
    | .lst xs => k xs
    | .tup xs => k xs
    | .ro xs => k xs
    | .str s => s.length ≤ sizeLine ∧ k (strD s)
    | _ => False
theorem sw_exl {tg : Expr} {i : Nat} {fz : Bool} (h : PE X e (tVar i)) : PI X tg e (LW NM X.K W fz fun ρ k _ => lokW i ρ (exD k)) := pi_imp (pi_seq h) fun σ H Q ⟨F, ρ, G, kd, kx, r, q, h1, h2⟩ => by
  have fin : ∀ {v : V} {d : D}, RepL NM X.K F G H v d → exD kd d → (∃ a, v = .ref a ∧ (∃ xs, SqL X.K H a xs) ∧ Q (Itl X.K a) H) ∨ (∃ a, v = .ref a ∧ (∃ xs, SqT X.K H a xs) ∧ Q (Itt X.K a) H) ∨ (∃ y, v = .str y ∧ Q (Its y) H) := fun {v d} hr w => by
    cases hr with
    | frz r1 =>
      cases d <;> first | exact w.elim | skip
      · cases r1
        exact .inr (.inr ⟨_, rfl, h1 _ G H _ (.refl r.sub) wlk_str (by rw [strD_len]; exact w.1) w.2⟩)
      · cases r1 with
        | tup a1 a2 a3 => exact .inr (.inl ⟨_, rfl, ⟨_, sqT_mono r.sub a1⟩, h1 _ G H _ (.refl r.sub) (wlk_tup (G0 := G) (H0 := H) (fun _ _ z => z.1) (fun G H s z => sqT_mono (z.1.trans s) a1) a3) (by rw [← a3.len]; exact a2) w⟩)
      · cases r1 with
        | lst a1 a2 a3 => exact .inl ⟨_, rfl, ⟨_, .of (r.sub _ _ a1)⟩, h1 _ G H _ (.refl r.sub) (wlk_list (G0 := G) (H0 := H) (fun _ _ z => z.1) (fun G H s z => .of (s _ _ (z.1 _ _ a1))) a3) (by rw [← a3.len]; exact a2) w⟩
      · cases r1 with
        | ro a1 a2 a3 => exact .inl ⟨_, rfl, ⟨_, r.sub.seq a1⟩, h1 _ G H _ (.refl r.sub) (wlk_list (G0 := G) (H0 := H) (fun _ _ z => z.1) (fun G H s z => (z.1.trans s).seq a1) a3) (by rw [← a3.len]; exact a2) w⟩
    | own k1 k2 k3 k4 k5 k6 =>
      rename_i l vs ds
      have e0 : F.H_0 l = some (.lst vs) := by
        cases z : F.H_0 l with
        | none => exact absurd z k3
        | some o =>
          have := r.keep l o z k4
          rw [k1] at this
          exact this.symm
      exact .inl ⟨_, rfl, ⟨_, .of k1⟩, h1 _ G H _ (.refl r.sub) (wlk_list (G0 := G) (H0 := H) (fun _ _ z => z.1) (fun G H s z => .of (z.2.2 _ _ e0 k4)) k6) (by rw [← k6.len]; exact k5) w⟩
    | obj _ _ _ _ _ _ => exact w.elim
  have q : lokW i ρ (exD kd) := q
  unfold lokW at q
  split at q
  · rename_i d hd
    obtain ⟨o, ho, v, hv, hr⟩ := r.slot hd
    subst hv
    exact ⟨v, ho, fin (.frz hr) q⟩
  · rename_i d hd
    obtain ⟨o, ho, v, hv, hr⟩ := r.slot hd
    subst hv
    exact ⟨v, ho, fin hr q⟩
  · exact q.elim
theorem sw_exB {tg : Expr} (h : PE X e (LB NM X.K W fa)) : PI X tg e (LW NM X.K W false (exF fa)) := pi_imp (pi_seq h) fun σ H Q ⟨F, ρ, G, kd, kx, r, q, h1, h2⟩ => ⟨F, ρ, G, _, kx, r, q, fun v G1 H1 d x1 r1 q1 => by
    cases d <;> first | exact q1.elim | skip
    · cases r1.str
      exact .inr (.inr ⟨_, rfl, h1 _ G1 H1 _ x1 wlk_str (by rw [strD_len]; exact q1.1) q1.2⟩)
    · obtain ⟨a, xs, rfl, a1, a2, a3⟩ := r1.tup x1.sub
      exact .inr (.inl ⟨_, rfl, ⟨_, a1⟩, h1 _ G1 H1 _ x1 (wlk_tup (G0 := G1) (H0 := H1) (fun _ _ z => z.1) (fun G H s z => sqT_mono (z.2.1 rfl) a1) a3) (by rw [← a3.len]; exact a2) q1⟩)
    · obtain ⟨a, xs, rfl, a1, a2, a3⟩ := r1.lst x1.sub
      exact .inl ⟨_, rfl, ⟨_, .of a1⟩, h1 _ G1 H1 _ x1 (wlk_list (G0 := G1) (H0 := H1) (fun _ _ z => z.1) (fun G H s z => .of (z.2.1 rfl _ _ a1)) a3) (by rw [← a3.len]; exact a2) q1⟩
    · obtain ⟨a, xs, rfl, a1, a2, a3⟩ := r1.ro x1.sub
      exact .inl ⟨_, rfl, ⟨_, a1⟩, h1 _ G1 H1 _ x1 (wlk_list (G0 := G1) (H0 := H1) (fun _ _ z => z.1) (fun G H s z => (z.2.1 rfl).seq a1) a3) (by rw [← a3.len]; exact a2) q1⟩, h2⟩
theorem wlk_rng {lo : Int} {n : Nat} {rl : Hp → Hp → Prop} : Wlk NM X.K (Itr lo n) rl (rangeD lo n) where
  go := fun i G H s q hi => by
    have hi' : i < n := by simpa [rangeD] using hi
    refine ⟨hi', fun x H' ⟨e1, e2⟩ => ?_⟩
    subst e1 e2
    exact ⟨G, .int (lo + (i : Nat)), .refl s, by simp [rangeD, hi'], .int _⟩
  stop := fun G H s q => by
    show n ≤ (rangeD lo n).length
    simp [rangeD]
theorem turn_long {P : Program} {w : World} {K : PySem.W.Frag} {tg : Expr} (it : Addr) (lo : Int) (n : Nat) : Turn P w K tg (Itr lo n) [it] it (fun i h => IsLongIter h it (lo + (i : Nat) * 1) ((n : Int) - (i : Nat)) 1) where
  mem := by simp
  obj := fun i h st b hb => by
    have e : b = it := by simpa using hb
    subst e
    exact ⟨_, st, fun v z => by
      have z' : Data.fields _ = Data.cell v := z
      cases z'⟩
  keep := fun i h h' st k => k it (by simp) _ st
  item := by
    intro X hP hw hK hc i pins s σ H E I hf st hg
    subst hP hw hK
    obtain ⟨f0, f1, f2, f3, f4, f5⟩ := hf it (by simp)
    have W := Walks.longrange (prog := X.prog) (w := X.w) (I.ok.hd hc) it lo 1 n
    refine W.item i s _ _ hg st fun v h' tk hv st' kk => ?_
    obtain ⟨t, rfl⟩ := hv
    have I1 : Inv X pins σ H { s with heap := h', toks := tk } := I.turned (fun b o hb e => kk b o (by simpa using hb) e) f0 f1 f3 f4 f5
    refine ⟨_, rfl, go_of (s := { s with heap := h', toks := tk }) (n := "longrange_iterator") st' rfl rfl (by decide) ⟨.int (lo + i), H, I1, ⟨t, ?_⟩, ⟨rfl, rfl⟩, st', fun b hb => (hf b hb).1⟩⟩
    rw [Int.mul_one]
  done := by
    intro X hP hw hK hc i pins s σ H E I hf st hg
    subst hP hw hK
    obtain ⟨f0, f1, f2, f3, f4, f5⟩ := hf it (by simp)
    exact wpAny_pyNext_long_end (I.ok.hd hc) st (by have : n ≤ i := hg; omega) fun h' eb => ⟨rfl, I.turned (t' := s.toks) (fun b o hb e => eb b o hb e) f0 f1 f3 f4 f5⟩
  self := fun _ _ _ _ _ st h => wpAny_pyIter_longiter st h
theorem range_itL {tg : Expr} {pins : List (Addr × Obj)} {σ : L2.St} {H : Hp} {s : Shared} {R : L2.It → Hp → Prop} {E : Value → Shared → Prop} {lo hi : Int} {t u v : Tok} {tk : Nat} (I : Inv X pins σ H s)
    (q : R (Itr lo (hi - lo).toNat) H) : wpAny (model X.prog X.w) X.A (pyIter (.ref s.heap.objs.size)) (PIE X pins σ tg R) E { s with heap := s.heap.push { cls := .type "range", data := .fields #[.int lo t, .int hi u, .int 1 v] }, toks := tk } := by
  have I1 : Inv X pins σ H { s with heap := s.heap.push { cls := .type "range", data := .fields #[.int lo t, .int hi u, .int 1 v] }, toks := tk } := I.kept fun b o e => Heap.get?_push_of_some _ e
  have e1 : lo + ((0 : Nat) : Int) * 1 = lo := by simp
  have e2 : (((hi - lo).toNat : Nat) : Int) - ((0 : Nat) : Int) = Builtin.Range.rangeSize lo hi 1 := by rw [rangeSize_one]; split <;> omega
  cases z : Builtin.Range.small lo hi 1 with
  | true =>
    refine wpAny_pyIter_range (IsRange.new ..) z ?_
    refine ⟨(s.heap.push { cls := .type "range", data := .fields #[.int lo t, .int hi u, .int 1 v] }).objs.size, [(s.heap.push { cls := .type "range", data := .fields #[.int lo t, .int hi u, .int 1 v] }).objs.size], _, _, H, rfl,
      I1.kept (t' := tk) fun b o e => Heap.get?_push_of_some _ e, turn_range _ lo (hi - lo).toNat, ?_, fun b hb => ?_, q⟩
    · show IsRangeIter _ _ (lo + ((0 : Nat) : Int) * 1) ((((hi - lo).toNat : Nat) : Int) - ((0 : Nat) : Int)) 1
      rw [e1, e2]
      exact Heap.get?_push_size _ rfl
    · have e : b = (s.heap.push { cls := .type "range", data := .fields #[.int lo t, .int hi u, .int 1 v] }).objs.size := by simpa using hb
      subst e
      exact I1.fpOk (Nat.le_refl _) (I1.hok.fresh (Nat.le_refl _))
  | false =>
    refine wpAny_pyIter_longrange (IsRange.new ..) z ?_
    refine ⟨(s.heap.push { cls := .type "range", data := .fields #[.int lo t, .int hi u, .int 1 v] }).objs.size, [(s.heap.push { cls := .type "range", data := .fields #[.int lo t, .int hi u, .int 1 v] }).objs.size], _, _, H, rfl,
      I1.kept (t' := tk) fun b o e => Heap.get?_push_of_some _ e, turn_long _ lo (hi - lo).toNat, ?_, fun b hb => ?_, q⟩
    · show IsLongIter _ _ (lo + ((0 : Nat) : Int) * 1) ((((hi - lo).toNat : Nat) : Int) - ((0 : Nat) : Int)) 1
      rw [e1, e2]
      exact Heap.get?_push_size _ rfl
    · have e : b = (s.heap.push { cls := .type "range", data := .fields #[.int lo t, .int hi u, .int 1 v] }).objs.size := by simpa using hb
      subst e
      exact I1.fpOk (Nat.le_refl _) (I1.hok.fresh (Nat.le_refl _))
def iRngL (ta : TA) : TI := fun σ H R => ta σ H fun vs H1 => ∃ i j : Int, vs = [.int i, .int j] ∧ R (Itr i (j - i).toNat) H1
theorem pi_rangeL {tg a b : Expr} {ta : TA} {p pos : Pos} (hg : Gl X "range") (hm : X.mg "range" = none) (ha : PA X [a, b] ta) (hs : starEach [a, b] X.env = [(false, eval a X.env), (false, eval b X.env)] := by rfl) (hs2 : starEach [b] X.env = [(false, eval b X.env)] := by rfl) :
    PI X tg (.Call (.Name "range" p) [a, b] [] pos) (iRngL ta) := by
  refine ⟨fun pins s σ H R I h => ?_⟩
  refine PyProof.Rows.Call_ (ld_blt I hg hm PyProof.Rows.boot_range (PyProof.Rows.callWith_type1 (thn (ha.run pos pins s σ H _ I h) fun us s1 ⟨vs, H1, I1, r1, q1⟩ => ?_) (by rw [hs, hs2]) (by rw [hs2]; rfl)))
  obtain ⟨i, j, e, q⟩ := q1
  subst e
  cases r1 with
  | cons r rr =>
    cases rr with
    | cons r' rr =>
      cases rr
      obtain ⟨t, rfl⟩ := r
      obtain ⟨t', rfl⟩ := r'
      exact call_range_2 (range_itL I1 q)
theorem sw_rng {tg : Expr} {x : Str} {p : Pos} {fz : Bool} (hx : x = "range") (hgl : Gl X x) (hm : X.mg x = none) (hga : (e :: es).all good = true) (hn : n = (e :: es).length) (ha : PA X (e :: es) (LA NM X.K W n g)) (h3 : es.length < 2) : PI X tg (.Call (.Name x p) (e :: es) [] pos) (LW NM X.K W fz fun ρ k x => g ρ (fun ds => rngW ds k) x) := by
  subst hx
  have hg2 := Bool.and_eq_true_iff.mp (show (good e && es.all good) = true from hga)
  have sz : sizeLine = 16777216 := sizeLine_eq
  cases es with
  | nil =>
    refine pi_imp (pi_range1 hgl hm ha (starEach_good hg2.1)) fun σ H Q ⟨F, ρ, G, kd, kx, r, q, h1, h2⟩ => ⟨F, ρ, G, _, kx, r, q, fun vs G1 H1 ds x1 r1 l1 q1 => ?_, h2⟩
    unfold rngW at q1
    split at q1
    · cases r1 with
      | cons a b =>
        cases a
        cases b
        obtain ⟨⟨b1, b2⟩, q1⟩ := q1
        exact ⟨_, rfl, b1, by omega, h1 _ G1 H1 _ x1 wlk_rng (by simp [rangeD]; omega) q1⟩
    · have := r1.len
      rw [l1, hn] at this
      simp at this
    · exact q1.elim
  | cons e2 es =>
    cases es with
    | cons _ _ => exact absurd h3 (by simp)
    | nil =>
    have hg3 := Bool.and_eq_true_iff.mp (show (good e2 && true) = true from hg2.2)
    have s1 : starEach [e2] X.env = [(false, eval e2 X.env)] := starEach_good hg3.1
    refine pi_imp (pi_rangeL hgl hm ha (by rw [starEach_good hg2.1, s1]) s1) fun σ H Q ⟨F, ρ, G, kd, kx, r, q, h1, h2⟩ => ⟨F, ρ, G, _, kx, r, q, fun vs G1 H1 ds x1 r1 l1 q1 => ?_, h2⟩
    unfold rngW at q1
    split at q1
    · have := r1.len
      rw [l1, hn] at this
      simp at this
    · cases r1 with
      | cons a b =>
        cases a
        cases b with
        | cons a b =>
          cases a
          cases b
          obtain ⟨b5, q1⟩ := q1
          exact ⟨_, _, rfl, h1 _ G1 H1 _ x1 wlk_rng (by simp [rangeD]; omega) q1⟩
    · exact q1.elim
theorem wlk_zip {G0 : Hp} {a b : Addr} {xs ys : List V} {ds es : List D} {rl : Hp → Hp → Prop} (g0 : ∀ G H, rl G H → Same G0 G) (hs : ∀ G H, Same G H → rl G H → SqL X.K H a xs) (ht : ∀ G H, Same G H → rl G H → SqL X.K H b ys) (r : Reps NM X.K G0 xs ds) (r2 : Reps NM X.K G0 ys es) :
    Wlk NM X.K (Itz X.K a b) rl (List.zipWith (fun u v => .tup [u, v]) ds es) where
  go := fun i G H s q hi => by
    rw [List.length_zipWith] at hi
    obtain ⟨v, h1, h2⟩ := r.get (List.getElem?_eq_getElem (show i < ds.length by omega))
    obtain ⟨u, h3, h4⟩ := r2.get (List.getElem?_eq_getElem (show i < es.length by omega))
    refine ⟨⟨xs, ys, v, u, hs G H s q, ht G H s q, h1, h3⟩, fun x H' ⟨T, y, z, e1, e2, e3, e4, e5⟩ => ?_⟩
    subst e1 e3
    cases h1.symm.trans (e4 xs (hs G _ s q))
    cases h3.symm.trans (e5 ys (ht G _ s q))
    have m := (g0 G _ q).trans (same_upd (o := .tup [v, u]) (s.free e2))
    exact ⟨upd G T (.tup [v, u]), .tup [ds[i], es[i]], .new s e2 _, by simp [List.getElem?_zipWith, show i < ds.length by omega, show i < es.length by omega], .tup (.of upd_same) (by show 2 ≤ sizeLine; rw [sizeLine_eq]; decide) (.cons (h2.mono m) (.cons (h4.mono m) .nil))⟩
  stop := fun G H s q => by
    refine ⟨xs, ys, hs G H s q, ht G H s q, ?_⟩
    have := r.len
    have := r2.len
    rw [List.length_zipWith]
    omega
theorem wlk_zipT {G0 : Hp} {a b : Addr} {xs ys : List V} {ds es : List D} {rl : Hp → Hp → Prop} (g0 : ∀ G H, rl G H → Same G0 G) (hs : ∀ G H, Same G H → rl G H → SqT X.K H a xs) (ht : ∀ G H, Same G H → rl G H → SqT X.K H b ys) (r : Reps NM X.K G0 xs ds) (r2 : Reps NM X.K G0 ys es) :
    Wlk NM X.K (RZ.ItzT X.K a b) rl (List.zipWith (fun u v => .tup [u, v]) ds es) where
  go := fun i G H s q hi => by
    rw [List.length_zipWith] at hi
    obtain ⟨v, h1, h2⟩ := r.get (List.getElem?_eq_getElem (show i < ds.length by omega))
    obtain ⟨u, h3, h4⟩ := r2.get (List.getElem?_eq_getElem (show i < es.length by omega))
    refine ⟨⟨xs, ys, v, u, hs G H s q, ht G H s q, h1, h3⟩, fun x H' ⟨T, y, z, e1, e2, e3, e4, e5⟩ => ?_⟩
    subst e1 e3
    cases h1.symm.trans (e4 xs (hs G _ s q))
    cases h3.symm.trans (e5 ys (ht G _ s q))
    have m := (g0 G _ q).trans (same_upd (o := .tup [v, u]) (s.free e2))
    exact ⟨upd G T (.tup [v, u]), .tup [ds[i], es[i]], .new s e2 _, by simp [List.getElem?_zipWith, show i < ds.length by omega, show i < es.length by omega], .tup (.of upd_same) (by show 2 ≤ sizeLine; rw [sizeLine_eq]; decide) (.cons (h2.mono m) (.cons (h4.mono m) .nil))⟩
  stop := fun G H s q => by
    refine ⟨xs, ys, hs G H s q, ht G H s q, ?_⟩
    have := r.len
    have := r2.len
    rw [List.length_zipWith]
    omega
theorem sw_zip {x : Str} {p tp : Pos} {e2 : Expr} {ts : List Expr} {kk : Nat} {fz : Bool} (hx : x = "zip") (hgl : Gl X x) (hm : X.mg x = none) (hg : good e = true) (hg2 : good e2 = true) (ha : PE X e (LE NM X.K W fa)) (hb : PE X e2 (LE NM X.K W fb)) :
    PI X (.Tuple ts kk tp) (.Call (.Name x p) [e, e2] [] pos) (LW NM X.K W fz fun ρ k x => fa ρ (fun d => fb ρ (fun e => zipW d e k) x) x) := by
  subst hx
  refine pi_imp (RZ.pi_zipA hgl hm (sa_cons hg ha (sa_cons hg2 hb sa_nil)) (starEach_good hg) (starAny (es := [e2]) (by simp [hg2]))) fun σ H Q ⟨F, ρ, G, kd, kx, r, q, h1, h2⟩ =>
    ⟨F, ρ, G, fun ds => ∃ d e, ds = [d, e] ∧ zipW d e kd, kx, r, ?_, fun vs G1 H1 ds x1 r1 l1 ⟨d, e, z, q1⟩ => ?_, h2⟩
  · have e : ∀ d e : D, (∃ d' e', [d, e] = [d', e'] ∧ zipW d' e' kd) = zipW d e kd := fun d e => propext ⟨fun ⟨_, _, z, w⟩ => by cases z; exact w, fun w => ⟨_, _, rfl, w⟩⟩
    simp only [e]
    exact q
  · subst z
    cases r1 with
    | cons a b =>
      cases b with
      | cons b c =>
        cases c
        cases d <;> first | (cases e <;> exact q1.elim) | skip
        · cases e <;> first | exact q1.elim | skip
          cases a with
          | tup a1 a2 a3 =>
            cases b with
            | tup b1 b2 b3 =>
              refine ⟨_, _, _, _, rfl, .inr ⟨sqT_mono x1.sub a1, sqT_mono x1.sub b1, h1 _ G1 H1 _ x1 (wlk_zipT (G0 := G1) (fun _ _ z => z.1) (fun G H s z => sqT_mono s (sqT_mono z.1 a1)) (fun G H s z => sqT_mono s (sqT_mono z.1 b1)) a3 b3) ?_ q1⟩⟩
              rw [List.length_zipWith, ← a3.len]
              omega
        · cases e <;> first | exact q1.elim | skip
          cases a with
          | lst a1 a2 a3 =>
            cases b with
            | lst b1 b2 b3 =>
              refine ⟨_, _, _, _, rfl, .inl ⟨.of (x1.sub _ _ a1), .of (x1.sub _ _ b1), h1 _ G1 H1 _ x1 (wlk_zip (G0 := G1) (fun _ _ z => z.1) (fun G H s z => .of (s _ _ (z.1 _ _ a1))) (fun G H s z => .of (s _ _ (z.1 _ _ b1))) a3 b3) ?_ q1⟩⟩
              rw [List.length_zipWith, ← a3.len]
              omega
end
end Q
namespace Q
open PySem PySem.Spec L2
section
variable {X : Cx} {NM : Nam} {B : List Str} {Φ : List Cal} {Γ : List (Str × D)} {AT : List (Nat × Nat)} {W : WX} {a b c e : Expr} {fa fb fc : Wk} {pos : Pos} {n : Nat} {g : Ak} {es : List Expr}
theorem R.clear {K : PySem.W.Frag} {F : Fr} {G H : Hp} {ρ : Env} {σ : L2.St} (r : R NM K F ρ G σ H) (i : Nat) : R NM K F (ρ.set i .un) G (σ.set i none) H where
  len := by rw [List.length_set, List.length_set]; exact r.len
  sub := r.sub
  gg := r.gg
  keep := r.keep
  md := r.md
  sep := r.sep
  sl := fun j s o h1 h2 => by
    by_cases hj : i = j
    · subst hj
      have hl : i < ρ.length := by
        have := (List.getElem?_eq_some_iff.mp h1).1
        rw [List.length_set] at this
        exact this
      rw [List.getElem?_set_self hl] at h1
      cases h1
      trivial
    · rw [List.getElem?_set_ne hj] at h1 h2
      exact r.sl j s o h1 h2
  dis := fun j k s t o u a hjk h1 h2 h3 h4 h5 h6 => by
    have no : ∀ {m : Nat} {s : Sl} {o : Option V}, i = m → (ρ.set i .un)[m]? = some s → ownAt s o a → False := fun {m s o} e q z => by
      subst e
      have hl : i < ρ.length := by
        have := (List.getElem?_eq_some_iff.mp q).1
        rw [List.length_set] at this
        exact this
      rw [List.getElem?_set_self hl] at q
      cases q
      exact z.2
    by_cases ej : i = j
    · exact no ej h1 h5
    · by_cases ek : i = k
      · exact no ek h2 h6
      · rw [List.getElem?_set_ne ej] at h1 h3
        rw [List.getElem?_set_ne ek] at h2 h4
        exact r.dis j k s t o u a hjk h1 h2 h3 h4 h5 h6
theorem R.wipe {K : PySem.W.Frag} {F : Fr} {G H : Hp} {ρ : Env} {σ : L2.St} (r : R NM K F ρ G σ H) : ∀ vs : List Nat, R NM K F (wipeR ρ vs) G (L2.wipe σ vs) H
  | [] => r
  | v :: vs => (R.wipe r vs).clear v
def LTs (NM : Nam) (K : PySem.W.Frag) (W : WX) (f : Tk) : TT := LT NM K W f
theorem pts_imp {ifs : List Expr} {t t' : TT} (h : PTs X ifs t) (i : ∀ σ H Q, t' σ H Q → t σ H Q) : PTs X ifs t' := ⟨fun pins s σ H Q I q => h.run pins s σ H Q I (i _ _ _ q)⟩
theorem sts_nil : PTs X [] (LT NM X.K W fun _ k _ => k true) := pts_imp pts_nil fun σ H Q ⟨F, ρ, G, kd, kx, r, q, h1, h2⟩ => h1 true G H (.refl r.sub) q
theorem sts_one {c : Expr} {t : Tk} (h : PT X c (LT NM X.K W t)) : PTs X [c] (LT NM X.K W t) := pts_one h
abbrev W0 : WX := fun _ _ _ _ => False
theorem foldGood {iter : Expr} {env : PySem.Env} (h : good iter = true) : ∀ x, foldedSetIterable iter env x = pure x := by
  intro x
  cases iter <;> first | rfl | cases h
theorem lf_tlc {vs : List Nat} {fi : Ak} {fg : Gk} {ft : Tk} {fe : Wk} {σ : L2.St} {H : Hp} {Q : VK}
    (h : LF NM X.K W (fun ρ k x => fi ρ (fun ds => mapW (fun d kk => fg d (wipeR ρ vs) fun ρ' => ft ρ' (fun b => if b = true then fe ρ' (fun y => kk (some y)) (fun _ => False) else kk none) fun _ => False) ds fun ys => k (.lst ys)) x) σ H Q) :
    tLc (LW NM X.K W false fi) (LG NM X.K vs fg) (LT NM X.K W0 ft) (LE NM X.K W0 fe) vs σ H Q := by
  obtain ⟨F, ρ, G, kd, kx, r, q, h1, h2⟩ := h
  refine ⟨F, ρ, G, _, kx, r, q, fun J G1 H1 ds x1 wl hl q1 D hD => ?_, h2⟩
  have gD : G1 D = none := x1.sub.free hD
  refine ⟨fun i m Hc => ∃ Gc acc ad, m = ds.length - i ∧ i ≤ ds.length ∧ Ext G1 H1 Gc Hc ∧ Hc D = some (.lst acc) ∧ Gc D = none ∧ Reps NM X.K Gc acc ad ∧ acc.length ≤ i ∧
    mapW (fun d kk => fg d (wipeR ρ vs) fun ρ' => ft ρ' (fun b => if b = true then fe ρ' (fun y => kk (some y)) (fun _ => False) else kk none) fun _ => False) (ds.drop i) fun ys => kd (.lst (ad ++ ys)),
    ⟨ds.length, G1, [], [], by omega, Nat.zero_le _, .own x1.sub hD _, upd_same, gD, .nil, Nat.le_refl _, q1⟩, fun i m Hc ⟨Gc, acc, ad, em, ei, xc, eD, eG, ra, la, q2⟩ => ?_⟩
  have rl : Same G1 Gc ∧ (false = false → Same H1 Hc) ∧ ∀ b o, F.H_0 b = some o → ¬ F.M b → Hc b = some o := ⟨xc.gg, fun _ => xc.hh, ((r.ext x1).ext xc).keep⟩
  by_cases hi : i < ds.length
  · obtain ⟨j1, j2⟩ := wl.go i Gc Hc xc.sub rl hi
    have eg : ds.drop i = ds[i] :: ds.drop (i + 1) := List.drop_eq_getElem_cons hi
    rw [eg] at q2
    refine .inr ⟨j1, fun Hn => ∃ Gn accn adn, Ext G1 H1 Gn Hn ∧ Hn D = some (.lst accn) ∧ Gn D = none ∧ Reps NM X.K Gn accn adn ∧ accn.length ≤ i + 1 ∧
      mapW (fun d kk => fg d (wipeR ρ vs) fun ρ' => ft ρ' (fun b => if b = true then fe ρ' (fun y => kk (some y)) (fun _ => False) else kk none) fun _ => False) (ds.drop (i + 1)) fun ys => kd (.lst (adn ++ ys)), ?_, fun x H' hy => ?_⟩
    · rintro Hn ⟨Gn, accn, adn, a1, a2, a3, a4, a5, a6⟩
      exact ⟨ds.length - (i + 1), by omega, Gn, accn, adn, rfl, hi, a1, a2, a3, a4, a5, a6⟩
    · obtain ⟨G', d, x2, hd, rd⟩ := j2 x H' hy
      rw [List.getElem?_eq_getElem hi] at hd
      cases hd
      have r2 : R NM X.K F ρ G' σ H' := ((r.ext x1).ext xc).ext x2
      refine ⟨F, wipeR ρ vs, G', _, _, r2.wipe vs, rd, q2, fun σ2 ρ2 r3 df q3 => ⟨?_, F, ρ2, G', _, _, r3, q3, fun b G3 H3 x3 q4 => ?_, fun _ _ _ _ _ _ _ z => z⟩⟩
      · rw [df.wipe]
        apply List.ext_getElem?
        intro k
        by_cases hk : k ∈ vs
        · by_cases hl : k < σ.length
          · rw [wipe_in hk (by rw [wipe_length]; exact hl), wipe_in hk hl]
          · rw [List.getElem?_eq_none (by rw [wipe_length, wipe_length]; omega), List.getElem?_eq_none (by rw [wipe_length]; omega)]
        · rw [wipe_out hk]
      · have x4 := (xc.trans x2).trans x3
        have dD : H3 D = some (.lst acc) := (x2.trans x3).hh _ _ eD
        have dG : G3 D = none := (x2.trans x3).sep D (by rw [eD]; exact fun z => nomatch z) eG
        cases b with
        | false => exact iteF ⟨G3, acc, ad, x4, dD, dG, ra.mono ((x2.trans x3).gg), by omega, q4⟩
        | true =>
          refine iteT ⟨F, ρ2, G3, _, _, r3.ext x3, q4, fun y G5 H5 dy x5 r5 q5 => ?_, fun _ _ _ _ _ _ _ z => z⟩
          have x6 := x4.trans x5
          have fD : H5 D = some (.lst acc) := x5.hh _ _ dD
          have fG : G5 D = none := x5.sep D (by rw [dD]; exact fun z => nomatch z) dG
          refine ⟨acc, fD, by omega, G5, acc ++ [y], ad ++ [dy], ⟨fun b o z => ?_, x6.gg, fun b o z => ?_, x6.sep⟩, upd_same, fG, (ra.mono (((x2.trans x3).trans x5).gg)).app (.cons r5 .nil), by rw [List.length_append]; exact Nat.succ_le_succ la, ?_⟩
          · rw [upd_ne (ne_of_none z hD)]
            exact x6.hh b o z
          · rw [upd_ne (ne_of_none z fG)]
            exact x6.sub b o z
          · simp only [List.append_assoc, List.singleton_append]
            exact q5
  · have e : i = ds.length := by omega
    subst e
    rw [List.drop_length] at q2
    have q3 : kd (.lst (ad ++ [])) := q2
    rw [List.append_nil] at q3
    exact .inl ⟨wl.stop Gc Hc xc.sub rl, h1 D acc Gc Hc ad (x1.trans xc) eD eG (x1.hh.free hD) (by omega) ra q3⟩
theorem sf_comp (ok : Ok X NM B Φ Γ AT) {elt tg iter : Expr} {ifs : List Expr} {scope : Scope} {vs : List Nat} {fi : Ak} {fg : Gk} {ft : Tk} {fe : Wk} (hi : PI X tg iter (LW NM X.K W false fi)) (bk : BlkOk X.N X.env.scope scope (vs.map fun i => (X.N.getD i "", i)))
    (hg : ∀ (s : Shared) (H : Hp) (C : Addr) (cl : List (Str × Addr)) (fp : List Addr), PG (X.blk s H scope (compEnvC scope cl C X.env) fp) tg (LG NM X.K vs fg)) (ht : ∀ (s : Shared) (H : Hp) (C : Addr) (cl : List (Str × Addr)) (fp : List Addr), PTs (X.blk s H scope (compEnvC scope cl C X.env) fp) ifs (LT NM X.K W0 ft))
    (he : ∀ (s : Shared) (H : Hp) (C : Addr) (cl : List (Str × Addr)) (fp : List Addr), PE (X.blk s H scope (compEnvC scope cl C X.env) fp) elt (LE NM X.K W0 fe)) (hs : ∀ x, foldedSetIterable iter X.env x = pure x) :
    PE X (.ListComp elt [⟨tg, iter, ifs, 0⟩] scope pos) (LF NM X.K W fun ρ k x => fi ρ (fun ds => mapW (fun d kk => fg d (wipeR ρ vs) fun ρ' => ft ρ' (fun b => if b = true then fe ρ' (fun y => kk (some y)) (fun _ => False) else kk none) fun _ => False) ds fun ys => k (.lst ys)) x) := by
  have pe := pe_lc (pos := pos) ok.calm ok.nd hi bk hg ht he hs
  rw [show (vs.map fun i => (X.N.getD i "", i)).map (·.2) = vs by rw [List.map_map]; exact (List.map_congr_left fun _ _ => rfl).trans (List.map_id' vs)] at pe
  exact pe_imp pe fun σ H Q h => lf_tlc h
theorem ss_comp (ok : Ok X NM B Φ Γ AT) {i : Nat} {y : Str} {py spos : Pos} {elt tg iter : Expr} {ifs : List Expr} {scope : Scope} {vs : List Nat} {fi : Ak} {fg : Gk} {ft : Tk} {fe : Wk} (hy : X.N[i]? = some y) (hyl : X.env.scope.names.lookup y = some .local)
    (hsw : swapsWith (.ListComp elt [⟨tg, iter, ifs, 0⟩] scope pos) (some (.Name y py)) spos.line X.env = pure true) (hi : PI X tg iter (LW NM X.K W false fi)) (bk : BlkOk X.N X.env.scope scope (vs.map fun i => (X.N.getD i "", i)))
    (hg : ∀ (s : Shared) (H : Hp) (C : Addr) (cl : List (Str × Addr)) (fp : List Addr), PG (X.blk s H scope (compEnvC scope cl C X.env) fp) tg (LG NM X.K vs fg)) (ht : ∀ (s : Shared) (H : Hp) (C : Addr) (cl : List (Str × Addr)) (fp : List Addr), PTs (X.blk s H scope (compEnvC scope cl C X.env) fp) ifs (LT NM X.K W0 ft))
    (he : ∀ (s : Shared) (H : Hp) (C : Addr) (cl : List (Str × Addr)) (fp : List Addr), PE (X.blk s H scope (compEnvC scope cl C X.env) fp) elt (LE NM X.K W0 fe)) (hs : ∀ x, foldedSetIterable iter X.env x = pure x) :
    PS X (.Assign [.Name y py] (.ListComp elt [⟨tg, iter, ifs, 0⟩] scope pos) spos) (tAsg (LF NM X.K W fun ρ k x => fi ρ (fun ds => mapW (fun d kk => fg d (wipeR ρ vs) fun ρ' => ft ρ' (fun b => if b = true then fe ρ' (fun y => kk (some y)) (fun _ => False) else kk none) fun _ => False) ds fun ys => k (.lst ys)) x) (gName i)) := by
  have ps := ps_setLc (pos := pos) (py := py) (spos := spos) ok.calm ok.nd hy hyl hsw hi bk hg ht he hs
  rw [show (vs.map fun i => (X.N.getD i "", i)).map (·.2) = vs by rw [List.map_map]; exact (List.map_congr_left fun _ _ => rfl).trans (List.map_id' vs)] at ps
  exact ⟨fun pins s σ H D I h => ps.run pins s σ H D I (lf_tlc h)⟩
theorem toB {N : List Str} {i : E} (h : i.noB = true → PE X e (LE NM X.K W (wpE NM AT Φ Γ i))) (hc : chE NM X.N B Φ Γ i X.env.scope e = true) : PE X e (LB NM X.K W (wpE NM AT Φ Γ i)) := by
  cases i <;> first | exact le_lb (h rfl) | skip
  unfold chE at hc
  split at hc
  · rename_i x hx
    obtain ⟨p, rfl⟩ := asName_eq hx
    exact se_brw (varB_pv hc rfl rfl)
  · cases hc
theorem band {x y : Bool} (h : (x && y) = true) : x = true ∧ y = true := Bool.and_eq_true_iff.mp h
theorem freB_ok {sc : Scope} {x : Str} (h : freB B sc x = true) (hs : X.env.scope = sc) (ok : Ok X NM B Φ Γ AT) (hi : x ≠ "isqrt!") : Gl X x ∧ (x == ("__debug__" : Str)) = false ∧ X.mg x = none ∧ x ≠ "__name__" := by
  obtain ⟨h, h3⟩ := band h
  obtain ⟨h1, h2⟩ := band h
  obtain ⟨a, b⟩ := gloB_gl h1 hs
  refine ⟨a, b, ok.fre x (of_decide_eq_true h2) hi, fun z => ?_⟩
  subst z
  simp at h3
theorem bltN_ne : ∀ b : Blt, bltN b ≠ "isqrt!" := by
  intro b
  cases b <;> decide +kernel
theorem tyN_ok : ∀ {x : Str} {n : String}, tyN.lookup x = some n → bootBuiltins x = some (.type n) ∧ x ≠ "isqrt!" := by
  intro x n h
  have : ∀ p ∈ tyN, bootBuiltins p.1 = some (.type p.2) ∧ p.1 ≠ "isqrt!" := by decide +kernel
  have m : (x, n) ∈ tyN := PySem.mem_of_lookup h
  exact this _ m
end
end Q
namespace Q
open PySem PySem.Spec L2
open PyProof.Rows
theorem meets_enumerate_newT (l : Addr) (items : Array Value) :
    Meets (Builtin.«enumerate.__new__» ⟨[.type "enumerate", .ref l], []⟩) (fun _ R s => Heap.IsTuple s.heap l items ∧
      R (.ok (.ret (.ref (s.heap.push { cls := .type "tuple_iterator", data := .fields #[.ref l, .int 0 0] }).objs.size)))
        { s with heap := (s.heap.push { cls := .type "tuple_iterator", data := .fields #[.ref l, .int 0 0] }).push { cls := .type "enumerate", data := .fields #[.none, .bool false, .ref s.heap.objs.size, rawInt 0, .none, .none] } }) :=
  .of_wp fun prog w A R s h => by
    obtain ⟨hp, g, d, tk, os⟩ := s; obtain ⟨hL, h⟩ := h
    have hsub := sub_enumerate
    obtain ⟨o, hl, hc, n, hd⟩ := id hL
    wp_walk using wpAny_loadPart' hl
    refine wpAny_stack_any fun st => wpAny_pure ?_
    split
    · rename_i c _ _ _ _ _
      cases (c == Value.type "enumerate")
      · wp_walk using wpAny_loadPart' hl, wpAny_pyIter_tuple hL
        exact ⟨_, rfl, h⟩
      · wp_walk using wpAny_loadPart' hl, wpAny_pyIter_tuple hL
        exact ⟨_, rfl, h⟩
    · wp_walk using wpAny_loadPart' hl, wpAny_pyIter_tuple hL
      exact ⟨_, rfl, h⟩
section
variable {prog : Program} {w : World} {A : Around} {E : Value → Shared → Prop} {s : Shared}
theorem call_enumerate_tuple {l : Addr} {items : Array Value} {Q : Value → Shared → Prop} (hL : s.heap.IsTuple l items)
    (h : ∀ h', IsEnum h' (s.heap.objs.size + 1) s.heap.objs.size 0 .none → h'.IsTupleIter s.heap.objs.size l 0 → h'.objs.size = s.heap.objs.size + 2 →
      (∀ b o, s.heap.get? b = some o → h'.get? b = some o) → Q (.ref (s.heap.objs.size + 1)) { s with heap := h' }) :
    wpAny (model prog w) A (call (.type "enumerate") [.ref l]) Q E s := by
  refine callType_new F.called_enumerate (by decide) (F.typeCall_enumerate_1 _) (F.newCall_enumerate_1 _) (fun obj => F.args_object_init_2 obj _) F.entry_enumerate_new
    (meets_enumerate_newT l items) ⟨hL, ?_⟩
  have hz : (s.heap.push { cls := .type "tuple_iterator", data := .fields #[.ref l, .int 0 0] }).objs.size = s.heap.objs.size + 1 := Heap.size_push ..
  show _ ∧ _
  rw [hz]
  have he : IsEnum ((s.heap.push { cls := .type "tuple_iterator", data := .fields #[.ref l, .int 0 0] }).push
      { cls := .type "enumerate", data := .fields #[.none, .bool false, .ref s.heap.objs.size, rawInt 0, .none, .none] }) (s.heap.objs.size + 1) s.heap.objs.size 0 .none := by
    have := Heap.get?_push_size (s.heap.push { cls := .type "tuple_iterator", data := .fields #[.ref l, .int 0 0] })
      (o := { cls := .type "enumerate", data := .fields #[.none, .bool false, .ref s.heap.objs.size, rawInt 0, .none, .none] }) rfl
    rw [hz] at this; exact this
  refine ⟨⟨_, he, rfl⟩, h _ he ⟨_, Heap.get?_push_of_some _ (Heap.get?_push_size _ rfl), rfl, rfl⟩ (by rw [Heap.size_push, hz]) fun b o x => Heap.get?_push_of_some _ (Heap.get?_push_of_some _ x)⟩
end
def IteT (K : PySem.W.Frag) (a : Addr) : L2.It :=
  ⟨fun i H => ∃ (xs : List V) (x : V), SqT K H a xs ∧ xs[i]? = some x, fun i H v H' => ∃ T x, v = .ref T ∧ H T = none ∧ H' = upd H T (.tup [.int (i : Nat), x]) ∧ ∀ xs, SqT K H a xs → xs[i]? = some x, fun i H => ∃ xs : List V, SqT K H a xs ∧ xs.length = i⟩
theorem turn_enumT {P : Program} {w : World} {K : PySem.W.Frag} {elts : List Expr} {kk : Nat} {tpos : Pos} (a e it : Addr) (hia : a ≠ it) :
    Turn P w K (.Tuple elts kk tpos) (IteT K a) [e, it] e (fun i h => (∃ old, IsEnum h e it ((i : Nat) : Int) old) ∧ h.IsTupleIter it a i ∧ e ≠ it ∧ e ≠ a) where
  mem := by simp
  obj := fun i h st b hb => by
    obtain ⟨⟨old, he⟩, ⟨o, ho, hc, hd⟩, _⟩ := st
    have e' : b = e ∨ b = it := by simpa using hb
    rcases e' with z | z
    · rw [z]; exact ⟨_, he, fun v q => nomatch q⟩
    · rw [z]; exact ⟨o, ho, fun v q => by rw [hd] at q; cases q⟩
  keep := fun i h h' st k => let ⟨⟨old, he⟩, hi, hne⟩ := st; ⟨⟨old, k e (by simp) _ he⟩, hi.at fun o q => k it (by simp) o q, hne⟩
  item := by
    intro X hP hw hK hc i pins s σ H E I hf st hg
    subst hP hw hK
    obtain ⟨⟨old, he⟩, hit, hne, hea⟩ := st
    obtain ⟨xs, x, hq, hx⟩ := hg
    obtain ⟨its, rv, p, hz⟩ := I.tuple hq
    obtain ⟨u, hu, ru⟩ := rv.get hx
    have hel : e < s.heap.objs.size := Heap.lt_size he
    have hil : it < s.heap.objs.size := by obtain ⟨_, q, _⟩ := hit; exact Heap.lt_size q
    have hlt : i < its.toArray.size := by
      rw [List.size_toArray]
      exact (List.getElem?_eq_some_iff.mp hu).1
    refine wpAny_pyNext_enum_itemD (Draws.tuple (A := X.A.in1) (show X.A.in1.handled = none from I.ok.hd hc) it a hia its.toArray) he (show s.heap.IsTupleIter it a i ∧ s.heap.IsTuple a its.toArray from ⟨hit, p⟩) hlt hne (by simp [hne, hea]) fun x' h' tk hPx ho hit' hT hsz hk => ?_
    refine ⟨_, rfl, wpAny_letOwnedTupleGo_enum (s := { s with heap := h', toks := tk + 1 }) ho fun h'' he' sb => ?_⟩
    have eu : x' = u := by
      have h1 : its.toArray[i]? = some x' := hPx
      have h2 : its.toArray[i]? = some u := by simpa using hu
      rw [h2] at h1
      exact (Option.some.inj h1).symm
    subst eu
    have hT2 : h''.get? s.heap.objs.size = some { cls := .type "tuple", data := .seq #[.int i tk, x'] } := (sb.2 _ (Nat.ne_of_gt hel)).trans hT
    have new : ObjOk X.prog X.w (upd H s.heap.objs.size (.tup [.int (i : Nat), x])) h'' s.heap.objs.size (.tup [.int (i : Nat), x]) :=
      ⟨by show 2 ≤ sizeLine; decide, [.int i tk, x'], .cons ⟨_, rfl⟩ (.cons ru .nil), ⟨_, hT2, rfl, _, rfl⟩⟩
    have I1 : Inv X pins σ (upd H s.heap.objs.size (.tup [.int (i : Nat), x])) { s with heap := h'', toks := tk + 1 } :=
      I.turnedNew (ch := [e, it]) (fun b ob hb q => (sb.2 b (fun z => hb (by simp [z]))).trans (hk b ob (fun z => hb (by simp [z])) (fun z => hb (by simp [z])) q)) hf (Nat.le_refl _) new
    refine ⟨.ref s.heap.objs.size, _, I1, rfl, ⟨_, x, rfl, I.hok.fresh (Nat.le_refl _), rfl, fun ys hy => by rw [I.tuple_inj hy hq]; exact hx⟩, ⟨⟨x', ?_⟩, hit'.1.at fun o q => (sb.2 it (Ne.symm hne)).trans q, hne, hea⟩, fun b hb => ?_⟩
    · have e1 : ((i + 1 : Nat) : Int) = (i : Int) + 1 := by omega
      rw [e1]; exact he'
    · have hb' : b < s.heap.objs.size := by
        have e' : b = e ∨ b = it := by simpa using hb
        rcases e' with z | z
        · rw [z]; exact hel
        · rw [z]; exact hil
      rw [upd_ne (Nat.ne_of_lt hb')]
      exact (hf b hb).1
  done := by
    intro X hP hw hK hc i pins s σ H E I hf st hg
    subst hP hw hK
    obtain ⟨⟨old, he⟩, hit, hne, hea⟩ := st
    obtain ⟨xs, hq, hx⟩ := hg
    obtain ⟨its, rv, p, hz⟩ := I.tuple hq
    obtain ⟨f0, f1, f2, f3, f4, f5⟩ := hf it (by simp)
    have hl := rv.length
    have hi : i = its.toArray.size := by rw [List.size_toArray]; omega
    subst hi
    exact wpAny_pyNext_enum_endD (Draws.tuple (A := X.A.in1) (show X.A.in1.handled = none from I.ok.hd hc) it a hia its.toArray) he (show s.heap.IsTupleIter it a its.toArray.size ∧ s.heap.IsTuple a its.toArray from ⟨hit, p⟩) fun h' eb => ⟨rfl, I.turned (t' := s.toks) (fun b o hb q => eb b o hb q) f0 f1 f3 f4 f5⟩
  self := fun A i s Q E st h => let ⟨⟨_, he⟩, _⟩ := st; wpAny_pyIter_enum he h
def iEnumT (K : PySem.W.Frag) (ta : TA) : TI := fun σ H R => ta σ H fun vs H1 => ∃ a xs, vs = [.ref a] ∧ ((SqL K H1 a xs ∧ R (Ite K a) H1) ∨ (SqT K H1 a xs ∧ R (IteT K a) H1))
theorem pi_enumT {X : Cx} {e : Expr} {ta : TA} {p pos tpos : Pos} {elts : List Expr} {kk : Nat} (hg : Gl X "enumerate") (hm : X.mg "enumerate" = none) (ha : PA X [e] ta) (hs : starEach [e] X.env = [(false, eval e X.env)] := by rfl) :
    PI X (.Tuple elts kk tpos) (.Call (.Name "enumerate" p) [e] [] pos) (iEnumT X.K ta) := by
  refine ⟨fun pins s σ H R I h => ?_⟩
  refine Call_ (ld_blt I hg hm boot_enumerate (PyProof.Rows.callWith_type1 (thn (ha.run pos pins s σ H _ I h) fun us s1 ⟨vs, H1, I1, r1, q1⟩ => ?_) hs rfl))
  obtain ⟨a, xs, ex, q⟩ := q1
  subst ex
  cases r1 with
  | cons r rr =>
    cases rr
    cases r
    have fp : ∀ b, b ∈ [s1.heap.objs.size + 1, s1.heap.objs.size] → s1.heap.objs.size ≤ b := fun b hb => by
      have e' : b = s1.heap.objs.size + 1 ∨ b = s1.heap.objs.size := by simpa using hb
      rcases e' with z | z
      · rw [z]; exact Nat.le_add_right _ _
      · rw [z]; exact Nat.le_refl _
    rcases q with ⟨hq, q⟩ | ⟨hq, q⟩
    · obtain ⟨its, rv, p', hz⟩ := I1.list hq
      refine call_enumerate_list p'.isList fun h' he hit hsz hk => wpAny_pyIter_enum he ?_
      have I2 : Inv X pins σ H1 { s1 with heap := h' } := I1.kept (t' := s1.toks) hk
      exact ⟨s1.heap.objs.size + 1, [s1.heap.objs.size + 1, s1.heap.objs.size], _, _, H1, rfl, I2, turn_enum a (s1.heap.objs.size + 1) s1.heap.objs.size, ⟨⟨.none, he⟩, hit, Nat.succ_ne_self _⟩, fun b hb => I1.fpOk (fp b hb) (I1.hok.fresh (fp b hb)), q⟩
    · obtain ⟨its, rv, p', hz⟩ := I1.tuple hq
      have hal : a < s1.heap.objs.size := by obtain ⟨_, q, _⟩ := p'; exact Heap.lt_size q
      refine call_enumerate_tuple p' fun h' he hit hsz hk => wpAny_pyIter_enum he ?_
      have I2 : Inv X pins σ H1 { s1 with heap := h' } := I1.kept (t' := s1.toks) hk
      exact ⟨s1.heap.objs.size + 1, [s1.heap.objs.size + 1, s1.heap.objs.size], _, _, H1, rfl, I2, turn_enumT a (s1.heap.objs.size + 1) s1.heap.objs.size (Nat.ne_of_lt hal), ⟨⟨.none, he⟩, hit, Nat.succ_ne_self _, Nat.ne_of_gt (Nat.lt_succ_of_lt hal)⟩, fun b hb => I1.fpOk (fp b hb) (I1.hok.fresh (fp b hb)), q⟩
end Q
namespace Q
open PySem PySem.Spec L2
section
variable {α : Type} {le : α → α → Bool}
theorem insB_perm (x : α) : ∀ l : List α, (insB le x l).Perm (x :: l)
  | [] => .refl _
  | y :: r => by
    unfold insB
    by_cases h : le x y = true
    · rw [if_pos h]
    · rw [if_neg h]
      exact ((insB_perm x r).cons y).trans (.swap x y r)
theorem sortB_perm : ∀ l : List α, (sortB le l).Perm l
  | [] => .refl _
  | x :: r => (insB_perm x _).trans ((sortB_perm r).cons x)
theorem insB_srt (tot : ∀ a b, le a b = true ∨ le b a = true) (tr : ∀ a b c, le a b = true → le b c = true → le a c = true) (x : α) : ∀ {l : List α}, l.Pairwise (fun a b => le a b = true) → (insB le x l).Pairwise (fun a b => le a b = true)
  | [], _ => by unfold insB; exact List.pairwise_cons.mpr ⟨fun _ h => (nomatch h), .nil⟩
  | y :: r, h => by
    obtain ⟨h1, h2⟩ := List.pairwise_cons.mp h
    unfold insB
    by_cases q : le x y = true
    · rw [if_pos q]
      refine List.pairwise_cons.mpr ⟨fun z hz => ?_, h⟩
      rcases List.mem_cons.mp hz with rfl | hz
      · exact q
      · exact tr _ _ _ q (h1 z hz)
    · rw [if_neg q]
      refine List.pairwise_cons.mpr ⟨fun z hz => ?_, insB_srt tot tr x h2⟩
      rcases List.mem_cons.mp ((insB_perm x r).mem_iff.mp hz) with rfl | hz
      · exact (tot _ _).resolve_left q
      · exact h1 z hz
theorem sortB_srt (tot : ∀ a b, le a b = true ∨ le b a = true) (tr : ∀ a b c, le a b = true → le b c = true → le a c = true) : ∀ l : List α, (sortB le l).Pairwise (fun a b => le a b = true)
  | [] => .nil
  | x :: r => insB_srt tot tr x (sortB_srt tot tr r)
theorem srt_uniq (anti : ∀ a b, le a b = true → le b a = true → a = b) : ∀ {l m : List α}, l.Pairwise (fun a b => le a b = true) → m.Pairwise (fun a b => le a b = true) → l.Perm m → l = m
  | [], m, _, _, h => (List.Perm.eq_nil h.symm).symm
  | x :: l, [], _, _, h => absurd h.length_eq (by simp)
  | x :: l, y :: m, hl, hm, h => by
    obtain ⟨l1, l2⟩ := List.pairwise_cons.mp hl
    obtain ⟨m1, m2⟩ := List.pairwise_cons.mp hm
    have e : x = y := by
      rcases List.mem_cons.mp (h.mem_iff.mp (List.mem_cons_self (a := x) (l := l))) with z | hx
      · exact z
      · rcases List.mem_cons.mp (h.mem_iff.mpr (List.mem_cons_self (a := y) (l := m))) with z | hy
        · exact z.symm
        · exact anti _ _ (l1 y hy) (m1 x hx)
    subst e
    rw [srt_uniq anti l2 m2 h.cons_inv]
theorem sortB_is (tot : ∀ a b, le a b = true ∨ le b a = true) (tr : ∀ a b c, le a b = true → le b c = true → le a c = true) (anti : ∀ a b, le a b = true → le b a = true → a = b) {l m : List α} (h : m.Perm l) (hs : m.Pairwise (fun a b => le a b = true)) : m = sortB le l :=
  srt_uniq anti hs (sortB_srt tot tr l) (h.trans (sortB_perm l).symm)
end
theorem leI_tot : ∀ a b, leI a b = true ∨ leI b a = true := fun a b => by simp only [leI, decide_eq_true_eq]; omega
theorem leI_tr : ∀ a b c, leI a b = true → leI b c = true → leI a c = true := fun a b c => by simp only [leI, decide_eq_true_eq]; omega
theorem leI_anti : ∀ a b, leI a b = true → leI b a = true → a = b := fun a b => by simp only [leI, decide_eq_true_eq]; omega
theorem leP_tot : ∀ a b, leP a b = true ∨ leP b a = true := fun a b => by simp only [leP, decide_eq_true_eq]; omega
theorem leP_tr : ∀ a b c, leP a b = true → leP b c = true → leP a c = true := fun a b c => by simp only [leP, decide_eq_true_eq]; omega
theorem leP_anti : ∀ a b, leP a b = true → leP b a = true → a = b := fun a b h g => by
  simp only [leP, decide_eq_true_eq] at h g
  exact Prod.ext (by omega) (by omega)
section
variable {X : Cx} {NM : Nam} {B : List Str} {Φ : List Cal} {Γ : List (Str × D)} {AT : List (Nat × Nat)} {W : WX} {a b c e : Expr} {fa fb fc : Wk} {pos : Pos}
def LR1 (NM : Nam) (K : PySem.W.Frag) (w : D → (D → Prop) → Prop) : List V → Hp → VK → Prop := fun vs H Q => ∃ x G d kd, vs = [x] ∧ Same G H ∧ RepB NM K G H x d ∧ w d kd ∧ ∀ v G' H' r, Ext G H G' H' → Rep NM K G' v r → kd r → Q v H'
theorem reps_ints' {G : Hp} : ∀ {vs : List V} {ns : List Int}, Reps NM X.K G vs (ns.map D.int) → vs = ns.map V.int
  | _, [], .nil => rfl
  | _, n :: ns, .cons h r => by
    cases h
    rw [reps_ints' r]
    rfl
theorem prs_eq : ∀ {ds : List D} {ps : List (Int × Int)}, prs? ds = some ps → ds = ps.map prD := by
  intro ds
  induction ds with
  | nil => intro ps h; cases h; rfl
  | cons d r ih =>
    intro ps h
    unfold prs? at h
    split at h
    · rename_i q
      cases q
    · rename_i i j r' q
      cases q
      split at h
      · rename_i l hl
        cases h
        rw [ih hl]
        rfl
      · cases h
    · cases h
theorem strs_eq : ∀ {ds : List D} {ps : List Str}, strs? ds = some ps → ds = ps.map D.str := by
  intro ds
  induction ds with
  | nil => intro ps h; cases h; rfl
  | cons d r ih =>
    intro ps h
    unfold strs? at h
    split at h
    · rename_i q
      cases q
    · rename_i i r' q
      cases q
      split at h
      · rename_i l hl
        cases h
        rw [ih hl]
        rfl
      · cases h
    · cases h
theorem reps_strs {G : Hp} : ∀ {vs : List V} {ns : List Str}, Reps NM X.K G vs (ns.map D.str) → vs = ns.map V.str
  | _, [], .nil => rfl
  | _, n :: ns, .cons h r => by
    cases h
    rw [reps_strs r]
    rfl
theorem strs_reps {G : Hp} : ∀ {ns : List Str}, Reps NM X.K G (ns.map V.str) (ns.map D.str)
  | [] => .nil
  | _ :: _ => .cons (.str _) strs_reps
theorem cs_I : CallR X (.builtin "sorted") (LR1 NM X.K (op1W .sortI)) := by
  intro pins s σ H vs us Q I r ⟨x, G, d, kd, ev, sub, hd, w, q⟩
  subst ev
  cases d <;> first | exact w.elim | skip
  rename_i xs
  obtain ⟨a, ys, rfl, h1, h2, h3⟩ := hd.lst sub
  simp only [op1W] at w
  cases z : ints? xs with
  | none => rw [z] at w; exact w.elim
  | some ns =>
    rw [z] at w
    rw [ints_map z] at h3
    have ey := reps_ints' h3
    subst ey
    refine cr_sortedI pins s σ H _ us Q I r ⟨a, ns, rfl, .of h1, fun ns' p hp hs hn => ?_⟩
    have en : ns' = sortB leI ns := sortB_is leI_tot leI_tr leI_anti hp (hs.imp fun h => by simpa only [leI, decide_eq_true_eq] using h)
    subst en
    refine q (.ref p) (upd G p (.lst ((sortB leI ns).map V.int))) _ _ (.new sub hn _) (.lst upd_same ?_ .ints) w
    rw [List.length_map] at h2 ⊢
    rw [hp.length_eq]
    exact h2
theorem leS_tot : ∀ a b, leS a b = true ∨ leS b a = true := fun a b => by
  simp only [leS, Bool.not_eq_true', decide_eq_false_iff_not]
  exact List.le_total a.cps.toList b.cps.toList
theorem leS_tr : ∀ a b c, leS a b = true → leS b c = true → leS a c = true := fun a b c => by
  simp only [leS, Bool.not_eq_true', decide_eq_false_iff_not]
  exact fun h g => List.le_trans (show a.cps.toList ≤ b.cps.toList from h) (show b.cps.toList ≤ c.cps.toList from g)
theorem leS_anti : ∀ a b, leS a b = true → leS b a = true → a = b := fun a b => by
  simp only [leS, Bool.not_eq_true', decide_eq_false_iff_not]
  intro h g
  have e : a.cps.toList = b.cps.toList := List.le_antisymm (show a.cps.toList ≤ b.cps.toList from h) (show b.cps.toList ≤ a.cps.toList from g)
  obtain ⟨⟨x⟩⟩ := a
  obtain ⟨⟨y⟩⟩ := b
  have e' : x = y := e
  rw [e']
theorem srtS : ∀ {l : List Str} {p : Str}, PyProof.Rows.risingS p l = true → (p :: l).Pairwise (fun a b => leS a b = true)
  | [], p, _ => List.pairwise_cons.mpr ⟨fun _ h => (nomatch h), .nil⟩
  | x :: r, p, h => by
    unfold PyProof.Rows.risingS at h
    obtain ⟨h1, h2⟩ := band h
    have ih := srtS h2
    have h3 : leS p x = true := by
      unfold leS
      rw [PyProof.Rows.lt_meets]
      exact h1
    refine List.pairwise_cons.mpr ⟨fun z hz => ?_, ih⟩
    rcases List.mem_cons.mp hz with rfl | hz
    · exact h3
    · exact leS_tr _ _ _ h3 ((List.pairwise_cons.mp ih).1 z hz)
theorem cs_S : CallR X (.builtin "sorted") (LR1 NM X.K (op1W .sortS)) := by
  intro pins s σ H vs us Q I r ⟨x, G, d, kd, ev, sub, hd, w, q⟩
  subst ev
  cases d <;> first | exact w.elim | skip
  rename_i xs
  obtain ⟨a, ys, rfl, h1, h2, h3⟩ := hd.lst sub
  simp only [op1W] at w
  cases z : strs? xs with
  | none => rw [z] at w; exact w.elim
  | some ns =>
    rw [z] at w
    rw [strs_eq z] at h3
    have ey := reps_strs h3
    subst ey
    refine cr_sortedS pins s σ H _ us Q I r ⟨a, ns, rfl, .of h1, w.1, fun ns' p hp hs hn => ?_⟩
    have en : ns' = sortB leS ns := sortB_is leS_tot leS_tr leS_anti hp (by
      cases ns' with
      | nil => exact .nil
      | cons y l => exact srtS hs)
    subst en
    refine q (.ref p) (upd G p (.lst ((sortB leS ns).map V.str))) _ _ (.new sub hn _) (.lst upd_same ?_ strs_reps) w.2
    rw [List.length_map] at h2 ⊢
    rw [hp.length_eq]
    exact h2
noncomputable def kOf (f : V → Option (Int × Int)) (u : Value) : Int × Int := (f (backV u)).getD (0, 0)
theorem rep_pair {G : Hp} {v : V} {p : Int × Int} (h : Rep NM X.K G v (prD p)) : ∃ t, v = .ref t ∧ SqT X.K G t [.int p.1, .int p.2] := by
  cases h with
  | tup h1 h2 h3 =>
    cases h3 with
    | cons a r =>
      cases r with
      | cons b r =>
        cases r
        cases a
        cases b
        exact ⟨_, rfl, h1⟩
theorem is_pair {pins : List (Addr × Obj)} {s : Shared} {σ : L2.St} {H : Hp} (I : L2.Inv X pins σ H s) {t : Addr} {p : Int × Int} (h : SqT X.K H t [.int p.1, .int p.2]) : Srt.IsPair s.heap (.ref t) p.1 p.2 := by
  obtain ⟨its, rv, ⟨o, ho, hc, n, hd⟩, _⟩ := I.tuple h
  cases rv with
  | cons a rv =>
    cases rv with
    | cons b rv =>
      cases rv
      obtain ⟨t1, rfl⟩ := a
      obtain ⟨t2, rfl⟩ := b
      exact ⟨t, o, t1, t2, n, rfl, ho, hc, hd⟩
theorem perm_reps {G : Hp} : ∀ {ys : List V} {vs : List V} {ps : List (Int × Int)} (k : V → Int × Int), (∀ y p, y ∈ vs → Rep NM X.K G y (prD p) → k y = p) → Reps NM X.K G vs (ps.map prD) → ys.Perm vs → (ys.map k).Perm ps ∧ Reps NM X.K G ys ((ys.map k).map prD) := by
  intro ys vs ps k hk hr hp
  have e : ∀ {l : List V} {qs : List (Int × Int)}, (∀ y ∈ l, y ∈ vs) → Reps NM X.K G l (qs.map prD) → l.map k = qs := by
    intro l
    induction l with
    | nil => intro qs _ h; cases qs with | nil => rfl | cons _ _ => cases h
    | cons y l ih =>
      intro qs hm h
      cases qs with
      | nil => cases h
      | cons q qs =>
        cases h with
        | cons h1 h2 => rw [List.map_cons, hk y q (hm y List.mem_cons_self) h1, ih (fun z hz => hm z (List.mem_cons_of_mem _ hz)) h2]
  have ev := e (fun _ h => h) hr
  refine ⟨ev ▸ hp.map k, ?_⟩
  have each : ∀ y ∈ ys, Rep NM X.K G y (prD (k y)) := fun y hy => by
    obtain ⟨i, hi, rfl⟩ := List.mem_iff_getElem.mp (hp.mem_iff.mp hy)
    have hl := hr.len
    rw [List.length_map] at hl
    have hi2 : (ps.map prD)[i]? = some (prD ps[i]) := by rw [List.getElem?_map, List.getElem?_eq_getElem]; rfl
    obtain ⟨v, h1, h2⟩ := hr.get hi2
    rw [List.getElem?_eq_getElem hi] at h1
    cases h1
    rw [hk _ _ (List.getElem_mem hi) h2]
    exact h2
  clear ev hp e
  induction ys with
  | nil => exact .nil
  | cons y l ih => exact .cons (each y List.mem_cons_self) (ih fun z hz => each z (List.mem_cons_of_mem _ hz))
open Classical in
theorem cs_P : CallR X (.builtin "sorted") (LR1 NM X.K (op1W .sortP)) := by
  intro pins s σ H vs us Q I r ⟨x, G, d, kd, ev, sub, hd, w, q⟩
  subst ev
  cases d <;> first | exact w.elim | skip
  rename_i xs
  obtain ⟨a, ys, rfl, h1, h2, h3⟩ := hd.lst sub
  simp only [op1W] at w
  cases z : prs? xs with
  | none => rw [z] at w; exact w.elim
  | some ps =>
    rw [z] at w
    rw [prs_eq z] at h3
    -- the pair of each item
    let k : V → Int × Int := fun v => if h : ∃ p, Rep NM X.K G v (prD p) then Classical.choose h else (0, 0)
    have hk : ∀ y p, Rep NM X.K G y (prD p) → k y = p := fun y p hp => by
      have ex : ∃ p, Rep NM X.K G y (prD p) := ⟨p, hp⟩
      show (if h : ∃ p, Rep NM X.K G y (prD p) then Classical.choose h else (0, 0)) = p
      rw [dif_pos ex]
      obtain ⟨t, e1, s1⟩ := rep_pair hp
      obtain ⟨t2, e2, s2⟩ := rep_pair (Classical.choose_spec ex)
      cases e1.symm.trans e2
      have := I.tuple_inj (sqT_mono sub s1) (sqT_mono sub s2)
      simp only [List.cons.injEq, V.int.injEq, and_true] at this
      exact (Prod.ext this.1 this.2).symm
    have hmem : ∀ y ∈ ys, ∃ p, Rep NM X.K G y (prD p) := fun y hy => by
      obtain ⟨i, hi, rfl⟩ := List.mem_iff_getElem.mp hy
      have hl := h3.len
      rw [List.length_map] at hl
      have hi2 : (ps.map prD)[i]? = some (prD ps[i]) := by rw [List.getElem?_map, List.getElem?_eq_getElem]; rfl
      obtain ⟨v, g1, g2⟩ := h3.get hi2
      rw [List.getElem?_eq_getElem hi] at g1
      cases g1
      exact ⟨_, g2⟩
    obtain ⟨its, rv, hl, hz⟩ := I.list (SqL.of h1)
    obtain ⟨u, rfl, ru⟩ := vals1 r
    cases ru
    obtain ⟨e1, e2⟩ := refs_back rv fun y hy => by
      obtain ⟨p, hp⟩ := hmem y hy
      obtain ⟨t, et, _⟩ := rep_pair hp
      exact ⟨t, et⟩
    have hin : ∀ u ∈ its, backV u ∈ ys := fun u hu => by rw [e1]; exact List.mem_map.mpr ⟨u, hu, rfl⟩
    refine SrtO.sorted_pairsO (k := fun u => k (backV u)) hl.isList (by rw [← rv.length]; exact hz) (fun u hu => ?_) fun h' dst out o1 o2 kp hdst hn => ?_
    · obtain ⟨t, rfl⟩ := e2 u hu
      obtain ⟨p, hp⟩ := hmem _ (hin _ hu)
      obtain ⟨t2, et, st⟩ := rep_pair hp
      cases et
      show Srt.IsPair s.heap (.ref t) (k (.ref t)).1 (k (.ref t)).2
      rw [show k (.ref t) = p from hk _ _ hp]
      exact is_pair I (sqT_mono sub st)
    · have h4 : ∀ u ∈ out, ∃ a, u = Value.ref a := fun u hu => e2 u (o2.perm.mem_iff.mp hu)
      obtain ⟨n, hn⟩ := hn
      have pm : (out.map backV).Perm ys := by rw [e1]; exact o2.perm.map backV
      obtain ⟨p1, p2⟩ := perm_reps k (fun y p _ hp => hk y p hp) h3 pm
      have srt : (((out.map backV).map k)).Pairwise (fun a b => leP a b = true) := by
        rw [List.map_map, List.pairwise_map]
        refine o1.imp fun {x y} h => ?_
        have h5 := SrtO.lexB_no.mp h
        simp only [leP, decide_eq_true_eq, Function.comp]
        omega
      have es := sortB_is leP_tot leP_tr leP_anti p1 srt
      have hlen : (out.map backV).length ≤ sizeLine := by rw [pm.length_eq]; exact h2
      refine ⟨.ref dst, upd H dst (.lst (out.map backV)), I.laid (t' := s.toks) kp hdst ⟨hlen, out, n, vals_back h4, hn⟩, rfl, ?_⟩
      have hfree := I.hok.fresh hdst
      refine q (.ref dst) (upd G dst (.lst (out.map backV))) _ (.lst ((sortB leP ps).map prD)) (.new sub hfree _) (.lst upd_same hlen ?_) w
      rw [← es]
      exact p2.mono (same_upd (sub.free hfree))
theorem ci_S : CallR X (.type "int") (LR1 NM X.K (op1W .intS)) := by
  intro pins s σ H vs us Q I r ⟨x, G, d, kd, ev, sub, hd, w, q⟩
  subst ev
  cases d <;> first | exact w.elim | skip
  rename_i z
  cases hd.str
  simp only [op1W] at w
  obtain ⟨w1, w2⟩ := w
  cases h : PySem.intText? z with
  | none => rw [h] at w2; exact w2.elim
  | some n =>
    rw [h] at w2
    exact call_int_str pins s σ H _ us Q I r ⟨z, n, rfl, h, w1, q _ G H _ (.refl sub) (.int n) w2⟩
theorem lb1 (hg : good e = true) (ha : PE X e (LB NM X.K W fa)) {o : Op1} {f : List V → Hp → VK → Prop} {t : TE} (h : PE X c (tCB (LR1 NM X.K (op1W o)) (fun σ H Q => LB NM X.K W fa σ H fun v H' => Q [v] H'))) : PE X c (LE NM X.K W fun ρ k x => fa ρ (fun d => op1W o d k) x) :=
  pe_imp h fun σ H Q ⟨F, ρ, G, kd, kx, r, q, h1, h2⟩ => ⟨F, ρ, G, _, kx, r, q, fun v G1 H1 d x1 r1 q1 => ⟨v, G1, d, kd, rfl, x1.sub, r1, q1, fun v G2 H2 d x2 r2 q2 => h1 v G2 H2 d (x1.trans x2) r2 q2⟩, h2⟩
theorem se_op1 {o : Op1} {m : Str} {q p : Pos} (ho : op1N o = some m) (hgl : Gl X m) (hdb : (m == ("__debug__" : Str)) = false) (hm : X.mg m = none) (hn : m ≠ "__name__") (hg : good e = true) (ha : PE X e (LB NM X.K W fa)) :
    PE X (.Call (.Name m q) [e] [] p) (LE NM X.K W fun ρ k x => fa ρ (fun d => op1W o d k) x) := by
  cases o <;> first | (cases ho; done) | skip
  · cases ho
    exact lb1 (f := fun _ _ _ => True) (t := fun _ _ _ => True) hg ha (pe_callTy ci_S hgl hm (by decide +kernel) (sa_oneB hg ha) hn hdb (starEach_good hg) rfl)
  · cases ho
    exact lb1 (f := fun _ _ _ => True) (t := fun _ _ _ => True) hg ha (pe_callB cs_I hgl hm (by decide +kernel) (sa_oneB hg ha) hn hdb (starEach_good hg) rfl)
  · cases ho
    exact lb1 (f := fun _ _ _ => True) (t := fun _ _ _ => True) hg ha (pe_callB cs_P hgl hm (by decide +kernel) (sa_oneB hg ha) hn hdb (starEach_good hg) rfl)
  · cases ho
    exact lb1 (f := fun _ _ _ => True) (t := fun _ _ _ => True) hg ha (pe_callB cs_S hgl hm (by decide +kernel) (sa_oneB hg ha) hn hdb (starEach_good hg) rfl)
theorem se_upper {ap p : Pos} (hl : (ap.endLine == p.line) = true) (hp : plainA e = true) (ha : PE X e (LB NM X.K W fa)) : PE X (.Call (.Attribute e "upper" ap) [] [] p) (LE NM X.K W fun ρ k x => fa ρ (fun d => op1W .upper d k) x) :=
  pe_imp (pe_upper ha (attrBase hp) hl) fun σ H Q ⟨F, ρ, G, kd, kx, r, q, h1, h2⟩ => ⟨F, ρ, G, _, kx, r, q, fun v G1 H1 d x1 r1 q1 => by
    cases d <;> first | exact q1.elim | skip
    cases r1.str
    exact ⟨⟨_, rfl⟩, _, rfl, rfl, q1.1, h1 _ G1 H1 _ x1 (.str _) q1.2⟩, h2⟩
theorem se_op2 {r : V → List V → Hp → VK → Prop} {o : Op2} {m : Str} {id : String} {ap p : Pos} (slot : Slot "str" m id) (ty : typeOf (.builtin id) = pure (.type "method_descriptor")) (rule : MtR X id r)
    (hr : ∀ (G H : Hp) (z : Str) (y : V) (d : D) (Q : VK) (kd : D → Prop), Same G H → RepB NM X.K G H y d → op2W o (.str z) d kd → (∀ v G' H' r, Ext G H G' H' → Rep NM X.K G' v r → kd r → Q v H') → r (.str z) [y] H Q)
    (hl : (ap.endLine == p.line) = true) (hp : plainA a = true) (hg : good b = true) (ha : PE X a (LB NM X.K W fa)) (hb : PE X b (LB NM X.K W fb)) : PE X (.Call (.Attribute a m ap) [b] [] p) (LE NM X.K W fun ρ k x => fa ρ (fun d => isS d ∧ fb ρ (fun e => op2W o d e k) x) x) :=
  pe_imp (pe_m1 slot ty rule ha hb (starEach_good hg) (attrBase hp) hl) fun σ H Q ⟨F, ρ, G, kd, kx, r, q, h1, h2⟩ => ⟨F, ρ, G, _, kx, r, q, fun v G1 H1 d x1 r1 q1 => by
    cases d <;> first | exact q1.1.elim | skip
    cases r1.str
    exact ⟨⟨_, rfl⟩, F, ρ, G1, _, kx, r.ext x1, q1.2, fun u G2 H2 e x2 r2 q2 => hr G2 H2 _ u e Q kd x2.sub r2 q2 fun v G3 H3 r x3 r3 q3 => h1 v G3 H3 r ((x1.trans x2).trans x3) r3 q3, fun c d G2 H2 x x2 => h2 c d G2 H2 x (x1.trans x2)⟩, h2⟩
theorem hr_split (G H : Hp) (z : Str) (y : V) (d : D) (Q : VK) (kd : D → Prop) (sub : Same G H) (r : RepB NM X.K G H y d) (w : op2W .split (.str z) d kd) (q : ∀ v G' H' r, Ext G H G' H' → Rep NM X.K G' v r → kd r → Q v H') :
    ∃ a b, V.str z = .str a ∧ [y] = [.str b] ∧ (b.length == 0) = false ∧ a.length + 2 ≤ sizeLine ∧ rNewStrs (Txt.split a b) H Q := by
  cases d <;> first | exact w.elim | skip
  cases r.str
  obtain ⟨w1, w2, w3⟩ := w
  refine ⟨z, _, rfl, rfl, w1, w2, fun p hn => ?_⟩
  exact q (.ref p) (upd G p (.lst ((Txt.split z _).map V.str))) _ _ (.new sub hn _) (.lst upd_same (by rw [List.length_map]; exact Nat.le_trans (PyProof.Rows.split_le _ _) w2) strs_reps) w3
theorem hr_starts (G H : Hp) (z : Str) (y : V) (d : D) (Q : VK) (kd : D → Prop) (sub : Same G H) (r : RepB NM X.K G H y d) (w : op2W .starts (.str z) d kd) (q : ∀ v G' H' r, Ext G H G' H' → Rep NM X.K G' v r → kd r → Q v H') :
    ∃ a b, V.str z = .str a ∧ [y] = [.str b] ∧ Q (.bl (Txt.startswith a b)) H := by
  cases d <;> first | exact w.elim | skip
  cases r.str
  exact ⟨z, _, rfl, rfl, q _ G H _ (.refl sub) (.bl _) w⟩
theorem hr_lstrip (G H : Hp) (z : Str) (y : V) (d : D) (Q : VK) (kd : D → Prop) (sub : Same G H) (r : RepB NM X.K G H y d) (w : op2W .lstrip (.str z) d kd) (q : ∀ v G' H' r, Ext G H G' H' → Rep NM X.K G' v r → kd r → Q v H') :
    ∃ a b, V.str z = .str a ∧ [y] = [.str b] ∧ a.length ≤ sizeLine ∧ Q (.str (Txt.lstripChars a b)) H := by
  cases d <;> first | exact w.elim | skip
  cases r.str
  exact ⟨z, _, rfl, rfl, w.1, q _ G H _ (.refl sub) (.str _) w.2⟩
theorem hr_join (G H : Hp) (z : Str) (y : V) (d : D) (Q : VK) (kd : D → Prop) (sub : Same G H) (r : RepB NM X.K G H y d) (w : op2W .join (.str z) d kd) (q : ∀ v G' H' r, Ext G H G' H' → Rep NM X.K G' v r → kd r → Q v H') :
    ∃ a p, ∃ ys : List Str, V.str z = .str a ∧ [y] = [.ref p] ∧ (SqL X.K H p (ys.map V.str) ∨ SqT X.K H p (ys.map V.str)) ∧ (ys.map (·.length)).sum + ys.length * a.length ≤ 16777216 ∧ Q (.str (Txt.join a ys)) H := by
  cases d <;> first | exact w.elim | skip
  · rename_i ds
    obtain ⟨a, xs, rfl, s1, z1, s2⟩ := r.tup sub
    have w' : joinW z ds kd := w
    unfold joinW at w'
    cases h : strs? ds with
    | none => rw [h] at w'; exact w'.elim
    | some zs =>
      rw [h] at w'
      rw [strs_eq h] at s2
      cases reps_strs s2
      exact ⟨z, a, zs, rfl, rfl, .inr s1, w'.1, q _ G H _ (.refl sub) (.str _) w'.2⟩
  · rename_i ds
    obtain ⟨a, xs, rfl, s1, z1, s2⟩ := r.lst sub
    have w' : joinW z ds kd := w
    unfold joinW at w'
    cases h : strs? ds with
    | none => rw [h] at w'; exact w'.elim
    | some zs =>
      rw [h] at w'
      rw [strs_eq h] at s2
      cases reps_strs s2
      exact ⟨z, a, zs, rfl, rfl, .inl (.of s1), w'.1, q _ G H _ (.refl sub) (.str _) w'.2⟩
theorem reps_rg {G : Hp} {a : Int} : ∀ l : List Nat, Reps NM X.K G (l.map fun i => V.int (a + (i : Nat))) (l.map fun i => D.int (a + (i : Nat)))
  | [] => .nil
  | _ :: l => .cons (.int _) (reps_rg l)
theorem se_lrg {fa fb : Wk} {a b : Expr} {q p q2 p2 : Pos} (cal : X.calm = true) (g1 : Gl X "list") (g3 : X.mg "list" = none) (r1 : Gl X "range") (r3 : X.mg "range" = none) (ga : good a = true) (gb : good b = true) (ha : PE X a (LB NM X.K W fa)) (hb : PE X b (LB NM X.K W fb)) :
    PE X (.Call (.Name "list" q) [.Call (.Name "range" p2) [a, b] [] q2] [] p) (LE NM X.K W fun ρ k x => fa ρ (fun d => fb ρ (fun e => lrW d e k) x) x) :=
  pe_imp (pe_listRg cal g1 g3 (prg_2 r1 r3 ha hb (starEach_good ga) (starEach_good gb) (starAny (es := [b]) (by simp [gb])))) fun σ H Q ⟨F, ρ, G, kd, kx, r, w, h1, h2⟩ =>
    ⟨F, ρ, G, _, kx, r, w, fun v G1 H1 d x1 s1 w1 => ⟨F, ρ, G1, _, kx, r.ext x1, w1, fun u G2 H2 e x2 s2 w2 => by
      cases d <;> cases e <;> first | exact w2.elim | skip
      cases (s1.ext x2).int
      cases s2.int
      obtain ⟨⟨b1, b2, b3, b4, b5⟩, w2⟩ := w2
      refine ⟨_, _, rfl, rfl, ⟨b1, b2, b3, b4, by omega⟩, fun l hl => ?_⟩
      exact h1 (.ref l) (upd G2 l (.lst (rgV _ _))) _ _ ((x1.trans x2).trans (.new x2.sub hl _)) (.lst upd_same (by rw [rgV_length, sizeLine_eq]; omega) ((reps_rg _).mono (same_upd (x2.sub.free hl)))) w2, fun c dx G2 H2 y x2 => h2 c dx G2 H2 y (x1.trans x2)⟩, h2⟩
theorem Ext.chg {G H G2 H2 : Hp} {p : Addr} {o : HO} (x : Ext G H G2 H2) (hp : H p = none) (g2 : G2 p = none) : Ext G H G2 (upd H2 p o) where
  hh := fun b u e => (upd_ne (ne_of_none e hp)).trans (x.hh b u e)
  gg := x.gg
  sub := fun b u e => (upd_ne (ne_of_none e g2)).trans (x.sub b u e)
  sep := x.sep
def kv2 (k1 k2 : Str) (v1 v2 : V) : List (Key × V) := [(.inr k1, v1), (.inr k2, v2)]
theorem se_dg2 {fa fb fw fd : Wk} {a b w d : Expr} {k1 k2 : Str} {j1 j2 : Nat} {q1 q2 pd ap p : Pos} (hu : X.A.units + 65 < cLine) (hne : ¬ k1 = k2) (hl : (ap.endLine == p.line) = true) (gw : good w = true) (gd : good d = true)
    (ha : PE X a (LE NM X.K W fa)) (hb : PE X b (LE NM X.K W fb)) (hw : PE X w (LE NM X.K W fw)) (hd : PE X d (LE NM X.K W fd)) :
    PE X (.Call (.Attribute (.Dict [some (.Constant (.str k1) j1 q1), some (.Constant (.str k2) j2 q2)] [a, b] pd) "get" ap) [w, d] [] p)
      (LE NM X.K W fun ρ k x => fa ρ (fun d1 => fb ρ (fun d2 => fw ρ (fun s => fd ρ (fun d3 => dg2W k1 k2 d1 d2 d3 s k) x) x) x) x) := by
  have m : M2 X (.Dict [some (.Constant (.str k1) j1 q1), some (.Constant (.str k2) j2 q2)] [a, b] pd) "get" ap w d p := by
    have e : starEach [w, d] X.env = [(false, eval w X.env), (false, eval d X.env)] := by rw [starEach_good gw, starEach_good gd]; rfl
    exact ⟨rfl, by rw [e]; rfl, hl, by rw [e]; rfl⟩
  refine pe_imp (pe_dget2 (by omega) (pe_disp (pps_cons pe_str ha (pps_cons pe_str hb pps_nil)) rfl rfl (by exact fun z => nomatch z) (by show 2 ≤ 15; decide)) hw hd m) fun σ H Q ⟨F, ρ, G, kd, kx, r, q, h1, h2⟩ => ?_
  intro p hp
  have gp : G p = none := by
    cases e : G p with
    | none => rfl
    | some o => have := r.sub p o e; rw [hp] at this; cases this
  have x0 : Ext G H G (upd H p (.dK [])) := (Ext.refl r.sub).chg hp gp
  refine ⟨F, ρ, G, _, kx, r.ext x0, q, fun v1 G1 H1 d1 x1 r1 w1 => ?_, fun c d G2 H2 x x2 => h2 c d G2 H2 x (x0.trans x2)⟩
  refine ⟨F, ρ, G1, _, kx, r.ext (x0.trans x1), w1, fun v2 G2 H2 d2 x2 r2 w2 => ?_, fun c d G2 H2 x x2 => h2 c d G2 H2 x ((x0.trans x1).trans x2)⟩
  have x12 := x1.trans x2
  have hp2 : H2 p = some (.dK []) := x12.hh p _ upd_same
  have g2 : G2 p = none := x12.sep p (by rw [upd_same]; exact fun z => nomatch z) gp
  have x3 : Ext G H G2 (upd H2 p (.dK (mergeK [] (kv2 k1 k2 v1 v2)))) := (x0.trans x12).chg hp g2
  have em : mergeK [] (kv2 k1 k2 v1 v2) = kv2 k1 k2 v1 v2 := by
    show L2.putK (L2.putK [] (Sum.inr k1 : Key) v1) (Sum.inr k2 : Key) v2 = _
    unfold L2.putK kv2
    simp [hne]
  refine ⟨hp2, kv2 k1 k2 v1 v2, rfl, by show 2 ≤ 15; decide, p, rfl, .inl ⟨_, .inl upd_same⟩, ?_⟩
  refine ⟨F, ρ, G2, _, kx, r.ext x3, w2, fun v3 G3 H3 s x4 r3 w3 => ?_, fun c d G2 H2 x x2 => h2 c d G2 H2 x (x3.trans x2)⟩
  refine ⟨F, ρ, G3, _, kx, r.ext (x3.trans x4), w3, fun v4 G4 H4 d3 x5 r4 w4 => ?_, fun c d G2 H2 x x2 => h2 c d G2 H2 x ((x3.trans x4).trans x2)⟩
  cases s <;> first | exact w4.elim | skip
  rename_i z
  cases r3
  have x45 := x4.trans x5
  have hp4 : H4 p = some (.dK (mergeK [] (kv2 k1 k2 v1 v2))) := x45.hh p _ upd_same
  refine ⟨valV (mergeK [] (kv2 k1 k2 v1 v2)) (.inr z), .inl ⟨_, .inr z, .inl hp4, rfl, rfl⟩, ?_⟩
  rw [em]
  unfold kv2
  have w4 : kd (if z = k1 then d1 else if z = k2 then d2 else d3) := w4
  by_cases e1 : z = k1
  · subst e1
    rw [if_pos rfl] at w4
    rw [valV_pos rfl]
    exact h1 v1 G4 H4 d1 (x3.trans x45) (r1.mono ((x2.trans (Ext.mk (fun _ _ h => h) (fun _ _ h => h) x2.sub (fun _ _ h => h))).gg.trans x45.gg)) w4
  · rw [if_neg e1] at w4
    rw [valV_neg (fun h => e1 (Sum.inr.inj h).symm)]
    by_cases e2 : z = k2
    · subst e2
      rw [if_pos rfl] at w4
      rw [valV_pos rfl]
      exact h1 v2 G4 H4 d2 (x3.trans x45) (r2.mono x45.gg) w4
    · rw [if_neg e2] at w4
      rw [valV_neg (fun h => e2 (Sum.inr.inj h).symm)]
      exact h1 v4 G4 H4 d3 (x3.trans x45) r4 w4
theorem se_op2a {o : Op2} {ap p : Pos} (hl : (ap.endLine == p.line) = true) (hp : plainA a = true) (hg : good b = true) (ha : PE X a (LB NM X.K W fa)) (hb : PE X b (LB NM X.K W fb)) : PE X (.Call (.Attribute a (op2N o) ap) [b] [] p) (LE NM X.K W fun ρ k x => fa ρ (fun d => isS d ∧ fb ρ (fun e => op2W o d e k) x) x) := by
  cases o
  · exact se_op2 F.slot_str_join F.type_str_join mt_join hr_join hl hp hg ha hb
  · exact se_op2 F.slot_str_split F.type_str_split mt_split hr_split hl hp hg ha hb
  · exact se_op2 F.slot_str_startswith F.type_str_startswith mt_startswith hr_starts hl hp hg ha hb
  · exact se_op2 F.slot_str_lstrip F.type_str_lstrip mt_lstripChars hr_lstrip hl hp hg ha hb
theorem enmD_len : ∀ (i : Nat) (l : List D), (enmD i l).length = l.length
  | _, [] => rfl
  | i, _ :: r => congrArg Nat.succ (enmD_len (i + 1) r)
theorem enmD_get : ∀ {i j : Nat} {l : List D} {d : D}, l[j]? = some d → (enmD i l)[j]? = some (.tup [.int ((i + j : Nat) : Int), d])
  | _, _, [], _, h => by cases h
  | i, 0, _ :: _, _, h => by cases h; rfl
  | i, j + 1, _ :: r, d, h => by
    have := enmD_get (i := i + 1) (j := j) (l := r) h
    rw [show i + 1 + j = i + (j + 1) by omega] at this
    exact this
theorem wlk_enm {G0 : Hp} {a : Addr} {xs : List V} {ds : List D} {rl : Hp → Hp → Prop} (g0 : ∀ G H, rl G H → Same G0 G) (hs : ∀ G H, Same G H → rl G H → SqL X.K H a xs) (r : Reps NM X.K G0 xs ds) : Wlk NM X.K (Ite X.K a) rl (enmD 0 ds) where
  go := fun i G H s q hi => by
    rw [enmD_len] at hi
    obtain ⟨v, h1, h2⟩ := r.get (List.getElem?_eq_getElem hi)
    refine ⟨⟨xs, v, hs G H s q, h1⟩, fun x H' ⟨T, y, e1, e2, e3, e4⟩ => ?_⟩
    subst e1 e3
    cases h1.symm.trans (e4 xs (hs G _ s q))
    have m := (g0 G _ q).trans (same_upd (o := .tup [.int (i : Nat), v]) (s.free e2))
    refine ⟨upd G T (.tup [.int (i : Nat), v]), .tup [.int (i : Nat), ds[i]], .new s e2 _, ?_, .tup (.of upd_same) (by show 2 ≤ sizeLine; rw [sizeLine_eq]; decide) (.cons (.int _) (.cons (h2.mono m) .nil))⟩
    have := enmD_get (i := 0) (List.getElem?_eq_getElem hi)
    rw [Nat.zero_add] at this
    exact this
  stop := fun G H s q => by
    refine ⟨xs, hs G H s q, ?_⟩
    rw [enmD_len, r.len]
    exact Nat.le_refl _
theorem wlk_enmT {G0 : Hp} {a : Addr} {xs : List V} {ds : List D} {rl : Hp → Hp → Prop} (g0 : ∀ G H, rl G H → Same G0 G) (hs : ∀ G H, Same G H → rl G H → SqT X.K H a xs) (r : Reps NM X.K G0 xs ds) : Wlk NM X.K (IteT X.K a) rl (enmD 0 ds) where
  go := fun i G H s q hi => by
    rw [enmD_len] at hi
    obtain ⟨v, h1, h2⟩ := r.get (List.getElem?_eq_getElem hi)
    refine ⟨⟨xs, v, hs G H s q, h1⟩, fun x H' ⟨T, y, e1, e2, e3, e4⟩ => ?_⟩
    subst e1 e3
    cases h1.symm.trans (e4 xs (hs G _ s q))
    have m := (g0 G _ q).trans (same_upd (o := .tup [.int (i : Nat), v]) (s.free e2))
    refine ⟨upd G T (.tup [.int (i : Nat), v]), .tup [.int (i : Nat), ds[i]], .new s e2 _, ?_, .tup (.of upd_same) (by show 2 ≤ sizeLine; rw [sizeLine_eq]; decide) (.cons (.int _) (.cons (h2.mono m) .nil))⟩
    have := enmD_get (i := 0) (List.getElem?_eq_getElem hi)
    rw [Nat.zero_add] at this
    exact this
  stop := fun G H s q => by
    refine ⟨xs, hs G H s q, ?_⟩
    rw [enmD_len, r.len]
theorem sw_enm {x : Str} {p tp : Pos} {ts : List Expr} {kk : Nat} {fz : Bool} (hx : x = "enumerate") (hgl : Gl X x) (hm : X.mg x = none) (hg : good e = true) (ha : PE X e (LE NM X.K W fa)) :
    PI X (.Tuple ts kk tp) (.Call (.Name x p) [e] [] pos) (LW NM X.K W fz fun ρ k x => fa ρ (fun d => match d with
    | .lst xs => k (enmD 0 xs)
    | .tup xs => k (enmD 0 xs)
    | _ => False) x) := by
  subst hx
  refine pi_imp (pi_enumT hgl hm (sa_cons hg ha sa_nil) (starEach_good hg)) fun σ H Q ⟨F, ρ, G, kd, kx, r, q, h1, h2⟩ =>
    ⟨F, ρ, G, fun ds => ∃ d, ds = [d] ∧ (match d with
    | .lst xs => kd (enmD 0 xs)
    | .tup xs => kd (enmD 0 xs)
    | _ => False), kx, r, ?_, fun vs G1 H1 ds x1 r1 l1 ⟨d, z, q1⟩ => ?_, h2⟩
  · have e : ∀ d : D, (∃ d', [d] = [d'] ∧ (match d' with
      | .lst xs => kd (enmD 0 xs)
      | .tup xs => kd (enmD 0 xs)
      | _ => False)) = (match d with
      | .lst xs => kd (enmD 0 xs)
      | .tup xs => kd (enmD 0 xs)
      | _ => False) := fun d => propext ⟨fun ⟨_, z, w⟩ => by cases z; exact w, fun w => ⟨_, rfl, w⟩⟩
    simp only [e]
    exact q
  · subst z
    cases r1 with
    | cons a b =>
      cases b
      cases d <;> first | exact q1.elim | skip
      · cases a with
        | tup a1 a2 a3 =>
          refine ⟨_, _, rfl, .inr ⟨sqT_mono x1.sub a1, h1 _ G1 H1 _ x1 (wlk_enmT (G0 := G1) (fun _ _ z => z.1) (fun G H s z => sqT_mono (z.1.trans s) a1) a3) ?_ q1⟩⟩
          rw [enmD_len, ← a3.len]
          exact a2
      · cases a with
        | lst a1 a2 a3 =>
          refine ⟨_, _, rfl, .inl ⟨.of (x1.sub _ _ a1), h1 _ G1 H1 _ x1 (wlk_enm (G0 := G1) (fun _ _ z => z.1) (fun G H s z => .of (s _ _ (z.1 _ _ a1))) a3) ?_ q1⟩⟩
          rw [enmD_len, ← a3.len]
          exact a2
end
end Q
namespace Q
open PySem PySem.Spec L2 PyProof.Rows SrtO
section
variable {prog : Program} {w : World} {A : Around} {E : Value → Shared → Prop} {s : Shared} {a kS : Addr} {vs : List Value} {keys : Array Value} {e e1 : Nat} {P : PySem.Fin → Shared → Prop} {lt : Value → Value → Bool}
theorem kso_tail {st : SortSt} (hk : s.heap.get? kS = some (seqObj "list" keys e)) (ha : s.heap.get? a = some (seqObj "list" #[] e1)) (hka : kS ≠ a) (h1 : keys.size ≤ sizeLine) (h2 : (arrOf st).size ≤ sizeLine) (hfl : failedOf st = none)
    (h : ∀ h' c c2, h'.get? a = some (seqObj "list" ((arrOf st).map (·.2)) c) → h'.get? kS = some (seqObj "list" #[] c2) → (∀ b o, b ≠ a → b ≠ kS → s.heap.get? b = some o → h'.get? b = some o) → P (.done (.ret .none)) { s with heap := h' }) :
    wpAny (model prog w) A (ksk_tail a false e1 (.ref kS) st) P E s := by
  rw [sizeLine_eq] at h1 h2
  have s1 := Heap.SameBut.update s.heap kS (Obj.mapSeq fun _ => (#[] : Array Value))
  have na1 : (s.heap.update kS (Obj.mapSeq fun _ => (#[] : Array Value))).get? a = some (seqObj "list" #[] e1) := (s1.2 a hka.symm).trans ha
  have s2 := Heap.SameBut.update (s.heap.update kS (Obj.mapSeq fun _ => (#[] : Array Value))) a (Obj.mapSeq fun _ => (arrOf st).map (·.2))
  obtain ⟨c2, hc2⟩ : ∃ c2, ((s.heap.update kS (Obj.mapSeq fun _ => (#[] : Array Value))).update a (Obj.mapSeq fun _ => (arrOf st).map (·.2))).get? a = some (seqObj "list" ((arrOf st).map (·.2)) c2) :=
    ⟨_, get?_update_seq na1 fun _ => (arrOf st).map (·.2)⟩
  obtain ⟨c3, hc3⟩ : ∃ c3, (s.heap.update kS (Obj.mapSeq fun _ => (#[] : Array Value))).get? kS = some (seqObj "list" #[] c3) := ⟨_, get?_update_seq hk fun _ => #[]⟩
  unfold ksk_tail
  try dsimp only
  refine wpAny_bind (listUpdate_at hk rfl ?_ (by rw [sizeLine_eq]; omega) (Nat.zero_le _))
  refine wpAny_bind (wpAny_letGo ?_)
  refine wpAny_bind (seqEpoch_at na1 rfl ?_)
  refine wpAny_bind (listUpdate_at na1 rfl ?_ (Nat.zero_le _) (by show ((arrOf st).map (·.2)).size ≤ _; rw [Array.size_map, sizeLine_eq]; omega))
  rw [hfl]
  simp only [bne_self_eq_false, Bool.false_eq_true, if_false]
  exact wpAny_pure (h _ c2 c3 hc2 ((s2.2 kS hka).trans hc3) fun b o n1 n2 z => (s2.2 b n1).trans ((s1.2 b n2).trans z))
theorem kso_end (O : Swo lt) (hk : s.heap.get? kS = some (seqObj "list" keys e)) (ha : s.heap.get? a = some (seqObj "list" #[] e1)) (hka : kS ≠ a) (hlen : keys.size = vs.length) (hZ : vs.length ≤ sizeLine) (hS : 2 ≤ vs.length → ∃ a', SortableO prog w A s a' keys.toList lt)
    (h : ∀ h' c c2 (ps : List Keyed), Srtd (lt2 lt) ps → Stb (lt2 lt) ps (keys.toList.zip vs) → h'.get? a = some (seqObj "list" (ps.map (·.2)).toArray c) → h'.get? kS = some (seqObj "list" #[] c2) → (∀ b o, b ≠ a → b ≠ kS → s.heap.get? b = some o → h'.get? b = some o) → P (.done (.ret .none)) { s with heap := h' }) :
    wpAny (model prog w) A (ksk_end a false vs.toArray e1 (.ref kS) keys) P E s := by
  have hzl : (keys.zip vs.toArray).toList = keys.toList.zip vs := ksk_zip keys vs
  have hzs : (keys.zip vs.toArray).size = vs.length := by rw [Array.size_zip, hlen, List.size_toArray, Nat.min_self]
  have fin : ∀ st : SortSt, Srtd (lt2 lt) (arrOf st).toList → Stb (lt2 lt) (arrOf st).toList (keys.toList.zip vs) → failedOf st = none → wpAny (model prog w) A (ksk_tail a false e1 (.ref kS) st) P E s := fun st h1 h2 h3 => by
    have hl := h2.len
    rw [Array.length_toList, ← hzl, Array.length_toList, hzs] at hl
    refine kso_tail hk ha hka (by omega) (by omega) h3 fun h' c c2 z1 z2 z3 => h h' c c2 _ h1 h2 ?_ z2 z3
    rw [z1]
    congr 2
    apply Array.ext'
    rw [Array.toList_map]
  unfold ksk_end
  try dsimp only
  rw [if_neg (by decide : ¬ (false = true))]
  try simp only [Bool.false_eq_true, if_false]
  try simp only [pure_bind]
  by_cases h2 : vs.toArray.size < 2
  · rw [if_pos h2, if_pos h2]
    refine wpAny_bind (wpAny_pure ?_)
    refine fin (SortSt.mk' general' (keys.zip vs.toArray) #[] 7 none) ?_ ?_ rfl
    · show Srtd (lt2 lt) (keys.zip vs.toArray).toList
      rw [List.size_toArray] at h2
      have hl : (keys.zip vs.toArray).toList.length < 2 := by rw [Array.length_toList, hzs]; exact h2
      match (keys.zip vs.toArray).toList, hl with
      | [], _ => exact List.Pairwise.nil
      | [v], _ => exact List.pairwise_singleton _ _
      | _ :: _ :: _, h => exact absurd h (by simp)
    · show Stb (lt2 lt) (keys.zip vs.toArray).toList _
      rw [hzl]
      exact Stb.refl _
  · rw [if_neg h2, if_neg h2]
    rw [List.size_toArray] at h2
    obtain ⟨a', hS'⟩ := hS (by omega)
    obtain ⟨κ, hkind, hT⟩ := hS' s.heap (fun b o _ z => z)
    rw [Array.toArray_toList] at hkind
    refine wpAny_bind (hkind _ _ ?_)
    have hall : AllL (fun p : Keyed => p.1 ∈ keys.toList) (keys.zip vs.toArray).toList := fun p hm => by
      rw [hzl] at hm
      obtain ⟨x, y⟩ := p
      exact (List.of_mem_zip hm).1
    refine wpAny_bind (wpAny_mono (wpS_sortO (st0 := SortSt.mk' κ (keys.zip vs.toArray) #[] 7 none)
      (Q := fun _ st' => Srtd (lt2 lt) (arrOf st').toList ∧ Stb (lt2 lt) (arrOf st').toList (keys.toList.zip vs) ∧ failedOf st' = none) (swo2 O) hT rfl hall rfl rfl fun st' a1 a2 a3 => ⟨a1, by
        have a2' : Stb (lt2 lt) (arrOf st').toList (keys.zip vs.toArray).toList := a2
        rw [hzl] at a2'
        exact a2', a3⟩) ?_ fun _ _ e => e)
    rintro ⟨⟨⟩, st'⟩ s' ⟨rfl, hp1, hp2, hf⟩
    try dsimp only
    exact fin st' hp1 hp2 hf
variable {X : Cx} {pins : List (Addr × Obj)} {σ : L2.St}
structure Apart (X : Cx) (pins : List (Addr × Obj)) (b : Addr) : Prop where
  lo : b ≠ X.env.locals
  fs : b ∉ X.fs
  ex : b ∈ X.ex ∨ X.s_0.heap.objs.size ≤ b
  ce : ∀ x c, X.env.cells.lookup x = some c → c ≠ b
  pn : ∀ p ∈ X.pn ++ pins, p.1 ≠ b
theorem Apart.of {H : Hp} {s : Shared} (I : Inv X pins σ H s) {b : Addr} (h : s.heap.objs.size ≤ b) : Apart X pins b :=
  have f := I.fpOk h (I.hok.fresh h)
  ⟨f.2.1, f.2.2.1, f.2.2.2.1, f.2.2.2.2.1, f.2.2.2.2.2⟩
theorem nocell {xs : Array Value} {n : Nat} : ∀ v, (seqObj "list" xs n).data ≠ .cell v := fun v h => nomatch h
abbrev own2 (kS a : Addr) (kA : Array Value) (e e1 : Nat) : List (Addr × Obj) := [(kS, seqObj "list" kA e), (a, seqObj "list" #[] e1)]
theorem pin2 {H : Hp} {s : Shared} {kA : Array Value} (I : Inv X pins σ H s) (k1 : Apart X pins kS) (k2 : Apart X pins a) (h1 : s.heap.get? kS = some (seqObj "list" kA e)) (h2 : s.heap.get? a = some (seqObj "list" #[] e1)) (n1 : H kS = none) (n2 : H a = none) :
    Inv X (pins ++ own2 kS a kA e e1) σ H s := I.pins_of fun p hp => by
  rcases List.mem_append.mp hp with z | z
  · exact I.pin p (List.mem_append_right _ z)
  · rcases List.mem_cons.mp z with rfl | z
    · exact ⟨h1, n1, k1.lo, k1.fs, nocell⟩
    · rw [List.mem_singleton.mp z]
      exact ⟨h2, n2, k2.lo, k2.fs, nocell⟩
theorem pin2_k {H : Hp} {s : Shared} {kA : Array Value} (I : Inv X (pins ++ own2 kS a kA e e1) σ H s) : s.heap.get? kS = some (seqObj "list" kA e) ∧ H kS = none := by
  have := I.pin (kS, seqObj "list" kA e) (List.mem_append_right _ (List.mem_append_right _ (.head _)))
  exact ⟨this.1, this.2.1⟩
theorem pin2_a {H : Hp} {s : Shared} {kA : Array Value} (I : Inv X (pins ++ own2 kS a kA e e1) σ H s) : s.heap.get? a = some (seqObj "list" #[] e1) ∧ H a = none := by
  have := I.pin (a, seqObj "list" #[] e1) (List.mem_append_right _ (List.mem_append_right _ (.tail _ (.head _))))
  exact ⟨this.1, this.2.1⟩
variable {A1 : Around} {f : Value} {xs : List V} {J : Nat → List V → Hp → Prop}
def KTurn (X : Cx) (A1 : Around) (f : Value) (xs : List V) (J : Nat → List V → Hp → Prop) : Prop :=
  ∀ (pins : List (Addr × Obj)) (σ : L2.St) (i : Nat) (x : V) (v : Value) (s : Shared) (H : Hp) (kx : List V), xs[i]? = some x → RelV x v → Inv X pins σ H s → J i kx H →
    wpAny (model X.prog X.w) A1 (call f [v]) (fun u s2 => ∃ k H2, Inv X pins σ H2 s2 ∧ RelV k u ∧ J (i + 1) (kx ++ [k]) H2) (fun _ _ => False) s
theorem kso_rest {H : Hp} {s : Shared} {L : (Value → Value → Bool) → List V → List Value → Hp → Prop} (T : KTurn X A1 f xs J) (k1 : Apart X pins kS) (k2 : Apart X pins a) (hka : kS ≠ a) (I : Inv X (pins ++ own2 kS a #[] e e1) σ H s) (r : Vals xs vs) (hZ : vs.length ≤ sizeLine) (h0 : J 0 [] H)
    (hS : ∀ s' H' keys kx, Inv X pins σ H' s' → J xs.length kx H' → Vals kx keys → keys.length = vs.length → ∃ lt, Swo lt ∧ L lt kx keys H' ∧ (2 ≤ vs.length → ∃ a', SortableO X.prog X.w A1 s' a' keys lt))
    (h : ∀ s' H' kx (keys : List Value) c (ps : List Keyed) lt, Swo lt → L lt kx keys H' → J xs.length kx H' → Vals kx keys → Srtd (lt2 lt) ps → Stb (lt2 lt) ps (keys.zip vs) → Inv X pins σ H' s' → s'.heap.get? a = some (seqObj "list" (ps.map (·.2)).toArray c) → H' a = none → P (.done (.ret .none)) s') :
    wpAny (model X.prog X.w) A1 (ksk_rest a f false vs.toArray e1 (.ref kS)) P E s := by
  have hxl := r.length
  unfold ksk_rest
  refine wpAny_bind (wpAny_rule ?_)
  first
    | rw [List.forIn_toArray]
    | (rw [← Array.forIn_toList]; simp only [List.toList_toArray])
    | rw [← Array.forIn_toList]
  refine wpAny_bind (ksk_fold (fun i s' => ∃ H' kA e kx, Inv X (pins ++ own2 kS a kA e e1) σ H' s' ∧ J i kx H' ∧ Vals kx kA.toList ∧ kx.length = i) vs 0 s ⟨H, #[], e, [], I, h0, .nil, rfl⟩ ?step ?done)
  case step =>
    rintro j u s' hu ⟨H', kA, e, kx, I', hJ, rk, lk⟩
    simp only [Nat.zero_add] at hJ lk ⊢
    have hj : j < vs.length := (List.getElem?_eq_some_iff.mp hu).1
    obtain ⟨x, hx⟩ : ∃ x, xs[j]? = some x := ⟨_, List.getElem?_eq_getElem (by omega)⟩
    obtain ⟨u', hu', rx⟩ := r.get hx
    cases hu.symm.trans hu'
    refine wpAny_bind (wpAny_attempt (wpAny_mono (T _ σ j x u s' H' kx hx rx I' hJ) (fun v s2 he => ?_) fun _ _ hF => hF.elim))
    obtain ⟨k, H2, I2, rkv, hJ2⟩ := he
    try dsimp only
    obtain ⟨p1, n1⟩ := pin2_k I2
    obtain ⟨p2, n2⟩ := pin2_a I2
    have hz : kA.size ≤ vs.length := by
      rw [← Array.length_toList, ← rk.length, lk]
      exact Nat.le_of_lt hj
    have s1 := Heap.SameBut.update s2.heap kS (Obj.mapSeq (·.push v))
    obtain ⟨c2, hc2⟩ : ∃ c2, (s2.heap.update kS (Obj.mapSeq (·.push v))).get? kS = some (seqObj "list" (kA.push v) c2) := ⟨_, get?_update_seq p1 (·.push v)⟩
    rw [sizeLine_eq] at hZ
    refine wpAny_bind (listUpdate_at p1 rfl ?_ (by rw [sizeLine_eq]; omega) (Nat.le_trans (Nat.le_of_eq (Array.size_push ..)) (by rw [sizeLine_eq]; omega)))
    refine wpAny_pure ⟨rfl, H2, kA.push v, c2, kx ++ [k], ?_, hJ2, ?_, by rw [List.length_append, lk]; rfl⟩
    · have I3 : Inv X pins σ H2 s2 := I2.unpinned
      have I4 : Inv X pins σ H2 { s2 with heap := s2.heap.update kS (Obj.mapSeq (·.push v)), toks := s2.toks } := I3.turned (it := kS) (fun b o hb e => (s1.2 b hb).trans e) n1 k1.lo k1.ex k1.ce k1.pn
      exact pin2 I4 k1 k2 hc2 ((s1.2 a hka.symm).trans p2) n1 n2
    · rw [Array.toList_push]
      exact rk.append (.cons rkv .nil)
  case done =>
    rintro s' ⟨H', kA, e, kx, I', hJ, rk, lk⟩
    simp only [Nat.zero_add] at hJ lk
    obtain ⟨p1, n1⟩ := pin2_k I'
    obtain ⟨p2, n2⟩ := pin2_a I'
    have I3 : Inv X pins σ H' s' := I'.unpinned
    try dsimp only
    refine wpAny_bind (listItems_at p1 rfl ?_)
    have hl : kA.size = vs.length := by
      rw [← Array.length_toList, ← rk.length, lk]
    rw [← hxl] at hJ
    obtain ⟨lt, O, hL, hT⟩ := hS s' H' _ kx I3 hJ rk (by rw [Array.length_toList]; exact hl)
    refine kso_end O p1 p2 hka hl hZ hT fun h' c c2 ps z1 z2 z3 z4 z5 => ?_
    have I4 : Inv X pins σ H' { s' with heap := h', toks := s'.toks } := I3.turnedL (ch := [kS, a]) (fun b o hb e => z5 b o (fun z => hb (by rw [z]; simp)) (fun z => hb (by rw [z]; simp)) e) fun b hb => by
      rcases List.mem_cons.mp hb with rfl | hb
      · exact ⟨n1, k1.lo, k1.fs, k1.ex, k1.ce, k1.pn⟩
      · rw [List.mem_singleton.mp hb]
        exact ⟨n2, k2.lo, k2.fs, k2.ex, k2.ce, k2.pn⟩
    exact h _ H' kx kA.toList c ps lt O hL hJ rk z1 z2 I4 z3 n2
theorem adopt {H : Hp} {s : Shared} {D : Addr} {ob : HO} (I : Inv X pins σ H s) (k : Apart X pins D) (hn : H D = none) (new : ObjOk X.prog X.w (upd H D ob) s.heap D ob) : Inv X pins σ (upd H D ob) s := by
  have q : Inv X pins σ (upd H D ob) { s with heap := s.heap, gens := s.gens, drawn := s.drawn, toks := s.toks } := by
    refine I.step (ch := [D]) (fun b hb => ?_) (fun b o _ _ hc e _ => e) (fun b o _ _ hc e _ => ⟨o.slots, e⟩) (fun b o hc e n => ?_) (fun b o hc e => ⟨o, e⟩) (fun b xs e => ?_) (fun b o u e => ?_) (fun b ps e => ⟨#[], ?_⟩) (fun m hm => hm) (fun b u e => ?_) I.bare
    · rw [List.mem_singleton.mp hb]
      exact ⟨k.ex, k.lo, k.ce, k.pn⟩
    · rw [upd_ne (fun z => hc (by rw [z]; simp))]; exact n
    · rw [upd_ne (ne_of_none e hn)]; exact e
    · rw [upd_ne (ne_of_none e hn)]; exact e
    · rw [upd_ne (ne_of_none e hn), e]; simp
    · by_cases hb : b = D
      · subst hb
        rw [upd_same] at e
        cases e
        exact new
      · rw [upd_ne hb] at e
        exact (I.hok b u e).stay (fun c v hc q => q) (fun c q => by rw [upd_ne (ne_of_none q hn)]; exact q) fun c xs q => by rw [upd_ne (ne_of_none q hn)]; exact q
  exact q
theorem kso_sorted {H : Hp} {s : Shared} {L : (Value → Value → Bool) → List V → List Value → Hp → Prop} {l q : Addr} {Q : Value → Shared → Prop} (T : KTurn X X.A.in1.in1 (.ref q) xs J) (I : Inv X pins σ H s) (hl : s.heap.IsList l vs.toArray) (r : Vals xs vs) (hZ : vs.length ≤ sizeLine) (h0 : J 0 [] H)
    (hS : ∀ s' H' keys kx, Inv X pins σ H' s' → J xs.length kx H' → Vals kx keys → keys.length = vs.length → ∃ lt, Swo lt ∧ L lt kx keys H' ∧ (2 ≤ vs.length → ∃ a', SortableO X.prog X.w X.A.in1.in1 s' a' keys lt))
    (h : ∀ s' H' kx (keys : List Value) (ps : List Keyed) (us : List V) D lt, Swo lt → L lt kx keys H' → J xs.length kx H' → Vals kx keys → Srtd (lt2 lt) ps → Stb (lt2 lt) ps (keys.zip vs) → Vals us (ps.map (·.2)) → H' D = none → Inv X pins σ (upd H' D (.lst us)) s' → Q (.ref D) s') :
    wpAny (model X.prog X.w) X.A (call (.builtin "sorted") [.ref l] [(Str.ofString "key", .ref q)]) Q E s := by
  have hZ2 := hZ
  rw [sizeLine_eq] at hZ2
  refine call_function_entry_kw kind_sorted plain_sorted entry_sorted (ksk_s1 _ _) ?_
  unfold Builtin.«sorted»
  refine wpAny_bind (m := checkCount "sorted" 1 1 _) (wpAny_pure ?_)
  refine wpAny_bind (collect_list hl ?_ (by rw [sizeLine_eq]; omega))
  refine wpAny_bind (wpAny_newList ?_ (by rw [sizeLine_eq]; omega))
  have hsz : ((s.heap.push (seqObj "list" #[] 0)).update s.heap.objs.size (Obj.mapSeq (· ++ vs.toArray))).objs.size = s.heap.objs.size + 1 := by
    rw [Heap.size_update, size_push']
  have hoL : (((s.heap.push (seqObj "list" #[] 0)).update s.heap.objs.size (Obj.mapSeq (· ++ vs.toArray))).push (seqObj "list" vs.toArray 0)).get? (s.heap.objs.size + 1) = some (seqObj "list" vs.toArray 0) := by
    rw [← hsz]; exact Heap.get?_push_size _ rfl
  have keep : ∀ b o, s.heap.get? b = some o → (((s.heap.push (seqObj "list" #[] 0)).update s.heap.objs.size (Obj.mapSeq (· ++ vs.toArray))).push (seqObj "list" vs.toArray 0)).get? b = some o := fun b o q => by
    have hlt : b < s.heap.objs.size := Heap.lt_size q
    rw [Heap.get?_push_ne _ _ _ (by rw [hsz]; exact Nat.ne_of_lt (Nat.lt_succ_of_lt hlt)), Heap.get?_update_ne _ _ _ _ (Nat.ne_of_lt hlt), Heap.get?_push_ne _ _ _ (Nat.ne_of_lt hlt)]
    exact q
  show wpAny _ _ _ _ _ { s with heap := ((s.heap.push (seqObj "list" #[] 0)).update s.heap.objs.size (Obj.mapSeq (· ++ vs.toArray))).push (seqObj "list" vs.toArray 0) }
  rw [hsz]
  have kA : Apart X pins (s.heap.objs.size + 1) := Apart.of I (Nat.le_succ _)
  have nA : H (s.heap.objs.size + 1) = none := I.hok.fresh (Nat.le_succ _)
  generalize hh1 : ((s.heap.push (seqObj "list" #[] 0)).update s.heap.objs.size (Obj.mapSeq (· ++ vs.toArray))).push (seqObj "list" vs.toArray 0) = h1 at *
  have hs1 : h1.objs.size = s.heap.objs.size + 2 := by rw [← hh1, size_push', hsz]
  refine wpAny_bind (wpAny_holding (wpAny_call_entry_kw slot_list_sort ⟨_, hoL, rfl⟩ entry_list_sort ?body (ksk_l1 _ _)))
  case body =>
    show wpAny (model X.prog X.w) X.A.in1.in1 (Builtin.«list.sort» ⟨[.ref (s.heap.objs.size + 1)], [(Str.ofString "key", .ref q)]⟩) _ _ _
    rw [ksk_t1]
    obtain ⟨e1, ho1⟩ : ∃ e1, (h1.update (s.heap.objs.size + 1) (Obj.mapSeq fun _ => (#[] : Array Value))).get? (s.heap.objs.size + 1) = some (seqObj "list" #[] e1) := ⟨_, get?_update_seq hoL fun _ => #[]⟩
    have sb := Heap.SameBut.update h1 (s.heap.objs.size + 1) (Obj.mapSeq fun _ => (#[] : Array Value))
    unfold ksk_tree
    refine wpAny_bind (listItems_at hoL rfl ?_)
    refine wpAny_bind (listUpdate_at hoL rfl ?_ (by rw [List.size_toArray, sizeLine_eq]; omega) (Nat.zero_le _))
    refine wpAny_bind (seqEpoch_at ho1 rfl ?_)
    refine wpAny_bind (wpAny_newTuple ?_ (by show vs.length ≤ _; rw [sizeLine_eq]; omega))
    refine wpAny_bind (wpAny_newList ?_ (Nat.zero_le _))
    refine wpAny_holding ?_
    have hkS : ((h1.update (s.heap.objs.size + 1) (Obj.mapSeq fun _ => (#[] : Array Value))).push (seqObj "tuple" vs.toArray 0)).objs.size = s.heap.objs.size + 3 := by rw [size_push', Heap.size_update, hs1]
    have keep3 : ∀ b o, s.heap.get? b = some o → (((h1.update (s.heap.objs.size + 1) (Obj.mapSeq fun _ => (#[] : Array Value))).push (seqObj "tuple" vs.toArray 0)).push (seqObj "list" #[] 0)).get? b = some o := fun b o z => by
      have hlt : b < s.heap.objs.size := Heap.lt_size z
      exact Heap.get?_push_of_some _ (Heap.get?_push_of_some _ ((sb.2 b (Nat.ne_of_lt (Nat.lt_succ_of_lt hlt))).trans (keep b o z)))
    have I3 : Inv X pins σ H { s with heap := ((h1.update (s.heap.objs.size + 1) (Obj.mapSeq fun _ => (#[] : Array Value))).push (seqObj "tuple" vs.toArray 0)).push (seqObj "list" #[] 0), toks := s.toks } := I.kept keep3
    have kK : Apart X pins (s.heap.objs.size + 3) := Apart.of I (Nat.le_add_right _ _)
    have nK : H (s.heap.objs.size + 3) = none := I.hok.fresh (Nat.le_add_right _ _)
    have gK : (((h1.update (s.heap.objs.size + 1) (Obj.mapSeq fun _ => (#[] : Array Value))).push (seqObj "tuple" vs.toArray 0)).push (seqObj "list" #[] 0)).get? (s.heap.objs.size + 3) = some (seqObj "list" #[] 0) := by
      rw [← hkS]; exact Heap.get?_push_size _ rfl
    have gA : (((h1.update (s.heap.objs.size + 1) (Obj.mapSeq fun _ => (#[] : Array Value))).push (seqObj "tuple" vs.toArray 0)).push (seqObj "list" #[] 0)).get? (s.heap.objs.size + 1) = some (seqObj "list" #[] e1) := Heap.get?_push_of_some _ (Heap.get?_push_of_some _ ho1)
    show wpAny (model X.prog X.w) X.A.in1.in1 (ksk_rest (s.heap.objs.size + 1) (.ref q) false vs.toArray e1 (.ref ((h1.update (s.heap.objs.size + 1) (Obj.mapSeq fun _ => (#[] : Array Value))).push (seqObj "tuple" vs.toArray 0)).objs.size)) _ _ _
    rw [hkS]
    refine kso_rest (X := X) (pins := pins) (σ := σ) (kS := s.heap.objs.size + 3) (a := s.heap.objs.size + 1) T kK kA (fun z => by have := Nat.add_left_cancel z; omega) (pin2 I3 kK kA gK gA nK nA) r hZ h0 (fun s' H' keys kx i => hS s' H' keys kx i) fun s' H' kx keys c ps lt O hL z1 z2 z3 z4 z5 z6 z7 => ⟨_, rfl, ?_⟩
    refine wpAny_pure ⟨_, rfl, ?_⟩
    have pl := z4.len
    have zl : (keys.zip vs).length ≤ vs.length := by rw [List.length_zip]; omega
    have hback : ∃ us, Vals us (ps.map (·.2)) := by
      have hm : ∀ u ∈ ps.map (·.2), ∃ x, RelV x u := fun u hu => by
        obtain ⟨p, hp, rfl⟩ := List.mem_map.mp hu
        have := z4.perm.mem_iff.mp hp
        obtain ⟨p1, p2⟩ := p
        have hv : p2 ∈ vs := (List.of_mem_zip this).2
        obtain ⟨i, hi⟩ := List.getElem?_of_mem hv
        have il : i < vs.length := (List.getElem?_eq_some_iff.mp hi).1
        have rl := r.length
        obtain ⟨u', hu', rx⟩ := r.get (i := i) (List.getElem?_eq_getElem (by omega))
        cases hi.symm.trans hu'
        exact ⟨_, rx⟩
      generalize ps.map (·.2) = L at hm
      induction L with
      | nil => exact ⟨[], .nil⟩
      | cons u L ih =>
        obtain ⟨x, hx⟩ := hm u (.head _)
        obtain ⟨us, hus⟩ := ih fun w hw => hm w (.tail _ hw)
        exact ⟨x :: us, .cons hx hus⟩
    obtain ⟨us, hus⟩ := hback
    have ul := hus.length
    rw [List.length_map] at ul
    exact h s' H' kx keys ps us _ lt O hL z1 z2 z3 z4 hus z7 (adopt z5 kA z7 ⟨by omega, _, c, hus, z6⟩)
end
section
variable {α β : Type}
theorem insB_map {f : α → β} {le : β → β → Bool} {le' : α → α → Bool} (h : ∀ a b, le (f a) (f b) = le' a b) (x : α) : ∀ l : List α, insB le (f x) (l.map f) = (insB le' x l).map f
  | [] => rfl
  | y :: r => by
    unfold insB
    rw [List.map_cons]
    show (if le (f x) (f y) = true then _ else _) = _
    rw [h x y]
    cases le' x y with
    | true => rfl
    | false =>
      show f y :: insB le (f x) (r.map f) = _
      rw [insB_map h x r]
      rfl
theorem sortB_map {f : α → β} {le : β → β → Bool} {le' : α → α → Bool} (h : ∀ a b, le (f a) (f b) = le' a b) : ∀ l : List α, sortB le (l.map f) = (sortB le' l).map f
  | [] => rfl
  | x :: r => by
    show insB le (f x) (sortB le (r.map f)) = (insB le' x (sortB le' r)).map f
    rw [sortB_map h r, insB_map h]
theorem insB_filter {le lt : α → α → Bool} (hle : ∀ a b, le a b = !lt b a) (O : Swo lt) (x y : α) : ∀ {l : List α}, Srtd lt l → (insB le y l).filter (eqv lt x) = (y :: l).filter (eqv lt x)
  | [], _ => rfl
  | z :: r, h => by
    unfold insB
    cases q : le y z with
    | true => rfl
    | false =>
      rw [if_neg (by decide)]
      rw [hle] at q
      have hzy : lt z y = true := by cases e : lt z y with | true => rfl | false => rw [e] at q; cases q
      rw [List.filter_cons, insB_filter hle O x y (List.pairwise_cons.mp h).2, List.filter_cons, List.filter_cons, List.filter_cons]
      rcases bcase (eqv lt x y) with ey | ey
      · have ez : eqv lt x z = false := by
          rcases bcase (eqv lt x z) with ez | ez
          · have a := eqv_iff.mp ey
            have b := eqv_iff.mp ez
            have : lt z y = false := O.tr y x z a.1 b.2
            rw [hzy] at this
            cases this
          · exact ez
        rw [ez]
        rfl
      · rw [ey]
        cases eqv lt x z <;> rfl
theorem sortB_stb {le lt : α → α → Bool} (hle : ∀ a b, le a b = !lt b a) (O : Swo lt) : ∀ l : List α, Srtd lt (sortB le l) ∧ Stb lt (sortB le l) l
  | [] => ⟨.nil, .refl _⟩
  | x :: r => by
    obtain ⟨h1, h2⟩ := sortB_stb hle O r
    refine ⟨?_, ⟨sortB_perm _, fun z => ?_⟩⟩
    · have tot : ∀ a b, le a b = true ∨ le b a = true := fun a b => by
        rw [hle, hle]
        rcases bcase (lt b a) with e | e
        · rw [e, O.asym _ _ e]; exact .inr rfl
        · rw [e]; exact .inl rfl
      have tr : ∀ a b c, le a b = true → le b c = true → le a c = true := fun a b c => by
        rw [hle, hle, hle]
        intro e1 e2
        have e1' : lt b a = false := by cases e : lt b a with | true => rw [e] at e1; cases e1 | false => rfl
        have e2' : lt c b = false := by cases e : lt c b with | true => rw [e] at e2; cases e2 | false => rfl
        rw [O.tr a b c e1' e2']; rfl
      refine (sortB_srt tot tr (x :: r)).imp fun {a b} h => ?_
      rw [hle] at h
      cases e : lt b a with
      | true => rw [e] at h; cases h
      | false => rfl
    · show (insB le x (sortB le r)).filter _ = _
      rw [insB_filter hle O z x h1, List.filter_cons, List.filter_cons, h2.cls]
theorem sorted_is {le lt : α → α → Bool} (hle : ∀ a b, le a b = !lt b a) (O : Swo lt) {l m : List α} (h1 : Srtd lt m) (h2 : Stb lt m l) : m = sortB le l := by
  obtain ⟨g1, g2⟩ := sortB_stb hle O l
  exact stb_uniq O h1 g1 (h2.trans ⟨g2.perm.symm, fun x => (g2.cls x).symm⟩)
end
section
variable {X : Cx} {NM : Nam} {W : WX} {e : Expr} {fa : Wk}
theorem zip_proj {α β γ : Type} : ∀ {l : List α} {m : List β} {f : β → γ}, (l.zip m).map (fun t => (t.1, f t.2)) = l.zip (m.map f)
  | [], _, _ => rfl
  | _ :: _, [], _ => rfl
  | a :: l, b :: m, f => by
    show _ :: (l.zip m).map _ = _ :: l.zip (m.map f)
    rw [zip_proj]
theorem zip_fst {α β : Type} : ∀ {l : List α} {m : List β}, l.length = m.length → (l.zip m).map (·.1) = l
  | [], [], _ => rfl
  | a :: l, b :: m, h => congrArg (a :: ·) (zip_fst (Nat.succ.inj h))
theorem zip4 {α β γ δ κ : Type} {kv : α → κ} : ∀ {a : List α} {b : List β} {c : List γ} {d : List δ}, a.length = b.length → b.length = c.length → c.length = d.length → (a.map kv).zip d = (a.zip (b.zip (c.zip d))).map (fun t => (kv t.1, t.2.2.2))
  | [], [], [], [], _, _, _ => rfl
  | x :: a, y :: b, z :: c, w :: d, h1, h2, h3 => congrArg ((kv x, w) :: ·) (zip4 (Nat.succ.inj h1) (Nat.succ.inj h2) (Nat.succ.inj h3))
theorem vals_zip {K : PySem.W.Frag} {G : Hp} : ∀ {vs : List Value} {xs : List V} {ds : List D}, Vals xs vs → Reps NM K G xs ds → ∀ t ∈ vs.zip (xs.zip ds), RelV t.2.1 t.1 ∧ Rep NM K G t.2.1 t.2.2
  | _, _, _, .nil, .nil, t, h => nomatch h
  | _, _, _, .cons r rs, .cons d ds, t, h => by
    rcases List.mem_cons.mp h with rfl | h
    · exact ⟨r, d⟩
    · exact vals_zip rs ds t h
theorem vals_of {T : List (Value × V)} (h : ∀ t ∈ T, RelV t.2 t.1) : Vals (T.map (·.2)) (T.map (·.1)) := by
  induction T with
  | nil => exact .nil
  | cons t T ih => exact .cons (h t (.head _)) (ih fun z hz => h z (.tail _ hz))
theorem srt_data {κ : Type} {K : PySem.W.Frag} {G : Hp} {lt : Value → Value → Bool} {kv : Value → κ} {le : κ → κ → Bool} (hle : ∀ a b, le (kv a) (kv b) = !lt b a) (O : Swo lt) {keys vs : List Value} {xs us : List V} {ds : List D} {ps : List Keyed} {ns : List κ} (hk : keys.map kv = ns) (hl : keys.length = vs.length)
    (h1 : Srtd (lt2 lt) ps) (h2 : Stb (lt2 lt) ps (keys.zip vs)) (r : Vals xs vs) (rd : Reps NM K G xs ds) (hu : Vals us (ps.map (·.2))) : Reps NM K G us (sortK le ns ds) := by
  have xl := r.length
  have dl := rd.len
  let T := keys.zip (vs.zip (xs.zip ds))
  have e1 : keys.zip vs = T.map (fun t => (t.1, t.2.1)) := by
    show _ = (keys.zip (vs.zip (xs.zip ds))).map _
    rw [zip_proj (f := fun (t : Value × V × D) => t.1), zip_fst (by rw [List.length_zip]; omega)]
  have e2 : ps = (sortB (fun (a b : Value × Value × V × D) => le (kv a.1) (kv b.1)) T).map (fun t => (t.1, t.2.1)) := by
    rw [sorted_is (le := fun (a b : Keyed) => le (kv a.1) (kv b.1)) (fun a b => hle a.1 b.1) (swo2 O) h1 h2, e1]
    exact sortB_map (fun a b => rfl) T
  have mem : ∀ t ∈ sortB (fun (a b : Value × Value × V × D) => le (kv a.1) (kv b.1)) T, RelV t.2.2.1 t.2.1 ∧ Rep NM K G t.2.2.1 t.2.2.2 := fun t ht => by
    have := (sortB_perm T).mem_iff.mp ht
    obtain ⟨t1, t2⟩ := t
    exact vals_zip r rd t2 (List.of_mem_zip this).2
  have e3 : sortK le ns ds = (sortB (fun (a b : Value × Value × V × D) => le (kv a.1) (kv b.1)) T).map (fun t => t.2.2.2) := by
    unfold sortK
    have ez : ns.zip ds = T.map (fun t => (kv t.1, t.2.2.2)) := by
      rw [← hk]
      exact zip4 hl (by omega) (by omega)
    rw [ez, sortB_map (f := fun (t : Value × Value × V × D) => (kv t.1, t.2.2.2)) (le := fun (p q : κ × D) => le p.1 q.1) (le' := fun (a b : Value × Value × V × D) => le (kv a.1) (kv b.1)) (fun a b => rfl), List.map_map]
    rfl
  have e4 : us = (sortB (fun (a b : Value × Value × V × D) => le (kv a.1) (kv b.1)) T).map (fun t => t.2.2.1) := by
    have hv := vals_of (T := (sortB (fun (a b : Value × Value × V × D) => le (kv a.1) (kv b.1)) T).map (fun t => (t.2.1, t.2.2.1))) (fun t ht => by
      obtain ⟨q, hq, rfl⟩ := List.mem_map.mp ht
      exact (mem q hq).1)
    rw [List.map_map, List.map_map] at hv
    refine Vals.inj hu ?_
    rw [e2, List.map_map]
    exact hv
  rw [e3, e4]
  generalize sortB (fun (a b : Value × Value × V × D) => le (kv a.1) (kv b.1)) T = L at mem
  induction L with
  | nil => exact .nil
  | cons t L ih => exact .cons (mem t (.head _)).2 (ih fun z hz => mem z (.tail _ hz))
section
variable {c : Cal} {l : Addr} {xs : List V} {ds : List D} {pr : Bool} {K : List D → Prop}
theorem drop_at {α : Type} {l : List α} {i : Nat} {x : α} (h : l[i]? = some x) : l.drop i = x :: l.drop (i + 1) := by
  obtain ⟨h1, h2⟩ := List.getElem?_eq_some_iff.mp h
  rw [List.drop_eq_getElem_cons h1, h2]
def KJ (NM : Nam) (K : PySem.W.Frag) (fs : FS) (ds : List D) (G H : Hp) (k : List D → Prop) : Nat → List V → Hp → Prop := fun i kx Hc => ∃ Gc kds, Ext G H Gc Hc ∧ Reps NM K Gc kx kds ∧ keysW fs (ds.drop i) fun ks => k (kds ++ ks)
theorem kturn {f : Addr} {fd : FuncData} {ps : List Str} {j : Nat} {G H : Hp} (FN : FnOk X.prog X.w X.K X.mg X.base (L2.CX X.prog X.w) j f fd ps (LS NM X.K 1 c.fs)) (hr : Room (j + 2) X.A) (hb : Binds X.K fd ps []) (rd : Reps NM X.K G xs ds) :
    KTurn X X.A.in1.in1 (.ref f) xs (KJ NM X.K c.fs ds G H K) := by
  rintro pins σ i x v s Hc kx hx rx I ⟨Gc, kds, ex, rk, w⟩
  obtain ⟨d, hd, hrep⟩ : ∃ d, ds[i]? = some d ∧ Rep NM X.K G x d := by
    have hi := (List.getElem?_eq_some_iff.mp hx).1
    have hl := rd.len
    obtain ⟨v', h1, h2⟩ := rd.get (i := i) (List.getElem?_eq_getElem (by omega))
    cases hx.symm.trans h1
    exact ⟨_, List.getElem?_eq_getElem (by omega), h2⟩
  rw [drop_at hd] at w
  have w' : c.fs [d] (fun y => keysW c.fs (ds.drop (i + 1)) fun ys => K (kds ++ (y :: ys))) fun _ => False := w
  have hsp : LS NM X.K 1 c.fs [x] Hc (fun k H2 => KJ NM X.K c.fs ds G H K (i + 1) (kx ++ [k]) H2) (fun _ _ _ => False) := by
    refine ⟨Gc, [d], _, _, ex.sub, .cons (hrep.mono ex.gg) .nil, rfl, w', fun k G' H' y x2 ry q => ?_, fun _ _ _ _ _ _ _ z => z⟩
    refine ⟨G', kds ++ [y], ex.trans x2, (rk.mono x2.gg).app (.cons ry .nil), ?_⟩
    simp only [List.append_assoc, List.singleton_append]
    exact q
  have e0 : Env0 X.prog X.w X.K X.mg X.base X.A.in1.in1 X.stack s Hc := I.env0.in1.in1
  have hl := FN.len _ _ _ _ hsp
  have r2 : Vals [x] [v] := .cons rx .nil
  refine wpAny_call (codeAny_mono (FN.run X.A.in1.in1 X.stack s Hc ⟨[v], []⟩ [v] [x] _ _ hr.in1.in1 e0 (by
    have := hb s [v] I.kIn (by simpa using hl)
    simpa using this) r2 hsp) fun r s' hq => ?_)
  cases r with
  | error e =>
    obtain ⟨_, _, _, _, _, _, _, _, _, _, _, _, hE⟩ := hq
    exact hE.elim
  | ok fl =>
    cases fl with
    | ret u =>
      obtain ⟨k, H2, I2, rk2, q⟩ := I.after hq
      exact ⟨k, H2, I2, rk2, q⟩
    | next => exact False.elim hq
    | brk => exact False.elim hq
    | cont => exact False.elim hq
def rSK (NM : Nam) (K : PySem.W.Frag) (pr : Bool) (c : Cal) : List V → List V → Hp → VK → Prop := fun vs zs H Q => ∃ x G d kd, vs = [x] ∧ zs = [.ref (He.ga K c.nm)] ∧ Same G H ∧ RepB NM K G H x d ∧ srtW pr c.fs d kd ∧ ∀ v G' H' r, Ext G H G' H' → Rep NM K G' v r → kd r → Q v H'
theorem leI_lt (a b : Value) : leI (iv a) (iv b) = !ltIv b a := by
  unfold leI ltIv
  rw [← decide_not]
  exact decide_eq_decide.mpr (by omega)
theorem leP_lex (p q : Int × Int) : leP p q = !lexB q p := by
  cases e : lexB q p with
  | true =>
    have := lexB_iff.mp e
    exact decide_eq_false (by omega)
  | false =>
    have := lexB_no.mp e
    exact decide_eq_true (by omega)
open Classical in
theorem cr_srt (hc : DefOk X NM c) (hlv : 2 ≤ c.lv) (har : c.ar = 1) (hdf : c.dfl = []) : CallRK X (.builtin "sorted") [Str.ofString "key"] (rSK NM X.K pr c) := by
  obtain ⟨j, f, fd, ps, dv, dvs, FN, hr, hm, hk, hb, hd, hv⟩ := hc
  rw [har] at FN
  have z1 : dvs = [] := by
    have := hv (fun _ => none)
    rw [hdf] at this
    cases this
    rfl
  subst z1
  have z2 : dv = [] := by cases hd; rfl
  subst z2
  have hr2 : Room (j + 2) X.A := hr.mono (by omega)
  intro pins s σ H vs zs us ws Q I r rz ⟨x, G, d, kd, ev, ez, sub, hx, w, q⟩
  subst ev ez
  cases d <;> first | exact w.elim | skip
  rename_i ds
  obtain ⟨a, ys, rfl, h1, h2, h3⟩ := hx.lst sub
  obtain ⟨u, rfl, ru⟩ := vals1 r
  cases ru
  obtain ⟨w1, rfl, e1⟩ := vals1 rz
  cases e1
  obtain ⟨its, rv, hl, hz⟩ := I.list (SqL.of h1)
  have ef : He.ga X.K c.nm = f := hm.2.symm
  rw [ef]
  have hxl := rv.length
  have hdl := h3.len
  have w' : keysW c.fs ds (srtE pr ds kd) := w
  refine kso_sorted (J := KJ NM X.K c.fs ds G H (srtE pr ds kd)) (L := fun lt kx keys H' => keys.length = ds.length ∧ ∃ Gc, Ext G H Gc H' ∧ ((∃ (ns : List Int) (kv : Value → Int), keys.map kv = ns ∧ (∀ a b, leI (kv a) (kv b) = !lt b a) ∧ kd (.lst (sortK leI ns ds))) ∨
    (∃ (ns : List (Int × Int)) (kv : Value → Int × Int), keys.map kv = ns ∧ (∀ a b, leP (kv a) (kv b) = !lt b a) ∧ kd (.lst (sortK leP ns ds))))) (kturn FN hr2 hb h3) I hl.isList rv (by omega) ⟨G, [], .refl sub, .nil, ?_⟩ ?_ ?_
  · simp only [List.drop_zero, List.nil_append]
    exact w'
  · rintro s' H' keys kx I' ⟨Gc, kds, ex, rk, w2⟩ rkv hkl
    rw [List.drop_of_length_le (by omega)] at w2
    have w3 : srtE pr ds kd (kds ++ []) := w2
    rw [List.append_nil] at w3
    cases pr with
    | false =>
      have w4 : (match ints? kds with
        | some ns => kd (.lst (sortK leI ns ds))
        | none => False) := w3
      split at w4
      · rename_i ns hns
        rw [ints_map hns] at rk
        have ekx := reps_ints' rk
        subst ekx
        have hI : IntsAre keys ns := rkv.ints
        exact ⟨ltIv, swo_int, ⟨by omega, Gc, ex, .inl ⟨ns, iv, iv_ints hI, leI_lt, w4⟩⟩, fun g2 => ⟨0, ints_sortable hI (by omega)⟩⟩
      · exact w4.elim
    | true =>
      have w4 : (match prs? kds with
        | some ns => kd (.lst (sortK leP ns ds))
        | none => False) := w3
      split at w4
      · rename_i ns hns
        rw [prs_eq hns] at rk
        let k : V → Int × Int := fun v => if h : ∃ p, Rep NM X.K Gc v (prD p) then Classical.choose h else (0, 0)
        have hk : ∀ y p, Rep NM X.K Gc y (prD p) → k y = p := fun y p hp => by
          have exi : ∃ p, Rep NM X.K Gc y (prD p) := ⟨p, hp⟩
          show (if h : ∃ p, Rep NM X.K Gc y (prD p) then Classical.choose h else (0, 0)) = p
          rw [dif_pos exi]
          obtain ⟨t, e1, s1⟩ := rep_pair hp
          obtain ⟨t2, e2, s2⟩ := rep_pair (Classical.choose_spec exi)
          cases e1.symm.trans e2
          have := I'.tuple_inj (sqT_mono ex.sub s1) (sqT_mono ex.sub s2)
          simp only [List.cons.injEq, V.int.injEq, and_true] at this
          exact (Prod.ext this.1 this.2).symm
        have hmem : ∀ y ∈ kx, ∃ p, Rep NM X.K Gc y (prD p) := fun y hy => by
          obtain ⟨i, hi, rfl⟩ := List.mem_iff_getElem.mp hy
          have hl := rk.len
          rw [List.length_map] at hl
          have hi2 : (ns.map prD)[i]? = some (prD ns[i]) := by rw [List.getElem?_map, List.getElem?_eq_getElem]; rfl
          obtain ⟨v, g1, g2⟩ := rk.get hi2
          rw [List.getElem?_eq_getElem hi] at g1
          cases g1
          exact ⟨_, g2⟩
        obtain ⟨e1, e2⟩ := refs_back rkv fun y hy => by
          obtain ⟨p, hp⟩ := hmem y hy
          obtain ⟨t, et, _⟩ := rep_pair hp
          exact ⟨t, et⟩
        have ek : kx.map k = ns := by
          have gen : ∀ {l : List V} {qs : List (Int × Int)}, Reps NM X.K Gc l (qs.map prD) → l.map k = qs := by
            intro l
            induction l with
            | nil => intro qs h; cases qs with | nil => rfl | cons _ _ => cases h
            | cons y l ih =>
              intro qs h
              cases qs with
              | nil => cases h
              | cons q qs =>
                cases h with
                | cons h1 h2 => rw [List.map_cons, hk y q h1, ih h2]
          exact gen rk
        have ekv : keys.map (fun u => k (backV u)) = ns := by
          rw [e1, List.map_map] at ek
          exact ek
        refine ⟨fun v u => lexB (k (backV v)) (k (backV u)), swo_lex fun u => k (backV u), ⟨by omega, Gc, ex, .inr ⟨ns, fun u => k (backV u), ekv, fun a b => leP_lex _ _, w4⟩⟩, fun g2 => ⟨s'.heap.objs.size, pairs_sortableO (k := fun u => k (backV u)) (by omega) (fun v hv => ?_) fun o ho => ?_⟩⟩
        · obtain ⟨t, rfl⟩ := e2 v hv
          have hin : V.ref t ∈ kx := by rw [e1]; exact List.mem_map.mpr ⟨_, hv, rfl⟩
          obtain ⟨p, hp⟩ := hmem _ hin
          obtain ⟨t2, et, st⟩ := rep_pair hp
          cases et
          show Srt.IsPair s'.heap (.ref t) (k (.ref t)).1 (k (.ref t)).2
          rw [show k (.ref t) = p from hk _ _ hp]
          exact is_pair I' (sqT_mono ex.sub st)
        · exact absurd (Heap.lt_size ho) (Nat.lt_irrefl _)
      · exact w4.elim
  · rintro s' H' kx keys ps us dst lt O ⟨hkl, Gc, ex, hL⟩ _ rkv z1 z2 hus hfree I'
    have gf := ex.sub.free hfree
    have len : us.length ≤ sizeLine := by
      have e1 := hus.length
      have e2 := z2.len
      rw [List.length_map] at e1
      rw [List.length_zip] at e2
      omega
    refine ⟨.ref dst, upd H' dst (.lst us), I', rfl, ?_⟩
    have xx : Ext G H (upd Gc dst (.lst us)) (upd H' dst (.lst us)) := ex.trans (.new ex.sub hfree _)
    rcases hL with ⟨ns, kv, k1, k2, k3⟩ | ⟨ns, kv, k1, k2, k3⟩
    · have rr := srt_data (NM := NM) (K := X.K) (G := Gc) k2 O k1 (by omega) z1 z2 rv (h3.mono ex.gg) hus
      exact q (.ref dst) _ _ _ xx (.lst upd_same len (rr.mono (same_upd gf))) k3
    · have rr := srt_data (NM := NM) (K := X.K) (G := Gc) k2 O k1 (by omega) z1 z2 rv (h3.mono ex.gg) hus
      exact q (.ref dst) _ _ _ xx (.lst upd_same len (rr.mono (same_upd gf))) k3
theorem se_srt (hc : DefOk X NM c) (hlv : 2 ≤ c.lv) (har : c.ar = 1) (hdf : c.dfl = []) {p1 p2 p3 p4 : Pos} {g : Str} (hgk : c.nm = g) (hgl : Gl X "sorted") (hm : X.mg "sorted" = none) (hgg : Gl X g) (hdb : (g == ("__debug__" : Str)) = false) (hg : good e = true) (ha : PE X e (LB NM X.K W fa)) :
    PE X (.Call (.Name "sorted" p1) [e] [⟨some (Str.ofString "key"), .Name g p2, p3⟩] p4) (LE NM X.K W fun ρ k x => fa ρ (fun d => srtW pr c.fs d k) x) := by
  have hmk : X.mg g = some (.ref (He.ga X.K c.nm)) := by
    obtain ⟨j, f, fd, ps, dv, dvs, FN, hr, hm, hk, hb, hd, hv⟩ := hc
    rw [← hgk, ← hm.2]
    exact hm.1
  have pk : PK X [⟨some (Str.ofString "key"), .Name g p2, p3⟩] (tCons (tC (.ref (He.ga X.K c.nm))) tNil) := pk_cons (pe_glob hgg hmk rfl hdb) pk_nil
  refine pe_imp (pe_callBK (cr_srt (pr := pr) hc hlv har hdf) hgl hm (by decide +kernel) (sa_oneB hg ha) pk (by decide +kernel) (by decide +kernel) (by rw [starEach_good hg]; rfl) (starAny (es := [e]) (by show (good e && true) = true; rw [hg]; rfl)) rfl rfl rfl) fun σ H Q ⟨F, ρ, G, kd, kx, r, q, h1, h2⟩ => ?_
  exact ⟨F, ρ, G, _, kx, r, q, fun v G1 H1 d x1 r1 q1 => ⟨v, G1, d, kd, rfl, rfl, x1.sub, r1, q1, fun v G2 H2 d x2 r2 q2 => h1 v G2 H2 d (x1.trans x2) r2 q2⟩, h2⟩
end
end
end Q
namespace Q
open PySem PySem.Spec L2
section
variable {NM : Nam} {K : PySem.W.Frag} {G H G' H' : Hp}
theorem RepFs.of : ∀ {vs : List V} {ds : List D}, Reps NM K G vs ds → RepFs NM K G H [] vs ds
  | _, _, .nil => trivial
  | _, _, .cons r rs => ⟨(if_neg (by decide)).mpr r, RepFs.of rs⟩
theorem RepFs.app : ∀ {fl : List Bool} {vs us : List V} {ds es : List D}, fl.length = vs.length → RepFs NM K G H fl vs ds → Reps NM K G us es → RepFs NM K G H fl (vs ++ us) (ds ++ es)
  | [], [], us, ds, es, _, h, r => by
    cases ds with
    | nil => exact RepFs.of r
    | cons d ds => exact h.elim
  | b :: fl, v :: vs, us, ds, es, hl, h, r => by
    cases ds with
    | nil => exact h.elim
    | cons d ds => exact ⟨h.1, RepFs.app (Nat.succ.inj hl) h.2 r⟩
theorem RepFs.len : ∀ {fl : List Bool} {vs : List V} {ds : List D}, RepFs NM K G H fl vs ds → vs.length = ds.length
  | _, [], [], _ => rfl
  | _, [], _ :: _, h => h.elim
  | _, _ :: _, [], h => h.elim
  | _, v :: vs, d :: ds, h => congrArg Nat.succ (RepFs.len h.2)
def LAB (NM : Nam) (K : PySem.W.Frag) (W : WX) (n : Nat) (fl : List Bool) (f : Ak) : TA := fun σ H Q => ∃ F ρ G kd kx, R NM K F ρ G σ H ∧ f ρ kd kx ∧ (∀ vs G' H' ds, Ext G H G' H' → RepFs NM K G' H' fl vs ds → vs.length = n → kd ds → Q vs H') ∧ (∀ cls dx G' H' x, Ext G H G' H' → RepX NM K G' cls dx x → kx x → W cls dx σ H')
end
section
variable {X : Cx} {NM : Nam} {B : List Str} {Φ : List Cal} {Γ : List (Str × D)} {AT : List (Nat × Nat)} {W : WX} {a b c e : Expr} {fa fb fc : Wk} {pos : Pos} {n : Nat} {g : Ak} {es : List Expr} {fl : List Bool}
theorem sab_nil : PA X [] (LAB NM X.K W 0 [] fun _ k _ => k []) := pa_imp pa_nil fun σ H Q ⟨F, ρ, G, kd, kx, r, q, h1, h2⟩ => h1 [] G H [] (.refl r.sub) trivial rfl q
theorem sab_f (hg : good e = true) (ha : PE X e (LE NM X.K W fa)) (hr : PA X es (LAB NM X.K W n fl g)) : PA X (e :: es) (LAB NM X.K W (n + 1) (false :: fl) fun ρ k x => fa ρ (fun d => g ρ (fun ds => k (d :: ds)) x) x) :=
  pa_imp (pa_cons ha hr (starEach_good hg)) fun σ H Q ⟨F, ρ, G, kd, kx, r, q, h1, h2⟩ => ⟨F, ρ, G, _, kx, r, q, fun v G1 H1 d x1 r1 q1 => ⟨F, ρ, G1, _, kx, r.ext x1, q1, fun vs G2 H2 ds x2 r2 l2 q2 =>
    h1 _ G2 H2 (d :: ds) (x1.trans x2) ⟨(if_neg (show ¬ ((false : Bool) = true) from by decide)).mpr (r1.mono x2.gg), r2⟩ (congrArg Nat.succ l2) q2, fun c d G2 H2 x x2 => h2 c d G2 H2 x (x1.trans x2)⟩, h2⟩
theorem sab_t (hg : good e = true) (ha : PE X e (LB NM X.K W fa)) (hr : PA X es (LAB NM X.K W n fl g)) : PA X (e :: es) (LAB NM X.K W (n + 1) (true :: fl) fun ρ k x => fa ρ (fun d => g ρ (fun ds => k (d :: ds)) x) x) :=
  pa_imp (pa_cons ha hr (starEach_good hg)) fun σ H Q ⟨F, ρ, G, kd, kx, r, q, h1, h2⟩ => ⟨F, ρ, G, _, kx, r, q, fun v G1 H1 d x1 r1 q1 => ⟨F, ρ, G1, _, kx, r.ext x1, q1, fun vs G2 H2 ds x2 r2 l2 q2 =>
    h1 _ G2 H2 (d :: ds) (x1.trans x2) ⟨(if_pos (show (true : Bool) = true from rfl)).mpr (r1.ext x2), r2⟩ (congrArg Nat.succ l2) q2, fun c d G2 H2 x x2 => h2 c d G2 H2 x (x1.trans x2)⟩, h2⟩
theorem se_bcall (tk : Takes X W) {c : Cal} (hc : DefOkB X NM c) {x : Str} {p : Pos} (hx : c.nm = x) (hgl : Gl X x) (hdb : (x == ("__debug__" : Str)) = false) (hga : (e :: es).all good = true) (hn : n + c.dfl.length = c.ar) (hbw : c.bw.length = n) (ha : PA X (e :: es) (LAB NM X.K W n c.bw g)) :
    PE X (.Call (.Name x p) (e :: es) [] pos) (LE NM X.K W fun ρ k x => g ρ (fun ds => c.fs (ds ++ c.dfl) k x) x) := by
  obtain ⟨j, f, fd, ps, ds, dvs, F, hr, hm, hk, hb, hd, hv⟩ := hc
  have hg2 := Bool.and_eq_true_iff.mp (show (good e && es.all good) = true from hga)
  refine pe_imp (pe_callSD (E := WE W) F hr hgl (by rw [← hx]; exact hm.1) hk hb hd (fun σ => passAt tk σ) ha hdb (starEach_good hg2.1) (starAny hg2.2)) fun σ H Q ⟨Fr, ρ, G, kd, kx, r, q, h1, h2⟩ => ?_
  refine ⟨Fr, ρ, G, _, kx, r, q, fun vs G1 H1 es x1 r1 l1 q1 => ?_, h2⟩
  refine ⟨G1, es ++ c.dfl, kd, kx, x1.sub, r1.app (by rw [hbw, l1]) (hv G1), ?_, q1, fun v G2 H2 d x2 r2 q2 => h1 v G2 H2 d (x1.trans x2) r2 q2, fun cl d G2 H2 x x2 rx q2 => h2 cl d G2 H2 x (x1.trans x2) rx q2⟩
  rw [List.length_append, (hv G1).len, l1]
  exact hn
def isMtD (NM : Nam) (c : Cal) : D → Prop
  | .ins i ks _ => i = c.cls ∧ (ks.all fun k => decide (NM.at_ k ≠ c.mt)) = true
  | _ => False
theorem meth_ok {G H : Hp} {v : V} {d : D} {c : Cal} {X : Cx} (sub : Same G H) (h : RepB NM X.K G H v d) (w : isMtD NM c d) : ∃ a dx fs, v = .ref a ∧ H a = some (.ins (He.ga X.K (NM.cl c.cls)) dx fs) ∧ fs.lookup c.mt = none := by
  cases d <;> first | exact w.elim | skip
  obtain ⟨rfl, w2⟩ := w
  cases h with
  | frz r =>
    cases r with
    | ins e1 e2 e3 => exact ⟨_, _, _, rfl, sub _ _ e1, zip_no w2⟩
  | obj e1 e2 e3 e4 => exact ⟨_, _, _, rfl, e1, zip_no w2⟩
theorem brw_lb {i : Nat} (h : PE X e (tVar i)) : PE X e (LB NM X.K W fun ρ k _ => brwW i ρ k) := pe_imp (se_brw (NM := NM) (W := W) (Φ := []) (Γ := []) (AT := []) h) fun σ H Q ⟨F, ρ, G, kd, kx, r, q, h1, h2⟩ => ⟨F, ρ, G, kd, kx, r, by
  simp only [wpE]
  unfold brwW at q
  exact q, h1, h2⟩
theorem repF_falses {G H : Hp} : ∀ {m : Nat} {vs : List V} {ds : List D}, Reps NM X.K G vs ds → RepFs NM X.K G H (List.replicate m false) vs ds
  | 0, _, _, r => RepFs.of r
  | m + 1, _, _, .nil => trivial
  | m + 1, _, _, .cons r rs => ⟨(if_neg (show ¬ ((false : Bool) = true) from by decide)).mpr r, repF_falses (m := m) rs⟩
theorem se_bmeth (tk : Takes X W) {c : Cal} {i : Nat} (hc : MetOkB X NM c) {m : Str} {apos : Pos} {o : Expr} (hrv : recvB o = true) (hli : (apos.endLine == pos.line) = true) (h28 : es.length < 28) (hx : c.mt = m) (hga : (e :: es).all good = true) (hn : n + 1 + c.dfl.length = c.ar) (hbw : c.bw = true :: List.replicate n false) (ho : PE X o (tVar i)) (ha : PA X (e :: es) (LA NM X.K W n g)) :
    PE X (.Call (.Attribute o m apos) (e :: es) [] pos) (LE NM X.K W fun ρ k x => brwW i ρ fun d => (match d with
      | .ins i ks _ => i = c.cls ∧ (ks.all fun k => decide (NM.at_ k ≠ c.mt)) = true
      | _ => False) ∧ g ρ (fun ds => c.fs (d :: (ds ++ c.dfl)) k x) x) := by
  obtain ⟨j, f, fd, ps, ds, dvs, F, hr, hC, hM, hb, hd, hv⟩ := hc
  subst hx
  have hg2 := Bool.and_eq_true_iff.mp (show (good e && es.all good) = true from hga)
  have ho' := brw_lb (NM := NM) (W := W) ho
  have pe : PE X (.Call (.Attribute o c.mt apos) (e :: es) [] pos) (fun σ H Q => (LB NM X.K W fun ρ k _ => brwW i ρ k) σ H fun x H1 => ∃ a dx fs, x = .ref a ∧ H1 a = some (.ins (He.ga X.K (NM.cl c.cls)) dx fs) ∧ fs.lookup c.mt = none ∧ LA NM X.K W n g σ H1 fun vs H2 => LSB NM X.K c.ar c.bw c.fs (x :: (vs ++ dvs)) H2 Q (WE W σ)) := by
    refine ⟨fun pins s σ H Q I h => ?_⟩
    obtain ⟨pl, hpl⟩ := eval_meth (pos := pos) (m := c.mt) (apos := apos) (env := X.env) hrv hli hga h28
    refine PySem.W.methodCall_KW (pl := pl) (thn (ho'.run pins s σ H _ I h) fun u s1 ⟨x, H1, I1, rx, a, dx, fs, ex, ea, l, q⟩ => ?_) hpl
    subst ex
    cases (show u = Value.ref a from rx)
    refine getmeth_ok I1 ea hC hM l ?_
    refine PySem.W.callWith_K (h₀ := X.base) (first := [.ref a]) I1.ok.mod.kin hM.kp (thn (ha.run pos pins s1 σ H1 _ I1 q) fun us s2 ⟨vs, H2, I2, r2, q2⟩ => ⟨I2.kIn, ?_⟩) (starEach_good hg2.1) (starAny hg2.2)
    exact run_fnSD (E := WE W) (us := .ref a :: us) (vs := .ref a :: vs) F hr hb hd (passAt tk σ) I2 (.cons rfl r2) q2
  refine pe_imp pe fun σ H Q ⟨Fr, ρ, G, kd, kx, r, q, h1, h2⟩ => ?_
  refine ⟨Fr, ρ, G, _, kx, r, q, fun v G1 H1 d x1 r1 q1 => ?_, h2⟩
  obtain ⟨q1, q2⟩ := q1
  obtain ⟨a, dx, fs, ev, e1, e2⟩ := meth_ok (c := c) (X := X) x1.sub r1 (by cases d <;> exact q1)
  refine ⟨a, dx, fs, ev, e1, e2, Fr, ρ, G1, _, kx, r.ext x1, q2, fun vs G2 H2 es' x2 r2 l2 q4 => ?_, fun cl d' G2 H2 x x2 rx q5 => h2 cl d' G2 H2 x (x1.trans x2) rx q5⟩
  refine ⟨G2, d :: (es' ++ c.dfl), kd, kx, x2.sub, ?_, ?_, q4, fun v G3 H3 d x3 r3 q5 => h1 v G3 H3 d ((x1.trans x2).trans x3) r3 q5, fun cl d G3 H3 x x3 rx q5 => h2 cl d G3 H3 x ((x1.trans x2).trans x3) rx q5⟩
  · rw [hbw]
    exact ⟨(if_pos (show (true : Bool) = true from rfl)).mpr (r1.ext x2), repF_falses (r2.app (hv G2))⟩
  · rw [List.length_cons, List.length_append, (hv G2).len, l2]
    omega
theorem se_bmeth0 (tk : Takes X W) {c : Cal} {i : Nat} (hc : MetOkB X NM c) {m : Str} {apos : Pos} {o : Expr} (hrv : recvB o = true) (hli : (apos.endLine == pos.line) = true) (hx : c.mt = m) (hn : 1 + c.dfl.length = c.ar) (hbw : c.bw = [true]) (ho : PE X o (tVar i)) :
    PE X (.Call (.Attribute o m apos) [] [] pos) (LE NM X.K W fun ρ k x => brwW i ρ fun d => (match d with
      | .ins i ks _ => i = c.cls ∧ (ks.all fun k => decide (NM.at_ k ≠ c.mt)) = true
      | _ => False) ∧ c.fs (d :: ([] ++ c.dfl)) k x) := by
  obtain ⟨j, f, fd, ps, ds, dvs, F, hr, hC, hM, hb, hd, hv⟩ := hc
  subst hx
  have ho' := brw_lb (NM := NM) (W := W) ho
  have pe : PE X (.Call (.Attribute o c.mt apos) [] [] pos) (fun σ H Q => (LB NM X.K W fun ρ k _ => brwW i ρ k) σ H fun x H1 => ∃ a dx fs, x = .ref a ∧ H1 a = some (.ins (He.ga X.K (NM.cl c.cls)) dx fs) ∧ fs.lookup c.mt = none ∧ LSB NM X.K c.ar c.bw c.fs (x :: ([] ++ dvs)) H1 Q (WE W σ)) := by
    refine ⟨fun pins s σ H Q I h => ?_⟩
    obtain ⟨pl, hpl⟩ := eval_meth0 (pos := pos) (m := c.mt) (apos := apos) (env := X.env) hrv hli
    refine PySem.W.methodCall_KW (pl := pl) (thn (ho'.run pins s σ H _ I h) fun u s1 ⟨x, H1, I1, rx, a, dx, fs, ex, ea, l, q⟩ => ?_) hpl
    subst ex
    cases (show u = Value.ref a from rx)
    refine getmeth_ok I1 ea hC hM l ?_
    refine PySem.W.callWith_K0 (first := [.ref a]) I1.kIn hM.kp ?_
    exact run_fnSD (E := WE W) (us := [.ref a]) (vs := [.ref a]) F hr hb hd (passAt tk σ) I1 (.cons rfl .nil) q
  refine pe_imp pe fun σ H Q ⟨Fr, ρ, G, kd, kx, r, q, h1, h2⟩ => ⟨Fr, ρ, G, _, kx, r, q, fun v G1 H1 d x1 r1 q1 => ?_, h2⟩
  obtain ⟨q1, q2⟩ := q1
  obtain ⟨a, dx, fs, ev, e1, e2⟩ := meth_ok (c := c) (X := X) x1.sub r1 (by cases d <;> exact q1)
  refine ⟨a, dx, fs, ev, e1, e2, G1, _, kd, kx, x1.sub, ?_, ?_, q2, fun v G3 H3 d x3 r3 q5 => h1 v G3 H3 d (x1.trans x3) r3 q5, fun cl d G3 H3 x x3 rx q5 => h2 cl d G3 H3 x (x1.trans x3) rx q5⟩
  · rw [hbw]
    exact ⟨(if_pos (by decide)).mpr r1, RepFs.of (hv G1)⟩
  · show ([] ++ dvs).length + 1 = c.ar
    rw [List.nil_append, (hv G1).len]
    omega
end
end Q
namespace Q
open PySem PySem.Spec L2
section
variable {NM : Nam} {B : List Str} {Φ : List Cal} {Γ : List (Str × D)} {AT : List (Nat × Nat)}
abbrev RE (NM : Nam) (B : List Str) (Φ : List Cal) (Γ : List (Str × D)) (AT : List (Nat × Nat)) (i : E) : Prop := ∀ (X : Cx) (W : WX) (e : Expr), Ok X NM B Φ Γ AT → Takes X W → chE NM X.N B Φ Γ i X.env.scope e = true → i.noB = true → PE X e (LE NM X.K W (wpE NM AT Φ Γ i))
abbrev REs (NM : Nam) (B : List Str) (Φ : List Cal) (Γ : List (Str × D)) (AT : List (Nat × Nat)) (is : List E) : Prop := ∀ (X : Cx) (W : WX) (es : List Expr), Ok X NM B Φ Γ AT → Takes X W → chEs NM X.N B Φ Γ is X.env.scope es = true → PA X es (LA NM X.K W is.length (wpEs NM AT Φ Γ is)) ∧ es.all good = true ∧ is.length = es.length
abbrev RL (NM : Nam) (B : List Str) (Φ : List Cal) (Γ : List (Str × D)) (AT : List (Nat × Nat)) (is : List E) : Prop := ∀ (X : Cx) (W : WX) (es : List Expr) (pos : Pos), Ok X NM B Φ Γ AT → Takes X W → chEs NM X.N B Φ Γ is X.env.scope es = true → es ≠ [] → PE X (.BoolOp .And es pos) (LE NM X.K W (wpAnd NM AT Φ Γ is)) ∧ PE X (.BoolOp .Or es pos) (LE NM X.K W (wpOr NM AT Φ Γ is))
abbrev RO (NM : Nam) (B : List Str) (Φ : List Cal) (Γ : List (Str × D)) (AT : List (Nat × Nat)) (i : Option E) : Prop := ∀ (X : Cx) (W : WX) (e : Option Expr), Ok X NM B Φ Γ AT → Takes X W → chO NM X.N B Φ Γ i X.env.scope e = true → PO X e (LO NM X.K W (wpO NM AT Φ Γ i))
abbrev RT (NM : Nam) (B : List Str) (Φ : List Cal) (Γ : List (Str × D)) (AT : List (Nat × Nat)) (i : T) : Prop := ∀ (X : Cx) (W : WX) (e : Expr), Ok X NM B Φ Γ AT → Takes X W → chT NM X.N B Φ Γ i X.env.scope e = true → PT X e (LT NM X.K W (wpT NM AT Φ Γ i))
abbrev RTl (NM : Nam) (B : List Str) (Φ : List Cal) (Γ : List (Str × D)) (AT : List (Nat × Nat)) (is : List T) : Prop := ∀ (X : Cx) (W : WX) (es : List Expr) (pos : Pos), Ok X NM B Φ Γ AT → Takes X W → chTl NM X.N B Φ Γ is X.env.scope es = true → es ≠ [] → PW X (.BoolOp .And es pos) (LT NM X.K W (wpTand NM AT Φ Γ is)) ∧ PW X (.BoolOp .Or es pos) (LT NM X.K W (wpTor NM AT Φ Γ is))
abbrev RTs (NM : Nam) (B : List Str) (Φ : List Cal) (Γ : List (Str × D)) (AT : List (Nat × Nat)) (is : List T) : Prop := ∀ (X : Cx) (W : WX) (es : List Expr), Ok X NM B Φ Γ AT → Takes X W → chTs NM X.N B Φ Γ is X.env.scope es = true → PTs X es (LT NM X.K W (wpTs NM AT Φ Γ is))
abbrev RI (NM : Nam) (B : List Str) (Φ : List Cal) (Γ : List (Str × D)) (AT : List (Nat × Nat)) (i : It) : Prop := ∀ (X : Cx) (W : WX) (tg e : Expr), Ok X NM B Φ Γ AT → Takes X W → chI NM X.N B Φ Γ i X.env.scope tg e = true → PI X tg e (LW NM X.K W false (wpI NM AT Φ Γ i)) ∧ ((∀ a, i = .ex a → a.noB = true) → PI X tg e (LW NM X.K W true (wpI NM AT Φ Γ i)))
theorem re_var (i : Nat) : RE NM B Φ Γ AT (.var i) := fun X W e ok tk h _ => by
  unfold chE at h
  split at h
  · rename_i x hx
    obtain ⟨p, rfl⟩ := asName_eq hx
    exact se_var (varB_pv h rfl rfl)
  · cases h
theorem re_cst (d : D) : RE NM B Φ Γ AT (.cst d) := fun X W e ok tk h _ => by
  unfold chE at h
  split at h
  · rename_i c hc
    obtain ⟨j, p, rfl⟩ := asConst_eq hc
    cases d <;> cases c <;> first | (cases h; done) | skip
    · exact se_atom pe_non fun G => .non
    · cases (show _ = _ from eq_of_beq h)
      exact se_atom pe_bl fun G => .bl _
    · cases of_decide_eq_true h
      exact se_atom pe_int fun G => .int _
    · cases of_decide_eq_true h
      exact se_atom pe_str fun G => .str _
  · split at h
    · rename_i n x hx _
      obtain ⟨p, rfl⟩ := asName_eq hx
      obtain ⟨h1, h2⟩ := band h
      obtain ⟨b1, b2⟩ := tyN_ok (of_decide_eq_true h2)
      obtain ⟨g1, g2, g3, g4⟩ := freB_ok (X := X) h1 rfl ok b2
      exact se_atom (pe_bltn (v := .ty n) g1 g3 b1 rfl g4 g2) fun G => .ty n
    · cases h
theorem re_glo (j : Nat) : RE NM B Φ Γ AT (.glo j) := fun X W e ok tk h _ => by
  unfold chE at h
  split at h
  · rename_i x p hx hp
    obtain ⟨q, rfl⟩ := asName_eq hx
    obtain ⟨h1, h2⟩ := band h
    cases of_decide_eq_true h1
    obtain ⟨g1, g2⟩ := gloB_gl (X := X) h2 rfl
    obtain ⟨v, u, m1, m2, m3⟩ := ok.glo j p hp
    have := se_atom (W := W) (NM := NM) (pe_glob (pos := q) g1 m1 m2 g2) m3
    refine pe_imp this fun σ H Q ⟨F, ρ, G, kd, kx, r, w, h1, h2⟩ => ⟨F, ρ, G, kd, kx, r, ?_, h1, h2⟩
    simp only [wpE, hp] at w
    exact w
  · cases h
theorem re_bin (o : Bop) {a b : E} (ia : RE NM B Φ Γ AT a) (ib : RE NM B Φ Γ AT b) : RE NM B Φ Γ AT (.bin o a b) := fun X W e ok tk h _ => by
  unfold chE at h
  split at h
  · rename_i x p y hx
    obtain ⟨q, rfl⟩ := asBin_eq hx
    obtain ⟨h, h3⟩ := band h
    obtain ⟨h1, h2⟩ := band h
    exact se_bin h1 (toB (N := []) (ia X W _ ok tk h2) h2) (toB (N := []) (ib X W _ ok tk h3) h3)
  · cases h
theorem re_cmp (o : Cop) {a b : E} (ia : RE NM B Φ Γ AT a) (ib : RE NM B Φ Γ AT b) : RE NM B Φ Γ AT (.cmp o a b) := fun X W e ok tk h _ => by
  unfold chE at h
  split at h
  · rename_i x p y hx
    obtain ⟨q, rfl⟩ := asCmp_eq hx
    obtain ⟨h, h3⟩ := band h
    obtain ⟨h1, h2⟩ := band h
    exact se_cmp ok h1 (toB (N := []) (ia X W _ ok tk h2) h2) (toB (N := []) (ib X W _ ok tk h3) h3)
  · cases h
theorem re_chn (o o' : Cop) {a b c : E} (ia : RE NM B Φ Γ AT a) (ib : RE NM B Φ Γ AT b) (ic : RE NM B Φ Γ AT c) : RE NM B Φ Γ AT (.chn o o' a b c) := fun X W e ok tk h _ => by
  unfold chE at h
  split at h
  · rename_i x p p' y z hx
    obtain ⟨q, rfl⟩ := asCmp_eq hx
    obtain ⟨h, h5⟩ := band h
    obtain ⟨h, h4⟩ := band h
    obtain ⟨h, h3⟩ := band h
    obtain ⟨h1, h2⟩ := band h
    exact se_chn ok h1 h2 (toB (N := []) (ia X W _ ok tk h3) h3) (toB (N := []) (ib X W _ ok tk h4) h4) (toB (N := []) (ic X W _ ok tk h5) h5)
  · cases h
theorem re_ch3 (o o' o3 : Cop) {a b c d : E} (ia : RE NM B Φ Γ AT a) (ib : RE NM B Φ Γ AT b) (ic : RE NM B Φ Γ AT c) (id' : RE NM B Φ Γ AT d) : RE NM B Φ Γ AT (.ch3 o o' o3 a b c d) := fun X W e ok tk h _ => by
  unfold chE at h
  split at h
  · rename_i x p p' p3 y z t hx
    obtain ⟨q, rfl⟩ := asCmp_eq hx
    obtain ⟨h, h7⟩ := band h
    obtain ⟨h, h6⟩ := band h
    obtain ⟨h, h5⟩ := band h
    obtain ⟨h, h4⟩ := band h
    obtain ⟨h, h3⟩ := band h
    obtain ⟨h1, h2⟩ := band h
    exact se_ch3 ok h1 h2 h3 (toB (N := []) (ia X W _ ok tk h4) h4) (toB (N := []) (ib X W _ ok tk h5) h5) (toB (N := []) (ic X W _ ok tk h6) h6) (toB (N := []) (id' X W _ ok tk h7) h7)
  · cases h
theorem re_neg {a : E} (ia : RE NM B Φ Γ AT a) : RE NM B Φ Γ AT (.neg a) := fun X W e ok tk h _ => by
  unfold chE at h
  split at h
  · rename_i x hx
    obtain ⟨q, rfl⟩ := asUn_eq hx
    obtain ⟨h1, h2⟩ := band h
    exact se_neg (le_lb (ia X W _ ok tk h2 h1))
  · cases h
theorem re_not {a : E} (ia : RE NM B Φ Γ AT a) : RE NM B Φ Γ AT (.not a) := fun X W e ok tk h _ => by
  unfold chE at h
  split at h
  · rename_i x hx
    obtain ⟨q, rfl⟩ := asUn_eq hx
    obtain ⟨h1, h2⟩ := band h
    exact se_not (le_lb (ia X W _ ok tk h2 h1))
  · cases h
theorem re_and {as : List E} (ia : RL NM B Φ Γ AT as) (hn : as ≠ []) : RE NM B Φ Γ AT (.and as) := fun X W e ok tk h _ => by
  unfold chE at h
  split at h
  · rename_i xs hx
    obtain ⟨q, rfl⟩ := asBoo_eq hx
    refine (ia X W xs q ok tk h fun z => ?_).1
    subst z
    cases as with
    | nil => exact hn rfl
    | cons _ _ => unfold chEs at h; cases h
  · cases h
theorem re_or {as : List E} (ia : RL NM B Φ Γ AT as) (hn : as ≠ []) : RE NM B Φ Γ AT (.or as) := fun X W e ok tk h _ => by
  unfold chE at h
  split at h
  · rename_i xs hx
    obtain ⟨q, rfl⟩ := asBoo_eq hx
    refine (ia X W xs q ok tk h fun z => ?_).2
    subst z
    cases as with
    | nil => exact hn rfl
    | cons _ _ => unfold chEs at h; cases h
  · cases h
theorem re_ife {c : T} {a b : E} (ic : RT NM B Φ Γ AT c) (ia : RE NM B Φ Γ AT a) (ib : RE NM B Φ Γ AT b) : RE NM B Φ Γ AT (.ife c a b) := fun X W e ok tk h _ => by
  unfold chE at h
  split at h
  · rename_i x y z hx
    obtain ⟨q, rfl⟩ := asIfE_eq hx
    obtain ⟨h, h5⟩ := band h
    obtain ⟨h, h4⟩ := band h
    obtain ⟨h, h3⟩ := band h
    obtain ⟨h1, h2⟩ := band h
    exact se_ife (ic X W _ ok tk h3) (ia X W _ ok tk h4 h1) (ib X W _ ok tk h5 h2)
  · cases h
theorem re_call (j : Nat) {as : List E} (ia : REs NM B Φ Γ AT as) : RE NM B Φ Γ AT (.call j as) := fun X W e ok tk h _ => by
  unfold chE at h
  split at h
  · rename_i f x xs hx
    obtain ⟨q, rfl⟩ := asCall_eq hx
    obtain ⟨h1, h2⟩ := band h
    obtain ⟨a1, a2, a3⟩ := ia X W _ ok tk h2
    split at h1
    · rename_i n c hn hc
      obtain ⟨p, rfl⟩ := asName_eq hn
      obtain ⟨h1, h6⟩ := band h1
      obtain ⟨h1, h5⟩ := band h1
      obtain ⟨h1, h7⟩ := band h1
      obtain ⟨h3, h4⟩ := band h1
      obtain ⟨g1, g2⟩ := gloB_gl (X := X) h6 rfl
      have := se_call (pos := q) (p := p) tk (ok.dfs c (List.mem_of_getElem? hc) (of_decide_eq_true h4) h7) (of_decide_eq_true h3) g1 g2 a2 (by rw [a3]; exact of_decide_eq_true h5) a1
      refine pe_imp this fun σ H Q ⟨F, ρ, G, kd, kx, r, w, h1, h2⟩ => ⟨F, ρ, G, kd, kx, r, ?_, h1, h2⟩
      simp only [wpE, hc] at w
      exact w
    · cases h1
  · cases h
theorem re_fnm (j : Nat) : RE NM B Φ Γ AT (.fnm j) := fun X W e ok tk h _ => by
  unfold chE at h
  split at h
  · rename_i x c hx hc
    obtain ⟨q, rfl⟩ := asName_eq hx
    obtain ⟨h, h3⟩ := band h
    obtain ⟨h, h4⟩ := band h
    obtain ⟨h1, h2⟩ := band h
    obtain ⟨g1, g2⟩ := gloB_gl (X := X) h3 rfl
    obtain ⟨j', f, fd, ps, ds, dvs, F, hr, hm, hk, _⟩ := ok.dfs c (List.mem_of_getElem? hc) (of_decide_eq_true h2) h4
    have hm' : X.mg x = some (.ref (He.ga X.K c.nm)) := by rw [← of_decide_eq_true h1, ← hm.2]; exact hm.1
    have := se_atom (W := W) (NM := NM) (pe_glob (pos := q) (v := .ref (He.ga X.K c.nm)) g1 hm' rfl g2) fun G => .fn c.nm
    refine pe_imp this fun σ H Q ⟨F, ρ, G, kd, kx, r, w, h1, h2⟩ => ⟨F, ρ, G, kd, kx, r, ?_, h1, h2⟩
    simp only [wpE, hc] at w
    exact w
  · cases h
theorem re_calv (i : Nat) {as : List E} (ia : REs NM B Φ Γ AT as) : RE NM B Φ Γ AT (.calv i as) := fun X W e ok tk h _ => by
  unfold chE at h
  split at h
  · rename_i f x xs hx
    obtain ⟨q, rfl⟩ := asCall_eq hx
    obtain ⟨h1, h2⟩ := band h
    obtain ⟨a1, a2, a3⟩ := ia X W _ ok tk h2
    split at h1
    · rename_i n hn
      obtain ⟨p, rfl⟩ := asName_eq hn
      unfold varB at h1
      simp only [Bool.and_eq_true, decide_eq_true_eq, Bool.not_eq_true'] at h1
      obtain ⟨⟨⟨h1, h3⟩, h4⟩, h5⟩ := h1
      have hv : Vis X.env.scope n := by
        unfold visB at h3
        unfold Vis
        split at h3 <;> first | (rename_i q; rw [q]; simp) | cases h3
      refine ⟨fun pins s σ H Q I ⟨F, ρ, G, kd, kx, r, w, k1, k2⟩ => ?_⟩
      simp only [wpE] at w
      split at w
      · rename_i nm hs
        split at w
        · rename_i c hc
          have hp := List.find?_some hc
          obtain ⟨hp, p3⟩ := band hp
          obtain ⟨p1, p2⟩ := band hp
          have e1 : c.nm = nm := of_decide_eq_true p1
          subst e1
          have := se_calv (pos := q) (p := p) (NM := NM) (W := W) tk (ok.dfs c (List.mem_of_find?_eq_some hc) (of_decide_eq_true p2) p3) h1 hv h4 h5 a2 a1
          exact this.run pins s σ H Q I ⟨F, ρ, G, kd, kx, r, ⟨hs, w.1, w.2⟩, k1, k2⟩
        · exact w.elim
      · exact w.elim
    · cases h1
  · cases h
theorem re_srt (pr : Bool) (j : Nat) {a : E} (ia : RE NM B Φ Γ AT a) : RE NM B Φ Γ AT (.srt pr j a) := fun X W e ok tk h _ => by
  unfold chE at h
  split at h
  · rename_i f x k g hx
    obtain ⟨p1, p2, p3, p4, rfl⟩ := asSK_eq hx
    obtain ⟨h, h6⟩ := band h
    obtain ⟨h, h5⟩ := band h
    obtain ⟨h, h4⟩ := band h
    obtain ⟨h, h3⟩ := band h
    obtain ⟨h1, h2⟩ := band h
    cases of_decide_eq_true h1
    cases of_decide_eq_true h2
    obtain ⟨g1, g2, g3, g4⟩ := freB_ok (X := X) h3 rfl ok (by decide +kernel)
    split at h5
    · rename_i c hc
      obtain ⟨h5, k7⟩ := band h5
      obtain ⟨h5, k6⟩ := band h5
      obtain ⟨h5, k5⟩ := band h5
      obtain ⟨h5, k4⟩ := band h5
      obtain ⟨h5, k3⟩ := band h5
      obtain ⟨k1, k2⟩ := band h5
      obtain ⟨g5, g6⟩ := gloB_gl (X := X) k7 rfl
      have hdf : c.dfl = [] := List.isEmpty_iff.mp k5
      have har : c.ar = 1 := by
        have := of_decide_eq_true k4
        rw [hdf] at this
        exact this.symm
      have := se_srt (W := W) (NM := NM) (pr := pr) (p1 := p1) (p2 := p2) (p3 := p3) (p4 := p4) (ok.dfs c (List.mem_of_getElem? hc) (of_decide_eq_true k2) k3) (of_decide_eq_true k6) har hdf (of_decide_eq_true k1) g1 g3 g5 g6 h4 (toB (N := []) (ia X W _ ok tk h6) h6)
      refine pe_imp this fun σ H Q ⟨F, ρ, G, kd, kx, r, w, h1, h2⟩ => ⟨F, ρ, G, kd, kx, r, ?_, h1, h2⟩
      simp only [wpE, hc] at w
      exact w
    · cases h5
  · cases h
abbrev REb (NM : Nam) (B : List Str) (Φ : List Cal) (Γ : List (Str × D)) (AT : List (Nat × Nat)) (bs : List Bool) (is : List E) : Prop := ∀ (X : Cx) (W : WX) (es : List Expr), Ok X NM B Φ Γ AT → Takes X W → chEb NM X.N B Φ Γ bs is X.env.scope es = true → PA X es (LAB NM X.K W is.length bs (wpEs NM AT Φ Γ is)) ∧ es.all good = true ∧ is.length = es.length ∧ bs.length = is.length
theorem re_bcall (j : Nat) {as : List E} (ia : ∀ bs, REb NM B Φ Γ AT bs as) : RE NM B Φ Γ AT (.bcall j as) := fun X W e ok tk h _ => by
  unfold chE at h
  split at h
  · rename_i f x xs hx
    obtain ⟨q, rfl⟩ := asCall_eq hx
    split at h
    · rename_i n c hn hc
      obtain ⟨p, rfl⟩ := asName_eq hn
      obtain ⟨h, h7⟩ := band h
      obtain ⟨h, h6⟩ := band h
      obtain ⟨h, h5⟩ := band h
      obtain ⟨h, h4⟩ := band h
      obtain ⟨h3, h2⟩ := band h
      obtain ⟨a1, a2, a3, a4⟩ := ia _ X W _ ok tk h7
      obtain ⟨g1, g2⟩ := gloB_gl (X := X) h6 rfl
      have h4' : c.bw.isEmpty = false := by cases e : c.bw.isEmpty with | true => rw [e] at h4; cases h4 | false => rfl
      have := se_bcall (pos := q) (p := p) tk (ok.dfb c (List.mem_of_getElem? hc) (of_decide_eq_true h2) h4') (of_decide_eq_true h3) g1 g2 a2 (by rw [a3]; exact of_decide_eq_true h5) a4 a1
      refine pe_imp this fun σ H Q ⟨F, ρ, G, kd, kx, r, w, h1, h2⟩ => ⟨F, ρ, G, kd, kx, r, ?_, h1, h2⟩
      simp only [wpE, hc] at w
      exact w
    · cases h
  · cases h
theorem re_bmeth (j i : Nat) {as : List E} (ia : REs NM B Φ Γ AT as) : RE NM B Φ Γ AT (.bmeth j i as) := fun X W e ok tk h _ => by
  unfold chE at h
  split at h
  · rename_i y m ap x xs p hx
    cases asMet_eq hx
    obtain ⟨g1, h2⟩ := band h
    obtain ⟨g2, h4⟩ := band g1
    obtain ⟨g3, h5⟩ := band g2
    obtain ⟨a1, a2, a3⟩ := ia X W _ ok tk h2
    split at g3
    · rename_i c n hc hn
      obtain ⟨g4, k6⟩ := band g3
      obtain ⟨g5, k5⟩ := band g4
      obtain ⟨g6, k4⟩ := band g5
      obtain ⟨g7, k3⟩ := band g6
      obtain ⟨k1, k2⟩ := band g7
      obtain ⟨p', rfl⟩ := asName_eq hn
      cases of_decide_eq_true k1
      have hbw := of_decide_eq_true k4
      have := se_bmeth (pos := p) (o := .Name n p') (i := i) tk (ok.meb c (List.mem_of_getElem? hc) (of_decide_eq_true k2) (of_decide_eq_true k3) (by rw [hbw]; rfl)) rfl h5 (of_decide_eq_true h4) rfl a2 (by rw [a3]; have := of_decide_eq_true k5; rw [List.length_cons]; omega) (by rw [hbw, a3]; rfl) (varB_pv k6 rfl rfl) a1
      refine pe_imp this fun σ H Q ⟨F, ρ, G, kd, kx, r, w, h1, h2⟩ => ⟨F, ρ, G, kd, kx, r, ?_, h1, h2⟩
      simp only [wpE, hc] at w
      exact w
    · cases g3
  · split at h
    · rename_i y m ap p hx
      cases asMet0_eq hx
      obtain ⟨g1, h3⟩ := band h
      obtain ⟨g3, h5⟩ := band g1
      have has : as = [] := List.isEmpty_iff.mp h3
      subst has
      split at g3
      · rename_i c n hc hn
        obtain ⟨g4, k6⟩ := band g3
        obtain ⟨g5, k5⟩ := band g4
        obtain ⟨g6, k4⟩ := band g5
        obtain ⟨g7, k3⟩ := band g6
        obtain ⟨k1, k2⟩ := band g7
        obtain ⟨p', rfl⟩ := asName_eq hn
        cases of_decide_eq_true k1
        have hbw := of_decide_eq_true k4
        have := se_bmeth0 (pos := p) (o := .Name n p') (i := i) tk (ok.meb c (List.mem_of_getElem? hc) (of_decide_eq_true k2) (of_decide_eq_true k3) (by rw [hbw]; rfl)) rfl h5 rfl (of_decide_eq_true k5) hbw (varB_pv k6 rfl rfl)
        refine pe_imp this fun σ H Q ⟨F, ρ, G, kd, kx, r, w, h1, h2⟩ => ⟨F, ρ, G, kd, kx, r, ?_, h1, h2⟩
        simp only [wpE, wpEs, hc] at w
        exact w
      · cases g3
    · cases h
theorem re_op1 (o : Op1) {a : E} (ia : RE NM B Φ Γ AT a) : RE NM B Φ Γ AT (.op1 o a) := fun X W e ok tk h _ => by
  unfold chE at h
  split at h
  · rename_i m hm
    split at h
    · rename_i f x hx
      obtain ⟨q, p, rfl⟩ := asB1_eq hx
      obtain ⟨h, h5⟩ := band h
      obtain ⟨h, h4⟩ := band h
      obtain ⟨h, h3⟩ := band h
      obtain ⟨h1, h2⟩ := band h
      cases of_decide_eq_true h1
      obtain ⟨g1, g2, g3, g4⟩ := freB_ok (X := X) h2 rfl ok (by cases o <;> cases hm <;> decide +kernel)
      have := se_op1 (W := W) (NM := NM) (q := q) (p := p) hm g1 g2 g3 g4 h3 (toB (N := []) (ia X W _ ok tk h5) h5)
      refine pe_imp this fun σ H Q ⟨F, ρ, G, kd, kx, r, w, h1, h2⟩ => ⟨F, ρ, G, kd, kx, r, ?_, h1, h2⟩
      simp only [wpE] at w
      exact w
    · cases h
  · rename_i hm
    split at h
    · rename_i x m hx
      obtain ⟨ap, p, rfl, hl⟩ := asM0_eq hx
      obtain ⟨h, h5⟩ := band h
      obtain ⟨h, h4⟩ := band h
      obtain ⟨h1, h2⟩ := band h
      cases of_decide_eq_true h1
      cases o <;> first | (cases hm; done) | skip
      have := se_upper (W := W) (NM := NM) hl h2 (toB (N := []) (ia X W _ ok tk h5) h5)
      refine pe_imp this fun σ H Q ⟨F, ρ, G, kd, kx, r, w, h1, h2⟩ => ⟨F, ρ, G, kd, kx, r, ?_, h1, h2⟩
      simp only [wpE] at w
      exact w
    · cases h
theorem re_lrg {a b : E} (ia : RE NM B Φ Γ AT a) (ib : RE NM B Φ Γ AT b) : RE NM B Φ Γ AT (.lrg a b) := fun X W e ok tk h _ => by
  unfold chE at h
  split at h
  · rename_i f y hy
    obtain ⟨q, p, rfl⟩ := asB1_eq hy
    obtain ⟨h, h3⟩ := band h
    obtain ⟨h1, h2⟩ := band h
    cases of_decide_eq_true h1
    obtain ⟨g1, g2, g3, g4⟩ := freB_ok (X := X) h2 rfl ok (by decide +kernel)
    split at h3
    · rename_i g x1 x2 hx
      obtain ⟨q2, rfl⟩ := asCall_eq hx
      obtain ⟨h3, c6⟩ := band h3
      obtain ⟨h3, c5⟩ := band h3
      obtain ⟨h3, c4⟩ := band h3
      obtain ⟨h3, c3⟩ := band h3
      obtain ⟨h3, c2⟩ := band h3
      obtain ⟨c0, c1⟩ := band h3
      split at c0
      · rename_i n hn
        obtain ⟨p2, rfl⟩ := asName_eq hn
        obtain ⟨k1, k2⟩ := band c0
        cases of_decide_eq_true k1
        obtain ⟨r1, r2, r3, r4⟩ := freB_ok (X := X) k2 rfl ok (by decide +kernel)
        have := se_lrg (W := W) (NM := NM) (q := q) (p := p) (q2 := q2) (p2 := p2) ok.calm g1 g3 r1 r3 c1 c2 (toB (N := []) (ia X W _ ok tk c5) c5) (toB (N := []) (ib X W _ ok tk c6) c6)
        refine pe_imp this fun σ H Q ⟨F, ρ, G, kd, kx, r, w, h1, h2⟩ => ⟨F, ρ, G, kd, kx, r, ?_, h1, h2⟩
        simp only [wpE] at w
        exact w
      · cases c0
    · cases h3
  · cases h
theorem re_op2 (o : Op2) {a b : E} (ia : RE NM B Φ Γ AT a) (ib : RE NM B Φ Γ AT b) : RE NM B Φ Γ AT (.op2 o a b) := fun X W e ok tk h _ => by
  unfold chE at h
  split at h
  · rename_i x m y hx
    obtain ⟨ap, p, rfl, hl⟩ := asM1_eq hx
    obtain ⟨h, h7⟩ := band h
    obtain ⟨h, h6⟩ := band h
    obtain ⟨h, h5⟩ := band h
    obtain ⟨h, h4⟩ := band h
    obtain ⟨h, h3⟩ := band h
    obtain ⟨h1, h2⟩ := band h
    cases of_decide_eq_true h1
    have := se_op2a (W := W) (NM := NM) (o := o) hl h2 h3 (toB (N := []) (ia X W _ ok tk h6) h6) (toB (N := []) (ib X W _ ok tk h7) h7)
    refine pe_imp this fun σ H Q ⟨F, ρ, G, kd, kx, r, w, h1, h2⟩ => ⟨F, ρ, G, kd, kx, r, ?_, h1, h2⟩
    simp only [wpE] at w
    exact w
  · cases h
theorem re_make (j : Nat) {as : List E} (ia : REs NM B Φ Γ AT as) : RE NM B Φ Γ AT (.make j as) := fun X W e ok tk h _ => by
  unfold chE at h
  split at h
  · rename_i f x xs hx
    obtain ⟨q, rfl⟩ := asCall_eq hx
    obtain ⟨h1, h2⟩ := band h
    obtain ⟨a1, a2, a3⟩ := ia X W _ ok tk h2
    split at h1
    · rename_i n c hn hc
      obtain ⟨p, rfl⟩ := asName_eq hn
      obtain ⟨h1, h6⟩ := band h1
      obtain ⟨h1, h5⟩ := band h1
      obtain ⟨h1, h7⟩ := band h1
      obtain ⟨h3, h4⟩ := band h1
      obtain ⟨g1, g2⟩ := gloB_gl (X := X) h6 rfl
      have := se_make (pos := q) (p := p) tk (ok.cls c (List.mem_of_getElem? hc) (of_decide_eq_true h4)) (of_decide_eq_true h3) g1 g2 a2 (by rw [a3]; exact of_decide_eq_true h5) a1
      refine pe_imp this fun σ H Q ⟨F, ρ, G, kd, kx, r, w, h1, h2⟩ => ⟨F, ρ, G, kd, kx, r, ?_, h1, h2⟩
      simp only [wpE, hc] at w
      exact w
    · cases h1
  · cases h
theorem re_meth (j : Nat) {o : E} {as : List E} (io : RE NM B Φ Γ AT o) (ia : REs NM B Φ Γ AT as) : RE NM B Φ Γ AT (.meth j o as) := fun X W e ok tk h _ => by
  unfold chE at h
  split at h
  · rename_i y m ap x xs p hx
    cases asMet_eq hx
    obtain ⟨h, h2⟩ := band h
    obtain ⟨h, h3⟩ := band h
    obtain ⟨h, h4⟩ := band h
    obtain ⟨h, h5⟩ := band h
    obtain ⟨h, h6⟩ := band h
    obtain ⟨h, h7⟩ := band h
    obtain ⟨a1, a2, a3⟩ := ia X W _ ok tk h2
    split at h
    · rename_i c hc
      obtain ⟨h, k4⟩ := band h
      obtain ⟨h, k5⟩ := band h
      obtain ⟨h, k3⟩ := band h
      obtain ⟨k1, k2⟩ := band h
      cases of_decide_eq_true k1
      have := se_meth (pos := p) tk (ok.met c (List.mem_of_getElem? hc) (of_decide_eq_true k2) (of_decide_eq_true k3) k5) h6 h5 (of_decide_eq_true h4) rfl a2 (by rw [a3]; have := of_decide_eq_true k4; rw [List.length_cons]; omega) (io X W _ ok tk h3 h7) a1
      refine pe_imp this fun σ H Q ⟨F, ρ, G, kd, kx, r, w, h1, h2⟩ => ⟨F, ρ, G, kd, kx, r, ?_, h1, h2⟩
      simp only [wpE, hc] at w
      exact w
    · cases h
  · split at h
    · rename_i y m ap p hx
      cases asMet0_eq hx
      obtain ⟨ha, h3⟩ := band h
      obtain ⟨hb, h4⟩ := band ha
      obtain ⟨hc0, h5⟩ := band hb
      obtain ⟨hd, h6⟩ := band hc0
      obtain ⟨he, h7⟩ := band hd
      have has : as = [] := by
        cases as with
        | nil => rfl
        | cons a as => cases h4
      subst has
      split at he
      · rename_i c hc
        obtain ⟨hf, k4⟩ := band he
        obtain ⟨hf, k5⟩ := band hf
        obtain ⟨hg, k3⟩ := band hf
        obtain ⟨k1, k2⟩ := band hg
        cases of_decide_eq_true k1
        have := se_meth0 (pos := p) tk (ok.met c (List.mem_of_getElem? hc) (of_decide_eq_true k2) (of_decide_eq_true k3) k5) h6 h5 rfl (of_decide_eq_true k4) (io X W _ ok tk h3 h7)
        refine pe_imp this fun σ H Q ⟨F, ρ, G, kd, kx, r, w, h1, h2⟩ => ⟨F, ρ, G, kd, kx, r, ?_, h1, h2⟩
        simp only [wpE, wpEs, hc] at w
        exact w
      · cases he
    · cases h
theorem re_atr (inj : ∀ i j, NM.at_ i = NM.at_ j → i = j) (f : Nat) {a : E} (ia : RE NM B Φ Γ AT a) : RE NM B Φ Γ AT (.atr a f) := fun X W e ok tk h _ => by
  unfold chE at h
  split at h
  · rename_i x n hx
    obtain ⟨q, rfl⟩ := asAtr_eq hx
    obtain ⟨h, h3⟩ := band h
    obtain ⟨h1, h2⟩ := band h
    exact se_atr inj ok (of_decide_eq_true h1) h2 (toB (N := []) (ia X W _ ok tk h3) h3)
  · cases h
theorem re_idx {a b : E} (ia : RE NM B Φ Γ AT a) (ib : RE NM B Φ Γ AT b) : RE NM B Φ Γ AT (.idx a b) := fun X W e ok tk h _ => by
  unfold chE at h
  split at h
  · rename_i x y hx
    obtain ⟨q, rfl⟩ := asSub_eq hx
    obtain ⟨h, h4⟩ := band h
    obtain ⟨h, h3⟩ := band h
    obtain ⟨h1, h2⟩ := band h
    exact se_idx ok.kds h1 (toB (N := []) (ia X W _ ok tk h3) h3) (le_lb (ib X W _ ok tk h4 h2))
  · cases h
theorem rf_slc {a : E} {lo hi : Option E} (ia : RE NM B Φ Γ AT a) (il : RO NM B Φ Γ AT lo) (ih : RO NM B Φ Γ AT hi) : ∀ (X : Cx) (W : WX) (e : Expr), Ok X NM B Φ Γ AT → Takes X W → chE NM X.N B Φ Γ (.slc a lo hi) X.env.scope e = true → PE X e (LF NM X.K W (wpE NM AT Φ Γ (.slc a lo hi))) := fun X W e ok tk h => by
  unfold chE at h
  split at h
  · rename_i x y hx
    obtain ⟨q, rfl⟩ := asSub_eq hx
    split at h
    · rename_i l u hy
      obtain ⟨q2, rfl⟩ := asSlc_eq hy
      obtain ⟨h, h3⟩ := band h
      obtain ⟨h1, h2⟩ := band h
      exact sf_slc (toB (N := []) (ia X W _ ok tk h1) h1) (il X W _ ok tk h2) (ih X W _ ok tk h3)
    · cases h
  · cases h
theorem re_slt {a : E} {lo hi : Option E} (ia : RE NM B Φ Γ AT a) (il : RO NM B Φ Γ AT lo) (ih : RO NM B Φ Γ AT hi) : RE NM B Φ Γ AT (.slt a lo hi) := fun X W e ok tk h _ => by
  unfold chE at h
  split at h
  · rename_i x y hx
    obtain ⟨q, rfl⟩ := asSub_eq hx
    split at h
    · rename_i l u hy
      obtain ⟨q2, rfl⟩ := asSlc_eq hy
      obtain ⟨h, h3⟩ := band h
      obtain ⟨h1, h2⟩ := band h
      exact se_slt (toB (N := []) (ia X W _ ok tk h1) h1) (il X W _ ok tk h2) (ih X W _ ok tk h3)
    · cases h
  · cases h
theorem re_tup {as : List E} (ia : REs NM B Φ Γ AT as) : RE NM B Φ Γ AT (.tup as) := fun X W e ok tk h _ => by
  unfold chE at h
  split at h
  · rename_i xs hx
    obtain ⟨k, q, rfl⟩ := asTup_eq hx
    exact se_tup (ia X W _ ok tk h).1
  · cases h
theorem rf_lst {as : List E} (ia : REs NM B Φ Γ AT as) : ∀ (X : Cx) (W : WX) (e : Expr), Ok X NM B Φ Γ AT → Takes X W → chE NM X.N B Φ Γ (.lst as) X.env.scope e = true → PE X e (LF NM X.K W (wpE NM AT Φ Γ (.lst as))) := fun X W e ok tk h => by
  unfold chE at h
  split at h
  · rename_i xs hx
    obtain ⟨q, rfl⟩ := asLst_eq hx
    exact sf_lst (ia X W _ ok tk h).1
  · cases h
theorem rf_comp {a : E} {t : Tg} {it : It} {c : List T} (ia : RE NM B Φ Γ AT a) (ii : RI NM B Φ Γ AT it) (ic : RTs NM B Φ Γ AT c) : ∀ (X : Cx) (W : WX) (e : Expr), Ok X NM B Φ Γ AT → Takes X W → chE NM X.N B Φ Γ (.comp a t it c) X.env.scope e = true → PE X e (LF NM X.K W (wpE NM AT Φ Γ (.comp a t it c))) := fun X W e ok tk h => by
  unfold chE at h
  split at h
  · rename_i x y z w s hx
    obtain ⟨q, rfl⟩ := asComp_eq hx
    obtain ⟨h, h7⟩ := band h
    obtain ⟨h, h6⟩ := band h
    obtain ⟨h, h5⟩ := band h
    obtain ⟨h, h4⟩ := band h
    obtain ⟨h, h3⟩ := band h
    obtain ⟨h1, h2⟩ := band h
    refine sf_comp ok (ii X W y z ok tk h3).1 (blkOk_by h1) (fun s1 H1 C cl fp => sg (ok.blk _ _ _ _ _) tgOk_blk t y h4) (fun s1 H1 C cl fp => ic _ W0 w (ok.blk _ _ _ _ _) takes0 h5) (fun s1 H1 C cl fp => ia _ W0 x (ok.blk _ _ _ _ _) takes0 h7 h6) ?_
    exact foldGood h2
  · cases h
theorem re_blt (b : Blt) {as : List E} (ia : REs NM B Φ Γ AT as) (i1 : ∀ a, as = [a] → RE NM B Φ Γ AT a) : RE NM B Φ Γ AT (.blt b as) := fun X W e ok tk h _ => by
  unfold chE at h
  split at h
  · rename_i f x xs hx
    obtain ⟨q, rfl⟩ := asCall_eq hx
    obtain ⟨h, h3⟩ := band h
    obtain ⟨h1, h2⟩ := band h
    split at h1
    · rename_i n hn
      obtain ⟨p, rfl⟩ := asName_eq hn
      obtain ⟨h4, h5⟩ := band h1
      have en := of_decide_eq_true h4
      subst en
      have key : Gl X (bltN b) ∧ (bltN b == ("__debug__" : Str)) = false ∧ ((X.mg (bltN b) = none ∧ bootBuiltins (bltN b) = some (bltV b) ∧ bltN b ≠ "__name__") ∨ (b = .isqrt ∧ X.mg (bltN b) = some (.builtin "math.isqrt"))) := by
        by_cases hb : b = .isqrt
        · subst hb
          obtain ⟨k1, k2⟩ := band h5
          obtain ⟨g1, g2⟩ := gloB_gl (X := X) k1 rfl
          exact ⟨g1, g2, .inr ⟨rfl, ok.isq (of_decide_eq_true k2)⟩⟩
        · have k1 : freB B X.env.scope (bltN b) = true := by
            cases b <;> first | exact h5 | exact absurd rfl hb
          obtain ⟨g1, g2, g3, g4⟩ := freB_ok (X := X) k1 rfl ok (bltN_ne b)
          exact ⟨g1, g2, .inl ⟨g3, bltB_eq b hb, g4⟩⟩
      obtain ⟨g1, g2, g3⟩ := key
      split at h3
      · rename_i a _
        have := se_blt1 (pos := q) (p := p) ok g1 g2 h2 g3 (toB (N := []) (i1 a rfl X W _ ok tk h3) h3)
        refine pe_imp this fun σ H Q ⟨F, ρ, G, kd, kx, r, w, h1, h2⟩ => ⟨F, ρ, G, kd, kx, r, ?_, h1, h2⟩
        simp only [wpE, wpEs] at w
        exact w
      · obtain ⟨a1, a2, a3⟩ := ia X W _ ok tk h3
        exact se_blt (pos := q) (p := p) ok g1 g2 a2 g3 a1
    · cases h1
  · cases h
theorem re_dg2 {k1 k2 : Str} {a b w d : E} (ia : RE NM B Φ Γ AT a) (ib : RE NM B Φ Γ AT b) (iw : RE NM B Φ Γ AT w) (id' : RE NM B Φ Γ AT d) : RE NM B Φ Γ AT (.dg2 k1 k2 a b w d) := fun X W e ok tk h _ => by
  unfold chE at h
  split at h
  · rename_i x1 x2 ea eb ew ed hx
    obtain ⟨j1, q1, j2, q2, pd, ap, p, rfl, hl⟩ := asDg2_eq hx
    obtain ⟨h, c4⟩ := band h
    obtain ⟨h, c3⟩ := band h
    obtain ⟨h, c2⟩ := band h
    obtain ⟨h, c1⟩ := band h
    obtain ⟨h, n4⟩ := band h
    obtain ⟨h, n3⟩ := band h
    obtain ⟨h, n2⟩ := band h
    obtain ⟨h, n1⟩ := band h
    obtain ⟨h, g2⟩ := band h
    obtain ⟨h, g1⟩ := band h
    obtain ⟨h, e3⟩ := band h
    obtain ⟨e1, e2⟩ := band h
    cases of_decide_eq_true e1
    cases of_decide_eq_true e2
    have ne : ¬ k1 = k2 := fun z => by rw [decide_eq_true z] at e3; cases e3
    have := se_dg2 (W := W) (NM := NM) (j1 := j1) (q1 := q1) (j2 := j2) (q2 := q2) (pd := pd) (p := p) ok.hu ne hl g1 g2 (ia X W _ ok tk c1 n1) (ib X W _ ok tk c2 n2) (iw X W _ ok tk c3 n3) (id' X W _ ok tk c4 n4)
    refine pe_imp this fun σ H Q ⟨F, ρ, G, kd, kx, r, w, h1, h2⟩ => ⟨F, ρ, G, kd, kx, r, ?_, h1, h2⟩
    simp only [wpE] at w
    exact w
  · cases h
theorem re_isn {as : List E} (ia : REs NM B Φ Γ AT as) : RE NM B Φ Γ AT (.isn as) := fun X W e ok tk h _ => by
  unfold chE at h
  split at h
  · rename_i f x xs hx
    obtain ⟨q, rfl⟩ := asCall_eq hx
    obtain ⟨h, h3⟩ := band h
    obtain ⟨h1, h2⟩ := band h
    split at h1
    · rename_i n hn
      obtain ⟨p, rfl⟩ := asName_eq hn
      obtain ⟨h4, h5⟩ := band h1
      have en := of_decide_eq_true h4
      subst en
      obtain ⟨g1, g2, g3, g4⟩ := freB_ok (X := X) h5 rfl ok (by decide +kernel)
      obtain ⟨a1, a2, a3⟩ := ia X W _ ok tk h3
      exact se_isn (pos := q) (p := p) ok g1 g3 a2 a1
    · cases h1
  · cases h
theorem rt_val {a : E} (ia : RE NM B Φ Γ AT a) : RT NM B Φ Γ AT (.val a) := fun X W e ok tk h => by
  unfold chT at h
  obtain ⟨h1, h2⟩ := band h
  exact st_val h1 (toB (N := []) (ia X W _ ok tk h2) h2)
theorem rt_cmp (o : Cop) {a b : E} (ia : RE NM B Φ Γ AT a) (ib : RE NM B Φ Γ AT b) : RT NM B Φ Γ AT (.cmp o a b) := fun X W e ok tk h => by
  unfold chT at h
  split at h
  · rename_i x p y hx
    obtain ⟨q, rfl⟩ := asCmp_eq hx
    obtain ⟨h, h3⟩ := band h
    obtain ⟨h1, h2⟩ := band h
    exact st_cmp ok h1 (toB (N := []) (ia X W _ ok tk h2) h2) (toB (N := []) (ib X W _ ok tk h3) h3)
  · cases h
theorem rt_chn (o o' : Cop) {a b c : E} (ia : RE NM B Φ Γ AT a) (ib : RE NM B Φ Γ AT b) (ic : RE NM B Φ Γ AT c) : RT NM B Φ Γ AT (.chn o o' a b c) := fun X W e ok tk h => by
  unfold chT at h
  split at h
  · rename_i x p p' y z hx
    obtain ⟨q, rfl⟩ := asCmp_eq hx
    obtain ⟨h, h5⟩ := band h
    obtain ⟨h, h4⟩ := band h
    obtain ⟨h, h3⟩ := band h
    obtain ⟨h1, h2⟩ := band h
    exact st_chn ok h1 h2 (toB (N := []) (ia X W _ ok tk h3) h3) (toB (N := []) (ib X W _ ok tk h4) h4) (toB (N := []) (ic X W _ ok tk h5) h5)
  · cases h
theorem rt_ch3 (o o' o3 : Cop) {a b c d : E} (ia : RE NM B Φ Γ AT a) (ib : RE NM B Φ Γ AT b) (ic : RE NM B Φ Γ AT c) (id' : RE NM B Φ Γ AT d) : RT NM B Φ Γ AT (.ch3 o o' o3 a b c d) := fun X W e ok tk h => by
  unfold chT at h
  split at h
  · rename_i x p p' p3 y z t hx
    obtain ⟨q, rfl⟩ := asCmp_eq hx
    obtain ⟨h, h7⟩ := band h
    obtain ⟨h, h6⟩ := band h
    obtain ⟨h, h5⟩ := band h
    obtain ⟨h, h4⟩ := band h
    obtain ⟨h, h3⟩ := band h
    obtain ⟨h1, h2⟩ := band h
    exact st_ch3 ok h1 h2 h3 (toB (N := []) (ia X W _ ok tk h4) h4) (toB (N := []) (ib X W _ ok tk h5) h5) (toB (N := []) (ic X W _ ok tk h6) h6) (toB (N := []) (id' X W _ ok tk h7) h7)
  · cases h
theorem rt_ch4 (o o' o3 o4 : Cop) {a b c d g : E} (ia : RE NM B Φ Γ AT a) (ib : RE NM B Φ Γ AT b) (ic : RE NM B Φ Γ AT c) (id' : RE NM B Φ Γ AT d) (ig : RE NM B Φ Γ AT g) : RT NM B Φ Γ AT (.ch4 o o' o3 o4 a b c d g) := fun X W e ok tk h => by
  unfold chT at h
  split at h
  · rename_i x p p' p3 p4 y z t u hx
    obtain ⟨q, rfl⟩ := asCmp_eq hx
    obtain ⟨h, h9⟩ := band h
    obtain ⟨h, h8⟩ := band h
    obtain ⟨h, h7⟩ := band h
    obtain ⟨h, h6⟩ := band h
    obtain ⟨h, h5⟩ := band h
    obtain ⟨h, h4⟩ := band h
    obtain ⟨h, h3⟩ := band h
    obtain ⟨h1, h2⟩ := band h
    exact st_ch4 ok h1 h2 h3 h4 (toB (N := []) (ia X W _ ok tk h5) h5) (toB (N := []) (ib X W _ ok tk h6) h6) (toB (N := []) (ic X W _ ok tk h7) h7) (toB (N := []) (id' X W _ ok tk h8) h8) (toB (N := []) (ig X W _ ok tk h9) h9)
  · cases h
theorem rt_not {t : T} (it : RT NM B Φ Γ AT t) : RT NM B Φ Γ AT (.not t) := fun X W e ok tk h => by
  unfold chT at h
  split at h
  · rename_i x hx
    obtain ⟨q, rfl⟩ := asUn_eq hx
    exact st_not (it X W _ ok tk h)
  · cases h
theorem rt_and {ts : List T} (it : RTl NM B Φ Γ AT ts) (hn : ts ≠ []) : RT NM B Φ Γ AT (.and ts) := fun X W e ok tk h => by
  unfold chT at h
  split at h
  · rename_i xs hx
    obtain ⟨q, rfl⟩ := asBoo_eq hx
    refine (it X W xs q ok tk h fun z => ?_).1.pt
    subst z
    cases ts with
    | nil => exact hn rfl
    | cons _ _ => unfold chTl at h; cases h
  · cases h
theorem rt_or {ts : List T} (it : RTl NM B Φ Γ AT ts) (hn : ts ≠ []) : RT NM B Φ Γ AT (.or ts) := fun X W e ok tk h => by
  unfold chT at h
  split at h
  · rename_i xs hx
    obtain ⟨q, rfl⟩ := asBoo_eq hx
    refine (it X W xs q ok tk h fun z => ?_).2.pt
    subst z
    cases ts with
    | nil => exact hn rfl
    | cons _ _ => unfold chTl at h; cases h
  · cases h
theorem ri_ex {a : E} (ia : RE NM B Φ Γ AT a) : RI NM B Φ Γ AT (.ex a) := fun X W tg e ok tk h => by
  unfold chI at h
  exact ⟨sw_exB (toB (N := []) (ia X W _ ok tk h) h), fun hb => sw_ex (ia X W _ ok tk h (hb a rfl))⟩
theorem ri_rng {as : List E} (ia : REs NM B Φ Γ AT as) : RI NM B Φ Γ AT (.rng as) := fun X W tg e ok tk h => by
  unfold chI at h
  split at h
  · rename_i f x xs hx
    obtain ⟨q, rfl⟩ := asCall_eq hx
    obtain ⟨h, h2⟩ := band h
    obtain ⟨h1, h4⟩ := band h
    obtain ⟨a1, a2, a3⟩ := ia X W _ ok tk h2
    split at h1
    · rename_i n hn
      obtain ⟨p, rfl⟩ := asName_eq hn
      obtain ⟨h1, h3⟩ := band h1
      have en := of_decide_eq_true h1
      subst en
      obtain ⟨g1, g2, g3, g4⟩ := freB_ok (X := X) h3 rfl ok (by decide +kernel)
      exact ⟨sw_rng rfl g1 g3 a2 a3 a1 (of_decide_eq_true h4), fun _ => sw_rng rfl g1 g3 a2 a3 a1 (of_decide_eq_true h4)⟩
    · cases h1
  · cases h
theorem ri_zip {a b : E} (ia : RE NM B Φ Γ AT a) (ib : RE NM B Φ Γ AT b) : RI NM B Φ Γ AT (.zip a b) := fun X W tg e ok tk h => by
  unfold chI at h
  split at h
  · rename_i f x y hx
    obtain ⟨q, rfl⟩ := asCall_eq hx
    obtain ⟨h, h8⟩ := band h
    obtain ⟨h, h7⟩ := band h
    obtain ⟨h, h6⟩ := band h
    obtain ⟨h, h5⟩ := band h
    obtain ⟨h, h4⟩ := band h
    obtain ⟨h, h3⟩ := band h
    obtain ⟨h1, h2⟩ := band h
    split at h1
    · rename_i n hn
      obtain ⟨p, rfl⟩ := asName_eq hn
      obtain ⟨k1, k2⟩ := band h1
      have en := of_decide_eq_true k1
      subst en
      obtain ⟨g1, g2, g3, g4⟩ := freB_ok (X := X) k2 rfl ok (by decide +kernel)
      cases ht : asTup tg with
      | none => rw [ht] at h2; cases h2
      | some ts =>
        obtain ⟨kk, tp, rfl⟩ := asTup_eq ht
        exact ⟨sw_zip rfl g1 g3 h3 h4 (ia X W _ ok tk h7 h5) (ib X W _ ok tk h8 h6), fun _ => sw_zip rfl g1 g3 h3 h4 (ia X W _ ok tk h7 h5) (ib X W _ ok tk h8 h6)⟩
    · cases h1
  · cases h
theorem ri_enm {a : E} (ia : RE NM B Φ Γ AT a) : RI NM B Φ Γ AT (.enm a) := fun X W tg e ok tk h => by
  unfold chI at h
  split at h
  · rename_i f x hx
    obtain ⟨q, p, rfl⟩ := asB1_eq hx
    obtain ⟨h, h6⟩ := band h
    obtain ⟨h, h5⟩ := band h
    obtain ⟨h, h4⟩ := band h
    obtain ⟨h, h3⟩ := band h
    obtain ⟨h1, h2⟩ := band h
    have en := of_decide_eq_true h1
    subst en
    obtain ⟨g1, g2, g3, g4⟩ := freB_ok (X := X) h2 rfl ok (by decide +kernel)
    cases ht : asTup tg with
    | none => rw [ht] at h3; cases h3
    | some ts =>
      obtain ⟨kk, tp, rfl⟩ := asTup_eq ht
      have z : ∀ {fz : Bool}, PI X (.Tuple ts kk tp) (.Call (.Name "enumerate" q) [x] [] p) (LW NM X.K W fz (wpI NM AT Φ Γ (.enm a))) := fun {fz} => by
        refine pi_imp (sw_enm (W := W) (NM := NM) (fz := fz) rfl g1 g3 h4 (ia X W _ ok tk h6 h5)) fun σ H Q ⟨F, ρ, G, kd, kx, r, w, h1, h2⟩ => ⟨F, ρ, G, kd, kx, r, ?_, h1, h2⟩
        simp only [wpI] at w
        exact w
      exact ⟨z, fun _ => z⟩
  · cases h
variable (inj : ∀ i j, NM.at_ i = NM.at_ j → i = j)
include inj
mutual
theorem snE : ∀ i : E, RE NM B Φ Γ AT i
  | .var i => re_var i
  | .brw _ => fun _ _ _ _ _ _ h => by cases h
  | .cst d => re_cst d
  | .glo j => re_glo j
  | .bin o a b => re_bin o (snE a) (snE b)
  | .neg a => re_neg (snE a)
  | .not a => re_not (snE a)
  | .and [] => fun X W e ok tk h _ => by
    unfold chE at h
    split at h
    · rename_i xs hx
      cases xs with
      | nil => obtain ⟨q, rfl⟩ := asBoo_eq hx; exact ⟨fun pins s σ H Q I ⟨F, ρ, G, kd, kx, r, w, _⟩ => by simp only [wpE, wpAnd] at w⟩
      | cons _ _ => unfold chEs at h; cases h
    · cases h
  | .and (a :: as) => re_and (snL (a :: as)) (by simp)
  | .or [] => fun X W e ok tk h _ => by
    unfold chE at h
    split at h
    · rename_i xs hx
      cases xs with
      | nil => obtain ⟨q, rfl⟩ := asBoo_eq hx; exact ⟨fun pins s σ H Q I ⟨F, ρ, G, kd, kx, r, w, _⟩ => by simp only [wpE, wpOr] at w⟩
      | cons _ _ => unfold chEs at h; cases h
    · cases h
  | .or (a :: as) => re_or (snL (a :: as)) (by simp)
  | .cmp o a b => re_cmp o (snE a) (snE b)
  | .chn o p a b c => re_chn o p (snE a) (snE b) (snE c)
  | .ch3 o p q a b c d => re_ch3 o p q (snE a) (snE b) (snE c) (snE d)
  | .ife c a b => re_ife (snT c) (snE a) (snE b)
  | .call j as => re_call j (snEs as)
  | .make j as => re_make j (snEs as)
  | .meth j o as => re_meth j (snE o) (snEs as)
  | .blt b [] => re_blt b (snEs []) (fun a z => by cases z)
  | .blt b [a] => re_blt b (snEs [a]) (fun a' z => by cases z; exact snE a)
  | .blt b (a :: c :: as) => re_blt b (snEs (a :: c :: as)) (fun a z => by cases z)
  | .atr a f => re_atr inj f (snE a)
  | .idx a b => re_idx (snE a) (snE b)
  | .slc a lo hi => fun X W e ok tk h _ => lf_le (rf_slc (snE a) (snO lo) (snO hi) X W e ok tk h)
  | .slt a lo hi => re_slt (snE a) (snO lo) (snO hi)
  | .tup as => re_tup (snEs as)
  | .lst as => fun X W e ok tk h _ => lf_le (rf_lst (snEs as) X W e ok tk h)
  | .fnm j => re_fnm j
  | .calv i as => re_calv i (snEs as)
  | .op1 o a => re_op1 o (snE a)
  | .op2 o a b => re_op2 o (snE a) (snE b)
  | .lrg a b => re_lrg (snE a) (snE b)
  | .isn as => re_isn (snEs as)
  | .dg2 k1 k2 a b w d => re_dg2 (snE a) (snE b) (snE w) (snE d)
  | .srt pr j a => re_srt pr j (snE a)
  | .bcall j as => re_bcall j (snEb as)
  | .bmeth j i as => re_bmeth j i (snEs as)
  | .comp a t it c => fun X W e ok tk h _ => lf_le (rf_comp (snE a) (snI it) (snTs c) X W e ok tk h)
theorem snEb : ∀ (is : List E) (bs : List Bool), REb NM B Φ Γ AT bs is
  | [], bs => fun X W es ok tk h => by
    cases es with
    | nil =>
      cases bs with
      | nil => exact ⟨sab_nil, rfl, rfl, rfl⟩
      | cons _ _ => unfold chEb at h; cases h
    | cons _ _ => cases bs <;> (unfold chEb at h; cases h)
  | a :: as, bs => fun X W es ok tk h => by
    cases es with
    | nil => cases bs <;> (unfold chEb at h; cases h)
    | cons e es =>
      cases bs with
      | nil => unfold chEb at h; cases h
      | cons b bs =>
        unfold chEb at h
        obtain ⟨h, h4⟩ := band h
        obtain ⟨h, h3⟩ := band h
        obtain ⟨h1, h2⟩ := band h
        obtain ⟨a1, a2, a3, a4⟩ := snEb as bs X W es ok tk h4
        cases b with
        | true => exact ⟨sab_t h1 (toB (N := []) (snE a X W e ok tk h3) h3) a1, by rw [List.all_cons, h1, a2]; rfl, congrArg Nat.succ a3, congrArg Nat.succ a4⟩
        | false => exact ⟨sab_f h1 (snE a X W e ok tk h3 (by simpa using h2)) a1, by rw [List.all_cons, h1, a2]; rfl, congrArg Nat.succ a3, congrArg Nat.succ a4⟩
theorem snEs : ∀ is : List E, REs NM B Φ Γ AT is
  | [] => fun X W es ok tk h => by
    cases es with
    | nil => exact ⟨sa_nil, rfl, rfl⟩
    | cons _ _ => unfold chEs at h; cases h
  | a :: as => fun X W es ok tk h => by
    cases es with
    | nil => unfold chEs at h; cases h
    | cons e es =>
      unfold chEs at h
      obtain ⟨h, h4⟩ := band h
      obtain ⟨h, h3⟩ := band h
      obtain ⟨h1, h2⟩ := band h
      obtain ⟨a1, a2, a3⟩ := snEs as X W es ok tk h4
      exact ⟨sa_cons h1 (snE a X W e ok tk h3 h2) a1, by rw [List.all_cons, h1, a2]; rfl, congrArg Nat.succ a3⟩
theorem snL : ∀ is : List E, RL NM B Φ Γ AT is
  | [] => fun X W es pos ok tk h hn => by
    cases es with
    | nil => exact absurd rfl hn
    | cons _ _ => unfold chEs at h; cases h
  | [a] => fun X W es pos ok tk h hn => by
    cases es with
    | nil => exact absurd rfl hn
    | cons e es =>
      unfold chEs at h
      obtain ⟨h, h4⟩ := band h
      obtain ⟨h, h3⟩ := band h
      obtain ⟨h1, h2⟩ := band h
      cases es with
      | nil => exact ⟨se_one (snE a X W e ok tk h3 h2), se_one (snE a X W e ok tk h3 h2)⟩
      | cons _ _ => unfold chEs at h4; cases h4
  | a :: c :: as => fun X W es pos ok tk h hn => by
    cases es with
    | nil => exact absurd rfl hn
    | cons e es =>
      unfold chEs at h
      obtain ⟨h, h4⟩ := band h
      obtain ⟨h, h3⟩ := band h
      obtain ⟨h1, h2⟩ := band h
      cases es with
      | nil => unfold chEs at h4; cases h4
      | cons e2 es =>
        obtain ⟨b1, b2⟩ := snL (c :: as) X W (e2 :: es) pos ok tk h4 (by simp)
        exact ⟨se_and (snE a X W e ok tk h3 h2) b1, se_or (snE a X W e ok tk h3 h2) b2⟩
theorem snO : ∀ i : Option E, RO NM B Φ Γ AT i
  | none => fun X W e ok tk h => by
    cases e with
    | none => exact so_none
    | some _ => unfold chO at h; cases h
  | some a => fun X W e ok tk h => by
    cases e with
    | none => unfold chO at h; cases h
    | some e =>
      unfold chO at h
      obtain ⟨h1, h2⟩ := band h
      exact so_some (snE a X W e ok tk h2 h1)
theorem snT : ∀ i : T, RT NM B Φ Γ AT i
  | .val a => rt_val (snE a)
  | .cmp o a b => rt_cmp o (snE a) (snE b)
  | .chn o p a b c => rt_chn o p (snE a) (snE b) (snE c)
  | .ch3 o p q a b c d => rt_ch3 o p q (snE a) (snE b) (snE c) (snE d)
  | .ch4 o p q s a b c d g => rt_ch4 o p q s (snE a) (snE b) (snE c) (snE d) (snE g)
  | .not t => rt_not (snT t)
  | .and [] => fun X W e ok tk h => by
    unfold chT at h
    split at h
    · rename_i xs hx
      cases xs with
      | nil => obtain ⟨q, rfl⟩ := asBoo_eq hx; exact ⟨fun pins s σ H Q I ⟨F, ρ, G, kd, kx, r, w, _⟩ => by simp only [wpT, wpTand] at w⟩
      | cons _ _ => unfold chTl at h; cases h
    · cases h
  | .and (t :: ts) => rt_and (snTl (t :: ts)) (by simp)
  | .or [] => fun X W e ok tk h => by
    unfold chT at h
    split at h
    · rename_i xs hx
      cases xs with
      | nil => obtain ⟨q, rfl⟩ := asBoo_eq hx; exact ⟨fun pins s σ H Q I ⟨F, ρ, G, kd, kx, r, w, _⟩ => by simp only [wpT, wpTor] at w⟩
      | cons _ _ => unfold chTl at h; cases h
    · cases h
  | .or (t :: ts) => rt_or (snTl (t :: ts)) (by simp)
theorem snTl : ∀ is : List T, RTl NM B Φ Γ AT is
  | [] => fun X W es pos ok tk h hn => by
    cases es with
    | nil => exact absurd rfl hn
    | cons _ _ => unfold chTl at h; cases h
  | [a] => fun X W es pos ok tk h hn => by
    cases es with
    | nil => exact absurd rfl hn
    | cons e es =>
      unfold chTl at h
      obtain ⟨h1, h2⟩ := band h
      cases es with
      | nil => exact ⟨st_and1 (snT a X W e ok tk h1), st_or1 (snT a X W e ok tk h1)⟩
      | cons _ _ => unfold chTl at h2; cases h2
  | a :: c :: as => fun X W es pos ok tk h hn => by
    cases es with
    | nil => exact absurd rfl hn
    | cons e es =>
      unfold chTl at h
      obtain ⟨h1, h2⟩ := band h
      cases es with
      | nil => unfold chTl at h2; cases h2
      | cons e2 es =>
        obtain ⟨b1, b2⟩ := snTl (c :: as) X W (e2 :: es) pos ok tk h2 (by simp)
        exact ⟨st_and (snT a X W e ok tk h1) b1, st_or (snT a X W e ok tk h1) b2⟩
theorem snTs : ∀ is : List T, RTs NM B Φ Γ AT is
  | [] => fun X W es ok tk h => by
    cases es with
    | nil => exact sts_nil
    | cons _ _ => unfold chTs at h; cases h
  | [a] => fun X W es ok tk h => by
    cases es with
    | nil => unfold chTs at h; cases h
    | cons e es =>
      cases es with
      | nil => exact sts_one (snT a X W e ok tk (by unfold chTs at h; exact h))
      | cons _ _ => unfold chTs at h; cases h
  | _ :: _ :: _ => fun X W es ok tk h => by
    unfold chTs at h
    cases h
theorem snI : ∀ i : It, RI NM B Φ Γ AT i
  | .ex a => ri_ex (snE a)
  | .exl i => fun X W tg e ok tk h => by
    unfold chI at h
    split at h
    · rename_i x hx
      obtain ⟨p, rfl⟩ := asName_eq hx
      have z : ∀ {fz : Bool}, PI X tg (.Name x p) (LW NM X.K W fz (wpI NM AT Φ Γ (.exl i))) := fun {fz} => pi_imp (sw_exl (fz := fz) (varB_pv h rfl rfl)) fun σ H Q ⟨F, ρ, G, kd, kx, r, q, h1, h2⟩ => ⟨F, ρ, G, kd, kx, r, by
        simp only [wpI] at q
        exact q, h1, h2⟩
      exact ⟨z, fun _ => z⟩
    · cases h
  | .rng as => ri_rng (snEs as)
  | .zip a b => ri_zip (snE a) (snE b)
  | .enm a => ri_enm (snE a)
end
end
end Q
namespace Q
open PySem PySem.Spec L2
section
variable {NM : Nam} {K : PySem.W.Frag} {F : Fr} {G H G' H' : Hp} {ρ : Env} {σ : L2.St}
theorem SlOk.own_ne {s : Sl} {o : Option V} (h : SlOk NM K F G H s o) {a : Addr} (z : ownAt s o a) : H a ≠ none ∧ G a = none := by
  cases s with
  | un => exact z.2.elim
  | val d => exact z.2.elim
  | lok d => exact z.2.elim
  | own ds =>
    obtain ⟨l, vs, h1, h2, h3, _⟩ := h
    cases (show some (V.ref l) = some (V.ref a) from h1.symm.trans z.1)
    exact ⟨by rw [h2]; exact fun q => (nomatch q), h3⟩
  | obj c ks ds =>
    obtain ⟨x, dx, xs, h1, h2, h3, h4, _⟩ := h
    cases (show some (V.ref x) = some (V.ref a) from h1.symm.trans z.1)
    exact ⟨by rw [h2]; exact fun q => (nomatch q), h4⟩
theorem set_same {α : Type} {l : List α} {i : Nat} {a b c : α} (h : l[i]? = some a) (e : (l.set i b)[i]? = some c) : c = b := by
  have hl := (List.getElem?_eq_some_iff.mp h).1
  rw [List.getElem?_set_self hl] at e
  exact (Option.some.inj e).symm
theorem R.freeze (r : R NM K F ρ G σ H) {i : Nat} {ds : List D} (h : ρ[i]? = some (.own ds)) : ∃ G', R NM K F (ρ.set i (.val (.lst ds))) G' σ H ∧ Same G G' := by
  have hi : i < σ.length := by
    rw [← r.len]
    exact (List.getElem?_eq_some_iff.mp h).1
  have ho : σ[i]? = some σ[i] := List.getElem?_eq_getElem hi
  obtain ⟨l, vs, h1, h2, h3, h4, h5, h6⟩ := r.sl i _ _ h ho
  have gg := same_upd (o := .lst vs) h3
  refine ⟨upd G l (.lst vs), ⟨by rw [List.length_set]; exact r.len, fun b o z => ?_, r.gg.trans gg, r.keep, r.md, fun b z1 z2 => ?_, fun j s o z1 z2 => ?_, fun j k s t o u a hjk z1 z2 z3 z4 z5 z6 => ?_⟩, gg⟩
  · by_cases hb : b = l
    · subst hb
      rw [upd_same] at z
      rw [← z]
      exact h2
    · rw [upd_ne hb] at z
      exact r.sub b o z
  · rw [upd_ne (fun e => z1 (by rw [e]; exact h4))]
    exact r.sep b z1 z2
  · by_cases hj : i = j
    · subst hj
      cases set_same h z1
      rw [ho] at z2
      cases z2
      exact ⟨.ref l, h1, .lst upd_same h5 (h6.mono gg)⟩
    · rw [List.getElem?_set_ne hj] at z1
      have q := r.sl j s o z1 z2
      cases s with
      | un => trivial
      | val d =>
        obtain ⟨v, q1, q2⟩ := q
        exact ⟨v, q1, q2.mono gg⟩
      | lok d =>
        obtain ⟨v, q1, q2⟩ := q
        refine ⟨v, q1, ?_⟩
        have ne : ∀ b, F.H_0 b ≠ none → b ≠ l := fun b z e => z (by rw [e]; exact h4)
        cases q2 with
        | frz r => exact .frz (r.mono gg)
        | own k1 k2 k3 k4 k5 k6 => exact .own k1 (by rw [upd_ne (ne _ k3)]; exact k2) k3 k4 k5 (k6.mono gg)
        | obj k1 k2 k3 k4 k5 k6 => exact .obj k1 k2 (by rw [upd_ne (ne _ k4)]; exact k3) k4 k5 (k6.mono gg)
      | own es =>
        obtain ⟨l2, us, q1, q2, q3, q4, q5, q6⟩ := q
        refine ⟨l2, us, q1, q2, ?_, q4, q5, q6.mono gg⟩
        rw [upd_ne (fun e => r.dis i j _ _ _ _ l hj h z1 ho z2 ⟨h1, trivial⟩ ⟨by rw [← e]; exact q1, trivial⟩)]
        exact q3
      | obj c ks es =>
        obtain ⟨x, dx, xs, q1, q2, q3, q4, q5, q6⟩ := q
        refine ⟨x, dx, xs, q1, q2, q3, ?_, q5, q6.mono gg⟩
        rw [upd_ne (fun e => r.dis i j _ _ _ _ l hj h z1 ho z2 ⟨h1, trivial⟩ ⟨by rw [← e]; exact q1, trivial⟩)]
        exact q4
  · by_cases hj : i = j
    · subst hj
      cases set_same h z1
      exact z5.2
    · by_cases hk : i = k
      · subst hk
        cases set_same h z2
        exact z6.2
      · rw [List.getElem?_set_ne hj] at z1
        rw [List.getElem?_set_ne hk] at z2
        exact r.dis j k s t o u a hjk z1 z2 z3 z4 z5 z6
theorem R.own (r : R NM K F ρ G σ H) (x : Ext G H G' H') {i : Nat} {l : Addr} {vs : List V} {ds : List D} (h0 : H l = none) (h1 : H' l = some (.lst vs)) (h2 : G' l = none) (h3 : vs.length ≤ sizeLine) (h4 : Reps NM K G' vs ds) :
    R NM K F (ρ.set i (.own ds)) G' (σ.set i (some (.ref l))) H' := by
  have r' := r.ext x
  have no : ∀ (j : Nat) s o, i ≠ j → ρ[j]? = some s → σ[j]? = some o → ¬ ownAt s o l := fun j s o hj z1 z2 z3 => ((r.sl j s o z1 z2).own_ne z3).1 h0
  have isO : ∀ {s : Sl} {o : Option V} {a : Addr}, (ρ.set i (.own ds))[i]? = some s → (σ.set i (some (.ref l)))[i]? = some o → ownAt s o a → a = l := fun {s o a} z1 z2 z3 => by
    have hl : i < (ρ.set i (Sl.own ds)).length := (List.getElem?_eq_some_iff.mp z1).1
    rw [List.length_set] at hl
    rw [List.getElem?_set_self (by rw [← r.len]; exact hl)] at z2
    cases z2
    cases z3.1
    rfl
  refine ⟨by rw [List.length_set, List.length_set]; exact r.len, r'.sub, r'.gg, r'.keep, r'.md, r'.sep, fun j s o z1 z2 => ?_, fun j k s t o u a hjk z1 z2 z3 z4 z5 z6 => ?_⟩
  · by_cases hj : i = j
    · subst hj
      have hl : i < (ρ.set i (Sl.own ds)).length := (List.getElem?_eq_some_iff.mp z1).1
      rw [List.length_set] at hl
      rw [List.getElem?_set_self hl] at z1
      rw [List.getElem?_set_self (by rw [← r.len]; exact hl)] at z2
      cases z1
      cases z2
      exact ⟨l, vs, rfl, h1, h2, r.fresh h0, h3, h4⟩
    · rw [List.getElem?_set_ne hj] at z1 z2
      exact r'.sl j s o z1 z2
  · by_cases hj : i = j
    · subst hj
      have := isO z1 z3 z5
      subst this
      rw [List.getElem?_set_ne hjk] at z2 z4
      exact no k t u hjk z2 z4 z6
    · by_cases hk : i = k
      · subst hk
        have := isO z2 z4 z6
        subst this
        rw [List.getElem?_set_ne hj] at z1 z3
        exact no j s o hj z1 z3 z5
      · rw [List.getElem?_set_ne hj] at z1 z3
        rw [List.getElem?_set_ne hk] at z2 z4
        exact r.dis j k s t o u a hjk z1 z2 z3 z4 z5 z6
theorem R.chg (r : R NM K F ρ G σ H) {i : Nat} {s0 s1 : Sl} {a : Addr} {u : HO} (h : ρ[i]? = some s0) (ha : σ[i]? = some (some (.ref a))) (hw : ownAt s0 (some (.ref a)) a) (hw1 : ∀ b, ownAt s1 (some (.ref a)) b → b = a)
    (hm : F.H_0 a = none ∨ F.M a) (hs : SlOk NM K F G (upd H a u) s1 (some (.ref a))) : R NM K F (ρ.set i s1) G σ (upd H a u) := by
  have g0 := (r.sl i _ _ h ha).own_ne hw
  refine ⟨by rw [List.length_set]; exact r.len, fun b o z => ?_, r.gg, fun b o z1 z2 => ?_, fun b z => ?_, r.sep, fun j s o z1 z2 => ?_, fun j k s t o w b hjk z1 z2 z3 z4 z5 z6 => ?_⟩
  · rw [upd_ne (ne_of_none z g0.2)]
    exact r.sub b o z
  · rw [upd_ne (fun e => by
      subst e
      rcases hm with hm | hm
      · rw [hm] at z1; cases z1
      · exact z2 hm)]
    exact r.keep b o z1 z2
  · by_cases hb : b = a
    · rw [hb, upd_same]
      exact fun q => nomatch q
    · rw [upd_ne hb]
      exact r.md b z
  · by_cases hj : i = j
    · subst hj
      cases set_same h z1
      rw [ha] at z2
      cases z2
      exact hs
    · rw [List.getElem?_set_ne hj] at z1
      have q := r.sl j s o z1 z2
      have nd : ∀ b, ownAt s o b → b ≠ a := fun b q e => by
        subst e
        exact r.dis i j _ _ _ _ b hj h z1 ha z2 hw q
      cases s with
      | un => trivial
      | val d => exact q
      | lok d =>
        obtain ⟨v, q1, q2⟩ := q
        refine ⟨v, q1, ?_⟩
        have ne : ∀ b, F.H_0 b ≠ none → ¬ F.M b → b ≠ a := fun b z1 z2 e => by
          subst e
          exact hm.elim z1 z2
        cases q2 with
        | frz r => exact .frz r
        | own k1 k2 k3 k4 k5 k6 => exact .own (by rw [upd_ne (ne _ k3 k4)]; exact k1) k2 k3 k4 k5 k6
        | obj k1 k2 k3 k4 k5 k6 => exact .obj (by rw [upd_ne (ne _ k4 k5)]; exact k1) k2 k3 k4 k5 k6
      | own es =>
        obtain ⟨l2, us, q1, q2, q3⟩ := q
        exact ⟨l2, us, q1, by rw [upd_ne (nd l2 ⟨q1, trivial⟩)]; exact q2, q3⟩
      | obj c ks es =>
        obtain ⟨x, dx, xs, q1, q2, q3⟩ := q
        exact ⟨x, dx, xs, q1, by rw [upd_ne (nd x ⟨q1, trivial⟩)]; exact q2, q3⟩
  · by_cases hj : i = j
    · subst hj
      cases set_same h z1
      rw [ha] at z3
      cases z3
      have := hw1 b z5
      subst this
      rw [List.getElem?_set_ne hjk] at z2
      exact r.dis i k _ _ _ _ b hjk h z2 ha z4 hw z6
    · by_cases hk : i = k
      · subst hk
        cases set_same h z2
        rw [ha] at z4
        cases z4
        have := hw1 b z6
        subst this
        rw [List.getElem?_set_ne hj] at z1
        exact r.dis i j _ _ _ _ b hj h z1 ha z3 hw z5
      · rw [List.getElem?_set_ne hj] at z1
        rw [List.getElem?_set_ne hk] at z2
        exact r.dis j k s t o w b hjk z1 z2 z3 z4 z5 z6
theorem own_at {a b : Addr} {ds : List D} (h : ownAt (.own ds) (some (.ref a)) b) : b = a := by
  cases h.1
  rfl
theorem obj_at {a b : Addr} {c : Nat} {ks : List Nat} {ds : List D} (h : ownAt (.obj c ks ds) (some (.ref a)) b) : b = a := by
  cases h.1
  rfl
end
section
variable (NM : Nam) (K : PySem.W.Frag) (W : WX)
def LS_ (f : Env → Dn → Prop) : TS := fun De σ H => ∃ F ρ G d, R NM K F ρ G σ H ∧ f ρ d ∧
  (∀ ρ' G' σ' H', R NM K F ρ' G' σ' H' → Same G G' → d.nx ρ' → De.nx σ' H') ∧ (∀ ρ' G' σ' H', R NM K F ρ' G' σ' H' → Same G G' → d.bk ρ' → De.bk σ' H') ∧ (∀ ρ' G' σ' H', R NM K F ρ' G' σ' H' → Same G G' → d.ct ρ' → De.ct σ' H') ∧
  (∀ v e ρ' G' σ' H', R NM K F ρ' G' σ' H' → Same G G' → Rep NM K G' v e → d.rt e → De.rt v H') ∧ (∀ cls dx ρ' G' σ' H' x, R NM K F ρ' G' σ' H' → Same G G' → RepX NM K G' cls dx x → d.er x ρ' → W cls dx σ' H')
end
structure OkS (X : Cx) (NM : Nam) (B : List Str) (Φ : List Cal) (Γ : List (Str × D)) (AT : List (Nat × Nat)) : Prop where
  ok : Ok X NM B Φ Γ AT
  kind : X.env.scope.kind = .function
  fn : ∀ x, X.fn x = true
  po : PassesOwn (model X.prog X.w) X.A X.env X.xe
  stk : X.stack = X.env :: X.outer
  frm : X.env.frame = some X.env.locals
theorem Ok.tr {X : Cx} {NM : Nam} {B : List Str} {Φ : List Cal} {Γ : List (Str × D)} {AT : List (Nat × Nat)} (ok : Ok X NM B Φ Γ AT) (pn : List (Addr × Obj)) (xe : Value → Shared → Prop) : Ok (X.tr pn xe) NM B Φ Γ AT :=
  ⟨ok.calm, ok.nd, ok.hu, ok.fre, ok.isq, ok.glo, ok.dfs, ok.dfb, ok.meb, ok.cls, ok.met, ok.atr, ok.exs, ok.ex0, ok.kds, ok.sub, ok.its⟩
theorem OkS.tr {X : Cx} {NM : Nam} {B : List Str} {Φ : List Cal} {Γ : List (Str × D)} {AT : List (Nat × Nat)} (ok : OkS X NM B Φ Γ AT) {pn : List (Addr × Obj)} {xe : Value → Shared → Prop} (po : PassesOwn (model X.prog X.w) X.A X.env xe) : OkS (X.tr pn xe) NM B Φ Γ AT :=
  ⟨ok.ok.tr pn xe, ok.kind, ok.fn, po, ok.stk, ok.frm⟩
theorem OkS.tg {X : Cx} {NM : Nam} {B : List Str} {Φ : List Cal} {Γ : List (Str × D)} {AT : List (Nat × Nat)} (o : OkS X NM B Φ Γ AT) : TgOk X X.env.scope := fun x => ⟨fun h => h, fun h => ⟨h, o.fn x⟩⟩
section
variable {X : Cx} {NM : Nam} {B : List Str} {Φ : List Cal} {Γ : List (Str × D)} {AT : List (Nat × Nat)} {W : WX} {e : Expr} {fa fb : Wk} {pos : Pos} {st : Stmt} {f f2 : Env → Dn → Prop} {sts sts2 : List Stmt}
theorem ps_imp {t t' : TS} (h : PS X st t) (i : ∀ D σ H, t' D σ H → t D σ H) : PS X st t' := ⟨fun pins s σ H D I q => h.run pins s σ H D I (i _ _ _ q)⟩
theorem pss_imp {t t' : TS} (h : PSs X sts t) (i : ∀ D σ H, t' D σ H → t D σ H) : PSs X sts t' := ⟨fun pins s σ H D I q => h.run pins s σ H D I (i _ _ _ q)⟩
theorem ss_nil : PSs X [] (LS_ NM X.K W fun ρ d => d.nx ρ) := pss_imp pss_nil fun D σ H ⟨F, ρ, G, d, r, q, h1, _⟩ => h1 ρ G σ H r (.refl _) q
theorem ss_cons (h : PS X st (LS_ NM X.K W f)) (h2 : PSs X sts (LS_ NM X.K W f2)) : PSs X (st :: sts) (LS_ NM X.K W fun ρ d => f ρ { d with nx := fun ρ' => f2 ρ' d }) :=
  pss_imp (pss_cons h h2) fun D σ H ⟨F, ρ, G, d, r, q, h1, h2, h3, h4, h5⟩ => ⟨F, ρ, G, _, r, q, fun ρ' G' σ' H' r' g' q' => ⟨F, ρ', G', d, r', q', fun ρ2 G2 σ2 H2 r2 g2 => h1 ρ2 G2 σ2 H2 r2 (g'.trans g2),
    fun ρ2 G2 σ2 H2 r2 g2 => h2 ρ2 G2 σ2 H2 r2 (g'.trans g2), fun ρ2 G2 σ2 H2 r2 g2 => h3 ρ2 G2 σ2 H2 r2 (g'.trans g2), fun v e ρ2 G2 σ2 H2 r2 g2 => h4 v e ρ2 G2 σ2 H2 r2 (g'.trans g2), fun c dx ρ2 G2 σ2 H2 x r2 g2 => h5 c dx ρ2 G2 σ2 H2 x r2 (g'.trans g2)⟩, h2, h3, h4, h5⟩
theorem ss_frz (i : Nat) (h : PSs X sts (LS_ NM X.K W f)) : PSs X sts (LS_ NM X.K W fun ρ d => f (frzR ρ i) d) :=
  pss_imp h fun D σ H ⟨F, ρ, G, d, r, q, h1, h2, h3, h4, h5⟩ => by
    have q' : f (frzR ρ i) d := q
    clear q
    unfold frzR at q'
    split at q'
    · rename_i ds hd
      obtain ⟨G', r', g'⟩ := r.freeze hd
      exact ⟨F, _, G', d, r', q', fun ρ2 G2 σ2 H2 r2 g2 => h1 ρ2 G2 σ2 H2 r2 (g'.trans g2),
        fun ρ2 G2 σ2 H2 r2 g2 => h2 ρ2 G2 σ2 H2 r2 (g'.trans g2), fun ρ2 G2 σ2 H2 r2 g2 => h3 ρ2 G2 σ2 H2 r2 (g'.trans g2), fun v e ρ2 G2 σ2 H2 r2 g2 => h4 v e ρ2 G2 σ2 H2 r2 (g'.trans g2), fun c dx ρ2 G2 σ2 H2 x r2 g2 => h5 c dx ρ2 G2 σ2 H2 x r2 (g'.trans g2)⟩
    · exact ⟨F, ρ, G, d, r, q', h1, h2, h3, h4, h5⟩
def LN (NM : Nam) (K : PySem.W.Frag) (W : WX) (f : Wk) : TE := fun σ H Q => ∃ F ρ G kd kx, R NM K F ρ G σ H ∧ f ρ kd kx ∧
  (∀ v G' H' d, Ext G H G' H' → Rep NM K G' v d → (∀ ds, d ≠ .lst ds) → kd d → Q v H') ∧
  (∀ l vs G' H' ds, Ext G H G' H' → H' l = some (.lst vs) → G' l = none → H l = none → vs.length ≤ sizeLine → Reps NM K G' vs ds → kd (.lst ds) → Q (.ref l) H') ∧ (∀ cls dx G' H' x, Ext G H G' H' → RepX NM K G' cls dx x → kx x → W cls dx σ H')
theorem lf_ln (h : PE X e (LF NM X.K W fa)) : PE X e (LN NM X.K W fa) := pe_imp h fun σ H Q ⟨F, ρ, G, kd, kx, r, q, _, h1, h2⟩ => ⟨F, ρ, G, kd, kx, r, q, h1, h2⟩
theorem addN_ok : OpR X (binaryOp .Add) (fun x y H Q => ∃ G d e kd, Same G H ∧ RepB NM X.K G H x d ∧ RepB NM X.K G H y e ∧ bopW .add d e kd ∧ (∀ v r, Rep NM X.K G v r → (∀ ds, r ≠ .lst ds) → kd r → Q v H) ∧
    (∀ l vs ds, H l = none → vs.length ≤ sizeLine → Reps NM X.K G vs ds → kd (.lst ds) → Q (.ref l) (upd H l (.lst vs))) ∧
    ∀ l vs ds, H l = none → vs.length ≤ sizeLine → Reps NM X.K G vs ds → kd (.tup ds) → Q (.ref l) (upd H l (.tup vs))) := by
  rintro pins s σ H x y v u Q I rx ry ⟨G, d, e, kd, sub, hd, he, w, q, q2, q3⟩
  cases d <;> cases e <;> first | exact w.elim | skip
  · cases hd.int; cases he.int
    exact op_add pins s σ H _ _ v u Q I rx ry ⟨_, _, rfl, rfl, q _ _ (.int _) (fun _ z => (nomatch z)) w⟩
  · cases hd.str; cases he.str
    exact op_add_str pins s σ H _ _ v u Q I rx ry ⟨_, _, rfl, rfl, w.1, q _ _ (.str _) (fun _ z => (nomatch z)) w.2⟩
  · obtain ⟨a, xs, rfl, s1, z1, r1⟩ := hd.tup sub
    obtain ⟨b, ys, rfl, s2, z2, r2⟩ := he.tup sub
    have e1 := r1.len
    have e2 := r2.len
    have w1 := w.1
    refine op_catA pins s σ H _ _ v u Q I rx ry ⟨_, _, _, _, rfl, rfl, s1, s2, by omega, fun z => ?_, fun _ z => ?_, fun _ _ p hp => q3 p _ _ hp (by rw [List.length_append]; omega) (r1.app r2) w.2⟩
    · subst z
      cases r1
      cases he with
      | frz t => exact q _ _ t (fun _ z => nomatch z) w.2
    · subst z
      cases r2
      have w2 := w.2
      rw [List.append_nil] at w2
      cases hd with
      | frz t => exact q _ _ t (fun _ z => nomatch z) w2
  · obtain ⟨a, xs, rfl, s1, z1, r1⟩ := hd.lst sub
    obtain ⟨b, ys, rfl, s2, z2, r2⟩ := he.lst sub
    have e1 := r1.len
    have e2 := r2.len
    have w1 := w.1
    exact op_cat pins s σ H _ _ v u Q I rx ry ⟨_, _, _, _, rfl, rfl, s1, s2, by omega, fun p hp => q2 p _ _ hp (by rw [List.length_append]; omega) (r1.app r2) w.2⟩
theorem sn_add {a b : Expr} (ha : PE X a (LB NM X.K W fa)) (hb : PE X b (LB NM X.K W fb)) : PE X (.BinOp a .Add b pos) (LN NM X.K W fun ρ k x => fa ρ (fun d => fb ρ (fun e => bopW .add d e k) x) x) :=
  pe_imp (pe_op addN_ok ha hb) fun σ H Q ⟨F, ρ, G, kd, kx, r, q, h1, h3, h2⟩ => ⟨F, ρ, G, _, kx, r, q, fun v G1 H1 d x1 r1 q1 => ⟨F, ρ, G1, _, kx, r.ext x1, q1, fun w G2 H2 e x2 r2 q2 =>
    ⟨G2, d, e, kd, x2.sub, r1.ext x2, r2, q2, fun u g r3 nl q3 => h1 u G2 H2 g (x1.trans x2) r3 nl q3, fun l vs ds z1 z2 z3 z4 => h3 l vs G2 _ ds ((x1.trans x2).trans (.own x2.sub z1 _)) upd_same (x2.sub.free z1) ((x1.trans x2).hh.free z1) z2 z3 z4, fun l vs ds z1 z2 z3 z4 => h1 (.ref l) (upd G2 l (.tup vs)) _ (.tup ds) ((x1.trans x2).trans (.new x2.sub z1 _)) (.tup (.of upd_same) z2 (z3.mono (same_upd (x2.sub.free z1)))) (fun _ z => nomatch z) z4⟩, fun c d G2 H2 x x2 => h2 c d G2 H2 x (x1.trans x2)⟩, h2⟩
theorem sf_list (ok : Ok X NM B Φ Γ AT) {x : Str} {p : Pos} (hgl : Gl X x) (hdb : (x == ("__debug__" : Str)) = false) (hg : good e = true) (h1 : X.mg x = none) (h2 : bootBuiltins x = some (.type "list")) (h3 : x ≠ "__name__") (ha : PE X e (LB NM X.K W fa)) :
    PE X (.Call (.Name x p) [e] [] pos) (LF NM X.K W fun ρ k x => fa ρ (fun d => bltW .list [d] k) x) :=
  pe_imp (pe_callTy call_list_of hgl h1 h2 (sa_oneB hg ha) h3 hdb (starEach_good hg) rfl) fun σ H Q ⟨F, ρ, G, kd, kx, r, q, h1, h2⟩ => ⟨F, ρ, G, _, kx, r, q, fun v G1 H1 d x1 r1 q1 => by
    cases d <;> first | exact q1.elim | skip
    · obtain ⟨a, xs, rfl, s1, z1, r2⟩ := r1.tup x1.sub
      exact ⟨_, _, rfl, .inr s1, fun l hl => h1 l _ G1 _ _ (x1.trans (.own x1.sub hl _)) upd_same (x1.sub.free hl) (x1.hh.free hl) z1 r2 q1⟩
    · obtain ⟨a, xs, rfl, s1, z1, r2⟩ := r1.lst x1.sub
      exact ⟨_, _, rfl, .inl (.of s1), fun l hl => h1 l _ G1 _ _ (x1.trans (.own x1.sub hl _)) upd_same (x1.sub.free hl) (x1.hh.free hl) z1 r2 q1⟩, h2⟩
theorem swaps_val (h : (match e with | .ListComp _ _ _ _ => false | .SetComp _ _ _ _ => false | .DictComp _ _ _ _ _ => false | _ => true) = true) {t : Option Expr} {l : Nat} : swapsWith e t l X.env = pure false := by
  cases e <;> first | rfl | cases h
theorem ss_asg (ok : OkS X NM B Φ Γ AT) {tg : Expr} {vs : List Nat} {fg : Gk} (he : PE X e (LE NM X.K W fa)) (hg : PG X tg (LG NM X.K vs fg)) (hs : swapsWithSole [tg] e pos.line X.env = pure false) (hw : swappedStores [tg] e X.env = pure none) (h1 : good tg = true) :
    PS X (.Assign [tg] e pos) (LS_ NM X.K W fun ρ d => fa ρ (fun v => fg v ρ d.nx) fun x => d.er x ρ) :=
  ps_imp (ps_asg he hg hs hw (by rw [assignGood h1]; rfl)) fun D σ H ⟨F, ρ, G, d, r, q, h1, h2, h3, h4, h5⟩ => ⟨F, ρ, G, _, _, r, q, fun v G1 H1 dv x1 r1 q1 =>
    ⟨F, ρ, G1, dv, _, r.ext x1, r1, q1, fun σ' ρ' r' _ q' => h1 ρ' G1 σ' H1 r' x1.gg q'⟩, fun c dx G1 H1 x x1 rx q1 => h5 c dx ρ G1 σ H1 x (r.ext x1) x1.gg rx q1⟩
theorem ss_new {tg : Expr} {i : Nat} (h : PS X (.Assign [tg] e pos) (tAsg (LN NM X.K W fa) (gName i))) : PS X (.Assign [tg] e pos) (LS_ NM X.K W fun ρ d => fa ρ (fun v => d.nx (ρ.set i (slOf v))) fun x => d.er x ρ) :=
  ps_imp h fun D σ H ⟨F, ρ, G, d, r, q, h1, h2, h3, h4, h5⟩ => ⟨F, ρ, G, _, _, r, q, fun v G1 H1 dv x1 r1 nl q1 => by
      have e : slOf dv = .val dv := by
        cases dv <;> first | rfl | exact absurd rfl (nl _)
      refine h1 _ G1 _ H1 ((r.ext x1).set r1) x1.gg ?_
      rw [← e]
      exact q1, fun l vs G1 H1 ds x1 a1 a2 a3 a4 a5 q1 => h1 _ G1 _ H1 (r.own x1 a3 a1 a2 a4 a5) x1.gg q1, fun c dx G1 H1 x x1 rx q1 => h5 c dx ρ G1 σ H1 x (r.ext x1) x1.gg rx q1⟩
theorem ss_fz {tg : Expr} {i : Nat} (h : PS X (.Assign [tg] e pos) (tAsg (LF NM X.K W fa) (gName i))) : PS X (.Assign [tg] e pos) (LS_ NM X.K W fun ρ d => fa ρ (fun v => d.nx (ρ.set i (.val v))) fun x => d.er x ρ) :=
  ps_imp h fun D σ H ⟨F, ρ, G, d, r, q, h1, h2, h3, h4, h5⟩ => ⟨F, ρ, G, _, _, r, q, fun l vs G1 H1 ds x1 a1 a2 a3 a4 a5 q1 =>
    h1 _ (upd G1 l (.lst vs)) _ H1 ((r.ext (x1.freeze a1 a2 a3)).set (.lst upd_same a4 (a5.mono (same_upd a2)))) (x1.freeze a1 a2 a3).gg q1, fun c dx G1 H1 x x1 rx q1 => h5 c dx ρ G1 σ H1 x (r.ext x1) x1.gg rx q1⟩
theorem ss_par (ok : OkS X NM B Φ Γ AT) {i j : Nat} {x y : Str} {a b : Expr} {px py pt : Pos} {kt k2 : Nat} {pt2 : Pos} (hi : X.N[i]? = some x) (hj : X.N[j]? = some y) (hij : i ≠ j)
    (hx : X.env.scope.names.lookup x = some .local) (hy : X.env.scope.names.lookup y = some .local) (ga : good a = true) (gb : good b = true) (ha : PE X a (LE NM X.K W fa)) (hb : PE X b (LE NM X.K W fb))
    (hw : swappedStores [.Tuple [.Name x px, .Name y py] kt pt] (.Tuple [a, b] k2 pt2) X.env = pure (some [x, y])) :
    PS X (.Assign [.Tuple [.Name x px, .Name y py] kt pt] (.Tuple [a, b] k2 pt2) pos) (LS_ NM X.K W fun ρ d => fa ρ (fun v => fb ρ (fun w => d.nx ((ρ.set i (.val v)).set j (.val w))) fun x => d.er x ρ) fun x => d.er x ρ) :=
  ps_imp (ps_par (pos := pos) ok.ok.calm ok.ok.nd hi hj hij hx hy (sa_cons ga ha (sa_cons gb hb sa_nil)) hw) fun D σ H ⟨F, ρ, G, d, r, q, h1, h2, h3, h4, h5⟩ =>
    ⟨F, ρ, G, fun ds => ∃ v w, ds = [v, w] ∧ d.nx ((ρ.set i (.val v)).set j (.val w)), _, r, (by
      have e : ∀ v w : Q.D, (∃ v' w', [v, w] = [v', w'] ∧ d.nx ((ρ.set i (.val v')).set j (.val w'))) = d.nx ((ρ.set i (.val v)).set j (.val w)) := fun v w => propext ⟨fun ⟨_, _, z, q⟩ => by cases z; exact q, fun q => ⟨_, _, rfl, q⟩⟩
      have q' : fa ρ (fun v => fb ρ (fun w => d.nx ((ρ.set i (.val v)).set j (.val w))) fun x => d.er x ρ) (fun x => d.er x ρ) := q
      simp only [e]
      exact q'), fun us G1 H1 ds x1 r1 l1 ⟨v, w, z, q1⟩ => by
      subst z
      cases r1 with
      | cons a1 a2 =>
        cases a2 with
        | cons a2 a3 =>
          cases a3
          exact ⟨_, _, rfl, h1 _ G1 _ H1 (((r.ext x1).set a1).set a2) x1.gg q1⟩, fun c dx G1 H1 x x1 rx q1 => h5 c dx ρ G1 σ H1 x (r.ext x1) x1.gg rx q1⟩
theorem ss_exp (he : PE X e (LE NM X.K W fa)) (hs : swapsWith e none pos.line X.env = pure false) : PS X (.Expr e pos) (LS_ NM X.K W fun ρ d => fa ρ (fun _ => d.nx ρ) fun x => d.er x ρ) :=
  ps_imp (ps_expr he hs) fun D σ H ⟨F, ρ, G, d, r, q, h1, h2, h3, h4, h5⟩ => ⟨F, ρ, G, _, _, r, q, fun v G1 H1 dv x1 r1 q1 => h1 ρ G1 σ H1 (r.ext x1) x1.gg q1, fun c dx G1 H1 x x1 rx q1 => h5 c dx ρ G1 σ H1 x (r.ext x1) x1.gg rx q1⟩
theorem ss_ret (he : PE X e (LE NM X.K W fa)) : PS X (.Return (some e) pos) (LS_ NM X.K W fun ρ d => fa ρ d.rt fun x => d.er x ρ) :=
  ps_imp (ps_ret he) fun D σ H ⟨F, ρ, G, d, r, q, h1, h2, h3, h4, h5⟩ => ⟨F, ρ, G, _, _, r, q, fun v G1 H1 dv x1 r1 q1 => h4 v dv ρ G1 σ H1 (r.ext x1) x1.gg r1 q1, fun c dx G1 H1 x x1 rx q1 => h5 c dx ρ G1 σ H1 x (r.ext x1) x1.gg rx q1⟩
theorem ss_retN : PS X (.Return none pos) (LS_ NM X.K W fun _ d => d.rt .non) :=
  ps_imp ps_retN fun D σ H ⟨F, ρ, G, d, r, q, h1, h2, h3, h4, h5⟩ => h4 .non .non ρ G σ H r (.refl _) .non q
theorem ss_ite {c : Expr} {t : Tk} (hc : PT X c (LT NM X.K W t)) (ha : PSs X sts (LS_ NM X.K W f)) (hb : PSs X sts2 (LS_ NM X.K W f2)) : PS X (.If c sts sts2 pos) (LS_ NM X.K W fun ρ d => t ρ (fun b => if b = true then f ρ d else f2 ρ d) fun x => d.er x ρ) :=
  ps_imp (ps_if hc ha hb) fun D σ H ⟨F, ρ, G, d, r, q, h1, h2, h3, h4, h5⟩ => ⟨F, ρ, G, _, _, r, q, fun b G1 H1 x1 q1 => by
    have g' := x1.gg
    cases b with
    | true => exact iteT ⟨F, ρ, G1, d, r.ext x1, q1, fun ρ2 G2 σ2 H2 r2 g2 => h1 ρ2 G2 σ2 H2 r2 (g'.trans g2),
        fun ρ2 G2 σ2 H2 r2 g2 => h2 ρ2 G2 σ2 H2 r2 (g'.trans g2), fun ρ2 G2 σ2 H2 r2 g2 => h3 ρ2 G2 σ2 H2 r2 (g'.trans g2), fun v e ρ2 G2 σ2 H2 r2 g2 => h4 v e ρ2 G2 σ2 H2 r2 (g'.trans g2), fun c dx ρ2 G2 σ2 H2 x r2 g2 => h5 c dx ρ2 G2 σ2 H2 x r2 (g'.trans g2)⟩
    | false => exact iteF ⟨F, ρ, G1, d, r.ext x1, q1, fun ρ2 G2 σ2 H2 r2 g2 => h1 ρ2 G2 σ2 H2 r2 (g'.trans g2),
        fun ρ2 G2 σ2 H2 r2 g2 => h2 ρ2 G2 σ2 H2 r2 (g'.trans g2), fun ρ2 G2 σ2 H2 r2 g2 => h3 ρ2 G2 σ2 H2 r2 (g'.trans g2), fun v e ρ2 G2 σ2 H2 r2 g2 => h4 v e ρ2 G2 σ2 H2 r2 (g'.trans g2), fun c dx ρ2 G2 σ2 H2 x r2 g2 => h5 c dx ρ2 G2 σ2 H2 x r2 (g'.trans g2)⟩, fun c dx G1 H1 x x1 rx q1 => h5 c dx ρ G1 σ H1 x (r.ext x1) x1.gg rx q1⟩
theorem ss_pas : PS X (.Pass pos) (LS_ NM X.K W fun ρ d => d.nx ρ) := ps_imp ps_pass fun D σ H ⟨F, ρ, G, d, r, q, h1, _⟩ => h1 ρ G σ H r (.refl _) q
theorem ss_nev {st : Stmt} : PS X st (LS_ NM X.K W fun _ _ => False) := ps_imp ps_never fun D σ H ⟨F, ρ, G, d, r, q, _⟩ => q.elim
theorem ss_brk : PS X (.Break pos) (LS_ NM X.K W fun ρ d => d.bk ρ) := ps_imp ps_break fun D σ H ⟨F, ρ, G, d, r, q, _, h1, _⟩ => h1 ρ G σ H r (.refl _) q
theorem ss_cnt : PS X (.Continue pos) (LS_ NM X.K W fun ρ d => d.ct ρ) := ps_imp ps_continue fun D σ H ⟨F, ρ, G, d, r, q, _, _, h1, _⟩ => h1 ρ G σ H r (.refl _) q
theorem ss_app {x : Str} {i : Nat} {p ap : Pos} (hp : PE X (.Name x p) (tVar i)) (hg : good e = true) (he : PE X e (LE NM X.K W fa)) (hl : (ap.endLine == pos.line) = true) {ep : Pos} :
    PS X (.Expr (.Call (.Attribute (.Name x p) "append" ap) [e] [] pos) ep) (LS_ NM X.K W fun ρ d => match ρ[i]? with
    | some (.own ds) => fa ρ (fun v => ds.length < sizeLine ∧ d.nx (ρ.set i (.own (ds ++ [v])))) fun x => d.er x ρ
    | _ => False) := by
  have fm : ((backTo pos (starEach [e] X.env)).all (fun x => !x.1) && (backToKw pos (keywordEach [] X.env)).all (fun x => x.1.isSome) && decide ([e].length + ([] : List Keyword).length + (if ([] : List Keyword).isEmpty then 0 else 1) < 30)) = true := by
    rw [starEach_good hg]
    rfl
  have pe := pe_bm (cpos := pos) (apos := ap) PySem.F.plainAttrs_list PySem.F.slot_list_append PySem.F.type_list_append mt_append hp (pa_cons he pa_nil (starEach_good hg)) rfl fm hl (starEach_good hg) rfl
  refine ps_imp (ps_expr (pos := ep) pe (swaps_val rfl)) fun De σ H ⟨F, ρ, G, d, r, q, h1, h2, h3, h4, h5⟩ => ?_
  dsimp only at q
  split at q
  · rename_i ds hd
    obtain ⟨o, ho, l, us, hv, a1, a2, a3, a4, a5⟩ := r.slot hd
    subst hv
    refine ⟨.ref l, ho, .inl ⟨rfl, _, .inl (.inl a1)⟩, F, ρ, G, _, _, r, q, fun v G1 H1 dv x1 r1 q1 => ?_, fun c dx G1 H1 x x1 rx q1 => h5 c dx ρ G1 σ H1 x (r.ext x1) x1.gg rx q1⟩
    have b1 := x1.hh _ _ a1
    have b2 := x1.sep l (by rw [a1]; exact fun z => (nomatch z)) a2
    have ll := a5.len
    refine ⟨l, us, v, rfl, rfl, b1, by rw [ll]; exact q1.1, h1 _ G1 _ _ ((r.ext x1).chg hd ho ⟨rfl, trivial⟩ (fun b => own_at) (.inl a3) ⟨l, us ++ [v], rfl, upd_same, b2, a3, ?_, (a5.mono x1.gg).app (.cons r1 .nil)⟩) x1.gg q1.2⟩
    rw [List.length_append, ll]
    exact q1.1
  · exact q.elim
theorem ss_setIx {x : Str} {i : Nat} {p sp : Pos} {ix : Expr} (hp : PE X (.Name x p) (tVar i)) (hg : good ix = true) (he : PE X e (LE NM X.K W fa)) (hi : PE X ix (LE NM X.K W fb)) (hs : swapsWithSole [.Subscript (.Name x p) ix sp] e pos.line X.env = pure false) :
    PS X (.Assign [.Subscript (.Name x p) ix sp] e pos) (LS_ NM X.K W fun ρ d => match ρ[i]? with
    | some (.own ds) => fa ρ (fun v => fb ρ (fun n => match n with
      | .int n => (match ixN ds.length n with
        | some m => d.nx (ρ.set i (.own (ds.set m v)))
        | none => False)
      | _ => False) fun x => d.er x ρ) (fun x => d.er x ρ)
    | _ => False) := by
  have ha : assign (.Subscript (.Name x p) ix sp) X.env = assign (.Subscript (.Name x p) ix sp) X.env := rfl
  have ps := ps_asg (pos := pos) he (pg_sub (pos := sp) hp hi set_list (by intro v; cases ix <;> first | rfl | cases hg)) hs (by cases e <;> rfl) rfl
  refine ps_imp ps fun De σ H ⟨F, ρ, G, d, r, q, h1, h2, h3, h4, h5⟩ => ?_
  dsimp only at q
  split at q
  · rename_i ds hd
    obtain ⟨o, ho, l, us, hv, a1, a2, a3, a4, a5⟩ := r.slot hd
    subst hv
    refine ⟨F, ρ, G, _, _, r, q, fun v G1 H1 dv x1 r1 q1 => ⟨.ref l, ho, F, ρ, G1, _, _, r.ext x1, q1, fun w G2 H2 dw x2 r2 q2 => ?_, fun c dx G2 H2 x x2 rx q2 => h5 c dx ρ G2 σ H2 x ((r.ext x1).ext x2) (x1.gg.trans x2.gg) rx q2⟩, fun c dx G1 H1 x x1 rx q1 => h5 c dx ρ G1 σ H1 x (r.ext x1) x1.gg rx q1⟩
    have x3 := x1.trans x2
    have b1 := x3.hh _ _ a1
    have b2 := x3.sep l (by rw [a1]; exact fun z => (nomatch z)) a2
    have ll := a5.len
    cases dw <;> first | exact q2.elim | skip
    cases r2
    dsimp only at q2
    split at q2
    · rename_i m hm
      refine ⟨l, us, _, m, rfl, rfl, b1, by rw [ll]; exact hm, h1 _ G2 _ _ ((r.ext x3).chg hd ho ⟨rfl, trivial⟩ (fun b => own_at) (.inl a3) ⟨l, us.set m v, rfl, upd_same, b2, a3, ?_, (a5.mono x3.gg).set m (r1.mono x2.gg)⟩) x3.gg q2⟩
      rw [List.length_set]
      exact a4
    · exact q2.elim
  · exact q.elim
theorem ss_aug (ok : OkS X NM B Φ Γ AT) {x : Str} {i : Nat} {p : Pos} {o : Bop} {op : Operator} (ho : (match o, op with | .add, .Add => true | .sub, .Sub => true | _, _ => false) = true) (hi : X.N[i]? = some x) (hx : Loc X.env.scope x) (he : PE X e (LE NM X.K W fa)) :
    PS X (.AugAssign (.Name x p) op e pos) (LS_ NM X.K W fun ρ d => match ρ[i]? with
    | some (.val (.int v)) => fa ρ (fun w => match w with
      | .int w => bopW o (.int v) (.int w) fun r => d.nx (ρ.set i (.val r))
      | _ => False) fun x => d.er x ρ
    | _ => False) := by
  cases o <;> cases op <;> first | (cases ho; done) | skip
  · refine ps_imp (ps_aug (pos := pos) ok.ok.nd hi hx he ip_add (.inl (ok.fn x))) fun De σ H ⟨F, ρ, G, d, r, q, h1, h2, h3, h4, h5⟩ => ?_
    dsimp only at q
    split at q
    · rename_i v hd
      obtain ⟨o, ho, w, hv, hr⟩ := r.slot hd
      subst hv
      cases hr
      refine ⟨_, ho, F, ρ, G, _, _, r, q, fun w G1 H1 dw x1 r1 q1 => ?_, fun c dx G1 H1 x x1 rx q1 => h5 c dx ρ G1 σ H1 x (r.ext x1) x1.gg rx q1⟩
      cases dw <;> first | exact q1.elim | skip
      cases r1
      exact ⟨_, _, rfl, rfl, h1 _ G1 _ H1 ((r.ext x1).set (.int _)) x1.gg q1⟩
    · exact q.elim
  · refine ps_imp (ps_aug (pos := pos) ok.ok.nd hi hx he ip_sub (.inl (ok.fn x))) fun De σ H ⟨F, ρ, G, d, r, q, h1, h2, h3, h4, h5⟩ => ?_
    dsimp only at q
    split at q
    · rename_i v hd
      obtain ⟨o, ho, w, hv, hr⟩ := r.slot hd
      subst hv
      cases hr
      refine ⟨_, ho, F, ρ, G, _, _, r, q, fun w G1 H1 dw x1 r1 q1 => ?_, fun c dx G1 H1 x x1 rx q1 => h5 c dx ρ G1 σ H1 x (r.ext x1) x1.gg rx q1⟩
      cases dw <;> first | exact q1.elim | skip
      cases r1
      exact ⟨_, _, rfl, rfl, h1 _ G1 _ H1 ((r.ext x1).set (.int _)) x1.gg q1⟩
    · exact q.elim
theorem putD_zip {nm : Nat → Str} (inj : ∀ i j, nm i = nm j → i = j) {G : Hp} {K : PySem.W.Frag} {f : Nat} {v : V} {d : D} (hv : Rep NM K G v d) : ∀ {ks : List Nat} {xs : List V} {ds : List D}, Reps NM K G xs ds → ks.length = xs.length →
    ∃ ys, L2.putF (nm f) v ((ks.map nm).zip xs) = ((putD f d ks ds).1.map nm).zip ys ∧ Reps NM K G ys (putD f d ks ds).2 ∧ (putD f d ks ds).1.length = ys.length
  | [], _, _, .nil, _ => ⟨[v], rfl, .cons hv .nil, rfl⟩
  | [], _, _, .cons _ _, h => by cases h
  | _ :: _, _, _, .nil, h => by cases h
  | k :: ks, x :: xs, _, .cons (d := e) (ds := es) r rs, h => by
    obtain ⟨ys, h1, h2, h3⟩ := putD_zip inj hv (ks := ks) rs (by simpa using h)
    have pd : putD f d (k :: ks) (e :: es) = if k = f then (k :: ks, d :: es) else (k :: (putD f d ks es).1, e :: (putD f d ks es).2) := rfl
    by_cases hk : k = f
    · rw [pd, if_pos hk]
      subst hk
      refine ⟨v :: xs, ?_, .cons hv rs, by simpa using h⟩
      show (if nm k = nm k then (nm k, v) :: (ks.map nm).zip xs else _) = _
      rw [if_pos rfl]
      rfl
    · rw [pd, if_neg hk]
      refine ⟨x :: ys, ?_, .cons r h2, congrArg Nat.succ h3⟩
      show (if nm k = nm f then _ else (nm k, x) :: L2.putF (nm f) v ((ks.map nm).zip xs)) = _
      rw [if_neg (fun z => hk (inj _ _ z)), h1]
      rfl
theorem ss_fld (inj : ∀ i j, NM.at_ i = NM.at_ j → i = j) (ok : OkS X NM B Φ Γ AT) {x y : Str} {i f : Nat} {p ap : Pos} (hp : PE X (.Name x p) (tVar i)) (hf : NM.at_ f = y) (he : PE X e (LE NM X.K W fa)) (hs : swapsWith e (some (.Attribute (.Name x p) y ap)) pos.line X.env = pure false) :
    PS X (.Assign [.Attribute (.Name x p) y ap] e pos) (LS_ NM X.K W fun ρ d => match ρ[i]? with
    | some (.obj c ks ds) => atB AT c f = true ∧ ks.length < 1000 ∧ fa ρ (fun v => d.nx (ρ.set i (.obj c (putD f v ks ds).1 (putD f v ks ds).2))) fun x => d.er x ρ
    | _ => False) := by
  subst hf
  refine ps_imp (L2.ps_fld (pos := pos) hp he hs) fun De σ H ⟨F, ρ, G, d, r, q, h1, h2, h3, h4, h5⟩ => ?_
  dsimp only at q
  split at q
  · rename_i c ks ds hd
    obtain ⟨o, ho, a, dx, us, hv, a1, a2, a3, a4, a5⟩ := r.slot hd
    subst hv
    obtain ⟨q1, q2, q⟩ := q
    refine ⟨F, ρ, G, _, _, r, q, fun v G1 H1 dv x1 r1 q3 => ⟨.ref a, ho, a, _, dx, _, rfl, x1.hh _ _ a1, (ok.ok.atr _ (atB_mem q1)).1, (ok.ok.atr _ (atB_mem q1)).2, ?_, ?_⟩, fun c dx G1 H1 x x1 rx q1 => h5 c dx ρ G1 σ H1 x (r.ext x1) x1.gg rx q1⟩
    · rw [List.length_zip, List.length_map, a2, Nat.min_self, ← a2]
      exact q2
    · obtain ⟨ys, e1, e2, e3⟩ := putD_zip (NM := NM) inj (f := f) r1 (ks := ks) (a5.mono x1.gg) a2
      have b2 := x1.sep a (by rw [a1]; exact fun z => (nomatch z)) a3
      rw [e1]
      exact h1 _ G1 _ _ ((r.ext x1).chg hd ho ⟨rfl, trivial⟩ (fun b => obj_at) (.inr a4) ⟨a, dx, ys, rfl, upd_same, e3, b2, a4, e2⟩) x1.gg q3
  · exact q.elim
theorem ss_for (ok : OkS X NM B Φ Γ AT) {tg iter : Expr} {vs : List Nat} {fi : Ak} {fg : Gk} (hi : PI X tg iter (LW NM X.K W true fi)) (hg : PG X tg (LG NM X.K vs fg)) (hb : PSs X sts (LS_ NM X.K W f)) (hs : ∀ x, foldedSetIterable iter X.env x = pure x) :
    PS X (.For tg iter sts [] pos) (LS_ NM X.K W fun ρ d => fi ρ (fun ds => forW (fun v ρ' d' => fg v ρ' fun ρ'' => f ρ'' d') ds ρ d) fun x => d.er x ρ) :=
  ps_imp (ps_for ok.po ok.ok.calm hi hg hb hs) fun De σ H ⟨F, ρ, G, d, r, q, h1, h2, h3, h4, h5⟩ => ⟨F, ρ, G, _, _, r, q, fun J G1 H1 ds x1 wl hl q1 => by
    refine ⟨fun i m σ' H' => ∃ ρ' G', m = ds.length - i ∧ i ≤ ds.length ∧ R NM X.K F ρ' G' σ' H' ∧ Same G1 G' ∧ forW (fun v ρ' d' => fg v ρ' fun ρ'' => f ρ'' d') (ds.drop i) ρ' d, ⟨ds.length, ρ, G1, by omega, Nat.zero_le _, r.ext x1, .refl _, q1⟩, fun i m σ' H' ⟨ρ', G', em, ei, r', g', q'⟩ => ?_⟩
    have rl : Same G1 G' ∧ (true = false → Same H1 H') ∧ ∀ b o, F.H_0 b = some o → ¬ F.M b → H' b = some o := ⟨g', fun z => (nomatch z), r'.keep⟩
    by_cases hi : i < ds.length
    · obtain ⟨j1, j2⟩ := wl.go i G' H' r'.sub rl hi
      have eg : ds.drop i = ds[i] :: ds.drop (i + 1) := List.drop_eq_getElem_cons hi
      rw [eg] at q'
      refine .inr ⟨j1, fun σ2 H2 => ∃ ρ2 G2, R NM X.K F ρ2 G2 σ2 H2 ∧ Same G1 G2 ∧ forW (fun v ρ' d' => fg v ρ' fun ρ'' => f ρ'' d') (ds.drop (i + 1)) ρ2 d, fun σ2 H2 ⟨ρ2, G2, a1, a2, a3⟩ => ⟨ds.length - (i + 1), by omega, ρ2, G2, rfl, hi, a1, a2, a3⟩, fun x H2 hy => ?_⟩
      obtain ⟨G2, dv, x2, hd, rd⟩ := j2 x H2 hy
      rw [List.getElem?_eq_getElem hi] at hd
      cases hd
      have gg := x1.gg.trans (g'.trans x2.gg)
      refine ⟨F, ρ', G2, _, _, r'.ext x2, rd, q', fun σ3 ρ3 r3 _ q3 => ⟨F, ρ3, G2, _, r3, q3, fun ρ4 G4 σ4 H4 r4 g4 q4 => ⟨ρ4, G4, r4, (g'.trans x2.gg).trans g4, q4⟩, fun ρ4 G4 σ4 H4 r4 g4 q4 => h1 ρ4 G4 σ4 H4 r4 (gg.trans g4) q4,
        fun ρ4 G4 σ4 H4 r4 g4 q4 => ⟨ρ4, G4, r4, (g'.trans x2.gg).trans g4, q4⟩, fun v e ρ4 G4 σ4 H4 r4 g4 => h4 v e ρ4 G4 σ4 H4 r4 (gg.trans g4), fun c dx ρ4 G4 σ4 H4 x r4 g4 => h5 c dx ρ4 G4 σ4 H4 x r4 (gg.trans g4)⟩⟩
    · have e : i = ds.length := by omega
      subst e
      rw [List.drop_length] at q'
      exact .inl ⟨wl.stop G' H' r'.sub rl, h1 ρ' G' σ' H' r' (x1.gg.trans g') q'⟩, fun c dx G1 H1 x x1 rx q1 => h5 c dx ρ G1 σ H1 x (r.ext x1) x1.gg rx q1⟩
theorem ss_whl (ok : OkS X NM B Φ Γ AT) {c : Expr} {t : Tk} (hc : PT X c (LT NM X.K W t)) (hb : PSs X sts (LS_ NM X.K W f)) :
    PS X (.While c sts [] pos) (LS_ NM X.K W fun ρ d => ∃ n, whlW (fun ρ' d' => t ρ' (fun r => if r = true then f ρ' d' else d'.bk ρ') fun x => d'.er x ρ') n ρ d) :=
  ps_imp (ps_while ok.po hc hb) fun De σ H ⟨F, ρ, G, d, r, ⟨n, q⟩, h1, h2, h3, h4, h5⟩ => by
    refine ⟨fun m σ' H' => ∃ ρ' G', R NM X.K F ρ' G' σ' H' ∧ Same G G' ∧ whlW (fun ρ' d' => t ρ' (fun r => if r = true then f ρ' d' else d'.bk ρ') fun x => d'.er x ρ') m ρ' d, ⟨n, ρ, G, r, .refl _, q⟩, fun m σ' H' ⟨ρ', G', r', g', q'⟩ => ?_⟩
    cases m with
    | zero => exact q'.elim
    | succ m =>
      refine ⟨F, ρ', G', _, _, r', q', fun b G1 H1 x1 q1 => ?_, fun c dx G1 H1 x x1 rx q1 => h5 c dx ρ' G1 σ' H1 x (r'.ext x1) (g'.trans x1.gg) rx q1⟩
      have gg := g'.trans x1.gg
      cases b with
      | false => exact iteF (h1 ρ' G1 σ' H1 (r'.ext x1) gg q1)
      | true =>
        refine iteT ⟨fun σ2 H2 => ∃ ρ2 G2, R NM X.K F ρ2 G2 σ2 H2 ∧ Same G G2 ∧ whlW (fun ρ' d' => t ρ' (fun r => if r = true then f ρ' d' else d'.bk ρ') fun x => d'.er x ρ') m ρ2 d, fun σ2 H2 z => ⟨m, Nat.lt_succ_self m, z⟩, ?_⟩
        exact ⟨F, ρ', G1, _, r'.ext x1, q1, fun ρ4 G4 σ4 H4 r4 g4 q4 => ⟨ρ4, G4, r4, gg.trans g4, q4⟩, fun ρ4 G4 σ4 H4 r4 g4 q4 => h1 ρ4 G4 σ4 H4 r4 (gg.trans g4) q4,
          fun ρ4 G4 σ4 H4 r4 g4 q4 => ⟨ρ4, G4, r4, gg.trans g4, q4⟩, fun v e ρ4 G4 σ4 H4 r4 g4 => h4 v e ρ4 G4 σ4 H4 r4 (gg.trans g4), fun c dx ρ4 G4 σ4 H4 x r4 g4 => h5 c dx ρ4 G4 σ4 H4 x r4 (gg.trans g4)⟩
end
end Q
namespace Q
open PySem PySem.Spec L2
def stRet : Stmt → Option (Option Expr)
  | .Return v _ => some v
  | _ => none
def stAsg : Stmt → Option (Expr × Expr × Pos)
  | .Assign [t] v p => some (t, v, p)
  | _ => none
def stAug : Stmt → Option (Expr × Operator × Expr)
  | .AugAssign t o v _ => some (t, o, v)
  | _ => none
def stFor : Stmt → Option (Expr × Expr × List Stmt)
  | .For t i b [] _ => some (t, i, b)
  | _ => none
def stWhl : Stmt → Option (Expr × List Stmt)
  | .While c b [] _ => some (c, b)
  | _ => none
def stIf : Stmt → Option (Expr × List Stmt × List Stmt)
  | .If c a b _ => some (c, a, b)
  | _ => none
def stExp : Stmt → Option Expr
  | .Expr e _ => some e
  | _ => none
theorem stRet_eq {s : Stmt} {v} (h : stRet s = some v) : ∃ p, s = .Return v p := by cases s <;> cases h; exact ⟨_, rfl⟩
theorem stAsg_eq {s : Stmt} {t v p} (h : stAsg s = some (t, v, p)) : s = .Assign [t] v p := by
  unfold stAsg at h
  split at h <;> cases h
  rfl
theorem stAug_eq {s : Stmt} {t o v} (h : stAug s = some (t, o, v)) : ∃ p, s = .AugAssign t o v p := by cases s <;> cases h; exact ⟨_, rfl⟩
theorem stFor_eq {s : Stmt} {t i b} (h : stFor s = some (t, i, b)) : ∃ p, s = .For t i b [] p := by
  unfold stFor at h
  split at h <;> cases h
  exact ⟨_, rfl⟩
theorem stWhl_eq {s : Stmt} {c b} (h : stWhl s = some (c, b)) : ∃ p, s = .While c b [] p := by
  unfold stWhl at h
  split at h <;> cases h
  exact ⟨_, rfl⟩
theorem stIf_eq {s : Stmt} {c a b} (h : stIf s = some (c, a, b)) : ∃ p, s = .If c a b p := by cases s <;> cases h; exact ⟨_, rfl⟩
theorem stExp_eq {s : Stmt} {e} (h : stExp s = some e) : ∃ p, s = .Expr e p := by cases s <;> cases h; exact ⟨_, rfl⟩
def stRai : Stmt → Option (Str × Expr)
  | .Raise (some (.Call (.Name x _) [e] [] _)) none _ => some (x, e)
  | _ => none
def stTry : Stmt → Option (List Stmt × List ExceptHandler)
  | .Try b hs [] [] _ => some (b, hs)
  | _ => none
theorem stRai_eq {s : Stmt} {x e} (h : stRai s = some (x, e)) : ∃ p1 p2 p3, s = .Raise (some (.Call (.Name x p1) [e] [] p2)) none p3 := by
  unfold stRai at h
  split at h <;> cases h
  exact ⟨_, _, _, rfl⟩
theorem stTry_eq {s : Stmt} {b hs} (h : stTry s = some (b, hs)) : ∃ p, s = .Try b hs [] [] p := by
  unfold stTry at h
  split at h <;> cases h
  exact ⟨_, rfl⟩
def strC : Expr → Bool
  | .Constant (.str _) _ _ => true
  | _ => false
theorem strC_eq {e : Expr} (h : strC e = true) : ∃ m j p, e = .Constant (.str m) j p := by
  unfold strC at h
  split at h
  · exact ⟨_, _, _, rfl⟩
  · cases h
section
variable (NM : Nam) (N : List Str) (B : List Str) (io : Option Nat)
mutual
def chU : U → Scope → Expr → Bool
  | .cst d, _, e => match asConst e with
    | some c => cstB d c
    | none => false
  | .fld f, sc, e => match asAtr e, io with
    | some (o, n), some i => (match asName o with
      | some y => varB N sc i y && decide (NM.at_ f = n)
      | none => false)
    | _, _ => false
  | .tup us, sc, e => match asTup e with
    | some es => chUs us sc es
    | none => false
def chUs : List U → Scope → List Expr → Bool
  | [], _, [] => true
  | u :: us, sc, e :: es => good e && chU u sc e && chUs us sc es
  | _, _, _ => false
end
def asIsi (e : Expr) : Option (Str × Str × Str) := match e with
  | .Call (.Name f _) [.Name y _, .Name n _] [] _ => some (f, y, n)
  | _ => none
mutual
def chV : Vt → Scope → Expr → Bool
  | .isx c, sc, e => match asIsi e, io with
    | some (f, y, n), some i => (f == "isinstance") && freB B sc f && varB N sc i y && gloB sc n && decide (NM.cl c = n)
    | _, _ => false
  | .isv, sc, e => match asIsi e, io with
    | some (f, y, n), some i => (f == "isinstance") && freB B sc f && varB N sc i y && freB B sc n && (n == "ValueError")
    | _, _ => false
  | .not v, sc, e => match asUn e with
    | some (.Not, x) => chV v sc x
    | _ => false
  | .and vs, sc, e => match asBoo e with
    | some (.And, xs) => chVs vs sc xs
    | _ => false
  | .or vs, sc, e => match asBoo e with
    | some (.Or, xs) => chVs vs sc xs
    | _ => false
def chVs : List Vt → Scope → List Expr → Bool
  | [], _, [] => true
  | v :: vs, sc, e :: es => chV v sc e && chVs vs sc es
  | _, _, _ => false
end
def chSu : List Su → Scope → List Stmt → Bool
  | [], _, [] => true
  | .ret u :: r, sc, s :: ss => (match stRet s with
    | some (some e) => chU NM N io u sc e
    | _ => false) && chSu r sc ss
  | .ifr v u :: r, sc, s :: ss => (match stIf s with
    | some (c, [t], []) => chV NM N B io v sc c && (match stRet t with
      | some (some e) => chU NM N io u sc e
      | _ => false)
    | _ => false) && chSu r sc ss
  | _, _, _ => false
end
section
variable (NM : Nam) (K : PySem.W.Frag) (a : Addr) (cls : Value) (dx : Option Addr) (io : Option Nat)
def LU (f : Exc → Option D) : TE := fun σ H Q => ∃ G x d, Same G H ∧ RepX NM K G cls dx x ∧ (∀ j, io = some j → σ[j]? = some (some (.ref a))) ∧ f x = some d ∧ ∀ v G' H', Ext G H G' H' → Rep NM K G' v d → Q v H'
def LUs (f : Exc → Option (List D)) : TA := fun σ H Q => ∃ G x ds, Same G H ∧ RepX NM K G cls dx x ∧ (∀ j, io = some j → σ[j]? = some (some (.ref a))) ∧ f x = some ds ∧ ∀ vs G' H', Ext G H G' H' → Reps NM K G' vs ds → Q vs H'
def LV (f : Exc → Option Bool) : TT := fun σ H Q => ∃ G x b, Same G H ∧ RepX NM K G cls dx x ∧ (∀ j, io = some j → σ[j]? = some (some (.ref a))) ∧ f x = some b ∧ Q b H
def LSu (f : Exc → (D → Prop) → Prop → Prop) : TS := fun De σ H => ∃ G x rt nx, Same G H ∧ RepX NM K G cls dx x ∧ (∀ j, io = some j → σ[j]? = some (some (.ref a))) ∧ f x rt nx ∧ (nx → De.nx σ H) ∧ ∀ v G' H' d, Ext G H G' H' → Rep NM K G' v d → rt d → De.rt v H'
end
theorem RepX.ext {NM : Nam} {K : PySem.W.Frag} {G H G' H' : Hp} (e : Ext G H G' H') {cls : Value} {dx : Option Addr} {x : Exc} (h : RepX NM K G cls dx x) : RepX NM K G' cls dx x := by
  obtain ⟨h1, h2 | ⟨a, vs, h2, h3, h4, h5⟩⟩ := h
  · exact ⟨h1, .inl h2⟩
  · exact ⟨h1, .inr ⟨a, vs, h2, e.gg _ _ h3, h4, h5.mono e.gg⟩⟩
section
variable {X : Cx} {NM : Nam} {B : List Str} {Φ : List Cal} {Γ : List (Str × D)} {AT : List (Nat × Nat)} {a : Addr} {oe : Obj} {cls : Value} {dx : Option Addr} {io : Option Nat} {pn : List (Addr × Obj)} {sc : Scope}
abbrev xS (X : Cx) (a : Addr) (oe : Obj) (pn : List (Addr × Obj)) : Cx := X.suite a ((a, oe) :: pn)
theorem uv_pv {N : List Str} {i : Nat} {x : Str} {p : Pos} (h : varB N sc i x = true) (hN : X.N = N) (hs : X.env.scope = sc) : PE (xS X a oe pn) (.Name x p) (tVar i) := varB_pv (X := xS X a oe pn) h hN hs
theorem ek_of (ok : Ok X NM B Φ Γ AT) {c c' : Nat} {b : Bool} (h : subT NM.sub c c' = some b) : SubOk X.K NM (c, c', b) ∧ X.mg (NM.cl c') = some (.ref (He.ga X.K (NM.cl c'))) := by
  have key : ∀ l : List (Nat × Nat × Bool), subT l c c' = some b → (c, c', b) ∈ l := by
    intro l
    induction l with
    | nil => intro h; cases h
    | cons p r ih =>
      intro h
      unfold subT at h
      split at h
      · rename_i e
        cases h
        obtain ⟨p1, p2, p3⟩ := p
        obtain ⟨e1, e2⟩ := e
        dsimp only at e1 e2
        subst e1 e2
        exact List.mem_cons_self
      · exact List.mem_cons_of_mem _ (ih h)
  exact ok.sub _ (key _ h)
variable (inj : ∀ i j, NM.at_ i = NM.at_ j → i = j)
theorem su_cst {d : D} {e : Expr} (h : chU NM X.N io (.cst d) sc e = true) : PE (xS X a oe pn) e (LU NM X.K a cls dx io fun x => evU NM x (.cst d)) := by
  unfold chU at h
  split at h
  · rename_i c hc
    obtain ⟨j, p, rfl⟩ := asConst_eq hc
    have fin : ∀ {v : V} {e : Expr}, PE (xS X a oe pn) e (tC v) → (∀ G, Rep NM X.K G v d) → PE (xS X a oe pn) e (LU NM X.K a cls dx io fun x => evU NM x (.cst d)) := fun {v e} h r => pe_imp h fun σ H Q ⟨G, x, d', s, _, _, q, k⟩ => by
      unfold evU at q
      cases q
      exact k v G H (.refl s) (r G)
    cases d <;> cases c <;> first | (cases h; done) | skip
    · exact fin pe_non fun G => .non
    · cases (show _ = _ from eq_of_beq h)
      exact fin pe_bl fun G => .bl _
    · cases of_decide_eq_true h
      exact fin pe_int fun G => .int _
    · cases of_decide_eq_true h
      exact fin pe_str fun G => .str _
  · cases h
include inj in
theorem su_fld (ok : Ok X NM B Φ Γ AT) (hz : Zc cls dx oe) (hf : ∃ vs, oe.data = .fields vs) {f : Nat} {e : Expr} (hs : X.env.scope = sc) (h : chU NM X.N io (.fld f) sc e = true) :
    PE (xS X a oe pn) e (LU NM X.K a cls dx io fun x => evU NM x (.fld f)) := by
  unfold chU at h
  split at h
  · rename_i o n i he
    obtain ⟨p, rfl⟩ := asAtr_eq he
    split at h
    · rename_i y hy
      obtain ⟨q, rfl⟩ := asName_eq hy
      obtain ⟨h1, h2⟩ := band h
      have en := of_decide_eq_true h2
      subst en
      refine ⟨fun pins s σ H Q I w => ?_⟩
      obtain ⟨G, x, d, sub, rx, hsl, hv, k⟩ := w
      unfold evU at hv
      dsimp only at hv
      split at hv
      · rename_i hex
        obtain ⟨rc, rd⟩ := rx
        obtain ⟨p', hp', hq⟩ := List.any_eq_true.mp hex
        obtain ⟨q1, q2⟩ := band hq
        have q1 := of_decide_eq_true q1
        have q2 := of_decide_eq_true q2
        obtain ⟨_, _, _, _, _, _, _, _, _, _, _, hno, T⟩ := ok.exs p' hp'
        rw [q1, q2] at hno
        rw [q1] at T
        rcases rd with ⟨k1, k2, k3⟩ | ⟨dd, vs, k1, k2, k3, k4⟩
        · rw [k1, k2] at hv
          cases hv
        · obtain ⟨v, l1, l2⟩ := looks_zip inj k4 hv
          exact (pe_xf (pos := p) (n := NM.at_ f) T hno hz hf (uv_pv (p := q) h1 rfl hs)).run pins s σ H Q I ⟨.ref a, hsl i rfl, rfl, rc, dd, _, v, k1, sub _ _ k2, l1, k v G H (.refl sub) l2⟩
      · cases hv
    · cases h
  · cases h
include inj in
mutual
theorem su_u (ok : Ok X NM B Φ Γ AT) (hz : Zc cls dx oe) (hf : ∃ vs, oe.data = .fields vs) (hs : X.env.scope = sc) : ∀ (u : U) (e : Expr), chU NM X.N io u sc e = true → PE (xS X a oe pn) e (LU NM X.K a cls dx io fun x => evU NM x u)
  | .cst d, e, h => su_cst h
  | .fld f, e, h => su_fld inj ok hz hf hs h
  | .tup us, e, h => by
    unfold chU at h
    split at h
    · rename_i es he
      obtain ⟨k, p, rfl⟩ := asTup_eq he
      refine pe_imp (pe_tup (su_us ok hz hf hs us es h).1) fun σ H Q ⟨G, x, d, sub, rx, hsl, hv, kk⟩ => ?_
      unfold evU at hv
      dsimp only at hv
      split at hv
      · rename_i ds hds
        split at hv
        · rename_i hlen
          cases hv
          refine ⟨G, x, ds, sub, rx, hsl, hds, fun vs G' H' ex r => ⟨by rw [r.len, sizeLine_eq]; omega, fun p hp => kk _ (upd G' p (.tup vs)) _ (ex.trans (.new ex.sub hp _)) (.tup (.of upd_same) (by rw [r.len, sizeLine_eq]; omega) (r.mono (same_upd (ex.sub.free hp))))⟩⟩
        · cases hv
      · cases hv
    · cases h
theorem su_us (ok : Ok X NM B Φ Γ AT) (hz : Zc cls dx oe) (hf : ∃ vs, oe.data = .fields vs) (hs : X.env.scope = sc) : ∀ (us : List U) (es : List Expr), chUs NM X.N io us sc es = true → PA (xS X a oe pn) es (LUs NM X.K a cls dx io fun x => evUs NM x us) ∧ es.all good = true
  | [], [], h => ⟨pa_imp pa_nil fun σ H Q ⟨G, x, ds, sub, rx, hsl, hv, kk⟩ => by
      unfold evUs at hv
      cases hv
      exact kk [] G H (.refl sub) .nil, rfl⟩
  | u :: us, e :: es, h => by
    unfold chUs at h
    obtain ⟨h, h3⟩ := band h
    obtain ⟨h1, h2⟩ := band h
    obtain ⟨r1, r2⟩ := su_us ok hz hf hs us es h3
    refine ⟨pa_imp (pa_cons (su_u ok hz hf hs u e h2) r1 (starEach_good h1)) fun σ H Q ⟨G, x, ds, sub, rx, hsl, hv, kk⟩ => ?_, by rw [List.all_cons, h1, r2]; rfl⟩
    unfold evUs at hv
    dsimp only at hv
    split at hv
    · rename_i d ds' q1 q2
      cases hv
      exact ⟨G, x, d, sub, rx, hsl, q1, fun v G1 H1 x1 r1 => ⟨G1, x, ds', x1.sub, rx.ext x1, hsl, q2, fun vs G2 H2 x2 r2 => kk _ G2 H2 (x1.trans x2) (.cons (r1.mono x2.gg) r2)⟩⟩
    · cases hv
  | [], _ :: _, h => by unfold chUs at h; cases h
  | _ :: _, [], h => by unfold chUs at h; cases h
end
def rIs2 (K : PySem.W.Frag) (D a : Addr) (dx : Option Addr) : List V → Hp → VK → Prop := fun xs H Q => ∃ (c : V) (cv : Value) (b : Bool), xs = [.ref a, c] ∧ (∀ u, RelV c u → u = cv) ∧ PySem.W.kitOne K (.ref D) cv = some b ∧ (dx = none ∨ ∃ dd fs, dx = some dd ∧ H dd = some (.xd fs)) ∧ Q (.bl b) H
omit inj in
theorem call_is2 {D : Addr} (C : ExK X.K D) (hz : Zc (.ref D) dx oe) (hf : ∃ vs, oe.data = .fields vs) : CallR (xS X a oe pn) (.builtin "isinstance") (rIs2 X.K D a dx) := by
  intro pins s σ H xs us Q I r h
  obtain ⟨c, cv, b, rfl, hcv, e, hdx, q⟩ := h
  cases r with
  | cons rx rr =>
    cases rr with
    | cons rt rr =>
      cases rr
      cases rx
      have ec := hcv _ rt
      subst ec
      obtain ⟨hget, _⟩ := I.pin (a, oe) (List.mem_append.mpr (.inl List.mem_cons_self))
      obtain ⟨vs, hv⟩ := hf
      have J : ∃ od, PySem.W.InstAt s.heap a oe D od := by
        obtain ⟨oc, od, oda, osl⟩ := oe
        obtain ⟨h1, h2⟩ := hz
        dsimp only at h1 h2 hv
        subst h1 h2 hv
        rcases hdx with rfl | ⟨dd, fs, rfl, hdd⟩
        · exact ⟨none, hget, rfl, rfl, trivial⟩
        · have ho : ObjOk X.prog X.w H s.heap dd (.xd fs) := I.hok dd _ hdd
          obtain ⟨mA, ⟨o, es, ep, ho, _⟩, _⟩ := ho
          exact ⟨some o, hget, rfl, rfl, ho⟩
      obtain ⟨od, J⟩ := J
      exact PySem.W.kia_one (PySem.W.kitx_exc C.cls C.xf.ga C.xf.gg C.xf.exC C.ha C.hn C.ht C.hm) I.kIn J e (fun z => nomatch z) fun tk => ⟨.bl b, H, I.kept (t' := tk) fun _ _ z => z, rfl, q⟩
omit inj in
theorem asIsi_eq {e : Expr} {f y n : Str} (h : asIsi e = some (f, y, n)) : ∃ p1 p2 p3 p4, e = .Call (.Name f p1) [.Name y p2, .Name n p3] [] p4 := by
  unfold asIsi at h
  split at h
  · cases h
    exact ⟨_, _, _, _, rfl⟩
  · cases h
omit inj in
theorem mg_fre (ok : Ok X NM B Φ Γ AT) {x : Str} (h : freB B sc x = true) (hs : X.env.scope = sc) (hi : x ≠ "isqrt!") : Gl X x ∧ (x == ("__debug__" : Str)) = false ∧ X.mg x = none ∧ x ≠ "__name__" := freB_ok h hs ok hi
theorem su_is (hz : Zc cls dx oe) (hf : ∃ vs, oe.data = .fields vs) (hs : X.env.scope = sc) {f y n : Str} {i : Nat} {p1 p2 p3 p4 : Pos} {g : Exc → Option Bool} {v : V} (ok : Ok X NM B Φ Γ AT) (hf1 : f = "isinstance") (h1 : freB B sc f = true) (h2 : varB X.N sc i y = true)
    (hn : PE (xS X a oe pn) (.Name n p3) (tC v)) {cv : Value} (hcv : ∀ u, RelV v u → u = cv) (hk : ∀ x b, g x = some b → cls = .ref (He.ga X.K (NM.cl x.c)) → ExK X.K (He.ga X.K (NM.cl x.c)) ∧ PySem.W.kitOne X.K (.ref (He.ga X.K (NM.cl x.c))) cv = some b) :
    PT (xS X a oe pn) (.Call (.Name f p1) [.Name y p2, .Name n p3] [] p4) (LV NM X.K a cls dx (some i) g) := by
  obtain ⟨g1, g2, g3, g4⟩ := mg_fre ok h1 hs (by subst hf1; decide)
  subst hf1
  refine ⟨fun pins s σ H Q I w => ?_⟩
  obtain ⟨G, x, b, sub, rx, hsl, hv, q⟩ := w
  obtain ⟨rc, rd⟩ := rx
  obtain ⟨ek, hkit⟩ := hk x b hv rc
  subst rc
  have pe := pe_callB (X := xS X a oe pn) (p := p1) (pos := p4) (call_is2 (a := a) (pn := pn) ek hz hf) g1 g3 (by decide +kernel) (pa_cons (uv_pv (p := p2) h2 rfl hs) (pa_cons hn pa_nil))
  refine (pt_val pe).run pins s σ H Q I ⟨.ref a, hsl i rfl, v, cv, b, rfl, hcv, hkit, ?_, b, rfl, q⟩
  rcases rd with ⟨_, _, k3⟩ | ⟨dd, vs, k1, k2, _, _⟩
  · exact .inl k3
  · exact .inr ⟨dd, _, k1, sub _ _ k2⟩
omit inj in
theorem isv_ek (ok : Ok X NM B Φ Γ AT) {x : Exc} {b : Bool} (h : evV NM x .isv = some b) : b = true ∧ ExK X.K (He.ga X.K (NM.cl x.c)) := by
  unfold evV at h
  split at h
  · rename_i p hp
    cases h
    have e1 : p.1 = x.c := by simpa using List.find?_some hp
    have := (ok.sub p (List.mem_of_find?_eq_some hp)).1.ek
    rw [e1] at this
    exact ⟨rfl, this⟩
  · cases h
mutual
theorem su_v (ok : Ok X NM B Φ Γ AT) (hz : Zc cls dx oe) (hf : ∃ vs, oe.data = .fields vs) (hs : X.env.scope = sc) : ∀ (v : Vt) (e : Expr), chV NM X.N B io v sc e = true → PT (xS X a oe pn) e (LV NM X.K a cls dx io fun x => evV NM x v)
  | .isx c, e, h => by
    unfold chV at h
    split at h
    · rename_i f y n i he
      obtain ⟨p1, p2, p3, p4, rfl⟩ := asIsi_eq he
      obtain ⟨h, m5⟩ := band h
      obtain ⟨h, m4⟩ := band h
      obtain ⟨h, m3⟩ := band h
      obtain ⟨m1, m2⟩ := band h
      cases of_decide_eq_true m5
      refine ⟨fun pins s σ H Q I w => ?_⟩
      obtain ⟨G, x, b, sub, rx, hsl, hv, q⟩ := w
      have hv' : subT NM.sub x.c c = some b := by
        unfold evV at hv
        exact hv
      obtain ⟨sb, mgc⟩ := ek_of ok hv'
      obtain ⟨g1, g2⟩ := gloB_gl m4 hs
      exact (su_is (g := fun x' => if x'.c = x.c then some b else none) hz hf hs ok (eq_of_beq m1) m2 m3 (show PE (xS X a oe pn) (.Name (NM.cl c) p3) (tC (.ref (He.ga X.K (NM.cl c)))) from pe_glob g1 mgc rfl g2) (cv := .ref (He.ga X.K (NM.cl c))) (fun u ru => ru) (fun x' b' e1 _ => by
        split at e1
        · rename_i ec
          cases e1
          rw [ec]
          exact ⟨sb.ek, sb.kit⟩
        · cases e1)).run pins s σ H Q I ⟨G, x, b, sub, rx, hsl, if_pos rfl, q⟩
    · cases h
  | .isv, e, h => by
    unfold chV at h
    split at h
    · rename_i f y n i he
      obtain ⟨p1, p2, p3, p4, rfl⟩ := asIsi_eq he
      obtain ⟨h, m5⟩ := band h
      obtain ⟨h, m4⟩ := band h
      obtain ⟨h, m3⟩ := band h
      obtain ⟨m1, m2⟩ := band h
      cases eq_of_beq m5
      obtain ⟨g1, g2, g3, g4⟩ := mg_fre ok m4 hs (by decide)
      exact su_is hz hf hs ok (eq_of_beq m1) m2 m3 (show PE (xS X a oe pn) (.Name "ValueError" p3) (tC (.ty "ValueError")) from pe_bltn g1 g3 PyProof.Rows.Boot.«ValueError» rfl g4 g2) (cv := .type "ValueError") (fun u ru => ru) (fun x b e1 _ => by
        obtain ⟨rfl, ek⟩ := isv_ek ok e1
        exact ⟨ek, ek.ve⟩)
    · cases h
  | .not v, e, h => by
    unfold chV at h
    split at h
    · rename_i x he
      obtain ⟨p, rfl⟩ := asUn_eq he
      refine pt_imp (pt_not (su_v ok hz hf hs v x h)) fun σ H Q ⟨G, x, b, sub, rx, hsl, hv, q⟩ => ?_
      unfold evV at hv
      dsimp only at hv
      split at hv
      · rename_i b' hb
        cases hv
        exact ⟨G, x, b', sub, rx, hsl, hb, q⟩
      · cases hv
    · cases h
  | .and vs, e, h => by
    unfold chV at h
    split at h
    · rename_i xs he
      obtain ⟨p, rfl⟩ := asBoo_eq he
      by_cases hn : xs = []
      · refine ⟨fun pins s σ H Q I w => ?_⟩
        obtain ⟨G, x, b, sub, rx, hsl, hv, q⟩ := w
        subst hn
        cases vs with
        | nil => unfold evV evA at hv; cases hv
        | cons _ _ => unfold chVs at h; cases h
      · refine pt_imp ((su_vs ok hz hf hs vs xs p h hn).1).pt fun σ H Q ⟨G, x, b, sub, rx, hsl, hv, q⟩ => ⟨G, x, b, sub, rx, hsl, by unfold evV at hv; exact hv, q⟩
    · cases h
  | .or vs, e, h => by
    unfold chV at h
    split at h
    · rename_i xs he
      obtain ⟨p, rfl⟩ := asBoo_eq he
      by_cases hn : xs = []
      · refine ⟨fun pins s σ H Q I w => ?_⟩
        obtain ⟨G, x, b, sub, rx, hsl, hv, q⟩ := w
        subst hn
        cases vs with
        | nil => unfold evV evO at hv; cases hv
        | cons _ _ => unfold chVs at h; cases h
      · refine pt_imp ((su_vs ok hz hf hs vs xs p h hn).2).pt fun σ H Q ⟨G, x, b, sub, rx, hsl, hv, q⟩ => ⟨G, x, b, sub, rx, hsl, by unfold evV at hv; exact hv, q⟩
    · cases h
theorem su_vs (ok : Ok X NM B Φ Γ AT) (hz : Zc cls dx oe) (hf : ∃ vs, oe.data = .fields vs) (hs : X.env.scope = sc) : ∀ (vs : List Vt) (es : List Expr) (pos : Pos), chVs NM X.N B io vs sc es = true → es ≠ [] →
    PW (xS X a oe pn) (.BoolOp .And es pos) (LV NM X.K a cls dx io fun x => evA NM x vs) ∧ PW (xS X a oe pn) (.BoolOp .Or es pos) (LV NM X.K a cls dx io fun x => evO NM x vs)
  | [], [], _, _, hn => absurd rfl hn
  | [v], [e], pos, h, _ => by
    unfold chVs at h
    have q := su_v ok hz hf hs v e (band h).1
    refine ⟨pw_imp (pw_and1 q) fun σ H Q ⟨G, x, b, sub, rx, hsl, hv, q⟩ => ⟨G, x, b, sub, rx, hsl, by unfold evA at hv; exact hv, q⟩, pw_imp (pw_or1 q) fun σ H Q ⟨G, x, b, sub, rx, hsl, hv, q⟩ => ⟨G, x, b, sub, rx, hsl, by unfold evO at hv; exact hv, q⟩⟩
  | v :: w :: vs, e :: e2 :: es, pos, h, _ => by
    unfold chVs at h
    obtain ⟨h1, h2⟩ := band h
    have qa := su_v ok hz hf hs v e h1
    obtain ⟨q1, q2⟩ := su_vs ok hz hf hs (w :: vs) (e2 :: es) pos h2 (by simp)
    refine ⟨pw_imp (pw_and qa q1) fun σ H Q ⟨G, x, b, sub, rx, hsl, hv, q⟩ => ?_, pw_imp (pw_or qa q2) fun σ H Q ⟨G, x, b, sub, rx, hsl, hv, q⟩ => ?_⟩
    · unfold evA at hv
      dsimp only at hv
      split at hv
      · rename_i hb
        exact ⟨G, x, true, sub, rx, hsl, hb, iteT ⟨G, x, b, sub, rx, hsl, hv, q⟩⟩
      · rename_i hb
        cases hv
        exact ⟨G, x, false, sub, rx, hsl, hb, iteF q⟩
      · cases hv
    · unfold evO at hv
      dsimp only at hv
      split at hv
      · rename_i hb
        cases hv
        exact ⟨G, x, true, sub, rx, hsl, hb, iteT q⟩
      · rename_i hb
        exact ⟨G, x, false, sub, rx, hsl, hb, iteF ⟨G, x, b, sub, rx, hsl, hv, q⟩⟩
      · cases hv
  | [], _ :: _, _, h, _ => by unfold chVs at h; cases h
  | _ :: _, [], _, _, hn => absurd rfl hn
  | [_], _ :: _ :: _, _, h, _ => by
    unfold chVs at h
    have := (band h).2
    unfold chVs at this
    cases this
  | _ :: _ :: _, [_], _, h, _ => by
    unfold chVs at h
    have := (band h).2
    unfold chVs at this
    cases this
end
include inj in
theorem su_su (ok : Ok X NM B Φ Γ AT) (hz : Zc cls dx oe) (hf : ∃ vs, oe.data = .fields vs) (hs : X.env.scope = sc) : ∀ (su : List Su) (ss : List Stmt), chSu NM X.N B io su sc ss = true → PSs (xS X a oe pn) ss (LSu NM X.K a cls dx io fun x => suW NM x su)
  | [], [], _ => pss_imp pss_nil fun De σ H ⟨G, x, rt, nx, sub, rx, hsl, q, h1, h2⟩ => by
    dsimp only at q
    unfold suW at q
    exact h1 q
  | .ret u :: r, s :: ss, h => by
    unfold chSu at h
    obtain ⟨h1, h2⟩ := band h
    split at h1
    · rename_i e he
      obtain ⟨p, rfl⟩ := stRet_eq he
      refine pss_imp (pss_cons (ps_ret (su_u inj ok hz hf hs u e h1)) (su_su ok hz hf hs r ss h2)) fun De σ H ⟨G, x, rt, nx, sub, rx, hsl, q, k1, k2⟩ => ?_
      dsimp only at q
      unfold suW at q
      split at q
      · rename_i d hd
        exact ⟨G, x, d, sub, rx, hsl, hd, fun v G' H' ex rv => k2 v G' H' d ex rv q⟩
      · exact q.elim
    · cases h1
  | .ifr v u :: r, s :: ss, h => by
    unfold chSu at h
    obtain ⟨h1, h2⟩ := band h
    split at h1
    · rename_i c t he
      obtain ⟨p, rfl⟩ := stIf_eq he
      obtain ⟨h4, h3⟩ := band h1
      split at h3
      · rename_i e he2
        obtain ⟨p2, rfl⟩ := stRet_eq he2
        refine pss_imp (pss_cons (ps_if (su_v ok hz hf hs v c h4) (pss_cons (ps_ret (su_u inj ok hz hf hs u e h3)) pss_nil) pss_nil) (su_su ok hz hf hs r ss h2)) fun De σ H ⟨G, x, rt, nx, sub, rx, hsl, q, k1, k2⟩ => ?_
        dsimp only at q
        unfold suW at q
        split at q
        · rename_i hb
          split at q
          · rename_i d hd
            exact ⟨G, x, true, sub, rx, hsl, hb, iteT ⟨G, x, d, sub, rx, hsl, hd, fun v G' H' ex rv => k2 v G' H' d ex rv q⟩⟩
          · exact q.elim
        · rename_i hb
          exact ⟨G, x, false, sub, rx, hsl, hb, iteF ⟨G, x, rt, nx, sub, rx, hsl, q, k1, k2⟩⟩
        · exact q.elim
      · cases h3
    · cases h1
  | [], _ :: _, h => by unfold chSu at h; cases h
  | .ret _ :: _, [], h => by unfold chSu at h; cases h
  | .ifr _ _ :: _, [], h => by unfold chSu at h; cases h
end
def upD (D : Ends) : Option Nat → Ends
  | none => D
  | some i => { nx := fun σ' H' => D.nx (σ'.set i none) H', rt := D.rt, bk := fun σ' H' => D.bk (σ'.set i none) H', ct := fun σ' H' => D.ct (σ'.set i none) H' }
def upS (σ : L2.St) (a : Addr) : Option Nat → L2.St
  | none => σ
  | some i => σ.set i (some (.ref a))
def wMany2 (K : PySem.W.Frag) (Wout : WX) (D : Ends) : List (Value × Option Nat × (Addr → Value → Option Addr → TS)) → WX
  | [] => Wout
  | (c, io, ts) :: r => fun cls d σ H => ∃ b, PySem.W.exmOne K cls c = some b ∧ (b = true → ∀ a, H a = none → (∀ i, io = some i → i < σ.length) → ts a cls d (upD D io) (upS σ a io) H) ∧ (b = false → wMany2 K Wout D r cls d σ H)
inductive HdsOk2 (X : Cx) : List ExceptHandler → List (Value × Option Nat × (Addr → Value → Option Addr → TS)) → Prop
  | nil : HdsOk2 X [] []
  | cons {x : Str} {c : Value} {ts : Addr → Value → Option Addr → TS} {b₀ : Stmt} {suite : List Stmt} {np pos' : Pos} {hds : List ExceptHandler} {l : List (Value × Option Nat × (Addr → Value → Option Addr → TS))} (hc : Names X x c)
      (hsu : ∀ (a : Addr) (oe : Obj) (cls : Value) (d : Option Addr) (pn : List (Addr × Obj)), Zc cls d oe → (∃ vs, oe.data = .fields vs) → PSs (X.suite a ((a, oe) :: pn)) (b₀ :: suite) (ts a cls d)) (r : HdsOk2 X hds l) :
      HdsOk2 X (.ExceptHandler (some (.Name x np)) none (b₀ :: suite) pos' :: hds) ((c, none, ts) :: l)
  | as {x n : Str} {i : Nat} {c : Value} {ts : Addr → Value → Option Addr → TS} {b₀ : Stmt} {suite : List Stmt} {np pos' : Pos} {hds : List ExceptHandler} {l : List (Value × Option Nat × (Addr → Value → Option Addr → TS))} (hi : X.N[i]? = some n) (hln : X.env.kindOf n = some .local) (hc : Names X x c)
      (hsu : ∀ (a : Addr) (oe : Obj) (cls : Value) (d : Option Addr) (pn : List (Addr × Obj)), Zc cls d oe → (∃ vs, oe.data = .fields vs) → PSs (X.suite a ((a, oe) :: pn)) (b₀ :: suite) (ts a cls d)) (r : HdsOk2 X hds l) :
      HdsOk2 X (.ExceptHandler (some (.Name x np)) (some n) (b₀ :: suite) pos' :: hds) ((c, some i, ts) :: l)
section
open PyProof.Rows
variable {X : Cx} {body : List Stmt} {h₀ : ExceptHandler} {hds : List ExceptHandler} {l : List (Value × Option Nat × (Addr → Value → Option Addr → TS))} {pos : Pos} {tb : WX → TS} {Wout : WX}
theorem ps_try2 (hs : X.stack = X.env :: X.outer) (hf : X.env.frame = some X.env.locals) (hN : X.N.Nodup) (tk : Takes X Wout)
    (hb : ∀ (W : WX) (pn : List (Addr × Obj)) (xe : Value → Shared → Prop), Takes (X.tr pn xe) W → PassesOwn (model X.prog X.w) X.A X.env xe → PSs (X.tr pn xe) body (tb W))
    (hh : HdsOk2 X (h₀ :: hds) l) : PS X (.Try body (h₀ :: hds) [] [] pos) (fun D σ H => tb (wMany2 X.K Wout D l) D σ H) := by
  refine ⟨fun pins s σ H D I h => ?_⟩
  have ok := I.ok
  have hfr : X.A.frames = some (X.env :: X.outer) := by rw [ok.frames, hs]
  refine wpAny_Try_except ?_
  refine wpAny_mono ((hb (wMany2 X.K Wout D l) (X.pn ++ pins) (fun e s₁ => wpAny (model X.prog X.w) X.A (noteFrame e X.env) (fun _ s₂ => wpAny (model X.prog X.w) X.A (setFlight e none) (fun _ s₃ =>
    wpAny (model X.prog X.w) X.A (handleBy e X.env (h₀ :: hds)) (SP X pins D) X.xe s₃) X.xe s₂) X.xe s₁) (fun u s' xx => ?_) PassesOwn.looking).run [] s σ H D (I.toTry _) h) (fun f s1 hsp => ?_) (fun e s1 he => he)
  · obtain ⟨a, B, sI, pins', σ', H', cls, d, rfl, J', nb, up, sky, na, os, ag, w⟩ := xx
    have J : Inv X pins σ' H' sI := J'.ofTry ok
    have sky' : Sky B (X.env :: X.outer) a (Zc cls d) X.env.locals s'.heap := by rw [← hs]; exact sky
    show wpAny (model X.prog X.w) X.A (noteFrame (.ref a) X.env) _ _ _
    refine Sky.land Zc.steady hfr hf sky' fun h3 fl3 up3 => ?_
    have J3 : Inv X pins σ' H' { s' with heap := h3 } := J.landed nb fl3.1 (up.trans up3) os ag
    obtain ⟨oe3, vs3, he3, hz3, hd3⟩ := fl3.there
    have notFr : ∀ {h : Heap} {o : Obj} {vs : Array Value}, h.FunFrames B (X.env :: X.outer) → h.get? a = some o → o.data = .fields vs → a ∉ frs (X.env :: X.outer) := fun {h o vs} ff e dd hm => by
      obtain ⟨_, o', e', hnf⟩ := ff.mem hm
      rw [e] at e'; cases e'
      exact hnf _ dd
    have nfr := notFr fl3.2.2.1 he3 hd3
    have nL : a ≠ X.env.locals := fun z => nfr (List.mem_filterMap.mpr ⟨X.env, List.mem_cons_self, by rw [hf, z]⟩)
    have nF : a ∉ X.fs := fun hm => by
      obtain ⟨e, he, q⟩ := List.mem_filterMap.mp hm
      exact nfr (List.mem_filterMap.mpr ⟨e, List.mem_cons_of_mem _ he, q⟩)
    have S3 := J3.suite he3 hd3 na nL nF
    have LT : PySem.W.Looks (model X.prog X.w) h3 (typeOf (.ref a)) cls := fun A Q E s k q => wpAny_typeOf_ref (k _ _ he3) (by rw [hz3.1]; exact q)
    have test : ∀ {x : Str} {c : Value} {np : Pos} {Q : Value → Shared → Prop} {E : Value → Shared → Prop}, Names X x c → Q c { s' with heap := h3 } → wpAny (model X.prog X.w) (X.A.mark (some (.ref a))) (eval (.Name x np) X.env) Q E { s' with heap := h3 } := fun {x c np Q E} hc q => by
      obtain ⟨hg, hdbg, hm | ⟨hm, hv, hnn⟩⟩ := hc
      · exact ld_glob (X := X.suite a ((a, oe3) :: (X.pn ++ pins))) S3 hg hm q hdbg
      · exact ld_blt (X := X.suite a ((a, oe3) :: (X.pn ++ pins))) S3 hg hm hv q hnn hdbg
    have go : ∀ {hds' : List ExceptHandler} {l' : List (Value × Option Nat × (Addr → Value → Option Addr → TS))}, HdsOk2 X hds' l' → wMany2 X.K Wout D l' cls d σ' H' →
        wpAny (model X.prog X.w) X.A (handleBy (.ref a) X.env hds') (SP X pins D) X.xe { s' with heap := h3 } := by
      intro hds' l' hk
      induction hk with
      | nil =>
        intro w
        refine wpAny_handleBy_nil ?_
        obtain ⟨k1, k2, k3, oe, vs, T, oT, ts', he, hz, hd, h1, hr⟩ := id fl3
        unfold PySem.passOn
        refine wpAny_bind (wpAny_field he hd h1 ?_)
        rw [if_neg (show ¬ ((Value.ref T == Value.none) = true) from by simp)]
        have fin : wpAny (model X.prog X.w) X.A (setFlight (.ref a) X.env.frame) (fun _ s4 => wpAny (model X.prog X.w) X.A (throw (.ref a) : Sem Flow) (SP X pins D) X.xe s4) X.xe { s' with heap := h3 } := by
          rw [hf]
          refine HandSPX.setFlight_upZ fl3 fun h4 hh4 up4 => wpAny_throw (tk _ _ ?_)
          exact ⟨a, B, sI, pins, σ', H', cls, d, rfl, J, nb, (up.trans up3).trans up4, .inr (.inr (by rw [hs]; exact hh4)), na, os, ag, w⟩
        first
          | exact wpAny_bind (wpAny_pure (wpAny_bind fin))
          | exact wpAny_bind fin
      | @cons x c ts b₀ suite np pos' hds2 l2 hc hsu r ih =>
        intro w
        obtain ⟨b, hb1, hyes, hno⟩ := w
        have LM := PySem.W.exm_one (M := model X.prog X.w) (J3.kIn) LT hb1
        refine wpAny_handleBy_cons (codeAny_handlers_test ?_) (by intro q; cases q)
        refine test hc (LM.here ?_)
        cases b with
        | true =>
          refine codeAny_handlers_suite ?_
          refine HandSPX.lands_againZ fl3 fun h4 fl4 up4 => ?_
          have J4 : Inv X pins σ' H' { s' with heap := h4 } := J.landed nb fl4.1 ((up.trans up3).trans up4) os ag
          obtain ⟨oe4, vs4, he4, hz4, hd4⟩ := fl4.there
          have S4 := J4.suite he4 hd4 na nL nF
          refine wpAny_mono ((hsu a oe4 cls d (X.pn ++ pins) hz4 ⟨_, hd4⟩).run [] _ _ H' _ S4 (hyes rfl a na fun _ z => nomatch z)) (fun f s6 hsp => ?_) (fun _ _ z => False.elim z)
          cases f with
          | next =>
            obtain ⟨σ6, H6, S6, q6⟩ := hsp
            exact ⟨_, _, S6.unsuite ok, q6⟩
          | brk =>
            obtain ⟨σ6, H6, S6, q6⟩ := hsp
            exact ⟨_, _, S6.unsuite ok, q6⟩
          | cont =>
            obtain ⟨σ6, H6, S6, q6⟩ := hsp
            exact ⟨_, _, S6.unsuite ok, q6⟩
          | ret u =>
            obtain ⟨v6, σ6, H6, S6, r6, q6⟩ := hsp
            exact ⟨_, _, _, S6.unsuite ok, r6, q6⟩
        | false =>
          show wpAny _ X.A (handleBy (.ref a) X.env hds2) _ _ _
          exact ih (hno rfl)
      | @as x n i c ts b₀ suite np pos' hds2 l2 hi hln hc hsu r ih =>
        intro w
        obtain ⟨b, hb1, hyes, hno⟩ := w
        have LM := PySem.W.exm_one (M := model X.prog X.w) (J3.kIn) LT hb1
        refine wpAny_handleBy_cons (codeAny_handlers_test ?_) (by intro q; cases q)
        refine test hc (LM.here ?_)
        cases b with
        | true =>
          refine codeAny_handlers_suite_as ?_
          refine HandSPX.lands_againZ fl3 fun h4 fl4 up4 => ?_
          have J4 : Inv X pins σ' H' { s' with heap := h4 } := J.landed nb fl4.1 ((up.trans up3).trans up4) os ag
          obtain ⟨oe4, vs4, he4, hz4, hd4⟩ := fl4.there
          have S4 := J4.suite he4 hd4 na nL nF
          refine store_ok (X := X.suite a ((a, oe4) :: (X.pn ++ pins))) (v := .ref a) S4 hN hi (.inl hln) rfl (fun s5 S5 => ?_) (.inr hln)
          refine wpAny_mono ((hsu a oe4 cls d (X.pn ++ pins) hz4 ⟨_, hd4⟩).run [] s5 _ H' _ S5 (hyes rfl a na fun j z => by
            cases z
            rw [J.len]
            exact (List.getElem?_eq_some_iff.mp hi).1)) (fun f s6 hsp => ?_) (fun _ _ z => False.elim z)
          have end_ : ∀ {σ6 : L2.St} {H6 : Hp} {Q : Shared → Prop}, Inv (X.suite a ((a, oe4) :: (X.pn ++ pins))) [] σ6 H6 s6 → (∀ s7, Inv X pins (σ6.set i none) H6 s7 → Q s7) →
              wpAny (model X.prog X.w) X.A (do bindName X.env n .none; unbindBehindTheSuite X.env n pos') (fun _ s7 => Q s7) X.xe s6 := fun {σ6 H6 Q} S6 hq => gone_ok (S6.unsuite ok) hN hi hln hq
          cases f with
          | next =>
            obtain ⟨σ6, H6, S6, q6⟩ := hsp
            exact end_ S6 fun s7 J7 => ⟨_, _, J7, q6⟩
          | brk =>
            obtain ⟨σ6, H6, S6, q6⟩ := hsp
            exact end_ S6 fun s7 J7 => ⟨_, _, J7, q6⟩
          | cont =>
            obtain ⟨σ6, H6, S6, q6⟩ := hsp
            exact end_ S6 fun s7 J7 => ⟨_, _, J7, q6⟩
          | ret u =>
            obtain ⟨v6, σ6, H6, S6, r6, q6⟩ := hsp
            exact end_ S6 fun s7 J7 => ⟨_, _, _, J7, r6, q6⟩
        | false =>
          show wpAny _ X.A (handleBy (.ref a) X.env hds2) _ _ _
          exact ih (hno rfl)
    exact go hh w
  · cases f with
    | next =>
      obtain ⟨σ', H', J', q⟩ := hsp
      exact wpAny_execs_nil ⟨σ', H', J'.ofTry ok, q⟩
    | brk =>
      obtain ⟨σ', H', J', q⟩ := hsp
      exact ⟨σ', H', J'.ofTry ok, q⟩
    | cont =>
      obtain ⟨σ', H', J', q⟩ := hsp
      exact ⟨σ', H', J'.ofTry ok, q⟩
    | ret u =>
      obtain ⟨v, σ', H', J', r, q⟩ := hsp
      exact ⟨v, σ', H', J'.ofTry ok, r, q⟩
end
section
variable {NM : Nam} {K : PySem.W.Frag} {F : Fr} {G H : Hp} {ρ : Env} {σ : L2.St}
theorem R.unset (r : R NM K F ρ G σ H) (i : Nat) : R NM K F (ρ.set i .un) G (σ.set i none) H where
  len := by rw [List.length_set, List.length_set]; exact r.len
  sub := r.sub
  gg := r.gg
  keep := r.keep
  md := r.md
  sep := r.sep
  sl := fun j s o h1 h2 => by
    by_cases hj : i = j
    · subst hj
      rw [List.getElem?_set] at h1
      simp only [if_pos] at h1
      split at h1
      · cases h1
        trivial
      · cases h1
    · rw [List.getElem?_set_ne hj] at h1 h2
      exact r.sl j s o h1 h2
  dis := fun j k s t o u a hjk h1 h2 h3 h4 h5 h6 => by
    have no : ∀ {m : Nat} {s : Sl} {o : Option V}, i = m → (ρ.set i .un)[m]? = some s → ownAt s o a → False := fun {m s o} e q z => by
      subst e
      rw [List.getElem?_set] at q
      simp only [if_pos] at q
      split at q
      · cases q
        exact z.2
      · cases q
    by_cases ej : i = j
    · exact no ej h1 h5
    · by_cases ek : i = k
      · exact no ek h2 h6
      · rw [List.getElem?_set_ne ej] at h1 h3
        rw [List.getElem?_set_ne ek] at h2 h4
        exact r.dis j k s t o u a hjk h1 h2 h3 h4 h5 h6
end
section
variable {X : Cx} {NM : Nam} {B : List Str} {Φ : List Cal} {Γ : List (Str × D)} {AT : List (Nat × Nat)} {W : WX} {e : Expr} {fa : Wk} {pos rp p : Pos} {f : Env → Dn → Prop}
theorem xd_heap {H1 : Hp} {a dx C : Addr} {fn : Str} {v : V} (ha : H1 a = none) (hne : dx ≠ a) : upd (del (upd (upd (upd H1 a (exo a C none)) dx (exd dx [(fn, v)])) a (exo a C (some dx))) a) dx (.xd [(fn, v)]) = upd H1 dx (.xd [(fn, v)]) := by
  funext b
  by_cases hb : b = dx
  · rw [hb, upd_same, upd_same]
  · rw [upd_ne hb, upd_ne hb]
    by_cases hba : b = a
    · rw [hba, del_same, ha]
    · rw [del_ne hba, upd_ne hba, upd_ne hb, upd_ne hba]
theorem ss_raise (ok : Ok X NM B Φ Γ AT) (tk : Takes X W) {c g : Nat} {st : Bool} (hm : (c, g, st) ∈ NM.exs) (hg : Gl X (NM.cl c)) (hdb : ((NM.cl c) == ("__debug__" : Str)) = false) (he : PE X e (LE NM X.K W fa)) (hgd : good e = true) :
    PS X (.Raise (some (.Call (.Name (NM.cl c) p) [e] [] pos)) none rp) (LS_ NM X.K W fun ρ d => fa ρ (fun v => smallD st v ∧ d.er ⟨c, [g], [v]⟩ ρ) fun x => d.er x ρ) := by
  obtain ⟨k, fI, fd, ps, T, iC, tI, F1, hr, hb, hmg, _, _⟩ := ok.exs _ hm
  refine ps_imp (ps_raise ok.calm tk (pmk_oex (p := p) (pos := pos) T iC tI F1 hr hb .nil (passes_call tk fun _ _ _ _ z => z.elim) hg hmg (pa_cons he pa_nil (starEach_good hgd)) hdb (starEach_good hgd) rfl)) fun De σ H ⟨F, ρ, G, d, r, q, h1, h2, h3, h4, h5⟩ => ?_
  refine ⟨F, ρ, G, _, _, r, q, fun v G1 H1 dv x1 r1 q1 => ⟨by show 1 ≤ 1000; omega, fun a ha => ⟨a, v, rfl, upd_same, fun hst => ?_, fun dx n1 n2 => ⟨rfl, dx, [(NM.at_ g, v)], upd_same, ?_, ?_, ?_⟩⟩⟩, fun cl dx G1 H1 x x1 rx q1 => h5 cl dx ρ G1 σ H1 x (r.ext x1) x1.gg rx q1⟩
  · have z := q1.1
    have hst' : st = true := hst
    cases r1 <;> first | exact ⟨_, rfl, z⟩ | (exact absurd (hst'.symm.trans z) (fun h => nomatch h))
  · rw [upd_ne n2, upd_same]
  · rwa [upd_ne n2] at n1
  · rw [upd_ne n2] at n1
    rw [xd_heap ha n2]
    have g1 := x1.sub.free n1
    have ex := Ext.new x1.sub n1 (.xd [(NM.at_ g, v)])
    exact h5 _ _ ρ (upd G1 dx (.xd [(NM.at_ g, v)])) σ _ ⟨c, [g], [dv]⟩ (r.ext (x1.trans ex)) (x1.trans ex).gg ⟨rfl, .inr ⟨dx, [v], rfl, upd_same, rfl, .cons (r1.mono (same_upd g1)) .nil⟩⟩ q1.2
theorem ss_raise0 (ok : Ok X NM B Φ Γ AT) (tk : Takes X W) {c : Nat} (hm : c ∈ NM.ex0) (hg : Gl X (NM.cl c)) (hdb : ((NM.cl c) == ("__debug__" : Str)) = false) {m : Str} {j : Nat} {p2 : Pos} :
    PS X (.Raise (some (.Call (.Name (NM.cl c) p) [.Constant (.str m) j p2] [] pos)) none rp) (LS_ NM X.K W fun ρ d => d.er ⟨c, [], []⟩ ρ) := by
  obtain ⟨q1, q2, q3, q4⟩ := ok.ex0 _ hm
  refine ps_imp (ps_raise ok.calm tk (pmk_own F.excBase_ValueError q1 q4 q2 q3 hg hdb)) fun De σ H ⟨F, ρ, G, d, r, q, h1, h2, h3, h4, h5⟩ => ?_
  exact h5 _ _ ρ G σ H ⟨c, [], []⟩ r (.refl _) ⟨rfl, .inl ⟨rfl, rfl, rfl⟩⟩ q
end
section
variable (NM : Nam) (N : List Str) (B : List Str)
def chHd (h : Hx) (sc : Scope) : ExceptHandler → Bool
  | .ExceptHandler (some (.Name x _)) io (b₀ :: suite) _ => decide (NM.cl h.c = x) && gloB sc x && (NM.sub.any fun p => decide (p.2.1 = h.c)) && (match h.i, io with
    | none, none => true
    | some i, some n => decide (N[i]? = some n) && (match sc.names.lookup n with | some .local => true | _ => false)
    | _, _ => false) && chSu NM N B h.i h.su sc (b₀ :: suite)
  | _ => false
def chHds : List Hx → Scope → List ExceptHandler → Bool
  | [], _, [] => true
  | h :: r, sc, e :: es => chHd NM N B h sc e && chHds r sc es
  | _, _, _ => false
end
section
variable {X : Cx} {NM : Nam} {B : List Str} {Φ : List Cal} {Γ : List (Str × D)} {AT : List (Nat × Nat)} {W : WX} {pos : Pos} {f : Env → Dn → Prop}
abbrev hxL (NM : Nam) (K : PySem.W.Frag) (h : Hx) : Value × Option Nat × (Addr → Value → Option Addr → TS) := (.ref (He.ga K (NM.cl h.c)), h.i, fun a cls dx => LSu NM K a cls dx h.i fun x => suW NM x h.su)
theorem hds_ok (inj : ∀ i j, NM.at_ i = NM.at_ j → i = j) (ok : OkS X NM B Φ Γ AT) : ∀ (hs : List Hx) (es : List ExceptHandler), chHds NM X.N B hs X.env.scope es = true → HdsOk2 X es (hs.map (hxL NM X.K))
  | [], [], _ => .nil
  | h :: r, e :: es, q => by
    unfold chHds at q
    obtain ⟨q1, q2⟩ := band q
    have ih := hds_ok inj ok r es q2
    unfold chHd at q1
    split at q1
    · rename_i x np io b₀ suite pos'
      obtain ⟨q1, m5⟩ := band q1
      obtain ⟨q1, m4⟩ := band q1
      obtain ⟨q1, m3⟩ := band q1
      obtain ⟨m1, m2⟩ := band q1
      cases of_decide_eq_true m1
      obtain ⟨g1, g2⟩ := gloB_gl (X := X) m2 rfl
      obtain ⟨p, hp, hp2⟩ := List.any_eq_true.mp m3
      have mgc := (ok.ok.sub p hp).2
      rw [of_decide_eq_true hp2] at mgc
      have su := fun (a : Addr) (oe : Obj) (cls : Value) (d : Option Addr) (pn : List (Addr × Obj)) (hz : Zc cls d oe) (hf : ∃ vs, oe.data = .fields vs) => su_su (a := a) (oe := oe) (pn := pn) inj ok.ok hz hf rfl h.su (b₀ :: suite) m5
      obtain ⟨hc, hi, hsu⟩ := h
      dsimp only at *
      split at m4
      · exact .cons ⟨g1, g2, .inl mgc⟩ su ih
      · rename_i i n _ _ _
        obtain ⟨n1, n2⟩ := band m4
        refine .as (of_decide_eq_true n1) ?_ ⟨g1, g2, .inl mgc⟩ su ih
        show X.env.scope.names.lookup n = some .local
        split at n2
        · assumption
        · cases n2
      · cases m4
    · cases q1
  | [], _ :: _, q => by unfold chHds at q; cases q
  | _ :: _, [], q => by unfold chHds at q; cases q
theorem ss_try (inj : ∀ i j, NM.at_ i = NM.at_ j → i = j) (ok : OkS X NM B Φ Γ AT) (tk : Takes X W) {body : List Stmt} {h₀ : ExceptHandler} {es : List ExceptHandler} {hs : List Hx}
    (hb : ∀ (W : WX) (pn : List (Addr × Obj)) (xe : Value → Shared → Prop), OkS (X.tr pn xe) NM B Φ Γ AT → Takes (X.tr pn xe) W → PSs (X.tr pn xe) body (LS_ NM X.K W f)) (hh : chHds NM X.N B hs X.env.scope (h₀ :: es) = true) :
    PS X (.Try body (h₀ :: es) [] [] pos) (LS_ NM X.K W fun ρ d => f ρ { d with er := fun x ρ' => hdW NM x hs ρ' d }) := by
  refine ps_imp (ps_try2 (tb := fun W => LS_ NM X.K W f) ok.stk ok.frm ok.ok.nd tk (fun W pn xe t po => hb W pn xe (ok.tr po) t) (hds_ok inj ok hs _ hh)) fun De σ H ⟨F, ρ, G, d, r, q, h1, h2, h3, h4, h5⟩ => ?_
  refine ⟨F, ρ, G, _, r, q, h1, h2, h3, h4, ?_⟩
  intro cls dx ρ' G' σ' H' x r' g' rx w
  have w' : hdW NM x hs ρ' d := w
  clear hh q w
  revert w'
  generalize hs = hs
  intro w
  induction hs with
  | nil =>
    unfold hdW at w
    exact h5 cls dx ρ' G' σ' H' x r' g' rx w
  | cons h hs ih =>
    unfold hdW at w
    have rc := rx.1
    split at w
    · rename_i hsb
      obtain ⟨sb, _⟩ := ek_of ok.ok hsb
      refine ⟨true, by rw [rc]; exact sb.exm, fun _ a na hlen => ⟨G', x, d.rt, d.nx (hxR h ρ'), r'.sub, rx, fun j hj => ?_, w, fun z => ?_, fun v G2 H2 dv ex rv z => ?_⟩, fun z => nomatch z⟩
      · have hj' : h.i = some j := hj
        rw [hj']
        show (σ'.set j (some (.ref a)))[j]? = _
        rw [List.getElem?_set_self (hlen j hj)]
      · unfold hxR at z
        cases hi : h.i with
        | none =>
          rw [hi] at z
          exact h1 ρ' G' σ' H' r' g' z
        | some i =>
          rw [hi] at z
          show De.nx ((σ'.set i (some (.ref a))).set i none) H'
          rw [List.set_set]
          exact h1 _ G' _ H' (r'.unset i) g' z
      · have := h4 v dv ρ' G2 σ' H2 (r'.ext ex) (g'.trans ex.gg) rv z
        cases hi : h.i <;> exact this
    · rename_i hsb
      obtain ⟨sb, _⟩ := ek_of ok.ok hsb
      exact ⟨false, by rw [rc]; exact sb.exm, fun z => (nomatch z), fun _ => ih w⟩
    · exact w.elim
end
end Q
namespace Q
open PySem PySem.Spec L2
def noLc : Expr → Bool
  | .ListComp _ _ _ _ => false
  | .SetComp _ _ _ _ => false
  | .DictComp _ _ _ _ _ => false
  | _ => true
def noPar (t v : Expr) : Bool := match t, v with
  | .Tuple _ _ _, .Tuple _ _ _ => false
  | _, _ => true
def swB (sc : Scope) (y : Str) (py : Pos) (v : Expr) (s : Scope) : Bool := (match sc.names.lookup y with | some .local => true | _ => false) && py.line == v.pos.line && !(s.names.any fun (n, k) => n == y && (k == .local || k == .cell))
def asPar : Expr → Expr → Option (Str × Str × Expr × Expr)
  | .Tuple [.Name x px, .Name y py] _ _, .Tuple [a, b] _ _ => if px.line == py.line then some (x, y, a, b) else none
  | _, _ => none
def asApp : Expr → Option (Str × Pos × Expr × Pos)
  | .Call (.Attribute (.Name x _) m ap) [e] [] p => if m = "append" then some (x, ap, e, p) else none
  | _ => none
def notFolded (a b : Expr) : Bool := !([a, b].all (foldedForSure 8)) && !([a, b].all (constantsAlone 8))
section
variable (NM : Nam) (N : List Str) (B : List Str) (Φ : List Cal) (Γ : List (Str × D))
mutual
def chS : S → Scope → Stmt → Bool
  | .frz _, _, _ => false
  | .asg t e, sc, s => match stAsg s with
    | some (x, v, p) => good x && e.noB && chTg N t sc x && (match t, e with
      | .nm i, .comp _ _ _ _ => chE NM N B Φ Γ e sc v
      | _, _ => noLc v && noPar x v && chE NM N B Φ Γ e sc v)
    | none => false
  | .new i e, sc, s => match stAsg s with
    | some (x, v, p) => (match asName x with
      | some y => e.fresh && decide (N[i]? = some y) && locB sc y && chE NM N B Φ Γ e sc v
      | none => false)
    | none => false
  | .par i j a b, sc, s => match stAsg s with
    | some (x, v, _) => (match asPar x v with
      | some (y, z, u, w) => decide (N[i]? = some y) && decide (N[j]? = some z) && decide (i ≠ j) && decide (y ≠ z) && (match sc.names.lookup y with | some .local => true | _ => false) && (match sc.names.lookup z with | some .local => true | _ => false) && good u && good w && a.noB && b.noB && notFolded u w && chE NM N B Φ Γ a sc u && chE NM N B Φ Γ b sc w
      | none => false)
    | none => false
  | .setIx i a e, sc, s => match stAsg s with
    | some (x, v, _) => (match asSub x with
      | some (o, ix) => (match asName o with
        | some y => varB N sc i y && good ix && a.noB && e.noB && chE NM N B Φ Γ a sc ix && chE NM N B Φ Γ e sc v
        | none => false)
      | none => false)
    | none => false
  | .app i e, sc, s => match stExp s with
    | some x => (match asApp x with
      | some (y, ap, v, p) => varB N sc i y && good v && e.noB && (ap.endLine == p.line) && chE NM N B Φ Γ e sc v
      | none => false)
    | none => false
  | .aug i o e, sc, s => match stAug s with
    | some (x, op, v) => (match asName x with
      | some y => decide (N[i]? = some y) && locB sc y && e.noB && (match o, op with | .add, .Add => true | .sub, .Sub => true | _, _ => false) && chE NM N B Φ Γ e sc v
      | none => false)
    | none => false
  | .fld i f e, sc, s => match stAsg s with
    | some (x, v, _) => (match asAtr x with
      | some (o, n) => (match asName o with
        | some y => varB N sc i y && decide (NM.at_ f = n) && e.noB && chE NM N B Φ Γ e sc v
        | none => false)
      | none => false)
    | none => false
  | .exp e, sc, s => match stExp s with
    | some x => e.noB && noLc x && chE NM N B Φ Γ e sc x
    | none => false
  | .ret e, sc, s => match stRet s with
    | some (some x) => e.noB && chE NM N B Φ Γ e sc x
    | _ => false
  | .retN, sc, s => match stRet s with
    | some none => true
    | _ => false
  | .ite c a b, sc, s => match stIf s with
    | some (x, y, z) => chT NM N B Φ Γ c sc x && chSs a sc y && chSs b sc z
    | none => false
  | .for_ t it b, sc, s => match stFor s with
    | some (x, y, z) => good y && (match it with | .ex a => a.noB | _ => true) && chI NM N B Φ Γ it sc x y && chTg N t sc x && chSs b sc z
    | none => false
  | .whl c b, sc, s => match stWhl s with
    | some (x, z) => chT NM N B Φ Γ c sc x && chSs b sc z
    | none => false
  | .brk, _, s => match s with
    | .Break _ => true
    | _ => false
  | .cnt, _, s => match s with
    | .Continue _ => true
    | _ => false
  | .pas, _, s => match s with
    | .Pass _ => true
    | _ => false
  | .nev, _, _ => true
  | .raise c g st e, sc, s => match stRai s with
    | some (x, y) => decide (NM.cl c = x) && decide ((c, g, st) ∈ NM.exs) && gloB sc x && good y && e.noB && chE NM N B Φ Γ e sc y
    | none => false
  | .raise0 c, sc, s => match stRai s with
    | some (x, y) => decide (NM.cl c = x) && decide (c ∈ NM.ex0) && gloB sc x && strC y
    | none => false
  | .try_ b hs, sc, s => match stTry s with
    | some (b', h :: es) => chSs b sc b' && chHds NM N B hs sc (h :: es)
    | _ => false
def chSs : List S → Scope → List Stmt → Bool
  | [], _, [] => true
  | .frz _ :: r, sc, sts => chSs r sc sts
  | s :: r, sc, st :: sts => chS s sc st && chSs r sc sts
  | _, _, _ => false
end
end
end Q
namespace Q
open PySem PySem.Spec L2
section
variable {NM : Nam} {B : List Str} {Φ : List Cal} {Γ : List (Str × D)} {AT : List (Nat × Nat)}
abbrev RS (NM : Nam) (B : List Str) (Φ : List Cal) (Γ : List (Str × D)) (AT : List (Nat × Nat)) (i : S) : Prop := ∀ (X : Cx) (W : WX) (st : Stmt), OkS X NM B Φ Γ AT → Takes X W → chS NM X.N B Φ Γ i X.env.scope st = true → PS X st (LS_ NM X.K W (wpS NM AT Φ Γ i))
abbrev RSs (NM : Nam) (B : List Str) (Φ : List Cal) (Γ : List (Str × D)) (AT : List (Nat × Nat)) (is : List S) : Prop := ∀ (X : Cx) (W : WX) (st : List Stmt), OkS X NM B Φ Γ AT → Takes X W → chSs NM X.N B Φ Γ is X.env.scope st = true → PSs X st (LS_ NM X.K W (wpSs NM AT Φ Γ is))
theorem noLc_swaps {X : Cx} {e : Expr} (h : noLc e = true) {t : Option Expr} {l : Nat} : swapsWith e t l X.env = pure false := by
  cases e <;> first | rfl | cases h
def notLst : Expr → Bool
  | .List _ _ => false
  | _ => true
theorem noPar_sw {X : Cx} {t v : Expr} (h : noPar t v = true) (hl : notLst t = true) : swappedStores [t] v X.env = pure none := by
  cases t <;> first | (cases hl; done) | (cases v <;> rfl) | skip
  cases v <;> first | (cases h; done) | rfl
theorem chTg_noList {X : Cx} {t : Tg} {sc : Scope} {x : Expr} (h : chTg X.N t sc x = true) : notLst x = true := by
  cases t with
  | nm i =>
    unfold chTg at h
    split at h
    · rename_i y hy
      obtain ⟨p, rfl⟩ := asName_eq hy
      rfl
    · cases h
  | tp ts =>
    unfold chTg at h
    split at h
    · rename_i y hy
      obtain ⟨k, p, rfl⟩ := asTup_eq hy
      rfl
    · cases h
variable (inj : ∀ i j, NM.at_ i = NM.at_ j → i = j)
include inj
theorem snN {i : E} (hf : i.fresh = true) (X : Cx) (W : WX) (e : Expr) (ok : Ok X NM B Φ Γ AT) (tk : Takes X W) (h : chE NM X.N B Φ Γ i X.env.scope e = true) : PE X e (LN NM X.K W (wpE NM AT Φ Γ i)) := by
  cases i <;> first | (cases hf; done) | skip
  · rename_i o a b
    cases o <;> first | (cases hf; done) | skip
    unfold chE at h
    split at h
    · rename_i x p y hx
      obtain ⟨q, rfl⟩ := asBin_eq hx
      obtain ⟨h, h3⟩ := band h
      obtain ⟨h1, h2⟩ := band h
      cases p <;> first | (cases h1; done) | skip
      exact sn_add (toB (N := []) (snE inj a X W _ ok tk h2) h2) (toB (N := []) (snE inj b X W _ ok tk h3) h3)
    · cases h
  · rename_i b as
    cases b <;> first | (cases hf; done) | skip
    cases as with
    | nil => cases hf
    | cons a as =>
      cases as with
      | cons _ _ => cases hf
      | nil =>
        unfold chE at h
        split at h
        · rename_i f x xs hx
          obtain ⟨q, rfl⟩ := asCall_eq hx
          obtain ⟨h, h3⟩ := band h
          obtain ⟨h1, h2⟩ := band h
          split at h1
          · rename_i n hn
            obtain ⟨p, rfl⟩ := asName_eq hn
            obtain ⟨h4, h5⟩ := band h1
            have en := of_decide_eq_true h4
            subst en
            obtain ⟨g1, g2, g3, g4⟩ := freB_ok (X := X) h5 rfl ok (bltN_ne .list)
            cases xs with
            | nil =>
              have h3' : chE NM X.N B Φ Γ a X.env.scope x = true := h3
              have := lf_ln (sf_list (W := W) (pos := q) (p := p) ok g1 g2 h2 g3 (bltB_eq .list (by intro z; cases z)) g4 (toB (N := []) (snE inj a X W _ ok tk h3') h3'))
              refine pe_imp this fun σ H Q ⟨F, ρ, G, kd, kx, r, w, h1, h2⟩ => ⟨F, ρ, G, kd, kx, r, ?_, h1, h2⟩
              simp only [wpE, wpEs] at w
              exact w
            | cons _ _ =>
              have h3' : chEs NM X.N B Φ Γ [a] X.env.scope (x :: _ :: _) = true := h3
              unfold chEs at h3'
              obtain ⟨_, h3'⟩ := band h3'
              unfold chEs at h3'
              cases h3'
          · cases h1
        · cases h
  · rename_i a lo hi
    exact lf_ln (rf_slc (snE inj a) (snO inj lo) (snO inj hi) X W e ok tk h)
  · rename_i as
    exact lf_ln (rf_lst (snEs inj as) X W e ok tk h)
  · rename_i a t it c
    exact lf_ln (rf_comp (snE inj a) (snI inj it) (snTs inj c) X W e ok tk h)
theorem rs_frz (i : Nat) : RS NM B Φ Γ AT (.frz i) := fun X W st ok tk h => by
  unfold chS at h
  cases h
omit inj in
theorem sw_eq {X : Cx} (hk : X.env.scope.kind = .function) {y : Str} {q q2 p : Pos} {x1 y1 z1 : Expr} {w1 : List Expr} {s1 : Scope} : swapsWith (.ListComp x1 [⟨y1, z1, w1, 0⟩] s1 q2) (some (.Name y q)) p.line X.env = pure (swB X.env.scope y q (.ListComp x1 [⟨y1, z1, w1, 0⟩] s1 q2) s1) := by
  have hb : X.env.blockKind = .function := by unfold PySem.Env.blockKind; rw [hk]; rfl
  unfold swapsWith swB
  simp only [hb, PySem.Env.kindOf]
  cases hk : X.env.scope.names.lookup y with
  | none => rfl
  | some k => cases k <;> rfl
theorem rs_comp {X : Cx} {W : WX} (ok : OkS X NM B Φ Γ AT) (tk : Takes X W) {i : Nat} {a : E} {t2 : Tg} {it : It} {c : List T} {y : Str} {q p : Pos} {v : Expr} (k1 : X.N[i]? = some y) (k2 : locB X.env.scope y = true) (h : chE NM X.N B Φ Γ (.comp a t2 it c) X.env.scope v = true) :
    PS X (.Assign [.Name y q] v p) (tAsg (LF NM X.K W (wpE NM AT Φ Γ (.comp a t2 it c))) (gName i)) := by
  obtain ⟨hl, hfn⟩ := locB_loc (X := X) k2 ok.tg
  have h5' := h
  unfold chE at h
  split at h
  · rename_i x1 y1 z1 w1 s1 hx
    obtain ⟨q2, rfl⟩ := asComp_eq hx
    obtain ⟨h, m7⟩ := band h
    obtain ⟨h, m6⟩ := band h
    obtain ⟨h, m5⟩ := band h
    obtain ⟨h, m4⟩ := band h
    obtain ⟨h, m3⟩ := band h
    obtain ⟨m1, m2⟩ := band h
    have sw := sw_eq (X := X) ok.kind (y := y) (q := q) (q2 := q2) (p := p) (x1 := x1) (y1 := y1) (z1 := z1) (w1 := w1) (s1 := s1)
    by_cases hsw : swB X.env.scope y q (.ListComp x1 [⟨y1, z1, w1, 0⟩] s1 q2) s1 = true
    · rw [hsw] at sw
      have hloc : X.env.scope.names.lookup y = some .local := by
        unfold swB at hsw
        obtain ⟨hsw, _⟩ := band hsw
        obtain ⟨hsw, _⟩ := band hsw
        split at hsw
        · assumption
        · cases hsw
      exact ss_comp (W := W) ok.ok k1 hloc sw (snI inj it X W y1 z1 ok.ok tk m3).1 (blkOk_by m1) (fun s2 H1 C cl fp => sg (ok.ok.blk _ _ _ _ _) tgOk_blk t2 y1 m4) (fun s2 H1 C cl fp => snTs inj c _ W0 w1 (ok.ok.blk _ _ _ _ _) takes0 m5) (fun s2 H1 C cl fp => snE inj a _ W0 x1 (ok.ok.blk _ _ _ _ _) takes0 m7 m6) (foldGood m2)
    · have hsw' : swB X.env.scope y q (.ListComp x1 [⟨y1, z1, w1, 0⟩] s1 q2) s1 = false := by simpa using hsw
      rw [hsw'] at sw
      exact ps_set (pos := p) (pos' := q) ok.ok.nd k1 hl (rf_comp (snE inj a) (snI inj it) (snTs inj c) X W _ ok.ok tk h5') sw hfn
  · cases h
theorem rs_asg (t : Tg) (e : E) : RS NM B Φ Γ AT (.asg t e) := fun X W st ok tk h => by
  unfold chS at h
  split at h
  · rename_i x v p hs
    cases stAsg_eq hs
    obtain ⟨h, h4⟩ := band h
    obtain ⟨h, h3⟩ := band h
    obtain ⟨h1, h2⟩ := band h
    have nl := chTg_noList h3
    split at h4
    · rename_i i a t2 it c _ _
      unfold chTg at h3
      split at h3
      · rename_i y hy
        obtain ⟨q, rfl⟩ := asName_eq hy
        obtain ⟨k1, k2⟩ := band h3
        have ps := ss_fz (rs_comp inj (p := p) (q := q) ok tk (of_decide_eq_true k1) k2 h4)
        refine ps_imp ps fun De σ H ⟨F, ρ, G, d, r, w, z⟩ => ⟨F, ρ, G, d, r, ?_, z⟩
        simp only [wpS, bindW] at w
        exact w
      · cases h3
    · obtain ⟨h4, h7⟩ := band h4
      obtain ⟨h5, h6⟩ := band h4
      have ps := ss_asg (pos := p) ok (snE inj e X W v ok.ok tk h7 h2) (sg ok.ok ok.tg t x h3) (show swapsWith v (some x) p.line X.env = pure false from noLc_swaps h5) (noPar_sw h6 nl) h1
      refine ps_imp ps fun De σ H ⟨F, ρ, G, d, r, w, z⟩ => ⟨F, ρ, G, d, r, ?_, z⟩
      simp only [wpS] at w
      exact w
  · cases h
theorem rs_new (i : Nat) (e : E) : RS NM B Φ Γ AT (.new i e) := fun X W st ok tk h => by
  unfold chS at h
  split at h
  · rename_i x v p hs
    cases stAsg_eq hs
    split at h
    · rename_i y hy
      obtain ⟨q, rfl⟩ := asName_eq hy
      obtain ⟨h, h4⟩ := band h
      obtain ⟨h, k2⟩ := band h
      obtain ⟨hf, k1⟩ := band h
      obtain ⟨hl, hfn⟩ := locB_loc (X := X) k2 ok.tg
      have fin : ∀ {De : Ends} {σ : L2.St} {H : Hp}, LS_ NM X.K W (wpS NM AT Φ Γ (.new i e)) De σ H → LS_ NM X.K W (fun ρ d => wpE NM AT Φ Γ e ρ (fun v => d.nx (ρ.set i (slOf v))) fun x => d.er x ρ) De σ H := fun {De σ H} ⟨F, ρ, G, d, r, w, z⟩ => ⟨F, ρ, G, d, r, by
            simp only [wpS] at w
            exact w, z⟩
      by_cases hc : ∃ a t2 it c, e = .comp a t2 it c
      · obtain ⟨a, t2, it, c, rfl⟩ := hc
        have ps := rs_comp inj (p := p) (q := q) (W := W) ok tk (of_decide_eq_true k1) k2 h4
        refine ps_imp (ss_new (ps_imp ps fun De σ H w => ?_)) fun De σ H w => fin w
        obtain ⟨F, ρ, G, kd, kx, r, w, _, h1, h2⟩ := w
        exact ⟨F, ρ, G, kd, kx, r, w, h1, h2⟩
      · have hn : noLc v = true := by
          cases e <;> first | (cases hf; done) | exact absurd ⟨_, _, _, _, rfl⟩ hc | skip
          all_goals
            unfold chE at h4
            split at h4 <;> first | (cases h4; done) | skip
          · rename_i hx
            obtain ⟨_, rfl⟩ := asBin_eq hx
            rfl
          · rename_i hx
            obtain ⟨_, rfl⟩ := asCall_eq hx
            rfl
          · rename_i hx
            obtain ⟨_, rfl⟩ := asSub_eq hx
            rfl
          · rename_i hx
            obtain ⟨_, rfl⟩ := asLst_eq hx
            rfl
        have ps := ss_new (W := W) (NM := NM) (ps_set (pos := p) (pos' := q) ok.ok.nd (of_decide_eq_true k1) hl (snN inj hf X W v ok.ok tk h4) (noLc_swaps hn) hfn)
        exact ps_imp ps fun De σ H w => fin w
    · cases h
  · cases h
omit inj in
theorem asPar_eq {t v : Expr} {x y a b} (h : asPar t v = some (x, y, a, b)) : ∃ px py k p k2 p2, t = .Tuple [.Name x px, .Name y py] k p ∧ v = .Tuple [a, b] k2 p2 ∧ (px.line == py.line) = true := by
  unfold asPar at h
  split at h
  · split at h
    · rename_i hl
      cases h
      exact ⟨_, _, _, _, _, _, rfl, rfl, hl⟩
    · cases h
  · cases h
omit inj in
theorem rs_par (i j : Nat) {a b : E} (ia : RE NM B Φ Γ AT a) (ib : RE NM B Φ Γ AT b) : RS NM B Φ Γ AT (.par i j a b) := fun X W st ok tk h => by
  unfold chS at h
  split at h
  · rename_i x v p hs
    cases stAsg_eq hs
    split at h
    · rename_i y z u w hp
      obtain ⟨px, py, k, p1, k2, p2, rfl, rfl, hl⟩ := asPar_eq hp
      obtain ⟨h, m13⟩ := band h
      obtain ⟨h, m12⟩ := band h
      obtain ⟨h, m11⟩ := band h
      obtain ⟨h, m10⟩ := band h
      obtain ⟨h, m9⟩ := band h
      obtain ⟨h, m8⟩ := band h
      obtain ⟨h, m7⟩ := band h
      obtain ⟨h, m6⟩ := band h
      obtain ⟨h, m5⟩ := band h
      obtain ⟨h, m4⟩ := band h
      obtain ⟨h, m3⟩ := band h
      obtain ⟨m1, m2⟩ := band h
      have loc : ∀ {o : Option NameKind}, (match o with | some .local => true | _ => false) = true → o = some .local := fun {o} h => by
        split at h
        · rfl
        · cases h
      have ly := loc m5
      have lz := loc m6
      have nyz := of_decide_eq_true m4
      have hw : swappedStores [.Tuple [.Name y px, .Name z py] k p1] (.Tuple [u, w] k2 p2) X.env = pure (some [y, z]) := by
        have hb : X.env.blockKind = .function := by unfold PySem.Env.blockKind; rw [ok.kind]; rfl
        have ky : X.env.kindOf y = some .local := ly
        have kz : X.env.kindOf z = some .local := lz
        have st : ([u, w].any fun | .Starred .. => true | _ => false) = false := by
          cases u <;> first | (cases m7; done) | (cases w <;> first | (cases m8; done) | rfl)
        obtain ⟨f1, f2⟩ := band m11
        have g1 : ([u, w].all (foldedForSure 8)) = false := by rw [Bool.not_eq_true'] at f1; exact f1
        have g2 : ([u, w].all (constantsAlone 8)) = false := by rw [Bool.not_eq_true'] at f2; exact f2
        have l2 : py.line = px.line := (eq_of_beq hl).symm
        have hd : ([y, z].eraseDups.length != [y, z].length) = false := by
          have : (z == y) = false := beq_eq_false_iff_ne.mpr fun e => nyz e.symm
          simp [List.eraseDups_cons, this]
        unfold swappedStores
        simp only [hb, st, g1, g2, List.head?, List.filterMap, ky, kz, Expr.pos, l2]
        simp [nyz, List.eraseDups_cons, Ne.symm nyz]
        intro hh
        simp only [List.any_cons, List.any_nil, Bool.or_false, Bool.or_eq_false_iff] at st
        rcases hh with q | q
        · exact absurd (st.1.symm.trans q) (fun h => nomatch h)
        · exact absurd (st.2.symm.trans q) (fun h => nomatch h)
      exact ss_par (pos := p) ok (of_decide_eq_true m1) (of_decide_eq_true m2) (of_decide_eq_true m3) ly lz m7 m8 (ia X W _ ok.ok tk m12 m9) (ib X W _ ok.ok tk m13 m10) hw
    · cases h
  · cases h
omit inj in
theorem rs_setIx (i : Nat) {a e : E} (ia : RE NM B Φ Γ AT a) (ie : RE NM B Φ Γ AT e) : RS NM B Φ Γ AT (.setIx i a e) := fun X W st ok tk h => by
  unfold chS at h
  split at h
  · rename_i x v p hs
    cases stAsg_eq hs
    split at h
    · rename_i o ix hx
      obtain ⟨sp, rfl⟩ := asSub_eq hx
      split at h
      · rename_i y hy
        obtain ⟨q, rfl⟩ := asName_eq hy
        obtain ⟨h, m7⟩ := band h
        obtain ⟨h, m6⟩ := band h
        obtain ⟨h, m4⟩ := band h
        obtain ⟨h, m3⟩ := band h
        obtain ⟨m1, m2⟩ := band h
        have ps := ss_setIx (pos := p) (sp := sp) (varB_pv (p := q) m1 rfl rfl) m2 (ie X W _ ok.ok tk m7 m4) (ia X W _ ok.ok tk m6 m3) (show swapsWith v (some (.Subscript (.Name y q) ix sp)) p.line X.env = pure false from by cases v <;> rfl)
        refine ps_imp ps fun De σ H ⟨F, ρ, G, d, r, w, z⟩ => ⟨F, ρ, G, d, r, ?_, z⟩
        simp only [wpS] at w
        exact w
      · cases h
    · cases h
  · cases h
omit inj in
theorem asApp_eq {e : Expr} {x ap v p} (h : asApp e = some (x, ap, v, p)) : ∃ q, e = .Call (.Attribute (.Name x q) "append" ap) [v] [] p := by
  unfold asApp at h
  split at h
  · split at h
    · rename_i hm
      cases h
      subst hm
      exact ⟨_, rfl⟩
    · cases h
  · cases h
omit inj in
theorem rs_app (i : Nat) {e : E} (ie : RE NM B Φ Γ AT e) : RS NM B Φ Γ AT (.app i e) := fun X W st ok tk h => by
  unfold chS at h
  split at h
  · rename_i x hs
    obtain ⟨ep, rfl⟩ := stExp_eq hs
    split at h
    · rename_i y ap v p hx
      obtain ⟨q, rfl⟩ := asApp_eq hx
      obtain ⟨h, m5⟩ := band h
      obtain ⟨h, m4⟩ := band h
      obtain ⟨h, m3⟩ := band h
      obtain ⟨m1, m2⟩ := band h
      have ps := ss_app (pos := p) (ep := ep) (varB_pv (p := q) m1 rfl rfl) m2 (ie X W _ ok.ok tk m5 m3) m4
      refine ps_imp ps fun De σ H ⟨F, ρ, G, d, r, w, z⟩ => ⟨F, ρ, G, d, r, ?_, z⟩
      simp only [wpS] at w
      exact w
    · cases h
  · cases h
omit inj in
theorem rs_aug (i : Nat) (o : Bop) {e : E} (ie : RE NM B Φ Γ AT e) : RS NM B Φ Γ AT (.aug i o e) := fun X W st ok tk h => by
  unfold chS at h
  split at h
  · rename_i x op v hs
    obtain ⟨p, rfl⟩ := stAug_eq hs
    split at h
    · rename_i y hy
      obtain ⟨q, rfl⟩ := asName_eq hy
      obtain ⟨h, m5⟩ := band h
      obtain ⟨h, m4⟩ := band h
      obtain ⟨h, m3⟩ := band h
      obtain ⟨m1, m2⟩ := band h
      have ps := ss_aug (pos := p) (p := q) ok m4 (of_decide_eq_true m1) (locB_loc (X := X) m2 ok.tg).1 (ie X W _ ok.ok tk m5 m3)
      refine ps_imp ps fun De σ H ⟨F, ρ, G, d, r, w, z⟩ => ⟨F, ρ, G, d, r, ?_, z⟩
      simp only [wpS] at w
      exact w
    · cases h
  · cases h
theorem rs_fld (i f : Nat) {e : E} (ie : RE NM B Φ Γ AT e) : RS NM B Φ Γ AT (.fld i f e) := fun X W st ok tk h => by
  unfold chS at h
  split at h
  · rename_i x v p hs
    cases stAsg_eq hs
    split at h
    · rename_i o n hx
      obtain ⟨ap, rfl⟩ := asAtr_eq hx
      split at h
      · rename_i y hy
        obtain ⟨q, rfl⟩ := asName_eq hy
        obtain ⟨h, m5⟩ := band h
        obtain ⟨h, m3⟩ := band h
        obtain ⟨m1, m2⟩ := band h
        have ps := ss_fld inj (pos := p) (ap := ap) ok (varB_pv (p := q) m1 rfl rfl) (of_decide_eq_true m2) (ie X W _ ok.ok tk m5 m3) (by cases v <;> rfl)
        refine ps_imp ps fun De σ H ⟨F, ρ, G, d, r, w, z⟩ => ⟨F, ρ, G, d, r, ?_, z⟩
        simp only [wpS] at w
        exact w
      · cases h
    · cases h
  · cases h
omit inj in
theorem rs_exp {e : E} (ie : RE NM B Φ Γ AT e) : RS NM B Φ Γ AT (.exp e) := fun X W st ok tk h => by
  unfold chS at h
  split at h
  · rename_i x hs
    obtain ⟨p, rfl⟩ := stExp_eq hs
    obtain ⟨h, m3⟩ := band h
    obtain ⟨m1, m2⟩ := band h
    exact ss_exp (pos := p) (ie X W _ ok.ok tk m3 m1) (noLc_swaps m2)
  · cases h
omit inj in
theorem rs_ret {e : E} (ie : RE NM B Φ Γ AT e) : RS NM B Φ Γ AT (.ret e) := fun X W st ok tk h => by
  unfold chS at h
  split at h
  · rename_i x hs
    obtain ⟨p, rfl⟩ := stRet_eq hs
    obtain ⟨m1, m2⟩ := band h
    exact ss_ret (pos := p) (ie X W _ ok.ok tk m2 m1)
  · cases h
omit inj in
theorem rs_retN : RS NM B Φ Γ AT .retN := fun X W st ok tk h => by
  unfold chS at h
  split at h
  · rename_i hs
    obtain ⟨p, rfl⟩ := stRet_eq hs
    exact ss_retN
  · cases h
omit inj in
theorem rs_ite {c : T} {a b : List S} (ic : RT NM B Φ Γ AT c) (ia : RSs NM B Φ Γ AT a) (ib : RSs NM B Φ Γ AT b) : RS NM B Φ Γ AT (.ite c a b) := fun X W st ok tk h => by
  unfold chS at h
  split at h
  · rename_i x y z hs
    obtain ⟨p, rfl⟩ := stIf_eq hs
    obtain ⟨h, m3⟩ := band h
    obtain ⟨m1, m2⟩ := band h
    exact ss_ite (ic X W _ ok.ok tk m1) (ia X W _ ok tk m2) (ib X W _ ok tk m3)
  · cases h
omit inj in
theorem rs_for (t : Tg) {it : It} {b : List S} (ii : RI NM B Φ Γ AT it) (ib : RSs NM B Φ Γ AT b) : RS NM B Φ Γ AT (.for_ t it b) := fun X W st ok tk h => by
  unfold chS at h
  split at h
  · rename_i x y z hs
    obtain ⟨p, rfl⟩ := stFor_eq hs
    obtain ⟨h, m5⟩ := band h
    obtain ⟨h, m4⟩ := band h
    obtain ⟨h, m3⟩ := band h
    obtain ⟨m1, m2⟩ := band h
    exact ss_for ok ((ii X W x y ok.ok tk m3).2 fun a e => by subst e; exact m2) (sg ok.ok ok.tg t x m4) (ib X W _ ok tk m5) (foldGood m1)
  · cases h
omit inj in
theorem rs_whl {c : T} {b : List S} (ic : RT NM B Φ Γ AT c) (ib : RSs NM B Φ Γ AT b) : RS NM B Φ Γ AT (.whl c b) := fun X W st ok tk h => by
  unfold chS at h
  split at h
  · rename_i x z hs
    obtain ⟨p, rfl⟩ := stWhl_eq hs
    obtain ⟨m1, m2⟩ := band h
    exact ss_whl ok (ic X W _ ok.ok tk m1) (ib X W _ ok tk m2)
  · cases h
omit inj in
theorem rs_raise (c g : Nat) (st : Bool) {e : E} (ie : RE NM B Φ Γ AT e) : RS NM B Φ Γ AT (.raise c g st e) := fun X W s ok tk h => by
  unfold chS at h
  split at h
  · rename_i x y hs
    obtain ⟨p1, p2, p3, rfl⟩ := stRai_eq hs
    obtain ⟨h, m6⟩ := band h
    obtain ⟨h, m5⟩ := band h
    obtain ⟨h, m4⟩ := band h
    obtain ⟨h, m3⟩ := band h
    obtain ⟨m1, m2⟩ := band h
    cases of_decide_eq_true m1
    obtain ⟨g1, g2⟩ := gloB_gl (X := X) m3 rfl
    have ps := ss_raise (p := p1) (pos := p2) (rp := p3) (W := W) ok.ok tk (of_decide_eq_true m2) g1 g2 (ie X W _ ok.ok tk m6 m5) m4
    refine ps_imp ps fun De σ H ⟨F, ρ, G, d, r, w, z⟩ => ⟨F, ρ, G, d, r, ?_, z⟩
    simp only [wpS] at w
    exact w
  · cases h
omit inj in
theorem rs_raise0 (c : Nat) : RS NM B Φ Γ AT (.raise0 c) := fun X W s ok tk h => by
  unfold chS at h
  split at h
  · rename_i x y hs
    obtain ⟨p1, p2, p3, rfl⟩ := stRai_eq hs
    obtain ⟨h, m4⟩ := band h
    obtain ⟨h, m3⟩ := band h
    obtain ⟨m1, m2⟩ := band h
    cases of_decide_eq_true m1
    obtain ⟨m, j, p, rfl⟩ := strC_eq m4
    obtain ⟨g1, g2⟩ := gloB_gl (X := X) m3 rfl
    have ps := ss_raise0 (p := p1) (pos := p2) (rp := p3) (m := m) (j := j) (p2 := p) (W := W) ok.ok tk (of_decide_eq_true m2) g1 g2
    refine ps_imp ps fun De σ H ⟨F, ρ, G, d, r, w, z⟩ => ⟨F, ρ, G, d, r, ?_, z⟩
    simp only [wpS] at w
    exact w
  · cases h
theorem rs_try {b : List S} (hs : List Hx) (ib : RSs NM B Φ Γ AT b) : RS NM B Φ Γ AT (.try_ b hs) := fun X W s ok tk h => by
  unfold chS at h
  split at h
  · rename_i b' h0 es hst
    obtain ⟨p, rfl⟩ := stTry_eq hst
    obtain ⟨m1, m2⟩ := band h
    have ps := ss_try (pos := p) (W := W) inj ok tk (fun W' pn xe ok' tk' => ib (X.tr pn xe) W' b' ok' tk' m1) m2
    refine ps_imp ps fun De σ H ⟨F, ρ, G, d, r, w, z⟩ => ⟨F, ρ, G, d, r, ?_, z⟩
    simp only [wpS] at w
    exact w
  · cases h
mutual
theorem snS : ∀ i : S, RS NM B Φ Γ AT i
  | .frz i => rs_frz inj i
  | .asg t e => rs_asg inj t e
  | .new i e => rs_new inj i e
  | .par i j a b => rs_par i j (snE inj a) (snE inj b)
  | .setIx i a e => rs_setIx i (snE inj a) (snE inj e)
  | .app i e => rs_app i (snE inj e)
  | .aug i o e => rs_aug i o (snE inj e)
  | .fld i f e => rs_fld inj i f (snE inj e)
  | .exp e => rs_exp (snE inj e)
  | .ret e => rs_ret (snE inj e)
  | .retN => rs_retN
  | .ite c a b => rs_ite (snT inj c) (snSs a) (snSs b)
  | .for_ t it b => rs_for t (snI inj it) (snSs b)
  | .whl c b => rs_whl (snT inj c) (snSs b)
  | .brk => fun X W st ok tk h => by
    unfold chS at h
    split at h
    · exact ss_brk
    · cases h
  | .cnt => fun X W st ok tk h => by
    unfold chS at h
    split at h
    · exact ss_cnt
    · cases h
  | .pas => fun X W st ok tk h => by
    unfold chS at h
    split at h
    · exact ss_pas
    · cases h
  | .nev => fun X W st ok tk h => ss_nev
  | .raise c g st e => rs_raise c g st (snE inj e)
  | .raise0 c => rs_raise0 c
  | .try_ b hs => rs_try inj hs (snSs b)
theorem snSs : ∀ is : List S, RSs NM B Φ Γ AT is
  | [] => fun X W st ok tk h => by
    cases st with
    | nil => exact ss_nil
    | cons _ _ => unfold chSs at h; cases h
  | s :: r => fun X W st ok tk h => by
    by_cases hf : ∃ i, s = .frz i
    · obtain ⟨i, rfl⟩ := hf
      have h' : chSs NM X.N B Φ Γ r X.env.scope st = true := by
        cases st <;> (unfold chSs at h; exact h)
      have := ss_frz i (snSs r X W st ok tk h')
      refine pss_imp this fun De σ H ⟨F, ρ, G, d, q, w, z⟩ => ⟨F, ρ, G, d, q, ?_, z⟩
      simp only [wpSs, wpS] at w
      exact w
    · cases st with
      | nil =>
        unfold chSs at h
        cases s <;> first | cases h | exact absurd ⟨_, rfl⟩ hf
      | cons t ts =>
        have h' : (chS NM X.N B Φ Γ s X.env.scope t && chSs NM X.N B Φ Γ r X.env.scope ts) = true := by
          unfold chSs at h
          cases s <;> first | exact h | exact absurd ⟨_, rfl⟩ hf
        obtain ⟨m1, m2⟩ := band h'
        have := ss_cons (snS s X W t ok tk m1) (snSs r X W ts ok tk m2)
        refine pss_imp this fun De σ H ⟨F, ρ, G, d, q, w, z⟩ => ⟨F, ρ, G, d, q, ?_, z⟩
        simp only [wpSs] at w
        exact w
end
end
end Q
namespace Q
open PySem PySem.Spec L2
open PyProof.Rows (envOfC)
structure GE (P : Program) (w : World) (K : PySem.W.Frag) (mg : Str → Option Value) (NM : Nam) (B : List Str) (Γ : List (Str × D)) (AT : List (Nat × Nat)) : Prop where
  fre : ∀ x, x ∈ B → x ≠ "isqrt!" → mg x = none
  isq : ("isqrt!" : Str) ∈ B → mg "isqrt" = some (.builtin "math.isqrt")
  glo : ∀ (j : Nat) (p : Str × D), Γ[j]? = some p → ∃ v u, mg p.1 = some u ∧ RelV v u ∧ ∀ G, Rep NM K G v p.2
  atr : ∀ (p : Nat × Nat), p ∈ AT → Cls K (He.ga K (NM.cl p.1)) ∧ NoAttr K (He.ga K (NM.cl p.1)) (NM.at_ p.2)
  exs : ∀ p ∈ NM.exs, SiAll P K mg (He.ga K (NM.cl p.1)) (NM.at_ p.2.1) p.2.2 ∧ OexC K (He.ga K (NM.cl p.1)) ∧ mg (NM.cl p.1) = some (.ref (He.ga K (NM.cl p.1))) ∧ XfC K (He.ga K (NM.cl p.1))
  ex0 : ∀ c ∈ NM.ex0, PySem.W.excIn K (He.ga K (NM.cl c)) He.veBase "ValueError.__new__" = true ∧ PySem.W.keepIn K (.ref (He.ga K (NM.cl c))) = true ∧ PySem.W.subIn K (.ref (He.ga K (NM.cl c))) (.type "BaseException") = some true ∧ PySem.W.typeIn K (.ref (He.ga K (NM.cl c))) = some (.type "type") ∧ mg (NM.cl c) = some (.ref (He.ga K (NM.cl c)))
  kds : ∀ p ∈ NM.kds, ∃ es m, KDict K w (He.ga K p.1) es m
  sub : ∀ p ∈ NM.sub, SubOk K NM p ∧ mg (NM.cl p.2.1) = some (.ref (He.ga K (NM.cl p.2.1)))
  its : ∀ c ∈ NM.its, ItK K (He.ga K (NM.cl c))
section
variable (P : Program) (w : World) (K : PySem.W.Frag) (mg : Str → Option Value) (base : Heap) (NM : Nam)
structure CalE (k : Nat) (c : Cal) : Prop where
  df : c.mt = "" → c.bw.isEmpty = true → ∃ j f fd ps ds dvs, j + c.lv ≤ k ∧ FnOk P w K mg base (L2.CX P w) j f fd ps (LS NM K c.ar c.fs) ∧ (mg c.nm = some (.ref f) ∧ f = He.ga K c.nm) ∧ PySem.W.keepIn K (.ref f) = true ∧ Binds K fd ps ds ∧ Vals dvs ds ∧ ∀ G, Reps NM K G dvs c.dfl
  cl : c.mt = "__init__" → ∃ j f fd ps ds dvs, j + 1 ≤ k ∧ FnOk P w K mg base (L2.CX P w) j f fd ps (LI NM K (c.ar + 1) c.cls c.is) ∧ mg c.nm = some (.ref (He.ga K (NM.cl c.cls))) ∧ Mk K (He.ga K (NM.cl c.cls)) f ∧ Binds K fd ps ds ∧ Vals dvs ds ∧ ∀ G, Reps NM K G dvs c.dfl
  me : c.mt ≠ "" → c.mt ≠ "__init__" → c.bw.isEmpty = true → ∃ j f fd ps ds dvs, j ≤ k ∧ FnOk P w K mg base (L2.CX P w) j f fd ps (LS NM K c.ar c.fs) ∧ Cls K (He.ga K (NM.cl c.cls)) ∧ Meth K (He.ga K (NM.cl c.cls)) c.mt f ∧ Binds K fd ps ds ∧ Vals dvs ds ∧ ∀ G, Reps NM K G dvs c.dfl
  dfb : c.mt = "" → c.bw.isEmpty = false → ∃ j f fd ps ds dvs, j ≤ k ∧ FnOk P w K mg base (L2.CX P w) j f fd ps (LSB NM K c.ar c.bw c.fs) ∧ (mg c.nm = some (.ref f) ∧ f = He.ga K c.nm) ∧ PySem.W.keepIn K (.ref f) = true ∧ Binds K fd ps ds ∧ Vals dvs ds ∧ ∀ G, Reps NM K G dvs c.dfl
  meb : c.mt ≠ "" → c.mt ≠ "__init__" → c.bw.isEmpty = false → ∃ j f fd ps ds dvs, j ≤ k ∧ FnOk P w K mg base (L2.CX P w) j f fd ps (LSB NM K c.ar c.bw c.fs) ∧ Cls K (He.ga K (NM.cl c.cls)) ∧ Meth K (He.ga K (NM.cl c.cls)) c.mt f ∧ Binds K fd ps ds ∧ Vals dvs ds ∧ ∀ G, Reps NM K G dvs c.dfl
end
theorem CalE.mono {P : Program} {w : World} {K : PySem.W.Frag} {mg : Str → Option Value} {base : Heap} {NM : Nam} {k m : Nat} {c : Cal} (h : CalE P w K mg base NM k c) (hm : k ≤ m) : CalE P w K mg base NM m c where
  dfb := fun e e' => by
    obtain ⟨j, f, fd, ps, ds, dvs, hj, r⟩ := h.dfb e e'
    exact ⟨j, f, fd, ps, ds, dvs, Nat.le_trans hj hm, r⟩
  meb := fun e e' e2 => by
    obtain ⟨j, f, fd, ps, ds, dvs, hj, r⟩ := h.meb e e' e2
    exact ⟨j, f, fd, ps, ds, dvs, Nat.le_trans hj hm, r⟩
  df := fun e e' => by
    obtain ⟨j, f, fd, ps, ds, dvs, hj, r⟩ := h.df e e'
    exact ⟨j, f, fd, ps, ds, dvs, Nat.le_trans hj hm, r⟩
  cl := fun e => by
    obtain ⟨j, f, fd, ps, ds, dvs, hj, r⟩ := h.cl e
    exact ⟨j, f, fd, ps, ds, dvs, Nat.le_trans hj hm, r⟩
  me := fun e e' e2 => by
    obtain ⟨j, f, fd, ps, ds, dvs, hj, r⟩ := h.me e e' e2
    exact ⟨j, f, fd, ps, ds, dvs, Nat.le_trans hj hm, r⟩
def startR (n : Nat) (ds : List D) : Env := ds.map .val ++ List.replicate (n - ds.length) .un
section
variable {P : Program} {w : World} {K : PySem.W.Frag} {mg : Str → Option Value} {base : Heap} {NM : Nam} {B : List Str} {Φ : List Cal} {Γ : List (Str × D)} {AT : List (Nat × Nat)}
theorem ok_of {CXX : CXT} {N ps : List Str} {qual : Str} {scope : Scope} {f : Addr} {cd : Value} {A : Around} {outer : List PySem.Env} {s : Shared} {H : Hp} {E : XK} {k : Nat} (S : FnScope N ps scope) (hr : Room k (A.deeper (envOfC qual scope s.heap.objs.size f cd))) (ge : GE P w K mg NM B Γ AT) (ce : ∀ c ∈ Φ, CalE P w K mg base NM k c) (hk : NM.exs = [] ∨ 2 ≤ k) :
    Ok (cxOf (L2.CX P w) P w K mg base N qual scope f cd A outer s H E) NM B Φ Γ AT where
  calm := rfl
  nd := S.nd
  hu := by have := hr.un; show (A.deeper (envOfC qual scope s.heap.objs.size f cd)).units + 65 < cLine; omega
  fre := ge.fre
  isq := ge.isq
  glo := ge.glo
  dfb := fun c hc h h2 => by
    obtain ⟨j, f, fd, ps, ds, dvs, hj, a, b, c, d, e, g⟩ := (ce c hc).dfb h h2
    exact ⟨j, f, fd, ps, ds, dvs, a, hr.mono hj, b, c, d, e, g⟩
  meb := fun c hc h h' h2 => by
    obtain ⟨j, f, fd, ps, ds, dvs, hj, a, b, c, d, e, g⟩ := (ce c hc).meb h h' h2
    exact ⟨j, f, fd, ps, ds, dvs, a, hr.mono hj, b, c, d, e, g⟩
  dfs := fun c hc h h2 => by
    obtain ⟨j, f, fd, ps, ds, dvs, hj, a, b, c, d, e, g⟩ := (ce c hc).df h h2
    exact ⟨j, f, fd, ps, ds, dvs, a, hr.mono hj, b, c, d, e, g⟩
  cls := fun c hc h => by
    obtain ⟨j, f, fd, ps, ds, dvs, hj, a, b, c, d, e, g⟩ := (ce c hc).cl h
    exact ⟨j, f, fd, ps, ds, dvs, a, hr.mono hj, b, c, d, e, g⟩
  met := fun c hc h h' h2 => by
    obtain ⟨j, f, fd, ps, ds, dvs, hj, a, b, c, d, e, g⟩ := (ce c hc).me h h' h2
    exact ⟨j, f, fd, ps, ds, dvs, a, hr.mono hj, b, c, d, e, g⟩
  atr := ge.atr
  exs := fun p hp => by
    obtain ⟨⟨f, cc, cda, fd, sn, xn, a, b, S, d⟩, e, g, x⟩ := ge.exs p hp
    have h2 : 2 ≤ k := by
      rcases hk with z | z
      · rw [z] at hp
        cases hp
      · exact z
    exact ⟨1, f, fd, [sn, xn], e, a, b, fn_si (w := w) (base := base) (k := 0) S, hr.mono h2, d, g, S.noat, x⟩
  ex0 := fun c hc => by
    obtain ⟨a, b, d, e, g⟩ := ge.ex0 c hc
    exact ⟨a, b, raises_own d e, g⟩
  kds := ge.kds
  sub := ge.sub
  its := ge.its
theorem oks_of {N ps : List Str} {qual : Str} {scope : Scope} {f : Addr} {cd : Value} {A : Around} {outer : List PySem.Env} {s : Shared} {H : Hp} {E : XK} {k : Nat} (S : FnScope N ps scope) (hr : Room k (A.deeper (envOfC qual scope s.heap.objs.size f cd))) (ge : GE P w K mg NM B Γ AT) (ce : ∀ c ∈ Φ, CalE P w K mg base NM k c) (hk : NM.exs = [] ∨ 2 ≤ k) :
    OkS (cxOf (L2.CX P w) P w K mg base N qual scope f cd A outer s H E) NM B Φ Γ AT where
  ok := ok_of S hr ge ce hk (CXX := L2.CX P w)
  kind := S.kind
  fn := fun _ => rfl
  po := passes_of (X := cxOf (L2.CX P w) P w K mg base N qual scope f cd A outer s H E) rfl
  stk := rfl
  frm := rfl
theorem start_val {G : Hp} {vs : List V} {ds : List D} (r : Reps NM K G vs ds) {n i : Nat} {s : Sl} {o : Option V} (h1 : (startR n ds)[i]? = some s) (h2 : (vs.map some ++ List.replicate (n - vs.length) (none : Option V))[i]? = some o) : s = .un ∨ ∃ v d, s = .val d ∧ o = some v ∧ Rep NM K G v d := by
  have hl := r.len
  unfold startR at h1
  by_cases hi : i < ds.length
  · rw [List.getElem?_append_left (by rw [List.length_map]; exact hi), List.getElem?_map] at h1
    rw [List.getElem?_append_left (by rw [List.length_map]; omega), List.getElem?_map] at h2
    obtain ⟨v, q1, q2⟩ := r.get (List.getElem?_eq_getElem hi)
    rw [List.getElem?_eq_getElem hi] at h1
    rw [q1] at h2
    cases h1
    cases h2
    exact .inr ⟨v, _, rfl, rfl, q2⟩
  · rw [List.getElem?_append_right (by rw [List.length_map]; omega), List.getElem?_replicate] at h1
    split at h1
    · cases h1
      exact .inl rfl
    · cases h1
theorem r_start {N : List Str} {G H : Hp} {vs : List V} {ds : List D} (r : Reps NM K G vs ds) (s : Same G H) : R NM K ⟨H, G, fun _ => False⟩ (startR N.length ds) G (L2.start N vs) H where
  len := by
    unfold startR L2.start
    rw [List.length_append, List.length_append, List.length_map, List.length_map, List.length_replicate, List.length_replicate, r.len]
  sub := s
  gg := .refl _
  keep := fun b o h _ => h
  md := fun b h => h.elim
  sep := fun b _ h => h
  sl := fun i s o h1 h2 => by
    rcases start_val r h1 h2 with rfl | ⟨v, d, rfl, rfl, h⟩
    · trivial
    · exact ⟨v, rfl, h⟩
  dis := fun i j s t o u a _ h1 _ h3 _ h5 _ => by
    rcases start_val r h1 h3 with rfl | ⟨v, d, rfl, rfl, h⟩
    · exact h5.2
    · exact h5.2
theorem def_ok {x qual : Str} {params : Arguments} {body : List Stmt} {scope : Scope} {dvs : List V} {kws : List (Str × V)} {f : Addr} {fd : FuncData} {N ps : List Str} {k : Nat} {fs : FS} {is : List S} (inj : ∀ i j, NM.at_ i = NM.at_ j → i = j)
    (Fd : FunD K x qual params body scope dvs kws f fd) (S : FnScope N ps scope) (ge : GE P w K mg NM B Γ AT) (ce : ∀ c ∈ Φ, CalE P w K mg base NM k c) (hc : chSs NM N B Φ Γ is scope body = true)
    (hw : ∀ ds kd kx, ds.length = ps.length → fs ds kd kx → wpSs NM AT Φ Γ is (startR N.length ds) { nx := fun _ => kd .non, rt := kd, bk := fun _ => False, ct := fun _ => False, er := fun x _ => kx x }) (hk : NM.exs = [] ∨ 2 ≤ k := by first | exact .inl rfl | exact .inr (by decide)) :
    FnOk P w K mg base (L2.CX P w) (k + 1) f fd ps (LS NM K ps.length fs) := by
  refine Fd.ok S (fun vs H Q E ⟨_, _, _, _, _, _, h, _⟩ => h) fun cdv A outer s H vs Q E hr hsp => ?_
  obtain ⟨G, ds, kd, kx, sub, rp, hl, hf, h1, h2⟩ := hsp
  have ok := oks_of (E := E) (outer := outer) (H := H) S hr ge ce hk
  have tk : Takes (cxOf (L2.CX P w) P w K mg base N qual scope f cdv A outer s H E) (fun cls d _ H => E cls d H) := takes_of (E₁ := fun e' s'' => L2.CX P w outer H s E e' s'') rfl rfl rfl rfl
  refine ⟨_, snSs inj is _ _ body ok tk hc, ⟨H, G, fun _ => False⟩, startR N.length ds, G, _, r_start rp sub, hw ds kd kx (by rw [← rp.len]; exact hl) hf, ?_, ?_, ?_, ?_, ?_⟩
  · intro ρ' G' σ' H' r g q
    exact h1 .non G' H' .non ⟨fun b o z => r.keep b o z (fun m => m), r.gg, r.sub, r.sep⟩ .non q
  · intro ρ' G' σ' H' r g q
    exact q.elim
  · intro ρ' G' σ' H' r g q
    exact q.elim
  · intro v e ρ' G' σ' H' r g rv q
    exact h1 v G' H' e ⟨fun b o z => r.keep b o z (fun m => m), r.gg, r.sub, r.sep⟩ rv q
  · intro cls dx ρ' G' σ' H' x r g rx q
    exact h2 cls dx G' H' x ⟨fun b o z => r.keep b o z (fun m => m), r.gg, r.sub, r.sep⟩ rx q
def slF : List Bool → List D → List Sl
  | _, [] => []
  | fl, d :: ds => (if fl.headD false = true then .lok d else .val d) :: slF fl.tail ds
def startB (n : Nat) (fl : List Bool) (ds : List D) : Env := slF fl ds ++ List.replicate (n - ds.length) .un
theorem slF_len : ∀ {fl : List Bool} {ds : List D}, (slF fl ds).length = ds.length
  | _, [] => rfl
  | fl, d :: ds => congrArg Nat.succ slF_len
theorem slF_get {F : Fr} {G H : Hp} (hF : F.H_0 = H) (hM : ∀ b, ¬ F.M b) : ∀ {fl : List Bool} {vs : List V} {ds : List D} {i : Nat} {s : Sl} {o : Option V}, RepFs NM K G H fl vs ds → (slF fl ds)[i]? = some s → (vs.map some)[i]? = some o → SlOk NM K F G H s o ∧ ∀ a, ¬ ownAt s o a
  | _, [], [], i, s, o, _, h, _ => by cases i <;> cases h
  | _, [], _ :: _, _, _, _, h, _, _ => h.elim
  | _, _ :: _, [], _, _, _, h, _, _ => h.elim
  | fl, v :: vs, d :: ds, 0, s, o, h, h1, h2 => by
    cases h2
    have h0 := h.1
    have e : s = if fl.headD false = true then .lok d else .val d := (Option.some.inj h1).symm
    subst e
    by_cases z : fl.headD false = true
    · rw [if_pos z] at h0 ⊢
      refine ⟨⟨v, rfl, ?_⟩, fun a q => q.2⟩
      cases h0 with
      | frz r => exact .frz r
      | own k1 k2 k3 k4 => exact .own k1 k2 (by rw [hF, k1]; exact fun z => nomatch z) (hM _) k3 k4
      | obj k1 k2 k3 k4 => exact .obj k1 k2 k3 (by rw [hF, k1]; exact fun z => nomatch z) (hM _) k4
    · rw [if_neg z] at h0 ⊢
      exact ⟨⟨v, rfl, h0⟩, fun a q => q.2⟩
  | fl, v :: vs, d :: ds, i + 1, s, o, h, h1, h2 => slF_get hF hM (fl := fl.tail) (vs := vs) (ds := ds) (i := i) h.2 h1 h2
theorem startB_get {F : Fr} {G H : Hp} (hF : F.H_0 = H) (hM : ∀ b, ¬ F.M b) {fl : List Bool} {vs : List V} {ds : List D} {n i : Nat} {s : Sl} {o : Option V} (r : RepFs NM K G H fl vs ds) (h1 : (startB n fl ds)[i]? = some s) (h2 : (vs.map some ++ List.replicate (n - vs.length) (none : Option V))[i]? = some o) : SlOk NM K F G H s o ∧ ∀ a, ¬ ownAt s o a := by
  have hl := r.len
  unfold startB at h1
  by_cases hi : i < ds.length
  · rw [List.getElem?_append_left (by rw [slF_len]; exact hi)] at h1
    rw [List.getElem?_append_left (by rw [List.length_map]; omega)] at h2
    exact slF_get hF hM r h1 h2
  · rw [List.getElem?_append_right (by rw [slF_len]; omega), List.getElem?_replicate] at h1
    split at h1
    · cases h1
      exact ⟨trivial, fun a q => q.2⟩
    · cases h1
theorem r_startB {N : List Str} {G H : Hp} {fl : List Bool} {vs : List V} {ds : List D} (r : RepFs NM K G H fl vs ds) (s : Same G H) : R NM K ⟨H, G, fun _ => False⟩ (startB N.length fl ds) G (L2.start N vs) H where
  len := by
    unfold startB L2.start
    rw [List.length_append, List.length_append, slF_len, List.length_map, List.length_replicate, List.length_replicate, r.len]
  sub := s
  gg := .refl _
  keep := fun b o h _ => h
  md := fun b h => h.elim
  sep := fun b _ h => h
  sl := fun i s o h1 h2 => (startB_get (F := ⟨H, G, fun _ => False⟩) rfl (fun _ z => z) r h1 h2).1
  dis := fun i j s t o u a _ h1 _ h3 _ h5 _ => (startB_get (F := ⟨H, G, fun _ => False⟩) rfl (fun _ z => z) r h1 h3).2 a h5
theorem def_okB {x qual : Str} {params : Arguments} {body : List Stmt} {scope : Scope} {dvs : List V} {kws : List (Str × V)} {f : Addr} {fd : FuncData} {N ps : List Str} {k : Nat} {fs : FS} {is : List S} {fl : List Bool} (inj : ∀ i j, NM.at_ i = NM.at_ j → i = j)
    (Fd : FunD K x qual params body scope dvs kws f fd) (S : FnScope N ps scope) (ge : GE P w K mg NM B Γ AT) (ce : ∀ c ∈ Φ, CalE P w K mg base NM k c) (hc : chSs NM N B Φ Γ is scope body = true)
    (hw : ∀ ds kd kx, ds.length = ps.length → fs ds kd kx → wpSs NM AT Φ Γ is (startB N.length fl ds) { nx := fun _ => kd .non, rt := kd, bk := fun _ => False, ct := fun _ => False, er := fun x _ => kx x }) (hk : NM.exs = [] ∨ 2 ≤ k := by first | exact .inl rfl | exact .inr (by decide)) :
    FnOk P w K mg base (L2.CX P w) (k + 1) f fd ps (LSB NM K ps.length fl fs) := by
  refine Fd.ok S (fun vs H Q E ⟨_, _, _, _, _, _, h, _⟩ => h) fun cdv A outer s H vs Q E hr hsp => ?_
  obtain ⟨G, ds, kd, kx, sub, rp, hl, hf, h1, h2⟩ := hsp
  have ok := oks_of (E := E) (outer := outer) (H := H) S hr ge ce hk
  have tk : Takes (cxOf (L2.CX P w) P w K mg base N qual scope f cdv A outer s H E) (fun cls d _ H => E cls d H) := takes_of (E₁ := fun e' s'' => L2.CX P w outer H s E e' s'') rfl rfl rfl rfl
  refine ⟨_, snSs inj is _ _ body ok tk hc, ⟨H, G, fun _ => False⟩, startB N.length fl ds, G, _, r_startB rp sub, hw ds kd kx (by rw [← rp.len]; exact hl) hf, ?_, ?_, ?_, ?_, ?_⟩
  · intro ρ' G' σ' H' r g q
    exact h1 .non G' H' .non ⟨fun b o z => r.keep b o z (fun m => m), r.gg, r.sub, r.sep⟩ .non q
  · intro ρ' G' σ' H' r g q
    exact q.elim
  · intro ρ' G' σ' H' r g q
    exact q.elim
  · intro v e ρ' G' σ' H' r g rv q
    exact h1 v G' H' e ⟨fun b o z => r.keep b o z (fun m => m), r.gg, r.sub, r.sep⟩ rv q
  · intro cls dx ρ' G' σ' H' x r g rx q
    exact h2 cls dx G' H' x ⟨fun b o z => r.keep b o z (fun m => m), r.gg, r.sub, r.sep⟩ rx q
def startI (n c : Nat) (ds : List D) : Env := .obj c [] [] :: startR (n - 1) ds
def initNx (c : Nat) (kd : List Nat → List D → Prop) : List Sl → Prop
  | .obj c' ks xs :: _ => c' = c ∧ kd ks xs
  | _ => False
end
end Q
namespace Q
open PySem PySem.Spec L2
def nameAt (l : List Str) (i : Nat) : Str := match l[i]? with
  | some s => s
  | none => ⟨#[0, i]⟩
def plainNm (s : Str) : Bool := match s.cps.toList with
  | 0 :: _ => false
  | _ => true
theorem nameAt_inj {l : List Str} (nd : l.Nodup) (pl : l.all plainNm = true) : ∀ i j, nameAt l i = nameAt l j → i = j := by
  intro i j h
  have key : ∀ {a b : Nat} {s : Str}, l[a]? = some s → l[b]? = none → ¬ s = ⟨#[0, b]⟩ := fun {a b s} h1 h2 e => by
    have := List.all_eq_true.mp pl s (List.mem_of_getElem? h1)
    rw [e] at this
    cases this
  unfold nameAt at h
  cases hi : l[i]? with
  | some s =>
    cases hj : l[j]? with
    | some t =>
      rw [hi, hj] at h
      have e : s = t := h
      subst e
      obtain ⟨a1, a2⟩ := List.getElem?_eq_some_iff.mp hi
      obtain ⟨b1, b2⟩ := List.getElem?_eq_some_iff.mp hj
      exact (List.getElem_inj nd).mp (a2.trans b2.symm)
    | none =>
      rw [hi, hj] at h
      exact absurd h (key hi hj)
  | none =>
    cases hj : l[j]? with
    | some t =>
      rw [hi, hj] at h
      exact absurd h.symm (key hj hi)
    | none =>
      rw [hi, hj] at h
      injection h with h
      simpa using h
mutual
def isD (K : PySem.W.Frag) : D → Value → Bool
  | .non, .none => true
  | .bl b, .bool c => b == c
  | .int i, .int j _ => decide (i = j)
  | .str s, .str t _ => decide (s = t)
  | .tup ds, .ref a => (match K.lookup a with
    | some ⟨.type c, _, .seq its _, _⟩ => decide (c = "tuple") && decide (its.size ≤ sizeLine) && isDs K ds its.toList
    | _ => false)
  | .ro ds, .ref a => (match K.lookup a with
    | some ⟨.type c, none, .seq its _, _⟩ => decide (c = "list") && decide (its.size ≤ sizeLine) && isDs K ds its.toList
    | _ => false)
  | .fn n, .ref a => decide (a = He.ga K n)
  | _, _ => false
def isDs (K : PySem.W.Frag) : List D → List Value → Bool
  | [], [] => true
  | d :: ds, u :: us => isD K d u && isDs K ds us
  | _, _ => false
end
section
variable {K : PySem.W.Frag} {NM : Nam}
mutual
theorem isD_ok : ∀ {d : D} {u : Value}, isD K d u = true → ∃ v, RelV v u ∧ ∀ G, Rep NM K G v d
  | .non, u, h => by
    cases u <;> first | (cases h; done) | exact ⟨.non, rfl, fun G => .non⟩
  | .bl b, u, h => by
    cases u <;> first | (cases h; done) | skip
    cases eq_of_beq h
    exact ⟨.bl b, rfl, fun G => .bl b⟩
  | .int i, u, h => by
    cases u <;> first | (cases h; done) | skip
    cases of_decide_eq_true h
    exact ⟨.int i, ⟨_, rfl⟩, fun G => .int i⟩
  | .str s, u, h => by
    cases u <;> first | (cases h; done) | skip
    cases of_decide_eq_true h
    exact ⟨.str s, ⟨_, rfl⟩, fun G => .str s⟩
  | .tup ds, u, h => by
    cases u <;> first | (cases h; done) | skip
    rename_i a
    unfold isD at h
    split at h
    · rename_i c _ its _ _ hk
      obtain ⟨h, h3⟩ := band h
      obtain ⟨h1, h2⟩ := band h
      obtain ⟨vs, r1, r2⟩ := isDs_ok h3
      have hz := of_decide_eq_true h2
      refine ⟨.ref a, rfl, fun G => .tup (.inr ⟨_, its, _, hk, congrArg Value.type (of_decide_eq_true h1), rfl, hz, r1⟩) ?_ (r2 G)⟩
      rw [r1.length, Array.length_toList]
      exact hz
    · cases h
  | .lst ds, u, h => by cases u <;> cases h
  | .ro ds, u, h => by
    cases u <;> first | (cases h; done) | skip
    rename_i a
    unfold isD at h
    split at h
    · rename_i c its _ _ hk
      obtain ⟨h, h3⟩ := band h
      obtain ⟨h1, h2⟩ := band h
      obtain ⟨vs, r1, r2⟩ := isDs_ok h3
      have hz := of_decide_eq_true h2
      refine ⟨.ref a, rfl, fun G => .ro (.inr ⟨_, its, _, hk, congrArg Value.type (of_decide_eq_true h1), rfl, rfl, hz, r1⟩) ?_ (r2 G)⟩
      rw [r1.length, Array.length_toList]
      exact hz
    · cases h
  | .ins _ _ _, u, h => by cases u <;> cases h
  | .ty _, u, h => by cases u <;> cases h
  | .fn n, u, h => by
    cases u <;> first | (cases h; done) | skip
    rename_i a
    have e : a = He.ga K n := of_decide_eq_true h
    subst e
    exact ⟨.ref _, rfl, fun G => .fn n⟩
  | .kd _ _ _, u, h => by cases u <;> cases h
theorem isDs_ok : ∀ {ds : List D} {us : List Value}, isDs K ds us = true → ∃ vs, Vals vs us ∧ ∀ G, Reps NM K G vs ds
  | [], [], _ => ⟨[], .nil, fun G => .nil⟩
  | [], _ :: _, h => by cases h
  | _ :: _, [], h => by cases h
  | d :: ds, u :: us, h => by
    unfold isDs at h
    obtain ⟨h1, h2⟩ := band h
    obtain ⟨v, a1, a2⟩ := isD_ok h1
    obtain ⟨vs, b1, b2⟩ := isDs_ok h2
    exact ⟨v :: vs, .cons a1 b1, fun G => .cons (a2 G) (b2 G)⟩
end
end
def kdB (K : PySem.W.Frag) (n : Str) (ds : List D) : Bool := match K.lookup (He.ga K n) with
  | some ⟨_, _, .dict es _, _⟩ => isDs K ds (es.toList.map (·.val))
  | _ => false
theorem nsIn_look {K : PySem.W.Frag} {f : Str → Int} : ∀ {l : List DictEntry} {ks : List Str}, l.map He.keyOf = ks.map (fun k => some (k, f k)) → ∀ z : Str,
    (match l.find? (·.key.isStr z) with
      | some e => some (some e.val)
      | none => if l.any (·.refKey) then none else some none) = some (lookS ks (l.map (·.val)) z) := by
  intro l
  induction l with
  | nil => intro ks h z; cases ks with | nil => rfl | cons _ _ => cases h
  | cons e r ih =>
    intro ks h z
    cases ks with
    | nil => cases h
    | cons k ks =>
      have h1 : He.keyOf e :: r.map He.keyOf = some (k, f k) :: ks.map (fun k => some (k, f k)) := h
      injection h1 with h2 h3
      have hk : ∃ t, e.key = .str k t := by
        unfold He.keyOf at h2
        split at h2
        · rename_i x t q
          obtain ⟨h5, _⟩ := Prod.mk.inj (Option.some.inj h2)
          exact ⟨t, by rw [q, h5]⟩
        · cases h2
      obtain ⟨t, ek⟩ := hk
      have e1 : e.key.isStr z = decide (k = z) := by
        rw [ek]
        show (k == z) = decide (k = z)
        by_cases q : k = z
        · subst q; simp
        · rw [decide_eq_false q]
          exact beq_eq_false_iff_ne.mpr q
      have e2 : e.refKey = false := by
        unfold DictEntry.refKey
        rw [ek]
      rw [List.find?_cons, List.any_cons, e1, e2]
      by_cases q : k = z
      · subst q
        simp [lookS]
      · rw [decide_eq_false q]
        have := ih h3 z
        simp only [Bool.false_or]
        rw [this]
        simp [lookS, q]
theorem kd_rep {K : PySem.W.Frag} {NM : Nam} {w : World} {n : Str} {ks : List Str} {ds : List D} (hm : (n, ks) ∈ NM.kds) (ht : He.dicW K (He.ga K n) = some (He.keysIn w.params ks)) (h : kdB K n ds = true) (G : Hp) : Rep NM K G (.ref (He.ga K n)) (.kd n ks ds) := by
  obtain ⟨es, m, D⟩ := He.dicW_ok ht
  unfold kdB at h
  rw [D.at_] at h
  obtain ⟨vs, r1, r2⟩ := isDs_ok (NM := NM) h
  have hk : es.toList.map He.keyOf = He.keysIn w.params ks := by
    unfold He.dicW at ht
    rw [D.at_] at ht
    simp only [D.low, Bool.not_false, Bool.and_true] at ht
    split at ht
    · exact Option.some.inj ht
    · cases ht
  refine .kd (us := es.toList.map (·.val)) hm ?_ (fun z => ?_) r1 (r2 G)
  · have := congrArg List.length hk
    unfold He.keysIn at this
    rw [List.length_map, List.length_map] at this
    rw [List.length_map]
    exact this.symm
  · unfold PySem.W.nsIn
    rw [D.at_]
    exact nsIn_look (K := K) (f := PyData.keyHash w.params) hk z
def gloD (p : Str × D) (K : PySem.W.Frag) : Bool := match PySem.W.nsIn K mainGlobals p.1 with
  | some (some u) => (match p.2 with
    | .kd n _ ds => (match u with
      | .ref a => decide (a = He.ga K n) && kdB K n ds
      | _ => false)
    | d => isD K d u)
  | _ => false
def kdN (NM : Nam) : D → Bool
  | .kd n ks _ => decide ((n, ks) ∈ NM.kds)
  | _ => true
def isqD (K : PySem.W.Frag) : Bool := match PySem.W.nsIn K mainGlobals "isqrt" with
  | some (some (.builtin b)) => decide (b = "math.isqrt")
  | _ => false
def gloX (K : PySem.W.Frag) (x : Str) : Bool := decide (PySem.W.nsIn K mainGlobals x = some (some (.ref (He.ga K x))))
def ekB (K : PySem.W.Frag) (C : Addr) : Bool := xfB K C && ((PySem.W.clsIn K C).isSome && (decide (PySem.W.findIn K (.ref C) "__class__" = some (some (.builtin "object.__class__"))) && (decide (PySem.W.specialIn K (.builtin "object.__class__") "__get__" = some (some (.builtin "getset_descriptor.__get__"))) &&
  (decide (PySem.W.takesIn K (.builtin "object.__class__") = some true) && (decide (PySem.W.mroIn K C (.type "object") = some true) && decide (PySem.W.kitOne K (.ref C) (.type "ValueError") = some true))))))
theorem ekB_ok {K : PySem.W.Frag} {C : Addr} (h : ekB K C = true) : ExK K C := by
  obtain ⟨h1, h⟩ := and2 h
  obtain ⟨h2, h⟩ := and2 h
  obtain ⟨h3, h⟩ := and2 h
  obtain ⟨h4, h⟩ := and2 h
  obtain ⟨h5, h⟩ := and2 h
  obtain ⟨h6, h7⟩ := and2 h
  exact ⟨xfB_ok h1, h2, of_decide_eq_true h3, of_decide_eq_true h4, of_decide_eq_true h5, of_decide_eq_true h6, of_decide_eq_true h7⟩
def itB (K : PySem.W.Frag) (C : Addr) : Bool := PySem.W.plainGet K C Str.empty && (PySem.W.hasDictIn K C && (PySem.W.plainOver K C && (decide (PySem.W.findIn K (.ref C) "__setattr__" = some (some (.builtin "object.__setattr__"))) && (decide (PySem.W.findIn K (.ref C) "__class__" = some (some (.builtin "object.__class__"))) &&
  (decide (PySem.W.specialIn K (.builtin "object.__class__") "__get__" = some (some (.builtin "getset_descriptor.__get__"))) && (decide (PySem.W.takesIn K (.builtin "object.__class__") = some true) && (decide (PySem.W.mroIn K C (.type "object") = some true) && decide (PySem.W.kitOne K (.ref C) (.type "tuple") = some false))))))))
theorem itB_ok {K : PySem.W.Frag} {C : Addr} (h : itB K C = true) : ItK K C := by
  obtain ⟨h1, h⟩ := and2 h
  obtain ⟨h2, h⟩ := and2 h
  obtain ⟨h3, h⟩ := and2 h
  obtain ⟨h4, h⟩ := and2 h
  obtain ⟨h5, h⟩ := and2 h
  obtain ⟨h6, h⟩ := and2 h
  obtain ⟨h7, h⟩ := and2 h
  obtain ⟨h8, h9⟩ := and2 h
  exact ⟨⟨h1, h2, h3, of_decide_eq_true h4⟩, of_decide_eq_true h5, of_decide_eq_true h6, of_decide_eq_true h7, of_decide_eq_true h8, of_decide_eq_true h9⟩
def exsB (NM : Nam) (file : Str) (K : PySem.W.Frag) : Bool := (NM.exs.isEmpty || (decide (PySem.W.nsIn K mainGlobals "super" = some none) && decide (PySem.W.nsIn K mainGlobals "str" = some none))) &&
  ((NM.exs.all fun p => siB file (NM.cl p.1) (NM.at_ p.2.1) p.2.2 K && (xfB K (He.ga K (NM.cl p.1)) && gloX K (NM.cl p.1))) &&
  ((NM.ex0.all fun c => PySem.W.excIn K (He.ga K (NM.cl c)) He.veBase "ValueError.__new__" && (PySem.W.keepIn K (.ref (He.ga K (NM.cl c))) && (decide (PySem.W.subIn K (.ref (He.ga K (NM.cl c))) (.type "BaseException") = some true) && (decide (PySem.W.typeIn K (.ref (He.ga K (NM.cl c))) = some (.type "type")) && gloX K (NM.cl c))))) &&
  ((NM.sub.all fun p => ekB K (He.ga K (NM.cl p.1)) && (decide (PySem.W.exmOne K (.ref (He.ga K (NM.cl p.1))) (.ref (He.ga K (NM.cl p.2.1))) = some p.2.2) && (decide (PySem.W.kitOne K (.ref (He.ga K (NM.cl p.1))) (.ref (He.ga K (NM.cl p.2.1))) = some p.2.2) && gloX K (NM.cl p.2.1)))) &&
  NM.its.all fun c => itB K (He.ga K (NM.cl c)))))
def obsQ (fa : List He.Fa) (fn : List He.DefD) (fb : List (PySem.W.Frag → Bool)) (K : PySem.W.Frag) : He.AlD := ((He.obsD fa fn K).1 && fb.all fun f => f K, (He.obsD fa fn K).2)
def SaysQ (fa : List He.Fa) (fn : List He.DefD) (fb : List (PySem.W.Frag → Bool)) (K : PySem.W.Frag) : Prop := obsQ fa fn fb K = He.valD fn
def obsQG (as : List Addr) (fa : List He.Fa) (fn : List He.DefD) (fb : List (PySem.W.Frag → Bool)) (g : Addr → Option Obj) : He.AlD := obsQ fa fn fb (He.frG g as)
abbrev TabK : Type := List (Option (List (Option (Str × Int))))
def obsK (ts : List (Str × List Str)) (K : PySem.W.Frag) : TabK := ts.map fun t => He.dicW K (He.ga K t.1)
def valK (ts : List (Str × List Str)) (w : World) : TabK := ts.map fun t => some (He.keysIn w.params t.2)
def obsKG (as : List Addr) (fa : List He.Fa) (fn : List He.DefD) (fb : List (PySem.W.Frag → Bool)) (ts : List (Str × List Str)) (g : Addr → Option Obj) : He.AlD × TabK := (obsQG as fa fn fb g, obsK ts (He.frG g as))
def hookQ (as : List Addr) (fa : List He.Fa) (fn : List He.DefD) (fb : List (PySem.W.Frag → Bool)) (ts : List (Str × List Str)) : PySem.W.Hook where
  α := He.AlD × TabK
  obs := fun s => obsKG as fa fn fb ts s.heap.get?
  val := fun w => (He.valD fn, valK ts w)
  says := fun w h => ∃ K : PySem.W.Frag, K.In h ∧ SaysQ fa fn fb K ∧ obsK ts K = valK ts w
  of := fun _ _ e => ⟨_, He.frG_in, congrArg (fun z : He.AlD × TabK => z.1) e, congrArg (fun z : He.AlD × TabK => z.2) e⟩
  keeps := fun _ _ _ ⟨K, hK, c⟩ k => ⟨K, PySem.W.Frag.In.keeps hK k, c⟩
theorem obsQG_eq {as : List Addr} {fa : List He.Fa} {fn : List He.DefD} {fb : List (PySem.W.Frag → Bool)} {ts : List (Str × List Str)} {g : Addr → Option Obj} {s : Shared} (h : ∀ a, g a = s.heap.get? a) : obsKG as fa fn fb ts g = (hookQ as fa fn fb ts).obs s := by
  have e : g = s.heap.get? := funext h
  rw [e] <;> rfl
section
variable {fa : List He.Fa} {fn : List He.DefD} {fb : List (PySem.W.Frag → Bool)} {K : PySem.W.Frag}
theorem SaysQ.d (c : SaysQ fa fn fb K) : He.SaysD fa fn K := by
  have c' : obsQ fa fn fb K = He.valD fn := c
  unfold obsQ He.valD at c'
  have c1 := congrArg (fun z : He.AlD => z.1) c'
  have c2 := congrArg (fun z : He.AlD => z.2) c'
  have c1' := (band c1).1
  show He.obsD fa fn K = He.valD fn
  exact Prod.ext c1' c2
theorem SaysQ.b (c : SaysQ fa fn fb K) (i : Nat) {f : PySem.W.Frag → Bool} (h : fb[i]? = some f) : f K = true := by
  have c' : obsQ fa fn fb K = He.valD fn := c
  unfold obsQ He.valD at c'
  have c1 := congrArg (fun z : He.AlD => z.1) c'
  exact List.all_eq_true.mp (band c1).2 f (List.mem_of_getElem? h)
theorem SaysQ.aall (c : SaysQ fa fn fb K) : (fa.all fun f => f.ok K) = true := by
  have c1 := congrArg (fun z : He.AlD => z.1) (show He.obsD fa fn K = He.valD fn from c.d)
  exact (band c1).1
end
structure Hd (fa : List He.Fa) (fn : List He.DefD) (fb : List (PySem.W.Frag → Bool)) (ts : List (Str × List Str)) (w : World) (K : PySem.W.Frag) (mg : Str → Option Value) : Prop where
  says : SaysQ fa fn fb K
  tab : obsK ts K = valK ts w
  h : ∃ h : Heap, K.In h ∧ h.Ns mainGlobals mg
section
variable {fa : List He.Fa} {fn : List He.DefD} {fb : List (PySem.W.Frag → Bool)} {ts : List (Str × List Str)} {w : World} {K : PySem.W.Frag} {mg : Str → Option Value} {NM : Nam}
theorem Hd.glo (c : Hd fa fn fb ts w K mg) {x : Str} (i : Nat) (h : fa[i]? = some (.glo x) := by rfl) : mg x = some (.ref (He.ga K x)) := by
  obtain ⟨hp, a, b⟩ := c.h
  exact He.glo_ok a b (c.says.d.fact i h)
theorem Hd.def_ (c : Hd fa fn fb ts w K mg) (i : Nat) {d : He.DefD} (h : fn[i]? = some d := by rfl) : ∃ fd, FunD K d.name d.qual d.params d.body d.scope (d.dvs K) (d.kws K) (He.fAd K d.at_) fd := c.says.d.def_ i h
theorem tabK (c : Hd fa fn fb ts w K mg) {n : Str} {ks : List Str} (h : (n, ks) ∈ ts) : He.dicW K (He.ga K n) = some (He.keysIn w.params ks) := by
  have e := c.tab
  obtain ⟨i, hi⟩ := List.getElem?_of_mem h
  have e2 : (obsK ts K)[i]? = (valK ts w)[i]? := by rw [e]
  unfold obsK valK at e2
  rw [List.getElem?_map, List.getElem?_map, hi] at e2
  exact Option.some.inj e2
theorem Hd.ge (c : Hd fa fn fb NM.kds w K mg) {B : List Str} {Γ : List (Str × D)} {AT : List (Nat × Nat)} {P : Program} {file : Str}
    (hB : B.all (fun x => decide (x = "isqrt!") || fa.any fun f => match f with | .free y => decide (x = y) | _ => false) = true)
    (hI : ("isqrt!" : Str) ∈ B → isqD K = true) (hG : ∀ (p : Str × D), p ∈ Γ → gloD p K = true) (hN : Γ.all (fun p => kdN NM p.2) = true)
    (hA : AT.all (fun p => (fa.any fun f => match f with | .cls y => decide (NM.cl p.1 = y) | _ => false) && fa.any fun f => match f with | .noat y z => decide (NM.cl p.1 = y) && decide (NM.at_ p.2 = z) | _ => false) = true)
    (hE : exsB NM file K = true) (hP : NM.exs = [] ∨ ((P.main.file : Str) = file ∧ (P.main.scope.names.lookup ("super" : Str)).isSome = false)) : GE P w K mg NM B Γ AT := by
  obtain ⟨hp, a, b⟩ := c.h
  have A := List.all_eq_true.mp c.says.aall
  obtain ⟨E1, hE⟩ := and2 hE
  obtain ⟨E2, hE⟩ := and2 hE
  obtain ⟨E3, hE⟩ := and2 hE
  obtain ⟨E4, E5⟩ := and2 hE
  have gx : ∀ {x : Str}, gloX K x = true → mg x = some (.ref (He.ga K x)) := fun {x} h => PySem.W.mg_of a b (of_decide_eq_true h)
  refine ⟨fun x hx hn => ?_, fun hx => ?_, fun j p hj => ?_, fun p hp' => ?_, fun p hp' => ?_, fun c hc => ?_, fun p hp' => He.dicW_ok (tabK c hp'), fun p hp' => ?_, fun c hc => itB_ok (List.all_eq_true.mp E5 c hc)⟩
  · have q := List.all_eq_true.mp hB x hx
    rcases Bool.or_eq_true_iff.mp q with q | q
    · exact absurd (of_decide_eq_true q) hn
    · obtain ⟨f, hf, q⟩ := List.any_eq_true.mp q
      split at q
      · rename_i y
        cases of_decide_eq_true q
        exact He.free_ok a b (A _ hf)
      · cases q
  · have q := hI hx
    unfold isqD at q
    split at q
    · rename_i z hz
      cases of_decide_eq_true q
      exact PySem.W.mg_of a b hz
    · cases q
  · have q := hG p (List.mem_of_getElem? hj)
    unfold gloD at q
    split at q
    · rename_i u hu
      split at q
      · rename_i n ks ds he
        split at q
        · rename_i ad
          obtain ⟨q1, q2⟩ := band q
          cases of_decide_eq_true q1
          have hm : (n, ks) ∈ NM.kds := by
            have := List.all_eq_true.mp hN p (List.mem_of_getElem? hj)
            rw [he] at this
            exact of_decide_eq_true this
          refine ⟨.ref _, _, PySem.W.mg_of a b hu, rfl, fun G => ?_⟩
          rw [he]
          exact kd_rep hm (tabK c hm) q2 G
        · cases q
      · obtain ⟨v, r1, r2⟩ := isD_ok (NM := NM) q
        exact ⟨v, u, PySem.W.mg_of a b hu, r1, r2⟩
    · cases q
  · obtain ⟨q1, q2⟩ := band (List.all_eq_true.mp hA p hp')
    obtain ⟨f, hf, q1⟩ := List.any_eq_true.mp q1
    obtain ⟨g, hg, q2⟩ := List.any_eq_true.mp q2
    refine ⟨?_, ?_⟩
    · split at q1
      · rename_i y
        cases of_decide_eq_true q1
        exact He.cls_ok (A _ hf)
      · cases q1
    · split at q2
      · rename_i y z
        obtain ⟨e1, e2⟩ := band q2
        cases of_decide_eq_true e1
        cases of_decide_eq_true e2
        exact He.noat_ok (A _ hg)
      · cases q2
  · obtain ⟨q1, q⟩ := and2 (List.all_eq_true.mp E2 p hp')
    obtain ⟨q2, q3⟩ := and2 q
    have ne : NM.exs ≠ [] := fun z => by rw [z] at hp'; cases hp'
    have E1' : (decide (PySem.W.nsIn K mainGlobals "super" = some none) && decide (PySem.W.nsIn K mainGlobals "str" = some none)) = true := by
      rcases Bool.or_eq_true_iff.mp E1 with z | z
      · exact absurd (List.isEmpty_iff.mp z) ne
      · exact z
    obtain ⟨s1, s2⟩ := and2 E1'
    obtain ⟨p1, p2⟩ := hP.resolve_left ne
    exact ⟨siB_ok q1 p1 p2 (PySem.W.mg_none_of a b (of_decide_eq_true s1)) (PySem.W.mg_none_of a b (of_decide_eq_true s2)), oexB_ok (and2 (show siB _ _ _ _ K = true from q1)).1, gx q3, xfB_ok q2⟩
  · obtain ⟨q1, q⟩ := and2 (List.all_eq_true.mp E3 c hc)
    obtain ⟨q2, q⟩ := and2 q
    obtain ⟨q3, q⟩ := and2 q
    obtain ⟨q4, q5⟩ := and2 q
    exact ⟨q1, q2, of_decide_eq_true q3, of_decide_eq_true q4, gx q5⟩
  · obtain ⟨q1, q⟩ := and2 (List.all_eq_true.mp E4 p hp')
    obtain ⟨q2, q⟩ := and2 q
    obtain ⟨q3, q4⟩ := and2 q
    exact ⟨⟨ekB_ok q1, of_decide_eq_true q2, of_decide_eq_true q3⟩, gx q4⟩
end
def fsLaw : FS := fun ds k _ => ∃ ns : List Int, ds = [.ro (ns.map .int)] ∧ ns.length ≤ 63 ∧ (∀ z ∈ ns, Builtin.Int.intBits z ≤ 1048576) ∧ k (.bl true)
def spLaw (K : PySem.W.Frag) : Sp := fun vs H Q _ => ∃ (a : Addr) (ns : List Int), vs = [.ref a] ∧ SqL K H a (ns.map V.int) ∧ ns.length ≤ 63 ∧ (∀ z ∈ ns, Builtin.Int.intBits z ≤ 1048576) ∧ ∀ H', Q (.bl true) H'
theorem walk_q {l : PySem.W.OpenLaw} {n k : Nat} {q : Program} {loose : List Str} {XP : (Str → Option Value) → Heap → Prop} {YP : World → Heap → Prop} {d : DefRec} {CX : CXT} {x : Str}
    (hn : l.most = some n) (hn2 : n ≤ sizeLine) (hdf : d.params.defaults = []) (hr : Room k PySem.callerA)
    (F : ∀ (w : World) (mg : Str → Option Value) (fa : Addr) (h : Heap), YP w h → h.Ns mainGlobals mg → mg d.name = some (.ref fa) →
      ∃ (K : PySem.W.Frag) (fd : FuncData) (sp : Sp), K.In h ∧ (∀ (s : Shared) (u : Value), BindsTo s fd ⟨[u], []⟩ [(x, u)]) ∧
        (∀ (H : Hp) (a : Addr) (ns : List Int), ns.length ≤ n → (∀ z ∈ ns, Builtin.Int.intBits z ≤ 1048576) → SqL K H a (ns.map V.int) → sp [.ref a] H (fun v _ => v = .bl true) fun _ _ _ => False) ∧
        ∀ base : Heap, K.In base → base.Ns mainGlobals mg → FnOk l.prog w K mg base CX k fa fd [x] sp)
    (hCX : ∀ (H : Hp) (s : Shared) (e : Value) (s' : Shared), CX [] H s (fun _ _ _ => False) e s' → False) :
    PySem.W.WalkO q loose XP YP l.row.toRowW d [] (fun f vs => PySem.call f vs) := by
  refine Att.attach_callB hn hdf fun w s₀ s₁ mg mb fa o pm cd doc a vs ns G Y ho hd hcd hmg hobj hints hlen hbits hg => ?_
  obtain ⟨K, fd, sp, KX, hb, hsp, hF⟩ := F w mg fa _ Y G.T.g hmg
  exact law_call KX G.T.g G.T.b G.T.builtins G.T.nolimit hg hobj hints (Nat.le_trans hlen hn2) hr hF hb (fun H hO hS => hsp H a ns hlen hbits hS) fun H e s' => hCX H s₁ e s'
theorem law_ok {P : Program} {w : World} {K : PySem.W.Frag} {mg : Str → Option Value} {base : Heap} {NM : Nam} {k : Nat} {f : Addr} {fd : FuncData} {x : Str} (F : FnOk P w K mg base (L2.CX P w) k f fd [x] (LS NM K 1 fsLaw)) : FnOk P w K mg base CX0 k f fd [x] (spLaw K) := by
  refine ⟨fun vs H Q E ⟨_, _, h, _⟩ => by rw [h]; rfl, fun A outer s H args us vs Q E hr e0 hb hv hsp => ?_⟩
  obtain ⟨a, ns, rfl, hs, hl, hz, q⟩ := hsp
  refine codeAny_mono (F.run A outer s H args us _ (fun v H' => v = .bl true) (fun _ _ _ => False) hr e0 hb hv ⟨H, [.ro (ns.map .int)], fun d => d = .bl true, fun _ => False, .refl _, .cons (.ro hs (by rw [List.length_map, sizeLine_eq]; omega) .ints) .nil, rfl, ⟨ns, rfl, hl, hz, rfl⟩, fun v G' H' d _ r e => by subst e; cases r; rfl, fun _ _ _ _ _ _ _ z => z⟩) fun r s' hq => ?_
  cases r with
  | error e =>
    obtain ⟨_, _, _, _, _, _, _, _, _, _, _, _, z⟩ := hq
    exact z.elim
  | ok fl =>
    cases fl with
    | ret u =>
      obtain ⟨v, H', a1, a2, a3, a4, a5, e⟩ := hq
      subst e
      exact ⟨_, H', a1, a2, a3, a4, a5, q H'⟩
    | next => exact hq
    | brk => exact hq
    | cont => exact hq
end Q
namespace Q
open PySem PySem.Spec L2
section
open PySem.W HandSHeadRun
def RunA (r : OpenRow) (q : Program) (M : Nat) (loose : List PySem.Str) (w : World) : Prop :=
  ∀ os : OsState, (endF (stepQ (denQ tabQ) r.prog w) M r.prog w os).map (fun s => (looksF r.prog (boot_heap w.params) s.abs, seenQ q loose (importedModules r.prog.main.body) (fun s => xlAt q [] s && recOk r.toRowW.records s) s.abs)) = some (true, openGood q loose)
def RunC (r : OpenRow) (H : Hook) (ob : SharedT → H.α) (M : Nat) (w : World) : Prop :=
  ∀ os : OsState, (endF (stepQ (denQ tabQ) r.prog w) M r.prog w os).map ob = some (H.val w)
def RunIA (r : OpenRow) (q : Program) (M : Nat) (loose : List PySem.Str) (w : World) : Prop :=
  (wholeF (fun p => stepQ (denQ tabQ) p w) fenceQ M r.prog).map (fun x => (looksF r.prog x.1.heap x.2.abs, seenQ q loose (importedModules r.prog.main.body) (fun s => xlAt q [] s && recOk r.toRowW.records s) x.2.abs)) = some (true, openGood q loose)
def RunIC (r : OpenRow) (H : Hook) (ob : SharedT → H.α) (M : Nat) (w : World) : Prop :=
  (wholeF (fun p => stepQ (denQ tabQ) p w) fenceQ M r.prog).map (fun x => ob x.2) = some (H.val w)
end
end Q
namespace Q
open PySem PySem.Spec L2
def ATS0 : List Str := ["__init__", "ahead", "append", "at", "begin", "body", "box", "broken", "burns", "change", "claims", "contents", "craft", "craft_named", "crafts", "drift", "during", "earlier", "edit", "end", "ending", "fail", "fineness", "found", "get", "index", "join", "last", "line", "lines"]
def ATS1 : List Str := ["lstrip", "made", "moment", "moments", "mu", "name", "need", "numbers", "oblateness", "offset", "parts", "peek", "pieces", "pieces_of", "place", "pop", "position", "push", "replace", "row", "rows", "sightings", "sites", "speed", "split", "start", "startswith", "states", "stride", "take"]
def ATS2 : List Str := ["turn", "undo", "upper", "version", "word", "words"]
def ATS : List Str := ATS0 ++ ATS1 ++ ATS2
def CLS0 : List Str := ["BadArgument", "BadQuestion", "BadText", "BeforeStart", "Body", "Burn", "BurnsOverlap", "Catalogue", "Certificate", "Contents", "Course", "CourseLost", "CourseVoid", "Craft", "Journey", "Known", "Moment", "NoSuchBurn", "NoSuchCraft", "NoSuchSighting", "NoSuchSite", "NothingKnown", "OrreryError", "Piece", "Reader", "SavedReader", "Sighting", "Site", "State", "TooMany"]
def CLS : List Str := CLS0
def NM : Nam := { at_ := nameAt ATS, cl := nameAt CLS, exs := [], ex0 := [], sub := [], kds := [] }
theorem NMinj : ∀ i j, NM.at_ i = NM.at_ j → i = j := nameAt_inj (l := ATS) (by decide +kernel) (by decide +kernel)
def top (i : Nat) : Stmt := PySem.Challenge.pw_orrery_k48_whole_plans_weigh_most.main.body.getD i (.Pass ⟨0, 0, 0, 0⟩)
abbrev BB : List Str := ["int", "len", "range", "sorted", "list", "max"]
abbrev st_law_row : Stmt := top 19
def d_law_row : He.DefD := ⟨("_law_row", none), "_law_row", "_law_row", defArgs st_law_row, defBody st_law_row, defScope st_law_row, [], []⟩
abbrev st_law_contacts : Stmt := top 23
def d_law_contacts : He.DefD := ⟨("_law_contacts", none), "_law_contacts", "_law_contacts", defArgs st_law_contacts, defBody st_law_contacts, defScope st_law_contacts, [], []⟩
abbrev st_check : Stmt := top 5
def d_check : He.DefD := ⟨("check", none), "check", "check", defArgs st_check, defBody st_check, defScope st_check, [], []⟩
abbrev st_is_tick : Stmt := top 6
def d_is_tick : He.DefD := ⟨("is_tick", none), "is_tick", "is_tick", defArgs st_is_tick, defBody st_is_tick, defScope st_is_tick, [], []⟩
abbrev st_check_contacts : Stmt := top 10
def d_check_contacts : He.DefD := ⟨("check_contacts", none), "check_contacts", "check_contacts", defArgs st_check_contacts, defBody st_check_contacts, defScope st_check_contacts, [], []⟩
abbrev st_check_gap : Stmt := top 11
def d_check_gap : He.DefD := ⟨("check_gap", none), "check_gap", "check_gap", defArgs st_check_gap, defBody st_check_gap, defScope st_check_gap, [], []⟩
abbrev st_end_of : Stmt := top 14
def d_end_of : He.DefD := ⟨("end_of", none), "end_of", "end_of", defArgs st_end_of, defBody st_end_of, defScope st_end_of, [], []⟩
abbrev st_best_by : Stmt := top 13
def d_best_by : He.DefD := ⟨("best_by", none), "best_by", "best_by", defArgs st_best_by, defBody st_best_by, defScope st_best_by, [], []⟩
abbrev st_ready : Stmt := top 12
def d_ready : He.DefD := ⟨("ready", none), "ready", "ready", defArgs st_ready, defBody st_ready, defScope st_ready, [], []⟩
abbrev st_plan_table : Stmt := top 15
def d_plan_table : He.DefD := ⟨("plan_table", none), "plan_table", "plan_table", defArgs st_plan_table, defBody st_plan_table, defScope st_plan_table, [], []⟩
abbrev st_best_choice : Stmt := top 17
def d_best_choice : He.DefD := ⟨("best_choice", none), "best_choice", "best_choice", defArgs st_best_choice, defBody st_best_choice, defScope st_best_choice, [], []⟩
abbrev st_plan : Stmt := top 16
def d_plan : He.DefD := ⟨("plan", none), "plan", "plan", defArgs st_plan, defBody st_plan, defScope st_plan, [], []⟩
abbrev st_law_ready : Stmt := top 21
def d_law_ready : He.DefD := ⟨("_law_ready", none), "_law_ready", "_law_ready", defArgs st_law_ready, defBody st_law_ready, defScope st_law_ready, [], []⟩
abbrev st_law_apart : Stmt := top 22
def d_law_apart : He.DefD := ⟨("_law_apart", none), "_law_apart", "_law_apart", defArgs st_law_apart, defBody st_law_apart, defScope st_law_apart, [], []⟩
abbrev st_law_is_choice : Stmt := top 25
def d_law_is_choice : He.DefD := ⟨("_law_is_choice", none), "_law_is_choice", "_law_is_choice", defArgs st_law_is_choice, defBody st_law_is_choice, defScope st_law_is_choice, [], []⟩
abbrev st_law_sum : Stmt := top 20
def d_law_sum : He.DefD := ⟨("_law_sum", none), "_law_sum", "_law_sum", defArgs st_law_sum, defBody st_law_sum, defScope st_law_sum, [], []⟩
abbrev st_law_best : Stmt := top 24
def d_law_best : He.DefD := ⟨("_law_best", none), "_law_best", "_law_best", defArgs st_law_best, defBody st_law_best, defScope st_law_best, [], []⟩
abbrev st_law : Stmt := top 26
def d_law : He.DefD := ⟨("law", none), "law", "law", defArgs st_law, defBody st_law, defScope st_law, [], []⟩
def fn : List He.DefD := [d_law_row, d_law_contacts, d_check, d_is_tick, d_check_contacts, d_check_gap, d_end_of, d_best_by, d_ready, d_plan_table, d_best_choice, d_plan, d_law_ready, d_law_apart, d_law_is_choice, d_law_sum, d_law_best, d_law]
def fa : List He.Fa := [.glo "_law_row", .glo "_law_contacts", .glo "check", .glo "is_tick", .glo "check_contacts", .glo "check_gap", .glo "end_of", .glo "best_by", .glo "ready", .glo "plan_table", .glo "best_choice", .glo "plan", .glo "_law_ready", .glo "_law_apart", .glo "_law_is_choice", .glo "_law_sum", .glo "_law_best", .glo "law", .free "int", .free "len", .free "range", .free "sorted", .free "list", .free "max"]
def fb : List (PySem.W.Frag → Bool) := [gloD ("LAST_TICK", .int 100000), gloD ("MOST_WEIGHT", .int 1000000000000), gloD ("MOST_CONTACTS", .int 1000)]
def oth0 : List Str := ["OrreryError", "BadArgument", "LAST_TICK", "check", "is_tick", "MOST_CONTACTS", "MOST_WEIGHT", "check_contacts", "check_gap", "ready", "best_by", "end_of", "plan_table", "plan", "best_choice", "_law_row", "_law_sum", "_law_ready", "_law_apart", "_law_contacts"]
def oth1 : List Str := ["_law_best", "_law_is_choice"]
def oth : List Str := oth0 ++ oth1
abbrev RR : PySem.W.OpenRow := PySem.W.OpenLaw.row PySem.Challenge.rw_orrery_k48_whole_plans_weigh_most
def AS : List Addr := [3, 6, 4, 24, 46, 55, 62, 69, 76, 83, 90, 97, 104, 111, 118, 125, 132, 139, 146, 153, 158, 165, 172, 0, 23, 45, 54, 61, 68, 75, 82, 89, 96, 103, 110, 117, 124, 131, 138, 145, 152, 157, 164, 171, 22, 25, 43, 44, 49, 50, 51, 52, 53, 56, 57, 58, 59, 60, 63, 64, 65, 66, 67, 70, 71, 72, 73, 74, 77, 78, 79, 80, 81, 84, 85, 86, 87, 88, 91, 92, 93, 94, 95, 98, 99, 100, 101, 102, 105, 106, 107, 108, 109, 112, 113, 114, 115, 116, 119, 120, 121, 122, 123, 126, 127, 128, 129, 130, 133, 134, 135, 136, 137, 140, 141, 142, 143, 144, 147, 148, 149, 150, 151, 154, 155, 156, 159, 160, 161, 162, 163, 166, 167, 168, 169, 170, 42, 31, 37, 38, 39, 40, 41]
abbrev hk : PySem.W.Hook := hookQ AS fa fn fb NM.kds
def ob (s : PySem.W.SharedT) : He.AlD × TabK := obsKG AS fa fn fb NM.kds (HandSHeadRun.getT s)
theorem ob_eq (s : PySem.W.SharedT) : ob s = hk.obs s.abs := obsQG_eq (HandSHeadRun.getT_eq s)
theorem run (w : World) : HandSHeadRun.RunEq RR (PySem.W.view RR.prog [26]) hk ob 12000 oth w := by
  intro os
  kernel_rfl
end Q
namespace Q
open PySem PySem.Spec L2
section
variable {NM : Nam} {AT : List (Nat × Nat)} {Φ : List Cal} {Γ : List (Str × D)}
theorem cut (J : Env → Prop) {s : S} {ss : List S} {ρ : Env} {d : Dn} (h : ∀ nx : Env → Prop, (∀ ρ', J ρ' → nx ρ') → wpS NM AT Φ Γ s ρ ⟨nx, d.rt, d.bk, d.ct, d.er⟩) (g : ∀ ρ', J ρ' → wpSs NM AT Φ Γ ss ρ' d) : wpSs NM AT Φ Γ (s :: ss) ρ d := h _ g
theorem nil {ρ : Env} {d : Dn} (h : d.nx ρ) : wpSs NM AT Φ Γ [] ρ d := h
end
mutual
def nice : Nat → D → Bool
  | _, .int _ => true
  | _, .non => true
  | _, .str s => PyData.strOk s
  | n + 1, .tup xs => nices n xs
  | n + 1, .lst xs => nices n xs
  | _, _ => false
def nices : Nat → List D → Bool
  | _, [] => true
  | n, x :: xs => nice n x && nices n xs
end
mutual
theorem nice_lay : ∀ {n : Nat} {d : D}, nice n d = true → d.py.canLay0 = true ∧ d.py.depth ≤ n
  | n, .non, _ => by cases n <;> exact ⟨rfl, Nat.zero_le _⟩
  | n, .int _, _ => by cases n <;> exact ⟨rfl, Nat.zero_le _⟩
  | n, .str s, h => by
    have h' : PyData.strOk s = true := by cases n <;> exact h
    cases n <;> exact ⟨h', Nat.zero_le _⟩
  | 0, .tup _, h => by cases h
  | 0, .lst _, h => by cases h
  | n + 1, .tup xs, h => by
    have q := nices_lay (n := n) (ds := xs) h
    exact ⟨q.1, Nat.succ_le_succ q.2⟩
  | n + 1, .lst xs, h => by
    have q := nices_lay (n := n) (ds := xs) h
    exact ⟨q.1, Nat.succ_le_succ q.2⟩
  | n, .bl _, h => by cases n <;> cases h
  | n, .ro _, h => by cases n <;> cases h
  | n, .ins _ _ _, h => by cases n <;> cases h
  | n, .ty _, h => by cases n <;> cases h
theorem nices_lay : ∀ {n : Nat} {ds : List D}, nices n ds = true → PyData.canLayAll0 (D.py.pys ds) = true ∧ PyData.depthAll (D.py.pys ds) ≤ n
  | _, [], _ => ⟨rfl, Nat.zero_le _⟩
  | n, x :: xs, h => by
    have h' : (nice n x && nices n xs) = true := h
    obtain ⟨h1, h2⟩ := Bool.and_eq_true_iff.mp h'
    have q1 := nice_lay h1
    have q2 := nices_lay h2
    refine ⟨?_, ?_⟩
    · show (x.py.canLay0 && PyData.canLayAll0 (D.py.pys xs)) = true
      rw [q1.1, q2.1]; rfl
    · show max x.py.depth (PyData.depthAll (D.py.pys xs)) ≤ n
      exact Nat.max_le.mpr ⟨q1.2, q2.2⟩
end
mutual
theorem eqv_same : ∀ {n : Nat} {d : D}, nice n d = true → PyData.eqv d.py d.py = true
  | n, .non, _ => rfl
  | n, .int i, _ => by show (i == i) = true; exact beq_self_eq_true i
  | n, .str s, h => by show (s == s) = true; exact beq_self_eq_true s
  | 0, .tup _, h => by cases h
  | 0, .lst _, h => by cases h
  | n + 1, .tup xs, h => eqvs_same (n := n) (ds := xs) h
  | n + 1, .lst xs, h => eqvs_same (n := n) (ds := xs) h
  | n, .bl _, h => by cases n <;> cases h
  | n, .ro _, h => by cases n <;> cases h
  | n, .ins _ _ _, h => by cases n <;> cases h
  | n, .ty _, h => by cases n <;> cases h
theorem eqvs_same : ∀ {n : Nat} {ds : List D}, nices n ds = true → PyData.eqvAll (D.py.pys ds) (D.py.pys ds) = true
  | _, [], _ => rfl
  | n, x :: xs, h => by
    have h' : (nice n x && nices n xs) = true := h
    obtain ⟨h1, h2⟩ := Bool.and_eq_true_iff.mp h'
    show (PyData.eqv x.py x.py && PyData.eqvAll (D.py.pys xs) (D.py.pys xs)) = true
    rw [eqv_same h1, eqvs_same h2]; rfl
end
mutual
theorem eqv_dist : ∀ {n m : Nat} {d e : D}, nice n d = true → nice m e = true → PyData.eqv d.py e.py = true → d = e
  | n, m, d, e, h1, h2, h => by
    cases d <;> cases e <;> first | rfl | (cases h; done) | (cases n <;> cases h1; done) | (cases m <;> cases h2; done) | skip
    · rename_i i j
      have h' : (i == j) = true := h
      rw [eq_of_beq h']
    · rename_i i j
      have h' : (i == j) = true := h
      rw [eq_of_beq h']
    · rename_i i j
      cases n with
      | zero => cases h1
      | succ n =>
        cases m with
        | zero => cases h2
        | succ m => rw [eqvs_dist (n := n) (m := m) (ds := i) (es := j) h1 h2 h]
    · rename_i i j
      cases n with
      | zero => cases h1
      | succ n =>
        cases m with
        | zero => cases h2
        | succ m => rw [eqvs_dist (n := n) (m := m) (ds := i) (es := j) h1 h2 h]
theorem eqvs_dist : ∀ {n m : Nat} {ds es : List D}, nices n ds = true → nices m es = true → PyData.eqvAll (D.py.pys ds) (D.py.pys es) = true → ds = es
  | _, _, [], [], _, _, _ => rfl
  | _, _, [], _ :: _, _, _, h => by cases h
  | _, _, _ :: _, [], _, _, h => by cases h
  | n, m, x :: xs, y :: ys, h1, h2, h => by
    obtain ⟨a1, a2⟩ := Bool.and_eq_true_iff.mp (show (nice n x && nices n xs) = true from h1)
    obtain ⟨b1, b2⟩ := Bool.and_eq_true_iff.mp (show (nice m y && nices m ys) = true from h2)
    obtain ⟨c1, c2⟩ := Bool.and_eq_true_iff.mp (show (PyData.eqv x.py y.py && PyData.eqvAll (D.py.pys xs) (D.py.pys ys)) = true from h)
    rw [eqv_dist a1 b1 c1, eqvs_dist a2 b2 c2]
end
theorem mm {n : Nat} {lo hi : Int} (h0 : 0 ≤ lo) (h1 : lo ≤ hi) : ∃ m : Nat, lo ≤ m ∧ (m : Int) ≤ hi ∧ (if lo < (if (n : Int) < hi then (n : Int) else hi) then (if (n : Int) < hi then (n : Int) else hi) else lo) = m := by
  refine ⟨(if lo < (if (n : Int) < hi then (n : Int) else hi) then (if (n : Int) < hi then (n : Int) else hi) else lo).toNat, ?_⟩
  split <;> split <;> omega
theorem bl_max2 {a b : Int} {k : D → Prop} : bltW .max [.int a, .int b] k = (k (.int (if a < b then b else a))) := rfl
theorem cdv {i j : Int} (h : 0 < j) (h' : j < 2 ^ 200) : CDivW i j := wide_div (b := 200) h (by omega) (by decide) (by decide)
end Q
namespace Q
open PySem PySem.Spec L2
class Stm (ss : List S) (s : outParam S) (r : outParam (List S)) : Prop where
  eq : ss = s :: r
instance stm_cons {s : S} {r : List S} : Stm (s :: r) s r := ⟨rfl⟩
section
variable {NM : Nam} {AT : List (Nat × Nat)} {Φ : List Cal} {Γ : List (Str × D)}
theorem st1 {ss : List S} {s : S} {r : List S} [i : Stm ss s r] {ρ : Env} {d : Dn} (h : wpS NM AT Φ Γ s ρ ⟨fun ρ' => wpSs NM AT Φ Γ r ρ' d, d.rt, d.bk, d.ct, d.er⟩) : wpSs NM AT Φ Γ ss ρ d := by
  rw [i.eq]; exact h
end
class Pl (s : S) : Prop where
  t : True
instance {a b} : Pl (.asg a b) := ⟨trivial⟩
instance {a b} : Pl (.new a b) := ⟨trivial⟩
instance {a b} : Pl (.app a b) := ⟨trivial⟩
instance {a b c} : Pl (.setIx a b c) := ⟨trivial⟩
instance {a b c} : Pl (.aug a b c) := ⟨trivial⟩
instance {a b c} : Pl (.fld a b c) := ⟨trivial⟩
instance {a b c e} : Pl (.par a b c e) := ⟨trivial⟩
instance {a} : Pl (.exp a) := ⟨trivial⟩
instance {a} : Pl (.ret a) := ⟨trivial⟩
instance {a} : Pl (.frz a) := ⟨trivial⟩
instance : Pl .retN := ⟨trivial⟩
instance : Pl .pas := ⟨trivial⟩
instance : Pl .brk := ⟨trivial⟩
instance : Pl .cnt := ⟨trivial⟩
class Call (f : FS) (as : List D) (k : D → Prop) (x : Exc → Prop) (p : outParam Prop) : Prop where
  ok : p → f as k x
class CallI (f : IS) (as : List D) (k : List Nat → List D → Prop) (x : Exc → Prop) (p : outParam Prop) : Prop where
  ok : p → f as k x
class Bd (x : Int) (n : outParam Nat) : Prop where
  h : x.natAbs < 2 ^ n
theorem two_mono {n m : Nat} (h : n ≤ m) : 2 ^ n ≤ 2 ^ m := Nat.pow_le_pow_right (by decide) h
theorem Bd.of {x : Int} {n m : Nat} (b : Bd x n) (h : n ≤ m) : Bd x m := ⟨Nat.lt_of_lt_of_le b.h (two_mono h)⟩
theorem bdOf {x B : Int} (n : Nat) (h1 : -B ≤ x) (h2 : x ≤ B) (h : B.natAbs < 2 ^ n := by decide) : Bd x n := ⟨by omega⟩
instance (priority := 10) bd_lit {x : Int} : Bd x (x.natAbs.log2 + 1) := ⟨Nat.lt_log2_self⟩
instance bd_neg {a : Int} {n : Nat} [b : Bd a n] : Bd (-a) n := ⟨by rw [Int.natAbs_neg]; exact b.h⟩
theorem two_max {n m a b : Nat} (h1 : a < 2 ^ n) (h2 : b < 2 ^ m) : a + b < 2 ^ (max n m + 1) := by
  have := two_mono (Nat.le_max_left n m)
  have := two_mono (Nat.le_max_right n m)
  rw [Nat.pow_succ]
  omega
instance bd_add {a b : Int} {n m : Nat} [h : Bd a n] [g : Bd b m] : Bd (a + b) (max n m + 1) := ⟨Nat.lt_of_le_of_lt (Int.natAbs_add_le a b) (two_max h.h g.h)⟩
instance bd_sub {a b : Int} {n m : Nat} [h : Bd a n] [g : Bd b m] : Bd (a - b) (max n m + 1) := ⟨Nat.lt_of_le_of_lt (by rw [Int.sub_eq_add_neg, ← Int.natAbs_neg b]; exact Int.natAbs_add_le a (-b)) (two_max h.h g.h)⟩
instance bd_mul {a b : Int} {n m : Nat} [h : Bd a n] [g : Bd b m] : Bd (a * b) (n + m) := ⟨by
  rw [Int.natAbs_mul, Nat.pow_add]
  exact Nat.mul_lt_mul'' h.h g.h⟩
instance bd_div {a b : Int} {n : Nat} [h : Bd a n] : Bd (a / b) n := ⟨by
  have : (a / b).natAbs ≤ a.natAbs := Int.natAbs_ediv_le_natAbs a b
  exact Nat.lt_of_le_of_lt this h.h⟩
instance bd_ite {c : Prop} [Decidable c] {a b : Int} {n m : Nat} [h : Bd a n] [g : Bd b m] : Bd (if c then a else b) (max n m) := ⟨by
  have := two_mono (Nat.le_max_left n m)
  have := two_mono (Nat.le_max_right n m)
  have := h.h
  have := g.h
  split <;> omega⟩
instance bd_sqrt {a : Int} {n : Nat} [h : Bd a n] : Bd ((Float64.isqrt a.toNat : Nat) : Int) n := ⟨by
  have h1 := h.h
  have h2 : Float64.isqrt a.toNat ≤ a.toNat := Nat.le_trans (Nat.le_mul_self _) (Float64.isqrt_spec a.toNat).1
  omega⟩
theorem bits_le {x : Int} {n : Nat} (h : x.natAbs < 2 ^ n) : Builtin.Int.intBits x ≤ n := by
  unfold Builtin.Int.intBits
  split
  · exact Nat.zero_le _
  · rename_i z
    have : x.natAbs.log2 < n := (Nat.log2_lt (by simpa using z)).mpr h
    omega
theorem cmq {a b : Int} {n m : Nat} [h : Bd a n] [g : Bd b m] (l : n + m < 130000000) : CMulQ a b := .inr (.inr (by
  have h1 := bits_le h.h
  have h2 := bits_le g.h
  unfold IntMulOk
  intro z
  rw [Bool.and_eq_true] at z
  have z2 := z.2
  unfold Builtin.Int.intTooBig at z2
  have z3 := of_decide_eq_true z2
  have e : bitsLine = 134217728 := by decide
  rw [e] at z3
  omega))
theorem bd_bits {z : Int} (h : Builtin.Int.intBits z ≤ 1048576) : Bd z 1048576 := ⟨by
  unfold Builtin.Int.intBits at h
  split at h
  · rename_i q
    have : z.natAbs = 0 := by
      first | (simpa using q) | omega
    rw [this]
    exact Nat.two_pow_pos _
  · have : z.natAbs.log2 + 1 ≤ 1048576 := h
    exact Nat.lt_of_lt_of_le Nat.lt_log2_self (two_mono this)⟩
theorem cdq {a b : Int} {n : Nat} [g : Bd b n] (h : 0 < b) (l : n < 8990) : CDivW a b := ⟨h, by
  have h2 := g.h
  have : b.natAbs.log2 < n := (Nat.log2_lt (by omega)).mpr h2
  omega⟩
theorem cpq {a b : Int} {n : Nat} [g : Bd a n] (h : 0 ≤ b) (l : (n : Int) * b ≤ 2 ^ 27) : CPowQ a b := ⟨h, by
  have h2 := g.h
  have e : Builtin.Int.intBits a ≤ n := by
    unfold Builtin.Int.intBits
    split
    · exact Nat.zero_le _
    · rename_i z
      have : a.natAbs.log2 < n := (Nat.log2_lt (by simpa using z)).mpr h2
      omega
  have : (Builtin.Int.intBits a : Int) * b ≤ (n : Int) * b := Int.mul_le_mul_of_nonneg_right (by omega) h
  omega⟩
theorem sqrt_log {a : Int} {n : Nat} [g : Bd a n] (l : n < 13460) : a.toNat.log2 < 13470 := by
  have h2 := g.h
  by_cases z : a.toNat = 0
  · rw [z]; decide
  · have : a.toNat.log2 < n := (Nat.log2_lt z).mpr (by omega)
    omega
abbrev Iv := Int × Int
abbrev Pt := Int × Int × Int
abbrev Box := Iv × Iv × Iv
def dIv (a : Iv) : D := .tup [.int a.1, .int a.2]
def dPt (a : Pt) : D := .tup [.int a.1, .int a.2.1, .int a.2.2]
def dBox (a : Box) : D := .tup [dIv a.1, dIv a.2.1, dIv a.2.2]
def dPts (a : Pt × Pt) : D := .tup [dPt a.1, dPt a.2]
class BdI (x : Iv) (n : outParam Nat) : Prop where
  l : Bd x.1 n
  r : Bd x.2 n
instance bdI_1 {x : Iv} {n : Nat} [h : BdI x n] : Bd x.1 n := h.l
instance bdI_2 {x : Iv} {n : Nat} [h : BdI x n] : Bd x.2 n := h.r
instance bdI_mk {x y : Int} {n m : Nat} [h : Bd x n] [g : Bd y m] : BdI (x, y) (max n m) := ⟨h.of (Nat.le_max_left ..), g.of (Nat.le_max_right ..)⟩
class BdP (x : Pt) (n : outParam Nat) : Prop where
  b1 : Bd x.1 n
  b2 : Bd x.2.1 n
  b3 : Bd x.2.2 n
instance bdP_1 {x : Pt} {n : Nat} [h : BdP x n] : Bd x.1 n := h.b1
instance bdP_2 {x : Pt} {n : Nat} [h : BdP x n] : Bd x.2.1 n := h.b2
instance bdP_3 {x : Pt} {n : Nat} [h : BdP x n] : Bd x.2.2 n := h.b3
instance bdP_mk {x y z : Int} {n m k : Nat} [h : Bd x n] [g : Bd y m] [f : Bd z k] : BdP (x, y, z) (max n (max m k)) := ⟨h.of (Nat.le_max_left ..), g.of (Nat.le_trans (Nat.le_max_left ..) (Nat.le_max_right ..)), f.of (Nat.le_trans (Nat.le_max_right ..) (Nat.le_max_right ..))⟩
class BdB (x : Box) (n : outParam Nat) : Prop where
  b1 : BdI x.1 n
  b2 : BdI x.2.1 n
  b3 : BdI x.2.2 n
instance bdB_1 {x : Box} {n : Nat} [h : BdB x n] : BdI x.1 n := h.b1
instance bdB_2 {x : Box} {n : Nat} [h : BdB x n] : BdI x.2.1 n := h.b2
instance bdB_3 {x : Box} {n : Nat} [h : BdB x n] : BdI x.2.2 n := h.b3
theorem BdI.of {x : Iv} {n m : Nat} (b : BdI x n) (h : n ≤ m) : BdI x m := ⟨b.l.of h, b.r.of h⟩
theorem BdP.of {x : Pt} {n m : Nat} (b : BdP x n) (h : n ≤ m) : BdP x m := ⟨b.b1.of h, b.b2.of h, b.b3.of h⟩
theorem BdB.of {x : Box} {n m : Nat} (b : BdB x n) (h : n ≤ m) : BdB x m := ⟨b.b1.of h, b.b2.of h, b.b3.of h⟩
instance bdB_mk {x y z : Iv} {n m k : Nat} [h : BdI x n] [g : BdI y m] [f : BdI z k] : BdB (x, y, z) (max n (max m k)) := ⟨h.of (Nat.le_max_left ..), g.of (Nat.le_trans (Nat.le_max_left ..) (Nat.le_max_right ..)), f.of (Nat.le_trans (Nat.le_max_right ..) (Nat.le_max_right ..))⟩
section
variable {k : D → Prop} {ρ : Env} {q : Env → Prop}
end
section
variable {k : Bool → Prop}
end
section
variable {k : D → Prop}
end
end Q
namespace Q
open PySem PySem.Spec L2
section
variable {NM : Nam} {AT : List (Nat × Nat)} {Φ : List Cal} {Γ : List (Str × D)} {ρ : Env} {k : List D → Prop} {x : Exc → Prop}
def itW (d : D) (k : List D → Prop) : Prop := match d with
  | .lst xs => k xs
  | .tup xs => k xs
  | .ro xs => k xs
  | .str s => s.length ≤ sizeLine ∧ k (strD s)
  | _ => False
theorem wi_ex {e : E} : wpI NM AT Φ Γ (.ex e) ρ k x = wpE NM AT Φ Γ e ρ (fun d => itW d k) x := by rw [wpI]; rfl
theorem wi_rng {es : List E} : wpI NM AT Φ Γ (.rng es) ρ k x = wpEs NM AT Φ Γ es ρ (fun ds => rngW ds k) x := by rw [wpI]
theorem zw_ll {xs ys : List D} : zipW (.lst xs) (.lst ys) k = k (List.zipWith (fun u v => .tup [u, v]) xs ys) := rfl
theorem wi_zip {a b : E} : wpI NM AT Φ Γ (.zip a b) ρ k x = wpE NM AT Φ Γ a ρ (fun d => wpE NM AT Φ Γ b ρ (fun e => zipW d e k) x) x := by
  rw [wpI]
end
section
variable {ρ : Env} {q : Env → Prop}
theorem bi_tp {ts : List Tg} {xs : List D} : bindW (.tp ts) (.tup xs) ρ q = (ts.length = xs.length ∧ bindsW ts xs ρ q) := by rw [bindW]
theorem bi_tpl {ts : List Tg} {xs : List D} : bindW (.tp ts) (.lst xs) ρ q = (ts.length = xs.length ∧ bindsW ts xs ρ q) := by rw [bindW]
theorem bis_nil : bindsW [] [] ρ q = q ρ := by rw [bindsW]
theorem bis_cons {t : Tg} {ts : List Tg} {d : D} {ds : List D} : bindsW (t :: ts) (d :: ds) ρ q = bindW t d ρ fun ρ' => bindsW ts ds ρ' q := by rw [bindsW]
end
end Q
namespace Q
end Q
namespace Q
open PySem PySem.Spec L2
section
variable {NM : Nam} {AT : List (Nat × Nat)} {Φ : List Cal} {Γ : List (Str × D)} {ρ : Env} {x : Exc → Prop}
theorem wts_nil {k : Bool → Prop} : wpTs NM AT Φ Γ [] ρ k x = k true := by rw [wpTs]
theorem wta_one {t : T} {k : Bool → Prop} : wpTand NM AT Φ Γ [t] ρ k x = wpT NM AT Φ Γ t ρ k x := by rw [wpTand]
theorem wta_cons {t u : T} {ts : List T} {k : Bool → Prop} : wpTand NM AT Φ Γ (t :: u :: ts) ρ k x = wpT NM AT Φ Γ t ρ (fun b => if b = true then wpTand NM AT Φ Γ (u :: ts) ρ k x else k false) x := by
  conv => lhs; rw [wpTand.eq_def]
theorem wan_one {t : E} {k : D → Prop} : wpAnd NM AT Φ Γ [t] ρ k x = wpE NM AT Φ Γ t ρ k x := by rw [wpAnd]
theorem wan_cons {t u : E} {ts : List E} {k : D → Prop} : wpAnd NM AT Φ Γ (t :: u :: ts) ρ k x = wpE NM AT Φ Γ t ρ (fun d => match d with
    | .bl b => if b = true then wpAnd NM AT Φ Γ (u :: ts) ρ k x else k (.bl false)
    | _ => False) x := by
  rw [wpAnd.eq_def] <;> rfl
theorem wor_one {t : E} {k : D → Prop} : wpOr NM AT Φ Γ [t] ρ k x = wpE NM AT Φ Γ t ρ k x := by rw [wpOr]
theorem wor_cons {t u : E} {ts : List E} {k : D → Prop} : wpOr NM AT Φ Γ (t :: u :: ts) ρ k x = wpE NM AT Φ Γ t ρ (fun d => match d with
    | .bl b => if b = true then k (.bl true) else wpOr NM AT Φ Γ (u :: ts) ρ k x
    | _ => False) x := by
  rw [wpOr.eq_def] <;> rfl
end
end Q
namespace Q
end Q
namespace Q
end Q
namespace Q
open PySem PySem.Spec L2
section
variable {NM : Nam} {AT : List (Nat × Nat)} {Φ : List Cal} {Γ : List (Str × D)} {ρ : Env} {x : Exc → Prop} {k : D → Prop}
end
end Q
namespace Q
open PySem PySem.Spec L2
theorem max_def' {a b : Int} : (if a < b then b else a) = max a b := by rw [Int.max_def]; split <;> split <;> omega
theorem min_def' {a b : Int} : (if b < a then b else a) = min a b := by rw [Int.min_def]; split <;> split <;> omega
theorem bl_max2' {a b : Int} {k : D → Prop} : bltW .max [.int a, .int b] k = (k (.int (max a b))) := by rw [bl_max2, max_def']
theorem minL_fold : ∀ (l : List Int) (a : Int), minL a l = l.foldl min a
  | [], a => rfl
  | b :: l, a => by
    show minL (if b < a then b else a) l = _
    rw [min_def', minL_fold l]; rfl
theorem maxL_fold : ∀ (l : List Int) (a : Int), maxL a l = l.foldl max a
  | [], a => rfl
  | b :: l, a => by
    show maxL (if a < b then b else a) l = _
    rw [max_def', maxL_fold l]; rfl
theorem minL_1 {a b : Int} : minL a [b] = min a b := minL_fold _ _
theorem minL_2 {a b c : Int} : minL a [b, c] = min (min a b) c := minL_fold _ _
theorem minL_3 {a b c d : Int} : minL a [b, c, d] = min (min (min a b) c) d := minL_fold _ _
theorem maxL_1 {a b : Int} : maxL a [b] = max a b := maxL_fold _ _
theorem maxL_2 {a b c : Int} : maxL a [b, c] = max (max a b) c := maxL_fold _ _
theorem maxL_3 {a b c d : Int} : maxL a [b, c, d] = max (max (max a b) c) d := maxL_fold _ _
theorem two_max' {n m : Nat} : 2 ^ n ≤ 2 ^ max n m ∧ 2 ^ m ≤ 2 ^ max n m := ⟨two_mono (Nat.le_max_left n m), two_mono (Nat.le_max_right n m)⟩
instance bd_max {a b : Int} {n m : Nat} [h : Bd a n] [g : Bd b m] : Bd (max a b) (max n m) := ⟨by
  have := two_max' (n := n) (m := m)
  have := h.h
  have := g.h
  omega⟩
instance bd_min {a b : Int} {n m : Nat} [h : Bd a n] [g : Bd b m] : Bd (min a b) (max n m) := ⟨by
  have := two_max' (n := n) (m := m)
  have := h.h
  have := g.h
  omega⟩
def isq (n : Int) : Int := (Float64.isqrt n.toNat : Nat)
theorem isq_nn {n : Int} : 0 ≤ isq n := Int.natCast_nonneg _
theorem isq_spec {n : Int} (h : 0 ≤ n) : isq n * isq n ≤ n ∧ n < (isq n + 1) * (isq n + 1) := by
  obtain ⟨h1, h2⟩ := Float64.isqrt_spec n.toNat
  unfold isq
  constructor
  · have : ((Float64.isqrt n.toNat * Float64.isqrt n.toNat : Nat) : Int) ≤ (n.toNat : Int) := Int.ofNat_le.mpr h1
    rw [Int.natCast_mul] at this
    omega
  · have : (n.toNat : Int) < (((Float64.isqrt n.toNat + 1) * (Float64.isqrt n.toNat + 1) : Nat) : Int) := Int.ofNat_lt.mpr h2
    rw [Int.natCast_mul, Int.natCast_add] at this
    rw [show ((1 : Nat) : Int) = 1 from rfl] at this
    omega
theorem sq_le {a b : Int} (h0 : 0 ≤ a) (h : a ≤ b) : a * a ≤ b * b := Int.mul_le_mul h h h0 (by omega)
theorem isq_mono {a b : Int} (h0 : 0 ≤ a) (h : a ≤ b) : isq a ≤ isq b := by
  obtain ⟨g1, g2⟩ := isq_spec h0
  obtain ⟨f1, f2⟩ := isq_spec (show 0 ≤ b by omega)
  have := isq_nn (n := b)
  rcases Int.lt_or_le (isq b) (isq a) with z | z
  · have := sq_le (a := isq b + 1) (b := isq a) (by omega) (by omega)
    omega
  · exact z
theorem isq_pos {a : Int} (h : 0 < a) : 0 < isq a := by
  obtain ⟨g1, g2⟩ := isq_spec (show 0 ≤ a by omega)
  have := isq_nn (n := a)
  rcases Int.lt_or_le 0 (isq a) with z | z
  · exact z
  · have e : isq a = 0 := by omega
    rw [e] at g2
    omega
instance bd_isq {a : Int} {n : Nat} [h : Bd a n] : Bd (isq a) n := bd_sqrt
def iAdd (a b : Iv) : Iv := (a.1 + b.1, a.2 + b.2)
def iSub (a b : Iv) : Iv := (a.1 - b.2, a.2 - b.1)
def iNeg (a : Iv) : Iv := (-a.2, -a.1)
def iScale (a : Iv) (n : Int) : Iv := if n < 0 then (a.2 * n, a.1 * n) else (a.1 * n, a.2 * n)
def iMul (a b : Iv) : Iv := (min (min (min (a.1 * b.1) (a.1 * b.2)) (a.2 * b.1)) (a.2 * b.2), max (max (max (a.1 * b.1) (a.1 * b.2)) (a.2 * b.1)) (a.2 * b.2))
def iSq (a : Iv) : Iv := if 0 ≤ a.1 then (a.1 * a.1, a.2 * a.2) else if a.2 ≤ 0 then (a.2 * a.2, a.1 * a.1) else (0, max (a.1 * a.1) (a.2 * a.2))
def iQuo (a d : Iv) : Iv := (min (a.1 / d.1) (a.1 / d.2), max (a.2 / d.1) (a.2 / d.2))
def iRoot (a : Iv) : Iv := (isq (max a.1 0), isq a.2)
def iMeet (a b : Iv) : Option Iv := if min a.2 b.2 < max a.1 b.1 then none else some (max a.1 b.1, min a.2 b.2)
def iHull (a b : Iv) : Iv := (min a.1 b.1, max a.2 b.2)
def iWid (a : Iv) (w : Int) : Iv := (a.1 - w, a.2 + w)
def iMid (a : Iv) : Int := (a.1 + a.2) / 2
def iSize (a : Iv) : Int := max (max a.1 (-a.1)) (max a.2 (-a.2))
def iIn (a b : Iv) : Bool := decide (b.1 ≤ a.1 ∧ a.2 ≤ b.2)
def iHas (a : Iv) (n : Int) : Bool := decide (a.1 ≤ n ∧ n ≤ a.2)
instance {a b : Iv} {n m : Nat} [BdI a n] [BdI b m] : BdI (iAdd a b) (max n m + 1) := by unfold iAdd; exact BdI.of inferInstance (by omega)
instance {a b : Iv} {n m : Nat} [BdI a n] [BdI b m] : BdI (iSub a b) (max n m + 1) := by unfold iSub; exact BdI.of inferInstance (by omega)
instance {a : Iv} {n : Nat} [BdI a n] : BdI (iNeg a) n := by unfold iNeg; exact BdI.of inferInstance (by omega)
instance {c : Prop} [Decidable c] {a b : Iv} {n m : Nat} [h : BdI a n] [g : BdI b m] : BdI (if c then a else b) (max n m) := by
  split
  · exact h.of (Nat.le_max_left ..)
  · exact g.of (Nat.le_max_right ..)
instance {a : Iv} {b : Int} {n m : Nat} [BdI a n] [Bd b m] : BdI (iScale a b) (n + m) := by unfold iScale; exact BdI.of inferInstance (by omega)
instance {a b : Iv} {n m : Nat} [BdI a n] [BdI b m] : BdI (iMul a b) (n + m) := by unfold iMul; exact BdI.of inferInstance (by omega)
instance {a : Iv} {n : Nat} [BdI a n] : BdI (iSq a) (n + n + 1) := by unfold iSq; exact BdI.of inferInstance (by rw [show Nat.log2 (Int.natAbs 0) = 0 from rfl]; omega)
instance {a b : Iv} {n m : Nat} [BdI a n] [BdI b m] : BdI (iQuo a b) n := by unfold iQuo; exact BdI.of inferInstance (by omega)
instance {a : Iv} {n : Nat} [BdI a n] : BdI (iRoot a) (n + 1) := by unfold iRoot; exact BdI.of inferInstance (by rw [show Nat.log2 (Int.natAbs 0) = 0 from rfl]; omega)
instance {a b : Iv} {n m : Nat} [BdI a n] [BdI b m] : BdI (iHull a b) (max n m) := by unfold iHull; exact BdI.of inferInstance (by omega)
instance {a : Iv} {b : Int} {n m : Nat} [BdI a n] [Bd b m] : BdI (iWid a b) (max n m + 1) := by unfold iWid; exact BdI.of inferInstance (by omega)
instance {a : Iv} {n : Nat} [BdI a n] : Bd (iSize a) n := by unfold iSize; exact Bd.of inferInstance (by omega)
instance {a : Iv} {n : Nat} [BdI a n] : Bd (iMid a) (n + 1) := by unfold iMid; exact Bd.of inferInstance (by omega)
def iM (x : Int) (a : Iv) : Prop := a.1 ≤ x ∧ x ≤ a.2
section
variable {a b : Iv} {x y n : Int}
theorem iM_add (h : iM x a) (g : iM y b) : iM (x + y) (iAdd a b) := by unfold iM iAdd at *; dsimp only; omega
theorem iM_sub (h : iM x a) (g : iM y b) : iM (x - y) (iSub a b) := by unfold iM iSub at *; dsimp only; omega
theorem mul_le_r {a b c : Int} (h : a ≤ b) (hc : 0 ≤ c) : a * c ≤ b * c := Int.mul_le_mul_of_nonneg_right h hc
theorem mul_le_r' {a b c : Int} (h : a ≤ b) (hc : c ≤ 0) : b * c ≤ a * c := Int.mul_le_mul_of_nonpos_right h hc
theorem mul_le_l {a b c : Int} (h : a ≤ b) (hc : 0 ≤ c) : c * a ≤ c * b := Int.mul_le_mul_of_nonneg_left h hc
theorem mul_le_l' {a b c : Int} (h : a ≤ b) (hc : c ≤ 0) : c * b ≤ c * a := Int.mul_le_mul_of_nonpos_left hc h
theorem iM_scale (h : iM x a) : iM (x * n) (iScale a n) := by
  unfold iM iScale at *
  by_cases z : n < 0
  · rw [if_pos z]
    exact ⟨mul_le_r' h.2 (by omega), mul_le_r' h.1 (by omega)⟩
  · rw [if_neg z]
    exact ⟨mul_le_r h.1 (by omega), mul_le_r h.2 (by omega)⟩
theorem iM_mul (h : iM x a) (g : iM y b) : iM (x * y) (iMul a b) := by
  obtain ⟨h1, h2⟩ := h
  obtain ⟨g1, g2⟩ := g
  unfold iM iMul
  dsimp only
  have c1 : min (a.1 * y) (a.2 * y) ≤ x * y ∧ x * y ≤ max (a.1 * y) (a.2 * y) := by
    rcases Int.le_total 0 y with z | z
    · have := mul_le_r h1 z; have := mul_le_r h2 z; omega
    · have := mul_le_r' h1 z; have := mul_le_r' h2 z; omega
  have c2 : ∀ u : Int, min (u * b.1) (u * b.2) ≤ u * y ∧ u * y ≤ max (u * b.1) (u * b.2) := fun u => by
    rcases Int.le_total 0 u with z | z
    · have := mul_le_l g1 z; have := mul_le_l g2 z; omega
    · have := mul_le_l' g1 z; have := mul_le_l' g2 z; omega
  have := c2 a.1
  have := c2 a.2
  omega
theorem sq_nn {x : Int} : 0 ≤ x * x := by
  rcases Int.le_total 0 x with z | z
  · exact Int.mul_nonneg z z
  · exact Int.mul_nonneg_of_nonpos_of_nonpos z z
theorem iM_sq (h : iM x a) : iM (x * x) (iSq a) := by
  obtain ⟨h1, h2⟩ := h
  have n1 : ∀ {u v : Int}, u ≤ v → v ≤ 0 → v * v ≤ u * u := fun {u v} z w => by
    have := sq_le (a := -v) (b := -u) (by omega) (by omega)
    rw [Int.neg_mul_neg, Int.neg_mul_neg] at this
    exact this
  unfold iM iSq
  by_cases c : 0 ≤ a.1
  · rw [if_pos c]; exact ⟨sq_le c h1, sq_le (by omega) h2⟩
  · rw [if_neg c]
    by_cases d : a.2 ≤ 0
    · rw [if_pos d]; exact ⟨n1 h2 d, n1 h1 (by omega)⟩
    · rw [if_neg d]
      refine ⟨sq_nn, ?_⟩
      show x * x ≤ max _ _
      rcases Int.le_total 0 x with z | z
      · have := sq_le z h2; omega
      · have := n1 h1 z; omega
theorem iSq_nn : 0 ≤ (iSq a).1 := by
  unfold iSq
  split
  · exact sq_nn
  · split
    · exact sq_nn
    · exact Int.le_refl _
theorem div_mono {a b d : Int} (hd : 0 < d) (h : a ≤ b) : a / d ≤ b / d := Int.ediv_le_ediv hd h
theorem div_anti {a d e : Int} (hd : 0 < d) (h : d ≤ e) : min (a / d) (a / e) = if 0 ≤ a then a / e else a / d := by
  by_cases z : 0 ≤ a
  · rw [if_pos z]
    have : a / e ≤ a / d := by
      refine Int.le_ediv_of_mul_le hd ?_
      have h1 := Int.ediv_mul_le a (b := e) (by omega)
      have h2 : 0 ≤ a / e := Int.ediv_nonneg z (by omega)
      have := mul_le_l h h2
      omega
    omega
  · rw [if_neg z]
    have : a / d ≤ a / e := by
      refine Int.le_ediv_of_mul_le (by omega) ?_
      have h1 := Int.ediv_mul_le a (b := d) (by omega)
      have h2 : a / d < 0 := Int.ediv_neg_of_neg_of_pos (by omega) hd
      have := mul_le_l' h (show a / d ≤ 0 by omega)
      omega
    omega
theorem div_dec {a d e : Int} (hd : 0 < d) (h : d ≤ e) (z : 0 ≤ a) : a / e ≤ a / d := by
  have := div_anti (a := a) hd h
  rw [if_pos z] at this
  omega
theorem div_inc {a d e : Int} (hd : 0 < d) (h : d ≤ e) (z : a < 0) : a / d ≤ a / e := by
  have := div_anti (a := a) hd h
  rw [if_neg (by omega)] at this
  omega
theorem iM_quo {d : Iv} (hd : 0 < d.1) (h : iM x a) (g : iM y d) : iM (x / y) (iQuo a d) := by
  obtain ⟨h1, h2⟩ := h
  obtain ⟨g1, g2⟩ := g
  unfold iM iQuo
  dsimp only
  have m1 := div_mono (a := a.1) (b := x) (d := y) (by omega) h1
  have m2 := div_mono (a := x) (b := a.2) (d := y) (by omega) h2
  constructor
  · rcases Int.lt_or_le a.1 0 with z | z
    · have := div_inc (a := a.1) hd g1 z; omega
    · have := div_dec (a := a.1) (d := y) (e := d.2) (by omega) g2 z; omega
  · rcases Int.lt_or_le a.2 0 with z | z
    · have := div_inc (a := a.2) (d := y) (e := d.2) (by omega) g2 z; omega
    · have := div_dec (a := a.2) hd g1 z; omega
theorem iM_root (h : iM x a) (h0 : 0 ≤ x) : iM (isq x) (iRoot a) := ⟨isq_mono (by omega) (by have := h.1; omega), isq_mono h0 h.2⟩
theorem iM_hull1 (h : iM x a) : iM x (iHull a b) := by unfold iM iHull at *; dsimp only; omega
theorem iM_hull2 (h : iM x b) : iM x (iHull a b) := by unfold iM iHull at *; dsimp only; omega
end
def pAdd (a b : Pt) : Pt := (a.1 + b.1, a.2.1 + b.2.1, a.2.2 + b.2.2)
def pSub (a b : Pt) : Pt := (a.1 - b.1, a.2.1 - b.2.1, a.2.2 - b.2.2)
def pBox (a : Pt) : Box := ((a.1, a.1), (a.2.1, a.2.1), (a.2.2, a.2.2))
def bMap2 (f : Iv → Iv → Iv) (a b : Box) : Box := (f a.1 b.1, f a.2.1 b.2.1, f a.2.2 b.2.2)
def bAdd : Box → Box → Box := bMap2 iAdd
def bSub : Box → Box → Box := bMap2 iSub
def bHull : Box → Box → Box := bMap2 iHull
def bWid (a : Box) (w : Int) : Box := (iWid a.1 w, iWid a.2.1 w, iWid a.2.2 w)
def bMeet (a b : Box) : Option Box := match iMeet a.1 b.1, iMeet a.2.1 b.2.1, iMeet a.2.2 b.2.2 with
  | some x, some y, some z => some (x, y, z)
  | _, _, _ => none
def bIn (a b : Box) : Bool := iIn a.1 b.1 && iIn a.2.1 b.2.1 && iIn a.2.2 b.2.2
def bHas (a : Box) (p : Pt) : Bool := iHas a.1 p.1 && iHas a.2.1 p.2.1 && iHas a.2.2 p.2.2
def bMid (a : Box) : Pt := (iMid a.1, iMid a.2.1, iMid a.2.2)
def bInner (a b : Box) : Iv := iAdd (iAdd (iMul a.1 b.1) (iMul a.2.1 b.2.1)) (iMul a.2.2 b.2.2)
def bSqLen (a : Box) : Iv := iAdd (iAdd (iSq a.1) (iSq a.2.1)) (iSq a.2.2)
def bSize (a : Box) : Int := max (max (iSize a.1) (iSize a.2.1)) (iSize a.2.2)
instance {a b : Pt} {n m : Nat} [BdP a n] [BdP b m] : BdP (pAdd a b) (max n m + 1) := by unfold pAdd; exact BdP.of inferInstance (by omega)
instance {a b : Pt} {n m : Nat} [BdP a n] [BdP b m] : BdP (pSub a b) (max n m + 1) := by unfold pSub; exact BdP.of inferInstance (by omega)
instance {a : Pt} {n : Nat} [BdP a n] : BdB (pBox a) n := by unfold pBox; exact BdB.of inferInstance (by omega)
instance {a b : Box} {n m : Nat} [BdB a n] [BdB b m] : BdB (bAdd a b) (max n m + 1) := by unfold bAdd bMap2; exact BdB.of inferInstance (by omega)
instance {a b : Box} {n m : Nat} [BdB a n] [BdB b m] : BdB (bSub a b) (max n m + 1) := by unfold bSub bMap2; exact BdB.of inferInstance (by omega)
instance {a b : Box} {n m : Nat} [BdB a n] [BdB b m] : BdB (bHull a b) (max n m) := by unfold bHull bMap2; exact BdB.of inferInstance (by omega)
instance {a : Box} {b : Int} {n m : Nat} [BdB a n] [Bd b m] : BdB (bWid a b) (max n m + 1) := by unfold bWid; exact BdB.of inferInstance (by omega)
instance {a : Box} {n : Nat} [BdB a n] : BdP (bMid a) (n + 1) := by unfold bMid; exact BdP.of inferInstance (by omega)
instance {a b : Box} {n m : Nat} [BdB a n] [BdB b m] : BdI (bInner a b) (n + m + 2) := by unfold bInner; exact BdI.of inferInstance (by omega)
instance {a : Box} {n : Nat} [BdB a n] : BdI (bSqLen a) (n + n + 3) := by unfold bSqLen; exact BdI.of inferInstance (by omega)
instance {a : Box} {n : Nat} [BdB a n] : Bd (bSize a) n := by unfold bSize; exact Bd.of inferInstance (by omega)
def bM (p : Pt) (a : Box) : Prop := iM p.1 a.1 ∧ iM p.2.1 a.2.1 ∧ iM p.2.2 a.2.2
section
variable {a b : Box} {p q : Pt}
theorem bM_add (h : bM p a) (g : bM q b) : bM (pAdd p q) (bAdd a b) := ⟨iM_add h.1 g.1, iM_add h.2.1 g.2.1, iM_add h.2.2 g.2.2⟩
theorem bM_hull1 (h : bM p a) : bM p (bHull a b) := ⟨iM_hull1 h.1, iM_hull1 h.2.1, iM_hull1 h.2.2⟩
theorem bM_hull2 (h : bM p b) : bM p (bHull a b) := ⟨iM_hull2 h.1, iM_hull2 h.2.1, iM_hull2 h.2.2⟩
def pDot (p q : Pt) : Int := p.1 * q.1 + p.2.1 * q.2.1 + p.2.2 * q.2.2
theorem bM_sqLen (h : bM p a) : iM (pDot p p) (bSqLen a) := iM_add (iM_add (iM_sq h.1) (iM_sq h.2.1)) (iM_sq h.2.2)
end
end Q
namespace Q
open PySem PySem.Spec L2
def allI (P : Int → Prop) : List D → Prop
  | [] => True
  | .int z :: l => P z ∧ allI P l
  | _ => False
end Q
namespace Q
open PySem PySem.Spec L2
end Q
namespace Q
open PySem PySem.Spec L2
end Q
namespace Q
instance bd_pow {a : Int} {k n : Nat} [h : Bd a n] : Bd (a ^ k) (n * k + 1) := ⟨by
  rw [Int.natAbs_pow]
  have h1 : a.natAbs ^ k ≤ (2 ^ n) ^ k := Nat.pow_le_pow_left (Nat.le_of_lt h.h) k
  rw [← Nat.pow_mul] at h1
  have h2 : 2 ^ (n * k) < 2 ^ (n * k + 1) := Nat.pow_lt_pow_right (by decide) (by omega)
  omega⟩
def iRnd (s w : Int) (a : Iv) : Prop := a.1 ≤ a.2 ∧ a.2 ≤ a.1 + 2 * w ∧ -(s + w) ≤ a.1 ∧ a.2 ≤ s + w ∧ (∃ c, -s ≤ c ∧ c ≤ s ∧ iM c a)
def bRnd (s w : Int) (b : Box) : Prop := iRnd s w b.1 ∧ iRnd s w b.2.1 ∧ iRnd s w b.2.2
def iWf (a : Iv) : Prop := a.1 ≤ a.2
def bWf (b : Box) : Prop := iWf b.1 ∧ iWf b.2.1 ∧ iWf b.2.2
theorem bRnd.wf {s w : Int} {b : Box} (h : bRnd s w b) : bWf b := ⟨h.1.1, h.2.1.1, h.2.2.1⟩
end Q
namespace Q
open PySem PySem.Spec L2
def dOB : Option Box → D
  | none => .non
  | some b => dBox b
def bBoth (a b : Box) : Box := ((max a.1.1 b.1.1, min a.1.2 b.1.2), (max a.2.1.1 b.2.1.1, min a.2.1.2 b.2.1.2), (max a.2.2.1 b.2.2.1, min a.2.2.2 b.2.2.2))
theorem bMeet_some {a b : Box} (h : bWf (bBoth a b)) : bMeet a b = some (bBoth a b) := by
  have e : ∀ {a b : Iv}, max a.1 b.1 ≤ min a.2 b.2 → iMeet a b = some (max a.1 b.1, min a.2 b.2) := fun {a b} h => by
    unfold iMeet; rw [if_neg (by omega)]
  unfold bMeet
  rw [e h.1, e h.2.1, e h.2.2]
  rfl
theorem bM_both {a b : Box} {p : Pt} : bM p (bBoth a b) ↔ bM p a ∧ bM p b := by
  unfold bM bBoth iM
  dsimp only
  constructor
  · intro h; refine ⟨⟨⟨?_, ?_⟩, ⟨?_, ?_⟩, ⟨?_, ?_⟩⟩, ⟨⟨?_, ?_⟩, ⟨?_, ?_⟩, ⟨?_, ?_⟩⟩⟩ <;> omega
  · intro h; refine ⟨⟨?_, ?_⟩, ⟨?_, ?_⟩, ⟨?_, ?_⟩⟩ <;> omega
end Q
namespace Q
open PySem PySem.Spec L2
def pullC (mu ob s r z c f : Int) : Int := -mu * c / (s * r) + ob * c * (5 * z * z - f * s) / (s * s * s * r)
def pPull (mu ob : Int) (p : Pt) : Pt := (pullC mu ob (pDot p p) (isq (pDot p p)) p.2.2 p.1 1, pullC mu ob (pDot p p) (isq (pDot p p)) p.2.2 p.2.1 1, pullC mu ob (pDot p p) (isq (pDot p p)) p.2.2 p.2.2 3)
def bPullC (mu ob : Int) (s d e h c : Iv) (f : Int) : Iv := iAdd (iQuo (iScale c (-mu)) d) (iQuo (iScale (iMul c (iSub h (iScale s f))) ob) e)
def bD (b : Box) : Iv := iMul (bSqLen b) (iRoot (bSqLen b))
def bE (b : Box) : Iv := iMul (iMul (bSqLen b) (bSqLen b)) (bD b)
def bPullS (mu ob : Int) (b : Box) : Box := (bPullC mu ob (bSqLen b) (bD b) (bE b) (iScale (iSq b.2.2) 5) b.1 1, bPullC mu ob (bSqLen b) (bD b) (bE b) (iScale (iSq b.2.2) 5) b.2.1 1, bPullC mu ob (bSqLen b) (bD b) (bE b) (iScale (iSq b.2.2) 5) b.2.2 3)
def bPull (mu ob : Int) (b : Box) : Option Box := if (bSqLen b).1 = 0 then none else some (bPullS mu ob b)
instance {mu ob : Int} {s d e h c : Iv} {f : Int} {n1 n2 n3 n4 n5 n6 n7 n8 : Nat} [Bd mu n1] [Bd ob n2] [BdI s n3] [BdI d n4] [BdI e n5] [BdI h n6] [BdI c n7] [Bd f n8] : BdI (bPullC mu ob s d e h c f) (n1 + n2 + n3 + n6 + n7 + n7 + n8 + 2) := by
  unfold bPullC; exact BdI.of inferInstance (by omega)
instance {b : Box} {n : Nat} [BdB b n] : BdI (bD b) (4 * n + 7) := by unfold bD; exact BdI.of inferInstance (by omega)
instance {b : Box} {n : Nat} [BdB b n] : BdI (bE b) (8 * n + 13) := by unfold bE; exact BdI.of inferInstance (by omega)
instance {mu ob : Int} {b : Box} {n m k : Nat} [BdB b n] [Bd mu m] [Bd ob k] : BdB (bPullS mu ob b) (6 * n + m + k + 20) := by
  have e1 : Nat.log2 (Int.natAbs 1) = 0 := rfl
  have e3 : Nat.log2 (Int.natAbs 3) = 1 := rfl
  have e5 : Nat.log2 (Int.natAbs 5) = 2 := rfl
  unfold bPullS; exact BdB.of inferInstance (by rw [e1, e3, e5]; omega)
def iPos (a : Iv) : Prop := 0 < a.1 ∧ a.1 ≤ a.2
theorem iPos_mul {a b : Iv} (h : iPos a) (g : iPos b) : iPos (iMul a b) := by
  obtain ⟨h1, h2⟩ := h
  obtain ⟨g1, g2⟩ := g
  have p1 := Int.mul_pos h1 g1
  have p2 : 0 < a.1 * b.2 := Int.mul_pos h1 (by omega)
  have p3 : 0 < a.2 * b.1 := Int.mul_pos (by omega) g1
  have p4 : 0 < a.2 * b.2 := Int.mul_pos (by omega) (by omega)
  unfold iMul iPos
  dsimp only
  omega
theorem iPos_root {a : Iv} (h : iPos a) : iPos (iRoot a) := by
  obtain ⟨h1, h2⟩ := h
  unfold iRoot iPos
  dsimp only
  have e : max a.1 0 = a.1 := by omega
  rw [e]
  exact ⟨isq_pos h1, isq_mono (by omega) h2⟩
theorem iSq_wf {a : Iv} (h : iWf a) : iWf (iSq a) := by
  have := iM_sq (x := a.1) (a := a) ⟨Int.le_refl _, h⟩
  exact Int.le_trans this.1 this.2
theorem bSqLen_wf {b : Box} (h : bWf b) : iWf (bSqLen b) := by
  have h1 := iSq_wf h.1
  have h2 := iSq_wf h.2.1
  have h3 := iSq_wf h.2.2
  unfold iWf bSqLen iAdd at *
  dsimp only
  omega
theorem bSqLen_nn {b : Box} : 0 ≤ (bSqLen b).1 := by
  have h1 := iSq_nn (a := b.1)
  have h2 := iSq_nn (a := b.2.1)
  have h3 := iSq_nn (a := b.2.2)
  unfold bSqLen iAdd
  dsimp only
  omega
theorem bSqLen_pos {b : Box} (h : bWf b) (z : (bSqLen b).1 ≠ 0) : iPos (bSqLen b) := ⟨by have := bSqLen_nn (b := b); omega, bSqLen_wf h⟩
theorem bD_pos {b : Box} (h : bWf b) (z : (bSqLen b).1 ≠ 0) : iPos (bD b) := iPos_mul (bSqLen_pos h z) (iPos_root (bSqLen_pos h z))
theorem bE_pos {b : Box} (h : bWf b) (z : (bSqLen b).1 ≠ 0) : iPos (bE b) := iPos_mul (iPos_mul (bSqLen_pos h z) (bSqLen_pos h z)) (bD_pos h z)
theorem bM_wf {b : Box} {p : Pt} (h : bM p b) : bWf b := ⟨Int.le_trans h.1.1 h.1.2, Int.le_trans h.2.1.1 h.2.1.2, Int.le_trans h.2.2.1 h.2.2.2⟩
theorem pullC_in {mu ob z c f s r : Int} {S Dd Ee Hh C : Iv} (hd : 0 < Dd.1) (he : 0 < Ee.1) (hs : iM s S) (h1 : iM (s * r) Dd) (h2 : iM (s * s * (s * r)) Ee) (h3 : iM (z * z * 5) Hh) (hc : iM c C) : iM (pullC mu ob s r z c f) (bPullC mu ob S Dd Ee Hh C f) := by
  unfold pullC bPullC
  refine iM_add ?_ ?_
  · have := iM_quo hd (iM_scale (n := -mu) hc) h1
    rw [Int.mul_comm c (-mu)] at this
    exact this
  · have := iM_quo he (iM_scale (n := ob) (iM_mul hc (iM_sub h3 (iM_scale (n := f) hs)))) h2
    have e1 : c * (z * z * 5 - s * f) * ob = ob * c * (5 * z * z - f * s) := by
      have e5 : z * z * 5 = 5 * z * z := by ac_rfl
      rw [e5, Int.mul_comm s f]
      ac_rfl
    have e2 : s * s * (s * r) = s * s * s * r := by rw [← Int.mul_assoc]
    rw [e1, e2] at this
    exact this
theorem bPull_in {mu ob : Int} {b c : Box} {p : Pt} (h : bM p b) (e : bPull mu ob b = some c) : bM (pPull mu ob p) c := by
  unfold bPull at e
  split at e
  · cases e
  rename_i z
  cases e
  have w := bM_wf h
  have hs := bM_sqLen h
  have pd := bD_pos w z
  have pe := bE_pos w z
  have ps := bSqLen_pos w z
  have hr : iM (isq (pDot p p)) (iRoot (bSqLen b)) := iM_root hs (by have := hs.1; have := ps.1; omega)
  have h1 := iM_mul hs hr
  have h2 := iM_mul (iM_mul hs hs) h1
  have h3 := iM_scale (n := 5) (iM_sq h.2.2)
  exact ⟨pullC_in pd.1 pe.1 hs h1 h2 h3 h.1, pullC_in pd.1 pe.1 hs h1 h2 h3 h.2.1, pullC_in pd.1 pe.1 hs h1 h2 h3 h.2.2⟩
end Q
namespace Q
end Q
namespace Q
def dg (x : Int) : Iv := (x, x)
section
variable {x y n : Int}
end
end Q
namespace Q
open PySem PySem.Spec L2
namespace M
def dO {α : Type} (n : α → D) : Option α → D
  | none => .non
  | some a => n a
end M
abbrev dOI : Option Int → D := M.dO .int
def mthW (NM : Nam) (c : Cal) (d : D) : Prop := match d with
  | .ins i ks _ => i = c.cls ∧ (ks.all fun k => decide (NM.at_ k ≠ c.mt)) = true
  | _ => False
structure Body where
  mu : Int
  ob : Int
  turn : Pt
def dBody (s : Body) : D := .ins 4 [34, 38, 60] [.int s.mu, .int s.ob, dPt s.turn]
structure Burn where
  b : Int
  e : Int
  push : Box
def dBurn (s : Burn) : D := .ins 5 [4, 19, 47] [.int s.b, .int s.e, dBox s.push]
structure Sight where
  at_ : Int
  place : Box
def dSight (s : Sight) : D := .ins 26 [3, 44] [.int s.at_, dBox s.place]
structure Stt where
  place : Box
  speed : Box
def dStt (s : Stt) : D := .ins 28 [44, 53] [dBox s.place, dBox s.speed]
structure Craft where
  name : Str
  start : Int
  place : Box
  speed : Box
  drift : Int
  burns : List Burn
  sights : List Sight
def dCraft (s : Craft) : D := .ins 13 [35, 55, 44, 53, 15, 8, 51] [.str s.name, .int s.start, dBox s.place, dBox s.speed, .int s.drift, .tup (s.burns.map dBurn), .tup (s.sights.map dSight)]
structure Site where
  name : Str
  place : Pt
def dSite (s : Site) : D := .ins 27 [35, 44] [.str s.name, dPt s.place]
structure Conts where
  body : Body
  stride : Int
  fine : Int
  crafts : List Craft
  sites : List Site
def dConts (s : Conts) : D := .ins 9 [5, 58, 22, 14, 52] [dBody s.body, .int s.stride, .int s.fine, .tup (s.crafts.map dCraft), .tup (s.sites.map dSite)]
structure Mom where
  at_ : Int
  states : List Stt
def dMom (s : Mom) : D := .ins 16 [3, 57] [.int s.at_, .lst (s.states.map dStt)]
structure Jour where
  moms : List Mom
  ending : Str
  broken : Option Int
def dJour (s : Jour) : D := .ins 14 [33, 20, 7] [.lst (s.moms.map dMom), .str s.ending, dOI s.broken]
structure Piece where
  b : Int
  e : Int
  parts : List Box
def dPiece (s : Piece) : D := .ins 23 [4, 19, 40] [.int s.b, .int s.e, .tup (s.parts.map dBox)]
structure Cert where
  body : Body
  fine : Int
  craft : Craft
  claims : List (List Stt)
def dCert (s : Cert) : D := .ins 8 [5, 22, 12, 10] [dBody s.body, .int s.fine, dCraft s.craft, .lst (s.claims.map fun l => .lst (l.map dStt))]
structure Course where
  pieces : List Piece
  ending : Str
def dCourse (s : Course) : D := .ins 10 [42, 20] [.lst (s.pieces.map dPiece), .str s.ending]
def iOk (m : Int) (a : Iv) : Prop := -m ≤ a.1 ∧ a.1 ≤ a.2 ∧ a.2 ≤ m
def bOk (m : Int) (b : Box) : Prop := iOk m b.1 ∧ iOk m b.2.1 ∧ iOk m b.2.2
instance {m : Int} {a : Iv} : Decidable (iOk m a) := inferInstanceAs (Decidable (_ ∧ _ ∧ _))
instance {m : Int} {b : Box} : Decidable (bOk m b) := inferInstanceAs (Decidable (_ ∧ _ ∧ _))
def nameCh (c : Nat) : Bool := !(Builtin.Str.occurrences "abcdefghijklmnopqrstuvwxyz0123456789_" ⟨#[c]⟩ 0 37 1).isEmpty
def nameOk (s : Str) : Bool := decide (1 ≤ s.length ∧ s.length ≤ 12) && s.cps.toList.all nameCh
def tickOk (i : Int) : Prop := 0 ≤ i ∧ i ≤ 100000
instance {i : Int} : Decidable (tickOk i) := inferInstanceAs (Decidable (_ ∧ _))
def Body.Ok (b : Body) : Prop := 1 ≤ b.mu ∧ b.mu ≤ 10 ^ 30 ∧ 0 ≤ b.ob ∧ b.ob ≤ 10 ^ 30 ∧ 1 ≤ b.turn.2.2 ∧ b.turn.2.2 ≤ 10 ^ 6 ∧ b.turn.1 * b.turn.1 + b.turn.2.1 * b.turn.2.1 = b.turn.2.2 * b.turn.2.2
def Burn.Ok (b : Burn) : Prop := tickOk b.b ∧ (tickOk b.e ∧ b.b < b.e) ∧ bOk (10 ^ 12) b.push
def Sight.Ok (s : Sight) : Prop := tickOk s.at_ ∧ bOk (10 ^ 15) s.place
def Craft.Ok (c : Craft) : Prop := nameOk c.name = true ∧ tickOk c.start ∧ bOk (10 ^ 15) c.place ∧ bOk (10 ^ 15) c.speed ∧ (0 ≤ c.drift ∧ c.drift ≤ 10 ^ 12)
def Conts.Ok (c : Conts) : Prop := (1 ≤ c.stride ∧ c.stride ≤ 1000) ∧ (0 ≤ c.fine ∧ c.fine ≤ 6)
theorem body_ok {mu ob : Int} {t : Pt} (h1 : 1 ≤ mu) (h2 : mu ≤ 10 ^ 30) (h3 : 0 ≤ ob) (h4 : ob ≤ 10 ^ 30) (ht : 1 ≤ t.2.2 ∧ t.2.2 ≤ 10 ^ 6 ∧ t.1 * t.1 + t.2.1 * t.2.1 = t.2.2 * t.2.2) : Body.Ok ⟨mu, ob, t⟩ := ⟨h1, h2, h3, h4, ht.1, ht.2.1, ht.2.2⟩
theorem iOk.bd {m : Int} {a : Iv} (h : iOk m a) (n : Nat) (l : m.natAbs < 2 ^ n := by decide) : BdI a n := ⟨⟨by unfold iOk at h; omega⟩, ⟨by unfold iOk at h; omega⟩⟩
theorem bOk.bd {m : Int} {a : Box} (h : bOk m a) (n : Nat) (l : m.natAbs < 2 ^ n := by decide) : BdB a n := ⟨h.1.bd n l, h.2.1.bd n l, h.2.2.bd n l⟩
end Q
namespace Q
namespace M
open PySem PySem.Spec L2
noncomputable section
inductive Rs (α : Type) where
  | ok (a : α)
  | er (x : Exc)
  | no
inductive Tag {α : Sort u} (a : α) : Type where
  | mk
namespace Rs
variable {α β γ : Type}
def bind (r : Rs α) (f : α → Rs β) (_ : Tag f := .mk) : Rs β := match r with
  | .ok a => f a
  | .er x => .er x
  | .no => .no
def sat (r : Rs α) (k : α → Prop) (x : Exc → Prop) : Prop := match r with
  | .ok a => k a
  | .er e => x e
  | .no => False
theorem bind_ok {a : α} {f : α → Rs β} : (Rs.ok a).bind f = f a := rfl
theorem bind_er {a : Exc} {f : α → Rs β} : (Rs.er a).bind f = .er a := rfl
theorem bind_no {f : α → Rs β} : (Rs.no).bind f = .no := rfl
theorem bind_assoc {r : Rs α} {f : α → Rs β} {g : β → Rs γ} : (r.bind f).bind g = r.bind fun a => (f a).bind g := by cases r <;> rfl
theorem sat_bind {r : Rs α} {f : α → Rs β} {k : β → Prop} {x : Exc → Prop} : (r.bind f).sat k x = r.sat (fun a => (f a).sat k x) x := by cases r <;> rfl
theorem sat_ok {a : α} {k : α → Prop} {x : Exc → Prop} : (Rs.ok a).sat k x = k a := rfl
theorem sat_er {a : Exc} {k : α → Prop} {x : Exc → Prop} : (Rs.er a).sat k x = x a := rfl
theorem sat_no {k : α → Prop} {x : Exc → Prop} : (Rs.no).sat k x = False := rfl
theorem sat_mono {r : Rs α} {k k' : α → Prop} {x x' : Exc → Prop} (h : r.sat k x) (h1 : ∀ a, k a → k' a) (h2 : ∀ e, x e → x' e) : r.sat k' x' := by
  cases r with
  | ok a => exact h1 a h
  | er e => exact h2 e h
  | no => exact h
end Rs
def cnd {α : Type} (p : Prop) [Decidable p] (a b : Rs α) (_ : Tag a := .mk) (_ : Tag b := .mk) : Rs α := if p then a else b
theorem cnd_pos {α : Type} {p : Prop} [Decidable p] {a b : Rs α} (h : p) : cnd p a b = a := if_pos h
theorem cnd_neg {α : Type} {p : Prop} [Decidable p] {a b : Rs α} (h : ¬p) : cnd p a b = b := if_neg h
theorem cnd_t {α : Type} {a b : Rs α} {i : Decidable True} : @cnd α True i a b .mk .mk = a := if_pos trivial
theorem cnd_f {α : Type} {a b : Rs α} {i : Decidable False} : @cnd α False i a b .mk .mk = b := if_neg id
structure Cx where
  NM : Nam
  AT : List (Nat × Nat)
  Φ : List Cal
  Γ : List (Str × D)
  RR : Prop := True
section
variable (c : Cx)
def RP (e : E) (ρ : Env) (v : D) : Prop := ∀ (k : D → Prop) (x : Exc → Prop), k v → wpE c.NM c.AT c.Φ c.Γ e ρ k x
def RPs (es : List E) (ρ : Env) (v : List D) : Prop := ∀ (k : List D → Prop) (x : Exc → Prop), k v → wpEs c.NM c.AT c.Φ c.Γ es ρ k x
def RE {α : Type} (e : E) (ρ : Env) (r : Rs α) (n : α → D) : Prop := ∀ (k : D → Prop) (x : Exc → Prop), r.sat (fun a => k (n a)) x → wpE c.NM c.AT c.Φ c.Γ e ρ k x
def RX {β : Type} (es : List E) (ρ : Env) (r : Rs β) (Q : List D → Rs β → Prop) : Prop := ∀ (kk : List D → Prop) (K : β → Prop) (x : Exc → Prop), (∀ ds r', Q ds r' → r'.sat K x → kk ds) → r.sat K x → wpEs c.NM c.AT c.Φ c.Γ es ρ kk x
def RT (t : T) (ρ : Env) (r : Rs Bool) : Prop := ∀ (k : Bool → Prop) (x : Exc → Prop), r.sat k x → wpT c.NM c.AT c.Φ c.Γ t ρ k x
def RU (t : T) (ρ : Env) (p : Prop) [Decidable p] : Prop := ∀ (k : Bool → Prop) (x : Exc → Prop), k (decide p) → wpT c.NM c.AT c.Φ c.Γ t ρ k x
def RI (it : It) (ρ : Env) (ds : List D) : Prop := ∀ (k : List D → Prop) (x : Exc → Prop), k ds → wpI c.NM c.AT c.Φ c.Γ it ρ k x
def RIE {α : Type} (it : It) (ρ : Env) (r : Rs (List α)) (n : α → D) : Prop := ∀ (k : List D → Prop) (x : Exc → Prop), r.sat (fun l => k (l.map n)) x → wpI c.NM c.AT c.Φ c.Γ it ρ k x
def RK {β : Type} (n : β → D) (ss : List S) (ρ : Env) (r : Rs β) (N B C : Env → Rs β → Prop) : Prop :=
  ∀ (d : Dn) (K : β → Prop), (c.RR → ∀ b, K b → d.rt (n b)) → (∀ ρ' r', N ρ' r' → r'.sat K (fun e => ∀ q, d.er e q) → d.nx ρ') →
    (∀ ρ' r', B ρ' r' → r'.sat K (fun e => ∀ q, d.er e q) → d.bk ρ') →
    (∀ ρ' r', C ρ' r' → r'.sat K (fun e => ∀ q, d.er e q) → d.ct ρ') →
    r.sat K (fun e => ∀ q, d.er e q) → wpSs c.NM c.AT c.Φ c.Γ ss ρ d
end
def F0 {β : Type} : Env → Rs β → Prop := fun _ _ => False
abbrev NR {β : Type} (c : Cx) (n : β → D) (rest : List S) (N B C : Env → Rs β → Prop) : Env → Rs β → Prop := fun ρ r => RK c n rest ρ r N B C
def NX {β σ J : Type} (E : σ → J → Env) (nx : σ → Rs β) : Env → Rs β → Prop := fun ρ r => ∃ s j, ρ = E s j ∧ r = nx s
theorem nx_i {β σ J : Type} {E : σ → J → Env} {nx : σ → Rs β} (s : σ) (j : J) : NX E nx (E s j) (nx s) := ⟨s, j, rfl, rfl⟩
def d2 {α β : Type} (m : α → D) (n : β → D) : α × β → D := fun p => .tup [m p.1, n p.2]
def d3 {α β γ : Type} (m : α → D) (n : β → D) (o : γ → D) : α × β × γ → D := fun p => .tup [m p.1, n p.2.1, o p.2.2]
def d4 {α β γ δ : Type} (m : α → D) (n : β → D) (o : γ → D) (q : δ → D) : α × β × γ × δ → D := fun p => .tup [m p.1, n p.2.1, o p.2.2.1, q p.2.2.2]
def d5 {α β γ δ ε : Type} (m : α → D) (n : β → D) (o : γ → D) (q : δ → D) (s : ε → D) : α × β × γ × δ × ε → D := fun p => .tup [m p.1, n p.2.1, o p.2.2.1, q p.2.2.2.1, s p.2.2.2.2]
def d6 {α β γ δ ε ζ : Type} (m : α → D) (n : β → D) (o : γ → D) (q : δ → D) (s : ε → D) (t : ζ → D) : α × β × γ × δ × ε × ζ → D := fun p => .tup [m p.1, n p.2.1, o p.2.2.1, q p.2.2.2.1, s p.2.2.2.2.1, t p.2.2.2.2.2]
def d7 {α β γ δ ε ζ η : Type} (m : α → D) (n : β → D) (o : γ → D) (q : δ → D) (s : ε → D) (t : ζ → D) (u : η → D) : α × β × γ × δ × ε × ζ × η → D := fun p => .tup [m p.1, n p.2.1, o p.2.2.1, q p.2.2.2.1, s p.2.2.2.2.1, t p.2.2.2.2.2.1, u p.2.2.2.2.2.2]
def d8 {α β γ δ ε ζ η θ : Type} (m : α → D) (n : β → D) (o : γ → D) (q : δ → D) (s : ε → D) (t : ζ → D) (u : η → D) (v : θ → D) : α × β × γ × δ × ε × ζ × η × θ → D := fun p => .tup [m p.1, n p.2.1, o p.2.2.1, q p.2.2.2.1, s p.2.2.2.2.1, t p.2.2.2.2.2.1, u p.2.2.2.2.2.2.1, v p.2.2.2.2.2.2.2]
def d9 {α β γ δ ε ζ η θ ι : Type} (m : α → D) (n : β → D) (o : γ → D) (q : δ → D) (s : ε → D) (t : ζ → D) (u : η → D) (v : θ → D) (w : ι → D) : α × β × γ × δ × ε × ζ × η × θ × ι → D := fun p => .tup [m p.1, n p.2.1, o p.2.2.1, q p.2.2.2.1, s p.2.2.2.2.1, t p.2.2.2.2.2.1, u p.2.2.2.2.2.2.1, v p.2.2.2.2.2.2.2.1, w p.2.2.2.2.2.2.2.2]
def d1 {α : Type} (m : α → D) : α → D := fun p => .tup [m p]
def dL {α : Type} (n : α → D) : List α → D := fun l => .lst (l.map n)
def dR {α : Type} (n : α → D) : List α → D := fun l => .ro (l.map n)
def dV {α : Type} (n : α → D) : List α → D := fun l => .tup (l.map n)
def dN : Unit → D := fun _ => .non
def dD : D → D := fun d => d
section
variable {c : Cx} {ρ : Env}
theorem wpEs_one {a : E} {kk : List D → Prop} {x : Exc → Prop} : wpEs c.NM c.AT c.Φ c.Γ [a] ρ kk x = wpE c.NM c.AT c.Φ c.Γ a ρ (fun d => kk [d]) x := by
  rw [wpEs]
  congr 1
theorem wpEs_two {a b : E} {kk : List D → Prop} {x : Exc → Prop} : wpEs c.NM c.AT c.Φ c.Γ [a, b] ρ kk x = wpE c.NM c.AT c.Φ c.Γ a ρ (fun d => wpE c.NM c.AT c.Φ c.Γ b ρ (fun e => kk [d, e]) x) x := by
  rw [wpEs]
  congr 1
theorem re_p {α : Type} {e : E} {a : α} {n : α → D} (h : RP c e ρ (n a)) : RE c e ρ (.ok a) n := fun k x q => h k x q
theorem rp_var {i : Nat} {d : D} (h : ρ[i]? = some (.val d)) : RP c (.var i) ρ d := fun k x q => by rw [wpE, h]; exact q
theorem rp_brw {i : Nat} {d : D} (h : ρ[i]? = some (.val d)) : RP c (.brw i) ρ d := fun k x q => by rw [wpE, h]; exact q
theorem rp_brwo {i : Nat} {ds : List D} (h : ρ[i]? = some (.own ds)) : RP c (.brw i) ρ (.lst ds) := fun k x q => by rw [wpE, h]; exact q
theorem rp_cst {d : D} : RP c (.cst d) ρ d := fun k x q => by rw [wpE]; exact q
theorem rp_glo {j : Nat} {s : Str} {d : D} (h : c.Γ[j]? = some (s, d)) : RP c (.glo j) ρ d := fun k x q => by rw [wpE, h]; exact q
theorem rps_nil : RPs c [] ρ [] := fun k x q => by rw [wpEs]; exact q
theorem rps_cons {e : E} {es : List E} {d : D} {ds : List D} (h : RP c e ρ d) (g : RPs c es ρ ds) : RPs c (e :: es) ρ (d :: ds) := fun k x q => by rw [wpEs]; exact h _ _ (g _ _ q)
section
variable {β : Type} {es : List E} {Q : List D → Rs β → Prop}
theorem rx_nil {r : Rs β} (h : Q [] r) : RX c [] ρ r Q := fun kk K x g q => by rw [wpEs]; exact g _ _ h q
theorem rx_p {e : E} {d : D} {r : Rs β} (h : RP c e ρ d) (g : RX c es ρ r fun ds r' => Q (d :: ds) r') : RX c (e :: es) ρ r Q := fun kk K x f q => by rw [wpEs]; exact h _ _ (g _ K x (fun ds r' z w => f _ _ z w) q)
theorem rx_e {α : Type} {e : E} {re : Rs α} {n : α → D} {f : α → Rs β} (h : RE c e ρ re n) (g : ∀ a, RX c es ρ (f a) fun ds r' => Q (n a :: ds) r') : RX c (e :: es) ρ (re.bind f) Q := fun kk K x w q => by
  rw [wpEs]
  rw [Rs.sat_bind] at q
  exact h _ _ (Rs.sat_mono q (fun a z => g a _ K x (fun ds r' u v => w _ _ u v) z) fun _ z => z)
end
def QB {α : Type} (o : Bop) (n : α → D) : List D → Rs α → Prop := fun ds r => ∀ (k : D → Prop) (x : Exc → Prop), r.sat (fun a => k (n a)) x → (match ds with
  | [d, e] => bopW o d e k
  | _ => False)
theorem re_bin {α : Type} {o : Bop} {a b : E} {r : Rs α} {n : α → D} (h : RX c [a, b] ρ r (QB o n)) : RE c (.bin o a b) ρ r n := fun k x q => by
  have := h (fun ds => match ds with
    | [d, e] => bopW o d e k
    | _ => False) (fun a => k (n a)) x (fun ds r' z w => z k x w) q
  rw [wpE]; rw [wpEs_two] at this
  exact this
def mulR (x y : Int) : Rs Int := open Classical in if CMulQ x y then .ok (x * y) else .no
def divR (x y : Int) : Rs Int := open Classical in if CDivW x y then .ok (x / y) else .no
def modR (x y : Int) : Rs Int := if 0 < y then .ok (x % y) else .no
def powR (x y : Int) : Rs Int := open Classical in if CPowQ x y then .ok (x ^ y.toNat) else .no
def catR {α : Type} (x y : List α) : Rs (List α) := if x.length + y.length ≤ sizeLine then .ok (x ++ y) else .no
def catsR (x y : Str) : Rs Str := if x.length + y.length ≤ sizeLine then .ok (x ++ y) else .no
theorem sat_if {α : Type} {p : Prop} {i : Decidable p} {a : α} {k : α → Prop} {x : Exc → Prop} (h : (if p then Rs.ok a else Rs.no).sat k x) : p ∧ k a := by
  by_cases z : p
  · rw [if_pos z] at h; exact ⟨z, h⟩
  · rw [if_neg z] at h; exact h.elim
theorem qb_add {x y : Int} : QB .add .int [.int x, .int y] (.ok (x + y)) := fun k e q => q
theorem qb_sub {x y : Int} : QB .sub .int [.int x, .int y] (.ok (x - y)) := fun k e q => q
theorem qb_mul {x y : Int} : QB .mul .int [.int x, .int y] (mulR x y) := fun k e q => sat_if (k := fun a => k (.int a)) q
theorem qb_fdiv {x y : Int} : QB .fdiv .int [.int x, .int y] (divR x y) := fun k e q => sat_if (k := fun a => k (.int a)) q
theorem qb_mod {x y : Int} : QB .mod .int [.int x, .int y] (modR x y) := fun k e q => sat_if (k := fun a => k (.int a)) q
theorem rp_add {a b : E} {x y : Int} (h : RP c a ρ (.int x)) (g : RP c b ρ (.int y)) : RP c (.bin .add a b) ρ (.int (x + y)) := fun k z q => by rw [wpE]; exact h _ _ (g _ _ q)
theorem rp_sub {a b : E} {x y : Int} (h : RP c a ρ (.int x)) (g : RP c b ρ (.int y)) : RP c (.bin .sub a b) ρ (.int (x - y)) := fun k z q => by rw [wpE]; exact h _ _ (g _ _ q)
theorem rp_neg {a : E} {x : Int} (h : RP c a ρ (.int x)) : RP c (.neg a) ρ (.int (-x)) := fun k z q => by rw [wpE]; exact h _ _ q
theorem re_neg {a : E} {r : Rs Int} (h : RE c a ρ r .int) : RE c (.neg a) ρ (r.bind fun x => .ok (-x)) .int := fun k z q => by rw [wpE]; rw [Rs.sat_bind] at q; exact h _ _ q
theorem re_not {a : E} {r : Rs Bool} (h : RE c a ρ r .bl) : RE c (.not a) ρ (r.bind fun x => .ok (!x)) .bl := fun k z q => by rw [wpE]; rw [Rs.sat_bind] at q; exact h _ _ q
def QF {α : Type} (cal : Cal) (n : α → D) : List D → Rs α → Prop := fun ds r => ∀ (k : D → Prop) (x : Exc → Prop), r.sat (fun a => k (n a)) x → cal.fs (ds ++ cal.dfl) k x
def QI {α : Type} (cal : Cal) (n : α → D) : List D → Rs α → Prop := fun ds r => ∀ (k : D → Prop) (x : Exc → Prop), r.sat (fun a => k (n a)) x → cal.is (ds ++ cal.dfl) (fun ks xs => k (.ins cal.cls ks xs)) x
theorem re_call {α : Type} {j : Nat} {es : List E} {cal : Cal} {r : Rs α} {n : α → D} (hj : c.Φ[j]? = some cal) (h : RX c es ρ r (QF cal n)) : RE c (.call j es) ρ r n := fun k x q => by
  rw [wpE, hj]
  exact h _ _ _ (fun ds r' z w => z k x w) q
theorem re_make {α : Type} {j : Nat} {es : List E} {cal : Cal} {r : Rs α} {n : α → D} (hj : c.Φ[j]? = some cal) (h : RX c es ρ r (QI cal n)) : RE c (.make j es) ρ r n := fun k x q => by
  rw [wpE, hj]
  exact h _ _ _ (fun ds r' z w => z k x w) q
theorem re_meth {α : Type} {j : Nat} {o : E} {es : List E} {cal : Cal} {r : Rs α} {n : α → D} {d : D} (hj : c.Φ[j]? = some cal) (ho : RP c o ρ d) (hm : mthW c.NM cal d) (h : RX c es ρ r fun ds r' => QF cal n (d :: ds) r') : RE c (.meth j o es) ρ r n := fun k x q => by
  rw [wpE, hj]
  exact ho _ _ ⟨hm, h _ _ _ (fun ds r' z w => z k x w) q⟩
def QL {α : Type} (b : Blt) (n : α → D) : List D → Rs α → Prop := fun ds r => ∀ (k : D → Prop) (x : Exc → Prop), r.sat (fun a => k (n a)) x → bltW b ds k
theorem re_blt {α : Type} {b : Blt} {es : List E} {r : Rs α} {n : α → D} (h : RX c es ρ r (QL b n)) : RE c (.blt b es) ρ r n := fun k x q => by
  rw [wpE]
  exact h _ _ _ (fun ds r' z w => z k x w) q
theorem rp_blt {b : Blt} {es : List E} {ds : List D} {v : D} (h : RPs c es ρ ds) (g : ∀ k : D → Prop, k v → bltW b ds k) : RP c (.blt b es) ρ v := fun k x q => by
  rw [wpE]
  exact h _ _ (g _ q)
def isqrtR (x : Int) : Rs Int := if 0 ≤ x ∧ x.toNat.log2 < 13470 then .ok (isq x) else .no
def strR (x : Int) : Rs Str := if x.natAbs.log2 < 1920 then .ok (toString x : String) else .no
def slenR (x : Str) : Rs Int := if x.length ≤ sizeLine then .ok x.length else .no
def minR : List Int → Rs Int
  | [] => .no
  | a :: l => .ok (minL a l)
def maxR : List Int → Rs Int
  | [] => .no
  | a :: l => .ok (maxL a l)
theorem ints_mapD : ∀ {l : List Int}, ints? (l.map D.int) = some l
  | [] => rfl
  | a :: l => by
    show (match ints? (l.map D.int) with
      | some l => some (a :: l)
      | none => none) = _
    rw [ints_mapD]
theorem bl_lenl {α : Type} {n : α → D} {l : List α} : ∀ k : D → Prop, k (.int (l.length : Int)) → bltW .len [.lst (l.map n)] k := fun k h => by
  show k (.int (l.map n).length)
  rw [List.length_map]; exact h
theorem bl_lenr {α : Type} {n : α → D} {l : List α} : ∀ k : D → Prop, k (.int (l.length : Int)) → bltW .len [.ro (l.map n)] k := fun k h => by
  show k (.int (l.map n).length)
  rw [List.length_map]; exact h
theorem bk_max2 {a b : Int} : ∀ k : D → Prop, k (.int (max a b)) → bltW .max [.int a, .int b] k := fun k h => by rw [bl_max2']; exact h
def QA {α : Type} (AT : List (Nat × Nat)) (f : Nat) (n : α → D) : List D → Rs α → Prop := fun ds r => ∀ (k : D → Prop) (x : Exc → Prop), r.sat (fun a => k (n a)) x → (match ds with
  | [d] => atrW AT d f k
  | _ => False)
theorem re_atr {α β : Type} {e : E} {f : Nat} {r : Rs α} {n : α → D} {m : β → D} {g : α → β} (h : RE c e ρ r n) (hg : ∀ a, ∀ k : D → Prop, k (m (g a)) → atrW c.AT (n a) f k) : RE c (.atr e f) ρ (r.bind fun a => .ok (g a)) m := fun k x q => by
  rw [wpE]
  rw [Rs.sat_bind] at q
  exact h _ _ (Rs.sat_mono q (fun a z => hg a _ z) fun _ z => z)
def ixA {α : Type} : List α → Int → Option α
  | ds, .ofNat n => ds[n]?
  | ds, .negSucc n => if n < ds.length then ds[ds.length - 1 - n]? else none
theorem ixD_map {α : Type} {n : α → D} {l : List α} : ∀ {i : Int}, ixD (l.map n) i = (ixA l i).map n
  | .ofNat m => by
    show (l.map n)[m]? = (l[m]?).map n
    rw [List.getElem?_map]
  | .negSucc m => by
    show (if m < (l.map n).length then (l.map n)[(l.map n).length - 1 - m]? else none) = (if m < l.length then l[l.length - 1 - m]? else none).map n
    rw [List.length_map, List.getElem?_map]
    split <;> rfl
def idxR {α : Type} (l : List α) (i : Int) : Rs α := match ixA l i with
  | some a => .ok a
  | none => .no
def QIx {α : Type} (n : α → D) : List D → Rs α → Prop := fun ds r => ∀ (k : D → Prop) (x : Exc → Prop), r.sat (fun a => k (n a)) x → (match ds with
  | [d, e] => idxW d e k
  | _ => False)
theorem re_idx {α : Type} {a b : E} {r : Rs α} {n : α → D} (h : RX c [a, b] ρ r (QIx n)) : RE c (.idx a b) ρ r n := fun k x q => by
  have := h (fun ds => match ds with
    | [d, e] => idxW d e k
    | _ => False) (fun a => k (n a)) x (fun ds r' z w => z k x w) q
  rw [wpE]; rw [wpEs_two] at this
  exact this
theorem idxR_k {α : Type} {n : α → D} {l : List α} {i : Int} {k : D → Prop} {x : Exc → Prop} (q : (idxR l i).sat (fun a => k (n a)) x) : match ixD (l.map n) i with
  | some d => k d
  | none => False := by
  rw [ixD_map]
  unfold idxR at q
  cases z : ixA l i with
  | none => rw [z] at q; exact q
  | some a => rw [z] at q; exact q
theorem qi_lst {α : Type} {n : α → D} {l : List α} {i : Int} : QIx n [.lst (l.map n), .int i] (idxR l i) := fun k x q => idxR_k q
theorem qi_ro {α : Type} {n : α → D} {l : List α} {i : Int} : QIx n [.ro (l.map n), .int i] (idxR l i) := fun k x q => idxR_k q
theorem rp_idx {a b : E} {d e v : D} (h : RP c a ρ d) (g : RP c b ρ e) (w : ∀ k : D → Prop, k v → idxW d e k) : RP c (.idx a b) ρ v := fun k x q => by rw [wpE]; exact h _ _ (g _ _ (w _ q))
def cutL {α : Type} (l : List α) (lo hi : Option Int) : List α := (l.drop (HT.sIx l.length 0 lo)).take (HT.sIx l.length l.length hi - HT.sIx l.length 0 lo)
def RO (c : Cx) (e : Option E) (ρ : Env) (i : Option Int) : Prop := ∀ (k : Option Int → Prop) (x : Exc → Prop), k i → wpO c.NM c.AT c.Φ c.Γ e ρ k x
theorem rp_tup {es : List E} {ds : List D} (h : RPs c es ρ ds) (l : es.length ≤ sizeLine := by decide) : RP c (.tup es) ρ (.tup ds) := fun k x q => by rw [wpE]; exact ⟨l, h _ _ q⟩
theorem rp_lst {es : List E} {ds : List D} (h : RPs c es ρ ds) (l : es.length ≤ sizeLine := by decide) : RP c (.lst es) ρ (.lst ds) := fun k x q => by rw [wpE]; exact ⟨l, h _ _ q⟩
def QT {α : Type} (n : α → D) : List D → Rs α → Prop := fun ds r => ∃ a, r = .ok a ∧ n a = .tup ds
def QS {α : Type} (n : α → D) : List D → Rs α → Prop := fun ds r => ∃ a, r = .ok a ∧ n a = .lst ds
theorem re_tup {α : Type} {n : α → D} {es : List E} {r : Rs α} (h : RX c es ρ r (QT n)) (l : es.length ≤ sizeLine := by decide) : RE c (.tup es) ρ r n := fun k x q => by
  rw [wpE]
  exact ⟨l, h _ _ _ (fun ds r' ⟨a, z, w⟩ u => by subst z; rw [← w]; exact u) q⟩
theorem re_lst {α : Type} {n : α → D} {es : List E} {r : Rs α} (h : RX c es ρ r (QS n)) (l : es.length ≤ sizeLine := by decide) : RE c (.lst es) ρ r n := fun k x q => by
  rw [wpE]
  exact ⟨l, h _ _ _ (fun ds r' ⟨a, z, w⟩ u => by subst z; rw [← w]; exact u) q⟩
def unO {α : Type} : Option α → Rs α
  | none => .no
  | some a => .ok a
theorem ru_bl {e : E} {b : Bool} (h : RP c e ρ (.bl b)) : RU c (.val e) ρ (b = true) := fun k x q => by
  rw [wpT]
  refine h _ _ ?_
  rw [show decide (b = true) = b by cases b <;> rfl] at q
  exact q
theorem ru_lst {α : Type} {n : α → D} {e : E} {l : List α} (h : RP c e ρ (.lst (l.map n))) : RU c (.val e) ρ (l.isEmpty = false) := fun k x q => by
  rw [wpT]
  refine h _ _ ?_
  show k (!(l.map n).isEmpty)
  rw [show (!(l.map n).isEmpty) = decide (l.isEmpty = false) by cases l <;> rfl]
  exact q
theorem ru_cmp {o : Cop} {a b : E} {d e : D} {p : Prop} [Decidable p] (h : RP c a ρ d) (g : RP c b ρ e) (w : ∀ k : Bool → Prop, k (decide p) → copW o d e k) : RU c (.cmp o a b) ρ p := fun k x q => by rw [wpT]; exact h _ _ (g _ _ (w _ q))
theorem ru_chn {o u : Cop} {a b e : E} {d f g : D} {p q : Prop} [Decidable p] [Decidable q] (h1 : RP c a ρ d) (h2 : RP c b ρ f) (h3 : RP c e ρ g) (w1 : ∀ k : Bool → Prop, k (decide p) → copW o d f k) (w2 : ∀ k : Bool → Prop, k (decide q) → copW u f g k) : RU c (.chn o u a b e) ρ (p ∧ q) := fun k x z => by
  rw [wpT]
  refine h1 _ _ (h2 _ _ (w1 _ ?_))
  by_cases hp : p
  · rw [decide_eq_true hp, if_pos rfl]
    refine h3 _ _ (w2 _ ?_)
    rw [show decide (p ∧ q) = decide q by simp only [hp, true_and]] at z
    exact z
  · rw [decide_eq_false hp, if_neg (fun h => nomatch h)]
    rw [show decide (p ∧ q) = false by simp only [hp, false_and, decide_false]] at z
    exact z
theorem ck_ne {d e : D} {p : Prop} [Decidable p] (w : ∀ k : Bool → Prop, k (decide p) → copW .eq d e k) : ∀ k : Bool → Prop, k (decide ¬p) → copW .ne d e k := fun k h => by
  refine w (fun r => k !r) ?_
  rw [← decide_not]; exact h
theorem ru_not {t : T} {p : Prop} [Decidable p] (h : RU c t ρ p) : RU c (.not t) ρ (¬p) := fun k x q => by
  rw [wpT]
  refine h _ _ ?_
  rw [← decide_not]; exact q
def RUa (c : Cx) (ts : List T) (ρ : Env) (p : Prop) [Decidable p] : Prop := ∀ (k : Bool → Prop) (x : Exc → Prop), k (decide p) → wpTand c.NM c.AT c.Φ c.Γ ts ρ k x
def RUo (c : Cx) (ts : List T) (ρ : Env) (p : Prop) [Decidable p] : Prop := ∀ (k : Bool → Prop) (x : Exc → Prop), k (decide p) → wpTor c.NM c.AT c.Φ c.Γ ts ρ k x
theorem rt_u {t : T} {p : Prop} [Decidable p] (h : RU c t ρ p) : RT c t ρ (.ok (decide p)) := fun k x q => h k x q
theorem rt_bl {e : E} {r : Rs Bool} (h : RE c e ρ r .bl) : RT c (.val e) ρ r := fun k x q => by rw [wpT]; exact h _ _ q
def QC (o : Cop) : List D → Rs Bool → Prop := fun ds r => ∀ (k : Bool → Prop) (x : Exc → Prop), r.sat k x → (match ds with
  | [d, e] => copW o d e k
  | _ => False)
theorem qc {o : Cop} {d e : D} {p : Prop} [Decidable p] (w : ∀ k : Bool → Prop, k (decide p) → copW o d e k) : QC o [d, e] (.ok (decide p)) := fun k x q => w k q
theorem rt_cmp {o : Cop} {a b : E} {r : Rs Bool} (h : RX c [a, b] ρ r (QC o)) : RT c (.cmp o a b) ρ r := fun k x q => by
  have := h (fun ds => match ds with
    | [d, e] => copW o d e k
    | _ => False) k x (fun ds r' z w => z k x w) q
  rw [wpT]; rw [wpEs_two] at this
  exact this
def QH (c : Cx) (ρ : Env) (o u : Cop) (e : E) : List D → Rs Bool → Prop := fun ds r => ∀ (k : Bool → Prop) (x : Exc → Prop), r.sat k x → (match ds with
  | [d, f] => copW o d f fun r => if r = true then wpE c.NM c.AT c.Φ c.Γ e ρ (fun g => copW u f g k) x else k false
  | _ => False)
theorem rt_chn {o u : Cop} {a b e : E} {r : Rs Bool} (h : RX c [a, b] ρ r (QH c ρ o u e)) : RT c (.chn o u a b e) ρ r := fun k x q => by
  have := h (fun ds => match ds with
    | [d, f] => copW o d f fun r => if r = true then wpE c.NM c.AT c.Φ c.Γ e ρ (fun g => copW u f g k) x else k false
    | _ => False) k x (fun ds r' z w => z k x w) q
  rw [wpT]; rw [wpEs_two] at this
  exact this
theorem rt_not {t : T} {r : Rs Bool} (h : RT c t ρ r) : RT c (.not t) ρ (r.bind fun b => .ok (!b)) := fun k x q => by rw [wpT]; rw [Rs.sat_bind] at q; exact h _ _ q
def RTa (c : Cx) (ts : List T) (ρ : Env) (r : Rs Bool) : Prop := ∀ (k : Bool → Prop) (x : Exc → Prop), r.sat k x → wpTand c.NM c.AT c.Φ c.Γ ts ρ k x
def RTo (c : Cx) (ts : List T) (ρ : Env) (r : Rs Bool) : Prop := ∀ (k : Bool → Prop) (x : Exc → Prop), r.sat k x → wpTor c.NM c.AT c.Φ c.Γ ts ρ k x
def andR (r q : Rs Bool) (_ : Tag q := .mk) : Rs Bool := r.bind fun b => if b = true then q else .ok false
def orR (r q : Rs Bool) (_ : Tag q := .mk) : Rs Bool := r.bind fun b => if b = true then .ok true else q
theorem rta_one {t : T} {r : Rs Bool} (h : RT c t ρ r) : RTa c [t] ρ r := fun k x q => by rw [wta_one]; exact h _ _ q
theorem rta_cons {t u : T} {ts : List T} {r s : Rs Bool} (h : RT c t ρ r) (g : RTa c (u :: ts) ρ s) : RTa c (t :: u :: ts) ρ (andR r s) := fun k x z => by
  rw [wta_cons]
  unfold andR at z
  rw [Rs.sat_bind] at z
  refine h _ _ (Rs.sat_mono z (fun b y => ?_) fun _ y => y)
  cases b with
  | true => exact g _ _ y
  | false => exact y
theorem rt_and {ts : List T} {r : Rs Bool} (h : RTa c ts ρ r) : RT c (.and ts) ρ r := fun k x q => by rw [wpT]; exact h _ _ q
theorem rt_or {ts : List T} {r : Rs Bool} (h : RTo c ts ρ r) : RT c (.or ts) ρ r := fun k x q => by rw [wpT]; exact h _ _ q
theorem rp_cmp {o : Cop} {a b : E} {p : Prop} [Decidable p] (h : RU c (.cmp o a b) ρ p) : RP c (.cmp o a b) ρ (.bl (decide p)) := fun k x q => by
  have := h (fun r => k (.bl r)) x q
  rw [wpT] at this; rw [wpE]; exact this
theorem rp_chn {o u : Cop} {a b e : E} {p : Prop} [Decidable p] (h : RU c (.chn o u a b e) ρ p) : RP c (.chn o u a b e) ρ (.bl (decide p)) := fun k x q => by
  have := h (fun r => k (.bl r)) x q
  rw [wpT] at this; rw [wpE]; exact this
theorem re_cmp {o : Cop} {a b : E} {r : Rs Bool} (h : RT c (.cmp o a b) ρ r) : RE c (.cmp o a b) ρ r .bl := fun k x q => by
  have := h (fun r => k (.bl r)) x q
  rw [wpT] at this; rw [wpE]; exact this
theorem re_chn {o u : Cop} {a b e : E} {r : Rs Bool} (h : RT c (.chn o u a b e) ρ r) : RE c (.chn o u a b e) ρ r .bl := fun k x q => by
  have := h (fun r => k (.bl r)) x q
  rw [wpT] at this; rw [wpE]; exact this
def REa (c : Cx) (ts : List E) (ρ : Env) (r : Rs Bool) : Prop := ∀ (k : D → Prop) (x : Exc → Prop), r.sat (fun b => k (.bl b)) x → wpAnd c.NM c.AT c.Φ c.Γ ts ρ k x
def REo (c : Cx) (ts : List E) (ρ : Env) (r : Rs Bool) : Prop := ∀ (k : D → Prop) (x : Exc → Prop), r.sat (fun b => k (.bl b)) x → wpOr c.NM c.AT c.Φ c.Γ ts ρ k x
theorem rea_one {t : E} {r : Rs Bool} (h : RE c t ρ r .bl) : REa c [t] ρ r := fun k x q => by rw [wan_one]; exact h _ _ q
theorem rea_cons {t u : E} {ts : List E} {r s : Rs Bool} (h : RE c t ρ r .bl) (g : REa c (u :: ts) ρ s) : REa c (t :: u :: ts) ρ (andR r s) := fun k x z => by
  rw [wan_cons]
  unfold andR at z
  rw [Rs.sat_bind] at z
  refine h _ _ (Rs.sat_mono z (fun b y => ?_) fun _ y => y)
  cases b with
  | true => exact g _ _ y
  | false => exact y
theorem reo_one {t : E} {r : Rs Bool} (h : RE c t ρ r .bl) : REo c [t] ρ r := fun k x q => by rw [wor_one]; exact h _ _ q
theorem reo_cons {t u : E} {ts : List E} {r s : Rs Bool} (h : RE c t ρ r .bl) (g : REo c (u :: ts) ρ s) : REo c (t :: u :: ts) ρ (orR r s) := fun k x z => by
  rw [wor_cons]
  unfold orR at z
  rw [Rs.sat_bind] at z
  refine h _ _ (Rs.sat_mono z (fun b y => ?_) fun _ y => y)
  cases b with
  | true => exact y
  | false => exact g _ _ y
theorem re_and {ts : List E} {r : Rs Bool} (h : REa c ts ρ r) : RE c (.and ts) ρ r .bl := fun k x q => by rw [wpE]; exact h _ _ q
theorem re_or {ts : List E} {r : Rs Bool} (h : REo c ts ρ r) : RE c (.or ts) ρ r .bl := fun k x q => by rw [wpE]; exact h _ _ q
theorem rp_and {ts : List E} {b : Bool} (h : REa c ts ρ (.ok b)) : RP c (.and ts) ρ (.bl b) := fun k x q => by rw [wpE]; exact h _ _ q
theorem rea_consp {t u : E} {ts : List E} {r s : Bool} (h : RP c t ρ (.bl r)) (g : REa c (u :: ts) ρ (.ok s)) : REa c (t :: u :: ts) ρ (.ok (r && s)) := fun k x z => by
  rw [wan_cons]
  refine h _ _ ?_
  cases r with
  | true => exact g _ _ z
  | false => exact z
def iteR {α : Type} (r : Rs Bool) (a b : Rs α) (_ : Tag a := .mk) (_ : Tag b := .mk) : Rs α := r.bind fun q => if q = true then a else b
theorem iteR_ok {α : Type} {p : Prop} [Decidable p] {a b : Rs α} : iteR (.ok (decide p)) a b = cnd p a b := by
  show (if decide p = true then a else b) = if p then a else b
  by_cases h : p
  · rw [decide_eq_true h, if_pos rfl, if_pos h]
  · rw [decide_eq_false h, if_neg h]; rfl
theorem iteR_bl {α : Type} {q : Bool} {a b : Rs α} : iteR (.ok q) a b = cnd (q = true) a b := rfl
theorem re_ife {α : Type} {n : α → D} {t : T} {a b : E} {r : Rs Bool} {x y : Rs α} (h : RT c t ρ r) (h1 : RE c a ρ x n) (h2 : RE c b ρ y n) : RE c (.ife t a b) ρ (iteR r x y) n := fun k e q => by
  rw [wpE]
  unfold iteR at q
  rw [Rs.sat_bind] at q
  refine h _ _ (Rs.sat_mono q (fun z w => ?_) fun _ w => w)
  cases z with
  | true => exact h1 _ _ w
  | false => exact h2 _ _ w
theorem re_ifu {α : Type} {n : α → D} {t : T} {a b : E} {p : Prop} [Decidable p] {x y : Rs α} (h : RU c t ρ p) (h1 : RE c a ρ x n) (h2 : RE c b ρ y n) : RE c (.ife t a b) ρ (cnd p x y) n := fun k e q => by
  unfold cnd at q
  rw [wpE]
  refine h _ _ ?_
  by_cases hp : p
  · rw [decide_eq_true hp, if_pos rfl]
    rw [if_pos hp] at q
    exact h1 _ _ q
  · rw [decide_eq_false hp, if_neg (fun h => nomatch h)]
    rw [if_neg hp] at q
    exact h2 _ _ q
end
end
end M
end Q
namespace Q
namespace M
open PySem PySem.Spec L2
noncomputable section
mutual
def bindR : Tg → D → Env → Option Env
  | .nm i, d, ρ => some (ρ.set i (.val d))
  | .tp ts, d, ρ => match d with
    | .tup xs => if ts.length = xs.length then bindRs ts xs ρ else none
    | .lst xs => if ts.length = xs.length then bindRs ts xs ρ else none
    | _ => none
def bindRs : List Tg → List D → Env → Option Env
  | [], [], ρ => some ρ
  | t :: ts, d :: ds, ρ => match bindR t d ρ with
    | some ρ' => bindRs ts ds ρ'
    | none => none
  | _, _, _ => none
end
mutual
theorem bindR_k : ∀ (t : Tg) (d : D) (ρ ρ' : Env) (q : Env → Prop), bindR t d ρ = some ρ' → q ρ' → bindW t d ρ q
  | .nm i, d, ρ, ρ', q, h, g => by
    rw [bindR] at h
    cases h
    rw [bindW]; exact g
  | .tp ts, d, ρ, ρ', q, h, g => by
    cases d with
    | tup xs =>
      rw [bindR] at h
      rw [bi_tp]
      split at h
      · rename_i z
        exact ⟨z, bindRs_k ts _ _ _ _ h g⟩
      · cases h
    | lst xs =>
      rw [bindR] at h
      rw [bi_tpl]
      split at h
      · rename_i z
        exact ⟨z, bindRs_k ts _ _ _ _ h g⟩
      · cases h
    | _ => rw [bindR] at h <;> first | (exact nomatch h) | (intro xs z; exact nomatch z)
theorem bindRs_k : ∀ (ts : List Tg) (ds : List D) (ρ ρ' : Env) (q : Env → Prop), bindRs ts ds ρ = some ρ' → q ρ' → bindsW ts ds ρ q
  | [], [], ρ, ρ', q, h, g => by
    rw [bindRs] at h
    cases h
    rw [bis_nil]; exact g
  | t :: ts, d :: ds, ρ, ρ', q, h, g => by
    rw [bindRs] at h
    rw [bis_cons]
    split at h
    · rename_i ρ'' z
      exact bindR_k t d ρ ρ'' _ z (bindRs_k ts ds _ _ _ h g)
    · cases h
  | [], _ :: _, _, _, _, h, _ => by rw [bindRs] at h <;> first | (cases h) | (intros; simp_all)
  | _ :: _, [], _, _, _, h, _ => by rw [bindRs] at h <;> first | (cases h) | (intros; simp_all)
end
section
variable {c : Cx} {ρ : Env}
theorem ri_lst {e : E} {ds : List D} (h : RP c e ρ (.lst ds)) : RI c (.ex e) ρ ds := fun k x q => by rw [wi_ex]; exact h _ _ q
theorem rie_lst {α : Type} {n : α → D} {e : E} {r : Rs (List α)} (h : RE c e ρ r (dL n)) : RIE c (.ex e) ρ r n := fun k x q => by rw [wi_ex]; exact h _ _ q
def rngL (a b : Int) : List Int := (List.range (b - a).toNat).map fun i => a + (i : Nat)
theorem rngL_D {a b : Int} : rangeD a (b - a).toNat = (rngL a b).map .int := by
  unfold rangeD rngL
  rw [List.map_map]; rfl
def rngR (a b : Int) : Rs (List Int) := if b - a ≤ 16777216 then .ok (rngL a b) else .no
def rngR1 (b : Int) : Rs (List Int) := if -(2 ^ 62) ≤ b ∧ b ≤ 16777216 then .ok (rngL 0 b) else .no
def QR (n : Int → D) : List D → Rs (List Int) → Prop := fun ds r => ∀ (k : List D → Prop) (x : Exc → Prop), r.sat (fun l => k (l.map n)) x → rngW ds k
theorem qr_1 {b : Int} : QR .int [.int b] (rngR1 b) := fun k x q => by
  obtain ⟨h1, h2⟩ := sat_if (k := fun (l : List Int) => k (l.map .int)) q
  refine ⟨h1, ?_⟩
  have e : b.toNat = (b - 0).toNat := by rw [Int.sub_zero]
  rw [e, rngL_D]; exact h2
theorem rie_rng {es : List E} {r : Rs (List Int)} (h : RX c es ρ r (QR .int)) : RIE c (.rng es) ρ r .int := fun k x q => by
  rw [wi_rng]
  exact h _ _ _ (fun ds r' z w => z k x w) q
theorem ri_rng {e : E} {n : Int} {ds : List D} (h : RP c e ρ (.int n)) (g : ∀ k : List D → Prop, k ds → rngW [.int n] k) : RI c (.rng [e]) ρ ds := fun k x q => by
  rw [wi_rng, wpEs_one]
  exact h _ _ (g _ q)
theorem zip_map {α β : Type} {n : α → D} {m : β → D} : ∀ {l : List α} {l' : List β}, List.zipWith (fun u v => D.tup [u, v]) (l.map n) (l'.map m) = (l.zip l').map (d2 n m)
  | [], _ => rfl
  | _ :: _, [] => rfl
  | a :: l, b :: l' => by
    show D.tup [n a, m b] :: List.zipWith _ (l.map n) (l'.map m) = _
    rw [zip_map]; rfl
theorem ri_zip {α β : Type} {n : α → D} {m : β → D} {a b : E} {l : List α} {l' : List β} (h : RP c a ρ (.lst (l.map n))) (g : RP c b ρ (.lst (l'.map m))) : RI c (.zip a b) ρ ((l.zip l').map (d2 n m)) := fun k x q => by
  rw [wi_zip]
  refine h _ _ (g _ _ ?_)
  rw [zw_ll, zip_map]; exact q
def noE {α : Type} (r : Rs α) : Rs α := match r with
  | .ok a => .ok a
  | .er _ => .no
  | .no => .no
theorem noE_ok {α : Type} {a : α} : noE (.ok a) = .ok a := rfl
theorem noE_sat {α : Type} {r : Rs α} {k : α → Prop} {x : Exc → Prop} (h : (noE r).sat k x) : r.sat k fun _ => False := by
  cases r with
  | ok a => exact h
  | er e => exact h
  | no => exact h
def mapR0 {α β : Type} (f : α → Rs β) : List α → Rs (List β)
  | [] => .ok []
  | a :: l => (noE (f a)).bind fun b => (mapR0 f l).bind fun bs => .ok (b :: bs)
def mapR {α β : Type} (f : α → Rs β) (l : List α) (_ : Tag f := .mk) : Rs (List β) := mapR0 f l
def filR0 {α β : Type} (p : α → Rs Bool) (f : α → Rs β) : List α → Rs (List β)
  | [] => .ok []
  | a :: l => (noE (p a)).bind fun q => if q = true then (noE (f a)).bind fun b => (filR0 p f l).bind fun bs => .ok (b :: bs) else filR0 p f l
def filR {α β : Type} (p : α → Rs Bool) (f : α → Rs β) (l : List α) (_ : Tag p := .mk) (_ : Tag f := .mk) : Rs (List β) := filR0 p f l
def RC {α β : Type} (c : Cx) (e : E) (t : Tg) (cs : List T) (ρ : Env) (n : α → D) (l : List α) (r : Rs (List β)) (m : β → D) : Prop :=
  ∀ (k : List D → Prop) (x : Exc → Prop), r.sat (fun ys => k (ys.map m)) x → mapW (fun d kk => bindW t d (wipeR ρ t.slots) fun ρ' => wpTs c.NM c.AT c.Φ c.Γ cs ρ' (fun b => if b = true then wpE c.NM c.AT c.Φ c.Γ e ρ' (fun y => kk (some y)) (fun _ => False) else kk none) fun _ => False) (l.map n) k
theorem rc_p {α β : Type} {e : E} {t : Tg} {n : α → D} {m : β → D} {l : List α} {f : α → β} (h : ∀ a, ∃ ρ', bindR t (n a) (wipeR ρ t.slots) = some ρ' ∧ RP c e ρ' (m (f a))) : RC c e t [] ρ n l (.ok (l.map f)) m := by
  induction l with
  | nil => exact fun k x q => q
  | cons a l ih =>
    intro k x q
    obtain ⟨ρ', h1, h2⟩ := h a
    show bindW t (n a) _ _
    refine bindR_k _ _ _ _ _ h1 ?_
    rw [wts_nil, if_pos rfl]
    refine h2 _ _ ?_
    exact ih (fun ys => k (m (f a) :: ys)) x q
theorem rp_comp {α β : Type} {e : E} {t : Tg} {it : It} {cs : List T} {n : α → D} {m : β → D} {l : List α} {l' : List β} (h : RI c it ρ (l.map n)) (g : RC c e t cs ρ n l (.ok l') m) : RP c (.comp e t it cs) ρ (.lst (l'.map m)) := fun k x q => by
  rw [wpE]
  exact h _ _ (g (fun ys => k (.lst ys)) x q)
def RM {β : Type} (c : Cx) (e : E) (t : Tg) (ρ : Env) (ds : List D) (r : Rs β) (Q : List D → Rs β → Prop) : Prop :=
  ∀ (kk : List D → Prop) (K : β → Prop) (x : Exc → Prop), (∀ ys r', Q ys r' → r'.sat K x → kk ys) → r.sat K x → mapW (fun d kk => bindW t d (wipeR ρ t.slots) fun ρ' => wpTs c.NM c.AT c.Φ c.Γ [] ρ' (fun b => if b = true then wpE c.NM c.AT c.Φ c.Γ e ρ' (fun y => kk (some y)) (fun _ => False) else kk none) fun _ => False) ds kk
section
variable {β : Type} {e : E} {t : Tg} {ds : List D} {Q : List D → Rs β → Prop}
end
theorem re_blt1 {α β : Type} {n : α → D} {m : β → D} {b : Blt} {e : E} {r : Rs α} {g : α → β} (h : RE c e ρ r n) (hg : ∀ a (k : D → Prop), k (m (g a)) → bltW b [n a] k) : RE c (.blt b [e]) ρ (r.bind fun a => .ok (g a)) m := fun k x q => by
  rw [wpE, wpEs_one]
  rw [Rs.sat_bind] at q
  exact h _ _ (Rs.sat_mono q (fun a z => hg a _ z) fun _ z => z)
end
mutual
theorem nice_mono : ∀ {n m : Nat} {d : D}, n ≤ m → nice n d = true → nice m d = true
  | n, m, .int _, _, _ => by cases m <;> rfl
  | n, m, .non, _, _ => by cases m <;> rfl
  | n, m, .str s, _, h => by
    have h' : PyData.strOk s = true := by cases n <;> exact h
    cases m <;> exact h'
  | 0, _, .tup _, _, h => by cases h
  | 0, _, .lst _, _, h => by cases h
  | n + 1, 0, .tup _, l, _ => absurd l (by omega)
  | n + 1, 0, .lst _, l, _ => absurd l (by omega)
  | n + 1, m + 1, .tup xs, l, h => nices_mono (n := n) (m := m) (ds := xs) (by omega) h
  | n + 1, m + 1, .lst xs, l, h => nices_mono (n := n) (m := m) (ds := xs) (by omega) h
  | n, _, .bl _, _, h => by cases n <;> cases h
  | n, _, .ro _, _, h => by cases n <;> cases h
  | n, _, .ins _ _ _, _, h => by cases n <;> cases h
  | n, _, .ty _, _, h => by cases n <;> cases h
theorem nices_mono : ∀ {n m : Nat} {ds : List D}, n ≤ m → nices n ds = true → nices m ds = true
  | _, _, [], _, _ => rfl
  | n, m, x :: xs, l, h => by
    rw [nices, Bool.and_eq_true] at *
    exact ⟨nice_mono l h.1, nices_mono l h.2⟩
end
class EqE {α : Type} (n : α → D) (m : outParam Nat) : Prop where
  inj : ∀ a b, n a = n b → a = b
  nice : ∀ a, nice m (n a) = true
  nn : ∀ a, n a ≠ .non
instance : EqE D.int 0 := ⟨fun a b h => by injection h, fun _ => rfl, fun _ h => nomatch h⟩
theorem ns1 {m k : Nat} {d : D} {ds : List D} (h : nice m d = true) (g : nices k ds = true) : nices (max m k) (d :: ds) = true := by
  rw [nices, Bool.and_eq_true]
  exact ⟨nice_mono (Nat.le_max_left ..) h, nices_mono (Nat.le_max_right ..) g⟩
theorem ns0 : nices 0 [] = true := rfl
instance {α β : Type} {n : α → D} {m : β → D} {i j : Nat} [h : EqE n i] [g : EqE m j] : EqE (d2 n m) (max i (max j 0) + 1) where
  inj := fun a b e => by
    unfold d2 at e
    injection e with e
    injection e with e1 e2
    injection e2 with e2 _
    exact Prod.ext (h.inj _ _ e1) (g.inj _ _ e2)
  nice := fun a => ns1 (h.nice _) (ns1 (g.nice _) ns0)
  nn := fun _ h => nomatch h
instance {α β γ : Type} {n : α → D} {m : β → D} {o : γ → D} {i j k : Nat} [h : EqE n i] [g : EqE m j] [f : EqE o k] : EqE (d3 n m o) (max i (max j (max k 0)) + 1) where
  inj := fun a b e => by
    unfold d3 at e
    injection e with e
    injection e with e1 e2
    injection e2 with e2 e3
    injection e3 with e3 _
    exact Prod.ext (h.inj _ _ e1) (Prod.ext (g.inj _ _ e2) (f.inj _ _ e3))
  nice := fun a => ns1 (h.nice _) (ns1 (g.nice _) (ns1 (f.nice _) ns0))
  nn := fun _ h => nomatch h
instance {α β γ δ : Type} {n : α → D} {m : β → D} {o : γ → D} {u : δ → D} {i j k l : Nat} [h : EqE n i] [g : EqE m j] [f : EqE o k] [q : EqE u l] : EqE (d4 n m o u) (max i (max j (max k (max l 0))) + 1) where
  inj := fun a b e => by
    unfold d4 at e
    injection e with e
    injection e with e1 e2
    injection e2 with e2 e3
    injection e3 with e3 e4
    injection e4 with e4 _
    exact Prod.ext (h.inj _ _ e1) (Prod.ext (g.inj _ _ e2) (Prod.ext (f.inj _ _ e3) (q.inj _ _ e4)))
  nice := fun a => ns1 (h.nice _) (ns1 (g.nice _) (ns1 (f.nice _) (ns1 (q.nice _) ns0)))
  nn := fun _ h => nomatch h
instance : EqE dIv 1 := inferInstanceAs (EqE (d2 D.int D.int) 1)
instance : EqE dPt 1 := inferInstanceAs (EqE (d3 D.int D.int D.int) 1)
instance : EqE dBox 2 := inferInstanceAs (EqE (d3 dIv dIv dIv) 2)
theorem nices_map {α : Type} {n : α → D} {i : Nat} [h : EqE n i] : ∀ {l : List α}, nices i (l.map n) = true
  | [] => rfl
  | a :: l => by
    show nices i (n a :: l.map n) = true
    rw [nices, Bool.and_eq_true]
    exact ⟨h.nice a, nices_map⟩
theorem map_inj {α : Type} {n : α → D} {i : Nat} [h : EqE n i] : ∀ {l l' : List α}, l.map n = l'.map n → l = l'
  | [], [], _ => rfl
  | [], _ :: _, e => nomatch e
  | _ :: _, [], e => nomatch e
  | a :: l, b :: l', e => by
    injection e with e1 e2
    rw [h.inj _ _ e1, map_inj e2]
instance {α : Type} {n : α → D} {i : Nat} [h : EqE n i] : EqE (dL n) (i + 1) where
  inj := fun a b e => by
    unfold dL at e
    injection e with e
    exact map_inj e
  nice := fun a => nices_map (n := n)
  nn := fun _ h => nomatch h
instance {α : Type} {n : α → D} {i : Nat} [h : EqE n i] : EqE (dV n) (i + 1) where
  inj := fun a b e => by
    unfold dV at e
    injection e with e
    exact map_inj e
  nice := fun a => nices_map (n := n)
  nn := fun _ h => nomatch h
class EqO {α : Type} (n : α → D) (m : outParam Nat) : Prop where
  inj : ∀ a b, n a = n b → a = b
  nice : ∀ a, nice m (n a) = true
instance (priority := 500) {α : Type} {n : α → D} {i : Nat} [h : EqE n i] : EqO n i := ⟨h.inj, h.nice⟩
instance : EqO dN 0 := ⟨fun _ _ _ => rfl, fun _ => rfl⟩
instance {α : Type} {n : α → D} {i : Nat} [h : EqE n i] : EqO (dO n) i where
  inj := fun a b e => by
    cases a with
    | none => cases b with
      | none => rfl
      | some b => exact absurd e.symm (h.nn b)
    | some a => cases b with
      | none => exact absurd e (h.nn a)
      | some b => rw [h.inj a b e]
  nice := fun a => by
    cases a with
    | none => show Q.nice i .non = true; cases i <;> rfl
    | some a => exact h.nice a
section
variable {c : Cx} {β : Type} {n : β → D} {rest : List S} {ρ : Env} {r : Rs β} {N B C : Env → Rs β → Prop}
theorem rk_nil (h : N ρ r) : RK c n [] ρ r N B C := fun d K hK hN hB hC q => by rw [wpSs]; exact hN _ _ h q
theorem rk_asg {α : Type} {i : Nat} {e : E} {re : Rs α} {m : α → D} {f : α → Rs β} {g : α → Env} (h : RE c e ρ re m) (hg : ∀ a, ρ.set i (.val (m a)) = g a) (k : ∀ a, RK c n rest (g a) (f a) N B C) : RK c n (.asg (.nm i) e :: rest) ρ (re.bind f) N B C := fun d K hK hN hB hC q => by
  rw [Rs.sat_bind] at q
  rw [wpSs, wpS]
  refine h _ _ (Rs.sat_mono q (fun a z => ?_) fun e z => z ρ)
  rw [bindW]
  have := k a d K hK hN hB hC z
  rw [← hg] at this
  exact this
theorem rk_asgp {i : Nat} {e : E} {v : D} {ρ' : Env} (h : RP c e ρ v) (hg : ρ.set i (.val v) = ρ') (k : RK c n rest ρ' r N B C) : RK c n (.asg (.nm i) e :: rest) ρ r N B C := fun d K hK hN hB hC q => by
  rw [wpSs, wpS]
  refine h _ _ ?_
  rw [bindW, hg]
  exact k d K hK hN hB hC q
theorem rk_tgt {α : Type} {t : Tg} {e : E} {re : Rs α} {m : α → D} {f : α → Rs β} {g : α → Env} (h : RE c e ρ re m) (hg : ∀ a, bindR t (m a) ρ = some (g a)) (k : ∀ a, RK c n rest (g a) (f a) N B C) : RK c n (.asg t e :: rest) ρ (re.bind f) N B C := fun d K hK hN hB hC q => by
  rw [Rs.sat_bind] at q
  rw [wpSs, wpS]
  refine h _ _ (Rs.sat_mono q (fun a z => ?_) fun e z => z ρ)
  exact bindR_k _ _ _ _ _ (hg a) (k a d K hK hN hB hC z)
theorem rk_newp {i : Nat} {e : E} {ds : List D} {ρ' : Env} (h : RP c e ρ (.lst ds)) (hg : ρ.set i (.own ds) = ρ') (k : RK c n rest ρ' r N B C) : RK c n (.new i e :: rest) ρ r N B C := fun d K hK hN hB hC q => by
  rw [wpSs, wpS]
  refine h _ _ ?_
  show wpSs _ _ _ _ rest (ρ.set i (.own ds)) d
  rw [hg]
  exact k d K hK hN hB hC q
theorem rk_frz {i : Nat} {ds : List D} {ρ' : Env} (h : ρ[i]? = some (.own ds)) (hg : ρ.set i (.val (.lst ds)) = ρ') (k : RK c n rest ρ' r N B C) : RK c n (.frz i :: rest) ρ r N B C := fun d K hK hN hB hC q => by
  rw [wpSs, wpS]
  show wpSs _ _ _ _ rest (frzR ρ i) d
  rw [frzR, h]
  show wpSs _ _ _ _ rest (ρ.set i (.val (.lst ds))) d
  rw [hg]
  exact k d K hK hN hB hC q
def pushR {α : Type} (l : List α) (a : α) : Rs (List α) := if l.length < sizeLine then .ok (l ++ [a]) else .no
theorem rk_app {α : Type} {m : α → D} {i : Nat} {e : E} {re : Rs α} {l : List α} {f : List α → Rs β} {g : List α → Env} (hi : ρ[i]? = some (.own (l.map m))) (h : RE c e ρ re m) (hg : ∀ l', ρ.set i (.own (l'.map m)) = g l') (k : ∀ l', RK c n rest (g l') (f l') N B C) : RK c n (.app i e :: rest) ρ (re.bind fun a => (pushR l a).bind f) N B C := fun d K hK hN hB hC q => by
  rw [Rs.sat_bind] at q
  rw [wpSs, wpS, hi]
  refine h _ _ (Rs.sat_mono q (fun a z => ?_) fun e z => z ρ)
  rw [Rs.sat_bind] at z
  unfold pushR at z
  obtain ⟨z1, z2⟩ := sat_if (k := fun l' => (f l').sat _ _) z
  refine ⟨by rw [List.length_map]; exact z1, ?_⟩
  rw [show l.map m ++ [m a] = (l ++ [a]).map m by rw [List.map_append]; rfl]
  show wpSs _ _ _ _ rest (ρ.set i (.own ((l ++ [a]).map m))) d
  rw [hg]
  exact k _ d K hK hN hB hC z2
theorem rk_appp {α : Type} {m : α → D} {i : Nat} {e : E} {a : α} {l : List α} {f : List α → Rs β} {g : List α → Env} (hi : ρ[i]? = some (.own (l.map m))) (h : RP c e ρ (m a)) (hg : ∀ l', ρ.set i (.own (l'.map m)) = g l') (k : ∀ l', RK c n rest (g l') (f l') N B C) : RK c n (.app i e :: rest) ρ ((pushR l a).bind f) N B C := rk_app (re := .ok a) hi (re_p h) hg k
def setR {α : Type} (l : List α) (i : Int) (a : α) : Rs (List α) := match ixN l.length i with
  | some m => .ok (l.set m a)
  | none => .no
theorem rk_exp {α : Type} {e : E} {re : Rs α} {m : α → D} {f : α → Rs β} (h : RE c e ρ re m) (k : ∀ a, RK c n rest ρ (f a) N B C) : RK c n (.exp e :: rest) ρ (re.bind f) N B C := fun d K hK hN hB hC q => by
  rw [Rs.sat_bind] at q
  rw [wpSs, wpS]
  exact h _ _ (Rs.sat_mono q (fun a z => k a d K hK hN hB hC z) fun e z => z ρ)
theorem rk_ret {e : E} (hR : c.RR) (h : RE c e ρ r n) : RK c n (.ret e :: rest) ρ r N B C := fun d K hK hN hB hC q => by
  rw [wpSs, wpS]
  exact h _ _ (Rs.sat_mono q (fun a z => hK hR a z) fun e z => z ρ)
theorem rk_retp {e : E} {a : β} (hR : c.RR) (h : RP c e ρ (n a)) : RK c n (.ret e :: rest) ρ (.ok a) N B C := rk_ret hR (re_p h)
theorem rk_nev : RK c n (.nev :: rest) ρ .no N B C := fun d K hK hN hB hC q => q.elim
theorem rk_ifu {t : T} {p : Prop} [Decidable p] {a b : List S} {x y : Rs β} (h : RU c t ρ p) (ha : p → RK c n a ρ x (NR c n rest N B C) B C) (hb : ¬p → RK c n b ρ y (NR c n rest N B C) B C) : RK c n (.ite t a b :: rest) ρ (cnd p x y) N B C := fun d K hK hN hB hC q => by
  unfold cnd at q
  rw [wpSs, wpS]
  refine h _ _ ?_
  by_cases z : p
  · rw [decide_eq_true z, if_pos rfl]
    rw [if_pos z] at q
    exact ha z ⟨fun ρ' => wpSs c.NM c.AT c.Φ c.Γ rest ρ' d, d.rt, d.bk, d.ct, d.er⟩ K hK (fun ρ' r' w1 w2 => w1 d K hK hN hB hC w2) hB hC q
  · rw [decide_eq_false z, if_neg (fun h => nomatch h)]
    rw [if_neg z] at q
    exact hb z ⟨fun ρ' => wpSs c.NM c.AT c.Φ c.Γ rest ρ' d, d.rt, d.bk, d.ct, d.er⟩ K hK (fun ρ' r' w1 w2 => w1 d K hK hN hB hC w2) hB hC q
theorem rk_ite {t : T} {rt : Rs Bool} {a b : List S} {x y : Rs β} (h : RT c t ρ rt) (ha : RK c n a ρ x (NR c n rest N B C) B C) (hb : RK c n b ρ y (NR c n rest N B C) B C) : RK c n (.ite t a b :: rest) ρ (iteR rt x y) N B C := fun d K hK hN hB hC q => by
  rw [wpSs, wpS]
  unfold iteR at q
  rw [Rs.sat_bind] at q
  refine h _ _ (Rs.sat_mono q (fun b z => ?_) fun e z => z ρ)
  cases b with
  | true => exact ha ⟨fun ρ' => wpSs c.NM c.AT c.Φ c.Γ rest ρ' d, d.rt, d.bk, d.ct, d.er⟩ K hK (fun ρ' r' w1 w2 => w1 d K hK hN hB hC w2) hB hC z
  | false => exact hb ⟨fun ρ' => wpSs c.NM c.AT c.Φ c.Γ rest ρ' d, d.rt, d.bk, d.ct, d.er⟩ K hK (fun ρ' r' w1 w2 => w1 d K hK hN hB hC w2) hB hC z
def mtO {α γ : Type} (o : Option α) (x : Rs γ) (y : α → Rs γ) (_ : Tag x := .mk) (_ : Tag y := .mk) : Rs γ := match o with
  | none => x
  | some a => y a
theorem set_same {i : Nat} {s : Sl} (h : ρ[i]? = some s) : ρ.set i s = ρ := by
  apply List.ext_getElem?
  intro j
  rw [List.getElem?_set]
  split
  · rename_i e
    subst e
    split
    · exact h.symm
    · rename_i z
      rw [List.getElem?_eq_none (by omega)]
  · rfl
def forC0 {α σ : Type} (F : α → σ → (σ → Rs β) → (σ → Rs β) → Rs β) (k : σ → Rs β) : List α → σ → Rs β
  | [], s => k s
  | a :: l, s => F a s (fun s' => forC0 F k l s') k
def forC {α σ : Type} (F : α → σ → (σ → Rs β) → (σ → Rs β) → Rs β) (k : σ → Rs β) (l : List α) (s : σ) (_ : Tag F := .mk) (_ : Tag k := .mk) : Rs β := forC0 F k l s
theorem rk_for {α σ J : Type} {m : α → D} {t : Tg} {it : It} {b : List S} {l : List α} (E : σ → J → Env) (F : α → σ → (σ → Rs β) → (σ → Rs β) → Rs β) {k : σ → Rs β} {s0 : σ} {j0 : J} (hi : RI c it ρ (l.map m)) (h0 : ρ = E s0 j0)
    (hb : ∀ a s j (nx bk : σ → Rs β), ∃ ρ', bindR t (m a) (E s j) = some ρ' ∧ RK c n b ρ' (F a s nx bk) (NX E nx) (NX E bk) (NX E nx))
    (hr : ∀ s j, RK c n rest (E s j) (k s) N B C) : RK c n (.for_ t it b :: rest) ρ (forC F k l s0) N B C := fun d K hK hN hB hC q => by
  rw [wpSs, wpS]
  refine hi _ _ ?_
  subst h0
  clear hi
  have main : ∀ (l : List α) (s : σ) (j : J), (forC0 F k l s).sat K (fun e => ∀ q, d.er e q) → forW (fun v ρ' d' => bindW t v ρ' fun ρ'' => wpSs c.NM c.AT c.Φ c.Γ b ρ'' d') (l.map m) (E s j) ⟨fun ρ' => wpSs c.NM c.AT c.Φ c.Γ rest ρ' d, d.rt, d.bk, d.ct, d.er⟩ := by
    intro l
    induction l with
    | nil => exact fun s j q => hr s j d K hK hN hB hC q
    | cons a l ih =>
      intro s j q
      obtain ⟨ρ', h1, h2⟩ := hb a s j (fun s' => forC0 F k l s') k
      refine bindR_k _ _ _ _ _ h1 ?_
      refine h2 ⟨fun ρ' => forW (fun v ρ' d' => bindW t v ρ' fun ρ'' => wpSs c.NM c.AT c.Φ c.Γ b ρ'' d') (l.map m) ρ' ⟨fun ρ' => wpSs c.NM c.AT c.Φ c.Γ rest ρ' d, d.rt, d.bk, d.ct, d.er⟩, d.rt, fun ρ' => wpSs c.NM c.AT c.Φ c.Γ rest ρ' d, fun ρ' => forW (fun v ρ' d' => bindW t v ρ' fun ρ'' => wpSs c.NM c.AT c.Φ c.Γ b ρ'' d') (l.map m) ρ' ⟨fun ρ' => wpSs c.NM c.AT c.Φ c.Γ rest ρ' d, d.rt, d.bk, d.ct, d.er⟩, d.er⟩ K hK ?_ ?_ ?_ q
      · rintro ρ' r' ⟨s', j', rfl, rfl⟩ q'
        exact ih s' j' q'
      · rintro ρ' r' ⟨s', j', rfl, rfl⟩ q'
        exact hr s' j' d K hK hN hB hC q'
      · rintro ρ' r' ⟨s', j', rfl, rfl⟩ q'
        exact ih s' j' q'
  exact main l s0 j0 q
theorem rk_fore {α σ J : Type} {m : α → D} {t : Tg} {it : It} {b : List S} {ri : Rs (List α)} (E : σ → J → Env) (F : α → σ → (σ → Rs β) → (σ → Rs β) → Rs β) {k : σ → Rs β} {s0 : σ} {j0 : J} (hi : RIE c it ρ ri m) (h0 : ρ = E s0 j0)
    (hb : ∀ a s j (nx bk : σ → Rs β), ∃ ρ', bindR t (m a) (E s j) = some ρ' ∧ RK c n b ρ' (F a s nx bk) (NX E nx) (NX E bk) (NX E nx))
    (hr : ∀ s j, RK c n rest (E s j) (k s) N B C) : RK c n (.for_ t it b :: rest) ρ (ri.bind fun l => forC F k l s0) N B C := fun d K hK hN hB hC q => by
  rw [Rs.sat_bind] at q
  rw [wpSs, wpS]
  refine hi _ _ (Rs.sat_mono q (fun l z => ?_) fun e z => z ρ)
  have := rk_for (c := c) (n := n) (ρ := ρ) (it := .ex (.cst (.lst (l.map m)))) (N := N) (B := B) (C := C) (rest := rest) (t := t) (b := b) E F (k := k) (s0 := s0) (j0 := j0) (l := l) (m := m) (ri_lst rp_cst) h0 hb hr d K hK hN hB hC z
  rw [wpSs, wpS, wi_ex, wpE] at this
  exact this
def whlN0 {σ : Type} (cnd : σ → Rs Bool) (F : σ → (σ → Rs β) → (σ → Rs β) → Rs β) (k : σ → Rs β) : Nat → σ → Rs β
  | 0, _ => .no
  | m + 1, s => (cnd s).bind fun b => if b = true then F s (fun s' => whlN0 cnd F k m s') k else k s
def whlN {σ : Type} (cnd : σ → Rs Bool) (F : σ → (σ → Rs β) → (σ → Rs β) → Rs β) (k : σ → Rs β) (m : Nat) (s : σ) (_ : Tag cnd := .mk) (_ : Tag F := .mk) (_ : Tag k := .mk) : Rs β := whlN0 cnd F k m s
theorem rk_jn {σ J : Type} {s : S} (E : σ → J → Env) (f : σ → Rs β) (hJ : ∀ s j, RK c n rest (E s j) (f s) N B C) (h : (∀ s j, RK c n rest (E s j) (f s) N B C) → RK c n (s :: rest) ρ r N B C) : RK c n (s :: rest) ρ r N B C := h hJ
theorem rp_powc {a b : E} {x y v : Int} (h : RP c a ρ (.int x)) (g : RP c b ρ (.int y)) (w : CPowQ x y) (e : x ^ y.toNat = v) : RP c (.bin .pow a b) ρ (.int v) := fun k z q => by
  rw [wpE]
  refine h _ _ (g _ _ ⟨w, ?_⟩)
  rw [e]; exact q
def NN (n : β → D) : Env → Rs β → Prop := fun _ r => ∃ v, r = .ok v ∧ n v = .non
def NI (a : Nat) (n : β → D) : Env → Rs β → Prop := fun ρ r => ∃ v ks xs rest, r = .ok v ∧ ρ = .obj a ks xs :: rest ∧ n v = .ins a ks xs
theorem fin_f {ss : List S} (h : RK c n ss ρ r (NN n) F0 F0) {kd : D → Prop} {kx : Exc → Prop} (q : r.sat (fun v => kd (n v)) kx) : wpSs c.NM c.AT c.Φ c.Γ ss ρ { nx := fun _ => kd .non, rt := kd, bk := fun _ => False, ct := fun _ => False, er := fun x _ => kx x } :=
  h _ (fun v => kd (n v)) (fun _ _ z => z) (fun ρ' r' ⟨v, e, w⟩ z => by
    subst e
    show kd .non
    rw [← w]; exact z) (fun _ _ z => z.elim) (fun _ _ z => z.elim) (Rs.sat_mono q (fun _ z => z) fun _ z _ => z)
end
end
end M
end Q
namespace Q
open PySem PySem.Spec L2
end Q
namespace Q
namespace M
open PySem PySem.Spec L2
noncomputable section
def ixsR (s : Str) (i : Int) : Rs Str := if s.length ≤ sizeLine then (match ixS s i with
  | some c => .ok ⟨#[c]⟩
  | none => .no) else .no
def chsR (s : Str) : Rs (List Str) := if s.length ≤ sizeLine then .ok (s.cps.toList.map fun c => ⟨#[c]⟩) else .no
section
variable {c : Cx} {ρ : Env}
end
def inS (a b : Str) : Bool := !(Builtin.Str.occurrences b a 0 b.length 1).isEmpty
section
variable {c : Cx} {ρ : Env}
variable {β : Type} {n : β → D} {rest : List S} {N B C : Env → Rs β → Prop}
end
open Classical in
def eqR {α : Type} (n : α → D) (a b : α) : Rs Bool := if Q.nice 32 (n a) = true ∧ Q.nice 32 (n b) = true then .ok (decide (n a = n b)) else .no
open Classical in
def inLR (a : Str) (l : List Str) : Rs Bool := if PyData.strOk a = true ∧ ∀ b ∈ l, PyData.strOk b = true then .ok (decide (a ∈ l)) else .no
section
variable {c : Cx} {ρ : Env} {β : Type} {n : β → D} {rest : List S} {r : Rs β} {N B C : Env → Rs β → Prop} {t u : T} {ts : List T} {a b : List S}
end
def unL2 {α : Type} : List α → Rs (α × α)
  | [a, b] => .ok (a, b)
  | _ => .no
def unL3 {α : Type} : List α → Rs (α × α × α)
  | [a, b, c] => .ok (a, b, c)
  | _ => .no
def unL4 {α : Type} : List α → Rs (α × α × α × α)
  | [a, b, c, d] => .ok (a, b, c, d)
  | _ => .no
section
variable {c : Cx} {ρ : Env}
end
def dl2 {α : Type} (n : α → D) : α × α → D := fun p => .lst [n p.1, n p.2]
def dl3 {α : Type} (n : α → D) : α × α × α → D := fun p => .lst [n p.1, n p.2.1, n p.2.2]
def dl4 {α : Type} (n : α → D) : α × α × α × α → D := fun p => .lst [n p.1, n p.2.1, n p.2.2.1, n p.2.2.2]
section
variable {c : Cx} {ρ : Env}
def ROE (c : Cx) (e : Option E) (ρ : Env) (r : Rs (Option Int)) : Prop := ∀ (k : Option Int → Prop) (x : Exc → Prop), r.sat k x → wpO c.NM c.AT c.Φ c.Γ e ρ k x
theorem qb_catv {α : Type} {n : α → D} {x y : List α} : QB .add (dV n) [.tup (x.map n), .tup (y.map n)] (catR x y) := fun k e q => by
  have := sat_if q
  refine ⟨by rw [List.length_map, List.length_map]; exact this.1, ?_⟩
  rw [← List.map_append]; exact this.2
instance smallDec : ∀ (st : Bool) (d : D), Decidable (smallD st d)
  | st, .int i => (inferInstance : Decidable (i.natAbs.log2 < 1920))
  | st, .non => (inferInstance : Decidable (st = false))
  | st, .bl _ => (inferInstance : Decidable (st = false))
  | st, .str _ => (inferInstance : Decidable (st = false))
  | st, .tup _ => (inferInstance : Decidable (st = false))
  | st, .lst _ => (inferInstance : Decidable (st = false))
  | st, .ro _ => (inferInstance : Decidable (st = false))
  | st, .ins _ _ _ => (inferInstance : Decidable (st = false))
  | st, .ty _ => (inferInstance : Decidable (st = false))
  | st, .fn _ => (inferInstance : Decidable (st = false))
  | st, .kd _ _ _ => (inferInstance : Decidable (st = false))
def erS {β : Type} (k f : Nat) (st : Bool) (d : D) : Rs β := if smallD st d then .er ⟨k, [f], [d]⟩ else .no
def suR {β : Type} (NM : Nam) (x : Exc) (u : D → Rs β) : List Su → Rs β
  | [] => .no
  | .ret w :: _ => match evU NM x w with
    | some d => u d
    | none => .no
  | .ifr v w :: r => match evV NM x v with
    | some true => (match evU NM x w with
      | some d => u d
      | none => .no)
    | some false => suR NM x u r
    | none => .no
def hdR {β : Type} (NM : Nam) (u : D → Rs β) : List Hx → Exc → Rs β
  | [], x => .er x
  | h :: r, x => match subT NM.sub x.c h.c with
    | some true => suR NM x u h.su
    | some false => hdR NM u r x
    | none => .no
def Dec {β : Type} (u : D → Rs β) (n : β → D) : Prop := ∀ d, (∃ b, u d = .ok b ∧ n b = d) ∨ u d = .no
def deS : D → Rs Str
  | .str s => .ok s
  | _ => .no
def deI : D → Rs Int
  | .int i => .ok i
  | _ => .no
def deB : D → Rs Bool
  | .bl i => .ok i
  | _ => .no
def deU : D → Rs Unit
  | .non => .ok ()
  | _ => .no
def deO {α : Type} (u : D → Rs α) : D → Rs (Option α)
  | .non => .ok none
  | d => match u d with
    | .ok a => .ok (some a)
    | .er _ => .no
    | .no => .no
def de2 {α β : Type} (u : D → Rs α) (v : D → Rs β) : D → Rs (α × β)
  | .tup [a, b] => (match u a, v b with
    | .ok x, .ok y => .ok (x, y)
    | _, _ => .no)
  | _ => .no
def deD : D → Rs D := .ok
def tryR {β : Type} (r : Rs β) (h : Exc → Rs β) : Rs β := match r with
  | .ok b => .ok b
  | .er x => h x
  | .no => .no
def tryN {β : Type} (r : Rs Unit) (h : Exc → Rs β) (nx : Rs β) : Rs β := match r with
  | .ok _ => nx
  | .er x => h x
  | .no => .no
def isN : D → Bool
  | .non => true
  | _ => false
def eqDS (a : D) (s : Str) : Rs Bool := match a with
  | .str x => .ok (decide (x = s))
  | .non => if SeqAt.shaped (D.str s).py = true then .ok false else .no
  | .int _ => if SeqAt.shaped (D.str s).py = true then .ok false else .no
  | _ => .no
end
end
end M
end Q
namespace Q
namespace M
open PySem PySem.Spec L2
noncomputable section
class Inj {α : Type} (n : α → D) : Prop where
  inj : ∀ a b, n a = n b → a = b
instance : Inj D.int := ⟨fun a b h => by injection h⟩
instance : Inj D.str := ⟨fun a b h => by injection h⟩
instance : Inj D.bl := ⟨fun a b h => by injection h⟩
instance : Inj D.fn := ⟨fun a b h => by injection h⟩
instance : Inj dD := ⟨fun _ _ h => h⟩
instance : Inj dN := ⟨fun _ _ _ => rfl⟩
theorem inj_map {α : Type} {n : α → D} [h : Inj n] : ∀ {l l' : List α}, l.map n = l'.map n → l = l'
  | [], [], _ => rfl
  | [], _ :: _, q => by cases q
  | _ :: _, [], q => by cases q
  | a :: l, b :: l', q => by
    have q' : n a :: l.map n = n b :: l'.map n := q
    injection q' with q1 q2
    rw [h.inj _ _ q1, inj_map q2]
instance {α : Type} {n : α → D} [Inj n] : Inj (dL n) := ⟨fun a b h => inj_map (by injection h)⟩
instance {α : Type} {n : α → D} [Inj n] : Inj (dV n) := ⟨fun a b h => inj_map (by injection h)⟩
instance {α : Type} {n : α → D} [Inj n] : Inj (dR n) := ⟨fun a b h => inj_map (by injection h)⟩
instance {α β : Type} {m : α → D} {n : β → D} [x : Inj m] [y : Inj n] : Inj (d2 m n) := ⟨fun a b h => by
  have h' : D.tup [m a.1, n a.2] = D.tup [m b.1, n b.2] := h
  simp only [D.tup.injEq, List.cons.injEq, and_true] at h'
  exact Prod.ext (x.inj _ _ h'.1) (y.inj _ _ h'.2)⟩
instance {α β γ : Type} {m : α → D} {n : β → D} {o : γ → D} [x : Inj m] [y : Inj n] [z : Inj o] : Inj (d3 m n o) := ⟨fun a b h => by
  have h' : D.tup [m a.1, n a.2.1, o a.2.2] = D.tup [m b.1, n b.2.1, o b.2.2] := h
  simp only [D.tup.injEq, List.cons.injEq, and_true] at h'
  exact Prod.ext (x.inj _ _ h'.1) (Prod.ext (y.inj _ _ h'.2.1) (z.inj _ _ h'.2.2))⟩
instance {α β γ δ : Type} {m : α → D} {n : β → D} {o : γ → D} {q : δ → D} [x : Inj m] [y : Inj n] [z : Inj o] [w : Inj q] : Inj (d4 m n o q) := ⟨fun a b h => by
  have h' : D.tup [m a.1, n a.2.1, o a.2.2.1, q a.2.2.2] = D.tup [m b.1, n b.2.1, o b.2.2.1, q b.2.2.2] := h
  simp only [D.tup.injEq, List.cons.injEq, and_true] at h'
  exact Prod.ext (x.inj _ _ h'.1) (Prod.ext (y.inj _ _ h'.2.1) (Prod.ext (z.inj _ _ h'.2.2.1) (w.inj _ _ h'.2.2.2)))⟩
instance : Inj dIv := inferInstanceAs (Inj (d2 D.int D.int))
instance : Inj dPt := inferInstanceAs (Inj (d3 D.int D.int D.int))
instance : Inj dBox := inferInstanceAs (Inj (d3 dIv dIv dIv))
instance : Inj dBody := ⟨fun a b h => by
  obtain ⟨a1, a2, a3⟩ := a
  obtain ⟨b1, b2, b3⟩ := b
  simp only [dBody, D.ins.injEq, List.cons.injEq, and_true, true_and, D.int.injEq] at h
  obtain ⟨h1, h2, h3⟩ := h
  rw [h1, h2, Inj.inj (n := dPt) _ _ h3]⟩
instance : Inj dBurn := ⟨fun a b h => by
  obtain ⟨a1, a2, a3⟩ := a
  obtain ⟨b1, b2, b3⟩ := b
  simp only [dBurn, D.ins.injEq, List.cons.injEq, and_true, true_and, D.int.injEq] at h
  obtain ⟨h1, h2, h3⟩ := h
  rw [h1, h2, Inj.inj (n := dBox) _ _ h3]⟩
instance : Inj dSight := ⟨fun a b h => by
  obtain ⟨a1, a2⟩ := a
  obtain ⟨b1, b2⟩ := b
  simp only [dSight, D.ins.injEq, List.cons.injEq, and_true, true_and, D.int.injEq] at h
  rw [h.1, Inj.inj (n := dBox) _ _ h.2]⟩
instance : Inj dStt := ⟨fun a b h => by
  obtain ⟨a1, a2⟩ := a
  obtain ⟨b1, b2⟩ := b
  simp only [dStt, D.ins.injEq, List.cons.injEq, and_true, true_and] at h
  rw [Inj.inj (n := dBox) _ _ h.1, Inj.inj (n := dBox) _ _ h.2]⟩
instance : Inj dCraft := ⟨fun a b h => by
  obtain ⟨a1, a2, a3, a4, a5, a6, a7⟩ := a
  obtain ⟨b1, b2, b3, b4, b5, b6, b7⟩ := b
  simp only [dCraft, D.ins.injEq, List.cons.injEq, and_true, true_and, D.int.injEq, D.str.injEq, D.tup.injEq] at h
  obtain ⟨h1, h2, h3, h4, h5, h6, h7⟩ := h
  rw [h1, h2, Inj.inj (n := dBox) _ _ h3, Inj.inj (n := dBox) _ _ h4, h5, inj_map h6, inj_map h7]⟩
instance : Inj dSite := ⟨fun a b h => by
  obtain ⟨a1, a2⟩ := a
  obtain ⟨b1, b2⟩ := b
  simp only [dSite, D.ins.injEq, List.cons.injEq, and_true, true_and, D.str.injEq] at h
  rw [h.1, Inj.inj (n := dPt) _ _ h.2]⟩
instance : Inj dConts := ⟨fun a b h => by
  obtain ⟨a1, a2, a3, a4, a5⟩ := a
  obtain ⟨b1, b2, b3, b4, b5⟩ := b
  simp only [dConts, D.ins.injEq, List.cons.injEq, and_true, true_and, D.int.injEq, D.tup.injEq] at h
  obtain ⟨h1, h2, h3, h4, h5⟩ := h
  rw [Inj.inj (n := dBody) _ _ h1, h2, h3, inj_map h4, inj_map h5]⟩
instance : Inj dMom := ⟨fun a b h => by
  obtain ⟨a1, a2⟩ := a
  obtain ⟨b1, b2⟩ := b
  simp only [dMom, D.ins.injEq, List.cons.injEq, and_true, true_and, D.int.injEq, D.lst.injEq] at h
  rw [h.1, inj_map h.2]⟩
open Classical in
def un {α : Type} (n : α → D) (d : D) : Rs α := if h : ∃ a, n a = d then .ok (Classical.choose h) else .no
mutual
def nb : Nat → D → Bool
  | _, .int _ => true
  | _, .bl _ => true
  | _, .non => true
  | _, .str s => PyData.strOk s
  | n + 1, .tup xs => nbs n xs
  | n + 1, .lst xs => nbs n xs
  | _, _ => false
def nbs : Nat → List D → Bool
  | _, [] => true
  | n, x :: xs => nb n x && nbs n xs
end
mutual
theorem nb_lay : ∀ {n : Nat} {d : D}, nb n d = true → d.py.canLay0 = true ∧ d.py.depth ≤ n
  | n, .non, _ => by cases n <;> exact ⟨rfl, Nat.zero_le _⟩
  | n, .int _, _ => by cases n <;> exact ⟨rfl, Nat.zero_le _⟩
  | n, .bl _, _ => by cases n <;> exact ⟨rfl, Nat.zero_le _⟩
  | n, .str s, h => by
    have h' : PyData.strOk s = true := by cases n <;> exact h
    cases n <;> exact ⟨h', Nat.zero_le _⟩
  | 0, .tup _, h => by cases h
  | 0, .lst _, h => by cases h
  | n + 1, .tup xs, h => by
    have q := nbs_lay (n := n) (ds := xs) h
    exact ⟨q.1, Nat.succ_le_succ q.2⟩
  | n + 1, .lst xs, h => by
    have q := nbs_lay (n := n) (ds := xs) h
    exact ⟨q.1, Nat.succ_le_succ q.2⟩
  | n, .ro _, h => by cases n <;> cases h
  | n, .ins _ _ _, h => by cases n <;> cases h
  | n, .ty _, h => by cases n <;> cases h
  | n, .fn _, h => by cases n <;> cases h
  | n, .kd _ _ _, h => by cases n <;> cases h
theorem nbs_lay : ∀ {n : Nat} {ds : List D}, nbs n ds = true → PyData.canLayAll0 (D.py.pys ds) = true ∧ PyData.depthAll (D.py.pys ds) ≤ n
  | _, [], _ => ⟨rfl, Nat.zero_le _⟩
  | n, x :: xs, h => by
    have h' : (nb n x && nbs n xs) = true := h
    obtain ⟨h1, h2⟩ := Bool.and_eq_true_iff.mp h'
    have q1 := nb_lay h1
    have q2 := nbs_lay h2
    refine ⟨?_, ?_⟩
    · show (x.py.canLay0 && PyData.canLayAll0 (D.py.pys xs)) = true
      rw [q1.1, q2.1]; rfl
    · show max x.py.depth (PyData.depthAll (D.py.pys xs)) ≤ n
      exact Nat.max_le.mpr ⟨q1.2, q2.2⟩
end
class EqP {α : Type} (n : α → D) : Prop where
  dist : ∀ a b, PyData.eqv (n a).py (n b).py = true → n a = n b
instance : EqP D.int := ⟨fun a b h => by have h' : (a == b) = true := h; rw [eq_of_beq h']⟩
instance : EqP D.bl := ⟨fun a b h => by have h' : (a == b) = true := h; rw [eq_of_beq h']⟩
instance : EqP D.str := ⟨fun a b h => by have h' : (a == b) = true := h; rw [eq_of_beq h']⟩
instance : EqP dN := ⟨fun _ _ _ => rfl⟩
theorem eqp_all {α : Type} {n : α → D} [h : EqP n] : ∀ {l m : List α}, PyData.eqvAll (D.py.pys (l.map n)) (D.py.pys (m.map n)) = true → l.map n = m.map n
  | [], [], _ => rfl
  | [], _ :: _, q => by cases q
  | _ :: _, [], q => by cases q
  | a :: l, b :: m, q => by
    obtain ⟨q1, q2⟩ := Bool.and_eq_true_iff.mp (show (PyData.eqv (n a).py (n b).py && PyData.eqvAll (D.py.pys (l.map n)) (D.py.pys (m.map n))) = true from q)
    rw [List.map_cons, List.map_cons, h.dist _ _ q1, eqp_all q2]
instance {α : Type} {n : α → D} [EqP n] : EqP (dL n) := ⟨fun a b h => congrArg D.lst (eqp_all h)⟩
instance {α : Type} {n : α → D} [EqP n] : EqP (dV n) := ⟨fun a b h => congrArg D.tup (eqp_all h)⟩
class NoN {α : Type} (n : α → D) : Prop where
  ne : ∀ a, ∀ e : PyData, e = (n a).py → PyData.eqv .none e = false ∧ PyData.eqv e .none = false
instance : NoN D.int := ⟨fun a e h => by subst h; exact ⟨rfl, rfl⟩⟩
instance : NoN D.bl := ⟨fun a e h => by subst h; exact ⟨rfl, rfl⟩⟩
instance : NoN D.str := ⟨fun a e h => by subst h; exact ⟨rfl, rfl⟩⟩
instance {α β : Type} {m : α → D} {n : β → D} : NoN (d2 m n) := ⟨fun a e h => by subst h; exact ⟨rfl, rfl⟩⟩
instance {α β γ : Type} {m : α → D} {n : β → D} {o : γ → D} : NoN (d3 m n o) := ⟨fun a e h => by subst h; exact ⟨rfl, rfl⟩⟩
instance {α : Type} {n : α → D} : NoN (dL n) := ⟨fun a e h => by subst h; exact ⟨rfl, rfl⟩⟩
instance {α : Type} {n : α → D} : NoN (dV n) := ⟨fun a e h => by subst h; exact ⟨rfl, rfl⟩⟩
instance : NoN dIv := inferInstanceAs (NoN (d2 D.int D.int))
instance : NoN dBox := inferInstanceAs (NoN (d3 dIv dIv dIv))
instance {α : Type} {n : α → D} [h : EqP n] [g : NoN n] : EqP (dO n) := ⟨fun a b q => by
  cases a <;> cases b
  · rfl
  · rename_i b
    have := (g.ne b _ rfl).1
    rw [show PyData.eqv (dO n none).py (dO n (some b)).py = PyData.eqv .none (n b).py from rfl, this] at q
    cases q
  · rename_i a
    have := (g.ne a _ rfl).2
    rw [show PyData.eqv (dO n (some a)).py (dO n none).py = PyData.eqv (n a).py .none from rfl, this] at q
    cases q
  · exact h.dist _ _ q⟩
theorem eqp_cons {a c : D} {l m : List D} (h : PyData.eqvAll (D.py.pys (a :: l)) (D.py.pys (c :: m)) = true) : PyData.eqv a.py c.py = true ∧ PyData.eqvAll (D.py.pys l) (D.py.pys m) = true :=
  Bool.and_eq_true_iff.mp (show (PyData.eqv a.py c.py && PyData.eqvAll (D.py.pys l) (D.py.pys m)) = true from h)
instance {α β : Type} {m : α → D} {n : β → D} [x : EqP m] [y : EqP n] : EqP (d2 m n) := ⟨fun a b h => by
  obtain ⟨h1, h⟩ := eqp_cons (show PyData.eqvAll (D.py.pys [m a.1, n a.2]) (D.py.pys [m b.1, n b.2]) = true from h)
  obtain ⟨h2, _⟩ := eqp_cons h
  show D.tup [m a.1, n a.2] = D.tup [m b.1, n b.2]
  rw [x.dist _ _ h1, y.dist _ _ h2]⟩
instance {α β γ : Type} {m : α → D} {n : β → D} {o : γ → D} [x : EqP m] [y : EqP n] [z : EqP o] : EqP (d3 m n o) := ⟨fun a b h => by
  obtain ⟨h1, h⟩ := eqp_cons (show PyData.eqvAll (D.py.pys [m a.1, n a.2.1, o a.2.2]) (D.py.pys [m b.1, n b.2.1, o b.2.2]) = true from h)
  obtain ⟨h2, h⟩ := eqp_cons h
  obtain ⟨h3, _⟩ := eqp_cons h
  show D.tup [m a.1, n a.2.1, o a.2.2] = D.tup [m b.1, n b.2.1, o b.2.2]
  rw [x.dist _ _ h1, y.dist _ _ h2, z.dist _ _ h3]⟩
instance {α β γ δ : Type} {m : α → D} {n : β → D} {o : γ → D} {q : δ → D} [x : EqP m] [y : EqP n] [z : EqP o] [w : EqP q] : EqP (d4 m n o q) := ⟨fun a b h => by
  obtain ⟨h1, h⟩ := eqp_cons (show PyData.eqvAll (D.py.pys [m a.1, n a.2.1, o a.2.2.1, q a.2.2.2]) (D.py.pys [m b.1, n b.2.1, o b.2.2.1, q b.2.2.2]) = true from h)
  obtain ⟨h2, h⟩ := eqp_cons h
  obtain ⟨h3, h⟩ := eqp_cons h
  obtain ⟨h4, _⟩ := eqp_cons h
  show D.tup [m a.1, n a.2.1, o a.2.2.1, q a.2.2.2] = D.tup [m b.1, n b.2.1, o b.2.2.1, q b.2.2.2]
  rw [x.dist _ _ h1, y.dist _ _ h2, z.dist _ _ h3, w.dist _ _ h4]⟩
instance : EqP dIv := inferInstanceAs (EqP (d2 D.int D.int))
instance : EqP dPt := inferInstanceAs (EqP (d3 D.int D.int D.int))
instance : EqP dBox := inferInstanceAs (EqP (d3 dIv dIv dIv))
open Classical in
def eqRb {α : Type} (n : α → D) (a b : α) : Rs Bool := if nb 32 (n a) = true ∧ nb 32 (n b) = true then .ok (decide (n a = n b)) else .no
open Classical in
theorem eqRb_same {α : Type} {n : α → D} {a : α} (h : nb 32 (n a) = true) : eqRb n a a = .ok true := by
  unfold eqRb
  rw [if_pos ⟨h, h⟩, decide_eq_true rfl]
open Classical in
theorem eqRb_of {α : Type} {n : α → D} [i : Inj n] [DecidableEq α] {a b : α} (h : nb 32 (n a) = true) (g : nb 32 (n b) = true) : eqRb n a b = .ok (decide (a = b)) := by
  unfold eqRb
  rw [if_pos ⟨h, g⟩]
  exact congrArg Rs.ok (decide_eq_decide.mpr ⟨fun e => i.inj _ _ e, fun e => by rw [e]⟩)
theorem nb_shaped {d : D} (h : nb 32 d = true) : SeqAt.shaped d.py = true := by
  have q := nb_lay h
  unfold SeqAt.shaped
  rw [q.1, decide_eq_true (Nat.le_trans q.2 (by decide))]; rfl
open Classical in
theorem qc_eqRb {α : Type} {n : α → D} [e : EqP n] {a b : α} : QC .eq [n a, n b] (eqRb n a b) := fun k x q => by
  unfold eqRb at q
  by_cases h : nb 32 (n a) = true ∧ nb 32 (n b) = true
  · rw [if_pos h] at q
    have s1 := nb_shaped h.1
    have s2 := nb_shaped h.2
    have ev : PyData.eqv (n a).py (n b).py = decide (n a = n b) := by
      by_cases z : n a = n b
      · rw [decide_eq_true z, z]
        exact SeqAt.eqv_refl _ (SeqAt.canLay_of_shaped s2)
      · rw [decide_eq_false z]
        exact Bool.eq_false_iff.mpr fun y => z (e.dist _ _ y)
    have dist := e.dist a b
    show eqW (n a) (n b) k
    have q' : k (decide (n a = n b)) := q
    rw [← ev] at q'
    generalize n a = d at q' s1 dist ev ⊢
    generalize n b = f at q' s2 dist ev ⊢
    have gen : SeqAt.shaped d.py = true ∧ SeqAt.shaped f.py = true ∧ k (PyData.eqv d.py f.py) := ⟨s1, s2, q'⟩
    cases d <;> cases f <;> first | exact gen | skip
    · rename_i x y
      show k (decide (x = y))
      rw [ev] at q'
      rw [show decide (x = y) = decide (D.bl x = D.bl y) from decide_eq_decide.mpr ⟨fun z => by rw [z], fun z => by injection z⟩]
      exact q'
    · rename_i x y
      show k (decide (x = y))
      rw [ev] at q'
      rw [show decide (x = y) = decide (D.int x = D.int y) from decide_eq_decide.mpr ⟨fun z => by rw [z], fun z => by injection z⟩]
      exact q'
    · rename_i x y
      show k (decide (x = y))
      rw [ev] at q'
      rw [show decide (x = y) = decide (D.str x = D.str y) from decide_eq_decide.mpr ⟨fun z => by rw [z], fun z => by injection z⟩]
      exact q'
  · rw [if_neg h] at q
    exact q.elim
section
variable {c : Cx} {ρ : Env}
def dIdx (d : D) (i : Int) : Rs D := match d with
  | .lst xs => match ixD xs i with
    | some d => .ok d
    | none => .no
  | .tup xs => match ixD xs i with
    | some d => .ok d
    | none => .no
  | .ro xs => match ixD xs i with
    | some d => .ok d
    | none => .no
  | _ => .no
def dLen (d : D) : Rs Int := match d with
  | .lst xs => .ok xs.length
  | .tup xs => .ok xs.length
  | .ro xs => .ok xs.length
  | .str s => slenR s
  | _ => .no
def dSeq (d : D) : Rs (List D) := match d with
  | .lst xs => .ok xs
  | .tup xs => .ok xs
  | .ro xs => .ok xs
  | _ => .no
def QV {α : Type} (c : Cx) (v : Str) (n : α → D) : List D → Rs α → Prop := fun ds r => ∀ (k : D → Prop) (x : Exc → Prop), r.sat (fun a => k (n a)) x → (match c.Φ.find? (fun cal => decide (cal.nm = v) && decide (cal.mt = ("" : Str)) && cal.bw.isEmpty) with
  | some cal => cal.fs (ds ++ cal.dfl) k x
  | none => False)
def fnG (v : Str) (l : List Str) : Rs Unit := if v ∈ l then .ok () else .no
def fnA (c : Cx) (len : Nat) (l : List Str) : Bool := l.all fun v => match c.Φ.find? (fun cal => decide (cal.nm = v) && decide (cal.mt = ("" : Str)) && cal.bw.isEmpty) with
  | some cal => decide (len + cal.dfl.length = cal.ar)
  | none => false
theorem re_calv {α : Type} {i : Nat} {es : List E} {v : Str} {r : Rs α} {n : α → D} {l : List Str} (hi : ρ[i]? = some (.val (.fn v))) (hl : fnA c es.length l = true) (h : RX c es ρ r (QV c v n)) : RE c (.calv i es) ρ ((fnG v l).bind fun _ => r) n := fun k x q => by
  rw [Rs.sat_bind] at q
  unfold fnG at q
  by_cases hv : v ∈ l
  · rw [if_pos hv] at q
    have hz := List.all_eq_true.mp hl v hv
    rw [wpE, hi]
    show (match c.Φ.find? (fun cal => decide (cal.nm = v) && decide (cal.mt = ("" : Str)) && cal.bw.isEmpty) with
      | some cal => es.length + cal.dfl.length = cal.ar ∧ wpEs c.NM c.AT c.Φ c.Γ es ρ (fun ds => cal.fs (ds ++ cal.dfl) k x) x
      | none => False)
    cases hc : c.Φ.find? (fun cal => decide (cal.nm = v) && decide (cal.mt = ("" : Str)) && cal.bw.isEmpty) with
    | none =>
      rw [hc] at hz
      cases hz
    | some cal =>
      rw [hc] at hz
      refine ⟨of_decide_eq_true hz, h (fun ds => cal.fs (ds ++ cal.dfl) k x) (fun a => k (n a)) x (fun ds r' z w => ?_) q⟩
      have z' := z k x w
      rw [hc] at z'
      exact z'
  · rw [if_neg hv] at q
    exact q.elim
def kdR {α : Type} (ks : List Str) (vs : List α) (s : Str) : Rs α := match lookS ks vs s with
  | some v => .ok v
  | none => .no
def joinR (a : Str) (ys : List Str) : Rs Str := if (ys.map (·.length)).sum + ys.length * a.length ≤ 16777216 then .ok (Txt.join a ys) else .no
def splitR (a b : Str) : Rs (List Str) := if (b.length == 0) = false ∧ a.length + 2 ≤ sizeLine then .ok (Txt.split a b) else .no
def lstripR (a b : Str) : Rs Str := if a.length ≤ sizeLine then .ok (Txt.lstripChars a b) else .no
def intSR (a : Str) : Rs Int := if a.length ≤ 640 then (match PySem.intText? a with
  | some n => .ok n
  | none => .no) else .no
def sortSR (l : List Str) : Rs (List Str) := if l.length < 64 then .ok (sortB leS l) else .no
def cutSR (s : Str) (lo hi : Option Int) : Rs Str := if s.length ≤ sizeLine then .ok (cutS s lo hi) else .no
def mulSR (a : Str) (n : Int) : Rs Str := if -(2 ^ 60) ≤ n ∧ n ≤ 2 ^ 60 ∧ a.length * n.toNat ≤ sizeLine ∧ (repS a n).length ≤ sizeLine then .ok (repS a n) else .no
def lrR (a b : Int) : Rs (List Int) := if -(2 ^ 62) ≤ a ∧ a < 2 ^ 62 ∧ -(2 ^ 62) ≤ b ∧ b < 2 ^ 62 ∧ b - a ≤ 16777216 then .ok (rngL a b) else .no
def QLR : List D → Rs (List Int) → Prop := fun ds r => ∀ (k : D → Prop) (x : Exc → Prop), r.sat (fun l => k (.lst (l.map .int))) x → (match ds with
  | [a, b] => lrW a b k
  | _ => False)
theorem re_lrg {a b : E} {r : Rs (List Int)} (h : RX c [a, b] ρ r QLR) : RE c (.lrg a b) ρ r (dL .int) := fun k x q => by
  rw [wpE]
  have := h (fun ds => match ds with
    | [a, b] => lrW a b k
    | _ => False) (fun l => k (dL .int l)) x (fun ds r' z w => z k x w) q
  rw [wpEs_two] at this
  exact this
def Q2 {α : Type} (o : Op2) (n : α → D) : List D → Rs α → Prop := fun ds r => ∀ (k : D → Prop) (x : Exc → Prop), r.sat (fun a => k (n a)) x → (match ds with
  | [.str a, e] => op2W o (.str a) e k
  | _ => False)
theorem re_op2 {α : Type} {o : Op2} {a b : E} {s : Str} {r : Rs α} {n : α → D} (ha : RP c a ρ (.str s)) (h : RX c [b] ρ r fun ds r' => Q2 o n (.str s :: ds) r') : RE c (.op2 o a b) ρ r n := fun k x q => by
  rw [wpE]
  refine ha _ _ ⟨trivial, ?_⟩
  have := h (fun ds => match ds with
    | [e] => op2W o (.str s) e k
    | _ => False) (fun a => k (n a)) x (fun ds r' z w => by
      have z' := z k x w
      match ds, z' with
      | [e], z' => exact z'
      | [], z' => exact z'
      | _ :: _ :: _, z' => exact z') q
  rw [wpEs_one] at this
  exact this
def Q1 {α : Type} (o : Op1) (n : α → D) : D → Rs α → Prop := fun d r => ∀ (k : D → Prop) (x : Exc → Prop), r.sat (fun a => k (n a)) x → op1W o d k
theorem re_op1 {α : Type} {o : Op1} {a : E} {d : D} {r : Rs α} {n : α → D} (ha : RP c a ρ d) (h : Q1 o n d r) : RE c (.op1 o a) ρ r n := fun k x q => by
  rw [wpE]
  exact ha _ _ (h k x q)
def enmL {α : Type} : Nat → List α → List (Int × α)
  | _, [] => []
  | i, x :: r => ((i : Int), x) :: enmL (i + 1) r
theorem enm_map {α : Type} {n : α → D} : ∀ {i : Nat} {l : List α}, enmD i (l.map n) = (enmL i l).map (d2 D.int n)
  | _, [] => rfl
  | i, x :: r => by
    rw [List.map_cons]
    unfold enmD enmL
    rw [enm_map]
    rfl
theorem ri_enm {α : Type} {n : α → D} {e : E} {l : List α} (h : RP c e ρ (dL n l)) : RI c (.enm e) ρ ((enmL 0 l).map (d2 D.int n)) := fun k x q => by
  rw [wpI]
  refine h _ _ ?_
  show k (enmD 0 (l.map n))
  rw [enm_map]; exact q
end
end
end M
end Q
namespace Q
namespace M
open PySem PySem.Spec L2
noncomputable section
section
variable {a b : Int} {n m : Nat}
theorem mulR_ok [h : Bd a n] [g : Bd b m] (l : n + m < 130000000) : mulR a b = .ok (a * b) := if_pos (cmq l)
theorem divR_ok [g : Bd b n] (h : 0 < b) (l : n < 8990) : divR a b = .ok (a / b) := if_pos (cdq h l)
theorem modR_ok (h : 0 < b) : modR a b = .ok (a % b) := if_pos h
theorem isqrtR_ok [g : Bd a n] (h : 0 ≤ a) (l : n < 13460) : isqrtR a = .ok (isq a) := if_pos ⟨h, sqrt_log l⟩
theorem rngR1_ok (h1 : -(2 ^ 62) ≤ b) (h2 : b ≤ 16777216) : rngR1 b = .ok (rngL 0 b) := if_pos ⟨h1, h2⟩
end
theorem rngR1_0 : rngR1 0 = .ok [] := rfl
theorem rngR1_1 : rngR1 1 = .ok [0] := rfl
theorem rngR1_2 : rngR1 2 = .ok [0, 1] := rfl
theorem rngR1_3 : rngR1 3 = .ok [0, 1, 2] := rfl
theorem rngR1_4 : rngR1 4 = .ok [0, 1, 2, 3] := rfl
theorem rngR1_5 : rngR1 5 = .ok [0, 1, 2, 3, 4] := rfl
theorem rngR1_6 : rngR1 6 = .ok [0, 1, 2, 3, 4, 5] := rfl
theorem rngR_16 : rngR 1 6 = .ok [1, 2, 3, 4, 5] := rfl
theorem rngR_13 : rngR 1 3 = .ok [1, 2] := rfl
section
variable {α β γ : Type} {a b c d e f : α} {l : List α}
theorem idxR_0 : idxR (a :: l) 0 = .ok a := rfl
theorem idxR_1 : idxR (a :: b :: l) 1 = .ok b := rfl
theorem idxR_2 : idxR (a :: b :: c :: l) 2 = .ok c := rfl
theorem idxR_3 : idxR (a :: b :: c :: d :: l) 3 = .ok d := rfl
theorem idxR_4 : idxR (a :: b :: c :: d :: e :: l) 4 = .ok e := rfl
theorem idxR_5 : idxR (a :: b :: c :: d :: e :: f :: l) 5 = .ok f := rfl
theorem idxR_m1_1 : idxR [a] (-1) = .ok a := rfl
theorem idxR_m1_2 : idxR [a, b] (-1) = .ok b := rfl
theorem idxR_m1_3 : idxR [a, b, c] (-1) = .ok c := rfl
theorem ixA_nn {i : Int} (h : 0 ≤ i) : ixA l i = l[i.toNat]? := by
  cases i with
  | ofNat n => rfl
  | negSucc n => exact absurd h (by omega)
theorem idxR_at {i : Int} (h0 : 0 ≤ i) (h1 : i < l.length) : idxR l i = .ok (l[i.toNat]'(by omega)) := by
  unfold idxR
  rw [ixA_nn h0, List.getElem?_eq_getElem (by omega)]
theorem idxR_ex {i : Int} (h0 : 0 ≤ i) (h1 : i < l.length) : ∃ z, idxR l i = .ok z ∧ z ∈ l := ⟨_, idxR_at h0 h1, List.getElem_mem _⟩
theorem idxR_last : idxR (l ++ [a]) (-1) = .ok a := by
  have : ixA (l ++ [a]) (.negSucc 0) = some a := by
    show (if 0 < (l ++ [a]).length then (l ++ [a])[(l ++ [a]).length - 1 - 0]? else none) = _
    rw [if_pos (by simp)]
    simp
  show (match ixA (l ++ [a]) (.negSucc 0) with
    | some a => Rs.ok a
    | none => Rs.no) = _
  rw [this]
theorem pushR_ok (h : l.length < 16777216) : pushR l a = .ok (l ++ [a]) := if_pos (by rw [sizeLine_eq]; exact h)
theorem catR_ok {l' : List α} (h : l.length + l'.length ≤ 16777216) : catR l l' = .ok (l ++ l') := if_pos (by rw [sizeLine_eq]; exact h)
theorem forC_nil {σ : Type} {F : α → σ → (σ → Rs β) → (σ → Rs β) → Rs β} {k : σ → Rs β} {s : σ} : forC F k [] s = k s := rfl
theorem forC_cons {σ : Type} {F : α → σ → (σ → Rs β) → (σ → Rs β) → Rs β} {k : σ → Rs β} {s : σ} : forC F k (a :: l) s = F a s (fun s' => forC F k l s') k := rfl
theorem mapR_nil {f : α → Rs β} : mapR f [] = .ok [] := rfl
theorem mapR_cons {f : α → Rs β} : mapR f (a :: l) = (noE (f a)).bind fun b => (mapR f l).bind fun bs => .ok (b :: bs) := rfl
theorem mapR_ok {f : α → Rs β} {g : α → β} {l : List α} (h : ∀ a ∈ l, f a = .ok (g a)) : mapR f l = .ok (l.map g) := by
  induction l with
  | nil => rfl
  | cons a l ih => rw [mapR_cons, h a (.head _), noE_ok, Rs.bind_ok, ih (fun b hb => h b (.tail _ hb)), Rs.bind_ok]; rfl
theorem unO_some : unO (some a) = .ok a := rfl
theorem mtO_none {x : Rs γ} {y : α → Rs γ} : mtO none x y = x := rfl
theorem mtO_some {x : Rs γ} {y : α → Rs γ} : mtO (some a) x y = y a := rfl
end
theorem minR_1 {a : Int} : minR [a] = .ok a := rfl
theorem minR_2 {a b : Int} : minR [a, b] = .ok (min a b) := congrArg Rs.ok minL_1
theorem minR_3 {a b c : Int} : minR [a, b, c] = .ok (min (min a b) c) := congrArg Rs.ok minL_2
theorem minR_4 {a b c d : Int} : minR [a, b, c, d] = .ok (min (min (min a b) c) d) := congrArg Rs.ok minL_3
theorem maxR_1 {a : Int} : maxR [a] = .ok a := rfl
theorem maxR_2 {a b : Int} : maxR [a, b] = .ok (max a b) := congrArg Rs.ok maxL_1
theorem maxR_3 {a b c : Int} : maxR [a, b, c] = .ok (max (max a b) c) := congrArg Rs.ok maxL_2
theorem maxR_4 {a b c d : Int} : maxR [a, b, c, d] = .ok (max (max (max a b) c) d) := congrArg Rs.ok maxL_3
theorem andR_dec {p : Prop} [Decidable p] {r : Rs Bool} : andR (.ok (decide p)) r = cnd p r (.ok false) := by
  show (if decide p = true then r else .ok false) = if p then r else .ok false
  by_cases h : p
  · rw [decide_eq_true h, if_pos rfl, if_pos h]
  · rw [decide_eq_false h, if_neg h]; rfl
theorem orR_dec {p : Prop} [Decidable p] {r : Rs Bool} : orR (.ok (decide p)) r = cnd p (.ok true) r := by
  show (if decide p = true then .ok true else r) = if p then .ok true else r
  by_cases h : p
  · rw [decide_eq_true h, if_pos rfl, if_pos h]
  · rw [decide_eq_false h, if_neg h]; rfl
theorem andR_ok {b : Bool} {r : Rs Bool} : andR (.ok b) r = cnd (b = true) r (.ok false) := rfl
theorem orR_ok {b : Bool} {r : Rs Bool} : orR (.ok b) r = cnd (b = true) (.ok true) r := rfl
theorem andR_okk {b c : Bool} : andR (.ok b) (.ok c) = .ok (b && c) := by cases b <;> rfl
theorem orR_okk {b c : Bool} : orR (.ok b) (.ok c) = .ok (b || c) := by cases b <;> rfl
theorem iteR_not {α : Type} {p : Prop} [Decidable p] {a b : Rs α} : iteR (.ok (!decide p)) a b = cnd p b a := by
  unfold cnd
  by_cases h : p
  · rw [decide_eq_true h, if_pos h]; rfl
  · rw [decide_eq_false h, if_neg h]; rfl
theorem iteR_nbl {α : Type} {q : Bool} {a b : Rs α} : iteR (.ok (!q)) a b = cnd (q = true) b a := by cases q <;> rfl
theorem forC_go {α β σ : Type} {F : α → σ → (σ → Rs β) → (σ → Rs β) → Rs β} {k : σ → Rs β} (g : α → σ → σ) (I : List α → σ → Prop) {l : List α} {s : σ}
    (h : ∀ a r s nx bk, I (a :: r) s → F a s nx bk = nx (g a s) ∧ I r (g a s)) (i : I l s) : forC F k l s = k (l.foldl (fun s a => g a s) s) := by
  induction l generalizing s with
  | nil => rfl
  | cons a l ih =>
    rw [forC_cons, (h a l s _ _ i).1]
    exact ih (h a l s k k i).2
theorem forC_goU {α β : Type} {F : α → Unit → (Unit → Rs β) → (Unit → Rs β) → Rs β} {k : Unit → Rs β} {l : List α} (h : ∀ a ∈ l, ∀ nx bk : Unit → Rs β, F a () nx bk = nx ()) : forC F k l () = k () := by
  induction l with
  | nil => rfl
  | cons a l ih =>
    rw [forC_cons, h a (.head _)]
    exact ih fun b hb => h b (.tail _ hb)
theorem rngL_mem {a b z : Int} : z ∈ rngL a b ↔ a ≤ z ∧ z < b := by
  unfold rngL
  simp only [List.mem_map, List.mem_range]
  constructor
  · rintro ⟨i, hi, rfl⟩; omega
  · intro h; exact ⟨(z - a).toNat, by omega, by omega⟩
theorem rngL_len {a b : Int} : (rngL a b).length = (b - a).toNat := by unfold rngL; rw [List.length_map, List.length_range]
class NZ (b : Int) : Prop where
  h : b ≠ 0
instance bd_modl {a b : Int} [h : NZ b] : Bd (a % b) (b.natAbs.log2 + 1) := ⟨by
  have h1 := Int.emod_nonneg a h.h
  have h2 : a % b < (b.natAbs : Int) := by
    have := Int.emod_lt a h.h
    exact this
  have h3 : b.natAbs < 2 ^ (b.natAbs.log2 + 1) := Nat.lt_log2_self
  omega⟩
end
end M
end Q
namespace Q
open PySem PySem.Spec L2
def nP (B : Int) (p : Pt) : Prop := (-B ≤ p.1 ∧ p.1 ≤ B) ∧ (-B ≤ p.2.1 ∧ p.2.1 ≤ B) ∧ (-B ≤ p.2.2 ∧ p.2.2 ≤ B)
theorem nP.mono {B C : Int} {p : Pt} (h : nP B p) (l : B ≤ C) : nP C p := by unfold nP at *; omega
theorem nP.bd {B : Int} {p : Pt} (h : nP B p) (n : Nat) (l : B.natAbs < 2 ^ n := by decide) : BdP p n := ⟨⟨by unfold nP at h; omega⟩, ⟨by unfold nP at h; omega⟩, ⟨by unfold nP at h; omega⟩⟩
abbrev Pv := Pt × Pt
def pNext (mu ob : Int) (x : Pv) (b u : Pt) : Pv := (pAdd x.1 (pAdd (pAdd (pAdd x.2 (pPull mu ob x.1)) b) u), pAdd (pAdd (pAdd x.2 (pPull mu ob x.1)) b) u)
abbrev Brn := Int × Int × Box
def zBox : Box := ((0, 0), (0, 0), (0, 0))
def pushL : List Brn → Int → Box
  | [], _ => zBox
  | b :: l, t => if b.1 ≤ t ∧ t < b.2.1 then b.2.2 else pushL l t
theorem pushL_in (P : Box → Prop) {l : List Brn} {t : Int} (h0 : P zBox) (h : ∀ b ∈ l, P b.2.2) : P (pushL l t) := by
  induction l with
  | nil => exact h0
  | cons b l ih =>
    unfold pushL
    split
    · exact h b (.head _)
    · exact ih fun c hc => h c (.tail _ hc)
theorem bRnd.ok {s w m : Int} {b : Box} (h : bRnd s w b) (l : s + w ≤ m) : bOk m b := by
  obtain ⟨⟨a0, _, a1, a2, _⟩, ⟨b0, _, b1, b2, _⟩, ⟨c0, _, c1, c2, _⟩⟩ := h
  exact ⟨⟨by omega, a0, by omega⟩, ⟨by omega, b0, by omega⟩, ⟨by omega, c0, by omega⟩⟩
theorem bOk.wf {m : Int} {b : Box} (h : bOk m b) : bWf b := ⟨h.1.2.1, h.2.1.2.1, h.2.2.2.1⟩
theorem iOk.ok {n m : Int} {a : Iv} (h : iOk n a) (l : n ≤ m) : iOk m a := by unfold iOk at *; omega
theorem bOk.ok {n m : Int} {b : Box} (h : bOk n b) (l : n ≤ m) : bOk m b := ⟨h.1.ok l, h.2.1.ok l, h.2.2.ok l⟩
theorem bM_ok {m : Int} {b : Box} {p : Pt} (h : bOk m b) (g : bM p b) : nP m p := by
  obtain ⟨⟨a0, _, a1⟩, ⟨b0, _, b1⟩, ⟨c0, _, c1⟩⟩ := h
  obtain ⟨⟨d1, d2⟩, ⟨e1, e2⟩, ⟨f1, f2⟩⟩ := g
  unfold nP
  omega
theorem bOk_z {m : Int} (h : 0 ≤ m) : bOk m zBox := by
  have : iOk m (0, 0) := by unfold iOk; dsimp only; omega
  exact ⟨this, this, this⟩
structure Wd where
  mu : Int
  ob : Int
  drift : Int
  start : Int
  fine : Int
  many : Int
  place : Box
  speed : Box
  burns : List Brn
def brnOk (a b : Int) (x : Brn) : Prop := a ≤ x.1 ∧ x.1 < x.2.1 ∧ x.2.1 ≤ b ∧ bOk 34 x.2.2
structure Wd.Ok (w : Wd) : Prop where
  mu1 : 1 ≤ w.mu
  mu2 : w.mu ≤ 10 ^ 9
  ob1 : 0 ≤ w.ob
  ob2 : w.ob ≤ 10 ^ 12
  dr1 : 0 ≤ w.drift
  dr2 : w.drift ≤ 5
  st1 : 0 ≤ w.start
  st2 : w.start ≤ 12
  fi1 : 0 ≤ w.fine
  fi2 : w.fine ≤ 2
  ma1 : 3 ≤ w.many
  ma2 : w.many ≤ 15
  pl : bOk 10000 w.place
  sp : bOk 100 w.speed
  br : ∀ b ∈ w.burns, brnOk 0 100 b
  bl : w.burns.length ≤ 2
def cV : Int := 100 + 15 * (10 ^ 9 + 5 * 10 ^ 12 + 39)
def cP : Nat → Int
  | 0 => 10000
  | k + 1 => cP k + (100 + ((k : Int) + 1) * (10 ^ 9 + 5 * 10 ^ 12 + 39))
def cX : Int := 10000 + 1500 + 120 * (10 ^ 9 + 5 * 10 ^ 12 + 39)
structure Mot (w : Wd) (mo : List Pv) : Prop where
  ne : 0 < mo.length
  len : (mo.length : Int) ≤ w.many + 1
  hd : ∀ x, mo[0]? = some x → bM x.1 w.place ∧ bM x.2 w.speed
  st : ∀ (k : Nat) x y, mo[k]? = some x → mo[k + 1]? = some y → x.1 ≠ (0, 0, 0) ∧ ∃ b u, bM b (pushL w.burns (w.start + k)) ∧ nP w.drift u ∧ y = pNext w.mu w.ob x b u
  bd : ∀ (k : Nat) x, mo[k]? = some x → nP (cP k) x.1 ∧ nP (100 + k * (10 ^ 9 + 5 * 10 ^ 12 + 39)) x.2
  en : (mo.length : Int) < w.many + 1 → ∀ x, mo[mo.length - 1]? = some x → x.1 = (0, 0, 0)
structure MotI (w : Wd) (i : Nat) (x : Pv) (mo : List Pv) : Prop where
  ln : mo.length = i + 1
  la : mo[i]? = some x
  hd : ∀ x, mo[0]? = some x → bM x.1 w.place ∧ bM x.2 w.speed
  st : ∀ (k : Nat) x y, mo[k]? = some x → mo[k + 1]? = some y → x.1 ≠ (0, 0, 0) ∧ ∃ b u, bM b (pushL w.burns (w.start + k)) ∧ nP w.drift u ∧ y = pNext w.mu w.ob x b u
  bd : ∀ (k : Nat) x, mo[k]? = some x → nP (cP k) x.1 ∧ nP (100 + k * (10 ^ 9 + 5 * 10 ^ 12 + 39)) x.2
theorem Wd.Ok.push {w : Wd} (h : w.Ok) (t : Int) : bOk 34 (pushL w.burns t) := pushL_in (bOk 34) (bOk_z (by decide)) fun b hb => (h.br b hb).2.2.2
theorem MotI.one {w : Wd} {x : Pv} (h : w.Ok) (h1 : bM x.1 w.place) (h2 : bM x.2 w.speed) : MotI w 0 x [x] where
  ln := rfl
  la := rfl
  hd := fun y e => by cases e; exact ⟨h1, h2⟩
  st := fun k y z e1 e2 => by cases k <;> cases e2
  bd := fun k y e => by
    cases k with
    | zero => cases e; exact ⟨bM_ok h.pl h1, (bM_ok h.sp h2).mono (by omega)⟩
    | succ k => cases e
structure Seen (w : Wd) (mo : List Pv) (se : List (Int × Box)) : Prop where
  at_ : ∀ s ∈ se, ∃ (k : Nat) (x : Pv), mo[k]? = some x ∧ s.1 = w.start + k ∧ bM x.1 s.2 ∧ bOk (10 ^ 15) s.2
  up : se.Pairwise fun a b => a.1 < b.1
def mkB (b : Brn) : Burn := ⟨b.1, b.2.1, b.2.2⟩
def mkS (s : Int × Box) : Sight := ⟨s.1, s.2⟩
def mkC (n : Str) (w : Wd) (se : List (Int × Box)) : Craft := ⟨n, w.start, w.place, w.speed, w.drift, w.burns.map mkB, se.map mkS⟩
def pushC (c : Craft) (t : Int) : Box := pushL (c.burns.map fun b => (b.b, b.e, b.push)) t
theorem pushC_mk {n : Str} {w : Wd} {se : List (Int × Box)} {t : Int} : pushC (mkC n w se) t = pushL w.burns t := by
  unfold pushC mkC
  dsimp only
  rw [List.map_map]
  congr 1
  exact List.map_id _
def sStep (mu ob : Int) (s : Stt) (push : Box) (drift : Int) : Option Stt := match bPull mu ob s.place with
  | none => none
  | some a => if 10000000000000000000000000000000000000000 < bSize (bAdd s.place (bWid (bAdd (bAdd s.speed a) push) drift)) ∨ 10000000000000000000000000000000000000000 < bSize (bWid (bAdd (bAdd s.speed a) push) drift) then none else some ⟨bAdd s.place (bWid (bAdd (bAdd s.speed a) push) drift), bWid (bAdd (bAdd s.speed a) push) drift⟩
def sCut (s : Stt) (b : Box) : Option Stt := (bMeet s.place b).map fun p => ⟨p, s.speed⟩
def sMem (x : Pv) (s : Stt) : Prop := bM x.1 s.place ∧ bM x.2 s.speed
theorem sCut_in {s : Stt} {b : Box} {x : Pv} (h : sMem x s) (g : bM x.1 b) : ∃ s', sCut s b = some s' ∧ sMem x s' := by
  have hb := bM_both.mpr ⟨h.1, g⟩
  exact ⟨⟨bBoth s.place b, s.speed⟩, by unfold sCut; rw [bMeet_some (bM_wf hb)]; rfl, hb, h.2⟩
theorem Wd.Ok.body {w : Wd} (h : w.Ok) : Body.Ok ⟨w.mu, w.ob, (1, 0, 1)⟩ := body_ok h.mu1 (by have := h.mu2; omega) h.ob1 (by have := h.ob2; omega) (by decide)
abbrev Bp := Box × Box
def toS (x : Bp) : Stt := ⟨x.1, x.2⟩
def ofS (s : Stt) : Bp := (s.place, s.speed)
def sidesB (x : Bp) : List Iv := [x.1.1, x.1.2.1, x.1.2.2, x.2.1, x.2.2.1, x.2.2.2]
def gi (x : Bp) (k : Int) : Iv := if k = 0 then x.1.1 else if k = 1 then x.1.2.1 else if k = 2 then x.1.2.2 else if k = 3 then x.2.1 else if k = 4 then x.2.2.1 else x.2.2.2
def wid1 (x : Bp) (best k : Int) : Int := if (gi x best).2 - (gi x best).1 < (gi x k).2 - (gi x k).1 then k else best
def widest (x : Bp) : Int := wid1 x (wid1 x (wid1 x (wid1 x (wid1 x 0 1) 2) 3) 4) 5
def setI (x : Bp) (k : Int) (h : Iv) : Bp := ((if 0 = k then h else x.1.1, if 1 = k then h else x.1.2.1, if 2 = k then h else x.1.2.2), (if 3 = k then h else x.2.1, if 4 = k then h else x.2.2.1, if 5 = k then h else x.2.2.2))
def halvesB (x : Bp) : List Bp := if (gi x (widest x)).1 = (gi x (widest x)).2 then [x] else [setI x (widest x) ((gi x (widest x)).1, ((gi x (widest x)).1 + (gi x (widest x)).2) / 2), setI x (widest x) (((gi x (widest x)).1 + (gi x (widest x)).2) / 2 + 1, (gi x (widest x)).2)]
def partsL : Nat → List Bp → List Bp
  | 0, l => l
  | n + 1, l => partsL n (l.flatMap halvesB)
def hasB (x : Pv) (b : Bp) : Bool := bHas b.1 x.1 && bHas b.2 x.2
def gx (x : Pv) (k : Int) : Int := if k = 0 then x.1.1 else if k = 1 then x.1.2.1 else if k = 2 then x.1.2.2 else if k = 3 then x.2.1 else if k = 4 then x.2.2.1 else x.2.2.2
def wfB (b : Bp) : Prop := ∀ k : Int, 0 ≤ k ∧ k ≤ 5 → iWf (gi b k)
def cnt (x : Pv) (l : List Bp) : Nat := (l.filter (hasB x)).length
def uM : Int := 1000000000000000000
def elev (b s : Box) (m : Int) : Str :=
  if 0 ≤ (bInner (bSub b s) s).1 ∧ (bSqLen (bSub b s)).2 * (bSqLen s).2 * m * m ≤ (bInner (bSub b s) s).1 * (bInner (bSub b s) s).1 * uM then "sure"
  else if (bInner (bSub b s) s).2 < 0 ∨ (bInner (bSub b s) s).2 * (bInner (bSub b s) s).2 * uM < (bSqLen (bSub b s)).1 * (bSqLen s).1 * m * m then "never" else "possible"
def high (x s : Pt) (m : Int) : Prop := 0 ≤ pDot (pSub x s) s ∧ m * m * pDot (pSub x s) (pSub x s) * pDot s s ≤ uM * pDot (pSub x s) s * pDot (pSub x s) s
def pCross (a b : Pt) : Pt := (a.2.1 * b.2.2 - a.2.2 * b.2.1, a.2.2 * b.1 - a.1 * b.2.2, a.1 * b.2.1 - a.2.1 * b.1)
def bCross (a b : Box) : Box := (iSub (iMul a.2.1 b.2.2) (iMul a.2.2 b.2.1), iSub (iMul a.2.2 b.1) (iMul a.1 b.2.2), iSub (iMul a.1 b.2.1) (iMul a.2.1 b.1))
instance {a b : Box} {n m : Nat} [BdB a n] [BdB b m] : BdB (bCross a b) (n + m + 1) := by unfold bCross; exact BdB.of inferInstance (by omega)
instance {a b : Pt} {n m : Nat} [BdP a n] [BdP b m] : BdP (pCross a b) (n + m + 1) := by unfold pCross; exact BdP.of inferInstance (by omega)
def light (b w : Box) (r : Int) : Str :=
  if (bInner b w).2 < 0 ∧ (bSqLen (bCross b w)).2 < r * r * (bSqLen w).1 then "dark"
  else if 0 ≤ (bInner b w).1 ∨ r * r * (bSqLen w).2 ≤ (bSqLen (bCross b w)).1 then "lit" else "either"
def shade (x w : Pt) (r : Int) : Prop := pDot x w < 0 ∧ pDot (pCross x w) (pCross x w) < r * r * pDot w w
abbrev Br := Int × Str
def wStep (mu ob drift : Int) (push : Box) (t : Int) (x y : Pv) : Option Br :=
  if x.1 = (0, 0, 0) then some (t, "centre")
  else if bHas (bWid push drift) (pSub (pSub y.2 x.2) (pPull mu ob x.1)) = true then (if y.1 = pAdd x.1 y.2 then none else some (t + 1, "step"))
  else some (t + 1, "push")
def unS (l : List (Int × Box)) (t : Int) (p : Pt) : Bool := l.any fun s => decide (s.1 = t) && !bHas s.2 p
def brF (W : Int → Pv → Pv → Option Br) (U : Int → Pt → Bool) : Int → List Pv → Option Br
  | _, [] => none
  | t, x :: r => if U t x.1 = true then some (t, "seen") else match r with
    | [] => none
    | y :: _ => match W t x y with
      | some b => some b
      | none => brF W U (t + 1) r
def breach (W : Int → Pv → Pv → Option Br) (U : Int → Pt → Bool) (start : Int) (place speed : Box) (mo : List Pv) : Option Br := match mo with
  | [] => none
  | x :: _ => if bHas place x.1 = true then (if bHas speed x.2 = true then brF W U start mo else some (start, "speed")) else some (start, "place")
section
variable {W : Int → Pv → Pv → Option Br} {U : Int → Pt → Bool}
end
def brW : List Str := ["place", "speed", "seen", "centre", "push", "step"]
namespace M
def brK (W : Int → Pv → Pv → Option Br) (t : Int) (x : Pv) (o : Option Pv) (nx : Rs (Option Br)) : Rs (Option Br) := match o with
  | none => nx
  | some y => match W t x y with
    | some b => .ok (some b)
    | none => nx
end M
end Q
namespace Q.M
end Q.M
namespace Q
open PySem PySem.Spec L2
def iLe (a b : Iv) : Prop := a.1 ≤ a.2 ∧ b.1 ≤ a.1 ∧ a.2 ≤ b.2
def bLe (a b : Box) : Prop := iLe a.1 b.1 ∧ iLe a.2.1 b.2.1 ∧ iLe a.2.2 b.2.2
theorem iLe.l {a b : Iv} (h : iLe a b) : iM a.1 b := by unfold iLe at h; unfold iM; omega
theorem iLe.r {a b : Iv} (h : iLe a b) : iM a.2 b := by unfold iLe at h; unfold iM; omega
theorem iLe.ll {a b : Iv} (h : iLe a b) : iM a.1 a := by unfold iLe at h; unfold iM; omega
theorem iLe.rr {a b : Iv} (h : iLe a b) : iM a.2 a := by unfold iLe at h; unfold iM; omega
theorem iLe.refl {a : Iv} (h : iWf a) : iLe a a := ⟨h, Int.le_refl _, Int.le_refl _⟩
theorem bLe.refl {a : Box} (h : bWf a) : bLe a a := ⟨.refl h.1, .refl h.2.1, .refl h.2.2⟩
theorem iLe.trans {a b c : Iv} (h : iLe a b) (g : iLe b c) : iLe a c := by unfold iLe at *; omega
theorem bLe.trans {a b c : Box} (h : bLe a b) (g : bLe b c) : bLe a c := ⟨h.1.trans g.1, h.2.1.trans g.2.1, h.2.2.trans g.2.2⟩
theorem bLe.wf {a b : Box} (h : bLe a b) : bWf a := ⟨h.1.1, h.2.1.1, h.2.2.1⟩
theorem bLe.wf2 {a b : Box} (h : bLe a b) : bWf b := by unfold bLe iLe at h; unfold bWf iWf; omega
theorem bLe.isIn {a b : Box} (h : bLe a b) : bIn a b = true := by
  unfold bIn iIn
  rw [decide_eq_true h.1.2, decide_eq_true h.2.1.2, decide_eq_true h.2.2.2]; rfl
theorem iLe_add {a b c d : Iv} (h : iLe a c) (g : iLe b d) : iLe (iAdd a b) (iAdd c d) := by unfold iLe iAdd at *; dsimp only; omega
theorem iLe_sub {a b c d : Iv} (h : iLe a c) (g : iLe b d) : iLe (iSub a b) (iSub c d) := by unfold iLe iSub at *; dsimp only; omega
theorem iLe_wid {a b : Iv} {n m : Int} (h : iLe a b) (h0 : 0 ≤ n) (g : n ≤ m) : iLe (iWid a n) (iWid b m) := by unfold iLe iWid at *; dsimp only; omega
theorem bLe_add {a b c d : Box} (h : bLe a c) (g : bLe b d) : bLe (bAdd a b) (bAdd c d) := ⟨iLe_add h.1 g.1, iLe_add h.2.1 g.2.1, iLe_add h.2.2 g.2.2⟩
theorem bLe_wid {a b : Box} {n m : Int} (h : bLe a b) (h0 : 0 ≤ n) (g : n ≤ m) : bLe (bWid a n) (bWid b m) := ⟨iLe_wid h.1 h0 g, iLe_wid h.2.1 h0 g, iLe_wid h.2.2 h0 g⟩
theorem iLe_scale {a b : Iv} {n : Int} (h : iLe a b) : iLe (iScale a n) (iScale b n) := by
  have e1 := iM_scale (n := n) h.l
  have e2 := iM_scale (n := n) h.r
  have w := iM_scale (n := n) h.ll
  refine ⟨Int.le_trans w.1 w.2, ?_⟩
  by_cases z : n < 0
  · simp only [iScale, if_pos z] at e1 e2 ⊢
    exact ⟨e2.1, e1.2⟩
  · simp only [iScale, if_neg z] at e1 e2 ⊢
    exact ⟨e1.1, e2.2⟩
theorem iLe_mul {a b c d : Iv} (h : iLe a c) (g : iLe b d) : iLe (iMul a b) (iMul c d) := by
  have e1 := iM_mul h.l g.l
  have e2 := iM_mul h.l g.r
  have e3 := iM_mul h.r g.l
  have e4 := iM_mul h.r g.r
  have w := iM_mul h.ll g.ll
  refine ⟨Int.le_trans w.1 w.2, ?_, ?_⟩ <;> generalize iMul c d = q at * <;> unfold iM at * <;> unfold iMul <;> dsimp only <;> omega
theorem iLe_sq {a b : Iv} (h : iLe a b) : iLe (iSq a) (iSq b) := by
  have e1 := iM_sq h.l
  have e2 := iM_sq h.r
  have w := iM_sq h.ll
  have h1 := h.1
  have e3 : ¬ 0 ≤ a.1 → ¬ a.2 ≤ 0 → iM 0 (iSq b) := fun y z => by
    have : iM 0 b := by unfold iLe at h; unfold iM; omega
    exact iM_sq this
  refine ⟨Int.le_trans w.1 w.2, ?_, ?_⟩ <;> generalize iSq b = q at * <;> unfold iM at * <;> unfold iSq <;> split <;> try (dsimp only; omega)
  · split
    · dsimp only; omega
    · rename_i y z; exact (e3 y z).1
  · split
    · dsimp only; omega
    · dsimp only; omega
theorem iLe_quo {a b c d : Iv} (hd : 0 < d.1) (h : iLe a c) (g : iLe b d) : iLe (iQuo a b) (iQuo c d) := by
  have e1 := iM_quo hd h.l g.l
  have e2 := iM_quo hd h.l g.r
  have e3 := iM_quo hd h.r g.l
  have e4 := iM_quo hd h.r g.r
  have w := iM_quo (show 0 < b.1 by have := g.2.1; omega) h.ll g.ll
  refine ⟨Int.le_trans w.1 w.2, ?_, ?_⟩ <;> generalize iQuo c d = q at * <;> unfold iM at * <;> unfold iQuo <;> dsimp only
  · generalize a.1 / b.1 = x1 at *
    generalize a.1 / b.2 = x2 at *
    omega
  · generalize a.2 / b.1 = x1 at *
    generalize a.2 / b.2 = x2 at *
    omega
theorem iLe_root {a b : Iv} (h : iLe a b) (h0 : 0 ≤ a.1) : iLe (iRoot a) (iRoot b) := by
  obtain ⟨h1, h2, h3⟩ := h
  exact ⟨isq_mono (by omega) (by omega), isq_mono (by omega) (by omega), isq_mono (by omega) h3⟩
theorem bLe_sqLen {a b : Box} (h : bLe a b) : iLe (bSqLen a) (bSqLen b) := iLe_add (iLe_add (iLe_sq h.1) (iLe_sq h.2.1)) (iLe_sq h.2.2)
theorem bLe_pull {mu ob : Int} {a b c : Box} (h : bLe a b) (e : bPull mu ob b = some c) : ∃ d, bPull mu ob a = some d ∧ bLe d c := by
  unfold bPull at e ⊢
  split at e
  · cases e
  rename_i z
  cases e
  have l := bLe_sqLen h
  have p := bSqLen_pos h.wf2 z
  have z2 : (bSqLen a).1 ≠ 0 := by have := l.2.1; have := p.1; omega
  rw [if_neg z2]
  have p2 := bSqLen_pos h.wf z2
  have lD : iLe (bD a) (bD b) := iLe_mul l (iLe_root l (by have := p2.1; omega))
  have lE : iLe (bE a) (bE b) := iLe_mul (iLe_mul l l) lD
  have lH : iLe (iScale (iSq a.2.2) 5) (iScale (iSq b.2.2) 5) := iLe_scale (iLe_sq h.2.2)
  have pC : ∀ {x y : Iv} {f : Int}, iLe x y → iLe (bPullC mu ob (bSqLen a) (bD a) (bE a) (iScale (iSq a.2.2) 5) x f) (bPullC mu ob (bSqLen b) (bD b) (bE b) (iScale (iSq b.2.2) 5) y f) := fun {x y f} g =>
    iLe_add (iLe_quo (bD_pos h.wf2 z).1 (iLe_scale g) lD) (iLe_quo (bE_pos h.wf2 z).1 (iLe_scale (iLe_mul g (iLe_sub lH (iLe_scale l)))) lE)
  exact ⟨_, rfl, pC h.1, pC h.2.1, pC h.2.2⟩
theorem iSize_le {a b : Iv} (h : iLe a b) : iSize a ≤ iSize b := by
  unfold iLe at h
  unfold iSize
  omega
theorem bSize_le {a b : Box} (h : bLe a b) : bSize a ≤ bSize b := by
  have h1 := iSize_le h.1
  have h2 := iSize_le h.2.1
  have h3 := iSize_le h.2.2
  unfold bSize
  omega
def sLe (a b : Stt) : Prop := bLe a.place b.place ∧ bLe a.speed b.speed
theorem sLe.refl {a : Stt} (h : bWf a.place) (g : bWf a.speed) : sLe a a := ⟨.refl h, .refl g⟩
theorem sLe.isIn {a b : Stt} (h : sLe a b) : (bIn a.place b.place && bIn a.speed b.speed) = true := by rw [h.1.isIn, h.2.isIn]; rfl
theorem sLe_step {mu ob d e : Int} {s t x : Stt} {p q : Box} (h : sLe s t) (hp : bLe p q) (h0 : 0 ≤ d) (hd : d ≤ e) (r : sStep mu ob t q e = some x) : ∃ y, sStep mu ob s p d = some y ∧ sLe y x := by
  unfold sStep at r ⊢
  split at r
  · cases r
  rename_i c hc
  split at r
  · cases r
  rename_i z
  cases r
  obtain ⟨f, hf, lf⟩ := bLe_pull h.1 hc
  have l1 := bLe_wid (bLe_add (bLe_add h.2 lf) hp) h0 hd
  have l2 := bLe_add h.1 l1
  have z1 := bSize_le l1
  have z2 := bSize_le l2
  rw [hf]
  dsimp only
  rw [if_neg (fun q => z (q.elim (fun q => .inl (Int.lt_of_lt_of_le q z2)) fun q => .inr (Int.lt_of_lt_of_le q z1)))]
  exact ⟨_, rfl, l2, l1⟩
theorem iMeet_inv {a b c : Iv} (h : iMeet a b = some c) : c = (max a.1 b.1, min a.2 b.2) ∧ iWf c := by
  unfold iMeet at h
  split at h
  · cases h
  · cases h
    exact ⟨rfl, by unfold iWf; dsimp only; omega⟩
theorem bMeet_inv {a b c : Box} (h : bMeet a b = some c) : c = bBoth a b ∧ bWf c := by
  unfold bMeet at h
  split at h
  · rename_i x y z hx hy hz
    cases h
    obtain ⟨rfl, w1⟩ := iMeet_inv hx
    obtain ⟨rfl, w2⟩ := iMeet_inv hy
    obtain ⟨rfl, w3⟩ := iMeet_inv hz
    exact ⟨rfl, w1, w2, w3⟩
  · cases h
theorem sLe_cut_in {s y : Stt} {b : Box} (hs : bWf s.speed) (e : sCut s b = some y) : sLe y s := by
  unfold sCut at e
  cases hm : bMeet s.place b with
  | none => rw [hm] at e; cases e
  | some p =>
    rw [hm] at e
    cases e
    obtain ⟨rfl, w⟩ := bMeet_inv hm
    have one : ∀ {a d : Iv}, iWf (max a.1 d.1, min a.2 d.2) → iLe (max a.1 d.1, min a.2 d.2) a := fun {a d} w => by
      unfold iLe
      unfold iWf at w
      dsimp only at *
      omega
    exact ⟨⟨one w.1, one w.2.1, one w.2.2⟩, .refl hs⟩
def lim : Int := 10000000000000000000000000000000000000000
def sOk (s : Stt) : Prop := bOk lim s.place ∧ bOk lim s.speed
theorem iOk_of {m : Int} {a : Iv} (h : iWf a) (g : iSize a ≤ m) : iOk m a := by
  unfold iSize at g
  unfold iWf at h
  unfold iOk
  omega
theorem bOk_of {m : Int} {b : Box} (h : bWf b) (g : bSize b ≤ m) : bOk m b := by
  unfold bSize at g
  exact ⟨iOk_of h.1 (by omega), iOk_of h.2.1 (by omega), iOk_of h.2.2 (by omega)⟩
theorem iLe.ok {m : Int} {a b : Iv} (h : iLe a b) (g : iOk m b) : iOk m a := by unfold iLe at h; unfold iOk at *; omega
theorem bLe.ok {m : Int} {a b : Box} (h : bLe a b) (g : bOk m b) : bOk m a := ⟨h.1.ok g.1, h.2.1.ok g.2.1, h.2.2.ok g.2.2⟩
theorem sStep_sok {mu ob d : Int} {s x : Stt} {p : Box} (h : bWf s.place) (g : bWf s.speed) (hp : bWf p) (h0 : 0 ≤ d) (e : sStep mu ob s p d = some x) : sOk x := by
  obtain ⟨y, hy, l⟩ := sLe_step (sLe.refl h g) (.refl hp) h0 (Int.le_refl d) e
  rw [e] at hy
  cases hy
  unfold sStep at e
  split at e
  · cases e
  split at e
  · cases e
  rename_i z
  cases e
  exact ⟨bOk_of l.1.wf (Int.not_lt.mp fun q => z (.inl q)), bOk_of l.2.wf (Int.not_lt.mp fun q => z (.inr q))⟩
theorem sLe.sok {a b : Stt} (h : sLe a b) (g : sOk b) : sOk a := ⟨h.1.ok g.1, h.2.ok g.2⟩
theorem sCut_sok {s x : Stt} {b : Box} (h : sOk s) (e : sCut s b = some x) : sOk x := (sLe_cut_in h.2.wf e).sok h
def sAt : List Sight → Int → Option Box
  | [], _ => none
  | s :: l, t => if s.at_ = t then some s.place else sAt l t
def cutA (l : List Stt) (o : Option Box) : List Stt := match o with
  | none => l
  | some b => l.filterMap fun s => sCut s b
def stepA (F : Stt → Option Stt) : List Stt → Option (List Stt)
  | [] => some []
  | s :: l => match F s with
    | none => none
    | some x => match stepA F l with
      | none => none
      | some r => some (x :: r)
def jGo (S : Int → List Stt → Option (List Stt)) (C : Int → List Stt → List Stt) : Nat → Int → List Stt → List Mom × Str × Option Int
  | 0, _, _ => ([], "whole", none)
  | n + 1, t, l => match S (t - 1) l with
    | none => ([], "lost", some t)
    | some r => if C t r = [] then ([], "void", some t) else (⟨t, C t r⟩ :: (jGo S C n (t + 1) (C t r)).1, (jGo S C n (t + 1) (C t r)).2.1, (jGo S C n (t + 1) (C t r)).2.2)
def jS (mu ob : Int) (c : Craft) (t : Int) (l : List Stt) : Option (List Stt) := stepA (fun s => sStep mu ob s (pushC c t) c.drift) l
def jC (c : Craft) (t : Int) (l : List Stt) : List Stt := cutA l (sAt c.sights t)
def jFirst (c : Craft) (f : Int) : List Stt := cutA ((partsL f.toNat [(c.place, c.speed)]).map toS) (sAt c.sights c.start)
def jMk (mu ob : Int) (c : Craft) (f u : Int) : Jour :=
  if u < c.start then ⟨[], "whole", none⟩
  else if jFirst c f = [] then ⟨[], "void", some c.start⟩
  else ⟨⟨c.start, jFirst c f⟩ :: (jGo (jS mu ob c) (jC c) (u - c.start).toNat (c.start + 1) (jFirst c f)).1, (jGo (jS mu ob c) (jC c) (u - c.start).toNat (c.start + 1) (jFirst c f)).2.1, (jGo (jS mu ob c) (jC c) (u - c.start).toNat (c.start + 1) (jFirst c f)).2.2⟩
structure cOk (c : Craft) : Prop where
  pl : bOk lim c.place
  sp : bOk lim c.speed
  dr : 0 ≤ c.drift
  pu : ∀ t, bWf (pushC c t)
def lOk (l : List Stt) : Prop := l.length ≤ 64 ∧ ∀ s ∈ l, sOk s
theorem stepA_len {F : Stt → Option Stt} {l r : List Stt} (h : stepA F l = some r) : r.length = l.length := by
  induction l generalizing r with
  | nil => cases h; rfl
  | cons s l ih =>
    unfold stepA at h
    split at h
    · cases h
    split at h
    · cases h
    rename_i q hq
    cases h
    rw [List.length_cons, List.length_cons, ih hq]
theorem stepA_mem {F : Stt → Option Stt} {l r : List Stt} (h : stepA F l = some r) : (∀ x ∈ r, ∃ s ∈ l, F s = some x) ∧ ∀ s ∈ l, ∃ x ∈ r, F s = some x := by
  induction l generalizing r with
  | nil => cases h; exact ⟨fun x hx => (nomatch hx), fun x hx => (nomatch hx)⟩
  | cons s l ih =>
    unfold stepA at h
    split at h
    · cases h
    rename_i y hy
    split at h
    · cases h
    rename_i q hq
    cases h
    obtain ⟨h1, h2⟩ := ih hq
    refine ⟨fun x hx => ?_, fun x hx => ?_⟩
    · rcases List.mem_cons.mp hx with rfl | z
      · exact ⟨s, .head _, hy⟩
      · obtain ⟨s', m, e⟩ := h1 x z
        exact ⟨s', .tail _ m, e⟩
    · rcases List.mem_cons.mp hx with rfl | z
      · exact ⟨y, .head _, hy⟩
      · obtain ⟨s', m, e⟩ := h2 x z
        exact ⟨s', .tail _ m, e⟩
theorem cutA_len {l : List Stt} {o : Option Box} : (cutA l o).length ≤ l.length := by
  cases o with
  | none => exact Nat.le_refl _
  | some b => exact List.length_filterMap_le _ _
theorem cutA_mem {l : List Stt} {o : Option Box} {x : Stt} (h : x ∈ cutA l o) : (o = none ∧ x ∈ l) ∨ ∃ b, o = some b ∧ ∃ s ∈ l, sCut s b = some x := by
  cases o with
  | none => exact .inl ⟨rfl, h⟩
  | some b =>
    obtain ⟨s, hs, e⟩ := List.mem_filterMap.mp h
    exact .inr ⟨b, rfl, s, hs, e⟩
theorem lOk.step {mu ob : Int} {c : Craft} {t : Int} {l r : List Stt} (hc : cOk c) (h : lOk l) (e : jS mu ob c t l = some r) : lOk r := by
  refine ⟨by rw [stepA_len e]; exact h.1, fun x hx => ?_⟩
  obtain ⟨s, hs, e'⟩ := (stepA_mem e).1 x hx
  have := h.2 s hs
  exact sStep_sok this.1.wf this.2.wf (hc.pu t) hc.dr e'
theorem lOk.cut {l : List Stt} {o : Option Box} (h : lOk l) : lOk (cutA l o) := by
  refine ⟨Nat.le_trans cutA_len h.1, fun x hx => ?_⟩
  rcases cutA_mem hx with ⟨_, z⟩ | ⟨b, _, s, hs, e⟩
  · exact h.2 x z
  · exact sCut_sok (h.2 s hs) e
def lLe (l m : List Stt) : Prop := ∀ s ∈ m, ∃ t ∈ l, sLe s t
theorem lLe.nil {m : List Stt} (h : lLe [] m) : m = [] := by
  cases m with
  | nil => rfl
  | cons s m => obtain ⟨t, ht, _⟩ := h s (.head _); cases ht
section
variable {S S' : Int → List Stt → Option (List Stt)} {C C' : Int → List Stt → List Stt}
def jEnd (t : Int) (e : Str) (b : Option Int) : Prop := (e = "whole" ∧ b = none) ∨ (e = "lost" ∧ ∃ a, b = some a ∧ t ≤ a) ∨ (e = "void" ∧ ∃ a, b = some a ∧ t ≤ a)
structure jRel (R : List Stt → List Stt → Prop) (a b : List Mom × Str × Option Int) : Prop where
  st : ∀ (k : Nat) m m', a.1[k]? = some m → b.1[k]? = some m' → R m.states m'.states
  wh : a.2.1 = "whole" → b.2.1 = "whole" ∨ b.2.1 = "void"
  vo : a.2.1 = "void" → b.2.1 = "void" ∧ ∃ x y, a.2.2 = some x ∧ b.2.2 = some y ∧ y ≤ x
end
def jT (j : Jour) : List Mom × Str × Option Int := (j.moms, j.ending, j.broken)
namespace M
def all2 {α β : Type} (P : α → β → Prop) : List α → List β → Prop
  | [], [] => True
  | a :: l, b :: m => P a b ∧ all2 P l m
  | _, _ => False
theorem all2.len {α β : Type} {P : α → β → Prop} : ∀ {l : List α} {m : List β}, all2 P l m → l.length = m.length
  | [], [], _ => rfl
  | a :: l, b :: m, h => congrArg (· + 1) (all2.len h.2)
theorem all2.mem {α β : Type} {P : α → β → Prop} : ∀ {l : List α} {m : List β}, all2 P l m → ∀ b ∈ m, ∃ a ∈ l, P a b
  | [], [], _, b, hb => nomatch hb
  | a :: l, c :: m, h, b, hb => by
    rcases List.mem_cons.mp hb with rfl | z
    · exact ⟨a, .head _, h.1⟩
    · obtain ⟨x, hx, p⟩ := all2.mem h.2 b z
      exact ⟨x, .tail _ hx, p⟩
end M
theorem known_at {se : List (Int × Box)} (up : se.Pairwise fun a b => a.1 < b.1) {t : Int} : (sAt (se.map mkS) t = none ∧ (se.filter fun p => decide (p.1 = t)) = []) ∨ ∃ b, sAt (se.map mkS) t = some b ∧ (t, b) ∈ se ∧ ((se.filter fun p => decide (p.1 = t)).map fun p => p.2) = [b] := by
  induction se with
  | nil => exact .inl ⟨rfl, rfl⟩
  | cons a l ih =>
    obtain ⟨u1, u2⟩ := List.pairwise_cons.mp up
    by_cases z : a.1 = t
    · refine .inr ⟨a.2, ?_, ?_, ?_⟩
      · show (if a.1 = t then _ else _) = _
        rw [if_pos z]; rfl
      · rw [← z]; exact .head _
      · have : (l.filter fun p => decide (p.1 = t)) = [] := List.filter_eq_nil_iff.mpr fun b hb => by
          have := u1 b hb
          rw [decide_eq_true_iff]; omega
        rw [List.filter_cons, decide_eq_true z, if_pos rfl, this]; rfl
    · have e1 : sAt ((a :: l).map mkS) t = sAt (l.map mkS) t := by
        show (if a.1 = t then _ else _) = _
        rw [if_neg z]
      have e2 : ((a :: l).filter fun p => decide (p.1 = t)) = l.filter fun p => decide (p.1 = t) := by rw [List.filter_cons, decide_eq_false z, if_neg (fun h => nomatch h)]
      rw [e1, e2]
      rcases ih u2 with h | ⟨b, h1, h2, h3⟩
      · exact .inl h
      · exact .inr ⟨b, h1, .tail _ h2, h3⟩
end Q
namespace Q
open PySem PySem.Spec L2
structure Obs (mu ob : Int) (c : Craft) (mo : List Pv) : Prop where
  hd : ∀ x, mo[0]? = some x → sMem x ⟨c.place, c.speed⟩
  st : ∀ (k : Nat) x y, mo[k]? = some x → mo[k + 1]? = some y → bM (pSub (pSub y.2 x.2) (pPull mu ob x.1)) (bWid (pushC c (c.start + k)) c.drift) ∧ y.1 = pAdd x.1 y.2
  se : ∀ (k : Nat) x b, mo[k]? = some x → sAt c.sights (c.start + k) = some b → bM x.1 b
theorem Obs.take {mu ob : Int} {c : Craft} {mo : List Pv} (o : Obs mu ob c mo) (n : Nat) : Obs mu ob c (mo.take n) where
  hd := fun x h => o.hd x (by rw [List.getElem?_take] at h; split at h <;> first | exact h | cases h)
  st := fun k x y h g => o.st k x y (by rw [List.getElem?_take] at h; split at h <;> first | exact h | cases h) (by rw [List.getElem?_take] at g; split at g <;> first | exact g | cases g)
  se := fun k x b h => o.se k x b (by rw [List.getElem?_take] at h; split at h <;> first | exact h | cases h)
theorem iM_ob {v p w : Int} {s a q : Iv} {d : Int} (h1 : iM v s) (h2 : iM p a) (h3 : iM (w - v - p) (iWid q d)) : iM w (iWid (iAdd (iAdd s a) q) d) := by
  unfold iM iWid iAdd at *; dsimp only at *; omega
theorem sStep_ob {mu ob : Int} {s s' : Stt} {push : Box} {drift : Int} {x y : Pv} (h : sMem x s) (hb : bM (pSub (pSub y.2 x.2) (pPull mu ob x.1)) (bWid push drift)) (hy : y.1 = pAdd x.1 y.2) (e : sStep mu ob s push drift = some s') : sMem y s' := by
  unfold sStep at e
  split at e
  · cases e
  rename_i a ha
  split at e
  · cases e
  cases e
  have hp := bPull_in h.1 ha
  have hw : bM y.2 (bWid (bAdd (bAdd s.speed a) push) drift) := ⟨iM_ob h.2.1 hp.1 hb.1, iM_ob h.2.2.1 hp.2.1 hb.2.1, iM_ob h.2.2.2 hp.2.2 hb.2.2⟩
  exact ⟨hy ▸ bM_add h.1 hw, hw⟩
theorem iM_wid2 {p u v w x : Int} {a : Iv} {d : Int} (h : iM p a) (g : -d ≤ u ∧ u ≤ d) (e : w - v - x = p + u) : iM (w - v - x) (iWid a d) := by
  unfold iM iWid at *; dsimp only; omega
theorem Mot.obs {w : Wd} {mo : List Pv} {se : List (Int × Box)} {n : Str} (m : Mot w mo) (s : Seen w mo se) : Obs w.mu w.ob (mkC n w se) mo where
  hd := fun x h => m.hd x h
  st := fun k x y h g => by
    obtain ⟨_, b, u, hb, hu, rfl⟩ := m.st k x y h g
    rw [pushC_mk]
    refine ⟨?_, rfl⟩
    have e : ∀ {a p c d : Int}, a + p + c + d - a - p = c + d := by intros; omega
    exact ⟨iM_wid2 hb.1 hu.1 e, iM_wid2 hb.2.1 hu.2.1 e, iM_wid2 hb.2.2 hu.2.2 e⟩
  se := fun k x b h g => by
    have g' : sAt (se.map mkS) (w.start + k) = some b := g
    rcases known_at s.up (t := w.start + (k : Int)) with ⟨q, _⟩ | ⟨c, q1, q2, _⟩
    · rw [q] at g'; cases g'
    · rw [q1] at g'
      cases g'
      obtain ⟨k', x', e1, e2, e3, _⟩ := s.at_ _ q2
      have : k' = k := by dsimp only at e2; omega
      subst this
      rw [h] at e1
      cases e1
      exact e3
def momAt : List Mom → Int → Option Mom
  | [], _ => none
  | m :: l, t => if m.at_ = t then some m else momAt l t
def hullB (b : Box) (l : List Box) : Box := l.foldl bHull b
theorem bHull_ok {m : Int} {a b : Box} (h : bOk m a) (g : bOk m b) : bOk m (bHull a b) := by
  have : ∀ {a b : Iv}, iOk m a → iOk m b → iOk m (iHull a b) := by intro a b h g; unfold iOk iHull at *; dsimp only; omega
  exact ⟨this h.1 g.1, this h.2.1 g.2.1, this h.2.2 g.2.2⟩
def gaps1 (s : Stt) (m : List Stt) : List Iv := m.map fun t => bSqLen (bSub s.place t.place)
def gapsL (l m : List Stt) : List Iv := l.flatMap fun s => gaps1 s m
def hullI (i : Iv) (l : List Iv) : Iv := l.foldl iHull i
def gapI (l m : List Stt) : Iv := match gapsL l m with
  | [] => (0, 0)
  | g :: r => hullI g (g :: r)
def momPl : List Stt → Box
  | [] => zBox
  | s :: r => hullB s.place ((s :: r).map fun t => t.place)
def momSp : List Stt → Box
  | [] => zBox
  | s :: r => hullB s.speed ((s :: r).map fun t => t.speed)
def mmGo (mu ob : Int) (P : Int → Pt) : Nat → Int → Pv → List Pv → List Pv
  | 0, _, _, acc => acc
  | n + 1, t, x, acc => if x.1 = (0, 0, 0) then acc else mmGo mu ob P n (t + 1) (pNext mu ob x (P t) (0, 0, 0)) (acc ++ [pNext mu ob x (P t) (0, 0, 0)])
def scr (z : Int) : Prop := Builtin.Int.intBits z ≤ 1048576 ∨ (0 ≤ z ∧ Bd z 1048580)
def rootUp (n : Int) : Int := if isq n * isq n = n then isq n else isq n + 1
end Q
namespace Q
open PySem PySem.Spec L2
structure gOk (g : Iv) : Prop where
  bd : BdI g 280
  nn : 0 ≤ g.1
  wf : g.1 ≤ g.2
abbrev Row := Int × Option Iv × Option Str
def brkW (a b : Jour) (t : Int) : Str := if (momAt a.moms t = none ∧ a.ending = "void") ∨ (momAt b.moms t = none ∧ b.ending = "void") then "void" else "unknown"
def tkRow (a b : Jour) (t : Int) : Row := match momAt a.moms t, momAt b.moms t with
  | some x, some y => (t, some (gapI x.states y.states), none)
  | _, _ => (t, none, some (brkW a b t))
def tkLo (x y z : Int) : Int := max (max x y) z
def clGo : List Row → Option Iv → Option (Option Iv)
  | [], o => some o
  | r :: rs, o => match r.2.1 with
    | none => none
    | some g => clGo rs (some (match o with
      | none => g
      | some p => (if g.1 < p.1 then g.1 else p.1, if g.2 < p.2 then g.2 else p.2)))
def clo (rows : List Row) : Option Iv := match clGo rows none with
  | some (some p) => some (isq p.1, rootUp p.2)
  | _ => none
abbrev RSp := Int × Int × Option Str × Option Iv
abbrev Span := Int × Int × Option Str × Option Int × Option Int
def vd (g : Iv) (d : Int) : Str := if d * d < g.1 then "impossible" else if g.2 ≤ d * d then "certain" else "possible"
def vdR (d : Int) (r : Row) : Option Str := match r.2.1 with
  | none => r.2.2
  | some g => some (vd g d)
def both (a b : Option Iv) : Option Iv := match b with
  | none => none
  | some g => some (iHull (a.getD (0, 0)) g)
def mtS (d : Int) : List RSp → Row → List RSp
  | [], r => [(r.1, r.1, vdR d r, r.2.1)]
  | b :: acc, r => if b.2.2.1 = vdR d r then (b.1, r.1, vdR d r, both b.2.2.2 r.2.1) :: acc else (r.1, r.1, vdR d r, r.2.1) :: b :: acc
def toldS (s : RSp) : Span := (s.1, s.2.1, s.2.2.1, s.2.2.2.map fun g => isq g.1, s.2.2.2.map fun g => rootUp g.2)
def mtF (d : Int) (rows : List Row) : List RSp := (rows.foldl (mtS d) []).reverse
def mtg (d : Int) (rows : List Row) : List Span := (mtF d rows).map toldS
def mtW : List Str := ["impossible", "certain", "possible", "void", "unknown"]
structure rowOk (r : Row) : Prop where
  g : ∀ g, r.2.1 = some g → gOk g ∧ r.2.2 = none
  n : r.2.1 = none → r.2.2 = some "void" ∨ r.2.2 = some "unknown"
structure spOk (s : RSp) : Prop where
  g : ∀ g, s.2.2.2 = some g → gOk g
  v : ∃ w ∈ mtW, s.2.2.1 = some w ∧ (s.2.2.2 = none ↔ w = "void" ∨ w = "unknown")
namespace M
end M
def fOpen (l : List Span) : Option Span := l.find? fun s => !decide (s.2.2.1 = some ("impossible" : Str))
def scr1 (cs : List Craft) (T : Craft → Craft → List Span) (i j : Int) : Option (Str × Str × Span) := match cs[i.toNat]?, cs[j.toNat]? with
  | some a, some b => (fOpen (T a b)).map fun s => (a.name, b.name, s)
  | _, _ => none
def scrL (cs : List Craft) (T : Craft → Craft → List Span) : List (Str × Str × Span) := (M.rngL 0 cs.length).flatMap fun i => (M.rngL (i + 1) cs.length).filterMap (scr1 cs T i)
end Q
namespace Q
open PySem PySem.Spec L2
def inSt (s t : Stt) : Bool := bIn s.place t.place && bIn s.speed t.speed
def heldB (s : Stt) (l : List Stt) : Bool := l.any fun t => inSt s t
def cutO (x : Stt) (o : Option Box) : Option Stt := match o with
  | none => some x
  | some b => sCut x b
def holdC (o : Option Box) (later : List Stt) (x : Stt) : Bool := match cutO x o with
  | none => true
  | some y => heldB y later
def stepH1 (mu ob : Int) (push : Box) (drift : Int) (o : Option Box) (later : List Stt) (s : Stt) : Bool := match sStep mu ob s push drift with
  | none => false
  | some x => holdC o later x
def stepH (mu ob : Int) (c : Craft) (t : Int) (l later : List Stt) : Bool := l.all (stepH1 mu ob (pushC c t) c.drift (sAt c.sights (t + 1)) later)
def refGo (S : Int → List Stt → List Stt → Bool) : Int → List (List Stt) → Option Int
  | t, a :: b :: r => if S t a b = true then refGo S (t + 1) (b :: r) else some (t + 1)
  | _, _ => none
def refA (mu ob f : Int) (c : Craft) (cl : List (List Stt)) : Option Int := match cl with
  | [] => none
  | a :: r => if (jFirst c f).all (fun s => heldB s a) = true then refGo (stepH mu ob c) c.start (a :: r) else some c.start
namespace M
end M
end Q
namespace Q
open PySem PySem.Spec L2
abbrev CRow := Stt × Box
def cutR (d : Box) (o : Option Stt) (r : List CRow) : List CRow := match o with
  | none => r
  | some y => (y, bHull d y.place) :: r
def stepR (S : Stt → Option Stt) (o : Option Box) : List CRow → Option (List CRow)
  | [] => some []
  | p :: l => match S p.1 with
    | none => none
    | some x => match stepR S o l with
      | none => none
      | some r => some (cutR p.2 (cutO x o) r)
def nextR (mu ob : Int) (c : Craft) (t : Int) (l : List CRow) : List CRow × Str := match stepR (fun s => sStep mu ob s (pushC c t) c.drift) (sAt c.sights (t + 1)) l with
  | none => ([], "lost")
  | some [] => ([], "void")
  | some (a :: r) => (a :: r, "whole")
def cGo (N : Int → List CRow → List CRow × Str) (st u : Int) : Nat → List Piece → List CRow → Int → Int → Course
  | 0, pcs, _, _, _ => ⟨pcs, "whole"⟩
  | n + 1, pcs, rows, b, t =>
    if t = b + st - 1 then
      if u ≤ t then ⟨pcs ++ [⟨b, t, rows.map fun p => p.2⟩], "whole"⟩
      else if (N t rows).2 = "whole" then cGo N st u n (pcs ++ [⟨b, t, rows.map fun p => p.2⟩]) ((N t rows).1.map fun p => (p.1, p.1.place)) (t + 1) (t + 1) else ⟨pcs ++ [⟨b, t, rows.map fun p => p.2⟩], (N t rows).2⟩
    else if (N t rows).2 = "whole" then cGo N st u n pcs (N t rows).1 b (t + 1) else ⟨pcs, (N t rows).2⟩
def cMk (mu ob : Int) (c : Craft) (f st u : Int) : Course :=
  if u < c.start then ⟨[], "whole"⟩
  else if jFirst c f = [] then ⟨[], "void"⟩
  else cGo (nextR mu ob c) st u ((u - c.start).toNat + st.toNat) [] ((jFirst c f).map fun s => (s, s.place)) c.start c.start
def rOk (l : List CRow) : Prop := l.length ≤ 64 ∧ ∀ p ∈ l, sOk p.1 ∧ bOk lim p.2
theorem cutO_sok {x y : Stt} {o : Option Box} (h : sOk x) (e : cutO x o = some y) : sOk y := by
  cases o with
  | none => cases e; exact h
  | some b => exact sCut_sok h e
theorem stepR_len {S : Stt → Option Stt} {o : Option Box} : ∀ {l r : List CRow}, stepR S o l = some r → r.length ≤ l.length := by
  intro l
  induction l with
  | nil => intro r h; cases h; exact Nat.le_refl _
  | cons p l ih =>
    intro r h
    unfold stepR at h
    split at h
    · cases h
    split at h
    · cases h
    rename_i q eq
    cases h
    have := ih eq
    unfold cutR
    split <;> simp only [List.length_cons] <;> omega
theorem stepR_mem {S : Stt → Option Stt} {o : Option Box} : ∀ {l r : List CRow}, stepR S o l = some r → ∀ q ∈ r, ∃ p ∈ l, ∃ x, S p.1 = some x ∧ cutO x o = some q.1 ∧ q.2 = bHull p.2 q.1.place := by
  intro l
  induction l with
  | nil => intro r h q hq; cases h; cases hq
  | cons p l ih =>
    intro r h q hq
    unfold stepR at h
    split at h
    · cases h
    rename_i x ex
    split at h
    · cases h
    rename_i r' er
    cases h
    unfold cutR at hq
    split at hq
    · obtain ⟨p', h1, h2⟩ := ih er q hq
      exact ⟨p', .tail _ h1, h2⟩
    · rename_i y ey
      rcases List.mem_cons.mp hq with rfl | hq
      · exact ⟨p, .head _, x, ex, ey, rfl⟩
      · obtain ⟨p', h1, h2⟩ := ih er q hq
        exact ⟨p', .tail _ h1, h2⟩
theorem stepR_keep {S : Stt → Option Stt} {o : Option Box} : ∀ {l r : List CRow}, stepR S o l = some r → ∀ p ∈ l, ∃ x, S p.1 = some x ∧ ∀ y, cutO x o = some y → (y, bHull p.2 y.place) ∈ r := by
  intro l
  induction l with
  | nil => intro r h p hp; cases hp
  | cons a l ih =>
    intro r h p hp
    unfold stepR at h
    split at h
    · cases h
    rename_i x ex
    split at h
    · cases h
    rename_i r' er
    cases h
    rcases List.mem_cons.mp hp with rfl | hp
    · exact ⟨x, ex, fun y ey => by rw [ey]; exact .head _⟩
    · obtain ⟨x', h1, h2⟩ := ih er p hp
      refine ⟨x', h1, fun y ey => ?_⟩
      unfold cutR
      split
      · exact h2 y ey
      · exact .tail _ (h2 y ey)
theorem rOk.next {mu ob : Int} {c : Craft} (hc : cOk c) {t : Int} {l : List CRow} (h : rOk l) : rOk (nextR mu ob c t l).1 := by
  unfold nextR
  cases e : stepR (fun s => sStep mu ob s (pushC c t) c.drift) (sAt c.sights (t + 1)) l with
  | none => exact ⟨Nat.zero_le _, (fun p hp => nomatch hp)⟩
  | some r =>
    have ok : rOk r := by
      refine ⟨Nat.le_trans (stepR_len e) h.1, fun q hq => ?_⟩
      obtain ⟨p, hp, x, ex, ey, e2⟩ := stepR_mem e q hq
      obtain ⟨h1, h2⟩ := h.2 p hp
      have sy := cutO_sok (sStep_sok h1.1.wf h1.2.wf (hc.pu t) hc.dr ex) ey
      exact ⟨sy, by rw [e2]; exact bHull_ok h2 sy.1⟩
    cases r with
    | nil => exact ⟨Nat.zero_le _, (fun p hp => nomatch hp)⟩
    | cons a r => exact ok
theorem nextR_ne {mu ob : Int} {c : Craft} {t : Int} {l : List CRow} (h : (nextR mu ob c t l).2 = "whole") : (nextR mu ob c t l).1 ≠ [] := by
  unfold nextR at *
  cases e : stepR (fun s => sStep mu ob s (pushC c t) c.drift) (sAt c.sights (t + 1)) l with
  | none => rw [e] at h; exact absurd (show ("lost" : Str) = "whole" from h) (by decide)
  | some r =>
    rw [e] at h
    cases r with
    | nil => exact absurd (show ("void" : Str) = "whole" from h) (by decide)
    | cons a r => exact List.cons_ne_nil _ _
theorem rOk.news {l : List CRow} (h : rOk l) : rOk (l.map fun p => (p.1, p.1.place)) := ⟨by rw [List.length_map]; exact h.1, fun q hq => by
  obtain ⟨p, hp, rfl⟩ := List.mem_map.mp hq
  exact ⟨(h.2 p hp).1, (h.2 p hp).1.1⟩⟩
theorem lOk.news {l : List Stt} (h : lOk l) : rOk (l.map fun s => (s, s.place)) := ⟨by rw [List.length_map]; exact h.1, fun q hq => by
  obtain ⟨p, hp, rfl⟩ := List.mem_map.mp hq
  exact ⟨h.2 p hp, (h.2 p hp).1⟩⟩
def rIn (mo : List Pv) (a k : Nat) (l : List CRow) : Prop := ∀ x, mo[k]? = some x → ∃ p ∈ l, sMem x p.1 ∧ ∀ j, a ≤ j → j ≤ k → ∀ y, mo[j]? = some y → bM y.1 p.2
theorem rIn.news {mo : List Pv} {a k : Nat} {l : List CRow} (h : rIn mo a k l) : rIn mo k k (l.map fun p => (p.1, p.1.place)) := fun x hx => by
  obtain ⟨p, hp, m, _⟩ := h x hx
  refine ⟨(p.1, p.1.place), List.mem_map.mpr ⟨p, hp, rfl⟩, m, fun j j1 j2 y hy => ?_⟩
  have : j = k := by omega
  subst this
  rw [hx] at hy; cases hy
  exact m.1
theorem rIn.next {mu ob : Int} {c : Craft} {mo : List Pv} (o : Obs mu ob c mo) {a k : Nat} {l : List CRow} (h : rIn mo a k l) :
    ((nextR mu ob c (c.start + k) l).2 = "whole" → rIn mo a (k + 1) (nextR mu ob c (c.start + k) l).1) ∧ ((nextR mu ob c (c.start + k) l).2 = "void" → mo[k + 1]? = none) := by
  unfold nextR
  cases e : stepR (fun s => sStep mu ob s (pushC c (c.start + k)) c.drift) (sAt c.sights (c.start + k + 1)) l with
  | none => exact ⟨fun z => absurd (show ("lost" : Str) = "whole" from z) (by decide), fun z => absurd (show ("lost" : Str) = "void" from z) (by decide)⟩
  | some r =>
    have hr : rIn mo a (k + 1) r := fun y hy => by
      have hk : k < mo.length := by have := (List.getElem?_eq_some_iff.mp hy).1; omega
      obtain ⟨p, hp, m, ma⟩ := h _ (List.getElem?_eq_getElem hk)
      obtain ⟨x, ex, hx⟩ := stepR_keep e p hp
      obtain ⟨s1, s2⟩ := o.st k _ y (List.getElem?_eq_getElem hk) hy
      have my := sStep_ob m s1 s2 ex
      have : ∃ z, cutO x (sAt c.sights (c.start + k + 1)) = some z ∧ sMem y z := by
        cases eo : sAt c.sights (c.start + (k : Int) + 1) with
        | none => exact ⟨x, rfl, my⟩
        | some b => exact sCut_in my (o.se (k + 1) y b hy (by rw [show c.start + ((k + 1 : Nat) : Int) = c.start + k + 1 by omega]; exact eo))
      obtain ⟨z, ez, mz⟩ := this
      refine ⟨_, hx z ez, mz, fun j j1 j2 w hw => ?_⟩
      by_cases q : j = k + 1
      · subst q
        rw [hy] at hw; cases hw
        exact bM_hull2 mz.1
      · exact bM_hull1 (ma j j1 (by omega) w hw)
    cases r with
    | nil =>
      refine ⟨fun z => absurd (show ("void" : Str) = "whole" from z) (by decide), fun _ => ?_⟩
      cases q : mo[k + 1]? with
      | none => rfl
      | some y => obtain ⟨p, hp, _⟩ := hr y q; cases hp
    | cons b r => exact ⟨fun _ => hr, fun z => absurd (show ("whole" : Str) = "void" from z) (by decide)⟩
structure PcOk (c : Craft) (st : Int) (p : Piece) : Prop where
  b0 : c.start ≤ p.b
  e0 : p.e = p.b + st - 1
  ne : p.parts ≠ []
  le : p.parts.length ≤ 64
  bd : ∀ b ∈ p.parts, bOk lim b
def PcIn (c : Craft) (mo : List Pv) (p : Piece) : Prop := ∀ x, mo[(p.e - c.start).toNat]? = some x → ∃ d ∈ p.parts, ∀ j : Nat, p.b ≤ c.start + j → c.start + j ≤ p.e → ∀ y, mo[j]? = some y → bM y.1 d
structure CoOk (c : Craft) (st u : Int) (co : Course) : Prop where
  pc : ∀ (i : Nat) p, co.pieces[i]? = some p → PcOk c st p ∧ p.b = c.start + i * st
  en : (co.ending = "whole" ∧ (co.pieces.length : Int) * st ≤ u - c.start + st ∧ u - c.start < (co.pieces.length : Int) * st) ∨ ((co.ending = "lost" ∨ co.ending = "void") ∧ (co.pieces.length : Int) * st ≤ u - c.start)
structure CoInv (c : Craft) (st u : Int) (pcs : List Piece) (rows : List CRow) (b t : Int) : Prop where
  pc : ∀ (i : Nat) p, pcs[i]? = some p → PcOk c st p ∧ p.b = c.start + i * st
  bb : b = c.start + (pcs.length : Int) * st
  bu : b ≤ u
  bs : c.start ≤ b
  bt : b ≤ t
  te : t ≤ b + st - 1
  ro : rOk rows
  rn : rows ≠ []
theorem CoInv.push {c : Craft} {st u : Int} {pcs : List Piece} {rows : List CRow} {b t : Int} (i : CoInv c st u pcs rows b t) (e : t = b + st - 1) : ∀ (k : Nat) p, (pcs ++ [⟨b, t, rows.map fun p => p.2⟩])[k]? = some p → PcOk c st p ∧ p.b = c.start + k * st := by
  intro k p h
  rcases Nat.lt_trichotomy k pcs.length with z | z | z
  · rw [List.getElem?_append_left z] at h
    exact i.pc k p h
  · subst z
    rw [List.getElem?_append_right (Nat.le_refl _), Nat.sub_self] at h
    cases h
    refine ⟨⟨i.bs, e, fun z => i.rn (List.map_eq_nil_iff.mp z), by dsimp only; rw [List.length_map]; exact i.ro.1, fun d hd => ?_⟩, i.bb⟩
    obtain ⟨q, hq, rfl⟩ := List.mem_map.mp hd
    exact (i.ro.2 q hq).2
  · rw [List.getElem?_eq_none (by rw [List.length_append]; simp only [List.length_cons, List.length_nil]; omega)] at h
    cases h
theorem CoInv.go {mu ob : Int} {c : Craft} {st u : Int} (hc : cOk c) (h1 : 1 ≤ st) {pcs : List Piece} {rows : List CRow} {b t : Int} (i : CoInv c st u pcs rows b t) (w : (nextR mu ob c t rows).2 = "whole") :
    (t = b + st - 1 → ¬ u ≤ t → CoInv c st u (pcs ++ [⟨b, t, rows.map fun p => p.2⟩]) ((nextR mu ob c t rows).1.map fun p => (p.1, p.1.place)) (t + 1) (t + 1)) ∧
    (t ≠ b + st - 1 → CoInv c st u pcs (nextR mu ob c t rows).1 b (t + 1)) := by
  have bb := i.bb
  have bu := i.bu
  have bs := i.bs
  have bt := i.bt
  have te := i.te
  refine ⟨fun e z => ⟨i.push e, ?_, by omega, by omega, Int.le_refl _, by omega, (i.ro.next hc).news, fun z => nextR_ne w (List.map_eq_nil_iff.mp z)⟩, fun e => ⟨i.pc, bb, bu, bs, by omega, by omega, i.ro.next hc, nextR_ne w⟩⟩
  rw [List.length_append]
  simp only [List.length_cons, List.length_nil]
  have : ((pcs.length + (0 + 1) : Nat) : Int) * st = (pcs.length : Int) * st + st := by rw [show ((pcs.length + (0 + 1) : Nat) : Int) = (pcs.length : Int) + 1 by omega, Int.add_mul, Int.one_mul]
  rw [this]
  omega
namespace M
section
variable {c : Cx} {ρ : Env}
end
end M
end Q
namespace Q
open PySem PySem.Spec L2
def cutP (s : Int) (p : RSp) : Int × Int × Option Str := (p.1, min p.2.1 s, p.2.2.1)
def cutF (s : Int) (l : List RSp) : List (Int × Int × Option Str) := (l.filter fun p => decide (p.1 ≤ s)).map (cutP s)
structure Shift (k : Int) (c' c : Craft) : Prop where
  st : c'.start = c.start + k
  pl : c'.place = c.place
  sp : c'.speed = c.speed
  dr : c'.drift = c.drift
  pu : ∀ t, pushC c' (t + k) = pushC c t
  sa : ∀ t, sAt c'.sights (t + k) = sAt c.sights t
def shM (k : Int) (m : Mom) : Mom := ⟨m.at_ + k, m.states⟩
def shR (k : Int) (r : Row) : Row := (r.1 + k, r.2)
def shP (k : Int) (p : RSp) : RSp := (p.1 + k, p.2.1 + k, p.2.2)
end Q
namespace Q
open PySem PySem.Spec L2
abbrev uS : Int := 1000000000000000000
def rnd (a : Iv) (d : Int) : Iv := (a.1 / d, -(-a.2 / d))
def lmt (a : Iv) : Iv := (max a.1 (-uS), min a.2 uS)
def tog (a b : Iv × Iv) : Iv × Iv := (lmt (rnd (iSub (iMul a.1 b.1) (iMul a.2 b.2)) uS), lmt (rnd (iAdd (iMul a.2 b.1) (iMul a.1 b.2)) uS))
def uGo : Nat → Int → Iv × Iv → Iv × Iv → Iv × Iv
  | 0, _, _, r => r
  | n + 1, t, p, r => if 0 < t then uGo n (t / 2) (tog p p) (if t % 2 = 1 then tog r p else r) else r
def uOne (w : Pt) : Iv × Iv := (rnd (w.1 * uS, w.1 * uS) w.2.2, rnd (w.2.1 * uS, w.2.1 * uS) w.2.2)
def uPow (w : Pt) (t : Int) : Iv × Iv := uGo 20 t (uOne w) ((uS, uS), (0, 0))
def tN (w : Pt) : Nat → Pt
  | 0 => (1, 0, 1)
  | n + 1 => ((tN w n).1 * w.1 - (tN w n).2.1 * w.2.1, (tN w n).2.1 * w.1 + (tN w n).1 * w.2.1, (tN w n).2.2 * w.2.2)
def cm (x y : Pt) : Pt := (x.1 * y.1 - x.2.1 * y.2.1, x.2.1 * y.1 + x.1 * y.2.1, x.2.2 * y.2.2)
def circ (x : Pt) : Prop := x.1 * x.1 + x.2.1 * x.2.1 = x.2.2 * x.2.2 ∧ 1 ≤ x.2.2
def sc (k : Int) (a : Iv) : Iv := (a.1 * k, a.2 * k)
structure Enc (a : Iv) (c d : Int) : Prop where
  m : iM (c * uS) (sc d a)
  lo : -uS ≤ a.1
  hi : a.2 ≤ uS
  ex : d = 1 → a = dg (c * uS)
theorem Enc.le {a : Iv} {c d : Int} (h : Enc a c d) (hd : 1 ≤ d) : a.1 ≤ a.2 := by
  have h1 : a.1 * d ≤ c * uS := h.m.1
  have h2 : c * uS ≤ a.2 * d := h.m.2
  exact Int.le_of_mul_le_mul_right (Int.le_trans h1 h2) (by omega)
def Enc2 (a : Iv × Iv) (z : Pt) : Prop := Enc a.1 z.1 z.2.2 ∧ Enc a.2 z.2.1 z.2.2
def inS (a : Iv) : Prop := -uS ≤ a.1 ∧ a.1 ≤ a.2 ∧ a.2 ≤ uS
def wI (a : Iv) : Int := a.2 - a.1
theorem Enc.inS {a : Iv} {c d : Int} (h : Enc a c d) (hd : 1 ≤ d) : inS a := ⟨h.lo, h.le hd, h.hi⟩
theorem Enc.bd {a : Iv} {c d : Int} (h : Enc a c d) (hd : 1 ≤ d) : BdI a 60 := iOk.bd (m := uS) (h.inS hd) 60
def w2 (a : Iv × Iv) (w : Int) : Prop := wI a.1 ≤ w ∧ wI a.2 ≤ w
def uW : Nat → Int → Int → Int
  | 0, _, w => w
  | n + 1, t, w => uW n (t / 2) (if 0 < t then w * 4 else w)
def siteB (w p : Pt) (t : Int) : Box := (rnd (iAdd (iScale (uPow w t).1 p.1) (iScale (uPow w t).2 (-p.2.1))) uS, rnd (iAdd (iScale (uPow w t).2 p.1) (iScale (uPow w t).1 p.2.1)) uS, (p.2.2, p.2.2))
def siteO (w p : Pt) (b e : Int) : Box := (M.rngL (b + 1) (e + 1)).foldl (fun x t => bHull x (siteB w p t)) (siteB w p b)
def siteN (w p : Pt) (n : Nat) : Pt := (p.1 * (tN w n).1 - p.2.1 * (tN w n).2.1, p.1 * (tN w n).2.1 + p.2.1 * (tN w n).1, p.2.2 * (tN w n).2.2)
def bSc (k : Int) (b : Box) : Box := (sc k b.1, sc k b.2.1, sc k b.2.2)
def wayI (p r : Iv) (b e : Int) : Iv := (p.1 + min (r.1 * b) (r.1 * e), p.2 + max (r.2 * b) (r.2 * e))
def wayB (s : Box × Box) (b e : Int) : Box := (wayI s.1.1 s.2.1 b e, wayI s.1.2.1 s.2.2.1 b e, wayI s.1.2.2 s.2.2.2 b e)
def sunI (p r : Iv) (t : Int) : Iv := (p.1 + t * r.1, p.2 + t * r.2)
def sunAt (s : Box × Box) (t : Int) : Box := (sunI s.1.1 s.2.1 t, sunI s.1.2.1 s.2.2.1 t, sunI s.1.2.2 s.2.2.2 t)
abbrev Sp := Int × Int × Str
def chn : Int → List Sp → Int → Prop
  | s, [], e => s = e
  | s, x :: l, e => x.1 = s ∧ x.1 ≤ x.2.1 ∧ chn (x.2.1 + 1) l e
def bnd : Int → List Sp → Nat → Int
  | s, [], _ => s
  | s, _ :: _, 0 => s
  | s, x :: l, k + 1 => bnd (x.2.1 + 1) l k
def dif (l : List Sp) : Prop := ∀ (k : Nat) x y, l[k]? = some x → l[k + 1]? = some y → x.2.2 ≠ y.2.2
def told (r l : List Sp) : Prop := ∀ x ∈ r, ∀ t, x.1 ≤ t → t ≤ x.2.1 → ∃ y ∈ l, y.1 ≤ t ∧ t ≤ y.2.1 ∧ y.2.2 = x.2.2
def joinA (r : List Sp) (x : Sp) : List Sp := match r.getLast? with
  | none => [x]
  | some y => if y.2.2 = x.2.2 ∧ y.2.1 + 1 = x.1 then r.dropLast ++ [(y.1, x.2.1, x.2.2)] else r ++ [x]
def joinL (l : List Sp) : List Sp := l.foldl joinA []
structure JOk (s e : Int) (r l : List Sp) : Prop where
  c : chn s r e
  d : dif r
  t : told r l
def rawL (V : Piece → Int → Int → Str) (b e : Int) (l : List Piece) : List Sp := l.filterMap fun p => if max b p.b ≤ min e p.e then some (max b p.b, min e p.e, V p (max b p.b) (min e p.e)) else none
def pcs (st : Int) : Int → List Piece → Prop
  | _, [] => True
  | s, p :: l => p.b = s ∧ p.e = s + st - 1 ∧ pcs st (s + st) l
theorem CoOk.pcs {c : Craft} {st u : Int} {co : Course} (h : CoOk c st u co) : pcs st c.start co.pieces := by
  have g : ∀ (l : List Piece) (s : Int), (∀ (i : Nat) p, l[i]? = some p → p.b = s + i * st ∧ p.e = p.b + st - 1) → Q.pcs st s l := by
    intro l
    induction l with
    | nil => intro s _; exact trivial
    | cons p l ih =>
      intro s q
      obtain ⟨q1, q2⟩ := q 0 p rfl
      refine ⟨by omega, by omega, ih _ fun i p hp => ?_⟩
      obtain ⟨r1, r2⟩ := q (i + 1) p hp
      refine ⟨?_, r2⟩
      rw [r1, Int.natCast_add, Int.add_mul]
      omega
  refine g _ _ fun i p hp => ?_
  obtain ⟨q1, q2⟩ := h.pc i p hp
  exact ⟨q2, q1.e0⟩
structure PcsOk (c : Craft) (st : Int) (l : List Piece) : Prop where
  a : pcs st c.start l
  p : ∀ p ∈ l, p.parts ≠ [] ∧ ∀ q ∈ p.parts, bOk lim q
  n : l.length ≤ 102000
def agr : List Str → Str
  | [] => "possible"
  | a :: l => if l.all (fun b => decide (b = a)) = true then a else "possible"
namespace M
end M
end Q
namespace Q
open PySem PySem.Spec L2
def inSp (l : List Iv) (t : Int) : Prop := ∃ s ∈ l, s.1 ≤ t ∧ t ≤ s.2
instance {l : List Iv} {t : Int} : Decidable (inSp l t) := inferInstanceAs (Decidable (∃ s ∈ l, s.1 ≤ t ∧ t ≤ s.2))
def neS (s : Iv) : Bool := decide (s.1 ≤ s.2)
def jnR (q : Iv) : List Iv → List Iv
  | [] => [q]
  | p :: r => if p.1 ≤ q.2 + 1 then jnR (q.1, max p.2 q.2) r else q :: jnR p r
def jnS : List Iv → List Iv
  | [] => []
  | q :: r => jnR q r
def jn (l : List Iv) : List Iv := jnS (sortB leP (l.filter neS))
def Prop_ (l : List Iv) : Prop := l.Pairwise (fun a b => a.2 + 1 < b.1) ∧ ∀ s ∈ l, s.1 ≤ s.2
def covB (l : List Iv) (b e : Int) : Bool := (jn l).any fun s => decide (s.1 ≤ b ∧ e ≤ s.2)
def touB (l : List Iv) (b e : Int) : Bool := l.any fun s => decide (max s.1 b ≤ min s.2 e)
def cmn (a b : List Iv) : List Iv := a.flatMap fun s => b.filterMap fun u => if max s.1 u.1 ≤ min s.2 u.2 then some (max s.1 u.1, min s.2 u.2) else none
def shS (x y : Int) (l : List Iv) : List Iv := l.map fun s => (s.1 + x, s.2 + y)
namespace M
instance {α β γ δ ε : Type} {n : α → D} {m : β → D} {o : γ → D} {u : δ → D} {v : ε → D} {i j k l s : Nat} [h : EqE n i] [g : EqE m j] [f : EqE o k] [q : EqE u l] [z : EqE v s] : EqE (d5 n m o u v) (max i (max j (max k (max l (max s 0)))) + 1) where
  inj := fun a b e => by
    unfold d5 at e
    injection e with e
    injection e with e1 e2
    injection e2 with e2 e3
    injection e3 with e3 e4
    injection e4 with e4 e5
    injection e5 with e5 _
    exact Prod.ext (h.inj _ _ e1) (Prod.ext (g.inj _ _ e2) (Prod.ext (f.inj _ _ e3) (Prod.ext (q.inj _ _ e4) (z.inj _ _ e5))))
  nice := fun a => ns1 (h.nice _) (ns1 (g.nice _) (ns1 (f.nice _) (ns1 (q.nice _) (ns1 (z.nice _) ns0))))
  nn := fun _ h => nomatch h
end M
end Q
namespace Q
open PySem PySem.Spec L2
abbrev Ct := Int × Int × Int × Int × Int
def rdy (g : Int) (c : Ct) : Int := c.2.2.2.1 + 1 + g
abbrev Tb := List (Int × Int × List Ct)
def bestBy (t : Tb) (k : Int) : Int × List Ct := t.foldl (fun s p => if p.1 ≤ k then (p.2.1, p.2.2) else s) (0, [])
def lastW (t : Tb) : Int := match t.getLast? with
  | some p => p.2.1
  | none => 0
def tbStep (g : Int) (t : Tb) (c : Ct) : Tb := if lastW t < (bestBy t c.2.2.1).1 + c.2.2.2.2 then t ++ [(rdy g c, (bestBy t c.2.2.1).1 + c.2.2.2.2, (bestBy t c.2.2.1).2 ++ [c])] else t
theorem bestBy_snoc {t : Tb} {p : Int × Int × List Ct} {k : Int} : bestBy (t ++ [p]) k = if p.1 ≤ k then (p.2.1, p.2.2) else bestBy t k := by
  unfold bestBy
  rw [List.foldl_append]
  rfl
theorem lastW_snoc {t : Tb} {p : Int × Int × List Ct} : lastW (t ++ [p]) = p.2.1 := by
  unfold lastW
  rw [List.getLast?_concat]
structure TbOk (t : Tb) : Prop where
  tm : t.Pairwise fun p q => p.1 ≤ q.1
  wt : t.Pairwise fun p q => p.2.1 < q.2.1
  ps : ∀ p ∈ t, 0 < p.2.1
theorem tb_split (t : Tb) : t = [] ∨ ∃ s p, t = s ++ [p] := by
  rcases List.eq_nil_or_concat t with h | ⟨s, p, h⟩
  · exact .inl h
  · exact .inr ⟨s, p, by rw [h, List.concat_eq_append]⟩
theorem TbOk.init {t : Tb} {p : Int × Int × List Ct} (h : TbOk (t ++ [p])) : TbOk t ∧ (∀ q ∈ t, q.1 ≤ p.1) ∧ (∀ q ∈ t, q.2.1 < p.2.1) ∧ 0 < p.2.1 := by
  obtain ⟨a1, _, a3⟩ := List.pairwise_append.mp h.tm
  obtain ⟨b1, _, b3⟩ := List.pairwise_append.mp h.wt
  exact ⟨⟨a1, b1, fun q hq => h.ps q (List.mem_append_left _ hq)⟩, fun q hq => a3 q hq p (.head _), fun q hq => b3 q hq p (.head _), h.ps p (List.mem_append_right _ (.head _))⟩
theorem lastW_nn {t : Tb} (h : TbOk t) : 0 ≤ lastW t := by
  rcases tb_split t with rfl | ⟨s, p, rfl⟩
  · exact Int.le_refl _
  · rw [lastW_snoc]
    have := h.init.2.2.2
    omega
theorem lastW_ge {t : Tb} (h : TbOk t) : ∀ p ∈ t, p.2.1 ≤ lastW t := by
  rcases tb_split t with rfl | ⟨s, p, rfl⟩
  · intro p hp; cases hp
  · intro q hq
    rw [lastW_snoc]
    rcases List.mem_append.mp hq with hq | hq
    · exact Int.le_of_lt (h.init.2.2.1 q hq)
    · cases List.mem_singleton.mp hq; exact Int.le_refl _
theorem bestBy_all {t : Tb} {k : Int} (hk : ∀ p ∈ t, p.1 ≤ k) : (bestBy t k).1 = lastW t := by
  rcases tb_split t with rfl | ⟨s, p, rfl⟩
  · rfl
  · rw [bestBy_snoc, if_pos (hk p (List.mem_append_right _ (.head _))), lastW_snoc]
theorem bestBy_le : ∀ {t : Tb} {k : Int}, TbOk t → 0 ≤ (bestBy t k).1 ∧ (bestBy t k).1 ≤ lastW t := by
  intro t k h
  generalize hn : t.length = n
  induction n generalizing t with
  | zero =>
    have := List.length_eq_zero_iff.mp hn
    subst this
    exact ⟨Int.le_refl _, Int.le_refl _⟩
  | succ n ih =>
    rcases tb_split t with rfl | ⟨s, p, rfl⟩
    · cases hn
    · obtain ⟨h1, h2, h3, h4⟩ := h.init
      have hs := ih h1 (by rw [List.length_append, List.length_singleton] at hn; omega)
      rw [bestBy_snoc, lastW_snoc]
      by_cases z : p.1 ≤ k
      · rw [if_pos z]; dsimp only; omega
      · rw [if_neg z]
        refine ⟨hs.1, ?_⟩
        rcases tb_split s with rfl | ⟨s', p', rfl⟩
        · have e : lastW ([] : Tb) = 0 := rfl
          omega
        · rw [lastW_snoc] at hs
          have := h3 p' (List.mem_append_right _ (.head _))
          omega
theorem bestBy_mem : ∀ {t : Tb} {k : Int}, bestBy t k = (0, []) ∨ ∃ p ∈ t, p.1 ≤ k ∧ bestBy t k = (p.2.1, p.2.2) := by
  intro t k
  generalize hn : t.length = n
  induction n generalizing t with
  | zero =>
    have := List.length_eq_zero_iff.mp hn
    subst this
    exact .inl rfl
  | succ n ih =>
    rcases tb_split t with rfl | ⟨s, p, rfl⟩
    · cases hn
    · rw [bestBy_snoc]
      by_cases z : p.1 ≤ k
      · rw [if_pos z]; exact .inr ⟨p, List.mem_append_right _ (.head _), z, rfl⟩
      · rw [if_neg z]
        rcases ih (t := s) (by rw [List.length_append, List.length_singleton] at hn; omega) with h | ⟨q, hq, h1, h2⟩
        · exact .inl h
        · exact .inr ⟨q, List.mem_append_left _ hq, h1, h2⟩
def prc (t : Tb) : List (Int × Int) := (t.foldl (fun (s : List (Int × Int) × Int) p => (s.1 ++ [(p.1, p.2.1 - s.2)], p.2.1)) ([], 0)).1
theorem prc_fold {t : Tb} : t.foldl (fun (s : List (Int × Int) × Int) p => (s.1 ++ [(p.1, p.2.1 - s.2)], p.2.1)) ([], 0) = (prc t, lastW t) := by
  rcases tb_split t with rfl | ⟨s, p, rfl⟩
  · rfl
  · unfold prc
    rw [List.foldl_append, lastW_snoc]
    rfl
theorem prc_snoc {t : Tb} {p : Int × Int × List Ct} : prc (t ++ [p]) = prc t ++ [(p.1, p.2.1 - lastW t)] := by
  show ((t ++ [p]).foldl (fun (s : List (Int × Int) × Int) p => (s.1 ++ [(p.1, p.2.1 - s.2)], p.2.1)) ([], 0)).1 = _
  rw [List.foldl_append, prc_fold]
  rfl
def paid (l : List (Int × Int)) (a b : Int) : Int := ((l.filter fun q => decide (a < q.1 ∧ q.1 ≤ b)).map fun q => q.2).sum
theorem paid_snoc {l : List (Int × Int)} {q : Int × Int} {a b : Int} : paid (l ++ [q]) a b = paid l a b + (if a < q.1 ∧ q.1 ≤ b then q.2 else 0) := by
  unfold paid
  rw [List.filter_append, List.map_append, List.sum_append]
  congr 1
  by_cases z : a < q.1 ∧ q.1 ≤ b
  · rw [if_pos z, List.filter_cons_of_pos (by exact decide_eq_true z)]
    simp
  · rw [if_neg z, List.filter_cons_of_neg (by exact fun h => z (of_decide_eq_true h))]
    rfl
theorem paid_ok {a b : Int} (hab : a ≤ b) : ∀ {t : Tb}, TbOk t → paid (prc t) a b = (bestBy t b).1 - (bestBy t a).1 := by
  intro t h
  generalize hn : t.length = n
  induction n generalizing t with
  | zero =>
    have := List.length_eq_zero_iff.mp hn
    subst this
    rfl
  | succ n ih =>
    rcases tb_split t with rfl | ⟨s, p, rfl⟩
    · cases hn
    · obtain ⟨h1, h2, h3, h4⟩ := h.init
      have hs := ih h1 (by rw [List.length_append, List.length_singleton] at hn; omega)
      rw [prc_snoc, paid_snoc, hs, bestBy_snoc, bestBy_snoc]
      dsimp only
      by_cases zb : p.1 ≤ b
      · have eb := bestBy_all (t := s) (k := b) fun q hq => Int.le_trans (h2 q hq) zb
        rw [if_pos zb]
        by_cases za : p.1 ≤ a
        · have ea := bestBy_all (t := s) (k := a) fun q hq => Int.le_trans (h2 q hq) za
          rw [if_pos za, if_neg (by omega), eb, ea]
          dsimp only
          omega
        · rw [if_neg za, if_pos ⟨by omega, zb⟩, eb]
          dsimp only
          omega
      · rw [if_neg zb, if_neg (by omega), if_neg (by omega)]
        omega
theorem prc_pos {t : Tb} (h : TbOk t) : ∀ q ∈ prc t, 0 < q.2 := by
  generalize hn : t.length = n
  induction n generalizing t with
  | zero =>
    have := List.length_eq_zero_iff.mp hn
    subst this
    intro q hq; cases hq
  | succ n ih =>
    rcases tb_split t with rfl | ⟨s, p, rfl⟩
    · cases hn
    · obtain ⟨h1, h2, h3, h4⟩ := h.init
      intro q hq
      rw [prc_snoc] at hq
      rcases List.mem_append.mp hq with hq | hq
      · exact ih h1 (by rw [List.length_append, List.length_singleton] at hn; omega) q hq
      · cases List.mem_singleton.mp hq
        dsimp only
        rcases tb_split s with rfl | ⟨s', p', rfl⟩
        · have e : lastW ([] : Tb) = 0 := rfl
          omega
        · rw [lastW_snoc]
          have := h3 p' (List.mem_append_right _ (.head _))
          omega
theorem prc_sum {t : Tb} : ((prc t).map fun q => q.2).sum = lastW t := by
  generalize hn : t.length = n
  induction n generalizing t with
  | zero =>
    have := List.length_eq_zero_iff.mp hn
    subst this
    rfl
  | succ n ih =>
    rcases tb_split t with rfl | ⟨s, p, rfl⟩
    · cases hn
    · rw [prc_snoc, List.map_append, List.sum_append, ih (t := s) (by rw [List.length_append, List.length_singleton] at hn; omega), lastW_snoc]
      simp only [List.map_cons, List.map_nil, List.sum_cons, List.sum_nil]
      omega
def wgt (l : List Ct) : Int := (l.map fun c => c.2.2.2.2).sum
theorem wgt_snoc {l : List Ct} {c : Ct} : wgt (l ++ [c]) = wgt l + c.2.2.2.2 := by
  unfold wgt
  rw [List.map_append, List.sum_append]
  simp only [List.map_cons, List.map_nil, List.sum_cons, List.sum_nil]
  omega
structure EnOk (g : Int) (S : List Ct) (p : Int × Int × List Ct) : Prop where
  w : wgt p.2.2 = p.2.1
  ap : p.2.2.Pairwise fun a b => rdy g a ≤ b.2.2.1
  mm : ∀ c ∈ p.2.2, c ∈ S ∧ rdy g c ≤ p.1
structure TbInv (g : Int) (S : List Ct) (t : Tb) : Prop where
  ok : TbOk t
  en : ∀ p ∈ t, EnOk g S p
  cv : ∀ c ∈ S, c.2.2.2.2 ≤ (bestBy t (rdy g c)).1 - (bestBy t c.2.2.1).1
  tm : ∀ p ∈ t, ∃ c ∈ S, p.1 = rdy g c
theorem EnOk.mono {g : Int} {S R : List Ct} {p : Int × Int × List Ct} (h : EnOk g S p) (hs : ∀ c ∈ S, c ∈ R) : EnOk g R p := ⟨h.w, h.ap, fun c hc => ⟨hs c (h.mm c hc).1, (h.mm c hc).2⟩⟩
theorem tb_step {g : Int} {S : List Ct} {t : Tb} {c : Ct} (h : TbInv g S t) (g0 : 0 ≤ g) (hc : c.2.2.1 ≤ c.2.2.2.1) (w0 : 0 ≤ c.2.2.2.2) (hS : ∀ d ∈ S, d.2.2.1 ≤ d.2.2.2.1 ∧ d.2.2.2.1 ≤ c.2.2.2.1) : TbInv g (S ++ [c]) (tbStep g t c) := by
  have tl : ∀ p ∈ t, p.1 ≤ rdy g c := fun p hp => by
    obtain ⟨d, hd, e⟩ := h.tm p hp
    have := (hS d hd).2
    rw [e]; unfold rdy; omega
  have all := bestBy_all tl
  have bl := bestBy_le (k := c.2.2.1) h.ok
  have nn := lastW_nn h.ok
  unfold tbStep
  by_cases z : lastW t < (bestBy t c.2.2.1).1 + c.2.2.2.2
  · rw [if_pos z]
    have gd : ∀ d ∈ (bestBy t c.2.2.1).2, (d ∈ S ∧ rdy g d ≤ c.2.2.1) := fun d hd => by
      rcases bestBy_mem (t := t) (k := c.2.2.1) with e | ⟨p, hp, p1, e⟩
      · rw [e] at hd; cases hd
      · rw [e] at hd
        have := (h.en p hp).mm d hd
        exact ⟨this.1, by omega⟩
    have gw : wgt (bestBy t c.2.2.1).2 = (bestBy t c.2.2.1).1 := by
      rcases bestBy_mem (t := t) (k := c.2.2.1) with e | ⟨p, hp, p1, e⟩
      · rw [e]; rfl
      · rw [e]; exact (h.en p hp).w
    have ga : (bestBy t c.2.2.1).2.Pairwise fun a b => rdy g a ≤ b.2.2.1 := by
      rcases bestBy_mem (t := t) (k := c.2.2.1) with e | ⟨p, hp, p1, e⟩
      · rw [e]; exact .nil
      · rw [e]; exact (h.en p hp).ap
    refine ⟨⟨?_, ?_, ?_⟩, ?_, ?_, ?_⟩
    · exact List.pairwise_append.mpr ⟨h.ok.tm, List.pairwise_singleton _ _, fun p hp q hq => by cases List.mem_singleton.mp hq; exact tl p hp⟩
    · exact List.pairwise_append.mpr ⟨h.ok.wt, List.pairwise_singleton _ _, fun p hp q hq => by
        cases List.mem_singleton.mp hq
        have := lastW_ge h.ok p hp
        dsimp only
        omega⟩
    · intro p hp
      rcases List.mem_append.mp hp with hp | hp
      · exact h.ok.ps p hp
      · cases List.mem_singleton.mp hp
        dsimp only
        omega
    · intro p hp
      rcases List.mem_append.mp hp with hp | hp
      · exact (h.en p hp).mono fun d hd => List.mem_append_left _ hd
      · cases List.mem_singleton.mp hp
        refine ⟨by dsimp only; rw [wgt_snoc, gw], List.pairwise_append.mpr ⟨ga, List.pairwise_singleton _ _, fun a ha b hb => by cases List.mem_singleton.mp hb; exact (gd a ha).2⟩, fun d hd => ?_⟩
        dsimp only at hd ⊢
        rcases List.mem_append.mp hd with hd | hd
        · have := (gd d hd).2
          exact ⟨List.mem_append_left _ (gd d hd).1, by unfold rdy at *; omega⟩
        · cases List.mem_singleton.mp hd
          exact ⟨List.mem_append_right _ (.head _), Int.le_refl _⟩
    · intro d hd
      rw [bestBy_snoc, bestBy_snoc]
      rcases List.mem_append.mp hd with hd | hd
      · have e1 := h.cv d hd
        have e2 := hS d hd
        have nb : ¬ rdy g c ≤ d.2.2.1 := by unfold rdy; omega
        rw [if_neg nb]
        by_cases y : rdy g c ≤ rdy g d
        · rw [if_pos y]
          have := bestBy_le (k := rdy g d) h.ok
          dsimp only
          omega
        · rw [if_neg y]; exact e1
      · cases List.mem_singleton.mp hd
        rw [if_pos (Int.le_refl _), if_neg (by unfold rdy; omega)]
        dsimp only
        omega
    · intro p hp
      rcases List.mem_append.mp hp with hp | hp
      · obtain ⟨d, hd, e⟩ := h.tm p hp
        exact ⟨d, List.mem_append_left _ hd, e⟩
      · cases List.mem_singleton.mp hp
        exact ⟨c, List.mem_append_right _ (.head _), rfl⟩
  · rw [if_neg z]
    refine ⟨h.ok, fun p hp => (h.en p hp).mono fun d hd => List.mem_append_left _ hd, fun d hd => ?_, fun p hp => ?_⟩
    · rcases List.mem_append.mp hd with hd | hd
      · exact h.cv d hd
      · cases List.mem_singleton.mp hd
        rw [all]; omega
    · obtain ⟨d, hd, e⟩ := h.tm p hp
      exact ⟨d, List.mem_append_left _ hd, e⟩
theorem tb_nil {g : Int} : TbInv g [] [] := ⟨⟨.nil, .nil, (fun p hp => by cases hp)⟩, (fun p hp => by cases hp), (fun p hp => by cases hp), (fun p hp => by cases hp)⟩
theorem tb_all {g : Int} (g0 : 0 ≤ g) : ∀ {l S : List Ct} {t : Tb}, TbInv g S t → (∀ c ∈ l, c.2.2.1 ≤ c.2.2.2.1 ∧ 0 ≤ c.2.2.2.2) → (∀ c ∈ S, c.2.2.1 ≤ c.2.2.2.1) → (S ++ l).Pairwise (fun a b => a.2.2.2.1 ≤ b.2.2.2.1) → TbInv g (S ++ l) (l.foldl (tbStep g) t)
  | [], S, t, h, _, _, _ => by rw [List.append_nil]; exact h
  | c :: l, S, t, h, hl, hS, hp => by
    have hc := hl c (.head _)
    have e : S ++ c :: l = (S ++ [c]) ++ l := by rw [List.append_assoc]; rfl
    rw [List.foldl_cons, e]
    rw [e] at hp
    refine tb_all g0 (tb_step h g0 hc.1 hc.2 fun d hd => ⟨hS d hd, ?_⟩) (fun d hd => hl d (.tail _ hd)) (fun d hd => ?_) hp
    · exact (List.pairwise_append.mp (List.pairwise_append.mp hp).1).2.2 d hd c (.head _)
    · rcases List.mem_append.mp hd with hd | hd
      · exact hS d hd
      · cases List.mem_singleton.mp hd; exact hc.1
theorem paid_cons {q : Int × Int} {l : List (Int × Int)} {a b : Int} : paid (q :: l) a b = (if a < q.1 ∧ q.1 ≤ b then q.2 else 0) + paid l a b := by
  unfold paid
  by_cases z : a < q.1 ∧ q.1 ≤ b
  · rw [if_pos z, List.filter_cons_of_pos (by exact decide_eq_true z), List.map_cons, List.sum_cons]
  · rw [if_neg z, List.filter_cons_of_neg (by exact fun h => z (of_decide_eq_true h))]
    omega
theorem one_pays {g k v : Int} (v0 : 0 ≤ v) : ∀ {X : List Ct}, X.Pairwise (fun a b => rdy g a ≤ b.2.2.1 ∨ rdy g b ≤ a.2.2.1) → ((X.map fun c => if c.2.2.1 < k ∧ k ≤ rdy g c then v else 0).sum ≤ v) ∧ ((∀ c ∈ X, ¬ (c.2.2.1 < k ∧ k ≤ rdy g c)) → (X.map fun c => if c.2.2.1 < k ∧ k ≤ rdy g c then v else 0).sum = 0)
  | [], _ => ⟨v0, fun _ => rfl⟩
  | c :: X, h => by
    obtain ⟨h1, h2⟩ := List.pairwise_cons.mp h
    obtain ⟨i1, i2⟩ := one_pays (g := g) (k := k) v0 h2
    rw [List.map_cons, List.sum_cons]
    by_cases z : c.2.2.1 < k ∧ k ≤ rdy g c
    · rw [if_pos z, i2 fun d hd q => by have := h1 d hd; omega]
      exact ⟨by omega, fun q => absurd z (q c (.head _))⟩
    · rw [if_neg z]
      exact ⟨by omega, fun q => by rw [i2 fun d hd => q d (.tail _ hd)]; rfl⟩
theorem sum_add {α : Type} {f g : α → Int} : ∀ {l : List α}, (l.map fun x => f x + g x).sum = (l.map f).sum + (l.map g).sum
  | [] => rfl
  | x :: l => by
    rw [List.map_cons, List.map_cons, List.map_cons, List.sum_cons, List.sum_cons, List.sum_cons, sum_add]
    omega
theorem paid_apart {g : Int} {X : List Ct} (h : X.Pairwise (fun a b => rdy g a ≤ b.2.2.1 ∨ rdy g b ≤ a.2.2.1)) : ∀ {l : List (Int × Int)}, (∀ q ∈ l, 0 ≤ q.2) → (X.map fun c => paid l c.2.2.1 (rdy g c)).sum ≤ (l.map fun q => q.2).sum
  | [], _ => by
    have : (X.map fun c => paid [] c.2.2.1 (rdy g c)) = X.map fun _ => (0 : Int) := rfl
    rw [this]
    clear this h
    induction X with
    | nil => exact Int.le_refl _
    | cons c X ih => rw [List.map_cons, List.sum_cons, Int.zero_add]; exact ih
  | q :: l, hq => by
    have ih := paid_apart h (l := l) fun x hx => hq x (.tail _ hx)
    have o := (one_pays (g := g) (k := q.1) (hq q (.head _)) h).1
    have e : (X.map fun c => paid (q :: l) c.2.2.1 (rdy g c)) = X.map fun c => (if c.2.2.1 < q.1 ∧ q.1 ≤ rdy g c then q.2 else 0) + paid l c.2.2.1 (rdy g c) := List.map_congr_left fun c _ => paid_cons
    rw [e, sum_add, List.map_cons, List.sum_cons]
    omega
theorem dual {g : Int} {X : List Ct} {l : List (Int × Int)} (h : X.Pairwise (fun a b => rdy g a ≤ b.2.2.1 ∨ rdy g b ≤ a.2.2.1)) (hq : ∀ q ∈ l, 0 ≤ q.2) (hc : ∀ c ∈ X, c.2.2.2.2 ≤ paid l c.2.2.1 (rdy g c)) : wgt X ≤ (l.map fun q => q.2).sum := by
  refine Int.le_trans ?_ (paid_apart h hq)
  unfold wgt
  clear h
  induction X with
  | nil => exact Int.le_refl _
  | cons c X ih =>
    rw [List.map_cons, List.map_cons, List.sum_cons, List.sum_cons]
    have := hc c (.head _)
    have := ih fun d hd => hc d (.tail _ hd)
    omega
end Q
namespace Q
open PySem PySem.Spec L2 PySem.NumText
def dgs (m : Nat) : List Nat := (Nat.toDigits 10 m).map Char.toNat
end Q
namespace Q
open PySem PySem.Spec L2 PySem.NumText
abbrev Tx (l : List Nat) : Str := SX.S l
def numT (n : Int) : List Nat := if n < 0 then 45 :: dgs n.natAbs else dgs n.natAbs
namespace M
end M
end Q
namespace Q
namespace M
open PySem PySem.Spec L2
noncomputable section
section
variable {c : Cx} {ρ : Env}
def alls {α : Type} : List (Option α) → Rs (List α)
  | [] => .ok []
  | none :: _ => .no
  | some a :: r => (alls r).bind fun l => .ok (a :: l)
end
end
end M
end Q
namespace Q
namespace M
open PySem PySem.Spec L2
noncomputable section
open Classical in
theorem any_nice {n : Nat} {d : D} (h1 : Q.nice n d = true) : ∀ {l : List D}, Q.nices n l = true → ((D.py.pys l).any fun z => PyData.eqv z d.py) = decide (d ∈ l)
  | [], _ => by rw [decide_eq_false (fun h => nomatch h)]; rfl
  | e :: l, h => by
    rw [Q.nices, Bool.and_eq_true] at h
    show (PyData.eqv e.py d.py || ((D.py.pys l).any fun z => PyData.eqv z d.py)) = _
    rw [any_nice h1 h.2]
    by_cases z : d = e
    · subst z
      rw [eqv_same h1, Bool.true_or, decide_eq_true (.head _)]
    · have w : PyData.eqv e.py d.py = false := by
        cases q : PyData.eqv e.py d.py with
        | false => rfl
        | true => exact absurd (eqv_dist h.1 h1 q).symm z
      rw [w, Bool.false_or]
      refine decide_eq_decide.mpr ⟨fun m => .tail _ m, fun m => ?_⟩
      rcases List.mem_cons.mp m with r | r
      · exact absurd r z
      · exact r
open Classical in
def inVR {α : Type} (n : α → D) (a : α) (l : List α) : Rs Bool := if Q.nice 31 (n a) = true ∧ Q.nices 31 (l.map n) = true then .ok (decide (n a ∈ l.map n)) else .no
def isTR (its : List Nat) (d : D) : Rs Bool := match d with
  | .ins c _ _ => if its.contains c = true then .ok false else .no
  | d => match kitD d "tuple" with
    | some b => .ok b
    | none => .no
def QISN (its : List Nat) : List D → Rs Bool → Prop := fun ds r => ∀ (k : D → Prop) (x : Exc → Prop), r.sat (fun b => k (.bl b)) x → isnW its ds k
theorem re_isn {its : List Nat} {es : List E} {r : Rs Bool} (hi : c.NM.its = its) (h : RX c es ρ r (QISN its)) : RE c (.isn es) ρ r .bl := fun k x q => by
  rw [wpE, hi]
  exact h _ _ _ (fun ds r' z w => z k x w) q
def QDG {α : Type} (k1 k2 : Str) (n : α → D) : List D → Rs α → Prop := fun ds r => ∀ (k : D → Prop) (x : Exc → Prop), r.sat (fun a => k (n a)) x → (match ds with
  | [d1, d2, s, d3] => dg2W k1 k2 d1 d2 d3 s k
  | _ => False)
theorem re_dg2 {α : Type} {n : α → D} {k1 k2 : Str} {a b w d : E} {r : Rs α} (h : RX c [a, b, w, d] ρ r (QDG k1 k2 n)) : RE c (.dg2 k1 k2 a b w d) ρ r n := fun k x q => by
  rw [wpE]
  have := h (fun ds => match ds with
    | [d1, d2, s, d3] => dg2W k1 k2 d1 d2 d3 s k
    | _ => False) (fun a => k (n a)) x (fun ds r' z w => z k x w) q
  simp only [wpEs] at this
  exact this
end
end M
end Q
namespace Q
open PySem PySem.Spec L2
structure Lin {κ : Type} (lt : κ → κ → Prop) : Prop where
  irr : ∀ a, ¬ lt a a
  tr : ∀ {a b c}, lt a b → lt b c → lt a c
  tri : ∀ {a b}, ¬ lt a b → ¬ lt b a → a = b
def ltN (a b : Str) : Prop := a.cps.toList < b.cps.toList
instance : DecidableRel ltN := fun a b => inferInstanceAs (Decidable (a.cps.toList < b.cps.toList))
def ltZ (a b : Int) : Prop := a < b
instance : DecidableRel ltZ := fun a b => inferInstanceAs (Decidable (a < b))
theorem ltZ_lin : Lin ltZ := ⟨fun a => Int.lt_irrefl a, fun h g => Int.lt_trans h g, fun {a b} h g => by unfold ltZ at h g; omega⟩
section
variable {α κ : Type}
def SrtK (key : α → κ) (lt : κ → κ → Prop) (l : List α) : Prop := l.Pairwise fun a b => lt (key a) (key b)
def putK (key : α → κ) (lt : κ → κ → Prop) [DecidableRel lt] (l : List α) (x : α) : List α := (l.filter fun y => decide (lt (key y) (key x))) ++ [x] ++ (l.filter fun y => decide (lt (key x) (key y)))
variable {key : α → κ} {lt : κ → κ → Prop} [DecidableRel lt]
theorem putK_mem (L : Lin lt) {l : List α} {x y : α} : y ∈ putK key lt l x ↔ y = x ∨ (y ∈ l ∧ key y ≠ key x) := by
  unfold putK
  simp only [List.mem_append, List.mem_filter, List.mem_singleton, decide_eq_true_eq]
  constructor
  · rintro ((⟨h1, h2⟩ | h) | ⟨h1, h2⟩)
    · exact .inr ⟨h1, fun e => L.irr _ (e ▸ h2)⟩
    · exact .inl h
    · exact .inr ⟨h1, fun e => L.irr _ (e ▸ h2)⟩
  · rintro (h | ⟨h1, h2⟩)
    · exact .inl (.inr h)
    · by_cases z : lt (key y) (key x)
      · exact .inl (.inl ⟨h1, z⟩)
      · by_cases w : lt (key x) (key y)
        · exact .inr ⟨h1, w⟩
        · exact absurd (L.tri z w) h2
theorem SrtK.filter {l : List α} (h : SrtK key lt l) (p : α → Bool) : SrtK key lt (l.filter p) := List.Pairwise.filter p h
theorem putK_srt (L : Lin lt) {l : List α} {x : α} (h : SrtK key lt l) : SrtK key lt (putK key lt l x) := by
  unfold putK SrtK
  rw [List.pairwise_append, List.pairwise_append]
  refine ⟨⟨h.filter _, List.pairwise_singleton _ _, fun a ha b hb => ?_⟩, h.filter _, fun a ha b hb => ?_⟩
  · rw [List.mem_singleton.mp hb]
    exact of_decide_eq_true (List.mem_filter.mp ha).2
  · have hb' := of_decide_eq_true (List.mem_filter.mp hb).2
    rcases List.mem_append.mp ha with ha | ha
    · exact L.tr (of_decide_eq_true (List.mem_filter.mp ha).2) hb'
    · rw [List.mem_singleton.mp ha]; exact hb'
theorem SrtK.uniq (L : Lin lt) : ∀ {l : List α}, SrtK key lt l → ∀ {x y : α}, x ∈ l → y ∈ l → key x = key y → x = y
  | a :: l, h, x, y, hx, hy, e => by
    obtain ⟨p, q⟩ := List.pairwise_cons.mp h
    rcases List.mem_cons.mp hx with z | z <;> rcases List.mem_cons.mp hy with w | w
    · rw [z, w]
    · subst z
      have := p y w
      rw [e] at this
      exact absurd this (L.irr _)
    · subst w
      have := p x z
      rw [e] at this
      exact absurd this (L.irr _)
    · exact SrtK.uniq L q z w e
end
inductive Edit where
  | body (b : Body)
  | stride (n : Int)
  | fine (n : Int)
  | craft (c : Craft)
  | noCraft (n : Str)
  | drift (n : Str) (d : Int)
  | burn (n : Str) (b : Burn)
  | noBurn (n : Str) (t : Int)
  | sight (n : Str) (s : Sight)
  | noSight (n : Str) (t : Int)
  | site (s : Site)
  | noSite (n : Str)
def encE : Edit → D
  | .body b => .tup [.str "set body", dBody b]
  | .stride n => .tup [.str "set stride", .int n]
  | .fine n => .tup [.str "set fineness", .int n]
  | .craft c => .tup [.str "add craft", dCraft c]
  | .noCraft n => .tup [.str "drop craft", .str n]
  | .drift n d => .tup [.str "set drift", .str n, .int d]
  | .burn n b => .tup [.str "add burn", .str n, dBurn b]
  | .noBurn n t => .tup [.str "drop burn", .str n, .int t]
  | .sight n s => .tup [.str "add sighting", .str n, dSight s]
  | .noSight n t => .tup [.str "drop sighting", .str n, .int t]
  | .site s => .tup [.str "add site", dSite s]
  | .noSite n => .tup [.str "drop site", .str n]
inductive Er where
  | noCraft (n : Str)
  | noSite (n : Str)
  | bad (n : Str)
  | before
  | overlap
  | many
  | noBurn
  | noSight
def Er.exc : Er → Exc
  | .noCraft n => ⟨18, [35], [.str n]⟩
  | .noSite n => ⟨20, [35], [.str n]⟩
  | .bad n => ⟨0, [35], [.str n]⟩
  | .before => ⟨3, [], []⟩
  | .overlap => ⟨6, [], []⟩
  | .many => ⟨29, [], []⟩
  | .noBurn => ⟨17, [], []⟩
  | .noSight => ⟨19, [], []⟩
def findC (l : List Craft) (n : Str) : Option Craft := l.find? fun c => decide (c.name = n)
def findS (l : List Site) (n : Str) : Option Site := l.find? fun c => decide (c.name = n)
abbrev putC := putK Craft.name ltN
abbrev putS := putK Site.name ltN
abbrev putB := putK Burn.b ltZ
abbrev putG := putK Sight.at_ ltZ
def ovl (a b : Burn) : Prop := a.b < b.e ∧ b.b < a.e
instance {a b : Burn} : Decidable (ovl a b) := inferInstanceAs (Decidable (_ ∧ _))
def bare (c : Craft) : Craft := ⟨c.name, c.start, c.place, c.speed, c.drift, [], []⟩
def applyE (q : Conts) : Edit → Except Er Conts
  | .body b => .ok { q with body := b }
  | .stride n => if 1 ≤ n ∧ n ≤ 1000 then .ok { q with stride := n } else .error (.bad "stride")
  | .fine n => if 0 ≤ n ∧ n ≤ 6 then .ok { q with fine := n } else .error (.bad "fineness")
  | .craft c => if findC q.crafts c.name = none ∧ 20 ≤ q.crafts.length then .error .many else .ok { q with crafts := putC q.crafts (bare c) }
  | .noCraft n => match findC q.crafts n with
    | none => .error (.noCraft n)
    | some _ => .ok { q with crafts := q.crafts.filter fun c => decide ¬ c.name = n }
  | .drift n d => match findC q.crafts n with
    | none => .error (.noCraft n)
    | some c => if 0 ≤ d ∧ d ≤ 10 ^ 12 then .ok { q with crafts := putC q.crafts { c with drift := d } } else .error (.bad "drift")
  | .burn n b => match findC q.crafts n with
    | none => .error (.noCraft n)
    | some c => if b.b < c.start then .error .before
      else if ∃ o ∈ c.burns.filter (fun (o : Burn) => decide ¬ o.b = b.b), ovl o b then .error .overlap
      else if 20 ≤ (c.burns.filter fun o => decide ¬ o.b = b.b).length then .error .many
      else .ok { q with crafts := putC q.crafts { c with burns := putB c.burns b } }
  | .noBurn n t => match findC q.crafts n with
    | none => .error (.noCraft n)
    | some c => if (c.burns.filter fun o => decide ¬ o.b = t).length = c.burns.length then .error .noBurn
      else .ok { q with crafts := putC q.crafts { c with burns := c.burns.filter fun o => decide ¬ o.b = t } }
  | .sight n s => match findC q.crafts n with
    | none => .error (.noCraft n)
    | some c => if s.at_ < c.start then .error .before
      else if 20 ≤ (c.sights.filter fun o => decide ¬ o.at_ = s.at_).length then .error .many
      else .ok { q with crafts := putC q.crafts { c with sights := putG c.sights s } }
  | .noSight n t => match findC q.crafts n with
    | none => .error (.noCraft n)
    | some c => if (c.sights.filter fun o => decide ¬ o.at_ = t).length = c.sights.length then .error .noSight
      else .ok { q with crafts := putC q.crafts { c with sights := c.sights.filter fun o => decide ¬ o.at_ = t } }
  | .site s => if findS q.sites s.name = none ∧ 10 ≤ q.sites.length then .error .many else .ok { q with sites := putS q.sites s }
  | .noSite n => match findS q.sites n with
    | none => .error (.noSite n)
    | some _ => .ok { q with sites := q.sites.filter fun c => decide ¬ c.name = n }
structure BsOk (st : Int) (l : List Burn) : Prop where
  srt : SrtK Burn.b ltZ l
  ok : ∀ b ∈ l, Burn.Ok b ∧ st ≤ b.b
  dis : ∀ a ∈ l, ∀ b ∈ l, a ≠ b → ¬ ovl a b
  len : l.length ≤ 20
structure GsOk (st : Int) (l : List Sight) : Prop where
  srt : SrtK Sight.at_ ltZ l
  ok : ∀ b ∈ l, Sight.Ok b ∧ st ≤ b.at_
  len : l.length ≤ 20
structure CrOk (c : Craft) : Prop where
  ok : Craft.Ok c
  bs : BsOk c.start c.burns
  gs : GsOk c.start c.sights
def SiteOk (s : Site) : Prop := nameOk s.name = true
structure Good (q : Conts) : Prop where
  body : Body.Ok q.body
  ok : Conts.Ok q
  crS : SrtK Craft.name ltN q.crafts
  cr : ∀ c ∈ q.crafts, CrOk c
  crL : q.crafts.length ≤ 20
  siS : SrtK Site.name ltN q.sites
  si : ∀ s ∈ q.sites, SiteOk s
  siL : q.sites.length ≤ 10
def EdOk : Edit → Prop
  | .body b => Body.Ok b
  | .craft c => Craft.Ok c
  | .burn _ b => Burn.Ok b
  | .sight _ s => Sight.Ok s
  | .site s => SiteOk s
  | _ => True
theorem BsOk.sub {st : Int} {l : List Burn} (h : BsOk st l) (p : Burn → Bool) : BsOk st (l.filter p) where
  srt := h.srt.filter p
  ok := fun b hb => h.ok b (List.mem_filter.mp hb).1
  dis := fun a ha b hb => h.dis a (List.mem_filter.mp ha).1 b (List.mem_filter.mp hb).1
  len := Nat.le_trans (List.length_filter_le _ _) h.len
theorem GsOk.sub {st : Int} {l : List Sight} (h : GsOk st l) (p : Sight → Bool) : GsOk st (l.filter p) where
  srt := h.srt.filter p
  ok := fun b hb => h.ok b (List.mem_filter.mp hb).1
  len := Nat.le_trans (List.length_filter_le _ _) h.len
theorem ovl_symm {a b : Burn} (h : ovl a b) : ovl b a := ⟨h.2, h.1⟩
theorem putLen {α : Type} {key : α → Int} {l : List α} {x : α} (h : (l.filter fun o => decide ¬ key o = key x).length < 20) : (putK key ltZ l x).length ≤ 20 := by
  have e : ∀ l : List α, (l.filter fun y => decide (ltZ (key y) (key x))).length + (l.filter fun y => decide (ltZ (key x) (key y))).length = (l.filter fun o => decide ¬ key o = key x).length := by
    intro l
    induction l with
    | nil => rfl
    | cons a l ih =>
      rw [List.filter_cons, List.filter_cons, List.filter_cons]
      have t := Int.lt_trichotomy (key a) (key x)
      by_cases z : ltZ (key a) (key x)
      · have w : ¬ ltZ (key x) (key a) := fun q => by unfold ltZ at z q; omega
        have v : ¬ key a = key x := fun q => by unfold ltZ at z; omega
        rw [if_pos (decide_eq_true z), if_neg (fun q => w (of_decide_eq_true q)), if_pos (decide_eq_true v), List.length_cons, List.length_cons]; omega
      · by_cases w : ltZ (key x) (key a)
        · have v : ¬ key a = key x := fun q => by unfold ltZ at w; omega
          rw [if_neg (fun q => z (of_decide_eq_true q)), if_pos (decide_eq_true w), if_pos (decide_eq_true v), List.length_cons, List.length_cons]; omega
        · have v : ¬ ¬ key a = key x := fun q => q (by unfold ltZ at z w; omega)
          rw [if_neg (fun q => z (of_decide_eq_true q)), if_neg (fun q => w (of_decide_eq_true q)), if_neg (fun q => v (of_decide_eq_true q))]; omega
  have := e l
  unfold putK
  simp only [List.length_append, List.length_cons, List.length_nil]
  omega
theorem BsOk.put {st : Int} {l : List Burn} (h : BsOk st l) {b : Burn} (hb : Burn.Ok b) (hs : st ≤ b.b) (hd : ¬ ∃ o ∈ l.filter (fun (o : Burn) => decide ¬ o.b = b.b), ovl o b) (hl : (l.filter fun o => decide ¬ o.b = b.b).length < 20) : BsOk st (putB l b) where
  srt := putK_srt ltZ_lin h.srt
  ok := fun c hc => by
    rcases (putK_mem ltZ_lin).mp hc with rfl | ⟨h1, _⟩
    · exact ⟨hb, hs⟩
    · exact h.ok c h1
  dis := fun a ha c hc hne z => by
    rcases (putK_mem ltZ_lin).mp ha with e1 | ⟨h1, h2⟩ <;> rcases (putK_mem ltZ_lin).mp hc with e2 | ⟨h3, h4⟩
    · exact hne (e1.trans e2.symm)
    · subst e1
      exact hd ⟨c, List.mem_filter.mpr ⟨h3, decide_eq_true h4⟩, ovl_symm z⟩
    · subst e2
      exact hd ⟨a, List.mem_filter.mpr ⟨h1, decide_eq_true h2⟩, z⟩
    · exact h.dis a h1 c h3 hne z
  len := putLen hl
theorem GsOk.put {st : Int} {l : List Sight} (h : GsOk st l) {b : Sight} (hb : Sight.Ok b) (hs : st ≤ b.at_) (hl : (l.filter fun o => decide ¬ o.at_ = b.at_).length < 20) : GsOk st (putG l b) where
  srt := putK_srt ltZ_lin h.srt
  ok := fun c hc => by
    rcases (putK_mem ltZ_lin).mp hc with rfl | ⟨h1, _⟩
    · exact ⟨hb, hs⟩
    · exact h.ok c h1
  len := putLen hl
end Q
namespace Q
open Classical in
noncomputable def crP (P : List Edit) (c : Craft) : Craft := { c with burns := c.burns.filter fun b => decide (Edit.burn c.name b ∈ P), sights := c.sights.filter fun s => decide (Edit.sight c.name s ∈ P) }
open Classical in
noncomputable def subQ (q : Conts) (P : List Edit) : Conts := { q with crafts := (q.crafts.filter fun c => decide (Edit.craft c ∈ P)).map (crP P), sites := q.sites.filter fun s => decide (Edit.site s ∈ P) }
def th1 (q : Conts) : List Edit := q.crafts.map .craft
def th2 (q : Conts) : List Edit := q.sites.map .site ++ q.crafts.flatMap fun c => c.burns.map (Edit.burn c.name) ++ c.sights.map (Edit.sight c.name)
end Q
namespace Q
namespace M
open PySem PySem.Spec L2
noncomputable section
section
variable {c : Cx} {ρ : Env}
theorem re_bcall {α : Type} {j : Nat} {es : List E} {cal : Cal} {r : Rs α} {n : α → D} (hj : c.Φ[j]? = some cal) (h : RX c es ρ r (QF cal n)) : RE c (.bcall j es) ρ r n := fun k x q => by
  rw [wpE, hj]
  exact h _ _ _ (fun ds r' z w => z k x w) q
theorem keysW_ok {α κ : Type} {n : α → D} {m : κ → D} {cal : Cal} {f : α → Rs κ} (hd : cal.dfl = []) (hq : ∀ x, QF cal m [n x] (f x)) : ∀ {l : List α} {K : List D → Prop} {x : Exc → Prop}, (mapR f l).sat (fun ks => K (ks.map m)) x → keysW cal.fs (l.map n) K
  | [], K, x, q => q
  | a :: l, K, x, q => by
    unfold mapR mapR0 at q
    rw [Rs.sat_bind] at q
    have h := hq a (fun y => keysW cal.fs (l.map n) fun ys => K (y :: ys)) (fun _ => False) (Rs.sat_mono (noE_sat q) (fun k z => ?_) fun _ z => z)
    · rw [hd] at h
      exact h
    · rw [Rs.sat_bind] at z
      exact keysW_ok hd hq (K := fun ys => K (m k :: ys)) z
theorem sortK_map {κ α : Type} {n : α → D} {le : κ → κ → Bool} {ks : List κ} {l : List α} : sortK le ks (l.map n) = (sortK le ks l).map n := by
  unfold sortK
  rw [show ks.zip (l.map n) = (ks.zip l).map (fun t => (t.1, n t.2)) from zip_proj.symm, sortB_map (f := fun (t : κ × α) => (t.1, n t.2)) (le := fun p q => le p.1 q.1) (le' := fun p q => le p.1 q.1) (fun _ _ => rfl), List.map_map, List.map_map]
  rfl
theorem re_srtI {α : Type} {n : α → D} {a : E} {j : Nat} {cal : Cal} {f : α → Rs Int} {l : List α} (hj : c.Φ[j]? = some cal) (hd : cal.dfl = []) (hq : ∀ x, QF cal D.int [n x] (f x)) (ha : RP c a ρ (dL n l)) : RE c (.srt false j a) ρ ((mapR f l).bind fun ks => .ok (sortK leI ks l)) (dL n) := fun k x q => by
  rw [wpE, hj]
  refine ha _ _ ?_
  rw [Rs.sat_bind] at q
  refine keysW_ok (n := n) (m := D.int) hd hq (Rs.sat_mono q (fun ks z => ?_) fun _ z => z)
  show (match ints? (ks.map D.int) with
    | some ns => k (.lst (sortK leI ns (l.map n)))
    | none => False)
  rw [ints_mapD]
  show k (.lst (sortK leI ks (l.map n)))
  rw [sortK_map]
  exact z
theorem ri_exl {i : Nat} {d : D} {ds : List D} (h : ρ[i]? = some (.lok d)) (hd : d = .lst ds ∨ d = .tup ds) : RI c (.exl i) ρ ds := fun k x q => by
  rw [wpI, lokW, h]
  rcases hd with rfl | rfl <;> exact q
end
end
end M
end Q
namespace Q
open PySem PySem.Spec L2
structure CtOk (c : Ct) : Prop where
  c0 : 0 ≤ c.1
  c1 : c.1 ≤ 999
  s0 : 0 ≤ c.2.1
  s1 : c.2.1 ≤ 999
  b0 : 0 ≤ c.2.2.1
  e0 : c.2.2.1 ≤ c.2.2.2.1
  e1 : c.2.2.2.1 ≤ 100000
  w0 : 0 ≤ c.2.2.2.2
  w1 : c.2.2.2.2 ≤ 1000000000000
def CtsOk (l : List Ct) : Prop := ∀ c ∈ l, CtOk c
def apB (g : Int) (a b : Ct) : Bool := decide (rdy g a ≤ b.2.2.1) || decide (rdy g b ≤ a.2.2.1)
def frB (mx : Bool) (g : Int) (a b : Ct) : Bool := (mx && (decide (¬ a.1 = b.1) && decide (¬ a.2.1 = b.2.1))) || apB g a b
def Chs (mx : Bool) (g : Int) (X : List Ct) : Prop := X.Pairwise fun a b => frB mx g a b = true
theorem apB_sym {g : Int} {a b : Ct} : apB g a b = apB g b a := by unfold apB; rw [Bool.or_comm]
theorem frB_sym {mx : Bool} {g : Int} {a b : Ct} : frB mx g a b = frB mx g b a := by
  unfold frB
  rw [apB_sym, show decide (¬ a.1 = b.1) = decide (¬ b.1 = a.1) from decide_eq_decide.mpr ⟨fun h e => h e.symm, fun h e => h e.symm⟩, show decide (¬ a.2.1 = b.2.1) = decide (¬ b.2.1 = a.2.1) from decide_eq_decide.mpr ⟨fun h e => h e.symm, fun h e => h e.symm⟩]
theorem apB_true {g : Int} {a b : Ct} : apB g a b = true ↔ (rdy g a ≤ b.2.2.1 ∨ rdy g b ≤ a.2.2.1) := by
  unfold apB
  rw [Bool.or_eq_true, decide_eq_true_eq, decide_eq_true_eq]
theorem frB_irr {mx : Bool} {g : Int} {a : Ct} (g0 : 0 ≤ g) (h : CtOk a) : ¬ frB mx g a a = true := by
  intro e
  have := h.e0
  unfold frB at e
  rw [Bool.or_eq_true] at e
  rcases e with e | e
  · rw [Bool.and_eq_true, Bool.and_eq_true, decide_eq_true_eq] at e
    exact e.2.1 rfl
  · rw [apB_true] at e
    unfold rdy at e
    omega
theorem Chs.nodup {mx : Bool} {g : Int} {X : List Ct} (g0 : 0 ≤ g) (h : Chs mx g X) (w : CtsOk X) : X.Nodup := by
  unfold Chs at h
  induction h with
  | nil => exact .nil
  | cons h1 _ ih =>
    refine List.nodup_cons.mpr ⟨fun m => frB_irr g0 (w _ (.head _)) (h1 _ m), ih fun c hc => w c (.tail _ hc)⟩
theorem Chs.perm {mx : Bool} {g : Int} {X Y : List Ct} (h : Chs mx g X) (p : X.Perm Y) : Chs mx g Y := List.Pairwise.perm h p fun e => by rw [frB_sym]; exact e
theorem Chs.sub {mx : Bool} {g : Int} {X Y : List Ct} (h : Chs mx g X) (p : Y.Sublist X) : Chs mx g Y := List.Pairwise.sublist p h
theorem wgt_cons {c : Ct} {l : List Ct} : wgt (c :: l) = c.2.2.2.2 + wgt l := by unfold wgt; rw [List.map_cons, List.sum_cons]
theorem wgt_perm {X Y : List Ct} (p : X.Perm Y) : wgt X = wgt Y := by
  induction p with
  | nil => rfl
  | cons a _ ih => rw [wgt_cons, wgt_cons, ih]
  | swap a b l => rw [wgt_cons, wgt_cons, wgt_cons, wgt_cons]; omega
  | trans _ _ h1 h2 => rw [h1, h2]
theorem sub_of {α : Type} [DecidableEq α] : ∀ {l X : List α}, X.Nodup → (∀ x ∈ X, x ∈ l) → ∃ Y : List α, Y.Sublist l ∧ Y.Perm X
  | [], X, _, h => by
    cases X with
    | nil => exact ⟨[], .slnil, .refl _⟩
    | cons x X => exact absurd (h x (.head _)) (by simp)
  | a :: l, X, n, h => by
    by_cases z : a ∈ X
    · obtain ⟨Y, h1, h2⟩ := sub_of (l := l) (n.erase a) fun x hx => by
        have m := (List.Nodup.mem_erase_iff n).mp hx
        rcases List.mem_cons.mp (h x m.2) with e | e
        · exact absurd e m.1
        · exact e
      exact ⟨a :: Y, h1.cons_cons a, (h2.cons a).trans (List.perm_cons_erase z).symm⟩
    · obtain ⟨Y, h1, h2⟩ := sub_of (l := l) n fun x hx => by
        rcases List.mem_cons.mp (h x hx) with e | e
        · exact absurd (e ▸ hx) z
        · exact e
      exact ⟨Y, h1.cons a, h2⟩
structure IsBest (mx : Bool) (g : Int) (l : List Ct) (v : Int) : Prop where
  ex : ∃ X, X.Sublist l ∧ Chs mx g X ∧ wgt X = v
  le : ∀ X, X.Sublist l → Chs mx g X → wgt X ≤ v
theorem IsBest.nn {mx : Bool} {g : Int} {l : List Ct} {v : Int} (h : IsBest mx g l v) : 0 ≤ v := h.le [] (List.nil_sublist _) .nil
theorem IsBest.uniq {mx : Bool} {g : Int} {l : List Ct} {v w : Int} (h : IsBest mx g l v) (k : IsBest mx g l w) : v = w := by
  obtain ⟨X, h1, h2, h3⟩ := h.ex
  obtain ⟨Y, k1, k2, k3⟩ := k.ex
  have := h.le Y k1 k2
  have := k.le X h1 h2
  omega
theorem IsBest.any {mx : Bool} {g : Int} {l X : List Ct} {v : Int} (h : IsBest mx g l v) (g0 : 0 ≤ g) (w : CtsOk l) (hx : ∀ c ∈ X, c ∈ l) (k : Chs mx g X) : wgt X ≤ v := by
  obtain ⟨Y, h1, h2⟩ := sub_of (k.nodup g0 fun c hc => w c (hx c hc)) hx
  rw [← wgt_perm h2]
  exact h.le Y h1 (k.perm h2.symm)
theorem zip_snd2 {α β : Type} : ∀ {l : List α} {m : List β}, l.length = m.length → (l.zip m).map (·.2) = m
  | [], [], _ => rfl
  | [], _ :: _, h => nomatch h
  | _ :: _, [], h => nomatch h
  | a :: l, b :: m, h => by rw [List.zip_cons_cons, List.map_cons, zip_snd2 (Nat.succ.inj h)]
theorem sortK_perm {κ α : Type} {le : κ → κ → Bool} {ks : List κ} {xs : List α} (h : ks.length = xs.length) : (sortK le ks xs).Perm xs := by
  unfold sortK
  have := (sortB_perm (le := fun (p q : κ × α) => le p.1 q.1) (ks.zip xs)).map (·.2)
  rw [zip_snd2 h] at this
  exact this
theorem sortK_srt {κ α : Type} {le : κ → κ → Bool} (tot : ∀ a b, le a b = true ∨ le b a = true) (tr : ∀ a b c, le a b = true → le b c = true → le a c = true) {f : α → κ} {xs : List α} : (sortK le (xs.map f) xs).Pairwise fun a b => le (f a) (f b) = true := by
  unfold sortK
  rw [List.pairwise_map]
  have hm : ∀ p ∈ sortB (fun (p q : κ × α) => le p.1 q.1) ((xs.map f).zip xs), p.1 = f p.2 := fun p hp => by
    have := (sortB_perm (le := fun (p q : κ × α) => le p.1 q.1) ((xs.map f).zip xs)).mem_iff.mp hp
    clear hp
    induction xs with
    | nil => cases this
    | cons x xs ih =>
      rw [List.map_cons, List.zip_cons_cons] at this
      rcases List.mem_cons.mp this with rfl | z
      · rfl
      · exact ih z
  have := sortB_srt (le := fun (p q : κ × α) => le p.1 q.1) (fun a b => tot a.1 b.1) (fun a b c => tr a.1 b.1 c.1) ((xs.map f).zip xs)
  refine List.Pairwise.imp_of_mem (fun ha hb h => ?_) this
  rw [← hm _ ha, ← hm _ hb]
  exact h
def endS (l : List Ct) : List Ct := sortK leI (l.map fun c => c.2.2.2.1) l
theorem endS_perm {l : List Ct} : (endS l).Perm l := sortK_perm (List.length_map _)
theorem endS_srt {l : List Ct} : (endS l).Pairwise fun a b => a.2.2.2.1 ≤ b.2.2.2.1 := (sortK_srt leI_tot leI_tr (f := fun (c : Ct) => c.2.2.2.1)).imp fun h => of_decide_eq_true h
def tbl (g : Int) (l : List Ct) : Tb := (endS l).foldl (tbStep g) []
theorem tbl_inv {g : Int} {l : List Ct} (g0 : 0 ≤ g) (h : CtsOk l) : TbInv g (endS l) (tbl g l) := by
  have := tb_all g0 (l := endS l) (S := []) (t := []) tb_nil (fun c hc => by
    have := h c (endS_perm.mem_iff.mp hc)
    exact ⟨this.e0, this.w0⟩) (fun c hc => by cases hc) endS_srt
  exact this
def chosen (t : Tb) : List Ct := match t.getLast? with
  | some p => p.2.2
  | none => []
theorem chosen_snoc {t : Tb} {p : Int × Int × List Ct} : chosen (t ++ [p]) = p.2.2 := by
  unfold chosen
  rw [List.getLast?_concat]
theorem TbInv.ch {g : Int} {S : List Ct} {t : Tb} (h : TbInv g S t) : wgt (chosen t) = lastW t ∧ (chosen t).Pairwise (fun a b => rdy g a ≤ b.2.2.1) ∧ ∀ c ∈ chosen t, c ∈ S := by
  rcases tb_split t with rfl | ⟨s, p, rfl⟩
  · exact ⟨rfl, .nil, fun c hc => by cases hc⟩
  · have := h.en p (List.mem_append_right _ (.head _))
    rw [chosen_snoc, lastW_snoc]
    exact ⟨this.w, this.ap, fun c hc => (this.mm c hc).1⟩
theorem TbInv.best {g : Int} {l S : List Ct} {t : Tb} (h : TbInv g S t) (g0 : 0 ≤ g) (w : CtsOk l) (hs : ∀ c, c ∈ S ↔ c ∈ l) : IsBest false g l (lastW t) := by
  obtain ⟨h1, h2, h3⟩ := h.ch
  have hc : Chs false g (chosen t) := h2.imp fun e => apB_true.mpr (.inl e)
  refine ⟨?_, fun X hx k => ?_⟩
  · obtain ⟨Y, y1, y2⟩ := sub_of (l := l) (hc.nodup g0 fun c hc => w c ((hs c).mp (h3 c hc))) fun c hc => (hs c).mp (h3 c hc)
    exact ⟨Y, y1, hc.perm y2.symm, by rw [wgt_perm y2, h1]⟩
  · rw [← prc_sum]
    refine dual (g := g) (k.imp fun e => apB_true.mp e) (fun q hq => Int.le_of_lt (prc_pos h.ok q hq)) fun c hc => ?_
    have cl := hx.subset hc
    have := (w c cl).e0
    rw [paid_ok (by unfold rdy; omega) h.ok]
    exact h.cv c ((hs c).mpr cl)
theorem tbl_best {g : Int} {l : List Ct} (g0 : 0 ≤ g) (w : CtsOk l) : IsBest false g l (lastW (tbl g l)) := (tbl_inv g0 w).best g0 w fun c => endS_perm.mem_iff
theorem tb_len {g : Int} : ∀ {l : List Ct} {t : Tb} {n : Nat}, t.length ≤ n → (∀ p ∈ t, p.2.2.length ≤ n) → (l.foldl (tbStep g) t).length ≤ n + l.length ∧ ∀ p ∈ l.foldl (tbStep g) t, p.2.2.length ≤ n + l.length
  | [], t, n, h1, h2 => ⟨h1, h2⟩
  | c :: l, t, n, h1, h2 => by
    have hb : (bestBy t c.2.2.1).2.length ≤ n := by
      rcases bestBy_mem (t := t) (k := c.2.2.1) with e | ⟨p, hp, _, e⟩
      · rw [e]; exact Nat.zero_le _
      · rw [e]; exact h2 p hp
    have := tb_len (g := g) (l := l) (t := tbStep g t c) (n := n + 1) (by
        unfold tbStep
        split
        · rw [List.length_append, List.length_singleton]; omega
        · omega) (fun p hp => by
      unfold tbStep at hp
      split at hp
      · rcases List.mem_append.mp hp with hp | hp
        · have := h2 p hp; omega
        · cases List.mem_singleton.mp hp
          dsimp only
          rw [List.length_append, List.length_singleton]
          omega
      · have := h2 p hp; omega)
    rw [List.foldl_cons, List.length_cons, show n + (l.length + 1) = n + 1 + l.length by omega]
    exact this
def pk {α : Type} : Nat → List α → List α
  | _, [] => []
  | c, a :: l => if c % 2 = 1 then a :: pk (c / 2) l else pk (c / 2) l
theorem pk_sub {α : Type} : ∀ {l : List α} {c : Nat}, (pk c l).Sublist l
  | [], _ => .slnil
  | a :: l, c => by
    unfold pk
    split
    · exact pk_sub.cons_cons a
    · exact pk_sub.cons a
theorem pk_all {α : Type} : ∀ {l X : List α}, X.Sublist l → ∃ c, c < 2 ^ l.length ∧ pk c l = X
  | _, _, .slnil => ⟨0, Nat.zero_lt_one, rfl⟩
  | _, _, .cons a (l₂ := l) h => by
    obtain ⟨c, h1, h2⟩ := pk_all h
    refine ⟨2 * c, by rw [List.length_cons, Nat.pow_succ]; omega, ?_⟩
    unfold pk
    rw [if_neg (by omega), show 2 * c / 2 = c by omega, h2]
  | _, _, .cons_cons a (l₂ := l) h => by
    obtain ⟨c, h1, h2⟩ := pk_all h
    refine ⟨2 * c + 1, by rw [List.length_cons, Nat.pow_succ]; omega, ?_⟩
    unfold pk
    rw [if_pos (by omega), show (2 * c + 1) / 2 = c by omega, h2]
namespace M
theorem forC_find {α β : Type} {F : α → Unit → (Unit → Rs β) → (Unit → Rs β) → Rs β} {k : Unit → Rs β} {r : Rs β} {p : α → Bool} {l : List α} (h : ∀ a ∈ l, ∀ nx bk, F a () nx bk = if p a = true then r else nx ()) : forC F k l () = if l.any p = true then r else k () := by
  induction l with
  | nil => rfl
  | cons a l ih =>
    rw [forC_cons, h a (.head _), ih fun b hb => h b (.tail _ hb), List.any_cons]
    cases p a <;> rfl
theorem forC_exL {α β σ : Type} {F : α → σ → (σ → Rs β) → (σ → Rs β) → Rs β} {k : σ → Rs β} {I : Nat → σ → Prop} {l : List α} {s : σ} (h : ∀ n s x, l[n]? = some x → I n s → ∃ s', I (n + 1) s' ∧ ∀ nx bk, F x s nx bk = nx s') (i : I 0 s) : ∃ s', I l.length s' ∧ forC F k l s = k s' := by
  have gen : ∀ (r : List α) (n : Nat) (s : σ), (∀ j : Nat, r[j]? = l[n + j]?) → n + r.length = l.length → I n s → ∃ s', I l.length s' ∧ forC F k r s = k s' := by
    intro r
    induction r with
    | nil => intro n s _ e i; exact ⟨s, (by rw [← e]; exact i), rfl⟩
    | cons x r ih =>
      intro n s hj e i
      rw [List.length_cons] at e
      have h0 : l[n]? = some x := by have := hj 0; rw [Nat.add_zero] at this; rw [← this]; rfl
      obtain ⟨s', i', q⟩ := h n s x h0 i
      obtain ⟨s2, i2, q2⟩ := ih (n + 1) s' (fun j => by have := hj (j + 1); rw [show n + 1 + j = n + (j + 1) by omega]; exact this) (by omega) i'
      exact ⟨s2, i2, by rw [forC_cons, q, q2]⟩
  exact gen l 0 s (fun j => by rw [Nat.zero_add]) (by omega) i
theorem rngL_at {b : Int} {n : Nat} {x : Int} (h : (rngL 0 b)[n]? = some x) : x = (n : Int) ∧ x < b := by
  unfold rngL at h
  rw [List.getElem?_map] at h
  cases e : (List.range (b - 0).toNat)[n]? with
  | none => rw [e] at h; cases h
  | some y =>
    rw [e] at h
    have := List.getElem?_eq_some_iff.mp e
    obtain ⟨h1, h2⟩ := this
    rw [List.getElem_range] at h2
    rw [List.length_range] at h1
    injection h with h
    subst h
    subst h2
    dsimp only
    exact ⟨by omega, by omega⟩
end M
end Q
namespace Q
open PySem PySem.Spec L2
abbrev AT_ : List (Nat × Nat) := []
namespace M
open PySem PySem.Spec L2
end M
namespace M
instance : NZ 1 := ⟨by decide⟩
instance : NZ 2 := ⟨by decide⟩
instance : NZ 3 := ⟨by decide⟩
instance : NZ 4 := ⟨by decide⟩
instance : NZ 6 := ⟨by decide⟩
instance : NZ 7 := ⟨by decide⟩
instance : NZ 9 := ⟨by decide⟩
instance : NZ 10 := ⟨by decide⟩
instance : NZ 11 := ⟨by decide⟩
instance : NZ 30 := ⟨by decide⟩
instance : NZ 40 := ⟨by decide⟩
instance : NZ 77 := ⟨by decide⟩
instance : NZ 256 := ⟨by decide⟩
instance : NZ 400 := ⟨by decide⟩
instance : NZ 999 := ⟨by decide⟩
instance : NZ 1000 := ⟨by decide⟩
instance : NZ 16807 := ⟨by decide⟩
instance : NZ 40014 := ⟨by decide⟩
instance : NZ 48271 := ⟨by decide⟩
instance : NZ 69621 := ⟨by decide⟩
instance : NZ 100000 := ⟨by decide⟩
instance : NZ 1000000000 := ⟨by decide⟩
instance : NZ 2147482951 := ⟨by decide⟩
instance : NZ 2147483029 := ⟨by decide⟩
instance : NZ 2147483399 := ⟨by decide⟩
instance : NZ 2147483647 := ⟨by decide⟩
instance : NZ 1000000000000 := ⟨by decide⟩
end M
def b_law_row_0 : List S := .asg (.nm 2) (.bin .mod (.blt .int [.bin .add (.bin .mul (.bin .add (.var 2) (.cst (.int 1))) (.cst (.int 48271))) (.bin .mul (.bin .add (.var 1) (.cst (.int 1))) (.cst (.int 69621)))]) (.cst (.int 2147483647))) :: [.asg (.nm 2) (.bin .add (.bin .mul (.bin .mod (.blt .int [.bin .add (.bin .add (.bin .mul (.var 2) (.cst (.int 16807))) (.bin .mul (.var 1) (.cst (.int 40014)))) (.cst (.int 11))]) (.cst (.int 2147483399))) (.cst (.int 2147483029))) (.bin .mod (.blt .int [.bin .mul (.var 2) (.var 2)]) (.cst (.int 2147482951))))]
def i_law_row_3 : List S := .ite (.cmp .lt (.var 2) (.bin .pow (.cst (.int 10)) (.cst (.int 9)))) b_law_row_0 [] :: [.ret (.var 2)]
def i_law_row_2 : List S := .ite (.cmp .lt (.var 2) (.cst (.int 0))) [.asg (.nm 2) (.bin .sub (.cst (.int 1)) (.bin .mul (.cst (.int 2)) (.var 2)))] [] :: i_law_row_3
def i_law_row_1 : List S := .ite (.cmp .lt (.var 1) (.blt .len [.var 0])) [.asg (.nm 2) (.blt .int [.idx (.var 0) (.var 1)])] [] :: i_law_row_2
def i_law_row : List S := .asg (.nm 2) (.cst (.int 0)) :: i_law_row_1
abbrev G_law_row : List (Str × D) := []
abbrev P_law_row : List Cal := []
abbrev c_law_row : M.Cx := ⟨NM, AT_, P_law_row, G_law_row, True⟩
namespace M
open PySem PySem.Spec L2
noncomputable section
def m_law_row_J2 (k_2 : Int) (row_8 : Int) : Rs Int :=
  (cnd (row_8 < (1000000000:Int)) (((((mulR (row_8 + (1:Int)) (48271:Int)).bind fun a_9 => ((mulR (k_2 + (1:Int)) (69621:Int)).bind fun a_10 => (Rs.ok (a_9 + a_10)))).bind fun a_11 => (Rs.ok a_11)).bind fun a_12 => (modR a_12 (2147483647:Int))).bind fun row_13 => ((((((((mulR row_13 (16807:Int)).bind fun a_14 => ((mulR k_2 (40014:Int)).bind fun a_15 => (Rs.ok (a_14 + a_15)))).bind fun a_16 => (Rs.ok (a_16 + (11:Int)))).bind fun a_17 => (Rs.ok a_17)).bind fun a_18 => (modR a_18 (2147483399:Int))).bind fun a_19 => (mulR a_19 (2147483029:Int))).bind fun a_22 => ((((mulR row_13 row_13).bind fun a_20 => (Rs.ok a_20)).bind fun a_21 => (modR a_21 (2147482951:Int))).bind fun a_23 => (Rs.ok (a_22 + a_23)))).bind fun row_24 => (Rs.ok row_24))) (Rs.ok row_8))
def m_law_row_J1 (k_2 : Int) (row_5 : Int) : Rs Int :=
  (cnd (row_5 < (0:Int)) (((mulR (2:Int) row_5).bind fun a_6 => (Rs.ok ((1:Int) - a_6))).bind fun row_7 => (m_law_row_J2 k_2 row_7)) (m_law_row_J2 k_2 row_5))
def m_law_row (script_1 : (List Int)) (k_2 : Int) : Rs Int :=
  (cnd (k_2 < (script_1.length : Int)) (((idxR script_1 k_2).bind fun a_3 => (Rs.ok a_3)).bind fun row_4 => (m_law_row_J1 k_2 row_4)) (m_law_row_J1 k_2 (0:Int)))
theorem k_law_row (script_1 : (List Int)) (k_2 : Int) : RK c_law_row D.int i_law_row [Sl.val ((dR D.int) script_1), Sl.val (D.int k_2), Sl.un] (m_law_row script_1 k_2) (NN D.int) F0 F0 := by
  unfold m_law_row
  refine rk_asgp (ρ' := [Sl.val ((dR D.int) script_1), Sl.val (D.int k_2), Sl.val (D.int (0:Int))]) rp_cst rfl ?_
  refine rk_jn (σ := Int) (J := Unit) (fun s j => [Sl.val ((dR D.int) script_1), Sl.val (D.int k_2), Sl.val (D.int s)]) (fun s => m_law_row_J1 k_2 s) ?_ (fun m_law_row_J1_k => ?_)
  · rintro row_5 _
    show RK _ _ _ [Sl.val ((dR D.int) script_1), Sl.val (D.int k_2), Sl.val (D.int row_5)] (m_law_row_J1 k_2 row_5) _ _ _
    unfold m_law_row_J1
    refine rk_jn (σ := Int) (J := Unit) (fun s j => [Sl.val ((dR D.int) script_1), Sl.val (D.int k_2), Sl.val (D.int s)]) (fun s => m_law_row_J2 k_2 s) ?_ (fun m_law_row_J2_k => ?_)
    · rintro row_8 _
      show RK _ _ _ [Sl.val ((dR D.int) script_1), Sl.val (D.int k_2), Sl.val (D.int row_8)] (m_law_row_J2 k_2 row_8) _ _ _
      unfold m_law_row_J2
      refine rk_ifu (ru_cmp (rp_var rfl) (rp_powc (v := 1000000000) rp_cst rp_cst (cpq (by decide) (by decide +kernel)) (by decide +kernel)) (fun _ h => h)) (fun _ => ?_) (fun _ => ?_)
      · refine rk_asg (g := fun row_13 => [Sl.val ((dR D.int) script_1), Sl.val (D.int k_2), Sl.val (D.int row_13)]) (re_bin (rx_e (n := D.int) (re_blt (n := D.int) (rx_e (n := D.int) (re_bin (rx_e (n := D.int) (re_bin (rx_p (rp_add (rp_var rfl) rp_cst) (rx_p rp_cst (rx_nil qb_mul)))) (fun a_9 => (rx_e (n := D.int) (re_bin (rx_p (rp_add (rp_var rfl) rp_cst) (rx_p rp_cst (rx_nil qb_mul)))) (fun a_10 => (rx_nil qb_add)))))) (fun a_11 => (rx_nil (fun k _ h => h))))) (fun a_12 => (rx_p rp_cst (rx_nil qb_mod))))) (fun _ => rfl) (fun row_13 => ?_)
        refine rk_asg (g := fun row_24 => [Sl.val ((dR D.int) script_1), Sl.val (D.int k_2), Sl.val (D.int row_24)]) (re_bin (rx_e (n := D.int) (re_bin (rx_e (n := D.int) (re_bin (rx_e (n := D.int) (re_blt (n := D.int) (rx_e (n := D.int) (re_bin (rx_e (n := D.int) (re_bin (rx_e (n := D.int) (re_bin (rx_p (rp_var rfl) (rx_p rp_cst (rx_nil qb_mul)))) (fun a_14 => (rx_e (n := D.int) (re_bin (rx_p (rp_var rfl) (rx_p rp_cst (rx_nil qb_mul)))) (fun a_15 => (rx_nil qb_add)))))) (fun a_16 => (rx_p rp_cst (rx_nil qb_add))))) (fun a_17 => (rx_nil (fun k _ h => h))))) (fun a_18 => (rx_p rp_cst (rx_nil qb_mod))))) (fun a_19 => (rx_p rp_cst (rx_nil qb_mul))))) (fun a_22 => (rx_e (n := D.int) (re_bin (rx_e (n := D.int) (re_blt (n := D.int) (rx_e (n := D.int) (re_bin (rx_p (rp_var rfl) (rx_p (rp_var rfl) (rx_nil qb_mul)))) (fun a_20 => (rx_nil (fun k _ h => h))))) (fun a_21 => (rx_p rp_cst (rx_nil qb_mod))))) (fun a_23 => (rx_nil qb_add)))))) (fun _ => rfl) (fun row_24 => ?_)
        refine rk_nil ?_
        exact rk_retp (a := row_24) trivial (rp_var rfl)
      · refine rk_nil ?_
        exact rk_retp (a := row_8) trivial (rp_var rfl)
    · refine rk_ifu (ru_cmp (rp_var rfl) rp_cst (fun _ h => h)) (fun _ => ?_) (fun _ => ?_)
      · refine rk_asg (g := fun row_7 => [Sl.val ((dR D.int) script_1), Sl.val (D.int k_2), Sl.val (D.int row_7)]) (re_bin (rx_p rp_cst (rx_e (n := D.int) (re_bin (rx_p rp_cst (rx_p (rp_var rfl) (rx_nil qb_mul)))) (fun a_6 => (rx_nil qb_sub))))) (fun _ => rfl) (fun row_7 => ?_)
        exact rk_nil (m_law_row_J2_k (row_7) (()))
      · exact rk_nil (m_law_row_J2_k (row_5) (()))
  · refine rk_ifu (ru_cmp (rp_var rfl) (rp_blt (v := (D.int (script_1.length : Int))) (rps_cons (rp_var rfl) rps_nil) bl_lenr) (fun _ h => h)) (fun _ => ?_) (fun _ => ?_)
    · refine rk_asg (g := fun row_4 => [Sl.val ((dR D.int) script_1), Sl.val (D.int k_2), Sl.val (D.int row_4)]) (re_blt (n := D.int) (rx_e (n := D.int) (re_idx (n := D.int) (rx_p (rp_var rfl) (rx_p (rp_var rfl) (rx_nil (qi_ro (n := D.int) (l := script_1)))))) (fun a_3 => (rx_nil (fun k _ h => h))))) (fun _ => rfl) (fun row_4 => ?_)
      exact rk_nil (m_law_row_J1_k (row_4) (()))
    · exact rk_nil (m_law_row_J1_k ((0:Int)) (()))
end
end M
def fs_law_row : FS := fun ds k x => (∃ (script_1 : (List Int)) (k_2 : Int), ds = [(M.dR D.int) script_1, D.int k_2] ∧ (M.m_law_row script_1 k_2).sat (fun v => k (D.int v)) x)
def C_law_row : Cal := { nm := "_law_row", ar := 2, dfl := [], fs := fs_law_row }
theorem w_law_row : ∀ ds kd kx, ds.length = 2 → fs_law_row ds kd kx → wpSs NM AT_ P_law_row G_law_row i_law_row (startR 3 ds) { nx := fun _ => kd .non, rt := kd, bk := fun _ => False, ct := fun _ => False, er := fun x _ => kx x } := by
  rintro ds kd kx hl (⟨script_1, k_2, rfl, h⟩)
  · exact M.fin_f (c := c_law_row) (M.k_law_row script_1 k_2) h
namespace M
open PySem PySem.Spec L2
noncomputable section
theorem q_law_row (script_1 : (List Int)) (k_2 : Int) : QF C_law_row D.int [(dR D.int) script_1, D.int k_2] (m_law_row script_1 k_2) := fun k x h => ⟨script_1, k_2, rfl, h⟩
local macro_rules | `(tactic| fail "rs1") => `(tactic| try simp (config := {decide := true, dsimp := false, implicitDefEqProofs := false}) only [mulR_ok, divR_ok, modR_ok, isqrtR_ok, rngR1_0, rngR1_1, rngR1_2, rngR1_3, rngR1_4, rngR1_5, rngR1_6, rngR_16, rngR_13, idxR_0, idxR_1, idxR_2, idxR_3, idxR_4, idxR_5, idxR_m1_1, idxR_m1_2, idxR_m1_3, idxR_last, pushR_ok, catR_ok, forC_nil, forC_cons, mapR_nil, mapR_cons, unO_some, mtO_none, mtO_some, minR_1, minR_2, minR_3, minR_4, maxR_1, maxR_2, maxR_3, maxR_4, andR_okk, orR_okk, andR_dec, orR_dec, andR_ok, orR_ok, iteR_not, iteR_nbl, cnd_t, cnd_f, iteR_ok, iteR_bl, decide_eq_true_eq, Rs.bind_ok, Rs.bind_er, Rs.bind_no, Rs.bind_assoc, noE_ok, List.nil_append, List.cons_append, List.length_cons, List.length_nil, Rs.sat_ok, Rs.sat_er, Rs.sat_no, if_true, if_false, reduceIte, Bool.false_eq_true, decide_true, decide_false, not_true_eq_false, not_false_eq_true, List.map_cons, List.map_nil, List.zip_cons_cons, List.zip_nil_left, List.zip_nil_right, Int.reduceAdd, Int.reduceSub, Int.reduceMul, Int.reduceMod, Int.reduceDiv, Int.reduceEq, Int.reduceNeg, Int.reduceLT, Int.reduceLE, Bool.not_true, Bool.not_false, Option.isSome_some, Option.isSome_none, Bool.and_true, Bool.true_and, Bool.and_false, Bool.false_and, Bool.or_false, Bool.or_true, Bool.false_or, Bool.true_or, reduceCtorEq, ne_eq, true_and, and_true, Int.zero_add, Int.add_zero, Int.sub_zero])
theorem m_law_row_J2_ex {k r : Int} (h0 : 0 ≤ k) (h1 : k ≤ 1000) (hr : 0 ≤ r) [br : Bd r 1048580] : ∃ r', m_law_row_J2 k r = .ok r' ∧ 0 ≤ r' ∧ Bd r' 1048580 := by
  unfold m_law_row_J2
  by_cases z : r < 1000000000
  · rw [cnd_pos z]
    have b1 : Bd r 30 := bdOf (B := 1000000000) 30 (by omega) (by omega)
    have b2 : Bd k 10 := bdOf (B := 1000) 10 (by omega) (by omega)
    fail "rs1"
    refine ⟨_, rfl, by omega, Bd.of inferInstance (by decide)⟩
  · rw [cnd_neg z]
    exact ⟨_, rfl, hr, br⟩
theorem m_law_row_exs {ns : List Int} {k : Int} (h0 : 0 ≤ k) (h1 : k ≤ 1000) (hb : ∀ z ∈ ns, scr z) : ∃ r, m_law_row ns k = .ok r ∧ 0 ≤ r ∧ Bd r 1048580 := by
  have main : ∀ r : Int, Bd r 1048576 → ∃ r', m_law_row_J1 k r = .ok r' ∧ 0 ≤ r' ∧ Bd r' 1048580 := by
    intro r br
    unfold m_law_row_J1
    by_cases z : r < 0
    · rw [cnd_pos z]
      fail "rs1"
      have : Bd (1 - 2 * r) 1048580 := Bd.of inferInstance (by decide)
      exact m_law_row_J2_ex h0 h1 (by omega)
    · rw [cnd_neg z]
      have : Bd r 1048580 := br.of (by decide)
      exact m_law_row_J2_ex h0 h1 (by omega)
  unfold m_law_row
  by_cases z : k < ns.length
  · rw [cnd_pos z, idxR_at h0 z]
    fail "rs1"
    rcases hb _ (List.getElem_mem (l := ns) (n := k.toNat) (by omega)) with q | ⟨q1, q2⟩
    · exact main _ (bd_bits q)
    · unfold m_law_row_J1
      rw [cnd_neg (by omega)]
      exact m_law_row_J2_ex h0 h1 q1
  · rw [cnd_neg z]
    exact main 0 (Bd.of inferInstance (by decide))
theorem m_law_row_ex {ns : List Int} {k : Int} (h0 : 0 ≤ k) (h1 : k ≤ 1000) (hb : ∀ z ∈ ns, Builtin.Int.intBits z ≤ 1048576) : ∃ r, m_law_row ns k = .ok r ∧ 0 ≤ r ∧ Bd r 1048580 := m_law_row_exs h0 h1 fun z hz => .inl (hb z hz)
end
end M
def b_law_contacts_0_3 : List S := .asg (.nm 9) (.idx (.lst [.bin .mod (.bin .fdiv (.var 6) (.cst (.int 400))) (.cst (.int 6)), .bin .mod (.bin .fdiv (.var 6) (.cst (.int 400))) (.cst (.int 30)), .bin .mod (.bin .fdiv (.var 6) (.cst (.int 400))) (.bin .add (.bin .pow (.cst (.int 10)) (.cst (.int 12))) (.cst (.int 1)))]) (.bin .mod (.bin .fdiv (.var 6) (.cst (.int 7))) (.cst (.int 3)))) :: [.app 4 (.tup [.bin .mod (.bin .fdiv (.var 6) (.cst (.int 11))) (.var 3), .bin .mod (.bin .fdiv (.var 6) (.cst (.int 77))) (.var 3), .var 7, .var 8, .var 9])]
def b_law_contacts_0_2 : List S := .asg (.nm 8) (.bin .add (.var 7) (.bin .mod (.bin .fdiv (.var 6) (.cst (.int 40))) (.cst (.int 9)))) :: b_law_contacts_0_3
def b_law_contacts_0_1 : List S := .asg (.nm 7) (.bin .mod (.var 6) (.cst (.int 40))) :: b_law_contacts_0_2
def b_law_contacts_0 : List S := .asg (.nm 6) (.call 0 [.var 0, .bin .add (.var 1) (.var 5)]) :: b_law_contacts_0_1
def i_law_contacts_2 : List S := .frz 4 :: [.ret (.var 4)]
def i_law_contacts_1 : List S := .for_ (.nm 5) (.rng [.var 2]) b_law_contacts_0 :: i_law_contacts_2
def i_law_contacts : List S := .new 4 (.lst []) :: i_law_contacts_1
abbrev G_law_contacts : List (Str × D) := []
abbrev P_law_contacts : List Cal := [C_law_row]
abbrev c_law_contacts : M.Cx := ⟨NM, AT_, P_law_contacts, G_law_contacts, True⟩
namespace M
open PySem PySem.Spec L2
noncomputable section
def m_law_contacts_L1 (script_1 : (List Int)) (k_2 : Int) (numbers_4 : Int) (j_13 : Int) (contacts_5 : (List (Int × Int × Int × Int × Int))) (nx_11 : ((List (Int × Int × Int × Int × Int)) → Rs (List (Int × Int × Int × Int × Int)))) (bk_12 : ((List (Int × Int × Int × Int × Int)) → Rs (List (Int × Int × Int × Int × Int)))) : Rs (List (Int × Int × Int × Int × Int)) :=
  ((m_law_row script_1 (k_2 + j_13)).bind fun row_14 => ((modR row_14 (40:Int)).bind fun begin_15 => ((((divR row_14 (40:Int)).bind fun a_16 => (modR a_16 (9:Int))).bind fun a_17 => (Rs.ok (begin_15 + a_17))).bind fun end_18 => (((((divR row_14 (400:Int)).bind fun a_19 => (modR a_19 (6:Int))).bind fun a_22 => (((divR row_14 (400:Int)).bind fun a_20 => (modR a_20 (30:Int))).bind fun a_23 => (((divR row_14 (400:Int)).bind fun a_21 => (modR a_21 ((1000000000000:Int) + (1:Int)))).bind fun a_24 => (Rs.ok [a_22, a_23, a_24])))).bind fun a_26 => (((divR row_14 (7:Int)).bind fun a_25 => (modR a_25 (3:Int))).bind fun a_27 => (idxR a_26 a_27))).bind fun weight_28 => ((((divR row_14 (11:Int)).bind fun a_29 => (modR a_29 numbers_4)).bind fun a_31 => (((divR row_14 (77:Int)).bind fun a_30 => (modR a_30 numbers_4)).bind fun a_32 => (Rs.ok (a_31, a_32, begin_15, end_18, weight_28)))).bind fun a_34 => (pushR contacts_5 a_34).bind fun contacts_33 => (nx_11 contacts_33))))))
def m_law_contacts_K1 (contacts_35 : (List (Int × Int × Int × Int × Int))) : Rs (List (Int × Int × Int × Int × Int)) :=
  (Rs.ok contacts_35)
def m_law_contacts (script_1 : (List Int)) (k_2 : Int) (many_3 : Int) (numbers_4 : Int) : Rs (List (Int × Int × Int × Int × Int)) :=
  ((rngR1 many_3).bind fun l_41 => forC (fun a s nx bk => m_law_contacts_L1 script_1 k_2 numbers_4 a s nx bk) (fun (s : (List (Int × Int × Int × Int × Int))) => m_law_contacts_K1 s) l_41 (([] : (List (Int × Int × Int × Int × Int))) : (List (Int × Int × Int × Int × Int))))
theorem k_law_contacts (script_1 : (List Int)) (k_2 : Int) (many_3 : Int) (numbers_4 : Int) : RK c_law_contacts (dL (d5 D.int D.int D.int D.int D.int)) i_law_contacts [Sl.val ((dR D.int) script_1), Sl.val (D.int k_2), Sl.val (D.int many_3), Sl.val (D.int numbers_4), Sl.un, Sl.un, Sl.un, Sl.un, Sl.un, Sl.un] (m_law_contacts script_1 k_2 many_3 numbers_4) (NN (dL (d5 D.int D.int D.int D.int D.int))) F0 F0 := by
  unfold m_law_contacts
  refine rk_newp (ρ' := [Sl.val ((dR D.int) script_1), Sl.val (D.int k_2), Sl.val (D.int many_3), Sl.val (D.int numbers_4), Sl.own [], Sl.un, Sl.un, Sl.un, Sl.un, Sl.un]) (rp_lst rps_nil) rfl ?_
  refine rk_fore (σ := (List (Int × Int × Int × Int × Int))) (J := (Sl × Sl × Sl × Sl × Sl)) (m := D.int) (fun (s : (List (Int × Int × Int × Int × Int))) (j : (Sl × Sl × Sl × Sl × Sl)) => [Sl.val ((dR D.int) script_1), Sl.val (D.int k_2), Sl.val (D.int many_3), Sl.val (D.int numbers_4), Sl.own (s.map (d5 D.int D.int D.int D.int D.int)), j.1, j.2.1, j.2.2.1, j.2.2.2.1, j.2.2.2.2]) (fun a s nx bk => m_law_contacts_L1 script_1 k_2 numbers_4 a s nx bk) (k := (fun (s : (List (Int × Int × Int × Int × Int))) => m_law_contacts_K1 s)) (s0 := (([] : (List (Int × Int × Int × Int × Int))) : (List (Int × Int × Int × Int × Int)))) (j0 := ((Sl.un, Sl.un, Sl.un, Sl.un, Sl.un))) (rie_rng (rx_p (rp_var rfl) (rx_nil qr_1))) rfl ?_ ?_
  · rintro j_13 contacts_5 ⟨z_6, z_7, z_8, z_9, z_10⟩ nx_11 bk_12
    refine ⟨_, rfl, ?_⟩
    show RK _ _ _ [Sl.val ((dR D.int) script_1), Sl.val (D.int k_2), Sl.val (D.int many_3), Sl.val (D.int numbers_4), Sl.own (contacts_5.map (d5 D.int D.int D.int D.int D.int)), Sl.val (D.int j_13), z_7, z_8, z_9, z_10] (m_law_contacts_L1 script_1 k_2 numbers_4 j_13 contacts_5 nx_11 bk_12) _ _ _
    unfold m_law_contacts_L1
    refine rk_asg (g := fun row_14 => [Sl.val ((dR D.int) script_1), Sl.val (D.int k_2), Sl.val (D.int many_3), Sl.val (D.int numbers_4), Sl.own (contacts_5.map (d5 D.int D.int D.int D.int D.int)), Sl.val (D.int j_13), Sl.val (D.int row_14), z_8, z_9, z_10]) (re_call (cal := C_law_row) (n := D.int) rfl (rx_p (rp_var rfl) (rx_p (rp_add (rp_var rfl) (rp_var rfl)) (rx_nil (q_law_row script_1 (k_2 + j_13)))))) (fun _ => rfl) (fun row_14 => ?_)
    refine rk_asg (g := fun begin_15 => [Sl.val ((dR D.int) script_1), Sl.val (D.int k_2), Sl.val (D.int many_3), Sl.val (D.int numbers_4), Sl.own (contacts_5.map (d5 D.int D.int D.int D.int D.int)), Sl.val (D.int j_13), Sl.val (D.int row_14), Sl.val (D.int begin_15), z_9, z_10]) (re_bin (rx_p (rp_var rfl) (rx_p rp_cst (rx_nil qb_mod)))) (fun _ => rfl) (fun begin_15 => ?_)
    refine rk_asg (g := fun end_18 => [Sl.val ((dR D.int) script_1), Sl.val (D.int k_2), Sl.val (D.int many_3), Sl.val (D.int numbers_4), Sl.own (contacts_5.map (d5 D.int D.int D.int D.int D.int)), Sl.val (D.int j_13), Sl.val (D.int row_14), Sl.val (D.int begin_15), Sl.val (D.int end_18), z_10]) (re_bin (rx_p (rp_var rfl) (rx_e (n := D.int) (re_bin (rx_e (n := D.int) (re_bin (rx_p (rp_var rfl) (rx_p rp_cst (rx_nil qb_fdiv)))) (fun a_16 => (rx_p rp_cst (rx_nil qb_mod))))) (fun a_17 => (rx_nil qb_add))))) (fun _ => rfl) (fun end_18 => ?_)
    refine rk_asg (g := fun weight_28 => [Sl.val ((dR D.int) script_1), Sl.val (D.int k_2), Sl.val (D.int many_3), Sl.val (D.int numbers_4), Sl.own (contacts_5.map (d5 D.int D.int D.int D.int D.int)), Sl.val (D.int j_13), Sl.val (D.int row_14), Sl.val (D.int begin_15), Sl.val (D.int end_18), Sl.val (D.int weight_28)]) (re_idx (n := D.int) (rx_e (n := (dL D.int)) (re_lst (n := (dL D.int)) (rx_e (n := D.int) (re_bin (rx_e (n := D.int) (re_bin (rx_p (rp_var rfl) (rx_p rp_cst (rx_nil qb_fdiv)))) (fun a_19 => (rx_p rp_cst (rx_nil qb_mod))))) (fun a_22 => (rx_e (n := D.int) (re_bin (rx_e (n := D.int) (re_bin (rx_p (rp_var rfl) (rx_p rp_cst (rx_nil qb_fdiv)))) (fun a_20 => (rx_p rp_cst (rx_nil qb_mod))))) (fun a_23 => (rx_e (n := D.int) (re_bin (rx_e (n := D.int) (re_bin (rx_p (rp_var rfl) (rx_p rp_cst (rx_nil qb_fdiv)))) (fun a_21 => (rx_p (rp_add (rp_powc (v := 1000000000000) rp_cst rp_cst (cpq (by decide) (by decide +kernel)) (by decide +kernel)) rp_cst) (rx_nil qb_mod))))) (fun a_24 => (rx_nil ⟨_, rfl, rfl⟩)))))))) (fun a_26 => (rx_e (n := D.int) (re_bin (rx_e (n := D.int) (re_bin (rx_p (rp_var rfl) (rx_p rp_cst (rx_nil qb_fdiv)))) (fun a_25 => (rx_p rp_cst (rx_nil qb_mod))))) (fun a_27 => (rx_nil (qi_lst (n := D.int) (l := a_26)))))))) (fun _ => rfl) (fun weight_28 => ?_)
    refine rk_app (m := (d5 D.int D.int D.int D.int D.int)) (l := contacts_5) (g := fun contacts_33 => [Sl.val ((dR D.int) script_1), Sl.val (D.int k_2), Sl.val (D.int many_3), Sl.val (D.int numbers_4), Sl.own (contacts_33.map (d5 D.int D.int D.int D.int D.int)), Sl.val (D.int j_13), Sl.val (D.int row_14), Sl.val (D.int begin_15), Sl.val (D.int end_18), Sl.val (D.int weight_28)]) rfl (re_tup (n := (d5 D.int D.int D.int D.int D.int)) (rx_e (n := D.int) (re_bin (rx_e (n := D.int) (re_bin (rx_p (rp_var rfl) (rx_p rp_cst (rx_nil qb_fdiv)))) (fun a_29 => (rx_p (rp_var rfl) (rx_nil qb_mod))))) (fun a_31 => (rx_e (n := D.int) (re_bin (rx_e (n := D.int) (re_bin (rx_p (rp_var rfl) (rx_p rp_cst (rx_nil qb_fdiv)))) (fun a_30 => (rx_p (rp_var rfl) (rx_nil qb_mod))))) (fun a_32 => (rx_p (rp_var rfl) (rx_p (rp_var rfl) (rx_p (rp_var rfl) (rx_nil ⟨_, rfl, rfl⟩))))))))) (fun _ => rfl) (fun contacts_33 => ?_)
    exact rk_nil (nx_i contacts_33 ((Sl.val (D.int j_13), Sl.val (D.int row_14), Sl.val (D.int begin_15), Sl.val (D.int end_18), Sl.val (D.int weight_28))))
  · rintro contacts_35 ⟨z_36, z_37, z_38, z_39, z_40⟩
    show RK _ _ _ [Sl.val ((dR D.int) script_1), Sl.val (D.int k_2), Sl.val (D.int many_3), Sl.val (D.int numbers_4), Sl.own (contacts_35.map (d5 D.int D.int D.int D.int D.int)), z_36, z_37, z_38, z_39, z_40] (m_law_contacts_K1 contacts_35) _ _ _
    unfold m_law_contacts_K1
    refine rk_frz (ρ' := [Sl.val ((dR D.int) script_1), Sl.val (D.int k_2), Sl.val (D.int many_3), Sl.val (D.int numbers_4), Sl.val ((dL (d5 D.int D.int D.int D.int D.int)) contacts_35), z_36, z_37, z_38, z_39, z_40]) rfl rfl ?_
    exact rk_retp (a := contacts_35) trivial (rp_var rfl)
end
end M
def fs_law_contacts : FS := fun ds k x => (∃ (script_1 : (List Int)) (k_2 : Int) (many_3 : Int) (numbers_4 : Int), ds = [(M.dR D.int) script_1, D.int k_2, D.int many_3, D.int numbers_4] ∧ (M.m_law_contacts script_1 k_2 many_3 numbers_4).sat (fun v => k ((M.dL (M.d5 D.int D.int D.int D.int D.int)) v)) x)
def C_law_contacts : Cal := { nm := "_law_contacts", ar := 4, dfl := [], fs := fs_law_contacts }
theorem w_law_contacts : ∀ ds kd kx, ds.length = 4 → fs_law_contacts ds kd kx → wpSs NM AT_ P_law_contacts G_law_contacts i_law_contacts (startR 10 ds) { nx := fun _ => kd .non, rt := kd, bk := fun _ => False, ct := fun _ => False, er := fun x _ => kx x } := by
  rintro ds kd kx hl (⟨script_1, k_2, many_3, numbers_4, rfl, h⟩)
  · exact M.fin_f (c := c_law_contacts) (M.k_law_contacts script_1 k_2 many_3 numbers_4) h
namespace M
open PySem PySem.Spec L2
noncomputable section
theorem q_law_contacts (script_1 : (List Int)) (k_2 : Int) (many_3 : Int) (numbers_4 : Int) : QF C_law_contacts (dL (d5 D.int D.int D.int D.int D.int)) [(dR D.int) script_1, D.int k_2, D.int many_3, D.int numbers_4] (m_law_contacts script_1 k_2 many_3 numbers_4) := fun k x h => ⟨script_1, k_2, many_3, numbers_4, rfl, h⟩
local macro_rules | `(tactic| fail "rs2") => `(tactic| try simp (config := {decide := true, dsimp := false, implicitDefEqProofs := false}) only [mulR_ok, divR_ok, modR_ok, isqrtR_ok, rngR1_0, rngR1_1, rngR1_2, rngR1_3, rngR1_4, rngR1_5, rngR1_6, rngR_16, rngR_13, idxR_0, idxR_1, idxR_2, idxR_3, idxR_4, idxR_5, idxR_m1_1, idxR_m1_2, idxR_m1_3, idxR_last, pushR_ok, catR_ok, forC_nil, forC_cons, mapR_nil, mapR_cons, unO_some, mtO_none, mtO_some, minR_1, minR_2, minR_3, minR_4, maxR_1, maxR_2, maxR_3, maxR_4, andR_okk, orR_okk, andR_dec, orR_dec, andR_ok, orR_ok, iteR_not, iteR_nbl, cnd_t, cnd_f, iteR_ok, iteR_bl, decide_eq_true_eq, Rs.bind_ok, Rs.bind_er, Rs.bind_no, Rs.bind_assoc, noE_ok, List.nil_append, List.cons_append, List.length_cons, List.length_nil, Rs.sat_ok, Rs.sat_er, Rs.sat_no, if_true, if_false, reduceIte, Bool.false_eq_true, decide_true, decide_false, not_true_eq_false, not_false_eq_true, List.map_cons, List.map_nil, List.zip_cons_cons, List.zip_nil_left, List.zip_nil_right, Int.reduceAdd, Int.reduceSub, Int.reduceMul, Int.reduceMod, Int.reduceDiv, Int.reduceEq, Int.reduceNeg, Int.reduceLT, Int.reduceLE, Bool.not_true, Bool.not_false, Option.isSome_some, Option.isSome_none, Bool.and_true, Bool.true_and, Bool.and_false, Bool.false_and, Bool.or_false, Bool.or_true, Bool.false_or, Bool.true_or, reduceCtorEq, ne_eq, true_and, and_true, Int.zero_add, Int.add_zero, Int.sub_zero])
structure LcOk (n : Int) (c : Ct) : Prop where
  ok : CtOk c
  cn : c.1 < n
  sn : c.2.1 < n
theorem m_law_contacts_ex {ns : List Int} {m n : Int} (h0 : 0 ≤ m) (h1 : m ≤ 100) (n0 : 1 ≤ n) (n1 : n ≤ 4) (hb : ∀ z ∈ ns, Builtin.Int.intBits z ≤ 1048576) : ∃ l, m_law_contacts ns 1 m n = .ok l ∧ (l.length : Int) = m ∧ ∀ c ∈ l, LcOk n c := by
  have bn : Bd n 3 := bdOf (B := 4) 3 (by omega) (by omega)
  have nz : NZ n := ⟨by omega⟩
  unfold m_law_contacts
  rw [rngR1_ok (by omega) (by omega), Rs.bind_ok]
  obtain ⟨s, ⟨i1, i2⟩, e⟩ := forC_exL (F := fun a s nx bk => m_law_contacts_L1 ns 1 n a s nx bk) (k := fun s => m_law_contacts_K1 s) (l := rngL 0 m) (s := []) (I := fun k s => s.length = k ∧ ∀ c ∈ s, LcOk n c) (fun k s x hx hi => by
    obtain ⟨rfl, hxm⟩ := rngL_at hx
    obtain ⟨r, e1, r0, br⟩ := m_law_row_ex (ns := ns) (k := 1 + (k : Int)) (by omega) (by omega) hb
    have w : ∃ w, idxR [r / 400 % 6, r / 400 % 30, r / 400 % 1000000000001] (r / 7 % 3) = .ok w ∧ 0 ≤ w ∧ w ≤ 1000000000000 := by
      obtain ⟨z, hz, hm⟩ := idxR_ex (l := [r / 400 % 6, r / 400 % 30, r / 400 % 1000000000001]) (i := r / 7 % 3) (by omega) (by simp only [List.length_cons, List.length_nil]; omega)
      refine ⟨z, hz, ?_⟩
      simp only [List.mem_cons, List.not_mem_nil, or_false] at hm
      omega
    obtain ⟨w, e2, w0, w1⟩ := w
    have a1 := Int.emod_nonneg (r / 11) (show n ≠ 0 by omega)
    have a2 := Int.emod_lt_of_pos (r / 11) (show 0 < n by omega)
    have a3 := Int.emod_nonneg (r / 77) (show n ≠ 0 by omega)
    have a4 := Int.emod_lt_of_pos (r / 77) (show 0 < n by omega)
    refine ⟨s ++ [(r / 11 % n, r / 77 % n, r % 40, r % 40 + r / 40 % 9, w)], ⟨by rw [List.length_append, hi.1]; rfl, fun c hc => ?_⟩, fun nx bk => ?_⟩
    · rcases List.mem_append.mp hc with hc | hc
      · exact hi.2 c hc
      · cases List.mem_singleton.mp hc
        refine ⟨⟨?_, ?_, ?_, ?_, ?_, ?_, ?_, w0, w1⟩, a2, a4⟩ <;> dsimp only <;> omega
    · unfold m_law_contacts_L1
      rw [e1, Rs.bind_ok]
      fail "rs2"
      rw [e2, Rs.bind_ok]
      fail "rs2"
      rw [modR_ok (show 0 < n by omega), Rs.bind_ok]
      fail "rs2"
      rw [modR_ok (show 0 < n by omega), Rs.bind_ok]
      fail "rs2"
      rw [pushR_ok (by omega), Rs.bind_ok]) ⟨rfl, fun c hc => by cases hc⟩
  refine ⟨s, e, ?_, i2⟩
  rw [i1, rngL_len]
  omega
end
end M
def i_check : List S := [.ite (.not (.val (.var 0))) [.nev] []]
abbrev G_check : List (Str × D) := []
abbrev P_check : List Cal := []
abbrev c_check : M.Cx := ⟨NM, AT_, P_check, G_check, True⟩
namespace M
open PySem PySem.Spec L2
noncomputable section
def m_check (good_1 : Bool) (name_2 : Str) : Rs Unit :=
  (cnd (¬(good_1 = true)) Rs.no (Rs.ok ()))
theorem k_check (good_1 : Bool) (name_2 : Str) : RK c_check dN i_check [Sl.val (D.bl good_1), Sl.val (D.str name_2)] (m_check good_1 name_2) (NN dN) F0 F0 := by
  unfold m_check
  refine rk_ifu (ru_not (ru_bl (rp_var rfl))) (fun _ => ?_) (fun _ => ?_)
  · exact rk_nev
  · refine rk_nil ?_
    exact rk_nil ⟨_, rfl, rfl⟩
end
end M
def fs_check : FS := fun ds k x => (∃ (good_1 : Bool) (name_2 : Str), ds = [D.bl good_1, D.str name_2] ∧ (M.m_check good_1 name_2).sat (fun v => k (M.dN v)) x)
def C_check : Cal := { nm := "check", ar := 2, dfl := [], fs := fs_check }
theorem w_check : ∀ ds kd kx, ds.length = 2 → fs_check ds kd kx → wpSs NM AT_ P_check G_check i_check (startR 2 ds) { nx := fun _ => kd .non, rt := kd, bk := fun _ => False, ct := fun _ => False, er := fun x _ => kx x } := by
  rintro ds kd kx hl (⟨good_1, name_2, rfl, h⟩)
  · exact M.fin_f (c := c_check) (M.k_check good_1 name_2) h
namespace M
open PySem PySem.Spec L2
noncomputable section
theorem q_check (good_1 : Bool) (name_2 : Str) : QF C_check dN [D.bl good_1, D.str name_2] (m_check good_1 name_2) := fun k x h => ⟨good_1, name_2, rfl, h⟩
local macro_rules | `(tactic| fail "rs3") => `(tactic| try simp (config := {decide := true, dsimp := false, implicitDefEqProofs := false}) only [mulR_ok, divR_ok, modR_ok, isqrtR_ok, rngR1_0, rngR1_1, rngR1_2, rngR1_3, rngR1_4, rngR1_5, rngR1_6, rngR_16, rngR_13, idxR_0, idxR_1, idxR_2, idxR_3, idxR_4, idxR_5, idxR_m1_1, idxR_m1_2, idxR_m1_3, idxR_last, pushR_ok, catR_ok, forC_nil, forC_cons, mapR_nil, mapR_cons, unO_some, mtO_none, mtO_some, minR_1, minR_2, minR_3, minR_4, maxR_1, maxR_2, maxR_3, maxR_4, andR_okk, orR_okk, andR_dec, orR_dec, andR_ok, orR_ok, iteR_not, iteR_nbl, cnd_t, cnd_f, iteR_ok, iteR_bl, decide_eq_true_eq, Rs.bind_ok, Rs.bind_er, Rs.bind_no, Rs.bind_assoc, noE_ok, List.nil_append, List.cons_append, List.length_cons, List.length_nil, Rs.sat_ok, Rs.sat_er, Rs.sat_no, if_true, if_false, reduceIte, Bool.false_eq_true, decide_true, decide_false, not_true_eq_false, not_false_eq_true, List.map_cons, List.map_nil, List.zip_cons_cons, List.zip_nil_left, List.zip_nil_right, Int.reduceAdd, Int.reduceSub, Int.reduceMul, Int.reduceMod, Int.reduceDiv, Int.reduceEq, Int.reduceNeg, Int.reduceLT, Int.reduceLE, Bool.not_true, Bool.not_false, Option.isSome_some, Option.isSome_none, Bool.and_true, Bool.true_and, Bool.and_false, Bool.false_and, Bool.or_false, Bool.or_true, Bool.false_or, Bool.true_or, reduceCtorEq, ne_eq, true_and, and_true, Int.zero_add, Int.add_zero, Int.sub_zero])
theorem m_check_ok {b : Bool} {s : Str} (h : b = true) : m_check b s = .ok () := by subst h; rfl
theorem m_check_dec {p : Prop} [Decidable p] {s : Str} (h : p) : m_check (decide p) s = .ok () := m_check_ok (decide_eq_true h)
end
end M
def i_is_tick : List S := [.ret (.chn .le .le (.cst (.int 0)) (.var 0) (.glo 0))]
abbrev G_is_tick : List (Str × D) := [("LAST_TICK", .int 100000)]
abbrev P_is_tick : List Cal := []
abbrev c_is_tick : M.Cx := ⟨NM, AT_, P_is_tick, G_is_tick, True⟩
namespace M
open PySem PySem.Spec L2
noncomputable section
def m_is_tick (number_1 : Int) : Rs Bool :=
  (Rs.ok (decide (((0:Int) ≤ number_1) ∧ (number_1 ≤ (100000:Int)))))
theorem k_is_tick (number_1 : Int) : RK c_is_tick D.bl i_is_tick [Sl.val (D.int number_1)] (m_is_tick number_1) (NN D.bl) F0 F0 := by
  unfold m_is_tick
  exact rk_retp (a := (decide (((0:Int) ≤ number_1) ∧ (number_1 ≤ (100000:Int))))) trivial (rp_chn (ru_chn rp_cst (rp_var rfl) (rp_glo rfl) (fun _ h => h) (fun _ h => h)))
end
end M
def fs_is_tick : FS := fun ds k x => (∃ (number_1 : Int), ds = [D.int number_1] ∧ (M.m_is_tick number_1).sat (fun v => k (D.bl v)) x)
def C_is_tick : Cal := { nm := "is_tick", ar := 1, dfl := [], fs := fs_is_tick }
theorem w_is_tick : ∀ ds kd kx, ds.length = 1 → fs_is_tick ds kd kx → wpSs NM AT_ P_is_tick G_is_tick i_is_tick (startR 1 ds) { nx := fun _ => kd .non, rt := kd, bk := fun _ => False, ct := fun _ => False, er := fun x _ => kx x } := by
  rintro ds kd kx hl (⟨number_1, rfl, h⟩)
  · exact M.fin_f (c := c_is_tick) (M.k_is_tick number_1) h
namespace M
open PySem PySem.Spec L2
noncomputable section
theorem q_is_tick (number_1 : Int) : QF C_is_tick D.bl [D.int number_1] (m_is_tick number_1) := fun k x h => ⟨number_1, rfl, h⟩
local macro_rules | `(tactic| fail "rs4") => `(tactic| try simp (config := {decide := true, dsimp := false, implicitDefEqProofs := false}) only [mulR_ok, divR_ok, modR_ok, isqrtR_ok, rngR1_0, rngR1_1, rngR1_2, rngR1_3, rngR1_4, rngR1_5, rngR1_6, rngR_16, rngR_13, idxR_0, idxR_1, idxR_2, idxR_3, idxR_4, idxR_5, idxR_m1_1, idxR_m1_2, idxR_m1_3, idxR_last, pushR_ok, catR_ok, forC_nil, forC_cons, mapR_nil, mapR_cons, unO_some, mtO_none, mtO_some, minR_1, minR_2, minR_3, minR_4, maxR_1, maxR_2, maxR_3, maxR_4, andR_okk, orR_okk, andR_dec, orR_dec, andR_ok, orR_ok, iteR_not, iteR_nbl, cnd_t, cnd_f, iteR_ok, iteR_bl, decide_eq_true_eq, Rs.bind_ok, Rs.bind_er, Rs.bind_no, Rs.bind_assoc, noE_ok, List.nil_append, List.cons_append, List.length_cons, List.length_nil, Rs.sat_ok, Rs.sat_er, Rs.sat_no, if_true, if_false, reduceIte, Bool.false_eq_true, decide_true, decide_false, not_true_eq_false, not_false_eq_true, List.map_cons, List.map_nil, List.zip_cons_cons, List.zip_nil_left, List.zip_nil_right, Int.reduceAdd, Int.reduceSub, Int.reduceMul, Int.reduceMod, Int.reduceDiv, Int.reduceEq, Int.reduceNeg, Int.reduceLT, Int.reduceLE, Bool.not_true, Bool.not_false, Option.isSome_some, Option.isSome_none, Bool.and_true, Bool.true_and, Bool.and_false, Bool.false_and, Bool.or_false, Bool.or_true, Bool.false_or, Bool.true_or, reduceCtorEq, ne_eq, true_and, and_true, Int.zero_add, Int.add_zero, Int.sub_zero, m_check_ok])
theorem m_is_tick_ok {n : Int} : m_is_tick n = .ok (decide (tickOk n)) := rfl
end
end M
def b_check_contacts_0_1 : List S := .exp (.call 0 [.and [.call 1 [.var 4], .chn .le .le (.var 4) (.var 5) (.glo 0)], .cst (.str "contacts")]) :: [.exp (.call 0 [.chn .le .le (.cst (.int 0)) (.var 6) (.glo 1), .cst (.str "contacts")])]
def b_check_contacts_0 : List S := .exp (.call 0 [.and [.chn .le .le (.cst (.int 0)) (.var 2) (.cst (.int 999)), .chn .le .le (.cst (.int 0)) (.var 3) (.cst (.int 999))], .cst (.str "contacts")]) :: b_check_contacts_0_1
def i_check_contacts : List S := .exp (.call 0 [.cmp .le (.blt .len [.var 0]) (.var 1), .cst (.str "contacts")]) :: [.for_ (.tp [.nm 2, .nm 3, .nm 4, .nm 5, .nm 6]) (.ex (.var 0)) b_check_contacts_0]
abbrev G_check_contacts : List (Str × D) := [("LAST_TICK", .int 100000), ("MOST_WEIGHT", .int 1000000000000)]
abbrev P_check_contacts : List Cal := [C_check, C_is_tick]
abbrev c_check_contacts : M.Cx := ⟨NM, AT_, P_check_contacts, G_check_contacts, True⟩
namespace M
open PySem PySem.Spec L2
noncomputable section
def m_check_contacts_L1 (p_10 : (Int × Int × Int × Int × Int)) (nx_8 : (Unit → Rs Unit)) (bk_9 : (Unit → Rs Unit)) : Rs Unit :=
  ((m_check ((decide (((0:Int) ≤ p_10.1) ∧ (p_10.1 ≤ (999:Int)))) && (decide (((0:Int) ≤ p_10.2.1) ∧ (p_10.2.1 ≤ (999:Int))))) ("contacts":Str)).bind fun _ => (((andR (m_is_tick p_10.2.2.1) (Rs.ok (decide ((p_10.2.2.1 ≤ p_10.2.2.2.1) ∧ (p_10.2.2.2.1 ≤ (100000:Int)))))).bind fun a_11 => (m_check a_11 ("contacts":Str))).bind fun _ => ((m_check (decide (((0:Int) ≤ p_10.2.2.2.2) ∧ (p_10.2.2.2.2 ≤ (1000000000000:Int)))) ("contacts":Str)).bind fun _ => (nx_8 ()))))
def m_check_contacts (contacts_1 : (List (Int × Int × Int × Int × Int))) (most_2 : Int) : Rs Unit :=
  ((m_check (decide ((contacts_1.length : Int) ≤ most_2)) ("contacts":Str)).bind fun _ => (forC (fun a s nx bk => m_check_contacts_L1 a  nx bk) (fun (s : Unit) => (Rs.ok ())) contacts_1 (() : Unit)))
theorem k_check_contacts (contacts_1 : (List (Int × Int × Int × Int × Int))) (most_2 : Int) : RK c_check_contacts dN i_check_contacts [Sl.val ((dL (d5 D.int D.int D.int D.int D.int)) contacts_1), Sl.val (D.int most_2), Sl.un, Sl.un, Sl.un, Sl.un, Sl.un] (m_check_contacts contacts_1 most_2) (NN dN) F0 F0 := by
  unfold m_check_contacts
  refine rk_exp (m := dN) (re_call (cal := C_check) (n := dN) rfl (rx_p (rp_cmp (ru_cmp (rp_blt (v := (D.int (contacts_1.length : Int))) (rps_cons (rp_var rfl) rps_nil) bl_lenl) (rp_var rfl) (fun _ h => h))) (rx_p rp_cst (rx_nil (q_check (decide ((contacts_1.length : Int) ≤ most_2)) ("contacts":Str)))))) (fun _ => ?_)
  refine rk_for (σ := Unit) (J := (Sl × Sl × Sl × Sl × Sl)) (m := (d5 D.int D.int D.int D.int D.int)) (l := contacts_1) (fun (s : Unit) (j : (Sl × Sl × Sl × Sl × Sl)) => [Sl.val ((dL (d5 D.int D.int D.int D.int D.int)) contacts_1), Sl.val (D.int most_2), j.1, j.2.1, j.2.2.1, j.2.2.2.1, j.2.2.2.2]) (fun a s nx bk => m_check_contacts_L1 a  nx bk) (k := (fun (s : Unit) => (Rs.ok ()))) (s0 := (() : Unit)) (j0 := ((Sl.un, Sl.un, Sl.un, Sl.un, Sl.un))) (ri_lst (rp_var rfl)) rfl ?_ ?_
  · rintro p_10 _ ⟨z_3, z_4, z_5, z_6, z_7⟩ nx_8 bk_9
    refine ⟨_, rfl, ?_⟩
    show RK _ _ _ [Sl.val ((dL (d5 D.int D.int D.int D.int D.int)) contacts_1), Sl.val (D.int most_2), Sl.val (D.int p_10.1), Sl.val (D.int p_10.2.1), Sl.val (D.int p_10.2.2.1), Sl.val (D.int p_10.2.2.2.1), Sl.val (D.int p_10.2.2.2.2)] (m_check_contacts_L1 p_10 nx_8 bk_9) _ _ _
    unfold m_check_contacts_L1
    refine rk_exp (m := dN) (re_call (cal := C_check) (n := dN) rfl (rx_p (rp_and (rea_consp (rp_chn (ru_chn rp_cst (rp_var rfl) rp_cst (fun _ h => h) (fun _ h => h))) (rea_one (re_p (n := D.bl) (rp_chn (ru_chn rp_cst (rp_var rfl) rp_cst (fun _ h => h) (fun _ h => h))))))) (rx_p rp_cst (rx_nil (q_check ((decide (((0:Int) ≤ p_10.1) ∧ (p_10.1 ≤ (999:Int)))) && (decide (((0:Int) ≤ p_10.2.1) ∧ (p_10.2.1 ≤ (999:Int))))) ("contacts":Str)))))) (fun _ => ?_)
    refine rk_exp (m := dN) (re_call (cal := C_check) (n := dN) rfl (rx_e (n := D.bl) (re_and (rea_cons (re_call (cal := C_is_tick) (n := D.bl) rfl (rx_p (rp_var rfl) (rx_nil (q_is_tick p_10.2.2.1)))) (rea_one (re_p (n := D.bl) (a := (decide ((p_10.2.2.1 ≤ p_10.2.2.2.1) ∧ (p_10.2.2.2.1 ≤ (100000:Int))))) (rp_chn (ru_chn (rp_var rfl) (rp_var rfl) (rp_glo rfl) (fun _ h => h) (fun _ h => h))))))) (fun a_11 => (rx_p rp_cst (rx_nil (q_check a_11 ("contacts":Str))))))) (fun _ => ?_)
    refine rk_exp (m := dN) (re_call (cal := C_check) (n := dN) rfl (rx_p (rp_chn (ru_chn rp_cst (rp_var rfl) (rp_glo rfl) (fun _ h => h) (fun _ h => h))) (rx_p rp_cst (rx_nil (q_check (decide (((0:Int) ≤ p_10.2.2.2.2) ∧ (p_10.2.2.2.2 ≤ (1000000000000:Int)))) ("contacts":Str)))))) (fun _ => ?_)
    exact rk_nil (nx_i () ((Sl.val (D.int p_10.1), Sl.val (D.int p_10.2.1), Sl.val (D.int p_10.2.2.1), Sl.val (D.int p_10.2.2.2.1), Sl.val (D.int p_10.2.2.2.2))))
  · rintro _ ⟨z_12, z_13, z_14, z_15, z_16⟩
    show RK _ _ _ [Sl.val ((dL (d5 D.int D.int D.int D.int D.int)) contacts_1), Sl.val (D.int most_2), z_12, z_13, z_14, z_15, z_16] ((Rs.ok ())) _ _ _
    exact rk_nil ⟨_, rfl, rfl⟩
end
end M
def fs_check_contacts : FS := fun ds k x => (∃ (contacts_1 : (List (Int × Int × Int × Int × Int))) (most_2 : Int), ds = [(M.dL (M.d5 D.int D.int D.int D.int D.int)) contacts_1, D.int most_2] ∧ (M.m_check_contacts contacts_1 most_2).sat (fun v => k (M.dN v)) x)
def C_check_contacts : Cal := { nm := "check_contacts", ar := 2, dfl := [], fs := fs_check_contacts }
theorem w_check_contacts : ∀ ds kd kx, ds.length = 2 → fs_check_contacts ds kd kx → wpSs NM AT_ P_check_contacts G_check_contacts i_check_contacts (startR 7 ds) { nx := fun _ => kd .non, rt := kd, bk := fun _ => False, ct := fun _ => False, er := fun x _ => kx x } := by
  rintro ds kd kx hl (⟨contacts_1, most_2, rfl, h⟩)
  · exact M.fin_f (c := c_check_contacts) (M.k_check_contacts contacts_1 most_2) h
namespace M
open PySem PySem.Spec L2
noncomputable section
theorem q_check_contacts (contacts_1 : (List (Int × Int × Int × Int × Int))) (most_2 : Int) : QF C_check_contacts dN [(dL (d5 D.int D.int D.int D.int D.int)) contacts_1, D.int most_2] (m_check_contacts contacts_1 most_2) := fun k x h => ⟨contacts_1, most_2, rfl, h⟩
local macro_rules | `(tactic| fail "rs5") => `(tactic| try simp (config := {decide := true, dsimp := false, implicitDefEqProofs := false}) only [mulR_ok, divR_ok, modR_ok, isqrtR_ok, rngR1_0, rngR1_1, rngR1_2, rngR1_3, rngR1_4, rngR1_5, rngR1_6, rngR_16, rngR_13, idxR_0, idxR_1, idxR_2, idxR_3, idxR_4, idxR_5, idxR_m1_1, idxR_m1_2, idxR_m1_3, idxR_last, pushR_ok, catR_ok, forC_nil, forC_cons, mapR_nil, mapR_cons, unO_some, mtO_none, mtO_some, minR_1, minR_2, minR_3, minR_4, maxR_1, maxR_2, maxR_3, maxR_4, andR_okk, orR_okk, andR_dec, orR_dec, andR_ok, orR_ok, iteR_not, iteR_nbl, cnd_t, cnd_f, iteR_ok, iteR_bl, decide_eq_true_eq, Rs.bind_ok, Rs.bind_er, Rs.bind_no, Rs.bind_assoc, noE_ok, List.nil_append, List.cons_append, List.length_cons, List.length_nil, Rs.sat_ok, Rs.sat_er, Rs.sat_no, if_true, if_false, reduceIte, Bool.false_eq_true, decide_true, decide_false, not_true_eq_false, not_false_eq_true, List.map_cons, List.map_nil, List.zip_cons_cons, List.zip_nil_left, List.zip_nil_right, Int.reduceAdd, Int.reduceSub, Int.reduceMul, Int.reduceMod, Int.reduceDiv, Int.reduceEq, Int.reduceNeg, Int.reduceLT, Int.reduceLE, Bool.not_true, Bool.not_false, Option.isSome_some, Option.isSome_none, Bool.and_true, Bool.true_and, Bool.and_false, Bool.false_and, Bool.or_false, Bool.or_true, Bool.false_or, Bool.true_or, reduceCtorEq, ne_eq, true_and, and_true, Int.zero_add, Int.add_zero, Int.sub_zero, m_check_ok, m_is_tick_ok])
theorem m_check_contacts_ok {l : List Ct} {m : Int} (hm : (l.length : Int) ≤ m) (h : CtsOk l) : m_check_contacts l m = .ok () := by
  unfold m_check_contacts
  rw [m_check_dec hm, Rs.bind_ok]
  refine forC_goU fun c hc nx bk => ?_
  obtain ⟨h1, h2, h3, h4, h5, h6, h7, h8, h9⟩ := h c hc
  unfold m_check_contacts_L1
  rw [m_check_ok (by rw [decide_eq_true (show 0 ≤ c.1 ∧ c.1 ≤ 999 from ⟨h1, h2⟩), decide_eq_true (show 0 ≤ c.2.1 ∧ c.2.1 ≤ 999 from ⟨h3, h4⟩)]; rfl), Rs.bind_ok]
  unfold m_is_tick
  rw [decide_eq_true (show 0 ≤ c.2.2.1 ∧ c.2.2.1 ≤ 100000 from ⟨h5, by omega⟩)]
  rw [decide_eq_true (show c.2.2.1 ≤ c.2.2.2.1 ∧ c.2.2.2.1 ≤ 100000 from ⟨h6, h7⟩)]
  show ((m_check true ("contacts":Str)).bind _ : Rs _) = _
  rw [m_check_ok rfl, Rs.bind_ok, m_check_dec ⟨h8, h9⟩, Rs.bind_ok]
end
end M
def i_check_gap : List S := [.exp (.call 0 [.call 1 [.var 0], .cst (.str "gap")])]
abbrev G_check_gap : List (Str × D) := []
abbrev P_check_gap : List Cal := [C_check, C_is_tick]
abbrev c_check_gap : M.Cx := ⟨NM, AT_, P_check_gap, G_check_gap, True⟩
namespace M
open PySem PySem.Spec L2
noncomputable section
def m_check_gap (gap_1 : Int) : Rs Unit :=
  (((m_is_tick gap_1).bind fun a_2 => (m_check a_2 ("gap":Str))).bind fun _ => (Rs.ok ()))
theorem k_check_gap (gap_1 : Int) : RK c_check_gap dN i_check_gap [Sl.val (D.int gap_1)] (m_check_gap gap_1) (NN dN) F0 F0 := by
  unfold m_check_gap
  refine rk_exp (m := dN) (re_call (cal := C_check) (n := dN) rfl (rx_e (n := D.bl) (re_call (cal := C_is_tick) (n := D.bl) rfl (rx_p (rp_var rfl) (rx_nil (q_is_tick gap_1)))) (fun a_2 => (rx_p rp_cst (rx_nil (q_check a_2 ("gap":Str))))))) (fun _ => ?_)
  exact rk_nil ⟨_, rfl, rfl⟩
end
end M
def fs_check_gap : FS := fun ds k x => (∃ (gap_1 : Int), ds = [D.int gap_1] ∧ (M.m_check_gap gap_1).sat (fun v => k (M.dN v)) x)
def C_check_gap : Cal := { nm := "check_gap", ar := 1, dfl := [], fs := fs_check_gap }
theorem w_check_gap : ∀ ds kd kx, ds.length = 1 → fs_check_gap ds kd kx → wpSs NM AT_ P_check_gap G_check_gap i_check_gap (startR 1 ds) { nx := fun _ => kd .non, rt := kd, bk := fun _ => False, ct := fun _ => False, er := fun x _ => kx x } := by
  rintro ds kd kx hl (⟨gap_1, rfl, h⟩)
  · exact M.fin_f (c := c_check_gap) (M.k_check_gap gap_1) h
namespace M
open PySem PySem.Spec L2
noncomputable section
theorem q_check_gap (gap_1 : Int) : QF C_check_gap dN [D.int gap_1] (m_check_gap gap_1) := fun k x h => ⟨gap_1, rfl, h⟩
local macro_rules | `(tactic| fail "rs6") => `(tactic| try simp (config := {decide := true, dsimp := false, implicitDefEqProofs := false}) only [mulR_ok, divR_ok, modR_ok, isqrtR_ok, rngR1_0, rngR1_1, rngR1_2, rngR1_3, rngR1_4, rngR1_5, rngR1_6, rngR_16, rngR_13, idxR_0, idxR_1, idxR_2, idxR_3, idxR_4, idxR_5, idxR_m1_1, idxR_m1_2, idxR_m1_3, idxR_last, pushR_ok, catR_ok, forC_nil, forC_cons, mapR_nil, mapR_cons, unO_some, mtO_none, mtO_some, minR_1, minR_2, minR_3, minR_4, maxR_1, maxR_2, maxR_3, maxR_4, andR_okk, orR_okk, andR_dec, orR_dec, andR_ok, orR_ok, iteR_not, iteR_nbl, cnd_t, cnd_f, iteR_ok, iteR_bl, decide_eq_true_eq, Rs.bind_ok, Rs.bind_er, Rs.bind_no, Rs.bind_assoc, noE_ok, List.nil_append, List.cons_append, List.length_cons, List.length_nil, Rs.sat_ok, Rs.sat_er, Rs.sat_no, if_true, if_false, reduceIte, Bool.false_eq_true, decide_true, decide_false, not_true_eq_false, not_false_eq_true, List.map_cons, List.map_nil, List.zip_cons_cons, List.zip_nil_left, List.zip_nil_right, Int.reduceAdd, Int.reduceSub, Int.reduceMul, Int.reduceMod, Int.reduceDiv, Int.reduceEq, Int.reduceNeg, Int.reduceLT, Int.reduceLE, Bool.not_true, Bool.not_false, Option.isSome_some, Option.isSome_none, Bool.and_true, Bool.true_and, Bool.and_false, Bool.false_and, Bool.or_false, Bool.or_true, Bool.false_or, Bool.true_or, reduceCtorEq, ne_eq, true_and, and_true, Int.zero_add, Int.add_zero, Int.sub_zero, m_check_ok, m_is_tick_ok, m_check_contacts_ok])
theorem m_check_gap_ok {g : Int} (h : 0 ≤ g ∧ g ≤ 100000) : m_check_gap g = .ok () := by
  unfold m_check_gap m_is_tick
  rw [Rs.bind_ok, m_check_dec h, Rs.bind_ok]
end
end M
def i_end_of : List S := [.ret (.idx (.var 0) (.cst (.int 3)))]
abbrev G_end_of : List (Str × D) := []
abbrev P_end_of : List Cal := []
abbrev c_end_of : M.Cx := ⟨NM, AT_, P_end_of, G_end_of, True⟩
namespace M
open PySem PySem.Spec L2
noncomputable section
def m_end_of (contact_1 : (Int × Int × Int × Int × Int)) : Rs Int :=
  (Rs.ok contact_1.2.2.2.1)
theorem k_end_of (contact_1 : (Int × Int × Int × Int × Int)) : RK c_end_of D.int i_end_of [Sl.val ((d5 D.int D.int D.int D.int D.int) contact_1)] (m_end_of contact_1) (NN D.int) F0 F0 := by
  unfold m_end_of
  exact rk_retp (a := contact_1.2.2.2.1) trivial (rp_idx (v := (D.int contact_1.2.2.2.1)) (rp_var rfl) rp_cst (by exact fun _ h => h))
end
end M
def fs_end_of : FS := fun ds k x => (∃ (contact_1 : (Int × Int × Int × Int × Int)), ds = [(M.d5 D.int D.int D.int D.int D.int) contact_1] ∧ (M.m_end_of contact_1).sat (fun v => k (D.int v)) x)
def C_end_of : Cal := { nm := "end_of", ar := 1, dfl := [], fs := fs_end_of, lv := 2 }
theorem w_end_of : ∀ ds kd kx, ds.length = 1 → fs_end_of ds kd kx → wpSs NM AT_ P_end_of G_end_of i_end_of (startR 1 ds) { nx := fun _ => kd .non, rt := kd, bk := fun _ => False, ct := fun _ => False, er := fun x _ => kx x } := by
  rintro ds kd kx hl (⟨contact_1, rfl, h⟩)
  · exact M.fin_f (c := c_end_of) (M.k_end_of contact_1) h
namespace M
open PySem PySem.Spec L2
noncomputable section
theorem q_end_of (contact_1 : (Int × Int × Int × Int × Int)) : QF C_end_of D.int [(d5 D.int D.int D.int D.int D.int) contact_1] (m_end_of contact_1) := fun k x h => ⟨contact_1, rfl, h⟩
end
end M
def b_best_by_0 : List S := .asg (.nm 2) (.var 5) :: [.asg (.nm 3) (.var 6)]
def i_best_by_2 : List S := .for_ (.tp [.nm 4, .nm 5, .nm 6]) (.exl 0) [.ite (.cmp .le (.var 4) (.var 1)) b_best_by_0 []] :: [.ret (.tup [.var 2, .var 3])]
def i_best_by_1 : List S := .asg (.nm 3) (.tup []) :: i_best_by_2
def i_best_by : List S := .asg (.nm 2) (.cst (.int 0)) :: i_best_by_1
abbrev G_best_by : List (Str × D) := []
abbrev P_best_by : List Cal := []
abbrev c_best_by : M.Cx := ⟨NM, AT_, P_best_by, G_best_by, True⟩
namespace M
open PySem PySem.Spec L2
noncomputable section
def m_best_by_L1 (tick_2 : Int) (p_10 : (Int × Int × (List (Int × Int × Int × Int × Int)))) (weight_3 : Int) (choice_4 : (List (Int × Int × Int × Int × Int))) (nx_8 : ((Int × (List (Int × Int × Int × Int × Int))) → Rs (Int × (List (Int × Int × Int × Int × Int))))) (bk_9 : ((Int × (List (Int × Int × Int × Int × Int))) → Rs (Int × (List (Int × Int × Int × Int × Int))))) : Rs (Int × (List (Int × Int × Int × Int × Int))) :=
  (cnd (p_10.1 ≤ tick_2) (nx_8 (p_10.2.1, p_10.2.2)) (nx_8 (weight_3, choice_4)))
def m_best_by (table_1 : (List (Int × Int × (List (Int × Int × Int × Int × Int))))) (tick_2 : Int) : Rs (Int × (List (Int × Int × Int × Int × Int))) :=
  (forC (fun a s nx bk => m_best_by_L1 tick_2 a s.1 s.2 nx bk) (fun (s : (Int × (List (Int × Int × Int × Int × Int)))) => (Rs.ok (s.1, s.2))) table_1 (((0:Int), ([] : (List (Int × Int × Int × Int × Int)))) : (Int × (List (Int × Int × Int × Int × Int)))))
theorem k_best_by (table_1 : (List (Int × Int × (List (Int × Int × Int × Int × Int))))) (tick_2 : Int) : RK c_best_by (d2 D.int (dV (d5 D.int D.int D.int D.int D.int))) i_best_by [Sl.lok ((dL (d3 D.int D.int (dV (d5 D.int D.int D.int D.int D.int)))) table_1), Sl.val (D.int tick_2), Sl.un, Sl.un, Sl.un, Sl.un, Sl.un] (m_best_by table_1 tick_2) (NN (d2 D.int (dV (d5 D.int D.int D.int D.int D.int)))) F0 F0 := by
  unfold m_best_by
  refine rk_asgp (ρ' := [Sl.lok ((dL (d3 D.int D.int (dV (d5 D.int D.int D.int D.int D.int)))) table_1), Sl.val (D.int tick_2), Sl.val (D.int (0:Int)), Sl.un, Sl.un, Sl.un, Sl.un]) rp_cst rfl ?_
  refine rk_asgp (ρ' := [Sl.lok ((dL (d3 D.int D.int (dV (d5 D.int D.int D.int D.int D.int)))) table_1), Sl.val (D.int tick_2), Sl.val (D.int (0:Int)), Sl.val (D.tup []), Sl.un, Sl.un, Sl.un]) (rp_tup rps_nil) rfl ?_
  refine rk_for (σ := (Int × (List (Int × Int × Int × Int × Int)))) (J := (Sl × Sl × Sl)) (m := (d3 D.int D.int (dV (d5 D.int D.int D.int D.int D.int)))) (l := table_1) (fun (s : (Int × (List (Int × Int × Int × Int × Int)))) (j : (Sl × Sl × Sl)) => [Sl.lok ((dL (d3 D.int D.int (dV (d5 D.int D.int D.int D.int D.int)))) table_1), Sl.val (D.int tick_2), Sl.val (D.int s.1), Sl.val ((dV (d5 D.int D.int D.int D.int D.int)) s.2), j.1, j.2.1, j.2.2]) (fun a s nx bk => m_best_by_L1 tick_2 a s.1 s.2 nx bk) (k := (fun (s : (Int × (List (Int × Int × Int × Int × Int)))) => (Rs.ok (s.1, s.2)))) (s0 := (((0:Int), ([] : (List (Int × Int × Int × Int × Int)))) : (Int × (List (Int × Int × Int × Int × Int))))) (j0 := ((Sl.un, Sl.un, Sl.un))) (ri_exl rfl (.inl rfl)) rfl ?_ ?_
  · rintro p_10 ⟨weight_3, choice_4⟩ ⟨z_5, z_6, z_7⟩ nx_8 bk_9
    refine ⟨_, rfl, ?_⟩
    show RK _ _ _ [Sl.lok ((dL (d3 D.int D.int (dV (d5 D.int D.int D.int D.int D.int)))) table_1), Sl.val (D.int tick_2), Sl.val (D.int weight_3), Sl.val ((dV (d5 D.int D.int D.int D.int D.int)) choice_4), Sl.val (D.int p_10.1), Sl.val (D.int p_10.2.1), Sl.val ((dV (d5 D.int D.int D.int D.int D.int)) p_10.2.2)] (m_best_by_L1 tick_2 p_10 weight_3 choice_4 nx_8 bk_9) _ _ _
    unfold m_best_by_L1
    refine rk_ifu (ru_cmp (rp_var rfl) (rp_var rfl) (fun _ h => h)) (fun _ => ?_) (fun _ => ?_)
    · refine rk_asgp (ρ' := [Sl.lok ((dL (d3 D.int D.int (dV (d5 D.int D.int D.int D.int D.int)))) table_1), Sl.val (D.int tick_2), Sl.val (D.int p_10.2.1), Sl.val ((dV (d5 D.int D.int D.int D.int D.int)) choice_4), Sl.val (D.int p_10.1), Sl.val (D.int p_10.2.1), Sl.val ((dV (d5 D.int D.int D.int D.int D.int)) p_10.2.2)]) (rp_var rfl) rfl ?_
      refine rk_asgp (ρ' := [Sl.lok ((dL (d3 D.int D.int (dV (d5 D.int D.int D.int D.int D.int)))) table_1), Sl.val (D.int tick_2), Sl.val (D.int p_10.2.1), Sl.val ((dV (d5 D.int D.int D.int D.int D.int)) p_10.2.2), Sl.val (D.int p_10.1), Sl.val (D.int p_10.2.1), Sl.val ((dV (d5 D.int D.int D.int D.int D.int)) p_10.2.2)]) (rp_var rfl) rfl ?_
      refine rk_nil ?_
      exact rk_nil (nx_i (p_10.2.1, p_10.2.2) ((Sl.val (D.int p_10.1), Sl.val (D.int p_10.2.1), Sl.val ((dV (d5 D.int D.int D.int D.int D.int)) p_10.2.2))))
    · refine rk_nil ?_
      exact rk_nil (nx_i (weight_3, choice_4) ((Sl.val (D.int p_10.1), Sl.val (D.int p_10.2.1), Sl.val ((dV (d5 D.int D.int D.int D.int D.int)) p_10.2.2))))
  · rintro ⟨weight_11, choice_12⟩ ⟨z_13, z_14, z_15⟩
    show RK _ _ _ [Sl.lok ((dL (d3 D.int D.int (dV (d5 D.int D.int D.int D.int D.int)))) table_1), Sl.val (D.int tick_2), Sl.val (D.int weight_11), Sl.val ((dV (d5 D.int D.int D.int D.int D.int)) choice_12), z_13, z_14, z_15] ((Rs.ok (weight_11, choice_12))) _ _ _
    exact rk_retp (a := (weight_11, choice_12)) trivial (rp_tup (rps_cons (rp_var rfl) (rps_cons (rp_var rfl) rps_nil)))
end
end M
def fs_best_by : FS := fun ds k x => (∃ (table_1 : (List (Int × Int × (List (Int × Int × Int × Int × Int))))) (tick_2 : Int), ds = [(M.dL (M.d3 D.int D.int (M.dV (M.d5 D.int D.int D.int D.int D.int)))) table_1, D.int tick_2] ∧ (M.m_best_by table_1 tick_2).sat (fun v => k ((M.d2 D.int (M.dV (M.d5 D.int D.int D.int D.int D.int))) v)) x)
def C_best_by : Cal := { nm := "best_by", ar := 2, dfl := [], fs := fs_best_by, bw := [true, false] }
theorem w_best_by : ∀ ds kd kx, ds.length = 2 → fs_best_by ds kd kx → wpSs NM AT_ P_best_by G_best_by i_best_by (startB 7 [true, false] ds) { nx := fun _ => kd .non, rt := kd, bk := fun _ => False, ct := fun _ => False, er := fun x _ => kx x } := by
  rintro ds kd kx hl (⟨table_1, tick_2, rfl, h⟩)
  · exact M.fin_f (c := c_best_by) (M.k_best_by table_1 tick_2) h
namespace M
open PySem PySem.Spec L2
noncomputable section
theorem q_best_by (table_1 : (List (Int × Int × (List (Int × Int × Int × Int × Int))))) (tick_2 : Int) : QF C_best_by (d2 D.int (dV (d5 D.int D.int D.int D.int D.int))) [(dL (d3 D.int D.int (dV (d5 D.int D.int D.int D.int D.int)))) table_1, D.int tick_2] (m_best_by table_1 tick_2) := fun k x h => ⟨table_1, tick_2, rfl, h⟩
local macro_rules | `(tactic| fail "rs7") => `(tactic| try simp (config := {decide := true, dsimp := false, implicitDefEqProofs := false}) only [mulR_ok, divR_ok, modR_ok, isqrtR_ok, rngR1_0, rngR1_1, rngR1_2, rngR1_3, rngR1_4, rngR1_5, rngR1_6, rngR_16, rngR_13, idxR_0, idxR_1, idxR_2, idxR_3, idxR_4, idxR_5, idxR_m1_1, idxR_m1_2, idxR_m1_3, idxR_last, pushR_ok, catR_ok, forC_nil, forC_cons, mapR_nil, mapR_cons, unO_some, mtO_none, mtO_some, minR_1, minR_2, minR_3, minR_4, maxR_1, maxR_2, maxR_3, maxR_4, andR_okk, orR_okk, andR_dec, orR_dec, andR_ok, orR_ok, iteR_not, iteR_nbl, cnd_t, cnd_f, iteR_ok, iteR_bl, decide_eq_true_eq, Rs.bind_ok, Rs.bind_er, Rs.bind_no, Rs.bind_assoc, noE_ok, List.nil_append, List.cons_append, List.length_cons, List.length_nil, Rs.sat_ok, Rs.sat_er, Rs.sat_no, if_true, if_false, reduceIte, Bool.false_eq_true, decide_true, decide_false, not_true_eq_false, not_false_eq_true, List.map_cons, List.map_nil, List.zip_cons_cons, List.zip_nil_left, List.zip_nil_right, Int.reduceAdd, Int.reduceSub, Int.reduceMul, Int.reduceMod, Int.reduceDiv, Int.reduceEq, Int.reduceNeg, Int.reduceLT, Int.reduceLE, Bool.not_true, Bool.not_false, Option.isSome_some, Option.isSome_none, Bool.and_true, Bool.true_and, Bool.and_false, Bool.false_and, Bool.or_false, Bool.or_true, Bool.false_or, Bool.true_or, reduceCtorEq, ne_eq, true_and, and_true, Int.zero_add, Int.add_zero, Int.sub_zero, m_check_ok, m_is_tick_ok, m_check_contacts_ok, m_check_gap_ok])
theorem m_best_by_ok {t : Tb} {k : Int} : m_best_by t k = .ok (bestBy t k) := by
  unfold m_best_by bestBy
  rw [forC_go (fun p s => if p.1 ≤ k then (p.2.1, p.2.2) else s) (fun _ _ => True) (fun p r s nx bk _ => by
    refine ⟨?_, trivial⟩
    unfold m_best_by_L1
    by_cases z : p.1 ≤ k
    · rw [cnd_pos z, if_pos z]
    · rw [cnd_neg z, if_neg z]) trivial]
end
end M
def i_ready : List S := [.ret (.bin .add (.bin .add (.idx (.var 0) (.cst (.int 3))) (.cst (.int 1))) (.var 1))]
abbrev G_ready : List (Str × D) := []
abbrev P_ready : List Cal := []
abbrev c_ready : M.Cx := ⟨NM, AT_, P_ready, G_ready, True⟩
namespace M
open PySem PySem.Spec L2
noncomputable section
def m_ready (contact_1 : (Int × Int × Int × Int × Int)) (gap_2 : Int) : Rs Int :=
  (Rs.ok ((contact_1.2.2.2.1 + (1:Int)) + gap_2))
theorem k_ready (contact_1 : (Int × Int × Int × Int × Int)) (gap_2 : Int) : RK c_ready D.int i_ready [Sl.val ((d5 D.int D.int D.int D.int D.int) contact_1), Sl.val (D.int gap_2)] (m_ready contact_1 gap_2) (NN D.int) F0 F0 := by
  unfold m_ready
  exact rk_retp (a := ((contact_1.2.2.2.1 + (1:Int)) + gap_2)) trivial (rp_add (rp_add (rp_idx (v := (D.int contact_1.2.2.2.1)) (rp_var rfl) rp_cst (by exact fun _ h => h)) rp_cst) (rp_var rfl))
end
end M
def fs_ready : FS := fun ds k x => (∃ (contact_1 : (Int × Int × Int × Int × Int)) (gap_2 : Int), ds = [(M.d5 D.int D.int D.int D.int D.int) contact_1, D.int gap_2] ∧ (M.m_ready contact_1 gap_2).sat (fun v => k (D.int v)) x)
def C_ready : Cal := { nm := "ready", ar := 2, dfl := [], fs := fs_ready }
theorem w_ready : ∀ ds kd kx, ds.length = 2 → fs_ready ds kd kx → wpSs NM AT_ P_ready G_ready i_ready (startR 2 ds) { nx := fun _ => kd .non, rt := kd, bk := fun _ => False, ct := fun _ => False, er := fun x _ => kx x } := by
  rintro ds kd kx hl (⟨contact_1, gap_2, rfl, h⟩)
  · exact M.fin_f (c := c_ready) (M.k_ready contact_1 gap_2) h
namespace M
open PySem PySem.Spec L2
noncomputable section
theorem q_ready (contact_1 : (Int × Int × Int × Int × Int)) (gap_2 : Int) : QF C_ready D.int [(d5 D.int D.int D.int D.int D.int) contact_1, D.int gap_2] (m_ready contact_1 gap_2) := fun k x h => ⟨contact_1, gap_2, rfl, h⟩
local macro_rules | `(tactic| fail "rs8") => `(tactic| try simp (config := {decide := true, dsimp := false, implicitDefEqProofs := false}) only [mulR_ok, divR_ok, modR_ok, isqrtR_ok, rngR1_0, rngR1_1, rngR1_2, rngR1_3, rngR1_4, rngR1_5, rngR1_6, rngR_16, rngR_13, idxR_0, idxR_1, idxR_2, idxR_3, idxR_4, idxR_5, idxR_m1_1, idxR_m1_2, idxR_m1_3, idxR_last, pushR_ok, catR_ok, forC_nil, forC_cons, mapR_nil, mapR_cons, unO_some, mtO_none, mtO_some, minR_1, minR_2, minR_3, minR_4, maxR_1, maxR_2, maxR_3, maxR_4, andR_okk, orR_okk, andR_dec, orR_dec, andR_ok, orR_ok, iteR_not, iteR_nbl, cnd_t, cnd_f, iteR_ok, iteR_bl, decide_eq_true_eq, Rs.bind_ok, Rs.bind_er, Rs.bind_no, Rs.bind_assoc, noE_ok, List.nil_append, List.cons_append, List.length_cons, List.length_nil, Rs.sat_ok, Rs.sat_er, Rs.sat_no, if_true, if_false, reduceIte, Bool.false_eq_true, decide_true, decide_false, not_true_eq_false, not_false_eq_true, List.map_cons, List.map_nil, List.zip_cons_cons, List.zip_nil_left, List.zip_nil_right, Int.reduceAdd, Int.reduceSub, Int.reduceMul, Int.reduceMod, Int.reduceDiv, Int.reduceEq, Int.reduceNeg, Int.reduceLT, Int.reduceLE, Bool.not_true, Bool.not_false, Option.isSome_some, Option.isSome_none, Bool.and_true, Bool.true_and, Bool.and_false, Bool.false_and, Bool.or_false, Bool.or_true, Bool.false_or, Bool.true_or, reduceCtorEq, ne_eq, true_and, and_true, Int.zero_add, Int.add_zero, Int.sub_zero, m_check_ok, m_is_tick_ok, m_check_contacts_ok, m_check_gap_ok, m_best_by_ok])
theorem m_ready_ok {c : Ct} {g : Int} : m_ready c g = .ok (rdy g c) := rfl
end
end M
def b_plan_table_0_1 : List S := .asg (.nm 4) (.bin .add (.var 4) (.idx (.var 3) (.cst (.int 4)))) :: [.ite (.cmp .gt (.var 4) (.ife (.val (.brw 2)) (.idx (.idx (.brw 2) (.neg (.cst (.int 1)))) (.cst (.int 1))) (.cst (.int 0)))) [.app 2 (.tup [.call 2 [.var 3, .var 1], .var 4, .bin .add (.var 5) (.tup [.var 3])])] []]
def b_plan_table_0 : List S := .asg (.tp [.nm 4, .nm 5]) (.bcall 1 [.brw 2, .idx (.var 3) (.cst (.int 2))]) :: b_plan_table_0_1
def i_plan_table_2 : List S := .frz 2 :: [.ret (.var 2)]
def i_plan_table_1 : List S := .for_ (.nm 3) (.ex (.srt false 0 (.var 0))) b_plan_table_0 :: i_plan_table_2
def i_plan_table : List S := .new 2 (.lst []) :: i_plan_table_1
abbrev G_plan_table : List (Str × D) := []
abbrev P_plan_table : List Cal := [C_end_of, C_best_by, C_ready]
abbrev c_plan_table : M.Cx := ⟨NM, AT_, P_plan_table, G_plan_table, True⟩
namespace M
open PySem PySem.Spec L2
noncomputable section
def m_plan_table_L1 (gap_2 : Int) (contact_11 : (Int × Int × Int × Int × Int)) (table_5 : (List (Int × Int × (List (Int × Int × Int × Int × Int))))) (nx_9 : ((List (Int × Int × (List (Int × Int × Int × Int × Int)))) → Rs (List (Int × Int × (List (Int × Int × Int × Int × Int)))))) (bk_10 : ((List (Int × Int × (List (Int × Int × Int × Int × Int)))) → Rs (List (Int × Int × (List (Int × Int × Int × Int × Int)))))) : Rs (List (Int × Int × (List (Int × Int × Int × Int × Int)))) :=
  ((m_best_by table_5 contact_11.2.2.1).bind fun p_12 => ((Rs.ok (p_12.1 + contact_11.2.2.2.2)).bind fun weight_13 => (iteR ((cnd (table_5.isEmpty = false) ((idxR table_5 (-1:Int)).bind fun a_14 => (Rs.ok a_14.2.1)) (Rs.ok (0:Int))).bind fun a_15 => (Rs.ok (decide (a_15 < weight_13)))) (((m_ready contact_11 gap_2).bind fun a_16 => ((catR p_12.2 [contact_11]).bind fun a_17 => (Rs.ok (a_16, weight_13, a_17)))).bind fun a_19 => (pushR table_5 a_19).bind fun table_18 => (nx_9 table_18)) (nx_9 table_5))))
def m_plan_table_K1 (table_20 : (List (Int × Int × (List (Int × Int × Int × Int × Int))))) : Rs (List (Int × Int × (List (Int × Int × Int × Int × Int)))) :=
  (Rs.ok table_20)
def m_plan_table (contacts_1 : (List (Int × Int × Int × Int × Int))) (gap_2 : Int) : Rs (List (Int × Int × (List (Int × Int × Int × Int × Int)))) :=
  (((mapR (fun (k_3 : (Int × Int × Int × Int × Int)) => m_end_of k_3) contacts_1).bind fun ks_4 => Rs.ok (sortK leI ks_4 contacts_1)).bind fun l_24 => forC (fun a s nx bk => m_plan_table_L1 gap_2 a s nx bk) (fun (s : (List (Int × Int × (List (Int × Int × Int × Int × Int))))) => m_plan_table_K1 s) l_24 ([] : (List (Int × Int × (List (Int × Int × Int × Int × Int))))))
theorem k_plan_table (contacts_1 : (List (Int × Int × Int × Int × Int))) (gap_2 : Int) : RK c_plan_table (dL (d3 D.int D.int (dV (d5 D.int D.int D.int D.int D.int)))) i_plan_table [Sl.val ((dL (d5 D.int D.int D.int D.int D.int)) contacts_1), Sl.val (D.int gap_2), Sl.un, Sl.un, Sl.un, Sl.un] (m_plan_table contacts_1 gap_2) (NN (dL (d3 D.int D.int (dV (d5 D.int D.int D.int D.int D.int))))) F0 F0 := by
  unfold m_plan_table
  refine rk_newp (ρ' := [Sl.val ((dL (d5 D.int D.int D.int D.int D.int)) contacts_1), Sl.val (D.int gap_2), Sl.own [], Sl.un, Sl.un, Sl.un]) (rp_lst rps_nil) rfl ?_
  refine rk_fore (σ := (List (Int × Int × (List (Int × Int × Int × Int × Int))))) (J := (Sl × Sl × Sl)) (m := (d5 D.int D.int D.int D.int D.int)) (fun (s : (List (Int × Int × (List (Int × Int × Int × Int × Int))))) (j : (Sl × Sl × Sl)) => [Sl.val ((dL (d5 D.int D.int D.int D.int D.int)) contacts_1), Sl.val (D.int gap_2), Sl.own (s.map (d3 D.int D.int (dV (d5 D.int D.int D.int D.int D.int)))), j.1, j.2.1, j.2.2]) (fun a s nx bk => m_plan_table_L1 gap_2 a s nx bk) (k := (fun (s : (List (Int × Int × (List (Int × Int × Int × Int × Int))))) => m_plan_table_K1 s)) (s0 := ([] : (List (Int × Int × (List (Int × Int × Int × Int × Int)))))) (j0 := ((Sl.un, Sl.un, Sl.un))) (rie_lst (n := (d5 D.int D.int D.int D.int D.int)) (re_srtI (cal := C_end_of) (n := (d5 D.int D.int D.int D.int D.int)) (f := (fun (k_3 : (Int × Int × Int × Int × Int)) => m_end_of k_3)) rfl rfl (fun k_3 => q_end_of k_3) (rp_var rfl))) rfl ?_ ?_
  · rintro contact_11 table_5 ⟨z_6, z_7, z_8⟩ nx_9 bk_10
    refine ⟨_, rfl, ?_⟩
    show RK _ _ _ [Sl.val ((dL (d5 D.int D.int D.int D.int D.int)) contacts_1), Sl.val (D.int gap_2), Sl.own (table_5.map (d3 D.int D.int (dV (d5 D.int D.int D.int D.int D.int)))), Sl.val ((d5 D.int D.int D.int D.int D.int) contact_11), z_7, z_8] (m_plan_table_L1 gap_2 contact_11 table_5 nx_9 bk_10) _ _ _
    unfold m_plan_table_L1
    refine rk_tgt (g := fun p_12 => [Sl.val ((dL (d5 D.int D.int D.int D.int D.int)) contacts_1), Sl.val (D.int gap_2), Sl.own (table_5.map (d3 D.int D.int (dV (d5 D.int D.int D.int D.int D.int)))), Sl.val ((d5 D.int D.int D.int D.int D.int) contact_11), Sl.val (D.int p_12.1), Sl.val ((dV (d5 D.int D.int D.int D.int D.int)) p_12.2)]) (re_bcall (cal := C_best_by) (n := (d2 D.int (dV (d5 D.int D.int D.int D.int D.int)))) rfl (rx_p (rp_brwo rfl) (rx_p (rp_idx (v := (D.int contact_11.2.2.1)) (rp_var rfl) rp_cst (by exact fun _ h => h)) (rx_nil (q_best_by table_5 contact_11.2.2.1))))) (fun _ => rfl) (fun p_12 => ?_)
    refine rk_asg (g := fun weight_13 => [Sl.val ((dL (d5 D.int D.int D.int D.int D.int)) contacts_1), Sl.val (D.int gap_2), Sl.own (table_5.map (d3 D.int D.int (dV (d5 D.int D.int D.int D.int D.int)))), Sl.val ((d5 D.int D.int D.int D.int D.int) contact_11), Sl.val (D.int weight_13), Sl.val ((dV (d5 D.int D.int D.int D.int D.int)) p_12.2)]) (re_p (n := D.int) (a := (p_12.1 + contact_11.2.2.2.2)) (rp_add (rp_var rfl) (rp_idx (v := (D.int contact_11.2.2.2.2)) (rp_var rfl) rp_cst (by exact fun _ h => h)))) (fun _ => rfl) (fun weight_13 => ?_)
    refine rk_ite (rt_cmp (rx_p (rp_var rfl) (rx_e (n := D.int) (re_ifu (n := D.int) (ru_lst (n := (d3 D.int D.int (dV (d5 D.int D.int D.int D.int D.int)))) (rp_brwo rfl)) (re_idx (n := D.int) (rx_e (n := (d3 D.int D.int (dV (d5 D.int D.int D.int D.int D.int)))) (re_idx (n := (d3 D.int D.int (dV (d5 D.int D.int D.int D.int D.int)))) (rx_p (rp_brwo rfl) (rx_p (rp_neg rp_cst) (rx_nil (qi_lst (n := (d3 D.int D.int (dV (d5 D.int D.int D.int D.int D.int)))) (l := table_5)))))) (fun a_14 => (rx_p rp_cst (rx_nil (fun _ _ h => h)))))) (re_p (n := D.int) (a := (0:Int)) rp_cst)) (fun a_15 => (rx_nil (qc (fun _ h => h))))))) ?_ ?_
    · refine rk_app (m := (d3 D.int D.int (dV (d5 D.int D.int D.int D.int D.int)))) (l := table_5) (g := fun table_18 => [Sl.val ((dL (d5 D.int D.int D.int D.int D.int)) contacts_1), Sl.val (D.int gap_2), Sl.own (table_18.map (d3 D.int D.int (dV (d5 D.int D.int D.int D.int D.int)))), Sl.val ((d5 D.int D.int D.int D.int D.int) contact_11), Sl.val (D.int weight_13), Sl.val ((dV (d5 D.int D.int D.int D.int D.int)) p_12.2)]) rfl (re_tup (n := (d3 D.int D.int (dV (d5 D.int D.int D.int D.int D.int)))) (rx_e (n := D.int) (re_call (cal := C_ready) (n := D.int) rfl (rx_p (rp_var rfl) (rx_p (rp_var rfl) (rx_nil (q_ready contact_11 gap_2))))) (fun a_16 => (rx_p (rp_var rfl) (rx_e (n := (dV (d5 D.int D.int D.int D.int D.int))) (re_bin (n := (dV (d5 D.int D.int D.int D.int D.int))) (rx_p (rp_var rfl) (rx_p (rp_tup (rps_cons (rp_var rfl) rps_nil)) (rx_nil (qb_catv (n := (d5 D.int D.int D.int D.int D.int)) (x := p_12.2) (y := [contact_11])))))) (fun a_17 => (rx_nil ⟨_, rfl, rfl⟩))))))) (fun _ => rfl) (fun table_18 => ?_)
      refine rk_nil ?_
      exact rk_nil (nx_i table_18 ((Sl.val ((d5 D.int D.int D.int D.int D.int) contact_11), Sl.val (D.int weight_13), Sl.val ((dV (d5 D.int D.int D.int D.int D.int)) p_12.2))))
    · refine rk_nil ?_
      exact rk_nil (nx_i table_5 ((Sl.val ((d5 D.int D.int D.int D.int D.int) contact_11), Sl.val (D.int weight_13), Sl.val ((dV (d5 D.int D.int D.int D.int D.int)) p_12.2))))
  · rintro table_20 ⟨z_21, z_22, z_23⟩
    show RK _ _ _ [Sl.val ((dL (d5 D.int D.int D.int D.int D.int)) contacts_1), Sl.val (D.int gap_2), Sl.own (table_20.map (d3 D.int D.int (dV (d5 D.int D.int D.int D.int D.int)))), z_21, z_22, z_23] (m_plan_table_K1 table_20) _ _ _
    unfold m_plan_table_K1
    refine rk_frz (ρ' := [Sl.val ((dL (d5 D.int D.int D.int D.int D.int)) contacts_1), Sl.val (D.int gap_2), Sl.val ((dL (d3 D.int D.int (dV (d5 D.int D.int D.int D.int D.int)))) table_20), z_21, z_22, z_23]) rfl rfl ?_
    exact rk_retp (a := table_20) trivial (rp_var rfl)
end
end M
def fs_plan_table : FS := fun ds k x => (∃ (contacts_1 : (List (Int × Int × Int × Int × Int))) (gap_2 : Int), ds = [(M.dL (M.d5 D.int D.int D.int D.int D.int)) contacts_1, D.int gap_2] ∧ (M.m_plan_table contacts_1 gap_2).sat (fun v => k ((M.dL (M.d3 D.int D.int (M.dV (M.d5 D.int D.int D.int D.int D.int)))) v)) x)
def C_plan_table : Cal := { nm := "plan_table", ar := 2, dfl := [], fs := fs_plan_table }
theorem w_plan_table : ∀ ds kd kx, ds.length = 2 → fs_plan_table ds kd kx → wpSs NM AT_ P_plan_table G_plan_table i_plan_table (startR 6 ds) { nx := fun _ => kd .non, rt := kd, bk := fun _ => False, ct := fun _ => False, er := fun x _ => kx x } := by
  rintro ds kd kx hl (⟨contacts_1, gap_2, rfl, h⟩)
  · exact M.fin_f (c := c_plan_table) (M.k_plan_table contacts_1 gap_2) h
namespace M
open PySem PySem.Spec L2
noncomputable section
theorem q_plan_table (contacts_1 : (List (Int × Int × Int × Int × Int))) (gap_2 : Int) : QF C_plan_table (dL (d3 D.int D.int (dV (d5 D.int D.int D.int D.int D.int)))) [(dL (d5 D.int D.int D.int D.int D.int)) contacts_1, D.int gap_2] (m_plan_table contacts_1 gap_2) := fun k x h => ⟨contacts_1, gap_2, rfl, h⟩
local macro_rules | `(tactic| fail "rs9") => `(tactic| try simp (config := {decide := true, dsimp := false, implicitDefEqProofs := false}) only [mulR_ok, divR_ok, modR_ok, isqrtR_ok, rngR1_0, rngR1_1, rngR1_2, rngR1_3, rngR1_4, rngR1_5, rngR1_6, rngR_16, rngR_13, idxR_0, idxR_1, idxR_2, idxR_3, idxR_4, idxR_5, idxR_m1_1, idxR_m1_2, idxR_m1_3, idxR_last, pushR_ok, catR_ok, forC_nil, forC_cons, mapR_nil, mapR_cons, unO_some, mtO_none, mtO_some, minR_1, minR_2, minR_3, minR_4, maxR_1, maxR_2, maxR_3, maxR_4, andR_okk, orR_okk, andR_dec, orR_dec, andR_ok, orR_ok, iteR_not, iteR_nbl, cnd_t, cnd_f, iteR_ok, iteR_bl, decide_eq_true_eq, Rs.bind_ok, Rs.bind_er, Rs.bind_no, Rs.bind_assoc, noE_ok, List.nil_append, List.cons_append, List.length_cons, List.length_nil, Rs.sat_ok, Rs.sat_er, Rs.sat_no, if_true, if_false, reduceIte, Bool.false_eq_true, decide_true, decide_false, not_true_eq_false, not_false_eq_true, List.map_cons, List.map_nil, List.zip_cons_cons, List.zip_nil_left, List.zip_nil_right, Int.reduceAdd, Int.reduceSub, Int.reduceMul, Int.reduceMod, Int.reduceDiv, Int.reduceEq, Int.reduceNeg, Int.reduceLT, Int.reduceLE, Bool.not_true, Bool.not_false, Option.isSome_some, Option.isSome_none, Bool.and_true, Bool.true_and, Bool.and_false, Bool.false_and, Bool.or_false, Bool.or_true, Bool.false_or, Bool.true_or, reduceCtorEq, ne_eq, true_and, and_true, Int.zero_add, Int.add_zero, Int.sub_zero, m_check_ok, m_is_tick_ok, m_check_contacts_ok, m_check_gap_ok, m_best_by_ok, m_ready_ok])
theorem tb_idx {t : Tb} (h : t ≠ []) : ∃ p, idxR t (-1) = .ok p ∧ p.2.1 = lastW t ∧ p.2.2 = chosen t := by
  rcases tb_split t with rfl | ⟨s, p, rfl⟩
  · exact absurd rfl h
  · exact ⟨p, idxR_last, lastW_snoc.symm, chosen_snoc.symm⟩
theorem m_plan_table_go {g : Int} {nx : Tb → Rs Tb} : ∀ {l : List Ct} {t : Tb} {n : Nat}, t.length ≤ n → (∀ p ∈ t, p.2.2.length ≤ n) → n + l.length ≤ 10000000 →
    forC (fun a s nx bk => m_plan_table_L1 g a s nx bk) nx l t = nx (l.foldl (tbStep g) t)
  | [], t, n, _, _, _ => rfl
  | c :: l, t, n, h1, h2, hl => by
    rw [List.length_cons] at hl
    have hb : (bestBy t c.2.2.1).2.length ≤ n := by
      rcases bestBy_mem (t := t) (k := c.2.2.1) with e | ⟨p, hp, _, e⟩
      · rw [e]; exact Nat.zero_le _
      · rw [e]; exact h2 p hp
    have st := tb_len (g := g) (l := [c]) h1 h2
    rw [List.foldl_cons, List.foldl_nil] at st
    rw [forC_cons, List.foldl_cons, m_plan_table_L1, m_best_by_ok, Rs.bind_ok, Rs.bind_ok]
    have lw : (cnd (t.isEmpty = false) ((idxR t (-1)).bind fun a_14 => (Rs.ok a_14.2.1)) (Rs.ok 0) : Rs Int) = .ok (lastW t) := by
      by_cases z : t = []
      · subst z; rfl
      · obtain ⟨p, e1, e2, _⟩ := tb_idx z
        rw [cnd_pos (by cases t with | nil => exact absurd rfl z | cons a b => rfl), e1, Rs.bind_ok, e2]
    rw [lw, Rs.bind_ok]
    unfold m_ready
    rw [Rs.bind_ok, catR_ok (by simp only [List.length_cons, List.length_nil]; omega), Rs.bind_ok, Rs.bind_ok]
    rw [pushR_ok (by omega), Rs.bind_ok, iteR_ok]
    have go := fun t' h1 h2 => m_plan_table_go (g := g) (nx := nx) (l := l) (t := t') (n := n + 1) h1 h2 (by omega)
    have st1 := go (tbStep g t c) st.1 st.2
    unfold tbStep at st1 ⊢
    by_cases z : lastW t < (bestBy t c.2.2.1).1 + c.2.2.2.2
    · rw [cnd_pos z]
      rw [if_pos z] at st1 ⊢
      exact st1
    · rw [cnd_neg z]
      rw [if_neg z] at st1 ⊢
      exact st1
theorem m_plan_table_ok {g : Int} {l : List Ct} (h : l.length ≤ 10000000) : m_plan_table l g = .ok (tbl g l) := by
  unfold m_plan_table m_end_of
  rw [mapR_ok (f := fun (c : Ct) => Rs.ok c.2.2.2.1) (g := fun (c : Ct) => c.2.2.2.1) (fun c _ => rfl), Rs.bind_ok, Rs.bind_ok, m_plan_table_go (n := 0) (Nat.le_refl _) (fun p hp => by cases hp) (by rw [sortK_perm (List.length_map _) |>.length_eq]; omega)]
  rfl
end
end M
def b_best_choice_0 : List S := .app 3 (.tup [.var 5, .bin .sub (.var 6) (.var 4)]) :: [.asg (.nm 4) (.var 6)]
def i_best_choice_5 : List S := .frz 3 :: [.ret (.tup [.blt .list [.idx (.idx (.var 2) (.neg (.cst (.int 1)))) (.cst (.int 2))], .var 4, .var 3])]
def i_best_choice_4 : List S := .ite (.not (.val (.var 2))) [.ret (.tup [.lst [], .cst (.int 0), .lst []])] [] :: i_best_choice_5
def i_best_choice_3 : List S := .for_ (.tp [.nm 5, .nm 6, .nm 7]) (.ex (.var 2)) b_best_choice_0 :: i_best_choice_4
def i_best_choice_2 : List S := .asg (.nm 4) (.cst (.int 0)) :: i_best_choice_3
def i_best_choice_1 : List S := .new 3 (.lst []) :: i_best_choice_2
def i_best_choice : List S := .asg (.nm 2) (.call 0 [.var 0, .var 1]) :: i_best_choice_1
abbrev G_best_choice : List (Str × D) := []
abbrev P_best_choice : List Cal := [C_plan_table]
abbrev c_best_choice : M.Cx := ⟨NM, AT_, P_best_choice, G_best_choice, True⟩
namespace M
open PySem PySem.Spec L2
noncomputable section
def m_best_choice_L1 (p_11 : (Int × Int × (List (Int × Int × Int × Int × Int)))) (prices_4 : (List Iv)) (before_5 : Int) (nx_9 : (((List Iv) × Int) → Rs ((List (Int × Int × Int × Int × Int)) × Int × (List Iv)))) (bk_10 : (((List Iv) × Int) → Rs ((List (Int × Int × Int × Int × Int)) × Int × (List Iv)))) : Rs ((List (Int × Int × Int × Int × Int)) × Int × (List Iv)) :=
  ((pushR prices_4 (p_11.1, (p_11.2.1 - before_5))).bind fun prices_12 => (nx_9 (prices_12, p_11.2.1)))
def m_best_choice_K1 (table_3 : (List (Int × Int × (List (Int × Int × Int × Int × Int))))) (prices_13 : (List Iv)) (before_14 : Int) : Rs ((List (Int × Int × Int × Int × Int)) × Int × (List Iv)) :=
  (cnd (¬(table_3.isEmpty = false)) (Rs.ok (([] : (List (Int × Int × Int × Int × Int))), (0:Int), ([] : (List Iv)))) ((((idxR table_3 (-1:Int)).bind fun a_18 => (Rs.ok a_18.2.2)).bind fun x => Rs.ok x).bind fun a_19 => (Rs.ok (a_19, before_14, prices_13))))
def m_best_choice (contacts_1 : (List (Int × Int × Int × Int × Int))) (gap_2 : Int) : Rs ((List (Int × Int × Int × Int × Int)) × Int × (List Iv)) :=
  ((m_plan_table contacts_1 gap_2).bind fun table_3 => (forC (fun a s nx bk => m_best_choice_L1 a s.1 s.2 nx bk) (fun (s : ((List Iv) × Int)) => m_best_choice_K1 table_3 s.1 s.2) table_3 ((([] : (List Iv)), (0:Int)) : ((List Iv) × Int))))
theorem k_best_choice (contacts_1 : (List (Int × Int × Int × Int × Int))) (gap_2 : Int) : RK c_best_choice (d3 (dL (d5 D.int D.int D.int D.int D.int)) D.int (dL dIv)) i_best_choice [Sl.val ((dL (d5 D.int D.int D.int D.int D.int)) contacts_1), Sl.val (D.int gap_2), Sl.un, Sl.un, Sl.un, Sl.un, Sl.un, Sl.un] (m_best_choice contacts_1 gap_2) (NN (d3 (dL (d5 D.int D.int D.int D.int D.int)) D.int (dL dIv))) F0 F0 := by
  unfold m_best_choice
  refine rk_asg (g := fun table_3 => [Sl.val ((dL (d5 D.int D.int D.int D.int D.int)) contacts_1), Sl.val (D.int gap_2), Sl.val ((dL (d3 D.int D.int (dV (d5 D.int D.int D.int D.int D.int)))) table_3), Sl.un, Sl.un, Sl.un, Sl.un, Sl.un]) (re_call (cal := C_plan_table) (n := (dL (d3 D.int D.int (dV (d5 D.int D.int D.int D.int D.int))))) rfl (rx_p (rp_var rfl) (rx_p (rp_var rfl) (rx_nil (q_plan_table contacts_1 gap_2))))) (fun _ => rfl) (fun table_3 => ?_)
  refine rk_newp (ρ' := [Sl.val ((dL (d5 D.int D.int D.int D.int D.int)) contacts_1), Sl.val (D.int gap_2), Sl.val ((dL (d3 D.int D.int (dV (d5 D.int D.int D.int D.int D.int)))) table_3), Sl.own [], Sl.un, Sl.un, Sl.un, Sl.un]) (rp_lst rps_nil) rfl ?_
  refine rk_asgp (ρ' := [Sl.val ((dL (d5 D.int D.int D.int D.int D.int)) contacts_1), Sl.val (D.int gap_2), Sl.val ((dL (d3 D.int D.int (dV (d5 D.int D.int D.int D.int D.int)))) table_3), Sl.own [], Sl.val (D.int (0:Int)), Sl.un, Sl.un, Sl.un]) rp_cst rfl ?_
  refine rk_for (σ := ((List Iv) × Int)) (J := (Sl × Sl × Sl)) (m := (d3 D.int D.int (dV (d5 D.int D.int D.int D.int D.int)))) (l := table_3) (fun (s : ((List Iv) × Int)) (j : (Sl × Sl × Sl)) => [Sl.val ((dL (d5 D.int D.int D.int D.int D.int)) contacts_1), Sl.val (D.int gap_2), Sl.val ((dL (d3 D.int D.int (dV (d5 D.int D.int D.int D.int D.int)))) table_3), Sl.own (s.1.map dIv), Sl.val (D.int s.2), j.1, j.2.1, j.2.2]) (fun a s nx bk => m_best_choice_L1 a s.1 s.2 nx bk) (k := (fun (s : ((List Iv) × Int)) => m_best_choice_K1 table_3 s.1 s.2)) (s0 := ((([] : (List Iv)), (0:Int)) : ((List Iv) × Int))) (j0 := ((Sl.un, Sl.un, Sl.un))) (ri_lst (rp_var rfl)) rfl ?_ ?_
  · rintro p_11 ⟨prices_4, before_5⟩ ⟨z_6, z_7, z_8⟩ nx_9 bk_10
    refine ⟨_, rfl, ?_⟩
    show RK _ _ _ [Sl.val ((dL (d5 D.int D.int D.int D.int D.int)) contacts_1), Sl.val (D.int gap_2), Sl.val ((dL (d3 D.int D.int (dV (d5 D.int D.int D.int D.int D.int)))) table_3), Sl.own (prices_4.map dIv), Sl.val (D.int before_5), Sl.val (D.int p_11.1), Sl.val (D.int p_11.2.1), Sl.val ((dV (d5 D.int D.int D.int D.int D.int)) p_11.2.2)] (m_best_choice_L1 p_11 prices_4 before_5 nx_9 bk_10) _ _ _
    unfold m_best_choice_L1
    refine rk_appp (m := dIv) (a := (p_11.1, (p_11.2.1 - before_5))) (l := prices_4) (g := fun prices_12 => [Sl.val ((dL (d5 D.int D.int D.int D.int D.int)) contacts_1), Sl.val (D.int gap_2), Sl.val ((dL (d3 D.int D.int (dV (d5 D.int D.int D.int D.int D.int)))) table_3), Sl.own (prices_12.map dIv), Sl.val (D.int before_5), Sl.val (D.int p_11.1), Sl.val (D.int p_11.2.1), Sl.val ((dV (d5 D.int D.int D.int D.int D.int)) p_11.2.2)]) rfl (rp_tup (rps_cons (rp_var rfl) (rps_cons (rp_sub (rp_var rfl) (rp_var rfl)) rps_nil))) (fun _ => rfl) (fun prices_12 => ?_)
    refine rk_asgp (ρ' := [Sl.val ((dL (d5 D.int D.int D.int D.int D.int)) contacts_1), Sl.val (D.int gap_2), Sl.val ((dL (d3 D.int D.int (dV (d5 D.int D.int D.int D.int D.int)))) table_3), Sl.own (prices_12.map dIv), Sl.val (D.int p_11.2.1), Sl.val (D.int p_11.1), Sl.val (D.int p_11.2.1), Sl.val ((dV (d5 D.int D.int D.int D.int D.int)) p_11.2.2)]) (rp_var rfl) rfl ?_
    exact rk_nil (nx_i (prices_12, p_11.2.1) ((Sl.val (D.int p_11.1), Sl.val (D.int p_11.2.1), Sl.val ((dV (d5 D.int D.int D.int D.int D.int)) p_11.2.2))))
  · rintro ⟨prices_13, before_14⟩ ⟨z_15, z_16, z_17⟩
    show RK _ _ _ [Sl.val ((dL (d5 D.int D.int D.int D.int D.int)) contacts_1), Sl.val (D.int gap_2), Sl.val ((dL (d3 D.int D.int (dV (d5 D.int D.int D.int D.int D.int)))) table_3), Sl.own (prices_13.map dIv), Sl.val (D.int before_14), z_15, z_16, z_17] (m_best_choice_K1 table_3 prices_13 before_14) _ _ _
    unfold m_best_choice_K1
    refine rk_ifu (ru_not (ru_lst (n := (d3 D.int D.int (dV (d5 D.int D.int D.int D.int D.int)))) (rp_var rfl))) (fun _ => ?_) (fun _ => ?_)
    · exact rk_retp (a := (([] : (List (Int × Int × Int × Int × Int))), (0:Int), ([] : (List Iv)))) trivial (rp_tup (rps_cons (rp_lst rps_nil) (rps_cons rp_cst (rps_cons (rp_lst rps_nil) rps_nil))))
    · refine rk_nil ?_
      refine rk_frz (ρ' := [Sl.val ((dL (d5 D.int D.int D.int D.int D.int)) contacts_1), Sl.val (D.int gap_2), Sl.val ((dL (d3 D.int D.int (dV (d5 D.int D.int D.int D.int D.int)))) table_3), Sl.val ((dL dIv) prices_13), Sl.val (D.int before_14), z_15, z_16, z_17]) rfl rfl ?_
      exact rk_ret trivial (re_tup (n := (d3 (dL (d5 D.int D.int D.int D.int D.int)) D.int (dL dIv))) (rx_e (n := (dL (d5 D.int D.int D.int D.int D.int))) (re_blt1 (n := (dV (d5 D.int D.int D.int D.int D.int))) (m := (dL (d5 D.int D.int D.int D.int D.int))) (g := fun x => x) (re_idx (n := (dV (d5 D.int D.int D.int D.int D.int))) (rx_e (n := (d3 D.int D.int (dV (d5 D.int D.int D.int D.int D.int)))) (re_idx (n := (d3 D.int D.int (dV (d5 D.int D.int D.int D.int D.int)))) (rx_p (rp_var rfl) (rx_p (rp_neg rp_cst) (rx_nil (qi_lst (n := (d3 D.int D.int (dV (d5 D.int D.int D.int D.int D.int)))) (l := table_3)))))) (fun a_18 => (rx_p rp_cst (rx_nil (fun _ _ h => h)))))) (fun _ _ h => h)) (fun a_19 => (rx_p (rp_var rfl) (rx_p (rp_var rfl) (rx_nil ⟨_, rfl, rfl⟩))))))
end
end M
def fs_best_choice : FS := fun ds k x => (∃ (contacts_1 : (List (Int × Int × Int × Int × Int))) (gap_2 : Int), ds = [(M.dL (M.d5 D.int D.int D.int D.int D.int)) contacts_1, D.int gap_2] ∧ (M.m_best_choice contacts_1 gap_2).sat (fun v => k ((M.d3 (M.dL (M.d5 D.int D.int D.int D.int D.int)) D.int (M.dL dIv)) v)) x)
def C_best_choice : Cal := { nm := "best_choice", ar := 2, dfl := [], fs := fs_best_choice }
theorem w_best_choice : ∀ ds kd kx, ds.length = 2 → fs_best_choice ds kd kx → wpSs NM AT_ P_best_choice G_best_choice i_best_choice (startR 8 ds) { nx := fun _ => kd .non, rt := kd, bk := fun _ => False, ct := fun _ => False, er := fun x _ => kx x } := by
  rintro ds kd kx hl (⟨contacts_1, gap_2, rfl, h⟩)
  · exact M.fin_f (c := c_best_choice) (M.k_best_choice contacts_1 gap_2) h
namespace M
open PySem PySem.Spec L2
noncomputable section
theorem q_best_choice (contacts_1 : (List (Int × Int × Int × Int × Int))) (gap_2 : Int) : QF C_best_choice (d3 (dL (d5 D.int D.int D.int D.int D.int)) D.int (dL dIv)) [(dL (d5 D.int D.int D.int D.int D.int)) contacts_1, D.int gap_2] (m_best_choice contacts_1 gap_2) := fun k x h => ⟨contacts_1, gap_2, rfl, h⟩
local macro_rules | `(tactic| fail "rs10") => `(tactic| try simp (config := {decide := true, dsimp := false, implicitDefEqProofs := false}) only [mulR_ok, divR_ok, modR_ok, isqrtR_ok, rngR1_0, rngR1_1, rngR1_2, rngR1_3, rngR1_4, rngR1_5, rngR1_6, rngR_16, rngR_13, idxR_0, idxR_1, idxR_2, idxR_3, idxR_4, idxR_5, idxR_m1_1, idxR_m1_2, idxR_m1_3, idxR_last, pushR_ok, catR_ok, forC_nil, forC_cons, mapR_nil, mapR_cons, unO_some, mtO_none, mtO_some, minR_1, minR_2, minR_3, minR_4, maxR_1, maxR_2, maxR_3, maxR_4, andR_okk, orR_okk, andR_dec, orR_dec, andR_ok, orR_ok, iteR_not, iteR_nbl, cnd_t, cnd_f, iteR_ok, iteR_bl, decide_eq_true_eq, Rs.bind_ok, Rs.bind_er, Rs.bind_no, Rs.bind_assoc, noE_ok, List.nil_append, List.cons_append, List.length_cons, List.length_nil, Rs.sat_ok, Rs.sat_er, Rs.sat_no, if_true, if_false, reduceIte, Bool.false_eq_true, decide_true, decide_false, not_true_eq_false, not_false_eq_true, List.map_cons, List.map_nil, List.zip_cons_cons, List.zip_nil_left, List.zip_nil_right, Int.reduceAdd, Int.reduceSub, Int.reduceMul, Int.reduceMod, Int.reduceDiv, Int.reduceEq, Int.reduceNeg, Int.reduceLT, Int.reduceLE, Bool.not_true, Bool.not_false, Option.isSome_some, Option.isSome_none, Bool.and_true, Bool.true_and, Bool.and_false, Bool.false_and, Bool.or_false, Bool.or_true, Bool.false_or, Bool.true_or, reduceCtorEq, ne_eq, true_and, and_true, Int.zero_add, Int.add_zero, Int.sub_zero, m_check_ok, m_is_tick_ok, m_check_contacts_ok, m_check_gap_ok, m_best_by_ok, m_ready_ok, m_plan_table_ok])
theorem m_best_choice_ok {g : Int} {l : List Ct} (h : l.length ≤ 10000000) : m_best_choice l g = .ok (chosen (tbl g l), lastW (tbl g l), prc (tbl g l)) := by
  unfold m_best_choice
  rw [m_plan_table_ok h, Rs.bind_ok]
  have tl := (tb_len (g := g) (l := endS l) (t := []) (n := 0) (Nat.le_refl _) fun p hp => by cases hp).1
  rw [endS_perm.length_eq, Nat.zero_add] at tl
  change (tbl g l).length ≤ _ at tl
  generalize tbl g l = t at *
  have go : ∀ (r : Tb) (s : List Iv × Int) (nx : List Iv × Int → Rs (List Ct × Int × List Iv)), s.1.length + r.length ≤ 10000000 → forC (fun a s nx bk => m_best_choice_L1 a s.1 s.2 nx bk) nx r s = nx (r.foldl (fun (s : List (Int × Int) × Int) p => (s.1 ++ [(p.1, p.2.1 - s.2)], p.2.1)) s) := by
    intro r
    induction r with
    | nil => intro s nx _; rfl
    | cons p r ih =>
      intro s nx hs
      rw [List.length_cons] at hs
      rw [forC_cons, m_best_choice_L1, pushR_ok (by omega), Rs.bind_ok, List.foldl_cons]
      exact ih _ _ (by simp only [List.length_append, List.length_cons, List.length_nil]; omega)
  rw [go t _ _ (by simp only [List.length_nil]; omega), prc_fold]
  unfold m_best_choice_K1
  by_cases z : t = []
  · subst z; rfl
  · obtain ⟨p, e1, _, e3⟩ := tb_idx z
    rw [cnd_neg (by cases t with | nil => exact absurd rfl z | cons a b => exact fun h => h rfl), e1, Rs.bind_ok, Rs.bind_ok, Rs.bind_ok, e3]
end
end M
def i_plan_1 : List S := .exp (.call 1 [.var 1]) :: [.ret (.call 2 [.var 0, .var 1])]
def i_plan : List S := .exp (.call 0 [.var 0, .glo 0]) :: i_plan_1
abbrev G_plan : List (Str × D) := [("MOST_CONTACTS", .int 1000)]
abbrev P_plan : List Cal := [C_check_contacts, C_check_gap, C_best_choice]
abbrev c_plan : M.Cx := ⟨NM, AT_, P_plan, G_plan, True⟩
namespace M
open PySem PySem.Spec L2
noncomputable section
def m_plan (contacts_1 : (List (Int × Int × Int × Int × Int))) (gap_2 : Int) : Rs ((List (Int × Int × Int × Int × Int)) × Int × (List Iv)) :=
  ((m_check_contacts contacts_1 (1000:Int)).bind fun _ => ((m_check_gap gap_2).bind fun _ => (m_best_choice contacts_1 gap_2)))
theorem k_plan (contacts_1 : (List (Int × Int × Int × Int × Int))) (gap_2 : Int) : RK c_plan (d3 (dL (d5 D.int D.int D.int D.int D.int)) D.int (dL dIv)) i_plan [Sl.val ((dL (d5 D.int D.int D.int D.int D.int)) contacts_1), Sl.val (D.int gap_2)] (m_plan contacts_1 gap_2) (NN (d3 (dL (d5 D.int D.int D.int D.int D.int)) D.int (dL dIv))) F0 F0 := by
  unfold m_plan
  refine rk_exp (m := dN) (re_call (cal := C_check_contacts) (n := dN) rfl (rx_p (rp_var rfl) (rx_p (rp_glo rfl) (rx_nil (q_check_contacts contacts_1 (1000:Int)))))) (fun _ => ?_)
  refine rk_exp (m := dN) (re_call (cal := C_check_gap) (n := dN) rfl (rx_p (rp_var rfl) (rx_nil (q_check_gap gap_2)))) (fun _ => ?_)
  exact rk_ret trivial (re_call (cal := C_best_choice) (n := (d3 (dL (d5 D.int D.int D.int D.int D.int)) D.int (dL dIv))) rfl (rx_p (rp_var rfl) (rx_p (rp_var rfl) (rx_nil (q_best_choice contacts_1 gap_2)))))
end
end M
def fs_plan : FS := fun ds k x => (∃ (contacts_1 : (List (Int × Int × Int × Int × Int))) (gap_2 : Int), ds = [(M.dL (M.d5 D.int D.int D.int D.int D.int)) contacts_1, D.int gap_2] ∧ (M.m_plan contacts_1 gap_2).sat (fun v => k ((M.d3 (M.dL (M.d5 D.int D.int D.int D.int D.int)) D.int (M.dL dIv)) v)) x)
def C_plan : Cal := { nm := "plan", ar := 2, dfl := [], fs := fs_plan }
theorem w_plan : ∀ ds kd kx, ds.length = 2 → fs_plan ds kd kx → wpSs NM AT_ P_plan G_plan i_plan (startR 2 ds) { nx := fun _ => kd .non, rt := kd, bk := fun _ => False, ct := fun _ => False, er := fun x _ => kx x } := by
  rintro ds kd kx hl (⟨contacts_1, gap_2, rfl, h⟩)
  · exact M.fin_f (c := c_plan) (M.k_plan contacts_1 gap_2) h
namespace M
open PySem PySem.Spec L2
noncomputable section
theorem q_plan (contacts_1 : (List (Int × Int × Int × Int × Int))) (gap_2 : Int) : QF C_plan (d3 (dL (d5 D.int D.int D.int D.int D.int)) D.int (dL dIv)) [(dL (d5 D.int D.int D.int D.int D.int)) contacts_1, D.int gap_2] (m_plan contacts_1 gap_2) := fun k x h => ⟨contacts_1, gap_2, rfl, h⟩
local macro_rules | `(tactic| fail "rs11") => `(tactic| try simp (config := {decide := true, dsimp := false, implicitDefEqProofs := false}) only [mulR_ok, divR_ok, modR_ok, isqrtR_ok, rngR1_0, rngR1_1, rngR1_2, rngR1_3, rngR1_4, rngR1_5, rngR1_6, rngR_16, rngR_13, idxR_0, idxR_1, idxR_2, idxR_3, idxR_4, idxR_5, idxR_m1_1, idxR_m1_2, idxR_m1_3, idxR_last, pushR_ok, catR_ok, forC_nil, forC_cons, mapR_nil, mapR_cons, unO_some, mtO_none, mtO_some, minR_1, minR_2, minR_3, minR_4, maxR_1, maxR_2, maxR_3, maxR_4, andR_okk, orR_okk, andR_dec, orR_dec, andR_ok, orR_ok, iteR_not, iteR_nbl, cnd_t, cnd_f, iteR_ok, iteR_bl, decide_eq_true_eq, Rs.bind_ok, Rs.bind_er, Rs.bind_no, Rs.bind_assoc, noE_ok, List.nil_append, List.cons_append, List.length_cons, List.length_nil, Rs.sat_ok, Rs.sat_er, Rs.sat_no, if_true, if_false, reduceIte, Bool.false_eq_true, decide_true, decide_false, not_true_eq_false, not_false_eq_true, List.map_cons, List.map_nil, List.zip_cons_cons, List.zip_nil_left, List.zip_nil_right, Int.reduceAdd, Int.reduceSub, Int.reduceMul, Int.reduceMod, Int.reduceDiv, Int.reduceEq, Int.reduceNeg, Int.reduceLT, Int.reduceLE, Bool.not_true, Bool.not_false, Option.isSome_some, Option.isSome_none, Bool.and_true, Bool.true_and, Bool.and_false, Bool.false_and, Bool.or_false, Bool.or_true, Bool.false_or, Bool.true_or, reduceCtorEq, ne_eq, true_and, and_true, Int.zero_add, Int.add_zero, Int.sub_zero, m_check_ok, m_is_tick_ok, m_check_contacts_ok, m_check_gap_ok, m_best_by_ok, m_ready_ok, m_plan_table_ok, m_best_choice_ok])
theorem m_plan_ok {g : Int} {l : List Ct} (h : l.length ≤ 1000) (hc : CtsOk l) (hg : 0 ≤ g ∧ g ≤ 100000) : m_plan l g = .ok (chosen (tbl g l), lastW (tbl g l), prc (tbl g l)) := by
  unfold m_plan
  rw [m_check_contacts_ok (by omega) hc, Rs.bind_ok, m_check_gap_ok hg, Rs.bind_ok, m_best_choice_ok (by omega)]
end
end M
def i_law_ready : List S := [.ret (.bin .add (.bin .add (.idx (.var 0) (.cst (.int 3))) (.cst (.int 1))) (.var 1))]
abbrev G_law_ready : List (Str × D) := []
abbrev P_law_ready : List Cal := []
abbrev c_law_ready : M.Cx := ⟨NM, AT_, P_law_ready, G_law_ready, True⟩
namespace M
open PySem PySem.Spec L2
noncomputable section
def m_law_ready (contact_1 : (Int × Int × Int × Int × Int)) (gap_2 : Int) : Rs Int :=
  (Rs.ok ((contact_1.2.2.2.1 + (1:Int)) + gap_2))
theorem k_law_ready (contact_1 : (Int × Int × Int × Int × Int)) (gap_2 : Int) : RK c_law_ready D.int i_law_ready [Sl.val ((d5 D.int D.int D.int D.int D.int) contact_1), Sl.val (D.int gap_2)] (m_law_ready contact_1 gap_2) (NN D.int) F0 F0 := by
  unfold m_law_ready
  exact rk_retp (a := ((contact_1.2.2.2.1 + (1:Int)) + gap_2)) trivial (rp_add (rp_add (rp_idx (v := (D.int contact_1.2.2.2.1)) (rp_var rfl) rp_cst (by exact fun _ h => h)) rp_cst) (rp_var rfl))
end
end M
def fs_law_ready : FS := fun ds k x => (∃ (contact_1 : (Int × Int × Int × Int × Int)) (gap_2 : Int), ds = [(M.d5 D.int D.int D.int D.int D.int) contact_1, D.int gap_2] ∧ (M.m_law_ready contact_1 gap_2).sat (fun v => k (D.int v)) x)
def C_law_ready : Cal := { nm := "_law_ready", ar := 2, dfl := [], fs := fs_law_ready }
theorem w_law_ready : ∀ ds kd kx, ds.length = 2 → fs_law_ready ds kd kx → wpSs NM AT_ P_law_ready G_law_ready i_law_ready (startR 2 ds) { nx := fun _ => kd .non, rt := kd, bk := fun _ => False, ct := fun _ => False, er := fun x _ => kx x } := by
  rintro ds kd kx hl (⟨contact_1, gap_2, rfl, h⟩)
  · exact M.fin_f (c := c_law_ready) (M.k_law_ready contact_1 gap_2) h
namespace M
open PySem PySem.Spec L2
noncomputable section
theorem q_law_ready (contact_1 : (Int × Int × Int × Int × Int)) (gap_2 : Int) : QF C_law_ready D.int [(d5 D.int D.int D.int D.int D.int) contact_1, D.int gap_2] (m_law_ready contact_1 gap_2) := fun k x h => ⟨contact_1, gap_2, rfl, h⟩
local macro_rules | `(tactic| fail "rs12") => `(tactic| try simp (config := {decide := true, dsimp := false, implicitDefEqProofs := false}) only [mulR_ok, divR_ok, modR_ok, isqrtR_ok, rngR1_0, rngR1_1, rngR1_2, rngR1_3, rngR1_4, rngR1_5, rngR1_6, rngR_16, rngR_13, idxR_0, idxR_1, idxR_2, idxR_3, idxR_4, idxR_5, idxR_m1_1, idxR_m1_2, idxR_m1_3, idxR_last, pushR_ok, catR_ok, forC_nil, forC_cons, mapR_nil, mapR_cons, unO_some, mtO_none, mtO_some, minR_1, minR_2, minR_3, minR_4, maxR_1, maxR_2, maxR_3, maxR_4, andR_okk, orR_okk, andR_dec, orR_dec, andR_ok, orR_ok, iteR_not, iteR_nbl, cnd_t, cnd_f, iteR_ok, iteR_bl, decide_eq_true_eq, Rs.bind_ok, Rs.bind_er, Rs.bind_no, Rs.bind_assoc, noE_ok, List.nil_append, List.cons_append, List.length_cons, List.length_nil, Rs.sat_ok, Rs.sat_er, Rs.sat_no, if_true, if_false, reduceIte, Bool.false_eq_true, decide_true, decide_false, not_true_eq_false, not_false_eq_true, List.map_cons, List.map_nil, List.zip_cons_cons, List.zip_nil_left, List.zip_nil_right, Int.reduceAdd, Int.reduceSub, Int.reduceMul, Int.reduceMod, Int.reduceDiv, Int.reduceEq, Int.reduceNeg, Int.reduceLT, Int.reduceLE, Bool.not_true, Bool.not_false, Option.isSome_some, Option.isSome_none, Bool.and_true, Bool.true_and, Bool.and_false, Bool.false_and, Bool.or_false, Bool.or_true, Bool.false_or, Bool.true_or, reduceCtorEq, ne_eq, true_and, and_true, Int.zero_add, Int.add_zero, Int.sub_zero, m_check_ok, m_is_tick_ok, m_check_contacts_ok, m_check_gap_ok, m_best_by_ok, m_ready_ok, m_plan_table_ok, m_best_choice_ok, m_plan_ok])
theorem m_law_ready_ok {c : Ct} {g : Int} : m_law_ready c g = .ok (rdy g c) := rfl
end
end M
def i_law_apart : List S := [.ret (.or [.cmp .le (.call 0 [.var 0, .var 2]) (.idx (.var 1) (.cst (.int 2))), .cmp .le (.call 0 [.var 1, .var 2]) (.idx (.var 0) (.cst (.int 2)))])]
abbrev G_law_apart : List (Str × D) := []
abbrev P_law_apart : List Cal := [C_law_ready]
abbrev c_law_apart : M.Cx := ⟨NM, AT_, P_law_apart, G_law_apart, True⟩
namespace M
open PySem PySem.Spec L2
noncomputable section
def m_law_apart (one_1 : (Int × Int × Int × Int × Int)) (other_2 : (Int × Int × Int × Int × Int)) (gap_3 : Int) : Rs Bool :=
  (orR ((m_law_ready one_1 gap_3).bind fun a_4 => (Rs.ok (decide (a_4 ≤ other_2.2.2.1)))) ((m_law_ready other_2 gap_3).bind fun a_5 => (Rs.ok (decide (a_5 ≤ one_1.2.2.1)))))
theorem k_law_apart (one_1 : (Int × Int × Int × Int × Int)) (other_2 : (Int × Int × Int × Int × Int)) (gap_3 : Int) : RK c_law_apart D.bl i_law_apart [Sl.val ((d5 D.int D.int D.int D.int D.int) one_1), Sl.val ((d5 D.int D.int D.int D.int D.int) other_2), Sl.val (D.int gap_3)] (m_law_apart one_1 other_2 gap_3) (NN D.bl) F0 F0 := by
  unfold m_law_apart
  exact rk_ret trivial (re_or (reo_cons (re_cmp (rt_cmp (rx_e (n := D.int) (re_call (cal := C_law_ready) (n := D.int) rfl (rx_p (rp_var rfl) (rx_p (rp_var rfl) (rx_nil (q_law_ready one_1 gap_3))))) (fun a_4 => (rx_p (rp_idx (v := (D.int other_2.2.2.1)) (rp_var rfl) rp_cst (by exact fun _ h => h)) (rx_nil (qc (fun _ h => h)))))))) (reo_one (re_cmp (rt_cmp (rx_e (n := D.int) (re_call (cal := C_law_ready) (n := D.int) rfl (rx_p (rp_var rfl) (rx_p (rp_var rfl) (rx_nil (q_law_ready other_2 gap_3))))) (fun a_5 => (rx_p (rp_idx (v := (D.int one_1.2.2.1)) (rp_var rfl) rp_cst (by exact fun _ h => h)) (rx_nil (qc (fun _ h => h)))))))))))
end
end M
def fs_law_apart : FS := fun ds k x => (∃ (one_1 : (Int × Int × Int × Int × Int)) (other_2 : (Int × Int × Int × Int × Int)) (gap_3 : Int), ds = [(M.d5 D.int D.int D.int D.int D.int) one_1, (M.d5 D.int D.int D.int D.int D.int) other_2, D.int gap_3] ∧ (M.m_law_apart one_1 other_2 gap_3).sat (fun v => k (D.bl v)) x)
def C_law_apart : Cal := { nm := "_law_apart", ar := 3, dfl := [], fs := fs_law_apart }
theorem w_law_apart : ∀ ds kd kx, ds.length = 3 → fs_law_apart ds kd kx → wpSs NM AT_ P_law_apart G_law_apart i_law_apart (startR 3 ds) { nx := fun _ => kd .non, rt := kd, bk := fun _ => False, ct := fun _ => False, er := fun x _ => kx x } := by
  rintro ds kd kx hl (⟨one_1, other_2, gap_3, rfl, h⟩)
  · exact M.fin_f (c := c_law_apart) (M.k_law_apart one_1 other_2 gap_3) h
namespace M
open PySem PySem.Spec L2
noncomputable section
theorem q_law_apart (one_1 : (Int × Int × Int × Int × Int)) (other_2 : (Int × Int × Int × Int × Int)) (gap_3 : Int) : QF C_law_apart D.bl [(d5 D.int D.int D.int D.int D.int) one_1, (d5 D.int D.int D.int D.int D.int) other_2, D.int gap_3] (m_law_apart one_1 other_2 gap_3) := fun k x h => ⟨one_1, other_2, gap_3, rfl, h⟩
local macro_rules | `(tactic| fail "rs13") => `(tactic| try simp (config := {decide := true, dsimp := false, implicitDefEqProofs := false}) only [mulR_ok, divR_ok, modR_ok, isqrtR_ok, rngR1_0, rngR1_1, rngR1_2, rngR1_3, rngR1_4, rngR1_5, rngR1_6, rngR_16, rngR_13, idxR_0, idxR_1, idxR_2, idxR_3, idxR_4, idxR_5, idxR_m1_1, idxR_m1_2, idxR_m1_3, idxR_last, pushR_ok, catR_ok, forC_nil, forC_cons, mapR_nil, mapR_cons, unO_some, mtO_none, mtO_some, minR_1, minR_2, minR_3, minR_4, maxR_1, maxR_2, maxR_3, maxR_4, andR_okk, orR_okk, andR_dec, orR_dec, andR_ok, orR_ok, iteR_not, iteR_nbl, cnd_t, cnd_f, iteR_ok, iteR_bl, decide_eq_true_eq, Rs.bind_ok, Rs.bind_er, Rs.bind_no, Rs.bind_assoc, noE_ok, List.nil_append, List.cons_append, List.length_cons, List.length_nil, Rs.sat_ok, Rs.sat_er, Rs.sat_no, if_true, if_false, reduceIte, Bool.false_eq_true, decide_true, decide_false, not_true_eq_false, not_false_eq_true, List.map_cons, List.map_nil, List.zip_cons_cons, List.zip_nil_left, List.zip_nil_right, Int.reduceAdd, Int.reduceSub, Int.reduceMul, Int.reduceMod, Int.reduceDiv, Int.reduceEq, Int.reduceNeg, Int.reduceLT, Int.reduceLE, Bool.not_true, Bool.not_false, Option.isSome_some, Option.isSome_none, Bool.and_true, Bool.true_and, Bool.and_false, Bool.false_and, Bool.or_false, Bool.or_true, Bool.false_or, Bool.true_or, reduceCtorEq, ne_eq, true_and, and_true, Int.zero_add, Int.add_zero, Int.sub_zero, m_check_ok, m_is_tick_ok, m_check_contacts_ok, m_check_gap_ok, m_best_by_ok, m_ready_ok, m_plan_table_ok, m_best_choice_ok, m_plan_ok, m_law_ready_ok])
theorem m_law_apart_ok {a b : Ct} {g : Int} : m_law_apart a b g = .ok (apB g a b) := by
  unfold m_law_apart apB
  rw [m_law_ready_ok, m_law_ready_ok, Rs.bind_ok, Rs.bind_ok]
  cases decide (rdy g a ≤ b.2.2.1) <;> rfl
end
end M
def b_law_is_choice_0_2 : List S := .asg (.nm 7) (.and [.var 2, .cmp .ne (.idx (.var 5) (.cst (.int 0))) (.idx (.var 6) (.cst (.int 0))), .cmp .ne (.idx (.var 5) (.cst (.int 1))) (.idx (.var 6) (.cst (.int 1)))]) :: [.ite (.and [.not (.val (.var 7)), .not (.val (.call 0 [.var 5, .var 6, .var 1]))]) [.ret (.cst (.bl false))] []]
def b_law_is_choice_0_1 : List S := .asg (.nm 6) (.idx (.var 0) (.var 3)) :: b_law_is_choice_0_2
def b_law_is_choice_0 : List S := .asg (.nm 5) (.idx (.var 0) (.var 4)) :: b_law_is_choice_0_1
def i_law_is_choice : List S := .for_ (.nm 3) (.rng [.blt .len [.var 0]]) [.for_ (.nm 4) (.rng [.var 3]) b_law_is_choice_0] :: [.ret (.cst (.bl true))]
abbrev G_law_is_choice : List (Str × D) := []
abbrev P_law_is_choice : List Cal := [C_law_apart]
abbrev c_law_is_choice : M.Cx := ⟨NM, AT_, P_law_is_choice, G_law_is_choice, True⟩
namespace M
open PySem PySem.Spec L2
noncomputable section
def m_law_is_choice_L2 (chosen_1 : (List (Int × Int × Int × Int × Int))) (gap_2 : Int) (mixed_3 : Bool) (j_11 : Int) (i_18 : Int) (nx_16 : (Unit → Rs Bool)) (bk_17 : (Unit → Rs Bool)) : Rs Bool :=
  ((idxR chosen_1 i_18).bind fun one_19 => ((idxR chosen_1 j_11).bind fun other_20 => ((Rs.ok (mixed_3 && ((decide (¬(one_19.1 = other_20.1))) && (decide (¬(one_19.2.1 = other_20.2.1)))))).bind fun free_21 => (iteR (andR (Rs.ok (decide (¬(free_21 = true)))) ((m_law_apart one_19 other_20 gap_2).bind fun x => Rs.ok (!x))) (Rs.ok false) (nx_16 ())))))
def m_law_is_choice_L1 (chosen_1 : (List (Int × Int × Int × Int × Int))) (gap_2 : Int) (mixed_3 : Bool) (j_11 : Int) (nx_9 : (Unit → Rs Bool)) (bk_10 : (Unit → Rs Bool)) : Rs Bool :=
  ((rngR1 j_11).bind fun l_26 => forC (fun a s nx bk => m_law_is_choice_L2 chosen_1 gap_2 mixed_3 j_11 a  nx bk) (fun (s : Unit) => (nx_9 ())) l_26 (() : Unit))
def m_law_is_choice (chosen_1 : (List (Int × Int × Int × Int × Int))) (gap_2 : Int) (mixed_3 : Bool) : Rs Bool :=
  ((rngR1 (chosen_1.length : Int)).bind fun l_32 => forC (fun a s nx bk => m_law_is_choice_L1 chosen_1 gap_2 mixed_3 a  nx bk) (fun (s : Unit) => (Rs.ok true)) l_32 (() : Unit))
theorem k_law_is_choice (chosen_1 : (List (Int × Int × Int × Int × Int))) (gap_2 : Int) (mixed_3 : Bool) : RK c_law_is_choice D.bl i_law_is_choice [Sl.val ((dL (d5 D.int D.int D.int D.int D.int)) chosen_1), Sl.val (D.int gap_2), Sl.val (D.bl mixed_3), Sl.un, Sl.un, Sl.un, Sl.un, Sl.un] (m_law_is_choice chosen_1 gap_2 mixed_3) (NN D.bl) F0 F0 := by
  unfold m_law_is_choice
  refine rk_fore (σ := Unit) (J := (Sl × Sl × Sl × Sl × Sl)) (m := D.int) (fun (s : Unit) (j : (Sl × Sl × Sl × Sl × Sl)) => [Sl.val ((dL (d5 D.int D.int D.int D.int D.int)) chosen_1), Sl.val (D.int gap_2), Sl.val (D.bl mixed_3), j.1, j.2.1, j.2.2.1, j.2.2.2.1, j.2.2.2.2]) (fun a s nx bk => m_law_is_choice_L1 chosen_1 gap_2 mixed_3 a  nx bk) (k := (fun (s : Unit) => (Rs.ok true))) (s0 := (() : Unit)) (j0 := ((Sl.un, Sl.un, Sl.un, Sl.un, Sl.un))) (rie_rng (rx_p (rp_blt (v := (D.int (chosen_1.length : Int))) (rps_cons (rp_var rfl) rps_nil) bl_lenl) (rx_nil qr_1))) rfl ?_ ?_
  · rintro j_11 _ ⟨z_4, z_5, z_6, z_7, z_8⟩ nx_9 bk_10
    refine ⟨_, rfl, ?_⟩
    show RK _ _ _ [Sl.val ((dL (d5 D.int D.int D.int D.int D.int)) chosen_1), Sl.val (D.int gap_2), Sl.val (D.bl mixed_3), Sl.val (D.int j_11), z_5, z_6, z_7, z_8] (m_law_is_choice_L1 chosen_1 gap_2 mixed_3 j_11 nx_9 bk_10) _ _ _
    unfold m_law_is_choice_L1
    refine rk_fore (σ := Unit) (J := (Sl × Sl × Sl × Sl)) (m := D.int) (fun (s : Unit) (j : (Sl × Sl × Sl × Sl)) => [Sl.val ((dL (d5 D.int D.int D.int D.int D.int)) chosen_1), Sl.val (D.int gap_2), Sl.val (D.bl mixed_3), Sl.val (D.int j_11), j.1, j.2.1, j.2.2.1, j.2.2.2]) (fun a s nx bk => m_law_is_choice_L2 chosen_1 gap_2 mixed_3 j_11 a  nx bk) (k := (fun (s : Unit) => (nx_9 ()))) (s0 := (() : Unit)) (j0 := ((z_5, z_6, z_7, z_8))) (rie_rng (rx_p (rp_var rfl) (rx_nil qr_1))) rfl ?_ ?_
    · rintro i_18 _ ⟨z_12, z_13, z_14, z_15⟩ nx_16 bk_17
      refine ⟨_, rfl, ?_⟩
      show RK _ _ _ [Sl.val ((dL (d5 D.int D.int D.int D.int D.int)) chosen_1), Sl.val (D.int gap_2), Sl.val (D.bl mixed_3), Sl.val (D.int j_11), Sl.val (D.int i_18), z_13, z_14, z_15] (m_law_is_choice_L2 chosen_1 gap_2 mixed_3 j_11 i_18 nx_16 bk_17) _ _ _
      unfold m_law_is_choice_L2
      refine rk_asg (g := fun one_19 => [Sl.val ((dL (d5 D.int D.int D.int D.int D.int)) chosen_1), Sl.val (D.int gap_2), Sl.val (D.bl mixed_3), Sl.val (D.int j_11), Sl.val (D.int i_18), Sl.val ((d5 D.int D.int D.int D.int D.int) one_19), z_14, z_15]) (re_idx (n := (d5 D.int D.int D.int D.int D.int)) (rx_p (rp_var rfl) (rx_p (rp_var rfl) (rx_nil (qi_lst (n := (d5 D.int D.int D.int D.int D.int)) (l := chosen_1)))))) (fun _ => rfl) (fun one_19 => ?_)
      refine rk_asg (g := fun other_20 => [Sl.val ((dL (d5 D.int D.int D.int D.int D.int)) chosen_1), Sl.val (D.int gap_2), Sl.val (D.bl mixed_3), Sl.val (D.int j_11), Sl.val (D.int i_18), Sl.val ((d5 D.int D.int D.int D.int D.int) one_19), Sl.val ((d5 D.int D.int D.int D.int D.int) other_20), z_15]) (re_idx (n := (d5 D.int D.int D.int D.int D.int)) (rx_p (rp_var rfl) (rx_p (rp_var rfl) (rx_nil (qi_lst (n := (d5 D.int D.int D.int D.int D.int)) (l := chosen_1)))))) (fun _ => rfl) (fun other_20 => ?_)
      refine rk_asg (g := fun free_21 => [Sl.val ((dL (d5 D.int D.int D.int D.int D.int)) chosen_1), Sl.val (D.int gap_2), Sl.val (D.bl mixed_3), Sl.val (D.int j_11), Sl.val (D.int i_18), Sl.val ((d5 D.int D.int D.int D.int D.int) one_19), Sl.val ((d5 D.int D.int D.int D.int D.int) other_20), Sl.val (D.bl free_21)]) (re_p (n := D.bl) (a := (mixed_3 && ((decide (¬(one_19.1 = other_20.1))) && (decide (¬(one_19.2.1 = other_20.2.1)))))) (rp_and (rea_consp (rp_var rfl) (rea_consp (rp_cmp (ru_cmp (rp_idx (v := (D.int one_19.1)) (rp_var rfl) rp_cst (by exact fun _ h => h)) (rp_idx (v := (D.int other_20.1)) (rp_var rfl) rp_cst (by exact fun _ h => h)) (ck_ne (fun _ h => h)))) (rea_one (re_p (n := D.bl) (rp_cmp (ru_cmp (rp_idx (v := (D.int one_19.2.1)) (rp_var rfl) rp_cst (by exact fun _ h => h)) (rp_idx (v := (D.int other_20.2.1)) (rp_var rfl) rp_cst (by exact fun _ h => h)) (ck_ne (fun _ h => h)))))))))) (fun _ => rfl) (fun free_21 => ?_)
      refine rk_ite (rt_and (rta_cons (rt_u (ru_not (ru_bl (rp_var rfl)))) (rta_one (rt_not (rt_bl (re_call (cal := C_law_apart) (n := D.bl) rfl (rx_p (rp_var rfl) (rx_p (rp_var rfl) (rx_p (rp_var rfl) (rx_nil (q_law_apart one_19 other_20 gap_2))))))))))) ?_ ?_
      · exact rk_retp (a := false) trivial rp_cst
      · refine rk_nil ?_
        exact rk_nil (nx_i () ((Sl.val (D.int i_18), Sl.val ((d5 D.int D.int D.int D.int D.int) one_19), Sl.val ((d5 D.int D.int D.int D.int D.int) other_20), Sl.val (D.bl free_21))))
    · rintro _ ⟨z_22, z_23, z_24, z_25⟩
      show RK _ _ _ [Sl.val ((dL (d5 D.int D.int D.int D.int D.int)) chosen_1), Sl.val (D.int gap_2), Sl.val (D.bl mixed_3), Sl.val (D.int j_11), z_22, z_23, z_24, z_25] ((nx_9 ())) _ _ _
      exact rk_nil (nx_i () ((Sl.val (D.int j_11), z_22, z_23, z_24, z_25)))
  · rintro _ ⟨z_27, z_28, z_29, z_30, z_31⟩
    show RK _ _ _ [Sl.val ((dL (d5 D.int D.int D.int D.int D.int)) chosen_1), Sl.val (D.int gap_2), Sl.val (D.bl mixed_3), z_27, z_28, z_29, z_30, z_31] ((Rs.ok true)) _ _ _
    exact rk_retp (a := true) trivial rp_cst
end
end M
def fs_law_is_choice : FS := fun ds k x => (∃ (chosen_1 : (List (Int × Int × Int × Int × Int))) (gap_2 : Int) (mixed_3 : Bool), ds = [(M.dL (M.d5 D.int D.int D.int D.int D.int)) chosen_1, D.int gap_2, D.bl mixed_3] ∧ (M.m_law_is_choice chosen_1 gap_2 mixed_3).sat (fun v => k (D.bl v)) x)
def C_law_is_choice : Cal := { nm := "_law_is_choice", ar := 3, dfl := [], fs := fs_law_is_choice }
theorem w_law_is_choice : ∀ ds kd kx, ds.length = 3 → fs_law_is_choice ds kd kx → wpSs NM AT_ P_law_is_choice G_law_is_choice i_law_is_choice (startR 8 ds) { nx := fun _ => kd .non, rt := kd, bk := fun _ => False, ct := fun _ => False, er := fun x _ => kx x } := by
  rintro ds kd kx hl (⟨chosen_1, gap_2, mixed_3, rfl, h⟩)
  · exact M.fin_f (c := c_law_is_choice) (M.k_law_is_choice chosen_1 gap_2 mixed_3) h
namespace M
open PySem PySem.Spec L2
noncomputable section
theorem q_law_is_choice (chosen_1 : (List (Int × Int × Int × Int × Int))) (gap_2 : Int) (mixed_3 : Bool) : QF C_law_is_choice D.bl [(dL (d5 D.int D.int D.int D.int D.int)) chosen_1, D.int gap_2, D.bl mixed_3] (m_law_is_choice chosen_1 gap_2 mixed_3) := fun k x h => ⟨chosen_1, gap_2, mixed_3, rfl, h⟩
local macro_rules | `(tactic| fail "rs14") => `(tactic| try simp (config := {decide := true, dsimp := false, implicitDefEqProofs := false}) only [mulR_ok, divR_ok, modR_ok, isqrtR_ok, rngR1_0, rngR1_1, rngR1_2, rngR1_3, rngR1_4, rngR1_5, rngR1_6, rngR_16, rngR_13, idxR_0, idxR_1, idxR_2, idxR_3, idxR_4, idxR_5, idxR_m1_1, idxR_m1_2, idxR_m1_3, idxR_last, pushR_ok, catR_ok, forC_nil, forC_cons, mapR_nil, mapR_cons, unO_some, mtO_none, mtO_some, minR_1, minR_2, minR_3, minR_4, maxR_1, maxR_2, maxR_3, maxR_4, andR_okk, orR_okk, andR_dec, orR_dec, andR_ok, orR_ok, iteR_not, iteR_nbl, cnd_t, cnd_f, iteR_ok, iteR_bl, decide_eq_true_eq, Rs.bind_ok, Rs.bind_er, Rs.bind_no, Rs.bind_assoc, noE_ok, List.nil_append, List.cons_append, List.length_cons, List.length_nil, Rs.sat_ok, Rs.sat_er, Rs.sat_no, if_true, if_false, reduceIte, Bool.false_eq_true, decide_true, decide_false, not_true_eq_false, not_false_eq_true, List.map_cons, List.map_nil, List.zip_cons_cons, List.zip_nil_left, List.zip_nil_right, Int.reduceAdd, Int.reduceSub, Int.reduceMul, Int.reduceMod, Int.reduceDiv, Int.reduceEq, Int.reduceNeg, Int.reduceLT, Int.reduceLE, Bool.not_true, Bool.not_false, Option.isSome_some, Option.isSome_none, Bool.and_true, Bool.true_and, Bool.and_false, Bool.false_and, Bool.or_false, Bool.or_true, Bool.false_or, Bool.true_or, reduceCtorEq, ne_eq, true_and, and_true, Int.zero_add, Int.add_zero, Int.sub_zero, m_check_ok, m_is_tick_ok, m_check_contacts_ok, m_check_gap_ok, m_best_by_ok, m_ready_ok, m_plan_table_ok, m_best_choice_ok, m_plan_ok, m_law_ready_ok, m_law_apart_ok])
open Classical in
theorem m_law_is_choice_ok {X : List Ct} {g : Int} {mx : Bool} (hX : X.length ≤ 10000000) : m_law_is_choice X g mx = .ok (decide (Chs mx g X)) := by
  unfold m_law_is_choice
  rw [rngR1_ok (by omega) (by omega), Rs.bind_ok]
  have inner : ∀ j : Int, 0 ≤ j → j < X.length → ∀ nx bk : Unit → Rs Bool, m_law_is_choice_L1 X g mx j nx bk = if (decide (∃ i : Nat, ∃ (h : i < j.toNat) (h2 : j.toNat < X.length), ¬ frB mx g (X[i]'(by omega)) (X[j.toNat]) = true)) = true then .ok false else nx () := by
    intro j j0 j1 nx bk
    unfold m_law_is_choice_L1
    rw [rngR1_ok (by omega) (by omega), Rs.bind_ok]
    rw [forC_find (r := .ok false) (p := fun i => decide (∃ (h : i.toNat < X.length) (h2 : j.toNat < X.length), ¬ frB mx g (X[i.toNat]) (X[j.toNat]) = true)) (fun i hi nx bk => by
      have hi := rngL_mem.mp hi
      unfold m_law_is_choice_L2
      have l1 : i.toNat < X.length := by omega
      have l2 : j.toNat < X.length := by omega
      rw [idxR_at hi.1 (by omega), Rs.bind_ok, idxR_at j0 j1, Rs.bind_ok, Rs.bind_ok, m_law_apart_ok, Rs.bind_ok]
      have e : (decide (∃ (h : i.toNat < X.length) (h2 : j.toNat < X.length), ¬ frB mx g (X[i.toNat]) (X[j.toNat]) = true)) = !frB mx g (X[i.toNat]) (X[j.toNat]) := by
        cases z : frB mx g (X[i.toNat]) (X[j.toNat]) with
        | false => exact decide_eq_true ⟨l1, l2, by rw [z]; decide⟩
        | true => exact decide_eq_false fun ⟨_, _, h⟩ => h z
      rw [e]
      unfold frB
      cases (mx && (decide (¬ (X[i.toNat]).1 = (X[j.toNat]).1) && decide (¬ (X[i.toNat]).2.1 = (X[j.toNat]).2.1))) <;> cases apB g (X[i.toNat]) (X[j.toNat]) <;> rfl)]
    have e : (rngL 0 j).any (fun i => decide (∃ (h : i.toNat < X.length) (h2 : j.toNat < X.length), ¬ frB mx g (X[i.toNat]) (X[j.toNat]) = true)) = decide (∃ i : Nat, ∃ (h : i < j.toNat) (h2 : j.toNat < X.length), ¬ frB mx g (X[i]'(by omega)) (X[j.toNat]) = true) := by
      rw [Bool.eq_iff_iff, List.any_eq_true, decide_eq_true_eq]
      constructor
      · rintro ⟨i, hi, h⟩
        have hi := rngL_mem.mp hi
        obtain ⟨h1, h2, h3⟩ := of_decide_eq_true h
        exact ⟨i.toNat, by omega, h2, h3⟩
      · rintro ⟨i, h1, h2, h3⟩
        exact ⟨(i : Int), rngL_mem.mpr (by omega), decide_eq_true ⟨by omega, h2, h3⟩⟩
    rw [e]
  rw [forC_find (r := .ok false) (p := fun j => decide (∃ i : Nat, ∃ (h : i < j.toNat) (h2 : j.toNat < X.length), ¬ frB mx g (X[i]'(by omega)) (X[j.toNat]) = true)) fun j hj nx bk => inner j (rngL_mem.mp hj).1 (rngL_mem.mp hj).2 nx bk]
  by_cases z : Chs mx g X
  · rw [decide_eq_true z, if_neg]
    intro h
    obtain ⟨j, hj, h⟩ := List.any_eq_true.mp h
    obtain ⟨i, h1, h2, h3⟩ := of_decide_eq_true h
    exact h3 (List.pairwise_iff_getElem.mp z i j.toNat (by omega) h2 h1)
  · rw [decide_eq_false z, if_pos]
    apply Classical.byContradiction
    intro h
    refine z (List.pairwise_iff_getElem.mpr fun i j hi hj hij => ?_)
    apply Classical.byContradiction
    intro q
    exact h (List.any_eq_true.mpr ⟨(j : Int), rngL_mem.mpr (by omega), decide_eq_true ⟨i, by omega, by omega, q⟩⟩)
end
end M
def i_law_sum_1 : List S := .for_ (.nm 2) (.ex (.var 0)) [.asg (.nm 1) (.bin .add (.var 1) (.var 2))] :: [.ret (.var 1)]
def i_law_sum : List S := .asg (.nm 1) (.cst (.int 0)) :: i_law_sum_1
abbrev G_law_sum : List (Str × D) := []
abbrev P_law_sum : List Cal := []
abbrev c_law_sum : M.Cx := ⟨NM, AT_, P_law_sum, G_law_sum, True⟩
namespace M
open PySem PySem.Spec L2
noncomputable section
def m_law_sum_L1 (number_6 : Int) (total_2 : Int) (nx_4 : (Int → Rs Int)) (bk_5 : (Int → Rs Int)) : Rs Int :=
  (nx_4 (total_2 + number_6))
def m_law_sum (numbers_1 : (List Int)) : Rs Int :=
  (forC (fun a s nx bk => m_law_sum_L1 a s nx bk) (fun (s : Int) => (Rs.ok s)) numbers_1 ((0:Int) : Int))
theorem k_law_sum (numbers_1 : (List Int)) : RK c_law_sum D.int i_law_sum [Sl.val ((dL D.int) numbers_1), Sl.un, Sl.un] (m_law_sum numbers_1) (NN D.int) F0 F0 := by
  unfold m_law_sum
  refine rk_asgp (ρ' := [Sl.val ((dL D.int) numbers_1), Sl.val (D.int (0:Int)), Sl.un]) rp_cst rfl ?_
  refine rk_for (σ := Int) (J := Sl) (m := D.int) (l := numbers_1) (fun (s : Int) (j : Sl) => [Sl.val ((dL D.int) numbers_1), Sl.val (D.int s), j]) (fun a s nx bk => m_law_sum_L1 a s nx bk) (k := (fun (s : Int) => (Rs.ok s))) (s0 := ((0:Int) : Int)) (j0 := (Sl.un)) (ri_lst (rp_var rfl)) rfl ?_ ?_
  · rintro number_6 total_2 z_3 nx_4 bk_5
    refine ⟨_, rfl, ?_⟩
    show RK _ _ _ [Sl.val ((dL D.int) numbers_1), Sl.val (D.int total_2), Sl.val (D.int number_6)] (m_law_sum_L1 number_6 total_2 nx_4 bk_5) _ _ _
    unfold m_law_sum_L1
    refine rk_asgp (ρ' := [Sl.val ((dL D.int) numbers_1), Sl.val (D.int (total_2 + number_6)), Sl.val (D.int number_6)]) (rp_add (rp_var rfl) (rp_var rfl)) rfl ?_
    exact rk_nil (nx_i (total_2 + number_6) (Sl.val (D.int number_6)))
  · rintro total_7 z_8
    show RK _ _ _ [Sl.val ((dL D.int) numbers_1), Sl.val (D.int total_7), z_8] ((Rs.ok total_7)) _ _ _
    exact rk_retp (a := total_7) trivial (rp_var rfl)
end
end M
def fs_law_sum : FS := fun ds k x => (∃ (numbers_1 : (List Int)), ds = [(M.dL D.int) numbers_1] ∧ (M.m_law_sum numbers_1).sat (fun v => k (D.int v)) x)
def C_law_sum : Cal := { nm := "_law_sum", ar := 1, dfl := [], fs := fs_law_sum }
theorem w_law_sum : ∀ ds kd kx, ds.length = 1 → fs_law_sum ds kd kx → wpSs NM AT_ P_law_sum G_law_sum i_law_sum (startR 3 ds) { nx := fun _ => kd .non, rt := kd, bk := fun _ => False, ct := fun _ => False, er := fun x _ => kx x } := by
  rintro ds kd kx hl (⟨numbers_1, rfl, h⟩)
  · exact M.fin_f (c := c_law_sum) (M.k_law_sum numbers_1) h
namespace M
open PySem PySem.Spec L2
noncomputable section
theorem q_law_sum (numbers_1 : (List Int)) : QF C_law_sum D.int [(dL D.int) numbers_1] (m_law_sum numbers_1) := fun k x h => ⟨numbers_1, rfl, h⟩
local macro_rules | `(tactic| fail "rs15") => `(tactic| try simp (config := {decide := true, dsimp := false, implicitDefEqProofs := false}) only [mulR_ok, divR_ok, modR_ok, isqrtR_ok, rngR1_0, rngR1_1, rngR1_2, rngR1_3, rngR1_4, rngR1_5, rngR1_6, rngR_16, rngR_13, idxR_0, idxR_1, idxR_2, idxR_3, idxR_4, idxR_5, idxR_m1_1, idxR_m1_2, idxR_m1_3, idxR_last, pushR_ok, catR_ok, forC_nil, forC_cons, mapR_nil, mapR_cons, unO_some, mtO_none, mtO_some, minR_1, minR_2, minR_3, minR_4, maxR_1, maxR_2, maxR_3, maxR_4, andR_okk, orR_okk, andR_dec, orR_dec, andR_ok, orR_ok, iteR_not, iteR_nbl, cnd_t, cnd_f, iteR_ok, iteR_bl, decide_eq_true_eq, Rs.bind_ok, Rs.bind_er, Rs.bind_no, Rs.bind_assoc, noE_ok, List.nil_append, List.cons_append, List.length_cons, List.length_nil, Rs.sat_ok, Rs.sat_er, Rs.sat_no, if_true, if_false, reduceIte, Bool.false_eq_true, decide_true, decide_false, not_true_eq_false, not_false_eq_true, List.map_cons, List.map_nil, List.zip_cons_cons, List.zip_nil_left, List.zip_nil_right, Int.reduceAdd, Int.reduceSub, Int.reduceMul, Int.reduceMod, Int.reduceDiv, Int.reduceEq, Int.reduceNeg, Int.reduceLT, Int.reduceLE, Bool.not_true, Bool.not_false, Option.isSome_some, Option.isSome_none, Bool.and_true, Bool.true_and, Bool.and_false, Bool.false_and, Bool.or_false, Bool.or_true, Bool.false_or, Bool.true_or, reduceCtorEq, ne_eq, true_and, and_true, Int.zero_add, Int.add_zero, Int.sub_zero, m_check_ok, m_is_tick_ok, m_check_contacts_ok, m_check_gap_ok, m_best_by_ok, m_ready_ok, m_plan_table_ok, m_best_choice_ok, m_plan_ok, m_law_ready_ok, m_law_apart_ok, m_law_is_choice_ok])
theorem m_law_sum_ok {l : List Int} : m_law_sum l = .ok l.sum := by
  unfold m_law_sum
  rw [forC_go (F := fun a s nx bk => m_law_sum_L1 a s nx bk) (fun a s => s + a) (fun _ _ => True) (fun a r s nx bk _ => ⟨rfl, trivial⟩) trivial]
  have : ∀ (l : List Int) (s : Int), l.foldl (fun s a => s + a) s = s + l.sum := by
    intro l
    induction l with
    | nil => intro s; exact (Int.add_zero s).symm
    | cons a l ih => intro s; rw [List.foldl_cons, ih, List.sum_cons, Int.add_assoc]
  rw [this, Int.zero_add]
end
end M
def b_law_best_0 : List S := .ite (.cmp .eq (.bin .mod (.var 6) (.cst (.int 2))) (.cst (.int 1))) [.app 5 (.var 7)] [] :: [.asg (.nm 6) (.bin .fdiv (.var 6) (.cst (.int 2)))]
def x_law_best_1 : E := .idx (.var 7) (.cst (.int 4))
def b_law_best_1_3 : List S := .frz 5 :: [.ite (.and [.cmp .eq (.var 6) (.cst (.int 0)), .val (.call 0 [.var 5, .var 1, .var 2])]) [.asg (.nm 3) (.blt .max [.var 3, .call 1 [.comp x_law_best_1 (.nm 7) (.ex (.brw 5)) []]])] []]
def b_law_best_1_2 : List S := .for_ (.nm 7) (.ex (.var 0)) b_law_best_0 :: b_law_best_1_3
def b_law_best_1_1 : List S := .asg (.nm 6) (.var 4) :: b_law_best_1_2
def b_law_best_1 : List S := .new 5 (.lst []) :: b_law_best_1_1
def i_law_best_1 : List S := .for_ (.nm 4) (.rng [.bin .pow (.cst (.int 2)) (.cst (.int 8))]) b_law_best_1 :: [.ret (.var 3)]
def i_law_best : List S := .asg (.nm 3) (.cst (.int 0)) :: i_law_best_1
abbrev G_law_best : List (Str × D) := []
abbrev P_law_best : List Cal := [C_law_is_choice, C_law_sum]
abbrev c_law_best : M.Cx := ⟨NM, AT_, P_law_best, G_law_best, True⟩
namespace M
open PySem PySem.Spec L2
noncomputable section
def m_law_best_J1 (rest_13 : Int) (nx_15 : (((List (Int × Int × Int × Int × Int)) × Int) → Rs Int)) (chosen_20 : (List (Int × Int × Int × Int × Int))) : Rs Int :=
  ((divR rest_13 (2:Int)).bind fun rest_21 => (nx_15 (chosen_20, rest_21)))
def m_law_best_L2 (contact_17 : (Int × Int × Int × Int × Int)) (chosen_12 : (List (Int × Int × Int × Int × Int))) (rest_13 : Int) (nx_15 : (((List (Int × Int × Int × Int × Int)) × Int) → Rs Int)) (bk_16 : (((List (Int × Int × Int × Int × Int)) × Int) → Rs Int)) : Rs Int :=
  (iteR ((modR rest_13 (2:Int)).bind fun a_18 => (Rs.ok (decide (a_18 = (1:Int))))) ((pushR chosen_12 contact_17).bind fun chosen_19 => (m_law_best_J1 rest_13 nx_15 chosen_19)) (m_law_best_J1 rest_13 nx_15 chosen_12))
def m_law_best_K1 (gap_2 : Int) (mixed_3 : Bool) (best_4 : Int) (nx_9 : (Int → Rs Int)) (chosen_22 : (List (Int × Int × Int × Int × Int))) (rest_23 : Int) : Rs Int :=
  (iteR (andR (Rs.ok (decide (rest_23 = (0:Int)))) (m_law_is_choice chosen_22 gap_2 mixed_3)) (((m_law_sum (chosen_22.map (fun (contact_25 : (Int × Int × Int × Int × Int)) => contact_25.2.2.2.2))).bind fun a_26 => (Rs.ok (max best_4 a_26))).bind fun best_27 => (nx_9 best_27)) (nx_9 best_4))
def m_law_best_L1 (contacts_1 : (List (Int × Int × Int × Int × Int))) (gap_2 : Int) (mixed_3 : Bool) (code_11 : Int) (best_4 : Int) (nx_9 : (Int → Rs Int)) (bk_10 : (Int → Rs Int)) : Rs Int :=
  (forC (fun a s nx bk => m_law_best_L2 a s.1 s.2 nx bk) (fun (s : ((List (Int × Int × Int × Int × Int)) × Int)) => m_law_best_K1 gap_2 mixed_3 best_4 nx_9 s.1 s.2) contacts_1 ((([] : (List (Int × Int × Int × Int × Int))), code_11) : ((List (Int × Int × Int × Int × Int)) × Int)))
def m_law_best (contacts_1 : (List (Int × Int × Int × Int × Int))) (gap_2 : Int) (mixed_3 : Bool) : Rs Int :=
  ((rngR1 (256:Int)).bind fun l_33 => forC (fun a s nx bk => m_law_best_L1 contacts_1 gap_2 mixed_3 a s nx bk) (fun (s : Int) => (Rs.ok s)) l_33 ((0:Int) : Int))
theorem k_law_best (contacts_1 : (List (Int × Int × Int × Int × Int))) (gap_2 : Int) (mixed_3 : Bool) : RK c_law_best D.int i_law_best [Sl.val ((dL (d5 D.int D.int D.int D.int D.int)) contacts_1), Sl.val (D.int gap_2), Sl.val (D.bl mixed_3), Sl.un, Sl.un, Sl.un, Sl.un, Sl.un] (m_law_best contacts_1 gap_2 mixed_3) (NN D.int) F0 F0 := by
  unfold m_law_best
  refine rk_asgp (ρ' := [Sl.val ((dL (d5 D.int D.int D.int D.int D.int)) contacts_1), Sl.val (D.int gap_2), Sl.val (D.bl mixed_3), Sl.val (D.int (0:Int)), Sl.un, Sl.un, Sl.un, Sl.un]) rp_cst rfl ?_
  refine rk_fore (σ := Int) (J := (Sl × Sl × Sl × Sl)) (m := D.int) (fun (s : Int) (j : (Sl × Sl × Sl × Sl)) => [Sl.val ((dL (d5 D.int D.int D.int D.int D.int)) contacts_1), Sl.val (D.int gap_2), Sl.val (D.bl mixed_3), Sl.val (D.int s), j.1, j.2.1, j.2.2.1, j.2.2.2]) (fun a s nx bk => m_law_best_L1 contacts_1 gap_2 mixed_3 a s nx bk) (k := (fun (s : Int) => (Rs.ok s))) (s0 := ((0:Int) : Int)) (j0 := ((Sl.un, Sl.un, Sl.un, Sl.un))) (rie_rng (rx_p (rp_powc (v := 256) rp_cst rp_cst (cpq (by decide) (by decide +kernel)) (by decide +kernel)) (rx_nil qr_1))) rfl ?_ ?_
  · rintro code_11 best_4 ⟨z_5, z_6, z_7, z_8⟩ nx_9 bk_10
    refine ⟨_, rfl, ?_⟩
    show RK _ _ _ [Sl.val ((dL (d5 D.int D.int D.int D.int D.int)) contacts_1), Sl.val (D.int gap_2), Sl.val (D.bl mixed_3), Sl.val (D.int best_4), Sl.val (D.int code_11), z_6, z_7, z_8] (m_law_best_L1 contacts_1 gap_2 mixed_3 code_11 best_4 nx_9 bk_10) _ _ _
    unfold m_law_best_L1
    refine rk_newp (ρ' := [Sl.val ((dL (d5 D.int D.int D.int D.int D.int)) contacts_1), Sl.val (D.int gap_2), Sl.val (D.bl mixed_3), Sl.val (D.int best_4), Sl.val (D.int code_11), Sl.own [], z_7, z_8]) (rp_lst rps_nil) rfl ?_
    refine rk_asgp (ρ' := [Sl.val ((dL (d5 D.int D.int D.int D.int D.int)) contacts_1), Sl.val (D.int gap_2), Sl.val (D.bl mixed_3), Sl.val (D.int best_4), Sl.val (D.int code_11), Sl.own [], Sl.val (D.int code_11), z_8]) (rp_var rfl) rfl ?_
    refine rk_for (σ := ((List (Int × Int × Int × Int × Int)) × Int)) (J := Sl) (m := (d5 D.int D.int D.int D.int D.int)) (l := contacts_1) (fun (s : ((List (Int × Int × Int × Int × Int)) × Int)) (j : Sl) => [Sl.val ((dL (d5 D.int D.int D.int D.int D.int)) contacts_1), Sl.val (D.int gap_2), Sl.val (D.bl mixed_3), Sl.val (D.int best_4), Sl.val (D.int code_11), Sl.own (s.1.map (d5 D.int D.int D.int D.int D.int)), Sl.val (D.int s.2), j]) (fun a s nx bk => m_law_best_L2 a s.1 s.2 nx bk) (k := (fun (s : ((List (Int × Int × Int × Int × Int)) × Int)) => m_law_best_K1 gap_2 mixed_3 best_4 nx_9 s.1 s.2)) (s0 := ((([] : (List (Int × Int × Int × Int × Int))), code_11) : ((List (Int × Int × Int × Int × Int)) × Int))) (j0 := (z_8)) (ri_lst (rp_var rfl)) rfl ?_ ?_
    · rintro contact_17 ⟨chosen_12, rest_13⟩ z_14 nx_15 bk_16
      refine ⟨_, rfl, ?_⟩
      show RK _ _ _ [Sl.val ((dL (d5 D.int D.int D.int D.int D.int)) contacts_1), Sl.val (D.int gap_2), Sl.val (D.bl mixed_3), Sl.val (D.int best_4), Sl.val (D.int code_11), Sl.own (chosen_12.map (d5 D.int D.int D.int D.int D.int)), Sl.val (D.int rest_13), Sl.val ((d5 D.int D.int D.int D.int D.int) contact_17)] (m_law_best_L2 contact_17 chosen_12 rest_13 nx_15 bk_16) _ _ _
      unfold m_law_best_L2
      refine rk_jn (σ := (List (Int × Int × Int × Int × Int))) (J := Unit) (fun s j => [Sl.val ((dL (d5 D.int D.int D.int D.int D.int)) contacts_1), Sl.val (D.int gap_2), Sl.val (D.bl mixed_3), Sl.val (D.int best_4), Sl.val (D.int code_11), Sl.own (s.map (d5 D.int D.int D.int D.int D.int)), Sl.val (D.int rest_13), Sl.val ((d5 D.int D.int D.int D.int D.int) contact_17)]) (fun s => m_law_best_J1 rest_13 nx_15 s) ?_ (fun m_law_best_J1_k => ?_)
      · rintro chosen_20 _
        show RK _ _ _ [Sl.val ((dL (d5 D.int D.int D.int D.int D.int)) contacts_1), Sl.val (D.int gap_2), Sl.val (D.bl mixed_3), Sl.val (D.int best_4), Sl.val (D.int code_11), Sl.own (chosen_20.map (d5 D.int D.int D.int D.int D.int)), Sl.val (D.int rest_13), Sl.val ((d5 D.int D.int D.int D.int D.int) contact_17)] (m_law_best_J1 rest_13 nx_15 chosen_20) _ _ _
        unfold m_law_best_J1
        refine rk_asg (g := fun rest_21 => [Sl.val ((dL (d5 D.int D.int D.int D.int D.int)) contacts_1), Sl.val (D.int gap_2), Sl.val (D.bl mixed_3), Sl.val (D.int best_4), Sl.val (D.int code_11), Sl.own (chosen_20.map (d5 D.int D.int D.int D.int D.int)), Sl.val (D.int rest_21), Sl.val ((d5 D.int D.int D.int D.int D.int) contact_17)]) (re_bin (rx_p (rp_var rfl) (rx_p rp_cst (rx_nil qb_fdiv)))) (fun _ => rfl) (fun rest_21 => ?_)
        exact rk_nil (nx_i (chosen_20, rest_21) (Sl.val ((d5 D.int D.int D.int D.int D.int) contact_17)))
      · refine rk_ite (rt_cmp (rx_e (n := D.int) (re_bin (rx_p (rp_var rfl) (rx_p rp_cst (rx_nil qb_mod)))) (fun a_18 => (rx_p rp_cst (rx_nil (qc (fun _ h => h))))))) ?_ ?_
        · refine rk_appp (m := (d5 D.int D.int D.int D.int D.int)) (a := contact_17) (l := chosen_12) (g := fun chosen_19 => [Sl.val ((dL (d5 D.int D.int D.int D.int D.int)) contacts_1), Sl.val (D.int gap_2), Sl.val (D.bl mixed_3), Sl.val (D.int best_4), Sl.val (D.int code_11), Sl.own (chosen_19.map (d5 D.int D.int D.int D.int D.int)), Sl.val (D.int rest_13), Sl.val ((d5 D.int D.int D.int D.int D.int) contact_17)]) rfl (rp_var rfl) (fun _ => rfl) (fun chosen_19 => ?_)
          exact rk_nil (m_law_best_J1_k (chosen_19) (()))
        · exact rk_nil (m_law_best_J1_k (chosen_12) (()))
    · rintro ⟨chosen_22, rest_23⟩ z_24
      show RK _ _ _ [Sl.val ((dL (d5 D.int D.int D.int D.int D.int)) contacts_1), Sl.val (D.int gap_2), Sl.val (D.bl mixed_3), Sl.val (D.int best_4), Sl.val (D.int code_11), Sl.own (chosen_22.map (d5 D.int D.int D.int D.int D.int)), Sl.val (D.int rest_23), z_24] (m_law_best_K1 gap_2 mixed_3 best_4 nx_9 chosen_22 rest_23) _ _ _
      unfold m_law_best_K1
      refine rk_frz (ρ' := [Sl.val ((dL (d5 D.int D.int D.int D.int D.int)) contacts_1), Sl.val (D.int gap_2), Sl.val (D.bl mixed_3), Sl.val (D.int best_4), Sl.val (D.int code_11), Sl.val ((dL (d5 D.int D.int D.int D.int D.int)) chosen_22), Sl.val (D.int rest_23), z_24]) rfl rfl ?_
      refine rk_ite (rt_and (rta_cons (rt_u (ru_cmp (rp_var rfl) rp_cst (fun _ h => h))) (rta_one (rt_bl (re_call (cal := C_law_is_choice) (n := D.bl) rfl (rx_p (rp_var rfl) (rx_p (rp_var rfl) (rx_p (rp_var rfl) (rx_nil (q_law_is_choice chosen_22 gap_2 mixed_3)))))))))) ?_ ?_
      · refine rk_asg (g := fun best_27 => [Sl.val ((dL (d5 D.int D.int D.int D.int D.int)) contacts_1), Sl.val (D.int gap_2), Sl.val (D.bl mixed_3), Sl.val (D.int best_27), Sl.val (D.int code_11), Sl.val ((dL (d5 D.int D.int D.int D.int D.int)) chosen_22), Sl.val (D.int rest_23), z_24]) (re_blt (n := D.int) (rx_p (rp_var rfl) (rx_e (n := D.int) (re_call (cal := C_law_sum) (n := D.int) rfl (rx_p (rp_comp (n := (d5 D.int D.int D.int D.int D.int)) (m := D.int) (l := chosen_22) (ri_lst (rp_brw rfl)) (rc_p (n := (d5 D.int D.int D.int D.int D.int)) (m := D.int) (f := (fun (contact_25 : (Int × Int × Int × Int × Int)) => contact_25.2.2.2.2)) (fun contact_25 => ⟨_, rfl, (rp_idx (v := (D.int contact_25.2.2.2.2)) (rp_var rfl) rp_cst (by exact fun _ h => h))⟩))) (rx_nil (q_law_sum (chosen_22.map (fun (contact_25 : (Int × Int × Int × Int × Int)) => contact_25.2.2.2.2)))))) (fun a_26 => (rx_nil (fun k _ h => bk_max2 k h)))))) (fun _ => rfl) (fun best_27 => ?_)
        refine rk_nil ?_
        exact rk_nil (nx_i best_27 ((Sl.val (D.int code_11), Sl.val ((dL (d5 D.int D.int D.int D.int D.int)) chosen_22), Sl.val (D.int rest_23), z_24)))
      · refine rk_nil ?_
        exact rk_nil (nx_i best_4 ((Sl.val (D.int code_11), Sl.val ((dL (d5 D.int D.int D.int D.int D.int)) chosen_22), Sl.val (D.int rest_23), z_24)))
  · rintro best_28 ⟨z_29, z_30, z_31, z_32⟩
    show RK _ _ _ [Sl.val ((dL (d5 D.int D.int D.int D.int D.int)) contacts_1), Sl.val (D.int gap_2), Sl.val (D.bl mixed_3), Sl.val (D.int best_28), z_29, z_30, z_31, z_32] ((Rs.ok best_28)) _ _ _
    exact rk_retp (a := best_28) trivial (rp_var rfl)
end
end M
def fs_law_best : FS := fun ds k x => (∃ (contacts_1 : (List (Int × Int × Int × Int × Int))) (gap_2 : Int) (mixed_3 : Bool), ds = [(M.dL (M.d5 D.int D.int D.int D.int D.int)) contacts_1, D.int gap_2, D.bl mixed_3] ∧ (M.m_law_best contacts_1 gap_2 mixed_3).sat (fun v => k (D.int v)) x)
def C_law_best : Cal := { nm := "_law_best", ar := 3, dfl := [], fs := fs_law_best }
theorem w_law_best : ∀ ds kd kx, ds.length = 3 → fs_law_best ds kd kx → wpSs NM AT_ P_law_best G_law_best i_law_best (startR 8 ds) { nx := fun _ => kd .non, rt := kd, bk := fun _ => False, ct := fun _ => False, er := fun x _ => kx x } := by
  rintro ds kd kx hl (⟨contacts_1, gap_2, mixed_3, rfl, h⟩)
  · exact M.fin_f (c := c_law_best) (M.k_law_best contacts_1 gap_2 mixed_3) h
namespace M
open PySem PySem.Spec L2
noncomputable section
theorem q_law_best (contacts_1 : (List (Int × Int × Int × Int × Int))) (gap_2 : Int) (mixed_3 : Bool) : QF C_law_best D.int [(dL (d5 D.int D.int D.int D.int D.int)) contacts_1, D.int gap_2, D.bl mixed_3] (m_law_best contacts_1 gap_2 mixed_3) := fun k x h => ⟨contacts_1, gap_2, mixed_3, rfl, h⟩
local macro_rules | `(tactic| fail "rs16") => `(tactic| try simp (config := {decide := true, dsimp := false, implicitDefEqProofs := false}) only [mulR_ok, divR_ok, modR_ok, isqrtR_ok, rngR1_0, rngR1_1, rngR1_2, rngR1_3, rngR1_4, rngR1_5, rngR1_6, rngR_16, rngR_13, idxR_0, idxR_1, idxR_2, idxR_3, idxR_4, idxR_5, idxR_m1_1, idxR_m1_2, idxR_m1_3, idxR_last, pushR_ok, catR_ok, forC_nil, forC_cons, mapR_nil, mapR_cons, unO_some, mtO_none, mtO_some, minR_1, minR_2, minR_3, minR_4, maxR_1, maxR_2, maxR_3, maxR_4, andR_okk, orR_okk, andR_dec, orR_dec, andR_ok, orR_ok, iteR_not, iteR_nbl, cnd_t, cnd_f, iteR_ok, iteR_bl, decide_eq_true_eq, Rs.bind_ok, Rs.bind_er, Rs.bind_no, Rs.bind_assoc, noE_ok, List.nil_append, List.cons_append, List.length_cons, List.length_nil, Rs.sat_ok, Rs.sat_er, Rs.sat_no, if_true, if_false, reduceIte, Bool.false_eq_true, decide_true, decide_false, not_true_eq_false, not_false_eq_true, List.map_cons, List.map_nil, List.zip_cons_cons, List.zip_nil_left, List.zip_nil_right, Int.reduceAdd, Int.reduceSub, Int.reduceMul, Int.reduceMod, Int.reduceDiv, Int.reduceEq, Int.reduceNeg, Int.reduceLT, Int.reduceLE, Bool.not_true, Bool.not_false, Option.isSome_some, Option.isSome_none, Bool.and_true, Bool.true_and, Bool.and_false, Bool.false_and, Bool.or_false, Bool.or_true, Bool.false_or, Bool.true_or, reduceCtorEq, ne_eq, true_and, and_true, Int.zero_add, Int.add_zero, Int.sub_zero, m_check_ok, m_is_tick_ok, m_check_contacts_ok, m_check_gap_ok, m_best_by_ok, m_ready_ok, m_plan_table_ok, m_best_choice_ok, m_plan_ok, m_law_ready_ok, m_law_apart_ok, m_law_is_choice_ok, m_law_sum_ok])
open Classical in
theorem m_law_best_ex {l : List Ct} {g : Int} {mx : Bool} (hl : l.length ≤ 8) : ∃ v, m_law_best l g mx = .ok v ∧ IsBest mx g l v := by
  have inner : ∀ (r acc : List Ct) (c : Nat) (nx : List Ct × Int → Rs Int), acc.length + r.length ≤ 1000 → c < 256 → forC (fun a s nx bk => m_law_best_L2 a s.1 s.2 nx bk) nx r (acc, (c : Int)) = nx (acc ++ pk c r, ((c / 2 ^ r.length : Nat) : Int)) := by
    intro r
    induction r with
    | nil => intro acc c nx _ _; rw [List.length_nil, Nat.pow_zero, Nat.div_one]; unfold pk; rw [List.append_nil]; rfl
    | cons a r ih =>
      intro acc c nx hl hc
      rw [List.length_cons] at hl
      have bc : Bd (c : Int) 8 := bdOf (B := 255) 8 (by omega) (by omega)
      rw [forC_cons, m_law_best_L2, List.length_cons, Nat.pow_succ', ← Nat.div_div_eq_div_mul]
      unfold pk
      fail "rs16"
      by_cases z : (c : Int) % 2 = 1
      · rw [cnd_pos z, if_pos (by omega), pushR_ok (by dsimp only; omega), Rs.bind_ok, m_law_best_J1]
        fail "rs16"
        rw [show (c : Int) / 2 = ((c / 2 : Nat) : Int) by omega, ih _ _ _ (by simp only [List.length_append, List.length_cons, List.length_nil]; omega) (by omega), List.append_assoc]
        rfl
      · rw [cnd_neg z, if_neg (by omega), m_law_best_J1]
        fail "rs16"
        rw [show (c : Int) / 2 = ((c / 2 : Nat) : Int) by omega, ih _ _ _ (by omega) (by omega)]
  unfold m_law_best
  rw [rngR1_ok (by omega) (by omega), Rs.bind_ok]
  obtain ⟨s, ⟨i1, i2⟩, e⟩ := forC_exL (F := fun a s nx bk => m_law_best_L1 l g mx a s nx bk) (k := fun (s : Int) => (Rs.ok s)) (l := rngL 0 256) (s := 0) (I := fun k s => (∃ X, X.Sublist l ∧ Chs mx g X ∧ wgt X = s) ∧ ∀ c : Nat, c < k → c < 2 ^ l.length → Chs mx g (pk c l) → wgt (pk c l) ≤ s) (fun k s x hx hi => by
    obtain ⟨rfl, hxm⟩ := rngL_at hx
    have step : ∀ nx bk, m_law_best_L1 l g mx (k : Int) s nx bk = nx (if k < 2 ^ l.length ∧ Chs mx g (pk k l) then max s (wgt (pk k l)) else s) := by
      intro nx bk
      unfold m_law_best_L1
      rw [inner l [] k _ (by simp only [List.length_nil]; omega) (by omega), List.nil_append]
      unfold m_law_best_K1
      have pl := (pk_sub (l := l) (c := k)).length_le
      rw [m_law_is_choice_ok (by dsimp only; omega), m_law_sum_ok, Rs.bind_ok, Rs.bind_ok]
      have pz : ((k / 2 ^ l.length : Nat) : Int) = 0 ↔ k < 2 ^ l.length := by
        have : 0 < 2 ^ l.length := Nat.two_pow_pos _
        rw [Int.natCast_eq_zero, Nat.div_eq_zero_iff]
        omega
      by_cases z : k < 2 ^ l.length
      · rw [decide_eq_true (pz.mpr z)]
        by_cases y : Chs mx g (pk k l)
        · rw [decide_eq_true y, if_pos ⟨z, y⟩]
          rfl
        · rw [decide_eq_false y, if_neg (fun h => y h.2)]
          rfl
      · rw [decide_eq_false (fun h => z (pz.mp h)), if_neg (fun h => z h.1)]
        rfl
    refine ⟨_, ?_, step⟩
    by_cases z : k < 2 ^ l.length ∧ Chs mx g (pk k l)
    · rw [if_pos z]
      refine ⟨?_, fun c hc h1 h2 => ?_⟩
      · rcases Int.le_total s (wgt (pk k l)) with y | y
        · exact ⟨_, pk_sub, z.2, by omega⟩
        · obtain ⟨X, x1, x2, x3⟩ := hi.1
          exact ⟨X, x1, x2, by omega⟩
      · by_cases y : c = k
        · subst y; omega
        · have := hi.2 c (by omega) h1 h2; omega
    · rw [if_neg z]
      refine ⟨hi.1, fun c hc h1 h2 => ?_⟩
      by_cases y : c = k
      · subst y; exact absurd ⟨h1, h2⟩ z
      · exact hi.2 c (by omega) h1 h2) ⟨⟨[], List.nil_sublist _, .nil, rfl⟩, fun c hc => absurd hc (by omega)⟩
  refine ⟨s, e, i1, fun X hX hc => ?_⟩
  obtain ⟨c, c1, c2⟩ := pk_all hX
  subst c2
  refine i2 c ?_ c1 hc
  rw [rngL_len]
  have : 2 ^ l.length ≤ 2 ^ 8 := Nat.pow_le_pow_right (by decide) hl
  have e8 : 2 ^ 8 = 256 := rfl
  omega
end
end M
def i_law_2 : List S := .asg (.nm 3) (.call 1 [.var 0, .cst (.int 1), .bin .mod (.bin .fdiv (.var 1) (.cst (.int 7))) (.cst (.int 9)), .bin .add (.cst (.int 1)) (.bin .mod (.bin .fdiv (.var 1) (.cst (.int 9))) (.cst (.int 4)))]) :: [.ret (.cmp .eq (.idx (.call 2 [.blt .list [.var 3], .var 2]) (.cst (.int 1))) (.call 3 [.var 3, .var 2, .cst (.bl false)]))]
def i_law_1 : List S := .asg (.nm 2) (.idx (.lst [.cst (.int 0), .bin .mod (.bin .fdiv (.var 1) (.cst (.int 3))) (.cst (.int 10))]) (.bin .mod (.var 1) (.cst (.int 2)))) :: i_law_2
def i_law : List S := .asg (.nm 1) (.call 0 [.var 0, .cst (.int 0)]) :: i_law_1
abbrev G_law : List (Str × D) := []
abbrev P_law : List Cal := [C_law_row, C_law_contacts, C_plan, C_law_best]
abbrev c_law : M.Cx := ⟨NM, AT_, P_law, G_law, True⟩
namespace M
open PySem PySem.Spec L2
noncomputable section
def m_law (script_1 : (List Int)) : Rs Bool :=
  ((m_law_row script_1 (0:Int)).bind fun row_2 => (((((divR row_2 (3:Int)).bind fun a_3 => (modR a_3 (10:Int))).bind fun a_4 => (Rs.ok [(0:Int), a_4])).bind fun a_5 => ((modR row_2 (2:Int)).bind fun a_6 => (idxR a_5 a_6))).bind fun gap_7 => ((((divR row_2 (7:Int)).bind fun a_8 => (modR a_8 (9:Int))).bind fun a_11 => ((((divR row_2 (9:Int)).bind fun a_9 => (modR a_9 (4:Int))).bind fun a_10 => (Rs.ok ((1:Int) + a_10))).bind fun a_12 => (m_law_contacts script_1 (1:Int) a_11 a_12))).bind fun contacts_13 => (((m_plan contacts_13 gap_7).bind fun a_14 => (Rs.ok a_14.2.1)).bind fun a_15 => ((m_law_best contacts_13 gap_7 false).bind fun a_16 => (Rs.ok (decide (a_15 = a_16))))))))
theorem k_law (script_1 : (List Int)) : RK c_law D.bl i_law [Sl.val ((dR D.int) script_1), Sl.un, Sl.un, Sl.un] (m_law script_1) (NN D.bl) F0 F0 := by
  unfold m_law
  refine rk_asg (g := fun row_2 => [Sl.val ((dR D.int) script_1), Sl.val (D.int row_2), Sl.un, Sl.un]) (re_call (cal := C_law_row) (n := D.int) rfl (rx_p (rp_var rfl) (rx_p rp_cst (rx_nil (q_law_row script_1 (0:Int)))))) (fun _ => rfl) (fun row_2 => ?_)
  refine rk_asg (g := fun gap_7 => [Sl.val ((dR D.int) script_1), Sl.val (D.int row_2), Sl.val (D.int gap_7), Sl.un]) (re_idx (n := D.int) (rx_e (n := (dL D.int)) (re_lst (n := (dL D.int)) (rx_p rp_cst (rx_e (n := D.int) (re_bin (rx_e (n := D.int) (re_bin (rx_p (rp_var rfl) (rx_p rp_cst (rx_nil qb_fdiv)))) (fun a_3 => (rx_p rp_cst (rx_nil qb_mod))))) (fun a_4 => (rx_nil ⟨_, rfl, rfl⟩))))) (fun a_5 => (rx_e (n := D.int) (re_bin (rx_p (rp_var rfl) (rx_p rp_cst (rx_nil qb_mod)))) (fun a_6 => (rx_nil (qi_lst (n := D.int) (l := a_5)))))))) (fun _ => rfl) (fun gap_7 => ?_)
  refine rk_asg (g := fun contacts_13 => [Sl.val ((dR D.int) script_1), Sl.val (D.int row_2), Sl.val (D.int gap_7), Sl.val ((dL (d5 D.int D.int D.int D.int D.int)) contacts_13)]) (re_call (cal := C_law_contacts) (n := (dL (d5 D.int D.int D.int D.int D.int))) rfl (rx_p (rp_var rfl) (rx_p rp_cst (rx_e (n := D.int) (re_bin (rx_e (n := D.int) (re_bin (rx_p (rp_var rfl) (rx_p rp_cst (rx_nil qb_fdiv)))) (fun a_8 => (rx_p rp_cst (rx_nil qb_mod))))) (fun a_11 => (rx_e (n := D.int) (re_bin (rx_p rp_cst (rx_e (n := D.int) (re_bin (rx_e (n := D.int) (re_bin (rx_p (rp_var rfl) (rx_p rp_cst (rx_nil qb_fdiv)))) (fun a_9 => (rx_p rp_cst (rx_nil qb_mod))))) (fun a_10 => (rx_nil qb_add))))) (fun a_12 => (rx_nil (q_law_contacts script_1 (1:Int) a_11 a_12))))))))) (fun _ => rfl) (fun contacts_13 => ?_)
  exact rk_ret trivial (re_cmp (rt_cmp (rx_e (n := D.int) (re_idx (n := D.int) (rx_e (n := (d3 (dL (d5 D.int D.int D.int D.int D.int)) D.int (dL dIv))) (re_call (cal := C_plan) (n := (d3 (dL (d5 D.int D.int D.int D.int D.int)) D.int (dL dIv))) rfl (rx_p (rp_blt (v := ((dL (d5 D.int D.int D.int D.int D.int)) contacts_13)) (rps_cons (rp_var rfl) rps_nil) (fun _ h => h)) (rx_p (rp_var rfl) (rx_nil (q_plan contacts_13 gap_7))))) (fun a_14 => (rx_p rp_cst (rx_nil (fun _ _ h => h)))))) (fun a_15 => (rx_e (n := D.int) (re_call (cal := C_law_best) (n := D.int) rfl (rx_p (rp_var rfl) (rx_p (rp_var rfl) (rx_p rp_cst (rx_nil (q_law_best contacts_13 gap_7 false)))))) (fun a_16 => (rx_nil (qc (fun _ h => h)))))))))
end
end M
abbrev fs_law : FS := fsLaw
def C_law : Cal := { nm := "law", ar := 1, dfl := [], fs := fs_law }
namespace M
open PySem PySem.Spec L2
noncomputable section
local macro_rules | `(tactic| fail "rs17") => `(tactic| try simp (config := {decide := true, dsimp := false, implicitDefEqProofs := false}) only [mulR_ok, divR_ok, modR_ok, isqrtR_ok, rngR1_0, rngR1_1, rngR1_2, rngR1_3, rngR1_4, rngR1_5, rngR1_6, rngR_16, rngR_13, idxR_0, idxR_1, idxR_2, idxR_3, idxR_4, idxR_5, idxR_m1_1, idxR_m1_2, idxR_m1_3, idxR_last, pushR_ok, catR_ok, forC_nil, forC_cons, mapR_nil, mapR_cons, unO_some, mtO_none, mtO_some, minR_1, minR_2, minR_3, minR_4, maxR_1, maxR_2, maxR_3, maxR_4, andR_okk, orR_okk, andR_dec, orR_dec, andR_ok, orR_ok, iteR_not, iteR_nbl, cnd_t, cnd_f, iteR_ok, iteR_bl, decide_eq_true_eq, Rs.bind_ok, Rs.bind_er, Rs.bind_no, Rs.bind_assoc, noE_ok, List.nil_append, List.cons_append, List.length_cons, List.length_nil, Rs.sat_ok, Rs.sat_er, Rs.sat_no, if_true, if_false, reduceIte, Bool.false_eq_true, decide_true, decide_false, not_true_eq_false, not_false_eq_true, List.map_cons, List.map_nil, List.zip_cons_cons, List.zip_nil_left, List.zip_nil_right, Int.reduceAdd, Int.reduceSub, Int.reduceMul, Int.reduceMod, Int.reduceDiv, Int.reduceEq, Int.reduceNeg, Int.reduceLT, Int.reduceLE, Bool.not_true, Bool.not_false, Option.isSome_some, Option.isSome_none, Bool.and_true, Bool.true_and, Bool.and_false, Bool.false_and, Bool.or_false, Bool.or_true, Bool.false_or, Bool.true_or, reduceCtorEq, ne_eq, true_and, and_true, Int.zero_add, Int.add_zero, Int.sub_zero, m_check_ok, m_is_tick_ok, m_check_contacts_ok, m_check_gap_ok, m_best_by_ok, m_ready_ok, m_plan_table_ok, m_best_choice_ok, m_plan_ok, m_law_ready_ok, m_law_apart_ok, m_law_is_choice_ok, m_law_sum_ok])
theorem law_true (ns : List Int) (h1 : ns.length ≤ 63) (h2 : ∀ z ∈ ns, Builtin.Int.intBits z ≤ 1048576) : (m_law ns).sat (fun v => v = true) (fun _ => False) := by
  obtain ⟨r, er, hr, br⟩ := m_law_row_ex (ns := ns) (k := 0) (by omega) (by omega) h2
  unfold m_law
  rw [er, Rs.bind_ok]
  fail "rs17"
  obtain ⟨g, eg, hg⟩ : ∃ g, idxR [0, r / 3 % 10] (r % 2) = .ok g ∧ 0 ≤ g ∧ g ≤ 100000 := by
    obtain ⟨z, hz, hm⟩ := idxR_ex (l := [0, r / 3 % 10]) (i := r % 2) (by omega) (by simp only [List.length_cons, List.length_nil]; omega)
    refine ⟨z, hz, ?_⟩
    simp only [List.mem_cons, List.not_mem_nil, or_false] at hm
    omega
  obtain ⟨l, el, hl, hc⟩ := m_law_contacts_ex (ns := ns) (m := r / 7 % 9) (n := 1 + r / 9 % 4) (by omega) (by omega) (by omega) (by omega) h2
  have lc : CtsOk l := fun c m => (hc c m).ok
  obtain ⟨v, ev, bv⟩ := m_law_best_ex (l := l) (g := g) (mx := false) (by omega)
  rw [eg, Rs.bind_ok]
  fail "rs17"
  rw [el, Rs.bind_ok, m_plan_ok (by omega) lc hg, Rs.bind_ok, Rs.bind_ok, ev, Rs.bind_ok]
  exact decide_eq_true ((tbl_best hg.1 lc).uniq bv)
end
end M
theorem w_law : ∀ ds kd kx, ds.length = 1 → fs_law ds kd kx → wpSs NM AT_ P_law G_law i_law (startR 4 ds) { nx := fun _ => kd .non, rt := kd, bk := fun _ => False, ct := fun _ => False, er := fun x _ => kx x } := by
  rintro ds kd kx hl ⟨ns, rfl, h1, h2, h3⟩
  exact M.fin_f (c := c_law) (M.k_law ns) (M.Rs.sat_mono (M.law_true ns h1 h2) (fun v e => by rw [e]; exact h3) fun _ z => z.elim)
abbrev HD (w : World) (K : PySem.W.Frag) (mg : Str → Option Value) : Prop := Hd fa fn fb NM.kds w K mg
theorem sc_law_row : FnScope ["_law_script", "_law_k", "_law_row_here"] ["_law_script", "_law_k"] (defScope st_law_row) := ⟨rfl, rfl, rfl, by decide +kernel, rfl, by decide +kernel, by decide +kernel⟩
theorem ch_law_row : chSs NM ["_law_script", "_law_k", "_law_row_here"] BB P_law_row G_law_row i_law_row (defScope st_law_row) (defBody st_law_row) = true := by decide +kernel
theorem sc_law_contacts : FnScope ["_law_script", "_law_k", "_law_many", "_law_numbers", "_law_contacts_here", "_law_j", "_law_row_here", "_law_begin", "_law_end", "_law_weight"] ["_law_script", "_law_k", "_law_many", "_law_numbers"] (defScope st_law_contacts) := ⟨rfl, rfl, rfl, by decide +kernel, rfl, by decide +kernel, by decide +kernel⟩
theorem ch_law_contacts : chSs NM ["_law_script", "_law_k", "_law_many", "_law_numbers", "_law_contacts_here", "_law_j", "_law_row_here", "_law_begin", "_law_end", "_law_weight"] BB P_law_contacts G_law_contacts i_law_contacts (defScope st_law_contacts) (defBody st_law_contacts) = true := by decide +kernel
theorem sc_check : FnScope ["good", "name"] ["good", "name"] (defScope st_check) := ⟨rfl, rfl, rfl, by decide +kernel, rfl, by decide +kernel, by decide +kernel⟩
theorem ch_check : chSs NM ["good", "name"] BB P_check G_check i_check (defScope st_check) (defBody st_check) = true := by decide +kernel
theorem sc_is_tick : FnScope ["number"] ["number"] (defScope st_is_tick) := ⟨rfl, rfl, rfl, by decide +kernel, rfl, by decide +kernel, by decide +kernel⟩
theorem ch_is_tick : chSs NM ["number"] BB P_is_tick G_is_tick i_is_tick (defScope st_is_tick) (defBody st_is_tick) = true := by decide +kernel
theorem sc_check_contacts : FnScope ["contacts", "most", "craft", "site", "begin", "end", "weight"] ["contacts", "most"] (defScope st_check_contacts) := ⟨rfl, rfl, rfl, by decide +kernel, rfl, by decide +kernel, by decide +kernel⟩
theorem ch_check_contacts : chSs NM ["contacts", "most", "craft", "site", "begin", "end", "weight"] BB P_check_contacts G_check_contacts i_check_contacts (defScope st_check_contacts) (defBody st_check_contacts) = true := by decide +kernel
theorem sc_check_gap : FnScope ["gap"] ["gap"] (defScope st_check_gap) := ⟨rfl, rfl, rfl, by decide +kernel, rfl, by decide +kernel, by decide +kernel⟩
theorem ch_check_gap : chSs NM ["gap"] BB P_check_gap G_check_gap i_check_gap (defScope st_check_gap) (defBody st_check_gap) = true := by decide +kernel
theorem sc_end_of : FnScope ["contact"] ["contact"] (defScope st_end_of) := ⟨rfl, rfl, rfl, by decide +kernel, rfl, by decide +kernel, by decide +kernel⟩
theorem ch_end_of : chSs NM ["contact"] BB P_end_of G_end_of i_end_of (defScope st_end_of) (defBody st_end_of) = true := by decide +kernel
theorem sc_best_by : FnScope ["table", "tick", "weight", "choice", "time", "found_weight", "found_choice"] ["table", "tick"] (defScope st_best_by) := ⟨rfl, rfl, rfl, by decide +kernel, rfl, by decide +kernel, by decide +kernel⟩
theorem ch_best_by : chSs NM ["table", "tick", "weight", "choice", "time", "found_weight", "found_choice"] BB P_best_by G_best_by i_best_by (defScope st_best_by) (defBody st_best_by) = true := by decide +kernel
theorem sc_ready : FnScope ["contact", "gap"] ["contact", "gap"] (defScope st_ready) := ⟨rfl, rfl, rfl, by decide +kernel, rfl, by decide +kernel, by decide +kernel⟩
theorem ch_ready : chSs NM ["contact", "gap"] BB P_ready G_ready i_ready (defScope st_ready) (defBody st_ready) = true := by decide +kernel
theorem sc_plan_table : FnScope ["contacts", "gap", "table", "contact", "weight", "choice"] ["contacts", "gap"] (defScope st_plan_table) := ⟨rfl, rfl, rfl, by decide +kernel, rfl, by decide +kernel, by decide +kernel⟩
theorem ch_plan_table : chSs NM ["contacts", "gap", "table", "contact", "weight", "choice"] BB P_plan_table G_plan_table i_plan_table (defScope st_plan_table) (defBody st_plan_table) = true := by decide +kernel
theorem sc_best_choice : FnScope ["contacts", "gap", "table", "prices", "before", "tick", "weight", "choice"] ["contacts", "gap"] (defScope st_best_choice) := ⟨rfl, rfl, rfl, by decide +kernel, rfl, by decide +kernel, by decide +kernel⟩
theorem ch_best_choice : chSs NM ["contacts", "gap", "table", "prices", "before", "tick", "weight", "choice"] BB P_best_choice G_best_choice i_best_choice (defScope st_best_choice) (defBody st_best_choice) = true := by decide +kernel
theorem sc_plan : FnScope ["contacts", "gap"] ["contacts", "gap"] (defScope st_plan) := ⟨rfl, rfl, rfl, by decide +kernel, rfl, by decide +kernel, by decide +kernel⟩
theorem ch_plan : chSs NM ["contacts", "gap"] BB P_plan G_plan i_plan (defScope st_plan) (defBody st_plan) = true := by decide +kernel
theorem sc_law_ready : FnScope ["_law_contact", "_law_gap"] ["_law_contact", "_law_gap"] (defScope st_law_ready) := ⟨rfl, rfl, rfl, by decide +kernel, rfl, by decide +kernel, by decide +kernel⟩
theorem ch_law_ready : chSs NM ["_law_contact", "_law_gap"] BB P_law_ready G_law_ready i_law_ready (defScope st_law_ready) (defBody st_law_ready) = true := by decide +kernel
theorem sc_law_apart : FnScope ["_law_one", "_law_other", "_law_gap"] ["_law_one", "_law_other", "_law_gap"] (defScope st_law_apart) := ⟨rfl, rfl, rfl, by decide +kernel, rfl, by decide +kernel, by decide +kernel⟩
theorem ch_law_apart : chSs NM ["_law_one", "_law_other", "_law_gap"] BB P_law_apart G_law_apart i_law_apart (defScope st_law_apart) (defBody st_law_apart) = true := by decide +kernel
theorem sc_law_is_choice : FnScope ["_law_chosen", "_law_gap", "_law_mixed", "_law_j", "_law_i", "_law_one", "_law_other", "_law_free"] ["_law_chosen", "_law_gap", "_law_mixed"] (defScope st_law_is_choice) := ⟨rfl, rfl, rfl, by decide +kernel, rfl, by decide +kernel, by decide +kernel⟩
theorem ch_law_is_choice : chSs NM ["_law_chosen", "_law_gap", "_law_mixed", "_law_j", "_law_i", "_law_one", "_law_other", "_law_free"] BB P_law_is_choice G_law_is_choice i_law_is_choice (defScope st_law_is_choice) (defBody st_law_is_choice) = true := by decide +kernel
theorem sc_law_sum : FnScope ["_law_numbers", "_law_total", "_law_number"] ["_law_numbers"] (defScope st_law_sum) := ⟨rfl, rfl, rfl, by decide +kernel, rfl, by decide +kernel, by decide +kernel⟩
theorem ch_law_sum : chSs NM ["_law_numbers", "_law_total", "_law_number"] BB P_law_sum G_law_sum i_law_sum (defScope st_law_sum) (defBody st_law_sum) = true := by decide +kernel
theorem sc_law_best : FnScope ["_law_contacts_here", "_law_gap", "_law_mixed", "_law_best_here", "_law_code", "_law_chosen", "_law_rest", "_law_contact"] ["_law_contacts_here", "_law_gap", "_law_mixed"] (defScope st_law_best) := ⟨rfl, rfl, rfl, by decide +kernel, rfl, by decide +kernel, by decide +kernel⟩
theorem ch_law_best : chSs NM ["_law_contacts_here", "_law_gap", "_law_mixed", "_law_best_here", "_law_code", "_law_chosen", "_law_rest", "_law_contact"] BB P_law_best G_law_best i_law_best (defScope st_law_best) (defBody st_law_best) = true := by decide +kernel
theorem sc_law : FnScope ["_law_script", "_law_row_here", "_law_gap", "_law_contacts_here"] ["_law_script"] (defScope st_law) := ⟨rfl, rfl, rfl, by decide +kernel, rfl, by decide +kernel, by decide +kernel⟩
theorem ch_law : chSs NM ["_law_script", "_law_row_here", "_law_gap", "_law_contacts_here"] BB P_law G_law i_law (defScope st_law) (defBody st_law) = true := by decide +kernel
section
variable {P : Program} {w : World} {K : PySem.W.Frag} {mg : Str → Option Value} {base : Heap}
theorem ge (hh : HD w K mg) (G : List (Str × D)) (hG : ∀ p, p ∈ G → gloD p K = true) (hN : G.all (fun p => kdN NM p.2) = true) : GE P w K mg NM BB G AT_ := hh.ge (file := "") (by decide +kernel) (fun h => absurd h (by decide +kernel)) hG hN (by decide +kernel) rfl (.inl rfl)
theorem e_law_row (hh : HD w K mg) : CalE P w K mg base NM 1 C_law_row := by
  obtain ⟨fd, F⟩ := hh.def_ 0 (d := d_law_row)
  have b := F.bindsN (ps := ["_law_script", "_law_k"]) fun _ _ _ _ _ _ us hl => match us, hl with | [_, _], _ => rfl
  have ok := def_ok (P := P) (w := w) (base := base) (k := 0) NMinj F sc_law_row (ge hh G_law_row (fun p h => (nomatch h)) (by decide +kernel)) (Φ := P_law_row) (fun c h => (nomatch h)) ch_law_row w_law_row
  exact ⟨fun _ _ => ⟨1, _, fd, _, [], [], by decide +kernel, ok, ⟨hh.glo 0, rfl⟩, F.kp, b, .nil, fun _ => .nil⟩, fun h => absurd h (by decide +kernel), fun h => absurd rfl h, fun _ h => absurd h (by decide +kernel), fun h => absurd rfl h⟩
theorem e_law_contacts (hh : HD w K mg) : CalE P w K mg base NM 2 C_law_contacts := by
  obtain ⟨fd, F⟩ := hh.def_ 1 (d := d_law_contacts)
  have b := F.bindsN (ps := ["_law_script", "_law_k", "_law_many", "_law_numbers"]) fun _ _ _ _ _ _ us hl => match us, hl with | [_, _, _, _], _ => rfl
  have ok := def_ok (P := P) (w := w) (base := base) (k := 1) NMinj F sc_law_contacts (ge hh G_law_contacts (fun p h => (nomatch h)) (by decide +kernel)) (Φ := P_law_contacts) (fun c h => by
    simp only [P_law_contacts, List.mem_cons, List.not_mem_nil, or_false] at h
    rcases h with rfl
    · exact (e_law_row hh).mono (by decide)) ch_law_contacts w_law_contacts
  exact ⟨fun _ _ => ⟨2, _, fd, _, [], [], by decide +kernel, ok, ⟨hh.glo 1, rfl⟩, F.kp, b, .nil, fun _ => .nil⟩, fun h => absurd h (by decide +kernel), fun h => absurd rfl h, fun _ h => absurd h (by decide +kernel), fun h => absurd rfl h⟩
theorem e_check (hh : HD w K mg) : CalE P w K mg base NM 1 C_check := by
  obtain ⟨fd, F⟩ := hh.def_ 2 (d := d_check)
  have b := F.bindsN (ps := ["good", "name"]) fun _ _ _ _ _ _ us hl => match us, hl with | [_, _], _ => rfl
  have ok := def_ok (P := P) (w := w) (base := base) (k := 0) NMinj F sc_check (ge hh G_check (fun p h => (nomatch h)) (by decide +kernel)) (Φ := P_check) (fun c h => (nomatch h)) ch_check w_check
  exact ⟨fun _ _ => ⟨1, _, fd, _, [], [], by decide +kernel, ok, ⟨hh.glo 2, rfl⟩, F.kp, b, .nil, fun _ => .nil⟩, fun h => absurd h (by decide +kernel), fun h => absurd rfl h, fun _ h => absurd h (by decide +kernel), fun h => absurd rfl h⟩
theorem e_is_tick (hh : HD w K mg) : CalE P w K mg base NM 1 C_is_tick := by
  obtain ⟨fd, F⟩ := hh.def_ 3 (d := d_is_tick)
  have b := F.bindsN (ps := ["number"]) fun _ _ _ _ _ _ us hl => match us, hl with | [_], _ => rfl
  have ok := def_ok (P := P) (w := w) (base := base) (k := 0) NMinj F sc_is_tick (ge hh G_is_tick (fun p h => by
    simp only [G_is_tick, List.mem_cons, List.not_mem_nil, or_false] at h
    rcases h with rfl
    · exact hh.says.b 0 rfl) (by decide +kernel)) (Φ := P_is_tick) (fun c h => (nomatch h)) ch_is_tick w_is_tick
  exact ⟨fun _ _ => ⟨1, _, fd, _, [], [], by decide +kernel, ok, ⟨hh.glo 3, rfl⟩, F.kp, b, .nil, fun _ => .nil⟩, fun h => absurd h (by decide +kernel), fun h => absurd rfl h, fun _ h => absurd h (by decide +kernel), fun h => absurd rfl h⟩
theorem e_check_contacts (hh : HD w K mg) : CalE P w K mg base NM 2 C_check_contacts := by
  obtain ⟨fd, F⟩ := hh.def_ 4 (d := d_check_contacts)
  have b := F.bindsN (ps := ["contacts", "most"]) fun _ _ _ _ _ _ us hl => match us, hl with | [_, _], _ => rfl
  have ok := def_ok (P := P) (w := w) (base := base) (k := 1) NMinj F sc_check_contacts (ge hh G_check_contacts (fun p h => by
    simp only [G_check_contacts, List.mem_cons, List.not_mem_nil, or_false] at h
    rcases h with rfl | rfl
    · exact hh.says.b 0 rfl
    · exact hh.says.b 1 rfl) (by decide +kernel)) (Φ := P_check_contacts) (fun c h => by
    simp only [P_check_contacts, List.mem_cons, List.not_mem_nil, or_false] at h
    rcases h with rfl | rfl
    · exact (e_check hh).mono (by decide)
    · exact (e_is_tick hh).mono (by decide)) ch_check_contacts w_check_contacts
  exact ⟨fun _ _ => ⟨2, _, fd, _, [], [], by decide +kernel, ok, ⟨hh.glo 4, rfl⟩, F.kp, b, .nil, fun _ => .nil⟩, fun h => absurd h (by decide +kernel), fun h => absurd rfl h, fun _ h => absurd h (by decide +kernel), fun h => absurd rfl h⟩
theorem e_check_gap (hh : HD w K mg) : CalE P w K mg base NM 2 C_check_gap := by
  obtain ⟨fd, F⟩ := hh.def_ 5 (d := d_check_gap)
  have b := F.bindsN (ps := ["gap"]) fun _ _ _ _ _ _ us hl => match us, hl with | [_], _ => rfl
  have ok := def_ok (P := P) (w := w) (base := base) (k := 1) NMinj F sc_check_gap (ge hh G_check_gap (fun p h => (nomatch h)) (by decide +kernel)) (Φ := P_check_gap) (fun c h => by
    simp only [P_check_gap, List.mem_cons, List.not_mem_nil, or_false] at h
    rcases h with rfl | rfl
    · exact (e_check hh).mono (by decide)
    · exact (e_is_tick hh).mono (by decide)) ch_check_gap w_check_gap
  exact ⟨fun _ _ => ⟨2, _, fd, _, [], [], by decide +kernel, ok, ⟨hh.glo 5, rfl⟩, F.kp, b, .nil, fun _ => .nil⟩, fun h => absurd h (by decide +kernel), fun h => absurd rfl h, fun _ h => absurd h (by decide +kernel), fun h => absurd rfl h⟩
theorem e_end_of (hh : HD w K mg) : CalE P w K mg base NM 3 C_end_of := by
  obtain ⟨fd, F⟩ := hh.def_ 6 (d := d_end_of)
  have b := F.bindsN (ps := ["contact"]) fun _ _ _ _ _ _ us hl => match us, hl with | [_], _ => rfl
  have ok := def_ok (P := P) (w := w) (base := base) (k := 0) NMinj F sc_end_of (ge hh G_end_of (fun p h => (nomatch h)) (by decide +kernel)) (Φ := P_end_of) (fun c h => (nomatch h)) ch_end_of w_end_of
  exact ⟨fun _ _ => ⟨1, _, fd, _, [], [], by decide +kernel, ok, ⟨hh.glo 6, rfl⟩, F.kp, b, .nil, fun _ => .nil⟩, fun h => absurd h (by decide +kernel), fun h => absurd rfl h, fun _ h => absurd h (by decide +kernel), fun h => absurd rfl h⟩
theorem e_best_by (hh : HD w K mg) : CalE P w K mg base NM 1 C_best_by := by
  obtain ⟨fd, F⟩ := hh.def_ 7 (d := d_best_by)
  have b := F.bindsN (ps := ["table", "tick"]) fun _ _ _ _ _ _ us hl => match us, hl with | [_, _], _ => rfl
  have ok := def_okB (P := P) (w := w) (base := base) (k := 0) NMinj F sc_best_by (ge hh G_best_by (fun p h => (nomatch h)) (by decide +kernel)) (Φ := P_best_by) (fun c h => (nomatch h)) ch_best_by w_best_by
  exact ⟨fun _ h => absurd h (by decide +kernel), fun h => absurd h (by decide +kernel), fun h => absurd rfl h, fun _ _ => ⟨1, _, fd, _, [], [], by decide, ok, ⟨hh.glo 7, rfl⟩, F.kp, b, .nil, fun _ => .nil⟩, fun h => absurd rfl h⟩
theorem e_ready (hh : HD w K mg) : CalE P w K mg base NM 1 C_ready := by
  obtain ⟨fd, F⟩ := hh.def_ 8 (d := d_ready)
  have b := F.bindsN (ps := ["contact", "gap"]) fun _ _ _ _ _ _ us hl => match us, hl with | [_, _], _ => rfl
  have ok := def_ok (P := P) (w := w) (base := base) (k := 0) NMinj F sc_ready (ge hh G_ready (fun p h => (nomatch h)) (by decide +kernel)) (Φ := P_ready) (fun c h => (nomatch h)) ch_ready w_ready
  exact ⟨fun _ _ => ⟨1, _, fd, _, [], [], by decide +kernel, ok, ⟨hh.glo 8, rfl⟩, F.kp, b, .nil, fun _ => .nil⟩, fun h => absurd h (by decide +kernel), fun h => absurd rfl h, fun _ h => absurd h (by decide +kernel), fun h => absurd rfl h⟩
theorem e_plan_table (hh : HD w K mg) : CalE P w K mg base NM 4 C_plan_table := by
  obtain ⟨fd, F⟩ := hh.def_ 9 (d := d_plan_table)
  have b := F.bindsN (ps := ["contacts", "gap"]) fun _ _ _ _ _ _ us hl => match us, hl with | [_, _], _ => rfl
  have ok := def_ok (P := P) (w := w) (base := base) (k := 3) NMinj F sc_plan_table (ge hh G_plan_table (fun p h => (nomatch h)) (by decide +kernel)) (Φ := P_plan_table) (fun c h => by
    simp only [P_plan_table, List.mem_cons, List.not_mem_nil, or_false] at h
    rcases h with rfl | rfl | rfl
    · exact (e_end_of hh).mono (by decide)
    · exact (e_best_by hh).mono (by decide)
    · exact (e_ready hh).mono (by decide)) ch_plan_table w_plan_table
  exact ⟨fun _ _ => ⟨4, _, fd, _, [], [], by decide +kernel, ok, ⟨hh.glo 9, rfl⟩, F.kp, b, .nil, fun _ => .nil⟩, fun h => absurd h (by decide +kernel), fun h => absurd rfl h, fun _ h => absurd h (by decide +kernel), fun h => absurd rfl h⟩
theorem e_best_choice (hh : HD w K mg) : CalE P w K mg base NM 5 C_best_choice := by
  obtain ⟨fd, F⟩ := hh.def_ 10 (d := d_best_choice)
  have b := F.bindsN (ps := ["contacts", "gap"]) fun _ _ _ _ _ _ us hl => match us, hl with | [_, _], _ => rfl
  have ok := def_ok (P := P) (w := w) (base := base) (k := 4) NMinj F sc_best_choice (ge hh G_best_choice (fun p h => (nomatch h)) (by decide +kernel)) (Φ := P_best_choice) (fun c h => by
    simp only [P_best_choice, List.mem_cons, List.not_mem_nil, or_false] at h
    rcases h with rfl
    · exact (e_plan_table hh).mono (by decide)) ch_best_choice w_best_choice
  exact ⟨fun _ _ => ⟨5, _, fd, _, [], [], by decide +kernel, ok, ⟨hh.glo 10, rfl⟩, F.kp, b, .nil, fun _ => .nil⟩, fun h => absurd h (by decide +kernel), fun h => absurd rfl h, fun _ h => absurd h (by decide +kernel), fun h => absurd rfl h⟩
theorem e_plan (hh : HD w K mg) : CalE P w K mg base NM 6 C_plan := by
  obtain ⟨fd, F⟩ := hh.def_ 11 (d := d_plan)
  have b := F.bindsN (ps := ["contacts", "gap"]) fun _ _ _ _ _ _ us hl => match us, hl with | [_, _], _ => rfl
  have ok := def_ok (P := P) (w := w) (base := base) (k := 5) NMinj F sc_plan (ge hh G_plan (fun p h => by
    simp only [G_plan, List.mem_cons, List.not_mem_nil, or_false] at h
    rcases h with rfl
    · exact hh.says.b 2 rfl) (by decide +kernel)) (Φ := P_plan) (fun c h => by
    simp only [P_plan, List.mem_cons, List.not_mem_nil, or_false] at h
    rcases h with rfl | rfl | rfl
    · exact (e_check_contacts hh).mono (by decide)
    · exact (e_check_gap hh).mono (by decide)
    · exact (e_best_choice hh).mono (by decide)) ch_plan w_plan
  exact ⟨fun _ _ => ⟨6, _, fd, _, [], [], by decide +kernel, ok, ⟨hh.glo 11, rfl⟩, F.kp, b, .nil, fun _ => .nil⟩, fun h => absurd h (by decide +kernel), fun h => absurd rfl h, fun _ h => absurd h (by decide +kernel), fun h => absurd rfl h⟩
theorem e_law_ready (hh : HD w K mg) : CalE P w K mg base NM 1 C_law_ready := by
  obtain ⟨fd, F⟩ := hh.def_ 12 (d := d_law_ready)
  have b := F.bindsN (ps := ["_law_contact", "_law_gap"]) fun _ _ _ _ _ _ us hl => match us, hl with | [_, _], _ => rfl
  have ok := def_ok (P := P) (w := w) (base := base) (k := 0) NMinj F sc_law_ready (ge hh G_law_ready (fun p h => (nomatch h)) (by decide +kernel)) (Φ := P_law_ready) (fun c h => (nomatch h)) ch_law_ready w_law_ready
  exact ⟨fun _ _ => ⟨1, _, fd, _, [], [], by decide +kernel, ok, ⟨hh.glo 12, rfl⟩, F.kp, b, .nil, fun _ => .nil⟩, fun h => absurd h (by decide +kernel), fun h => absurd rfl h, fun _ h => absurd h (by decide +kernel), fun h => absurd rfl h⟩
theorem e_law_apart (hh : HD w K mg) : CalE P w K mg base NM 2 C_law_apart := by
  obtain ⟨fd, F⟩ := hh.def_ 13 (d := d_law_apart)
  have b := F.bindsN (ps := ["_law_one", "_law_other", "_law_gap"]) fun _ _ _ _ _ _ us hl => match us, hl with | [_, _, _], _ => rfl
  have ok := def_ok (P := P) (w := w) (base := base) (k := 1) NMinj F sc_law_apart (ge hh G_law_apart (fun p h => (nomatch h)) (by decide +kernel)) (Φ := P_law_apart) (fun c h => by
    simp only [P_law_apart, List.mem_cons, List.not_mem_nil, or_false] at h
    rcases h with rfl
    · exact (e_law_ready hh).mono (by decide)) ch_law_apart w_law_apart
  exact ⟨fun _ _ => ⟨2, _, fd, _, [], [], by decide +kernel, ok, ⟨hh.glo 13, rfl⟩, F.kp, b, .nil, fun _ => .nil⟩, fun h => absurd h (by decide +kernel), fun h => absurd rfl h, fun _ h => absurd h (by decide +kernel), fun h => absurd rfl h⟩
theorem e_law_is_choice (hh : HD w K mg) : CalE P w K mg base NM 3 C_law_is_choice := by
  obtain ⟨fd, F⟩ := hh.def_ 14 (d := d_law_is_choice)
  have b := F.bindsN (ps := ["_law_chosen", "_law_gap", "_law_mixed"]) fun _ _ _ _ _ _ us hl => match us, hl with | [_, _, _], _ => rfl
  have ok := def_ok (P := P) (w := w) (base := base) (k := 2) NMinj F sc_law_is_choice (ge hh G_law_is_choice (fun p h => (nomatch h)) (by decide +kernel)) (Φ := P_law_is_choice) (fun c h => by
    simp only [P_law_is_choice, List.mem_cons, List.not_mem_nil, or_false] at h
    rcases h with rfl
    · exact (e_law_apart hh).mono (by decide)) ch_law_is_choice w_law_is_choice
  exact ⟨fun _ _ => ⟨3, _, fd, _, [], [], by decide +kernel, ok, ⟨hh.glo 14, rfl⟩, F.kp, b, .nil, fun _ => .nil⟩, fun h => absurd h (by decide +kernel), fun h => absurd rfl h, fun _ h => absurd h (by decide +kernel), fun h => absurd rfl h⟩
theorem e_law_sum (hh : HD w K mg) : CalE P w K mg base NM 1 C_law_sum := by
  obtain ⟨fd, F⟩ := hh.def_ 15 (d := d_law_sum)
  have b := F.bindsN (ps := ["_law_numbers"]) fun _ _ _ _ _ _ us hl => match us, hl with | [_], _ => rfl
  have ok := def_ok (P := P) (w := w) (base := base) (k := 0) NMinj F sc_law_sum (ge hh G_law_sum (fun p h => (nomatch h)) (by decide +kernel)) (Φ := P_law_sum) (fun c h => (nomatch h)) ch_law_sum w_law_sum
  exact ⟨fun _ _ => ⟨1, _, fd, _, [], [], by decide +kernel, ok, ⟨hh.glo 15, rfl⟩, F.kp, b, .nil, fun _ => .nil⟩, fun h => absurd h (by decide +kernel), fun h => absurd rfl h, fun _ h => absurd h (by decide +kernel), fun h => absurd rfl h⟩
theorem e_law_best (hh : HD w K mg) : CalE P w K mg base NM 4 C_law_best := by
  obtain ⟨fd, F⟩ := hh.def_ 16 (d := d_law_best)
  have b := F.bindsN (ps := ["_law_contacts_here", "_law_gap", "_law_mixed"]) fun _ _ _ _ _ _ us hl => match us, hl with | [_, _, _], _ => rfl
  have ok := def_ok (P := P) (w := w) (base := base) (k := 3) NMinj F sc_law_best (ge hh G_law_best (fun p h => (nomatch h)) (by decide +kernel)) (Φ := P_law_best) (fun c h => by
    simp only [P_law_best, List.mem_cons, List.not_mem_nil, or_false] at h
    rcases h with rfl | rfl
    · exact (e_law_is_choice hh).mono (by decide)
    · exact (e_law_sum hh).mono (by decide)) ch_law_best w_law_best
  exact ⟨fun _ _ => ⟨4, _, fd, _, [], [], by decide +kernel, ok, ⟨hh.glo 16, rfl⟩, F.kp, b, .nil, fun _ => .nil⟩, fun h => absurd h (by decide +kernel), fun h => absurd rfl h, fun _ h => absurd h (by decide +kernel), fun h => absurd rfl h⟩
end
end Q
open PySem PySem.W PySem.Calls PyProof.Rows
theorem PySem.Challenge.cw_orrery_k48_whole_plans_weigh_most_holds : PySem.Challenge.rw_orrery_k48_whole_plans_weigh_most.Holds := by
  w_on; o_law
  refine HandSHeadRun.head_any (r := OpenLaw.row PySem.Challenge.rw_orrery_k48_whole_plans_weigh_most) (q := view (OpenLaw.row PySem.Challenge.rw_orrery_k48_whole_plans_weigh_most).prog [26]) (H := Q.hk) (ob := Q.ob) (M := 12000) (loose := Q.oth) (d := HandSHeadRun.topDef (OpenLaw.row PySem.Challenge.rw_orrery_k48_whole_plans_weigh_most).prog 26) (kwd := []) Q.ob_eq
    (by kernel_rfl) (fun s => by kernel_rfl) Q.run (by kernel_rfl) (by kernel_rfl) (by kernel_rfl) (by rfl) (by first | assumption | decide +kernel) (by decide +kernel) ⟨rfl, rfl, rfl, rfl, rfl, by decide +kernel⟩ ?hw ?hc
  case hw => w_witness2
  case hc =>
    refine Q.walk_q (l := PySem.Challenge.rw_orrery_k48_whole_plans_weigh_most) (n := 63) (k := 7) (x := "_law_script") (CX := L2.CX0) rfl (by decide) (by kernel_rfl) ⟨rfl, by decide, by decide⟩ ?F (fun _ _ _ _ z => z)
    intro w mg fa h Y G hmg0
    obtain ⟨K, KX, c⟩ := Y
    have hmg : mg ("law" : PySem.Str) = some (.ref fa) := by
      have e : (HandSHeadRun.topDef (OpenLaw.row PySem.Challenge.rw_orrery_k48_whole_plans_weigh_most).prog 26).name = ("law" : PySem.Str) := by kernel_rfl
      rw [← e]
      exact hmg0
    have hh : Q.HD w K mg := ⟨c.1, c.2, h, KX, G⟩
    obtain ⟨fd, F⟩ := hh.def_ 17 (d := Q.d_law)
    have e := hmg.symm.trans (hh.glo 17)
    cases e
    have b := L2.FunD.bindsA (ps := ["_law_script"]) F fun _ _ _ _ _ _ us hl => match us, hl with | [_], _ => rfl
    exact ⟨K, fd, Q.spLaw K, KX, fun s v => b s [v] rfl, fun H a ns hl hz hS => ⟨a, ns, rfl, hS, hl, hz, fun _ => rfl⟩, fun base _ _ => Q.law_ok (Q.def_ok (k := 6) Q.NMinj F Q.sc_law (Q.ge hh Q.G_law (fun p h => (nomatch h)) (by decide +kernel)) (Φ := Q.P_law) (fun c h => by
      simp only [Q.P_law, List.mem_cons, List.not_mem_nil, or_false] at h
      rcases h with rfl | rfl | rfl | rfl
      · exact (Q.e_law_row hh).mono (by decide)
      · exact (Q.e_law_contacts hh).mono (by decide)
      · exact (Q.e_plan hh).mono (by decide)
      · exact (Q.e_law_best hh).mono (by decide)) Q.ch_law Q.w_law)⟩
#print axioms PySem.Challenge.cw_orrery_k48_whole_plans_weigh_most_holds
