import PyProof.Rows.All
import Wide.All
import OpenK.AllK
import Wide.FinOn
import HandS.ForMost
import HandS.Exc
import HandS.TryOnly
import HandS.ExcOwn
import HandS.WordsExc
import HandS.Walk
import HandS.Deep
import KE.KDictKeyed
import KE.KeyNested
import HandS.Lambda
import HandS.Nested
import KE.GoesNew
import KE.GoesEnum
import KE.DataMinMax
import KE.DataCmp
import KE.SortData
import KE.SortLaws
import HandS.IsInst
import HandS.TupAny
import HandS.More
import PyProof.BootLay
import HandS.ExcIs
import HandS.Dict
import KE.KDictSum
import KE.KDictCopyH
import HandS.WordsDict
import HandS.TupLen
import HandS.Defaults
import KE.KIndexOf
import PyProof.ZipIter
import PyProof.CallType
import PyProof.Walk
import PyProof.WalkLemmas
import PyProof.RangeIter
import PyProof.RulesTry
import PyProof.TupleOfSeq
import HandS.RepeatKit
import HandS.OwnIter
import HandS.HeadHook4
import PyProof.ReprRoads
import HandS.RaiseMore
import HandS.EndTab
import HandS.EndBits
import HandS.Conv
import HandS.Head0
import HandS.Head1
import HandS.Head2
import HandS.HeadEnd
import HandS.Head3
import KE.KStateDown
import PySem.Challenge.RW_pairscoloured_k71_whole_known_colourings
section -- DmCore
set_option Elab.async false
set_option linter.all false
set_option maxRecDepth 100000
/-! Values as plain data over the abstract heap; readings as weakest preconditions over data. -/
namespace Dm
open PySem PySem.Spec PyProof.Rows L2

/-- the tables of code objects of the defs that make lambdas: where, and the name of what they make -/
class Tbs where
  T : List (Addr × Str)
variable [Tbs]

structure Gam where
  cls : Nat → Addr
  fn : Nat → Addr

/-- plain data -/
inductive D where
  | non | bl (b : Bool) | int (i : Int) | str (x : Str)
  | lst (xs : List D) | tup (xs : List D)
  /-- a list that nobody may change (the script) -/
  | frl (xs : List D)
  | ins (C : Nat) (fs : List (Str × D))
  | fn (f : Nat)
  | ty (n : String)
  | cl (C : Nat)
  | opq (φ : V → Hp → Prop)
  /-- a pair of a walk -/
  | tpl (xs : List D)
  /-- an exception without fields -/
  | exc (c : Nat)
  /-- a dict that nobody changes -/
  | dk (kvs : List (Key × D))

/-- an exception: its class, its fields -/
structure XD where
  c : Nat
  fs : List (Str × D)

/-- no table, no code object -/
def NT (o : HO) : Prop := (∀ ps, o ≠ .tbl ps) ∧ ∀ c q, o ≠ LamX.CodeO c q
def HO.plainB : HO → Bool
  | .tbl _ => false
  | .ext _ => false
  | _ => true
theorem nt_of {o : HO} (h : HO.plainB o = true) : NT o := by
  refine ⟨fun ps z => ?_, fun c q z => ?_⟩
  · rw [z] at h
    cases h
  · unfold LamX.CodeO at z
    rw [z] at h
    cases h
/-- H' goes on from H: what stood stands, tables of code objects have grown at most -/
structure Ex (H H' : Hp) : Prop where
  k : ∀ a o, H a = some o → (∀ ps, o ≠ .tbl ps) → H' a = some o
  tb : ∀ a ps, H a = some (.tbl ps) → ∃ ps', H' a = some (.tbl ps')
  ts : ∀ p ∈ Tbs.T, LamX.TabS H p.1 p.2 → LamX.TabS H' p.1 p.2
theorem Ex.at {H H' : Hp} (e : Ex H H') {a : Addr} {o : HO} (h : H a = some o) (n : NT o) : H' a = some o := e.k a o h n.1
theorem Ex.refl (H : Hp) : Ex H H := ⟨fun _ _ h _ => h, fun _ ps h => ⟨ps, h⟩, fun _ _ h => h⟩
theorem Ex.trans {H H1 H2 : Hp} (a : Ex H H1) (b : Ex H1 H2) : Ex H H2 := ⟨fun x o h n => b.k x o (a.k x o h n) n, fun x ps h => let ⟨p', h'⟩ := a.tb x ps h; b.tb x p' h', fun x q h => b.ts x q (a.ts x q h)⟩
theorem Ex.of {H H' : Hp} (e : ∀ b o, H b = some o → H' b = some o) : Ex H H' := ⟨fun x o h _ => e x o h, fun x ps h => ⟨ps, e x _ h⟩, fun x _ h => h.ext e⟩
theorem Ex.new {H : Hp} {p : Addr} {o : HO} (h : H p = none) : Ex H (upd H p o) := .of fun a u e => by
  rw [upd_ne (ne_of_none e h)]
  exact e
theorem Ex.back {H H' : Hp} {p : Addr} (e : Ex H H') (h : H' p = none) : H p = none := by
  cases h1 : H p with
  | none => rfl
  | some o =>
    by_cases q : ∃ ps, o = .tbl ps
    · obtain ⟨ps, rfl⟩ := q
      obtain ⟨ps', h2⟩ := e.tb p ps h1
      rw [h2] at h
      cases h
    · rw [e.k p o h1 fun ps z => q ⟨ps, z⟩] at h
      cases h
theorem tabS_upd {H : Hp} {p a : Addr} {o : HO} {q : Str} (t : LamX.TabS H a q) (ha : a ≠ p) (hq : ∀ q, H p ≠ some (LamX.CodeO p q)) : LamX.TabS (upd H p o) a q := by
  obtain ⟨ps, h1, h2, h3⟩ := t
  refine ⟨ps, by rw [upd_ne ha]; exact h1, h2, fun pos cv hc => ?_⟩
  obtain ⟨c, e1, e2⟩ := h3 pos cv hc
  have hn : c ≠ p := fun z => hq q (by rw [z] at e2; exact e2)
  exact ⟨c, e1, by rw [upd_ne hn]; exact e2⟩
theorem Ex.mut {H H' : Hp} {p : Addr} {o : HO} (e : Ex H H') (h : H p = none) (hq : ∀ q, H' p ≠ some (LamX.CodeO p q)) : Ex H (upd H' p o) :=
  ⟨fun a u ha n => by
    rw [upd_ne (ne_of_none ha h)]
    exact e.k a u ha n, fun a ps ha => by
    rw [upd_ne (ne_of_none ha h)]
    exact e.tb a ps ha, fun p hp t => tabS_upd (e.ts p hp t) (by
      obtain ⟨ps, h1, _⟩ := t
      exact ne_of_none h1 h) hq⟩
theorem no_code {H : Hp} {p : Addr} (h : H p = none) (q : Str) : H p ≠ some (LamX.CodeO p q) := fun z => by
  rw [h] at z
  cases z
theorem no_codeN {H : Hp} {p : Addr} {o : HO} (h : H p = some o) (n : NT o) (q : Str) : H p ≠ some (LamX.CodeO p q) := fun z => by
  rw [h] at z
  exact n.2 _ _ (Option.some.inj z)
theorem tabS_down {G : Hp} {p a : Addr} {o : HO} {q : Str} (n : NT o) (t : LamX.TabS (upd G p o) a q) : a ≠ p ∧ LamX.TabS G a q := by
  obtain ⟨ps, h1, h2, h3⟩ := t
  have ha : a ≠ p := fun z => by
    rw [z, upd_same] at h1
    exact n.1 _ (Option.some.inj h1)
  refine ⟨ha, ps, by rw [upd_ne ha] at h1; exact h1, h2, fun pos cv hc => ?_⟩
  obtain ⟨c, e1, e2⟩ := h3 pos cv hc
  have hc' : c ≠ p := fun z => by
    rw [z, upd_same] at e2
    exact n.2 _ _ (Option.some.inj e2)
  exact ⟨c, e1, by rw [upd_ne hc'] at e2; exact e2⟩
theorem Ex.updU {G H : Hp} {p : Addr} {o : HO} (e : Ex G H) (hp : H p = none) (n : NT o) : Ex (upd G p o) (upd H p o) := ⟨fun a u ha m => by
  by_cases h : a = p
  · subst h; rw [upd_same] at ha ⊢; exact ha
  · rw [upd_ne h] at ha ⊢; exact e.k a u ha m, fun a ps ha => by
  by_cases h : a = p
  · subst h; rw [upd_same] at ha; exact absurd (Option.some.inj ha) (n.1 ps)
  · rw [upd_ne h] at ha ⊢; exact e.tb a ps ha, fun p' hp' t => by
  obtain ⟨ha, t⟩ := tabS_down n t
  exact tabS_upd (e.ts p' hp' t) ha (no_code hp)⟩
theorem Ex.updH {G H : Hp} {p : Addr} {o : HO} (e : Ex G H) (h : H p = some o) (n : NT o) : Ex (upd G p o) H := ⟨fun a u ha m => by
  by_cases q : a = p
  · subst q; rw [upd_same] at ha; rw [h]; exact ha
  · rw [upd_ne q] at ha; exact e.k a u ha m, fun a ps ha => by
  by_cases q : a = p
  · subst q; rw [upd_same] at ha; exact absurd (Option.some.inj ha) (n.1 ps)
  · rw [upd_ne q] at ha; exact e.tb a ps ha, fun p' hp' t => e.ts p' hp' (tabS_down n t).2⟩
theorem ex_rd {H H' : Hp} {a : Addr} {u : HO} (e : Ex H H') (n : NT u) (h : Rd H a u) : Rd H' a u := by
  rcases h with h | ⟨o, h⟩
  · exact Or.inl (e.at h n)
  · exact Or.inr ⟨o, e.at h (nt_of rfl)⟩
theorem ex_l {K : PySem.W.Frag} {H H' : Hp} {a : Addr} {xs : List V} (e : Ex H H') (h : SqL K H a xs) : SqL K H' a xs := by
  rcases h with h | h
  · exact Or.inl (ex_rd e (nt_of rfl) h)
  · exact Or.inr h
theorem ex_t {K : PySem.W.Frag} {H H' : Hp} {a : Addr} {xs : List V} (e : Ex H H') (h : SqT K H a xs) : SqT K H' a xs := by
  rcases h with h | h
  · exact Or.inl (ex_rd e (nt_of rfl) h)
  · exact Or.inr h

/-- an exact tuple -/
def TupQ (K : PySem.W.Frag) (H : Hp) (a : Addr) (xs : List V) : Prop := (∃ o : Obj, H a = some (.frz o (.tup xs)) ∧ o.dict = none) ∨
  ∃ (o : Obj) (its : Array Value) (n : Nat), K.lookup a = some o ∧ o.cls = .type "tuple" ∧ o.dict = none ∧ o.data = .seq its n ∧ its.size ≤ sizeLine ∧ Vals xs its.toList
theorem TupQ.sqt {K : PySem.W.Frag} {H : Hp} {a : Addr} {xs : List V} (h : TupQ K H a xs) : SqT K H a xs := by
  rcases h with ⟨o, h, _⟩ | ⟨o, its, n, h1, h2, _, h3, h4, h5⟩
  · exact .inl (.inr ⟨o, h⟩)
  · exact .inr ⟨o, its, n, h1, h2, h3, h4, h5⟩
theorem TupQ.mono {K : PySem.W.Frag} {H H' : Hp} {a : Addr} {xs : List V} (e : Ex H H') (h : TupQ K H a xs) : TupQ K H' a xs := by
  rcases h with ⟨o, h, d⟩ | h
  · exact .inl ⟨o, e.at h (nt_of rfl), d⟩
  · exact .inr h
theorem TupQ.of {K : PySem.W.Frag} {H : Hp} {a : Addr} {xs : List V} {o : Obj} (d : o.dict = none) : TupQ K (upd H a (.frz o (.tup xs))) a xs := .inl ⟨o, upd_same, d⟩
/-- an exception object of the class C, without a dict, at a -/
def ExK (C a : Addr) : HO := .ext fun h => ∃ oe, PySem.W.InstAt h a oe C none
mutual
/-- the value v stands for the data d, in the known heap G -/
inductive Rp (K : PySem.W.Frag) (Γ : Gam) (G : Hp) : V → D → Prop
  | non : Rp K Γ G .non .non
  | bl (b : Bool) : Rp K Γ G (.bl b) (.bl b)
  | int (i : Int) : Rp K Γ G (.int i) (.int i)
  | str (x : Str) : Rp K Γ G (.str x) (.str x)
  | lst {a : Addr} {xs : List V} {ds : List D} : G a = some (.lst xs) → RpL K Γ G xs ds → Rp K Γ G (.ref a) (.lst ds)
  | frl {a : Addr} {xs : List V} {ds : List D} : SqL K G a xs → RpL K Γ G xs ds → Rp K Γ G (.ref a) (.frl ds)
  | tpl {a : Addr} {xs : List V} {ds : List D} : SqT K G a xs → RpL K Γ G xs ds → Rp K Γ G (.ref a) (.tpl ds)
  | tup {a : Addr} {xs : List V} {ds : List D} : TupQ K G a xs → RpL K Γ G xs ds → Rp K Γ G (.ref a) (.tup ds)
  | ins {a dx : Addr} {C : Nat} {fs : List (Str × V)} {gs : List (Str × D)} : G a = some (.ins (Γ.cls C) dx fs) → RpF K Γ G fs gs → Rp K Γ G (.ref a) (.ins C gs)
  | fn (f : Nat) : Rp K Γ G (.ref (Γ.fn f)) (.fn f)
  | ty (n : String) : Rp K Γ G (.ty n) (.ty n)
  | cl (C : Nat) : Rp K Γ G (.ref (Γ.cls C)) (.cl C)
  | opq {φ : V → Hp → Prop} {v : V} : (∀ G', Ex G G' → φ v G') → Rp K Γ G v (.opq φ)
  | exc {a : Addr} {c : Nat} : G a = some (ExK (Γ.cls c) a) → Rp K Γ G (.ref a) (.exc c)
  | dk {a : Addr} {vs : List (Key × V)} {kvs : List (Key × D)} : G a = some (.dK vs) → RpKV K Γ G vs kvs → Rp K Γ G (.ref a) (.dk kvs)
inductive RpL (K : PySem.W.Frag) (Γ : Gam) (G : Hp) : List V → List D → Prop
  | nil : RpL K Γ G [] []
  | cons {v : V} {vs : List V} {d : D} {ds : List D} : Rp K Γ G v d → RpL K Γ G vs ds → RpL K Γ G (v :: vs) (d :: ds)
inductive RpF (K : PySem.W.Frag) (Γ : Gam) (G : Hp) : List (Str × V) → List (Str × D) → Prop
  | nil : RpF K Γ G [] []
  | cons {f : Str} {v : V} {fs : List (Str × V)} {d : D} {gs : List (Str × D)} : Rp K Γ G v d → RpF K Γ G fs gs → RpF K Γ G ((f, v) :: fs) ((f, d) :: gs)
inductive RpKV (K : PySem.W.Frag) (Γ : Gam) (G : Hp) : List (Key × V) → List (Key × D) → Prop
  | nil : RpKV K Γ G [] []
  | cons {k : Key} {v : V} {vs : List (Key × V)} {d : D} {ds : List (Key × D)} : Rp K Γ G v d → RpKV K Γ G vs ds → RpKV K Γ G ((k, v) :: vs) ((k, d) :: ds)
end

section
variable {K : PySem.W.Frag} {Γ : Gam} {G G' : Hp}
mutual
theorem Rp.mono (e : Ex G G') : ∀ {v : V} {d : D}, Rp K Γ G v d → Rp K Γ G' v d
  | _, _, .non => .non
  | _, _, .bl b => .bl b
  | _, _, .int i => .int i
  | _, _, .str x => .str x
  | _, _, .lst h r => .lst (e.at h (nt_of rfl)) (RpL.mono e r)
  | _, _, .frl h r => .frl (ex_l e h) (RpL.mono e r)
  | _, _, .tup h r => .tup (TupQ.mono e h) (RpL.mono e r)
  | _, _, .tpl h r => .tpl (ex_t e h) (RpL.mono e r)
  | _, _, .ins h r => .ins (e.at h (nt_of rfl)) (RpF.mono e r)
  | _, _, .fn f => .fn f
  | _, _, .ty n => .ty n
  | _, _, .cl n => .cl n
  | _, _, .opq h => .opq fun _ e' => h _ (e.trans e')
  | _, _, .exc h => .exc (e.k _ _ h fun _ z => HO.noConfusion z)
  | _, _, .dk h r => .dk (e.at h (nt_of rfl)) (RpKV.mono e r)
theorem RpL.mono (e : Ex G G') : ∀ {vs : List V} {ds : List D}, RpL K Γ G vs ds → RpL K Γ G' vs ds
  | _, _, .nil => .nil
  | _, _, .cons h r => .cons (Rp.mono e h) (RpL.mono e r)
theorem RpF.mono (e : Ex G G') : ∀ {vs : List (Str × V)} {ds : List (Str × D)}, RpF K Γ G vs ds → RpF K Γ G' vs ds
  | _, _, .nil => .nil
  | _, _, .cons h r => .cons (Rp.mono e h) (RpF.mono e r)
theorem RpKV.mono (e : Ex G G') : ∀ {vs : List (Key × V)} {ds : List (Key × D)}, RpKV K Γ G vs ds → RpKV K Γ G' vs ds
  | _, _, .nil => .nil
  | _, _, .cons h r => .cons (Rp.mono e h) (RpKV.mono e r)
end
theorem RpL.length : ∀ {vs : List V} {ds : List D}, RpL K Γ G vs ds → vs.length = ds.length
  | _, _, .nil => rfl
  | _, _, .cons _ r => by rw [List.length_cons, List.length_cons, RpL.length r]
theorem RpL.append : ∀ {vs ws : List V} {ds es : List D}, RpL K Γ G vs ds → RpL K Γ G ws es → RpL K Γ G (vs ++ ws) (ds ++ es)
  | _, _, _, _, .nil, s => s
  | _, _, _, _, .cons h r, s => .cons h (RpL.append r s)
theorem RpL.get : ∀ {vs : List V} {ds : List D} {i : Nat} {d : D}, RpL K Γ G vs ds → ds[i]? = some d → ∃ v, vs[i]? = some v ∧ Rp K Γ G v d
  | _, _, _, _, .nil, e => by simp at e
  | _, _, 0, _, .cons h _, e => by simp at e; subst e; exact ⟨_, rfl, h⟩
  | _, _, i + 1, _, .cons _ r, e => by
    obtain ⟨v, h1, h2⟩ := RpL.get (i := i) r (by simpa using e)
    exact ⟨v, by simpa using h1, h2⟩
theorem RpL.getV : ∀ {vs : List V} {ds : List D} {i : Nat} {v : V}, RpL K Γ G vs ds → vs[i]? = some v → ∃ d, ds[i]? = some d ∧ Rp K Γ G v d
  | _, _, _, _, .nil, e => by simp at e
  | _, _, 0, _, .cons h _, e => by simp at e; subst e; exact ⟨_, rfl, h⟩
  | _, _, i + 1, _, .cons _ r, e => by
    obtain ⟨d, h1, h2⟩ := RpL.getV (i := i) r (by simpa using e)
    exact ⟨d, by simpa using h1, h2⟩
end

/-! ### data as PyData, for == -/
mutual
def toPy : D → Option PyData
  | .non => some .none
  | .bl b => some (.bool b)
  | .int i => some (.int i)
  | .str x => some (.str x)
  | .lst xs => (toPyL xs).map .list
  | .tup xs => (toPyL xs).map .tuple
  | .frl xs => (toPyL xs).map .list
  | .ins _ _ => none
  | .fn _ => none
  | .ty _ => none
  | .cl _ => none
  | .opq _ => none
  | .exc _ => none
  | .dk _ => none
  | .tpl _ => none
def toPyL : List D → Option (List PyData)
  | [] => some []
  | x :: xs => match toPy x, toPyL xs with
    | some p, some ps => some (p :: ps)
    | _, _ => none
end
section
variable {K : PySem.W.Frag} {Γ : Gam} {G : Hp}
mutual
theorem Rp.dp : ∀ {v : V} {d : D} {p : PyData}, Rp K Γ G v d → toPy d = some p → Dp K G v p
  | _, _, _, .non, e => by simp [toPy] at e; subst e; exact .non
  | _, _, _, .bl b, e => by simp [toPy] at e; subst e; exact .bl b
  | _, _, _, .int i, e => by simp [toPy] at e; subst e; exact .int i
  | _, _, _, .str x, e => by simp [toPy] at e; subst e; exact .str x
  | _, _, _, .lst (ds := ds) h r, e => by
    unfold toPy at e
    cases q : toPyL ds with
    | none => rw [q] at e; simp at e
    | some ps => rw [q] at e; simp at e; subst e; exact .lst (SqL.of h) (RpL.dp r q)
  | _, _, _, .frl (ds := ds) h r, e => by
    unfold toPy at e
    cases q : toPyL ds with
    | none => rw [q] at e; simp at e
    | some ps => rw [q] at e; simp at e; subst e; exact .lst h (RpL.dp r q)
  | _, _, _, .tup (ds := ds) h r, e => by
    unfold toPy at e
    cases q : toPyL ds with
    | none => rw [q] at e; simp at e
    | some ps => rw [q] at e; simp at e; subst e; exact .tup h.sqt (RpL.dp r q)
  | _, _, _, .ins _ _, e => by simp [toPy] at e
  | _, _, _, .fn _, e => by simp [toPy] at e
  | _, _, _, .ty _, e => by simp [toPy] at e
  | _, _, _, .cl _, e => by simp [toPy] at e
  | _, _, _, .opq _, e => by simp [toPy] at e
  | _, _, _, .exc _, e => by simp [toPy] at e
  | _, _, _, .dk _ _, e => by simp [toPy] at e
  | _, _, _, .tpl _ _, e => by simp [toPy] at e
theorem RpL.dp : ∀ {vs : List V} {ds : List D} {ps : List PyData}, RpL K Γ G vs ds → toPyL ds = some ps → DpAll K G vs ps
  | _, _, _, .nil, e => by simp [toPyL] at e; subst e; exact .nil
  | _, _, _, .cons (d := d) (ds := ds) h r, e => by
    unfold toPyL at e
    cases q : toPy d with
    | none => rw [q] at e; simp at e
    | some p =>
      cases q2 : toPyL ds with
      | none => rw [q, q2] at e; simp at e
      | some ps => rw [q, q2] at e; simp at e; subst e; exact .cons (Rp.dp h q) (RpL.dp r q2)
end
mutual
theorem dp_mono {G' : Hp} (e : Ex G G') : ∀ {v : V} {p : PyData}, Dp K G v p → Dp K G' v p
  | _, _, .non => .non
  | _, _, .bl b => .bl b
  | _, _, .int i => .int i
  | _, _, .str x => .str x
  | _, _, .lst h r => .lst (ex_l e h) (dpAll_mono e r)
  | _, _, .tup h r => .tup (ex_t e h) (dpAll_mono e r)
theorem dpAll_mono {G' : Hp} (e : Ex G G') : ∀ {v : List V} {p : List PyData}, DpAll K G v p → DpAll K G' v p
  | _, _, .nil => .nil
  | _, _, .cons h r => .cons (dp_mono e h) (dpAll_mono e r)
end
end

/-! ### slots -/
/-- what a slot holds: nothing that is known, data, a list of its own, a dict of its own (keys ints and texts) -/
inductive SV where
  | un | d (x : D) | ol (ds : List D) | od (kvs : List (Key × D)) | ot (kvs : List (D × D))

/-- a dict with tuple keys of any depth, by its entries -/
def KD (P : Program) (w : World) (a : Addr) (xs : List (NestedKey × Addr × V)) : HO := .ext fun h =>
  ∃ (o : Obj) (es : Array DictEntry) (ep : Nat) (ys : List (NestedKey × Addr × Value)), (a == sysModules) = false ∧ xs.length ≤ sizeLine ∧ Paired (fun p q => p.1 = q.1 ∧ p.2.1 = q.2.1 ∧ RelV p.2.2 q.2.2) xs ys ∧
    h.get? a = some o ∧ o.ExactDict ∧ o.data = .dict es ep ∧ es.toList = ys.map (entryOfKey (nestedKind P w)) ∧ (ys.map (·.1)).Nodup
theorem nt_KD {P : Program} {w : World} {a : Addr} {xs : List (NestedKey × Addr × V)} : NT (KD P w a xs) := by
  refine ⟨fun ps z => ?_, fun c q z => ?_⟩
  · unfold KD at z
    cases z
  · unfold KD LamX.CodeO at z
    have e := HO.ext.inj z
    -- a heap with a code object at c
    let o : Obj := { cls := .none, data := .fields #[.none, .str q 0] }
    let h : Heap := ⟨(List.replicate (a + c + 1) o).toArray, {}⟩
    have hc : ∀ b, b ≤ a + c → h.get? b = some o := fun b hb => by
      unfold Heap.get?
      have hb2 : b < a + c + 1 := Nat.lt_succ_of_le hb
      have e2 : (List.replicate (a + c + 1) o).toArray[b]? = some o := by
        simp [List.getElem?_replicate, hb2]
      show (match (List.replicate (a + c + 1) o).toArray[b]? with
        | some ⟨_, _, .freed, _⟩ => none
        | o => o) = some o
      rw [e2]
    have r := (congrFun e h).mpr ⟨o, #[.none, .str q 0], 0, hc c (Nat.le_add_left c a), rfl, rfl⟩
    obtain ⟨o', es, ep, ys, _, _, _, h1, _, h2, _⟩ := r
    rw [hc a (Nat.le_add_right a c)] at h1
    cases h1
    cases h2
mutual
/-- data as a key -/
def toKey : D → Option NestedKey
  | .non => some .none
  | .int i => some (.num i)
  | .bl b => some (.num (if b = true then 1 else 0))
  | .str x => some (.text x)
  | .tup xs => (toKeyL xs).map .tup
  | _ => none
def toKeyL : List D → Option (List NestedKey)
  | [] => some []
  | x :: xs => match toKey x, toKeyL xs with
    | some p, some ps => some (p :: ps)
    | _, _ => none
end

/-- a tuple as a key -/
def toKeyT (d : D) : Option NestedKey := match d with
  | .tup _ => (match toKey d with
    | some k => if Nat.ble k.depth 8 then some k else none
    | none => none)
  | _ => none
inductive RpT (K : PySem.W.Frag) (Γ : Gam) (G : Hp) : List (NestedKey × Addr × V) → List (D × D) → Prop
  | nil : RpT K Γ G [] []
  | cons {k : NestedKey} {a : Addr} {v : V} {vs : List (NestedKey × Addr × V)} {kd d : D} {ds : List (D × D)} : toKeyT kd = some k → Rp K Γ G (.ref a) kd → Rp K Γ G v d → RpT K Γ G vs ds → RpT K Γ G ((k, a, v) :: vs) ((kd, d) :: ds)
theorem RpT.mono {K : PySem.W.Frag} {Γ : Gam} {G G' : Hp} (e : Ex G G') : ∀ {vs : List (NestedKey × Addr × V)} {ds : List (D × D)}, RpT K Γ G vs ds → RpT K Γ G' vs ds
  | _, _, .nil => .nil
  | _, _, .cons k h1 h r => .cons k (h1.mono e) (h.mono e) (RpT.mono e r)

/-- the objects that a slot owns -/
def SlotR (P : Program) (w : World) (K : PySem.W.Frag) (Γ : Gam) (H0 G H : Hp) (o : Option V) : SV → Prop
  | .un => True
  | .d x => ∃ v, o = some v ∧ Rp K Γ G v x
  | .ol ds => ∃ a vs, o = some (.ref a) ∧ H a = some (.lst vs) ∧ RpL K Γ G vs ds ∧ G a = none ∧ H0 a = none
  | .od kvs => ∃ a vs, o = some (.ref a) ∧ H a = some (.dK vs) ∧ RpKV K Γ G vs kvs ∧ G a = none ∧ H0 a = none
  | .ot kvs => ∃ a vs, o = some (.ref a) ∧ H a = some (KD P w a vs) ∧ RpT K Γ G vs kvs ∧ G a = none ∧ H0 a = none
def SV.own : SV → Bool
  | .ol _ | .od _ | .ot _ => true
  | _ => false

/-- the frame: G is known and stands in H; what stood at the entry stands; what is known new is new -/
structure Fr (H0 G0 G H : Hp) : Prop where
  gh : Ex G H
  hh : Ex H0 H
  gg : Ex G0 G
  fr : ∀ a o, G a = some o → G0 a = some o ∨ H0 a = none ∨ ∃ q, o = LamX.CodeO a q
structure StR (P : Program) (w : World) (K : PySem.W.Frag) (Γ : Gam) (H0 G0 G H : Hp) (σ : L2.St) (ss : List SV) : Prop extends Fr H0 G0 G H where
  len : σ.length = ss.length
  sl : ∀ (i : Nat) (s : SV), ss[i]? = some s → ∃ o, σ[i]? = some o ∧ SlotR P w K Γ H0 G H o s
  ow : ∀ (i j : Nat) (s t : SV) (a : Addr), ss[i]? = some s → ss[j]? = some t → s.own = true → t.own = true → σ[i]? = some (some (.ref a)) → σ[j]? = some (some (.ref a)) → i = j
  tbs : LamX.Tabs Tbs.T G0

/-- an exception as HandS has it -/
def XRp (K : PySem.W.Frag) (Γ : Gam) (G : Hp) (cls : Value) (d : Option Addr) (x : XD) : Prop :=
  cls = .ref (Γ.cls x.c) ∧ ((x.fs = [] ∧ d = none) ∨ ∃ dd vs, x.fs ≠ [] ∧ d = some dd ∧ G dd = some (.xd vs) ∧ RpF K Γ G vs x.fs)

/-- the wish about exceptions, over data -/
def XOk (K : PySem.W.Frag) (Γ : Gam) (H0 G0 : Hp) (W : WX) (kx : XD → Prop) : Prop :=
  ∀ x, kx x → ∀ cls d σ G H, Fr H0 G0 G H → XRp K Γ G cls d x → W cls d σ H

abbrev MD := List SV → (D → List SV → Prop) → (XD → Prop) → Prop
abbrev MB := List SV → (Bool → List SV → Prop) → (XD → Prop) → Prop
abbrev MA := List SV → (List D → List SV → Prop) → (XD → Prop) → Prop
structure CS where
  nx : List SV → Prop
  rt : D → Prop
  kx : XD → Prop
  bk : List SV → Prop := fun _ => False
  ct : List SV → Prop := fun _ => False
abbrev MS := List SV → CS → Prop

section
variable (X : Cx) (Γ : Gam) (W : WX)
/-- the readings -/
def rd (m : MD) : TE := fun σ H Q => ∃ H0 G0 G ss k kx, StR X.prog X.w X.K Γ H0 G0 G H σ ss ∧ XOk X.K Γ H0 G0 W kx ∧ m ss k kx ∧
  ∀ d ss' v G' H', k d ss' → Ex G G' → StR X.prog X.w X.K Γ H0 G0 G' H' σ ss' → Rp X.K Γ G' v d → Q v H'
def rb (m : MB) : TT := fun σ H Q => ∃ H0 G0 G ss k kx, StR X.prog X.w X.K Γ H0 G0 G H σ ss ∧ XOk X.K Γ H0 G0 W kx ∧ m ss k kx ∧
  ∀ b ss' G' H', k b ss' → Ex G G' → StR X.prog X.w X.K Γ H0 G0 G' H' σ ss' → Q b H'
def ra (m : MA) : TA := fun σ H Q => ∃ H0 G0 G ss k kx, StR X.prog X.w X.K Γ H0 G0 G H σ ss ∧ XOk X.K Γ H0 G0 W kx ∧ m ss k kx ∧
  ∀ ds ss' vs G' H', k ds ss' → Ex G G' → StR X.prog X.w X.K Γ H0 G0 G' H' σ ss' → RpL X.K Γ G' vs ds → Q vs H'
/-- a new list -/
def rl (m : MA) : TE := fun σ H Q => ∃ H0 G0 G ss k kx, StR X.prog X.w X.K Γ H0 G0 G H σ ss ∧ XOk X.K Γ H0 G0 W kx ∧ m ss k kx ∧
  ∀ ds ss' a vs G' H', k ds ss' → Ex G G' → StR X.prog X.w X.K Γ H0 G0 G' H' σ ss' → RpL X.K Γ G' vs ds → H' a = some (.lst vs) → G' a = none → H0 a = none →
    (∀ (i : Nat) (s : SV), ss'[i]? = some s → s.own = true → σ[i]? ≠ some (some (.ref a))) → Q (.ref a) H'
def rs (m : MS) : TS := fun D σ H => ∃ H0 G0 G ss C, StR X.prog X.w X.K Γ H0 G0 G H σ ss ∧ XOk X.K Γ H0 G0 W C.kx ∧ m ss C ∧
  (∀ ss' σ' G' H', C.nx ss' → StR X.prog X.w X.K Γ H0 G0 G' H' σ' ss' → D.nx σ' H') ∧
  (∀ d v G' H', C.rt d → Fr H0 G0 G' H' → Rp X.K Γ G' v d → D.rt v H') ∧
  (∀ ss' σ' G' H', C.bk ss' → StR X.prog X.w X.K Γ H0 G0 G' H' σ' ss' → D.bk σ' H') ∧
  (∀ ss' σ' G' H', C.ct ss' → StR X.prog X.w X.K Γ H0 G0 G' H' σ' ss' → D.ct σ' H')
end
end Dm
end -- DmCore
section -- DmLem1
set_option Elab.async false
set_option linter.all false
set_option maxRecDepth 100000
namespace Dm
open PySem PySem.Spec PyProof.Rows L2
variable [Tbs]

theorem pe_weak {X : Cx} {e : Expr} {t u : TE} (h : PE X e t) (w : ∀ σ H Q, u σ H Q → t σ H Q) : PE X e u := ⟨fun pins s σ H Q I q => h.run pins s σ H Q I (w _ _ _ q)⟩
theorem pt_weak {X : Cx} {e : Expr} {t u : TT} (h : PT X e t) (w : ∀ σ H Q, u σ H Q → t σ H Q) : PT X e u := ⟨fun pins s σ H Q I q => h.run pins s σ H Q I (w _ _ _ q)⟩
theorem pa_weak {X : Cx} {e : List Expr} {t u : TA} (h : PA X e t) (w : ∀ σ H Q, u σ H Q → t σ H Q) : PA X e u := ⟨fun pos pins s σ H Q I q => h.run pos pins s σ H Q I (w _ _ _ q)⟩
theorem ps_weak {X : Cx} {e : Stmt} {t u : TS} (h : PS X e t) (w : ∀ D σ H, u D σ H → t D σ H) : PS X e u := ⟨fun pins s σ H D I q => h.run pins s σ H D I (w _ _ _ q)⟩
theorem pss_weak {X : Cx} {e : List Stmt} {t u : TS} (h : PSs X e t) (w : ∀ D σ H, u D σ H → t D σ H) : PSs X e u := ⟨fun pins s σ H D I q => h.run pins s σ H D I (w _ _ _ q)⟩

/-! ### the frame -/
section
variable {H0 G0 G H G' H' G1 H1 : Hp} {a p : Addr} {o : HO}
theorem Fr.refl (e : Ex G H) : Fr H G G H := ⟨e, Ex.refl _, Ex.refl _, fun _ _ h => .inl h⟩
/-- a step further -/
theorem Fr.step (f : Fr H0 G0 G H) (g : Fr H G G' H') : Fr H0 G0 G' H' := ⟨g.gh, f.hh.trans g.hh, f.gg.trans g.gg, fun a o h => by
  rcases g.fr a o h with z | z | z
  · exact f.fr a o z
  · exact .inr (.inl (f.hh.back z))
  · exact .inr (.inr z)⟩
/-- from G on -/
theorem Fr.reG (f : Fr H0 G0 G H) : Fr H0 G G H := ⟨f.gh, f.hh, Ex.refl _, fun _ _ h => .inl h⟩
theorem Fr.unG (f : Fr H0 G0 G H) (g : Fr H0 G G' H') : Fr H0 G0 G' H' := ⟨g.gh, g.hh, f.gg.trans g.gg, fun a o h => by
  rcases g.fr a o h with z | z
  · exact f.fr a o z
  · exact .inr z⟩
theorem Fr.new (e : Ex G H) (hp : H p = none) (n : NT o := by exact nt_of rfl) : Fr H G (upd G p o) (upd H p o) := ⟨e.updU hp n, Ex.new hp, Ex.new (e.back hp), fun a u h => by
  by_cases q : a = p
  · subst q; exact .inr (.inl hp)
  · rw [upd_ne q] at h; exact .inl h⟩
theorem Fr.newH (e : Ex G H) (hp : H p = none) : Fr H G G (upd H p o) := ⟨e.mut (e.back hp) (no_code hp), Ex.new hp, Ex.refl _, fun _ _ h => .inl h⟩
theorem XOk.reG {K : PySem.W.Frag} {Γ : Gam} {W : WX} {kx : XD → Prop} (x : XOk K Γ H0 G0 W kx) (f : Fr H0 G0 G H) : XOk K Γ H0 G W kx := fun y hy cls d σ G' H' g r => x y hy cls d σ G' H' (f.unG g) r
end

section
variable {P : Program} {w : World} {K : PySem.W.Frag} {Γ : Gam} {H0 G0 G H G' H' : Hp} {σ σ' : L2.St} {ss ss' : List SV} {a p : Addr} {o : HO}
theorem Fr.keepN (f : Fr H G G' H') (h : H a = some o) (n : NT o) (g : G a = none) : G' a = none := by
  cases q : G' a with
  | none => rfl
  | some u =>
    rcases f.fr _ _ q with y | y | ⟨c, y⟩
    · rw [g] at y; cases y
    · rw [h] at y; cases y
    · rw [y] at q
      have q2 := f.gh.k _ _ q LamX.codeO_ne
      rw [f.hh.at h n] at q2
      exact (n.2 _ _ (Option.some.inj q2)).elim
theorem SlotR.le (f : Fr H G G' H') : ∀ {s : SV} {v : Option V}, SlotR P w K Γ H0 G H v s → SlotR P w K Γ H0 G' H' v s
  | .un, _, _ => trivial
  | .d x, _, ⟨v, e, r⟩ => ⟨v, e, r.mono f.gg⟩
  | .ol ds, _, ⟨a, vs, e, h, r, g, z⟩ => ⟨a, vs, e, f.hh.at h (nt_of rfl), r.mono f.gg, f.keepN h (nt_of rfl) g, z⟩
  | .od ds, _, ⟨a, vs, e, h, r, g, z⟩ => ⟨a, vs, e, f.hh.at h (nt_of rfl), r.mono f.gg, f.keepN h (nt_of rfl) g, z⟩
  | .ot ds, _, ⟨a, vs, e, h, r, g, z⟩ => ⟨a, vs, e, f.hh.at h nt_KD, r.mono f.gg, f.keepN h nt_KD g, z⟩
theorem StR.le (st : StR P w K Γ H0 G0 G H σ ss) (f : Fr H G G' H') : StR P w K Γ H0 G0 G' H' σ ss :=
  ⟨st.toFr.step f, st.len, fun i s e => let ⟨o, h1, h2⟩ := st.sl i s e; ⟨o, h1, h2.le f⟩, st.ow, st.tbs⟩
theorem StR.reG (st : StR P w K Γ H0 G0 G H σ ss) : StR P w K Γ H0 G G H σ ss := ⟨st.toFr.reG, st.len, st.sl, st.ow, fun p hp => st.gg.ts p hp (st.tbs p hp)⟩
theorem StR.unG (st : StR P w K Γ H0 G0 G H σ ss) (t : StR P w K Γ H0 G G' H' σ' ss') : StR P w K Γ H0 G0 G' H' σ' ss' := ⟨st.toFr.unG t.toFr, t.len, t.sl, t.ow, st.tbs⟩
/-- what a slot that owns holds, stands in H and is not known -/
theorem SlotR.owned : ∀ {s : SV} {v : Option V}, SlotR P w K Γ H0 G H v s → s.own = true → ∃ a u, v = some (.ref a) ∧ H a = some u ∧ G a = none ∧ H0 a = none ∧ NT u
  | .un, _, _, e => by cases e
  | .d x, _, _, e => by cases e
  | .ol ds, _, ⟨a, vs, e, h, r, g, z⟩, _ => ⟨a, _, e, h, g, z, nt_of rfl⟩
  | .od ds, _, ⟨a, vs, e, h, r, g, z⟩, _ => ⟨a, _, e, h, g, z, nt_of rfl⟩
  | .ot ds, _, ⟨a, vs, e, h, r, g, z⟩, _ => ⟨a, _, e, h, g, z, nt_KD⟩
/-- a slot is given data -/
theorem StR.setD (st : StR P w K Γ H0 G0 G H σ ss) {i : Nat} {v : V} {d : D} (r : Rp K Γ G v d) : StR P w K Γ H0 G0 G H (σ.set i (some v)) (ss.set i (.d d)) := by
  refine ⟨st.toFr, by rw [List.length_set, List.length_set]; exact st.len, fun j s e => ?_, fun j k s t a e1 e2 o1 o2 h1 h2 => ?_, st.tbs⟩
  · by_cases q : i = j
    · subst q
      have hl : i < ss.length := by
        have := (List.getElem?_eq_some_iff.mp e).1
        rwa [List.length_set] at this
      rw [List.getElem?_set_self hl] at e
      cases e
      exact ⟨some v, List.getElem?_set_self (by rw [st.len]; exact hl), v, rfl, r⟩
    · rw [List.getElem?_set_ne q] at e ⊢
      exact st.sl j s e
  · have nd : ∀ {j : Nat} {s : SV}, (ss.set i (.d d))[j]? = some s → s.own = true → i ≠ j ∧ ss[j]? = some s := fun {j s} e o => by
      by_cases q : i = j
      · subst q
        have hl : i < ss.length := by
          have := (List.getElem?_eq_some_iff.mp e).1
          rwa [List.length_set] at this
        rw [List.getElem?_set_self hl] at e
        cases e; cases o
      · rw [List.getElem?_set_ne q] at e
        exact ⟨q, e⟩
    obtain ⟨n1, e1⟩ := nd e1 o1
    obtain ⟨n2, e2⟩ := nd e2 o2
    rw [List.getElem?_set_ne n1] at h1
    rw [List.getElem?_set_ne n2] at h2
    exact st.ow j k s t a e1 e2 o1 o2 h1 h2
/-- a slot is given something of its own, at a place that no slot owns -/
theorem StR.setO (st : StR P w K Γ H0 G0 G H σ ss) {i : Nat} {a : Addr} {s : SV} (r : SlotR P w K Γ H0 G H (some (.ref a)) s) (no : ∀ (j : Nat) (t : SV), j ≠ i → ss[j]? = some t → t.own = true → σ[j]? ≠ some (some (.ref a))) :
    StR P w K Γ H0 G0 G H (σ.set i (some (.ref a))) (ss.set i s) := by
  have at_ : ∀ {j : Nat} {t : SV}, (ss.set i s)[j]? = some t → (i = j ∧ t = s ∧ (σ.set i (some (.ref a)))[j]? = some (some (.ref a))) ∨ (i ≠ j ∧ ss[j]? = some t ∧ (σ.set i (some (.ref a)))[j]? = σ[j]?) := fun {j t} e => by
    by_cases q : i = j
    · subst q
      have hl : i < ss.length := by
        have := (List.getElem?_eq_some_iff.mp e).1
        rwa [List.length_set] at this
      rw [List.getElem?_set_self hl] at e
      cases e
      exact .inl ⟨rfl, rfl, List.getElem?_set_self (by rw [st.len]; exact hl)⟩
    · rw [List.getElem?_set_ne q] at e
      exact .inr ⟨q, e, List.getElem?_set_ne q⟩
  refine ⟨st.toFr, by rw [List.length_set, List.length_set]; exact st.len, fun j t e => ?_, fun j k t u b e1 e2 o1 o2 h1 h2 => ?_, st.tbs⟩
  · rcases at_ e with ⟨q, rfl, h⟩ | ⟨q, e', h⟩
    · exact ⟨_, h, r⟩
    · rw [h]; exact st.sl j t e'
  · rcases at_ e1 with ⟨q1, rfl, g1⟩ | ⟨q1, e1', g1⟩
    · rcases at_ e2 with ⟨q2, rfl, g2⟩ | ⟨q2, e2', g2⟩
      · rw [← q1, ← q2]
      · rw [g1] at h1; cases h1
        rw [g2] at h2
        exact absurd h2 (no k u (Ne.symm q2) e2' o2)
    · rcases at_ e2 with ⟨q2, rfl, g2⟩ | ⟨q2, e2', g2⟩
      · rw [g2] at h2; cases h2
        rw [g1] at h1
        exact absurd h1 (no j t (Ne.symm q1) e1' o1)
      · rw [g1] at h1; rw [g2] at h2
        exact st.ow j k t u b e1' e2' o1 o2 h1 h2
/-- the object at a, that no slot owns, is known from now on -/
theorem StR.freeze (st : StR P w K Γ H0 G0 G H σ ss) (h : H a = some o) (n : NT o) (g : G a = none) (z : H0 a = none) (no : ∀ (j : Nat) (t : SV), ss[j]? = some t → t.own = true → σ[j]? ≠ some (some (.ref a))) : StR P w K Γ H0 G0 (upd G a o) H σ ss := by
  refine ⟨⟨st.gh.updH h n, st.hh, ⟨fun b u e m => ?_, fun b ps e => ?_, fun p' hp' t => tabS_upd (st.gg.ts p' hp' t) (by
    obtain ⟨ps, h1, _⟩ := st.gg.ts p' hp' t
    exact ne_of_none h1 g) (no_code g)⟩, fun b u e => ?_⟩, st.len, fun i s e => ?_, st.ow, st.tbs⟩
  · have q := st.gg.k b u e m
    rw [upd_ne (fun y => by subst y; rw [g] at q; cases q)]
    exact q
  · obtain ⟨ps', q⟩ := st.gg.tb b ps e
    rw [upd_ne (fun y => by subst y; rw [g] at q; cases q)]
    exact ⟨ps', q⟩
  · by_cases q : b = a
    · subst q; exact .inr (.inl z)
    · rw [upd_ne q] at e; exact st.fr b u e
  · obtain ⟨v, h1, h2⟩ := st.sl i s e
    refine ⟨v, h1, ?_⟩
    have ne : ∀ b, s.own = true → v = some (.ref b) → b ≠ a := fun b ho hv q => by
      subst q
      exact no i s e ho (by rw [h1, hv])
    cases s with
    | un => trivial
    | d x =>
      obtain ⟨y, e1, r⟩ := h2
      exact ⟨y, e1, r.mono (Ex.new g)⟩
    | ol ds =>
      obtain ⟨b, vs, e1, h3, r, g3, z3⟩ := h2
      exact ⟨b, vs, e1, h3, r.mono (Ex.new g), by rw [upd_ne (ne b rfl e1)]; exact g3, z3⟩
    | od ds =>
      obtain ⟨b, vs, e1, h3, r, g3, z3⟩ := h2
      exact ⟨b, vs, e1, h3, r.mono (Ex.new g), by rw [upd_ne (ne b rfl e1)]; exact g3, z3⟩
    | ot ds =>
      obtain ⟨b, vs, e1, h3, r, g3, z3⟩ := h2
      exact ⟨b, vs, e1, h3, r.mono (Ex.new g), by rw [upd_ne (ne b rfl e1)]; exact g3, z3⟩
/-- the object of slot i is changed -/
theorem StR.mutate (st : StR P w K Γ H0 G0 G H σ ss) {i : Nat} {s s' : SV} (hs : ss[i]? = some s) (hown : s.own = true) (hσ : σ[i]? = some (some (.ref a))) (hown' : s'.own = true) (g : G a = none) (z : H0 a = none)
    (r : SlotR P w K Γ H0 G (upd H a o) (some (.ref a)) s') : StR P w K Γ H0 G0 G (upd H a o) σ (ss.set i s') := by
  have hl : i < ss.length := (List.getElem?_eq_some_iff.mp hs).1
  have hσ' : σ.set i (some (.ref a)) = σ := by
    apply List.ext_getElem?
    intro j
    by_cases q : i = j
    · subst q
      rw [List.getElem?_set_self (by rw [st.len]; exact hl), hσ]
    · rw [List.getElem?_set_ne q]
  have hq : ∀ q, H a ≠ some (LamX.CodeO a q) := by
    obtain ⟨v, h1, h2⟩ := st.sl i _ hs
    rw [hσ] at h1
    obtain ⟨b, u, h3, h4, _, _, n⟩ := h2.owned hown
    cases h1
    cases h3
    exact no_codeN h4 n
  have st1 : StR P w K Γ H0 G0 G (upd H a o) σ (ss.set i .un) := by
    refine ⟨⟨st.gh.mut g hq, st.hh.mut z hq, st.gg, st.fr⟩, by rw [List.length_set]; exact st.len, fun j t e => ?_, fun j k t u b e1 e2 o1 o2 h1 h2 => ?_, st.tbs⟩
    · by_cases q : i = j
      · subst q
        rw [List.getElem?_set_self hl] at e
        cases e
        exact ⟨_, hσ, trivial⟩
      · rw [List.getElem?_set_ne q] at e
        obtain ⟨v, h1, h2⟩ := st.sl j t e
        refine ⟨v, h1, ?_⟩
        have ne : ∀ b, t.own = true → v = some (.ref b) → b ≠ a := fun b ho hv y => by
          subst y
          exact q (st.ow i j s t b hs e hown ho hσ (by rw [h1, hv]))
        cases t with
        | un => trivial
        | d x => exact h2
        | ol ds =>
          obtain ⟨b, vs, e1, h3, r3, g3, z3⟩ := h2
          exact ⟨b, vs, e1, by rw [upd_ne (ne b rfl e1)]; exact h3, r3, g3, z3⟩
        | od ds =>
          obtain ⟨b, vs, e1, h3, r3, g3, z3⟩ := h2
          exact ⟨b, vs, e1, by rw [upd_ne (ne b rfl e1)]; exact h3, r3, g3, z3⟩
        | ot ds =>
          obtain ⟨b, vs, e1, h3, r3, g3, z3⟩ := h2
          exact ⟨b, vs, e1, by rw [upd_ne (ne b rfl e1)]; exact h3, r3, g3, z3⟩
    · have nd : ∀ {j : Nat} {t : SV}, (ss.set i .un)[j]? = some t → t.own = true → ss[j]? = some t := fun {j t} e o => by
        by_cases q : i = j
        · subst q
          rw [List.getElem?_set_self hl] at e
          cases e; cases o
        · rw [List.getElem?_set_ne q] at e; exact e
      exact st.ow j k t u b (nd e1 o1) (nd e2 o2) o1 o2 h1 h2
  have st2 := st1.setO (i := i) (a := a) (s := s') r fun j t hj e ho hh => by
    rw [List.getElem?_set_ne (Ne.symm hj)] at e
    exact hj (st.ow j i t s a e hs ho hown hh hσ)
  rw [hσ', List.set_set] at st2
  exact st2
end

/-! ### exact tuples -/
section
variable {X : Cx} {e : Expr} {es : List Expr} {t : TA} {pos : Pos}
theorem objOk_frz {P : Program} {w : World} {H : Hp} {h : Heap} {a : Addr} {xs : List V} {its : List Value} {n : Nat} (z : xs.length ≤ sizeLine) (r : Vals xs its) (e : h.get? a = some { cls := .type "tuple", data := .seq its.toArray n }) : ObjOk P w H h a (.frz { cls := .type "tuple", data := .seq its.toArray n } (.tup xs)) :=
  ⟨e, z, its, r, _, e, rfl, n, rfl⟩
theorem pe_tupX {x1} (h : PA X es t) : PE X (.Tuple es x1 pos) (fun σ H Q => t σ H fun xs H1 => xs.length ≤ sizeLine ∧ ∀ p (o : Obj), H1 p = none → o.dict = none → Q (.ref p) (upd H1 p (.frz o (.tup xs)))) := by
  refine ⟨fun pins s σ H Q I hq => ?_⟩
  refine wpAny_Tuple_spliced (thn (h.run pos pins s σ H _ I hq) fun us s1 ⟨xs, H1, I1, r, z, q⟩ => ⟨by rw [← r.length]; exact z, ?_⟩)
  have hf : H1 s1.heap.objs.size = none := I1.hok.fresh (Nat.le_refl _)
  exact ⟨.ref s1.heap.objs.size, _, I1.laid (t' := s1.toks) (fun b u e => Heap.get?_push_of_some _ e) (Nat.le_refl _) (objOk_frz z r (Heap.get?_push_size _ rfl)), rfl, q _ _ hf rfl⟩
end
end Dm
end -- DmLem1
section -- DmLem2
set_option Elab.async false
set_option linter.all false
set_option maxRecDepth 100000
namespace Dm
open PySem PySem.Spec PyProof.Rows L2
variable [Tbs]

def lift {α : Type} (o : Option α) (k : α → Prop) : Prop := match o with
  | some d => k d
  | none => False
theorem lift_some {α : Type} {o : Option α} {k : α → Prop} (h : lift o k) : ∃ d, o = some d ∧ k d := by
  cases o with
  | none => exact h.elim
  | some d => exact ⟨d, rfl, h⟩
def guard (b : Bool) (p : Prop) : Prop := match b with
  | true => p
  | false => False
theorem guard_ok {b : Bool} {p : Prop} (h : guard b p) : b = true ∧ p := by
  cases b with
  | false => exact h.elim
  | true => exact ⟨rfl, h⟩
def mline : Nat := 16777216
theorem ble_line {n : Nat} (h : Nat.ble n mline = true) : n ≤ sizeLine := by
  rw [sizeLine_eq]
  exact Nat.le_of_ble_eq_true h

/-! ### more of the frame -/
section
variable {P : Program} {w : World} {K : PySem.W.Frag} {Γ : Gam} {H0 G0 G H G' H' : Hp} {σ σ' : L2.St} {ss ss' : List SV} {a p : Addr} {o : HO}
theorem set_self {σ : L2.St} {i : Nat} {v : Option V} (h : σ[i]? = some v) : σ.set i v = σ := by
  apply List.ext_getElem?
  intro j
  by_cases q : i = j
  · subst q
    rw [List.getElem?_set_self (List.getElem?_eq_some_iff.mp h).1, h]
  · rw [List.getElem?_set_ne q]
theorem StR.drop (st : StR P w K Γ H0 G0 G H σ ss) (i : Nat) : StR P w K Γ H0 G0 G H σ (ss.set i .un) := by
  refine ⟨st.toFr, by rw [List.length_set]; exact st.len, fun j t e => ?_, fun j k t u b e1 e2 o1 o2 h1 h2 => ?_, st.tbs⟩
  · by_cases q : i = j
    · subst q
      have hl : i < ss.length := by
        have := (List.getElem?_eq_some_iff.mp e).1
        rwa [List.length_set] at this
      rw [List.getElem?_set_self hl] at e
      cases e
      obtain ⟨v, h, _⟩ := st.sl i _ (List.getElem?_eq_getElem hl)
      exact ⟨v, h, trivial⟩
    · rw [List.getElem?_set_ne q] at e
      exact st.sl j t e
  · have nd : ∀ {j : Nat} {t : SV}, (ss.set i .un)[j]? = some t → t.own = true → ss[j]? = some t := fun {j t} e o => by
      by_cases q : i = j
      · subst q
        have hl : i < ss.length := by
          have := (List.getElem?_eq_some_iff.mp e).1
          rwa [List.length_set] at this
        rw [List.getElem?_set_self hl] at e
        cases e; cases o
      · rw [List.getElem?_set_ne q] at e; exact e
    exact st.ow j k t u b (nd e1 o1) (nd e2 o2) o1 o2 h1 h2
/-- the list of a slot is known from now on -/
theorem StR.frzL (st : StR P w K Γ H0 G0 G H σ ss) {i : Nat} {ds : List D} (h : ss[i]? = some (.ol ds)) :
    ∃ a vs, σ[i]? = some (some (.ref a)) ∧ G a = none ∧ Rp K Γ (upd G a (.lst vs)) (.ref a) (.lst ds) ∧ StR P w K Γ H0 G0 (upd G a (.lst vs)) H σ (ss.set i (.d (.lst ds))) := by
  obtain ⟨v, hs, a, vs, e, hH, r, g, z⟩ := st.sl i _ h
  subst e
  have st1 := (st.drop i).freeze (o := .lst vs) hH (nt_of rfl) g z fun j t e ho hh => by
    by_cases q : i = j
    · subst q
      rw [List.getElem?_set_self (List.getElem?_eq_some_iff.mp h).1] at e
      cases e; cases ho
    · rw [List.getElem?_set_ne q] at e
      exact q (st.ow i j _ t a h e rfl ho hs hh)
  have rr : Rp K Γ (upd G a (.lst vs)) (.ref a) (.lst ds) := .lst upd_same (r.mono (Ex.new g))
  have st2 := st1.setD (i := i) rr
  rw [set_self hs, List.set_set] at st2
  exact ⟨a, vs, hs, g, rr, st2⟩
end

section
variable {X : Cx} {Γ : Gam} {W : WX} {pos : Pos}
/-! ### names and constants -/
def mC (d : D) : MD := fun ss k _ => k d ss
def mV (i : Nat) : MD := fun ss k _ => match ss[i]? with
  | some (.d x) => k x ss
  | some (.ol ds) => k (.lst ds) (ss.set i (.d (.lst ds)))
  | _ => False
theorem tv_ok {i : Nat} : ∀ σ H Q, rd X Γ W (mV i) σ H Q → tVar i σ H Q := by
  intro σ H Q h
  obtain ⟨H0, G0, G, ss, k, kx, st, hx, hm, hk⟩ := h
  unfold mV at hm
  cases e : ss[i]? with
  | none => rw [e] at hm; exact hm.elim
  | some s =>
    rw [e] at hm
    cases s with
    | un => exact hm.elim
    | od _ => exact hm.elim
    | ot _ => exact hm.elim
    | d x =>
      obtain ⟨o, ho, v, ev, r⟩ := st.sl i _ e
      subst ev
      exact ⟨v, ho, hk x ss v G H hm (Ex.refl _) st r⟩
    | ol ds =>
      obtain ⟨a, vs, hs, g, r, st2⟩ := st.frzL e
      exact ⟨.ref a, hs, hk _ _ _ _ _ hm (Ex.new g) st2 r⟩
theorem dv (i : Nat) {x : Str} (hN : X.N[i]? = some x := by rfl) (hv : Vis X.env.scope x := by first | exact Or.inl rfl | exact Or.inr (Or.inl rfl) | exact Or.inr (Or.inr rfl)) (hd : (x == ("__debug__" : Str)) = false := by decide)
    (hcd : (x == ("__classdict__" : Str)) = false := by decide) : PE X (.Name x pos) (rd X Γ W (mV i)) := pe_weak (pe_var hN hv hd hcd) tv_ok
theorem rc_ok {v : V} {d : D} (r : ∀ G, Rp X.K Γ G v d) : ∀ σ H Q, rd X Γ W (mC d) σ H Q → tC v σ H Q := by
  intro σ H Q h
  obtain ⟨H0, G0, G, ss, k, kx, st, hx, hm, hk⟩ := h
  exact hk d ss v G H hm (Ex.refl _) st (r G)
theorem d_int {i j} : PE X (.Constant (.int i) j pos) (rd X Γ W (mC (.int i))) := pe_weak pe_int (rc_ok fun _ => .int i)
theorem d_bl {b j} : PE X (.Constant (.bool b) j pos) (rd X Γ W (mC (.bl b))) := pe_weak pe_bl (rc_ok fun _ => .bl b)
theorem d_non {j} : PE X (.Constant .none j pos) (rd X Γ W (mC .non)) := pe_weak pe_non (rc_ok fun _ => .non)
theorem d_str {x j} : PE X (.Constant (.str x) j pos) (rd X Γ W (mC (.str x))) := pe_weak pe_str (rc_ok fun _ => .str x)
/-- a module's constant, by what it stands for -/
theorem d_glob {x : Str} {v : V} {u : Value} {d : D} (hg : Gl X x) (hm : X.mg x = some u) (r : RelV v u) (rp : ∀ G, Rp X.K Γ G v d) (hd : (x == ("__debug__" : Str)) = false := by decide) : PE X (.Name x pos) (rd X Γ W (mC d)) :=
  pe_weak (pe_glob hg hm r hd) (rc_ok rp)

/-! ### operations that make at most new things -/
def Prim2 (K : PySem.W.Frag) (Γ : Gam) (r : R2) (F : D → D → Option D) : Prop := ∀ (G H : Hp) (x y : V) (a b d : D) (Q : VK), Ex G H → Rp K Γ G x a → Rp K Γ G y b → F a b = some d →
  (∀ v G' H', Fr H G G' H' → Rp K Γ G' v d → Q v H') → r x y H Q
def mOp (F : D → D → Option D) (ma mb : MD) : MD := fun ss k kx => ma ss (fun a s1 => mb s1 (fun b s2 => lift (F a b) fun d => k d s2) kx) kx
theorem op_ok {r : R2} {F : D → D → Option D} {ma mb : MD} (pr : Prim2 X.K Γ r F) : ∀ σ H Q, rd X Γ W (mOp F ma mb) σ H Q → tOp r (rd X Γ W ma) (rd X Γ W mb) σ H Q := by
  intro σ H Q h
  obtain ⟨H0, G0, G, ss, k, kx, st, hx, hm, hk⟩ := h
  refine ⟨H0, G0, G, ss, _, kx, st, hx, hm, fun a s1 v G1 H1 h1 e1 st1 r1 => ?_⟩
  refine ⟨H0, G0, G1, s1, _, kx, st1, hx, h1, fun b s2 u G2 H2 h2 e2 st2 r2 => ?_⟩
  obtain ⟨d, hF, h3⟩ := lift_some h2
  exact pr G2 H2 v u a b d Q st2.gh (r1.mono e2) r2 hF fun z G3 H3 f r3 => hk d s2 z G3 H3 h3 (e1.trans (e2.trans f.gg)) (st2.le f) r3
theorem d_op {op : Operator} {r : R2} {F : D → D → Option D} {ma mb : MD} {a b : Expr} (ho : OpR X (binaryOp op) r) (pr : Prim2 X.K Γ r F) (ha : PE X a (rd X Γ W ma)) (hb : PE X b (rd X Γ W mb)) : PE X (.BinOp a op b pos) (rd X Γ W (mOp F ma mb)) :=
  pe_weak (pe_op ho ha hb) (op_ok pr)
theorem d_cmp {op : CmpOp} {r : R2} {F : D → D → Option D} {ma mb : MD} {a b : Expr} (ho : OpR X (compareOp op) r) (pr : Prim2 X.K Γ r F) (ha : PE X a (rd X Γ W ma)) (hb : PE X b (rd X Γ W mb)) (hm : behindInMarks op b = false := by first | exact nomark _ | rfl) :
    PE X (.Compare a [op] [b] pos) (rd X Γ W (mOp F ma mb)) := pe_weak (pe_cmpR ho ha hb hm) (op_ok pr)
theorem d_ix {r : R2} {F : D → D → Option D} {ma mb : MD} {a b : Expr} (ho : IxR X r) (pr : Prim2 X.K Γ r F) (ha : PE X a (rd X Γ W ma)) (hb : PE X b (rd X Γ W mb)) (hs : PlainIx b := by intro _ _; rfl) : PE X (.Subscript a b pos) (rd X Γ W (mOp F ma mb)) :=
  pe_weak (pe_ix ho ha hb hs) (op_ok pr)
/-- the same as a test -/
def mT (m : MD) : MB := fun ss k kx => m ss (fun d s => match d with
  | .bl b => k b s
  | _ => False) kx
theorem test_ok {m : MD} : ∀ σ H Q, rb X Γ W (mT m) σ H Q → tB (rd X Γ W m) σ H Q := by
  intro σ H Q h
  obtain ⟨H0, G0, G, ss, k, kx, st, hx, hm, hk⟩ := h
  refine ⟨H0, G0, G, ss, _, kx, st, hx, hm, fun d s1 v G1 H1 h1 e1 st1 r1 => ?_⟩
  cases d with
  | bl b => cases r1; exact ⟨b, rfl, hk b s1 G1 H1 h1 e1 st1⟩
  | _ => exact h1.elim
theorem test_ok2 {t : TE} {m : MD} (w : ∀ σ H Q, rd X Γ W m σ H Q → t σ H Q) : ∀ σ H Q, rb X Γ W (mT m) σ H Q → tTest t σ H Q := by
  intro σ H Q h
  refine w σ H _ ?_
  obtain ⟨H0, G0, G, ss, k, kx, st, hx, hm, hk⟩ := h
  refine ⟨H0, G0, G, ss, _, kx, st, hx, hm, fun d s1 v G1 H1 h1 e1 st1 r1 => ?_⟩
  cases d with
  | bl b => cases r1; exact ⟨b, rfl, hk b s1 G1 H1 h1 e1 st1⟩
  | _ => exact h1.elim
theorem t_val {e : Expr} {m : MD} (h : PE X e (rd X Γ W m)) (he : ∀ whole, isTrue e X.env whole = (do let v ← whole; standAt e.pos; holding [v] (truthy v)) := by intro _; rfl) : PT X e (rb X Γ W (mT m)) := pt_weak (pt_val h he) test_ok
theorem t_cmp {op : CmpOp} {r : R2} {F : D → D → Option D} {ma mb : MD} {a b : Expr} (ho : OpR X (compareOp op) r) (pr : Prim2 X.K Γ r F) (ha : PE X a (rd X Γ W ma)) (hb : PE X b (rd X Γ W mb)) (hm : behindInMarks op b = false := by first | exact nomark _ | rfl) :
    PT X (.Compare a [op] [b] pos) (rb X Γ W (mT (mOp F ma mb))) := pt_weak (pt_cmpR ho ha hb hm) (test_ok2 (op_ok pr))

/-! ### a < b < c -/
def mChain (F F' : D → D → Option D) (ma mb mc : MD) : MD := fun ss k kx => ma ss (fun a s1 => mb s1 (fun b s2 => lift (F a b) fun d => match d with
  | .bl true => mc s2 (fun c s3 => lift (F' b c) fun d => k d s3) kx
  | .bl false => k (.bl false) s2
  | _ => False) kx) kx
theorem chain_ok {r r' : R2} {F F' : D → D → Option D} {ma mb mc : MD} (pr : Prim2 X.K Γ r F) (pr' : Prim2 X.K Γ r' F') : ∀ σ H Q, rd X Γ W (mChain F F' ma mb mc) σ H Q → tChain r r' (rd X Γ W ma) (rd X Γ W mb) (rd X Γ W mc) σ H Q := by
  intro σ H Q h
  obtain ⟨H0, G0, G, ss, k, kx, st, hx, hm, hk⟩ := h
  refine ⟨H0, G0, G, ss, _, kx, st, hx, hm, fun a s1 v G1 H1 h1 e1 st1 r1 => ?_⟩
  refine ⟨H0, G0, G1, s1, _, kx, st1, hx, h1, fun b s2 u G2 H2 h2 e2 st2 r2 => ?_⟩
  obtain ⟨d, hF, h3⟩ := lift_some h2
  refine pr G2 H2 v u a b d _ st2.gh (r1.mono e2) r2 hF fun z G3 H3 f r3 => ?_
  cases d with
  | bl c =>
    cases r3
    refine ⟨c, rfl, ?_⟩
    cases c with
    | false => exact hk _ s2 _ G3 H3 h3 (e1.trans (e2.trans f.gg)) (st2.le f) (.bl false)
    | true =>
      refine ⟨H0, G0, G3, s2, _, kx, st2.le f, hx, h3, fun c s4 t G4 H4 h4 e4 st4 r4 => ?_⟩
      obtain ⟨d', hF', h5⟩ := lift_some h4
      exact pr' G4 H4 u t b c d' Q st4.gh (r2.mono (f.gg.trans e4)) r4 hF' fun z' G5 H5 f5 r5 => hk d' s4 z' G5 H5 h5 (e1.trans (e2.trans (f.gg.trans (e4.trans f5.gg)))) (st4.le f5) r5
  | _ => exact h3.elim
theorem d_chain {op op' : CmpOp} {r r' : R2} {F F' : D → D → Option D} {ma mb mc : MD} {a b c : Expr} (ho : OpR X (compareOp op) r) (ho' : OpR X (compareOp op') r') (pr : Prim2 X.K Γ r F) (pr' : Prim2 X.K Γ r' F') (ha : PE X a (rd X Γ W ma)) (hb : PE X b (rd X Γ W mb)) (hc : PE X c (rd X Γ W mc))
    (hm : lastMarks [op, op'] [b, c] = false := by with_unfolding_all rfl) : PE X (.Compare a [op, op'] [b, c] pos) (rd X Γ W (mChain F F' ma mb mc)) := pe_weak (pe_chain ho ho' ha hb hc hm) (chain_ok pr pr')
theorem t_chain {op op' : CmpOp} {r r' : R2} {F F' : D → D → Option D} {ma mb mc : MD} {a b c : Expr} (ho : OpR X (compareOp op) r) (ho' : OpR X (compareOp op') r') (pr : Prim2 X.K Γ r F) (pr' : Prim2 X.K Γ r' F') (ha : PE X a (rd X Γ W ma)) (hb : PE X b (rd X Γ W mb)) (hc : PE X c (rd X Γ W mc))
    (hm : lastMarks [op, op'] [b, c] = false := by with_unfolding_all rfl) : PT X (.Compare a [op, op'] [b, c] pos) (rb X Γ W (mT (mChain F F' ma mb mc))) := pt_weak (pt_chain ho ho' ha hb hc hm) (test_ok2 (chain_ok pr pr'))

/-! ### is None -/
def isNon : D → Option Bool
  | .non => some true
  | .fn _ => some false
  | .ty _ => some false
  | .cl _ => some false
  | .opq _ => none
  | .exc _ => some false
  | .dk _ => some false
  | .tpl _ => some false
  | .bl _ => some false | .int _ => some false | .str _ => some false | .lst _ => some false | .tup _ => some false | .frl _ => some false | .ins _ _ => some false
theorem isNon_ok {K : PySem.W.Frag} {G : Hp} {v : V} {d : D} {b : Bool} (r : Rp K Γ G v d) (h : isNon d = some b) : decide (v = .non) = b := by
  cases r <;> simp [isNon] at h <;> subst h <;> simp
def mIsN (neg : Bool) (m : MD) : MD := fun ss k kx => m ss (fun d s => lift (isNon d) fun b => k (.bl (if neg then !b else b)) s) kx
theorem isN_ok {m : MD} : ∀ σ H Q, rd X Γ W (mIsN false m) σ H Q → tIsN (rd X Γ W m) σ H Q := by
  intro σ H Q h
  obtain ⟨H0, G0, G, ss, k, kx, st, hx, hm, hk⟩ := h
  refine ⟨H0, G0, G, ss, _, kx, st, hx, hm, fun d s1 v G1 H1 h1 e1 st1 r1 => ?_⟩
  obtain ⟨b, hb, h2⟩ := lift_some h1
  rw [isNon_ok r1 hb]
  exact hk _ s1 _ G1 H1 h2 e1 st1 (.bl b)
theorem notN_ok {m : MD} : ∀ σ H Q, rd X Γ W (mIsN true m) σ H Q → tNotN (rd X Γ W m) σ H Q := by
  intro σ H Q h
  obtain ⟨H0, G0, G, ss, k, kx, st, hx, hm, hk⟩ := h
  refine ⟨H0, G0, G, ss, _, kx, st, hx, hm, fun d s1 v G1 H1 h1 e1 st1 r1 => ?_⟩
  obtain ⟨b, hb, h2⟩ := lift_some h1
  rw [isNon_ok r1 hb]
  exact hk _ s1 _ G1 H1 h2 e1 st1 (.bl (!b))
theorem d_isN {m : MD} {a : Expr} {j pos'} (ha : PE X a (rd X Γ W m)) : PE X (.Compare a [.Is] [.Constant .none j pos'] pos) (rd X Γ W (mIsN false m)) := pe_weak (pe_cmp (pc_isN ha)) isN_ok
theorem d_notN {m : MD} {a : Expr} {j pos'} (ha : PE X a (rd X Γ W m)) : PE X (.Compare a [.IsNot] [.Constant .none j pos'] pos) (rd X Γ W (mIsN true m)) := pe_weak (pe_cmp (pc_notN ha)) notN_ok
theorem t_isN {m : MD} {a : Expr} {j pos'} (ha : PE X a (rd X Γ W m)) : PT X (.Compare a [.Is] [.Constant .none j pos'] pos) (rb X Γ W (mT (mIsN false m))) := pt_weak (pt_cmp (pc_isN ha)) (test_ok2 isN_ok)
theorem t_notN {m : MD} {a : Expr} {j pos'} (ha : PE X a (rd X Γ W m)) : PT X (.Compare a [.IsNot] [.Constant .none j pos'] pos) (rb X Γ W (mT (mIsN true m))) := pt_weak (pt_cmp (pc_notN ha)) (test_ok2 notN_ok)

/-! ### and, or, not -/
def mAnd (a b : MB) : MB := fun ss k kx => a ss (fun c s => match c with
  | true => b s k kx
  | false => k false s) kx
def mOr (a b : MB) : MB := fun ss k kx => a ss (fun c s => match c with
  | true => k true s
  | false => b s k kx) kx
def mNot (a : MB) : MB := fun ss k kx => a ss (fun c s => k (!c) s) kx
theorem w_and1 {a : Expr} {m : MB} (ha : PT X a (rb X Γ W m)) : PW X (.BoolOp .And [a] pos) (rb X Γ W m) := pw_and1 ha
theorem w_or1 {a : Expr} {m : MB} (ha : PT X a (rb X Γ W m)) : PW X (.BoolOp .Or [a] pos) (rb X Γ W m) := pw_or1 ha
theorem pw_weak {e : Expr} {t u : TT} (h : PW X e t) (w : ∀ σ H Q, u σ H Q → t σ H Q) : PW X e u := ⟨fun wh pins s σ H Q I q => h.run wh pins s σ H Q I (w _ _ _ q)⟩
theorem and_ok {ma mb : MB} : ∀ σ H Q, rb X Γ W (mAnd ma mb) σ H Q → tAnd (rb X Γ W ma) (rb X Γ W mb) σ H Q := by
  intro σ H Q h
  obtain ⟨H0, G0, G, ss, k, kx, st, hx, hm, hk⟩ := h
  refine ⟨H0, G0, G, ss, _, kx, st, hx, hm, fun c s1 G1 H1 h1 e1 st1 => ?_⟩
  cases c with
  | true => exact iteT ⟨H0, G0, G1, s1, k, kx, st1, hx, h1, fun b s2 G2 H2 h2 e2 st2 => hk b s2 G2 H2 h2 (e1.trans e2) st2⟩
  | false => exact iteF (hk false s1 G1 H1 h1 e1 st1)
theorem or_ok {ma mb : MB} : ∀ σ H Q, rb X Γ W (mOr ma mb) σ H Q → tOr (rb X Γ W ma) (rb X Γ W mb) σ H Q := by
  intro σ H Q h
  obtain ⟨H0, G0, G, ss, k, kx, st, hx, hm, hk⟩ := h
  refine ⟨H0, G0, G, ss, _, kx, st, hx, hm, fun c s1 G1 H1 h1 e1 st1 => ?_⟩
  cases c with
  | false => exact iteF ⟨H0, G0, G1, s1, k, kx, st1, hx, h1, fun b s2 G2 H2 h2 e2 st2 => hk b s2 G2 H2 h2 (e1.trans e2) st2⟩
  | true => exact iteT (hk true s1 G1 H1 h1 e1 st1)
theorem w_and {a b : Expr} {rest : List Expr} {ma mb : MB} (ha : PT X a (rb X Γ W ma)) (hb : PW X (.BoolOp .And (b :: rest) pos) (rb X Γ W mb)) : PW X (.BoolOp .And (a :: b :: rest) pos) (rb X Γ W (mAnd ma mb)) := pw_weak (pw_and ha hb) and_ok
theorem w_or {a b : Expr} {rest : List Expr} {ma mb : MB} (ha : PT X a (rb X Γ W ma)) (hb : PW X (.BoolOp .Or (b :: rest) pos) (rb X Γ W mb)) : PW X (.BoolOp .Or (a :: b :: rest) pos) (rb X Γ W (mOr ma mb)) := pw_weak (pw_or ha hb) or_ok
theorem t_not {a : Expr} {m : MB} (ha : PT X a (rb X Γ W m)) : PT X (.UnaryOp .Not a pos) (rb X Γ W (mNot m)) := pt_weak (pt_not ha) fun σ H Q h => by
  obtain ⟨H0, G0, G, ss, k, kx, st, hx, hm, hk⟩ := h
  exact ⟨H0, G0, G, ss, _, kx, st, hx, hm, fun c s1 G1 H1 h1 e1 st1 => hk (!c) s1 G1 H1 h1 e1 st1⟩
/-- as values -/
def mAndV (a b : MD) : MD := fun ss k kx => a ss (fun d s => match d with
  | .bl true => b s k kx
  | .bl false => k (.bl false) s
  | _ => False) kx
def mOrV (a b : MD) : MD := fun ss k kx => a ss (fun d s => match d with
  | .bl true => k (.bl true) s
  | .bl false => b s k kx
  | _ => False) kx
def mNotV (a : MD) : MD := fun ss k kx => a ss (fun d s => match d with
  | .bl b => k (.bl (!b)) s
  | _ => False) kx
theorem d_one {op} {a : Expr} {m : MD} (h : PE X a (rd X Γ W m)) : PE X (.BoolOp op [a] pos) (rd X Γ W m) := pe_one h
theorem d_and {a b : Expr} {rest : List Expr} {ma mb : MD} (ha : PE X a (rd X Γ W ma)) (hb : PE X (.BoolOp .And (b :: rest) pos) (rd X Γ W mb)) : PE X (.BoolOp .And (a :: b :: rest) pos) (rd X Γ W (mAndV ma mb)) := pe_weak (pe_and ha hb) fun σ H Q h => by
  obtain ⟨H0, G0, G, ss, k, kx, st, hx, hm, hk⟩ := h
  refine ⟨H0, G0, G, ss, _, kx, st, hx, hm, fun c s1 v G1 H1 h1 e1 st1 r1 => ?_⟩
  cases c with
  | bl c =>
    cases r1
    refine ⟨c, rfl, ?_⟩
    cases c with
    | true => exact iteT ⟨H0, G0, G1, s1, k, kx, st1, hx, h1, fun b s2 v G2 H2 h2 e2 st2 r2 => hk b s2 v G2 H2 h2 (e1.trans e2) st2 r2⟩
    | false => exact iteF (hk _ s1 _ G1 H1 h1 e1 st1 (.bl false))
  | _ => exact h1.elim
theorem d_or {a b : Expr} {rest : List Expr} {ma mb : MD} (ha : PE X a (rd X Γ W ma)) (hb : PE X (.BoolOp .Or (b :: rest) pos) (rd X Γ W mb)) : PE X (.BoolOp .Or (a :: b :: rest) pos) (rd X Γ W (mOrV ma mb)) := pe_weak (pe_or ha hb) fun σ H Q h => by
  obtain ⟨H0, G0, G, ss, k, kx, st, hx, hm, hk⟩ := h
  refine ⟨H0, G0, G, ss, _, kx, st, hx, hm, fun c s1 v G1 H1 h1 e1 st1 r1 => ?_⟩
  cases c with
  | bl c =>
    cases r1
    refine ⟨c, rfl, ?_⟩
    cases c with
    | false => exact iteF ⟨H0, G0, G1, s1, k, kx, st1, hx, h1, fun b s2 v G2 H2 h2 e2 st2 r2 => hk b s2 v G2 H2 h2 (e1.trans e2) st2 r2⟩
    | true => exact iteT (hk _ s1 _ G1 H1 h1 e1 st1 (.bl true))
  | _ => exact h1.elim
theorem d_not {a : Expr} {m : MD} (ha : PE X a (rd X Γ W m)) : PE X (.UnaryOp .Not a pos) (rd X Γ W (mNotV m)) := pe_weak (pe_not ha) fun σ H Q h => by
  obtain ⟨H0, G0, G, ss, k, kx, st, hx, hm, hk⟩ := h
  refine ⟨H0, G0, G, ss, _, kx, st, hx, hm, fun c s1 v G1 H1 h1 e1 st1 r1 => ?_⟩
  cases c with
  | bl c => cases r1; exact ⟨c, rfl, hk _ s1 _ G1 H1 h1 e1 st1 (.bl (!c))⟩
  | _ => exact h1.elim
def mIf (c : MB) (a b : MD) : MD := fun ss k kx => c ss (fun c s => match c with
  | true => a s k kx
  | false => b s k kx) kx
theorem d_if {c a b : Expr} {mc : MB} {ma mb : MD} (hc : PT X c (rb X Γ W mc)) (ha : PE X a (rd X Γ W ma)) (hb : PE X b (rd X Γ W mb)) : PE X (.IfExp c a b pos) (rd X Γ W (mIf mc ma mb)) := pe_weak (pe_ifExp hc ha hb) fun σ H Q h => by
  obtain ⟨H0, G0, G, ss, k, kx, st, hx, hm, hk⟩ := h
  refine ⟨H0, G0, G, ss, _, kx, st, hx, hm, fun c s1 G1 H1 h1 e1 st1 => ?_⟩
  cases c with
  | true => exact iteT ⟨H0, G0, G1, s1, k, kx, st1, hx, h1, fun b s2 v G2 H2 h2 e2 st2 r2 => hk b s2 v G2 H2 h2 (e1.trans e2) st2 r2⟩
  | false => exact iteF ⟨H0, G0, G1, s1, k, kx, st1, hx, h1, fun b s2 v G2 H2 h2 e2 st2 r2 => hk b s2 v G2 H2 h2 (e1.trans e2) st2 r2⟩

/-! ### arguments, displays -/
def mNil : MA := fun ss k _ => k [] ss
def mCons (m : MD) (r : MA) : MA := fun ss k kx => m ss (fun d s => r s (fun ds s' => k (d :: ds) s') kx) kx
theorem a_nil : PA X [] (ra X Γ W mNil) := pa_weak pa_nil fun σ H Q h => by
  obtain ⟨H0, G0, G, ss, k, kx, st, hx, hm, hk⟩ := h
  exact hk [] ss [] G H hm (Ex.refl _) st .nil
theorem a_cons {e : Expr} {es : List Expr} {m : MD} {r : MA} (ha : PE X e (rd X Γ W m)) (hr : PA X es (ra X Γ W r)) (hs : starEach (e :: es) X.env = (false, eval e X.env) :: starEach es X.env := by rfl) : PA X (e :: es) (ra X Γ W (mCons m r)) :=
  pa_weak (pa_cons ha hr hs) fun σ H Q h => by
    obtain ⟨H0, G0, G, ss, k, kx, st, hx, hm, hk⟩ := h
    refine ⟨H0, G0, G, ss, _, kx, st, hx, hm, fun d s1 v G1 H1 h1 e1 st1 r1 => ?_⟩
    exact ⟨H0, G0, G1, s1, _, kx, st1, hx, h1, fun ds s2 vs G2 H2 h2 e2 st2 r2 => hk (d :: ds) s2 (v :: vs) G2 H2 h2 (e1.trans e2) st2 (.cons (r1.mono e2) r2)⟩
def mTup (m : MA) : MD := fun ss k kx => m ss (fun ds s => guard (Nat.ble ds.length mline) (k (.tup ds) s)) kx
theorem d_tup {es : List Expr} {m : MA} {x1} (h : PA X es (ra X Γ W m)) : PE X (.Tuple es x1 pos) (rd X Γ W (mTup m)) := pe_weak (pe_tupX h) fun σ H Q h => by
  obtain ⟨H0, G0, G, ss, k, kx, st, hx, hm, hk⟩ := h
  refine ⟨H0, G0, G, ss, _, kx, st, hx, hm, fun ds s1 vs G1 H1 h1 e1 st1 r1 => ?_⟩
  obtain ⟨hl, h2⟩ := guard_ok h1
  refine ⟨by rw [r1.length]; exact ble_line hl, fun p o hp hd => ?_⟩
  have f : Fr H1 G1 (upd G1 p (.frz o (.tup vs))) (upd H1 p (.frz o (.tup vs))) := Fr.new st1.gh hp
  exact hk _ s1 _ _ _ h2 (e1.trans f.gg) (st1.le f) (.tup (TupQ.of hd) (r1.mono f.gg))
/-- a new list -/
def mLst (m : MA) : MA := fun ss k kx => m ss (fun ds s => guard (Nat.ble ds.length mline) (k ds s)) kx
theorem StR.noOwn {P : Program} {w : World} {K : PySem.W.Frag} {H0 G0 G H : Hp} {σ : L2.St} {ss : List SV} (st : StR P w K Γ H0 G0 G H σ ss) {p : Addr} (hp : H p = none) : ∀ (i : Nat) (s : SV), ss[i]? = some s → s.own = true → σ[i]? ≠ some (some (.ref p)) := fun i s e ho q => by
  obtain ⟨o, h1, h2⟩ := st.sl i s e
  rw [q] at h1
  cases h1
  obtain ⟨a, u, h3, h4, _, _, _⟩ := h2.owned ho
  cases h3
  rw [hp] at h4
  cases h4
theorem l_lst {es : List Expr} {m : MA} (h : PA X es (ra X Γ W m)) : PE X (.List es pos) (rl X Γ W (mLst m)) := pe_weak (pe_lst h) fun σ H Q h => by
  obtain ⟨H0, G0, G, ss, k, kx, st, hx, hm, hk⟩ := h
  refine ⟨H0, G0, G, ss, _, kx, st, hx, hm, fun ds s1 vs G1 H1 h1 e1 st1 r1 => ?_⟩
  obtain ⟨hl, h2⟩ := guard_ok h1
  refine ⟨by rw [r1.length]; exact ble_line hl, fun p hp => ?_⟩
  have f : Fr H1 G1 G1 (upd H1 p (.lst vs)) := Fr.newH st1.gh hp
  exact hk _ s1 p vs G1 _ h2 e1 (st1.le f) r1 upd_same (st1.gh.back hp) (st1.hh.back hp) (st1.noOwn hp)
/-- a new list, taken as data -/
def mL (m : MA) : MD := fun ss k kx => m ss (fun ds s => k (.lst ds) s) kx
theorem d_l {e : Expr} {m : MA} (h : PE X e (rl X Γ W m)) : PE X e (rd X Γ W (mL m)) := pe_weak h fun σ H Q h => by
  obtain ⟨H0, G0, G, ss, k, kx, st, hx, hm, hk⟩ := h
  refine ⟨H0, G0, G, ss, _, kx, st, hx, hm, fun ds s1 a vs G1 H1 h1 e1 st1 r1 h2 g z no => ?_⟩
  exact hk _ s1 _ (upd G1 a (.lst vs)) H1 h1 (e1.trans (Ex.new g)) (st1.freeze h2 (nt_of rfl) g z no) (.lst upd_same (r1.mono (Ex.new g)))
/-- a call on values -/
def PrimC (K : PySem.W.Frag) (Γ : Gam) (r : List V → Hp → VK → Prop) (F : List D → Option D) : Prop := ∀ (G H : Hp) (vs : List V) (ds : List D) (d : D) (Q : VK), Ex G H → RpL K Γ G vs ds → F ds = some d →
  (∀ v G' H', Fr H G G' H' → Rp K Γ G' v d → Q v H') → r vs H Q
def mCall (F : List D → Option D) (m : MA) : MD := fun ss k kx => m ss (fun ds s => lift (F ds) fun d => k d s) kx
theorem call_ok {r : List V → Hp → VK → Prop} {F : List D → Option D} {m : MA} (pr : PrimC X.K Γ r F) : ∀ σ H Q, rd X Γ W (mCall F m) σ H Q → tCB r (ra X Γ W m) σ H Q := by
  intro σ H Q h
  obtain ⟨H0, G0, G, ss, k, kx, st, hx, hm, hk⟩ := h
  refine ⟨H0, G0, G, ss, _, kx, st, hx, hm, fun ds s1 vs G1 H1 h1 e1 st1 r1 => ?_⟩
  obtain ⟨d, hF, h2⟩ := lift_some h1
  exact pr G1 H1 vs ds d Q st1.gh r1 hF fun v G2 H2 f r2 => hk d s1 v G2 H2 h2 (e1.trans f.gg) (st1.le f) r2
theorem d_callB {x : Str} {id : String} {r : List V → Hp → VK → Prop} {F : List D → Option D} {m : MA} {e : Expr} {es : List Expr} {p : Pos} (hc : CallR X (.builtin id) r) (pr : PrimC X.K Γ r F) (hm : X.mg x = none) (hv : bootBuiltins x = some (.builtin id)) (ha : PA X (e :: es) (ra X Γ W m)) (hg : Gl X x := by rfl)
    (hn : x ≠ "__name__" := by decide) (hdb : (x == ("__debug__" : Str)) = false := by decide) (he : starEach (e :: es) X.env = (false, eval e X.env) :: starEach es X.env := by rfl) (hpl : (backTo pos (starEach es X.env)).any (·.1) = false := by rfl) :
    PE X (.Call (.Name x p) (e :: es) [] pos) (rd X Γ W (mCall F m)) := pe_weak (pe_callB hc hg hm hv ha hn hdb he hpl) (call_ok pr)
theorem d_callTy {x : Str} {T : String} {r : List V → Hp → VK → Prop} {F : List D → Option D} {m : MA} {e : Expr} {es : List Expr} {p : Pos} (hc : CallR X (.type T) r) (pr : PrimC X.K Γ r F) (hm : X.mg x = none) (hv : bootBuiltins x = some (.type T)) (ha : PA X (e :: es) (ra X Γ W m)) (hg : Gl X x := by rfl)
    (hn : x ≠ "__name__" := by decide) (hdb : (x == ("__debug__" : Str)) = false := by decide) (he : starEach (e :: es) X.env = (false, eval e X.env) :: starEach es X.env := by rfl) (hpl : (backTo pos (starEach es X.env)).any (·.1) = false := by rfl) :
    PE X (.Call (.Name x p) (e :: es) [] pos) (rd X Γ W (mCall F m)) := pe_weak (pe_callTy hc hg hm hv ha hn hdb he hpl) (call_ok pr)
end
end Dm
end -- DmLem2
section -- DmLem3
set_option Elab.async false
set_option linter.all false
set_option maxRecDepth 100000
namespace Dm
open PySem PySem.Spec PyProof.Rows L2
variable [Tbs]

/-- what the lemmas ask of where one stands -/
structure Cz (X : Cx) (W : WX) : Prop where
  tk : Takes X W
  calm : X.calm = true
  nd : X.N.Nodup
  po : PassesOwn (model X.prog X.w) X.A X.env X.xe
abbrev W0 : WX := fun _ _ _ _ => False
theorem Cz.blk {X : Cx} {W : WX} (c : Cz X W) (s : Shared) (H : Hp) (scope : Scope) (cenv : Env) (fp : List Addr) : Cz (X.blk s H scope cenv fp) W0 := ⟨takes0, c.calm, c.nd, PassesOwn.never⟩

/-! ### a def's promise -/
abbrev MF := List D → (D → Prop) → (XD → Prop) → Prop
def spD (K : PySem.W.Frag) (Γ : Gam) (n : Nat) (mf : MF) : Sp := fun vs H Q E => vs.length = n ∧ ∃ G ds k kx, Ex G H ∧ LamX.Tabs Tbs.T G ∧ RpL K Γ G vs ds ∧ mf ds k kx ∧
  (∀ d v G' H', k d → Fr H G G' H' → Rp K Γ G' v d → Q v H') ∧ (∀ x, kx x → ∀ cls d G' H', Fr H G G' H' → XRp K Γ G' cls d x → E cls d H')
def mFn (n : Nat) (mf : MF) (m : MA) : MD := fun ss k kx => m ss (fun ds s => guard (Nat.beq ds.length n) (mf ds (fun d => k d s) kx)) kx
section
variable {X : Cx} {Γ : Gam} {W : WX} {pos : Pos}
theorem fn_ok {n : Nat} {mf : MF} {m : MA} : ∀ σ H Q, rd X Γ W (mFn n mf m) σ H Q → tCallS (spD X.K Γ n mf) (WE W) (ra X Γ W m) σ H Q := by
  intro σ H Q h
  obtain ⟨H0, G0, G, ss, k, kx, st, hx, hm, hk⟩ := h
  refine ⟨H0, G0, G, ss, _, kx, st, hx, hm, fun ds s1 vs G1 H1 h1 e1 st1 r1 => ?_⟩
  obtain ⟨hl, h2⟩ := guard_ok h1
  refine ⟨by rw [r1.length]; exact Nat.eq_of_beq_eq_true hl, G1, ds, _, kx, st1.gh, fun p hp => st1.gg.ts p hp (st1.tbs p hp), r1, h2, fun d v G2 H2 h3 f r2 => hk d s1 v G2 H2 h3 (e1.trans f.gg) (st1.le f) r2, fun x hkx cls d G2 H2 f r2 => ?_⟩
  exact hx x hkx cls d σ G2 H2 (st1.toFr.step f) r2
theorem d_call {x : Str} {p : Pos} {k n : Nat} {f : Addr} {fd : FuncData} {ps : List Str} {mf : MF} {m : MA} {e : Expr} {es : List Expr} (c : Cz X W) (F : FnOk X.prog X.w X.K X.mg X.base (L2.CX X.prog X.w) k f fd ps (spD X.K Γ n mf)) (hr : Room k X.A) (hm : X.mg x = some (.ref f))
    (hk : PySem.W.keepIn X.K (.ref f) = true) (hb : Binds X.K fd ps []) (ha : PA X (e :: es) (ra X Γ W m)) (hg : Gl X x := by rfl) (hdb : (x == ("__debug__" : Str)) = false := by decide)
    (he : starEach (e :: es) X.env = (false, eval e X.env) :: starEach es X.env := by rfl) (hpl : (backTo pos (starEach es X.env)).any (·.1) = false := by rfl) :
    PE X (.Call (.Name x p) (e :: es) [] pos) (rd X Γ W (mFn n mf m)) := pe_weak (pe_callS F hr hg hm hk hb (fun σ => passAt c.tk σ) ha hdb he hpl) fn_ok
theorem pe_callS0 {x : Str} {p : Pos} {k : Nat} {f : Addr} {fd : FuncData} {ps : List Str} {sp : Sp} {E : L2.St → XK} (F : FnOk X.prog X.w X.K X.mg X.base (L2.CX X.prog X.w) k f fd ps sp) (hr : Room k X.A) (hg : Gl X x) (hm : X.mg x = some (.ref f)) (hk : PySem.W.keepIn X.K (.ref f) = true)
    (hb : Binds X.K fd ps []) (hx : ∀ σ, PassesAt (L2.CX X.prog X.w) X σ (E σ)) (hdb : (x == ("__debug__" : Str)) = false := by decide) : PE X (.Call (.Name x p) [] [] pos) (tCallS sp E tNil) := by
  refine ⟨fun pins s σ H Q I h => ?_⟩
  refine wpAny_Call_Name_kw (ld_glob I hg hm ?_ hdb)
  exact PySem.W.callWith_K0 I.kIn hk (run_fnS (us := []) F hr hb (hx σ) I .nil h)
theorem d_call0 {x : Str} {p : Pos} {k : Nat} {f : Addr} {fd : FuncData} {ps : List Str} {mf : MF} (c : Cz X W) (F : FnOk X.prog X.w X.K X.mg X.base (L2.CX X.prog X.w) k f fd ps (spD X.K Γ 0 mf)) (hr : Room k X.A) (hm : X.mg x = some (.ref f))
    (hk : PySem.W.keepIn X.K (.ref f) = true) (hb : Binds X.K fd ps []) (hg : Gl X x := by rfl) (hdb : (x == ("__debug__" : Str)) = false := by decide) :
    PE X (.Call (.Name x p) [] [] pos) (rd X Γ W (mFn 0 mf mNil)) := pe_weak (pe_callS0 F hr hg hm hk hb (fun σ => passAt c.tk σ) hdb) fun σ H Q h => by
  obtain ⟨H0, G0, G, ss, k, kx, st, hx, hm, hk⟩ := h
  obtain ⟨hl, h2⟩ := guard_ok (show guard true (mf [] (fun d => k d ss) kx) from hm)
  exact ⟨rfl, G, [], _, kx, st.gh, fun p hp => st.gg.ts p hp (st.tbs p hp), .nil, h2, fun d v G2 H2 h3 f r2 => hk d ss v G2 H2 h3 f.gg (st.le f) r2, fun x hkx cls d G2 H2 f r2 => hx x hkx cls d σ G2 H2 (st.toFr.step f) r2⟩

/-! ### statements -/
def mNext : MS := fun ss C => C.nx ss
def mSeq (a b : MS) : MS := fun ss C => a ss { C with nx := fun s => b s C }
theorem s_nil : PSs X [] (rs X Γ W mNext) := pss_weak pss_nil fun D σ H h => by
  obtain ⟨H0, G0, G, ss, C, st, hx, hm, h1, h2, h3, h4⟩ := h
  exact h1 ss σ G H hm st
theorem s_one {s : Stmt} {m : MS} (h : PS X s (rs X Γ W m)) : PSs X [s] (rs X Γ W m) := pss_one h
theorem s_cons {s : Stmt} {rest : List Stmt} {a b : MS} (h1 : PS X s (rs X Γ W a)) (h2 : PSs X rest (rs X Γ W b)) : PSs X (s :: rest) (rs X Γ W (mSeq a b)) := pss_weak (pss_cons h1 h2) fun D σ H h => by
  obtain ⟨H0, G0, G, ss, C, st, hx, hm, h1, h2, h3, h4⟩ := h
  exact ⟨H0, G0, G, ss, { C with nx := fun s => b s C }, st, hx, hm, fun ss' σ' G' H' q st' => ⟨H0, G0, G', ss', C, st', hx, q, h1, h2, h3, h4⟩, h2, h3, h4⟩
def mAsg (i : Nat) (m : MD) : MS := fun ss C => m ss (fun d s => C.nx (s.set i (.d d))) C.kx
theorem s_asg (c : Cz X W) (i : Nat) {x : Str} {e : Expr} {m : MD} {pos' : Pos} (he : PE X e (rd X Γ W m)) (hi : X.N[i]? = some x := by rfl) (hx : Loc X.env.scope x := by first | exact Or.inl rfl | exact Or.inr rfl) (hs : swapsWith e (some (.Name x pos')) pos.line X.env = pure false := by rfl)
    (hf : X.fn x = true ∨ X.env.scope.names.lookup x = some .local := by first | exact .inl rfl | exact .inr rfl) : PS X (.Assign [.Name x pos'] e pos) (rs X Γ W (mAsg i m)) := ps_weak (ps_set c.nd hi hx he hs hf) fun D σ H h => by
  obtain ⟨H0, G0, G, ss, C, st, hx, hm, h1, h2, h3, h4⟩ := h
  exact ⟨H0, G0, G, ss, _, _, st, hx, hm, fun d s v G' H' q e st' r => h1 _ _ G' H' q (st'.setD r)⟩
/-- x = a new list -/
def mAsgL (i : Nat) (m : MA) : MS := fun ss C => m ss (fun ds s => C.nx (s.set i (.ol ds))) C.kx
theorem asgL_ok {i : Nat} {m : MA} : ∀ D σ H, rs X Γ W (mAsgL i m) D σ H → tAsg (rl X Γ W m) (gName i) D σ H := fun D σ H h => by
  obtain ⟨H0, G0, G, ss, C, st, hx, hm, h1, h2, h3, h4⟩ := h
  refine ⟨H0, G0, G, ss, _, _, st, hx, hm, fun ds s a vs G' H' q e st' r hH g z no => h1 _ _ G' H' q (st'.setO ⟨a, vs, rfl, hH, r, g, z⟩ fun j t hj et ho => no j t et ho)⟩
theorem s_asgL (c : Cz X W) (i : Nat) {x : Str} {e : Expr} {m : MA} {pos' : Pos} (he : PE X e (rl X Γ W m)) (hi : X.N[i]? = some x := by rfl) (hx : Loc X.env.scope x := by first | exact Or.inl rfl | exact Or.inr rfl) (hs : swapsWith e (some (.Name x pos')) pos.line X.env = pure false := by rfl)
    (hf : X.fn x = true ∨ X.env.scope.names.lookup x = some .local := by first | exact .inl rfl | exact .inr rfl) : PS X (.Assign [.Name x pos'] e pos) (rs X Γ W (mAsgL i m)) := ps_weak (ps_set c.nd hi hx he hs hf) asgL_ok
def mRet (m : MD) : MS := fun ss C => m ss (fun d _ => C.rt d) C.kx
theorem s_ret {e : Expr} {m : MD} (he : PE X e (rd X Γ W m)) : PS X (.Return (some e) pos) (rs X Γ W (mRet m)) := ps_weak (ps_ret he) fun D σ H h => by
  obtain ⟨H0, G0, G, ss, C, st, hx, hm, h1, h2, h3, h4⟩ := h
  exact ⟨H0, G0, G, ss, _, _, st, hx, hm, fun d s v G' H' q e st' r => h2 d v G' H' q st'.toFr r⟩
def mRetN : MS := fun ss C => C.rt .non
theorem s_retN : PS X (.Return none pos) (rs X Γ W mRetN) := ps_weak ps_retN fun D σ H h => by
  obtain ⟨H0, G0, G, ss, C, st, hx, hm, h1, h2, h3, h4⟩ := h
  exact h2 .non .non G H hm st.toFr .non
def mIfS (c : MB) (a b : MS) : MS := fun ss C => c ss (fun b' s => match b' with
  | true => a s C
  | false => b s C) C.kx
theorem s_if {c : Expr} {a b : List Stmt} {mc : MB} {ma mb : MS} (hc : PT X c (rb X Γ W mc)) (ha : PSs X a (rs X Γ W ma)) (hb : PSs X b (rs X Γ W mb)) : PS X (.If c a b pos) (rs X Γ W (mIfS mc ma mb)) := ps_weak (ps_if hc ha hb) fun D σ H h => by
  obtain ⟨H0, G0, G, ss, C, st, hx, hm, h1, h2, h3, h4⟩ := h
  refine ⟨H0, G0, G, ss, _, _, st, hx, hm, fun b s G' H' q e st' => ?_⟩
  cases b with
  | true => exact iteT ⟨H0, G0, G', s, C, st', hx, q, h1, h2, h3, h4⟩
  | false => exact iteF ⟨H0, G0, G', s, C, st', hx, q, h1, h2, h3, h4⟩
def mDrop (m : MD) : MS := fun ss C => m ss (fun _ s => C.nx s) C.kx
theorem s_expr {e : Expr} {m : MD} (he : PE X e (rd X Γ W m)) (hs : swapsWith e none pos.line X.env = pure false := by rfl) : PS X (.Expr e pos) (rs X Γ W (mDrop m)) := ps_weak (ps_expr he hs) fun D σ H h => by
  obtain ⟨H0, G0, G, ss, C, st, hx, hm, h1, h2, h3, h4⟩ := h
  exact ⟨H0, G0, G, ss, _, _, st, hx, hm, fun d s v G' H' q e st' r => h1 s σ G' H' q st'⟩
theorem s_pass : PS X (.Pass pos) (rs X Γ W mNext) := ps_weak ps_pass fun D σ H h => by
  obtain ⟨H0, G0, G, ss, C, st, hx, hm, h1, h2, h3, h4⟩ := h
  exact h1 ss σ G H hm st
def mBrk : MS := fun ss C => C.bk ss
def mCnt : MS := fun ss C => C.ct ss
theorem s_break : PS X (.Break pos) (rs X Γ W mBrk) := ps_weak ps_break fun D σ H h => by
  obtain ⟨H0, G0, G, ss, C, st, hx, hm, h1, h2, h3, h4⟩ := h
  exact h3 ss σ G H hm st
theorem s_continue : PS X (.Continue pos) (rs X Γ W mCnt) := ps_weak ps_continue fun D σ H h => by
  obtain ⟨H0, G0, G, ss, C, st, hx, hm, h1, h2, h3, h4⟩ := h
  exact h4 ss σ G H hm st
/-- x.append(e), x a list of its own -/
def mApp (i : Nat) (m : MD) : MS := fun ss C => match ss[i]? with
  | some (.ol _) => m ss (fun d s => match s[i]? with
    | some (.ol ds) => guard (Nat.blt ds.length mline) (C.nx (s.set i (.ol (ds ++ [d]))))
    | _ => False) C.kx
  | _ => False
theorem s_app (i : Nat) {x : Str} {e : Expr} {m : MD} {np ap cp : Pos} (he : PE X e (rd X Γ W m)) (hN : X.N[i]? = some x := by rfl) (hv : Vis X.env.scope x := by first | exact Or.inl rfl | exact Or.inr (Or.inl rfl) | exact Or.inr (Or.inr rfl)) (hd : (x == ("__debug__" : Str)) = false := by decide)
    (hcd : (x == ("__classdict__" : Str)) = false := by decide) (hbase : attributeBase (.Name x np) "append" X.env (eval (.Name x np) X.env) = eval (.Name x np) X.env := by rfl)
    (hfew : ((backTo cp (starEach [e] X.env)).all (fun x => !x.1) && (backToKw cp (keywordEach [] X.env)).all (fun x => x.1.isSome) && decide ([e].length + ([] : List Keyword).length + (if ([] : List Keyword).isEmpty then 0 else 1) < 30)) = true := by rfl)
    (hline : (ap.endLine == cp.line) = true := by rfl) (hs : starEach [e] X.env = (false, eval e X.env) :: starEach [] X.env := by rfl) (hplain : (backTo cp (starEach [] X.env)).any (·.1) = false := by rfl)
    (hsw : swapsWith (.Call (.Attribute (.Name x np) "append" ap) [e] [] cp) none pos.line X.env = pure false := by rfl) :
    PS X (.Expr (.Call (.Attribute (.Name x np) "append" ap) [e] [] cp) pos) (rs X Γ W (mApp i m)) :=
  ps_weak (ps_expr (pe_bm PySem.F.plainAttrs_list PySem.F.slot_list_append PySem.F.type_list_append mt_append (pe_var (pos := np) hN hv hd hcd) (pa_cons he pa_nil hs) hbase hfew hline hs hplain) hsw) fun D σ H h => by
    obtain ⟨H0, G0, G, ss, C, st, hx, hm, h1, h2, h3, h4⟩ := h
    unfold mApp at hm
    split at hm
    · rename_i ds0 e0
      obtain ⟨o, ho, a, vs, eo, hH, r, g, z⟩ := st.sl i _ e0
      subst eo
      refine ⟨.ref a, ho, .inl ⟨rfl, vs, SqL.of hH⟩, H0, G0, G, ss, _, _, st, hx, hm, fun d s v G' H' q e st' rv => ?_⟩
      split at q
      · rename_i ds e1
        obtain ⟨hl, q⟩ := guard_ok q
        obtain ⟨o', ho', a', vs', eo', hH', r', g', z'⟩ := st'.sl i _ e1
        subst eo'
        rw [ho] at ho'
        cases ho'
        refine ⟨a, vs', v, rfl, rfl, hH', ?_, ?_⟩
        · rw [r'.length, sizeLine_eq]
          exact Nat.le_of_ble_eq_true hl
        · exact h1 _ σ G' _ q (st'.mutate e1 rfl ho rfl g' z' ⟨a, vs' ++ [v], rfl, upd_same, r'.append (.cons rv .nil), g', z'⟩)
      · exact q.elim
    · exact hm.elim
/-- raise: what makes an exception, over data -/
def rx (X : Cx) (Γ : Gam) (W : WX) (m : List SV → (XD → Prop) → (XD → Prop) → Prop) : L2.St → Hp → XK → Prop := fun σ H Q => ∃ H0 G0 G ss k kx, StR X.prog X.w X.K Γ H0 G0 G H σ ss ∧ XOk X.K Γ H0 G0 W kx ∧ m ss k kx ∧
  ∀ x cls d G' H', k x → Fr H0 G0 G' H' → XRp X.K Γ G' cls d x → Q cls d H'
theorem s_raise {e : Expr} {m : List SV → (XD → Prop) → (XD → Prop) → Prop} (c : Cz X W) (he : PMk X e (rx X Γ W m)) : PS X (.Raise (some e) none pos) (rs X Γ W (fun ss C => m ss C.kx C.kx)) := ps_weak (ps_raise c.calm c.tk he) fun D σ H h => by
  obtain ⟨H0, G0, G, ss, C, st, hx, hm, h1, h2, h3, h4⟩ := h
  exact ⟨H0, G0, G, ss, _, _, st, hx, hm, fun x cls d G' H' q f r => hx x q cls d σ G' H' f r⟩

/-! ### walks -/
/-- J walks the things ds, from the known heap G on -/
def DWalk (K : PySem.W.Frag) (Γ : Gam) (J : It) (G : Hp) (ds : List D) : Prop :=
  Walk J ds.length (fun H => Ex G H) fun i H x H' => ∀ G1, Ex G G1 → Ex G1 H → ∃ G2, Fr H G1 G2 H' ∧ ∀ d, ds[i]? = some d → Rp K Γ G2 x d
abbrev ri (X : Cx) (Γ : Gam) (W : WX) (m : MA) : TI := fun σ H R => ∃ H0 G0 G ss k kx, StR X.prog X.w X.K Γ H0 G0 G H σ ss ∧ XOk X.K Γ H0 G0 W kx ∧ m ss k kx ∧
  ∀ ds ss' G' H' J, k ds ss' → Ex G G' → StR X.prog X.w X.K Γ H0 G0 G' H' σ ss' → DWalk X.K Γ J G' ds → R J H'
abbrev MT := D → List SV → (List SV → Prop) → Prop
def rg (X : Cx) (Γ : Gam) (ts : List Nat) (m : MT) : TG := fun v σ H Q => ∃ H0 G0 G ss d k, StR X.prog X.w X.K Γ H0 G0 G H σ ss ∧ Rp X.K Γ G v d ∧ m d ss k ∧
  ∀ ss' σ' G' H', k ss' → Ex G G' → StR X.prog X.w X.K Γ H0 G0 G' H' σ' ss' → σ'.length = σ.length → (∀ j, j ∉ ts → σ'[j]? = σ[j]?) → Q σ' H'
def rgs (X : Cx) (Γ : Gam) (ts : List Nat) (m : List D → List SV → (List SV → Prop) → Prop) : TGs := fun vs σ H Q => ∃ H0 G0 G ss ds k, StR X.prog X.w X.K Γ H0 G0 G H σ ss ∧ RpL X.K Γ G vs ds ∧ m ds ss k ∧
  ∀ ss' σ' G' H', k ss' → Ex G G' → StR X.prog X.w X.K Γ H0 G0 G' H' σ' ss' → σ'.length = σ.length → (∀ j, j ∉ ts → σ'[j]? = σ[j]?) → Q σ' H'
theorem pg_weak {t : Expr} {g g' : TG} (h : PG X t g) (w : ∀ v σ H Q, g' v σ H Q → g v σ H Q) : PG X t g' := ⟨fun pins s σ H v u Q I r q => h.run pins s σ H v u Q I r (w _ _ _ _ q)⟩
theorem pgs_weak {t : List Expr} {g g' : TGs} (h : PGs X t g) (w : ∀ v σ H Q, g' v σ H Q → g v σ H Q) : PGs X t g' := ⟨fun pins s σ H v u Q I r q => h.run pins s σ H v u Q I r (w _ _ _ _ q)⟩
def mtN (i : Nat) : MT := fun d ss k => k (ss.set i (.d d))
theorem g_name (c : Cz X W) (i : Nat) {x : Str} (hi : X.N[i]? = some x := by rfl) (hx : Loc X.env.scope x := by first | exact Or.inl rfl | exact Or.inr rfl) (hf : X.fn x = true ∨ X.env.scope.names.lookup x = some .local := by first | exact .inl rfl | exact .inr rfl) : PG X (.Name x pos) (rg X Γ [i] (mtN i)) :=
  pg_weak (pg_name c.nd hi hx hf) fun v σ H Q h => by
    obtain ⟨H0, G0, G, ss, d, k, st, r, hm, hk⟩ := h
    exact hk _ _ G H hm (Ex.refl _) (st.setD r) List.length_set fun j hj => List.getElem?_set_ne (fun e => hj (by rw [e]; exact List.mem_cons_self))
def mtNil : List D → List SV → (List SV → Prop) → Prop := fun ds ss k => match ds with
  | [] => k ss
  | _ => False
def mtCons (m : MT) (r : List D → List SV → (List SV → Prop) → Prop) : List D → List SV → (List SV → Prop) → Prop := fun ds ss k => match ds with
  | d :: ds => m d ss fun s => r ds s k
  | [] => False
theorem gs_nil : PGs X [] (rgs X Γ [] mtNil) := pgs_weak pgs_nil fun vs σ H Q h => by
  obtain ⟨H0, G0, G, ss, ds, k, st, r, hm, hk⟩ := h
  cases r with
  | nil => exact ⟨rfl, hk _ _ G H hm (Ex.refl _) st rfl fun _ _ => rfl⟩
  | cons _ _ => exact hm.elim
theorem gs_cons {e : Expr} {es : List Expr} {m : MT} {r : List D → List SV → (List SV → Prop) → Prop} {t1 t2 : List Nat} (h1 : PG X e (rg X Γ t1 m)) (h2 : PGs X es (rgs X Γ t2 r)) (hs : (assignEach (e :: es) X.env).map (·.2) = assign e X.env :: (assignEach es X.env).map (·.2) := by rfl) :
    PGs X (e :: es) (rgs X Γ (t1 ++ t2) (mtCons m r)) := pgs_weak (pgs_cons h1 h2 hs) fun vs σ H Q h => by
  obtain ⟨H0, G0, G, ss, ds, k, st, r, hm, hk⟩ := h
  cases r with
  | nil => exact hm.elim
  | cons r1 r2 => exact ⟨_, _, rfl, H0, G0, G, ss, _, _, st, r1, hm, fun s σ' G' H' q e st' l1 o1 => ⟨H0, G0, G', s, _, _, st', r2.mono e, q, fun s2 σ2 G2 H2 q2 e2 st2 l2 o2 => hk s2 σ2 G2 H2 q2 (e.trans e2) st2 (l2.trans l1) fun j hj => (o2 j fun z => hj (List.mem_append_right _ z)).trans (o1 j fun z => hj (List.mem_append_left _ z))⟩⟩
def mtTup (n : Nat) (r : List D → List SV → (List SV → Prop) → Prop) : MT := fun d ss k => match d with
  | .tup ds => guard (Nat.beq ds.length n) (r ds ss k)
  | .tpl ds => guard (Nat.beq ds.length n) (r ds ss k)
  | _ => False
theorem g_tup (c : Cz X W) {es : List Expr} {k : Nat} {n : Nat} {ts : List Nat} {r : List D → List SV → (List SV → Prop) → Prop} (h : PGs X es (rgs X Γ ts r)) (hn : (assignEach es X.env).length = n := by rfl) (hst : (assignEach es X.env).findIdx? (·.1) = none := by rfl) : PG X (.Tuple es k pos) (rg X Γ ts (mtTup n r)) :=
  pg_weak (pg_tup c.calm h hn hst) fun v σ H Q h => by
    obtain ⟨H0, G0, G, ss, d, k, st, r, hm, hk⟩ := h
    unfold mtTup at hm
    split at hm
    · cases r with
      | tup hq hr =>
        obtain ⟨hl, hm⟩ := guard_ok hm
        exact ⟨_, _, rfl, ex_t st.gh hq.sqt, by rw [hr.length]; exact Nat.eq_of_beq_eq_true hl, H0, G0, G, ss, _, k, st, hr, hm, hk⟩
    · cases r with
      | tpl hq hr =>
        obtain ⟨hl, hm⟩ := guard_ok hm
        exact ⟨_, _, rfl, ex_t st.gh hq, by rw [hr.length]; exact Nat.eq_of_beq_eq_true hl, H0, G0, G, ss, _, k, st, hr, hm, hk⟩
    · exact hm.elim
/-- target = e -/
def mAsgG (mt : MT) (m : MD) : MS := fun ss C => m ss (fun d s => mt d s C.nx) C.kx
theorem s_asgG {tg e : Expr} {m : MD} {mt : MT} {ts : List Nat} (he : PE X e (rd X Γ W m)) (hg : PG X tg (rg X Γ ts mt)) (hs : swapsWithSole [tg] e pos.line X.env = pure false := by rfl) (hw : swappedStores [tg] e X.env = pure none := by rfl)
    (h1 : (assignEach [tg] X.env).map (·.2) = [assign tg X.env] := by rfl) : PS X (.Assign [tg] e pos) (rs X Γ W (mAsgG mt m)) := ps_weak (ps_asg he hg hs hw h1) fun D σ H h => by
  obtain ⟨H0, G0, G, ss, C, st, hx, hm, h1, h2, h3, h4⟩ := h
  exact ⟨H0, G0, G, ss, _, _, st, hx, hm, fun d s v G' H' q e st' r => ⟨H0, G0, G', s, d, _, st', r, q, fun s2 σ2 G2 H2 q2 _ st2 _ _ => h1 s2 σ2 G2 H2 q2 st2⟩⟩
/-- for target in iter -/
def mForGo (mt : MT) (mb : MS) : List D → MS
  | [], ss, C => C.nx ss
  | d :: ds, ss, C => mt d ss fun s1 => mb s1 { nx := fun s => mForGo mt mb ds s C, rt := C.rt, kx := C.kx, bk := C.nx, ct := fun s => mForGo mt mb ds s C }
def mFor (mi : MA) (mt : MT) (mb : MS) : MS := fun ss C => mi ss (fun ds s => mForGo mt mb ds s C) C.kx
theorem s_for (c : Cz X W) {tg iter : Expr} {body : List Stmt} {mi : MA} {mt : MT} {ts : List Nat} {mb : MS} (hi : PI X tg iter (ri X Γ W mi)) (hg : PG X tg (rg X Γ ts mt)) (hb : PSs X body (rs X Γ W mb)) (hs : ∀ x, foldedSetIterable iter X.env x = pure x := by intro _; rfl) :
    PS X (.For tg iter body [] pos) (rs X Γ W (mFor mi mt mb)) := ps_weak (ps_for c.po c.calm hi hg hb hs) fun D σ H h => by
  obtain ⟨H0, G0, G, ss, C, st, hx, hm, h1, h2, h3, h4⟩ := h
  refine ⟨H0, G0, G, ss, _, _, st, hx, hm, fun ds s G1 H1 J q e st1 wk => ?_⟩
  refine for_it wk (fun i σ' H' => ∃ G' s', StR X.prog X.w X.K Γ H0 G1 G' H' σ' s' ∧ mForGo mt mb (ds.drop i) s' C) ⟨G1, s, st1.reG, q⟩ (fun i σ' H' _ ⟨G', s', st', _⟩ => st'.gg.trans st'.gh) (fun i x σ' H' H2 hl ⟨G', s', st', q'⟩ y => ?_) (fun σ' H' ⟨G', s', st', q'⟩ => ?_)
  · obtain ⟨G2, f, hd⟩ := y G' st'.gg st'.gh
    have e1 : ds.drop i = ds[i] :: ds.drop (i + 1) := List.drop_eq_getElem_cons hl
    rw [e1] at q'
    have st2 := st'.le f
    refine ⟨H0, G1, G2, s', ds[i], _, st2, hd _ (List.getElem?_eq_getElem hl), q', fun s3 σ3 G3 H3 q3 _ st3 _ _ => ?_⟩
    refine ⟨H0, G1, G3, s3, { nx := fun s => mForGo mt mb (ds.drop (i + 1)) s C, rt := C.rt, kx := C.kx, bk := C.nx, ct := fun s => mForGo mt mb (ds.drop (i + 1)) s C }, st3, hx.reG st1.toFr, q3, fun s4 σ4 G4 H4 q4 st4 => ⟨G4, s4, st4, q4⟩, fun d v G4 H4 q4 f4 r4 => h2 d v G4 H4 q4 (st1.toFr.unG f4) r4, fun s4 σ4 G4 H4 q4 st4 => h1 s4 σ4 G4 H4 q4 (st1.unG st4), fun s4 σ4 G4 H4 q4 st4 => ⟨G4, s4, st4, q4⟩⟩
  · rw [List.drop_length] at q'
    exact h1 s' σ' G' H' q' (st1.unG st')
/-- while, so many turns at most -/
def mWhileGo (mc : MB) (mb : MS) : Nat → MS
  | 0, _, _ => False
  | n + 1, ss, C => mc ss (fun b s => match b with
    | true => mb s { nx := fun s => mWhileGo mc mb n s C, rt := C.rt, kx := C.kx, bk := C.nx, ct := fun s => mWhileGo mc mb n s C }
    | false => C.nx s) C.kx
def mWhile (mc : MB) (mb : MS) : MS := fun ss C => ∃ n, mWhileGo mc mb n ss C
theorem s_while (c : Cz X W) {cond : Expr} {body : List Stmt} {mc : MB} {mb : MS} (hc : PT X cond (rb X Γ W mc)) (hb : PSs X body (rs X Γ W mb)) : PS X (.While cond body [] pos) (rs X Γ W (mWhile mc mb)) := ps_weak (ps_while c.po hc hb) fun D σ H h => by
  obtain ⟨H0, G0, G, ss, C, st, hx, ⟨n, hm⟩, h1, h2, h3, h4⟩ := h
  refine ⟨fun m σ' H' => ∃ G' s', StR X.prog X.w X.K Γ H0 G0 G' H' σ' s' ∧ mWhileGo mc mb m s' C, ⟨n, G, ss, st, hm⟩, fun m σ' H' ⟨G', s', st', q⟩ => ?_⟩
  cases m with
  | zero => exact q.elim
  | succ m =>
    refine ⟨H0, G0, G', s', _, _, st', hx, q, fun b s2 G2 H2 q2 _ st2 => ?_⟩
    cases b with
    | false => exact iteF (h1 s2 σ' G2 H2 q2 st2)
    | true =>
      refine iteT ⟨fun σ3 H3 => ∃ G' s', StR X.prog X.w X.K Γ H0 G0 G' H3 σ3 s' ∧ mWhileGo mc mb m s' C, fun σ3 H3 q3 => ⟨m, Nat.lt_succ_self _, q3⟩, ?_⟩
      exact ⟨H0, G0, G2, s2, { nx := fun s => mWhileGo mc mb m s C, rt := C.rt, kx := C.kx, bk := C.nx, ct := fun s => mWhileGo mc mb m s C }, st2, hx, q2, fun s4 σ4 G4 H4 q4 st4 => ⟨G4, s4, st4, q4⟩, h2, h1, fun s4 σ4 G4 H4 q4 st4 => ⟨G4, s4, st4, q4⟩⟩
end
end Dm
end -- DmLem3
section -- DmIter
set_option Elab.async false
set_option linter.all false
set_option maxRecDepth 100000
namespace PySem
set_option maxHeartbeats 1000000 in
theorem meets_enumerate_newB1 {v : Value} {o : Obj} {H : Heap → Prop} (B : Begins v o H) :
    Meets (Builtin.«enumerate.__new__» ⟨[.type "enumerate", v], []⟩) (fun _ R s => H s.heap ∧
      R (.ok (.ret (.ref (s.heap.push o).objs.size))) { s with heap := (s.heap.push o).push { cls := .type "enumerate", data := .fields #[.none, .bool false, .ref s.heap.objs.size, rawInt 0, .none, .none] } }) :=
  .of_wp fun prog w A R s h => by
    obtain ⟨hp, g, d, tk, os⟩ := s; obtain ⟨h1, h⟩ := h
    have hsub := sub_enumerate
    have q1 : ∀ {A' : Around} {E : Value → Shared → Prop} {Q : Value → Shared → Prop}, Q (.ref hp.objs.size) ⟨hp.push o, g, d, tk, os⟩ → wpAny (model prog w) A' (pyIter v) Q E ⟨hp, g, d, tk, os⟩ :=
      fun q => B.iter prog w _ _ ⟨hp, g, d, tk, os⟩ _ h1 q
    wp_walk using q1
    refine wpAny_stack_any fun st => wpAny_pure ?_
    split
    · rename_i c _ _ _ _ _
      cases (c == Value.type "enumerate")
      · wp_walk using q1
        exact ⟨_, rfl, h⟩
      · wp_walk using q1
        exact ⟨_, rfl, h⟩
    · wp_walk using q1
      exact ⟨_, rfl, h⟩
section
variable {prog : Program} {w : World} {A : Around} {E : Value → Shared → Prop} {s : Shared}
theorem enum_begins1 {v : Value} {o : Obj} {H : Heap → Prop} {Q : Value → Shared → Prop} (B : Begins v o H) (h1 : H s.heap)
    (h : ∀ h', IsEnum h' (s.heap.objs.size + 1) s.heap.objs.size 0 .none → h'.get? s.heap.objs.size = some o → h'.objs.size = s.heap.objs.size + 2 →
      (∀ b o, s.heap.get? b = some o → h'.get? b = some o) → Q (.ref (s.heap.objs.size + 1)) { s with heap := h' }) :
    wpAny (model prog w) A (call (.type "enumerate") [v]) Q E s := by
  refine callType_new F.called_enumerate (by decide) (F.typeCall_enumerate_1 _) (F.newCall_enumerate_1 _) (fun obj => F.args_object_init_2 obj _) F.entry_enumerate_new
    (meets_enumerate_newB1 B) ⟨h1, ?_⟩
  have hz : (s.heap.push o).objs.size = s.heap.objs.size + 1 := Heap.size_push ..
  show _ ∧ _
  rw [hz]
  have he : IsEnum ((s.heap.push o).push { cls := .type "enumerate", data := .fields #[.none, .bool false, .ref s.heap.objs.size, rawInt 0, .none, .none] }) (s.heap.objs.size + 1) s.heap.objs.size 0 .none := by
    have := Heap.get?_push_size (s.heap.push o) (o := { cls := .type "enumerate", data := .fields #[.none, .bool false, .ref s.heap.objs.size, rawInt 0, .none, .none] }) rfl
    rw [hz] at this; exact this
  refine ⟨⟨_, he, rfl⟩, h _ he (Heap.get?_push_of_some _ (Heap.get?_push_size _ B.free)) (by rw [Heap.size_push, hz]) fun b o x => Heap.get?_push_of_some _ (Heap.get?_push_of_some _ x)⟩
end
end PySem

namespace Dm
open PySem PySem.Spec PyProof.Rows L2
variable [Tbs]

/-! ### a list or a tuple that is walked -/
inductive SQ where | l | t
def SqA (K : PySem.W.Frag) : SQ → Hp → Addr → List V → Prop
  | .l, H, a, xs => SqL K H a xs
  | .t, H, a, xs => SqT K H a xs
def IsSq : SQ → Heap → Addr → Array Value → Prop
  | .l, h, a, its => h.IsList a its
  | .t, h, a, its => h.IsTuple a its
def IsIt : SQ → Heap → Addr → Addr → Nat → Prop
  | .l, h, it, a, i => h.IsListIter it a i
  | .t, h, it, a, i => h.IsTupleIter it a i
def iterO : SQ → Addr → Obj
  | .l, a => { cls := .type "list_iterator", data := .fields #[.ref a, .int 0 0] }
  | .t, a => { cls := .type "tuple_iterator", data := .fields #[.ref a, .int 0 0] }
theorem draws_sq {prog : Program} {w : World} {A : Around} (hh : A.handled = none) (q : SQ) (it a : Addr) (hne : a ≠ it) (items : Array Value) : Draws prog w A it [it, a] items.size (fun i v => items[i]? = some v) (fun i h => IsIt q h it a i ∧ IsSq q h a items) := by
  cases q with
  | l => exact Draws.list hh it a hne items
  | t => exact Draws.tuple hh it a hne items
theorem begins_sq (q : SQ) (a : Addr) (items : Array Value) : Begins (.ref a) (iterO q a) fun h => IsSq q h a items := by
  cases q with
  | l => exact begins_list a items
  | t => exact begins_tuple a items
theorem isIt_new {q : SQ} {h : Heap} {it a : Addr} (e : h.get? it = some (iterO q a)) : IsIt q h it a 0 := by
  cases q with
  | l => exact ⟨_, e, rfl, rfl⟩
  | t => exact ⟨_, e, rfl, rfl⟩
theorem isIt_at {q : SQ} {h h' : Heap} {it a : Addr} {i : Nat} (x : IsIt q h it a i) (k : ∀ o, h.get? it = some o → h'.get? it = some o) : IsIt q h' it a i := by
  cases q with
  | l => exact Heap.IsListIter.at x k
  | t => exact Heap.IsTupleIter.at x k
theorem isIt_obj {q : SQ} {h : Heap} {it a : Addr} {i : Nat} (x : IsIt q h it a i) : ∃ o, h.get? it = some o ∧ ∀ v, o.data ≠ .cell v := by
  cases q with
  | l => obtain ⟨o, ho, _, hd⟩ := x; exact ⟨o, ho, fun v z => by rw [hd] at z; cases z⟩
  | t => obtain ⟨o, ho, _, hd⟩ := x; exact ⟨o, ho, fun v z => by rw [hd] at z; cases z⟩
theorem inv_sq {X : Cx} {pins : List (Addr × Obj)} {σ : L2.St} {H : Hp} {s : Shared} {q : SQ} {a : Addr} {xs : List V} (I : Inv X pins σ H s) (h : SqA X.K q H a xs) : ∃ its : List Value, Vals xs its ∧ IsSq q s.heap a its.toArray ∧ xs.length ≤ sizeLine := by
  cases q with
  | l => obtain ⟨its, r, p, z⟩ := I.list h; exact ⟨its, r, p.isList, z⟩
  | t => obtain ⟨its, r, p, z⟩ := I.tuple h; exact ⟨its, r, p, z⟩

/-- n turns, each with a new tuple; src: the sources stand -/
def JT (n : Nat) (xs : Nat → List V) (src : Hp → Prop) : It := ⟨fun i H => i < n ∧ src H, fun i H v H' => ∃ T, v = .ref T ∧ H T = none ∧ H' = upd H T (.tup (xs i)), fun i H => i = n ∧ src H⟩
theorem turn_gen {P : Program} {w : World} {K : PySem.W.Frag} {tg : Expr} {n : Nat} {xs : Nat → List V} {src : Hp → Prop} {fp : List Addr} {it : Addr} {tn : Nat → Heap → Prop} (mem : it ∈ fp)
    (obj : ∀ i h, tn i h → ∀ b ∈ fp, ∃ o, h.get? b = some o ∧ ∀ v, o.data ≠ .cell v) (keep : ∀ i h h', tn i h → (∀ b ∈ fp, ∀ o, h.get? b = some o → h'.get? b = some o) → tn i h')
    (step : ∀ (X : Cx), X.prog = P → X.w = w → X.K = K → X.A.handled = none → ∀ (pins : List (Addr × Obj)) (s : Shared) (σ : L2.St) (H : Hp), Inv X pins σ H s → (∀ b ∈ fp, H b = none) → src H → ∀ i, tn i s.heap →
      ∃ (fp' wr : List Addr) (Y : Nat → Heap → Value → Heap → Prop) (St : Nat → Heap → Prop), GoesN P w X.A tg it fp' wr n Y St ∧ St i s.heap ∧ (∀ b ∈ wr, b ∈ fp) ∧ (∀ h', St (i + 1) h' → tn (i + 1) h') ∧
        ∀ v h', i < n → Y i s.heap v h' → ∃ T us, v = .ref T ∧ s.heap.objs.size ≤ T ∧ h'.IsTuple T us ∧ Vals (xs i) us.toList ∧ (xs i).length ≤ sizeLine)
    (self : ∀ (A : Around) (i : Nat) (s : Shared) (Q : Value → Shared → Prop) (E : Value → Shared → Prop), tn i s.heap → Q (.ref it) s → wpAny (model P w) A (pyIter (.ref it)) Q E s) : Turn P w K tg (JT n xs src) fp it tn where
  mem := mem
  obj := obj
  keep := keep
  item := by
    intro X hP hw hK hc i pins s σ H E I hf st hg
    obtain ⟨hi, hs⟩ := hg
    obtain ⟨fp', wr, Y, St, G, st0, hwr, hst, hy⟩ := step X hP hw hK (I.ok.hd hc) pins s σ H I (fun b hb => (hf b hb).1) hs i st
    subst hP hw hK
    refine wpAny_mono (G.goes i s (fun v s2 => ∃ x H', Inv X pins σ H' s2 ∧ RelV x v ∧ (JT n xs src).yld i H x H' ∧ tn (i + 1) s2.heap ∧ ∀ b ∈ fp, H' b = none) E hi st0 fun v h' tk hY st1 hk htk => ?_) (fun r s1 h1 => ?_) fun _ _ e => e
    · obtain ⟨T, us, rfl, hT, hIs, hv, hl⟩ := hy v h' hi hY
      have hn : H T = none := I.hok.fresh hT
      have hIs' : h'.IsTuple T us.toList.toArray := by simpa using hIs
      refine ⟨.ref T, upd H T (.tup (xs i)), I.turnedNew (ch := wr) hk (fun b hb => hf b (hwr b hb)) hT ⟨hl, us.toList, hv, hIs'⟩, rfl, ⟨T, rfl, hn, rfl⟩, hst _ st1, fun b hb => ?_⟩
      obtain ⟨o, ho, _⟩ := obj i s.heap st b hb
      rw [upd_ne (Nat.ne_of_lt (Nat.lt_of_lt_of_le (Heap.lt_size ho) hT))]
      exact (hf b hb).1
    · obtain ⟨v, rfl, h2⟩ := h1
      exact ⟨v, rfl, h2⟩
  done := by
    intro X hP hw hK hc i pins s σ H E I hf st hg
    obtain ⟨hi, hs⟩ := hg
    subst hi
    obtain ⟨fp', wr, Y, St, G, st0, hwr, hst, hy⟩ := step X hP hw hK (I.ok.hd hc) pins s σ H I (fun b hb => (hf b hb).1) hs i st
    subst hP hw hK
    refine wpAny_mono (G.stops s (fun s1 => Inv X pins σ H s1) E st0 fun h' tk hk htk => ?_) (fun r s1 h1 => h1) fun _ _ e => e
    have J := I.step (g' := s.gens) (d' := s.drawn) (h' := h') (t' := tk) (H' := H) (ch := wr) (fun b hb => let z := hf b (hwr b hb); ⟨z.2.2.2.1, z.2.1, z.2.2.2.2.1, z.2.2.2.2.2⟩) (fun b o _ _ hc e _ => hk b o hc e) (fun b o _ _ hc e _ => ⟨o.slots, hk b o hc e⟩) (fun _ _ _ _ n => n)
      (fun b o hc e => ⟨o, hk b o hc e⟩) (fun _ _ e => e) (fun _ _ _ e => e) (fun _ ps e => ⟨#[], by rw [e]; simp⟩) (fun m hm => ?_) (fun a o e => (I.hok a o e).stay (fun b u hb q => hk b u (fun z => ?_) q) (fun _ q => q) fun _ _ q => q) I.bare
    · exact J
    · obtain ⟨o, es, ep, ho, r⟩ := hm
      exact ⟨o, es, ep, hk _ o (fun z => (hf _ (hwr _ z)).2.1 rfl) ho, r⟩
    · have n1 := (hf b (hwr b z)).1
      rcases hb with hb | hb
      · rw [hb] at n1; rw [n1] at e; cases e
      · rw [n1] at hb; cases hb
  self := self
/-- the walk of such -/
theorem walk_JT {K : PySem.W.Frag} {Γ : Gam} {n : Nat} {xs : Nat → List V} {G : Hp} {es : Nat → List D} {ds : List D} (hn : n = ds.length) (hd : ∀ (i : Nat) (d : D), ds[i]? = some d → d = .tpl (es i)) (hr : ∀ i, i < n → RpL K Γ G (xs i) (es i)) : DWalk K Γ (JT n xs (Ex G)) G ds := by
  subst hn
  refine ⟨fun i H hi e => ⟨hi, e⟩, fun H e => ⟨rfl, e⟩, fun i H x H' hi e y => ?_⟩
  obtain ⟨T, rfl, hT, rfl⟩ := y
  intro G1 e1 e2
  refine ⟨upd G1 T (.tup (xs i)), Fr.new e2 hT, fun d hdd => ?_⟩
  have ed := hd i d hdd
  subst ed
  exact .tpl (SqT.of upd_same) (((hr i hi).mono e1).mono (Ex.new (e2.back hT)))

section
variable {X : Cx} {Γ : Gam} {W : WX} {pos : Pos}
/-- a list or a tuple of data, walked -/
def seqOf : D → Option (List D)
  | .lst ds => some ds
  | .frl ds => some ds
  | .tup ds => some ds
  | _ => none
theorem seq_at {K : PySem.W.Frag} {G : Hp} : ∀ {v : V} {d : D} {ds : List D}, Rp K Γ G v d → seqOf d = some ds → ∃ a q vs, v = .ref a ∧ SqA K q G a vs ∧ RpL K Γ G vs ds
  | _, _, _, .lst (a := a) (xs := xs) hh hr, e => by cases e; exact ⟨a, .l, xs, rfl, SqL.of hh, hr⟩
  | _, _, _, .frl (a := a) (xs := xs) hh hr, e => by cases e; exact ⟨a, .l, xs, rfl, hh, hr⟩
  | _, _, _, .tup (a := a) (xs := xs) hh hr, e => by cases e; exact ⟨a, .t, xs, rfl, hh.sqt, hr⟩
  | _, _, _, .non, e => by cases e
  | _, _, _, .bl _, e => by cases e
  | _, _, _, .int _, e => by cases e
  | _, _, _, .str _, e => by cases e
  | _, _, _, .ins _ _, e => by cases e
  | _, _, _, .fn _, e => by cases e
  | _, _, _, .ty _, e => by cases e
  | _, _, _, .cl _, e => by cases e
  | _, _, _, .opq _, e => by cases e
  | _, _, _, .exc _, e => by cases e
  | _, _, _, .dk _ _, e => by cases e
  | _, _, _, .tpl _ _, e => by cases e
theorem SqA.mono {K : PySem.W.Frag} {q : SQ} {G G' : Hp} {a : Addr} {xs : List V} (e : Ex G G') (h : SqA K q G a xs) : SqA K q G' a xs := by
  cases q with
  | l => exact ex_l e h
  | t => exact ex_t e h
def iSeq (K : PySem.W.Frag) (tl : TE) : TI := fun σ H R => tl σ H fun x H1 => ∃ a, x = .ref a ∧ (((∃ xs, SqL K H1 a xs) ∧ R (Itl K a) H1) ∨ ((∃ xs, SqT K H1 a xs) ∧ R (Itt K a) H1))
theorem pi_seq {tg l : Expr} {tl : TE} (hl : PE X l tl) : PI X tg l (iSeq X.K tl) := by
  refine ⟨fun pins s σ H R I h => ?_⟩
  refine thn (hl.run pins s σ H _ I h) fun v s1 ⟨x, H1, I1, r1, q1⟩ => ?_
  obtain ⟨a, e, ⟨⟨xs, hq⟩, q⟩ | ⟨⟨xs, hq⟩, q⟩⟩ := q1
  · subst e
    cases r1
    obtain ⟨its, rv, p, hz⟩ := I1.list hq
    refine wpAny_pyIter_list p.isList ?_
    refine ⟨s1.heap.objs.size, [s1.heap.objs.size], _, _, H1, rfl, I1.kept (t' := s1.toks) fun b o e => Heap.get?_push_of_some _ e, turn_list a _, ⟨_, Heap.get?_push_size _ rfl, rfl, rfl⟩, fun b hb => ?_, q⟩
    have e : b = s1.heap.objs.size := by simpa using hb
    subst e
    exact I1.fpOk (Nat.le_refl _) (I1.hok.fresh (Nat.le_refl _))
  · subst e
    cases r1
    obtain ⟨its, rv, p, hz⟩ := I1.tuple hq
    refine wpAny_pyIter_tuple (show s1.heap.IsTuple a its.toArray from p) ?_
    refine ⟨s1.heap.objs.size, [s1.heap.objs.size], _, _, H1, rfl, I1.kept (t' := s1.toks) fun b o e => Heap.get?_push_of_some _ e, turn_tuple a _, ⟨_, Heap.get?_push_size _ rfl, rfl, rfl⟩, fun b hb => ?_, q⟩
    have e : b = s1.heap.objs.size := by simpa using hb
    subst e
    exact I1.fpOk (Nat.le_refl _) (I1.hok.fresh (Nat.le_refl _))
theorem pi_weak {tg l : Expr} {t u : TI} (h : PI X tg l t) (w : ∀ σ H R, u σ H R → t σ H R) : PI X tg l u := ⟨fun pins s σ H R I q => h.run pins s σ H R I (w _ _ _ q)⟩
def mItems (m : MD) : MA := fun ss k kx => m ss (fun d s => lift (seqOf d) fun ds => k ds s) kx
theorem i_seq {tg l : Expr} {m : MD} (h : PE X l (rd X Γ W m)) : PI X tg l (ri X Γ W (mItems m)) := pi_weak (pi_seq h) fun σ H R h => by
  obtain ⟨H0, G0, G, ss, k, kx, st, hx, hm, hk⟩ := h
  refine ⟨H0, G0, G, ss, _, kx, st, hx, hm, fun d s v G1 H1 q e st1 r1 => ?_⟩
  obtain ⟨ds, hd, q⟩ := lift_some q
  obtain ⟨a, sq, vs, rfl, hs, hr⟩ := seq_at r1 hd
  refine ⟨a, rfl, ?_⟩
  cases sq with
  | l =>
    refine .inl ⟨⟨vs, ex_l st1.gh hs⟩, hk ds s G1 H1 _ q e st1 ?_⟩
    have w := walk_list (K := X.K) (a := a) (xs := vs)
    refine ⟨fun i H hi e => w.goes i H (by rw [hr.length]; exact hi) (ex_l e hs), fun H e => by rw [← hr.length]; exact w.stops H (ex_l e hs), fun i H x H' hi e y G2 e1 e2 => ?_⟩
    obtain ⟨e3, hv⟩ := w.yields i H x H' (by rw [hr.length]; exact hi) (ex_l e hs) y
    subst e3
    refine ⟨G2, Fr.refl e2, fun d hd => ?_⟩
    obtain ⟨d', hd', r⟩ := hr.getV hv
    rw [hd] at hd'
    cases hd'
    exact r.mono e1
  | t =>
    refine .inr ⟨⟨vs, ex_t st1.gh hs⟩, hk ds s G1 H1 _ q e st1 ?_⟩
    have w := walk_tup (K := X.K) (a := a) (xs := vs)
    refine ⟨fun i H hi e => w.goes i H (by rw [hr.length]; exact hi) (ex_t e hs), fun H e => by rw [← hr.length]; exact w.stops H (ex_t e hs), fun i H x H' hi e y G2 e1 e2 => ?_⟩
    obtain ⟨e3, hv⟩ := w.yields i H x H' (by rw [hr.length]; exact hi) (ex_t e hs) y
    subst e3
    refine ⟨G2, Fr.refl e2, fun d hd => ?_⟩
    obtain ⟨d', hd', r⟩ := hr.getV hv
    rw [hd] at hd'
    cases hd'
    exact r.mono e1
/-- range -/
def intsD (lo : Int) (n : Nat) : List D := (List.range n).map fun (i : Nat) => .int (lo + i)
theorem walk_ints {K : PySem.W.Frag} {G : Hp} {lo : Int} {n : Nat} : DWalk K Γ (Itr lo n) G (intsD lo n) := by
  have hl : (intsD lo n).length = n := by simp [intsD]
  refine ⟨fun i H hi e => by rw [hl] at hi; exact hi, fun H e => by rw [hl]; exact Nat.le_refl _, fun i H x H' hi e y G1 e1 e2 => ?_⟩
  obtain ⟨e3, hv⟩ := (show H' = H ∧ x = V.int (lo + i) from y)
  subst e3 hv
  refine ⟨G1, Fr.refl e2, fun d hd => ?_⟩
  have : d = .int (lo + i) := by
    simp only [intsD, List.getElem?_map] at hd
    rw [hl] at hi
    rw [List.getElem?_range hi] at hd
    exact (Option.some.inj hd).symm
  subst this
  exact .int _
def small (i : Int) : Bool := decide (-(2 ^ 62) ≤ i) && decide (i < 2 ^ 62)
theorem small_ok {i : Int} (h : small i = true) : -(2 ^ 62) ≤ i ∧ i < 2 ^ 62 := by
  unfold small at h
  rw [Bool.and_eq_true] at h
  exact ⟨of_decide_eq_true h.1, of_decide_eq_true h.2⟩
def mRng1 (m : MA) : MA := fun ss k kx => m ss (fun ds s => match ds with
  | [.int n] => guard (small n) (k (intsD 0 n.toNat) s)
  | _ => False) kx
def mRng2 (m : MA) : MA := fun ss k kx => m ss (fun ds s => match ds with
  | [.int lo, .int hi] => guard (small lo && small hi) (k (intsD lo (hi - lo).toNat) s)
  | _ => False) kx
theorem i_rng1 {tg a : Expr} {m : MA} {p : Pos} (hm : X.mg "range" = none) (ha : PA X [a] (ra X Γ W m)) (hg : Gl X "range" := by rfl) (hs : starEach [a] X.env = [(false, eval a X.env)] := by rfl) : PI X tg (.Call (.Name "range" p) [a] [] pos) (ri X Γ W (mRng1 m)) :=
  pi_weak (pi_range1 hg hm ha hs) fun σ H R h => by
    obtain ⟨H0, G0, G, ss, k, kx, st, hx, hm, hk⟩ := h
    unfold mRng1 at hm
    refine ⟨H0, G0, G, ss, _, kx, st, hx, hm, fun ds s vs G1 H1 q e st1 r1 => ?_⟩
    split at q
    · rename_i n
      obtain ⟨hs, q⟩ := guard_ok q
      obtain ⟨h1, h2⟩ := small_ok hs
      cases r1 with
      | cons r rr =>
        cases rr
        cases r
        exact ⟨n, rfl, h1, h2, hk _ s G1 H1 _ q e st1 walk_ints⟩
    · exact q.elim
theorem i_rng2 {tg a b : Expr} {m : MA} {p : Pos} (hm : X.mg "range" = none) (ha : PA X [a, b] (ra X Γ W m)) (hg : Gl X "range" := by rfl) (hs : starEach [a, b] X.env = [(false, eval a X.env), (false, eval b X.env)] := by rfl) (hs2 : starEach [b] X.env = [(false, eval b X.env)] := by rfl) :
    PI X tg (.Call (.Name "range" p) [a, b] [] pos) (ri X Γ W (mRng2 m)) :=
  pi_weak (pi_range2 hg hm ha hs hs2) fun σ H R h => by
    obtain ⟨H0, G0, G, ss, k, kx, st, hx, hm, hk⟩ := h
    unfold mRng2 at hm
    refine ⟨H0, G0, G, ss, _, kx, st, hx, hm, fun ds s vs G1 H1 q e st1 r1 => ?_⟩
    split at q
    · rename_i lo hi
      obtain ⟨hs, q⟩ := guard_ok q
      rw [Bool.and_eq_true] at hs
      obtain ⟨h1, h2⟩ := small_ok hs.1
      obtain ⟨h3, h4⟩ := small_ok hs.2
      cases r1 with
      | cons r rr =>
        cases rr with
        | cons r' rr =>
          cases rr
          cases r
          cases r'
          exact ⟨lo, hi, rfl, ⟨h1, h2, h3, h4⟩, hk _ s G1 H1 _ q e st1 walk_ints⟩
    · exact q.elim

/-! ### enumerate, zip -/
theorem turn_enumQ {P : Program} {w : World} {K : PySem.W.Frag} {elts : List Expr} {kk : Nat} {tpos : Pos} {q : SQ} {a e it : Addr} {vs : List V} {G : Hp} (hq : SqA K q G a vs) (hei : e ≠ it) :
    Turn P w K (.Tuple elts kk tpos) (JT vs.length (fun i => [.int (i : Int), vs.getD i .non]) (Ex G)) [e, it] e (fun i h => (∃ old, IsEnum h e it ((i : Nat) : Int) old) ∧ IsIt q h it a i) := by
  refine turn_gen (by simp) (fun i h st b hb => ?_) (fun i h h' st k => ?_) (fun X hP hw hK hh pins s σ H I hf hs i st => ?_) (fun A i s Q E st h => let ⟨⟨_, he⟩, _⟩ := st; wpAny_pyIter_enum he h)
  · obtain ⟨⟨old, he⟩, hi⟩ := st
    have e' : b = e ∨ b = it := by simpa using hb
    rcases e' with z | z
    · rw [z]; exact ⟨_, he, fun v q => nomatch q⟩
    · rw [z]; exact isIt_obj hi
  · obtain ⟨⟨old, he⟩, hi⟩ := st
    exact ⟨⟨old, k e (by simp) _ he⟩, isIt_at hi fun o z => k it (by simp) o z⟩
  · subst hP hw hK
    obtain ⟨⟨old, he⟩, hi⟩ := st
    have hq' := hq.mono hs
    obtain ⟨its, rv, hsq, hz⟩ := inv_sq I hq'
    have tracked : ∃ u, s.heap.get? a = some u := by
      cases q with
      | l => obtain ⟨o, z, _⟩ := hsq; exact ⟨o, z⟩
      | t => obtain ⟨o, z, _⟩ := hsq; exact ⟨o, z⟩
    have ne : ∀ b, b = e ∨ b = it → a ≠ b := fun b hb z => by
      have hb' : H b = none := hf b (by rcases hb with h | h <;> rw [h] <;> simp)
      rw [← z] at hb'
      cases q with
      | l =>
        rcases hq' with (y | ⟨o, y⟩) | ⟨o, its', n, y, c, dd, dt, _⟩
        · rw [hb'] at y; cases y
        · rw [hb'] at y; cases y
        · have e1 := I.kIn a o y
          rcases hb with h | h
          · rw [z, h, he] at e1; cases e1; cases dt
          · obtain ⟨o2, e2, c2, _⟩ := hi
            rw [z, h, e2] at e1; cases e1; rw [c2] at c; injection c with c; exact absurd c (by decide)
      | t =>
        rcases hq' with (y | ⟨o, y⟩) | ⟨o, its', n, y, c, dt, _⟩
        · rw [hb'] at y; cases y
        · rw [hb'] at y; cases y
        · have e1 := I.kIn a o y
          rcases hb with h | h
          · rw [z, h, he] at e1; cases e1; cases dt
          · obtain ⟨o2, e2, c2, _⟩ := hi
            rw [z, h, e2] at e1; cases e1; rw [c2] at c; injection c with c; exact absurd c (by decide)
    have hl := rv.length
    have hn : its.toArray.size = vs.length := by simp [hl]
    have gn := GoesN.enumFrom (prog := X.prog) (w := X.w) (A := X.A) (elts := elts) (x1 := kk) (pos := tpos) 0 (draws_sq (prog := X.prog) (w := X.w) (A := X.A.in1) hh q it a (ne it (.inr rfl)) its.toArray) e hei (fun z => by
      have e' : e = it ∨ e = a := by simpa using z
      rcases e' with y | y
      · exact hei y
      · exact ne e (.inl rfl) y.symm) (by simp)
    rw [hn] at gn
    refine ⟨_, _, _, _, gn, ⟨⟨old, by simpa using he⟩, hi, hsq⟩, fun b hb => hb, fun h' st' => ?_, fun v h' hlt y => ?_⟩
    · obtain ⟨⟨old', he'⟩, hi', _⟩ := st'
      exact ⟨⟨old', by simpa using he'⟩, hi'⟩
    · obtain ⟨T, t, x, rfl, hT, hx, hIs⟩ := y
      refine ⟨T, _, rfl, hT, hIs, ?_, by show 2 ≤ sizeLine; decide⟩
      have hx' : its[i]? = some x := by simpa using hx
      have hi2 : i < vs.length := hlt
      have e1 : vs.getD i .non = vs[i] := by simp [List.getD, hi2]
      obtain ⟨u, hu, ru⟩ := rv.get (List.getElem?_eq_getElem hi2)
      rw [hx'] at hu
      cases hu
      show Vals [.int (i : Int), vs.getD i .non] [.int (0 + (i : Int)) t, x]
      rw [e1, Int.zero_add]
      exact .cons ⟨_, rfl⟩ (.cons ru .nil)
/-- (0, x), (1, y), .. -/
def enumD (ds : List D) : List D := (List.range ds.length).map fun (i : Nat) => .tpl [.int (i : Int), ds.getD i .non]
def iEnumQ (K : PySem.W.Frag) (ta : TA) : TI := fun σ H R => ta σ H fun vs H1 => ∃ a q xs G, vs = [.ref a] ∧ SqA K q G a xs ∧ Ex G H1 ∧ R (JT xs.length (fun i => [.int (i : Int), xs.getD i .non]) (Ex G)) H1
theorem pi_enumQ {e : Expr} {ta : TA} {p tpos : Pos} {elts : List Expr} {kk : Nat} (hg : Gl X "enumerate") (hm : X.mg "enumerate" = none) (ha : PA X [e] ta) (hs : starEach [e] X.env = [(false, eval e X.env)] := by rfl) :
    PI X (.Tuple elts kk tpos) (.Call (.Name "enumerate" p) [e] [] pos) (iEnumQ X.K ta) := by
  refine ⟨fun pins s σ H R I h => ?_⟩
  refine Call_ (ld_blt I hg hm boot_enumerate (PyProof.Rows.callWith_type1 (thn (ha.run pos pins s σ H _ I h) fun us s1 ⟨vs, H1, I1, r1, q1⟩ => ?_) hs rfl))
  obtain ⟨a, q, xs, G, ex, hq, hG, qq⟩ := q1
  subst ex
  cases r1 with
  | cons r rr =>
    cases rr
    cases r
    obtain ⟨its, rv, p', hz⟩ := inv_sq I1 (hq.mono hG)
    refine enum_begins1 (begins_sq q a its.toArray) p' fun h' he hit hsz hk => wpAny_pyIter_enum he ?_
    have I2 : Inv X pins σ H1 { s1 with heap := h' } := I1.kept (t' := s1.toks) hk
    refine ⟨s1.heap.objs.size + 1, [s1.heap.objs.size + 1, s1.heap.objs.size], _, _, H1, rfl, I2, turn_enumQ (e := s1.heap.objs.size + 1) (it := s1.heap.objs.size) hq (Nat.succ_ne_self _), ⟨⟨.none, he⟩, isIt_new hit⟩, fun b hb => ?_, qq⟩
    have e' : b = s1.heap.objs.size + 1 ∨ b = s1.heap.objs.size := by simpa using hb
    have hle : s1.heap.objs.size ≤ b := by
      rcases e' with z | z
      · rw [z]; exact Nat.le_add_right _ _
      · rw [z]; exact Nat.le_refl _
    exact I1.fpOk hle (I1.hok.fresh hle)
def mEnum (m : MA) : MA := fun ss k kx => m ss (fun ds s => match ds with
  | [d] => lift (seqOf d) fun xs => k (enumD xs) s
  | _ => False) kx
theorem i_enum {e : Expr} {m : MA} {p tpos : Pos} {elts : List Expr} {kk : Nat} (hm : X.mg "enumerate" = none) (ha : PA X [e] (ra X Γ W m)) (hg : Gl X "enumerate" := by rfl) (hs : starEach [e] X.env = [(false, eval e X.env)] := by rfl) :
    PI X (.Tuple elts kk tpos) (.Call (.Name "enumerate" p) [e] [] pos) (ri X Γ W (mEnum m)) := pi_weak (pi_enumQ hg hm ha hs) fun σ H R h => by
  obtain ⟨H0, G0, G, ss, k, kx, st, hx, hm, hk⟩ := h
  refine ⟨H0, G0, G, ss, _, kx, st, hx, hm, fun ds s vs G1 H1 q e st1 r1 => ?_⟩
  split at q
  · rename_i d
    obtain ⟨xs, hd, q⟩ := lift_some q
    cases r1 with
    | cons r rr =>
      cases rr
      obtain ⟨a, sq, ws, rfl, hs, hr⟩ := seq_at r hd
      refine ⟨a, sq, ws, G1, rfl, hs, st1.gh, hk _ s G1 H1 _ q e st1 (walk_JT (es := fun i => [.int (i : Int), xs.getD i .non]) (by simp [enumD, hr.length]) (fun i d hd => ?_) fun i hi => ?_)⟩
      · simp only [enumD, List.getElem?_map] at hd
        by_cases hi : i < xs.length
        · rw [List.getElem?_range hi] at hd
          exact (Option.some.inj hd).symm
        · rw [List.getElem?_eq_none (by simpa using hi)] at hd
          cases hd
      · have hi2 : i < xs.length := by rw [← hr.length]; exact hi
        have e1 : ws.getD i .non = ws[i] := by simp [List.getD, hi]
        have e2 : xs.getD i .non = xs[i] := by simp [List.getD, hi2]
        obtain ⟨v, hv, rv⟩ := hr.get (List.getElem?_eq_getElem hi2)
        rw [List.getElem?_eq_getElem hi] at hv
        cases hv
        rw [e1, e2]
        exact .cons (.int _) (.cons rv .nil)
  · exact q.elim
end
end Dm
end -- DmIter
section -- DmComp
set_option Elab.async false
set_option linter.all false
set_option maxRecDepth 100000
namespace Dm
open PySem PySem.Spec PyProof.Rows L2
variable [Tbs]

def wipeS (ss : List SV) : List Nat → List SV
  | [] => ss
  | v :: vs => (wipeS ss vs).set v .un
def mergeS (s s' : List SV) : List Nat → List SV
  | [] => s'
  | v :: vs => (mergeS s s' vs).set v (s.getD v .un)
theorem wipeS_length (ss : List SV) : ∀ vs : List Nat, (wipeS ss vs).length = ss.length
  | [] => rfl
  | v :: vs => by unfold wipeS; rw [List.length_set, wipeS_length ss vs]
theorem mergeS_length (s s' : List SV) : ∀ vs : List Nat, (mergeS s s' vs).length = s'.length
  | [] => rfl
  | v :: vs => by unfold mergeS; rw [List.length_set, mergeS_length s s' vs]
theorem wipeS_out {ss : List SV} {j : Nat} : ∀ {vs : List Nat}, j ∉ vs → (wipeS ss vs)[j]? = ss[j]?
  | [], _ => rfl
  | v :: vs, h => by
    unfold wipeS
    rw [List.getElem?_set_ne (fun e => h (by rw [e]; exact List.mem_cons_self))]
    exact wipeS_out fun z => h (List.mem_cons_of_mem _ z)
theorem wipeS_in {ss : List SV} {j : Nat} : ∀ {vs : List Nat}, j ∈ vs → j < ss.length → (wipeS ss vs)[j]? = some .un
  | v :: vs, h, hl => by
    unfold wipeS
    by_cases e : v = j
    · subst e
      exact List.getElem?_set_self (by rw [wipeS_length]; exact hl)
    · rw [List.getElem?_set_ne e]
      rcases List.mem_cons.mp h with z | z
      · exact absurd z.symm e
      · exact wipeS_in z hl
theorem wipe_out {σ : L2.St} {j : Nat} : ∀ {vs : List Nat}, j ∉ vs → (wipe σ vs)[j]? = σ[j]?
  | [], _ => rfl
  | v :: vs, h => by
    unfold wipe
    rw [List.getElem?_set_ne (fun e => h (by rw [e]; exact List.mem_cons_self))]
    exact wipe_out fun z => h (List.mem_cons_of_mem _ z)
theorem wipe_in {σ : L2.St} {j : Nat} : ∀ {vs : List Nat}, j ∈ vs → j < σ.length → (wipe σ vs)[j]? = some none
  | v :: vs, h, hl => by
    unfold wipe
    by_cases e : v = j
    · subst e
      exact List.getElem?_set_self (by rw [wipe_length]; exact hl)
    · rw [List.getElem?_set_ne e]
      rcases List.mem_cons.mp h with z | z
      · exact absurd z.symm e
      · exact wipe_in z hl
theorem wipe_eq {σ σ' : L2.St} {vs : List Nat} (hl : σ'.length = σ.length) (h : ∀ j, j ∉ vs → σ'[j]? = σ[j]?) : wipe σ' vs = wipe σ vs := by
  apply List.ext_getElem?
  intro j
  by_cases q : j ∈ vs
  · by_cases z : j < σ.length
    · rw [wipe_in q z, wipe_in q (by rw [hl]; exact z)]
    · rw [List.getElem?_eq_none (by rw [wipe_length]; omega), List.getElem?_eq_none (by rw [wipe_length]; omega)]
  · rw [wipe_out q, wipe_out q]; exact h j q
theorem mergeS_out {s s' : List SV} {j : Nat} : ∀ {vs : List Nat}, j ∉ vs → (mergeS s s' vs)[j]? = s'[j]?
  | [], _ => rfl
  | v :: vs, h => by
    unfold mergeS
    rw [List.getElem?_set_ne (fun e => h (by rw [e]; exact List.mem_cons_self))]
    exact mergeS_out fun z => h (List.mem_cons_of_mem _ z)
theorem mergeS_in {s s' : List SV} {j : Nat} : ∀ {vs : List Nat}, j ∈ vs → j < s'.length → (mergeS s s' vs)[j]? = some (s.getD j .un)
  | v :: vs, h, hl => by
    unfold mergeS
    by_cases e : v = j
    · subst e
      exact List.getElem?_set_self (by rw [mergeS_length]; exact hl)
    · rw [List.getElem?_set_ne e]
      rcases List.mem_cons.mp h with z | z
      · exact absurd z.symm e
      · exact mergeS_in z hl
def noOwnAt (ss : List SV) (vs : List Nat) : Bool := vs.all fun i => match ss[i]? with
  | some t => !t.own
  | none => true
section
variable {P : Program} {w : World} {K : PySem.W.Frag} {Γ : Gam} {H0 G0 G H G' H' G1 H1 : Hp} {σ σ' : L2.St} {ss ss' : List SV} {a p : Addr} {o o' : HO}
theorem StR.wipe (st : StR P w K Γ H0 G0 G H σ ss) (vs : List Nat) : StR P w K Γ H0 G0 G H (L2.wipe σ vs) (wipeS ss vs) := by
  have own_out : ∀ {j : Nat} {s : SV}, (wipeS ss vs)[j]? = some s → s.own = true → j ∉ vs ∧ ss[j]? = some s := fun {j s} e o => by
    by_cases q : j ∈ vs
    · have hl : j < ss.length := by
        have := (List.getElem?_eq_some_iff.mp e).1
        rwa [wipeS_length] at this
      rw [wipeS_in q hl] at e
      cases e; cases o
    · rw [wipeS_out q] at e; exact ⟨q, e⟩
  refine ⟨st.toFr, by rw [wipe_length, wipeS_length]; exact st.len, fun j s e => ?_, fun i j s t a e1 e2 o1 o2 h1 h2 => ?_, st.tbs⟩
  · by_cases q : j ∈ vs
    · have hl : j < ss.length := by
        have := (List.getElem?_eq_some_iff.mp e).1
        rwa [wipeS_length] at this
      rw [wipeS_in q hl] at e
      cases e
      exact ⟨none, wipe_in q (by rw [st.len]; exact hl), trivial⟩
    · rw [wipeS_out q] at e
      rw [wipe_out q]
      exact st.sl j s e
  · obtain ⟨n1, e1⟩ := own_out e1 o1
    obtain ⟨n2, e2⟩ := own_out e2 o2
    rw [wipe_out n1] at h1
    rw [wipe_out n2] at h2
    exact st.ow i j s t a e1 e2 o1 o2 h1 h2
theorem StR.addH0 (st : StR P w K Γ H0 G0 G H σ ss) (h : H a = some o) (n : NT o) (g : G a = none) (no : ∀ (j : Nat) (t : SV), ss[j]? = some t → t.own = true → σ[j]? ≠ some (some (.ref a))) : StR P w K Γ (upd H0 a o) G0 G H σ ss := by
  refine ⟨⟨st.gh, st.hh.updH h n, st.gg, fun b u e => ?_⟩, st.len, fun i s e => ?_, st.ow, st.tbs⟩
  · have ne : b ≠ a := fun z => by rw [z, g] at e; cases e
    rw [upd_ne ne]
    exact st.fr b u e
  · obtain ⟨v, h1, h2⟩ := st.sl i s e
    refine ⟨v, h1, ?_⟩
    have ne : ∀ b, s.own = true → v = some (.ref b) → b ≠ a := fun b ho hv q => by
      subst q
      exact no i s e ho (by rw [h1, hv])
    cases s with
    | un => trivial
    | d x => exact h2
    | ol ds => obtain ⟨b, vs, e1, h3, r, g3, z3⟩ := h2; exact ⟨b, vs, e1, h3, r, g3, by rw [upd_ne (ne b rfl e1)]; exact z3⟩
    | od ds => obtain ⟨b, vs, e1, h3, r, g3, z3⟩ := h2; exact ⟨b, vs, e1, h3, r, g3, by rw [upd_ne (ne b rfl e1)]; exact z3⟩
    | ot ds => obtain ⟨b, vs, e1, h3, r, g3, z3⟩ := h2; exact ⟨b, vs, e1, h3, r, g3, by rw [upd_ne (ne b rfl e1)]; exact z3⟩
theorem StR.delH0 (st : StR P w K Γ (upd H0 a o) G0 G H σ ss) (z : H0 a = none) : StR P w K Γ H0 G0 G H σ ss := by
  have back : ∀ b, upd H0 a o b = none → H0 b = none := fun b h => by
    by_cases q : b = a
    · rw [q]; exact z
    · rw [upd_ne q] at h; exact h
  refine ⟨⟨st.gh, (Ex.new z).trans st.hh, st.gg, fun b u e => (st.fr b u e).elim .inl fun h => .inr (h.elim (fun h => .inl (back b h)) .inr)⟩, st.len, fun i s e => ?_, st.ow, st.tbs⟩
  obtain ⟨v, h1, h2⟩ := st.sl i s e
  refine ⟨v, h1, ?_⟩
  cases s with
  | un => trivial
  | d x => exact h2
  | ol ds => obtain ⟨b, vs, e1, h3, r, g3, z3⟩ := h2; exact ⟨b, vs, e1, h3, r, g3, back b z3⟩
  | od ds => obtain ⟨b, vs, e1, h3, r, g3, z3⟩ := h2; exact ⟨b, vs, e1, h3, r, g3, back b z3⟩
  | ot ds => obtain ⟨b, vs, e1, h3, r, g3, z3⟩ := h2; exact ⟨b, vs, e1, h3, r, g3, back b z3⟩
/-- what the entry bears is owned by no slot -/
theorem StR.noOwn0 (st : StR P w K Γ H0 G0 G H σ ss) (h : H0 a = some o) : ∀ (j : Nat) (t : SV), ss[j]? = some t → t.own = true → σ[j]? ≠ some (some (.ref a)) := fun j t e ho q => by
  obtain ⟨v, h1, h2⟩ := st.sl j t e
  rw [q] at h1
  cases h1
  obtain ⟨b, u, h3, _, _, h4, _⟩ := h2.owned ho
  cases h3
  rw [h] at h4
  cases h4
theorem StR.noG (st : StR P w K Γ H0 G0 G H σ ss) (h : H0 a = some o) (n : NT o) (g : G0 a = none) : G a = none := st.toFr.keepN h n g
/-- an object that nobody knows and no slot owns is changed -/
theorem StR.updFree (st : StR P w K Γ H0 G0 G H σ ss) (hq : ∀ q, H a ≠ some (LamX.CodeO a q)) (g : G a = none) (z : H0 a = none) (no : ∀ (j : Nat) (t : SV), ss[j]? = some t → t.own = true → σ[j]? ≠ some (some (.ref a))) : StR P w K Γ H0 G0 G (upd H a o) σ ss := by
  refine ⟨⟨st.gh.mut g hq, st.hh.mut z hq, st.gg, st.fr⟩, st.len, fun i s e => ?_, st.ow, st.tbs⟩
  obtain ⟨v, h1, h2⟩ := st.sl i s e
  refine ⟨v, h1, ?_⟩
  have ne : ∀ b, s.own = true → v = some (.ref b) → b ≠ a := fun b ho hv q => by
    subst q
    exact no i s e ho (by rw [h1, hv])
  cases s with
  | un => trivial
  | d x => exact h2
  | ol ds => obtain ⟨b, vs, e1, h3, r, g3, z3⟩ := h2; exact ⟨b, vs, e1, by rw [upd_ne (ne b rfl e1)]; exact h3, r, g3, z3⟩
  | od ds => obtain ⟨b, vs, e1, h3, r, g3, z3⟩ := h2; exact ⟨b, vs, e1, by rw [upd_ne (ne b rfl e1)]; exact h3, r, g3, z3⟩
  | ot ds => obtain ⟨b, vs, e1, h3, r, g3, z3⟩ := h2; exact ⟨b, vs, e1, by rw [upd_ne (ne b rfl e1)]; exact h3, r, g3, z3⟩
/-- behind a block: the block's own names as they were ahead of it -/
theorem StR.merge {vs : List Nat} (st : StR P w K Γ H0 G0 G1 H1 σ ss) (hno : noOwnAt ss vs = true) (t : StR P w K Γ H0 G1 G' H' (L2.wipe σ vs) ss') : StR P w K Γ H0 G0 G' H' σ (mergeS ss ss' vs) := by
  have hlen : ss'.length = ss.length := by rw [← t.len, wipe_length, st.len]
  have own_out : ∀ {j : Nat} {s : SV}, (mergeS ss ss' vs)[j]? = some s → s.own = true → j ∉ vs ∧ ss'[j]? = some s := fun {j s} e o => by
    by_cases q : j ∈ vs
    · have hl : j < ss'.length := by
        have := (List.getElem?_eq_some_iff.mp e).1
        rwa [mergeS_length] at this
      rw [mergeS_in q hl] at e
      have hj := List.all_eq_true.mp hno j q
      have hl2 : j < ss.length := by omega
      rw [List.getElem?_eq_getElem hl2] at hj
      have e1 : ss.getD j .un = ss[j] := by simp [List.getD, hl2]
      rw [e1] at e
      cases e
      have hj2 : (!ss[j].own) = true := hj
      rw [o] at hj2
      cases hj2
    · rw [mergeS_out q] at e; exact ⟨q, e⟩
  refine ⟨(st.toFr.unG t.toFr), by rw [mergeS_length, hlen]; exact st.len, fun j s e => ?_, fun i j s u a e1 e2 o1 o2 h1 h2 => ?_, st.tbs⟩
  · by_cases q : j ∈ vs
    · have hl : j < ss'.length := by
        have := (List.getElem?_eq_some_iff.mp e).1
        rwa [mergeS_length] at this
      have hl2 : j < ss.length := by omega
      rw [mergeS_in q hl] at e
      have e1 : ss.getD j .un = ss[j] := by simp [List.getD, hl2]
      rw [e1] at e
      have e2 : s = ss[j] := (Option.some.inj e).symm
      obtain ⟨v, h1, h2⟩ := st.sl j _ (List.getElem?_eq_getElem hl2)
      refine ⟨v, h1, ?_⟩
      rw [e2]
      have hj := List.all_eq_true.mp hno j q
      rw [List.getElem?_eq_getElem hl2] at hj
      revert h2 hj
      cases ss[j] with
      | un => intro _ _; trivial
      | d x => intro ⟨y, e1, r⟩ _; exact ⟨y, e1, r.mono t.gg⟩
      | ol _ => intro _ hj; cases hj
      | od _ => intro _ hj; cases hj
      | ot _ => intro _ hj; cases hj
    · rw [mergeS_out q] at e
      obtain ⟨v, h1, h2⟩ := t.sl j s e
      rw [wipe_out q] at h1
      exact ⟨v, h1, h2⟩
  · obtain ⟨n1, e1⟩ := own_out e1 o1
    obtain ⟨n2, e2⟩ := own_out e2 o2
    refine t.ow i j s u a e1 e2 o1 o2 ?_ ?_
    · rw [wipe_out n1]; exact h1
    · rw [wipe_out n2]; exact h2
end

def mLcGo (mt : MT) (mtest : MB) (me : MD) (vs : List Nat) (k : List D → List SV → Prop) : List D → List D → List SV → Prop
  | [], acc, s => k acc s
  | d :: ds, acc, s => mt d s fun s1 => mtest s1 (fun b s2 => match b with
    | true => me s2 (fun y s3 => guard (Nat.blt acc.length mline) (mLcGo mt mtest me vs k ds (acc ++ [y]) (wipeS s3 vs))) fun _ => False
    | false => mLcGo mt mtest me vs k ds acc (wipeS s2 vs)) fun _ => False
def mLc (mi : MA) (mt : MT) (mtest : MB) (me : MD) (vs : List Nat) : MA := fun ss k kx => mi ss (fun ds s => guard (noOwnAt s vs) (mLcGo mt mtest me vs (fun acc s' => k acc (mergeS s s' vs)) ds [] (wipeS s vs))) kx
def mYes : MB := fun ss k _ => k true ss
section
variable {X : Cx} {Γ : Gam} {W : WX} {pos : Pos}
theorem xok0 {K : PySem.W.Frag} {H0 G0 : Hp} : XOk K Γ H0 G0 W0 fun _ => False := fun _ h => h.elim
theorem pts_weak {X : Cx} {ifs : List Expr} {t u : TT} (h : PTs X ifs t) (w : ∀ σ H Q, u σ H Q → t σ H Q) : PTs X ifs u := ⟨fun pins s σ H Q I q => h.run pins s σ H Q I (w _ _ _ q)⟩
theorem ts_nil : PTs X [] (rb X Γ W mYes) := pts_weak pts_nil fun σ H Q h => by
  obtain ⟨H0, G0, G, ss, k, kx, st, hx, hm, hk⟩ := h
  exact hk true ss G H hm (Ex.refl _) st
theorem ts_one {c : Expr} {m : MB} (h : PT X c (rb X Γ W m)) : PTs X [c] (rb X Γ W m) := pts_one h
theorem lc_ok {mi : MA} {mt : MT} {ts : List Nat} {mtest : MB} {me : MD} {vs : List Nat} (hts : ∀ j ∈ ts, j ∈ vs) : ∀ σ H Q, rl X Γ W (mLc mi mt mtest me vs) σ H Q → tLc (ri X Γ W mi) (rg X Γ ts mt) (rb X Γ W0 mtest) (rd X Γ W0 me) vs σ H Q := by
  intro σ H Q h
  obtain ⟨H0, G0, G, ss, k, kx, st, hx, hm, hk⟩ := h
  refine ⟨H0, G0, G, ss, _, kx, st, hx, hm, fun ds s G1 H1 J q e st1 wk => ?_⟩
  obtain ⟨hno, q⟩ := guard_ok q
  intro L hL
  have zL : H0 L = none := st1.hh.back hL
  have gL : G1 L = none := st1.gh.back hL
  have stA : StR X.prog X.w X.K Γ H0 G1 G1 (upd H1 L (.lst [])) σ s := st1.reG.le (Fr.newH st1.gh hL)
  have stB := (stA.wipe vs).addH0 (o := .lst []) upd_same (nt_of rfl) gL fun j t et ho hh => ((st1.reG.wipe vs).noOwn hL) j t et ho hh
  refine lc_it wk (fun i H' => ∃ G' s' accv acc, StR X.prog X.w X.K Γ (upd H0 L (.lst accv)) G1 G' H' (wipe σ vs) s' ∧ RpL X.K Γ G' accv acc ∧ mLcGo mt mtest me vs (fun acc s' => k acc (mergeS s s' vs)) (ds.drop i) acc s')
    ⟨G1, _, [], [], stB, .nil, q⟩ (fun i H' _ ⟨G', s', accv, acc, st', _, _⟩ => st'.gg.trans st'.gh) (fun i x H' H2 hl ⟨G', s', accv, acc, st', ra', q'⟩ y => ?_) (fun H' ⟨G', s', accv, acc, st', ra', q'⟩ => ?_)
  · obtain ⟨G2, f, hd⟩ := y G' st'.gg st'.gh
    have e1 : ds.drop i = ds[i] :: ds.drop (i + 1) := List.drop_eq_getElem_cons hl
    rw [e1] at q'
    have st2 := st'.le f
    -- one turn's end, from the slots σ4 and the data slots s4
    have back : ∀ {G4 H4 : Hp} {σ4 : L2.St} {s4 : List SV} {accv2 : List V} {acc2 : List D}, StR X.prog X.w X.K Γ (upd H0 L (.lst accv)) G1 G4 H4 σ4 s4 → wipe σ4 vs = wipe σ vs → RpL X.K Γ G4 accv2 acc2 →
        mLcGo mt mtest me vs (fun acc s' => k acc (mergeS s s' vs)) (ds.drop (i + 1)) acc2 (wipeS s4 vs) → ∃ G' s' av ac, StR X.prog X.w X.K Γ (upd H0 L (.lst av)) G1 G' (upd H4 L (.lst accv2)) (wipe σ vs) s' ∧ RpL X.K Γ G' av ac ∧ mLcGo mt mtest me vs (fun acc s' => k acc (mergeS s s' vs)) (ds.drop (i + 1)) ac s' := fun {G4 H4 σ4 s4 accv2 acc2} st4 hw r4 q4 => by
      have g4 : G4 L = none := st4.noG (o := .lst accv) upd_same (nt_of rfl) gL
      have no4 := st4.noOwn0 (a := L) (o := .lst accv) upd_same
      have st5 := (st4.delH0 zL).updFree (o := .lst accv2) (no_codeN (st4.hh.at upd_same (nt_of rfl)) (nt_of rfl)) g4 zL no4
      have st6 := (st5.addH0 (o := .lst accv2) upd_same (nt_of rfl) g4 no4).wipe vs
      rw [hw] at st6
      exact ⟨G4, _, accv2, acc2, st6, r4, q4⟩
    refine ⟨upd H0 L (.lst accv), G1, G2, s', ds[i], _, st2, hd _ (List.getElem?_eq_getElem hl), q', fun s3 σ3 G3 H3 q3 e3 st3 hlen hother => ?_⟩
    have hw : wipe σ3 vs = wipe σ vs := by
      rw [wipe_eq (σ := wipe σ vs) hlen fun j hj => hother j fun z => hj (hts j z)]
      exact wipe_eq (by rw [wipe_length]) fun j hj => wipe_out hj
    have hidem : wipe (wipe σ vs) vs = wipe σ vs := wipe_eq (by rw [wipe_length]) fun j hj => wipe_out hj
    refine ⟨by first | exact hw | (rw [hw]), upd H0 L (.lst accv), G1, G3, s3, _, _, st3, xok0, q3, fun b s4 G4 H4 q4 e4 st4 => ?_⟩
    cases b with
    | false =>
      refine iteF ?_
      have hL4 : H4 L = some (.lst accv) := st4.hh.at upd_same (nt_of rfl)
      obtain ⟨G5, s5, av, ac, st5, r5, q5⟩ := back st4 hw (ra'.mono (f.gg.trans (e3.trans e4))) q4
      have e5 : upd H4 L (.lst accv) = H4 := by
        funext b
        by_cases z : b = L
        · subst z; rw [upd_same, hL4]
        · rw [upd_ne z]
      rw [e5] at st5
      exact ⟨G5, s5, av, ac, st5, r5, q5⟩
    | true =>
      refine iteT ⟨upd H0 L (.lst accv), G1, G4, s4, _, _, st4, xok0, q4, fun d s5 v G5 H5 q5 e5 st5 r5 => ?_⟩
      obtain ⟨hsz, q5⟩ := guard_ok q5
      have ra5 := ra'.mono (f.gg.trans (e3.trans (e4.trans e5)))
      refine ⟨accv, st5.hh.at upd_same (nt_of rfl), ?_, back st5 hw (ra5.append (.cons r5 .nil)) q5⟩
      rw [ra'.length, sizeLine_eq]
      exact Nat.le_of_ble_eq_true hsz
  · rw [List.drop_length] at q'
    have hL' : H' L = some (.lst accv) := st'.hh.at upd_same (nt_of rfl)
    have g' : G' L = none := st'.noG (o := .lst accv) upd_same (nt_of rfl) gL
    have st7 := st'.delH0 zL
    have st8 := st1.merge hno st7
    refine hk acc _ L accv G' H' q' (e.trans st'.gg) st8 ra' hL' g' zL fun j t et ho hh => ?_
    have h0 := st'.noOwn0 (a := L) (o := .lst accv) upd_same
    by_cases z : j ∈ vs
    · have hl1 : j < s'.length := by
        have := (List.getElem?_eq_some_iff.mp et).1
        rwa [mergeS_length] at this
      rw [mergeS_in z hl1] at et
      have hj := List.all_eq_true.mp hno j z
      have hl2 : j < s.length := by rw [← st1.len]; exact (List.getElem?_eq_some_iff.mp hh).1
      rw [List.getElem?_eq_getElem hl2] at hj
      have e1 : s.getD j .un = s[j] := by simp [List.getD, hl2]
      rw [e1] at et
      cases et
      have hj2 : (!s[j].own) = true := hj
      rw [ho] at hj2
      cases hj2
    · rw [mergeS_out z] at et
      exact h0 j t et ho (by rw [wipe_out z]; exact hh)
/-- [elt for target in iter if ..] -/
theorem l_lc (c : Cz X W) {elt tg iter : Expr} {ifs : List Expr} {scope : Scope} (own : List (Str × Nat)) {mi : MA} {mt : MT} {ts : List Nat} {mtest : MB} {me : MD} (hi : PI X tg iter (ri X Γ W mi)) (ok : BlkOk X.N X.env.scope scope own)
    (hg : ∀ (s : Shared) (H : Hp) (C : Addr) (cl : List (Str × Addr)) (fp : List Addr), Cz (X.blk s H scope (compEnvC scope cl C X.env) fp) W0 → PG (X.blk s H scope (compEnvC scope cl C X.env) fp) tg (rg X Γ ts mt))
    (ht : ∀ (s : Shared) (H : Hp) (C : Addr) (cl : List (Str × Addr)) (fp : List Addr), Cz (X.blk s H scope (compEnvC scope cl C X.env) fp) W0 → PTs (X.blk s H scope (compEnvC scope cl C X.env) fp) ifs (rb X Γ W0 mtest))
    (he : ∀ (s : Shared) (H : Hp) (C : Addr) (cl : List (Str × Addr)) (fp : List Addr), Cz (X.blk s H scope (compEnvC scope cl C X.env) fp) W0 → PE (X.blk s H scope (compEnvC scope cl C X.env) fp) elt (rd X Γ W0 me)) (hts : ∀ j ∈ ts, j ∈ own.map (·.2) := by decide) (hs : ∀ x, foldedSetIterable iter X.env x = pure x := by intro _; rfl) :
    PE X (.ListComp elt [⟨tg, iter, ifs, 0⟩] scope pos) (rl X Γ W (mLc mi mt mtest me (own.map (·.2)))) :=
  pe_weak (pe_lc c.calm c.nd hi ok (fun s H C cl fp => hg s H C cl fp (c.blk ..)) (fun s H C cl fp => ht s H C cl fp (c.blk ..)) (fun s H C cl fp => he s H C cl fp (c.blk ..)) hs) (lc_ok hts)
theorem s_setLc (c : Cz X W) (i : Nat) {y : Str} {py spos : Pos} {elt tg iter : Expr} {ifs : List Expr} {scope : Scope} (own : List (Str × Nat)) {mi : MA} {mt : MT} {ts : List Nat} {mtest : MB} {me : MD} (hi : PI X tg iter (ri X Γ W mi)) (ok : BlkOk X.N X.env.scope scope own)
    (hg : ∀ (s : Shared) (H : Hp) (C : Addr) (cl : List (Str × Addr)) (fp : List Addr), Cz (X.blk s H scope (compEnvC scope cl C X.env) fp) W0 → PG (X.blk s H scope (compEnvC scope cl C X.env) fp) tg (rg X Γ ts mt))
    (ht : ∀ (s : Shared) (H : Hp) (C : Addr) (cl : List (Str × Addr)) (fp : List Addr), Cz (X.blk s H scope (compEnvC scope cl C X.env) fp) W0 → PTs (X.blk s H scope (compEnvC scope cl C X.env) fp) ifs (rb X Γ W0 mtest))
    (he : ∀ (s : Shared) (H : Hp) (C : Addr) (cl : List (Str × Addr)) (fp : List Addr), Cz (X.blk s H scope (compEnvC scope cl C X.env) fp) W0 → PE (X.blk s H scope (compEnvC scope cl C X.env) fp) elt (rd X Γ W0 me))
    (hsw : swapsWith (.ListComp elt [⟨tg, iter, ifs, 0⟩] scope pos) (some (.Name y py)) spos.line X.env = pure true) (hy : X.N[i]? = some y := by rfl) (hyl : X.env.scope.names.lookup y = some .local := by rfl) (hts : ∀ j ∈ ts, j ∈ own.map (·.2) := by decide)
    (hs : ∀ x, foldedSetIterable iter X.env x = pure x := by intro _; rfl) :
    PS X (.Assign [.Name y py] (.ListComp elt [⟨tg, iter, ifs, 0⟩] scope pos) spos) (rs X Γ W (mAsgL i (mLc mi mt mtest me (own.map (·.2))))) :=
  ps_weak (ps_setLc c.calm c.nd hy hyl hsw hi ok (fun s H C cl fp => hg s H C cl fp (c.blk ..)) (fun s H C cl fp => ht s H C cl fp (c.blk ..)) (fun s H C cl fp => he s H C cl fp (c.blk ..)) hs) fun D σ H h => by
    have h2 := asgL_ok D σ H h
    exact lc_ok hts σ H _ h2
end
end Dm
end -- DmComp
section -- DmPrim
set_option Elab.async false
set_option linter.all false
set_option maxRecDepth 100000
namespace Dm
open PySem PySem.Spec PyProof.Rows L2
variable [Tbs]

/-! ### a def's body -/
def fnM (NL : Nat) (ms : MS) : MF := fun ds kr kx => ms (ds.map SV.d ++ List.replicate (NL - ds.length) .un) { nx := fun _ => kr .non, rt := kr, kx := kx }
abbrev WEk (E : XK) : WX := fun cls d _ H => E cls d H
section
variable {P : Program} {w : World} {K : PySem.W.Frag} {Γ : Gam} {mg : Str → Option Value} {base : Heap}
theorem rpl_start {G : Hp} : ∀ {vs : List V} {ds : List D} {m : Nat} {i : Nat} {s : SV}, RpL K Γ G vs ds → (ds.map SV.d ++ List.replicate m .un)[i]? = some s → ∃ o, (vs.map some ++ List.replicate m (none : Option V))[i]? = some o ∧ SlotR P w K Γ G G G o s ∧ s.own = false
  | _, _, m, i, s, .nil, e => by
    simp only [List.map_nil, List.nil_append, List.getElem?_replicate] at e ⊢
    split at e
    · rename_i h
      cases e
      exact ⟨none, by simp [h], trivial, rfl⟩
    · cases e
  | _, _, m, 0, s, .cons (v := v) h r, e => by
    simp at e
    subst e
    exact ⟨some v, by simp, ⟨v, rfl, h⟩, rfl⟩
  | _, _, m, i + 1, s, .cons h r, e => by
    have := rpl_start (m := m) (i := i) (s := s) r (by simpa using e)
    simpa using this
theorem SlotR.plain {H0 G H H0' H' : Hp} {o : Option V} {s : SV} (h : SlotR P w K Γ H0 G H o s) (n : s.own = false) : SlotR P w K Γ H0' G H' o s := by
  cases s with
  | un => trivial
  | d x => exact h
  | ol _ => cases n
  | od _ => cases n
  | ot _ => cases n
theorem fn_mk {x qual : Str} {st : Stmt} {f : Addr} {fd : FuncData} {N ps : List Str} {k n : Nat} {ms : MS} (F : Fun K x qual st f fd) (S : FnScope N ps (defScope st)) (hn : ps.length = n)
    (hb : ∀ (cdv : Value) (A : Around) (outer : List Env) (s : Shared) (H : Hp) (E : XK), Room k (A.deeper (envOfC qual (defScope st) s.heap.objs.size f cdv)) → Cz (cxOf (L2.CX P w) P w K mg base N qual (defScope st) f cdv A outer s H E) (WEk E) →
      PSs (cxOf (L2.CX P w) P w K mg base N qual (defScope st) f cdv A outer s H E) (defBody st) (rs (cxOf (L2.CX P w) P w K mg base N qual (defScope st) f cdv A outer s H E) Γ (WEk E) ms)) :
    FnOk P w K mg base (L2.CX P w) (k + 1) f fd ps (spD K Γ n (fnM N.length ms)) := by
  refine F.okX S (fun vs H Q E h => h.1.trans hn.symm) fun cdv A outer s H vs Q E hr h => ?_
  obtain ⟨hl, G, ds, kr, kx, hG, htb, hv, hm, h1, h2⟩ := h
  have c : Cz (cxOf (L2.CX P w) P w K mg base N qual (defScope st) f cdv A outer s H E) (WEk E) := ⟨takes_of rfl rfl rfl rfl, rfl, S.nd, passes_of rfl⟩
  refine ⟨_, hb cdv A outer s H E hr c, H, G, G, _, _, ⟨Fr.refl hG, ?_, fun i s e => ?_, fun i j s t a e1 _ o1 _ _ _ => ?_, htb⟩, fun x hx cls d σ G' H' f r => h2 x hx cls d G' H' f r, hm, fun ss' σ' G' H' q st' => h1 .non .non G' H' q st'.toFr .non, fun d v G' H' q f r => h1 d v G' H' q f r, fun _ _ _ _ q => q.elim, fun _ _ _ _ q => q.elim⟩
  · unfold L2.start
    rw [List.length_append, List.length_append, List.length_map, List.length_map, List.length_replicate, List.length_replicate, hv.length]
  · unfold L2.start
    obtain ⟨o, h3, h4, h5⟩ := rpl_start (P := P) (w := w) hv e
    rw [hv.length]
    exact ⟨o, h3, h4.plain h5⟩
  · obtain ⟨o, _, _, h5⟩ := rpl_start (P := P) (w := w) hv e1
    rw [h5] at o1
    cases o1
end

/-! ### what stands for data of a shape -/
section
variable {K : PySem.W.Frag} {Γ : Gam} {G : Hp} {v : V}
theorem Rp.lst_inv {ds : List D} (r : Rp K Γ G v (.lst ds)) : ∃ a xs, v = .ref a ∧ G a = some (.lst xs) ∧ RpL K Γ G xs ds := by
  cases r with
  | lst h1 h2 => exact ⟨_, _, rfl, h1, h2⟩
theorem Rp.tup_inv {ds : List D} (r : Rp K Γ G v (.tup ds)) : ∃ a xs, v = .ref a ∧ TupQ K G a xs ∧ RpL K Γ G xs ds := by
  cases r with
  | tup h1 h2 => exact ⟨_, _, rfl, h1, h2⟩
theorem Rp.int_inv {i : Int} (r : Rp K Γ G v (.int i)) : v = .int i := by cases r; rfl
theorem Rp.bl_inv {i : Bool} (r : Rp K Γ G v (.bl i)) : v = .bl i := by cases r; rfl
theorem Rp.str_inv {i : Str} (r : Rp K Γ G v (.str i)) : v = .str i := by cases r; rfl
theorem Rp.ty_inv {n : String} (r : Rp K Γ G v (.ty n)) : v = .ty n := by cases r; rfl
theorem RpL.one_inv {vs : List V} {d : D} (r : RpL K Γ G vs [d]) : ∃ v, vs = [v] ∧ Rp K Γ G v d := by
  cases r with
  | cons h t => cases t; exact ⟨_, rfl, h⟩
theorem RpL.two_inv {vs : List V} {d e : D} (r : RpL K Γ G vs [d, e]) : ∃ v u, vs = [v, u] ∧ Rp K Γ G v d ∧ Rp K Γ G u e := by
  cases r with
  | cons h t => obtain ⟨u, rfl, h2⟩ := t.one_inv; exact ⟨_, _, rfl, h, h2⟩
end

/-! ### operations -/
section
variable {X : Cx} {K : PySem.W.Frag} {Γ : Gam}
theorem prim2_int {g : Int → Int → V} {gd : Int → Int → D} (h : ∀ i j G, Rp K Γ G (g i j) (gd i j)) : Prim2 K Γ (rI0 g) (fun a b => match a, b with
  | .int i, .int j => some (gd i j)
  | _, _ => none) := by
  intro G H x y a b d Q e ra rb hF q
  dsimp only at hF
  split at hF
  · cases hF
    cases ra; cases rb
    exact ⟨_, _, rfl, rfl, q _ G H (Fr.refl e) (h _ _ G)⟩
  · cases hF
theorem prim2_intC {C : Int → Int → Prop} {g : Int → Int → V} {gd : Int → Int → D} (c : Int → Int → Bool) (hc : ∀ i j, c i j = true → C i j) (h : ∀ i j G, Rp K Γ G (g i j) (gd i j)) : Prim2 K Γ (rI C g) (fun a b => match a, b with
  | .int i, .int j => if c i j then some (gd i j) else none
  | _, _ => none) := by
  intro G H x y a b d Q e ra rb hF q
  dsimp only at hF
  split at hF
  · split at hF
    · rename_i i j hcc
      cases hF
      cases ra; cases rb
      exact ⟨_, _, rfl, rfl, hc _ _ hcc, q _ G H (Fr.refl e) (h _ _ G)⟩
    · cases hF
  · cases hF
def subD : D → D → Option D := fun a b => match a, b with
  | .int i, .int j => some (.int (i - j))
  | _, _ => none
theorem prim_sub : Prim2 K Γ (rI0 fun i j => .int (i - j)) subD := prim2_int fun _ _ _ => .int _
def lim64 (i : Int) : Bool := decide (-(2 ^ 64) < i) && decide (i < 2 ^ 64)
def mulD : D → D → Option D := fun a b => match a, b with
  | .int i, .int j => if lim64 i || lim64 j then some (.int (i * j)) else none
  | _, _ => none
theorem lim_ok {i : Int} (h : lim64 i = true) : -(2 ^ 64) < i ∧ i < 2 ^ 64 := by
  unfold lim64 at h
  rw [Bool.and_eq_true] at h
  exact ⟨of_decide_eq_true h.1, of_decide_eq_true h.2⟩
theorem prim_mul : Prim2 K Γ (rI CMul fun i j => .int (i * j)) mulD := prim2_intC (fun i j => lim64 i || lim64 j) (fun i j h => by
  rw [Bool.or_eq_true] at h
  exact h.elim (fun h => .inl (lim_ok h)) (fun h => .inr (lim_ok h))) fun _ _ _ => .int _
def fdivD : D → D → Option D := fun a b => match a, b with
  | .int i, .int j => if decide (j ≠ 0) && decide (j.natAbs < 1073741824) then some (.int (i.fdiv j)) else none
  | _, _ => none
theorem prim_fdiv : Prim2 K Γ (rI CDivN fun i j => .int (i.fdiv j)) fdivD := prim2_intC (fun i j => decide (j ≠ 0) && decide (j.natAbs < 1073741824)) (fun i j h => by
  rw [Bool.and_eq_true] at h
  exact ⟨of_decide_eq_true h.1, of_decide_eq_true h.2⟩) fun _ _ _ => .int _
def modD : D → D → Option D := fun a b => match a, b with
  | .int i, .int j => if decide (j ≠ 0) then some (.int (i.fmod j)) else none
  | _, _ => none
theorem prim_mod : Prim2 K Γ (rI (fun _ j => j ≠ 0) fun i j => .int (i.fmod j)) modD := prim2_intC (fun i j => decide (j ≠ 0)) (fun i j h => of_decide_eq_true h) fun _ _ _ => .int _
def powD : D → D → Option D := fun a b => match a, b with
  | .int i, .int j => if decide (0 ≤ j) && decide (j ≤ 1000000) && decide (i.natAbs < 2 ^ 64) then some (.int (i ^ j.toNat)) else none
  | _, _ => none
theorem prim_pow : Prim2 K Γ (rI CPow fun i j => .int (i ^ j.toNat)) powD := prim2_intC (fun i j => decide (0 ≤ j) && decide (j ≤ 1000000) && decide (i.natAbs < 2 ^ 64)) (fun i j h => by
  rw [Bool.and_eq_true, Bool.and_eq_true] at h
  exact ⟨of_decide_eq_true h.1.1, of_decide_eq_true h.1.2, of_decide_eq_true h.2⟩) fun _ _ _ => .int _
def xorD : D → D → Option D := fun a b => match a, b with
  | .int i, .int j => some (.int (Builtin.bitXor i j))
  | _, _ => none
theorem prim_xor : Prim2 K Γ (rI0 fun i j => .int (Builtin.bitXor i j)) xorD := prim2_int fun _ _ _ => .int _
def ltD : D → D → Option D := fun a b => match a, b with
  | .int i, .int j => some (.bl (decide (i < j)))
  | _, _ => none
def leD : D → D → Option D := fun a b => match a, b with
  | .int i, .int j => some (.bl (decide (i ≤ j)))
  | _, _ => none
def gtD : D → D → Option D := fun a b => match a, b with
  | .int i, .int j => some (.bl (decide (j < i)))
  | _, _ => none
def geD : D → D → Option D := fun a b => match a, b with
  | .int i, .int j => some (.bl (decide (j ≤ i)))
  | _, _ => none
theorem prim_lt : Prim2 K Γ (rI0 fun i j => .bl (decide (i < j))) ltD := prim2_int fun _ _ _ => .bl _
theorem prim_le : Prim2 K Γ (rI0 fun i j => .bl (decide (i ≤ j))) leD := prim2_int fun _ _ _ => .bl _
theorem prim_gt : Prim2 K Γ (rI0 fun i j => .bl (decide (j < i))) gtD := prim2_int fun _ _ _ => .bl _
theorem prim_ge : Prim2 K Γ (rI0 fun i j => .bl (decide (j ≤ i))) geD := prim2_int fun _ _ _ => .bl _
/-- t + u -/
def rCatX (K : PySem.W.Frag) : R2 := fun x y H Q => ∃ a b xs ys, x = .ref a ∧ y = .ref b ∧ SqT K H a xs ∧ SqT K H b ys ∧ xs.length + ys.length ≤ sizeLine ∧
  (xs = [] → Q (.ref b) H) ∧ (xs ≠ [] → ys = [] → Q (.ref a) H) ∧ (xs ≠ [] → ys ≠ [] → ∀ p (o : Obj), H p = none → o.dict = none → Q (.ref p) (upd H p (.frz o (.tup (xs ++ ys)))))
theorem op_catX : OpR X (binaryOp .Add) (rCatX X.K) := by
  intro pins s σ H x y v u Q I rx ry h
  obtain ⟨a, b, xs, ys, rfl, rfl, ha, hb, hz, q0, q1, q2⟩ := h
  by_cases hx : xs = []
  · subst hx
    exact op_catA pins s σ H _ _ v u Q I rx ry ⟨a, b, [], ys, rfl, rfl, ha, hb, hz, q0, fun z => absurd rfl z, fun z => absurd rfl z⟩
  · by_cases hy : ys = []
    · exact op_catA pins s σ H _ _ v u Q I rx ry ⟨a, b, xs, ys, rfl, rfl, ha, hb, hz, q0, q1, fun _ z => absurd hy z⟩
    · cases rx
      cases ry
      obtain ⟨its, r1, p1, _⟩ := I.tuple ha
      obtain ⟨its2, r2, p2, _⟩ := I.tuple hb
      refine HT.cat_tup p1 p2 (fun z => hx (r1.nil_iff.mp z)) (fun z => absurd (r2.nil_iff.mp z) hy) (fun z => ?_) (by rw [← r1.length, ← r2.length]; exact hz)
      exact ⟨.ref s.heap.objs.size, _, I.laid (t' := s.toks) (fun b ob q => Heap.get?_push_of_some _ q) (Nat.le_refl _) (objOk_frz (by rw [List.length_append]; exact hz) (r1.append r2) (Heap.get?_push_size _ rfl)), rfl, q2 hx hy _ _ (I.hok.fresh (Nat.le_refl _)) rfl⟩
/-- a + b: ints, texts, lists, tuples -/
def rAddA (K : PySem.W.Frag) : R2 := fun x y H Q => rI0 (fun i j => .int (i + j)) x y H Q ∨ (∃ i j, x = .str i ∧ y = .str j ∧ i.length + j.length ≤ sizeLine ∧ Q (.str (i ++ j)) H) ∨ rCat x y H Q ∨ rCatX K x y H Q
theorem op_addA : OpR X (binaryOp .Add) (rAddA X.K) := by
  intro pins s σ H x y v u Q I rx ry h
  rcases h with h | h | h | h
  · exact op_add pins s σ H x y v u Q I rx ry h
  · exact op_add_str pins s σ H x y v u Q I rx ry h
  · exact op_cat pins s σ H x y v u Q I rx ry h
  · exact op_catX pins s σ H x y v u Q I rx ry h
def addD : D → D → Option D := fun a b => match a, b with
  | .int i, .int j => some (.int (i + j))
  | .str x, .str y => if Nat.ble (x.length + y.length) mline then some (.str (x ++ y)) else none
  | .lst xs, .lst ys => if Nat.ble (xs.length + ys.length) mline then some (.lst (xs ++ ys)) else none
  | .tup xs, .tup ys => if Nat.ble (xs.length + ys.length) mline then some (.tup (xs ++ ys)) else none
  | _, _ => none
theorem if_some {c : Bool} {α : Type} {a b : α} (h : (if c = true then some a else none) = some b) : c = true ∧ a = b := by
  cases c with
  | false => cases h
  | true => exact ⟨rfl, Option.some.inj h⟩
theorem prim_add : Prim2 K Γ (rAddA K) addD := by
  intro G H x y a b d Q e ra rb hF q
  unfold addD at hF
  split at hF
  · cases hF; cases ra; cases rb
    exact .inl ⟨_, _, rfl, rfl, q _ G H (Fr.refl e) (.int _)⟩
  · obtain ⟨hl, rfl⟩ := if_some hF
    cases ra; cases rb
    exact .inr (.inl ⟨_, _, rfl, rfl, ble_line hl, q _ G H (Fr.refl e) (.str _)⟩)
  · obtain ⟨hl, rfl⟩ := if_some hF
    obtain ⟨a1, xs, rfl, h1, r1⟩ := ra.lst_inv
    obtain ⟨a2, ys, rfl, h2, r2⟩ := rb.lst_inv
    refine .inr (.inr (.inl ⟨a1, a2, xs, ys, rfl, rfl, e.at h1 (nt_of rfl), e.at h2 (nt_of rfl), by rw [r1.length, r2.length]; exact ble_line hl, fun p hp => ?_⟩))
    have f := Fr.new (o := .lst (xs ++ ys)) e hp
    exact q _ _ _ f (.lst upd_same ((r1.append r2).mono f.gg))
  · obtain ⟨hl, rfl⟩ := if_some hF
    obtain ⟨a1, xs, rfl, h1, r1⟩ := ra.tup_inv
    obtain ⟨a2, ys, rfl, h2, r2⟩ := rb.tup_inv
    refine .inr (.inr (.inr ⟨a1, a2, xs, ys, rfl, rfl, ex_t e h1.sqt, ex_t e h2.sqt, by rw [r1.length, r2.length]; exact ble_line hl, fun hx => ?_, fun _ hy => ?_, fun _ _ p o hp hd => ?_⟩))
    · subst hx
      cases r1
      exact q _ G H (Fr.refl e) (.tup h2 r2)
    · subst hy
      cases r2
      refine q _ G H (Fr.refl e) (.tup h1 ?_)
      rw [List.append_nil]
      exact r1
    · have f := Fr.new (o := .frz o (.tup (xs ++ ys))) e hp
      exact q _ _ _ f (.tup (TupQ.of hd) ((r1.append r2).mono f.gg))
  · cases hF
/-- a == b, a != b of data -/
def eqD (neg : Bool) : D → D → Option D := fun a b => match toPy a, toPy b with
  | some p, some q => if SeqAt.shaped p && SeqAt.shaped q then some (.bl (if neg then !PyData.eqv p q else PyData.eqv p q)) else none
  | _, _ => none
theorem eqD_inv {neg : Bool} {a b d : D} (h : eqD neg a b = some d) : ∃ p q, toPy a = some p ∧ toPy b = some q ∧ SeqAt.shaped p = true ∧ SeqAt.shaped q = true ∧ d = .bl (if neg then !PyData.eqv p q else PyData.eqv p q) := by
  unfold eqD at h
  split at h
  · rename_i p q h1 h2
    obtain ⟨hs, e⟩ := if_some h
    rw [Bool.and_eq_true] at hs
    exact ⟨p, q, h1, h2, hs.1, hs.2, e.symm⟩
  · cases h
theorem prim_eq : Prim2 K Γ (rEqD K) (eqD false) := by
  intro G H x y a b d Q e ra rb hF q
  obtain ⟨p, q', h1, h2, h3, h4, rfl⟩ := eqD_inv hF
  exact ⟨p, q', dp_mono e (ra.dp h1), dp_mono e (rb.dp h2), h3, h4, q _ G H (Fr.refl e) (.bl _)⟩
theorem prim_ne : Prim2 K Γ (rNeD K) (eqD true) := by
  intro G H x y a b d Q e ra rb hF q
  obtain ⟨p, q', h1, h2, h3, h4, rfl⟩ := eqD_inv hF
  exact ⟨p, q', dp_mono e (ra.dp h1), dp_mono e (rb.dp h2), h3, h4, q _ G H (Fr.refl e) (.bl _)⟩
/-- a[i] -/
def ixD : D → D → Option D := fun a b => match a, b with
  | .lst xs, .int i => atI xs i
  | .frl xs, .int i => atI xs i
  | .tup xs, .int i => atI xs i
  | .str z, .int i => if Nat.ble z.length mline then (atI z.cps.toList i).map fun c => .str ⟨#[c]⟩ else none
  | _, _ => none
theorem atI_rel {G : Hp} {vs : List V} {ds : List D} {i : Int} {d : D} (r : RpL K Γ G vs ds) (h : atI ds i = some d) : ∃ v, atI vs i = some v ∧ Rp K Γ G v d := by
  unfold atI at h ⊢
  rw [r.length]
  cases q : ixN ds.length i with
  | none => rw [q] at h; cases h
  | some j =>
    rw [q] at h
    exact r.get h
theorem prim_ix : Prim2 K Γ (rIx K) ixD := by
  intro G H x y a b d Q e ra rb hF q
  unfold ixD at hF
  split at hF
  · obtain ⟨a1, xs, rfl, h1, r1⟩ := ra.lst_inv
    obtain rfl := rb.int_inv
    obtain ⟨v, hv, rv⟩ := atI_rel r1 hF
    exact .inl ⟨a1, xs, _, v, rfl, rfl, SqL.of (e.at h1 (nt_of rfl)), hv, q v G H (Fr.refl e) rv⟩
  · cases ra with
    | frl h1 r1 =>
      obtain rfl := rb.int_inv
      obtain ⟨v, hv, rv⟩ := atI_rel r1 hF
      exact .inl ⟨_, _, _, v, rfl, rfl, ex_l e h1, hv, q v G H (Fr.refl e) rv⟩
  · obtain ⟨a1, xs, rfl, h1, r1⟩ := ra.tup_inv
    obtain rfl := rb.int_inv
    obtain ⟨v, hv, rv⟩ := atI_rel r1 hF
    exact .inr (.inl ⟨a1, xs, _, v, rfl, rfl, ex_t e h1.sqt, hv, q v G H (Fr.refl e) rv⟩)
  · rename_i z i
    split at hF
    · rename_i hl
      obtain rfl := ra.str_inv
      obtain rfl := rb.int_inv
      cases hq : atI z.cps.toList i with
      | none => rw [hq] at hF; cases hF
      | some c =>
        rw [hq] at hF
        cases hF
        exact .inr (.inr ⟨z, i, c, rfl, rfl, ble_line hl, hq, q _ G H (Fr.refl e) (.str _)⟩)
    · cases hF
  · cases hF
/-- x in xs, x not in xs: data -/
def rInA (K : PySem.W.Frag) (neg : Bool) : R2 := fun x y H Q => ∃ d ds, Dp K H x d ∧ (Dp K H y (.list ds) ∨ Dp K H y (.tuple ds)) ∧ SeqAt.shaped d = true ∧ SeqAt.shaped (.list ds) = true ∧ Q (.bl (if neg then !ds.any fun z => PyData.eqv z d else ds.any fun z => PyData.eqv z d)) H
theorem op_inA (hu : X.A.units + 65 < cLine) : OpR X (compareOp .In) (rInA X.K false) := by
  intro pins s σ H x y v u Q I rx ry h
  obtain ⟨d, ds, hd, he, sd, se, q⟩ := h
  obtain ⟨as, r1⟩ := Dp.reads I d x v hd rx
  rcases he with he | he
  · obtain ⟨bs, r2⟩ := Dp.reads I (.list ds) y u he ry
    exact SeqAt.in_list_reads r2 r1 (SeqAt.canLay_of_shaped se) (SeqAt.canLay_of_shaped sd) (room_in_shaped sd hu) ⟨.bl _, H, I, rfl, q⟩
  · obtain ⟨bs, r2⟩ := Dp.reads I (.tuple ds) y u he ry
    exact SeqAt.in_tuple_reads r2 r1 (SeqAt.canLay_of_shaped se) (SeqAt.canLay_of_shaped sd) (room_in_shaped sd hu) ⟨.bl _, H, I, rfl, q⟩
theorem op_notInA (hu : X.A.units + 65 < cLine) : OpR X (compareOp .NotIn) (rInA X.K true) := by
  intro pins s σ H x y v u Q I rx ry h
  obtain ⟨d, ds, hd, he, sd, se, q⟩ := h
  obtain ⟨as, r1⟩ := Dp.reads I d x v hd rx
  rcases he with he | he
  · obtain ⟨bs, r2⟩ := Dp.reads I (.list ds) y u he ry
    exact SeqAt.notIn_list_reads r2 r1 (SeqAt.canLay_of_shaped se) (SeqAt.canLay_of_shaped sd) (room_in_shaped sd hu) ⟨.bl _, H, I, rfl, q⟩
  · obtain ⟨bs, r2⟩ := Dp.reads I (.tuple ds) y u he ry
    exact SeqAt.notIn_tuple_reads r2 r1 (SeqAt.canLay_of_shaped se) (SeqAt.canLay_of_shaped sd) (room_in_shaped sd hu) ⟨.bl _, H, I, rfl, q⟩
def inD (neg : Bool) : D → D → Option D := fun a b => match toPy a, seqOf b with
  | some p, some xs => match toPyL xs with
    | some qs => if SeqAt.shaped p && SeqAt.shaped (.list qs) then some (.bl (if neg then !qs.any fun z => PyData.eqv z p else qs.any fun z => PyData.eqv z p)) else none
    | none => none
  | _, _ => none
theorem seq_dp {G : Hp} {v : V} {d : D} {xs : List D} {ps : List PyData} (r : Rp K Γ G v d) (h : seqOf d = some xs) (hp : toPyL xs = some ps) : Dp K G v (.list ps) ∨ Dp K G v (.tuple ps) := by
  obtain ⟨a, q, vs, rfl, hs, hr⟩ := seq_at r h
  cases q with
  | l => exact .inl (.lst hs (hr.dp hp))
  | t => exact .inr (.tup hs (hr.dp hp))
theorem prim_in {neg : Bool} : Prim2 K Γ (rInA K neg) (inD neg) := by
  intro G H x y a b d Q e ra rb hF q
  unfold inD at hF
  split at hF
  · rename_i p xs h1 h2
    split at hF
    · rename_i qs h3
      obtain ⟨hs, e2⟩ := if_some hF
      rw [Bool.and_eq_true] at hs
      subst e2
      refine ⟨p, qs, dp_mono e (ra.dp h1), ?_, hs.1, hs.2, q _ G H (Fr.refl e) (.bl _)⟩
      rcases seq_dp rb h2 h3 with z | z
      · exact .inl (dp_mono e z)
      · exact .inr (dp_mono e z)
    · cases hF
  · cases hF
/-! ### calls of built-ins -/
theorem CallR.or {f : Value} {r r' : List V → Hp → VK → Prop} (h : CallR X f r) (h' : CallR X f r') : CallR X f (fun xs H Q => r xs H Q ∨ r' xs H Q) := by
  intro pins s σ H xs us Q I rx q
  rcases q with q | q
  · exact h pins s σ H xs us Q I rx q
  · exact h' pins s σ H xs us Q I rx q
def lenD : List D → Option D := fun ds => match ds with
  | [.lst xs] => some (.int xs.length)
  | [.frl xs] => some (.int xs.length)
  | [.tup xs] => some (.int xs.length)
  | [.str z] => if Nat.ble z.length mline then some (.int z.length) else none
  | _ => none
def rLenA (K : PySem.W.Frag) : List V → Hp → VK → Prop := fun xs H Q => ∃ x n, xs = [x] ∧ LenV K x H n ∧ Q (.int n) H
theorem prim_len : PrimC K Γ (rLenA K) lenD := by
  intro G H vs ds d Q e r hF q
  unfold lenD at hF
  split at hF
  · cases hF
    obtain ⟨v, rfl, rv⟩ := r.one_inv
    obtain ⟨a, xs, rfl, h1, r1⟩ := rv.lst_inv
    exact ⟨_, _, rfl, .inl ⟨xs, SqL.of (e.at h1 (nt_of rfl)), r1.length.symm⟩, q _ G H (Fr.refl e) (.int _)⟩
  · cases hF
    obtain ⟨v, rfl, rv⟩ := r.one_inv
    cases rv with
    | frl h1 r1 => exact ⟨_, _, rfl, .inl ⟨_, ex_l e h1, r1.length.symm⟩, q _ G H (Fr.refl e) (.int _)⟩
  · cases hF
    obtain ⟨v, rfl, rv⟩ := r.one_inv
    obtain ⟨a, xs, rfl, h1, r1⟩ := rv.tup_inv
    exact ⟨_, _, rfl, .inr ⟨xs, ex_t e h1.sqt, r1.length.symm⟩, q _ G H (Fr.refl e) (.int _)⟩
  · obtain ⟨hl, rfl⟩ := if_some hF
    obtain ⟨v, rfl, rv⟩ := r.one_inv
    obtain rfl := rv.str_inv
    exact ⟨_, _, rfl, ⟨ble_line hl, rfl⟩, q _ G H (Fr.refl e) (.int _)⟩
  · cases hF
def absD : List D → Option D := fun ds => match ds with
  | [.int i] => some (.int (if i < 0 then -i else i))
  | _ => none
theorem prim_abs : PrimC K Γ (fun xs H Q => ∃ i, xs = [V.int i] ∧ Q (.int (if i < 0 then -i else i)) H) absD := by
  intro G H vs ds d Q e r hF q
  unfold absD at hF
  split at hF
  · cases hF
    obtain ⟨v, rfl, rv⟩ := r.one_inv
    obtain rfl := rv.int_inv
    exact ⟨_, rfl, q _ G H (Fr.refl e) (.int _)⟩
  · cases hF
def intD : List D → Option D := fun ds => match ds with
  | [.int i] => some (.int i)
  | [.bl b] => some (.int (if b then 1 else 0))
  | _ => none
theorem prim_int : PrimC K Γ (fun xs H Q => (∃ i, xs = [V.int i] ∧ Q (.int i) H) ∨ ∃ k, xs = [V.bl k] ∧ Q (.int (if k then 1 else 0)) H) intD := by
  intro G H vs ds d Q e r hF q
  unfold intD at hF
  split at hF
  · cases hF
    obtain ⟨v, rfl, rv⟩ := r.one_inv
    obtain rfl := rv.int_inv
    exact .inl ⟨_, rfl, q _ G H (Fr.refl e) (.int _)⟩
  · cases hF
    obtain ⟨v, rfl, rv⟩ := r.one_inv
    obtain rfl := rv.bl_inv
    exact .inr ⟨_, rfl, q _ G H (Fr.refl e) (.int _)⟩
  · cases hF
def min2D : List D → Option D := fun ds => match ds with
  | [.int i, .int j] => some (.int (if j < i then j else i))
  | _ => none
def max2D : List D → Option D := fun ds => match ds with
  | [.int i, .int j] => some (.int (if j > i then j else i))
  | _ => none
theorem prim_min2 : PrimC K Γ (fun xs H Q => ∃ i j, xs = [V.int i, V.int j] ∧ Q (.int (if j < i then j else i)) H) min2D := by
  intro G H vs ds d Q e r hF q
  unfold min2D at hF
  split at hF
  · cases hF
    obtain ⟨v, u, rfl, rv, ru⟩ := r.two_inv
    obtain rfl := rv.int_inv
    obtain rfl := ru.int_inv
    exact ⟨_, _, rfl, q _ G H (Fr.refl e) (.int _)⟩
  · cases hF
theorem prim_max2 : PrimC K Γ (fun xs H Q => ∃ i j, xs = [V.int i, V.int j] ∧ Q (.int (if j > i then j else i)) H) max2D := by
  intro G H vs ds d Q e r hF q
  unfold max2D at hF
  split at hF
  · cases hF
    obtain ⟨v, u, rfl, rv, ru⟩ := r.two_inv
    obtain rfl := rv.int_inv
    obtain rfl := ru.int_inv
    exact ⟨_, _, rfl, q _ G H (Fr.refl e) (.int _)⟩
  · cases hF
/-- tuple(xs) -/
def tupleD : List D → Option D := fun ds => match ds with
  | [.lst xs] => some (.tup xs)
  | [.frl xs] => some (.tup xs)
  | [.tup xs] => some (.tup xs)
  | _ => none
def rTupleX (K : PySem.W.Frag) : List V → Hp → VK → Prop := fun xs H Q => ∃ p ys, xs = [V.ref p] ∧ ((SqL K H p ys ∧ ∀ l (o : Obj), H l = none → o.dict = none → Q (.ref l) (upd H l (.frz o (.tup ys)))) ∨ (SqT K H p ys ∧ Q (.ref p) H))
theorem call_tupleX : CallR X (.type "tuple") (rTupleX X.K) := by
  intro pins s σ H xs us Q I r h
  obtain ⟨p, ys, rfl, h⟩ := h
  obtain ⟨u, rfl, rx⟩ := vals1 r
  cases rx
  rcases h with ⟨hq, q⟩ | ⟨hq, q⟩
  · obtain ⟨its, r', pl, hz⟩ := I.list hq
    have hlen := r'.length
    refine call_tuple_list pl.isList (fun h' kp => ?_) (by simp only [List.size_toArray] <;> omega)
    have I1 : Inv X pins σ H { s with heap := h' } := I.kept (t' := s.toks) kp
    exact ⟨.ref h'.objs.size, _, I1.laid (t' := s.toks) (fun b o e => Heap.get?_push_of_some _ e) (Nat.le_refl _) (objOk_frz hz r' (Heap.get?_push_size _ rfl)), rfl, q _ _ (I1.hok.fresh (Nat.le_refl _)) rfl⟩
  · obtain ⟨its, r', pl, hz⟩ := I.tuple hq
    exact call_tuple_same pl ⟨.ref p, H, I, rfl, q⟩
theorem prim_tuple : PrimC K Γ (rTupleX K) tupleD := by
  intro G H vs ds d Q e r hF q
  have new : ∀ {a : Addr} {xs : List V} {es : List D}, RpL K Γ G xs es → (∀ v G' H', Fr H G G' H' → Rp K Γ G' v (.tup es) → Q v H') → ∀ l (o : Obj), H l = none → o.dict = none → Q (.ref l) (upd H l (.frz o (.tup xs))) := fun {a xs es} r1 q l o hl hd => by
    have f := Fr.new (o := .frz o (.tup xs)) e hl
    exact q _ _ _ f (.tup (TupQ.of hd) (r1.mono f.gg))
  unfold tupleD at hF
  split at hF
  · cases hF
    obtain ⟨v, rfl, rv⟩ := r.one_inv
    obtain ⟨a, xs, rfl, h1, r1⟩ := rv.lst_inv
    exact ⟨a, xs, rfl, .inl ⟨SqL.of (e.at h1 (nt_of rfl)), new (a := a) r1 q⟩⟩
  · cases hF
    obtain ⟨v, rfl, rv⟩ := r.one_inv
    cases rv with
    | frl h1 r1 => exact ⟨_, _, rfl, .inl ⟨ex_l e h1, new (a := 0) r1 q⟩⟩
  · cases hF
    obtain ⟨v, rfl, rv⟩ := r.one_inv
    obtain ⟨a, xs, rfl, h1, r1⟩ := rv.tup_inv
    exact ⟨a, xs, rfl, .inr ⟨ex_t e h1.sqt, q _ G H (Fr.refl e) (.tup h1 r1)⟩⟩
  · cases hF
/-- list(xs), as data -/
def listD : List D → Option D := fun ds => match ds with
  | [d] => (seqOf d).map .lst
  | _ => none
theorem prim_list : PrimC K Γ (fun xs H Q => ∃ p ys, xs = [V.ref p] ∧ (SqL K H p ys ∨ SqT K H p ys) ∧ ∀ l, H l = none → Q (.ref l) (upd H l (.lst ys))) listD := by
  intro G H vs ds d Q e r hF q
  unfold listD at hF
  split at hF
  · rename_i d0
    cases hs : seqOf d0 with
    | none => rw [hs] at hF; cases hF
    | some xs =>
      rw [hs] at hF
      cases hF
      obtain ⟨v, rfl, rv⟩ := r.one_inv
      obtain ⟨a, sq, ws, rfl, h1, r1⟩ := seq_at rv hs
      refine ⟨a, ws, rfl, ?_, fun l hl => ?_⟩
      · cases sq with
        | l => exact .inl (ex_l e h1)
        | t => exact .inr (ex_t e h1)
      · have f := Fr.new (o := .lst ws) e hl
        exact q _ _ _ f (.lst upd_same (r1.mono f.gg))
  · cases hF
/-- all([..]), any([..]) of truth values -/
def boolsOf : List D → Option (List Bool)
  | [] => some []
  | .bl b :: r => (boolsOf r).map (b :: ·)
  | _ :: _ => none
theorem bools_rel {G : Hp} : ∀ {vs : List V} {ds : List D} {bs : List Bool}, RpL K Γ G vs ds → boolsOf ds = some bs → vs = bs.map V.bl
  | _, _, _, .nil, h => by cases h; rfl
  | _, _, _, .cons (d := d) (ds := ds) r t, h => by
    cases d with
    | bl b =>
      unfold boolsOf at h
      cases q : boolsOf ds with
      | none => rw [q] at h; cases h
      | some cs =>
        rw [q] at h
        cases h
        rw [r.bl_inv, bools_rel t q]
        rfl
    | _ => cases h
def allD : List D → Option D := fun ds => match ds with
  | [.lst xs] => (boolsOf xs).map fun bs => .bl (bs.all id)
  | _ => none
def anyD : List D → Option D := fun ds => match ds with
  | [.lst xs] => (boolsOf xs).map fun bs => .bl (bs.any id)
  | _ => none
theorem prim_all : PrimC K Γ (rAll K) allD := by
  intro G H vs ds d Q e r hF q
  unfold allD at hF
  split at hF
  · rename_i xs
    cases hs : boolsOf xs with
    | none => rw [hs] at hF; cases hF
    | some bs =>
      rw [hs] at hF
      cases hF
      obtain ⟨v, rfl, rv⟩ := r.one_inv
      obtain ⟨a, ws, rfl, h1, r1⟩ := rv.lst_inv
      have e1 := bools_rel r1 hs
      subst e1
      exact ⟨a, bs, rfl, SqL.of (e.at h1 (nt_of rfl)), q _ G H (Fr.refl e) (.bl _)⟩
  · cases hF
theorem prim_any : PrimC K Γ (rAny K) anyD := by
  intro G H vs ds d Q e r hF q
  unfold anyD at hF
  split at hF
  · rename_i xs
    cases hs : boolsOf xs with
    | none => rw [hs] at hF; cases hF
    | some bs =>
      rw [hs] at hF
      cases hF
      obtain ⟨v, rfl, rv⟩ := r.one_inv
      obtain ⟨a, ws, rfl, h1, r1⟩ := rv.lst_inv
      have e1 := bools_rel r1 hs
      subst e1
      exact ⟨a, bs, rfl, SqL.of (e.at h1 (nt_of rfl)), q _ G H (Fr.refl e) (.bl _)⟩
  · cases hF
/-- xs * k, a list -/
def repD : D → D → Option D := fun a b => match a, b with
  | .lst xs, .int k => if small k && Nat.ble (xs.length * k.toNat) mline then some (.lst (List.replicate k.toNat xs).flatten) else none
  | a, b => mulD a b
def rMulA : R2 := fun x y H Q => rRep x y H Q ∨ rI CMul (fun i j => .int (i * j)) x y H Q
theorem op_mulA : OpR X (binaryOp .Mult) rMulA := by
  intro pins s σ H x y v u Q I rx ry h
  rcases h with h | h
  · exact op_rep pins s σ H x y v u Q I rx ry h
  · exact op_mul pins s σ H x y v u Q I rx ry h
theorem rpl_rep {G : Hp} {vs : List V} {ds : List D} (r : RpL K Γ G vs ds) : ∀ n : Nat, RpL K Γ G (List.replicate n vs).flatten (List.replicate n ds).flatten
  | 0 => .nil
  | n + 1 => by
    rw [List.replicate_succ, List.replicate_succ, List.flatten_cons, List.flatten_cons]
    exact r.append (rpl_rep r n)
theorem prim_rep : Prim2 K Γ rMulA repD := by
  intro G H x y a b d Q e ra rb hF q
  unfold repD at hF
  split at hF
  · rename_i xs k
    obtain ⟨hl, rfl⟩ := if_some hF
    rw [Bool.and_eq_true] at hl
    obtain ⟨k1, k2⟩ := small_ok hl.1
    obtain ⟨a1, ws, rfl, h1, r1⟩ := ra.lst_inv
    obtain rfl := rb.int_inv
    refine .inl ⟨a1, k, ws, rfl, rfl, e.at h1 (nt_of rfl), by omega, by omega, by rw [r1.length]; exact ble_line hl.2, fun p hp => ?_⟩
    have f := Fr.new (o := .lst (List.replicate k.toNat ws).flatten) e hp
    exact q _ _ _ f (.lst upd_same ((rpl_rep r1 _).mono f.gg))
  · exact .inr (prim_mul G H x y _ _ d Q e ra rb hF q)
end
end Dm
end -- DmPrim
section -- DmFun
set_option Elab.async false
set_option linter.all false
set_option maxRecDepth 100000
namespace Dm
open PySem PySem.Spec PyProof.Rows L2
variable [Tbs]

/-! ### values that can be called -/
/-- a def's promise, from the known heap G on -/
def spG (K : PySem.W.Frag) (Γ : Gam) (G : Hp) (n : Nat) (mf : MF) : Sp := fun vs H Q E => vs.length = n ∧ ∃ G1 ds k kx, Ex G G1 ∧ Ex G1 H ∧ LamX.Tabs Tbs.T G1 ∧ RpL K Γ G1 vs ds ∧ mf ds k kx ∧
  (∀ d v G' H', k d → Fr H G1 G' H' → Rp K Γ G' v d → Q v H') ∧ (∀ x, kx x → ∀ cls d G' H', Fr H G1 G' H' → XRp K Γ G' cls d x → E cls d H')
theorem spG_D {K : PySem.W.Frag} {Γ : Gam} {G : Hp} {n : Nat} {mf : MF} {vs H Q E} (h : spG K Γ G n mf vs H Q E) : spD K Γ n mf vs H Q E := by
  obtain ⟨hl, G1, ds, k, kx, e1, e2, tb, r, hm, h1, h2⟩ := h
  exact ⟨hl, G1, ds, k, kx, e2, tb, r, hm, h1, h2⟩
theorem spG_mono {K : PySem.W.Frag} {Γ : Gam} {G G' : Hp} {n : Nat} {mf : MF} {vs H Q E} (e : Ex G G') (h : spG K Γ G' n mf vs H Q E) : spG K Γ G n mf vs H Q E := by
  obtain ⟨hl, G1, ds, k, kx, e1, e2, tb, r, hm, h1, h2⟩ := h
  exact ⟨hl, G1, ds, k, kx, e.trans e1, e2, tb, r, hm, h1, h2⟩
/-- v may be called with n things, and does as mf tells -/
def CallP (P : Program) (w : World) (K : PySem.W.Frag) (mg : Str → Option Value) (Γ : Gam) (k : Nat) (base : Heap) (n : Nat) (mf : MF) : V → Hp → Prop := fun v G =>
  ∃ f, v = .ref f ∧ PySem.W.FnAt f base ∧ FnR P w K mg base (L2.CX P w) k f (spG K Γ G n mf)
theorem CallP.mono {P : Program} {w : World} {K : PySem.W.Frag} {mg : Str → Option Value} {Γ : Gam} {k : Nat} {base : Heap} {n : Nat} {mf : MF} {v : V} {G G' : Hp} (h : CallP P w K mg Γ k base n mf v G) (e : Ex G G') : CallP P w K mg Γ k base n mf v G' := by
  obtain ⟨f, e1, fa, F⟩ := h
  exact ⟨f, e1, fa, F.imp fun _ _ _ _ q => spG_mono e q⟩
theorem CallP.rp {P : Program} {w : World} {K : PySem.W.Frag} {mg : Str → Option Value} {Γ : Gam} {k : Nat} {base : Heap} {n : Nat} {mf : MF} {v : V} {G : Hp} (h : CallP P w K mg Γ k base n mf v G) : Rp K Γ G v (.opq (CallP P w K mg Γ k base n mf)) := .opq fun _ e => h.mono e
abbrev CPt := Nat → MF → V → Hp → Prop
/-- f(..), f a local name -/
def mCallV (cp : CPt) (i : Nat) (m : MA) : MD := fun ss k kx => match ss[i]? with
  | some (.d (.opq φ)) => ∃ n mf, (∀ v G, φ v G → cp n mf v G) ∧ m ss (fun ds s => guard (Nat.beq ds.length n) (mf ds (fun d => k d s) kx)) kx
  | _ => False
def mCallV0 (cp : CPt) (i : Nat) : MD := fun ss k kx => match ss[i]? with
  | some (.d (.opq φ)) => ∃ mf, (∀ v G, φ v G → cp 0 mf v G) ∧ mf [] (fun d => k d ss) kx
  | _ => False
section
variable {X : Cx} {Γ : Gam} {W : WX} {pos : Pos}
theorem fnAt_base {pins : List (Addr × Obj)} {σ : L2.St} {H : Hp} {s : Shared} {f : Addr} (I : Inv X pins σ H s) (h : PySem.W.FnAt f X.base) : PySem.W.FnAt f s.heap := by
  obtain ⟨oc, od, fd, sl, e⟩ := h
  exact ⟨oc, od, fd, sl, I.bk _ _ e⟩
theorem run_V {k n : Nat} {mf : MF} {pins : List (Addr × Obj)} {σ : L2.St} {G H : Hp} {s : Shared} {Q : VK} {us : List Value} {vs : List V} {f : Addr} (c : Cz X W) (hc : CallP X.prog X.w X.K X.mg Γ k X.base n mf (.ref f) G) (hr : Room k X.A) (I : Inv X pins σ H s) (r : Vals vs us)
    (h : spG X.K Γ G n mf vs H Q (WE W σ)) : wpAny (model X.prog X.w) X.A (call (.ref f) us) (EP X pins σ Q) X.xe s := by
  obtain ⟨f', e1, fa, F⟩ := hc
  cases e1
  refine wpAny_call (codeAny_mono (F X.A X.stack s H us vs Q (WE W σ) hr I.env0 r h) fun r s' hq => ?_)
  cases r with
  | error e => exact passAt c.tk σ pins H s e s' I hq
  | ok fl =>
    cases fl with
    | ret u => exact I.after hq
    | next => exact False.elim hq
    | brk => exact False.elim hq
    | cont => exact False.elim hq
theorem d_callV (c : Cz X W) (i : Nat) {k : Nat} {x : Str} {p : Pos} {e : Expr} {es : List Expr} {m : MA} (hr : Room k X.A) (ha : PA X (e :: es) (ra X Γ W m)) (hN : X.N[i]? = some x := by rfl) (hv : Vis X.env.scope x := by first | exact Or.inl rfl | exact Or.inr (Or.inl rfl) | exact Or.inr (Or.inr rfl))
    (hdb : (x == ("__debug__" : Str)) = false := by decide) (hcd : (x == ("__classdict__" : Str)) = false := by decide) (he : starEach (e :: es) X.env = (false, eval e X.env) :: starEach es X.env := by rfl) (hpl : (backTo pos (starEach es X.env)).any (·.1) = false := by rfl) :
    PE X (.Call (.Name x p) (e :: es) [] pos) (rd X Γ W (mCallV (CallP X.prog X.w X.K X.mg Γ k X.base) i m)) := by
  refine ⟨fun pins s σ H Q I h => ?_⟩
  obtain ⟨H0, G0, G, ss, kk, kx, st, hx, hm, hk⟩ := h
  unfold mCallV at hm
  split at hm
  · rename_i φ e0
    obtain ⟨o, ho, v, ev, rv⟩ := st.sl i _ e0
    subst ev
    obtain ⟨n, mf, hc, hm⟩ := hm
    have hφ : ∀ G', Ex G G' → φ v G' := by
      cases rv with
      | opq h => exact h
    obtain ⟨f, rfl, fa, _⟩ := hc v G (hφ G (Ex.refl _))
    refine wpAny_Call_Name_kw (thn ((pe_var (pos := p) hN hv hdb hcd).run pins s σ H (fun v1 H1 => v1 = .ref f ∧ H1 = H) I ⟨.ref f, ho, rfl, rfl⟩) fun u s1 ⟨v1, H1, I1, r1, q1, q2⟩ => ?_)
    subst q1 q2
    obtain rfl : u = .ref f := r1
    refine PySem.W.callWith_F (fnAt_base I1 fa) (thn (ha.run pos pins s1 σ _ (fun vs H2 => ∃ G2, Ex G G2 ∧ spG X.K Γ G2 n mf vs H2 Q (WE W σ)) I1 ⟨H0, G0, G, ss, _, kx, st, hx, hm, fun ds s2 vs G2 H2 h2 e2 st2 r2 => ?_⟩) fun us s2 ⟨vs, H2, I2, r2, G2, e2, q2⟩ => ⟨fnAt_base I2 fa, ?_⟩) he hpl
    · obtain ⟨hl, h3⟩ := guard_ok h2
      refine ⟨G2, e2, by rw [r2.length]; exact Nat.eq_of_beq_eq_true hl, G2, ds, _, kx, Ex.refl _, st2.gh, fun p hp => st2.gg.ts p hp (st2.tbs p hp), r2, h3, fun d v G3 H3 h4 f3 r3 => hk d s2 v G3 H3 h4 (e2.trans f3.gg) (st2.le f3) r3, fun x hkx cls d G3 H3 f3 r3 => ?_⟩
      exact hx x hkx cls d σ G3 H3 (st2.toFr.step f3) r3
    · exact run_V c (hc _ G2 (hφ G2 e2)) hr I2 r2 q2
  · exact hm.elim
theorem d_callV0 (c : Cz X W) (i : Nat) {k : Nat} {x : Str} {p : Pos} (hr : Room k X.A) (hN : X.N[i]? = some x := by rfl) (hv : Vis X.env.scope x := by first | exact Or.inl rfl | exact Or.inr (Or.inl rfl) | exact Or.inr (Or.inr rfl))
    (hdb : (x == ("__debug__" : Str)) = false := by decide) (hcd : (x == ("__classdict__" : Str)) = false := by decide) :
    PE X (.Call (.Name x p) [] [] pos) (rd X Γ W (mCallV0 (CallP X.prog X.w X.K X.mg Γ k X.base) i)) := by
  refine ⟨fun pins s σ H Q I h => ?_⟩
  obtain ⟨H0, G0, G, ss, kk, kx, st, hx, hm, hk⟩ := h
  unfold mCallV0 at hm
  split at hm
  · rename_i φ e0
    obtain ⟨o, ho, v, ev, rv⟩ := st.sl i _ e0
    subst ev
    obtain ⟨mf, hc, hm⟩ := hm
    have hφ : ∀ G', Ex G G' → φ v G' := by
      cases rv with
      | opq h => exact h
    have cp := hc v G (hφ G (Ex.refl _))
    obtain ⟨f, rfl, fa, F⟩ := id cp
    refine wpAny_Call_Name_kw (thn ((pe_var (pos := p) hN hv hdb hcd).run pins s σ H (fun v1 H1 => v1 = .ref f ∧ H1 = H) I ⟨.ref f, ho, rfl, rfl⟩) fun u s1 ⟨v1, H1, I1, r1, q1, q2⟩ => ?_)
    subst q1 q2
    obtain rfl : u = .ref f := r1
    refine PySem.W.callWith_F0 (fnAt_base I1 fa) ?_
    refine run_V (us := []) (vs := []) c cp hr I1 .nil ⟨rfl, G, [], _, kx, Ex.refl _, st.gh, fun p hp => st.gg.ts p hp (st.tbs p hp), .nil, hm, fun d v G3 H3 h4 f3 r3 => hk d ss v G3 H3 h4 f3.gg (st.le f3) r3, fun x hkx cls d G3 H3 f3 r3 => hx x hkx cls d σ G3 H3 (st.toFr.step f3) r3⟩
  · exact hm.elim
/-- a def's name as a value -/
theorem callP_fn {P : Program} {w : World} {K : PySem.W.Frag} {mg : Str → Option Value} {base : Heap} {k n : Nat} {f : Addr} {fd : FuncData} {ps : List Str} {mf : MF} (hK : K.In base) (hlk : ∃ oc od sl, K.lookup f = some ⟨oc, od, .func fd, sl⟩) (F : FnOk P w K mg base (L2.CX P w) k f fd ps (spD K Γ n mf)) (hb : Binds K fd ps []) (G : Hp) :
    CallP P w K mg Γ k base n mf (.ref f) G := by
  obtain ⟨oc, od, sl, e⟩ := hlk
  refine ⟨f, rfl, ⟨oc, od, fd, sl, hK _ _ e⟩, (F.raw hb (dvs := []) .nil).imp fun vs H Q E q => ?_⟩
  rw [List.append_nil]
  exact spG_D q
theorem d_fnV {x : Str} {k n : Nat} {f : Addr} {mf : MF} (hcp : ∀ G, CallP X.prog X.w X.K X.mg Γ k X.base n mf (.ref f) G) (hm : X.mg x = some (.ref f)) (hg : Gl X x := by rfl) (hd : (x == ("__debug__" : Str)) = false := by decide) :
    PE X (.Name x pos) (rd X Γ W (mC (.opq (CallP X.prog X.w X.K X.mg Γ k X.base n mf)))) := d_glob (v := .ref f) hg hm rfl (fun G => (hcp G).rp) hd
end
end Dm
end -- DmFun
section -- DmLam
set_option Elab.async false
set_option linter.all false
set_option maxRecDepth 100000
namespace Dm
open PySem PySem.Spec PyProof.Rows L2
variable [Tbs]

/-! ### a base with some objects more -/
def hideB (base : Heap) (keep : List Addr) : Hp := fun b => if (base.get? b).isSome || keep.contains b then none else some (.own 0)
def more (base h : Heap) (keep : List Addr) : Heap := hidT h (hideB base keep)
section
variable {base h : Heap} {keep : List Addr} {b : Addr} {o : Obj}
theorem more_base (k : ∀ b o, base.get? b = some o → h.get? b = some o) (e : base.get? b = some o) : (more base h keep).get? b = some o := hidT_get (k b o e) (by
  unfold hideB
  rw [e]
  rfl)
theorem more_keep (hb : b ∈ keep) (e : h.get? b = some o) : (more base h keep).get? b = some o := hidT_get e (by
  unfold hideB
  rw [List.contains_iff_mem.mpr hb, Bool.or_true]
  rfl)
theorem of_more (e : (more base h keep).get? b = some o) : h.get? b = some o ∧ ((base.get? b).isSome = true ∨ b ∈ keep) := by
  obtain ⟨e1, e2⟩ := of_hidT e
  refine ⟨e1, ?_⟩
  unfold hideB at e2
  split at e2
  · rename_i q
    rcases Bool.or_eq_true_iff.mp q with q | q
    · exact .inl q
    · exact .inr (List.contains_iff_mem.mp q)
  · cases e2
theorem funFrames_to {h base B : Heap} : ∀ {l : List Env}, h.FunFrames base l → (∀ L ∈ frs l, B.get? L = none) → h.FunFrames B l
  | [], _, _ => trivial
  | env :: r, ⟨hk, ⟨L, o, hf, hn, ho, hd⟩, hr⟩, k => by
    have e : frs (env :: r) = L :: frs r := by
      unfold frs
      rw [List.filterMap_cons, hf]
    rw [e] at k
    exact ⟨hk, ⟨L, o, hf, k L List.mem_cons_self, ho, hd⟩, funFrames_to hr fun L' h' => k L' (List.mem_cons_of_mem _ h')⟩
end

/-! ### a lambda is made -/
section
variable {X : Cx} {pins : List (Addr × Obj)} {σ : L2.St} {H : Hp} {s : Shared}
theorem lam_make3 {c P : Addr} {params : Arguments} {body : Expr} {scope : Scope} {pos : Pos} {E : Value → Shared → Prop} {Q : Value → Shared → Prop} (I : Inv X pins σ H s) (TB : LamX.TabB X.base X.mg c P) (hcode : X.env.code = .ref c)
    (hm : (P, X.env.qual ++ "<lambda>") ∈ Tbs.T) (hu : ∀ p ∈ Tbs.T, p.1 = P → p.2 = X.env.qual ++ "<lambda>") (hT : LamX.Tabs Tbs.T H) (hdef : defaultsOf params X.env = ([], [])) (hfree : ∀ y ∈ scope.names, y.2 = .free → ∃ c, X.env.cells.lookup y.1 = some c)
    (h : ∀ (f c' : Addr) (pm ctv : Value) (H1 : Hp) (s' : Shared), Inv X pins σ H1 s' → Ex H H1 →
      s'.heap.get? f = some (PySem.W.kla_obj "<lambda>" (X.env.qual ++ "<lambda>") params body scope (cloFrom X.env.cells scope.names []) pm c' ctv) → H1 f = none → f ∉ frs X.stack → H1 c' = some (LamX.CodeO c' (X.env.qual ++ "<lambda>")) → Q (.ref f) s') :
    wpAny (model X.prog X.w) X.A (eval (.Lambda params body scope pos) X.env) Q E s := by
  obtain ⟨ps, hP, ht, ha⟩ := hT _ hm
  refine PySem.W.kla_eval hdef ?_
  have bP : s.heap.BuiltinsAt X.mg P := TB.bm.keeps I.bk
  have hP' : s.heap.get? P = some { cls := .none, data := .fields ps } := I.hok P _ hP
  have nofr : ∀ f, s.heap.objs.size ≤ f → f ∉ frs X.stack := fun f hf z => by
    rcases List.mem_cons.mp (I.stkSub _ z) with e | e
    · have h1 := I.lt
      rw [← e] at h1
      exact Nat.lt_irrefl _ (Nat.lt_of_lt_of_le h1 hf)
    · exact I.nofs hf e
  cases hc : codeAmong pos ps.toList with
  | none =>
    refine PySem.W.kla_makeFunction (mg := X.mg) (c := c) (P := P) (ps := ps) (closure_ok hfree) I.ok.glob (I.mod.glob.keeps I.bk) hcode (TB.code.keeps I.bk) hP' ht hc TB.gP bP fun c' ctv h' tk hx hge hlt hrec htb => ?_
    obtain ⟨c2, oc, vs, t, e2, hoc, hd, hv⟩ := hrec
    cases e2
    have hsz : s.heap.objs.size ≤ h'.objs.size := Nat.le_trans hge (Nat.le_of_lt hlt)
    have nC : H c' = none := I.hok.fresh hge
    have I1 := LamX.inv_table (t' := tk) (more := #[rawInt pos.line, rawInt pos.col, .ref c']) (h' := h'.push (PySem.W.kla_obj "<lambda>" (X.env.qual ++ "<lambda>") params body scope (cloFrom X.env.cells scope.names []) ((X.mg "__name__").getD .none) c' ctv)) I hP
      (fun b o hb e => Heap.get?_push_of_some _ (hx b o hb e)) (Heap.get?_push_of_some _ htb) hge ⟨oc, vs, t, Heap.get?_push_of_some _ hoc, hd, hv⟩
    have hk : ∀ b o, H b = some o → (∀ ps, o ≠ .tbl ps) → upd (upd H P (.tbl (ps ++ #[rawInt pos.line, rawInt pos.col, .ref c']))) c' (LamX.CodeO c' (X.env.qual ++ "<lambda>")) b = some o := fun b o e n => by
      have nP : b ≠ P := fun z => n ps (Option.some.inj (e.symm.trans (by rw [z]; exact hP)))
      rw [upd_ne (ne_of_none e nC), upd_ne nP]
      exact e
    have nPc : P ≠ c' := ne_of_none hP nC
    have eL : (ps ++ #[rawInt pos.line, rawInt pos.col, .ref c']).toList = ps.toList ++ [rawInt pos.line, rawInt pos.col, .ref c'] := by simp
    refine h h'.objs.size c' ((X.mg "__name__").getD .none) ctv _ _ I1 ⟨hk, fun b qs e => ?_, fun p hp tp => ?_⟩ (Heap.get?_push_size _ rfl) ?_ (nofr _ hsz) upd_same
    · by_cases hb : b = P
      · rw [hb, upd_ne nPc, upd_same]
        exact ⟨_, rfl⟩
      · rw [upd_ne (ne_of_none e nC), upd_ne hb]
        exact ⟨_, e⟩
    · obtain ⟨ps', a1, a2, a3⟩ := tp
      by_cases hb : p.1 = P
      · rw [hu p hp hb, hb]
        refine ⟨_, by rw [upd_ne nPc, upd_same], by rw [eL]; exact PySem.TriplesOk_snoc _ _ _ _ ht, fun p' cv hcv => ?_⟩
        rw [eL] at hcv
        rcases LamX.among_app _ ht hcv with z | z
        · obtain ⟨c0, e1, e2⟩ := ha p' cv z
          exact ⟨c0, e1, hk _ _ e2 LamX.codeO_ne⟩
        · exact ⟨c', z, upd_same⟩
      · refine ⟨ps', by rw [upd_ne (ne_of_none a1 nC), upd_ne hb]; exact a1, a2, fun p' cv hcv => ?_⟩
        obtain ⟨c0, e1, e2⟩ := a3 p' cv hcv
        exact ⟨c0, e1, hk _ _ e2 LamX.codeO_ne⟩
    · have n1 : h'.objs.size ≠ c' := Nat.ne_of_gt hlt
      have n2 : h'.objs.size ≠ P := Nat.ne_of_gt (Nat.lt_of_lt_of_le (Heap.lt_size hP') hsz)
      rw [upd_ne n1, upd_ne n2]
      exact I.hok.fresh hsz
  | some cv =>
    obtain ⟨c', e, hco⟩ := ha pos cv hc
    subst e
    refine PySem.W.kla_makeFunctionHit (mg := X.mg) (c := c) (P := P) (ps := ps) (closure_ok hfree) I.ok.glob (I.mod.glob.keeps I.bk) hcode (TB.code.keeps I.bk) hP' ht hc bP fun ctv h' tk hx hsz => ?_
    have I1 : Inv X pins σ H { s with heap := h'.push (PySem.W.kla_obj "<lambda>" (X.env.qual ++ "<lambda>") params body scope (cloFrom X.env.cells scope.names []) ((X.mg "__name__").getD .none) c' ctv), toks := tk } := I.kept fun b o e => Heap.get?_push_of_some _ (hx b o e)
    exact h h'.objs.size c' ((X.mg "__name__").getD .none) ctv H _ I1 (Ex.refl H) (Heap.get?_push_size _ rfl) (I.hok.fresh hsz) (nofr _ hsz) hco
end

/-! ### its names -/
theorem look_nodup {β : Type} : ∀ {l : List (Str × β)} {i : Nat} {y : Str} {u : β}, (l.map (·.1)).Nodup → l[i]? = some (y, u) → l.lookup y = some u
  | [], _, _, _, _, h => by simp at h
  | (k, v) :: r, 0, y, u, n, h => by
    simp at h
    obtain ⟨rfl, rfl⟩ := h
    simp [List.lookup_cons]
  | (k, v) :: r, i + 1, y, u, n, h => by
    have n' := List.nodup_cons.mp n
    have h' : r[i]? = some (y, u) := by simpa using h
    have hm := List.mem_of_getElem? h'
    have ne : ¬ y = k := fun e => n'.1 (List.mem_map.mpr ⟨_, hm, e⟩)
    rw [List.lookup_cons]
    have hb : (y == k) = false := beq_eq_false_iff_ne.mpr ne
    rw [hb]
    exact look_nodup n'.2 h'
structure LamP (sc scope : Scope) (ps : List Str) (N : List Str) (caps : List (Str × Nat)) : Prop where
  kind : scope.kind = .function
  co : scope.isCoroutine = false
  gen : scope.isGenerator = false
  own : ∀ y ∈ scope.names, y.2 ≠ .cell
  free : ∀ y ∈ scope.names, y.2 = .free → sc.names.lookup y.1 = some .cell ∨ sc.names.lookup y.1 = some .free
  par : ∀ y ∈ ps, scope.names.lookup y = some .local
  cap : ∀ q ∈ caps, scope.names.lookup q.1 = some .free ∧ N[q.2]? = some q.1
  nd : (ps ++ caps.map (·.1)).Nodup
def lamPB (sc scope : Scope) (ps : List Str) (N : List Str) (caps : List (Str × Nat)) : Bool :=
  decide (scope.kind = .function) && !scope.isCoroutine && !scope.isGenerator && (scope.names.all fun y => !decide (y.2 = .cell) && (!decide (y.2 = .free) || decide (sc.names.lookup y.1 = some .cell) || decide (sc.names.lookup y.1 = some .free))) &&
  (ps.all fun y => decide (scope.names.lookup y = some .local)) && (caps.all fun q => decide (scope.names.lookup q.1 = some .free) && decide (N[q.2]? = some q.1)) && decide ((ps ++ caps.map (·.1)).Nodup)
theorem lamP_by {sc scope : Scope} {ps : List Str} {N : List Str} {caps : List (Str × Nat)} (h : lamPB sc scope ps N caps = true) : LamP sc scope ps N caps := by
  unfold lamPB at h
  simp only [Bool.and_eq_true, Bool.or_eq_true, Bool.not_eq_true', decide_eq_true_eq, decide_eq_false_iff_not, List.all_eq_true] at h
  obtain ⟨⟨⟨⟨⟨⟨h1, h2⟩, h3⟩, h4⟩, h5⟩, h6⟩, h7⟩ := h
  refine ⟨h1, h2, h3, fun y hy => (h4 y hy).1, fun y hy e => ?_, h5, h6, h7⟩
  rcases (h4 y hy).2 with (z | z) | z
  · exact absurd e z
  · exact .inl z
  · exact .inr z
section
variable {X : Cx} {pins : List (Addr × Obj)} {σ : L2.St} {H HZ : Hp} {s s1 : Shared}
theorem LamP.has {scope : Scope} {ps : List Str} {caps : List (Str × Nat)} (L : LamP X.env.scope scope ps X.N caps) (ok : X.Ok) : ∀ y ∈ scope.names, y.2 = .free → ∃ c, X.env.cells.lookup y.1 = some c := fun y hy e => by
  rcases L.free y hy e with k | k
  · exact ok.has _ (.inl k)
  · exact ok.has _ (.inr k)
def lamC (X : Cx) (B : Heap) (A : Around) (outer : List Env) (s : Shared) (H : Hp) (E : XK) (scope : Scope) (f c' : Addr) (N : List Str) : Cx := { LamX.lamCx X A outer s H E scope f c' with base := B, N := N }
theorem lam_start3 {B : Heap} {A : Around} {outer : List Env} {E : XK} {scope : Scope} {f c' : Addr} {h₁ : Heap} {tk : Nat} {ps : List Str} {caps : List (Str × Nat)} {us : List Value} {vs cvs : List V} (I : Inv X pins σ H s) (L : LamP X.env.scope scope ps X.N caps) (e0 : Env0 X.prog X.w X.K X.mg B A outer s1 HZ) (hd : A.handled = none)
    (hns : h₁.Ns s1.heap.objs.size fun y => (ps.zip us).reverse.lookup y) (kp : ∀ b o, s1.heap.get? b = some o → h₁.get? b = some o) (rv : Vals vs us) (hl : vs.length = ps.length) (hcl : cvs.length = caps.length)
    (hcell : ∀ y c, (cloFrom X.env.cells scope.names []).lookup y = some c → ∃ v, B.IsCell c v) (hcap : ∀ (i : Nat) (q : Str × Nat) (v : V), caps[i]? = some q → cvs[i]? = some v → ∃ u c, RelV v u ∧ (cloFrom X.env.cells scope.names []).lookup q.1 = some c ∧ B.IsCell c (some u)) :
    Inv (lamC X B A outer s1 HZ E scope f c' (ps ++ caps.map (·.1))) [] (vs.map some ++ cvs.map some) HZ { s1 with heap := h₁, toks := tk } := by
  have hfree := L.has I.ok
  have cm : ∀ {y c}, (cloFrom X.env.cells scope.names []).lookup y = some c → X.env.cells.lookup y = some c := fun {y c} e => by
    rcases cloFrom_mem (PySem.mem_of_lookup e) with hm | ⟨h1, h2⟩
    · cases hm
    · obtain ⟨c1, hc⟩ := hfree _ h1 rfl
      have hc : X.env.cells.lookup y = some c1 := hc
      have e2 : c = c1 := by
        rw [h2, hc] <;> rfl
      rw [e2]
      exact hc
  have look : ∀ {y}, scope.names.lookup y = some .free → ∃ c, (cloFrom X.env.cells scope.names []).lookup y = some c := fun {y} hl => by
    have hy : (y, NameKind.free) ∈ scope.names := PySem.mem_of_lookup hl
    exact mem_lookup (cloFrom_has (cells := X.env.cells) (acc := []) hy)
  have cellK : ∀ {c : Addr} {v : Option Value}, B.IsCell c v → h₁.IsCell c v := fun {c v} ⟨o, ho, hd⟩ => ⟨o, kp _ _ (e0.bs _ _ ho).1, hd⟩
  have noA : ∀ b : Addr, b ∉ (lamC X B A outer s1 HZ E scope f c' (ps ++ caps.map (·.1))).ex := fun b z => absurd (show b ∈ ([] : List Addr) from z) (by simp)
  refine ⟨⟨e0.mod, L.kind, rfl, rfl, Nat.le_refl _, fun y z c e1 e2 => I.ok.inj y z c (cm e1) (cm e2), fun y hy => ?_, fun y c z _ => ?_, fun _ => hd, Around.frames_deeper e0.frames, .inr ⟨rfl, rfl⟩, fun b z => absurd z (noA b), e0.bs, e0.bsz, fun b _ _ => noA b,
      fun b z => absurd z (noA b), e0.funs, e0.frf⟩,
    rfl, e0.bare, Un.kept kp, ⟨_, hns, fun i y v e1 e2 e3 => ?_⟩, fun y c e => ?_, e0.hok.fresh (Nat.le_refl _), fun y c e => ?_, fun q hq => absurd (show q ∈ ([] : List (Addr × Obj)) ++ [] from hq) (by simp), e0.hok.kept kp, ?_⟩
  · have hy : scope.names.lookup y = some .cell ∨ scope.names.lookup y = some .free := hy
    rcases hy with hy | hy
    · exact absurd rfl (L.own _ (PySem.mem_of_lookup hy))
    · exact look hy
  · have z : false = true := z
    cases z
  · have e1 : (ps ++ caps.map (·.1))[i]? = some y := e1
    by_cases hi : i < ps.length
    · rw [List.getElem?_append_left hi] at e1
      rw [List.getElem?_append_left (by simpa [hl] using hi), List.getElem?_map] at e2
      cases ev : vs[i]? with
      | none => rw [ev] at e2; cases e2
      | some v1 =>
        rw [ev] at e2
        cases e2
        obtain ⟨u, hu, r⟩ := rv.get ev
        refine ⟨u, r, .inl ⟨L.par y (List.mem_of_getElem? e1), ?_⟩⟩
        show (ps.zip us).reverse.lookup y = some u
        have ndp : ps.Nodup := (List.nodup_append.mp L.nd).1
        have hlen : ps.length = us.length := by rw [← rv.length, hl]
        have nd : ((ps.zip us).map (·.1)).Nodup := by
          rw [List.map_fst_zip (Nat.le_of_eq hlen)]
          exact ndp
        rw [lookup_reverse_of_nodup _ nd]
        have hz : (ps.zip us)[i]? = some (y, u) := by
          rw [List.getElem?_zip_eq_some]
          exact ⟨e1, hu⟩
        exact look_nodup nd hz
    · have hi' : ps.length ≤ i := Nat.le_of_not_lt hi
      rw [List.getElem?_append_right hi', List.getElem?_map] at e1
      rw [List.getElem?_append_right (by simpa [hl] using hi'), List.getElem?_map, List.length_map, hl] at e2
      cases eq : caps[i - ps.length]? with
      | none => rw [eq] at e1; cases e1
      | some q =>
        rw [eq] at e1
        cases e1
        cases ev : cvs[i - ps.length]? with
        | none => rw [ev] at e2; cases e2
        | some v1 =>
          rw [ev] at e2
          cases e2
          obtain ⟨u, c, r, h1, h2⟩ := hcap _ q v eq ev
          exact ⟨u, r, .inr ⟨.inr (L.cap q (List.mem_of_getElem? eq)).1, c, h1, cellK h2⟩⟩
  · obtain ⟨w', z⟩ := hcell y c e
    exact ⟨w', cellK z⟩
  · obtain ⟨v, o, ho, hd⟩ := hcell y c e
    exact (e0.bs _ _ ho).2
  · show _ = (ps ++ caps.map (·.1)).length
    rw [List.length_append, List.length_append, List.length_map, List.length_map, List.length_map, hl, hcl]
end
end Dm
namespace Dm
open PySem PySem.Spec PyProof.Rows L2
variable [Tbs]
/-! ### f(.., lambda ..: ..) -/
def capOk (ss : List SV) : List Nat → Option (List D)
  | [] => some []
  | j :: js => match ss[j]?, capOk ss js with
    | some (.d x), some xs => some (x :: xs)
    | _, _ => none
/-- the lambda's body, behind its captured things -/
def mfLam (me : MD) (xs : List D) : MF := fun ds kr kx => me (ds.map SV.d ++ xs.map SV.d) (fun d _ => kr d) kx
abbrev cpOf (P : Program) (w : World) (K : PySem.W.Frag) (mg : Str → Option Value) (Γ : Gam) (B : Heap) : Nat → CPt := fun k => CallP P w K mg Γ k B
def mLam (nl kl : Nat) (js : List Nat) (me : (Nat → CPt) → MD) (mfo : (Nat → CPt) → MF) (ds : List D) (k : D → List SV → Prop) (kx : XD → Prop) (ss : List SV) : Prop :=
  lift (capOk ss js) fun xs => ∀ cp : Nat → CPt, mfo cp (ds ++ [.opq (cp kl nl (mfLam (me cp) xs))]) (fun d => k d ss) kx
section
variable {P : Program} {w : World} {K : PySem.W.Frag} {Γ : Gam} {H0 G0 G H : Hp} {σ : L2.St} {ss : List SV}
theorem cap_get (st : StR P w K Γ H0 G0 G H σ ss) : ∀ {js : List Nat} {xs : List D}, capOk ss js = some xs → ∃ cvs, RpL K Γ G cvs xs ∧ cvs.length = js.length ∧ ∀ (i j : Nat) (v : V), js[i]? = some j → cvs[i]? = some v → σ[j]? = some (some v)
  | [], xs, h => by
    cases h
    exact ⟨[], .nil, rfl, fun i j v e => by simp at e⟩
  | j :: js, xs, h => by
    unfold capOk at h
    split at h
    · rename_i x ys h1 h2
      cases h
      obtain ⟨cvs, r, hl, hi⟩ := cap_get st h2
      obtain ⟨o, ho, v, rfl, rv⟩ := st.sl j _ h1
      refine ⟨v :: cvs, .cons rv r, by simp [hl], fun i j' v' e1 e2 => ?_⟩
      cases i with
      | zero =>
        simp at e1 e2
        subst e1 e2
        exact ho
      | succ i => exact hi i j' v' (by simpa using e1) (by simpa using e2)
    · cases h
theorem str_data {vs : List V} {ds : List D} (e : Ex G H) (tb : LamX.Tabs Tbs.T G) (r : RpL K Γ G vs ds) : StR P w K Γ H G G H (vs.map some) (ds.map SV.d) := by
  have at_ : ∀ {i : Nat} {s : SV}, (ds.map SV.d)[i]? = some s → ∃ o, (vs.map some)[i]? = some o ∧ SlotR P w K Γ G G G o s ∧ s.own = false := fun {i s} h => by
    have := rpl_start (P := P) (w := w) (m := 0) (i := i) (s := s) r (by simpa using h)
    simpa using this
  refine ⟨Fr.refl e, by rw [List.length_map, List.length_map, r.length], fun i s h => ?_, fun i j s t a e1 _ o1 _ _ _ => ?_, tb⟩
  · obtain ⟨o, h1, h2, h3⟩ := at_ h
    exact ⟨o, h1, h2.plain h3⟩
  · obtain ⟨o, _, _, h3⟩ := at_ e1
    rw [h3] at o1
    cases o1
end
section
variable {X : Cx} {Γ : Gam} {W : WX} {pins : List (Addr × Obj)} {σ : L2.St} {H : Hp} {s : Shared} {pos : Pos}
theorem lam_core (c : Cz X W) {H0 G0 G : Hp} {ss : List SV} {kx : XD → Prop} {k : D → List SV → Prop} {Q : VK} {vs : List V} {us : List Value} {ds : List D} {cc TP : Addr} {params : Arguments} {body : Expr} {scope : Scope} {lpos : Pos} {ps : List Str} {caps : List (Str × Nat)} {kf kl kb n : Nat} {g : Addr} {fdg : FuncData} {psg : List Str}
    {me : (Nat → CPt) → MD} {mfo : (Nat → CPt) → MF} (TB : LamX.TabB X.base X.mg cc TP) (hcode : X.env.code = .ref cc) (hm : (TP, X.env.qual ++ "<lambda>") ∈ Tbs.T) (hu : ∀ p ∈ Tbs.T, p.1 = TP → p.2 = X.env.qual ++ "<lambda>") (hdef : defaultsOf params X.env = ([], []))
    (L : LamP X.env.scope scope ps X.N caps) (hfnX : ∀ x, X.fn x = true) (hkl : kb + 1 ≤ kl) (hr : Room kf X.A)
    (hbind : ∀ (q : Str) (cl : List (Str × Addr)) (pm cv ctv : Value) (us : List Value), us.length = ps.length → bindArgs (PySem.W.kla_fn "<lambda>" q params body scope cl pm cv ctv) ⟨us, []⟩ = pure (ps.zip us))
    (hbody : ∀ (B : Heap), (∀ b o, X.base.get? b = some o → B.get? b = some o) → ∀ (A : Around) (outer : List Env) (s : Shared) (H : Hp) (E : XK) (f c' : Addr), Room kb (A.deeper (LamX.lamEnv X scope s.heap.objs.size f c')) → Cz (lamC X B A outer s H E scope f c' (ps ++ caps.map (·.1))) (WEk E) →
      PE (lamC X B A outer s H E scope f c' (ps ++ caps.map (·.1))) body (rd (lamC X B A outer s H E scope f c' (ps ++ caps.map (·.1))) Γ (WEk E) (me (cpOf X.prog X.w X.K X.mg Γ B))))
    (hF : ∀ B : Heap, (∀ b o, X.base.get? b = some o → B.get? b = some o) → FnOk X.prog X.w X.K X.mg B (L2.CX X.prog X.w) kf g fdg psg (spD X.K Γ n (mfo (cpOf X.prog X.w X.K X.mg Γ B)))) (hbg : Binds X.K fdg psg [])
    (I : Inv X pins σ H s) (st : StR X.prog X.w X.K Γ H0 G0 G H σ ss) (hx : XOk X.K Γ H0 G0 W kx) (rv : RpL X.K Γ G vs ds) (ru : Vals vs us) (hn : ds.length + 1 = n) (hmm : mLam ps.length kl (caps.map (·.2)) me mfo ds k kx ss)
    (hk : ∀ d ss' v G' H', k d ss' → Ex G G' → StR X.prog X.w X.K Γ H0 G0 G' H' σ ss' → Rp X.K Γ G' v d → Q v H') :
    wpAny (model X.prog X.w) X.A (eval (.Lambda params body scope lpos) X.env) (fun u s1 => X.K.In s1.heap ∧ wpAny (model X.prog X.w) X.A (call (.ref g) (us ++ [u])) (EP X pins σ Q) X.xe s1) X.xe s := by
  have tbH : LamX.Tabs Tbs.T H := fun p hp => st.gh.ts p hp (st.gg.ts p hp (st.tbs p hp))
  have tbG : LamX.Tabs Tbs.T G := fun p hp => st.gg.ts p hp (st.tbs p hp)
  obtain ⟨xs, hcap, hmm⟩ := lift_some hmm
  refine lam_make3 I TB hcode hm hu tbH hdef (L.has I.ok) fun f c' pm' ctv H1 s' I1 eH hf hfn hfr hco => ?_
  -- the code object is known
  let G1 : Hp := fun b => if b = c' then some (LamX.CodeO c' (X.env.qual ++ "<lambda>")) else G b
  have g1c : G1 c' = some (LamX.CodeO c' (X.env.qual ++ "<lambda>")) := if_pos rfl
  have g1n : ∀ b, b ≠ c' → G1 b = G b := fun b hb => if_neg hb
  have kG : ∀ b o, G b = some o → (∀ ps, o ≠ .tbl ps) → G1 b = some o := fun b o e nt => by
    by_cases hb : b = c'
    · have e2 := eH.k _ _ (st.gh.k _ _ e nt) nt
      rw [hb] at e2 ⊢
      rw [hco] at e2
      rw [g1c, e2]
    · rw [g1n b hb]
      exact e
  have ntc : ∀ b ps, G b = some (.tbl ps) → b ≠ c' := fun b ps e z => by
    obtain ⟨p1, e1⟩ := st.gh.tb _ _ e
    obtain ⟨p2, e2⟩ := eH.tb _ _ e1
    rw [z, hco] at e2
    exact LamX.codeO_ne _ (Option.some.inj e2)
  have eG : Ex G G1 := ⟨kG, fun b ps e => ⟨ps, by rw [g1n b (ntc b ps e)]; exact e⟩, fun p hp ⟨ps, h1, h2, h3⟩ => ⟨ps, by rw [g1n _ (ntc _ ps h1)]; exact h1, h2, fun pos cv hc => by
    obtain ⟨c0, e1, e2⟩ := h3 pos cv hc
    exact ⟨c0, e1, kG _ _ e2 LamX.codeO_ne⟩⟩⟩
  have eG1 : Ex G1 H1 := ⟨fun b o e nt => by
    by_cases hb : b = c'
    · rw [hb, g1c] at e
      rw [hb, hco, ← e]
    · rw [g1n b hb] at e
      exact eH.k _ _ (st.gh.k _ _ e nt) nt, fun b ps e => by
    have hb : b ≠ c' := fun z => by
      rw [z, g1c] at e
      exact LamX.codeO_ne _ (Option.some.inj e)
    rw [g1n b hb] at e
    obtain ⟨p1, e1⟩ := st.gh.tb _ _ e
    exact eH.tb _ _ e1, fun p hp _ => eH.ts p hp (tbH p hp)⟩
  have f1 : Fr H G G1 H1 := ⟨eG1, eH, eG, fun b o e => by
    by_cases hb : b = c'
    · rw [hb, g1c] at e
      exact .inr (.inr ⟨_, by rw [hb]; exact (Option.some.inj e).symm⟩)
    · rw [g1n b hb] at e
      exact .inl e⟩
  have st1 := st.le f1
  have tb1 : LamX.Tabs Tbs.T G1 := fun p hp => eG.ts p hp (tbG p hp)
  -- the base with the lambda and its cells
  have cm : ∀ {y cl}, (y, cl) ∈ cloFrom X.env.cells scope.names [] → X.env.cells.lookup y = some cl := fun {y cl} e => by
    rcases cloFrom_mem e with hm | ⟨h1, h2⟩
    · cases hm
    · obtain ⟨c1, hc⟩ := L.has I.ok _ h1 rfl
      have hc : X.env.cells.lookup y = some c1 := hc
      have e2 : cl = c1 := by
        rw [h2, hc] <;> rfl
      rw [e2]
      exact hc
  let keep : List Addr := f :: (cloFrom X.env.cells scope.names []).map (·.2)
  let B : Heap := more X.base s'.heap keep
  have nsB : ∀ {b : Addr} {m : Str → Option Value}, X.base.Ns b m → B.Ns b m := fun {b m} ⟨o, es, ep, e, d, r⟩ => ⟨o, es, ep, more_base I1.bk e, d, r⟩
  have hKB : X.K.In B := fun a o e => more_base I1.bk (I1.ok.mod.kin a o e)
  have hM : Mod X.K X.mg B := by
    obtain ⟨m1, m2, ⟨mb, m3, m4⟩, m5⟩ := I1.ok.mod
    exact ⟨hKB, nsB m2, ⟨mb, nsB m3, m4⟩, let ⟨mc, h1, h2⟩ := m5; ⟨mc, nsB h1, h2⟩⟩
  have keepN : ∀ b, b ∈ keep → H1 b = none := fun b hb => by
    rcases List.mem_cons.mp hb with e | hb
    · rw [e]; exact hfn
    · obtain ⟨⟨y, cl⟩, hq, rfl⟩ := List.mem_map.mp hb
      exact I1.freeC y cl (cm hq)
  have e0B : Env0 X.prog X.w X.K X.mg B X.A X.stack s' H1 := by
    refine ⟨I1.env0.frames, hM, fun b o e => ?_, Nat.le_of_eq (hidT_size _ _), funFrames_to I1.stack fun F hF => ?_, I1.env0.frf, I1.hok, I1.bare⟩
    · obtain ⟨h1, h2⟩ := of_more e
      refine ⟨h1, ?_⟩
      rcases h2 with h2 | h2
      · obtain ⟨o', ho'⟩ := Option.isSome_iff_exists.mp h2
        exact (I1.bs b o' ho').2
      · exact keepN b h2
    · cases e : B.get? F with
      | none => rfl
      | some o =>
        obtain ⟨h1, h2⟩ := of_more e
        exfalso
        rcases h2 with h2 | h2
        · rw [(I1.stack.mem hF).1] at h2
          cases h2
        · rcases List.mem_cons.mp h2 with z | h2
          · exact hfr (z ▸ hF)
          · obtain ⟨⟨y, cl⟩, hq, rfl⟩ := List.mem_map.mp h2
            have hcl := cm hq
            rcases List.mem_cons.mp (I1.stkSub _ hF) with z | z
            · exact I1.cne y cl hcl z
            · obtain ⟨_, o0, ho0, _⟩ := I1.ok.funs.mem z
              exact absurd (Nat.lt_of_lt_of_le (Heap.lt_size ho0) (I1.ok.cab y cl (hfnX y) hcl)) (Nat.lt_irrefl _)
  -- what is captured
  obtain ⟨cvs, rc, hcl, hci⟩ := cap_get st1 hcap
  have hcl' : cvs.length = caps.length := by rw [hcl, List.length_map]
  have hcell : ∀ y cl, (cloFrom X.env.cells scope.names []).lookup y = some cl → ∃ v, B.IsCell cl v := fun y cl e => by
    have hq := PySem.mem_of_lookup e
    obtain ⟨v, o, ho, hd⟩ := I1.cell y cl (cm hq)
    exact ⟨v, o, more_keep (List.mem_cons_of_mem _ (List.mem_map.mpr ⟨_, hq, rfl⟩)) ho, hd⟩
  have hcapV : ∀ (i : Nat) (q : Str × Nat) (v : V), caps[i]? = some q → cvs[i]? = some v → ∃ u cl, RelV v u ∧ (cloFrom X.env.cells scope.names []).lookup q.1 = some cl ∧ B.IsCell cl (some u) := fun i q v e1 e2 => by
    have hσ := hci i q.2 v (by rw [List.getElem?_map, e1]; rfl) e2
    obtain ⟨l1, l2⟩ := L.cap q (List.mem_of_getElem? e1)
    have hfr2 := PySem.mem_of_lookup l1
    have hvis := L.free _ hfr2 rfl
    obtain ⟨m, hns, hlk⟩ := I1.loc
    obtain ⟨u, r, lk⟩ := hlk q.2 q.1 v l2 hσ (hvis.elim (fun k => .inr (.inl k)) fun k => .inr (.inr k))
    obtain ⟨cl, hcl2⟩ := mem_lookup (cloFrom_has (cells := X.env.cells) (acc := []) hfr2)
    have hq := PySem.mem_of_lookup hcl2
    rcases lk with ⟨k', _⟩ | ⟨_, c3, e', o, ho, hd⟩
    · exfalso
      have k' : X.env.scope.names.lookup q.1 = some .local := k'
      rcases hvis with k2 | k2 <;> rw [show X.env.scope.names.lookup q.1 = _ from k2] at k' <;> cases k'
    · rw [cm hq] at e'
      cases e'
      exact ⟨u, cl, r, hcl2, o, more_keep (List.mem_cons_of_mem _ (List.mem_map.mpr ⟨_, hq, rfl⟩)) ho, hd⟩
  -- it can be called
  have cp : CallP X.prog X.w X.K X.mg Γ kl B ps.length (mfLam (me (cpOf X.prog X.w X.K X.mg Γ B)) xs) (.ref f) G1 := by
    refine ⟨f, rfl, ⟨_, _, _, _, more_keep List.mem_cons_self hf⟩, ?_⟩
    intro A outer s1 HZ us vs Q E hr e0 r hs
    obtain ⟨hl, G', ds', kr, kx', e1, e2, tb, rr, hm', h1, h2⟩ := hs
    have hcz : HZ c' = some (LamX.CodeO c' (X.env.qual ++ "<lambda>")) := (e1.trans e2).k _ _ g1c LamX.codeO_ne
    obtain ⟨⟨oc, vs', t, hoc, hdc, hvc⟩, _, _⟩ := e0.hok c' _ hcz
    have of1 := (e0.bs f _ (more_keep List.mem_cons_self hf)).1
    have hr1 : Room (kb + 1) A := hr.mono hkl
    refine PySem.W.kla_callFunE hr.depth of1 rfl L.co L.gen rfl ⟨c', oc, vs', t, rfl, hoc, hdc, hvc⟩ ?_
    rw [hbind _ _ _ _ _ us (by rw [← r.length]; exact hl)]
    refine wpAny_pure (wpAny_newFunctionEnv (fun y hy => L.own y hy) (fun y hy => L.par _ (List.of_mem_zip (show (y.1, y.2) ∈ ps.zip us from hy)).1) (fun h₁ hns hsb => ⟨(e0.mod.nolimit.keeps fun b o e => (e0.bs b o e).1).fresh _ hsb, ?_⟩) L.kind)
    show codeAny _ _ (.expr body (LamX.lamEnv X scope s1.heap.objs.size f c')) _ _
    have kp : ∀ b o, s1.heap.get? b = some o → h₁.get? b = some o := fun b o e => hsb.extBut b o (Nat.ne_of_lt (Heap.lt_size e)) (Heap.get?_push_of_some _ e)
    have J := lam_start3 (E := E) (f := f) (c' := c') (tk := s1.toks + (ps.zip us).length) I1 L e0 hr.hd hns kp r hl hcl' hcell hcapV
    have cz : Cz (lamC X B A outer s1 HZ E scope f c' (ps ++ caps.map (·.1))) (WEk E) := ⟨takes_of rfl rfl rfl rfl, rfl, L.nd, passes_of rfl⟩
    rw [← List.map_append] at J
    refine PySem.W.kla_codeExpr (wpAny_mono ((hbody B (fun _ _ e => more_base I1.bk e) A outer s1 HZ E f c' (hr1.deeper _) cz).run [] _ _ HZ Q J
      ⟨HZ, G', G', (ds' ++ xs).map SV.d, _, kx', str_data e2 tb (rr.append (rc.mono e1)), fun x hx cls d σ' G3 H3 f3 r3 => h2 x hx cls d G3 H3 f3 r3, by rw [List.map_append]; exact hm', fun d ss' v G3 H3 q e st3 r3 => h1 d v G3 H3 q st3.toFr r3⟩) (fun v s2 hq => ?_) fun e s2 hq => hq)
    obtain ⟨w', H', J', rv', q⟩ := hq
    exact ⟨w', H', J'.os, J'.bare, J'.base, J'.hok, rv', q⟩
  refine ⟨I1.kIn, ?_⟩
  have rf : RelV (.ref f) (.ref f) := rfl
  have rus : Vals (vs ++ [V.ref f]) (us ++ [Value.ref f]) := ru.append (.cons rf .nil)
  have hsp : spD X.K Γ n (mfo (cpOf X.prog X.w X.K X.mg Γ B)) (vs ++ [V.ref f]) H1 Q (WE W σ) := by
    refine ⟨by rw [List.length_append, rv.length]; exact hn, G1, ds ++ [.opq (CallP X.prog X.w X.K X.mg Γ kl B ps.length (mfLam (me (cpOf X.prog X.w X.K X.mg Γ B)) xs))], _, kx, eG1, tb1, (rv.mono eG).append (.cons cp.rp .nil), hmm (cpOf X.prog X.w X.K X.mg Γ B), fun d v G2 H2 q f2 r2 => hk d ss v G2 H2 q (eG.trans f2.gg) (st1.le f2) r2, fun x hkx cls d G2 H2 f2 r2 => ?_⟩
    exact hx x hkx cls d σ G2 H2 (st1.toFr.step f2) r2
  have FB := hF B fun _ _ e => more_base I1.bk e
  have hl2 : (us ++ [Value.ref f]).length = psg.length := by rw [← rus.length]; exact FB.len _ _ _ _ hsp
  have b := hbg s' (us ++ [.ref f]) I1.kIn (by rw [List.append_nil]; exact hl2)
  rw [List.append_nil] at b
  refine wpAny_call (codeAny_mono (FB.run X.A X.stack s' H1 ⟨us ++ [.ref f], []⟩ (us ++ [.ref f]) (vs ++ [.ref f]) Q (WE W σ) hr e0B b rus hsp) fun r s2 hq => ?_)
  cases r with
  | error e => exact passAt c.tk σ pins H1 s' e s2 I1 hq
  | ok fl =>
    cases fl with
    | ret u => exact I1.after hq
    | next => exact False.elim hq
    | brk => exact False.elim hq
    | cont => exact False.elim hq
end
end Dm
namespace Dm
open PySem PySem.Spec PyProof.Rows L2
variable [Tbs]
section
variable {X : Cx} {Γ : Gam} {W : WX} {pos : Pos}
def mLam0 (nl kl : Nat) (js : List Nat) (me : (Nat → CPt) → MD) (mfo : (Nat → CPt) → MF) : MD := fun ss k kx => mLam nl kl js me mfo [] k kx ss
def mLam1 (m : MD) (nl kl : Nat) (js : List Nat) (me : (Nat → CPt) → MD) (mfo : (Nat → CPt) → MF) : MD := fun ss k kx => m ss (fun d s => mLam nl kl js me mfo [d] k kx s) kx
/-- x(lambda ..: ..) -/
theorem d_callLam0 (c : Cz X W) {cc TP : Addr} {params : Arguments} {body : Expr} {scope : Scope} {lpos p : Pos} {ps : List Str} {caps : List (Str × Nat)} {kf kl kb : Nat} {x : Str} {g : Addr} {fdg : FuncData} {psg : List Str}
    {me : (Nat → CPt) → MD} {mfo : (Nat → CPt) → MF} (TB : LamX.TabB X.base X.mg cc TP) (hcode : X.env.code = .ref cc) (hm : (TP, X.env.qual ++ "<lambda>") ∈ Tbs.T) (hu : ∀ p ∈ Tbs.T, p.1 = TP → p.2 = X.env.qual ++ "<lambda>") (hdef : defaultsOf params X.env = ([], []))
    (L : LamP X.env.scope scope ps X.N caps) (hfnX : ∀ x, X.fn x = true) (hkl : kb + 1 ≤ kl) (hr : Room kf X.A)
    (hbind : ∀ (q : Str) (cl : List (Str × Addr)) (pm cv ctv : Value) (us : List Value), us.length = ps.length → bindArgs (PySem.W.kla_fn "<lambda>" q params body scope cl pm cv ctv) ⟨us, []⟩ = pure (ps.zip us))
    (hbody : ∀ (B : Heap), (∀ b o, X.base.get? b = some o → B.get? b = some o) → ∀ (A : Around) (outer : List Env) (s : Shared) (H : Hp) (E : XK) (f c' : Addr), Room kb (A.deeper (LamX.lamEnv X scope s.heap.objs.size f c')) → Cz (lamC X B A outer s H E scope f c' (ps ++ caps.map (·.1))) (WEk E) →
      PE (lamC X B A outer s H E scope f c' (ps ++ caps.map (·.1))) body (rd (lamC X B A outer s H E scope f c' (ps ++ caps.map (·.1))) Γ (WEk E) (me (cpOf X.prog X.w X.K X.mg Γ B))))
    (hF : ∀ B : Heap, (∀ b o, X.base.get? b = some o → B.get? b = some o) → FnOk X.prog X.w X.K X.mg B (L2.CX X.prog X.w) kf g fdg psg (spD X.K Γ 1 (mfo (cpOf X.prog X.w X.K X.mg Γ B)))) (hbg : Binds X.K fdg psg [])
    (hmg : X.mg x = some (.ref g)) (hkk : PySem.W.keepIn X.K (.ref g) = true) (hg : Gl X x := by rfl) (hdb : (x == ("__debug__" : Str)) = false := by decide) :
    PE X (.Call (.Name x p) [.Lambda params body scope lpos] [] pos) (rd X Γ W (mLam0 ps.length kl (caps.map (·.2)) me mfo)) := by
  refine ⟨fun pins s σ H Q I h => ?_⟩
  obtain ⟨H0, G0, G, ss, k, kx, st, hx, hmm, hk⟩ := h
  refine wpAny_Call_Name_kw (ld_glob I hg hmg ?_ hdb)
  refine PySem.W.callWith_K (h₀ := X.base) I.ok.mod.kin hkk ?_ (by rfl) (by rfl)
  show wpAny _ _ (spliced ((false, eval (.Lambda params body scope lpos) X.env) :: backTo pos (starEach [] X.env))) _ _ s
  refine Calls.spliced_cons (thn (lam_core (us := []) (vs := []) (ds := []) c TB hcode hm hu hdef L hfnX hkl hr hbind hbody hF hbg I st hx .nil .nil rfl hmm hk) fun u s1 hq => ?_)
  exact Calls.spliced_nil hq
/-- x(e, lambda ..: ..) -/
theorem d_callLam1 (c : Cz X W) {e : Expr} {m : MD} {cc TP : Addr} {params : Arguments} {body : Expr} {scope : Scope} {lpos p : Pos} {ps : List Str} {caps : List (Str × Nat)} {kf kl kb : Nat} {x : Str} {g : Addr} {fdg : FuncData} {psg : List Str}
    {me : (Nat → CPt) → MD} {mfo : (Nat → CPt) → MF} (he : PE X e (rd X Γ W m)) (TB : LamX.TabB X.base X.mg cc TP) (hcode : X.env.code = .ref cc) (hm : (TP, X.env.qual ++ "<lambda>") ∈ Tbs.T) (hu : ∀ p ∈ Tbs.T, p.1 = TP → p.2 = X.env.qual ++ "<lambda>") (hdef : defaultsOf params X.env = ([], []))
    (L : LamP X.env.scope scope ps X.N caps) (hfnX : ∀ x, X.fn x = true) (hkl : kb + 1 ≤ kl) (hr : Room kf X.A)
    (hbind : ∀ (q : Str) (cl : List (Str × Addr)) (pm cv ctv : Value) (us : List Value), us.length = ps.length → bindArgs (PySem.W.kla_fn "<lambda>" q params body scope cl pm cv ctv) ⟨us, []⟩ = pure (ps.zip us))
    (hbody : ∀ (B : Heap), (∀ b o, X.base.get? b = some o → B.get? b = some o) → ∀ (A : Around) (outer : List Env) (s : Shared) (H : Hp) (E : XK) (f c' : Addr), Room kb (A.deeper (LamX.lamEnv X scope s.heap.objs.size f c')) → Cz (lamC X B A outer s H E scope f c' (ps ++ caps.map (·.1))) (WEk E) →
      PE (lamC X B A outer s H E scope f c' (ps ++ caps.map (·.1))) body (rd (lamC X B A outer s H E scope f c' (ps ++ caps.map (·.1))) Γ (WEk E) (me (cpOf X.prog X.w X.K X.mg Γ B))))
    (hF : ∀ B : Heap, (∀ b o, X.base.get? b = some o → B.get? b = some o) → FnOk X.prog X.w X.K X.mg B (L2.CX X.prog X.w) kf g fdg psg (spD X.K Γ 2 (mfo (cpOf X.prog X.w X.K X.mg Γ B)))) (hbg : Binds X.K fdg psg [])
    (hmg : X.mg x = some (.ref g)) (hkk : PySem.W.keepIn X.K (.ref g) = true) (hg : Gl X x := by rfl) (hdb : (x == ("__debug__" : Str)) = false := by decide) (hs : starEach [e, .Lambda params body scope lpos] X.env = (false, eval e X.env) :: starEach [.Lambda params body scope lpos] X.env := by rfl) :
    PE X (.Call (.Name x p) [e, .Lambda params body scope lpos] [] pos) (rd X Γ W (mLam1 m ps.length kl (caps.map (·.2)) me mfo)) := by
  refine ⟨fun pins s σ H Q I h => ?_⟩
  obtain ⟨H0, G0, G, ss, k, kx, st, hx, hmm, hk⟩ := h
  refine wpAny_Call_Name_kw (ld_glob I hg hmg ?_ hdb)
  refine PySem.W.callWith_K (h₀ := X.base) I.ok.mod.kin hkk ?_ hs (by rfl)
  rw [hs]
  show wpAny _ _ (spliced ((false, eval e X.env) :: backTo pos (starEach [.Lambda params body scope lpos] X.env))) _ _ s
  refine Calls.spliced_cons (thn (he.run pins s σ H (fun v H1 => ∃ d s1 G1, mLam ps.length kl (caps.map (·.2)) me mfo [d] k kx s1 ∧ Ex G G1 ∧ StR X.prog X.w X.K Γ H0 G0 G1 H1 σ s1 ∧ Rp X.K Γ G1 v d) I ⟨H0, G0, G, ss, _, kx, st, hx, hmm, fun d s1 v G1 H1 h1 e1 st1 r1 => ⟨d, s1, G1, h1, e1, st1, r1⟩⟩) fun u s1 ⟨v, H1, I1, r1, d, s2, G1, h1, e1, st1, rp1⟩ => ?_)
  show wpAny _ _ (spliced ((false, eval (.Lambda params body scope lpos) X.env) :: backTo pos (starEach [] X.env))) _ _ s1
  refine Calls.spliced_cons (thn (lam_core (us := [u]) (vs := [v]) (ds := [d]) c TB hcode hm hu hdef L hfnX hkl hr hbind hbody hF hbg I1 st1 hx (.cons rp1 .nil) (.cons r1 .nil) rfl h1 fun d' ss' v' G' H' q e' => hk d' ss' v' G' H' q (e1.trans e')) fun u2 s3 hq => ?_)
  exact Calls.spliced_nil hq
end
end Dm
end -- DmLam
section -- DmExc
set_option Elab.async false
set_option linter.all false
set_option maxRecDepth 100000
namespace Dm
open PySem PySem.Spec PyProof.Rows L2
variable [Tbs]

section
variable {X : Cx} {pins : List (Addr × Obj)} {σ : L2.St} {H : Hp} {s : Shared}
/-- a pinned thing is tracked from now on -/
theorem inv_track {a : Addr} {o : Obj} {ho : HO} (I : Inv X ((a, o) :: pins) σ H s) (hd : ∃ vs, o.data = .fields vs) (n0 : X.s_0.heap.get? a = none) (hpn : ∀ p ∈ X.pn ++ pins, p.1 ≠ a) (hob : ObjOk X.prog X.w (upd H a ho) s.heap a ho) : Inv X pins σ (upd H a ho) s := by
  obtain ⟨vs, hd⟩ := hd
  obtain ⟨pa, pn, pl, pf, pc⟩ := I.pin (a, o) (List.mem_append_right _ List.mem_cons_self)
  have sub : ∀ p ∈ X.pn ++ pins, p ∈ X.pn ++ (a, o) :: pins := fun p hp => by
    rcases List.mem_append.mp hp with h | h
    · exact List.mem_append_left _ h
    · exact List.mem_append_right _ (List.mem_cons_of_mem _ h)
  have ne0 : ∀ b u, X.s_0.heap.get? b = some u → b ≠ a := fun b u e z => by
    rw [z, n0] at e
    cases e
  refine ⟨I.ok, I.os, I.bare, ⟨I.base.keep, I.base.slot, fun b u e n hx => ?_, I.base.there, fun b xs e => ?_, fun b u v e => ?_, fun b ps e => ?_⟩, I.loc, I.cell, ?_, fun x c e => ?_, fun p hp => ?_, fun b u e => ?_, I.len⟩
  · rw [upd_ne (ne0 b u e)]
    exact I.base.free b u e n hx
  · have q := I.base.tups b xs e
    rw [upd_ne (ne_of_none q pn)]
    exact q
  · have q := I.base.frzs b u v e
    rw [upd_ne (ne_of_none q pn)]
    exact q
  · obtain ⟨m, q⟩ := I.base.tbls b ps e
    exact ⟨m, by rw [upd_ne (ne_of_none q pn)]; exact q⟩
  · rw [upd_ne fun z => pl z.symm]
    exact I.free
  · have hc : c ≠ a := fun z => by
      obtain ⟨v, o', h1, h2⟩ := I.cell x c e
      rw [z, pa] at h1
      cases h1
      exact pc v h2
    rw [upd_ne hc]
    exact I.freeC x c e
  · obtain ⟨h1, h2, h3, h4, h5⟩ := I.pin p (sub p hp)
    exact ⟨h1, by rw [upd_ne (hpn p hp)]; exact h2, h3, h4, h5⟩
  · by_cases hb : b = a
    · rw [hb, upd_same] at e
      cases e
      rw [hb]
      exact hob
    · rw [upd_ne hb] at e
      refine (I.hok b u e).stay (fun c v _ q => q) (fun c q => ?_) fun c xs q => ?_
      · rw [upd_ne (ne_of_none q pn)]
        exact q
      · rw [upd_ne (ne_of_none q pn)]
        exact q
theorem inv_pinned {a : Addr} {q : Addr × Obj} {pn' : List (Addr × Obj)} (I : Inv (X.suite a (q :: (X.pn ++ pins))) pn' σ H s) (ok : X.Ok) : Inv X (q :: pins) σ H s :=
  ⟨ok, I.os, I.bare, I.base, I.loc, I.cell, I.free, I.freeC, fun p hp => I.pin p (by
    rcases List.mem_append.mp hp with h | h
    · exact List.mem_append_left _ (List.mem_cons_of_mem _ (List.mem_append_left _ h))
    · rcases List.mem_cons.mp h with h | h
      · rw [h]; exact List.mem_append_left _ List.mem_cons_self
      · exact List.mem_append_left _ (List.mem_cons_of_mem _ (List.mem_append_right _ h))), I.hok, I.len⟩
end
theorem excK_ok {P : Program} {w : World} {H : Hp} {h : Heap} {C a : Addr} {oe : Obj} (e : PySem.W.InstAt h a oe C none) : ObjOk P w H h a (ExK C a) := by
  refine ⟨⟨oe, e⟩, ⟨oe, e.1⟩, fun h1 h2 ⟨o, q⟩ k => ⟨o, ?_⟩⟩
  obtain ⟨q1, q2, q3, q4⟩ := q
  refine ⟨k _ q1, q2, q3, ?_⟩
  cases e : o.dict with
  | none => trivial
  | some dx =>
    rw [e] at q4
    exact q4.elim
theorem nt_ExK {C a : Addr} : NT (ExK C a) := by
  refine ⟨fun ps z => HO.noConfusion z, fun c q z => ?_⟩
  unfold ExK LamX.CodeO at z
  have e := HO.ext.inj z
  let o : Obj := { cls := .ref C, data := .fields #[] }
  let h : Heap := ⟨(List.replicate (a + c + 1) o).toArray, {}⟩
  have hc : ∀ b, b ≤ a + c → h.get? b = some o := fun b hb => by
    unfold Heap.get?
    have hb2 : b < a + c + 1 := Nat.lt_succ_of_le hb
    have e2 : (List.replicate (a + c + 1) o).toArray[b]? = some o := by
      simp [List.getElem?_replicate, hb2]
    show (match (List.replicate (a + c + 1) o).toArray[b]? with
      | some ⟨_, _, .freed, _⟩ => none
      | o => o) = some o
    rw [e2]
  have r := (congrFun e h).mp ⟨o, hc a (Nat.le_add_right a c), rfl, rfl, trivial⟩
  obtain ⟨oc, vs, t, h1, h2, h3⟩ := r
  rw [hc c (Nat.le_add_left c a)] at h1
  cases h1
  cases h2
  cases h3

/-! ### try: .. except X as e: kept = e -/
/-- what the clause wishes of an exception: i is e's slot, j is kept's -/
def wKeep (K : PySem.W.Frag) (CS : Value) (i j N : Nat) (Wout : WX) (D : Ends) : WX := fun cls d σ H =>
  ∃ b, PySem.W.exmOne K cls CS = some b ∧ (b = true → ∃ C, cls = .ref C ∧ d = none ∧ ∀ a, H a = none → σ.length = N → D.nx (((σ.set i (some (.ref a))).set j (some (.ref a))).set i none) (upd H a (ExK C a))) ∧ (b = false → Wout cls d σ H)
section
variable {X : Cx} {x n y : Str} {CS : Value} {i j : Nat} {body : List Stmt} {np ep yp ap pos pos' : Pos} {tb : WX → TS} {Wout : WX}
theorem ps_try_keep (hs : X.stack = X.env :: X.outer) (hf : X.env.frame = some X.env.locals) (hex : X.ex = []) (hN : X.N.Nodup) (hi : X.N[i]? = some n) (hj : X.N[j]? = some y) (hln : X.env.scope.names.lookup n = some .local) (hly : X.env.scope.names.lookup y = some .local) (hc : Names X x CS) (tk : Takes X Wout)
    (hb : ∀ (W : WX) (pn : List (Addr × Obj)) (xe : Value → Shared → Prop), Takes (X.tr pn xe) W → PassesOwn (model X.prog X.w) X.A X.env xe → PSs (X.tr pn xe) body (tb W))
    (hsw : ∀ env, swapsWith (.Name n ep) (some (.Name y yp)) ap.line env = pure false) (hnd : (n == ("__debug__" : Str)) = false) (hncd : (n == ("__classdict__" : Str)) = false) :
    PS X (.Try body [.ExceptHandler (some (.Name x np)) (some n) [.Assign [.Name y yp] (.Name n ep) ap] pos'] [] [] pos) (fun D σ H => tb (wKeep X.K CS i j X.N.length Wout D) D σ H) := by
  refine ⟨fun pins s σ H D I h => ?_⟩
  have ok := I.ok
  have hfr : X.A.frames = some (X.env :: X.outer) := by rw [ok.frames, hs]
  refine wpAny_Try_except ?_
  refine wpAny_mono ((hb (wKeep X.K CS i j X.N.length Wout D) (X.pn ++ pins) (fun e s₁ => wpAny (model X.prog X.w) X.A (noteFrame e X.env) (fun _ s₂ => wpAny (model X.prog X.w) X.A (setFlight e none) (fun _ s₃ =>
    wpAny (model X.prog X.w) X.A (handleBy e X.env [.ExceptHandler (some (.Name x np)) (some n) [.Assign [.Name y yp] (.Name n ep) ap] pos']) (SP X pins D) X.xe s₃) X.xe s₂) X.xe s₁) (fun u s' xx => ?_) PassesOwn.looking).run [] s σ H D (I.toTry _) h) (fun f s1 hsp => ?_) (fun e s1 he => he)
  · obtain ⟨a, B, sI, pins', σ', H', cls, d, rfl, J', nb, up, sky, na, os, ag, b, hb1, hyes, hno⟩ := xx
    have J : Inv X pins σ' H' sI := J'.ofTry ok
    have sky' : Sky B (X.env :: X.outer) a (Zc cls d) X.env.locals s'.heap := by rw [← hs]; exact sky
    show wpAny (model X.prog X.w) X.A (noteFrame (.ref a) X.env) _ _ _
    refine Sky.land Zc.steady hfr hf sky' fun h3 fl3 up3 => ?_
    have J3 : Inv X pins σ' H' { s' with heap := h3 } := J.landed nb fl3.1 (up.trans up3) os ag
    obtain ⟨oe3, vs3, he3, hz3, hd3⟩ := fl3.there
    have notFr : ∀ {h : Heap} {o : Obj} {vs : Array Value}, h.FunFrames B (X.env :: X.outer) → h.get? a = some o → o.data = .fields vs → a ∉ frs (X.env :: X.outer) := fun {h o vs} ff e dd hm => by
      obtain ⟨_, o', e', hnf⟩ := ff.mem hm
      rw [e] at e'; cases e'
      exact hnf _ dd
    have nfr := notFr fl3.2.2.1 he3 hd3
    have nL : a ≠ X.env.locals := fun z => nfr (List.mem_filterMap.mpr ⟨X.env, List.mem_cons_self, by rw [hf, z]⟩)
    have nF : a ∉ X.fs := fun hm => by
      obtain ⟨e, he, q⟩ := List.mem_filterMap.mp hm
      exact nfr (List.mem_filterMap.mpr ⟨e, List.mem_cons_of_mem _ he, q⟩)
    have nB : B.get? a = none := fl3.2.1
    have nI : ∀ b o, sI.heap.get? b = some o → b ∉ frs X.stack → b ≠ a := fun b o e hb z => by
      have q := nb b o e hb
      rw [z, nB] at q
      cases q
    have n0 : X.s_0.heap.get? a = none := by
      cases e : X.s_0.heap.get? a with
      | none => rfl
      | some o =>
        obtain ⟨o', e'⟩ := J.base.there a o e (by rw [hex]; exact fun z => nomatch z)
        exact absurd rfl (nI a o' e' (by rw [hs]; exact nfr))
    have hpn : ∀ p ∈ X.pn ++ pins, p.1 ≠ a := fun p hp => by
      obtain ⟨h1, _, h3, h4, _⟩ := J.pin p hp
      refine nI p.1 _ h1 fun z => ?_
      rcases List.mem_cons.mp (J.stkSub _ z) with z | z
      · exact h3 z
      · exact h4 z
    have S3 := J3.suite he3 hd3 na nL nF
    refine wpAny_handleBy_cons (codeAny_handlers_test ?_) (by intro q; cases q)
    have LT : PySem.W.Looks (model X.prog X.w) h3 (typeOf (.ref a)) cls := fun A Q E s k q => wpAny_typeOf_ref (k _ _ he3) (by rw [hz3.1]; exact q)
    have LM := PySem.W.exm_one (M := model X.prog X.w) (J3.kIn) LT hb1
    have test : ∀ {Q : Value → Shared → Prop} {E : Value → Shared → Prop}, Q CS { s' with heap := h3 } → wpAny (model X.prog X.w) (X.A.mark (some (.ref a))) (eval (.Name x np) X.env) Q E { s' with heap := h3 } := fun {Q E} q => by
      obtain ⟨hg, hdbg, hm | ⟨hm, hv, hnn⟩⟩ := hc
      · exact ld_glob (X := X.suite a ((a, oe3) :: (X.pn ++ pins))) S3 hg hm q hdbg
      · exact ld_blt (X := X.suite a ((a, oe3) :: (X.pn ++ pins))) S3 hg hm hv q hnn hdbg
    refine test (LM.here ?_)
    cases b with
    | true =>
      obtain ⟨C, rfl, rfl, hnx⟩ := hyes rfl
      refine codeAny_handlers_suite_as ?_
      refine HandSPX.lands_againZ fl3 fun h4 fl4 up4 => ?_
      have J4 : Inv X pins σ' H' { s' with heap := h4 } := J.landed nb fl4.1 ((up.trans up3).trans up4) os ag
      obtain ⟨oe4, vs4, he4, hz4, hd4⟩ := fl4.there
      have S4 := J4.suite he4 hd4 na nL nF
      refine store_ok (X := X.suite a ((a, oe4) :: (X.pn ++ pins))) (v := .ref a) S4 hN hi (.inl hln) rfl (fun s5 S5 => ?_) (.inr hln)
      have hlen : i < σ'.length := by
        rw [J.len]
        exact (List.getElem?_eq_some_iff.mp hi).1
      have pn' : PE (X.suite a ((a, oe4) :: (X.pn ++ pins))) (.Name n ep) (tVar i) := pe_var hi (.inl hln) hnd hncd
      have ps' : PS (X.suite a ((a, oe4) :: (X.pn ++ pins))) (.Assign [.Name y yp] (.Name n ep) ap) (tAsg (tVar i) (gName j)) := ps_set hN hj (.inl hly) pn' (hsw _) (.inr hly)
      refine wpAny_mono ((pss_one ps').run [] s5 _ H' { nx := fun σ6 H6 => σ6 = (σ'.set i (some (.ref a))).set j (some (.ref a)) ∧ H6 = H', rt := fun _ _ => False } S5 ⟨.ref a, List.getElem?_set_self hlen, rfl, rfl⟩) (fun f s6 hsp => ?_) (fun _ _ z => False.elim z)
      cases f with
      | next =>
        obtain ⟨σ6, H6, S6, q6, q7⟩ := hsp
        subst q6 q7
        have P6 := inv_pinned S6 ok
        refine gone_ok P6 hN hi hln fun s7 J7 => ?_
        obtain ⟨p1, _⟩ := J7.pin (a, oe4) (List.mem_append_right _ List.mem_cons_self)
        have hi4 : PySem.W.InstAt s7.heap a oe4 C none := by
          obtain ⟨oc, od, oda, osl⟩ := oe4
          obtain ⟨h1, h2⟩ := hz4
          dsimp only at h1 h2 hd4
          subst h1 h2 hd4
          exact ⟨p1, rfl, rfl, trivial⟩
        exact ⟨_, _, inv_track J7 ⟨_, hd4⟩ n0 hpn (excK_ok hi4), hnx a na J.len⟩
      | brk =>
        obtain ⟨_, _, _, q⟩ := hsp
        exact False.elim q
      | cont =>
        obtain ⟨_, _, _, q⟩ := hsp
        exact False.elim q
      | ret u =>
        obtain ⟨_, _, _, _, _, q⟩ := hsp
        exact False.elim q
    | false =>
      show wpAny _ X.A (handleBy (.ref a) X.env []) _ _ _
      refine wpAny_handleBy_nil ?_
      obtain ⟨k1, k2, k3, oe, vs, T, oT, ts', he, hz, hd, h1, hr⟩ := id fl3
      unfold PySem.passOn
      refine wpAny_bind (wpAny_field he hd h1 ?_)
      rw [if_neg (show ¬ ((Value.ref T == Value.none) = true) from by simp)]
      have fin : wpAny (model X.prog X.w) X.A (setFlight (.ref a) X.env.frame) (fun _ s4 => wpAny (model X.prog X.w) X.A (throw (.ref a) : Sem Flow) (SP X pins D) X.xe s4) X.xe { s' with heap := h3 } := by
        rw [hf]
        refine HandSPX.setFlight_upZ fl3 fun h4 hh4 up4 => wpAny_throw (tk _ _ ?_)
        exact ⟨a, B, sI, pins, σ', H', cls, d, rfl, J, nb, (up.trans up3).trans up4, .inr (.inr (by rw [hs]; exact hh4)), na, os, ag, hno rfl⟩
      first
        | exact wpAny_bind (wpAny_pure (wpAny_bind fin))
        | exact wpAny_bind fin
  · cases f with
    | next =>
      obtain ⟨σ', H', J', q⟩ := hsp
      exact wpAny_execs_nil ⟨σ', H', J'.ofTry ok, q⟩
    | brk =>
      obtain ⟨σ', H', J', q⟩ := hsp
      exact ⟨σ', H', J'.ofTry ok, q⟩
    | cont =>
      obtain ⟨σ', H', J', q⟩ := hsp
      exact ⟨σ', H', J'.ofTry ok, q⟩
    | ret u =>
      obtain ⟨v, σ', H', J', r, q⟩ := hsp
      exact ⟨v, σ', H', J'.ofTry ok, r, q⟩
end
/-! ### over data -/
def mTryKeep (isC : Nat → Option Bool) (n j : Nat) (mb : MS) : MS := fun ss C => mb ss { C with kx := fun x => match isC x.c, x.fs with
  | some true, [] => C.nx ((List.replicate n .un).set j (.d (.exc x.c)))
  | some false, _ => C.kx x
  | _, _ => False }
theorem str_un {P : Program} {w : World} {K : PySem.W.Frag} {Γ : Gam} {H0 G0 G H : Hp} {σ : L2.St} {n : Nat} (f : Fr H0 G0 G H) (hl : σ.length = n) (tb : LamX.Tabs Tbs.T G0) : StR P w K Γ H0 G0 G H σ (List.replicate n .un) := by
  have at_ : ∀ {i : Nat} {s : SV}, (List.replicate n SV.un)[i]? = some s → s = .un ∧ i < n := fun {i s} e => by
    rw [List.getElem?_replicate] at e
    split at e
    · rename_i h
      cases e
      exact ⟨rfl, h⟩
    · cases e
  refine ⟨f, by rw [List.length_replicate]; exact hl, fun i s e => ?_, fun i j s t a e1 _ o1 _ _ _ => ?_, tb⟩
  · obtain ⟨rfl, h⟩ := at_ e
    exact ⟨σ[i]'(by rw [hl]; exact h), List.getElem?_eq_getElem _, trivial⟩
  · obtain ⟨rfl, _⟩ := at_ e1
    cases o1
section
variable {X : Cx} {Γ : Gam} {W : WX} {pos : Pos}
theorem s_tryKeep (c : Cz X W) (i j : Nat) {x n y : Str} {CS : Value} {isC : Nat → Option Bool} {body : List Stmt} {np ep yp ap pos' : Pos} {mb : MS} (hs : X.stack = X.env :: X.outer) (hf : X.env.frame = some X.env.locals) (hex : X.ex = []) (hc : Names X x CS) (hT : ∀ c b, isC c = some b → PySem.W.exmOne X.K (.ref (Γ.cls c)) CS = some b)
    (hb : ∀ (W' : WX) (pn : List (Addr × Obj)) (xe : Value → Shared → Prop), Cz (X.tr pn xe) W' → PSs (X.tr pn xe) body (rs (X.tr pn xe) Γ W' mb)) (hij : i ≠ j := by decide) (hi : X.N[i]? = some n := by rfl) (hj : X.N[j]? = some y := by rfl)
    (hln : X.env.scope.names.lookup n = some .local := by rfl) (hly : X.env.scope.names.lookup y = some .local := by rfl) (hsw : ∀ env, swapsWith (.Name n ep) (some (.Name y yp)) ap.line env = pure false := by intro _; rfl) (hnd : (n == ("__debug__" : Str)) = false := by decide) (hncd : (n == ("__classdict__" : Str)) = false := by decide) :
    PS X (.Try body [.ExceptHandler (some (.Name x np)) (some n) [.Assign [.Name y yp] (.Name n ep) ap] pos'] [] [] pos) (rs X Γ W (mTryKeep isC X.N.length j mb)) := by
  refine ps_weak (ps_try_keep (tb := fun W' => rs X Γ W' mb) hs hf hex c.nd hi hj hln hly hc c.tk (fun W' pn xe tk po => hb W' pn xe ⟨tk, c.calm, c.nd, po⟩) hsw hnd hncd) fun D σ H h => ?_
  obtain ⟨H0, G0, G, ss, C, st, hx, hm, h1, h2, h3, h4⟩ := h
  refine ⟨H0, G0, G, ss, _, st, ?_, hm, h1, h2, h3, h4⟩
  intro xd hxd cls d σ' G' H' f r
  obtain ⟨rc, rfs⟩ := r
  dsimp only at hxd
  split at hxd
  · rename_i e1 e2
    refine ⟨true, by rw [rc]; exact hT _ _ e1, fun _ => ?_, (fun z => by cases z)⟩
    rcases rfs with ⟨_, hd⟩ | ⟨_, _, hne, _⟩
    · refine ⟨Γ.cls xd.c, rc, hd, fun a ha hlen => ?_⟩
      have f2 := f.step (Fr.new (o := ExK (Γ.cls xd.c) a) f.gh ha nt_ExK)
      have st0 : StR X.prog X.w X.K Γ H0 G0 (upd G' a (ExK (Γ.cls xd.c) a)) (upd H' a (ExK (Γ.cls xd.c) a)) ((σ'.set i (some (.ref a))).set i none) (List.replicate X.N.length .un) := str_un f2 (by rw [List.length_set, List.length_set]; exact hlen) st.tbs
      have st1 := st0.setD (i := j) (v := .ref a) (d := .exc xd.c) (.exc upd_same)
      have e3 : ((σ'.set i (some (V.ref a))).set i none).set j (some (V.ref a)) = ((σ'.set i (some (V.ref a))).set j (some (V.ref a))).set i none := List.set_comm _ _ hij
      rw [e3] at st1
      exact h1 _ _ _ _ hxd st1
    · exact absurd e2 hne
  · rename_i e1
    exact ⟨false, by rw [rc]; exact hT _ _ e1, (fun z => by cases z), fun _ => hx xd hxd cls d σ' G' H' f ⟨rc, rfs⟩⟩
  · exact hxd.elim
/-- raise X("..") -/
def mRaise0 (c : Nat) : List SV → (XD → Prop) → (XD → Prop) → Prop := fun _ k _ => k ⟨c, []⟩
theorem x_own {C : Addr} {bmB : List Value} {B newId initId : String} {cid : Nat} {x m : Str} {j : Nat} {p p2 : Pos} (F : ExcBaseFacts B newId initId bmB) (q : PySem.W.excIn X.K C bmB newId = true) (gC : X.mg x = some (.ref C)) (kC : PySem.W.keepIn X.K (.ref C) = true) (r : Raises X (.ref C)) (hC : C = Γ.cls cid) (hg : Gl X x := by rfl)
    (hdb : (x == ("__debug__" : Str)) = false := by decide) : PMk X (.Call (.Name x p) [.Constant (.str m) j p2] [] pos) (rx X Γ W (mRaise0 cid)) := by
  intro pins s σ H Q I h
  obtain ⟨H0, G0, G, ss, k, kx, st, hx, hm, hk⟩ := h
  refine pmk_own F q gC kC r hg hdb pins s σ H Q I ?_
  exact hk _ _ _ G H hm st.toFr ⟨by rw [hC], .inl ⟨rfl, rfl⟩⟩
/-! ### what is never reached -/
def mNever : MS := fun _ _ => False
def mNeverD : MD := fun _ _ _ => False
def mNeverB : MB := fun _ _ _ => False
theorem s_never {st : Stmt} : PS X st (rs X Γ W mNever) := ⟨fun pins s σ H D I h => by
  obtain ⟨_, _, _, _, _, _, _, hm, _⟩ := h
  exact hm.elim⟩
theorem ss_never {st : List Stmt} : PSs X st (rs X Γ W mNever) := ⟨fun pins s σ H D I h => by
  obtain ⟨_, _, _, _, _, _, _, hm, _⟩ := h
  exact hm.elim⟩
theorem d_never {e : Expr} : PE X e (rd X Γ W mNeverD) := ⟨fun pins s σ H Q I h => by
  obtain ⟨_, _, _, _, _, _, _, _, hm, _⟩ := h
  exact hm.elim⟩
theorem t_never {e : Expr} : PT X e (rb X Γ W mNeverB) := ⟨fun pins s σ H Q I h => by
  obtain ⟨_, _, _, _, _, _, _, _, hm, _⟩ := h
  exact hm.elim⟩
end
end Dm
end -- DmExc
section -- DmDict
set_option Elab.async false
set_option linter.all false
set_option maxRecDepth 100000
namespace Dm
open PySem PySem.Spec PyProof.Rows L2
variable [Tbs]

/-! ### keys -/
mutual
inductive KIs (K : PySem.W.Frag) (H : Hp) : NestedKey → V → Prop
  | none : KIs K H .none .non
  | int (i : Int) : KIs K H (.num i) (.int i)
  | bl (b : Bool) : KIs K H (.num (if b = true then 1 else 0)) (.bl b)
  | str (x : Str) : KIs K H (.text x) (.str x)
  | tup {a : Addr} {xs : List V} {ks : List NestedKey} : SqT K H a xs → KAll K H ks xs → KIs K H (.tup ks) (.ref a)
inductive KAll (K : PySem.W.Frag) (H : Hp) : List NestedKey → List V → Prop
  | nil : KAll K H [] []
  | cons {k : NestedKey} {v : V} {ks : List NestedKey} {vs : List V} : KIs K H k v → KAll K H ks vs → KAll K H (k :: ks) (v :: vs)
end
section
variable {X : Cx} {pins : List (Addr × Obj)} {σ : L2.St} {H : Hp} {s : Shared}
mutual
theorem kis_heap (I : Inv X pins σ H s) : ∀ {k : NestedKey} {v : V} {u : Value}, KIs X.K H k v → RelV v u → NestedIs s.heap k u
  | _, _, _, .none, r => by cases r; exact .none
  | _, _, _, .int i, r => by obtain ⟨t, rfl⟩ := r; exact .int i t
  | _, _, _, .bl b, r => by cases r; exact .bool rfl
  | _, _, _, .str x, r => by obtain ⟨t, rfl⟩ := r; exact .text x t
  | _, _, _, .tup h q, r => by
    cases r
    obtain ⟨its, rv, p, _⟩ := I.tuple h
    obtain ⟨o, h1, h2, n, h3⟩ := p
    exact .tup h1 h2 h3 (by simpa using kall_heap I q rv)
theorem kall_heap (I : Inv X pins σ H s) : ∀ {ks : List NestedKey} {vs : List V} {us : List Value}, KAll X.K H ks vs → Vals vs us → NestedAll s.heap ks us
  | _, _, _, .nil, .nil => .nil
  | _, _, _, .cons h q, .cons r t => .cons (kis_heap I h r) (kall_heap I q t)
end
end
mutual
theorem KIs.mono {K : PySem.W.Frag} {H H' : Hp} (e : Ex H H') : ∀ {k : NestedKey} {v : V}, KIs K H k v → KIs K H' k v
  | _, _, .none => .none
  | _, _, .int i => .int i
  | _, _, .bl b => .bl b
  | _, _, .str x => .str x
  | _, _, .tup h q => .tup (ex_t e h) (KAll.mono e q)
theorem KAll.mono {K : PySem.W.Frag} {H H' : Hp} (e : Ex H H') : ∀ {k : List NestedKey} {v : List V}, KAll K H k v → KAll K H' k v
  | _, _, .nil => .nil
  | _, _, .cons h q => .cons (KIs.mono e h) (KAll.mono e q)
end
mutual
theorem rp_kis {K : PySem.W.Frag} {Γ : Gam} {G : Hp} : ∀ {v : V} {d : D} {k : NestedKey}, Rp K Γ G v d → toKey d = some k → KIs K G k v
  | _, _, _, .non, e => by simp [toKey] at e; subst e; exact .none
  | _, _, _, .int i, e => by simp [toKey] at e; subst e; exact .int i
  | _, _, _, .str x, e => by simp [toKey] at e; subst e; exact .str x
  | _, _, _, .tup (ds := ds) h r, e => by
    unfold toKey at e
    cases q : toKeyL ds with
    | none => rw [q] at e; cases e
    | some ks => rw [q] at e; cases e; exact .tup h.sqt (rpl_kall r q)
  | _, _, _, .bl b, e => by unfold toKey at e; cases e; exact .bl b
  | _, _, _, .lst _ _, e => by simp [toKey] at e
  | _, _, _, .frl _ _, e => by simp [toKey] at e
  | _, _, _, .ins _ _, e => by simp [toKey] at e
  | _, _, _, .fn _, e => by simp [toKey] at e
  | _, _, _, .ty _, e => by simp [toKey] at e
  | _, _, _, .cl _, e => by simp [toKey] at e
  | _, _, _, .opq _, e => by simp [toKey] at e
  | _, _, _, .exc _, e => by simp [toKey] at e
  | _, _, _, .dk _ _, e => by simp [toKey] at e
  | _, _, _, .tpl _ _, e => by simp [toKey] at e
theorem rpl_kall {K : PySem.W.Frag} {Γ : Gam} {G : Hp} : ∀ {vs : List V} {ds : List D} {ks : List NestedKey}, RpL K Γ G vs ds → toKeyL ds = some ks → KAll K G ks vs
  | _, _, _, .nil, e => by simp [toKeyL] at e; subst e; exact .nil
  | _, _, _, .cons (d := d) (ds := ds) h r, e => by
    unfold toKeyL at e
    cases q : toKey d with
    | none => rw [q] at e; cases e
    | some p =>
      cases q2 : toKeyL ds with
      | none => rw [q, q2] at e; cases e
      | some ps => rw [q, q2] at e; cases e; exact .cons (rp_kis h q) (rpl_kall r q2)
end

/-! ### a dict with tuple keys -/
abbrev KX := List (NestedKey × Addr × V)
def atV (xs : KX) (k : NestedKey) : Option (Addr × V) := (xs.find? fun x => decide (x.1 = k)).map (·.2)
def putV (k : NestedKey) (v : V) (x : NestedKey × Addr × V) : NestedKey × Addr × V := if x.1 = k then (x.1, x.2.1, v) else x
def stoV (xs : KX) (k : NestedKey) (a : Addr) (v : V) : KX := if (atV xs k).isSome then xs.map (putV k v) else xs ++ [(k, a, v)]
abbrev KRel : NestedKey × Addr × V → NestedKey × Addr × Value → Prop := fun p q => p.1 = q.1 ∧ p.2.1 = q.2.1 ∧ RelV p.2.2 q.2.2
theorem at_rel {k : NestedKey} : ∀ {xs : KX} {ys : List (NestedKey × Addr × Value)}, Paired KRel xs ys → (∀ b v, atV xs k = some (b, v) → ∃ u, atKey ys k = some (b, u) ∧ RelV v u) ∧ (atV xs k = none → atKey ys k = none)
  | _, _, .nil => ⟨(fun _ _ e => by cases e), fun _ => rfl⟩
  | (k1, a1, v1) :: xs, (k2, a2, u2) :: ys, .cons h t => by
    obtain ⟨h1, h2, h3⟩ := h
    dsimp only at h1 h2 h3
    subst h1 h2
    obtain ⟨i1, i2⟩ := at_rel (k := k) t
    by_cases e : k1 = k
    · simp only [atV, atKey, List.find?_cons, decide_eq_true e]
      exact ⟨(fun b v q => by cases q; exact ⟨u2, rfl, h3⟩), (fun q => by cases q)⟩
    · simp only [atV, atKey, List.find?_cons, decide_eq_false e]
      exact ⟨i1, i2⟩
theorem sto_rel {k : NestedKey} {a : Addr} {v : V} {u : Value} {xs : KX} {ys : List (NestedKey × Addr × Value)} (r : Paired KRel xs ys) (rv : RelV v u) : Paired KRel (stoV xs k a v) (storedH ys k a u) := by
  obtain ⟨i1, i2⟩ := at_rel (k := k) r
  have mp : ∀ {xs : KX} {ys : List (NestedKey × Addr × Value)}, Paired KRel xs ys → Paired KRel (xs.map (putV k v)) (ys.map (putAt k u)) := by
    intro xs ys r
    induction r with
    | nil => exact .nil
    | @cons p q xs ys h t ih =>
      refine .cons ?_ ih
      obtain ⟨h1, h2, h3⟩ := h
      unfold putV putAt
      rw [← h1]
      by_cases e : p.1 = k
      · rw [if_pos e, if_pos e]
        exact ⟨rfl, h2, rv⟩
      · rw [if_neg e, if_neg e]
        exact ⟨h1, h2, h3⟩
  have ap : ∀ {xs : KX} {ys : List (NestedKey × Addr × Value)}, Paired KRel xs ys → Paired KRel (xs ++ [(k, a, v)]) (ys ++ [(k, a, u)]) := by
    intro xs ys r
    induction r with
    | nil => exact .cons ⟨rfl, rfl, rv⟩ .nil
    | cons h t ih => exact .cons h ih
  unfold stoV storedH
  cases q : atV xs k with
  | none =>
    rw [i2 q]
    exact ap r
  | some p =>
    obtain ⟨u', h1, _⟩ := i1 p.1 p.2 q
    rw [h1]
    exact mp r
theorem sto_len (xs : KX) (k : NestedKey) (a : Addr) (v : V) : (stoV xs k a v).length ≤ xs.length + 1 := by
  unfold stoV
  split
  · rw [List.length_map]; omega
  · rw [List.length_append]; simp
theorem paired_mem : ∀ {xs : KX} {ys : List (NestedKey × Addr × Value)} {y : NestedKey × Addr × Value}, Paired KRel xs ys → y ∈ ys → ∃ x, x ∈ xs ∧ KRel x y
  | _, _, _, .cons h t, hy => by
    rcases List.mem_cons.mp hy with z | z
    · subst z
      exact ⟨_, List.mem_cons_self, h⟩
    · obtain ⟨x, hx, r⟩ := paired_mem t z
      exact ⟨x, List.mem_cons_of_mem _ hx, r⟩
structure KDict (P : Program) (w : World) (K : PySem.W.Frag) (H : Hp) (a : Addr) (xs : KX) : Prop where
  at_ : H a = some (KD P w a xs)
  ks : ∀ x ∈ xs, KIs K H x.1 (.ref x.2.1) ∧ x.1.depth ≤ 8
section
variable {X : Cx} {pins : List (Addr × Obj)} {σ : L2.St} {H : Hp} {s : Shared} {a ka : Addr} {xs : KX} {k : NestedKey} {A : Around} {E : Value → Shared → Prop}
theorem kd_open (I : Inv X pins σ H s) (d : KDict X.prog X.w X.K H a xs) : ∃ ys, Paired KRel xs ys ∧ s.heap.DictOfH (nestedKind X.prog X.w) a ys ∧ (a == sysModules) = false ∧ xs.length ≤ sizeLine := by
  obtain ⟨⟨o, es, ep, ys, h1, h2, h3, h4, h5, h6, h7, h8⟩, _, _⟩ := I.hok a _ d.at_
  refine ⟨ys, h3, ⟨o, es, ep, h4, h5, h6, h7, fun y hy => ?_, h8⟩, h1, h2⟩
  have := paired_mem h3 hy
  obtain ⟨x, hx, r1, r2, _⟩ := this
  obtain ⟨q1, q2⟩ := d.ks x hx
  rw [← r1, ← r2]
  exact ⟨kis_heap I q1 rfl, q2⟩
theorem kd_new {P : Program} {w : World} {H : Hp} {h : Heap} {xs : KX} {ys : List (NestedKey × Addr × Value)} (z : xs.length ≤ sizeLine) (hd : (a == sysModules) = false) (r : Paired KRel xs ys) (dd : h.DictOfH (nestedKind P w) a ys) : ObjOk P w H h a (KD P w a xs) := by
  obtain ⟨o, es, ep, h4, h5, h6, h7, _, h8⟩ := dd
  exact ⟨⟨o, es, ep, ys, hd, z, r, h4, h5, h6, h7, h8⟩, ⟨o, h4⟩, fun h1 h2 ⟨o, es, ep, ys, a1, a2, a3, a4, a5⟩ k => ⟨o, es, ep, ys, a1, a2, a3, k _ a4, a5⟩⟩
theorem room9 {A : Around} (hu : A.units + 64 < cLine) : (nestedKind X.prog X.w).room A.in1 := by
  show A.units + 1 + 8 < cLine
  omega
theorem kd_get (hu : A.units + 64 < cLine) (I : Inv X pins σ H s) (d : KDict X.prog X.w X.K H a xs) (hk : KIs X.K H k (.ref ka)) (hdp : k.depth ≤ 8) {b : Addr} {v : V} (e : atV xs k = some (b, v)) {Q : Value → Shared → Prop} (h : ∀ u s', Inv X pins σ H s' → RelV v u → Q u s') :
    wpAny (model X.prog X.w) A (getItem (.ref a) (.ref ka)) Q E s := by
  obtain ⟨ys, r, dd, _, _⟩ := kd_open I d
  obtain ⟨u, e1, ru⟩ := (at_rel (k := k) r).1 b v e
  exact wpAny_getItem_heap (knd := nestedKind X.prog X.w) (room9 hu) ⟨kis_heap I hk rfl, hdp⟩ dd e1 (h u _ (I.tok _) ru)
theorem kd_notIn (hu : A.units + 64 < cLine) (I : Inv X pins σ H s) (d : KDict X.prog X.w X.K H a xs) (hk : KIs X.K H k (.ref ka)) (hdp : k.depth ≤ 8) {Q : Value → Shared → Prop} (h : ∀ s', Inv X pins σ H s' → Q (.bool (!(atV xs k).isSome)) s') :
    wpAny (model X.prog X.w) A (compareOp .NotIn (.ref ka) (.ref a)) Q E s := by
  obtain ⟨ys, r, dd, hd, _⟩ := kd_open I d
  have e : (atKey ys k).isSome = (atV xs k).isSome := by
    obtain ⟨i1, i2⟩ := at_rel (k := k) r
    cases q : atV xs k with
    | none => rw [i2 q]; rfl
    | some p =>
      obtain ⟨u, h1, _⟩ := i1 p.1 p.2 q
      rw [h1]; rfl
  refine notIn_keyed (knd := nestedKind X.prog X.w) (room9 hu) ⟨kis_heap I hk rfl, hdp⟩ hd ⟨ys, dd, rfl⟩ ?_
  rw [valueAt_pairsH, Option.isSome_map, e]
  exact h _ (I.tok _)
theorem kd_in (hu : A.units + 64 < cLine) (I : Inv X pins σ H s) (d : KDict X.prog X.w X.K H a xs) (hk : KIs X.K H k (.ref ka)) (hdp : k.depth ≤ 8) {Q : Value → Shared → Prop} (h : ∀ s', Inv X pins σ H s' → Q (.bool (atV xs k).isSome) s') :
    wpAny (model X.prog X.w) A (compareOp .In (.ref ka) (.ref a)) Q E s := by
  obtain ⟨ys, r, dd, hd, _⟩ := kd_open I d
  have e : (atKey ys k).isSome = (atV xs k).isSome := by
    obtain ⟨i1, i2⟩ := at_rel (k := k) r
    cases q : atV xs k with
    | none => rw [i2 q]; rfl
    | some p =>
      obtain ⟨u, h1, _⟩ := i1 p.1 p.2 q
      rw [h1]; rfl
  refine in_keyed (knd := nestedKind X.prog X.w) (room9 hu) ⟨kis_heap I hk rfl, hdp⟩ hd ⟨ys, dd, rfl⟩ ?_
  rw [valueAt_pairsH, Option.isSome_map, e]
  exact h _ (I.tok _)
theorem kd_getOr (hu : A.units + 64 < cLine) (I : Inv X pins σ H s) (d : KDict X.prog X.w X.K H a xs) (hk : KIs X.K H k (.ref ka)) (hdp : k.depth ≤ 8) {z : V} {x : Value} (rz : RelV z x) {Q : Value → Shared → Prop} (h : ∀ u s', Inv X pins σ H s' → RelV (((atV xs k).map (·.2)).getD z) u → Q u s') :
    wpAny (model X.prog X.w) A (call (.builtin "dict.get") [.ref a, .ref ka, x]) Q E s := by
  obtain ⟨ys, r, dd, hd, _⟩ := kd_open I d
  refine getOr_keyed (knd := nestedKind X.prog X.w) (room9 hu) ⟨kis_heap I hk rfl, hdp⟩ hd ⟨ys, dd, rfl⟩ ?_
  rw [valueAt_pairsH]
  refine h _ _ (I.tok _) ?_
  obtain ⟨i1, i2⟩ := at_rel (k := k) r
  cases q : atV xs k with
  | none => rw [i2 q]; exact rz
  | some p =>
    obtain ⟨u, h1, h2⟩ := i1 p.1 p.2 q
    rw [h1]; exact h2
theorem kd_set (hu : A.units + 64 < cLine) (I : Inv X pins σ H s) (d : KDict X.prog X.w X.K H a xs) (hk : KIs X.K H k (.ref ka)) (hdp : k.depth ≤ 8) (hl : xs.length < sizeLine) {v : V} {u : Value} (rv : RelV v u) {Q : Unit → Shared → Prop}
    (h : ∀ s', Inv X pins σ (upd H a (KD X.prog X.w a (stoV xs k ka v))) s' → Q () s') : wpAny (model X.prog X.w) A (setItem (.ref a) (.ref ka) u) Q E s := by
  obtain ⟨ys, r, dd, hd, z⟩ := kd_open I d
  have hly : xs.length = ys.length := Paired.length r
  refine wpAny_setItem_heap (knd := nestedKind X.prog X.w) (hsz := by rw [← hly]; exact z) (room9 hu) ⟨kis_heap I hk rfl, hdp⟩ dd fun h' dd' hs => h _ ?_
  refine d_write I (by rw [d.at_]; trivial) hs (by obtain ⟨o, _, _, ho, _⟩ := dd'; exact ⟨o, ho⟩) (kd_new ?_ hd (sto_rel r rv) dd')
  have := sto_len xs k ka v
  omega
theorem kd_len (I : Inv X pins σ H s) (d : KDict X.prog X.w X.K H a xs) {Q : Value → Shared → Prop} (h : ∀ t s', Inv X pins σ H s' → Q (.int xs.length t) s') : wpAny (model X.prog X.w) A (call (.builtin "dict.__len__") [.ref a]) Q E s := by
  obtain ⟨ys, r, dd, hd, z⟩ := kd_open I d
  refine len_keyed (knd := nestedKind X.prog X.w) hd ⟨ys, dd, rfl⟩ ?_
  rw [pairsH_length, ← Paired.length r]
  exact h _ _ (I.tok _)
theorem kd_type (I : Inv X pins σ H s) (d : KDict X.prog X.w X.K H a xs) : s.TypeIs (.ref a) "dict" ∧ ∃ ob, s.heap.get? a = some ob ∧ ob.dict = none := by
  obtain ⟨ys, r, dd, hd, z⟩ := kd_open I d
  refine ⟨dd.typeIs, ?_⟩
  obtain ⟨o, _, _, ho, h2, _⟩ := dd
  exact ⟨o, ho, h2.2.1⟩
end
/-! ### over data -/
def keyAt (kvs : List (D × D)) (k : NestedKey) : Option D := match kvs with
  | [] => none
  | (kd, d) :: r => match toKeyT kd with
    | some j => if decide (j = k) then some d else keyAt r k
    | none => keyAt r k
def keySet (kvs : List (D × D)) (k : NestedKey) (d : D) : List (D × D) := match kvs with
  | [] => []
  | (kd, e) :: r => match toKeyT kd with
    | some j => if decide (j = k) then (kd, d) :: keySet r k d else (kd, e) :: keySet r k d
    | none => (kd, e) :: keySet r k d
def keyPut (kvs : List (D × D)) (kd : D) (k : NestedKey) (d : D) : List (D × D) := if (keyAt kvs k).isSome then keySet kvs k d else kvs ++ [(kd, d)]
theorem toKeyT_some {d : D} {k : NestedKey} (h : toKeyT d = some k) : (∃ ds, d = .tup ds) ∧ toKey d = some k ∧ k.depth ≤ 8 := by
  unfold toKeyT at h
  split at h
  · rename_i xs
    split at h
    · rename_i k' hk
      split at h
      · rename_i hd
        cases h
        exact ⟨⟨_, rfl⟩, hk, Nat.le_of_ble_eq_true hd⟩
      · cases h
    · cases h
  · cases h
section
variable {K : PySem.W.Frag} {Γ : Gam} {G : Hp} {k : NestedKey}
theorem t_at : ∀ {vs : KX} {ds : List (D × D)}, RpT K Γ G vs ds → (∀ d, keyAt ds k = some d → ∃ b v, atV vs k = some (b, v) ∧ Rp K Γ G v d) ∧ (keyAt ds k = none → atV vs k = none)
  | _, _, .nil => ⟨(fun _ e => by cases e), fun _ => rfl⟩
  | _, _, .cons (k := j) (a := a) (v := v) (vs := vs) (kd := kd) (d := d) (ds := ds) h1 h2 h3 t => by
    obtain ⟨i1, i2⟩ := t_at t
    unfold keyAt
    rw [h1]
    by_cases e : j = k
    · simp only [atV, List.find?_cons, decide_eq_true e]
      exact ⟨(fun d' q => by cases q; exact ⟨a, v, rfl, h3⟩), (fun q => by cases q)⟩
    · simp only [atV, List.find?_cons, decide_eq_false e]
      exact ⟨i1, i2⟩
theorem t_set {v : V} {d : D} (rv : Rp K Γ G v d) : ∀ {vs : KX} {ds : List (D × D)}, RpT K Γ G vs ds → RpT K Γ G (vs.map (putV k v)) (keySet ds k d)
  | _, _, .nil => .nil
  | _, _, .cons (k := j) (a := a) (v := v1) (vs := vs) (kd := kd) (d := d1) (ds := ds) h1 h2 h3 t => by
    unfold keySet
    rw [h1, List.map_cons]
    by_cases e : j = k
    · simp only [putV, if_pos e, decide_eq_true e]
      exact .cons h1 h2 rv (t_set rv t)
    · simp only [putV, if_neg e, decide_eq_false e]
      exact .cons h1 h2 h3 (t_set rv t)
theorem t_app {ka : Addr} {kd : D} {v : V} {d : D} (hk : toKeyT kd = some k) (rk : Rp K Γ G (.ref ka) kd) (rv : Rp K Γ G v d) : ∀ {vs : KX} {ds : List (D × D)}, RpT K Γ G vs ds → RpT K Γ G (vs ++ [(k, ka, v)]) (ds ++ [(kd, d)])
  | _, _, .nil => .cons hk rk rv .nil
  | _, _, .cons h1 h2 h3 t => .cons h1 h2 h3 (t_app hk rk rv t)
theorem t_sto {ka : Addr} {kd : D} {v : V} {d : D} {vs : KX} {ds : List (D × D)} (r : RpT K Γ G vs ds) (hk : toKeyT kd = some k) (rk : Rp K Γ G (.ref ka) kd) (rv : Rp K Γ G v d) : RpT K Γ G (stoV vs k ka v) (keyPut ds kd k d) := by
  obtain ⟨i1, i2⟩ := t_at (k := k) r
  unfold stoV keyPut
  cases q : keyAt ds k with
  | none =>
    rw [i2 q]
    exact t_app hk rk rv r
  | some d' =>
    obtain ⟨b, v', h1, _⟩ := i1 d' q
    rw [h1]
    exact t_set rv r
theorem t_ks : ∀ {vs : KX} {ds : List (D × D)}, RpT K Γ G vs ds → ∀ x ∈ vs, KIs K G x.1 (.ref x.2.1) ∧ x.1.depth ≤ 8
  | _, _, .nil, x, hx => by simp at hx
  | _, _, .cons h1 h2 h3 t, x, hx => by
    rcases List.mem_cons.mp hx with z | z
    · subst z
      obtain ⟨_, e, dp⟩ := toKeyT_some h1
      exact ⟨rp_kis h2 e, dp⟩
    · exact t_ks t x z
theorem t_len : ∀ {vs : KX} {ds : List (D × D)}, RpT K Γ G vs ds → vs.length = ds.length
  | _, _, .nil => rfl
  | _, _, .cons _ _ _ t => by rw [List.length_cons, List.length_cons, t_len t]
end
end Dm
end -- DmDict
section -- DmDict2
set_option Elab.async false
set_option linter.all false
set_option maxRecDepth 100000
namespace Dm
open PySem PySem.Spec PyProof.Rows L2
variable [Tbs]
section
variable {X : Cx} {Γ : Gam} {W : WX} {pos : Pos}
/-! ### x = {} -/
def mAsgT (i : Nat) : MS := fun ss C => C.nx (ss.set i (.ot []))
def mAsgK (i : Nat) : MS := fun ss C => C.nx (ss.set i (.od []))
theorem pe_tnew : PE X (.Dict [] [] pos) (fun _ H Q => ∀ p, H p = none → Q (.ref p) (upd H p (KD X.prog X.w p []))) := ⟨fun pins s σ H Q I h =>
  wpAny_Dict_empty ⟨.ref s.heap.objs.size, _, I.laid (a := s.heap.objs.size) (o := KD X.prog X.w s.heap.objs.size []) (t' := s.toks) (fun _ _ q => Heap.get?_push_of_some _ q) (Nat.le_refl _)
    (kd_new (Nat.zero_le _) (beq_eq_false_iff_ne.mpr (Ne.symm (Nat.ne_of_lt I.big))) .nil (Heap.DictOfH.new s.heap)), rfl, h _ (I.hok.fresh (Nat.le_refl _))⟩⟩
theorem s_asgT (c : Cz X W) (i : Nat) {x : Str} {dp pos' : Pos} (hi : X.N[i]? = some x := by rfl) (hx : Loc X.env.scope x := by first | exact Or.inl rfl | exact Or.inr rfl) (hs : swapsWith (.Dict [] [] dp) (some (.Name x pos')) pos.line X.env = pure false := by rfl)
    (hf : X.fn x = true ∨ X.env.scope.names.lookup x = some .local := by first | exact .inl rfl | exact .inr rfl) : PS X (.Assign [.Name x pos'] (.Dict [] [] dp) pos) (rs X Γ W (mAsgT i)) := ps_weak (ps_set c.nd hi hx pe_tnew hs hf) fun D σ H h => by
  obtain ⟨H0, G0, G, ss, C, st, hx, hm, h1, h2, h3, h4⟩ := h
  intro p hp
  have st1 := st.le (Fr.newH (o := KD X.prog X.w p []) st.gh hp)
  exact h1 _ _ G _ hm (st1.setO ⟨p, [], rfl, upd_same, .nil, st.gh.back hp, st.hh.back hp⟩ fun j t hj et ho => st.noOwn hp j t et ho)
theorem s_asgK (c : Cz X W) (i : Nat) {x : Str} {dp pos' : Pos} (hi : X.N[i]? = some x := by rfl) (hx : Loc X.env.scope x := by first | exact Or.inl rfl | exact Or.inr rfl) (hs : swapsWith (.Dict [] [] dp) (some (.Name x pos')) pos.line X.env = pure false := by rfl)
    (hf : X.fn x = true ∨ X.env.scope.names.lookup x = some .local := by first | exact .inl rfl | exact .inr rfl) : PS X (.Assign [.Name x pos'] (.Dict [] [] dp) pos) (rs X Γ W (mAsgK i)) := ps_weak (ps_set c.nd hi hx pe_dnewK hs hf) fun D σ H h => by
  obtain ⟨H0, G0, G, ss, C, st, hx, hm, h1, h2, h3, h4⟩ := h
  intro p hp
  have st1 := st.le (Fr.newH (o := .dK []) st.gh hp)
  exact h1 _ _ G _ hm (st1.setO ⟨p, [], rfl, upd_same, .nil, st.gh.back hp, st.hh.back hp⟩ fun j t hj et ho => st.noOwn hp j t et ho)
/-- {} as data -/
def mEmp : MD := fun ss k _ => k (.dk []) ss
theorem d_emp : PE X (.Dict [] [] pos) (rd X Γ W mEmp) := pe_weak pe_dnewK fun σ H Q h => by
  obtain ⟨H0, G0, G, ss, k, kx, st, hx, hm, hk⟩ := h
  intro p hp
  have f : Fr H G (upd G p (.dK [])) (upd H p (.dK [])) := Fr.new st.gh hp
  exact hk _ _ _ _ _ hm f.gg (st.le f) (.dk upd_same .nil)

/-! ### a dict of its own with tuple keys -/
/-- the owned dict of slot i -/
theorem ot_at {P : Program} {w : World} {K : PySem.W.Frag} {H0 G0 G H : Hp} {σ : L2.St} {ss : List SV} (st : StR P w K Γ H0 G0 G H σ ss) {i : Nat} {kvs : List (D × D)} (e : ss[i]? = some (.ot kvs)) :
    ∃ a vs, σ[i]? = some (some (.ref a)) ∧ KDict P w K H a vs ∧ RpT K Γ G vs kvs ∧ G a = none ∧ H0 a = none := by
  obtain ⟨o, ho, a, vs, rfl, hH, r, g, z⟩ := st.sl i _ e
  exact ⟨a, vs, ho, ⟨hH, fun x hx => let ⟨q1, q2⟩ := t_ks r x hx; ⟨q1.mono st.gh, q2⟩⟩, r, g, z⟩
def useT (s : List SV) (i : Nat) (f : List (D × D) → Prop) : Prop := match s[i]? with
  | some (.ot kvs) => f kvs
  | _ => False
theorem useT_ok {s : List SV} {i : Nat} {f : List (D × D) → Prop} (h : useT s i f) : ∃ kvs, s[i]? = some (.ot kvs) ∧ f kvs := by
  unfold useT at h
  split at h
  · rename_i kvs e
    exact ⟨kvs, e, h⟩
  · exact h.elim
/-- key in x, key not in x -/
def mTIn (neg : Bool) (i : Nat) (m : MD) : MD := fun ss k kx => m ss (fun kd s => useT s i fun kvs => lift (toKeyT kd) fun key => k (.bl (if neg then !(keyAt kvs key).isSome else (keyAt kvs key).isSome)) s) kx
theorem key_ref {K : PySem.W.Frag} {G : Hp} {v : V} {kd : D} {k : NestedKey} (r : Rp K Γ G v kd) (h : toKeyT kd = some k) : ∃ ka, v = .ref ka ∧ KIs K G k (.ref ka) ∧ k.depth ≤ 8 := by
  obtain ⟨⟨ds, rfl⟩, e, dp⟩ := toKeyT_some h
  obtain ⟨a, xs, rfl, h1, h2⟩ := r.tup_inv
  exact ⟨a, rfl, rp_kis r e, dp⟩
theorem t_some {K : PySem.W.Frag} {G : Hp} {vs : KX} {kvs : List (D × D)} {k : NestedKey} (r : RpT K Γ G vs kvs) : (atV vs k).isSome = (keyAt kvs k).isSome := by
  obtain ⟨i1, i2⟩ := t_at (k := k) r
  cases q : keyAt kvs k with
  | none => rw [i2 q]; rfl
  | some d =>
    obtain ⟨b, v, h1, _⟩ := i1 d q
    rw [h1]; rfl
theorem pc_tin {neg : Bool} (i : Nat) {x : Str} {e : Expr} {m : MD} {np : Pos} {op : CmpOp} (hop : op = if neg then .NotIn else .In) (hu : X.A.units + 64 < cLine) (he : PE X e (rd X Γ W m)) (hN : X.N[i]? = some x) (hv : Vis X.env.scope x) (hd : (x == ("__debug__" : Str)) = false) (hcd : (x == ("__classdict__" : Str)) = false) :
    PC X op e (.Name x np) (rd X Γ W (mTIn neg i m)) := by
  refine ⟨fun pins s σ H Q I h => ?_⟩
  obtain ⟨H0, G0, G, ss, k, kx, st, hx, hm, hk⟩ := h
  refine thn (he.run pins s σ H (fun y H1 => ∃ kd s1 G1, (useT s1 i fun kvs => lift (toKeyT kd) fun key => k (.bl (if neg then !(keyAt kvs key).isSome else (keyAt kvs key).isSome)) s1) ∧ Ex G G1 ∧ StR X.prog X.w X.K Γ H0 G0 G1 H1 σ s1 ∧ Rp X.K Γ G1 y kd) I ⟨H0, G0, G, ss, _, kx, st, hx, hm, fun kd s1 v G1 H1 q e1 st1 r1 => ⟨kd, s1, G1, q, e1, st1, r1⟩⟩) fun iv s1 ⟨y, H1, I1, ry, kd, s2, G1, q, e1, st1, r1⟩ => ?_
  obtain ⟨kvs, e0, q⟩ := useT_ok q
  · skip
    obtain ⟨key, hkey, q⟩ := lift_some q
    obtain ⟨a, vs, hσ, dd, rt, _, _⟩ := ot_at st1 e0
    obtain ⟨ka, rfl, hki, hdp⟩ := key_ref r1 hkey
    obtain rfl : iv = .ref ka := ry
    refine thn ((pe_var (pos := np) hN hv hd hcd).run pins s1 σ H1 (fun v1 H2 => v1 = .ref a ∧ H2 = H1) I1 ⟨.ref a, hσ, rfl, rfl⟩) fun u s3 ⟨v1, H2, I2, r2, q2, q3⟩ => ?_
    subst q2 q3
    obtain rfl : u = .ref a := r2
    subst hop
    cases neg with
    | true =>
      refine kd_notIn hu I2 dd (hki.mono st1.gh) hdp fun s4 I4 => ⟨.bl (!(atV vs key).isSome), _, I4, rfl, hk _ s2 _ G1 _ q e1 st1 ?_⟩
      rw [t_some rt]
      exact .bl _
    | false =>
      refine kd_in hu I2 dd (hki.mono st1.gh) hdp fun s4 I4 => ⟨.bl (atV vs key).isSome, _, I4, rfl, hk _ s2 _ G1 _ q e1 st1 ?_⟩
      rw [t_some rt]
      exact .bl _
theorem d_tin {neg : Bool} (i : Nat) {x : Str} {e : Expr} {m : MD} {np : Pos} {op : CmpOp} (hu : X.A.units + 64 < cLine) (he : PE X e (rd X Γ W m)) (hop : op = if neg then .NotIn else .In := by rfl) (hN : X.N[i]? = some x := by rfl) (hv : Vis X.env.scope x := by first | exact Or.inl rfl | exact Or.inr (Or.inl rfl) | exact Or.inr (Or.inr rfl)) (hd : (x == ("__debug__" : Str)) = false := by decide)
    (hcd : (x == ("__classdict__" : Str)) = false := by decide) : PE X (.Compare e [op] [.Name x np] pos) (rd X Γ W (mTIn neg i m)) := pe_cmp (pc_tin i hop hu he hN hv hd hcd)
theorem t_tin {neg : Bool} (i : Nat) {x : Str} {e : Expr} {m : MD} {np : Pos} {op : CmpOp} (hu : X.A.units + 64 < cLine) (he : PE X e (rd X Γ W m)) (hop : op = if neg then .NotIn else .In := by rfl) (hN : X.N[i]? = some x := by rfl) (hv : Vis X.env.scope x := by first | exact Or.inl rfl | exact Or.inr (Or.inl rfl) | exact Or.inr (Or.inr rfl)) (hd : (x == ("__debug__" : Str)) = false := by decide)
    (hcd : (x == ("__classdict__" : Str)) = false := by decide) : PT X (.Compare e [op] [.Name x np] pos) (rb X Γ W (mT (mTIn neg i m))) := pt_weak (pt_cmp (pc_tin i hop hu he hN hv hd hcd)) (test_ok2 fun _ _ _ h => h)
/-- x[e] -/
def mTGet (i : Nat) (m : MD) : MD := fun ss k kx => useT ss i fun _ => m ss (fun kd s => useT s i fun kvs => lift (toKeyT kd) fun key => lift (keyAt kvs key) fun d => k d s) kx
theorem d_tget (i : Nat) {x : Str} {e : Expr} {m : MD} {np : Pos} (hu : X.A.units + 64 < cLine) (he : PE X e (rd X Γ W m)) (hs : NoSl e := by intro _ _; rfl) (hN : X.N[i]? = some x := by rfl) (hv : Vis X.env.scope x := by first | exact Or.inl rfl | exact Or.inr (Or.inl rfl) | exact Or.inr (Or.inr rfl)) (hd : (x == ("__debug__" : Str)) = false := by decide)
    (hcd : (x == ("__classdict__" : Str)) = false := by decide) : PE X (.Subscript (.Name x np) e pos) (rd X Γ W (mTGet i m)) := by
  refine ⟨fun pins s σ H Q I h => ?_⟩
  obtain ⟨H0, G0, G, ss, k, kx, st, hx, hm, hk⟩ := h
  obtain ⟨kvs0, e00, hm⟩ := useT_ok hm
  · skip
    obtain ⟨a, vs0, hσ, dd0, _, _, _⟩ := ot_at st e00
    refine subD_of PySem.F.slot_dict_getitem.lookup hs (thn ((pe_var (pos := np) hN hv hd hcd).run pins s σ H (fun v1 H2 => v1 = .ref a ∧ H2 = H) I ⟨.ref a, hσ, rfl, rfl⟩) fun u s1 ⟨v1, H1, I1, r1, q2, q3⟩ => ?_)
    subst q2 q3
    obtain rfl : u = .ref a := r1
    refine thn (he.run pins s1 σ _ (fun y H2 => ∃ kd s2 G2, (useT s2 i fun kvs => lift (toKeyT kd) fun key => lift (keyAt kvs key) fun d => k d s2) ∧ Ex G G2 ∧ StR X.prog X.w X.K Γ H0 G0 G2 H2 σ s2 ∧ Rp X.K Γ G2 y kd) I1 ⟨H0, G0, G, ss, _, kx, st, hx, hm, fun kd s2 v G2 H2 q e2 st2 r2 => ⟨kd, s2, G2, q, e2, st2, r2⟩⟩) fun iv s2 ⟨y, H2, I2, ry, kd, s3, G2, q, e2, st2, r2⟩ => ?_
    obtain ⟨kvs, e0, q⟩ := useT_ok q
    · skip
      obtain ⟨key, hkey, q⟩ := lift_some q
      obtain ⟨d, hd2, q⟩ := lift_some q
      obtain ⟨a', vs, hσ', dd, rt, _, _⟩ := ot_at st2 e0
      rw [hσ] at hσ'
      cases hσ'
      obtain ⟨ka, rfl, hki, hdp⟩ := key_ref r2 hkey
      obtain rfl : iv = .ref ka := ry
      obtain ⟨b, v, hv2, rv⟩ := (t_at rt).1 d hd2
      exact ⟨(kd_type I2 dd).1, kd_get hu I2 dd (hki.mono st2.gh) hdp hv2 fun u s4 I4 ru => ⟨v, _, I4, ru, hk d s3 v G2 _ q e2 st2 rv⟩⟩
/-- x.get(e, f) -/
def mTGetOr (i : Nat) (m mf : MD) : MD := fun ss k kx => useT ss i fun _ => m ss (fun kd s => mf s (fun z s' => useT s' i fun kvs => lift (toKeyT kd) fun key => k ((keyAt kvs key).getD z) s') kx) kx
theorem d_tgetor (i : Nat) {x : Str} {e f : Expr} {m mf : MD} {np apos : Pos} (hu : X.A.units + 64 < cLine) (he : PE X e (rd X Γ W m)) (hf : PE X f (rd X Γ W mf)) (mm : M2 X (.Name x np) "get" apos e f pos := by exact ⟨rfl, rfl, rfl, rfl⟩) (hN : X.N[i]? = some x := by rfl) (hv : Vis X.env.scope x := by first | exact Or.inl rfl | exact Or.inr (Or.inl rfl) | exact Or.inr (Or.inr rfl)) (hd : (x == ("__debug__" : Str)) = false := by decide)
    (hcd : (x == ("__classdict__" : Str)) = false := by decide) : PE X (.Call (.Attribute (.Name x np) "get" apos) [e, f] [] pos) (rd X Γ W (mTGetOr i m mf)) := by
  refine ⟨fun pins s σ H Q I h => ?_⟩
  obtain ⟨H0, G0, G, ss, k, kx, st, hx, hm, hk⟩ := h
  obtain ⟨kvs0, e00, hm⟩ := useT_ok hm
  · skip
    obtain ⟨a, vs0, hσ, dd0, _, _, _⟩ := ot_at st e00
    refine wpAny_Call_method mm.base mm.few mm.line PySem.F.plainAttrs_dict PySem.F.slot_dict_get PySem.F.type_dict_get (thn ((pe_var (pos := np) hN hv hd hcd).run pins s σ H (fun v1 H2 => v1 = .ref a ∧ H2 = H) I ⟨.ref a, hσ, rfl, rfl⟩) fun u s1 ⟨v1, H1, I1, r1, q2, q3⟩ => ?_)
    subst q2 q3
    obtain rfl : u = .ref a := r1
    obtain ⟨t1, t2⟩ := kd_type I1 dd0
    refine ⟨t1, (fun b q => by cases q; exact t2), ?_⟩
    rw [mm.trees]
    refine Calls.callWith_builtin rfl (Calls.evalArgs_plain (Calls.spliced_cons (thn (he.run pins s1 σ _ (fun y H2 => ∃ kd s2 G2, mf s2 (fun z s' => useT s' i fun kvs => lift (toKeyT kd) fun key => k ((keyAt kvs key).getD z) s') kx ∧ Ex G G2 ∧ StR X.prog X.w X.K Γ H0 G0 G2 H2 σ s2 ∧ Rp X.K Γ G2 y kd) I1 ⟨H0, G0, G, ss, _, kx, st, hx, hm, fun kd s2 v G2 H2 q e2 st2 r2 => ⟨kd, s2, G2, q, e2, st2, r2⟩⟩) fun iv s2 ⟨y, H2, I2, ry, kd, s3, G2, q, e2, st2, r2⟩ => ?_)))
    refine Calls.spliced_cons (thn (hf.run pins s2 σ _ (fun z H3 => ∃ zd s4 G3, (useT s4 i fun kvs => lift (toKeyT kd) fun key => k ((keyAt kvs key).getD zd) s4) ∧ Ex G2 G3 ∧ StR X.prog X.w X.K Γ H0 G0 G3 H3 σ s4 ∧ Rp X.K Γ G3 z zd) I2 ⟨H0, G0, G2, s3, _, kx, st2, hx, q, fun zd s4 v G3 H3 q e3 st3 r3 => ⟨zd, s4, G3, q, e3, st3, r3⟩⟩) fun fv s3' ⟨z, H3, I3, rz, zd, s4, G3, q, e3, st3, r3⟩ => ?_)
    refine Calls.spliced_nil ?_
    obtain ⟨kvs, e0, q⟩ := useT_ok q
    · skip
      obtain ⟨key, hkey, q⟩ := lift_some q
      obtain ⟨a', vs, hσ', dd, rt, _, _⟩ := ot_at st3 e0
      rw [hσ] at hσ'
      cases hσ'
      obtain ⟨ka, rfl, hki, hdp⟩ := key_ref r2 hkey
      obtain rfl : iv = .ref ka := ry
      refine kd_getOr hu I3 dd (hki.mono (e3.trans st3.gh)) hdp rz fun u s5 I5 ru => ⟨_, _, I5, ru, hk _ s4 _ G3 _ q (e2.trans e3) st3 ?_⟩
      obtain ⟨i1, i2⟩ := t_at (k := key) rt
      cases e : keyAt kvs key with
      | none => rw [i2 e]; exact r3
      | some d =>
        obtain ⟨b, v, h1, h2⟩ := i1 d e
        rw [h1]; exact h2
/-- x[e] = v -/
def mTPut (i : Nat) (m mv : MD) : MS := fun ss C => mv ss (fun d s => useT s i fun _ => m s (fun kd s' => useT s' i fun kvs => lift (toKeyT kd) fun key => guard (Nat.blt kvs.length mline) (C.nx (s'.set i (.ot (keyPut kvs kd key d))))) C.kx) C.kx
theorem s_tput (i : Nat) {x : Str} {e v : Expr} {m mv : MD} {np tp : Pos} (hu : X.A.units + 64 < cLine) (he : PE X e (rd X Γ W m)) (hval : PE X v (rd X Γ W mv)) (hs : swapsWith v (some (.Subscript (.Name x np) e tp)) pos.line X.env = pure false := by rfl) (hN : X.N[i]? = some x := by rfl)
    (hv : Vis X.env.scope x := by first | exact Or.inl rfl | exact Or.inr (Or.inl rfl) | exact Or.inr (Or.inr rfl)) (hd : (x == ("__debug__" : Str)) = false := by decide) (hcd : (x == ("__classdict__" : Str)) = false := by decide) : PS X (.Assign [.Subscript (.Name x np) e tp] v pos) (rs X Γ W (mTPut i m mv)) := by
  refine ⟨fun pins s σ H D I h => ?_⟩
  obtain ⟨H0, G0, G, ss, C, st, hx, hm, h1, h2, h3, h4⟩ := h
  refine wpAny_Assign_Subscript (thn (hval.run pins s σ H (fun y H1 => ∃ d s1 G1, (useT s1 i fun _ => m s1 (fun kd s' => useT s' i fun kvs => lift (toKeyT kd) fun key => guard (Nat.blt kvs.length mline) (C.nx (s'.set i (.ot (keyPut kvs kd key d))))) C.kx) ∧ Ex G G1 ∧ StR X.prog X.w X.K Γ H0 G0 G1 H1 σ s1 ∧ Rp X.K Γ G1 y d) I ⟨H0, G0, G, ss, _, C.kx, st, hx, hm, fun d s1 v G1 H1 q e1 st1 r1 => ⟨d, s1, G1, q, e1, st1, r1⟩⟩) fun r s1 ⟨y, H1, I1, ry, d, s2, G1, q, e1, st1, r1⟩ => ?_) hs
  obtain ⟨kvs0, e00, q⟩ := useT_ok q
  · skip
    obtain ⟨a, vs0, hσ, dd0, _, _, _⟩ := ot_at st1 e00
    refine thn ((pe_var (pos := np) hN hv hd hcd).run pins s1 σ H1 (fun v1 H2 => v1 = .ref a ∧ H2 = H1) I1 ⟨.ref a, hσ, rfl, rfl⟩) fun u s3 ⟨v1, H2, I2, r2, q2, q3⟩ => ?_
    subst q2 q3
    obtain rfl : u = .ref a := r2
    refine thn (he.run pins s3 σ _ (fun kv H3 => ∃ kd s4 G3, (useT s4 i fun kvs => lift (toKeyT kd) fun key => guard (Nat.blt kvs.length mline) (C.nx (s4.set i (.ot (keyPut kvs kd key d))))) ∧ Ex G1 G3 ∧ StR X.prog X.w X.K Γ H0 G0 G3 H3 σ s4 ∧ Rp X.K Γ G3 kv kd) I2 ⟨H0, G0, G1, s2, _, C.kx, st1, hx, q, fun kd s4 v G3 H3 q e3 st3 r3 => ⟨kd, s4, G3, q, e3, st3, r3⟩⟩) fun iv s5 ⟨kv, H3, I3, rk, kd, s4, G3, q, e3, st3, r3⟩ => ?_
    obtain ⟨kvs, e0, q⟩ := useT_ok q
    · skip
      obtain ⟨key, hkey, q⟩ := lift_some q
      obtain ⟨hl, q⟩ := guard_ok q
      obtain ⟨a', vs, hσ', dd, rt, g, z⟩ := ot_at st3 e0
      rw [hσ] at hσ'
      cases hσ'
      obtain ⟨ka, rfl, hki, hdp⟩ := key_ref r3 hkey
      obtain rfl : iv = .ref ka := rk
      refine kd_set hu I3 dd (hki.mono st3.gh) hdp (by rw [t_len rt, sizeLine_eq]; exact Nat.le_of_ble_eq_true hl) ry fun s6 I6 => ⟨σ, _, I6, h1 _ σ G3 _ q (st3.mutate e0 rfl hσ rfl g z ⟨a, _, rfl, upd_same, t_sto rt hkey r3 (r1.mono e3), g, z⟩)⟩
/-- len(x) -/
def mTLen (i : Nat) : MD := fun ss k _ => match ss[i]? with
  | some (.ot kvs) => k (.int kvs.length) ss
  | some (.od kvs) => k (.int kvs.length) ss
  | some (.ol kvs) => k (.int kvs.length) ss
  | _ => False
end
end Dm
end -- DmDict2
section -- DmSort
set_option Elab.async false
set_option linter.all false
set_option maxRecDepth 100000
namespace Dm
open PySem PySem.Spec PyProof.Rows L2
variable [Tbs]

/-! ### insertion -/
section
variable {α β : Type} (le : α → α → Bool)
def insW (x : α) : List α → List α
  | [] => [x]
  | y :: ys => match le x y with
    | true => x :: y :: ys
    | false => y :: insW x ys
def isortW : List α → List α
  | [] => []
  | x :: xs => insW le x (isortW xs)
variable {le}
theorem insW_perm (x : α) : ∀ ys : List α, (insW le x ys).Perm (x :: ys)
  | [] => .refl _
  | y :: ys => by
    unfold insW
    cases le x y with
    | true => exact .refl _
    | false => exact ((insW_perm x ys).cons y).trans (List.Perm.swap x y ys)
theorem isortW_perm : ∀ xs : List α, (isortW le xs).Perm xs
  | [] => .refl _
  | x :: xs => (insW_perm x _).trans ((isortW_perm xs).cons x)
theorem insW_sorted (T : PySem.W.TotalLe le) (x : α) : ∀ ys : List α, ys.Pairwise (fun a b => le a b = true) → (insW le x ys).Pairwise (fun a b => le a b = true)
  | [], _ => List.pairwise_singleton _ _
  | y :: ys, h => by
    obtain ⟨h1, h2⟩ := List.pairwise_cons.mp h
    unfold insW
    cases e : le x y with
    | true => exact List.pairwise_cons.mpr ⟨fun z hz => (List.mem_cons.mp hz).elim (fun q => by rw [q]; exact e) fun q => T.trans _ _ _ e (h1 z q), h⟩
    | false =>
      have yx : le y x = true := (T.total x y).elim (fun q => by rw [e] at q; cases q) id
      exact List.pairwise_cons.mpr ⟨fun z hz => (List.mem_cons.mp ((insW_perm x ys).mem_iff.mp hz)).elim (fun q => by rw [q]; exact yx) fun q => h1 z q, insW_sorted T x ys h2⟩
theorem insW_filter (x c : α) (T : PySem.W.TotalLe le) : ∀ ys : List α, (insW le x ys).filter (PySem.W.sameRank le c) = (x :: ys).filter (PySem.W.sameRank le c)
  | [] => rfl
  | y :: ys => by
    unfold insW
    cases e : le x y with
    | true => rfl
    | false =>
      have ih := insW_filter x c T ys
      simp only [List.filter_cons] at ih ⊢
      cases py : PySem.W.sameRank le c y with
      | false => simpa using ih
      | true =>
        have px : PySem.W.sameRank le c x = false := by
          cases q : PySem.W.sameRank le c x with
          | false => rfl
          | true =>
            unfold PySem.W.sameRank at q py
            rw [Bool.and_eq_true] at q py
            rw [T.trans _ _ _ q.2 py.1] at e
            cases e
        rw [px] at ih ⊢
        simpa using ih
theorem isortW_eq (T : PySem.W.TotalLe le) (l : List α) : isortW le l = l.mergeSort le := by
  have hs : ∀ l : List α, (isortW le l).Pairwise (fun a b => le a b = true) := fun l => by
    induction l with
    | nil => exact .nil
    | cons x xs ih => exact insW_sorted T x _ ih
  have hf : ∀ (l : List α) c, (isortW le l).filter (PySem.W.sameRank le c) = l.filter (PySem.W.sameRank le c) := fun l c => by
    induction l with
    | nil => rfl
    | cons x xs ih =>
      show (insW le x (isortW le xs)).filter _ = _
      rw [insW_filter x c T, List.filter_cons, List.filter_cons, ih]
  exact PySem.W.sort_unique T (hs l) (hf l)
theorem insW_map {le' : β → β → Bool} (f : α → β) (h : ∀ a b, le a b = le' (f a) (f b)) (x : α) : ∀ ys : List α, (insW le x ys).map f = insW le' (f x) (ys.map f)
  | [] => rfl
  | y :: ys => by
    have ih := insW_map f h x ys
    show (match le x y with
      | true => x :: y :: ys
      | false => y :: insW le x ys).map f = (match le' (f x) (f y) with
      | true => f x :: f y :: ys.map f
      | false => f y :: insW le' (f x) (ys.map f))
    rw [← h]
    cases le x y with
    | true => rfl
    | false =>
      show f y :: (insW le x ys).map f = _
      rw [ih]
theorem isortW_map {le' : β → β → Bool} (f : α → β) (h : ∀ a b, le a b = le' (f a) (f b)) : ∀ xs : List α, (isortW le xs).map f = isortW le' (xs.map f)
  | [] => rfl
  | x :: xs => by
    show (insW le x (isortW le xs)).map f = insW le' (f x) (isortW le' (xs.map f))
    rw [insW_map f h, isortW_map f h xs]
end

/-! ### data in order -/
def encD (d : D) : PyData := (toPy d).getD .none
def srtLe (a b : D) : Bool := PySem.W.dataLe false (fun d : D => encD d) a b
def sortD (ds : List D) : Option (List D) := match toPyL ds with
  | some ps => if (ps.all fun a => ps.all fun b => PySem.W.alike a b) && ((ps.all fun p => match p with
      | .tuple (_ :: _) => true
      | _ => false) || ps.all fun p => match p with
      | .tuple _ => false
      | .none => false
      | _ => true) && (ps.all fun p => Nat.ble p.depth 30) && Nat.ble ds.length mline then some (isortW srtLe ds) else none
  | none => none
theorem toPyL_mem : ∀ {ds : List D} {ps : List PyData}, toPyL ds = some ps → ps = ds.map encD ∧ ∀ d ∈ ds, toPy d = some (encD d)
  | [], _, h => by simp [toPyL] at h; subst h; exact ⟨rfl, fun d hd => by simp at hd⟩
  | x :: xs, _, h => by
    unfold toPyL at h
    cases q : toPy x with
    | none => rw [q] at h; simp at h
    | some p =>
      cases q2 : toPyL xs with
      | none => rw [q, q2] at h; simp at h
      | some qs =>
        rw [q, q2] at h
        cases h
        obtain ⟨i1, i2⟩ := toPyL_mem q2
        have ep : encD x = p := by unfold encD; rw [q]; rfl
        refine ⟨by rw [List.map_cons, ep, ← i1], fun d hd => ?_⟩
        rcases List.mem_cons.mp hd with z | z
        · subst z; rw [ep]; exact q
        · exact i2 d z
theorem sortD_inv {ds es : List D} (h : sortD ds = some es) : PySem.W.AllAlike (ds.map encD) ∧ PySem.W.Sortable (ds.map encD) ∧ (∀ d ∈ ds, (encD d).depth ≤ 30 ∧ toPy d = some (encD d)) ∧ ds.length ≤ mline ∧ es = isortW srtLe ds := by
  unfold sortD at h
  split at h
  · rename_i ps hp
    obtain ⟨e1, e2⟩ := toPyL_mem hp
    split at h
    · rename_i hc
      simp only [Bool.and_eq_true, Bool.or_eq_true, List.all_eq_true] at hc
      obtain ⟨⟨⟨h1, h2⟩, h3⟩, h4⟩ := hc
      rw [e1] at h1 h2 h3
      refine ⟨fun d hd d' hd' => h1 d hd d' hd', ?_, fun d hd => ⟨Nat.le_of_ble_eq_true (h3 _ (List.mem_map.mpr ⟨d, hd, rfl⟩)), e2 d hd⟩, Nat.le_of_ble_eq_true h4, (Option.some.inj h).symm⟩
      rcases h2 with h2 | h2
      · left
        intro d hd
        have q := h2 d hd
        split at q
        · exact ⟨_, _, rfl⟩
        · cases q
      · right
        intro d hd
        have q := h2 d hd
        refine ⟨fun z => ?_, fun xs z => ?_⟩ <;> subst z <;> cases q
    · cases h
  · cases h
theorem leD_total {β : Type} (f : β → PyData) : PySem.W.TotalLe (PySem.W.dataLe false f) := PySem.W.sortLe_total _ _ _

section
variable {X : Cx} {pins : List (Addr × Obj)} {σ : L2.St} {H : Hp} {s : Shared} {Γ : Gam}
/-- things in order: what mergeSort gives, as data -/
theorem sort_out {G : Hp} {bs : List (V × D)} (h : ∀ b ∈ bs, Rp X.K Γ G b.1 b.2) {out : List Value} (e : PySem.W.EachIs (fun v (b : V × D) => RelV b.1 v) out (bs.mergeSort (PySem.W.dataLe false fun b : V × D => encD b.2))) :
    ∃ vs, Vals vs out ∧ RpL X.K Γ G vs (isortW srtLe (bs.map (·.2))) := by
  rw [← isortW_eq (leD_total _)] at e
  have hm : (isortW (PySem.W.dataLe false fun b : V × D => encD b.2) bs).map (·.2) = isortW srtLe (bs.map (·.2)) := isortW_map (le := PySem.W.dataLe false fun b : V × D => encD b.2) (le' := srtLe) (fun b : V × D => b.2) (fun _ _ => rfl) bs
  have hall : ∀ b ∈ isortW (PySem.W.dataLe false fun b : V × D => encD b.2) bs, Rp X.K Γ G b.1 b.2 := fun b hb => h b ((isortW_perm bs).mem_iff.mp hb)
  rw [← hm]
  generalize isortW (PySem.W.dataLe false fun b : V × D => encD b.2) bs = cs at e hall ⊢
  clear h hm
  refine ⟨cs.map (·.1), ?_, ?_⟩
  · induction e with
    | nil => exact .nil
    | cons h1 t ih => exact .cons h1 (ih fun b hb => hall b (List.mem_cons_of_mem _ hb))
  · clear e
    induction cs with
    | nil => exact .nil
    | cons b cs ih => exact .cons (hall b List.mem_cons_self) (ih fun b hb => hall b (List.mem_cons_of_mem _ hb))
/-- values with the data that they stand for -/
theorem pairs_in {G : Hp} (I : Inv X pins σ H s) (eG : Ex G H) : ∀ {vs : List V} {ds : List D} {us : List Value}, RpL X.K Γ G vs ds → Vals vs us → (∀ d ∈ ds, toPy d = some (encD d)) → PySem.W.EachIs (fun v (b : V × D) => RelV b.1 v) us (vs.zip ds) ∧ PySem.W.EachIs (fun v (b : V × D) => ∃ as, Reads s.heap v (encD b.2) as) us (vs.zip ds) ∧ ∀ b ∈ vs.zip ds, Rp X.K Γ G b.1 b.2
  | _, _, _, .nil, .nil, _ => ⟨.nil, .nil, fun b hb => by simp at hb⟩
  | _, _, _, .cons (v := v) (d := d) h r, .cons q t, hp => by
    obtain ⟨i1, i2, i3⟩ := pairs_in I eG r t fun d hd => hp d (List.mem_cons_of_mem _ hd)
    refine ⟨.cons q i1, .cons (Dp.reads I _ _ _ (dp_mono eG (h.dp (hp d List.mem_cons_self))) q) i2, fun b hb => ?_⟩
    rcases List.mem_cons.mp hb with z | z
    · subst z; exact h
    · exact i3 b z
theorem zip_map_snd {vs : List V} {ds : List D} (h : vs.length = ds.length) : (vs.zip ds).map (·.2) = ds := List.map_snd_zip (Nat.le_of_eq h.symm)
end
/-- sorted(xs) -/
def rSortA (K : PySem.W.Frag) (Γ : Gam) : List V → Hp → VK → Prop := fun xs H Q => ∃ a vs ds es G, xs = [V.ref a] ∧ SqL K H a vs ∧ Ex G H ∧ RpL K Γ G vs ds ∧ sortD ds = some es ∧ ∀ p ys, H p = none → RpL K Γ G ys es → Q (.ref p) (upd H p (.lst ys))
section
variable {X : Cx} {Γ : Gam}
theorem isortW_len {α : Type} {le : α → α → Bool} (l : List α) : (isortW le l).length = l.length := (isortW_perm l).length_eq
theorem call_sortA (hu : X.A.units + 64 < cLine) : CallR X (.builtin "sorted") (rSortA X.K Γ) := by
  intro pins s σ H xs us Q I r h
  obtain ⟨a, vs, ds, es, G, rfl, hs, eG, rl, hso, q⟩ := h
  obtain ⟨u, rfl, ru⟩ := vals1 r
  cases ru
  obtain ⟨its, rv, hl, hz⟩ := I.list hs
  obtain ⟨s1, s2, s3, s4, rfl⟩ := sortD_inv hso
  obtain ⟨p1, p2, p3⟩ := pairs_in I eG rl rv fun d hd => (s3 d hd).2
  have e2 := zip_map_snd rl.length
  have em : (vs.zip ds).map (fun b : V × D => encD b.2) = ds.map encD := by
    rw [← e2, List.map_map, e2]
    rfl
  have hlen : (vs.zip ds).length = ds.length := by rw [List.length_zip, rl.length]; exact Nat.min_self _
  refine PySem.W.sorted_data (enc := fun b : V × D => encD b.2) (bs := vs.zip ds) hl.isList p1 p2 (by rw [em]; exact s1) (by rw [em]; exact s2) (by rw [hlen, sizeLine_eq]; exact s4) (fun b hb => ?_) fun out ho eo => ?_
  · have hb2 : b.2 ∈ ds := by
      rw [← e2]
      exact List.mem_map.mpr ⟨b, hb, rfl⟩
    have := (s3 _ hb2).1
    omega
  · obtain ⟨ys, v1, v2⟩ := sort_out p3 eo
    rw [e2] at v2
    obtain ⟨ep, he'⟩ := PyProof.Rows.sortedAll_at s.heap its out.toArray
    have hyl : ys.length ≤ sizeLine := by
      rw [v2.length, isortW_len, sizeLine_eq]
      exact s4
    exact ⟨.ref _, upd H (s.heap.objs.size + 1) (.lst ys), I.laid (t' := s.toks) (fun _ _ => PyProof.Rows.sortedAll_old) (Nat.le_succ _) ⟨hyl, out, ep, v1, he'⟩, rfl, q _ _ (I.hok.fresh (Nat.le_succ _)) v2⟩
end

mutual
theorem reads_lt {h : Heap} : ∀ {v : Value} {d : PyData} {as : List Addr}, Reads h v d as → ∀ b ∈ as, b < h.objs.size
  | _, _, _, .none, b, hb => by simp at hb
  | _, _, _, .bool _, b, hb => by simp at hb
  | _, _, _, .int _ _, b, hb => by simp at hb
  | _, _, _, .str _ _, b, hb => by simp at hb
  | _, _, _, .list h1 h2 h3 h4, b, hb => by
    rcases List.mem_cons.mp hb with z | z
    · rw [z]; exact Heap.lt_size h1
    · exact readsAll_lt h4 b z
  | _, _, _, .tuple h1 h2 h3 h4, b, hb => readsAll_lt h4 b hb
  | _, _, _, .dict h1 h2 h3 h4 h5, b, hb => by
    rcases List.mem_append.mp hb with z | z
    · rcases List.mem_cons.mp z with z | z
      · rw [z]; exact Heap.lt_size h1
      · exact readsAll_lt h4 b z
    · exact readsAll_lt h5 b z
theorem readsAll_lt {h : Heap} : ∀ {v : List Value} {d : List PyData} {as : List Addr}, ReadsAll h v d as → ∀ b ∈ as, b < h.objs.size
  | _, _, _, .nil, b, hb => by simp at hb
  | _, _, _, .cons h1 h2, b, hb => by
    rcases List.mem_append.mp hb with z | z
    · exact reads_lt h1 b z
    · exact readsAll_lt h2 b z
end
/-- sorted(d), d with tuple keys -/
def rSortT (P : Program) (w : World) (K : PySem.W.Frag) (Γ : Gam) : List V → Hp → VK → Prop := fun xs H Q => ∃ a vs kvs es G, xs = [V.ref a] ∧ KDict P w K H a vs ∧ Ex G H ∧ RpT K Γ G vs kvs ∧ sortD (kvs.map (·.1)) = some es ∧ ∀ p ys, H p = none → RpL K Γ G ys es → Q (.ref p) (upd H p (.lst ys))
section
variable {X : Cx} {Γ : Gam}
theorem t_keysL {K : PySem.W.Frag} {G : Hp} : ∀ {vs : KX} {ds : List (D × D)}, RpT K Γ G vs ds → RpL K Γ G (vs.map fun x => V.ref x.2.1) (ds.map (·.1))
  | _, _, .nil => .nil
  | _, _, .cons h1 h2 h3 t => .cons h2 (t_keysL t)
theorem keys_vals : ∀ {xs : KX} {ys : List (NestedKey × Addr × Value)}, Paired KRel xs ys → Vals (xs.map fun x => V.ref x.2.1) (ys.map fun y => Value.ref y.2.1)
  | _, _, .nil => .nil
  | _, _, .cons h t => .cons (congrArg Value.ref h.2.1).symm (keys_vals t)
theorem call_sortT (hcalm : X.calm = true) (hu : X.A.units + 64 < cLine) : CallR X (.builtin "sorted") (rSortT X.prog X.w X.K Γ) := by
  intro pins s σ H xs us Q I r h
  obtain ⟨a, vs, kvs, es, G, rfl, hd, eG, rt, hso, q⟩ := h
  obtain ⟨u, rfl, ru⟩ := vals1 r
  cases ru
  obtain ⟨ys, rel, ⟨o, es0, ep, ho, hx, hdat, hents, hkis, hnd⟩, hsys, hz⟩ := kd_open I hd
  have hraw : s.heap.DictRaw a es0 ep := ⟨o, ho, hx, hdat⟩
  have hsz : es0.size = ys.length := by rw [← Array.length_toList, hents, List.length_map]
  have hly : vs.length = ys.length := Paired.length rel
  have hn : es0.size ≤ sizeLine := by rw [hsz, ← hly]; exact hz
  refine Calls.call_function_entry PyProof.Rows.kind_sorted PyProof.Rows.plain_sorted PyProof.Rows.entry_sorted (PyProof.Rows.args_sorted1 _) ?_
  unfold Builtin.«sorted»
  refine wpAny_bind (m := checkCount "sorted" 1 1 _) (wpAny_pure ?_)
  refine wpAny_bind (PySem.W.kdu_collect (A := X.A.in1) (KdlSrc.rawDict (es := es0) (ep := ep) hsys) (I.ok.hd hcalm) hraw hn fun h' tk acc hk hacc => ?_)
  have hacl : acc.toList = ys.map fun y => Value.ref y.2.1 := by
    apply List.ext_getElem?
    intro j
    rw [List.getElem?_map]
    by_cases hj : j < ys.length
    · have hj2 : j < acc.size := by rw [hacc.1, hsz]; exact hj
      obtain ⟨hi, e⟩ := hacc.2 j acc[j] (Array.getElem?_eq_getElem hj2)
      rw [Array.getElem?_toList, Array.getElem?_eq_getElem hj2, List.getElem?_eq_getElem hj, e]
      have e3 : es0.toList[j]? = (ys.map (entryOfKey (nestedKind X.prog X.w)))[j]? := by rw [hents]
      rw [Array.getElem?_toList, Array.getElem?_eq_getElem hi, List.getElem?_map, List.getElem?_eq_getElem hj] at e3
      have e4 := Option.some.inj e3
      rw [e4]
      rfl
    · rw [List.getElem?_eq_none (by rw [Array.length_toList, hacc.1, hsz]; exact Nat.le_of_not_lt hj), List.getElem?_eq_none (Nat.le_of_not_lt hj)]
      rfl
  have rv : Vals (vs.map fun x => V.ref x.2.1) acc.toList := by rw [hacl]; exact keys_vals rel
  have I1 : Inv X pins σ H { s with heap := h', toks := tk } := I.kept hk
  obtain ⟨s1, s2, s3, s4, rfl⟩ := sortD_inv hso
  have rl := t_keysL rt
  obtain ⟨p1, p2, p3⟩ := pairs_in I1 eG rl rv fun d hd => (s3 d hd).2
  have e2 := zip_map_snd rl.length
  have em : ((vs.map fun x => V.ref x.2.1).zip (kvs.map (·.1))).map (fun b : V × D => encD b.2) = (kvs.map (·.1)).map encD := by
    rw [← e2, List.map_map, e2]
    rfl
  have hlen : ((vs.map fun x => V.ref x.2.1).zip (kvs.map (·.1))).length = (kvs.map (·.1)).length := by rw [List.length_zip, rl.length]; exact Nat.min_self _
  refine wpAny_bind (wpAny_newList ?_ (by rw [← rv.length, List.length_map]; exact hz))
  have hoL : (h'.push (seqObj "list" acc.toList.toArray 0)).get? h'.objs.size = some (seqObj "list" acc.toList.toArray 0) := Heap.get?_push_size _ rfl
  show wpAny _ _ _ _ _ { s with heap := h'.push (seqObj "list" acc.toList.toArray 0), toks := tk }
  refine wpAny_bind (wpAny_holding (PySem.W.list_sort_data (s := { s with heap := h'.push (seqObj "list" acc.toList.toArray 0), toks := tk }) (enc := fun b : V × D => encD b.2) (bs := (vs.map fun x => V.ref x.2.1).zip (kvs.map (·.1))) hoL p1
    (p2.mono fun v b ⟨as, ra⟩ => ⟨as, PyProof.Rows.Reads.keeps (fun b o e => Heap.get?_push_of_some _ e) ra, fun hm => Nat.lt_irrefl _ (reads_lt ra _ hm)⟩) (by rw [em]; exact s1) (by rw [em]; exact s2) (by rw [hlen, sizeLine_eq]; exact s4) (fun b hb => ?_) fun out ho eo => ?_))
  · have hb2 : b.2 ∈ kvs.map (·.1) := by
      rw [← e2]
      exact List.mem_map.mpr ⟨b, hb, rfl⟩
    have := (s3 _ hb2).1
    show X.A.units + 1 + 1 + _ < _
    omega
  · obtain ⟨ys', v1, v2⟩ := sort_out p3 eo
    rw [e2] at v2
    obtain ⟨e', he'⟩ := PyProof.Rows.sortedHeap_at (vs := acc.toList) (out := out.toArray) hoL
    have hyl : ys'.length ≤ sizeLine := by
      rw [v2.length, isortW_len, sizeLine_eq]
      exact s4
    refine wpAny_pure ⟨_, rfl, .ref h'.objs.size, upd H h'.objs.size (.lst ys'), I1.laid (t' := tk) (fun b u e => ?_) (Nat.le_refl _) (show ObjOk X.prog X.w _ _ _ (.lst ys') from ⟨hyl, out, e', v1, he'⟩), rfl, q _ ys' (I1.hok.fresh (Nat.le_refl _)) v2⟩
    have hb : b < h'.objs.size := Heap.lt_size e
    rw [PyProof.Rows.sortedHeap_old (Nat.ne_of_lt hb) (by rw [size_push']; exact Nat.lt_succ_of_lt hb)]
    exact Heap.get?_push_of_some _ e
end
end Dm
end -- DmSort
section -- DmDict3
set_option Elab.async false
set_option linter.all false
set_option maxRecDepth 100000
namespace Dm
open PySem PySem.Spec PyProof.Rows L2
variable [Tbs]
section
variable {X : Cx} {Γ : Gam} {W : WX} {pos : Pos}
/-! ### sorted(x), len(x) of a dict of its own -/
def mTSort (i : Nat) : MA := fun ss k kx => useT ss i fun kvs => lift (sortD (kvs.map (·.1))) fun es => k es ss
theorem l_tsort (c : Cz X W) (i : Nat) {x : Str} {p np : Pos} (hu : X.A.units + 64 < cLine) (hm : X.mg "sorted" = none) (hN : X.N[i]? = some x := by rfl) (hv : Vis X.env.scope x := by first | exact Or.inl rfl | exact Or.inr (Or.inl rfl) | exact Or.inr (Or.inr rfl)) (hd : (x == ("__debug__" : Str)) = false := by decide) (hcd : (x == ("__classdict__" : Str)) = false := by decide)
    (hb : bootBuiltins "sorted" = some (.builtin "sorted") := by decide +kernel) (hg : Gl X "sorted" := by rfl) (hs1 : starEach [.Name x np] X.env = (false, eval (.Name x np) X.env) :: starEach [] X.env := by rfl) :
    PE X (.Call (.Name "sorted" p) [.Name x np] [] pos) (rl X Γ W (mTSort i)) := by
  refine pe_weak (pe_callB (call_sortT (Γ := Γ) c.calm hu) hg hm hb (pa_cons (pe_var (pos := np) hN hv hd hcd) pa_nil hs1) (by decide) (by decide) hs1 (by rfl)) fun σ H Q h => ?_
  obtain ⟨H0, G0, G, ss, k, kx, st, hx, hmm, hk⟩ := h
  obtain ⟨kvs, e0, hmm⟩ := useT_ok hmm
  obtain ⟨es, he, hmm⟩ := lift_some hmm
  obtain ⟨a, vs, hσ, dd, rt, _, _⟩ := ot_at st e0
  refine ⟨.ref a, hσ, a, vs, kvs, es, G, rfl, dd, st.gh, rt, he, fun q ys hq rl => ?_⟩
  have f : Fr H G G (upd H q (.lst ys)) := Fr.newH st.gh hq
  exact hk es ss q ys G _ hmm (Ex.refl _) (st.le f) rl upd_same (st.gh.back hq) (st.hh.back hq) (st.noOwn hq)
/-- len(x) of what the slot owns -/
theorem call_lenT : CallR X (.builtin "len") (fun xs H Q => ∃ a vs, xs = [V.ref a] ∧ KDict X.prog X.w X.K H a vs ∧ Q (.int vs.length) H) := by
  intro pins s σ H xs us Q I r h
  obtain ⟨a, vs, rfl, hd, q⟩ := h
  obtain ⟨u, rfl, ru⟩ := vals1 r
  cases ru
  obtain ⟨ys, rel, dd, hsys, hz⟩ := kd_open I hd
  have hly : vs.length = ys.length := Paired.length rel
  refine PySem.call_len_dictH hsys dd (by rw [← hly]; rw [sizeLine_eq] at hz; omega) ?_
  rw [← hly]
  exact ⟨.int vs.length, H, I.tok _, ⟨_, rfl⟩, q⟩
theorem kv_len {K : PySem.W.Frag} {G : Hp} : ∀ {vs : List (Key × V)} {ds : List (Key × D)}, RpKV K Γ G vs ds → vs.length = ds.length
  | _, _, .nil => rfl
  | _, _, .cons _ t => by rw [List.length_cons, List.length_cons, kv_len t]
theorem d_lenO (i : Nat) {x : Str} {p np : Pos} (hm : X.mg "len" = none) (hN : X.N[i]? = some x := by rfl) (hv : Vis X.env.scope x := by first | exact Or.inl rfl | exact Or.inr (Or.inl rfl) | exact Or.inr (Or.inr rfl)) (hd : (x == ("__debug__" : Str)) = false := by decide) (hcd : (x == ("__classdict__" : Str)) = false := by decide)
    (hg : Gl X "len" := by rfl) (hs1 : starEach [.Name x np] X.env = (false, eval (.Name x np) X.env) :: starEach [] X.env := by rfl) :
    PE X (.Call (.Name "len" p) [.Name x np] [] pos) (rd X Γ W (mTLen i)) := by
  refine pe_weak (pe_callB (call_lenT.or (call_lenD.or call_len)) hg hm PySem.boot_len (pa_cons (pe_var (pos := np) hN hv hd hcd) pa_nil hs1) (by decide) (by decide) hs1 (by rfl)) fun σ H Q h => ?_
  obtain ⟨H0, G0, G, ss, k, kx, st, hx, hmm, hk⟩ := h
  unfold mTLen at hmm
  split at hmm
  · rename_i kvs e0
    obtain ⟨a, vs, hσ, dd, rt, _, _⟩ := ot_at st e0
    refine ⟨.ref a, hσ, .inl ⟨a, vs, rfl, dd, ?_⟩⟩
    exact hk _ ss _ G H hmm (Ex.refl _) st (by rw [t_len rt]; exact .int _)
  · rename_i kvs e0
    obtain ⟨o, hσ, a, vs, rfl, hH, r, _, _⟩ := st.sl i _ e0
    refine ⟨.ref a, hσ, .inr (.inl ⟨a, vs, rfl, hH, ?_⟩)⟩
    exact hk _ ss _ G H hmm (Ex.refl _) st (by rw [kv_len r]; exact .int _)
  · rename_i ds e0
    obtain ⟨o, hσ, a, vs, rfl, hH, r, _, _⟩ := st.sl i _ e0
    refine ⟨.ref a, hσ, .inr (.inr ⟨_, _, rfl, .inl ⟨vs, SqL.of hH, rfl⟩, ?_⟩)⟩
    exact hk _ ss _ G H hmm (Ex.refl _) st (by rw [r.length]; exact .int _)
  · exact hmm.elim
/-! ### a dict of its own with whole numbers and texts as keys -/
def toK : D → Option Key
  | .int i => some (.inl i)
  | .str x => some (.inr x)
  | _ => none
theorem toK_val {K : PySem.W.Frag} {G : Hp} {v : V} {d : D} {k : Key} (r : Rp K Γ G v d) (h : toK d = some k) : v = kV k := by
  cases d with
  | int i => cases h; exact r.int_inv
  | str i => cases h; exact r.str_inv
  | _ => cases h
def kAt (kvs : List (Key × D)) (k : Key) : Option D := match kvs with
  | [] => none
  | (j, d) :: r => if decide (j = k) then some d else kAt r k
def kPut (kvs : List (Key × D)) (k : Key) (d : D) : List (Key × D) := if (kAt kvs k).isSome then kvs.map (fun p => if decide (p.1 = k) then (p.1, d) else p) else kvs ++ [(k, d)]
theorem kv_at {K : PySem.W.Frag} {G : Hp} {k : Key} : ∀ {vs : List (Key × V)} {ds : List (Key × D)}, RpKV K Γ G vs ds → (∀ d, kAt ds k = some d → ∃ v, valV vs k = some v ∧ Rp K Γ G v d) ∧ (kAt ds k = none → valV vs k = none)
  | _, _, .nil => ⟨(fun _ e => by cases e), fun _ => rfl⟩
  | _, _, .cons (k := j) (v := v) (vs := vs) (d := d) (ds := ds) h t => by
    obtain ⟨i1, i2⟩ := kv_at (k := k) t
    unfold kAt
    by_cases e : j = k
    · rw [if_pos (decide_eq_true e), valV_pos e]
      exact ⟨(fun d' q => by cases q; exact ⟨v, rfl, h⟩), (fun q => by cases q)⟩
    · rw [if_neg (by simpa using e), valV_neg e]
      exact ⟨i1, i2⟩
theorem kv_map {K : PySem.W.Frag} {G : Hp} {k : Key} {v : V} {d : D} (rv : Rp K Γ G v d) : ∀ {vs : List (Key × V)} {ds : List (Key × D)}, RpKV K Γ G vs ds → RpKV K Γ G (vs.map fun kv => if kv.1 = k then (kv.1, v) else kv) (ds.map fun p => if decide (p.1 = k) then (p.1, d) else p)
  | _, _, .nil => .nil
  | _, _, .cons (k := j) h t => by
    rw [List.map_cons, List.map_cons]
    by_cases e : j = k
    · rw [if_pos e, if_pos (decide_eq_true e)]
      exact .cons rv (kv_map rv t)
    · rw [if_neg e, if_neg (by simpa using e)]
      exact .cons h (kv_map rv t)
theorem kv_app {K : PySem.W.Frag} {G : Hp} {k : Key} {v : V} {d : D} (rv : Rp K Γ G v d) : ∀ {vs : List (Key × V)} {ds : List (Key × D)}, RpKV K Γ G vs ds → RpKV K Γ G (vs ++ [(k, v)]) (ds ++ [(k, d)])
  | _, _, .nil => .cons rv .nil
  | _, _, .cons h t => .cons h (kv_app rv t)
theorem kv_put {K : PySem.W.Frag} {G : Hp} {k : Key} {v : V} {d : D} (rv : Rp K Γ G v d) {vs : List (Key × V)} {ds : List (Key × D)} (r : RpKV K Γ G vs ds) : RpKV K Γ G (putK vs k v) (kPut ds k d) := by
  obtain ⟨i1, i2⟩ := kv_at (k := k) r
  unfold putK kPut
  rw [valV_any]
  cases q : kAt ds k with
  | none =>
    rw [i2 q]
    exact kv_app rv r
  | some d' =>
    obtain ⟨v', h1, _⟩ := i1 d' q
    rw [h1]
    exact kv_map rv r
def useK (s : List SV) (i : Nat) (f : List (Key × D) → Prop) : Prop := match s[i]? with
  | some (.od kvs) => f kvs
  | _ => False
theorem useK_ok {s : List SV} {i : Nat} {f : List (Key × D) → Prop} (h : useK s i f) : ∃ kvs, s[i]? = some (.od kvs) ∧ f kvs := by
  unfold useK at h
  split at h
  · rename_i kvs e
    exact ⟨kvs, e, h⟩
  · exact h.elim
/-- x[e] = v -/
def mKPut (i : Nat) (m mv : MD) : MS := fun ss C => mv ss (fun d s => useK s i fun _ => m s (fun kd s' => useK s' i fun kvs => lift (toK kd) fun key => guard (Nat.blt kvs.length mline) (C.nx (s'.set i (.od (kPut kvs key d))))) C.kx) C.kx
theorem s_kput (i : Nat) {x : Str} {e v : Expr} {m mv : MD} {np tp : Pos} (hu : X.A.units + 64 < cLine) (he : PE X e (rd X Γ W m)) (hval : PE X v (rd X Γ W mv)) (hs : swapsWith v (some (.Subscript (.Name x np) e tp)) pos.line X.env = pure false := by rfl) (hN : X.N[i]? = some x := by rfl)
    (hv : Vis X.env.scope x := by first | exact Or.inl rfl | exact Or.inr (Or.inl rfl) | exact Or.inr (Or.inr rfl)) (hd : (x == ("__debug__" : Str)) = false := by decide) (hcd : (x == ("__classdict__" : Str)) = false := by decide) : PS X (.Assign [.Subscript (.Name x np) e tp] v pos) (rs X Γ W (mKPut i m mv)) := by
  refine ps_weak (ps_dput (by omega) (pe_var (pos := np) hN hv hd hcd) he hval hs) fun D σ H h => ?_
  obtain ⟨H0, G0, G, ss, C, st, hx, hm, h1, h2, h3, h4⟩ := h
  refine ⟨H0, G0, G, ss, _, C.kx, st, hx, hm, fun d s1 v1 G1 H1 q e1 st1 r1 => ?_⟩
  obtain ⟨kvs0, e0, q⟩ := useK_ok q
  obtain ⟨o, hσ, a, vs0, rfl, hH, r, _, _⟩ := st1.sl i _ e0
  refine ⟨.ref a, hσ, H0, G0, G1, s1, _, C.kx, st1, hx, q, fun kd s2 kv G2 H2 q e2 st2 r2 => ?_⟩
  obtain ⟨kvs, e3, q⟩ := useK_ok q
  obtain ⟨key, hkey, q⟩ := lift_some q
  obtain ⟨hl, q⟩ := guard_ok q
  obtain ⟨o', hσ', a', vs, rfl, hH', r', g, z⟩ := st2.sl i _ e3
  rw [hσ] at hσ'
  cases hσ'
  have hlen : vs.length < sizeLine := by rw [kv_len r', sizeLine_eq]; exact Nat.le_of_ble_eq_true hl
  rw [toK_val r2 hkey]
  exact ⟨a, _, rfl, DPut.k hH' hlen, h1 _ σ G2 _ q (st2.mutate e3 rfl hσ rfl g z ⟨a, _, rfl, upd_same, kv_put (r1.mono e2) r', g, z⟩)⟩
end
end Dm
end -- DmDict3
section -- DmMax
set_option Elab.async false
set_option linter.all false
set_option maxRecDepth 100000
namespace Dm
open PySem PySem.Spec PyProof.Rows L2
open PySem.W (max_list_data max_tuple_data min_list_data min_tuple_data readsAll_atA cmpIn_gt argBest_fold maxD_ints minD_ints maxD moved_old AlikeAll)
variable [Tbs]
/-! ### max(xs), min(xs): whole numbers -/
theorem reads_ints {h : Heap} : ∀ {ns : List Int} {us : List Value}, Vals (ns.map V.int) us → ReadsAll h us (ns.map .int) []
  | [], [], .nil => .nil
  | n :: ns, u :: us, .cons r t => by
    obtain ⟨k, rfl⟩ := r
    exact .cons (as := []) (bs := []) (.int n k) (reads_ints t)
theorem alike_ints (ns : List Int) : AlikeAll (ns.map PyData.int) := by
  refine ⟨fun x hx y hy => ?_, fun x hx => ?_⟩
  · obtain ⟨i, _, rfl⟩ := List.mem_map.mp hx
    obtain ⟨j, _, rfl⟩ := List.mem_map.mp hy
    rfl
  · obtain ⟨i, _, rfl⟩ := List.mem_map.mp hx
    exact fun z => nomatch z
theorem depth_ints (ns : List Int) : PyData.depthAll (ns.map PyData.int) = 0 := PySem.W.depth_ints ns
theorem reads_int {h : Heap} {v : Value} {i : Int} {bs : List Addr} (r : Reads h v (.int i) bs) : ∃ t, v = .int i t := by
  cases r with
  | int _ t => exact ⟨t, rfl⟩
section
variable {prog : Program} {w : World} {A : Around} {E : Value → Shared → Prop} {s : Shared}
theorem iter_dictW {d : Addr} {es : Array DictEntry} {ep : Nat} {Q : Value → Shared → Prop} (hh : A.handled = none) (hd : (d == sysModules) = false) (hm : s.heap.DictRaw d es ep)
    (h : ∀ s₂ : Shared, s₂ = { s with heap := s.heap.push { cls := .type "dict_keyiterator", data := .fields #[.ref d, .int 0 0, .int es.size 0, .int ep 0] } } →
      WalksS prog w A s.heap.objs.size [s.heap.objs.size, d] [s.heap.objs.size] (fun a b => b = a) es.size (fun i v => ∃ hi : i < es.size, v = es[i].key) (fun i s' => s'.heap.IsKeyIter s.heap.objs.size d i es.size ep ∧ s'.heap.DictRaw d es ep) →
      (s₂.heap.IsKeyIter s.heap.objs.size d 0 es.size ep ∧ s₂.heap.DictRaw d es ep) → (∀ b ∈ [s.heap.objs.size, d], b < s₂.heap.objs.size) → (∀ b o, s.heap.get? b = some o → b ∉ [s.heap.objs.size]) → (∀ b o, s.heap.get? b = some o → s₂.heap.get? b = some o) → Q (.ref s.heap.objs.size) s₂) :
    wpAny (model prog w) A (pyIter (.ref d)) Q E s := by
  have hlt : d < s.heap.objs.size := hm.lt_size
  refine wpAny_pyIter_dict_raw hd hm (h _ rfl (Walks.rawKeys (A := A) hh _ d (Nat.ne_of_lt hlt) es ep).toS ⟨⟨_, Heap.get?_push_size _ rfl, rfl, rfl⟩, hm.push _⟩ (fun b hb => ?_) (fun b o e hb => ?_) fun b o e => Heap.get?_push_of_some _ e)
  · show b < (s.heap.push _).objs.size
    rw [Heap.size_push]
    rcases List.mem_cons.mp hb with rfl | hb
    · exact Nat.lt_succ_self _
    · rcases List.mem_cons.mp hb with rfl | hb
      · exact Nat.lt_succ_of_lt hlt
      · cases hb
  · exact absurd (Heap.lt_size e) ((List.mem_singleton.mp hb) ▸ Nat.lt_irrefl _)
theorem max_dict_ints {d : Addr} {es : Array DictEntry} {ep : Nat} {n : Int} {ns : List Int} {Q : Value → Shared → Prop} (hh : A.handled = none) (hd : (d == sysModules) = false) (hm : s.heap.DictRaw d es ep) (hv : Vals ((n :: ns).map V.int) (es.toList.map (·.key))) (hu : A.units + 1 < cLine)
    (h : ∀ t h' tk, (∀ b o, s.heap.get? b = some o → h'.get? b = some o) → Q (.int (ns.foldl max n) t) { s with heap := h', toks := tk }) :
    wpAny (model prog w) A (call (.builtin "max") [.ref d]) Q E s := by
  have hr : ReadsAll s.heap (es.toList.map (·.key)).toArray.toList (.int n :: ns.map .int) [] := by
    rw [List.toList_toArray]
    exact reads_ints hv
  have hsz : es.size = ns.length + 1 := by
    have := hv.length
    simp at this
    omega
  have key : ∀ {i : Nat} {v : Value}, (∃ hi : i < es.size, v = es[i].key) → (es.toList.map (·.key)).toArray[i]? = some v := fun {i v} ⟨hi, e⟩ => by
    rw [e]
    simp [hi]
  refine call_max_walkH (iter_dictW (A := A.in1) hh hd hm fun s₂ e W st hfp hw hk => ?_)
  have al := alike_ints (n :: ns)
  have dz := depth_ints (n :: ns)
  refine ⟨_, _, _, _, _, _, _, s.heap, _, rfl, W, st, hfp, by omega, hw, hk, fun i j vi vj s' Q E kk hi hj hq => cmpIn_gt (A := A.in1) (prog := prog) (w := w) hr al (by rw [show PyData.depthAll (.int n :: ns.map .int) = 0 from dz]; exact hu) i j vi vj s' Q E kk (key hi) (key hj) hq, fun v s' hP m => ?_⟩
  obtain ⟨h', tk, rfl, hk'⟩ := moved_old e rfl m
  obtain ⟨bs, r, _, _, _⟩ := readsAll_atA hr _ v (key hP)
  have e1 : es.size - 1 = (ns.map PyData.int).length := by rw [List.length_map]; omega
  have e2 := (argBest_fold (fun a b => PySem.W.dataLt b a) PyData.none (PyData.int n) (ns.map PyData.int) (ns.map PyData.int).length (Nat.le_refl _)).2
  rw [List.take_length] at e2
  rw [e1, e2] at r
  have e3 := maxD_ints n ns
  unfold maxD at e3
  rw [e3] at r
  obtain ⟨t, rfl⟩ := reads_int r
  exact h t h' tk hk'
end
/-- max(xs), min(xs) -/
def rBest (K : PySem.W.Frag) (f : Int → Int → Int) : List V → Hp → VK → Prop := fun xs H Q => ∃ a n ns, xs = [V.ref a] ∧ (SqL K H a ((n :: ns).map V.int) ∨ SqT K H a ((n :: ns).map V.int) ∨ (∃ kvs, Rd H a (.dK kvs) ∧ kvs.map (·.1) = (n :: ns).map Sum.inl)) ∧ Q (.int (ns.foldl f n)) H
section
variable {X : Cx} {Γ : Gam}
theorem call_maxA (hcalm : X.calm = true) (hu : X.A.units + 64 < cLine) : CallR X (.builtin "max") (rBest X.K max) := by
  intro pins s σ H xs us Q I r h
  obtain ⟨a, n, ns, rfl, h, q⟩ := h
  obtain ⟨u, rfl, ru⟩ := vals1 r
  cases ru
  rcases h with h | h | ⟨kvs, h, hk⟩
  · obtain ⟨its, rv, pl, hz⟩ := I.list h
    refine max_list_data (x := .int n) (xs := ns.map .int) (I.ok.hd hcalm) pl.isList (by rw [List.toList_toArray]; exact reads_ints rv) (alike_ints (n :: ns)) (by rw [show PyData.depthAll (.int n :: ns.map .int) = 0 from depth_ints (n :: ns)]; omega) fun i v h' tk bs _ r hk => ?_
    rw [maxD_ints] at r
    obtain ⟨t, rfl⟩ := reads_int r
    exact ⟨.int _, H, I.kept hk, ⟨t, rfl⟩, q⟩
  · obtain ⟨its, rv, pl, hz⟩ := I.tuple h
    refine max_tuple_data (x := .int n) (xs := ns.map .int) (vs := its.toArray) (I.ok.hd hcalm) pl (by rw [List.toList_toArray]; exact reads_ints rv) (alike_ints (n :: ns)) (by rw [show PyData.depthAll (.int n :: ns.map .int) = 0 from depth_ints (n :: ns)]; omega) fun i v h' tk bs _ r hk => ?_
    rw [maxD_ints] at r
    obtain ⟨t, rfl⟩ := reads_int r
    exact ⟨.int _, H, I.kept hk, ⟨t, rfl⟩, q⟩
  · obtain ⟨z, lo, vs, rel, dd⟩ := dk_rd I.hok h
    obtain ⟨es, ep, hraw, hsz, hent⟩ := dd.raw
    have hkeys : vs.map (·.1) = (n :: ns).map Sum.inl := rel.keys.symm.trans hk
    have hv : Vals ((n :: ns).map V.int) (es.toList.map (·.key)) := by
      have hl : es.toList.length = (n :: ns).length := by
        have e := congrArg List.length hkeys
        rw [List.length_map, List.length_map] at e
        rw [Array.length_toList, hsz, e]
      have go : ∀ (ms : List Int) (ds : List DictEntry) (k : Nat), ds.length = ms.length → (∀ (j : Nat) (m : Int), ms[j]? = some m → (n :: ns)[k + j]? = some m) → (∀ (j : Nat) (d : DictEntry), ds[j]? = some d → es[k + j]? = some d) → Vals (ms.map V.int) (ds.map (·.key)) := by
        intro ms
        induction ms with
        | nil =>
          intro ds k hl _ _
          cases ds with
          | nil => exact .nil
          | cons _ _ => simp at hl
        | cons m ms ih =>
          intro ds k hl h1 h2
          cases ds with
          | nil => simp at hl
          | cons d ds =>
            refine .cons ?_ (ih ds (k + 1) (by simpa using hl) (fun j m' e => ?_) fun j d' e => ?_)
            · have e1 := h1 0 m rfl
              have e2 := h2 0 d rfl
              rw [Nat.add_zero] at e1 e2
              have hi : k < es.size := by
                obtain ⟨hi, _⟩ := Array.getElem?_eq_some_iff.mp e2
                exact hi
              have e3 : (vs.map (·.1))[k]? = some (Sum.inl m) := by rw [hkeys, List.getElem?_map, e1]; rfl
              rw [List.getElem?_map] at e3
              cases e4 : vs[k]? with
              | none => rw [e4] at e3; cases e3
              | some kv =>
                rw [e4] at e3
                obtain ⟨kk, vv⟩ := kv
                cases Option.some.inj e3
                obtain ⟨e5, _⟩ := hent k hi _ vv e4
                rw [Array.getElem?_eq_getElem hi] at e2
                cases Option.some.inj e2
                rcases keyIs_shape (show keyIs (Sum.inl m) es[k].key = true from e5) with ⟨i, t, ek, ev⟩ | ⟨x, t, ek, ev⟩
                · cases ek
                  exact ⟨t, ev⟩
                · cases ek
            · have := h1 (j + 1) m' (by simpa using e)
              rw [show k + 1 + j = k + (j + 1) by omega]
              exact this
            · have := h2 (j + 1) d' (by simpa using e)
              rw [show k + 1 + j = k + (j + 1) by omega]
              exact this
      refine go (n :: ns) es.toList 0 hl (fun j m e => by rw [Nat.zero_add]; exact e) fun j d e => ?_
      rw [Nat.zero_add]
      rw [Array.getElem?_toList] at e
      exact e
    refine max_dict_ints (I.ok.hd hcalm) lo hraw hv (by omega) fun t h' tk hk => ?_
    exact ⟨.int _, H, I.kept hk, ⟨t, rfl⟩, q⟩
theorem call_minA (hcalm : X.calm = true) (hu : X.A.units + 64 < cLine) : CallR X (.builtin "min") (fun xs H Q => ∃ a n ns, xs = [V.ref a] ∧ (SqL X.K H a ((n :: ns).map V.int) ∨ SqT X.K H a ((n :: ns).map V.int)) ∧ Q (.int (ns.foldl min n)) H) := by
  intro pins s σ H xs us Q I r h
  obtain ⟨a, n, ns, rfl, h, q⟩ := h
  obtain ⟨u, rfl, ru⟩ := vals1 r
  cases ru
  rcases h with h | h
  · obtain ⟨its, rv, pl, hz⟩ := I.list h
    refine min_list_data (x := .int n) (xs := ns.map .int) (I.ok.hd hcalm) pl.isList (by rw [List.toList_toArray]; exact reads_ints rv) (alike_ints (n :: ns)) (by rw [show PyData.depthAll (.int n :: ns.map .int) = 0 from depth_ints (n :: ns)]; omega) fun i v h' tk bs _ r hk => ?_
    rw [minD_ints] at r
    obtain ⟨t, rfl⟩ := reads_int r
    exact ⟨.int _, H, I.kept hk, ⟨t, rfl⟩, q⟩
  · obtain ⟨its, rv, pl, hz⟩ := I.tuple h
    refine min_tuple_data (x := .int n) (xs := ns.map .int) (vs := its.toArray) (I.ok.hd hcalm) pl (by rw [List.toList_toArray]; exact reads_ints rv) (alike_ints (n :: ns)) (by rw [show PyData.depthAll (.int n :: ns.map .int) = 0 from depth_ints (n :: ns)]; omega) fun i v h' tk bs _ r hk => ?_
    rw [minD_ints] at r
    obtain ⟨t, rfl⟩ := reads_int r
    exact ⟨.int _, H, I.kept hk, ⟨t, rfl⟩, q⟩
end
/-- over data -/
def intsOf : List D → Option (List Int)
  | [] => some []
  | .int b :: r => (intsOf r).map (b :: ·)
  | _ :: _ => none
theorem ints_rel {K : PySem.W.Frag} {Γ : Gam} {G : Hp} : ∀ {vs : List V} {ds : List D} {bs : List Int}, RpL K Γ G vs ds → intsOf ds = some bs → vs = bs.map V.int
  | _, _, _, .nil, h => by cases h; rfl
  | _, _, _, .cons (d := d) (ds := ds) r t, h => by
    cases d with
    | int b =>
      unfold intsOf at h
      cases q : intsOf ds with
      | none => rw [q] at h; cases h
      | some cs =>
        rw [q] at h
        cases h
        rw [r.int_inv, ints_rel t q]
        rfl
    | _ => cases h
def bestD (f : Int → Int → Int) : List D → Option D := fun ds => match ds with
  | [d] => match seqOf d with
    | some xs => match intsOf xs with
      | some (n :: ns) => some (.int (ns.foldl f n))
      | _ => none
    | none => none
  | _ => none
theorem best_inv {f : Int → Int → Int} {ds : List D} {d : D} (h : bestD f ds = some d) : ∃ d0 xs n ns, ds = [d0] ∧ seqOf d0 = some xs ∧ intsOf xs = some (n :: ns) ∧ d = .int (ns.foldl f n) := by
  unfold bestD at h
  split at h
  · rename_i d0
    split at h
    · rename_i xs h1
      split at h
      · rename_i n ns h2
        cases h
        exact ⟨_, _, _, _, rfl, h1, h2, rfl⟩
      · cases h
    · cases h
  · cases h
theorem prim_max {K : PySem.W.Frag} {Γ : Gam} : PrimC K Γ (rBest K max) (bestD max) := by
  intro G H vs ds d Q e r hF q
  obtain ⟨d0, xs, n, ns, rfl, h1, h2, rfl⟩ := best_inv hF
  obtain ⟨v, rfl, rv⟩ := r.one_inv
  obtain ⟨a, sq, ws, rfl, hs, hr⟩ := seq_at rv h1
  have ew := ints_rel hr h2
  subst ew
  refine ⟨a, n, ns, rfl, ?_, q _ G H (Fr.refl e) (.int _)⟩
  cases sq with
  | l => exact .inl (ex_l e hs)
  | t => exact .inr (.inl (ex_t e hs))
theorem prim_min {K : PySem.W.Frag} {Γ : Gam} : PrimC K Γ (fun xs H Q => ∃ a n ns, xs = [V.ref a] ∧ (SqL K H a ((n :: ns).map V.int) ∨ SqT K H a ((n :: ns).map V.int)) ∧ Q (.int (ns.foldl min n)) H) (bestD min) := by
  intro G H vs ds d Q e r hF q
  obtain ⟨d0, xs, n, ns, rfl, h1, h2, rfl⟩ := best_inv hF
  obtain ⟨v, rfl, rv⟩ := r.one_inv
  obtain ⟨a, sq, ws, rfl, hs, hr⟩ := seq_at rv h1
  have ew := ints_rel hr h2
  subst ew
  refine ⟨a, n, ns, rfl, ?_, q _ G H (Fr.refl e) (.int _)⟩
  cases sq with
  | l => exact .inl (ex_l e hs)
  | t => exact .inr (ex_t e hs)
/-- max(x), x a dict of its own -/
def intKeys : List (Key × D) → Option (List Int)
  | [] => some []
  | (.inl i, _) :: r => (intKeys r).map (i :: ·)
  | (.inr _, _) :: _ => none
theorem intKeys_ok : ∀ {r : List (Key × D)} {ns : List Int}, intKeys r = some ns → r.map (·.1) = ns.map Sum.inl
  | [], ns, h => by cases h; rfl
  | (.inl i, d) :: r, ns, h => by
    unfold intKeys at h
    cases q : intKeys r with
    | none => rw [q] at h; cases h
    | some ms =>
      rw [q] at h
      cases h
      rw [List.map_cons, intKeys_ok q]
      rfl
  | (.inr x, d) :: r, ns, h => by cases h
def mKMax (i : Nat) : MD := fun ss k _ => useK ss i fun kvs => lift (intKeys kvs) fun ks => match ks with
  | n :: ns => k (.int (ns.foldl max n)) ss
  | [] => False
section
variable {X : Cx} {Γ : Gam} {W : WX} {pos : Pos}
theorem kv_fst {K : PySem.W.Frag} {G : Hp} : ∀ {vs : List (Key × V)} {ds : List (Key × D)}, RpKV K Γ G vs ds → vs.map (·.1) = ds.map (·.1)
  | _, _, .nil => rfl
  | _, _, .cons _ t => by rw [List.map_cons, List.map_cons, kv_fst t]
theorem d_kmax (c : Cz X W) (i : Nat) {x : Str} {p np : Pos} (hu : X.A.units + 64 < cLine) (hm : X.mg "max" = none) (hN : X.N[i]? = some x := by rfl) (hv : Vis X.env.scope x := by first | exact Or.inl rfl | exact Or.inr (Or.inl rfl) | exact Or.inr (Or.inr rfl)) (hd : (x == ("__debug__" : Str)) = false := by decide) (hcd : (x == ("__classdict__" : Str)) = false := by decide)
    (hb : bootBuiltins "max" = some (.builtin "max") := by decide +kernel) (hg : Gl X "max" := by rfl) (hs1 : starEach [.Name x np] X.env = (false, eval (.Name x np) X.env) :: starEach [] X.env := by rfl) :
    PE X (.Call (.Name "max" p) [.Name x np] [] pos) (rd X Γ W (mKMax i)) := by
  refine pe_weak (pe_callB (call_maxA c.calm hu) hg hm hb (pa_cons (pe_var (pos := np) hN hv hd hcd) pa_nil hs1) (by decide) (by decide) hs1 (by rfl)) fun σ H Q h => ?_
  obtain ⟨H0, G0, G, ss, k, kx, st, hx, hmm, hk⟩ := h
  obtain ⟨kvs, e0, hmm⟩ := useK_ok hmm
  obtain ⟨o, hσ, a, vs, rfl, hH, r, _, _⟩ := st.sl i _ e0
  obtain ⟨ks, e1, hmm⟩ := lift_some hmm
  have e2 := intKeys_ok e1
  cases ks with
  | nil => exact hmm.elim
  | cons n ns =>
    refine ⟨.ref a, hσ, a, n, ns, rfl, .inr (.inr ⟨vs, .inl hH, ?_⟩), hk _ ss _ G H hmm (Ex.refl _) st (.int _)⟩
    rw [kv_fst r]
    exact e2
end
end Dm
end -- DmMax
section -- DmAsg
set_option Elab.async false
set_option linter.all false
set_option maxRecDepth 100000
namespace Dm
open PySem PySem.Spec PyProof.Rows L2
variable [Tbs]

/-! ### a value to be stored: data, a new list, a new dict -/
abbrev MV := List SV → (SV → List SV → Prop) → (XD → Prop) → Prop
section
variable (X : Cx) (Γ : Gam) (W : WX)
def rv (m : MV) : TE := fun σ H Q => ∃ H0 G0 G ss k kx, StR X.prog X.w X.K Γ H0 G0 G H σ ss ∧ XOk X.K Γ H0 G0 W kx ∧ m ss k kx ∧
  ∀ s ss' v G' H', k s ss' → Ex G G' → StR X.prog X.w X.K Γ H0 G0 G' H' σ ss' → SlotR X.prog X.w X.K Γ H0 G' H' (some v) s → (∀ a, s.own = true → v = .ref a → ∀ (i : Nat) (t : SV), ss'[i]? = some t → t.own = true → σ[i]? ≠ some (some (.ref a))) → Q v H'
end
section
variable {P : Program} {w : World} {K : PySem.W.Frag} {Γ : Gam} {H0 G0 G H : Hp} {σ : L2.St} {ss : List SV}
theorem StR.setV (st : StR P w K Γ H0 G0 G H σ ss) {i : Nat} {v : V} {s : SV} (r : SlotR P w K Γ H0 G H (some v) s) (no : ∀ a, s.own = true → v = .ref a → ∀ (j : Nat) (t : SV), j ≠ i → ss[j]? = some t → t.own = true → σ[j]? ≠ some (some (.ref a))) : StR P w K Γ H0 G0 G H (σ.set i (some v)) (ss.set i s) := by
  cases s with
  | d x =>
    obtain ⟨v', e, r⟩ := r
    cases e
    exact st.setD r
  | un =>
    have st1 := (st.setD (i := i) (v := .non) (d := .non) .non).drop i
    refine ⟨st.toFr, by rw [List.length_set, List.length_set]; exact st.len, fun j t e => ?_, fun j k t u b e1 e2 o1 o2 h1 h2 => ?_, st.tbs⟩
    · by_cases q : i = j
      · subst q
        have hl : i < ss.length := by
          have := (List.getElem?_eq_some_iff.mp e).1
          rwa [List.length_set] at this
        rw [List.getElem?_set_self hl] at e
        cases e
        exact ⟨_, List.getElem?_set_self (by rw [st.len]; exact hl), trivial⟩
      · rw [List.getElem?_set_ne q] at e ⊢
        exact st.sl j t e
    · have nd : ∀ {j : Nat} {t : SV}, (ss.set i .un)[j]? = some t → t.own = true → i ≠ j ∧ ss[j]? = some t := fun {j t} e o => by
        by_cases q : i = j
        · subst q
          have hl : i < ss.length := by
            have := (List.getElem?_eq_some_iff.mp e).1
            rwa [List.length_set] at this
          rw [List.getElem?_set_self hl] at e
          cases e; cases o
        · rw [List.getElem?_set_ne q] at e; exact ⟨q, e⟩
      obtain ⟨n1, e1⟩ := nd e1 o1
      obtain ⟨n2, e2⟩ := nd e2 o2
      rw [List.getElem?_set_ne n1] at h1
      rw [List.getElem?_set_ne n2] at h2
      exact st.ow j k t u b e1 e2 o1 o2 h1 h2
  | ol ds =>
    obtain ⟨a, vs, e, h⟩ := id r
    cases e
    exact st.setO r fun j t hj et ho => no a rfl rfl j t hj et ho
  | od ds =>
    obtain ⟨a, vs, e, h⟩ := id r
    cases e
    exact st.setO r fun j t hj et ho => no a rfl rfl j t hj et ho
  | ot ds =>
    obtain ⟨a, vs, e, h⟩ := id r
    cases e
    exact st.setO r fun j t hj et ho => no a rfl rfl j t hj et ho
theorem XOk.addH0 {W : WX} {kx : XD → Prop} {a : Addr} {o : HO} (x : XOk K Γ H0 G0 W kx) (z : H0 a = none) : XOk K Γ (upd H0 a o) G0 W kx := fun y hy cls d σ G H f r => x y hy cls d σ G H ⟨f.gh, (Ex.new z).trans f.hh, f.gg, fun b u e => by
  rcases f.fr b u e with h | h | h
  · exact .inl h
  · refine .inr (.inl ?_)
    by_cases q : b = a
    · rw [q]; exact z
    · rw [upd_ne q] at h; exact h
  · exact .inr (.inr h)⟩ r
/-- what an owned slot holds, with its object -/
theorem SlotR.own_at {v : V} {s : SV} (r : SlotR P w K Γ H0 G H (some v) s) (ho : s.own = true) : ∃ a o, v = .ref a ∧ H a = some o ∧ NT o ∧ G a = none ∧ H0 a = none ∧ ∀ G' H', Ex G G' → G' a = none → H' a = some o → SlotR P w K Γ H0 G' H' (some v) s := by
  cases s with
  | un => cases ho
  | d x => cases ho
  | ol ds =>
    obtain ⟨a, vs, e, h, r, g, z⟩ := r
    cases e
    exact ⟨a, _, rfl, h, nt_of rfl, g, z, fun G' H' e g' h' => ⟨a, vs, rfl, h', r.mono e, g', z⟩⟩
  | od ds =>
    obtain ⟨a, vs, e, h, r, g, z⟩ := r
    cases e
    exact ⟨a, _, rfl, h, nt_of rfl, g, z, fun G' H' e g' h' => ⟨a, vs, rfl, h', r.mono e, g', z⟩⟩
  | ot ds =>
    obtain ⟨a, vs, e, h, r, g, z⟩ := r
    cases e
    exact ⟨a, _, rfl, h, nt_KD, g, z, fun G' H' e g' h' => ⟨a, vs, rfl, h', r.mono e, g', z⟩⟩
theorem SlotR.unH0 {a : Addr} {o : HO} {v : Option V} {s : SV} (z : H0 a = none) (r : SlotR P w K Γ (upd H0 a o) G H v s) : SlotR P w K Γ H0 G H v s := by
  have back : ∀ b, upd H0 a o b = none → H0 b = none := fun b h => by
    by_cases q : b = a
    · rw [q]; exact z
    · rw [upd_ne q] at h; exact h
  cases s with
  | un => trivial
  | d x => exact r
  | ol ds => obtain ⟨b, vs, e, h, r, g, z'⟩ := r; exact ⟨b, vs, e, h, r, g, back b z'⟩
  | od ds => obtain ⟨b, vs, e, h, r, g, z'⟩ := r; exact ⟨b, vs, e, h, r, g, back b z'⟩
  | ot ds => obtain ⟨b, vs, e, h, r, g, z'⟩ := r; exact ⟨b, vs, e, h, r, g, back b z'⟩
end
section
variable {X : Cx} {Γ : Gam} {W : WX} {pos : Pos}
def mVD (m : MD) : MV := fun ss k kx => m ss (fun d s => k (.d d) s) kx
def mVL (m : MA) : MV := fun ss k kx => m ss (fun ds s => k (.ol ds) s) kx
def mVT : MV := fun ss k _ => k (.ot []) ss
def mVK : MV := fun ss k _ => k (.od []) ss
theorem v_d {e : Expr} {m : MD} (h : PE X e (rd X Γ W m)) : PE X e (rv X Γ W (mVD m)) := pe_weak h fun σ H Q h => by
  obtain ⟨H0, G0, G, ss, k, kx, st, hx, hm, hk⟩ := h
  exact ⟨H0, G0, G, ss, _, kx, st, hx, hm, fun d s v G' H' q e st' r => hk _ s v G' H' q e st' ⟨v, rfl, r⟩ fun a ho => by cases ho⟩
theorem v_l {e : Expr} {m : MA} (h : PE X e (rl X Γ W m)) : PE X e (rv X Γ W (mVL m)) := pe_weak h fun σ H Q h => by
  obtain ⟨H0, G0, G, ss, k, kx, st, hx, hm, hk⟩ := h
  exact ⟨H0, G0, G, ss, _, kx, st, hx, hm, fun ds s a vs G' H' q e st' r hH g z no => hk _ s _ G' H' q e st' ⟨a, vs, rfl, hH, r, g, z⟩ fun b _ eb i t et ho => by cases eb; exact no i t et ho⟩
theorem v_t : PE X (.Dict [] [] pos) (rv X Γ W mVT) := pe_weak pe_tnew fun σ H Q h => by
  obtain ⟨H0, G0, G, ss, k, kx, st, hx, hm, hk⟩ := h
  intro p hp
  exact hk _ ss _ G _ hm (Ex.refl _) (st.le (Fr.newH st.gh hp)) ⟨p, [], rfl, upd_same, .nil, st.gh.back hp, st.hh.back hp⟩ fun b _ eb i t et ho => by cases eb; exact st.noOwn hp i t et ho
theorem v_k : PE X (.Dict [] [] pos) (rv X Γ W mVK) := pe_weak pe_dnewK fun σ H Q h => by
  obtain ⟨H0, G0, G, ss, k, kx, st, hx, hm, hk⟩ := h
  intro p hp
  exact hk _ ss _ G _ hm (Ex.refl _) (st.le (Fr.newH st.gh hp)) ⟨p, [], rfl, upd_same, .nil, st.gh.back hp, st.hh.back hp⟩ fun b _ eb i t et ho => by cases eb; exact st.noOwn hp i t et ho
/-- two values, one after the other -/
def mPair (m1 m2 : MV) (k : SV → SV → List SV → Prop) (kx : XD → Prop) (ss : List SV) : Prop := m1 ss (fun s1 t1 => m2 t1 (fun s2 t2 => k s1 s2 t2) kx) kx
/-- x, y = a, b -/
def mPar (i j : Nat) (m1 m2 : MV) : MS := fun ss C => mPair m1 m2 (fun s1 s2 t => C.nx ((t.set i s1).set j s2)) C.kx ss
theorem s_par (c : Cz X W) (i j : Nat) {x y : Str} {a b : Expr} {m1 m2 : MV} {px py pt : Pos} {kt k2 pt2} (ha : PE X a (rv X Γ W m1)) (hb : PE X b (rv X Γ W m2)) (hw : swappedStores [.Tuple [.Name x px, .Name y py] kt pt] (.Tuple [a, b] k2 pt2) X.env = pure (some [x, y]))
    (hij : i ≠ j := by decide) (hi : X.N[i]? = some x := by rfl) (hj : X.N[j]? = some y := by rfl) (hx : X.env.scope.names.lookup x = some .local := by rfl) (hy : X.env.scope.names.lookup y = some .local := by rfl)
    (hs : swapsWithSole [.Tuple [.Name x px, .Name y py] kt pt] (.Tuple [a, b] k2 pt2) pos.line X.env = pure false := by rfl) (h1 : starEach [a, b] X.env = (false, eval a X.env) :: starEach [b] X.env := by rfl) (h2 : starEach [b] X.env = (false, eval b X.env) :: starEach [] X.env := by rfl) :
    PS X (.Assign [.Tuple [.Name x px, .Name y py] kt pt] (.Tuple [a, b] k2 pt2) pos) (rs X Γ W (mPar i j m1 m2)) := by
  refine ps_weak (ps_par c.calm c.nd hi hj hij hx hy (pa_cons ha (pa_cons hb pa_nil h2) h1) hw hs) fun D σ H h => ?_
  obtain ⟨H0, G0, G, ss, C, st, hxk, hm, h1, h2, h3, h4⟩ := h
  refine ⟨H0, G0, G, ss, _, C.kx, st, hxk, hm, fun s1 t1 v1 G1 H1 q e1 st1 r1 no1 => ?_⟩
  cases ho : s1.own with
  | false =>
    refine ⟨H0, G0, G1, t1, _, C.kx, st1, hxk, q, fun s2 t2 v2 G2 H2 q2 e2 st2 r2 no2 => ⟨v1, v2, rfl, ?_⟩⟩
    have r1' : SlotR X.prog X.w X.K Γ H0 G2 H2 (some v1) s1 := by
      cases s1 with
      | un => trivial
      | d x => obtain ⟨y, ey, ry⟩ := r1; exact ⟨y, ey, ry.mono e2⟩
      | ol _ => cases ho
      | od _ => cases ho
      | ot _ => cases ho
    have stA := st2.setV (i := i) r1' fun a h => by rw [ho] at h; cases h
    refine h1 _ _ G2 H2 q2 (stA.setV (i := j) r2 fun a h ea k t hk et ht => ?_)
    by_cases qi : k = i
    · subst qi
      have hl : k < t2.length := by
        have := (List.getElem?_eq_some_iff.mp et).1
        rwa [List.length_set] at this
      rw [List.getElem?_set_self hl] at et
      cases et
      rw [ho] at ht
      cases ht
    · rw [List.getElem?_set_ne (Ne.symm qi)] at et ⊢
      exact no2 a h ea k t et ht
  | true =>
    obtain ⟨a, o, rfl, hH, hn, hg, hz, hback⟩ := r1.own_at ho
    have st1' := st1.addH0 hH hn hg fun k t et ht => no1 a ho rfl k t et ht
    refine ⟨upd H0 a o, G0, G1, t1, _, C.kx, st1', hxk.addH0 hz, q, fun s2 t2 v2 G2 H2 q2 e2 st2 r2 no2 => ⟨.ref a, v2, rfl, ?_⟩⟩
    have gA : G0 a = none := st1.gg.back hg
    have g2 : G2 a = none := st2.noG upd_same hn gA
    have hA : H2 a = some o := st2.hh.at upd_same hn
    have nA := st2.noOwn0 (a := a) (o := o) upd_same
    have st3 := st2.delH0 hz
    have r1' := hback G2 H2 e2 g2 hA
    have stA := st3.setV (i := i) r1' fun b h eb k t hk et ht => by cases eb; exact nA k t et ht
    refine h1 _ _ G2 H2 q2 (stA.setV (i := j) (r2.unH0 hz) fun b h eb k t hk et ht => ?_)
    by_cases qi : k = i
    · subst qi
      have hl : k < t2.length := by
        have := (List.getElem?_eq_some_iff.mp et).1
        rwa [List.length_set] at this
      rw [List.getElem?_set_self (by rw [st2.len]; exact hl)]
      intro z
      have zb : a = b := by
        injection z with z
        injection z with z
        injection z
      subst zb
      subst eb
      obtain ⟨b', u, e3, _, _, z3, _⟩ := r2.owned h
      cases e3
      rw [upd_same] at z3
      cases z3
    · rw [List.getElem?_set_ne (Ne.symm qi)] at et ⊢
      exact no2 b h eb k t et ht
end
/-! ### x, y, z = a, b, c -/
def tPar3 (i j k : Nat) (ta : TA) : TS := fun D σ H => ta σ H fun vs H1 => ∃ u v w, vs = [u, v, w] ∧ D.nx (((σ.set i (some u)).set j (some v)).set k (some w)) H1
section
variable {X : Cx} {Γ : Gam} {W : WX} {pos : Pos}
theorem ps_par3 {i j k : Nat} {x y z : Str} {a b c : Expr} {ta : TA} {px py pz pt : Pos} {kt k2 pt2} (hc : X.calm = true) (hN : X.N.Nodup) (hi : X.N[i]? = some x) (hj : X.N[j]? = some y) (hk : X.N[k]? = some z) (hij : i ≠ j) (hik : i ≠ k) (hjk : j ≠ k)
    (hx : X.env.scope.names.lookup x = some .local) (hy : X.env.scope.names.lookup y = some .local) (hz : X.env.scope.names.lookup z = some .local) (ha : PA X [a, b, c] ta)
    (hw : swappedStores [.Tuple [.Name x px, .Name y py, .Name z pz] kt pt] (.Tuple [a, b, c] k2 pt2) X.env = pure (some [x, y, z]))
    (hs : swapsWithSole [.Tuple [.Name x px, .Name y py, .Name z pz] kt pt] (.Tuple [a, b, c] k2 pt2) pos.line X.env = pure false) :
    PS X (.Assign [.Tuple [.Name x px, .Name y py, .Name z pz] kt pt] (.Tuple [a, b, c] k2 pt2) pos) (tPar3 i j k ta) := by
  refine ⟨fun pins s σ H D I h => ?_⟩
  rw [exec_Assign_arm]
  refine wpAny_bind (wpAny_standAt ?_)
  rw [hs]
  refine wpAny_bind (wpAny_pure ?_)
  rw [if_neg (by decide)]
  refine wpAny_bind (Tuple_ (thn (ha.run _ pins s σ H _ I h) fun us s1 ⟨vs, H1, I1, r1, q1⟩ => ?_))
  obtain ⟨t1, t2, t3, e1, q1⟩ := q1
  subst e1
  obtain ⟨u1, u2, u3, rfl, rx, ry, rz⟩ : ∃ u1 u2 u3, us = [u1, u2, u3] ∧ RelV t1 u1 ∧ RelV t2 u2 ∧ RelV t3 u3 := by
    cases r1 with
    | cons p q =>
      cases q with
      | cons p' q' =>
        cases q' with
        | cons p'' q'' =>
          cases q''
          exact ⟨_, _, _, rfl, p, p', p''⟩
  refine wpAny_newObj_type ?_ (by show 3 ≤ sizeLine; decide)
  have I2 : Inv X pins σ H1 { s1 with heap := s1.heap.push { cls := .type "tuple", data := .seq [u1, u2, u3].toArray } } := I1.kept (t' := s1.toks) fun b o e => Heap.get?_push_of_some _ e
  rw [hw]
  refine wpAny_bind (wpAny_pure ?_)
  show wpAny (model X.prog X.w) X.A (do rule "assign.swapped-stores"; let items ← unpackItems (.ref s1.heap.objs.size) 3 none; assignInOrder [fun v => bindName X.env z v, fun v => bindName X.env y v, fun v => bindName X.env x v] items.reverse; pure Flow.next) _ _ _
  refine wpAny_bind (wpAny_rule (wpAny_bind (unpackItems_tuple (items := #[u1, u2, u3]) (I.ok.hd hc) (IsTup.new s1.heap _) fun h' hx' => ?_)))
  have I3 := I2.kept (h' := h') (t' := s1.toks) fun b o e => hx' b o (Nat.ne_of_lt (Heap.lt_size e)) e
  show wpAny _ _ (assignInOrder [fun v => bindName X.env z v, fun v => bindName X.env y v, fun v => bindName X.env x v] [u3, u2, u1] >>= fun _ => pure Flow.next) _ _ _
  refine wpAny_bind (assignInOrder_cons (wpAny_bindName (store_ok I3 hN hk (.inl hz) rz (fun s2 I4 => ?_) (.inr hz))))
  refine assignInOrder_cons (wpAny_bindName (store_ok I4 hN hj (.inl hy) ry (fun s3 I5 => ?_) (.inr hy)))
  refine assignInOrder_cons (wpAny_bindName (store_ok I5 hN hi (.inl hx) rx (fun s4 I6 => assignInOrder_nil (wpAny_pure ?_)) (.inr hx)))
  rw [List.set_comm _ _ (Ne.symm hij), List.set_comm _ _ (Ne.symm hik), List.set_comm _ _ (Ne.symm hjk)] at I6
  exact ⟨_, H1, I6, q1⟩
def mPar3 (i j k : Nat) (m1 m2 m3 : MD) : MS := fun ss C => m1 ss (fun d1 t1 => m2 t1 (fun d2 t2 => m3 t2 (fun d3 t3 => C.nx (((t3.set i (.d d1)).set j (.d d2)).set k (.d d3))) C.kx) C.kx) C.kx
theorem s_par3 (c0 : Cz X W) (i j k : Nat) {x y z : Str} {a b c : Expr} {m1 m2 m3 : MD} {px py pz pt : Pos} {kt k2 pt2} (ha : PE X a (rd X Γ W m1)) (hb : PE X b (rd X Γ W m2)) (hc : PE X c (rd X Γ W m3))
    (hw : swappedStores [.Tuple [.Name x px, .Name y py, .Name z pz] kt pt] (.Tuple [a, b, c] k2 pt2) X.env = pure (some [x, y, z])) (hij : i ≠ j := by decide) (hik : i ≠ k := by decide) (hjk : j ≠ k := by decide) (hi : X.N[i]? = some x := by rfl) (hj : X.N[j]? = some y := by rfl) (hk : X.N[k]? = some z := by rfl)
    (hx : X.env.scope.names.lookup x = some .local := by rfl) (hy : X.env.scope.names.lookup y = some .local := by rfl) (hz : X.env.scope.names.lookup z = some .local := by rfl) (hs : swapsWithSole [.Tuple [.Name x px, .Name y py, .Name z pz] kt pt] (.Tuple [a, b, c] k2 pt2) pos.line X.env = pure false := by rfl)
    (h1 : starEach [a, b, c] X.env = (false, eval a X.env) :: starEach [b, c] X.env := by rfl) (h2 : starEach [b, c] X.env = (false, eval b X.env) :: starEach [c] X.env := by rfl) (h3 : starEach [c] X.env = (false, eval c X.env) :: starEach [] X.env := by rfl) :
    PS X (.Assign [.Tuple [.Name x px, .Name y py, .Name z pz] kt pt] (.Tuple [a, b, c] k2 pt2) pos) (rs X Γ W (mPar3 i j k m1 m2 m3)) := by
  refine ps_weak (ps_par3 c0.calm c0.nd hi hj hk hij hik hjk hx hy hz (pa_cons ha (pa_cons hb (pa_cons hc pa_nil h3) h2) h1) hw hs) fun D σ H h => ?_
  obtain ⟨H0, G0, G, ss, C, st, hxk, hm, g1, g2, g3, g4⟩ := h
  refine ⟨H0, G0, G, ss, _, C.kx, st, hxk, hm, fun d1 t1 v1 G1 H1 q1 e1 st1 r1 => ⟨H0, G0, G1, t1, _, C.kx, st1, hxk, q1, fun d2 t2 v2 G2 H2 q2 e2 st2 r2 => ⟨H0, G0, G2, t2, _, C.kx, st2, hxk, q2, fun d3 t3 v3 G3 H3 q3 e3 st3 r3 => ⟨v1, v2, v3, rfl, ?_⟩⟩⟩⟩
  exact g1 _ _ G3 H3 q3 (((st3.setD (i := i) (r1.mono (e2.trans e3))).setD (i := j) (r2.mono e3)).setD (i := k) r3)
/-! ### x op= e, data -/
def mAug (i : Nat) (F : D → D → Option D) (m : MD) : MS := fun ss C => match ss[i]? with
  | some (.d x) => m ss (fun y s => lift (F x y) fun z => C.nx (s.set i (.d z))) C.kx
  | _ => False
theorem s_aug (c : Cz X W) (i : Nat) {x : Str} {e : Expr} {m : MD} {op : Operator} {r : R2} {F : D → D → Option D} {pos' : Pos} (he : PE X e (rd X Γ W m)) (ho : OpR X (inplaceOp op) r) (pr : Prim2 X.K Γ r F) (hi : X.N[i]? = some x := by rfl) (hx : Loc X.env.scope x := by first | exact Or.inl rfl | exact Or.inr rfl)
    (hf : X.fn x = true ∨ X.env.scope.names.lookup x = some .local := by first | exact .inl rfl | exact .inr rfl) : PS X (.AugAssign (.Name x pos') op e pos) (rs X Γ W (mAug i F m)) := by
  refine ps_weak (ps_aug (ti := r) c.nd hi hx he (fun pins s σ H x y v u Q I rx ry q => ho pins s σ H x y v u Q I rx ry q) hf) fun D σ H h => ?_
  obtain ⟨H0, G0, G, ss, C, st, hxk, hm, h1, h2, h3, h4⟩ := h
  unfold mAug at hm
  split at hm
  · rename_i x0 e0
    obtain ⟨o, hσ, v, rfl, rv⟩ := st.sl i _ e0
    refine ⟨v, hσ, H0, G0, G, ss, _, C.kx, st, hxk, hm, fun y s v2 G1 H1 q e1 st1 r1 => ?_⟩
    obtain ⟨z, hz, q⟩ := lift_some q
    exact pr G1 H1 v v2 x0 y z _ st1.gh (rv.mono e1) r1 hz fun v3 G2 H2 f r2 => h1 _ _ G2 H2 q ((st1.le f).setD r2)
  · exact hm.elim
end
end Dm
end -- DmAsg
section -- DmObj
set_option Elab.async false
set_option linter.all false
set_option maxRecDepth 100000
namespace Dm
open PySem PySem.Spec PyProof.Rows L2
variable [Tbs]

/-! ### a def, by its facts -/
section
variable {P : Program} {w : World} {K : PySem.W.Frag} {Γ : Gam} {mg : Str → Option Value} {base : Heap}
theorem start_str {G H : Hp} {N : List Str} {vs : List V} {ds : List D} (e : Ex G H) (tb : LamX.Tabs Tbs.T G) (r : RpL K Γ G vs ds) : StR P w K Γ H G G H (L2.start N vs) (ds.map SV.d ++ List.replicate (N.length - ds.length) .un) := by
  refine ⟨Fr.refl e, ?_, fun i s e => ?_, fun i j s t a e1 _ o1 _ _ _ => ?_, tb⟩
  · unfold L2.start
    rw [List.length_append, List.length_append, List.length_map, List.length_map, List.length_replicate, List.length_replicate, r.length]
  · unfold L2.start
    obtain ⟨o, h3, h4, h5⟩ := rpl_start (P := P) (w := w) r e
    rw [r.length]
    exact ⟨o, h3, h4.plain h5⟩
  · obtain ⟨o, _, _, h5⟩ := rpl_start (P := P) (w := w) r e1
    rw [h5] at o1
    cases o1
theorem fn_mkD {x qual : Str} {params : Arguments} {body : List Stmt} {scope : Scope} {f : Addr} {fd : FuncData} {N ps : List Str} {k n : Nat} {ms : MS} (F : FunD K x qual params body scope [] [] f fd) (S : FnScope N ps scope) (hn : ps.length = n)
    (hb : ∀ (cdv : Value), (∃ oc od osl dV kV doc pm an ct, K.lookup f = some ⟨oc, od, .func (PySem.W.fnOf x qual params body scope dV kV doc pm an cdv ct), osl⟩ ∧ PySem.W.codeIn K cdv qual = true) → ∀ (A : Around) (outer : List Env) (s : Shared) (H : Hp) (E : XK), Room k (A.deeper (envOfC qual scope s.heap.objs.size f cdv)) →
      Cz (cxOf (L2.CX P w) P w K mg base N qual scope f cdv A outer s H E) (WEk E) → PSs (cxOf (L2.CX P w) P w K mg base N qual scope f cdv A outer s H E) body (rs (cxOf (L2.CX P w) P w K mg base N qual scope f cdv A outer s H E) Γ (WEk E) ms)) :
    FnOk P w K mg base (L2.CX P w) (k + 1) f fd ps (spD K Γ n (fnM N.length ms)) := by
  obtain ⟨oc, od, dV, kV, doc, pm, an, cdv, ct, osl, rfl, lk, hcd, _, _⟩ := F.ex
  refine fn_of lk hcd S (fun vs H Q E h => h.1.trans hn.symm) fun A outer s H vs Q E hr h => ?_
  obtain ⟨hl, G, ds, kr, kx, hG, htb, hv, hm, h1, h2⟩ := h
  have c : Cz (cxOf (L2.CX P w) P w K mg base N qual scope f cdv A outer s H E) (WEk E) := ⟨takes_of rfl rfl rfl rfl, rfl, S.nd, passes_of rfl⟩
  exact ⟨_, hb cdv ⟨oc, od, osl, dV, kV, doc, pm, an, ct, lk, hcd⟩ A outer s H E hr c, H, G, G, _, _, start_str hG htb hv, fun x hx cls d σ G' H' f r => h2 x hx cls d G' H' f r, hm, fun ss' σ' G' H' q st' => h1 .non .non G' H' q st'.toFr .non, fun d v G' H' q f r => h1 d v G' H' q f r, fun _ _ _ _ q => q.elim, fun _ _ _ _ q => q.elim⟩
end

/-! ### fields -/
def fldD (f : Str) : D → Option D
  | .ins _ fs => fs.lookup f
  | _ => none
theorem rpf_lookup {K : PySem.W.Frag} {Γ : Gam} {G : Hp} {f : Str} : ∀ {vs : List (Str × V)} {ds : List (Str × D)} {d : D}, RpF K Γ G vs ds → ds.lookup f = some d → ∃ v, vs.lookup f = some v ∧ Rp K Γ G v d
  | _, _, _, .nil, e => by cases e
  | _, _, d, .cons (f := g) (v := v) (fs := fs) (d := d') (gs := gs) h r, e => by
    rw [List.lookup_cons] at e ⊢
    cases q : f == g with
    | true => rw [q] at e; cases e; exact ⟨v, rfl, h⟩
    | false => rw [q] at e; exact rpf_lookup r e
/-- what is asked of a class whose instances are data -/
structure ClsD (K : PySem.W.Frag) (C : Addr) : Prop where
  cl : Cls K C
  ha : PySem.W.findIn K (.ref C) "__class__" = some (some (.builtin "object.__class__"))
  hn : PySem.W.specialIn K (.builtin "object.__class__") "__get__" = some (some (.builtin "getset_descriptor.__get__"))
  htk : PySem.W.takesIn K (.builtin "object.__class__") = some true
  hm : PySem.W.mroIn K C (.type "object") = some true
def mFld (f : Str) (C : Nat) (m : MD) : MD := fun ss k kx => m ss (fun d s => match d with
  | .ins c fs => guard (Nat.beq c C) (lift (fs.lookup f) fun x => k x s)
  | _ => False) kx
section
variable {X : Cx} {Γ : Gam} {W : WX} {pos : Pos}
theorem d_fld {f : Str} {e : Expr} {m : MD} {C : Nat} (cl : Cls X.K (Γ.cls C)) (na : NoAttr X.K (Γ.cls C) f) (he : PE X e (rd X Γ W m)) (hb : attributeBase e f X.env (eval e X.env) = eval e X.env := by rfl) : PE X (.Attribute e f pos) (rd X Γ W (mFld f C m)) := by
  refine pe_weak (pe_fld he hb) fun σ H Q h => ?_
  obtain ⟨H0, G0, G, ss, k, kx, st, hx, hm, hk⟩ := h
  refine ⟨H0, G0, G, ss, _, kx, st, hx, hm, fun d s v G1 H1 q e1 st1 r1 => ?_⟩
  split at q
  · rename_i c fs
    obtain ⟨hc, q2⟩ := guard_ok q
    obtain ⟨x, hl, q3⟩ := lift_some q2
    have ec := Nat.eq_of_beq_eq_true hc
    subst ec
    cases r1 with
    | ins hG rf =>
      obtain ⟨v, hv, rv⟩ := rpf_lookup rf hl
      exact ⟨_, _, _, _, v, rfl, st1.gh.at hG (nt_of rfl), cl, na, hv, hk x s v G1 H1 q3 e1 st1 rv⟩
  · exact q.elim

/-! ### an instance is made -/
abbrev MFl := List SV → List (Str × D) → (List SV → List (Str × D) → Prop) → Prop
def putD (f : Str) (d : D) : List (Str × D) → List (Str × D)
  | [] => [(f, d)]
  | (g, x) :: r => if g = f then (g, d) :: r else (g, x) :: putD f d r
theorem rpf_put {K : PySem.W.Frag} {G : Hp} {f : Str} {v : V} {d : D} (rv : Rp K Γ G v d) : ∀ {vs : List (Str × V)} {ds : List (Str × D)}, RpF K Γ G vs ds → RpF K Γ G (putF f v vs) (putD f d ds)
  | _, _, .nil => .cons rv .nil
  | _, _, .cons (f := g) h r => by
    unfold putF putD
    by_cases e : g = f
    · rw [if_pos e, if_pos e]; exact .cons rv r
    · rw [if_neg e, if_neg e]; exact .cons h (rpf_put rv r)
theorem rpf_len {K : PySem.W.Frag} {G : Hp} : ∀ {vs : List (Str × V)} {ds : List (Str × D)}, RpF K Γ G vs ds → vs.length = ds.length
  | _, _, .nil => rfl
  | _, _, .cons _ r => by rw [List.length_cons, List.length_cons, rpf_len r]
/-- self's fields while __init__ runs: self is slot i's, H1 is the heap ahead of the making -/
structure Self (P : Program) (w : World) (K : PySem.W.Frag) (Γ : Gam) (C : Nat) (H1 H0 G0 G H : Hp) (σ : L2.St) (ss : List SV) (gs : List (Str × D)) (x : Addr) : Prop where
  st : StR P w K Γ H0 G0 G H σ ss
  ex : ∃ dx vs, H0 x = some (.ins (Γ.cls C) dx vs) ∧ RpF K Γ G vs gs
  g0 : G0 x = none
  h1 : H1 x = none
  ext : Ex H1 H0
def rF (X : Cx) (Γ : Gam) (C : Nat) (H1 : Hp) (x : Addr) (m : MFl) : TS := fun D σ H => ∃ H0 G0 G ss gs k, Self X.prog X.w X.K Γ C H1 H0 G0 G H σ ss gs x ∧ σ[0]? = some (some (.ref x)) ∧ m ss gs k ∧
  ∀ ss' gs' H0' G' H', k ss' gs' → Self X.prog X.w X.K Γ C H1 H0' G0 G' H' σ ss' gs' x → D.nx σ H'
def mFlds (f : Str) (m : MD) : MFl := fun ss gs k => m ss (fun d s => guard (Nat.blt gs.length 100) (k s (putD f d gs))) fun _ => False
def mFlSeq (a b : MFl) : MFl := fun ss gs k => a ss gs fun s g => b s g k
theorem xok_none {K : PySem.W.Frag} {H0 G0 : Hp} : XOk K Γ H0 G0 W fun _ => False := fun _ h => h.elim
/-- StR, where self's object is changed -/
theorem StR.self {P : Program} {w : World} {K : PySem.W.Frag} {H0 G0 G H : Hp} {σ : L2.St} {ss : List SV} {x : Addr} {o o' : HO} (st : StR P w K Γ H0 G0 G H σ ss) (h : H0 x = some o) (n : NT o) (n' : NT o') (g : G0 x = none) : StR P w K Γ (upd H0 x o') G0 G (upd H x o') σ ss := by
  have hH := st.hh.at h n
  have gx := st.noG h n g
  have hq := no_codeN hH n
  refine ⟨⟨st.gh.mut gx hq, ⟨fun a u ha m => ?_, fun a ps ha => ?_, fun p hp t => ?_⟩, st.gg, fun a u e => ?_⟩, st.len, fun i s e => ?_, st.ow, st.tbs⟩
  · by_cases q : a = x
    · subst q; rw [upd_same] at ha ⊢; exact ha
    · rw [upd_ne q] at ha ⊢; exact st.hh.k a u ha m
  · by_cases q : a = x
    · subst q; rw [upd_same] at ha; exact absurd (Option.some.inj ha) (n'.1 ps)
    · rw [upd_ne q] at ha ⊢; exact st.hh.tb a ps ha
  · obtain ⟨ha, t⟩ : p.1 ≠ x ∧ LamX.TabS H0 p.1 p.2 := by
      obtain ⟨ps, h1, h2, h3⟩ := t
      have ha : p.1 ≠ x := fun z => by
        rw [z, upd_same] at h1
        exact n'.1 _ (Option.some.inj h1)
      refine ⟨ha, ps, by rw [upd_ne ha] at h1; exact h1, h2, fun pos cv hc => ?_⟩
      obtain ⟨c, e1, e2⟩ := h3 pos cv hc
      have hc' : c ≠ x := fun z => by
        rw [z, upd_same] at e2
        exact n'.2 _ _ (Option.some.inj e2)
      exact ⟨c, e1, by rw [upd_ne hc'] at e2; exact e2⟩
    exact tabS_upd (st.hh.ts p hp t) ha hq
  · rcases st.fr a u e with z | z | z
    · exact .inl z
    · refine .inr (.inl ?_)
      have : a ≠ x := fun q => by rw [q, h] at z; cases z
      rw [upd_ne this]; exact z
    · exact .inr (.inr z)
  · obtain ⟨v, h1, h2⟩ := st.sl i s e
    refine ⟨v, h1, ?_⟩
    have up : ∀ b, H0 b = none → upd H0 x o' b = none := fun b hb => by
      rw [upd_ne fun q => by rw [q, h] at hb; cases hb]; exact hb
    have upH : ∀ b u, H0 b = none → H b = some u → upd H x o' b = some u := fun b u hb hu => by
      rw [upd_ne fun q => by rw [q, h] at hb; cases hb]; exact hu
    cases s with
    | un => trivial
    | d y => exact h2
    | ol ds => obtain ⟨b, vs, e1, h3, r, g3, z3⟩ := h2; exact ⟨b, vs, e1, upH _ _ z3 h3, r, g3, up _ z3⟩
    | od ds => obtain ⟨b, vs, e1, h3, r, g3, z3⟩ := h2; exact ⟨b, vs, e1, upH _ _ z3 h3, r, g3, up _ z3⟩
    | ot ds => obtain ⟨b, vs, e1, h3, r, g3, z3⟩ := h2; exact ⟨b, vs, e1, upH _ _ z3 h3, r, g3, up _ z3⟩
theorem f_one {C : Nat} {H1 : Hp} {xa : Addr} {x f : Str} {e : Expr} {m : MD} {np ap : Pos} (cl : Cls X.K (Γ.cls C)) (na : NoAttr X.K (Γ.cls C) f) (he : PE X e (rd X Γ W m)) (hs : swapsWith e (some (.Attribute (.Name x np) f ap)) pos.line X.env = pure false := by rfl) (hN : X.N[0]? = some x := by rfl)
    (hv : Vis X.env.scope x := by first | exact Or.inl rfl | exact Or.inr (Or.inl rfl) | exact Or.inr (Or.inr rfl)) (hd : (x == ("__debug__" : Str)) = false := by decide) (hcd : (x == ("__classdict__" : Str)) = false := by decide) : PS X (.Assign [.Attribute (.Name x np) f ap] e pos) (rF X Γ C H1 xa (mFlds f m)) := by
  refine ps_weak (ps_fld (pe_var (pos := np) (i := 0) hN hv hd hcd) he hs) fun D σ H h => ?_
  obtain ⟨H0, G0, G, ss, gs, k, S, hσ, hm, hk⟩ := h
  refine ⟨H0, G0, G, ss, _, fun _ => False, S.st, xok_none, hm, fun d s v G2 H2 q e2 st2 r2 => ?_⟩
  obtain ⟨hl, q⟩ := guard_ok q
  obtain ⟨dx, vs, h0, rf⟩ := S.ex
  have hH := st2.hh.at h0 (nt_of rfl)
  refine ⟨.ref xa, hσ, xa, _, dx, vs, rfl, hH, cl, na, ?_, hk _ _ (upd H0 xa (.ins (Γ.cls C) dx (putF f v vs))) G2 _ q ⟨st2.self h0 (nt_of rfl) (nt_of rfl) S.g0, ⟨dx, _, upd_same, rpf_put r2 (rf.mono e2)⟩, S.g0, S.h1, S.ext.mut S.h1 (no_codeN h0 (nt_of rfl))⟩⟩
  rw [rpf_len rf]
  have := Nat.le_of_ble_eq_true hl
  omega
theorem f_cons {C : Nat} {H1 : Hp} {x : Addr} {s : Stmt} {rest : List Stmt} {a b : MFl} (h1 : PS X s (rF X Γ C H1 x a)) (h2 : PSs X rest (rF X Γ C H1 x b)) : PSs X (s :: rest) (rF X Γ C H1 x (mFlSeq a b)) := pss_weak (pss_cons h1 h2) fun D σ H h => by
  obtain ⟨H0, G0, G, ss, gs, k, S, hσ, hm, hk⟩ := h
  exact ⟨H0, G0, G, ss, gs, _, S, hσ, hm, fun ss' gs' H0' G' H' q S' => ⟨H0', G0, G', ss', gs', k, S', hσ, q, hk⟩⟩
theorem f_last {C : Nat} {H1 : Hp} {x : Addr} {s : Stmt} {a : MFl} (h1 : PS X s (rF X Γ C H1 x a)) : PSs X [s] (rF X Γ C H1 x a) := pss_one h1
/-- statements, then self's fields -/
def rsT (X : Cx) (Γ : Gam) (W : WX) (m : MS) (t : TS) : TS := fun D σ H => rs X Γ W m { D with nx := fun σ' H' => t D σ' H' } σ H
theorem i_cons {s : Stmt} {rest : List Stmt} {a b : MS} {t : TS} (h1 : PS X s (rs X Γ W a)) (h2 : PSs X rest (rsT X Γ W b t)) : PSs X (s :: rest) (rsT X Γ W (mSeq a b) t) := pss_weak (pss_cons h1 h2) fun D σ H h => by
  obtain ⟨H0, G0, G, ss, C, st, hx, hm, g1, g2, g3, g4⟩ := h
  exact ⟨H0, G0, G, ss, { C with nx := fun s => b s C }, st, hx, hm, fun ss' σ' G' H' q st' => ⟨H0, G0, G', ss', C, st', hx, q, g1, g2, g3, g4⟩, g2, g3, g4⟩
end

/-! ### __init__, and the making -/
abbrev MFi := List D → (List (Str × D) → Prop) → (XD → Prop) → Prop
def spI (K : PySem.W.Frag) (Γ : Gam) (C n : Nat) (mfi : MFi) : Sp := fun vs H Q E => vs.length = n + 1 ∧ ∃ H1 x dx ws G ds k kx, vs = .ref x :: ws ∧ H = upd (upd H1 dx (.own x)) x (.ins (Γ.cls C) dx []) ∧ H1 x = none ∧ H1 dx = none ∧ dx ≠ x ∧ Ex G H1 ∧ LamX.Tabs Tbs.T G ∧ RpL K Γ G ws ds ∧ mfi ds k kx ∧
  (∀ gs G' H', k gs → Fr H1 G G' H' → Rp K Γ G' (.ref x) (.ins C gs) → Q .non H') ∧ (∀ xd, kx xd → ∀ cls d G' H', Fr H1 G G' H' → XRp K Γ G' cls d xd → E cls d H')
def initM (NL : Nat) (mpre : MS) (mf : MFl) : MFi := fun ds k kx => ∀ φ : V → Hp → Prop, mpre (.d (.opq φ) :: (ds.map SV.d ++ List.replicate (NL - (ds.length + 1)) .un)) { nx := fun ss => ss[0]? = some (.d (.opq φ)) ∧ mf ss [] fun _ gs => k gs, rt := fun _ => False, kx := kx }
section
variable {P : Program} {w : World} {K : PySem.W.Frag} {Γ : Gam} {mg : Str → Option Value} {base : Heap}
theorem i_last {X : Cx} {W : WX} {rest : List Stmt} {t : TS} (h : PSs X rest t) : PSs X rest (rsT X Γ W mNext t) := pss_weak h fun D σ H h => by
  obtain ⟨H0, G0, G, ss, C, st, hx, hm, g1, _⟩ := h
  exact g1 ss σ G H hm st
theorem init_mk {x qual : Str} {params : Arguments} {body : List Stmt} {scope : Scope} {f : Addr} {fd : FuncData} {N ps : List Str} {k n C : Nat} {mpre : MS} {mf : MFl} (F : FunD K x qual params body scope [] [] f fd) (S : FnScope N ps scope) (hn : ps.length = n + 1)
    (hb : ∀ (cdv : Value) (A : Around) (outer : List Env) (s : Shared) (H : Hp) (E : XK), Room k (A.deeper (envOfC qual scope s.heap.objs.size f cdv)) →
      Cz (cxOf (L2.CX P w) P w K mg base N qual scope f cdv A outer s H E) (WEk E) → ∀ (H1 : Hp) (xa : Addr), PSs (cxOf (L2.CX P w) P w K mg base N qual scope f cdv A outer s H E) body (rsT (cxOf (L2.CX P w) P w K mg base N qual scope f cdv A outer s H E) Γ (WEk E) mpre (rF (cxOf (L2.CX P w) P w K mg base N qual scope f cdv A outer s H E) Γ C H1 xa mf))) :
    FnOk P w K mg base (L2.CX P w) (k + 1) f fd ps (spI K Γ C n (initM N.length mpre mf)) := by
  obtain ⟨oc, od, dV, kV, doc, pm, an, cdv, ct, osl, rfl, lk, hcd, _, _⟩ := F.ex
  refine fn_of lk hcd S (fun vs H Q E h => h.1.trans hn.symm) fun A outer s H vs Q E hr h => ?_
  obtain ⟨hl, H1, xa, dx, ws, G, ds, kr, kx, rfl, rfl, hx1, hdx, hne, hG, htb, hv, hm, h1, h2⟩ := h
  have c : Cz (cxOf (L2.CX P w) P w K mg base N qual scope f cdv A outer s (upd (upd H1 dx (.own xa)) xa (.ins (Γ.cls C) dx [])) E) (WEk E) := ⟨takes_of rfl rfl rfl rfl, rfl, S.nd, passes_of rfl⟩
  have hx2 : upd H1 dx (HO.own xa) xa = none := by rw [upd_ne (Ne.symm hne)]; exact hx1
  have eH : Ex H1 (upd (upd H1 dx (.own xa)) xa (.ins (Γ.cls C) dx [])) := (Ex.new hdx).trans (Ex.new hx2)
  have gx : G xa = none := hG.back hx1
  have rx : Rp K Γ G (.ref xa) (.opq fun v _ => v = V.ref xa) := .opq fun _ _ => rfl
  have st := start_str (P := P) (w := w) (N := N) (hG.trans eH) htb (RpL.cons rx hv)
  have bk : ∀ {G' H' : Hp}, Fr (upd (upd H1 dx (.own xa)) xa (.ins (Γ.cls C) dx [])) G G' H' → Fr H1 G G' H' := fun {G' H'} f => ⟨f.gh, eH.trans f.hh, f.gg, fun b u e => by
    rcases f.fr b u e with z | z | z
    · exact .inl z
    · exact .inr (.inl (eH.back z))
    · exact .inr (.inr z)⟩
  refine ⟨_, hb cdv A outer s _ E hr c H1 xa, _, G, G, _, _, st, fun xd hxd cls d σ G' H' f r => h2 xd hxd cls d G' H' (bk f) r, hm (fun v _ => v = V.ref xa), fun ss' σ' G' H' q st' => ?_, fun d v G' H' q f r => q.elim, fun _ _ _ _ q => q.elim, fun _ _ _ _ q => q.elim⟩
  obtain ⟨q0, q1⟩ := q
  have hσ : σ'[0]? = some (some (.ref xa)) := by
    obtain ⟨o, ho, v, rfl, rv⟩ := st'.sl 0 _ q0
    have ev : v = .ref xa := by
      cases rv with
      | opq h => exact h G' (Ex.refl _)
    rw [ev] at ho
    exact ho
  refine ⟨_, G, G', ss', [], _, ⟨st', ⟨dx, [], upd_same, .nil⟩, gx, hx1, eH⟩, hσ, q1, fun ss2 gs H0' G2 H2 q2 S2 => ?_⟩
  obtain ⟨dx2, vs2, h0, rf⟩ := S2.ex
  have hH := S2.st.hh.at h0 (nt_of rfl)
  have g2 : G2 xa = none := S2.st.noG h0 (nt_of rfl) S2.g0
  refine h1 gs (upd G2 xa (.ins (Γ.cls C) dx2 vs2)) H2 q2 ⟨S2.st.gh.updH hH (nt_of rfl), S2.ext.trans S2.st.hh, S2.st.gg.trans (Ex.new g2), fun b u e => ?_⟩ (.ins upd_same (RpF.mono (Ex.new g2) rf))
  by_cases qb : b = xa
  · rw [qb]; exact .inr (.inl hx1)
  · rw [upd_ne qb] at e
    rcases S2.st.fr b u e with z | z | z
    · exact .inl z
    · exact .inr (.inl (S2.ext.back z))
    · exact .inr (.inr z)
end
def mMake (C n : Nat) (mfi : MFi) (m : MA) : MD := fun ss k kx => m ss (fun ds s => guard (Nat.beq ds.length n) (mfi ds (fun gs => k (.ins C gs) s) kx)) kx
section
variable {X : Cx} {Γ : Gam} {W : WX} {pos : Pos}
theorem d_make (c : Cz X W) {x : Str} {p : Pos} {k n C : Nat} {Ca fi : Addr} {fd : FuncData} {ps : List Str} {mfi : MFi} {m : MA} {e : Expr} {es : List Expr} (M : Mk X.K Ca fi) (F : FnOk X.prog X.w X.K X.mg X.base (L2.CX X.prog X.w) k fi fd ps (spI X.K Γ C n mfi)) (hCa : Ca = Γ.cls C) (hr : Room (k + 1) X.A) (hm : X.mg x = some (.ref Ca)) (hb : Binds X.K fd ps [])
    (ha : PA X (e :: es) (ra X Γ W m)) (hg : Gl X x := by rfl) (hdb : (x == ("__debug__" : Str)) = false := by decide) (he : starEach (e :: es) X.env = (false, eval e X.env) :: starEach es X.env := by rfl) (hpl : (backTo pos (starEach es X.env)).any (·.1) = false := by rfl) :
    PE X (.Call (.Name x p) (e :: es) [] pos) (rd X Γ W (mMake C n mfi m)) := by
  refine pe_weak (pe_make (E := fun cls d H => ∀ σ, W cls d σ H) M F hr hg hm hb .nil (passes_call c.tk fun _ _ σ _ h => h σ) ha hdb he hpl) fun σ H Q h => ?_
  obtain ⟨H0, G0, G, ss, kk, kx, st, hx, hmm, hk⟩ := h
  refine ⟨H0, G0, G, ss, _, kx, st, hx, hmm, fun ds s vs G1 H1 q e1 st1 r1 => ?_⟩
  obtain ⟨hl, q⟩ := guard_ok q
  intro xa dx hxa hdx hne
  rw [List.append_nil]
  refine ⟨by rw [List.length_cons, r1.length, Nat.eq_of_beq_eq_true hl], H1, xa, dx, vs, G1, ds, _, kx, rfl, by rw [hCa], hxa, hdx, hne, st1.gh, fun p hp => st1.gg.ts p hp (st1.tbs p hp), r1, q, fun gs G2 H2 q2 f r => ⟨rfl, hk _ s _ G2 H2 q2 (e1.trans f.gg) (st1.le f) r⟩, fun xd hxd cls d G2 H2 f r σ' => ?_⟩
  exact hx xd hxd cls d σ' G2 H2 (st1.toFr.step f) r
/-! ### f(.., k = e), one keyword that fills the one parameter -/
def mFnK (mf : MF) (m : MD) : MD := fun ss k kx => m ss (fun d s => mf [d] (fun d' => k d' s) kx) kx
theorem pe_callK0 {CX : CXT} {k : Nat} {f : Addr} {fd : FuncData} {ps ks : List Str} {sp : Sp} {E : XK} {x : Str} {p : Pos} {kws : List Keyword} {tk : TA} {g : List Value → List Value → List Value} {gV : List V → List V → List V} (F : FnOk X.prog X.w X.K X.mg X.base CX k f fd ps sp) (hr : Room k X.A) (hg : Gl X x) (hm : X.mg x = some (.ref f)) (hk : PySem.W.keepIn X.K (.ref f) = true) (hb : KBinds X.K fd ps ks g gV) (hx : Passes CX X E)
    (hkw : PK X kws tk) (hall : (backToKw pos (keywordEach kws X.env)).all (·.1.isSome) = true) (hks : (backToKw pos (keywordEach kws X.env)).filterMap (·.1) = ks) (hdb : (x == ("__debug__" : Str)) = false)
    (hpl : ((backTo pos (starEach [] X.env)).any (·.1) || (backToKw pos (keywordEach kws X.env)).any (·.1.isNone)) = false) : PE X (.Call (.Name x p) [] kws pos) (tCallK sp gV E tNil tk) := by
  refine ⟨fun pins s σ H Q I h => ?_⟩
  refine wpAny_Call_Name_kw (ld_glob I hg hm ?_ hdb)
  refine PySem.W.callWith_KW0 (h₀ := X.base) I.ok.mod.kin hk hall (thn (hkw.run pos pins s σ H _ I h) fun ws s2 ⟨zs, H2, I2, rz, q2⟩ => ⟨I2.kIn, ?_⟩) hpl
  rw [hks]
  exact run_fnk (us := []) (vs := []) F hr hb hx I2 .nil rz q2
theorem d_callK (c : Cz X W) {k : Nat} {f : Addr} {fd : FuncData} {kn x : Str} {p kp : Pos} {mf : MF} {m : MD} {e : Expr} (F : FnOk X.prog X.w X.K X.mg X.base (L2.CX X.prog X.w) k f fd [kn] (spD X.K Γ 1 mf)) (hr : Room k X.A) (hm : X.mg x = some (.ref f)) (hk : PySem.W.keepIn X.K (.ref f) = true) (hb : KBinds X.K fd [kn] [kn] (fun us ws => us ++ ws) (fun vs zs => vs ++ zs))
    (he : PE X e (rd X Γ W m)) (hg : Gl X x := by rfl) (hall : (backToKw pos (keywordEach [⟨some kn, e, kp⟩] X.env)).all (·.1.isSome) = true := by rfl) (hks : (backToKw pos (keywordEach [⟨some kn, e, kp⟩] X.env)).filterMap (·.1) = [kn] := by rfl) (hdb : (x == ("__debug__" : Str)) = false := by decide)
    (hpl : ((backTo pos (starEach [] X.env)).any (·.1) || (backToKw pos (keywordEach [⟨some kn, e, kp⟩] X.env)).any (·.1.isNone)) = false := by rfl) : PE X (.Call (.Name x p) [] [⟨some kn, e, kp⟩] pos) (rd X Γ W (mFnK mf m)) := by
  refine pe_weak (pe_callK0 (E := fun cls d H => ∀ σ, W cls d σ H) F hr hg hm hk hb (passes_call c.tk fun _ _ σ _ h => h σ) (pk_cons he pk_nil) hall hks hdb hpl) fun σ H Q h => ?_
  obtain ⟨H0, G0, G, ss, kk, kx, st, hx, hmm, hk⟩ := h
  refine ⟨H0, G0, G, ss, _, kx, st, hx, hmm, fun d s v G1 H1 q e1 st1 r1 => ?_⟩
  refine ⟨rfl, G1, [d], _, kx, st1.gh, fun p hp => st1.gg.ts p hp (st1.tbs p hp), .cons r1 .nil, q, fun d' v' G2 H2 q2 f r => hk d' s v' G2 H2 q2 (e1.trans f.gg) (st1.le f) r, fun xd hxd cls d G2 H2 f r σ' => ?_⟩
  exact hx xd hxd cls d σ' G2 H2 (st1.toFr.step f) r
end
theorem kbinds1 {K : PySem.W.Frag} {x qual : Str} {params : Arguments} {body : List Stmt} {scope : Scope} {f : Addr} {fd : FuncData} {kn : Str} (F : FunD K x qual params body scope [] [] f fd)
    (h1 : ∀ (dV kV doc pm cdv ct : Value) (an : Option Addr) (w : Value), bindArgs (PySem.W.fnOf x qual params body scope dV kV doc pm an cdv ct) ⟨[], [(kn, w)]⟩ = pure [(kn, w)])
    (h2 : ∀ (dV kV doc pm cdv ct : Value) (an : Option Addr) (w : Value), bindArgs (PySem.W.fnOf x qual params body scope dV kV doc pm an cdv ct) ⟨[w], []⟩ = pure [(kn, w)]) : KBinds K fd [kn] [kn] (fun us ws => us ++ ws) (fun vs zs => vs ++ zs) := by
  obtain ⟨oc, od, dV, kV, doc, pm, an, cdv, ct, osl, rfl, _⟩ := F.ex
  refine ⟨fun s us ws _ hl => ?_, fun r rz => r.append rz⟩
  match us, ws, hl with
  | [], [w], _ => exact .of_eq (h1 dV kV doc pm cdv ct an w)
  | [u], [], _ => exact .of_eq (h2 dV kV doc pm cdv ct an u)
  | u :: u' :: us, ws, hl => simp at hl
  | [u], w :: ws, hl => simp at hl
  | [], w :: w' :: ws, hl => simp at hl
  | [], [], hl => simp at hl
end Dm
end -- DmObj
section -- DmIsi
set_option Elab.async false
set_option linter.all false
set_option maxRecDepth 100000
namespace Dm
open PySem PySem.Spec PyProof.Rows L2
variable [Tbs]

/-! ### isinstance -/
/-- what the classes of a law are to each other -/
structure ClsT where
  kit : String → Nat → Option Bool
  sub : Nat → Nat → Option Bool
  kitT : Nat → String → Option Bool
  isExc : Nat → Bool
  isIns : Nat → Bool
structure IsiK (K : PySem.W.Frag) (Γ : Gam) (T : ClsT) : Prop where
  c1 : ∀ t c b, T.kit t c = some b → PySem.W.kitOne K (.type t) (.ref (Γ.cls c)) = some b
  c2 : ∀ d c b, T.sub d c = some b → PySem.W.kitOne K (.ref (Γ.cls d)) (.ref (Γ.cls c)) = some b
  c3 : ∀ d t b, T.kitT d t = some b → PySem.W.kitOne K (.ref (Γ.cls d)) (.type t) = some b
  exc : ∀ c, T.isExc c = true → ExcC K (Γ.cls c)
  ins : ∀ c, T.isIns c = true → ClsD K (Γ.cls c)
/-- the type of a value, for the library's isinstance rules -/
theorem kitW {X : Cx} {pins : List (Addr × Obj)} {σ : L2.St} {H : Hp} {s : Shared} {x : V} {u t : Value} (I : Inv X pins σ H s) (rx : RelV x u) (h : TyX X.K H x t ∨ ∃ a C, x = .ref a ∧ t = .ref C ∧ H a = some (ExK C a) ∧ ExcC X.K C) :
    ∃ P : Heap → Prop, PySem.W.KitX X.K u t P ∧ P s.heap ∧ u ≠ .builtin "__main__.__loader__#opaque" := by
  rcases h with h | ⟨a, C, rfl, rfl, ha, c⟩
  · exact kit_of I rx h
  · cases rx
    obtain ⟨⟨oe, J⟩, _, _⟩ := I.hok a _ ha
    exact ⟨_, PySem.W.handS_kitx_exc (ox := oe) c.hg c.hk c.hs c.hd c.ha c.hn c.ht c.hm, J, fun z => nomatch z⟩
def rIsiA (K : PySem.W.Frag) : List V → Hp → VK → Prop := fun xs H Q => ∃ (x c : V) (t : Value) (b : Bool), xs = [x, c] ∧ (TyX K H x t ∨ ∃ a C, x = .ref a ∧ t = .ref C ∧ H a = some (ExK C a) ∧ ExcC K C) ∧
  ((∃ u, ClsV c u ∧ PySem.W.kitOne K t u = some b) ∨ (∃ (tp : Addr) (cs : List V) (us : List Value), c = .ref tp ∧ SqT K H tp cs ∧ Paired ClsV cs us ∧ PySem.W.kitAny K t us = some b)) ∧ Q (.bl b) H
theorem call_isiA {X : Cx} : CallR X (.builtin "isinstance") (rIsiA X.K) := by
  intro pins s σ H xs us Q I r h
  obtain ⟨x, c, t, b, rfl, ty, h, q⟩ := h
  obtain ⟨u1, u2, rfl, r1, r2⟩ := vals2 r
  obtain ⟨P, Z, p, hx⟩ := kitW I r1 ty
  rcases h with ⟨u, k, e⟩ | ⟨tp, cs, ws, rfl, hT, k, e⟩
  · have e2 := k.eq r2
    subst e2
    exact PySem.W.kia_one Z I.kIn p e hx fun tk => ⟨.bl b, H, I.tok tk, rfl, q⟩
  · cases (show u2 = Value.ref tp from r2)
    obtain ⟨its, rv, pl, _⟩ := I.tuple hT
    have e3 := ClsV.all k rv
    subst e3
    obtain ⟨⟨oc, od, dt, sl⟩, h1, h2, n, h3⟩ := pl
    simp only at h2 h3
    subst h2 h3
    exact PySem.W.kia_tup Z I.kIn p h1 e hx fun tk => ⟨.bl b, H, I.tok tk, rfl, q⟩
/-- over data: what type a thing has -/
def tyD (T : ClsT) : D → Option (Sum String Nat)
  | .non => some (.inl "NoneType")
  | .bl _ => some (.inl "bool")
  | .int _ => some (.inl "int")
  | .str _ => some (.inl "str")
  | .lst _ => some (.inl "list")
  | .frl _ => some (.inl "list")
  | .tup _ => some (.inl "tuple")
  | .dk _ => some (.inl "dict")
  | .ins c _ => if T.isIns c then some (.inr c) else none
  | .exc c => if T.isExc c then some (.inr c) else none
  | _ => none
def isi1 (T : ClsT) (t : Sum String Nat) : D → Option Bool
  | .ty n => match t with
    | .inl m => kitB m n
    | .inr d => T.kitT d n
  | .cl c => match t with
    | .inl m => T.kit m c
    | .inr d => T.sub d c
  | _ => none
def isiAny (T : ClsT) (t : Sum String Nat) : List D → Option Bool
  | [] => some false
  | c :: cs => match isi1 T t c with
    | some true => some true
    | some false => isiAny T t cs
    | none => none
def isiD (T : ClsT) : List D → Option D := fun ds => match ds with
  | [x, c] => match tyD T x with
    | some t => match c with
      | .tup cs => (isiAny T t cs).map .bl
      | c => (isi1 T t c).map .bl
    | none => none
  | _ => none
def tyW (Γ : Gam) : Sum String Nat → Value
  | .inl n => .type n
  | .inr c => .ref (Γ.cls c)
section
variable {K : PySem.W.Frag} {Γ : Gam} {G H : Hp} {T : ClsT}
theorem ty_of (J : IsiK K Γ T) {x : V} {d : D} {t : Sum String Nat} (e : Ex G H) (r : Rp K Γ G x d) (h : tyD T d = some t) : TyX K H x (tyW Γ t) ∨ ∃ a C, x = .ref a ∧ tyW Γ t = .ref C ∧ H a = some (ExK C a) ∧ ExcC K C := by
  have sqL : ∀ {a : Addr} {xs : List V}, SqL K H a xs → TyX K H (.ref a) (.type "list") := fun {a xs} h => by
    rcases h with (h | ⟨o, h⟩) | ⟨o, its, n, h1, h2, _⟩
    · exact .base (.lst h)
    · exact .base (.frz h)
    · exact .kList h1 h2
  cases r with
  | non => cases h; exact .inl (.base .non)
  | bl b => cases h; exact .inl (.base (.bl b))
  | int b => cases h; exact .inl (.base (.int b))
  | str b => cases h; exact .inl (.base (.str b))
  | lst h1 _ => cases h; exact .inl (.base (.lst (e.at h1 (nt_of rfl))))
  | frl h1 _ => cases h; exact .inl (sqL (ex_l e h1))
  | tup h1 _ =>
    cases h
    rcases TupQ.mono e h1 with ⟨o, h, _⟩ | ⟨o, its, n, h1, h2, _⟩
    · exact .inl (.fTuple h)
    · exact .inl (.kTuple h1 h2)
  | dk h1 _ => cases h; exact .inl (.base (.dK (e.at h1 (nt_of rfl))))
  | ins h1 _ =>
    unfold tyD at h
    obtain ⟨hc, rfl⟩ := if_some h
    obtain ⟨cl, ha, hn, htk, hm⟩ := J.ins _ hc
    exact .inl (.base (.ins (e.at h1 (nt_of rfl)) cl ha hn htk hm))
  | exc h1 =>
    unfold tyD at h
    obtain ⟨hc, rfl⟩ := if_some h
    exact .inr ⟨_, _, rfl, rfl, e.at h1 nt_ExK, J.exc _ hc⟩
  | _ => cases h
theorem isi1_ok (J : IsiK K Γ T) {c : D} {cv : V} {t : Sum String Nat} {b : Bool} (r : Rp K Γ G cv c) (h : isi1 T t c = some b) : ∃ u, ClsV cv u ∧ PySem.W.kitOne K (tyW Γ t) u = some b := by
  cases c with
  | ty n =>
    have ev := r.ty_inv
    subst ev
    cases t with
    | inl m => exact ⟨_, .ty n, kit_ty h⟩
    | inr d => exact ⟨_, .ty n, J.c3 _ _ _ h⟩
  | cl C =>
    cases r
    cases t with
    | inl m => exact ⟨_, .own _, J.c1 _ _ _ h⟩
    | inr d => exact ⟨_, .own _, J.c2 _ _ _ h⟩
  | _ => cases h
theorem isiAny_ok (J : IsiK K Γ T) {t : Sum String Nat} : ∀ {cs : List D} {cvs : List V} {b : Bool}, RpL K Γ G cvs cs → (∀ c ∈ cs, (∃ n, c = .ty n) ∨ ∃ C, c = .cl C) → isiAny T t cs = some b → ∃ us, Paired ClsV cvs us ∧ PySem.W.kitAny K (tyW Γ t) us = some b
  | _, _, _, .nil, _, h => by cases h; exact ⟨[], .nil, rfl⟩
  | _, _, b, .cons (d := c) (ds := cs) r rr, hall, h => by
    have all : ∀ {cs : List D} {cvs : List V}, RpL K Γ G cvs cs → (∀ c ∈ cs, (∃ n, c = .ty n) ∨ ∃ C, c = .cl C) → ∃ us, Paired ClsV cvs us := by
      intro cs cvs rr hall
      induction cs generalizing cvs with
      | nil => cases rr; exact ⟨[], .nil⟩
      | cons c cs ih =>
        cases rr with
        | cons r rr =>
          obtain ⟨us, hp⟩ := ih rr fun c hc => hall c (List.mem_cons_of_mem _ hc)
          rcases hall c List.mem_cons_self with ⟨n, rfl⟩ | ⟨C, rfl⟩
          · have ev := r.ty_inv
            exact ⟨.type n :: us, .cons (by rw [ev]; exact .ty n) hp⟩
          · cases r
            exact ⟨_ :: us, .cons (.own _) hp⟩
    unfold isiAny at h
    split at h
    · rename_i h1
      cases h
      obtain ⟨u, k, e⟩ := isi1_ok J r h1
      obtain ⟨us, hp⟩ := all rr fun c hc => hall c (List.mem_cons_of_mem _ hc)
      exact ⟨u :: us, .cons k hp, kitAny_cons e (fun z => by cases z) fun _ => rfl⟩
    · rename_i h1
      obtain ⟨u, k, e⟩ := isi1_ok J r h1
      obtain ⟨us, hp, e2⟩ := isiAny_ok J rr (fun c hc => hall c (List.mem_cons_of_mem _ hc)) h
      exact ⟨u :: us, .cons k hp, kitAny_cons e (fun _ => e2) fun z => by cases z⟩
    · cases h
def clsAll : List D → Bool
  | [] => true
  | .ty _ :: r => clsAll r
  | .cl _ :: r => clsAll r
  | _ :: _ => false
theorem clsAll_ok : ∀ {cs : List D}, clsAll cs = true → ∀ c ∈ cs, (∃ n, c = .ty n) ∨ ∃ C, c = .cl C
  | [], _, c, hc => by simp at hc
  | d :: r, h, c, hc => by
    cases d with
    | ty n =>
      rcases List.mem_cons.mp hc with z | z
      · exact .inl ⟨n, z⟩
      · exact clsAll_ok (cs := r) h c z
    | cl n =>
      rcases List.mem_cons.mp hc with z | z
      · exact .inr ⟨n, z⟩
      · exact clsAll_ok (cs := r) h c z
    | _ => cases h
def isiDD (T : ClsT) : List D → Option D := fun ds => match ds with
  | [_, .tup cs] => if clsAll cs then isiD T ds else none
  | _ => isiD T ds
theorem prim_isi (J : IsiK K Γ T) : PrimC K Γ (rIsiA K) (isiDD T) := by
  intro G H vs ds d Q e r hF q
  have go : ∀ {x c : D}, ds = [x, c] → (∀ cs, c = .tup cs → clsAll cs = true) → isiD T ds = some d → rIsiA K vs H Q := by
    rintro x c rfl hc hF
    obtain ⟨v, u, rfl, rv, ru⟩ := r.two_inv
    unfold isiD at hF
    dsimp only at hF
    cases ht : tyD T x with
    | none => rw [ht] at hF; cases hF
    | some t =>
      rw [ht] at hF
      dsimp only at hF
      have ty := ty_of J e rv ht
      by_cases hct : ∃ cs, c = .tup cs
      · obtain ⟨cs, rfl⟩ := hct
        dsimp only at hF
        cases h1 : isiAny T t cs with
        | none => rw [h1] at hF; cases hF
        | some b =>
          rw [h1] at hF
          cases hF
          obtain ⟨a, xs, rfl, hq, rl⟩ := ru.tup_inv
          obtain ⟨us, hp, e2⟩ := isiAny_ok J rl (clsAll_ok (hc cs rfl)) h1
          exact ⟨v, _, _, b, rfl, ty, .inr ⟨a, xs, us, rfl, ex_t e hq.sqt, hp, e2⟩, q _ G H (Fr.refl e) (.bl _)⟩
      · have hF' : (isi1 T t c).map D.bl = some d := by
          cases c <;> first
            | exact hF
            | exact absurd ⟨_, rfl⟩ hct
        cases h1 : isi1 T t c with
        | none => rw [h1] at hF'; cases hF'
        | some b =>
          rw [h1] at hF'
          cases hF'
          obtain ⟨w, k, e2⟩ := isi1_ok J ru h1
          exact ⟨v, u, _, b, rfl, ty, .inl ⟨w, k, e2⟩, q _ G H (Fr.refl e) (.bl _)⟩
  unfold isiDD at hF
  split at hF
  · rename_i x cs
    cases hcs : clsAll cs with
    | false => rw [hcs] at hF; cases hF
    | true =>
      rw [hcs] at hF
      exact go rfl (fun cs' z => by cases z; exact hcs) hF
  · rename_i hno
    match ds, hno, hF with
    | [x, c], hno, hF => exact go rfl (fun cs z => by subst z; exact absurd rfl (hno x cs)) hF
    | [], _, hF => cases hF
    | [_], _, hF => cases hF
    | _ :: _ :: _ :: _, _, hF => cases hF
end

/-! ### xs.index(x) -/
def indexD (d x : D) : Option D := match seqOf d, toKey x with
  | some xs, some k => match toKeyL xs with
    | some ks => if (ks.any fun j => decide (j = k)) && Nat.ble xs.length mline && Nat.ble k.depth 30 then some (.int (ks.idxOf k : Nat)) else none
    | none => none
  | _, _ => none
def mIndex (mo me : MD) : MD := fun ss k kx => mo ss (fun d s => guard (seqOf d).isSome (me s (fun x s' => lift (indexD d x) fun i => k i s') kx)) kx
section
variable {X : Cx} {Γ : Gam} {W : WX} {cpos apos : Pos}
theorem d_index {o e : Expr} {mo me : MD} (hu : X.A.units + 64 < cLine) (ho : PE X o (rd X Γ W mo)) (he : PE X e (rd X Γ W me)) (hbase : attributeBase o "index" X.env (eval o X.env) = eval o X.env := by rfl)
    (hfew : ((backTo cpos (starEach [e] X.env)).all (fun x => !x.1) && (backToKw cpos (keywordEach [] X.env)).all (fun x => x.1.isSome) && decide ([e].length + ([] : List Keyword).length + (if ([] : List Keyword).isEmpty then 0 else 1) < 30)) = true := by rfl)
    (hline : (apos.endLine == cpos.line) = true := by rfl) (htrees : backTo cpos (starEach [e] X.env) = [(false, eval e X.env)] := by rfl) :
    PE X (.Call (.Attribute o "index" apos) [e] [] cpos) (rd X Γ W (mIndex mo me)) := by
  refine ⟨fun pins s σ H Q I h => ?_⟩
  obtain ⟨H0, G0, G, ss, k, kx, st, hx, hm, hk⟩ := h
  refine wpAny_Call_method_late hbase hfew hline htrees (thn (ho.run pins s σ H (fun v H1 => ∃ d s1 G1, guard (seqOf d).isSome (me s1 (fun x s' => lift (indexD d x) fun i => k i s') kx) ∧ Ex G G1 ∧ StR X.prog X.w X.K Γ H0 G0 G1 H1 σ s1 ∧ Rp X.K Γ G1 v d) I
    ⟨H0, G0, G, ss, _, kx, st, hx, hm, fun d s1 v G1 H1 q e1 st1 r1 => ⟨d, s1, G1, q, e1, st1, r1⟩⟩) fun u s1 ⟨v, H1, I1, r1, d, t1, G1, q, e1, st1, rd1⟩ => ?_)
  obtain ⟨hso, q⟩ := guard_ok q
  obtain ⟨xs, hs⟩ := Option.isSome_iff_exists.mp hso
  have arg : ∀ {a : Addr} {vs : List V} {T id : String}, RpL X.K Γ G1 vs xs → (∀ (H2 : Hp) (s2 : Shared) (ks : List NestedKey) (ku : Value) (kk : NestedKey), Inv X pins σ H2 s2 → Ex G1 H2 → KAll X.K H2 ks vs → NestedIs s2.heap kk ku → kk.depth ≤ 30 → kk ∈ ks → vs.length ≤ sizeLine → ∀ (Q2 : Value → Shared → Prop), (∀ t, Q2 (.int (ks.idxOf kk : Nat) t) { s2 with toks := s2.toks + 1 }) → wpAny (model X.prog X.w) X.A (call (.builtin id) [.ref a, ku]) Q2 X.xe s2) →
      wpAny (model X.prog X.w) X.A (callWith cpos (.builtin id) [.ref a] [(false, eval e X.env)] []) (EP X pins σ Q) X.xe s1 := fun {a vs T id} rl fin => by
    refine Calls.callWith_builtin rfl (Calls.evalArgs_plain (Calls.spliced_cons (thn (he.run pins s1 σ H1 (fun w H2 => ∃ x t2 G2, lift (indexD d x) (fun i => k i t2) ∧ Ex G1 G2 ∧ StR X.prog X.w X.K Γ H0 G0 G2 H2 σ t2 ∧ Rp X.K Γ G2 w x) I1 ⟨H0, G0, G1, t1, _, kx, st1, hx, q, fun x t2 w G2 H2 q2 e2 st2 r2 => ⟨x, t2, G2, q2, e2, st2, r2⟩⟩) fun ku s2 ⟨w, H2, I2, r2, x, t2, G2, q2, e2, st2, rd2⟩ => Calls.spliced_nil ?_)))
    obtain ⟨i, hi, q2⟩ := lift_some q2
    unfold indexD at hi
    rw [hs] at hi
    cases hkx : toKey x with
    | none => rw [hkx] at hi; cases hi
    | some kk =>
      rw [hkx] at hi
      dsimp only at hi
      cases hks : toKeyL xs with
      | none => rw [hks] at hi; cases hi
      | some ks =>
        rw [hks] at hi
        dsimp only at hi
        split at hi
        · rename_i hc
          cases hi
          simp only [Bool.and_eq_true, List.any_eq_true, decide_eq_true_eq] at hc
          obtain ⟨⟨⟨j, hj, rfl⟩, h2⟩, h3⟩ := hc
          refine fin H2 s2 ks ku _ I2 (e2.trans st2.gh) ((rpl_kall (rl.mono e2) hks).mono st2.gh) (kis_heap I2 ((rp_kis rd2 hkx).mono st2.gh) r2) (Nat.le_of_ble_eq_true h3) hj (by rw [rl.length]; exact ble_line h2) _ fun t => ⟨.int _, H2, I2.tok _, ⟨_, rfl⟩, hk _ t2 _ G2 H2 q2 (e1.trans e2) st2 (.int _)⟩
        · cases hi
  obtain ⟨a, sq, vs, rfl, hq, rl⟩ := seq_at rd1 hs
  obtain rfl : u = .ref a := r1
  have hroom : ∀ {kk : NestedKey}, kk.depth ≤ 30 → X.A.in1.units + kk.depth < cLine := fun {kk} h => by
    show X.A.units + 1 + kk.depth < cLine
    omega
  cases sq with
  | l =>
    obtain ⟨its, rvl, pl, _⟩ := I1.list (ex_l st1.gh hq)
    refine ⟨"list", "list.index", PySem.F.plainAttrs_list, PySem.F.slot_list_index, PySem.F.type_list_index, pl.isList.typeIs, fun b e => ?_, ?_⟩
    · cases e
      obtain ⟨o, n, e, c, hd, _⟩ := pl
      exact ⟨o, e, hd⟩
    · refine arg (T := "list") rl fun H2 s2 ks ku kk I2 e2 ka hn hdp hmem hlen Q2 hQ => ?_
      obtain ⟨its2, rv2, pl2, _⟩ := I2.list (ex_l e2 hq)
      have na := kall_heap I2 ka rv2
      have hl : ks.length ≤ sizeLine := by rw [← NestedAll.length _ _ na, ← rv2.length]; exact hlen
      exact PySem.SeqAt.call_list_index pl2.isList (PySem.SeqAt.ItemsEq.nested na hn (hroom hdp)) hl hmem (hQ _)
  | t =>
    have hd0 : ∃ ob, s1.heap.get? a = some ob ∧ ob.dict = none := by
      cases rd1 with
      | tup h1 _ =>
        rcases TupQ.mono st1.gh h1 with ⟨o, h, hd⟩ | ⟨o, its, n, h1, _, hd, _⟩
        · obtain ⟨e, _⟩ := I1.hok a _ h
          exact ⟨o, e, hd⟩
        · exact ⟨o, I1.kIn a o h1, hd⟩
      | lst h1 _ =>
        obtain ⟨_, its, n, _, e⟩ := I1.hok a _ (st1.gh.at h1 (nt_of rfl))
        exact ⟨_, e, rfl⟩
      | frl h1 _ =>
        obtain ⟨its, _, pl, _⟩ := I1.list (ex_l st1.gh h1)
        obtain ⟨o, n, e, c, hd, _⟩ := pl
        exact ⟨o, e, hd⟩
      | _ => cases hs
    obtain ⟨its, rvl, pl, _⟩ := I1.tuple (ex_t st1.gh hq)
    refine ⟨"tuple", "tuple.index", PySem.F.plainAttrs_tuple, PySem.F.slot_tuple_index, PySem.F.type_tuple_index, pl.typeIs, fun b e => ?_, ?_⟩
    · cases e
      exact hd0
    · refine arg (T := "tuple") rl fun H2 s2 ks ku kk I2 e2 ka hn hdp hmem hlen Q2 hQ => ?_
      obtain ⟨its2, rv2, pl2, _⟩ := I2.tuple (ex_t e2 hq)
      have na := kall_heap I2 ka rv2
      exact PySem.SeqAt.call_tuple_index pl2 (PySem.SeqAt.ItemsEq.nested na hn (hroom hdp)) hmem (hQ _)
end
end Dm
end -- DmIsi
section -- DmComp2
set_option Elab.async false
set_option linter.all false
set_option maxRecDepth 100000
namespace Dm
open PySem PySem.Spec PyProof.Rows L2
variable [Tbs]
def mLc2Go (mt : MT) (mtest : MB) (mi1 : MA) (mt1 : MT) (mtest1 : MB) (me : MD) (vs vs1 : List Nat) (k : List D → List SV → Prop) : List D → List D → List SV → Prop
  | [], acc, s => k acc s
  | d :: ds, acc, s => mt d s fun s1 => mtest s1 (fun b s2 => match b with
    | true => mi1 s2 (fun ds1 s3 => mLcGo mt1 mtest1 me vs1 (fun acc' s4 => mLc2Go mt mtest mi1 mt1 mtest1 me vs vs1 k ds acc' (wipeS s4 vs)) ds1 acc (wipeS s3 vs1)) fun _ => False
    | false => mLc2Go mt mtest mi1 mt1 mtest1 me vs vs1 k ds acc (wipeS s2 vs)) fun _ => False
def mLc2 (mi : MA) (mt : MT) (mtest : MB) (mi1 : MA) (mt1 : MT) (mtest1 : MB) (me : MD) (vs vs1 : List Nat) : MA := fun ss k kx => mi ss (fun ds s => guard (noOwnAt s vs) (mLc2Go mt mtest mi1 mt1 mtest1 me vs vs1 (fun acc s' => k acc (mergeS s s' vs)) ds [] (wipeS s vs))) kx
section
variable {X : Cx} {Γ : Gam} {W : WX} {pos : Pos}
theorem lc2_ok {mi mi1 : MA} {mt mt1 : MT} {ts ts1 : List Nat} {mtest mtest1 : MB} {me : MD} {vs vs1 : List Nat} (hts : ∀ j ∈ ts, j ∈ vs) (hts1 : ∀ j ∈ ts1, j ∈ vs1) (hv1 : ∀ j ∈ vs1, j ∈ vs) :
    ∀ σ H Q, rl X Γ W (mLc2 mi mt mtest mi1 mt1 mtest1 me vs vs1) σ H Q → tLc2 (ri X Γ W mi) (rg X Γ ts mt) (rb X Γ W0 mtest) (ri X Γ W0 mi1) (rg X Γ ts1 mt1) (rb X Γ W0 mtest1) (rd X Γ W0 me) vs vs1 σ H Q := by
  intro σ H Q h
  obtain ⟨H0, G0, G, ss, k, kx, st, hx, hm, hk⟩ := h
  refine ⟨H0, G0, G, ss, _, kx, st, hx, hm, fun ds s G1 H1 J q e st1 wk => ?_⟩
  obtain ⟨hno, q⟩ := guard_ok q
  intro L hL
  have zL : H0 L = none := st1.hh.back hL
  have gL : G1 L = none := st1.gh.back hL
  have stA : StR X.prog X.w X.K Γ H0 G1 G1 (upd H1 L (.lst [])) σ s := st1.reG.le (Fr.newH st1.gh hL)
  have stB := (stA.wipe vs).addH0 (o := .lst []) upd_same (nt_of rfl) gL fun j t et ho hh => ((st1.reG.wipe vs).noOwn hL) j t et ho hh
  -- the state between two turns of the outer loop
  let go2 := mLc2Go mt mtest mi1 mt1 mtest1 me vs vs1 (fun acc s' => k acc (mergeS s s' vs))
  let Pv : Nat → Hp → Prop := fun i H' => ∃ G' s' accv acc, StR X.prog X.w X.K Γ (upd H0 L (.lst accv)) G1 G' H' (wipe σ vs) s' ∧ RpL X.K Γ G' accv acc ∧ go2 (ds.drop i) acc s'
  have idem : wipe (wipe σ vs) vs = wipe σ vs := wipe_eq (by rw [wipe_length]) fun j hj => wipe_out hj
  refine ⟨fun i m H' => m = ds.length - i ∧ i ≤ ds.length ∧ Pv i H', ⟨ds.length, by simp, Nat.zero_le _, G1, _, [], [], stB, .nil, q⟩, ?_⟩
  rintro i m H' ⟨rfl, hi, G', s', accv, acc, st', ra', q'⟩
  by_cases hlt : i < ds.length
  · refine .inr ⟨wk.goes i H' hlt (st'.gg.trans st'.gh), Pv (i + 1), fun H2 p => ⟨ds.length - (i + 1), by omega, rfl, hlt, p⟩, fun x H2 y => ?_⟩
    obtain ⟨G2, f, hd⟩ := wk.yields i H' x H2 hlt (st'.gg.trans st'.gh) y G' st'.gg st'.gh
    have e1 : ds.drop i = ds[i] :: ds.drop (i + 1) := List.drop_eq_getElem_cons hlt
    rw [e1] at q'
    have st2 := st'.le f
    have endT : ∀ {G4 H4 : Hp} {σ4 : L2.St} {s4 : List SV} {av : List V} {ac : List D}, StR X.prog X.w X.K Γ (upd H0 L (.lst av)) G1 G4 H4 σ4 s4 → wipe σ4 vs = wipe σ vs → RpL X.K Γ G4 av ac → go2 (ds.drop (i + 1)) ac (wipeS s4 vs) → Pv (i + 1) H4 := fun {G4 H4 σ4 s4 av ac} st4 hw r4 q4 => by
      have st5 := st4.wipe vs
      rw [hw] at st5
      exact ⟨G4, _, av, ac, st5, r4, q4⟩
    refine ⟨upd H0 L (.lst accv), G1, G2, s', ds[i], _, st2, hd _ (List.getElem?_eq_getElem hlt), q', fun s3 σ3 G3 H3 q3 e3 st3 hlen hother => ?_⟩
    have hw : wipe σ3 vs = wipe σ vs := by
      rw [wipe_eq (σ := wipe σ vs) hlen fun j hj => hother j fun z => hj (hts j z)]
      exact idem
    refine ⟨hw, upd H0 L (.lst accv), G1, G3, s3, _, _, st3, xok0, q3, fun b s4 G4 H4 q4 e4 st4 => ?_⟩
    have ra4 := ra'.mono (f.gg.trans (e3.trans e4))
    cases b with
    | false => exact iteF (endT st4 hw ra4 q4)
    | true =>
      refine iteT ⟨upd H0 L (.lst accv), G1, G4, s4, _, _, st4, xok0, q4, fun ds1 s5 G5 H5 J1 q5 e5 st5 wk1 => ?_⟩
      let Pw : Nat → Hp → Prop := fun j H' => ∃ G' s' av ac, StR X.prog X.w X.K Γ (upd H0 L (.lst av)) G1 G' H' (wipe σ3 vs1) s' ∧ Ex G5 G' ∧ RpL X.K Γ G' av ac ∧ mLcGo mt1 mtest1 me vs1 (fun acc' s4 => go2 (ds.drop (i + 1)) acc' (wipeS s4 vs)) (ds1.drop j) ac s'
      have idem1 : wipe (wipe σ3 vs1) vs1 = wipe σ3 vs1 := wipe_eq (by rw [wipe_length]) fun j hj => wipe_out hj
      have toV : wipe (wipe σ3 vs1) vs = wipe σ vs := (wipe_eq (σ := σ3) (by rw [wipe_length]) fun j hj => wipe_out fun z => hj (hv1 j z)).trans hw
      refine ⟨fun j m H' => m = ds1.length - j ∧ j ≤ ds1.length ∧ Pw j H', ⟨ds1.length, by simp, Nat.zero_le _, G5, _, accv, acc, st5.wipe vs1, Ex.refl _, ra4.mono e5, q5⟩, ?_⟩
      rintro j m H6 ⟨rfl, hj, G6, s6, av, ac, st6, e6, ra6, q6⟩
      by_cases hlt1 : j < ds1.length
      · refine .inr ⟨wk1.goes j H6 hlt1 (e6.trans st6.gh), Pw (j + 1), fun H2 p => ⟨ds1.length - (j + 1), by omega, rfl, hlt1, p⟩, fun x1 H7 y1 => ?_⟩
        obtain ⟨G7, f7, hd7⟩ := wk1.yields j H6 x1 H7 hlt1 (e6.trans st6.gh) y1 G6 e6 st6.gh
        have e71 : ds1.drop j = ds1[j] :: ds1.drop (j + 1) := List.drop_eq_getElem_cons hlt1
        rw [e71] at q6
        have st7 := st6.le f7
        refine ⟨upd H0 L (.lst av), G1, G7, s6, ds1[j], _, st7, hd7 _ (List.getElem?_eq_getElem hlt1), q6, fun s8 σ8 G8 H8 q8 e8 st8 hlen8 hother8 => ?_⟩
        have hw8 : wipe σ8 vs1 = wipe σ3 vs1 := by
          rw [wipe_eq (σ := wipe σ3 vs1) hlen8 fun j hj => hother8 j fun z => hj (hts1 j z)]
          exact idem1
        refine ⟨hw8, upd H0 L (.lst av), G1, G8, s8, _, _, st8, xok0, q8, fun b s9 G9 H9 q9 e9 st9 => ?_⟩
        have ra9 := ra6.mono (f7.gg.trans (e8.trans e9))
        have e69 : Ex G5 G9 := e6.trans (f7.gg.trans (e8.trans e9))
        cases b with
        | false =>
          have stw := st9.wipe vs1
          rw [hw8] at stw
          exact iteF ⟨G9, _, av, ac, stw, e69, ra9, q9⟩
        | true =>
          refine iteT ⟨upd H0 L (.lst av), G1, G9, s9, _, _, st9, xok0, q9, fun d sA v GA HA qA eA stA rA => ?_⟩
          obtain ⟨hsz, qA⟩ := guard_ok qA
          refine ⟨av, stA.hh.at upd_same (nt_of rfl), ?_, ?_⟩
          · rw [ra6.length, sizeLine_eq]
            exact Nat.le_of_ble_eq_true hsz
          · have gA : GA L = none := stA.noG (o := .lst av) upd_same (nt_of rfl) gL
            have noA := stA.noOwn0 (a := L) (o := .lst av) upd_same
            have stC := (stA.delH0 zL).updFree (o := .lst (av ++ [v])) (no_codeN (stA.hh.at upd_same (nt_of rfl)) (nt_of rfl)) gA zL noA
            have stD := (stC.addH0 (o := .lst (av ++ [v])) upd_same (nt_of rfl) gA noA).wipe vs1
            rw [hw8] at stD
            exact ⟨GA, _, av ++ [v], ac ++ [d], stD, e69.trans eA, (ra9.mono eA).append (.cons rA .nil), qA⟩
      · have ej : j = ds1.length := Nat.le_antisymm hj (Nat.le_of_not_lt hlt1)
        subst ej
        rw [List.drop_length] at q6
        refine .inl ⟨wk1.stops H6 (e6.trans st6.gh), endT st6 toV ra6 q6⟩
  · have ei : i = ds.length := Nat.le_antisymm hi (Nat.le_of_not_lt hlt)
    subst ei
    have q' : go2 [] acc s' := by
      have e := List.drop_length (l := ds)
      rw [e] at q'
      exact q'
    refine .inl ⟨wk.stops H' (st'.gg.trans st'.gh), ?_⟩
    have hL' : H' L = some (.lst accv) := st'.hh.at upd_same (nt_of rfl)
    have g' : G' L = none := st'.noG (o := .lst accv) upd_same (nt_of rfl) gL
    have st7 := st'.delH0 zL
    have st8 := st1.merge hno st7
    refine hk acc _ L accv G' H' q' (e.trans st'.gg) st8 ra' hL' g' zL fun j t et ho hh => ?_
    have h0 := st'.noOwn0 (a := L) (o := .lst accv) upd_same
    by_cases z : j ∈ vs
    · have hl1 : j < s'.length := by
        have := (List.getElem?_eq_some_iff.mp et).1
        rwa [mergeS_length] at this
      rw [mergeS_in z hl1] at et
      have hj := List.all_eq_true.mp hno j z
      have hl2 : j < s.length := by rw [← st1.len]; exact (List.getElem?_eq_some_iff.mp hh).1
      rw [List.getElem?_eq_getElem hl2] at hj
      have e1 : s.getD j .un = s[j] := by simp [List.getD, hl2]
      rw [e1] at et
      cases et
      have hj2 : (!s[j].own) = true := hj
      rw [ho] at hj2
      cases hj2
    · rw [mergeS_out z] at et
      exact h0 j t et ho (by rw [wipe_out z]; exact hh)
theorem s_setLc2 (c : Cz X W) (i : Nat) {y : Str} {py spos : Pos} {elt tg iter tg1 iter1 : Expr} {ifs ifs1 : List Expr} {scope : Scope} (own : List (Str × Nat)) (vs1 : List Nat) {mi mi1 : MA} {mt mt1 : MT} {ts ts1 : List Nat} {mtest mtest1 : MB} {me : MD} (hi : PI X tg iter (ri X Γ W mi)) (ok : BlkOk X.N X.env.scope scope own)
    (hg : ∀ (s : Shared) (H : Hp) (C : Addr) (cl : List (Str × Addr)) (fp : List Addr), Cz (X.blk s H scope (compEnvC scope cl C X.env) fp) W0 → PG (X.blk s H scope (compEnvC scope cl C X.env) fp) tg (rg X Γ ts mt))
    (ht : ∀ (s : Shared) (H : Hp) (C : Addr) (cl : List (Str × Addr)) (fp : List Addr), Cz (X.blk s H scope (compEnvC scope cl C X.env) fp) W0 → PTs (X.blk s H scope (compEnvC scope cl C X.env) fp) ifs (rb X Γ W0 mtest))
    (hi1 : ∀ (s : Shared) (H : Hp) (C : Addr) (cl : List (Str × Addr)) (fp : List Addr), Cz (X.blk s H scope (compEnvC scope cl C X.env) fp) W0 → PI (X.blk s H scope (compEnvC scope cl C X.env) fp) tg1 iter1 (ri X Γ W0 mi1))
    (hg1 : ∀ (s : Shared) (H : Hp) (C : Addr) (cl : List (Str × Addr)) (fp : List Addr), Cz (X.blk s H scope (compEnvC scope cl C X.env) fp) W0 → PG (X.blk s H scope (compEnvC scope cl C X.env) fp) tg1 (rg X Γ ts1 mt1))
    (ht1 : ∀ (s : Shared) (H : Hp) (C : Addr) (cl : List (Str × Addr)) (fp : List Addr), Cz (X.blk s H scope (compEnvC scope cl C X.env) fp) W0 → PTs (X.blk s H scope (compEnvC scope cl C X.env) fp) ifs1 (rb X Γ W0 mtest1))
    (he : ∀ (s : Shared) (H : Hp) (C : Addr) (cl : List (Str × Addr)) (fp : List Addr), Cz (X.blk s H scope (compEnvC scope cl C X.env) fp) W0 → PE (X.blk s H scope (compEnvC scope cl C X.env) fp) elt (rd X Γ W0 me))
    (hsw : swapsWith (.ListComp elt [⟨tg, iter, ifs, 0⟩, ⟨tg1, iter1, ifs1, 0⟩] scope pos) (some (.Name y py)) spos.line X.env = pure true) (hy : X.N[i]? = some y := by rfl) (hyl : X.env.scope.names.lookup y = some .local := by rfl) (hv1 : ∀ j ∈ vs1, j ∈ own.map (·.2) := by decide) (hts : ∀ j ∈ ts, j ∈ own.map (·.2) := by decide) (hts1 : ∀ j ∈ ts1, j ∈ vs1 := by decide)
    (hs : ∀ x, foldedSetIterable iter X.env x = pure x := by intro _; rfl) (hs1 : ∀ env x, foldedSetIterable iter1 env x = pure x := by intro _ _; rfl) :
    PS X (.Assign [.Name y py] (.ListComp elt [⟨tg, iter, ifs, 0⟩, ⟨tg1, iter1, ifs1, 0⟩] scope pos) spos) (rs X Γ W (mAsgL i (mLc2 mi mt mtest mi1 mt1 mtest1 me (own.map (·.2)) vs1))) :=
  ps_weak (ps_setLc2 c.calm c.nd hy hyl hsw hi ok hv1 (fun s H C cl fp => hg s H C cl fp (c.blk ..)) (fun s H C cl fp => ht s H C cl fp (c.blk ..)) (fun s H C cl fp => hi1 s H C cl fp (c.blk ..)) (fun s H C cl fp => hg1 s H C cl fp (c.blk ..)) (fun s H C cl fp => ht1 s H C cl fp (c.blk ..)) (fun s H C cl fp => he s H C cl fp (c.blk ..)) hs hs1) fun D σ H h => by
    have h2 := asgL_ok D σ H h
    exact lc2_ok hts hts1 hv1 σ H _ h2
theorem l_lc2 (c : Cz X W) {elt tg iter tg1 iter1 : Expr} {ifs ifs1 : List Expr} {scope : Scope} (own : List (Str × Nat)) (vs1 : List Nat) {mi mi1 : MA} {mt mt1 : MT} {ts ts1 : List Nat} {mtest mtest1 : MB} {me : MD} (hi : PI X tg iter (ri X Γ W mi)) (ok : BlkOk X.N X.env.scope scope own)
    (hg : ∀ (s : Shared) (H : Hp) (C : Addr) (cl : List (Str × Addr)) (fp : List Addr), Cz (X.blk s H scope (compEnvC scope cl C X.env) fp) W0 → PG (X.blk s H scope (compEnvC scope cl C X.env) fp) tg (rg X Γ ts mt))
    (ht : ∀ (s : Shared) (H : Hp) (C : Addr) (cl : List (Str × Addr)) (fp : List Addr), Cz (X.blk s H scope (compEnvC scope cl C X.env) fp) W0 → PTs (X.blk s H scope (compEnvC scope cl C X.env) fp) ifs (rb X Γ W0 mtest))
    (hi1 : ∀ (s : Shared) (H : Hp) (C : Addr) (cl : List (Str × Addr)) (fp : List Addr), Cz (X.blk s H scope (compEnvC scope cl C X.env) fp) W0 → PI (X.blk s H scope (compEnvC scope cl C X.env) fp) tg1 iter1 (ri X Γ W0 mi1))
    (hg1 : ∀ (s : Shared) (H : Hp) (C : Addr) (cl : List (Str × Addr)) (fp : List Addr), Cz (X.blk s H scope (compEnvC scope cl C X.env) fp) W0 → PG (X.blk s H scope (compEnvC scope cl C X.env) fp) tg1 (rg X Γ ts1 mt1))
    (ht1 : ∀ (s : Shared) (H : Hp) (C : Addr) (cl : List (Str × Addr)) (fp : List Addr), Cz (X.blk s H scope (compEnvC scope cl C X.env) fp) W0 → PTs (X.blk s H scope (compEnvC scope cl C X.env) fp) ifs1 (rb X Γ W0 mtest1))
    (he : ∀ (s : Shared) (H : Hp) (C : Addr) (cl : List (Str × Addr)) (fp : List Addr), Cz (X.blk s H scope (compEnvC scope cl C X.env) fp) W0 → PE (X.blk s H scope (compEnvC scope cl C X.env) fp) elt (rd X Γ W0 me))
    (hv1 : ∀ j ∈ vs1, j ∈ own.map (·.2) := by decide) (hts : ∀ j ∈ ts, j ∈ own.map (·.2) := by decide) (hts1 : ∀ j ∈ ts1, j ∈ vs1 := by decide)
    (hs : ∀ x, foldedSetIterable iter X.env x = pure x := by intro _; rfl) (hs1 : ∀ env x, foldedSetIterable iter1 env x = pure x := by intro _ _; rfl) :
    PE X (.ListComp elt [⟨tg, iter, ifs, 0⟩, ⟨tg1, iter1, ifs1, 0⟩] scope pos) (rl X Γ W (mLc2 mi mt mtest mi1 mt1 mtest1 me (own.map (·.2)) vs1)) :=
  pe_weak (pe_lc2 c.calm c.nd hi ok hv1 (fun s H C cl fp => hg s H C cl fp (c.blk ..)) (fun s H C cl fp => ht s H C cl fp (c.blk ..)) (fun s H C cl fp => hi1 s H C cl fp (c.blk ..)) (fun s H C cl fp => hg1 s H C cl fp (c.blk ..)) (fun s H C cl fp => ht1 s H C cl fp (c.blk ..)) (fun s H C cl fp => he s H C cl fp (c.blk ..)) hs hs1) (lc2_ok hts hts1 hv1)
end
end Dm
end -- DmComp2
section -- DmDraw
set_option Elab.async false
set_option linter.all false
set_option maxRecDepth 100000
namespace Dm
open PySem PySem.Spec PyProof.Rows L2
variable [Tbs]

/-! ### the state of the draws: a dict with a list of whole numbers (large), two whole numbers (rest, turn), a list that nobody changes (cells) -/
def drawK (L C : Addr) (r t : Int) : List (Key × V) := [(.inr "large", .ref L), (.inr "rest", .int r), (.inr "cells", .ref C), (.inr "turn", .int t)]
def DrawO (P : Program) (w : World) (a L C : Addr) : HO := .ext fun h => ∃ r t vs, (a == sysModules) = false ∧ KV (drawK L C r t) vs ∧ h.DictOf (mixKind P w) a vs
def ListO (L : Addr) : HO := .ext fun h => ∃ (ns : List Int) (its : List Value) (n : Nat), ns.length ≤ sizeLine ∧ Vals (ns.map V.int) its ∧ h.get? L = some { cls := .type "list", data := .seq its.toArray n }
def DrawP (P : Program) (w : World) (v : V) (G : Hp) : Prop := ∃ (a L C : Addr) (ns : List Int), v = .ref a ∧ G a = some (DrawO P w a L C) ∧ G L = some (ListO L) ∧ G C = some (.lst (ns.map V.int)) ∧ L ≠ a
theorem nt_ext {φ : Heap → Prop} {b : Addr} (o : Obj) (hf : ∀ vs, o.data ≠ .fields vs) (nf : o.data ≠ .freed) (ex : ∀ h : Heap, (∀ c, c ≤ b → h.get? c = some o) → φ h) (hb : ∀ c, b ≤ c → True) : ∀ c q, c ≤ b → (HO.ext φ) ≠ LamX.CodeO c q := fun c q hc z => by
  unfold LamX.CodeO at z
  have e := HO.ext.inj z
  let h : Heap := ⟨(List.replicate (b + 1) o).toArray, {}⟩
  have hg : ∀ c, c ≤ b → h.get? c = some o := fun c hc => by
    unfold Heap.get?
    have hb2 : c < b + 1 := Nat.lt_succ_of_le hc
    have e2 : (List.replicate (b + 1) o).toArray[c]? = some o := by
      simp [List.getElem?_replicate, hb2]
    show (match (List.replicate (b + 1) o).toArray[c]? with
      | some ⟨_, _, .freed, _⟩ => none
      | o => o) = some o
    rw [e2]
    obtain ⟨c1, c2, c3, c4⟩ := o
    cases c3 <;> first
      | rfl
      | exact absurd rfl nf
  have r := (congrFun e h).mp (ex h hg)
  obtain ⟨oc, vs, t, h1, h2, h3⟩ := r
  rw [hg c hc] at h1
  cases h1
  exact hf vs h2
theorem nt_ListO {L : Addr} : NT (ListO L) := ⟨fun ps z => HO.noConfusion z, fun c q => nt_ext (b := L + c) { cls := .type "list", data := .seq (#[] : Array Value) } (fun vs z => nomatch z) (fun z => nomatch z) (fun h hg => ⟨[], [], _, Nat.zero_le _, .nil, hg L (Nat.le_add_right _ _)⟩) (fun _ _ => trivial) c q (Nat.le_add_left _ _)⟩
theorem upd_self {H : Hp} {a : Addr} {o : HO} (h : H a = some o) : upd H a o = H := by
  funext b
  by_cases q : b = a
  · rw [q, upd_same, h]
  · rw [upd_ne q]
theorem drawO_ok {P : Program} {w : World} {H : Hp} {h : Heap} {a L C : Addr} {r t : Int} {vs : List (Key × Value)} (hs : (a == sysModules) = false) (k : KV (drawK L C r t) vs) (d : h.DictOf (mixKind P w) a vs) : ObjOk P w H h a (DrawO P w a L C) := by
  obtain ⟨o, es, ep, e, rest⟩ := id d
  exact ⟨⟨r, t, vs, hs, k, d⟩, ⟨o, e⟩, fun h1 h2 ⟨r, t, vs, hs, k, o, es, ep, e, rest⟩ kk => ⟨r, t, vs, hs, k, o, es, ep, kk _ e, rest⟩⟩
theorem listO_ok {P : Program} {w : World} {H : Hp} {h : Heap} {L : Addr} {ns : List Int} {its : List Value} {n : Nat} (hl : ns.length ≤ sizeLine) (r : Vals (ns.map V.int) its) (e : h.get? L = some { cls := .type "list", data := .seq its.toArray n }) : ObjOk P w H h L (ListO L) :=
  ⟨⟨ns, its, n, hl, r, e⟩, ⟨_, e⟩, fun h1 h2 ⟨ns, its, n, hl, r, e⟩ kk => ⟨ns, its, n, hl, r, kk _ e⟩⟩
section
variable {X : Cx} {pins : List (Addr × Obj)} {σ : L2.St} {H : Hp} {s : Shared} {a L C : Addr}
theorem inv_swap {o : HO} (I : Inv X pins σ H s) (mu : Mut (H a)) (new : ObjOk X.prog X.w (upd H a o) s.heap a o) : Inv X pins σ (upd H a o) s := by
  have he : ∃ q, s.heap.get? a = some q := by
    cases q : H a with
    | none => rw [q] at mu; exact mu.elim
    | some u => exact objOk_get (I.hok a u q)
  exact d_write (t' := s.toks) I mu (Heap.SameBut.refl ..) he new
theorem openD (I : Inv X pins σ H s) (h : H a = some (DrawO X.prog X.w a L C)) : ∃ r t, Inv X pins σ (upd H a (.dK (drawK L C r t))) s := by
  obtain ⟨⟨r, t, vs, hs, k, d⟩, _, _⟩ := I.hok a _ h
  exact ⟨r, t, inv_swap I (by rw [h]; trivial) ⟨by show 4 ≤ sizeLine; decide, hs, vs, k, d⟩⟩
theorem closeD {r t : Int} (I : Inv X pins σ H s) (h : H a = some (.dK (drawK L C r t))) : Inv X pins σ (upd H a (DrawO X.prog X.w a L C)) s := by
  obtain ⟨_, hs, vs, k, d⟩ := I.hok a _ h
  exact inv_swap I (by rw [h]; trivial) (drawO_ok hs k d)
theorem openL (I : Inv X pins σ H s) (h : H L = some (ListO L)) : ∃ ns : List Int, ns.length ≤ sizeLine ∧ Inv X pins σ (upd H L (.lst (ns.map V.int))) s := by
  obtain ⟨⟨ns, its, n, hl, r, e⟩, _, _⟩ := I.hok L _ h
  exact ⟨ns, hl, inv_swap I (by rw [h]; trivial) ⟨by rw [List.length_map]; exact hl, its, n, r, e⟩⟩
theorem closeL {ns : List Int} (I : Inv X pins σ H s) (h : H L = some (.lst (ns.map V.int))) : Inv X pins σ (upd H L (ListO L)) s := by
  obtain ⟨hl, its, n, r, e⟩ := I.hok L _ h
  rw [List.length_map] at hl
  exact inv_swap I (by rw [h]; trivial) (listO_ok hl r e)
end
/-! ### the abstract heap seen otherwise -/
section
variable {X : Cx} {e : Expr} {t : TE}
theorem pe_conv (h : PE X e t) : PE X e (fun σ H Q => ∃ P : Hp → Prop, (∀ pins s, Inv X pins σ H s → ∃ H', P H' ∧ Inv X pins σ H' s) ∧ ∀ H', P H' → t σ H' fun v H1 => ∃ H2, (∀ pins s, Inv X pins σ H1 s → Inv X pins σ H2 s) ∧ Q v H2) := by
  refine ⟨fun pins s σ H Q I hh => ?_⟩
  obtain ⟨P, h1, h2⟩ := hh
  obtain ⟨H', p, I'⟩ := h1 pins s I
  refine thn (h.run pins s σ H' _ I' (h2 H' p)) fun u s1 ⟨v, H1, I1, r, H2, k, q⟩ => ⟨v, H2, k _ _ I1, r, q⟩
end
def useDraw (dp : V → Hp → Prop) (ss : List SV) (i : Nat) (p : Prop) : Prop := match ss[i]? with
  | some (.d (.opq φ)) => (∀ v G, φ v G → dp v G) ∧ p
  | _ => False
theorem draw_at {P : Program} {w : World} {K : PySem.W.Frag} {Γ : Gam} {H0 G0 G H : Hp} {σ : L2.St} {ss : List SV} {i : Nat} {p : Prop} {dp : V → Hp → Prop} (st : StR P w K Γ H0 G0 G H σ ss) (h : useDraw dp ss i p) : ∃ v, σ[i]? = some (some v) ∧ dp v G ∧ p := by
  unfold useDraw at h
  split at h
  · rename_i φ e0
    obtain ⟨o, ho, v, rfl, rv⟩ := st.sl i _ e0
    cases rv with
    | opq hφ => exact ⟨v, ho, h.1 v G (hφ G (Ex.refl _)), h.2⟩
  · exact h.elim
theorem k_large_rest : ¬ (Sum.inr ("large" : Str) : Key) = Sum.inr ("rest" : Str) := by decide +kernel
theorem k_large_cells : ¬ (Sum.inr ("large" : Str) : Key) = Sum.inr ("cells" : Str) := by decide +kernel
theorem k_large_turn : ¬ (Sum.inr ("large" : Str) : Key) = Sum.inr ("turn" : Str) := by decide +kernel
theorem k_rest_large : ¬ (Sum.inr ("rest" : Str) : Key) = Sum.inr ("large" : Str) := by decide +kernel
theorem k_rest_cells : ¬ (Sum.inr ("rest" : Str) : Key) = Sum.inr ("cells" : Str) := by decide +kernel
theorem k_rest_turn : ¬ (Sum.inr ("rest" : Str) : Key) = Sum.inr ("turn" : Str) := by decide +kernel
theorem k_cells_large : ¬ (Sum.inr ("cells" : Str) : Key) = Sum.inr ("large" : Str) := by decide +kernel
theorem k_cells_rest : ¬ (Sum.inr ("cells" : Str) : Key) = Sum.inr ("rest" : Str) := by decide +kernel
theorem k_cells_turn : ¬ (Sum.inr ("cells" : Str) : Key) = Sum.inr ("turn" : Str) := by decide +kernel
theorem k_turn_large : ¬ (Sum.inr ("turn" : Str) : Key) = Sum.inr ("large" : Str) := by decide +kernel
theorem k_turn_rest : ¬ (Sum.inr ("turn" : Str) : Key) = Sum.inr ("rest" : Str) := by decide +kernel
theorem k_turn_cells : ¬ (Sum.inr ("turn" : Str) : Key) = Sum.inr ("cells" : Str) := by decide +kernel
theorem val_large {L C : Addr} {r t : Int} : valV (drawK L C r t) (.inr "large") = some (.ref L) := valV_pos rfl
theorem val_rest {L C : Addr} {r t : Int} : valV (drawK L C r t) (.inr "rest") = some (.int r) := by
  unfold drawK
  rw [valV_neg (p := ((Sum.inr ("large" : Str) : Key), V.ref L)) k_large_rest]
  exact valV_pos rfl
theorem val_cells {L C : Addr} {r t : Int} : valV (drawK L C r t) (.inr "cells") = some (.ref C) := by
  unfold drawK
  rw [valV_neg (p := ((Sum.inr ("large" : Str) : Key), V.ref L)) k_large_cells, valV_neg (p := ((Sum.inr ("rest" : Str) : Key), V.int r)) k_rest_cells]
  exact valV_pos rfl
theorem val_turn {L C : Addr} {r t : Int} : valV (drawK L C r t) (.inr "turn") = some (.int t) := by
  unfold drawK
  rw [valV_neg (p := ((Sum.inr ("large" : Str) : Key), V.ref L)) k_large_turn, valV_neg (p := ((Sum.inr ("rest" : Str) : Key), V.int r)) k_rest_turn, valV_neg (p := ((Sum.inr ("cells" : Str) : Key), V.ref C)) k_cells_turn]
  exact valV_pos rfl
section
variable {X : Cx} {Γ : Gam} {W : WX} {pos : Pos}
/-- draw["k"], as the abstract heap has it -/
theorem pe_draw (i : Nat) {x key : Str} {np kp : Pos} {j} (hu : X.A.units + 64 < cLine) (hN : X.N[i]? = some x) (hv : Vis X.env.scope x) (hd : (x == ("__debug__" : Str)) = false) (hcd : (x == ("__classdict__" : Str)) = false) (hs : NoSl (.Constant (.str key) j kp)) :
    PE X (.Subscript (.Name x np) (.Constant (.str key) j kp) pos) (fun σ H Q => ∃ a L C, σ[i]? = some (some (.ref a)) ∧ H a = some (DrawO X.prog X.w a L C) ∧ ∀ r t, ∃ v, valV (drawK L C r t) (.inr key) = some v ∧ Q v H) := by
  refine ⟨fun pins s σ H Q I h => ?_⟩
  obtain ⟨a, L, C, hσ, hH, hq⟩ := h
  refine subD_of PySem.F.slot_dict_getitem.lookup hs (thn ((pe_var (pos := np) hN hv hd hcd).run pins s σ H (fun v1 H2 => v1 = .ref a ∧ H2 = H) I ⟨.ref a, hσ, rfl, rfl⟩) fun u s1 ⟨v1, H1, I1, r1, q2, q3⟩ => ?_)
  subst q2 q3
  obtain rfl : u = .ref a := r1
  refine thn ((pe_str (x := key) (j := j) (pos := kp)).run pins s1 σ _ (fun v2 H2 => v2 = .str key ∧ H2 = H1) I1 ⟨rfl, rfl⟩) fun iv s2 ⟨v2, H2, I2, r2, q4, q5⟩ => ?_
  subst q4 q5
  obtain ⟨r, t, I3⟩ := openD I2 hH
  obtain ⟨v, hvv, q⟩ := hq r t
  have g : DGet (upd H2 a (.dK (drawK L C r t))) a (kV (.inr key)) (some v) := by
    rw [← hvv]
    exact DGet.k upd_same
  refine ⟨dict_typeIs I3 g, d_getItem (by omega) I3 g r2 fun w' s4 I4 rw' => ⟨v, H2, ?_, rw', q⟩⟩
  have I5 := closeD (L := L) (C := C) (r := r) (t := t) I4 upd_same
  rw [upd_upd, upd_self hH] at I5
  exact I5
/-- draw["rest"], draw["turn"] -/
def mDrawInt (dp : V → Hp → Prop) (i : Nat) : MD := fun ss k _ => useDraw dp ss i (∀ r : Int, k (.int r) ss)
theorem d_drawInt (i : Nat) {x key : Str} {np kp : Pos} {j} (hu : X.A.units + 64 < cLine) (hk : key = "rest" ∨ key = "turn") (hN : X.N[i]? = some x := by rfl) (hv : Vis X.env.scope x := by first | exact Or.inl rfl | exact Or.inr (Or.inl rfl) | exact Or.inr (Or.inr rfl)) (hd : (x == ("__debug__" : Str)) = false := by decide) (hcd : (x == ("__classdict__" : Str)) = false := by decide) (hs : NoSl (.Constant (.str key) j kp) := by intro _ _; rfl) :
    PE X (.Subscript (.Name x np) (.Constant (.str key) j kp) pos) (rd X Γ W (mDrawInt (DrawP X.prog X.w) i)) := pe_weak (pe_draw i hu hN hv hd hcd hs) fun σ H Q h => by
  obtain ⟨H0, G0, G, ss, k, kx, st, hx, hm, hk2⟩ := h
  obtain ⟨v, hσ, ⟨a, L, C, ns, rfl, ha, hL, hC, _⟩, hm⟩ := draw_at st hm
  refine ⟨a, L, C, hσ, st.gh.k _ _ ha (fun _ z => HO.noConfusion z), fun r t => ?_⟩
  rcases hk with rfl | rfl
  · exact ⟨_, val_rest, hk2 _ ss _ G H (hm r) (Ex.refl _) st (.int r)⟩
  · exact ⟨_, val_turn, hk2 _ ss _ G H (hm t) (Ex.refl _) st (.int t)⟩
/-- draw["cells"] -/
def mDrawCells (dp : V → Hp → Prop) (i : Nat) : MD := fun ss k _ => useDraw dp ss i (∀ ns : List Int, k (.lst (ns.map .int)) ss)
theorem rpl_ints {K : PySem.W.Frag} {G : Hp} : ∀ ns : List Int, RpL K Γ G (ns.map V.int) (ns.map D.int)
  | [] => .nil
  | n :: ns => .cons (.int n) (rpl_ints ns)
theorem d_drawCells (i : Nat) {x : Str} {np kp : Pos} {j} (hu : X.A.units + 64 < cLine) (hN : X.N[i]? = some x := by rfl) (hv : Vis X.env.scope x := by first | exact Or.inl rfl | exact Or.inr (Or.inl rfl) | exact Or.inr (Or.inr rfl)) (hd : (x == ("__debug__" : Str)) = false := by decide) (hcd : (x == ("__classdict__" : Str)) = false := by decide) (hs : NoSl (.Constant (.str "cells") j kp) := by intro _ _; rfl) :
    PE X (.Subscript (.Name x np) (.Constant (.str "cells") j kp) pos) (rd X Γ W (mDrawCells (DrawP X.prog X.w) i)) := pe_weak (pe_draw i hu hN hv hd hcd hs) fun σ H Q h => by
  obtain ⟨H0, G0, G, ss, k, kx, st, hx, hm, hk2⟩ := h
  obtain ⟨v, hσ, ⟨a, L, C, ns, rfl, ha, hL, hC, _⟩, hm⟩ := draw_at st hm
  exact ⟨a, L, C, hσ, st.gh.k _ _ ha (fun _ z => HO.noConfusion z), fun r t => ⟨_, val_cells, hk2 _ ss _ G H (hm ns) (Ex.refl _) st (.lst hC (rpl_ints ns))⟩⟩
/-- draw["rest"] = e, draw["turn"] = e -/
def mDrawPut (dp : V → Hp → Prop) (i : Nat) (m : MD) : MS := fun ss C => m ss (fun d s => match d with
  | .int _ => useDraw dp s i (C.nx s)
  | _ => False) C.kx
theorem put_rest {L C : Addr} {r t v : Int} : putK (drawK L C r t) (.inr "rest") (.int v) = drawK L C v t := by
  unfold putK
  rw [valV_any, val_rest]
  rw [if_pos (by rfl)]
  unfold drawK
  simp only [List.map_cons, List.map_nil, k_large_rest, k_cells_rest, k_turn_rest, if_false, if_true]
theorem put_turn {L C : Addr} {r t v : Int} : putK (drawK L C r t) (.inr "turn") (.int v) = drawK L C r v := by
  unfold putK
  rw [valV_any, val_turn]
  rw [if_pos (by rfl)]
  unfold drawK
  simp only [List.map_cons, List.map_nil, k_large_turn, k_rest_turn, k_cells_turn, if_false, if_true]
theorem s_drawPut (i : Nat) {x key : Str} {np kp tp : Pos} {j} {e : Expr} {m : MD} (hu : X.A.units + 64 < cLine) (hk : key = "rest" ∨ key = "turn") (he : PE X e (rd X Γ W m)) (hsw : swapsWith e (some (.Subscript (.Name x np) (.Constant (.str key) j kp) tp)) pos.line X.env = pure false := by rfl) (hN : X.N[i]? = some x := by rfl) (hv : Vis X.env.scope x := by first | exact Or.inl rfl | exact Or.inr (Or.inl rfl) | exact Or.inr (Or.inr rfl))
    (hd : (x == ("__debug__" : Str)) = false := by decide) (hcd : (x == ("__classdict__" : Str)) = false := by decide) : PS X (.Assign [.Subscript (.Name x np) (.Constant (.str key) j kp) tp] e pos) (rs X Γ W (mDrawPut (DrawP X.prog X.w) i m)) := by
  refine ⟨fun pins s σ H D I h => ?_⟩
  obtain ⟨H0, G0, G, ss, C, st, hx, hm, h1, h2, h3, h4⟩ := h
  refine wpAny_Assign_Subscript (thn (he.run pins s σ H (fun y H1 => ∃ v s1 G1, y = .int v ∧ useDraw (DrawP X.prog X.w) s1 i (C.nx s1) ∧ StR X.prog X.w X.K Γ H0 G0 G1 H1 σ s1) I ⟨H0, G0, G, ss, _, C.kx, st, hx, hm, fun d s1 v G1 H1 q e1 st1 r1 => ?_⟩) fun r s1 ⟨y, H1, I1, ry, v, t1, G1, ey, q, st1⟩ => ?_) hsw
  · split at q
    · exact ⟨_, s1, G1, r1.int_inv, q, st1⟩
    · exact q.elim
  · subst ey
    obtain ⟨v0, hσ, ⟨a, L, Ca, ns, rfl, ha, hL, hC, _⟩, hnx⟩ := draw_at st1 q
    have hH := st1.gh.k _ _ ha (fun _ z => HO.noConfusion z)
    refine thn ((pe_var (pos := np) hN hv hd hcd).run pins s1 σ H1 (fun v1 H2 => v1 = .ref a ∧ H2 = H1) I1 ⟨.ref a, hσ, rfl, rfl⟩) fun u s3 ⟨v1, H2, I2, r2, q2, q3⟩ => ?_
    subst q2 q3
    obtain rfl : u = .ref a := r2
    refine thn ((pe_str (x := key) (j := j) (pos := kp)).run pins s3 σ _ (fun v2 H3 => v2 = .str key ∧ H3 = H2) I2 ⟨rfl, rfl⟩) fun iv s4 ⟨v2, H3, I3, r3, q4, q5⟩ => ?_
    subst q4 q5
    obtain ⟨r', t', I4⟩ := openD I3 hH
    have hlen : (drawK L Ca r' t').length < sizeLine := by show 4 < sizeLine; decide
    have key' : ∃ r2 t2, putK (drawK L Ca r' t') (.inr key) (.int v) = drawK L Ca r2 t2 := by
      rcases hk with rfl | rfl
      · exact ⟨v, t', put_rest⟩
      · exact ⟨r', v, put_turn⟩
    obtain ⟨r2, t2, ek⟩ := key'
    refine d_setItem (y := kV (.inr key)) (by omega) I4 (DPut.k upd_same hlen) r3 ry fun s5 I5 => ⟨σ, H3, ?_, h1 t1 σ G1 H3 hnx st1⟩
    rw [upd_upd, ek] at I5
    have I6 := closeD (L := L) (C := Ca) (r := r2) (t := t2) I5 upd_same
    rw [upd_upd, upd_self hH] at I6
    exact I6
end
end Dm
namespace Dm
open PySem PySem.Spec PyProof.Rows L2
variable [Tbs]
/-! ### draw["large"].pop(0) if draw["large"] != [] else e -/
theorem canLay_ints : ∀ ns : List Int, PyData.canLayAll0 (ns.map .int) = true
  | [] => by simp [PyData.canLayAll0]
  | n :: ns => by
    show PyData.canLayAll0 (.int n :: ns.map .int) = true
    simp [PyData.canLayAll0, PyData.canLay0, canLay_ints ns]
theorem shaped_ints (ns : List Int) : SeqAt.shaped (.list (ns.map .int)) = true := by
  unfold SeqAt.shaped
  rw [Bool.and_eq_true]
  refine ⟨?_, ?_⟩
  · simp [PyData.canLay0, canLay_ints ns]
  · simp [PyData.depth, depth_ints ns]
theorem eqv_ints (ns : List Int) : PyData.eqv (.list (ns.map .int)) (.list []) = ns.isEmpty := by
  cases ns with
  | nil => simp [PyData.eqv, PyData.eqvAll]
  | cons n ns => simp [PyData.eqv, PyData.eqvAll]
theorem dp_ints {K : PySem.W.Frag} {H : Hp} : ∀ ns : List Int, DpAll K H (ns.map V.int) (ns.map .int)
  | [] => .nil
  | n :: ns => .cons (.int n) (dp_ints ns)
def mDrawPop (dp : V → Hp → Prop) (i : Nat) (m : MD) : MD := fun ss k kx => useDraw dp ss i ((∀ r : Int, k (.int r) ss) ∧ m ss k kx)
section
variable {X : Cx} {Γ : Gam} {W : WX} {pos : Pos}
theorem d_drawPop (i : Nat) {x : Str} {np kp np2 kp2 sp sp2 lp cp ap pp zp : Pos} {j j2 zj} {e : Expr} {m : MD} (hu : X.A.units + 64 < cLine) (he : PE X e (rd X Γ W m)) (hN : X.N[i]? = some x := by rfl) (hv : Vis X.env.scope x := by first | exact Or.inl rfl | exact Or.inr (Or.inl rfl) | exact Or.inr (Or.inr rfl))
    (hd : (x == ("__debug__" : Str)) = false := by decide) (hcd : (x == ("__classdict__" : Str)) = false := by decide)
    (hbase : attributeBase (.Subscript (.Name x np2) (.Constant (.str "large") j2 kp2) sp2) "pop" X.env (eval (.Subscript (.Name x np2) (.Constant (.str "large") j2 kp2) sp2) X.env) = eval (.Subscript (.Name x np2) (.Constant (.str "large") j2 kp2) sp2) X.env := by rfl) (hline : (ap.endLine == pp.line) = true := by rfl) :
    PE X (.IfExp (.Compare (.Subscript (.Name x np) (.Constant (.str "large") j kp) sp) [.NotEq] [.List [] lp] cp) (.Call (.Attribute (.Subscript (.Name x np2) (.Constant (.str "large") j2 kp2) sp2) "pop" ap) [.Constant (.int 0) zj zp] [] pp) e pos) (rd X Γ W (mDrawPop (DrawP X.prog X.w) i m)) := by
  have test := pt_cmpR (pos := cp) (op_neD hu) (pe_draw (pos := sp) (np := np) (kp := kp) (j := j) (key := "large") i hu hN hv hd hcd (by intro _ _; rfl)) (pe_lst (pos := lp) pa_nil) (nomark _)
  have pop := pe_bm (cpos := pp) (apos := ap) PySem.F.plainAttrs_list PySem.F.slot_list_pop PySem.F.type_list_pop mt_popAt (pe_draw (pos := sp2) (np := np2) (kp := kp2) (j := j2) (key := "large") i hu hN hv hd hcd (by intro _ _; rfl)) (pa_cons (pe_int (i := 0) (j := zj) (pos := zp)) pa_nil) hbase (by rfl) hline (by rfl) (by rfl)
  refine pe_weak (pe_conv (pe_ifExp (pos := pos) test pop (pe_conv he))) fun σ H Q h => ?_
  obtain ⟨H0, G0, G, ss, k, kx, st, hx, hm, hk⟩ := h
  obtain ⟨v, hσ, ⟨a, L, C, ns0, rfl, ha, hL, hC, hne⟩, hm1, hm2⟩ := draw_at st hm
  have hHa := st.gh.k _ _ ha (fun _ z => HO.noConfusion z)
  have hHL := st.gh.at hL nt_ListO
  refine ⟨fun H' => ∃ ns : List Int, ns.length ≤ sizeLine ∧ H' = upd H L (.lst (ns.map V.int)), fun pins s I => ?_, ?_⟩
  · obtain ⟨ns, hl, I'⟩ := openL I hHL
    exact ⟨_, ⟨ns, hl, rfl⟩, I'⟩
  · rintro H' ⟨ns, hl, rfl⟩
    have hA1 : upd H L (HO.lst (ns.map V.int)) a = some (DrawO X.prog X.w a L C) := by rw [upd_ne (Ne.symm hne)]; exact hHa
    refine ⟨a, L, C, hσ, hA1, fun r t => ⟨.ref L, val_large, Nat.zero_le _, fun p hp => ?_⟩⟩
    have hpL : p ≠ L := fun z => by
      rw [z, upd_same] at hp
      cases hp
    have hp0 : H p = none := by rw [upd_ne hpL] at hp; exact hp
    have hL2 : upd (upd H L (HO.lst (ns.map V.int))) p (.lst []) L = some (.lst (ns.map V.int)) := by rw [upd_ne hpL.symm, upd_same]
    have hA2 : upd (upd H L (HO.lst (ns.map V.int))) p (.lst []) a = some (DrawO X.prog X.w a L C) := by rw [upd_ne (ne_of_none hA1 hp)]; exact hA1
    have stp : StR X.prog X.w X.K Γ H0 G0 G (upd H p (.lst [])) σ ss := st.le (Fr.newH st.gh hp0)
    have hback : ∀ (o : HO), upd (upd (upd (upd H L (HO.lst (ns.map V.int))) p (.lst [])) L o) L (ListO L) = upd H p (.lst []) := fun o => by
      funext b
      by_cases q : b = L
      · rw [q, upd_same, upd_ne hpL.symm, hHL]
      · rw [upd_ne q, upd_ne q]
        by_cases q2 : b = p
        · rw [q2, upd_same, upd_same]
        · rw [upd_ne q2, upd_ne q2, upd_ne q]
    refine ⟨.list (ns.map .int), .list [], .lst (SqL.of hL2) (dp_ints ns), .lst (SqL.of upd_same) .nil, shaped_ints ns, shaped_ints [], _, rfl, ?_⟩
    rw [eqv_ints]
    cases ns with
    | cons n ns =>
      refine iteT ⟨a, L, C, hσ, hA2, fun r t => ⟨.ref L, val_large, .inl ⟨rfl, _, SqL.of hL2⟩, ?_⟩⟩
      refine ⟨L, _, 0, 0, .int n, rfl, rfl, hL2, by decide, by decide, ?_, rfl, upd H p (.lst []), fun pins s I => ?_, hk _ ss _ G _ (hm1 n) (Ex.refl _) stp (.int n)⟩
      · simp [seqIndex?]
      · have I' := closeL (L := L) (ns := ns) I (by rw [upd_same]; rfl)
        rw [hback] at I'
        exact I'
    | nil =>
      refine iteF ⟨fun H' => H' = upd H p (.lst []), fun pins s I => ⟨_, rfl, ?_⟩, ?_⟩
      · have I' := closeL (L := L) (ns := []) I hL2
        have e2 : upd (upd (upd H L (HO.lst (([] : List Int).map V.int))) p (.lst [])) L (ListO L) = upd H p (.lst []) := by
          have := hback (ListO L)
          rw [upd_upd] at this
          exact this
        rw [e2] at I'
        exact I'
      · rintro H' rfl
        exact ⟨H0, G0, G, ss, k, kx, stp, hx, hm2, fun d s' v G' H' q e' st' r => ⟨H', fun _ _ I => I, H', fun _ _ I => I, hk d s' v G' H' q e' st' r⟩⟩
end
end Dm
namespace Dm
open PySem PySem.Spec PyProof.Rows L2
variable [Tbs]
/-! ### the state is made -/
theorem nt_DrawO {P : Program} {w : World} {a L C : Addr} : NT (DrawO P w a L C) := by
  refine ⟨fun ps z => HO.noConfusion z, fun c q z => ?_⟩
  unfold DrawO LamX.CodeO at z
  have e := HO.ext.inj z
  let o : Obj := { cls := .none, data := .fields #[.none, .str q 0] }
  let h : Heap := ⟨(List.replicate (a + c + 1) o).toArray, {}⟩
  have hc : ∀ b, b ≤ a + c → h.get? b = some o := fun b hb => by
    unfold Heap.get?
    have hb2 : b < a + c + 1 := Nat.lt_succ_of_le hb
    have e2 : (List.replicate (a + c + 1) o).toArray[b]? = some o := by
      simp [List.getElem?_replicate, hb2]
    show (match (List.replicate (a + c + 1) o).toArray[b]? with
      | some ⟨_, _, .freed, _⟩ => none
      | o => o) = some o
    rw [e2]
  have r := (congrFun e h).mpr ⟨o, #[.none, .str q 0], 0, hc c (Nat.le_add_left c a), rfl, rfl⟩
  obtain ⟨_, _, _, _, _, o', es, ep, h1, hx, _⟩ := r
  rw [hc a (Nat.le_add_right a c)] at h1
  cases h1
  cases hx.1
theorem merge_draw {L C : Addr} {r t : Int} : mergeK [] (drawK L C r t) = drawK L C r t := by
  have h1 : putK ([] : List (Key × V)) (Sum.inr ("large" : Str)) (V.ref L) = [((Sum.inr ("large" : Str) : Key), V.ref L)] := rfl
  have h2 : putK [((Sum.inr ("large" : Str) : Key), V.ref L)] (Sum.inr ("rest" : Str)) (V.int r) = [((Sum.inr ("large" : Str) : Key), V.ref L), ((Sum.inr ("rest" : Str) : Key), V.int r)] := putK_new _ (by
    rw [valV_neg (p := ((Sum.inr ("large" : Str) : Key), V.ref L)) k_large_rest]; rfl)
  have h3 : putK [((Sum.inr ("large" : Str) : Key), V.ref L), ((Sum.inr ("rest" : Str) : Key), V.int r)] (Sum.inr ("cells" : Str)) (V.ref C) = [((Sum.inr ("large" : Str) : Key), V.ref L), ((Sum.inr ("rest" : Str) : Key), V.int r), ((Sum.inr ("cells" : Str) : Key), V.ref C)] := putK_new _ (by
    rw [valV_neg (p := ((Sum.inr ("large" : Str) : Key), V.ref L)) k_large_cells, valV_neg (p := ((Sum.inr ("rest" : Str) : Key), V.int r)) k_rest_cells]; rfl)
  have h4 : putK [((Sum.inr ("large" : Str) : Key), V.ref L), ((Sum.inr ("rest" : Str) : Key), V.int r), ((Sum.inr ("cells" : Str) : Key), V.ref C)] (Sum.inr ("turn" : Str)) (V.int t) = drawK L C r t := putK_new _ (by
    rw [valV_neg (p := ((Sum.inr ("large" : Str) : Key), V.ref L)) k_large_turn, valV_neg (p := ((Sum.inr ("rest" : Str) : Key), V.int r)) k_rest_turn, valV_neg (p := ((Sum.inr ("cells" : Str) : Key), V.ref C)) k_cells_turn]; rfl)
  show putK (putK (putK (putK ([] : List (Key × V)) (Sum.inr ("large" : Str)) (V.ref L)) (Sum.inr ("rest" : Str)) (V.int r)) (Sum.inr ("cells" : Str)) (V.ref C)) (Sum.inr ("turn" : Str)) (V.int t) = _
  rw [h1, h2, h3, h4]
def ownInts (s : List SV) (i : Nat) : Prop := match s[i]? with
  | some (.ol ds) => (intsOf ds).isSome = true
  | _ => False
def mBegun (dp : V → Hp → Prop) (i : Nat) (mc : MA) : MD := fun ss k kx => (∃ ds, ss[i]? = some (.ol ds)) ∧ mc ss (fun ds s => (∃ ds', s[i]? = some (.ol ds') ∧ (intsOf ds').isSome = true) ∧ (intsOf ds).isSome = true ∧ k (.opq dp) (s.set i .un)) kx
section
variable {X : Cx} {Γ : Gam} {W : WX} {pos : Pos}
theorem d_begun (i : Nat) {x : Str} {np p1 p2 p3 p4 q2 q4 : Pos} {j1 j2 j3 j4 r2 r4} {e : Expr} {mc : MA} (hc : PE X e (rl X Γ W mc)) (hN : X.N[i]? = some x := by rfl) (hv : Vis X.env.scope x := by first | exact Or.inl rfl | exact Or.inr (Or.inl rfl) | exact Or.inr (Or.inr rfl)) (hd : (x == ("__debug__" : Str)) = false := by decide) (hcd : (x == ("__classdict__" : Str)) = false := by decide) :
    PE X (.Dict [some (.Constant (.str "large") j1 p1), some (.Constant (.str "rest") j2 p2), some (.Constant (.str "cells") j3 p3), some (.Constant (.str "turn") j4 p4)] [.Name x np, .Constant (.int 0) r2 q2, e, .Constant (.int 0) r4 q4] pos) (rd X Γ W (mBegun (DrawP X.prog X.w) i mc)) := by
  have disp := pe_disp (pos := pos) (pps_cons (pe_str (x := "large") (j := j1) (pos := p1)) (pe_var (pos := np) (i := i) hN hv hd hcd) (pps_cons (pe_str (x := "rest") (j := j2) (pos := p2)) (pe_int (i := 0) (j := r2) (pos := q2)) (pps_cons (pe_str (x := "cells") (j := j3) (pos := p3)) hc (pps_cons (pe_str (x := "turn") (j := j4) (pos := p4)) (pe_int (i := 0) (j := r4) (pos := q4)) pps_nil)))) rfl rfl (by simp) (by show 4 ≤ 15; decide)
  refine pe_weak (pe_conv disp) fun σ H Q h => ?_
  obtain ⟨H0, G0, G, ss, k, kx, st, hx, ⟨⟨dsL, e0⟩, hm⟩, hk⟩ := h
  obtain ⟨o, hσ, L, vsL, rfl, hHL, rL, gL, zL⟩ := st.sl i _ e0
  refine ⟨fun H' => H' = H, fun pins s I => ⟨H, rfl, I⟩, ?_⟩
  rintro H' rfl
  intro p hp
  have gp : G p = none := st.gh.back hp
  have zp : H0 p = none := st.hh.back hp
  have st1 := (st.le (Fr.newH (o := .dK []) st.gh hp)).addH0 (o := .dK []) upd_same (nt_of rfl) gp fun j t et ho => st.noOwn hp j t et ho
  refine ⟨.ref L, hσ, upd H0 p (.dK []), G0, G, ss, _, kx, st1, hx.addH0 zp, hm, fun ds s C vsC G2 H2 q e2 st2 rC hHC gC zC noC => ?_⟩
  obtain ⟨⟨dsL', e3, hL'⟩, hC', q⟩ := q
  obtain ⟨nsL, hnsL⟩ := Option.isSome_iff_exists.mp hL'
  obtain ⟨nsC, hnsC⟩ := Option.isSome_iff_exists.mp hC'
  obtain ⟨o', hσ', L', vsL', rfl, hHL2, rL2, gL2, zL2⟩ := st2.sl i _ e3
  rw [hσ] at hσ'
  cases hσ'
  have evL := ints_rel rL2 hnsL
  have evC := ints_rel rC hnsC
  subst evL evC
  have hHp : H2 p = some (.dK []) := st2.hh.at upd_same (nt_of rfl)
  have gp2 : G2 p = none := st2.noG upd_same (nt_of rfl) (st2.gg.back (st2.noG upd_same (nt_of rfl) (st.gg.back gp)))
  have hpL : L ≠ p := fun z => by rw [z, hHp] at hHL2; cases hHL2
  have hpC : C ≠ p := fun z => by rw [z, hHp] at hHC; cases hHC
  have hCL : C ≠ L := fun z => noC i _ e3 rfl (by rw [z]; exact hσ)
  refine ⟨hHp, drawK L C 0 0, rfl, by show 4 ≤ 15; decide, ?_⟩
  rw [merge_draw]
  -- the frames
  have a1 := st2.freeze hHC (nt_of rfl) gC zC noC
  have a2 := a1.drop i
  have noL : ∀ (j : Nat) (t : SV), (s.set i .un)[j]? = some t → t.own = true → σ[j]? ≠ some (some (.ref L)) := fun j t et ho hh => by
    by_cases qj : i = j
    · subst qj
      rw [List.getElem?_set_self (List.getElem?_eq_some_iff.mp e3).1] at et
      cases et
      cases ho
    · rw [List.getElem?_set_ne qj] at et
      exact qj (st2.ow i j _ t L e3 et rfl ho hσ hh)
  have noP := a2.noOwn0 (a := p) (o := .dK []) upd_same
  have a3 := a2.delH0 zp
  have zL0 : H0 L = none := zL
  have gL3 : upd G2 C (HO.lst (nsC.map V.int)) L = none := by rw [upd_ne hCL.symm]; exact gL2
  have a4 := a3.updFree (a := L) (o := ListO L) (no_codeN hHL2 (nt_of rfl)) gL3 zL0 noL
  have a5 := a4.freeze (a := L) (o := ListO L) upd_same nt_ListO gL3 zL0 noL
  have gp3 : upd (upd G2 C (HO.lst (nsC.map V.int))) L (ListO L) p = none := by rw [upd_ne hpL.symm, upd_ne hpC.symm]; exact gp2
  have hp5 : upd H2 L (ListO L) p = some (.dK []) := by rw [upd_ne hpL.symm]; exact hHp
  have a6 := a5.updFree (a := p) (o := DrawO X.prog X.w p L C) (no_codeN hp5 (nt_of rfl)) gp3 zp noP
  have a7 := a6.freeze (a := p) (o := DrawO X.prog X.w p L C) upd_same nt_DrawO gp3 zp noP
  have eH : upd (upd H2 L (ListO L)) p (DrawO X.prog X.w p L C) = upd (upd (upd H2 p (.dK (drawK L C 0 0))) p (DrawO X.prog X.w p L C)) L (ListO L) := by
    funext b
    by_cases q1 : b = p
    · rw [q1, upd_same, upd_ne hpL.symm, upd_same]
    · rw [upd_ne q1]
      by_cases q2 : b = L
      · rw [q2, upd_same, upd_same]
      · rw [upd_ne q2, upd_ne q2, upd_ne q1, upd_ne q1]
  refine ⟨upd (upd H2 L (ListO L)) p (DrawO X.prog X.w p L C), fun pins s I => ?_, hk _ _ _ _ _ q ?_ a7 ?_⟩
  · rw [eH]
    have I1 := closeD (L := L) (C := C) (r := 0) (t := 0) I upd_same
    refine closeL (ns := nsL) I1 ?_
    rw [upd_ne hpL, upd_ne hpL]
    exact hHL2
  · exact e2.trans ((Ex.new gC).trans ((Ex.new gL3).trans (Ex.new gp3)))
  · refine .opq fun G' e' => ⟨p, L, C, nsC, rfl, e'.at upd_same nt_DrawO, e'.at (by rw [upd_ne hpL, upd_same]) nt_ListO, e'.at (by rw [upd_ne hpC, upd_ne hCL, upd_same]) (nt_of rfl), hpL⟩
end
end Dm
end -- DmDraw
section -- DmPermK
set_option Elab.async false
set_option linter.all false
set_option maxRecDepth 100000
set_option maxHeartbeats 2000000
/-! itertools.permutations(x), itertools.combinations(x, 2), at the library's level. -/
namespace CpPerm
open PySem PySem.Spec
open Sem (wp)

theorem mro_pm : mroOf (.type "itertools.permutations") = pure [.type "itertools.permutations", .type "object"] := by rw [mroOf_type]; kernel_rfl
theorem lookup_pm_new : typeLookup (.type "itertools.permutations") "__new__" = pure (some (.builtin "itertools.permutations.__new__")) := by rw [typeLookup_type, builtinLookup_eq_fast]; kernel_rfl
theorem slot_pm_init : Slot "itertools.permutations" "__init__" "object.__init__" :=
  .of (owner := "object") (n := "__init__") (by rw [typeLookup_type, builtinLookup_eq_fast]; kernel_rfl) (by decide +kernel) (by decide +kernel) (by decide +kernel)
    (by first | exact .inl (by decide +kernel) | exact .inr (by decide +kernel)) (by rw [isSubtype_type]; kernel_rfl)
theorem sub_pm : isSubtype (.type "itertools.permutations") (.type "itertools.permutations") = pure true := by rw [isSubtype_type]; kernel_rfl
theorem called_pm : TypeCalled "itertools.permutations" "itertools.permutations.__new__" "object.__init__" :=
  ⟨by decide +kernel, by decide +kernel, ⟨_, _, mro_pm⟩, madeBy_type mro_pm lookup_pm_new (by decide +kernel), by decide +kernel, sub_pm, slot_pm_init⟩
theorem typeCall_pm (a : Value) : checkTypeCall "itertools.permutations" ⟨[a], []⟩ = pure () := by kernel_rfl
theorem newCall_pm (a : Value) : checkBuiltinCall "itertools.permutations.__new__" ⟨[.type "itertools.permutations", a], []⟩ = pure () := by kernel_rfl
theorem entry_pm_new : entryFor table "itertools.permutations.__new__" = some Builtin.«itertools.permutations.__new__» := entryFor_of_tree (by kernel_rfl)
theorem slot_pm_iter : Slot "itertools.permutations" "__iter__" "itertools.permutations.__iter__" :=
  .of (owner := "itertools.permutations") (n := "__iter__") (by rw [typeLookup_type, builtinLookup_eq_fast]; kernel_rfl) (by decide +kernel) (by decide +kernel) (by decide +kernel)
    (by first | exact .inl (by decide +kernel) | exact .inr (by decide +kernel)) sub_pm
theorem slot_pm_next : Slot "itertools.permutations" "__next__" "itertools.permutations.__next__" :=
  .of (owner := "itertools.permutations") (n := "__next__") (by rw [typeLookup_type, builtinLookup_eq_fast]; kernel_rfl) (by decide +kernel) (by decide +kernel) (by decide +kernel)
    (by first | exact .inl (by decide +kernel) | exact .inr (by decide +kernel)) sub_pm
theorem entry_pm_iter : entryFor table "itertools.permutations.__iter__" = some Builtin.«dict_keyiterator.__iter__» :=
  entryFor_alias (id' := "dict_keyiterator.__iter__") (by kernel_rfl) (by first | rfl | decide +kernel | (unfold String.splitOn; simp +decide [String.splitOnAux])) (by decide +kernel) (by kernel_rfl)
theorem entry_pm_next : entryFor table "itertools.permutations.__next__" = some Builtin.«itertools.permutations.__next__» := entryFor_of_tree (by kernel_rfl)
theorem owner_pm : Manifest.owners.lookup (String.ofList ['s', 'n', 'o', 'i', 't', 'a', 't', 'u', 'm', 'r', 'e', 'p', '.', 's', 'l', 'o', 'o', 't', 'r', 'e', 't', 'i'].reverse) = some Manifest.sig_itertools_permutations := by kernel_rfl
theorem args_pm_iter (a : Value) : argsOk "itertools.permutations.__iter__" ⟨[a], []⟩ := by
  unfold argsOk; rw [signature?_of (id := "itertools.permutations.__iter__") (n := ['_', '_', 'r', 'e', 't', 'i', '_', '_']) (o := ['s', 'n', 'o', 'i', 't', 'a', 't', 'u', 'm', 'r', 'e', 'p', '.', 's', 'l', 'o', 'o', 't', 'r', 'e', 't', 'i']) (by kernel_rfl) owner_pm]; kernel_rfl
theorem args_pm_next (a : Value) : argsOk "itertools.permutations.__next__" ⟨[a], []⟩ := by
  unfold argsOk; rw [signature?_of (id := "itertools.permutations.__next__") (n := ['_', '_', 't', 'x', 'e', 'n', '_', '_']) (o := ['s', 'n', 'o', 'i', 't', 'a', 't', 'u', 'm', 'r', 'e', 'p', '.', 's', 'l', 'o', 'o', 't', 'r', 'e', 't', 'i']) (by kernel_rfl) owner_pm]; kernel_rfl
theorem noDict_pm : typeHasDict (.type "itertools.permutations") = false := by decide +kernel
theorem nolen_pm : typeLookup (.type "itertools.permutations") "__len__" = pure none := by rw [typeLookup_type, builtinLookup_eq_fast]; kernel_rfl
theorem nohint_pm : typeLookup (.type "itertools.permutations") "__length_hint__" = pure none := by rw [typeLookup_type, builtinLookup_eq_fast]; kernel_rfl

def nums (l : List Nat) : List Value := l.map fun (i : Nat) => rawInt i
theorem nums_back (l : List Nat) : (nums l).map (fun v => match v with | .int n _ => n.toNat | _ => 0) = l := by
  unfold nums
  rw [List.map_map]
  induction l with
  | nil => rfl
  | cons x xs ih =>
    rw [List.map_cons, ih]
    rfl
/-- a permutations object: its pool, its state, the last tuple, places, cycles -/
abbrev pmO (pool : Addr) (st : Int) (n : Nat) (res : Value) (ns : List Nat) : Obj := { cls := .type "itertools.permutations", dict := none, data := .fields ([.ref pool, rawInt st, rawInt n, res] ++ nums ns).toArray, slots := #[] }
abbrev tuO (xs : List Value) : Obj := { cls := .type "tuple", data := .seq xs.toArray }
def np (n : Nat) : Nat → List Nat → List Nat → Option (List Nat × List Nat)
  | 0, _, _ => none
  | i + 1, indices, cycles =>
    let c := cycles.getD i 0 - 1
    if c == 0 then np n i (indices.take i ++ indices.drop (i + 1) ++ [indices.getD i 0]) (cycles.set i (n - i))
    else some ((indices.set i (indices.getD (n - c) 0)).set (n - c) (indices.getD i 0), cycles.set i c)
theorem pm_body (v : Value) : Builtin.«itertools.permutations.__next__» ⟨[v], []⟩ = (do
  let (self, _) ← slotArgs "__next__" 0 ⟨[v], []⟩
  let items ← Builtin.Itertools.itPoolItems (← field self 0)
  let n := items.size
  let r := (← Builtin.Itertools.itIntField self 2).toNat
  let numbers ← Builtin.Itertools.itNumbersFrom self 4
  let result (indices : List Nat) : Sem Fin := do
    let t ← newTuple ((indices.take r).map fun i => items.getD i .none)
    let before ← field self 3
    setField self 3 t
    letGo [before] [t]
    ret t
  match ← Builtin.Itertools.itIntField self 1 with
  | 0 => setField self 1 (rawInt 1); result numbers
  | 1 =>
    match np n r (numbers.take n) (numbers.drop n) with
    | some (indices, cycles) => Builtin.Itertools.itSetNumbersFrom self 4 (indices ++ cycles); result indices
    | none => setField self 1 (rawInt 2); Builtin.Itertools.itStop
  | _ => rule "itertools.permutations.ended"; Builtin.Itertools.itStop) := by kernel_rfl
abbrev sel (items : List Value) (n : Nat) (ix : List Nat) : List Value := (ix.take n).map fun i => items.toArray.getD i .none

section
variable {prog : Program} {w : World} {A : Around} {E : Value → Shared → Prop} {s : Shared}
theorem pm_iter {it pool : Addr} {st : Int} {n : Nat} {res : Value} {ns : List Nat} {Q : Value → Shared → Prop} (hit : s.heap.get? it = some (pmO pool st n res ns)) (h : Q (.ref it) s) : wpAny (model prog w) A (pyIter (.ref it)) Q E s := by
  have hT : s.TypeIs (.ref it) "itertools.permutations" := ⟨_, hit, rfl⟩
  refine wpAny_pyIter_slot hT slot_pm_iter (wpAny_call_entry slot_pm_iter hT entry_pm_iter ?_ (args_pm_iter _))
  show wpAny _ _ (ret (.ref it)) _ _ s
  exact wpAny_pure ⟨_, rfl, "itertools.permutations", _, hT, slot_pm_next.lookup, h⟩
/-- the tuple comes, the object keeps it -/
theorem pm_hand {it pool : Addr} {st : Int} {n : Nat} {res : Value} {ns ix : List Nat} {items : List Value} {R : Fin → Shared → Prop} {s : Shared} (hit : s.heap.get? it = some (pmO pool st n res ns)) (hn : ix.length ≤ sizeLine)
    (hQ : ∀ h', h'.get? it = some (pmO pool st n (.ref s.heap.objs.size) ns) → h'.get? s.heap.objs.size = some (tuO (sel items n ix)) → (∀ b o, b ≠ it → s.heap.get? b = some o → h'.get? b = some o) → R (.done (.ret (.ref s.heap.objs.size))) { s with heap := h' }) :
    wpAny (model prog w) A (do
      let t ← newTuple ((ix.take n).map fun i => items.toArray.getD i .none)
      let before ← field (.ref it) 3
      setField (.ref it) 3 t
      letGo [before] [t]
      ret t) R E s := by
  refine wpAny_bind (wpAny_newTuple ?_ (by rw [List.length_map, List.length_take]; omega))
  have hit1 := Heap.get?_push_of_some (tuO (sel items n ix)) hit
  have hT1 : (s.heap.push (tuO (sel items n ix))).get? s.heap.objs.size = some (tuO (sel items n ix)) := Heap.get?_push_size _ rfl
  have hlt : it < s.heap.objs.size := Heap.lt_size hit
  refine wpAny_bind (wpAny_field hit1 rfl (x := res) (by rw [List.getElem?_toArray]; rfl) ?_)
  refine wpAny_bind (wpAny_setField_rec hit1 (by simp) fun h' h1 h2 => ?_)
  refine wpAny_bind (wpAny_letGo ?_)
  refine wpAny_pure ?_
  refine hQ h' ?_ ((h2.2 _ (Nat.ne_of_gt hlt)).trans hT1) (fun b o hb e => (h2.2 _ hb).trans (Heap.get?_push_of_some _ e))
  rw [h1]
  simp
theorem pm_items {pool : Addr} {items : List Value} {Q : Array Value → Shared → Prop} {s : Shared} (hp : s.heap.get? pool = some (tuO items)) (h : Q items.toArray s) : wpAny (model prog w) A (Builtin.Itertools.itPoolItems (.ref pool)) Q E s := by
  unfold Builtin.Itertools.itPoolItems seqItems?
  refine wpAny_bind (wpAny_bind (wpAny_load hp ?_))
  exact wpAny_pure (wpAny_pure h)
theorem pm_nums {it pool : Addr} {st : Int} {n : Nat} {res : Value} {ns : List Nat} {Q : List Nat → Shared → Prop} {s : Shared} (hit : s.heap.get? it = some (pmO pool st n res ns)) (h : Q ns s) : wpAny (model prog w) A (Builtin.Itertools.itNumbersFrom (.ref it) 4) Q E s := by
  unfold Builtin.Itertools.itNumbersFrom
  refine wpAny_bind (wpAny_load hit ?_)
  refine wpAny_pure ?_
  have e : (((([.ref pool, rawInt st, rawInt n, res] ++ nums ns).toArray).toList.drop 4).map fun v => match v with | .int n _ => n.toNat | _ => 0) = ns := by
    rw [List.toList_toArray]
    exact nums_back ns
  exact e.symm ▸ h
theorem pm_int {it : Addr} {o : Obj} {vs : Array Value} {i : Nat} {k : Int} {t : Tok} {Q : Int → Shared → Prop} {s : Shared} (ho : s.heap.get? it = some o) (hd : o.data = .fields vs) (hi : vs[i]? = some (.int k t)) (h : Q k s) : wpAny (model prog w) A (Builtin.Itertools.itIntField (.ref it) i) Q E s := by
  unfold Builtin.Itertools.itIntField
  exact wpAny_bind (wpAny_field ho hd hi (wpAny_pure h))
/-- the first tuple -/
theorem pm_first {it pool : Addr} {n : Nat} {res : Value} {ns : List Nat} {items : List Value} {Q : Option Value → Shared → Prop} {s : Shared} (hit : s.heap.get? it = some (pmO pool 0 n res ns)) (hp : s.heap.get? pool = some (tuO items)) (hn : ns.length ≤ sizeLine)
    (hQ : ∀ h', h'.get? it = some (pmO pool 1 n (.ref s.heap.objs.size) ns) → h'.get? s.heap.objs.size = some (tuO (sel items n ns)) → (∀ b o, b ≠ it → s.heap.get? b = some o → h'.get? b = some o) → Q (some (.ref s.heap.objs.size)) { s with heap := h' }) :
    wpAny (model prog w) A (pyNext (.ref it)) Q E s := by
  have hT : s.TypeIs (.ref it) "itertools.permutations" := ⟨_, hit, rfl⟩
  unfold pyNext
  refine wpAny_bind (wpAny_attempt (wpAny_callSpecial?_slot (name := Str.ofString "__next__") hT slot_pm_next (wpAny_call_entry slot_pm_next hT entry_pm_next ?_ (args_pm_next _))))
  rw [pm_body]
  refine wpAny_bind (wpAny_of_eq (a := (Value.ref it, [])) rfl ?_)
  refine wpAny_bind (wpAny_field hit rfl (x := .ref pool) (by rw [List.getElem?_toArray]; rfl) ?_)
  refine wpAny_bind (pm_items hp ?_)
  refine wpAny_bind (pm_int (i := 2) (k := (n : Int)) (t := 0) hit rfl (by rw [List.getElem?_toArray]; rfl) ?_)
  refine wpAny_bind (pm_nums hit ?_)
  refine wpAny_bind (pm_int (i := 1) (k := 0) (t := 0) hit rfl (by rw [List.getElem?_toArray]; rfl) ?_)
  refine wpAny_bind (wpAny_setField hit rfl (by simp) ?_)
  have e1 := Heap.get?_update_self (Obj.mapFields (·.setIfInBounds 1 (rawInt 1))) hit rfl
  have e1' : (s.heap.update it (Obj.mapFields (·.setIfInBounds 1 (rawInt 1)))).get? it = some (pmO pool 1 n res ns) := by
    rw [e1]
    simp [Obj.mapFields]
  have hs := Heap.size_update s.heap it (Obj.mapFields (·.setIfInBounds 1 (rawInt 1)))
  refine pm_hand (s := { s with heap := s.heap.update it (Obj.mapFields (·.setIfInBounds 1 (rawInt 1))) }) (items := items) (ix := ns) (n := n) e1' hn fun h' a b c => ?_
  dsimp only at a b c ⊢
  rw [hs] at a b ⊢
  refine ⟨_, rfl, ?_⟩
  exact wpAny_pure (hQ h' a b fun x o hx e => c x o hx ((Heap.get?_update_other _ _ (Ne.symm hx)).trans e))
/-- a further tuple -/
theorem pm_more {it pool : Addr} {n : Nat} {res : Value} {ns ix cy : List Nat} {items : List Value} {Q : Option Value → Shared → Prop} {s : Shared} (hit : s.heap.get? it = some (pmO pool 1 n res ns)) (hp : s.heap.get? pool = some (tuO items)) (hl : items.length = n)
    (hs : np n n (ns.take n) (ns.drop n) = some (ix, cy)) (hn : ix.length ≤ sizeLine) (hz : (ix ++ cy).length ≤ sizeLine - 1)
    (hQ : ∀ h', h'.get? it = some (pmO pool 1 n (.ref s.heap.objs.size) (ix ++ cy)) → h'.get? s.heap.objs.size = some (tuO (sel items n ix)) → (∀ b o, b ≠ it → s.heap.get? b = some o → h'.get? b = some o) → Q (some (.ref s.heap.objs.size)) { s with heap := h' }) :
    wpAny (model prog w) A (pyNext (.ref it)) Q E s := by
  have hT : s.TypeIs (.ref it) "itertools.permutations" := ⟨_, hit, rfl⟩
  unfold pyNext
  refine wpAny_bind (wpAny_attempt (wpAny_callSpecial?_slot (name := Str.ofString "__next__") hT slot_pm_next (wpAny_call_entry slot_pm_next hT entry_pm_next ?_ (args_pm_next _))))
  rw [pm_body]
  refine wpAny_bind (wpAny_of_eq (a := (Value.ref it, [])) rfl ?_)
  refine wpAny_bind (wpAny_field hit rfl (x := .ref pool) (by rw [List.getElem?_toArray]; rfl) ?_)
  refine wpAny_bind (pm_items hp ?_)
  refine wpAny_bind (pm_int (i := 2) (k := (n : Int)) (t := 0) hit rfl (by rw [List.getElem?_toArray]; rfl) ?_)
  refine wpAny_bind (pm_nums hit ?_)
  refine wpAny_bind (pm_int (i := 1) (k := 1) (t := 0) hit rfl (by rw [List.getElem?_toArray]; rfl) ?_)
  have hz2 : items.toArray.size = n := by simp [hl]
  have hs2 : np items.toArray.size ((n : Int).toNat) (ns.take items.toArray.size) (ns.drop items.toArray.size) = some (ix, cy) := by rw [hz2]; exact hs
  simp only [hs2]
  refine wpAny_bind ?_
  unfold Builtin.Itertools.itSetNumbersFrom
  refine wpAny_updateFields hit rfl ?_ ?_
  · have e1 := Heap.get?_update_self (Obj.mapFields (fun fs => fs.extract 0 4 ++ ((ix ++ cy).map fun (n : Nat) => rawInt n).toArray)) hit rfl
    have e1' : (s.heap.update it (Obj.mapFields (fun fs => fs.extract 0 4 ++ ((ix ++ cy).map fun (n : Nat) => rawInt n).toArray))).get? it = some (pmO pool 1 n res (ix ++ cy)) := by
      rw [e1]
      simp [Obj.mapFields, nums]
    have hs := Heap.size_update s.heap it (Obj.mapFields (fun fs => fs.extract 0 4 ++ ((ix ++ cy).map fun (n : Nat) => rawInt n).toArray))
    refine pm_hand (s := { s with heap := s.heap.update it (Obj.mapFields (fun fs => fs.extract 0 4 ++ ((ix ++ cy).map fun (n : Nat) => rawInt n).toArray)) }) (items := items) (ix := ix) (n := n) e1' hn fun h' a b c => ?_
    dsimp only at a b c ⊢
    rw [hs] at a b ⊢
    refine ⟨_, rfl, ?_⟩
    exact wpAny_pure (hQ h' a b fun x o hx e => c x o hx ((Heap.get?_update_other _ _ (Ne.symm hx)).trans e))
  · have h4 : (([.ref pool, rawInt 1, rawInt n, res] ++ nums ns).toArray.extract 0 4 ++ ((ix ++ cy).map fun (n : Nat) => rawInt n).toArray).size = 4 + (ix ++ cy).length := by
      simp
      omega
    rw [h4]
    rw [sizeLine_eq] at hz ⊢
    omega
/-- the end -/
theorem pm_end {it pool : Addr} {n : Nat} {res : Value} {ns : List Nat} {items : List Value} {Q : Option Value → Shared → Prop} {s : Shared} (hh : A.handled = none) (hit : s.heap.get? it = some (pmO pool 1 n res ns)) (hp : s.heap.get? pool = some (tuO items)) (hl : items.length = n)
    (hs : np n n (ns.take n) (ns.drop n) = none) (hQ : ∀ h', Heap.ExtBut it s.heap h' → Q none { s with heap := h' }) :
    wpAny (model prog w) A (pyNext (.ref it)) Q E s := by
  have hT : s.TypeIs (.ref it) "itertools.permutations" := ⟨_, hit, rfl⟩
  unfold pyNext
  refine wpAny_bind (wpAny_attempt (wpAny_callSpecial?_slot (name := Str.ofString "__next__") hT slot_pm_next (wpAny_call_entry slot_pm_next hT entry_pm_next ?_ (args_pm_next _))))
  rw [pm_body]
  refine wpAny_bind (wpAny_of_eq (a := (Value.ref it, [])) rfl ?_)
  refine wpAny_bind (wpAny_field hit rfl (x := .ref pool) (by rw [List.getElem?_toArray]; rfl) ?_)
  refine wpAny_bind (pm_items hp ?_)
  refine wpAny_bind (pm_int (i := 2) (k := (n : Int)) (t := 0) hit rfl (by rw [List.getElem?_toArray]; rfl) ?_)
  refine wpAny_bind (pm_nums hit ?_)
  refine wpAny_bind (pm_int (i := 1) (k := 1) (t := 0) hit rfl (by rw [List.getElem?_toArray]; rfl) ?_)
  have hz2 : items.toArray.size = n := by simp [hl]
  have hs2 : np items.toArray.size ((n : Int).toNat) (ns.take items.toArray.size) (ns.drop items.toArray.size) = none := by rw [hz2]; exact hs
  simp only [hs2]
  refine wpAny_bind (wpAny_setField hit rfl (by simp) ?_)
  show wpAny _ _ (newExc (.type "StopIteration") [] >>= _) _ _ _
  refine wpAny_bind ?_
  simp only [newExc, newTuple]
  refine wpAny_bind (wpAny_newObj_type ?_ (by size_fits))
  refine wpAny_bind (m := firstArgMember _ _) (wpAny_of_eq (a := Value.none) (by first | rfl | (simp only [firstArgMember]; rfl)) ?_)
  refine wpAny_newObj_type ?_ (by size_fits)
  simp only [raiseNew]
  refine wpAny_bind (wpAny_handled ?_)
  first | rw [show A.in1.handled = none from hh] | rw [hh]
  refine wpAny_bind (wpAny_pure (wpAny_throw ?_))
  refine wpAny_bind (wpAny_isInstance (T := "StopIteration") (b := true) ⟨_, Heap.get?_push_size _ rfl, rfl⟩ PySem.isSubtype_stop ?_)
  exact wpAny_pure (hQ _ fun b o hb e => Heap.get?_push_of_some _ (Heap.get?_push_of_some _ ((Heap.get?_update_other _ _ (Ne.symm hb)).trans e)))
end
end CpPerm
end -- DmPermK
section -- DmCombK
set_option Elab.async false
set_option linter.all false
set_option maxRecDepth 100000
set_option maxHeartbeats 2000000
/-! itertools.permutations(x), itertools.combinations(x, 2), at the library's level. -/
namespace CpPerm
open PySem PySem.Spec
open Sem (wp)

theorem mro_cb : mroOf (.type "itertools.combinations") = pure [.type "itertools.combinations", .type "object"] := by rw [mroOf_type]; kernel_rfl
theorem lookup_cb_new : typeLookup (.type "itertools.combinations") "__new__" = pure (some (.builtin "itertools.combinations.__new__")) := by rw [typeLookup_type, builtinLookup_eq_fast]; kernel_rfl
theorem slot_cb_init : Slot "itertools.combinations" "__init__" "object.__init__" :=
  .of (owner := "object") (n := "__init__") (by rw [typeLookup_type, builtinLookup_eq_fast]; kernel_rfl) (by decide +kernel) (by decide +kernel) (by decide +kernel)
    (by first | exact .inl (by decide +kernel) | exact .inr (by decide +kernel)) (by rw [isSubtype_type]; kernel_rfl)
theorem sub_cb : isSubtype (.type "itertools.combinations") (.type "itertools.combinations") = pure true := by rw [isSubtype_type]; kernel_rfl
theorem called_cb : TypeCalled "itertools.combinations" "itertools.combinations.__new__" "object.__init__" :=
  ⟨by decide +kernel, by decide +kernel, ⟨_, _, mro_cb⟩, madeBy_type mro_cb lookup_cb_new (by decide +kernel), by decide +kernel, sub_cb, slot_cb_init⟩
theorem typeCall_cb (a b : Value) : checkTypeCall "itertools.combinations" ⟨[a, b], []⟩ = pure () := by kernel_rfl
theorem newCall_cb (a b : Value) : checkBuiltinCall "itertools.combinations.__new__" ⟨[.type "itertools.combinations", a, b], []⟩ = pure () := by kernel_rfl
theorem entry_cb_new : entryFor table "itertools.combinations.__new__" = some Builtin.«itertools.combinations.__new__» := entryFor_of_tree (by kernel_rfl)
theorem slot_cb_iter : Slot "itertools.combinations" "__iter__" "itertools.combinations.__iter__" :=
  .of (owner := "itertools.combinations") (n := "__iter__") (by rw [typeLookup_type, builtinLookup_eq_fast]; kernel_rfl) (by decide +kernel) (by decide +kernel) (by decide +kernel)
    (by first | exact .inl (by decide +kernel) | exact .inr (by decide +kernel)) sub_cb
theorem slot_cb_next : Slot "itertools.combinations" "__next__" "itertools.combinations.__next__" :=
  .of (owner := "itertools.combinations") (n := "__next__") (by rw [typeLookup_type, builtinLookup_eq_fast]; kernel_rfl) (by decide +kernel) (by decide +kernel) (by decide +kernel)
    (by first | exact .inl (by decide +kernel) | exact .inr (by decide +kernel)) sub_cb
theorem entry_cb_iter : entryFor table "itertools.combinations.__iter__" = some Builtin.«dict_keyiterator.__iter__» :=
  entryFor_alias (id' := "dict_keyiterator.__iter__") (by kernel_rfl) (by first | rfl | decide +kernel | (unfold String.splitOn; simp +decide [String.splitOnAux])) (by decide +kernel) (by kernel_rfl)
theorem entry_cb_next : entryFor table "itertools.combinations.__next__" = some Builtin.«itertools.combinations.__next__» := entryFor_of_tree (by kernel_rfl)
theorem owner_cb : Manifest.owners.lookup (String.ofList ['s', 'n', 'o', 'i', 't', 'a', 'n', 'i', 'b', 'm', 'o', 'c', '.', 's', 'l', 'o', 'o', 't', 'r', 'e', 't', 'i'].reverse) = some Manifest.sig_itertools_combinations := by kernel_rfl
theorem args_cb_iter (a : Value) : argsOk "itertools.combinations.__iter__" ⟨[a], []⟩ := by
  unfold argsOk; rw [signature?_of (id := "itertools.combinations.__iter__") (n := ['_', '_', 'r', 'e', 't', 'i', '_', '_']) (o := ['s', 'n', 'o', 'i', 't', 'a', 'n', 'i', 'b', 'm', 'o', 'c', '.', 's', 'l', 'o', 'o', 't', 'r', 'e', 't', 'i']) (by kernel_rfl) owner_cb]; kernel_rfl
theorem args_cb_next (a : Value) : argsOk "itertools.combinations.__next__" ⟨[a], []⟩ := by
  unfold argsOk; rw [signature?_of (id := "itertools.combinations.__next__") (n := ['_', '_', 't', 'x', 'e', 'n', '_', '_']) (o := ['s', 'n', 'o', 'i', 't', 'a', 'n', 'i', 'b', 'm', 'o', 'c', '.', 's', 'l', 'o', 'o', 't', 'r', 'e', 't', 'i']) (by kernel_rfl) owner_cb]; kernel_rfl
theorem noDict_cb : typeHasDict (.type "itertools.combinations") = false := by decide +kernel
theorem nolen_cb : typeLookup (.type "itertools.combinations") "__len__" = pure none := by rw [typeLookup_type, builtinLookup_eq_fast]; kernel_rfl
theorem nohint_cb : typeLookup (.type "itertools.combinations") "__length_hint__" = pure none := by rw [typeLookup_type, builtinLookup_eq_fast]; kernel_rfl

def nc (n : Nat) (indices : List Nat) : Option (List Nat) :=
  let r := indices.length
  match (List.range r).reverse.find? fun i => indices.getD i 0 != i + n - r with
  | none => none
  | some i => some (indices.take i ++ (List.range (r - i)).map (indices.getD i 0 + 1 + ·))
theorem cb_body (v : Value) : Builtin.«itertools.combinations.__next__» ⟨[v], []⟩ = (do
  let (self, _) ← slotArgs "__next__" 0 ⟨[v], []⟩
  let pool ← field self 0
  let indices ← Builtin.Itertools.itNumbersFrom self 3
  let handOut (indices : List Nat) : Sem Fin := do
    let result ← (do
      let items ← Builtin.Itertools.itPoolItems pool
      newTuple (indices.map fun i => items.getD i .none))
    let before ← field self 2
    setField self 2 result
    letGo [before] [result]
    ret result
  match ← Builtin.Itertools.itIntField self 1 with
  | 0 => setField self 1 (rawInt 1); handOut indices
  | 1 =>
    match nc (← Builtin.Itertools.itPoolItems pool).size indices with
    | some next => Builtin.Itertools.itSetNumbersFrom self 3 next; handOut next
    | none => setField self 1 (rawInt 2); Builtin.Itertools.itStop
  | _ => rule "itertools.combinations.ended"; Builtin.Itertools.itStop) := by kernel_rfl
abbrev cbO (pool : Addr) (st : Int) (res : Value) (ns : List Nat) : Obj := { cls := .type "itertools.combinations", dict := none, data := .fields ([.ref pool, rawInt st, res] ++ nums ns).toArray, slots := #[] }
abbrev selC (items : List Value) (ix : List Nat) : List Value := ix.map fun i => items.toArray.getD i .none
section
variable {prog : Program} {w : World} {A : Around} {E : Value → Shared → Prop} {s : Shared}
theorem cb_iter {it pool : Addr} {st : Int} {res : Value} {ns : List Nat} {Q : Value → Shared → Prop} (hit : s.heap.get? it = some (cbO pool st res ns)) (h : Q (.ref it) s) : wpAny (model prog w) A (pyIter (.ref it)) Q E s := by
  have hT : s.TypeIs (.ref it) "itertools.combinations" := ⟨_, hit, rfl⟩
  refine wpAny_pyIter_slot hT slot_cb_iter (wpAny_call_entry slot_cb_iter hT entry_cb_iter ?_ (args_cb_iter _))
  show wpAny _ _ (ret (.ref it)) _ _ s
  exact wpAny_pure ⟨_, rfl, "itertools.combinations", _, hT, slot_cb_next.lookup, h⟩
theorem cb_hand {it pool : Addr} {st : Int} {res : Value} {ns ix : List Nat} {items : List Value} {R : Fin → Shared → Prop} {s : Shared} (hit : s.heap.get? it = some (cbO pool st res ns)) (hp : s.heap.get? pool = some (tuO items)) (hn : ix.length ≤ sizeLine)
    (hQ : ∀ h', h'.get? it = some (cbO pool st (.ref s.heap.objs.size) ns) → h'.get? s.heap.objs.size = some (tuO (selC items ix)) → (∀ b o, b ≠ it → s.heap.get? b = some o → h'.get? b = some o) → R (.done (.ret (.ref s.heap.objs.size))) { s with heap := h' }) :
    wpAny (model prog w) A (do
      let result ← (do
        let items ← Builtin.Itertools.itPoolItems (.ref pool)
        newTuple (ix.map fun i => items.getD i .none))
      let before ← field (.ref it) 2
      setField (.ref it) 2 result
      letGo [before] [result]
      ret result) R E s := by
  refine wpAny_bind (wpAny_bind (pm_items hp (wpAny_newTuple ?_ (by rw [List.length_map]; exact hn))))
  have hit1 := Heap.get?_push_of_some (tuO (selC items ix)) hit
  have hT1 : (s.heap.push (tuO (selC items ix))).get? s.heap.objs.size = some (tuO (selC items ix)) := Heap.get?_push_size _ rfl
  have hlt : it < s.heap.objs.size := Heap.lt_size hit
  refine wpAny_bind (wpAny_field hit1 rfl (x := res) (by rw [List.getElem?_toArray]; rfl) ?_)
  refine wpAny_bind (wpAny_setField_rec hit1 (by simp) fun h' h1 h2 => ?_)
  refine wpAny_bind (wpAny_letGo ?_)
  refine wpAny_pure ?_
  refine hQ h' ?_ ((h2.2 _ (Nat.ne_of_gt hlt)).trans hT1) (fun b o hb e => (h2.2 _ hb).trans (Heap.get?_push_of_some _ e))
  rw [h1]
  simp
theorem cb_nums {it pool : Addr} {st : Int} {res : Value} {ns : List Nat} {Q : List Nat → Shared → Prop} {s : Shared} (hit : s.heap.get? it = some (cbO pool st res ns)) (h : Q ns s) : wpAny (model prog w) A (Builtin.Itertools.itNumbersFrom (.ref it) 3) Q E s := by
  unfold Builtin.Itertools.itNumbersFrom
  refine wpAny_bind (wpAny_load hit ?_)
  refine wpAny_pure ?_
  have e : (((([.ref pool, rawInt st, res] ++ nums ns).toArray).toList.drop 3).map fun v => match v with | .int n _ => n.toNat | _ => 0) = ns := by
    rw [List.toList_toArray]
    exact nums_back ns
  exact e.symm ▸ h
theorem cb_first {it pool : Addr} {res : Value} {ns : List Nat} {items : List Value} {Q : Option Value → Shared → Prop} {s : Shared} (hit : s.heap.get? it = some (cbO pool 0 res ns)) (hp : s.heap.get? pool = some (tuO items)) (hne : pool ≠ it) (hn : ns.length ≤ sizeLine)
    (hQ : ∀ h', h'.get? it = some (cbO pool 1 (.ref s.heap.objs.size) ns) → h'.get? s.heap.objs.size = some (tuO (selC items ns)) → (∀ b o, b ≠ it → s.heap.get? b = some o → h'.get? b = some o) → Q (some (.ref s.heap.objs.size)) { s with heap := h' }) :
    wpAny (model prog w) A (pyNext (.ref it)) Q E s := by
  have hT : s.TypeIs (.ref it) "itertools.combinations" := ⟨_, hit, rfl⟩
  unfold pyNext
  refine wpAny_bind (wpAny_attempt (wpAny_callSpecial?_slot (name := Str.ofString "__next__") hT slot_cb_next (wpAny_call_entry slot_cb_next hT entry_cb_next ?_ (args_cb_next _))))
  rw [cb_body]
  refine wpAny_bind (wpAny_of_eq (a := (Value.ref it, [])) rfl ?_)
  refine wpAny_bind (wpAny_field hit rfl (x := .ref pool) (by rw [List.getElem?_toArray]; rfl) ?_)
  refine wpAny_bind (cb_nums hit ?_)
  refine wpAny_bind (pm_int (i := 1) (k := 0) (t := 0) hit rfl (by rw [List.getElem?_toArray]; rfl) ?_)
  refine wpAny_bind (wpAny_setField hit rfl (by simp) ?_)
  have e1 := Heap.get?_update_self (Obj.mapFields (·.setIfInBounds 1 (rawInt 1))) hit rfl
  have e1' : (s.heap.update it (Obj.mapFields (·.setIfInBounds 1 (rawInt 1)))).get? it = some (cbO pool 1 res ns) := by
    rw [e1]
    simp [Obj.mapFields]
  have hs := Heap.size_update s.heap it (Obj.mapFields (·.setIfInBounds 1 (rawInt 1)))
  have hp1 : (s.heap.update it (Obj.mapFields (·.setIfInBounds 1 (rawInt 1)))).get? pool = some (tuO items) := (Heap.get?_update_other _ _ (Ne.symm hne)).trans hp
  refine cb_hand (s := { s with heap := s.heap.update it (Obj.mapFields (·.setIfInBounds 1 (rawInt 1))) }) (items := items) (ix := ns) e1' hp1 hn fun h' a b c => ?_
  dsimp only at a b c ⊢
  rw [hs] at a b ⊢
  refine ⟨_, rfl, ?_⟩
  exact wpAny_pure (hQ h' a b fun x o hx e => c x o hx ((Heap.get?_update_other _ _ (Ne.symm hx)).trans e))
theorem cb_more {it pool : Addr} {n : Nat} {res : Value} {ns ix : List Nat} {items : List Value} {Q : Option Value → Shared → Prop} {s : Shared} (hit : s.heap.get? it = some (cbO pool 1 res ns)) (hp : s.heap.get? pool = some (tuO items)) (hne : pool ≠ it) (hl : items.length = n)
    (hs : nc n ns = some ix) (hz : ix.length ≤ sizeLine)
    (hQ : ∀ h', h'.get? it = some (cbO pool 1 (.ref s.heap.objs.size) ix) → h'.get? s.heap.objs.size = some (tuO (selC items ix)) → (∀ b o, b ≠ it → s.heap.get? b = some o → h'.get? b = some o) → Q (some (.ref s.heap.objs.size)) { s with heap := h' }) :
    wpAny (model prog w) A (pyNext (.ref it)) Q E s := by
  have hT : s.TypeIs (.ref it) "itertools.combinations" := ⟨_, hit, rfl⟩
  unfold pyNext
  refine wpAny_bind (wpAny_attempt (wpAny_callSpecial?_slot (name := Str.ofString "__next__") hT slot_cb_next (wpAny_call_entry slot_cb_next hT entry_cb_next ?_ (args_cb_next _))))
  rw [cb_body]
  refine wpAny_bind (wpAny_of_eq (a := (Value.ref it, [])) rfl ?_)
  refine wpAny_bind (wpAny_field hit rfl (x := .ref pool) (by rw [List.getElem?_toArray]; rfl) ?_)
  refine wpAny_bind (cb_nums hit ?_)
  refine wpAny_bind (pm_int (i := 1) (k := 1) (t := 0) hit rfl (by rw [List.getElem?_toArray]; rfl) ?_)
  have hz2 : items.toArray.size = n := by simp [hl]
  refine wpAny_bind (pm_items hp ?_)
  rw [hz2]
  simp only [hs]
  refine wpAny_bind ?_
  unfold Builtin.Itertools.itSetNumbersFrom
  refine wpAny_updateFields hit rfl ?_ ?_
  · have e1 := Heap.get?_update_self (Obj.mapFields (fun fs => fs.extract 0 3 ++ (ix.map fun (n : Nat) => rawInt n).toArray)) hit rfl
    have e1' : (s.heap.update it (Obj.mapFields (fun fs => fs.extract 0 3 ++ (ix.map fun (n : Nat) => rawInt n).toArray))).get? it = some (cbO pool 1 res ix) := by
      rw [e1]
      simp [Obj.mapFields, nums]
    have hs := Heap.size_update s.heap it (Obj.mapFields (fun fs => fs.extract 0 3 ++ (ix.map fun (n : Nat) => rawInt n).toArray))
    have hp1 : (s.heap.update it (Obj.mapFields (fun fs => fs.extract 0 3 ++ (ix.map fun (n : Nat) => rawInt n).toArray))).get? pool = some (tuO items) := (Heap.get?_update_other _ _ (Ne.symm hne)).trans hp
    refine cb_hand (s := { s with heap := s.heap.update it (Obj.mapFields (fun fs => fs.extract 0 3 ++ (ix.map fun (n : Nat) => rawInt n).toArray)) }) (items := items) (ix := ix) e1' hp1 hz fun h' a b c => ?_
    dsimp only at a b c ⊢
    rw [hs] at a b ⊢
    refine ⟨_, rfl, ?_⟩
    exact wpAny_pure (hQ h' a b fun x o hx e => c x o hx ((Heap.get?_update_other _ _ (Ne.symm hx)).trans e))
  · have h4 : (([.ref pool, rawInt 1, res] ++ nums ns).toArray.extract 0 3 ++ (ix.map fun (n : Nat) => rawInt n).toArray).size = 3 + ix.length := by
      simp
      omega
    rw [h4]
    rw [sizeLine_eq] at hz ⊢
    omega
theorem cb_end {it pool : Addr} {n : Nat} {res : Value} {ns : List Nat} {items : List Value} {Q : Option Value → Shared → Prop} {s : Shared} (hh : A.handled = none) (hit : s.heap.get? it = some (cbO pool 1 res ns)) (hp : s.heap.get? pool = some (tuO items)) (hl : items.length = n)
    (hs : nc n ns = none) (hQ : ∀ h', Heap.ExtBut it s.heap h' → Q none { s with heap := h' }) :
    wpAny (model prog w) A (pyNext (.ref it)) Q E s := by
  have hT : s.TypeIs (.ref it) "itertools.combinations" := ⟨_, hit, rfl⟩
  unfold pyNext
  refine wpAny_bind (wpAny_attempt (wpAny_callSpecial?_slot (name := Str.ofString "__next__") hT slot_cb_next (wpAny_call_entry slot_cb_next hT entry_cb_next ?_ (args_cb_next _))))
  rw [cb_body]
  refine wpAny_bind (wpAny_of_eq (a := (Value.ref it, [])) rfl ?_)
  refine wpAny_bind (wpAny_field hit rfl (x := .ref pool) (by rw [List.getElem?_toArray]; rfl) ?_)
  refine wpAny_bind (cb_nums hit ?_)
  refine wpAny_bind (pm_int (i := 1) (k := 1) (t := 0) hit rfl (by rw [List.getElem?_toArray]; rfl) ?_)
  have hz2 : items.toArray.size = n := by simp [hl]
  refine wpAny_bind (pm_items hp ?_)
  rw [hz2]
  simp only [hs]
  refine wpAny_bind (wpAny_setField hit rfl (by simp) ?_)
  show wpAny _ _ (newExc (.type "StopIteration") [] >>= _) _ _ _
  refine wpAny_bind ?_
  simp only [newExc, newTuple]
  refine wpAny_bind (wpAny_newObj_type ?_ (by size_fits))
  refine wpAny_bind (m := firstArgMember _ _) (wpAny_of_eq (a := Value.none) (by first | rfl | (simp only [firstArgMember]; rfl)) ?_)
  refine wpAny_newObj_type ?_ (by size_fits)
  simp only [raiseNew]
  refine wpAny_bind (wpAny_handled ?_)
  first | rw [show A.in1.handled = none from hh] | rw [hh]
  refine wpAny_bind (wpAny_pure (wpAny_throw ?_))
  refine wpAny_bind (wpAny_isInstance (T := "StopIteration") (b := true) ⟨_, Heap.get?_push_size _ rfl, rfl⟩ PySem.isSubtype_stop ?_)
  exact wpAny_pure (hQ _ fun b o hb e => Heap.get?_push_of_some _ (Heap.get?_push_of_some _ ((Heap.get?_update_other _ _ (Ne.symm hb)).trans e)))
end
end CpPerm
end -- DmCombK
section -- DmPermN
set_option Elab.async false
set_option linter.all false
set_option maxRecDepth 100000
set_option maxHeartbeats 4000000
namespace CpPerm
open PySem PySem.Spec
open Sem (wp)
section
variable {prog : Program} {w : World} {A : Around} {E : Value → Shared → Prop} {s : Shared}
/-- the things of a list, collected: one object is laid at the heap's end -/
theorem pm_collect {l : Addr} {o : Obj} {items : List Value} {n : Nat} {Q : List Value → Shared → Prop} (ho : s.heap.get? l = some o) (hc : o.cls = .type "list") (hd : o.data = .seq items.toArray n) (hz : items.length ≤ 1000)
    (hQ : ∀ h' : Heap, (∀ b u, s.heap.get? b = some u → h'.get? b = some u) → h'.objs.size = s.heap.objs.size + 1 → Q items { s with heap := h' }) : wpAny (model prog w) A (collect (.ref l)) Q E s := by
  have hsz : items.toArray.size ≤ sizeLine := by rw [List.size_toArray, sizeLine_eq]; omega
  let S := s.heap.objs.size
  let nl : Obj := { cls := .type "list", data := .seq ([] : List Value).toArray }
  let hE := (s.heap.push nl).update S (Obj.mapSeq (· ++ items.toArray))
  have g0 : (s.heap.push nl).get? S = some { cls := .type "list", data := .seq #[] 0 } := Heap.get?_push_size _ rfl
  have g1 : hE.get? S = some _ := Heap.get?_update_self (Obj.mapSeq (· ++ items.toArray)) g0 rfl
  have kept : ∀ b u, s.heap.get? b = some u → hE.get? b = some u := fun b u e => (Heap.get?_update_other _ _ (Nat.ne_of_gt (Heap.lt_size e))).trans (Heap.get?_push_of_some _ e)
  have size : hE.objs.size = S + 1 := by rw [Heap.size_update, Heap.size_push]
  unfold collect
  refine wpAny_bind (wpAny_runValue (codeAny_builtin F.entry_proto_collect ?_))
  rw [Around.under_plainId F.plain_proto_collect _]
  refine wpAny_bind (m := newList []) (wpAny_newObj_type (wpAny_pure ⟨plainId_quiet F.plain_list_iadd _, codeAny_builtin F.entry_list_iadd ?_⟩))
  rw [Around.under_plainId F.plain_list_iadd _]
  have last : wpAny (model prog w) A (load S >>= fun o => match o.data with
      | .seq xs _ => pure xs.toList
      | _ => unsupported "internal:collect") Q E { s with heap := hE } := by
    refine wpAny_bind (wpAny_load g1 (wpAny_pure ?_))
    have e : ((#[] : Array Value) ++ items.toArray).toList = items := by simp
    exact e.symm ▸ hQ hE kept size
  refine wpAny_mono (wpAny_extend_seq (hsz := hsz) (A := A) (R := fun r s1 => r = .ok (.ret (.ref S)) ∧ s1 = { s with heap := hE }) (s := { s with heap := s.heap.push nl }) S l (.ref S) 0 (.inl rfl) g0 (Heap.get?_push_of_some _ ho) hc hd ⟨rfl, rfl⟩) (fun fin s1 z => ?_) (fun e s1 z => absurd z.1 (by simp))
  cases fin with
  | done f =>
    obtain ⟨e, rfl⟩ := z
    cases e
    exact last
  | again c' => exact ⟨z.1, codeAny_mono z.2 fun r s2 y => by obtain ⟨rfl, rfl⟩ := y; exact last⟩
end
abbrev pmNew (h : Heap) (items : List Value) (ns : List Nat) : Heap := (h.push (tuO items)).push (pmO h.objs.size 0 items.length .none ns)
theorem meets_pm_new (l : Addr) (o : Obj) (items : List Value) (n : Nat) (hc : o.cls = .type "list") (hd : o.data = .seq items.toArray n) (hz : items.length ≤ 1000) :
    Meets (Builtin.«itertools.permutations.__new__» ⟨[.type "itertools.permutations", .ref l], []⟩)
      (fun _ R s => s.heap.get? l = some o ∧ ∀ h' : Heap, (∀ b o', s.heap.get? b = some o' → h'.get? b = some o') → h'.objs.size = s.heap.objs.size + 1 →
        R (.ok (.ret (.ref (h'.push (tuO items)).objs.size))) { s with heap := pmNew h' items ((List.range items.length) ++ (List.range items.length).map fun i => items.length - i) }) :=
  .of_wp fun prog w A R s h => by
    obtain ⟨hp, g, d, tk, os⟩ := s; obtain ⟨ht, h⟩ := h
    have hsub : isSubtype (.type "itertools.permutations") (.type ("itertools." ++ "permutations")) = pure true := by rw [isSubtype_type]; kernel_rfl
    have hdd := noDict_pm
    have hsz : items.toArray.size ≤ sizeLine := by rw [List.size_toArray, sizeLine_eq]; omega
    wp_walk using pm_collect ht hc hd hz
    intro h' hk hks
    refine wpAny_bind (wpAny_pure ?_)
    have h1 : ¬ ((items.length : Int) < 0) := by omega
    have h2 : Builtin.Itertools.itTooMany (items.length : Int) = false := by
      unfold Builtin.Itertools.itTooMany
      exact decide_eq_false (by omega)
    have h3 : (items.length : Int).toNat = items.length := Int.toNat_natCast _
    dsimp only
    rw [if_neg h1, h2, if_neg Bool.false_ne_true, h3]
    have h4 : ¬ (items.length > items.length) := Nat.lt_irrefl _
    rw [if_neg h4]
    refine wpAny_bind (wpAny_newTuple ?_ (by rw [sizeLine_eq]; omega))
    refine wpAny_bind ?_
    unfold Builtin.Itertools.itNewRecord
    rw [hdd]
    show wpAny _ _ (newObj (.type "itertools.permutations") (.fields _) none) _ _ _
    refine wpAny_newObj_type ?_ ?_
    · refine wpAny_pure ⟨_, rfl, ?_⟩
      have e := h h' hk hks
      have e2 : ([Value.ref h'.objs.size, rawInt 0, rawInt (items.length : Int), Value.none] ++ List.map (fun (i : Nat) => rawInt (i : Int)) (List.range items.length) ++ List.map (fun (i : Nat) => rawInt ((items.length : Int) - (i : Int))) (List.range items.length)) = [Value.ref h'.objs.size, rawInt 0, rawInt (items.length : Int), Value.none] ++ nums ((List.range items.length) ++ (List.range items.length).map fun i => items.length - i) := by
        rw [List.append_assoc]
        congr 1
        unfold nums
        rw [List.map_append, List.map_map]
        congr 1
        refine List.map_congr_left fun i hi => ?_
        have := List.mem_range.mp hi
        show rawInt ((items.length : Int) - (i : Int)) = rawInt (((items.length - i : Nat)) : Int)
        congr 1
        omega
      rw [e2]
      exact e
    · show (_ : Array Value).size ≤ sizeLine + 2
      simp
      rw [sizeLine_eq]
      omega
section
variable {prog : Program} {w : World} {A : Around} {E : Value → Shared → Prop} {s : Shared}
theorem call_pm {l : Addr} {o : Obj} {items : List Value} {n : Nat} {Q : Value → Shared → Prop} (ho : s.heap.get? l = some o) (hc : o.cls = .type "list") (hd : o.data = .seq items.toArray n) (hz : items.length ≤ 1000)
    (h : ∀ (h' : Heap) (it pool : Addr), (∀ b o, s.heap.get? b = some o → h'.get? b = some o) → s.heap.objs.size ≤ pool → pool < it → h'.get? pool = some (tuO items) →
      h'.get? it = some (pmO pool 0 items.length .none ((List.range items.length) ++ (List.range items.length).map fun i => items.length - i)) → Q (.ref it) { s with heap := h' }) :
    wpAny (model prog w) A (call (.type "itertools.permutations") [.ref l]) Q E s := by
  refine callType_new called_pm (by decide +kernel) (typeCall_pm _) (newCall_pm _) (fun obj => F.args_object_init_2 obj _) entry_pm_new (meets_pm_new l o items n hc hd hz) ⟨ho, fun h' hk hks => ?_⟩
  have e := Heap.get?_push_size (h'.push (tuO items)) (o := pmO h'.objs.size 0 items.length .none ((List.range items.length) ++ (List.range items.length).map fun i => items.length - i)) rfl
  show _ ∧ _
  refine ⟨⟨_, e, rfl⟩, h _ _ h'.objs.size (fun b o x => Heap.get?_push_of_some _ (Heap.get?_push_of_some _ (hk b o x))) (by rw [hks]; exact Nat.le_succ _) (by rw [Heap.size_push]; exact Nat.lt_succ_self _) (Heap.get?_push_of_some _ (Heap.get?_push_size _ rfl)) e⟩
end
end CpPerm
end -- DmPermN
section -- DmCombN
set_option Elab.async false
set_option linter.all false
set_option maxRecDepth 100000
set_option maxHeartbeats 4000000
namespace CpPerm
open PySem PySem.Spec
open Sem (wp)
abbrev cbNew (h : Heap) (items : List Value) (ns : List Nat) : Heap := (h.push (tuO items)).push (cbO h.objs.size 0 .none ns)
theorem meets_cb_new (l : Addr) (o : Obj) (items : List Value) (n r : Nat) (t : Tok) (hc : o.cls = .type "list") (hd : o.data = .seq items.toArray n) (hz : items.length ≤ 1000) (hr : r ≤ items.length) :
    Meets (Builtin.«itertools.combinations.__new__» ⟨[.type "itertools.combinations", .ref l, .int (r : Int) t], []⟩)
      (fun _ R s => s.heap.get? l = some o ∧ ∀ h' : Heap, (∀ b o', s.heap.get? b = some o' → h'.get? b = some o') → h'.objs.size = s.heap.objs.size + 1 →
        R (.ok (.ret (.ref (h'.push (tuO items)).objs.size))) { s with heap := cbNew h' items (List.range r) }) :=
  .of_wp fun prog w A R s h => by
    obtain ⟨hp, g, d, tk, os⟩ := s; obtain ⟨ht, h⟩ := h
    have hsub : isSubtype (.type "itertools.combinations") (.type ("itertools." ++ "combinations")) = pure true := by rw [isSubtype_type]; kernel_rfl
    have hdd := noDict_cb
    have hsz : items.toArray.size ≤ sizeLine := by rw [List.size_toArray, sizeLine_eq]; omega
    wp_walk using pm_collect ht hc hd hz
    have h0 : (decide ((r : Int) < -2 ^ 63) || decide ((r : Int) ≥ 2 ^ 63)) = false := by
      rw [Bool.or_eq_false_iff]
      exact ⟨decide_eq_false (by omega), decide_eq_false (by omega)⟩
    rw [h0]
    refine wpAny_pure ?_
    refine wpAny_bind (pm_collect ht hc hd hz fun h' hk hks => ?_)
    have h1 : ¬ ((r : Int) < 0) := by omega
    have h2 : Builtin.Itertools.itTooMany (r : Int) = false := by
      unfold Builtin.Itertools.itTooMany
      exact decide_eq_false (by omega)
    have h3 : (r : Int).toNat = r := Int.toNat_natCast _
    dsimp only
    rw [if_neg h1, h2, if_neg Bool.false_ne_true, h3]
    refine wpAny_bind (wpAny_newTuple ?_ (by rw [sizeLine_eq]; omega))
    refine wpAny_pure ?_
    dsimp only
    have h4 : ¬ (r > items.length) := by omega
    rw [if_neg h4]
    refine wpAny_bind ?_
    unfold Builtin.Itertools.itNewRecord
    rw [hdd]
    show wpAny _ _ (newObj (.type "itertools.combinations") (.fields _) none) _ _ _
    refine wpAny_newObj_type ?_ ?_
    · exact wpAny_pure ⟨_, rfl, h h' hk hks⟩
    · show (_ : Array Value).size ≤ sizeLine + 2
      simp
      rw [sizeLine_eq]
      omega
section
variable {prog : Program} {w : World} {A : Around} {E : Value → Shared → Prop} {s : Shared}
theorem call_cb {l : Addr} {o : Obj} {items : List Value} {n r : Nat} {t : Tok} {Q : Value → Shared → Prop} (ho : s.heap.get? l = some o) (hc : o.cls = .type "list") (hd : o.data = .seq items.toArray n) (hz : items.length ≤ 1000) (hr : r ≤ items.length)
    (h : ∀ (h' : Heap) (it pool : Addr), (∀ b o, s.heap.get? b = some o → h'.get? b = some o) → s.heap.objs.size ≤ pool → pool < it → h'.get? pool = some (tuO items) → h'.get? it = some (cbO pool 0 .none (List.range r)) → Q (.ref it) { s with heap := h' }) :
    wpAny (model prog w) A (call (.type "itertools.combinations") [.ref l, .int (r : Int) t]) Q E s := by
  refine callType_new called_cb (by decide +kernel) (typeCall_cb _ _) (newCall_cb _ _) (fun obj => F.args_object_init_3 obj _ _) entry_cb_new (meets_cb_new l o items n r t hc hd hz hr) ⟨ho, fun h' hk hks => ?_⟩
  have e := Heap.get?_push_size (h'.push (tuO items)) (o := cbO h'.objs.size 0 .none (List.range r)) rfl
  show _ ∧ _
  exact ⟨⟨_, e, rfl⟩, h _ _ h'.objs.size (fun b o x => Heap.get?_push_of_some _ (Heap.get?_push_of_some _ (hk b o x))) (by rw [hks]; exact Nat.le_succ _) (by rw [Heap.size_push]; exact Nat.lt_succ_self _) (Heap.get?_push_of_some _ (Heap.get?_push_size _ rfl)) e⟩
end
end CpPerm
end -- DmCombN
section -- DmPerm
set_option Elab.async false
set_option linter.all false
set_option maxRecDepth 100000
set_option maxHeartbeats 1000000
namespace Dm
open PySem PySem.Spec PyProof.Rows L2 CpPerm
variable [Tbs]

/-- an iterator of its own that makes tuples -/
structure Mk (prog : Program) (w : World) (T : String) (it : Addr) (fp : List Addr) (pss : List (List Value)) (tn : Nat → Heap → Prop) : Prop where
  mem : it ∈ fp
  live : ∀ i h, tn i h → ∀ b ∈ fp, ∃ o, h.get? b = some o ∧ ∀ v, o.data ≠ .cell v
  keep : ∀ i h h', tn i h → (∀ b ∈ fp, ∀ o, h.get? b = some o → h'.get? b = some o) → tn i h'
  item : ∀ (A : Around) (E : Value → Shared → Prop) (s : Shared) (i : Nat) (ps : List Value) (Q : Option Value → Shared → Prop), tn i s.heap → pss[i]? = some ps →
    (∀ h', tn (i + 1) h' → h'.get? s.heap.objs.size = some (tuO ps) → (∀ b o, b ≠ it → s.heap.get? b = some o → h'.get? b = some o) → Q (some (.ref s.heap.objs.size)) { s with heap := h' }) → wpAny (model prog w) A (pyNext (.ref it)) Q E s
  done : ∀ (A : Around) (E : Value → Shared → Prop) (s : Shared) (Q : Option Value → Shared → Prop), A.handled = none → tn pss.length s.heap → (∀ h', Heap.ExtBut it s.heap h' → Q none { s with heap := h' }) → wpAny (model prog w) A (pyNext (.ref it)) Q E s
  self : ∀ (A : Around) (E : Value → Shared → Prop) (s : Shared) (i : Nat) (Q : Value → Shared → Prop), tn i s.heap → Q (.ref it) s → wpAny (model prog w) A (pyIter (.ref it)) Q E s
  type : ∀ i h, tn i h → ∃ o, h.get? it = some o ∧ o.cls = .type T
  nolen : typeLookup (.type T) "__len__" = pure none
  nohint : typeLookup (.type T) "__length_hint__" = pure none
  notL : (Value.type T == Value.type "list") = false
  notT : (Value.type T == Value.type "tuple") = false

/-- a list at q is filled with new tuples -/
def LP (q : Addr) (Q : Hp → Prop) : List (List V) → List V → Hp → Prop
  | [], _, H => Q H
  | ps :: r, acc, H => ∀ T (o : Obj), H T = none → T ≠ q → o.dict = none → LP q Q r (acc ++ [.ref T]) (upd (upd H T (.frz o (.tup ps))) q (.lst (acc ++ [.ref T])))
section
variable {X : Cx} {pins : List (Addr × Obj)} {σ : L2.St} {T : String} {it q : Addr} {fp : List Addr} {pss : List (List Value)} {vss : List (List V)} {tn : Nat → Heap → Prop} {Q : Hp → Prop} {Rs : Result → Shared → Prop} {A1 : Around}
theorem Mk.loop (M : Mk X.prog X.w T it fp pss tn) (hl : vss.length = pss.length) (hv : ∀ (i : Nat) vs ps, vss[i]? = some vs → pss[i]? = some ps → Vals vs ps ∧ vs.length ≤ sizeLine) (hh : A1.handled = none) (hz : pss.length ≤ sizeLine) (hdone : ∀ H s, Inv X pins σ H s → Q H → Rs (.ok (.ret .none)) s) :
    ∀ (k i : Nat) (acc : List V) (H : Hp) (s : Shared), pss.length - i = k → i ≤ pss.length → acc.length = i → Inv X pins σ H s → (∀ b ∈ fp, FpOk X pins H b) → H q = some (.lst acc) → LP q Q (vss.drop i) acc H → tn i s.heap →
      codeAny (model X.prog X.w) A1 (.builtin "list.extend.loop" ⟨[.ref q, .ref it, .none], []⟩) Rs s := by
  intro k
  induction k with
  | zero =>
    intro i acc H s hk hi ha I hf hq hLP st
    have e : i = pss.length := by omega
    subst e
    refine codeAny_builtin PySem.F.entry_extend_loop ?_
    rw [Around.under_plainId PySem.F.plain_extend_loop _]
    show wpAny _ A1.in1 (pyNext (.ref it) >>= _) _ _ s
    refine wpAny_bind (M.done A1.in1 _ s _ hh st fun h' he => ?_)
    have hfi := hf it M.mem
    have I2 := I.step (g' := s.gens) (d' := s.drawn) (h' := h') (t' := s.toks) (H' := H) (ch := [it]) (fun b hb => by
        have e : b = it := by simpa using hb
        subst e
        exact ⟨hfi.2.2.2.1, hfi.2.1, hfi.2.2.2.2.1, hfi.2.2.2.2.2⟩) (fun b o _ _ hc e _ => he b o (fun z => hc (by rw [z]; simp)) e) (fun b o _ _ hc e _ => ⟨o.slots, he b o (fun z => hc (by rw [z]; simp)) e⟩) (fun _ _ _ _ n => n)
      (fun b o hc e => ⟨o, he b o (fun z => hc (by rw [z]; simp)) e⟩) (fun _ _ e => e) (fun _ _ _ e => e) (fun _ ps e => ⟨#[], by rw [e]; simp⟩) (fun m hm => by
        obtain ⟨o, es, ep, ho, r⟩ := hm
        exact ⟨o, es, ep, he _ o (fun z => hfi.2.1 z.symm) ho, r⟩) (fun a o e => (I.hok a o e).stay (fun b u hb w => he b u (fun z => by
          rw [z] at hb
          rcases hb with hb | hb
          · rw [hb] at hfi
            rw [hfi.1] at e
            cases e
          · rw [hfi.1] at hb
            cases hb) w) (fun _ w => w) fun _ _ w => w) I.bare
    have hd : vss.drop pss.length = [] := by rw [← hl]; exact List.drop_length
    rw [hd] at hLP
    exact wpAny_pure (hdone H _ I2 hLP)
  | succ k ih =>
    intro i acc H s hk hi ha I hf hq hLP st
    have hlt : i < pss.length := by omega
    have hlt2 : i < vss.length := by omega
    refine codeAny_builtin PySem.F.entry_extend_loop ?_
    rw [Around.under_plainId PySem.F.plain_extend_loop _]
    show wpAny _ A1.in1 (pyNext (.ref it) >>= _) _ _ s
    refine wpAny_bind (M.item A1.in1 _ s i pss[i] _ st (List.getElem?_eq_getElem hlt) fun h' st' ht he => ?_)
    obtain ⟨rv, rz⟩ := hv i _ _ (List.getElem?_eq_getElem hlt2) (List.getElem?_eq_getElem hlt)
    have hn : H s.heap.objs.size = none := I.hok.fresh (Nat.le_refl _)
    have I1 := I.turnedNew (t' := s.toks) (ch := [it]) (T := s.heap.objs.size) (ob := .frz (tuO pss[i]) (.tup vss[i])) (fun b o hb e => he b o (fun z => hb (by rw [z]; simp)) e) (fun b hb => by
      have e : b = it := by simpa using hb
      subst e
      exact hf _ M.mem) (Nat.le_refl _) (objOk_frz rz rv ht)
    have e1 : vss.drop i = vss[i] :: vss.drop (i + 1) := List.drop_eq_getElem_cons hlt2
    rw [e1] at hLP
    have hTq : s.heap.objs.size ≠ q := fun z => by rw [z, hq] at hn; cases hn
    have hLP2 := hLP s.heap.objs.size (tuO pss[i]) hn hTq rfl
    have hq1 : upd H s.heap.objs.size (.frz (tuO pss[i]) (.tup vss[i])) q = some (.lst acc) := by rw [upd_ne (Ne.symm hTq)]; exact hq
    obtain ⟨z, its, c, r2, hl2, e⟩ := I1.lstM hq1
    show wpAny _ A1.in1 (updateSeq q (·.push (.ref s.heap.objs.size)) >>= _) _ _ _
    have hacc : its.length = i := by rw [← hl2, ha]
    refine wpAny_bind (wpAny_updateSeq e rfl (wpAny_pure ⟨plainId_quiet PySem.F.plain_extend_loop _, ?_⟩) (by rw [List.size_toArray]; omega) (by show (its.toArray.push _).size ≤ sizeLine + 1; rw [Array.size_push, List.size_toArray]; omega))
    have rone : Vals [V.ref s.heap.objs.size] [Value.ref s.heap.objs.size] := .cons rfl .nil
    have I2 := I1.lset (its' := its ++ [.ref s.heap.objs.size]) (ys := acc ++ [.ref s.heap.objs.size]) (t' := s.toks) (f := (·.push (.ref s.heap.objs.size))) hq1 e (by simp) (r2.append rone) (by rw [List.length_append, List.length_singleton]; omega)
    refine ih (i + 1) _ _ _ (by omega) hlt (by rw [List.length_append, List.length_singleton, ha]) I2 (fun b hb => ?_) upd_same hLP2 ?_
    · obtain ⟨o, ho, _⟩ := M.live i _ st b hb
      have f := hf b hb
      refine ⟨?_, f.2⟩
      have n1 : b ≠ q := fun z => by
        have := f.1
        rw [z, hq] at this
        cases this
      rw [upd_ne n1, upd_ne (Nat.ne_of_lt (Heap.lt_size ho))]
      exact f.1
    · refine M.keep _ _ _ st' fun b hb o ho => ?_
      have n1 : b ≠ q := fun z => by
        have := (hf b hb).1
        rw [z, hq] at this
        cases this
      exact (Heap.get?_update_other _ _ (Ne.symm n1)).trans ho
/-- list(it) -/
theorem Mk.list {H : Hp} {s : Shared} {QV : VK} (M : Mk X.prog X.w T it fp pss tn) (hl : vss.length = pss.length) (hv : ∀ (i : Nat) vs ps, vss[i]? = some vs → pss[i]? = some ps → Vals vs ps ∧ vs.length ≤ sizeLine) (hc : X.calm = true) (hz : pss.length ≤ sizeLine)
    (I : Inv X pins σ H s) (hf : ∀ b ∈ fp, FpOk X pins H b) (st : tn 0 s.heap) (hQ : ∀ q, H q = none → q ∉ fp → LP q (fun H' => QV (.ref q) H') vss [] (upd H q (.lst []))) : wpAny (model X.prog X.w) X.A (call (.type "list") [.ref it]) (EP X pins σ QV) X.xe s := by
  have hh : X.A.handled = none := I.ok.hd hc
  refine callType_codes (Q₁ := fun obj s₁ => obj = .ref s.heap.objs.size ∧ s₁ = { s with heap := s.heap.push { cls := .type "list", data := .seq #[] } }) PySem.F.called_list (PySem.F.typeCall_list_1 _) PySem.F.entry_list_init
    (code_list_new _ ⟨rfl, rfl⟩) fun obj s₁ h₁ => ?_
  obtain ⟨rfl, rfl⟩ := h₁
  have hS : (s.heap.push { cls := .type "list", data := .seq #[] }).get? s.heap.objs.size = some { cls := .type "list", data := .seq #[] } := Heap.get?_push_size _ rfl
  refine ⟨⟨_, hS, rfl⟩, PySem.F.args_list_init_2 _ _, ?_⟩
  have fr : H s.heap.objs.size = none := I.hok.fresh (Nat.le_refl _)
  have hnf : s.heap.objs.size ∉ fp := fun z => by
    obtain ⟨o, ho, _⟩ := M.live 0 _ st _ z
    exact absurd (Heap.lt_size ho) (Nat.lt_irrefl _)
  have hP := hQ _ fr hnf
  have I1 : Inv X pins σ (upd H s.heap.objs.size (.lst [])) { s with heap := s.heap.push { cls := .type "list", data := .seq #[] } } := I.lnew (its := []) (t' := s.toks) .nil (Nat.zero_le _)
  show wpAny _ _ (do let old ← Builtin.List.listItems (.ref s.heap.objs.size); Builtin.List.listUpdate (.ref s.heap.objs.size) (fun _ => #[]); letGo old.toList.reverse; Builtin.List.listExtendWith (.ref s.heap.objs.size) (.ref it) .none) _ _ _
  refine wpAny_bind ?_
  unfold Builtin.List.listItems
  refine wpAny_bind (wpAny_seqItems hS rfl (wpAny_pure ?_))
  show wpAny _ _ (updateSeq s.heap.objs.size (fun _ => #[]) >>= fun _ => letGo (#[] : Array Value).toList.reverse >>= fun _ => Builtin.List.listExtendWith (.ref s.heap.objs.size) (.ref it) .none) _ _ _
  refine wpAny_bind (wpAny_updateSeq hS rfl ?_)
  have I2 := I1.lset (f := fun _ => #[]) (its := []) (its' := []) (ys := []) (t' := s.toks) upd_same hS rfl .nil (Nat.zero_le _)
  rw [upd_upd] at I2
  refine wpAny_bind (wpAny_letGo ?_)
  have st1 : tn 0 (s.heap.push { cls := .type "list", data := .seq #[] }) := M.keep _ _ _ st fun b _ o e => Heap.get?_push_of_some _ e
  have st2 := M.keep _ _ ((s.heap.push { cls := .type "list", data := .seq #[] }).update s.heap.objs.size (Obj.mapSeq (fun _ => (#[] : Array Value)))) st1 fun b hb o e => (Heap.get?_update_other _ _ (fun z => hnf (by rw [z]; exact hb))).trans e
  have hf2 : ∀ b ∈ fp, FpOk X pins (upd H s.heap.objs.size (.lst [])) b := fun b hb => ⟨by rw [upd_ne (fun z => hnf (by rw [← z]; exact hb))]; exact (hf b hb).1, (hf b hb).2⟩
  -- the list is filled
  have loop : ∀ (s' : Shared), Inv X pins σ (upd H s.heap.objs.size (.lst [])) s' → tn 0 s'.heap → codeAny (model X.prog X.w) X.A.in1 (.builtin "list.extend.loop" ⟨[.ref s.heap.objs.size, .ref it, .none], []⟩) (wants (fun r s₂ => r = .none ∧ EP X pins σ QV (.ref s.heap.objs.size) s₂) X.xe) s' := fun s' I' st' =>
    M.loop (A1 := X.A.in1) (Rs := wants (fun r s₂ => r = .none ∧ EP X pins σ QV (.ref s.heap.objs.size) s₂) X.xe) (Q := fun H' => QV (.ref s.heap.objs.size) H') hl hv hh hz (fun H' s'' I'' q'' => ⟨rfl, .ref s.heap.objs.size, H', I'', rfl, q''⟩) _ 0 [] _ s' rfl (Nat.zero_le _) rfl I' hf2 upd_same hP st'
  obtain ⟨ot, hot, hct⟩ := M.type 0 _ st2
  have hSI : s.heap.objs.size ≠ it := fun z => hnf (by rw [z]; exact M.mem)
  unfold Builtin.List.listExtendWith
  refine wpAny_bind (wpAny_typeOf (T := T) ⟨ot, hot, hct⟩ ?_)
  have h1 : Builtin.List.listSameRef (.ref s.heap.objs.size) (.ref it) = false := by simp [Builtin.List.listSameRef, hSI]
  simp only [h1, M.notL, M.notT, Bool.or_false, Bool.false_eq_true, if_false]
  refine wpAny_bind (M.self _ _ _ 0 _ st2 ?_)
  refine wpAny_bind (wpAny_holding ?_)
  unfold Builtin.List.listLengthHint
  refine wpAny_bind (wpAny_specialOf (T := T) ⟨ot, hot, hct⟩ M.nolen ?_)
  show wpAny _ _ (specialOf (Value.ref it) (Str.ofString "__length_hint__") >>= _) _ _ _
  refine wpAny_bind (wpAny_specialOf (T := T) ⟨ot, hot, hct⟩ M.nohint ?_)
  refine wpAny_pure ?_
  show wpAny _ _ (rule "list.extend.makes-room" >>= fun _ => Builtin.List.listTouch (.ref s.heap.objs.size) >>= fun _ =>
    again (.builtin "list.extend.loop" ⟨[.ref s.heap.objs.size, .ref it, .none], []⟩)) _ _ _
  refine wpAny_bind (wpAny_rule ?_)
  refine wpAny_bind ?_
  show wpAny _ _ (updateSeq s.heap.objs.size (·.push .none) >>= fun _ => updateSeq s.heap.objs.size (·.pop)) _ _ _
  obtain ⟨z3, its3, k3, r3, hl3, e3⟩ := I2.lstM upd_same
  cases r3
  refine wpAny_bind (wpAny_updateSeq e3 rfl ?_)
  have I3 := I2.lset (f := (·.push Value.none)) (its' := [Value.none]) (ys := [.non]) (t' := s.toks) upd_same e3 (by simp) (.cons rfl .nil) (by rw [List.length_singleton, sizeLine_eq]; decide)
  obtain ⟨z4, its4, k4, r4, hl4, e4⟩ := I3.lstM upd_same
  obtain ⟨u4, rfl, ru4⟩ := r4.one
  refine wpAny_updateSeq e4 rfl ?_ (by show 1 ≤ sizeLine; rw [sizeLine_eq]; decide) (by show 0 ≤ sizeLine + 1; exact Nat.zero_le _)
  have I4 := I3.lset (f := (·.pop)) (its := [u4]) (its' := []) (ys := []) (t' := s.toks) upd_same e4 (by rfl) .nil (Nat.zero_le _)
  rw [upd_upd, upd_upd] at I4
  have keep2 : ∀ (h : Heap) (f : Obj → Obj), tn 0 h → tn 0 (h.update s.heap.objs.size f) := fun h f x => M.keep _ _ _ x fun b hb o e => (Heap.get?_update_other _ _ (fun z => hnf (by rw [z]; exact hb))).trans e
  exact wpAny_pure ⟨plainId_quiet PySem.F.plain_extend_loop _, loop _ I4 (keep2 _ _ (keep2 _ _ st2))⟩
end
end Dm
end -- DmPerm
section -- DmPerm2
set_option Elab.async false
set_option linter.all false
set_option maxRecDepth 100000
set_option maxHeartbeats 1000000
namespace Dm
open PySem PySem.Spec PyProof.Rows L2 CpPerm
variable [Tbs]

/-! ### the runs -/
def pchk (n : Nat) : List (List Nat × List Nat) → Bool
  | [] => false
  | [st] => Nat.beq st.1.length n && Nat.beq st.2.length n && st.1.all (fun i => Nat.blt i n) && (match np n n st.1 st.2 with | none => true | some _ => false)
  | st :: st' :: r => Nat.beq st.1.length n && Nat.beq st.2.length n && st.1.all (fun i => Nat.blt i n) && (match np n n st.1 st.2 with | none => false | some x => decide (x = st')) && pchk n (st' :: r)
def prun (n : Nat) : Nat → List Nat × List Nat → List (List Nat × List Nat)
  | 0, st => [st]
  | f + 1, st => st :: match np n n st.1 st.2 with
    | none => []
    | some st' => prun n f st'
theorem pchk_at {n : Nat} : ∀ {L : List (List Nat × List Nat)}, pchk n L = true → ∀ (i : Nat) st, L[i]? = some st → st.1.length = n ∧ st.2.length = n ∧ (∀ j ∈ st.1, j < n) ∧ np n n st.1 st.2 = L[i + 1]?
  | [], h, _, _, _ => by cases h
  | [st], h, i, x, e => by
    unfold pchk at h
    simp only [Bool.and_eq_true] at h
    obtain ⟨⟨⟨h1, h2⟩, h3⟩, h4⟩ := h
    cases i with
    | succ i => simp at e
    | zero =>
      simp at e
      subst e
      refine ⟨Nat.eq_of_beq_eq_true h1, Nat.eq_of_beq_eq_true h2, fun j hj => Nat.le_of_ble_eq_true (List.all_eq_true.mp h3 j hj), ?_⟩
      cases q : np n n st.1 st.2 with
      | none => rfl
      | some y => rw [q] at h4; cases h4
  | st :: st' :: r, h, i, x, e => by
    unfold pchk at h
    simp only [Bool.and_eq_true] at h
    obtain ⟨⟨⟨⟨h1, h2⟩, h3⟩, h4⟩, h5⟩ := h
    cases i with
    | succ i => exact pchk_at h5 i x (by simpa using e)
    | zero =>
      simp at e
      subst e
      refine ⟨Nat.eq_of_beq_eq_true h1, Nat.eq_of_beq_eq_true h2, fun j hj => Nat.le_of_ble_eq_true (List.all_eq_true.mp h3 j hj), ?_⟩
      cases q : np n n st.1 st.2 with
      | none => rw [q] at h4; cases h4
      | some y =>
        rw [q] at h4
        rw [of_decide_eq_true h4]
        rfl
def cchk (n r : Nat) : List (List Nat) → Bool
  | [] => false
  | [st] => Nat.beq st.length r && st.all (fun i => Nat.blt i n) && (match nc n st with | none => true | some _ => false)
  | st :: st' :: rest => Nat.beq st.length r && st.all (fun i => Nat.blt i n) && (match nc n st with | none => false | some x => decide (x = st')) && cchk n r (st' :: rest)
def crun (n : Nat) : Nat → List Nat → List (List Nat)
  | 0, st => [st]
  | f + 1, st => st :: match nc n st with
    | none => []
    | some st' => crun n f st'
theorem cchk_at {n r : Nat} : ∀ {L : List (List Nat)}, cchk n r L = true → ∀ (i : Nat) st, L[i]? = some st → st.length = r ∧ (∀ j ∈ st, j < n) ∧ nc n st = L[i + 1]?
  | [], h, _, _, _ => by cases h
  | [st], h, i, x, e => by
    unfold cchk at h
    simp only [Bool.and_eq_true] at h
    obtain ⟨⟨h1, h3⟩, h4⟩ := h
    cases i with
    | succ i => simp at e
    | zero =>
      simp at e
      subst e
      refine ⟨Nat.eq_of_beq_eq_true h1, fun j hj => Nat.le_of_ble_eq_true (List.all_eq_true.mp h3 j hj), ?_⟩
      cases q : nc n st with
      | none => rfl
      | some y => rw [q] at h4; cases h4
  | st :: st' :: rest, h, i, x, e => by
    unfold cchk at h
    simp only [Bool.and_eq_true] at h
    obtain ⟨⟨⟨h1, h3⟩, h4⟩, h5⟩ := h
    cases i with
    | succ i => exact cchk_at h5 i x (by simpa using e)
    | zero =>
      simp at e
      subst e
      refine ⟨Nat.eq_of_beq_eq_true h1, fun j hj => Nat.le_of_ble_eq_true (List.all_eq_true.mp h3 j hj), ?_⟩
      cases q : nc n st with
      | none => rw [q] at h4; cases h4
      | some y =>
        rw [q] at h4
        rw [of_decide_eq_true h4]
        rfl
theorem chk_ne {n : Nat} : ∀ {L : List (List Nat × List Nat)}, pchk n L = true → ∃ st r, L = st :: r
  | [], h => by cases h
  | st :: r, _ => ⟨st, r, rfl⟩

/-! ### the makers -/
def pmTn (it pool : Addr) (items : List Value) (n : Nat) (L : List (List Nat × List Nat)) (i : Nat) (h : Heap) : Prop :=
  h.get? pool = some (tuO items) ∧ ∃ res st, h.get? it = some (pmO pool (if i = 0 then 0 else 1) n res (st.1 ++ st.2)) ∧ L[i - 1]? = some st
theorem mk_pm {prog : Program} {w : World} {it pool : Addr} {items : List Value} {n : Nat} {L : List (List Nat × List Nat)} (hl : items.length = n) (hn : n ≤ 1000) (hne : pool ≠ it) (hL : pchk n L = true) : Mk prog w "itertools.permutations" it [it, pool] (L.map fun st => sel items n st.1) (pmTn it pool items n L) := by
  have sz := sizeLine_eq
  refine ⟨by simp, fun i h st b hb => ?_, fun i h h' st k => ?_, fun A E s i ps Q st hp hQ => ?_, fun A E s Q hh st hQ => ?_, fun A E s i Q st hQ => ?_, fun i h st => ?_, nolen_pm, nohint_pm, by decide, by decide⟩
  · obtain ⟨h1, res, st, h2, _⟩ := st
    have e : b = it ∨ b = pool := by simpa using hb
    rcases e with rfl | rfl
    · exact ⟨_, h2, fun v z => nomatch z⟩
    · exact ⟨_, h1, fun v z => nomatch z⟩
  · obtain ⟨h1, res, st, h2, h3⟩ := st
    exact ⟨k _ (by simp) _ h1, res, st, k _ (by simp) _ h2, h3⟩
  · obtain ⟨h1, res, st, h2, h3⟩ := st
    have hcur : ∃ cur, L[i]? = some cur ∧ sel items n cur.1 = ps := by
      rw [List.getElem?_map] at hp
      cases q : L[i]? with
      | none => rw [q] at hp; cases hp
      | some cur => rw [q] at hp; exact ⟨cur, rfl, Option.some.inj hp⟩
    obtain ⟨cur, hc, rfl⟩ := hcur
    obtain ⟨c1, c2, c3, c4⟩ := pchk_at hL _ _ h3
    cases i with
    | zero =>
      rw [show (0 : Nat) - 1 = 0 from rfl] at h3
      rw [hc] at h3
      cases h3
      have e : sel items n (st.1 ++ st.2) = sel items n st.1 := by
        show ((st.1 ++ st.2).take n).map _ = (st.1.take n).map _
        rw [List.take_append_of_le_length (by omega)]
      refine pm_first h2 h1 (by rw [List.length_append]; omega) fun h' a b c => ?_
      rw [e] at b
      exact hQ h' ⟨c _ _ hne h1, _, _, a, hc⟩ b c
    | succ i =>
      rw [show i + 1 - 1 = i from rfl] at h3
      rw [show i + 1 - 1 + 1 = i + 1 from rfl, hc] at c4
      obtain ⟨d1, d2, d3, d4⟩ := pchk_at hL _ _ hc
      have e1 : (st.1 ++ st.2).take n = st.1 := by rw [← c1]; exact List.take_left
      have e2 : (st.1 ++ st.2).drop n = st.2 := by rw [← c1]; exact List.drop_left
      refine pm_more (ix := cur.1) (cy := cur.2) h2 h1 hl (by rw [e1, e2]; exact c4) (by omega) (by rw [List.length_append]; omega) fun h' a b c => ?_
      exact hQ h' ⟨c _ _ hne h1, _, _, a, hc⟩ b c
  · obtain ⟨h1, res, st, h2, h3⟩ := st
    obtain ⟨x, r, rfl⟩ := chk_ne hL
    obtain ⟨c1, c2, c3, c4⟩ := pchk_at hL _ _ h3
    have e1 : (st.1 ++ st.2).take n = st.1 := by rw [← c1]; exact List.take_left
    have e2 : (st.1 ++ st.2).drop n = st.2 := by rw [← c1]; exact List.drop_left
    rw [List.length_map, List.length_cons] at h2
    rw [List.getElem?_eq_none (by simp)] at c4
    exact pm_end (n := n) hh h2 h1 hl (by rw [e1, e2]; exact c4) hQ
  · obtain ⟨h1, res, st, h2, h3⟩ := st
    exact pm_iter h2 hQ
  · obtain ⟨h1, res, st, h2, h3⟩ := st
    exact ⟨_, h2, rfl⟩
def cbTn (it pool : Addr) (items : List Value) (L : List (List Nat)) (i : Nat) (h : Heap) : Prop :=
  h.get? pool = some (tuO items) ∧ ∃ res st, h.get? it = some (cbO pool (if i = 0 then 0 else 1) res st) ∧ L[i - 1]? = some st
theorem mk_cb {prog : Program} {w : World} {it pool : Addr} {items : List Value} {n r : Nat} {L : List (List Nat)} (hl : items.length = n) (hn : n ≤ 1000) (hr : r ≤ n) (hne : pool ≠ it) (hL : cchk n r L = true) : Mk prog w "itertools.combinations" it [it, pool] (L.map fun st => selC items st) (cbTn it pool items L) := by
  have sz := sizeLine_eq
  refine ⟨by simp, fun i h st b hb => ?_, fun i h h' st k => ?_, fun A E s i ps Q st hp hQ => ?_, fun A E s Q hh st hQ => ?_, fun A E s i Q st hQ => ?_, fun i h st => ?_, nolen_cb, nohint_cb, by decide, by decide⟩
  · obtain ⟨h1, res, st, h2, _⟩ := st
    have e : b = it ∨ b = pool := by simpa using hb
    rcases e with rfl | rfl
    · exact ⟨_, h2, fun v z => nomatch z⟩
    · exact ⟨_, h1, fun v z => nomatch z⟩
  · obtain ⟨h1, res, st, h2, h3⟩ := st
    exact ⟨k _ (by simp) _ h1, res, st, k _ (by simp) _ h2, h3⟩
  · obtain ⟨h1, res, st, h2, h3⟩ := st
    have hcur : ∃ cur, L[i]? = some cur ∧ selC items cur = ps := by
      rw [List.getElem?_map] at hp
      cases q : L[i]? with
      | none => rw [q] at hp; cases hp
      | some cur => rw [q] at hp; exact ⟨cur, rfl, Option.some.inj hp⟩
    obtain ⟨cur, hc, rfl⟩ := hcur
    obtain ⟨c1, c3, c4⟩ := cchk_at hL _ _ h3
    cases i with
    | zero =>
      rw [show (0 : Nat) - 1 = 0 from rfl] at h3
      rw [hc] at h3
      cases h3
      exact cb_first h2 h1 hne (by omega) fun h' a b c => hQ h' ⟨c _ _ hne h1, _, _, a, hc⟩ b c
    | succ i =>
      rw [show i + 1 - 1 = i from rfl] at h3
      rw [show i + 1 - 1 + 1 = i + 1 from rfl, hc] at c4
      obtain ⟨d1, d3, d4⟩ := cchk_at hL _ _ hc
      exact cb_more h2 h1 hne hl c4 (by omega) fun h' a b c => hQ h' ⟨c _ _ hne h1, _, _, a, hc⟩ b c
  · obtain ⟨h1, res, st, h2, h3⟩ := st
    obtain ⟨c1, c3, c4⟩ := cchk_at hL _ _ h3
    have hpos : 0 < L.length := by
      cases L with
      | nil => cases hL
      | cons _ _ => exact Nat.succ_pos _
    have hne0 : (L.map fun st => selC items st).length ≠ 0 := by rw [List.length_map]; omega
    rw [if_neg hne0] at h2
    rw [List.length_map] at c4
    rw [List.getElem?_eq_none (by omega)] at c4
    exact cb_end (n := n) hh h2 h1 hl c4 hQ
  · obtain ⟨h1, res, st, h2, h3⟩ := st
    exact cb_iter h2 hQ
  · obtain ⟨h1, res, st, h2, h3⟩ := st
    exact ⟨_, h2, rfl⟩
end Dm
end -- DmPerm2
section -- DmPerm3
set_option Elab.async false
set_option linter.all false
set_option maxRecDepth 100000
set_option maxHeartbeats 1000000
namespace Dm
open PySem PySem.Spec PyProof.Rows L2 CpPerm
variable [Tbs]

structure PMk (X : Cx) (inner : Expr) (t : L2.St → Hp → (List (List V) → Hp → Prop) → Prop) : Prop where
  run : ∀ (pins : List (Addr × Obj)) (s : Shared) (σ : L2.St) (H : Hp) (R : List (List V) → Hp → Prop), Inv X pins σ H s → t σ H R → wpAny (model X.prog X.w) X.A (eval inner X.env) (fun v s1 => ∃ (T : String) (it : Addr) (fp : List Addr) (pss : List (List Value)) (tn : Nat → Heap → Prop) (vss : List (List V)) (H' : Hp),
    v = .ref it ∧ Mk X.prog X.w T it fp pss tn ∧ tn 0 s1.heap ∧ Inv X pins σ H' s1 ∧ (∀ b ∈ fp, FpOk X pins H' b) ∧ vss.length = pss.length ∧ (∀ (i : Nat) vs ps, vss[i]? = some vs → pss[i]? = some ps → Vals vs ps ∧ vs.length ≤ sizeLine) ∧ pss.length ≤ sizeLine ∧ R vss H') X.xe s
theorem vals_sel {vs : List V} {its : List Value} (r : Vals vs its) : ∀ (ix : List Nat), (∀ j ∈ ix, j < vs.length) → Vals (ix.map fun i => vs.getD i .non) (ix.map fun i => its.toArray.getD i .none)
  | [], _ => .nil
  | i :: ix, h => by
    have hi := h i List.mem_cons_self
    have hl := r.length
    refine .cons ?_ (vals_sel r ix fun j hj => h j (List.mem_cons_of_mem _ hj))
    obtain ⟨u, hu, ru⟩ := r.get (List.getElem?_eq_getElem hi)
    have e1 : vs.getD i .non = vs[i] := by simp [List.getD, hi]
    have e2 : its.toArray.getD i .none = u := by
      rw [Array.getD_eq_getD_getElem?, List.getElem?_toArray, hu]
      rfl
    show RelV (vs.getD i .non) (its.toArray.getD i .none)
    rw [e1, e2]
    exact ru
section
variable {X : Cx} {pos : Pos}
def tPm (K : PySem.W.Frag) (t : TA) : L2.St → Hp → (List (List V) → Hp → Prop) → Prop := fun σ H R => t σ H fun us H1 => ∃ (a : Addr) (vs : List V) (n : Nat) (L : List (List Nat × List Nat)), us = [.ref a] ∧ SqL K H1 a vs ∧ vs.length = n ∧ n ≤ 1000 ∧ pchk n L = true ∧ L[0]? = some (List.range n, (List.range n).map fun i => n - i) ∧ L.length ≤ sizeLine ∧ R (L.map fun st => (st.1.take n).map fun i => vs.getD i .non) H1
theorem pmk_perm {x : Expr} {p : Pos} {t : TA} (hm : X.mg "permutations" = some (.type "itertools.permutations")) (ha : PA X [x] t) (hg : Gl X "permutations" := by rfl) (hs : starEach [x] X.env = [(false, eval x X.env)] := by rfl) : PMk X (.Call (.Name "permutations" p) [x] [] pos) (tPm X.K t) := by
  refine ⟨fun pins s σ H R I h => ?_⟩
  refine Call_ (ld_glob I hg hm (PyProof.Rows.callWith_type1 (thn (ha.run pos pins s σ H _ I h) fun us s1 ⟨vs, H1, I1, r1, q1⟩ => ?_) hs rfl))
  obtain ⟨a, ws, n, L, e, hq, hl, hn, hL, h0, hz, q⟩ := q1
  subst e
  obtain ⟨u, rfl, ru⟩ := r1.one
  cases ru
  obtain ⟨its, rv, pl, hz2⟩ := I1.list hq
  have hlen := rv.length
  obtain ⟨o, ho, hc, c, hd⟩ := pl.isList
  have hil : its.length = n := by rw [← hlen, hl]
  refine call_pm ho hc hd (by omega) fun h' it pool k h1 h2 h3 h4 => ?_
  have I2 := I1.kept (t' := s1.toks) k
  have hfp : ∀ b ∈ [it, pool], FpOk X pins H1 b := fun b hb => by
    have e : b = it ∨ b = pool := by simpa using hb
    have hle : s1.heap.objs.size ≤ b := by
      rcases e with z | z
      · rw [z]; exact Nat.le_trans h1 (Nat.le_of_lt h2)
      · rw [z]; exact h1
    exact I1.fpOk hle (I1.hok.fresh hle)
  rw [hil] at h4
  refine ⟨_, it, _, _, _, _, H1, rfl, mk_pm (items := its) (L := L) hil hn (Nat.ne_of_lt h2) hL, ⟨h3, .none, (List.range n, (List.range n).map fun i => n - i), h4, h0⟩, I2, hfp, by rw [List.length_map, List.length_map], fun i vs ps e1 e2 => ?_, by rw [List.length_map]; exact hz, q⟩
  rw [List.getElem?_map] at e1 e2
  cases hc : L[i]? with
  | none => rw [hc] at e1; cases e1
  | some st =>
    rw [hc] at e1 e2
    cases e1
    cases e2
    obtain ⟨c1, c2, c3, c4⟩ := pchk_at hL _ _ hc
    refine ⟨vals_sel rv _ fun j hj => ?_, ?_⟩
    · rw [hl]; exact c3 j (List.mem_of_mem_take hj)
    · rw [List.length_map, List.length_take, sizeLine_eq]; omega
def tCb (K : PySem.W.Frag) (t : TA) : L2.St → Hp → (List (List V) → Hp → Prop) → Prop := fun σ H R => t σ H fun us H1 => ∃ (a : Addr) (vs : List V) (n r : Nat) (L : List (List Nat)), us = [.ref a, .int (r : Int)] ∧ SqL K H1 a vs ∧ vs.length = n ∧ n ≤ 1000 ∧ r ≤ n ∧ cchk n r L = true ∧ L[0]? = some (List.range r) ∧ L.length ≤ sizeLine ∧ R (L.map fun st => st.map fun i => vs.getD i .non) H1
theorem pmk_comb {x y : Expr} {p : Pos} {t : TA} (hm : X.mg "combinations" = some (.type "itertools.combinations")) (ha : PA X [x, y] t) (hg : Gl X "combinations" := by rfl) (hs : starEach [x, y] X.env = (false, eval x X.env) :: starEach [y] X.env := by rfl) (hp : (backTo pos (starEach [y] X.env)).any (·.1) = false := by rfl) : PMk X (.Call (.Name "combinations" p) [x, y] [] pos) (tCb X.K t) := by
  refine ⟨fun pins s σ H R I h => ?_⟩
  refine Call_ (ld_glob I hg hm (PyProof.Rows.callWith_type1 (thn (ha.run pos pins s σ H _ I h) fun us s1 ⟨vs, H1, I1, r1, q1⟩ => ?_) hs hp))
  obtain ⟨a, ws, n, r, L, e, hq, hl, hn, hr, hL, h0, hz, q⟩ := q1
  subst e
  cases r1 with
  | cons ru rr =>
    cases rr with
    | cons rw' rr =>
      cases rr
      cases ru
      obtain ⟨tk, rfl⟩ := rw'
      obtain ⟨its, rv, pl, hz2⟩ := I1.list hq
      have hlen := rv.length
      obtain ⟨o, ho, hc, c, hd⟩ := pl.isList
      have hil : its.length = n := by rw [← hlen, hl]
      refine call_cb ho hc hd (by omega) (by omega) fun h' it pool k h1 h2 h3 h4 => ?_
      have I2 := I1.kept (t' := s1.toks) k
      have hfp : ∀ b ∈ [it, pool], FpOk X pins H1 b := fun b hb => by
        have e : b = it ∨ b = pool := by simpa using hb
        have hle : s1.heap.objs.size ≤ b := by
          rcases e with z | z
          · rw [z]; exact Nat.le_trans h1 (Nat.le_of_lt h2)
          · rw [z]; exact h1
        exact I1.fpOk hle (I1.hok.fresh hle)
      refine ⟨_, it, _, _, _, _, H1, rfl, mk_cb (items := its) (L := L) hil hn hr (Nat.ne_of_lt h2) hL, ⟨h3, .none, List.range r, h4, h0⟩, I2, hfp, by rw [List.length_map, List.length_map], fun i vs ps e1 e2 => ?_, by rw [List.length_map]; exact hz, q⟩
      rw [List.getElem?_map] at e1 e2
      cases hc : L[i]? with
      | none => rw [hc] at e1; cases e1
      | some st =>
        rw [hc] at e1 e2
        cases e1
        cases e2
        obtain ⟨c1, c3, c4⟩ := cchk_at hL _ _ hc
        refine ⟨vals_sel rv _ fun j hj => ?_, ?_⟩
        · rw [hl]; exact c3 j hj
        · rw [List.length_map, sizeLine_eq]; omega
/-- list(such an iterator) -/
theorem pe_listMk {inner : Expr} {p : Pos} {t : L2.St → Hp → (List (List V) → Hp → Prop) → Prop} (hc : X.calm = true) (hi : PMk X inner t) (hm : X.mg "list" = none) (hg : Gl X "list" := by rfl) (hs : starEach [inner] X.env = [(false, eval inner X.env)] := by rfl) :
    PE X (.Call (.Name "list" p) [inner] [] pos) (fun σ H Q => t σ H fun vss H1 => ∀ q, H1 q = none → LP q (fun H' => Q (.ref q) H') vss [] (upd H1 q (.lst []))) := by
  refine ⟨fun pins s σ H Q I h => ?_⟩
  refine Call_ (ld_blt I hg hm boot_list (PyProof.Rows.callWith_type1 ?_ hs rfl))
  rw [hs]
  show wpAny _ _ (spliced [(false, eval inner X.env)]) _ _ s
  refine Calls.spliced_cons (thn (hi.run pins s σ H _ I h) fun v s1 ⟨T, it, fp, pss, tn, vss, H1, e, M, st, I1, hf, hl, hv, hz, q⟩ => ?_)
  subst e
  refine Calls.spliced_nil ?_
  exact M.list hl hv hc hz I1 hf st fun q' hq _ => q q' hq
end
end Dm
end -- DmPerm3
section -- DmPerm4
set_option Elab.async false
set_option linter.all false
set_option maxRecDepth 100000
set_option maxHeartbeats 1000000
namespace Dm
open PySem PySem.Spec PyProof.Rows L2 CpPerm
variable [Tbs]
section
variable {K : PySem.W.Frag} {Γ : Gam} {H1 G1 : Hp} {q : Addr}
theorem LP_ok {Q : Hp → Prop} (hq1 : H1 q = none) (hgq1 : G1 q = none) : ∀ (vss : List (List V)) (dss : List (List D)) (acc : List V) (dacc : List D) (G H : Hp), (∀ p ∈ vss.zip dss, RpL K Γ G1 p.1 p.2) → vss.length = dss.length → Fr H1 G1 G H → G q = none → H q = some (.lst acc) → RpL K Γ G acc dacc →
    (∀ G' H' acc', Fr H1 G1 G' H' → G' q = none → H' q = some (.lst acc') → RpL K Γ G' acc' (dacc ++ dss.map .tup) → Q H') → LP q Q vss acc H
  | [], [], acc, dacc, G, H, _, _, f, gq, hq, r, hQ => hQ G H acc f gq hq (by rw [List.map_nil, List.append_nil]; exact r)
  | [], _ :: _, _, _, _, _, _, hl, _, _, _, _, _ => by cases hl
  | _ :: _, [], _, _, _, _, _, hl, _, _, _, _, _ => by cases hl
  | vs :: vss, ds :: dss, acc, dacc, G, H, hr, hl, f, gq, hq, r, hQ => by
    intro T o hT hTq hd
    have hr1 : RpL K Γ G1 vs ds := hr (vs, ds) List.mem_cons_self
    have f1 : Fr H G (upd G T (.frz o (.tup vs))) (upd H T (.frz o (.tup vs))) := Fr.new f.gh hT
    have f2 := f.step f1
    have gT : G T = none := f.gh.back hT
    have gq2 : upd G T (.frz o (.tup vs)) q = none := by rw [upd_ne (Ne.symm hTq)]; exact gq
    have hq2 : upd H T (.frz o (.tup vs)) q = some (.lst acc) := by rw [upd_ne (Ne.symm hTq)]; exact hq
    have hnc := no_codeN hq2 (nt_of rfl)
    have f3 : Fr H1 G1 (upd G T (.frz o (.tup vs))) (upd (upd H T (.frz o (.tup vs))) q (.lst (acc ++ [.ref T]))) := ⟨f2.gh.mut gq2 hnc, f2.hh.mut hq1 hnc, f2.gg, f2.fr⟩
    refine LP_ok hq1 hgq1 vss dss _ (dacc ++ [.tup ds]) _ _ (fun p hp => hr p (List.mem_cons_of_mem _ hp)) (by simpa using hl) f3 gq2 upd_same ?_ fun G' H' acc' f4 g4 h4 r4 => ?_
    · refine (r.mono (Ex.new gT)).append (.cons (.tup (TupQ.of hd) ?_) .nil)
      exact hr1.mono f2.gg
    · refine hQ G' H' acc' f4 g4 h4 ?_
      rw [List.map_cons]
      rw [List.append_assoc] at r4
      exact r4
end
/-- list(permutations(x)) -/
def lstOf : D → Option (List D)
  | .lst ds => some ds
  | .frl ds => some ds
  | _ => none
def permRun (n : Nat) : List (List Nat × List Nat) := prun n 5040 (List.range n, (List.range n).map fun i => n - i)
def selD (ds : List D) (ix : List Nat) : List D := ix.map fun i => ds.getD i .non
def permsD (ds : List D) : List (List D) := (permRun ds.length).map fun st => selD ds (st.1.take ds.length)
def mListPerm (m : MA) : MD := fun ss k kx => m ss (fun ds s => match ds with
  | [d] => lift (lstOf d) fun xs => guard (Nat.ble xs.length 1000 && (pchk xs.length (permRun xs.length) && Nat.ble (permRun xs.length).length mline)) (k (.lst ((permsD xs).map .tup)) s)
  | _ => False) kx
def combRun (n r : Nat) : List (List Nat) := crun n 5040 (List.range r)
def combsD (ds : List D) (r : Nat) : List (List D) := (combRun ds.length r).map fun st => selD ds st
def mListComb (m : MA) : MD := fun ss k kx => m ss (fun ds s => match ds with
  | [d, .int (.ofNat r)] => lift (lstOf d) fun xs => guard (Nat.ble xs.length 1000 && (Nat.ble r xs.length && (cchk xs.length r (combRun xs.length r) && Nat.ble (combRun xs.length r).length mline))) (k (.lst ((combsD xs r).map .tup)) s)
  | _ => False) kx
theorem prun_head (n f : Nat) (st : List Nat × List Nat) : (prun n f st)[0]? = some st := by
  cases f with
  | zero => rfl
  | succ f => rfl
theorem crun_head (n f : Nat) (st : List Nat) : (crun n f st)[0]? = some st := by
  cases f with
  | zero => rfl
  | succ f => rfl
section
variable {K : PySem.W.Frag} {Γ : Gam} {G : Hp}
theorem RpL.sel {vs : List V} {ds : List D} (r : RpL K Γ G vs ds) : ∀ ix : List Nat, RpL K Γ G (ix.map fun i => vs.getD i .non) (selD ds ix)
  | [] => .nil
  | i :: ix => by
    refine .cons ?_ (RpL.sel r ix)
    by_cases hi : i < vs.length
    · have hi2 : i < ds.length := by rw [← r.length]; exact hi
      have e1 : vs.getD i .non = vs[i] := by simp [List.getD, hi]
      have e2 : ds.getD i .non = ds[i] := by simp [List.getD, hi2]
      obtain ⟨v, hv, rv⟩ := r.get (List.getElem?_eq_getElem hi2)
      rw [List.getElem?_eq_getElem hi] at hv
      cases hv
      show Rp K Γ G (vs.getD i .non) (ds.getD i .non)
      rw [e1, e2]
      exact rv
    · have hi2 : ¬ i < ds.length := by rw [← r.length]; exact hi
      have e1 : vs.getD i .non = .non := by simp [List.getD, hi]
      have e2 : ds.getD i .non = .non := by simp [List.getD, hi2]
      show Rp K Γ G (vs.getD i .non) (ds.getD i .non)
      rw [e1, e2]
      exact .non
theorem lst_at : ∀ {v : V} {d : D} {ds : List D}, Rp K Γ G v d → lstOf d = some ds → ∃ a vs, v = .ref a ∧ SqL K G a vs ∧ RpL K Γ G vs ds
  | _, _, _, .lst (a := a) (xs := xs) hh hr, e => by cases e; exact ⟨a, xs, rfl, SqL.of hh, hr⟩
  | _, _, _, .frl (a := a) (xs := xs) hh hr, e => by cases e; exact ⟨a, xs, rfl, hh, hr⟩
  | _, _, _, .tup _ _, e => by cases e
  | _, _, _, .non, e => by cases e
  | _, _, _, .bl _, e => by cases e
  | _, _, _, .int _, e => by cases e
  | _, _, _, .str _, e => by cases e
  | _, _, _, .ins _ _, e => by cases e
  | _, _, _, .fn _, e => by cases e
  | _, _, _, .ty _, e => by cases e
  | _, _, _, .cl _, e => by cases e
  | _, _, _, .opq _, e => by cases e
  | _, _, _, .exc _, e => by cases e
  | _, _, _, .dk _ _, e => by cases e
  | _, _, _, .tpl _ _, e => by cases e
end
section
variable {X : Cx} {Γ : Gam} {W : WX} {pos : Pos}
/-- a list that is filled, taken as data -/
theorem LP_rd {Q : VK} {H0 G0 G1 H1 : Hp} {σ : L2.St} {s : List SV} {vss : List (List V)} {dss : List (List D)} (st1 : StR X.prog X.w X.K Γ H0 G0 G1 H1 σ s) (hl : vss.length = dss.length) (hr : ∀ p ∈ vss.zip dss, RpL X.K Γ G1 p.1 p.2)
    (hk : ∀ v G' H', Fr H1 G1 G' H' → Rp X.K Γ G' v (.lst (dss.map .tup)) → Q v H') : ∀ q, H1 q = none → LP q (fun H' => Q (.ref q) H') vss [] (upd H1 q (.lst [])) := fun q hq => by
  have gq : G1 q = none := st1.gh.back hq
  refine LP_ok (K := X.K) (Γ := Γ) (Q := fun H' => Q (.ref q) H') hq gq vss dss [] [] G1 _ hr hl (Fr.newH st1.gh hq) gq upd_same .nil fun G' H' acc' f g h r => ?_
  refine hk _ (upd G' q (.lst acc')) H' ⟨f.gh.updH h (nt_of rfl), f.hh, f.gg.trans (Ex.new g), fun a o e => ?_⟩ (.lst upd_same (r.mono (Ex.new g)))
  by_cases z : a = q
  · subst z; exact .inr (.inl hq)
  · rw [upd_ne z] at e; exact f.fr a o e
theorem d_listPerm (c : Cz X W) {x : Expr} {p p2 pos2 : Pos} {m : MA} (hml : X.mg "list" = none) (hm : X.mg "permutations" = some (.type "itertools.permutations")) (ha : PA X [x] (ra X Γ W m)) (hg : Gl X "permutations" := by rfl) (hgl : Gl X "list" := by rfl) (hs : starEach [x] X.env = [(false, eval x X.env)] := by rfl)
    (hs2 : starEach [Expr.Call (.Name "permutations" p2) [x] [] pos2] X.env = [(false, eval (Expr.Call (.Name "permutations" p2) [x] [] pos2) X.env)] := by rfl) : PE X (.Call (.Name "list" p) [.Call (.Name "permutations" p2) [x] [] pos2] [] pos) (rd X Γ W (mListPerm m)) :=
  pe_weak (pe_listMk c.calm (pmk_perm hm ha hg hs) hml hgl hs2) fun σ H Q h => by
    obtain ⟨H0, G0, G, ss, k, kx, st, hx, hm, hk⟩ := h
    refine ⟨H0, G0, G, ss, _, kx, st, hx, hm, fun ds s vs G1 H1 q e st1 r1 => ?_⟩
    split at q
    · rename_i d
      obtain ⟨xs, hd, q⟩ := lift_some q
      obtain ⟨hb, q⟩ := guard_ok q
      simp only [Bool.and_eq_true] at hb
      obtain ⟨b1, b2, b3⟩ := hb
      cases r1 with
      | cons r rr =>
        cases rr
        obtain ⟨a, ws, rfl, hsq, hr⟩ := lst_at r hd
        refine ⟨a, ws, xs.length, permRun xs.length, rfl, ex_l st1.gh hsq, hr.length, Nat.le_of_ble_eq_true b1, b2, prun_head _ _ _, ble_line b3, ?_⟩
        refine LP_rd st1 (dss := permsD xs) (by simp [permsD]) (fun p hp => ?_) fun v G' H' f r => hk _ s v G' H' q (e.trans f.gg) (st1.le f) r
        unfold permsD at hp
        rw [List.zip_map'] at hp
        obtain ⟨y, hy, rfl⟩ := List.mem_map.mp hp
        exact hr.sel _
    · exact q.elim
theorem d_listComb (c : Cz X W) {x y : Expr} {p p2 pos2 : Pos} {m : MA} (hml : X.mg "list" = none) (hm : X.mg "combinations" = some (.type "itertools.combinations")) (ha : PA X [x, y] (ra X Γ W m)) (hg : Gl X "combinations" := by rfl) (hgl : Gl X "list" := by rfl) (hs : starEach [x, y] X.env = (false, eval x X.env) :: starEach [y] X.env := by rfl)
    (hp : (backTo pos2 (starEach [y] X.env)).any (·.1) = false := by rfl) (hs2 : starEach [Expr.Call (.Name "combinations" p2) [x, y] [] pos2] X.env = [(false, eval (Expr.Call (.Name "combinations" p2) [x, y] [] pos2) X.env)] := by rfl) : PE X (.Call (.Name "list" p) [.Call (.Name "combinations" p2) [x, y] [] pos2] [] pos) (rd X Γ W (mListComb m)) :=
  pe_weak (pe_listMk c.calm (pmk_comb hm ha hg hs hp) hml hgl hs2) fun σ H Q h => by
    obtain ⟨H0, G0, G, ss, k, kx, st, hx, hm, hk⟩ := h
    refine ⟨H0, G0, G, ss, _, kx, st, hx, hm, fun ds s vs G1 H1 q e st1 r1 => ?_⟩
    split at q
    · rename_i d n
      obtain ⟨xs, hd, q⟩ := lift_some q
      obtain ⟨hb, q⟩ := guard_ok q
      simp only [Bool.and_eq_true] at hb
      obtain ⟨b1, b0, b2, b3⟩ := hb
      cases r1 with
      | cons r rr =>
        cases rr with
        | cons r' rr =>
          cases rr
          cases r'
          obtain ⟨a, ws, rfl, hsq, hr⟩ := lst_at r hd
          refine ⟨a, ws, xs.length, n, combRun xs.length n, rfl, ex_l st1.gh hsq, hr.length, Nat.le_of_ble_eq_true b1, Nat.le_of_ble_eq_true b0, b2, crun_head _ _ _, ble_line b3, ?_⟩
          refine LP_rd st1 (dss := combsD xs n) (by simp [combsD]) (fun p hp => ?_) fun v G' H' f r => hk _ s v G' H' q (e.trans f.gg) (st1.le f) r
          unfold combsD at hp
          rw [List.zip_map'] at hp
          obtain ⟨y, hy, rfl⟩ := List.mem_map.mp hp
          exact hr.sel _
    · exact q.elim
end
end Dm
end -- DmPerm4
section -- DmGlob
set_option Elab.async false
set_option linter.all false
set_option maxRecDepth 100000
set_option maxHeartbeats 1000000
/-! The module's constants as data. -/
namespace Dm
open PySem PySem.Spec PyProof.Rows L2
variable [Tbs]

/-- the value u of the module stands for the data d -/
def constB (K : PySem.W.Frag) : Nat → Value → D → Bool
  | 0, _, _ => false
  | f + 1, u, d => match u, d with
    | .none, .non => true
    | .bool b, .bl c => b == c
    | .int i _, .int j => decide (i = j)
    | .str x _, .str y => decide (x = y)
    | .type n, .ty m => decide (n = m)
    | .ref a, .tup ds => (match K.lookup a with
      | some ⟨.type c, none, .seq its _, _⟩ => decide (c = "tuple") && (Nat.ble its.size mline && (Nat.beq its.toList.length ds.length && (its.toList.zip ds).all fun p => constB K f p.1 p.2))
      | _ => false)
    | _, _ => false
theorem constB_ok {K : PySem.W.Frag} {Γ : Gam} : ∀ (f : Nat) (u : Value) (d : D), constB K f u d = true → ∃ v, RelV v u ∧ ∀ G, Rp K Γ G v d := by
  intro f
  induction f with
  | zero =>
    intro u d h
    cases h
  | succ f ih =>
    have list : ∀ (us : List Value) (ds : List D), us.length = ds.length → (us.zip ds).all (fun p => constB K f p.1 p.2) = true → ∃ vs, Vals vs us ∧ ∀ G, RpL K Γ G vs ds := by
      intro us
      induction us with
      | nil =>
        intro ds hl _
        cases ds with
        | nil => exact ⟨[], .nil, fun G => .nil⟩
        | cons _ _ => cases hl
      | cons u us ihl =>
        intro ds hl h
        cases ds with
        | nil => cases hl
        | cons d ds =>
          rw [List.zip_cons_cons, List.all_cons, Bool.and_eq_true] at h
          obtain ⟨v, r1, r2⟩ := ih u d h.1
          obtain ⟨vs, r3, r4⟩ := ihl ds (by simpa using hl) h.2
          exact ⟨v :: vs, .cons r1 r3, fun G => .cons (r2 G) (r4 G)⟩
    intro u d h
    unfold constB at h
    split at h
    · exact ⟨.non, rfl, fun G => .non⟩
    · rename_i b c
      have e : b = c := by simpa using h
      subst e
      exact ⟨.bl b, rfl, fun G => .bl b⟩
    · rename_i i t j
      have e := of_decide_eq_true h
      subst e
      exact ⟨.int i, ⟨t, rfl⟩, fun G => .int i⟩
    · rename_i x t y
      have e := of_decide_eq_true h
      subst e
      exact ⟨.str x, ⟨t, rfl⟩, fun G => .str x⟩
    · rename_i n m
      have e := of_decide_eq_true h
      subst e
      exact ⟨.ty n, rfl, fun G => .ty n⟩
    · rename_i a ds
      split at h
      · rename_i c its n sl e
        simp only [Bool.and_eq_true] at h
        obtain ⟨h1, h2, h3, h4⟩ := h
        have e1 := of_decide_eq_true h1
        subst e1
        obtain ⟨vs, r1, r2⟩ := list its.toList ds (Nat.eq_of_beq_eq_true h3) h4
        exact ⟨.ref a, rfl, fun G => .tup (.inr ⟨_, its, n, e, rfl, rfl, rfl, ble_line h2, r1⟩) (r2 G)⟩
      · cases h
    · cases h
section
variable {X : Cx} {Γ : Gam} {W : WX} {pos : Pos}
/-- a constant of the module -/
theorem d_const {x : Str} {u : Value} {d : D} (hm : X.mg x = some u) (h : ∃ v, RelV v u ∧ ∀ G, Rp X.K Γ G v d) (hg : Gl X x := by rfl) (hdb : (x == ("__debug__" : Str)) = false := by decide) : PE X (.Name x pos) (rd X Γ W (mC d)) := by
  obtain ⟨v, r, rp⟩ := h
  exact pe_weak (pe_glob hg hm r hdb) fun σ H Q h => by
    obtain ⟨H0, G0, G, ss, k, kx, st, hx, hm, hk⟩ := h
    exact hk d ss v G H hm (Ex.refl _) st (rp G)
/-- a built-in type as a value -/
theorem d_bty {x : Str} {n : String} (hm : X.mg x = none) (hv : bootBuiltins x = some (.type n)) (hg : Gl X x := by rfl) (hn : x ≠ "__name__" := by decide) (hdb : (x == ("__debug__" : Str)) = false := by decide) : PE X (.Name x pos) (rd X Γ W (mC (.ty n))) := by
  have hp : PE X (.Name x pos) (tC (.ty n)) := ⟨fun pins s σ H Q I h => ld_blt I hg hm hv ⟨.ty n, H, I, rfl, h⟩ hn hdb⟩
  exact pe_weak hp fun σ H Q h => by
    obtain ⟨H0, G0, G, ss, k, kx, st, hx, hm, hk⟩ := h
    exact hk _ ss _ G H hm (Ex.refl _) st (.ty n)
/-- a table of the module: T[x], text keys -/
def mFact (fs : List (Str × D)) (m : MD) : MD := fun ss k kx => m ss (fun d s => match d with
  | .str x => lift (fs.lookup x) fun y => k y s
  | _ => False) kx
theorem d_fact {t : Str} {p : Pos} {b : Expr} {a : Addr} {fs : List (Str × D)} {m : MD} (hm : X.mg t = some (.ref a)) (hf : ∀ x d, fs.lookup x = some d → ∃ v, KDct X.K X.w a x v ∧ ∀ G, Rp X.K Γ G v d) (hb : PE X b (rd X Γ W m)) (hp : PlainIx b) (hg : Gl X t := by rfl) (hdb : (t == ("__debug__" : Str)) = false := by decide) :
    PE X (.Subscript (.Name t p) b pos) (rd X Γ W (mFact fs m)) := pe_weak (pe_ix ix_kdict (pe_glob hg hm (v := .ref a) rfl hdb) hb hp) fun σ H Q h => by
  obtain ⟨H0, G0, G, ss, k, kx, st, hx, hm, hk⟩ := h
  refine ⟨H0, G0, G, ss, _, kx, st, hx, hm, fun d s v G1 H1 q e st1 r1 => ?_⟩
  split at q
  · rename_i x
    cases r1
    obtain ⟨y, hy, q⟩ := lift_some q
    obtain ⟨v, kd, rp⟩ := hf x y hy
    exact ⟨a, x, v, rfl, rfl, kd, hk y s v G1 H1 q e st1 (rp G1)⟩
  · exact q.elim
/-- the table's facts, from the head -/
def factsB (K : PySem.W.Frag) (a : Addr) (fs : List (Str × D)) : Bool := fs.all fun q => match PySem.W.nsIn K a q.1 with
  | some (some u) => constB K 8 u q.2
  | _ => false
theorem facts_ok {K : PySem.W.Frag} {w : World} {a : Addr} {es : Array DictEntry} {n : Nat} {fs : List (Str × D)} (hd : K.lookup a = some ⟨.type "dict", none, .dict es n, #[]⟩) (hk : PySem.W.KeysLit w.params es.toList) (h : factsB K a fs = true) :
    ∀ x d, fs.lookup x = some d → ∃ v, KDct K w a x v ∧ ∀ G, Rp K Γ G v d := fun x d hl => by
  have hmem : (x, d) ∈ fs := by
    clear h
    induction fs with
    | nil => cases hl
    | cons q r ih =>
      obtain ⟨y, e⟩ := q
      rw [List.lookup_cons] at hl
      cases z : (x == y) with
      | true =>
        rw [z] at hl
        have e1 := eq_of_beq z
        cases hl
        subst e1
        exact List.mem_cons_self
      | false =>
        rw [z] at hl
        exact List.mem_cons_of_mem _ (ih hl)
  have h1 := List.all_eq_true.mp h _ hmem
  dsimp only at h1
  split at h1
  · rename_i u e
    obtain ⟨v, r, rp⟩ := constB_ok (Γ := Γ) _ _ _ h1
    exact ⟨v, ⟨es, n, u, hd, hk, e, r⟩, rp⟩
  · cases h1
end
end Dm
end -- DmGlob
section -- DmRepr
set_option Elab.async false
set_option linter.all false
set_option maxRecDepth 100000
set_option maxHeartbeats 1000000
/-! repr of data, where no repr is under way. -/
namespace Dm
open PySem PySem.Spec PyProof.Rows L2
variable [Tbs]
def rRepr (K : PySem.W.Frag) : List V → Hp → VK → Prop := fun xs H Q => ∃ (a : Addr) (p : PyData), xs = [.ref a] ∧ Dp K H (.ref a) p ∧ p.showable = true ∧ p.hasDict = false ∧ p.depth ≤ 40 ∧ p.shown.length ≤ sizeLine ∧ Q (.str p.shown) H
theorem call_repr {X : Cx} {n : Nat} (hG : X.A.guards = some []) (hr : Room n X.A) : CallR X (.builtin "repr") (rRepr X.K) := by
  intro pins s σ H xs us Q I rv h
  obtain ⟨a, p, rfl, hd, h1, h2, h3, h4, q⟩ := h
  obtain ⟨u, rfl, ru⟩ := rv.one
  cases ru
  obtain ⟨as, r⟩ := Dp.reads I p _ _ hd rfl
  have hu := hr.units
  exact repr_of_reads' r h1 (fun z => by rw [h2] at z; cases z) hG (by omega) (fun b o e => e) (fun h' u tk k => ⟨.str p.shown, H, I.kept (t' := tk) k, ⟨u, rfl⟩, q⟩) h4
section
variable {X : Cx} {Γ : Gam} {W : WX} {pos : Pos}
/-- may be shown: no dict in it, not deep, not long -/
def showB (p : PyData) : Bool := p.showable && (!p.hasDict && (Nat.ble p.depth 40 && Nat.ble p.shown.length mline))
def reprD (ds : List D) : Option D := match ds with
  | [d] => (match d, toPy d with
    | .lst _, some p => (match showB p with
      | true => some (.str p.shown)
      | false => none)
    | .tup _, some p => (match showB p with
      | true => some (.str p.shown)
      | false => none)
    | _, _ => none)
  | _ => none
theorem showB_ok {p : PyData} (h : showB p = true) : p.showable = true ∧ p.hasDict = false ∧ p.depth ≤ 40 ∧ p.shown.length ≤ sizeLine := by
  unfold showB at h
  simp only [Bool.and_eq_true] at h
  obtain ⟨h1, h2, h3, h4⟩ := h
  exact ⟨h1, by simpa using h2, Nat.le_of_ble_eq_true h3, ble_line h4⟩
theorem prim_repr : PrimC X.K Γ (rRepr X.K) reprD := by
  intro G H vs ds d Q e r hF hQ
  have one : ∀ {v : V} {x : D} {p : PyData}, vs = [v] → Rp X.K Γ G v x → (∃ a, v = .ref a) → toPy x = some p → showB p = true → d = .str p.shown → rRepr X.K vs H Q := fun {v x p} ev rx ⟨a, ea⟩ ep hb ed => by
    subst ev ea ed
    obtain ⟨h1, h2, h3, h4⟩ := showB_ok hb
    exact ⟨a, p, rfl, dp_mono e (rx.dp ep), h1, h2, h3, h4, hQ _ G H (Fr.refl e) (.str _)⟩
  unfold reprD at hF
  split at hF
  · rename_i x
    cases r with
    | cons rx rr =>
      cases rr
      split at hF
      · rename_i xs p ep
        split at hF
        · rename_i hb
          cases hF
          cases rx with
          | lst h1 h2 => exact one rfl (.lst h1 h2) ⟨_, rfl⟩ ep hb rfl
        · cases hF
      · rename_i xs p ep
        split at hF
        · rename_i hb
          cases hF
          cases rx with
          | tup h1 h2 => exact one rfl (.tup h1 h2) ⟨_, rfl⟩ ep hb rfl
        · cases hF
      · cases hF
  · cases hF
end
end Dm
end -- DmRepr
section -- DmEnd
set_option Elab.async false
set_option linter.all false
set_option maxRecDepth 100000
set_option maxHeartbeats 2000000
/-! The end of the law's row: the law is called where no repr is under way. -/
namespace Dm
open PySem PySem.Spec PyProof.Rows L2

/-- a def's promise, where no repr is under way -/
def FnG (P : Program) (w : World) (K : PySem.W.Frag) (mg : Str → Option Value) (base : Heap) (CX : CXT) (k : Nat) (f : Addr) (fd : FuncData) (ps : List Str) (sp : Sp) : Prop :=
  ∀ (A : Around) (s : Shared) (H : Hp) (args : Args) (us : List Value) (vs : List V) (Q : VK) (E : XK), A.guards = some [] → Room k A → Env0 P w K mg base A [] s H → BindsTo s fd args (ps.zip us) → Vals vs us → sp vs H Q E → codeAny (model P w) A (.call (.ref f) args) (CR CX [] P w H s Q E) s

section
variable {K : PySem.W.Frag} {h : Heap} {T : List Addr} {a : Addr} {vs : List Value} {xs : List V}
/-- what is tracked at the start: the tables, the script where K does not bear it -/
def startH (K : PySem.W.Frag) (T : List Addr) (a : Addr) (vs : List Value) (xs : List V) : Hp := fun b => if b ∈ T then some (.tbl #[]) else if b = a then (match K.lookup a with | none => some (.frz { cls := .type "list", data := .seq vs.toArray } (.lst xs)) | some _ => none) else none
theorem startH_t {b : Addr} (hb : b ∈ T) : startH K T a vs xs b = some (.tbl #[]) := if_pos hb
theorem startH_n {b : Addr} (h1 : b ∉ T) (h2 : b ≠ a) : startH K T a vs xs b = none := (if_neg h1).trans (if_neg h2)
theorem startH_a (hT : a ∉ T) (hk : K.lookup a = none) : startH K T a vs xs a = some (.frz { cls := .type "list", data := .seq vs.toArray } (.lst xs)) := by
  unfold startH
  rw [if_neg hT, if_pos rfl, hk]
theorem startH_k {o : Obj} (hT : a ∉ T) (hk : K.lookup a = some o) : startH K T a vs xs a = none := by
  unfold startH
  rw [if_neg hT, if_pos rfl, hk]
/-- three cases -/
theorem startH_cases (b : Addr) : (b ∈ T ∧ startH K T a vs xs b = some (.tbl #[])) ∨ (b ∉ T ∧ b = a ∧ K.lookup a = none ∧ startH K T a vs xs b = some (.frz { cls := .type "list", data := .seq vs.toArray } (.lst xs))) ∨ startH K T a vs xs b = none := by
  by_cases h1 : b ∈ T
  · exact .inl ⟨h1, startH_t h1⟩
  · by_cases h2 : b = a
    · subst h2
      cases hk : K.lookup b with
      | none => exact .inr (.inl ⟨h1, rfl, rfl, startH_a h1 hk⟩)
      | some o => exact .inr (.inr (startH_k h1 hk))
    · exact .inr (.inr (startH_n h1 h2))
end
theorem law_callG {P : Program} {w : World} {K : PySem.W.Frag} {mg mb : Str → Option Value} {CX : CXT} {k : Nat} {fa a : Addr} {cs : List (Addr × Addr)} {fd : FuncData} {x : Str} {sp : Sp} {s₁ : Shared} {vs : List Value} {ns : List Int}
    (KX : K.In s₁.heap) (hns : s₁.heap.Ns mainGlobals mg) (hb : s₁.heap.Ns builtinsNs mb) (hbb : ∀ x : Str, x ≠ "__name__" → mb x = bootBuiltins x) (hlim : s₁.heap.NoLimit) (hg : s₁.gens = #[])
    (hT : ∀ p ∈ cs, s₁.heap.get? p.2 = some { cls := .none, data := .fields #[] }) (nT : ∀ p ∈ cs, K.lookup p.2 = none) (C : ∀ p ∈ cs, PySem.W.CodeHd s₁.heap p.1 p.2)
    (hbm : ∃ (bm : Addr) (ob : Obj), mg "__builtins__" = some (.ref bm) ∧ bm ≠ builtinsNs ∧ s₁.heap.get? bm = some ob ∧ ob.cls = .type "module" ∧ ob.dict = some builtinsNs ∧ ob.data = .plain)
    (ha : s₁.heap.get? a = some { cls := .type "list", data := .seq vs.toArray }) (hi : IntsAre vs ns) (hl : ns.length ≤ sizeLine) (hr : Room k callerA)
    (F : ∀ base : Heap, K.In base → base.Ns mainGlobals mg → (∀ p ∈ cs, LamX.TabB base mg p.1 p.2) → FnG P w K mg base CX k fa fd [x] sp) (hbind : ∀ (s : Shared) (u : Value), BindsTo s fd ⟨[u], []⟩ [(x, u)])
    (hsp : ∀ H : Hp, (∀ p ∈ cs, H p.2 = some (.tbl #[])) → SqL K H a (ns.map V.int) → sp [.ref a] H (fun v _ => v = .bl true) fun _ _ _ => False)
    (hCX : ∀ H e s', CX [] H s₁ (fun _ _ _ => False) e s' → False) :
    codeAny (model P w) callerA (.call (.ref fa) ⟨[.ref a], []⟩) (fun r s' => r = .ok (.ret (.bool true)) ∧ OldK s₁.heap s'.heap ∧ s'.os = s₁.os ∧ AllBare s'.gens) s₁ := by
  have rv := vals_ints hi
  have lenV := hi.length
  let T : List Addr := cs.map (·.2)
  let H : Hp := startH K T a vs (ns.map V.int)
  have memT : ∀ p ∈ cs, p.2 ∈ T := fun p hp => List.mem_map.mpr ⟨p, hp, rfl⟩
  have ofT : ∀ b ∈ T, ∃ p ∈ cs, p.2 = b := fun b hb => List.mem_map.mp hb
  have isT : ∀ b ∈ T, s₁.heap.get? b = some { cls := .none, data := .fields #[] } := fun b hb => by
    obtain ⟨p, hp, rfl⟩ := ofT b hb
    exact hT p hp
  have aT : a ∉ T := fun z => by
    have q := isT a z
    rw [ha] at q
    cases q
  -- what is not tracked stands in the base
  have free : ∀ {b : Addr} {o : Obj}, s₁.heap.get? b = some o → (∀ us n, o.data ≠ .seq us n) → o.data ≠ .fields #[] → H b = none := fun {b o} e h1 h2 => by
    rcases startH_cases (K := K) (T := T) (a := a) (vs := vs) (xs := ns.map V.int) b with ⟨z, _⟩ | ⟨_, z, _⟩ | z
    · rw [isT b z] at e
      cases e
      exact (h2 rfl).elim
    · rw [z, ha] at e
      cases e
      exact (h1 _ _ rfl).elim
    · exact z
  have inB : ∀ {b : Addr} {o : Obj}, s₁.heap.get? b = some o → (∀ us n, o.data ≠ .seq us n) → o.data ≠ .fields #[] → (hidT s₁.heap H).get? b = some o := fun e h1 h2 => hidT_get e (free e h1 h2)
  have nsB : ∀ {b : Addr} {m : Str → Option Value}, s₁.heap.Ns b m → (hidT s₁.heap H).Ns b m := fun {b m} ⟨o, es, ep, e, d, r⟩ => ⟨o, es, ep, inB e (fun us n z => by rw [d] at z; cases z) (fun z => by rw [d] at z; cases z), d, r⟩
  have kB : K.In (hidT s₁.heap H) := fun b o e => hidT_get (KX b o e) (by
    rcases startH_cases (K := K) (T := T) (a := a) (vs := vs) (xs := ns.map V.int) b with ⟨z, _⟩ | ⟨_, z, z2, _⟩ | z
    · obtain ⟨p, hp, rfl⟩ := ofT b z
      rw [nT p hp] at e
      cases e
    · subst z
      rw [z2] at e
      cases e
    · exact z)
  have tB : ∀ p ∈ cs, LamX.TabB (hidT s₁.heap H) mg p.1 p.2 := fun p hp => by
    have hTp := hT p hp
    refine ⟨?_, ?_, fun z => ?_⟩
    · obtain ⟨o, us, file, tf, flags, tg, inF, text, tt, e1, r1, r2, r3, rest⟩ := C p hp
      exact ⟨o, us, file, tf, flags, tg, inF, text, tt, inB e1 (fun us n z => by rw [r2] at z; cases z) (fun z => by rw [r2] at z; cases z; simp at r3), r1, r2, r3, rest⟩
    · obtain ⟨bm, ob, b1, b2, b3, b4, b5, b6⟩ := hbm
      refine ⟨bm, ob, b1, b2, fun q => ?_, fun q => ?_, inB b3 (fun us n z => by rw [b6] at z; cases z) (fun z => by rw [b6] at z; cases z), b4, b5, b6⟩
      · obtain ⟨o, es, ep, e, hd, _⟩ := hns
        rw [q, e] at b3
        cases b3
        rw [hd] at b6
        cases b6
      · rw [q, hTp] at b3
        cases b3
        cases b6
    · obtain ⟨o, es, ep, e, hd, _⟩ := hns
      rw [z, hTp] at e
      cases e
      cases hd
  have hok : HOk P w H s₁.heap := fun b u z => by
    rcases startH_cases (K := K) (T := T) (a := a) (vs := vs) (xs := ns.map V.int) b with ⟨y, q⟩ | ⟨_, y, _, q⟩ | q
    · rw [show H b = _ from q] at z
      cases z
      exact isT b y
    · rw [show H b = _ from q] at z
      cases z
      subst y
      exact ⟨ha, by rw [List.length_map]; exact hl, vs, _, rv, ha⟩
    · rw [show H b = _ from q] at z
      cases z
  have hS : SqL K H a (ns.map V.int) := by
    cases hk : K.lookup a with
    | none => exact .inl (.inr ⟨_, startH_a aT hk⟩)
    | some o =>
      have e := KX a o hk
      rw [ha] at e
      cases e
      exact .inr ⟨_, vs.toArray, _, hk, rfl, rfl, rfl, by rw [List.size_toArray, lenV]; exact hl, by simpa using rv⟩
  have e0 : Env0 P w K mg (hidT s₁.heap H) callerA [] s₁ H := ⟨rfl, ⟨kB, nsB hns, ⟨mb, nsB hb, hbb⟩, let ⟨mc, h1, h2⟩ := hlim; ⟨mc, nsB h1, h2⟩⟩, fun b o e => of_hidT e, Nat.le_of_eq (hidT_size _ _), trivial, fun b hb => absurd (show b ∈ ([] : List Addr) from hb) (by simp), hok, .of_eq hg⟩
  refine codeAny_mono (F _ kB (nsB hns) tB callerA s₁ H ⟨[.ref a], []⟩ [.ref a] [.ref a] _ _ rfl hr e0 (hbind s₁ (.ref a)) (.cons rfl .nil) (hsp H (fun p hp => startH_t (memT p hp)) hS)) fun r s' h => ?_
  cases r with
  | error e => exact (hCX H e s' h).elim
  | ok fl =>
    cases fl with
    | ret u =>
      obtain ⟨v, H', os, bare, un, hok', r', q⟩ := h
      have q' : v = .bl true := q
      subst q'
      obtain rfl : u = Value.bool true := r'
      have old : ∀ b o, b ∉ T → s₁.heap.get? b = some o → s'.heap.get? b = some o := fun b o nb e => by
        rcases startH_cases (K := K) (T := T) (a := a) (vs := vs) (xs := ns.map V.int) b with ⟨z, _⟩ | ⟨_, _, _, z⟩ | z
        · exact absurd z nb
        · obtain ⟨e1, _⟩ := hok b _ z
          obtain ⟨e2, _⟩ := hok' b _ (un.frzs b _ _ z)
          rw [e] at e1
          cases e1
          exact e2
        · exact un.keep b o e z (fun y => absurd (show b ∈ ([] : List Addr) from y) (by simp)) (by simp)
      have grown : ∀ p ∈ cs, ∃ more : Array Value, s'.heap.get? p.2 = some { cls := .none, data := .fields more } := fun p hp => by
        obtain ⟨more, z⟩ := un.tbls p.2 #[] (startH_t (memT p hp))
        exact ⟨_, hok' p.2 _ z⟩
      refine ⟨rfl, ⟨fun b o e => ?_, fun b o e => ?_⟩, os, bare⟩
      · by_cases hb : b ∈ T
        · obtain ⟨p, hp, rfl⟩ := ofT b hb
          obtain ⟨more, hm⟩ := grown p hp
          rw [hT p hp] at e
          cases e
          exact .inr (.inl ⟨((C p hp).tab (hT p hp)).isCodeTable, rfl, #[], more, rfl, by rw [Array.empty_append]; exact hm⟩)
        · exact .inl (old b o hb e)
      · by_cases hb : b ∈ T
        · obtain ⟨p, hp, rfl⟩ := ofT b hb
          obtain ⟨more, hm⟩ := grown p hp
          exact ⟨_, hm⟩
        · exact ⟨o, old b o hb e⟩
    | _ => exact False.elim h
/-- what is known of the law at the head's heap -/
def LawG (l : PySem.W.OpenLaw) (w : World) (CX : CXT) (k n : Nat) (x : Str) (mg : Str → Option Value) (fa : Addr) (h : Heap) : Prop :=
  ∃ (K : PySem.W.Frag) (fd : FuncData) (cs : List (Addr × Addr)) (sp : Sp), K.In h ∧ (∀ p ∈ cs, h.get? p.2 = some { cls := .none, data := .fields #[] }) ∧ (∀ p ∈ cs, K.lookup p.2 = none) ∧ (∀ p ∈ cs, PySem.W.CodeHd h p.1 p.2) ∧ (∀ (s : Shared) (u : Value), BindsTo s fd ⟨[u], []⟩ [(x, u)]) ∧
    (∀ (H : Hp) (a : Addr) (ns : List Int), ns.length ≤ n → (∀ z ∈ ns, Builtin.Int.intBits z ≤ 1048576) → (∀ p ∈ cs, H p.2 = some (.tbl #[])) → SqL K H a (ns.map V.int) → sp [.ref a] H (fun v _ => v = .bl true) fun _ _ _ => False) ∧
    ∀ base : Heap, K.In base → base.Ns mainGlobals mg → (∀ p ∈ cs, LamX.TabB base mg p.1 p.2) → FnG l.prog w K mg base CX k fa fd [x] sp
theorem walk_ofG {l : PySem.W.OpenLaw} {n k : Nat} {q : Program} {loose : List Str} {XP : (Str → Option Value) → Heap → Prop} {YP : World → Heap → Prop} {d : DefRec} {CX : World → CXT} {x : Str}
    (hn : l.most = some n) (hn2 : n ≤ sizeLine) (hdf : d.params.defaults = []) (hr : Room k callerA)
    (F : ∀ (w : World) (mg : Str → Option Value) (fa : Addr) (h : Heap), YP w h → h.Ns mainGlobals mg → mg d.name = some (.ref fa) → LawG l w (CX w) k n x mg fa h)
    (hCX : ∀ (w : World) (H : Hp) (s : Shared) (e : Value) (s' : Shared), CX w [] H s (fun _ _ _ => False) e s' → False) :
    PySem.W.WalkO q loose XP YP l.row.toRowW d [] (fun f vs => PySem.call f vs) := by
  refine Att.attach_callB hn hdf fun w s₀ s₁ mg mb fa o pm cd doc a vs ns G Y ho hd hcd hmg hobj hints hlen hbits hg => ?_
  obtain ⟨K, fd, cs, sp, KX, hT, nT, C, hb, hsp, hF⟩ := F w mg fa _ Y G.T.g hmg
  exact law_callG KX G.T.g G.T.b G.T.builtins G.T.nolimit hg hT nT C G.T.bmain hobj hints (Nat.le_trans hlen hn2) hr hF hb (fun H hH hS => hsp H a ns hlen hbits hH hS) fun H e s' => hCX w H s₁ e s'
end Dm
end -- DmEnd
section -- DmEnd2
set_option Elab.async false
set_option linter.all false
set_option maxRecDepth 100000
set_option maxHeartbeats 2000000
namespace Dm
open PySem PySem.Spec PyProof.Rows L2
variable [Tbs]
section
variable {P : Program} {w : World} {K : PySem.W.Frag} {Γ : Gam} {mg : Str → Option Value} {base : Heap}
/-- a def's promise where no repr is under way, by its body -/
theorem fn_mkG {x qual : Str} {params : Arguments} {body : List Stmt} {scope : Scope} {f : Addr} {fd : FuncData} {N ps : List Str} {k n : Nat} {ms : MS} (F : FunD K x qual params body scope [] [] f fd) (S : FnScope N ps scope) (hn : ps.length = n)
    (hb : ∀ (cdv : Value), (∃ oc od osl dV kV doc pm an ct, K.lookup f = some ⟨oc, od, .func (PySem.W.fnOf x qual params body scope dV kV doc pm an cdv ct), osl⟩ ∧ PySem.W.codeIn K cdv qual = true) → ∀ (A : Around) (outer : List Env) (s : Shared) (H : Hp) (E : XK), (cxOf (L2.CX P w) P w K mg base N qual scope f cdv A outer s H E).A.guards = some [] → Room k (A.deeper (envOfC qual scope s.heap.objs.size f cdv)) →
      Cz (cxOf (L2.CX P w) P w K mg base N qual scope f cdv A outer s H E) (WEk E) → PSs (cxOf (L2.CX P w) P w K mg base N qual scope f cdv A outer s H E) body (rs (cxOf (L2.CX P w) P w K mg base N qual scope f cdv A outer s H E) Γ (WEk E) ms)) :
    FnG P w K mg base (L2.CX P w) (k + 1) f fd ps (spD K Γ n (fnM N.length ms)) := by
  obtain ⟨oc, od, dV, kV, doc, pm, an, cdv, ct, osl, rfl, lk, hcd, _, _⟩ := F.ex
  intro A s H args us vs Q E hA hr e0 hb' r hsp
  have hl := hsp.1.trans hn.symm
  have KX : K.In s.heap := e0.mod.kin.keeps fun b o e => (e0.bs b o e).1
  have lim : s.heap.NoLimit := e0.mod.nolimit.keeps fun b o e => (e0.bs b o e).1
  refine codeAny_call_function hr.depth (KX _ _ lk) rfl S.co S.gen rfl (PySem.W.codeRec_of KX hcd) (hb' _ _ _ _ ?_)
  refine wpAny_newFunctionEnv_cells S.kind (fun y hy => (S.par y.1 (List.of_mem_zip hy).1).elim .inl fun q => .inr ⟨q, PySem.W.cellsFrom_some _ _ _ (.inl q)⟩) fun env he s1 x => ?_
  subst he
  refine ⟨lim.keeps x.toInCall.keep, codeAny_func ?_⟩
  obtain ⟨hl2, G, ds, kr, kx, hG, htb, hv, hm, h1, h2⟩ := hsp
  have c : Cz (cxOf (L2.CX P w) P w K mg base N qual scope f cdv A [] s H E) (WEk E) := ⟨takes_of rfl rfl rfl rfl, rfl, S.nd, passes_of rfl⟩
  have I : Inv (cxOf (L2.CX P w) P w K mg base N qual scope f cdv A [] s H E) [] (start N vs) H s1 := inv_start S hr.hd e0 hl r x
  have ht := hb cdv ⟨oc, od, osl, dV, kV, doc, pm, an, ct, lk, hcd⟩ A [] s H E hA (hr.deeper _) c
  refine wpAny_mono (ht.run [] s1 (start N vs) H { nx := fun _ H' => Q .non H', rt := Q } I ⟨H, G, G, _, _, start_str hG htb hv, fun x hx cls d σ G' H' f r => h2 x hx cls d G' H' f r, hm, fun ss' σ' G' H' q st' => h1 .non .non G' H' q st'.toFr .non, fun d v G' H' q f r => h1 d v G' H' q f r, fun _ _ _ _ q => q.elim, fun _ _ _ _ q => q.elim⟩) (fun fl s' hs => ?_) fun e s' hs => hs
  cases fl with
  | ret u =>
    obtain ⟨v, σ', H', J, rv, q⟩ := hs
    exact ⟨v, H', J.os, J.bare, J.base, J.hok, rv, q⟩
  | next =>
    obtain ⟨σ', H', J, q⟩ := hs
    exact ⟨.non, H', J.os, J.bare, J.base, J.hok, rfl, q⟩
  | brk =>
    obtain ⟨_, _, _, q⟩ := hs
    exact q.elim
  | cont =>
    obtain ⟨_, _, _, q⟩ := hs
    exact q.elim
end
end Dm
end -- DmEnd2
section -- DmLr
set_option Elab.async false
set_option linter.all false
set_option maxRecDepth 100000
set_option maxHeartbeats 1000000
/-! list(range(n)). -/
namespace Dm
open PySem PySem.Spec PyProof.Rows L2
variable [Tbs]
section
variable {X : Cx} {Γ : Gam} {W : WX} {pos : Pos}
theorem rpl_rg {K : PySem.W.Frag} {G : Hp} (n : Int) : RpL K Γ G (rgV 0 n) (intsD 0 n.toNat) := by
  unfold rgV intsD
  rw [Int.sub_zero]
  generalize n.toNat = m
  generalize List.range m = l
  induction l with
  | nil => exact .nil
  | cons i l ih => exact .cons (.int _) ih
def mLRng (m : MD) : MA := fun ss k kx => m ss (fun d s => match d with
  | .int n => guard (decide (0 ≤ n) && decide (n ≤ 16777216)) (k (intsD 0 n.toNat) s)
  | _ => False) kx
theorem l_lrng (c : Cz X W) {a : Expr} {m : MD} {p p2 pos2 : Pos} (hml : X.mg "list" = none) (hmr : X.mg "range" = none) (ha : PE X a (rd X Γ W m)) (hgl : Gl X "list" := by rfl) (hgr : Gl X "range" := by rfl) (na : starEach [a] X.env = (false, eval a X.env) :: starEach [] X.env := by rfl)
    (na2 : starEach [Expr.Call (.Name "range" p2) [a] [] pos2] X.env = (false, eval (Expr.Call (.Name "range" p2) [a] [] pos2) X.env) :: starEach [] X.env := by rfl) : PE X (.Call (.Name "list" p) [.Call (.Name "range" p2) [a] [] pos2] [] pos) (rl X Γ W (mLRng m)) :=
  pe_weak (pe_listRg c.calm hgl hml (prg_1 hgr hmr ha na) na2) fun σ H Q h => by
    obtain ⟨H0, G0, G, ss, k, kx, st, hx, hm, hk⟩ := h
    refine ⟨H0, G0, G, ss, _, kx, st, hx, hm, fun d s v G1 H1 q e st1 r1 => ?_⟩
    split at q
    · rename_i n
      obtain ⟨hb, q⟩ := guard_ok q
      simp only [Bool.and_eq_true, decide_eq_true_eq] at hb
      cases r1
      refine ⟨n, rfl, RgOk.of_le (Int.le_refl 0) hb.2 (by decide) hb.1, fun p hp => ?_⟩
      have f : Fr H1 G1 G1 (upd H1 p (.lst (rgV 0 n))) := Fr.newH st1.gh hp
      exact hk _ s p _ G1 _ q e (st1.le f) (rpl_rg n) upd_same (st1.gh.back hp) (st1.hh.back hp) (st1.noOwn hp)
    · exact q.elim
end
end Dm
end -- DmLr
section -- DmGen
set_option Elab.async false
set_option linter.all false
set_option maxRecDepth 100000
set_option maxHeartbeats 1000000
/-! What the printed walks lean on: defs by their names, the rules with names in the place of addresses. -/
theorem L2.Room.units65 {k : Nat} {A : PySem.Around} (r : L2.Room k A) : A.units + 65 < PySem.cLine := by have := r.un; omega
namespace Dm
open PySem PySem.Spec PyProof.Rows L2
variable [Tbs]

/-! ### the base -/
structure BOk (K : PySem.W.Frag) (mg : Str → Option Value) (cs : List (Addr × Addr)) (base : Heap) : Prop where
  k : K.In base
  n : base.Ns mainGlobals mg
  t : ∀ p ∈ cs, LamX.TabB base mg p.1 p.2
theorem BOk.up {K : PySem.W.Frag} {mg : Str → Option Value} {cs : List (Addr × Addr)} {base B : Heap} (b : BOk K mg cs base) (e : ∀ b o, base.get? b = some o → B.get? b = some o) : BOk K mg cs B :=
  ⟨b.k.keeps e, b.n.keeps e, fun p hp => ⟨(b.t p hp).code.keeps e, (b.t p hp).bm.keeps e, (b.t p hp).gP⟩⟩
/-- a def of the module, by its name -/
structure Gfn (P : Program) (w : World) (K : PySem.W.Frag) (mg : Str → Option Value) (Γ : Gam) (base : Heap) (k : Nat) (x : Str) (ps : List Str) (mf : MF) : Prop where
  ex : ∃ fd, FnOk P w K mg base (L2.CX P w) k (He.ga K x) fd ps (spD K Γ ps.length mf) ∧ Binds K fd ps [] ∧ ∃ oc od sl, K.lookup (He.ga K x) = some ⟨oc, od, .func fd, sl⟩
  kp : PySem.W.keepIn K (.ref (He.ga K x)) = true
  g : mg x = some (.ref (He.ga K x))
  kin : K.In base
def GF (P : Program) (w : World) (K : PySem.W.Frag) (mg : Str → Option Value) (Γ : Gam) (cs : List (Addr × Addr)) (k : Nat) (x : Str) (ps : List Str) (mf : (Nat → CPt) → MF) : Prop := ∀ base, BOk K mg cs base → Gfn P w K mg Γ base k x ps (mf (cpOf P w K mg Γ base))
section
variable {P : Program} {w : World} {K : PySem.W.Frag} {mg : Str → Option Value} {Γ : Gam} {base : Heap} {cs : List (Addr × Addr)}
theorem Gfn.up {j k : Nat} {x : Str} {ps : List Str} {mf : MF} (F : Gfn P w K mg Γ base j x ps mf) (h : j ≤ k) : Gfn P w K mg Γ base k x ps mf :=
  ⟨let ⟨fd, a, b⟩ := F.ex; ⟨fd, a.mono h, b⟩, F.kp, F.g, F.kin⟩
theorem Gfn.imp {k : Nat} {x : Str} {ps : List Str} {mf mf' : MF} (F : Gfn P w K mg Γ base k x ps mf) (h : ∀ ds kr kx, mf' ds kr kx → mf ds kr kx) : Gfn P w K mg Γ base k x ps mf' :=
  ⟨let ⟨fd, a, b⟩ := F.ex; ⟨fd, a.imp fun vs H Q E ⟨hl, G, ds, kr, kx, e, t, r, m, q⟩ => ⟨hl, G, ds, kr, kx, e, t, r, h _ _ _ m, q⟩, b⟩, F.kp, F.g, F.kin⟩
theorem GF.imp {k : Nat} {x : Str} {ps : List Str} {mf mf' : (Nat → CPt) → MF} (F : GF P w K mg Γ cs k x ps mf) (h : ∀ cp ds kr kx, mf' cp ds kr kx → mf cp ds kr kx) : GF P w K mg Γ cs k x ps mf' := fun base hB => (F base hB).imp (h _)
theorem Gfn.cp {k : Nat} {x : Str} {ps : List Str} {mf : MF} (F : Gfn P w K mg Γ base k x ps mf) (G : Hp) : CallP P w K mg Γ k base ps.length mf (.ref (He.ga K x)) G := by
  obtain ⟨fd, a, b, lk⟩ := F.ex
  exact callP_fn F.kin ⟨_, _, _, lk.choose_spec.choose_spec.choose_spec⟩ a b G
/-- the def at x, by its text -/
def FdAt (K : PySem.W.Frag) (x : Str) (st : Stmt) : Prop := ∃ fd, FunD K x x (defArgs st) (defBody st) (defScope st) [] [] (He.ga K x) fd
theorem gf_mk {x : Str} {st : Stmt} {N ps : List Str} {k : Nat} {ms : (Nat → CPt) → MS} (F : FdAt K x st) (g : mg x = some (.ref (He.ga K x))) (S : FnScope N ps (defScope st))
    (hbind : ∀ (kV doc pm : Value) (an : Option Addr) (cdv ct : Value) (us : List Value), us.length = ps.length → bindArgs (PySem.W.fnOf x x (defArgs st) (defBody st) (defScope st) .none kV doc pm an cdv ct) ⟨us, []⟩ = pure (ps.zip us))
    (hb : ∀ base, BOk K mg cs base → ∀ (cdv : Value), cdv = .ref (He.codeOf K (x, none)) → ∀ (A : Around) (outer : List Env) (s : Shared) (H : Hp) (E : XK), Room k (A.deeper (envOfC x (defScope st) s.heap.objs.size (He.ga K x) cdv)) →
      Cz (cxOf (L2.CX P w) P w K mg base N x (defScope st) (He.ga K x) cdv A outer s H E) (WEk E) → PSs (cxOf (L2.CX P w) P w K mg base N x (defScope st) (He.ga K x) cdv A outer s H E) (defBody st) (rs (cxOf (L2.CX P w) P w K mg base N x (defScope st) (He.ga K x) cdv A outer s H E) Γ (WEk E) (ms (cpOf P w K mg Γ base)))) :
    GF P w K mg Γ cs (k + 1) x ps (fun cp => fnM N.length (ms cp)) := by
  intro base hB
  obtain ⟨fd, F⟩ := F
  refine ⟨⟨fd, fn_mkD F S rfl fun cdv ⟨oc, od, osl, dV, kV, doc, pm, an, ct, lk, hcd⟩ A outer s H E hr c => hb base hB cdv ?_ A outer s H E hr c, F.bindsN hbind, ?_⟩, F.kp, g, hB.k⟩
  · obtain ⟨c, rfl⟩ := He.codeIn_ref hcd
    rw [He.codeOf_eq (p := (x, none)) lk rfl]
  · obtain ⟨oc, od, dV, kV, doc, pm, an, cdv, ct, osl, _, lk, _⟩ := F.ex
    exact ⟨oc, od, osl, lk⟩
end
section
variable {X : Cx} {Γ : Gam} {W : WX} {pos : Pos}
theorem dk_call (c : Cz X W) {x : Str} {p : Pos} {k : Nat} {ps : List Str} {mf : MF} {m : MA} {e : Expr} {es : List Expr} (F : Gfn X.prog X.w X.K X.mg Γ X.base k x ps mf) (hr : Room k X.A) (ha : PA X (e :: es) (ra X Γ W m)) (hg : Gl X x := by rfl) (hdb : (x == ("__debug__" : Str)) = false := by decide)
    (he : starEach (e :: es) X.env = (false, eval e X.env) :: starEach es X.env := by rfl) (hpl : (backTo pos (starEach es X.env)).any (·.1) = false := by rfl) : PE X (.Call (.Name x p) (e :: es) [] pos) (rd X Γ W (mFn ps.length mf m)) := by
  obtain ⟨fd, a, b, _⟩ := F.ex
  exact d_call c a hr F.g F.kp b ha hg hdb he hpl
theorem dk_call0 (c : Cz X W) {x : Str} {p : Pos} {k : Nat} {mf : MF} (F : Gfn X.prog X.w X.K X.mg Γ X.base k x [] mf) (hr : Room k X.A) (hg : Gl X x := by rfl) (hdb : (x == ("__debug__" : Str)) = false := by decide) : PE X (.Call (.Name x p) [] [] pos) (rd X Γ W (mFn 0 mf mNil)) := by
  obtain ⟨fd, a, b, _⟩ := F.ex
  exact d_call0 c a hr F.g F.kp b hg hdb
/-- the parameter may be given by its name -/
def KBn1 (K : PySem.W.Frag) (x kn : Str) : Prop := ∀ fd, (∃ oc od sl, K.lookup (He.ga K x) = some ⟨oc, od, .func fd, sl⟩) → KBinds K fd [kn] [kn] (fun us ws => us ++ ws) (fun vs zs => vs ++ zs)
theorem kbn1 {K : PySem.W.Frag} {x kn : Str} {st : Stmt} (F : FdAt K x st)
    (h1 : ∀ (kV doc pm cdv ct : Value) (an : Option Addr) (w : Value), bindArgs (PySem.W.fnOf x x (defArgs st) (defBody st) (defScope st) .none kV doc pm an cdv ct) ⟨[], [(kn, w)]⟩ = pure [(kn, w)])
    (h2 : ∀ (kV doc pm cdv ct : Value) (an : Option Addr) (w : Value), bindArgs (PySem.W.fnOf x x (defArgs st) (defBody st) (defScope st) .none kV doc pm an cdv ct) ⟨[w], []⟩ = pure [(kn, w)]) : KBn1 K x kn := by
  intro fd ⟨oc, od, sl, lk⟩
  obtain ⟨fd', F⟩ := F
  have e : fd' = fd := by
    obtain ⟨oc', od', dV, kV, doc, pm, an, cdv, ct, osl, _, lk', _⟩ := F.ex
    rw [lk] at lk'
    injection lk' with h
    injection h with _ _ h _
    injection h with h
    exact h.symm
  subst e
  obtain ⟨oc, od, dV, kV, doc, pm, an, cdv, ct, osl, rfl, _, _, hD, _⟩ := F.ex
  rcases hD with ⟨_, rfl⟩ | ⟨e, _⟩
  · refine ⟨fun s us ws _ hl => ?_, fun r rz => r.append rz⟩
    match us, ws, hl with
    | [], [w], _ => exact .of_eq (h1 kV doc pm cdv ct an w)
    | [u], [], _ => exact .of_eq (h2 kV doc pm cdv ct an u)
    | u :: u' :: us, ws, hl => simp at hl
    | [u], w :: ws, hl => simp at hl
    | [], w :: w' :: ws, hl => simp at hl
    | [], [], hl => simp at hl
  · exact absurd rfl e
theorem dk_callK (c : Cz X W) {k : Nat} {kn x : Str} {p kp : Pos} {mf : MF} {m : MD} {e : Expr} (F : Gfn X.prog X.w X.K X.mg Γ X.base k x [kn] mf) (kb : KBn1 X.K x kn) (hr : Room k X.A)
    (he : PE X e (rd X Γ W m)) (hg : Gl X x := by rfl) (hall : (backToKw pos (keywordEach [⟨some kn, e, kp⟩] X.env)).all (·.1.isSome) = true := by rfl) (hks : (backToKw pos (keywordEach [⟨some kn, e, kp⟩] X.env)).filterMap (·.1) = [kn] := by rfl) (hdb : (x == ("__debug__" : Str)) = false := by decide)
    (hpl : ((backTo pos (starEach [] X.env)).any (·.1) || (backToKw pos (keywordEach [⟨some kn, e, kp⟩] X.env)).any (·.1.isNone)) = false := by rfl) : PE X (.Call (.Name x p) [] [⟨some kn, e, kp⟩] pos) (rd X Γ W (mFnK mf m)) := by
  obtain ⟨fd, a, b, lk⟩ := F.ex
  exact d_callK c a hr F.g F.kp (kb fd lk) he hg hall hks hdb hpl
/-- a def's name as a value -/
theorem dk_fn {x : Str} {j k n : Nat} {ps : List Str} {mf : MF} (F : Gfn X.prog X.w X.K X.mg Γ X.base j x ps mf) (h : j ≤ k) (hn : ps.length = n := by rfl) (hg : Gl X x := by rfl) (hd : (x == ("__debug__" : Str)) = false := by decide) :
    PE X (.Name x pos) (rd X Γ W (mC (.opq (cpOf X.prog X.w X.K X.mg Γ X.base k n mf)))) := by
  subst hn
  exact d_fnV (fun G => (F.up h).cp G) F.g hg hd
/-- a class's name -/
theorem dk_cls {x : Str} {i : Nat} (hm : X.mg x = some (.ref (He.ga X.K x))) (hC : He.ga X.K x = Γ.cls i := by rfl) (hg : Gl X x := by rfl) (hd : (x == ("__debug__" : Str)) = false := by decide) : PE X (.Name x pos) (rd X Γ W (mC (.cl i))) :=
  d_glob hg hm (v := .ref (He.ga X.K x)) rfl (fun G => by rw [hC]; exact .cl i) hd
/-- a constant of the module -/
def ConstAt (K : PySem.W.Frag) (mg : Str → Option Value) (x : Str) (d : D) : Prop := ∃ u, mg x = some u ∧ constB K 8 u d = true
theorem dk_const {x : Str} {d : D} (h : ConstAt X.K X.mg x d) (hg : Gl X x := by rfl) (hdb : (x == ("__debug__" : Str)) = false := by decide) : PE X (.Name x pos) (rd X Γ W (mC d)) := by
  obtain ⟨u, h1, h2⟩ := h
  exact d_const h1 (constB_ok 8 u d h2) hg hdb
/-! ### a class -/
structure Gini (P : Program) (w : World) (K : PySem.W.Frag) (mg : Str → Option Value) (Γ : Gam) (base : Heap) (k : Nat) (x : Str) (ps : List Str) (C n : Nat) (mfi : MFi) : Prop where
  ex : ∃ fd, FnOk P w K mg base (L2.CX P w) k (He.ma K (He.ga K x) "__init__") fd ps (spI K Γ C n mfi) ∧ Binds K fd ps []
def GI (P : Program) (w : World) (K : PySem.W.Frag) (mg : Str → Option Value) (Γ : Gam) (cs : List (Addr × Addr)) (k : Nat) (x : Str) (ps : List Str) (C n : Nat) (mfi : MFi) : Prop := ∀ base, BOk K mg cs base → Gini P w K mg Γ base k x ps C n mfi
theorem dk_make (c : Cz X W) {x : Str} {p : Pos} {k n C : Nat} {ps : List Str} {mfi : MFi} {m : MA} {e : Expr} {es : List Expr} (F : Gini X.prog X.w X.K X.mg Γ X.base k x ps C n mfi) (M : L2.Mk X.K (He.ga X.K x) (He.ma X.K (He.ga X.K x) "__init__")) (hm : X.mg x = some (.ref (He.ga X.K x))) (hC : He.ga X.K x = Γ.cls C) (hr : Room (k + 1) X.A)
    (ha : PA X (e :: es) (ra X Γ W m)) (hg : Gl X x := by rfl) (hdb : (x == ("__debug__" : Str)) = false := by decide) (he : starEach (e :: es) X.env = (false, eval e X.env) :: starEach es X.env := by rfl) (hpl : (backTo pos (starEach es X.env)).any (·.1) = false := by rfl) :
    PE X (.Call (.Name x p) (e :: es) [] pos) (rd X Γ W (mMake C n mfi m)) := by
  obtain ⟨fd, a, b⟩ := F.ex
  exact d_make c M a hC hr hm b ha hg hdb he hpl
/-! ### exceptions -/
def mRaiseS (i : Nat) : MS := fun ss C => mRaise0 i ss C.kx C.kx
structure ExcG (K : PySem.W.Frag) (mg : Str → Option Value) (x : Str) : Prop where
  q : PySem.W.excIn K (He.ga K x) He.veBase "ValueError.__new__" = true
  g : mg x = some (.ref (He.ga K x))
  k : PySem.W.keepIn K (.ref (He.ga K x)) = true
  b : PySem.W.subIn K (.ref (He.ga K x)) (.type "BaseException") = some true
  t : PySem.W.typeIn K (.ref (He.ga K x)) = some (.type "type")
theorem dk_exc {x m : Str} {i j : Nat} {p p2 : Pos} (E : ExcG X.K X.mg x) (hC : He.ga X.K x = Γ.cls i) (hg : Gl X x := by rfl) (hdb : (x == ("__debug__" : Str)) = false := by decide) : L2.PMk X (.Call (.Name x p) [.Constant (.str m) j p2] [] pos) (rx X Γ W (mRaise0 i)) :=
  x_own PySem.F.excBase_ValueError E.q E.g E.k (raises_own E.b E.t) hC hg hdb
theorem dk_raise {e : Expr} {i : Nat} (c : Cz X W) (he : L2.PMk X e (rx X Γ W (mRaise0 i))) : PS X (.Raise (some e) none pos) (rs X Γ W (mRaiseS i)) := s_raise c he
/-! ### while, with a bound -/
def mWhileN (n : Nat) (mc : MB) (mb : MS) : MS := fun ss C => mWhileGo mc mb n ss C
theorem s_whileN (c : Cz X W) (n : Nat) {cond : Expr} {body : List Stmt} {mc : MB} {mb : MS} (hc : PT X cond (rb X Γ W mc)) (hb : PSs X body (rs X Γ W mb)) : PS X (.While cond body [] pos) (rs X Γ W (mWhileN n mc mb)) := ps_weak (s_while c hc hb) fun D σ H h => by
  obtain ⟨H0, G0, G, ss, C, st, hx, hm, h1, h2, h3, h4⟩ := h
  exact ⟨H0, G0, G, ss, C, st, hx, ⟨n, hm⟩, h1, h2, h3, h4⟩
end
/-! ### x += e of ints -/
def addI : D → D → Option D := fun a b => match a, b with
  | .int i, .int j => some (.int (i + j))
  | _, _ => none
theorem ip_addI {X : Cx} : OpR X (inplaceOp .Add) (rI0 fun i j => .int (i + j)) := by
  intro pins s σ H x y v u Q I rx ry h
  obtain ⟨i, j, e1, e2, q⟩ := h
  exact ip_add pins s σ H x y v u Q I rx ry ⟨i, j, e1, e2, q⟩
theorem prim_addI {K : PySem.W.Frag} {Γ : Gam} : Prim2 K Γ (rI0 fun i j => .int (i + j)) addI := by
  intro G H x y a b d Q e ra rb hF q
  unfold addI at hF
  split at hF
  · cases hF
    obtain rfl := ra.int_inv
    obtain rfl := rb.int_inv
    exact ⟨_, _, rfl, rfl, q _ G H (Fr.refl e) (.int _)⟩
  · cases hF
end Dm
namespace Dm
open PySem PySem.Spec PyProof.Rows L2
variable [Tbs]
/-! ### lambdas -/
structure LamF (K : PySem.W.Frag) (cs : List (Addr × Addr)) (f q : Str) : Prop where
  hm : (He.tabOf K (He.codeOf K (f, none)), q ++ "<lambda>") ∈ Tbs.T
  hu : ∀ p ∈ Tbs.T, p.1 = He.tabOf K (He.codeOf K (f, none)) → p.2 = q ++ "<lambda>"
  hc : He.cT K (f, none) ∈ cs
theorem GF.fd {P : Program} {w : World} {K : PySem.W.Frag} {mg : Str → Option Value} {Γ : Gam} {base : Heap} {cs : List (Addr × Addr)} {k : Nat} {x : Str} {ps : List Str} {mf : (Nat → CPt) → MF} (F : GF P w K mg Γ cs k x ps mf) (hB : BOk K mg cs base) :
    ∃ fd, Binds K fd ps [] ∧ ∀ B, BOk K mg cs B → FnOk P w K mg B (L2.CX P w) k (He.ga K x) fd ps (spD K Γ ps.length (mf (cpOf P w K mg Γ B))) := by
  obtain ⟨fd, a, b, oc, od, sl, lk⟩ := (F base hB).ex
  refine ⟨fd, b, fun B hB' => ?_⟩
  obtain ⟨fd', a', b', oc', od', sl', lk'⟩ := (F B hB').ex
  have e : fd' = fd := by
    rw [lk] at lk'
    injection lk' with h
    injection h with _ _ h _
    injection h with h
    exact h.symm
  subst e
  exact a'
section
variable {X : Cx} {Γ : Gam} {W : WX} {pos : Pos}
theorem dk_lam0 (c : Cz X W) {cs : List (Addr × Addr)} {f q : Str} {params : Arguments} {body : Expr} {scope : Scope} {lpos p : Pos} {ps : List Str} {caps : List (Str × Nat)} {kf kl kb : Nat} {x p1 : Str}
    {me : (Nat → CPt) → MD} {mfo : (Nat → CPt) → MF} (hB : BOk X.K X.mg cs X.base) (LF : LamF X.K cs f q) (hcode : X.env.code = .ref (He.codeOf X.K (f, none))) (F : GF X.prog X.w X.K X.mg Γ cs kf x [p1] mfo) (hkl : kb + 1 ≤ kl) (hr : Room kf X.A)
    (L : lamPB X.env.scope scope ps X.N caps = true)
    (hbind : ∀ (q : Str) (cl : List (Str × Addr)) (pm cv ctv : Value) (us : List Value), us.length = ps.length → bindArgs (PySem.W.kla_fn "<lambda>" q params body scope cl pm cv ctv) ⟨us, []⟩ = pure (ps.zip us))
    (hbody : ∀ (B : Heap), BOk X.K X.mg cs B → ∀ (A : Around) (outer : List Env) (s : Shared) (H : Hp) (E : XK) (f c' : Addr), Room kb (A.deeper (LamX.lamEnv X scope s.heap.objs.size f c')) → Cz (lamC X B A outer s H E scope f c' (ps ++ caps.map (·.1))) (WEk E) →
      PE (lamC X B A outer s H E scope f c' (ps ++ caps.map (·.1))) body (rd (lamC X B A outer s H E scope f c' (ps ++ caps.map (·.1))) Γ (WEk E) (me (cpOf X.prog X.w X.K X.mg Γ B))))
    (hq : X.env.qual = q := by rfl) (hdef : defaultsOf params X.env = ([], []) := by rfl) (hfnX : ∀ x, X.fn x = true := by intro _; rfl) (hg : Gl X x := by rfl) (hdb : (x == ("__debug__" : Str)) = false := by decide) :
    PE X (.Call (.Name x p) [.Lambda params body scope lpos] [] pos) (rd X Γ W (mLam0 ps.length kl (caps.map (·.2)) me mfo)) := by
  obtain ⟨fd, hb, hF⟩ := F.fd hB
  subst hq
  exact d_callLam0 c (hB.t _ LF.hc) hcode LF.hm LF.hu hdef (lamP_by L) hfnX hkl hr hbind (fun B e => hbody B (hB.up e)) (fun B e => hF B (hB.up e)) hb (F X.base hB).g (F X.base hB).kp hg hdb
theorem dk_lam1 (c : Cz X W) {e : Expr} {m : MD} {cs : List (Addr × Addr)} {f q : Str} {params : Arguments} {body : Expr} {scope : Scope} {lpos p : Pos} {ps : List Str} {caps : List (Str × Nat)} {kf kl kb : Nat} {x p1 p2 : Str}
    {me : (Nat → CPt) → MD} {mfo : (Nat → CPt) → MF} (he : PE X e (rd X Γ W m)) (hB : BOk X.K X.mg cs X.base) (LF : LamF X.K cs f q) (hcode : X.env.code = .ref (He.codeOf X.K (f, none))) (F : GF X.prog X.w X.K X.mg Γ cs kf x [p1, p2] mfo) (hkl : kb + 1 ≤ kl) (hr : Room kf X.A)
    (L : lamPB X.env.scope scope ps X.N caps = true)
    (hbind : ∀ (q : Str) (cl : List (Str × Addr)) (pm cv ctv : Value) (us : List Value), us.length = ps.length → bindArgs (PySem.W.kla_fn "<lambda>" q params body scope cl pm cv ctv) ⟨us, []⟩ = pure (ps.zip us))
    (hbody : ∀ (B : Heap), BOk X.K X.mg cs B → ∀ (A : Around) (outer : List Env) (s : Shared) (H : Hp) (E : XK) (f c' : Addr), Room kb (A.deeper (LamX.lamEnv X scope s.heap.objs.size f c')) → Cz (lamC X B A outer s H E scope f c' (ps ++ caps.map (·.1))) (WEk E) →
      PE (lamC X B A outer s H E scope f c' (ps ++ caps.map (·.1))) body (rd (lamC X B A outer s H E scope f c' (ps ++ caps.map (·.1))) Γ (WEk E) (me (cpOf X.prog X.w X.K X.mg Γ B))))
    (hq : X.env.qual = q := by rfl) (hdef : defaultsOf params X.env = ([], []) := by rfl) (hfnX : ∀ x, X.fn x = true := by intro _; rfl) (hg : Gl X x := by rfl) (hdb : (x == ("__debug__" : Str)) = false := by decide)
    (hs : starEach [e, .Lambda params body scope lpos] X.env = (false, eval e X.env) :: starEach [.Lambda params body scope lpos] X.env := by rfl) :
    PE X (.Call (.Name x p) [e, .Lambda params body scope lpos] [] pos) (rd X Γ W (mLam1 m ps.length kl (caps.map (·.2)) me mfo)) := by
  obtain ⟨fd, hb, hF⟩ := F.fd hB
  subst hq
  exact d_callLam1 c he (hB.t _ LF.hc) hcode LF.hm LF.hu hdef (lamP_by L) hfnX hkl hr hbind (fun B e => hbody B (hB.up e)) (fun B e => hF B (hB.up e)) hb (F X.base hB).g (F X.base hB).kp hg hdb hs
/-! ### try .. except X as e: kept = e -/
theorem dk_try (c : Cz X W) (i j : Nat) {x n y : Str} {CS : Value} {isC : Nat → Option Bool} {body : List Stmt} {np ep yp ap pos' : Pos} {mb : MS} (hm : X.mg x = some CS) (hT : ∀ c b, isC c = some b → PySem.W.exmOne X.K (.ref (Γ.cls c)) CS = some b)
    (hb : ∀ (W' : WX) (pn : List (Addr × Obj)) (xe : Value → Shared → Prop), Cz (X.tr pn xe) W' → PSs (X.tr pn xe) body (rs (X.tr pn xe) Γ W' mb)) (hij : i ≠ j := by decide) (hg : Gl X x := by rfl) (hdb : (x == ("__debug__" : Str)) = false := by decide) (hi : X.N[i]? = some n := by rfl) (hj : X.N[j]? = some y := by rfl)
    (hln : X.env.scope.names.lookup n = some .local := by rfl) (hly : X.env.scope.names.lookup y = some .local := by rfl) (hsw : ∀ env, swapsWith (.Name n ep) (some (.Name y yp)) ap.line env = pure false := by intro _; rfl) (hnd : (n == ("__debug__" : Str)) = false := by decide) (hncd : (n == ("__classdict__" : Str)) = false := by decide)
    (hs : X.stack = X.env :: X.outer := by rfl) (hf : X.env.frame = some X.env.locals := by rfl) (hex : X.ex = [] := by rfl) :
    PS X (.Try body [.ExceptHandler (some (.Name x np)) (some n) [.Assign [.Name y yp] (.Name n ep) ap] pos'] [] [] pos) (rs X Γ W (mTryKeep isC X.N.length j mb)) :=
  s_tryKeep c i j hs hf hex ⟨hg, hdb, .inl hm⟩ hT hb hij hi hj hln hly hsw hnd hncd
end
/-! ### names of built-ins -/
theorem bv_len : bootBuiltins "len" = some (.builtin "len") := by decide +kernel
theorem bv_abs : bootBuiltins "abs" = some (.builtin "abs") := by decide +kernel
theorem bv_min : bootBuiltins "min" = some (.builtin "min") := by decide +kernel
theorem bv_max : bootBuiltins "max" = some (.builtin "max") := by decide +kernel
theorem bv_all : bootBuiltins "all" = some (.builtin "all") := by decide +kernel
theorem bv_any : bootBuiltins "any" = some (.builtin "any") := by decide +kernel
theorem bv_isinstance : bootBuiltins "isinstance" = some (.builtin "isinstance") := by decide +kernel
theorem bv_repr : bootBuiltins "repr" = some (.builtin "repr") := by decide +kernel
theorem bv_int : bootBuiltins "int" = some (.type "int") := by decide +kernel
theorem bv_str : bootBuiltins "str" = some (.type "str") := by decide +kernel
theorem bv_bool : bootBuiltins "bool" = some (.type "bool") := by decide +kernel
theorem bv_list : bootBuiltins "list" = some (.type "list") := by decide +kernel
theorem bv_tuple : bootBuiltins "tuple" = some (.type "tuple") := by decide +kernel
theorem bv_dict : bootBuiltins "dict" = some (.type "dict") := by decide +kernel
end Dm
end -- DmGen
section -- DmDraw2
set_option Elab.async false
set_option linter.all false
set_option maxRecDepth 100000
set_option maxHeartbeats 1000000
/-! The draws, told simply. -/
namespace Dm
open PySem PySem.Spec PyProof.Rows L2
theorem lift_of {α : Type} {o : Option α} {d : α} {k : α → Prop} (h : o = some d) (q : k d) : lift o k := by
  rw [h]
  exact q
theorem guard_of {b : Bool} {p : Prop} (h : b = true) (q : p) : guard b p := by
  rw [h]
  exact q
theorem addD_ii (i j : Int) : addD (.int i) (.int j) = some (.int (i + j)) := rfl
theorem repD_ii {i j : Int} (h : lim64 j = true) : repD (.int i) (.int j) = some (.int (i * j)) := by
  show (if lim64 i || lim64 j then some (D.int (i * j)) else none) = _
  rw [h, Bool.or_true, if_pos rfl]
theorem subD_ii (i j : Int) : subD (.int i) (.int j) = some (.int (i - j)) := rfl
theorem geD_ii (i j : Int) : geD (.int i) (.int j) = some (.bl (decide (j ≤ i))) := rfl
theorem modD_ii {i j : Int} (h : j ≠ 0) : modD (.int i) (.int j) = some (.int (i.fmod j)) := by
  show (if decide (j ≠ 0) then some (D.int (i.fmod j)) else none) = _
  rw [decide_eq_true h, if_pos rfl]
theorem fdivD_ii {i j : Int} (h : j ≠ 0) (h2 : j.natAbs < 1073741824) : fdivD (.int i) (.int j) = some (.int (i.fdiv j)) := by
  show (if decide (j ≠ 0) && decide (j.natAbs < 1073741824) then some (D.int (i.fdiv j)) else none) = _
  rw [decide_eq_true h, decide_eq_true h2] <;> rfl
theorem powD_ii {i j : Int} (h : 0 ≤ j) (h1 : j ≤ 1000000) (h2 : i.natAbs < 2 ^ 64) : powD (.int i) (.int j) = some (.int (i ^ j.toNat)) := by
  show (if decide (0 ≤ j) && decide (j ≤ 1000000) && decide (i.natAbs < 2 ^ 64) then some (D.int (i ^ j.toNat)) else none) = _
  rw [decide_eq_true h, decide_eq_true h1, decide_eq_true h2] <;> rfl
theorem fmod_lt {i j : Int} (h : 0 < j) : 0 ≤ i.fmod j ∧ i.fmod j < j := by
  rw [Int.fmod_eq_emod_of_nonneg _ (Int.le_of_lt h)]
  exact ⟨Int.emod_nonneg _ (by omega), Int.emod_lt_of_pos _ h⟩
/-- a loop, by what holds between its turns -/
theorem for_ind {mt : MT} {mb : MS} {C : CS} (I : List SV → Prop) : ∀ (ds : List D), (∀ d ∈ ds, ∀ (ss : List SV) (k : List SV → Prop), I ss → (∀ s, I s → k s) → mt d ss fun s1 => mb s1 { nx := k, rt := C.rt, kx := C.kx, bk := C.nx, ct := k }) → (∀ s, I s → C.nx s) → ∀ ss, I ss → mForGo mt mb ds ss C
  | [], _, fin, ss, h => fin ss h
  | d :: ds, step, fin, ss, h => step d List.mem_cons_self ss _ h fun s hs => for_ind I ds (fun d hd => step d (List.mem_cons_of_mem _ hd)) fin s hs
/-- a comprehension: what holds when so many items are left -/
theorem lc_ind {mt : MT} {mtest : MB} {me : MD} {vs : List Nat} {k : List D → List SV → Prop} (I : Nat → List D → List SV → Prop) : ∀ (ds acc : List D), (∀ d ∈ ds, ∀ (n : Nat) (acc : List D) (ss : List SV) (k : List D → List SV → Prop), I (n + 1) acc ss → (∀ acc s, I n acc s → k acc s) → mt d ss fun s1 => mtest s1 (fun b s2 => match b with
    | true => me s2 (fun y s3 => guard (Nat.blt acc.length mline) (k (acc ++ [y]) (wipeS s3 vs))) fun _ => False
    | false => k acc (wipeS s2 vs)) fun _ => False) → (∀ acc s, I 0 acc s → k acc s) → ∀ ss, I ds.length acc ss → mLcGo mt mtest me vs k ds acc ss
  | [], acc, _, fin, ss, h => fin acc ss h
  | d :: ds, acc, step, fin, ss, h => step d List.mem_cons_self ds.length acc ss (fun acc' s' => mLcGo mt mtest me vs k ds acc' s') h fun acc' s' hs => lc_ind I ds acc' (fun d hd => step d (List.mem_cons_of_mem _ hd)) fin s' hs
def mfMixed (dp : V → Hp → Prop) : MF := fun ds k _ => match ds with
  | [.opq φ] => (∀ v G, φ v G → dp v G) ∧ ∀ r : Int, k (.int r)
  | _ => False
def mfTake (dp : V → Hp → Prop) : MF := fun ds k _ => match ds with
  | [.opq φ, .int n] => (∀ v G, φ v G → dp v G) ∧ (0 < n ∧ n < 1073741824) ∧ ∀ r : Int, 0 ≤ r → r < n → k (.int r)
  | _ => False
def mfBegun (dp : V → Hp → Prop) : MF := fun ds k _ => match ds with
  | [.frl xs] => (∃ ns : List Int, xs = ns.map .int ∧ ns.length ≤ 1000) ∧ k (.opq dp)
  | _ => False
end Dm
namespace Dm
open PySem PySem.Spec PyProof.Rows L2
theorem ints_snoc {i : Int} : ∀ {ds : List D}, (intsOf ds).isSome = true → (intsOf (ds ++ [.int i])).isSome = true
  | [], _ => rfl
  | .int j :: r, h => by
    show ((intsOf (r ++ [.int i])).map (j :: ·)).isSome = true
    have h2 : ((intsOf r).map (j :: ·)).isSome = true := h
    rw [Option.isSome_map] at h2 ⊢
    exact ints_snoc h2
  | .non :: _, h | .bl _ :: _, h | .str _ :: _, h | .lst _ :: _, h | .tup _ :: _, h | .frl _ :: _, h | .ins _ _ :: _, h | .fn _ :: _, h | .ty _ :: _, h | .cl _ :: _, h | .opq _ :: _, h | .tpl _ :: _, h | .exc _ :: _, h | .dk _ :: _, h => by cases h
theorem eqv_int0 {r : Int} (h : r ≠ 0) : PyData.eqv (.int r) (.int 0) = false := by
  simp [PyData.eqv, h]
end Dm
namespace Dm
open PySem PySem.Spec PyProof.Rows L2
theorem shaped_int (i : Int) : SeqAt.shaped (.int i) = true := rfl
theorem eqD_int (i j : Int) : eqD false (.int i) (.int j) = some (.bl (decide (i = j))) := by
  show (if SeqAt.shaped (.int i) && SeqAt.shaped (.int j) then some (D.bl (PyData.eqv (.int i) (.int j))) else none) = _
  rw [shaped_int, shaped_int]
  by_cases h : i = j
  · subst h
    simp [PyData.eqv]
  · simp [PyData.eqv, h]
end Dm
end -- DmDraw2
section -- K71a
set_option Elab.async false
set_option linter.all false
set_option maxRecDepth 100000
set_option maxHeartbeats 1000000
/-! The text of the law, what the head is asked, the facts by names. -/
namespace K71
open PySem PySem.Spec PyProof.Rows L2 Dm
def top (i : Nat) : Stmt := (PySem.Challenge.pw_pairscoloured_k71_whole_known_colourings).main.body.getD i (.Pass ⟨0, 0, 0, 0⟩)
def mth (s : Stmt) (i : Nat) : Stmt := match s with
  | .ClassDef _ _ _ b _ _ _ _ _ _ _ => b.getD i (.Pass ⟨0, 0, 0, 0⟩)
  | _ => .Pass ⟨0, 0, 0, 0⟩
abbrev s_is_number : Stmt := top 17
abbrev s_is_list : Stmt := top 18
abbrev s_is_square : Stmt := top 21
abbrev s_unlike_places : Stmt := top 29
abbrev s_on_ring : Stmt := top 30
abbrev s_order_colour : Stmt := top 31
abbrev s_pair_colour : Stmt := top 32
abbrev s_lattice_colour : Stmt := top 33
abbrev s_shifted_colour : Stmt := top 34
abbrev s_folded_colour : Stmt := top 35
abbrev s_table_by : Stmt := top 36
abbrev s_small_table : Stmt := top 37
abbrev s_table_of : Stmt := top 38
abbrev s_known_names : Stmt := top 39
abbrev s_need_known : Stmt := top 40
abbrev s_known_colouring : Stmt := top 41
abbrev s_known_facts : Stmt := top 42
abbrev s__law_begun : Stmt := top 44
abbrev s__law_mixed : Stmt := top 45
abbrev s__law_take : Stmt := top 46
abbrev s__law_pick : Stmt := top 47
abbrev s__law_named : Stmt := top 48
abbrev s__law_said : Stmt := top 49
abbrev s__law_met : Stmt := top 50
abbrev s__law_colours : Stmt := top 51
abbrev s__law_turned : Stmt := top 52
abbrev s__law_triangles : Stmt := top 53
abbrev s__law_finer_once : Stmt := top 54
abbrev s__law_is_coherent : Stmt := top 55
abbrev s__law_is_scheme : Stmt := top 56
abbrev s__law_places : Stmt := top 57
abbrev s__law_orders : Stmt := top 58
abbrev s__law_six : Stmt := top 59
abbrev s__law_near : Stmt := top 60
abbrev s__law_known : Stmt := top 61
abbrev s__law_facts : Stmt := top 62
abbrev s__law_round : Stmt := top 63
abbrev s_law : Stmt := top 64
abbrev s_Colouring_init : Stmt := mth (top 22) 0
def dc_MOST_COLOURED : D := (.int 16)
def dc_KNOWN : D := (.tup [(.str "alone"), (.str "two"), (.str "wheel"), (.str "parted"), (.str "square"), (.str "ring"), (.str "six"), (.str "cube"), (.str "petersen"), (.str "lattice"), (.str "shrikhande"), (.str "clebsch")])
def dc_PARTED : D := (.tup [(.tup [(.int 0), (.int 1), (.int 1)]), (.tup [(.int 2), (.int 3), (.int 4)]), (.tup [(.int 2), (.int 4), (.int 3)])])
def dc_SIDE : D := (.int 4)
def dc_SHIFTS : D := (.tup [(.tup [(.int 0), (.int 1)]), (.tup [(.int 0), (.int 3)]), (.tup [(.int 1), (.int 0)]), (.tup [(.int 3), (.int 0)]), (.tup [(.int 1), (.int 1)]), (.tup [(.int 3), (.int 3)])])
def fs_FACTS : List (Str × D) := [("alone", (.tup [(.int 1), (.int 1), (.bl true), (.bl true), (.bl true)])), ("two", (.tup [(.int 2), (.int 2), (.bl true), (.bl true), (.bl true)])), ("wheel", (.tup [(.int 3), (.int 3), (.bl true), (.bl true), (.bl false)])), ("parted", (.tup [(.int 3), (.int 5), (.bl false), (.bl false), (.bl false)])), ("square", (.tup [(.int 4), (.int 3), (.bl true), (.bl true), (.bl true)])), ("ring", (.tup [(.int 5), (.int 3), (.bl true), (.bl true), (.bl true)])), ("six", (.tup [(.int 6), (.int 6), (.bl true), (.bl false), (.bl false)])), ("cube", (.tup [(.int 8), (.int 4), (.bl true), (.bl true), (.bl true)])), ("petersen", (.tup [(.int 10), (.int 3), (.bl true), (.bl true), (.bl true)])), ("lattice", (.tup [(.int 16), (.int 3), (.bl true), (.bl true), (.bl true)])), ("shrikhande", (.tup [(.int 16), (.int 3), (.bl true), (.bl true), (.bl true)])), ("clebsch", (.tup [(.int 16), (.int 3), (.bl true), (.bl true), (.bl true)]))]
def clsN : List Str := ["Colouring", "PairError", "NoName", "NoFlag", "TooMany", "BadNumber", "BadLog", "BadName", "BadDeed", "BadDeeds", "NotNow", "BadText", "BadLive", "BadLine", "BadColouring"]
def Γk (K : PySem.W.Frag) : Gam := ⟨fun i => He.ga K (clsN.getD i ""), fun _ => 0⟩
def clsT : ClsT := ⟨fun _ _ => none, fun d c => if Nat.beq d 7 && Nat.blt c 15 then some (Nat.beq c 7 || Nat.beq c 1) else none, fun _ _ => none, fun c => Nat.beq c 7, fun _ => false⟩
def isPair (c : Nat) : Option Bool := if Nat.beq c 7 then some true else none
def fa : List He.Fa := [.glo "BadColouring", .glo "BadDeed", .glo "BadDeeds", .glo "BadLine", .glo "BadLive", .glo "BadLog", .glo "BadName", .glo "BadNumber", .glo "BadText", .glo "Colouring", .glo "FACTS", .glo "NoFlag", .glo "NoName", .glo "NotNow", .glo "PairError", .glo "TooMany", .glo "_law_begun", .glo "_law_colours", .glo "_law_facts", .glo "_law_finer_once", .glo "_law_is_coherent", .glo "_law_is_scheme", .glo "_law_known", .glo "_law_met", .glo "_law_mixed", .glo "_law_named", .glo "_law_near", .glo "_law_orders", .glo "_law_pick", .glo "_law_places", .glo "_law_round", .glo "_law_said", .glo "_law_six", .glo "_law_take", .glo "_law_triangles", .glo "_law_turned", .glo "folded_colour", .glo "is_list", .glo "is_number", .glo "is_square", .glo "known_colouring", .glo "known_facts", .glo "known_names", .glo "lattice_colour", .glo "law", .glo "need_known", .glo "on_ring", .glo "order_colour", .glo "pair_colour", .glo "shifted_colour", .glo "small_table", .glo "table_by", .glo "table_of", .glo "unlike_places", .free "abs", .free "all", .free "bool", .free "enumerate", .free "int", .free "isinstance", .free "len", .free "list", .free "max", .free "min", .free "range", .free "repr", .free "sorted", .free "str", .free "tuple", .cls "Colouring", .noat "Colouring" "points", .noat "Colouring" "colours", .noat "Colouring" "table", .mkr "Colouring", .exc "BadName", .exm "BadName" "PairError" true]
def fn : List He.DefD := [⟨("is_number", none), "is_number", "is_number", defArgs s_is_number, defBody s_is_number, defScope s_is_number, [], []⟩, ⟨("is_list", none), "is_list", "is_list", defArgs s_is_list, defBody s_is_list, defScope s_is_list, [], []⟩, ⟨("is_square", none), "is_square", "is_square", defArgs s_is_square, defBody s_is_square, defScope s_is_square, [], []⟩, ⟨("unlike_places", none), "unlike_places", "unlike_places", defArgs s_unlike_places, defBody s_unlike_places, defScope s_unlike_places, [], []⟩, ⟨("on_ring", none), "on_ring", "on_ring", defArgs s_on_ring, defBody s_on_ring, defScope s_on_ring, [], []⟩, ⟨("order_colour", none), "order_colour", "order_colour", defArgs s_order_colour, defBody s_order_colour, defScope s_order_colour, [], []⟩, ⟨("pair_colour", none), "pair_colour", "pair_colour", defArgs s_pair_colour, defBody s_pair_colour, defScope s_pair_colour, [], []⟩, ⟨("lattice_colour", none), "lattice_colour", "lattice_colour", defArgs s_lattice_colour, defBody s_lattice_colour, defScope s_lattice_colour, [], []⟩, ⟨("shifted_colour", none), "shifted_colour", "shifted_colour", defArgs s_shifted_colour, defBody s_shifted_colour, defScope s_shifted_colour, [], []⟩, ⟨("folded_colour", none), "folded_colour", "folded_colour", defArgs s_folded_colour, defBody s_folded_colour, defScope s_folded_colour, [], []⟩, ⟨("table_by", none), "table_by", "table_by", defArgs s_table_by, defBody s_table_by, defScope s_table_by, [], []⟩, ⟨("small_table", none), "small_table", "small_table", defArgs s_small_table, defBody s_small_table, defScope s_small_table, [], []⟩, ⟨("table_of", none), "table_of", "table_of", defArgs s_table_of, defBody s_table_of, defScope s_table_of, [], []⟩, ⟨("known_names", none), "known_names", "known_names", defArgs s_known_names, defBody s_known_names, defScope s_known_names, [], []⟩, ⟨("need_known", none), "need_known", "need_known", defArgs s_need_known, defBody s_need_known, defScope s_need_known, [], []⟩, ⟨("known_colouring", none), "known_colouring", "known_colouring", defArgs s_known_colouring, defBody s_known_colouring, defScope s_known_colouring, [], []⟩, ⟨("known_facts", none), "known_facts", "known_facts", defArgs s_known_facts, defBody s_known_facts, defScope s_known_facts, [], []⟩, ⟨("_law_begun", none), "_law_begun", "_law_begun", defArgs s__law_begun, defBody s__law_begun, defScope s__law_begun, [], []⟩, ⟨("_law_mixed", none), "_law_mixed", "_law_mixed", defArgs s__law_mixed, defBody s__law_mixed, defScope s__law_mixed, [], []⟩, ⟨("_law_take", none), "_law_take", "_law_take", defArgs s__law_take, defBody s__law_take, defScope s__law_take, [], []⟩, ⟨("_law_pick", none), "_law_pick", "_law_pick", defArgs s__law_pick, defBody s__law_pick, defScope s__law_pick, [], []⟩, ⟨("_law_named", none), "_law_named", "_law_named", defArgs s__law_named, defBody s__law_named, defScope s__law_named, [], []⟩, ⟨("_law_said", none), "_law_said", "_law_said", defArgs s__law_said, defBody s__law_said, defScope s__law_said, [], []⟩, ⟨("_law_met", none), "_law_met", "_law_met", defArgs s__law_met, defBody s__law_met, defScope s__law_met, [], []⟩, ⟨("_law_colours", none), "_law_colours", "_law_colours", defArgs s__law_colours, defBody s__law_colours, defScope s__law_colours, [], []⟩, ⟨("_law_turned", none), "_law_turned", "_law_turned", defArgs s__law_turned, defBody s__law_turned, defScope s__law_turned, [], []⟩, ⟨("_law_triangles", none), "_law_triangles", "_law_triangles", defArgs s__law_triangles, defBody s__law_triangles, defScope s__law_triangles, [], []⟩, ⟨("_law_finer_once", none), "_law_finer_once", "_law_finer_once", defArgs s__law_finer_once, defBody s__law_finer_once, defScope s__law_finer_once, [], []⟩, ⟨("_law_is_coherent", none), "_law_is_coherent", "_law_is_coherent", defArgs s__law_is_coherent, defBody s__law_is_coherent, defScope s__law_is_coherent, [], []⟩, ⟨("_law_is_scheme", none), "_law_is_scheme", "_law_is_scheme", defArgs s__law_is_scheme, defBody s__law_is_scheme, defScope s__law_is_scheme, [], []⟩, ⟨("_law_places", none), "_law_places", "_law_places", defArgs s__law_places, defBody s__law_places, defScope s__law_places, [], []⟩, ⟨("_law_orders", none), "_law_orders", "_law_orders", defArgs s__law_orders, defBody s__law_orders, defScope s__law_orders, [], []⟩, ⟨("_law_six", none), "_law_six", "_law_six", defArgs s__law_six, defBody s__law_six, defScope s__law_six, [], []⟩, ⟨("_law_near", none), "_law_near", "_law_near", defArgs s__law_near, defBody s__law_near, defScope s__law_near, [], []⟩, ⟨("_law_known", none), "_law_known", "_law_known", defArgs s__law_known, defBody s__law_known, defScope s__law_known, [], []⟩, ⟨("_law_facts", none), "_law_facts", "_law_facts", defArgs s__law_facts, defBody s__law_facts, defScope s__law_facts, [], []⟩, ⟨("_law_round", none), "_law_round", "_law_round", defArgs s__law_round, defBody s__law_round, defScope s__law_round, [], []⟩, ⟨("law", none), "law", "law", defArgs s_law, defBody s_law, defScope s_law, [], []⟩, ⟨("Colouring", some "__init__"), "__init__", "Colouring.__init__", defArgs s_Colouring_init, defBody s_Colouring_init, defScope s_Colouring_init, [], []⟩]
def ts : List He.Tab := [(fun K => He.ga K "FACTS", ["alone", "two", "wheel", "parted", "square", "ring", "six", "cube", "petersen", "lattice", "shrikhande", "clebsch"])]
def tf : List He.Defn := [("law", none), ("small_table", none)]
def constChk (x : Str) (d : D) (K : PySem.W.Frag) : Bool := match PySem.W.nsIn K mainGlobals x with
  | some (some u) => constB K 8 u d
  | _ => false
def tyChk (x : Str) (t : String) (K : PySem.W.Frag) : Bool := He.eqO (PySem.W.nsIn K mainGlobals x) (some (some (.type t)))
def kitChk (c : Nat) (K : PySem.W.Frag) : Bool := decide (PySem.W.kitOne K (.ref ((Γk K).cls 7)) (.ref ((Γk K).cls c)) = some (Nat.beq c 7 || Nat.beq c 1))
def excChk (K : PySem.W.Frag) : Bool := He.eqO (PySem.W.findIn K (.ref ((Γk K).cls 7)) "__getattribute__") (some (some (.builtin "BaseException.__getattribute__"))) && (He.eqO (PySem.W.findIn K (.ref ((Γk K).cls 7)) "__getattr__") (some none) && (decide (PySem.W.subIn K (.ref ((Γk K).cls 7)) (.type "BaseException") = some true) && (PySem.W.hasDictIn K ((Γk K).cls 7) && (He.eqO (PySem.W.findIn K (.ref ((Γk K).cls 7)) "__class__") (some (some (.builtin "object.__class__"))) && (He.eqO (PySem.W.specialIn K (.builtin "object.__class__") "__get__") (some (some (.builtin "getset_descriptor.__get__"))) && (decide (PySem.W.takesIn K (.builtin "object.__class__") = some true) && decide (PySem.W.mroIn K ((Γk K).cls 7) (.type "object") = some true)))))))
def tabChk (K : PySem.W.Frag) : Bool := !decide ((He.cT K ("law", none)).2 = (He.cT K ("small_table", none)).2)
def exs : List (PySem.W.Frag → Bool) := [constChk "MOST_COLOURED" dc_MOST_COLOURED, constChk "KNOWN" dc_KNOWN, constChk "PARTED" dc_PARTED, constChk "SIDE" dc_SIDE, constChk "SHIFTS" dc_SHIFTS, tyChk "permutations" "itertools.permutations", tyChk "combinations" "itertools.combinations", fun K => factsB K (He.ga K "FACTS") fs_FACTS, fun K => (List.range 15).all fun c => kitChk c K, excChk, tabChk]
def ex (K : PySem.W.Frag) : Bool := exs.all fun f => f K
def csk (K : PySem.W.Frag) : List (Addr × Addr) := tf.map (He.cT K)
structure Tx [Tbs] (w : World) (K : PySem.W.Frag) (mg : Str → Option Value) : Prop where
  ex : ∃ h : Heap, K.In h ∧ h.Ns mainGlobals mg ∧ He.SaysX fa fn ts tf ex w h K
  tbs : Tbs.T = tf.map fun p => ((He.cT K p).2, p.1 ++ ".<locals>." ++ "<lambda>")
section
variable [Tbs] {w : World} {K : PySem.W.Frag} {mg : Str → Option Value}
theorem Tx.fact (T : Tx w K mg) (i : Nat) {f : He.Fa} (h : fa[i]? = some f := by rfl) : f.ok K = true := let ⟨_, _, _, c⟩ := T.ex; c.t.d.fact i h
theorem Tx.glo (T : Tx w K mg) {x : Str} (h : (He.Fa.glo x).ok K = true) : mg x = some (.ref (He.ga K x)) := let ⟨_, X, G, _⟩ := T.ex; He.glo_ok X G h
theorem Tx.free (T : Tx w K mg) {x : Str} (h : (He.Fa.free x).ok K = true) : mg x = none := let ⟨_, X, G, _⟩ := T.ex; He.free_ok X G h
theorem Tx.chk (T : Tx w K mg) (i : Nat) {f : PySem.W.Frag → Bool} (h : exs[i]? = some f := by rfl) : f K = true := let ⟨_, _, _, c⟩ := T.ex; List.all_eq_true.mp c.more f (List.mem_of_getElem? h)
theorem Tx.dfn (T : Tx w K mg) (i : Nat) {x : Str} {st : Stmt} (h : fn[i]? = some ⟨(x, none), x, x, defArgs st, defBody st, defScope st, [], []⟩ := by rfl) : FdAt K x st := let ⟨_, _, _, c⟩ := T.ex; c.t.d.def_ i h
theorem Tx.con (T : Tx w K mg) {x : Str} {d : D} (h : constChk x d K = true) : ConstAt K mg x d := by
  obtain ⟨_, X, G, _⟩ := T.ex
  unfold constChk at h
  split at h
  · rename_i u e
    exact ⟨u, PySem.W.mg_of X G e, h⟩
  · cases h
theorem Tx.tyc (T : Tx w K mg) {x : Str} {t : String} (h : tyChk x t K = true) : mg x = some (.type t) := let ⟨_, X, G, _⟩ := T.ex; PySem.W.mg_of X G (He.eqO_ok h)
theorem Tx.excg (T : Tx w K mg) {x : Str} (h : (He.Fa.exc x).ok K = true) (hg : (He.Fa.glo x).ok K = true) : ExcG K mg x := let ⟨a, b, c, d⟩ := He.exc_ok h; ⟨a, T.glo hg, b, c, d⟩
theorem Tx.g_BadColouring (T : Tx w K mg) : mg "BadColouring" = some (.ref (He.ga K "BadColouring")) := T.glo (T.fact 0)
theorem Tx.g_BadDeed (T : Tx w K mg) : mg "BadDeed" = some (.ref (He.ga K "BadDeed")) := T.glo (T.fact 1)
theorem Tx.g_BadDeeds (T : Tx w K mg) : mg "BadDeeds" = some (.ref (He.ga K "BadDeeds")) := T.glo (T.fact 2)
theorem Tx.g_BadLine (T : Tx w K mg) : mg "BadLine" = some (.ref (He.ga K "BadLine")) := T.glo (T.fact 3)
theorem Tx.g_BadLive (T : Tx w K mg) : mg "BadLive" = some (.ref (He.ga K "BadLive")) := T.glo (T.fact 4)
theorem Tx.g_BadLog (T : Tx w K mg) : mg "BadLog" = some (.ref (He.ga K "BadLog")) := T.glo (T.fact 5)
theorem Tx.g_BadName (T : Tx w K mg) : mg "BadName" = some (.ref (He.ga K "BadName")) := T.glo (T.fact 6)
theorem Tx.g_BadNumber (T : Tx w K mg) : mg "BadNumber" = some (.ref (He.ga K "BadNumber")) := T.glo (T.fact 7)
theorem Tx.g_BadText (T : Tx w K mg) : mg "BadText" = some (.ref (He.ga K "BadText")) := T.glo (T.fact 8)
theorem Tx.g_Colouring (T : Tx w K mg) : mg "Colouring" = some (.ref (He.ga K "Colouring")) := T.glo (T.fact 9)
theorem Tx.g_FACTS (T : Tx w K mg) : mg "FACTS" = some (.ref (He.ga K "FACTS")) := T.glo (T.fact 10)
theorem Tx.g_NoFlag (T : Tx w K mg) : mg "NoFlag" = some (.ref (He.ga K "NoFlag")) := T.glo (T.fact 11)
theorem Tx.g_NoName (T : Tx w K mg) : mg "NoName" = some (.ref (He.ga K "NoName")) := T.glo (T.fact 12)
theorem Tx.g_NotNow (T : Tx w K mg) : mg "NotNow" = some (.ref (He.ga K "NotNow")) := T.glo (T.fact 13)
theorem Tx.g_PairError (T : Tx w K mg) : mg "PairError" = some (.ref (He.ga K "PairError")) := T.glo (T.fact 14)
theorem Tx.g_TooMany (T : Tx w K mg) : mg "TooMany" = some (.ref (He.ga K "TooMany")) := T.glo (T.fact 15)
theorem Tx.g__law_begun (T : Tx w K mg) : mg "_law_begun" = some (.ref (He.ga K "_law_begun")) := T.glo (T.fact 16)
theorem Tx.g__law_colours (T : Tx w K mg) : mg "_law_colours" = some (.ref (He.ga K "_law_colours")) := T.glo (T.fact 17)
theorem Tx.g__law_facts (T : Tx w K mg) : mg "_law_facts" = some (.ref (He.ga K "_law_facts")) := T.glo (T.fact 18)
theorem Tx.g__law_finer_once (T : Tx w K mg) : mg "_law_finer_once" = some (.ref (He.ga K "_law_finer_once")) := T.glo (T.fact 19)
theorem Tx.g__law_is_coherent (T : Tx w K mg) : mg "_law_is_coherent" = some (.ref (He.ga K "_law_is_coherent")) := T.glo (T.fact 20)
theorem Tx.g__law_is_scheme (T : Tx w K mg) : mg "_law_is_scheme" = some (.ref (He.ga K "_law_is_scheme")) := T.glo (T.fact 21)
theorem Tx.g__law_known (T : Tx w K mg) : mg "_law_known" = some (.ref (He.ga K "_law_known")) := T.glo (T.fact 22)
theorem Tx.g__law_met (T : Tx w K mg) : mg "_law_met" = some (.ref (He.ga K "_law_met")) := T.glo (T.fact 23)
theorem Tx.g__law_mixed (T : Tx w K mg) : mg "_law_mixed" = some (.ref (He.ga K "_law_mixed")) := T.glo (T.fact 24)
theorem Tx.g__law_named (T : Tx w K mg) : mg "_law_named" = some (.ref (He.ga K "_law_named")) := T.glo (T.fact 25)
theorem Tx.g__law_near (T : Tx w K mg) : mg "_law_near" = some (.ref (He.ga K "_law_near")) := T.glo (T.fact 26)
theorem Tx.g__law_orders (T : Tx w K mg) : mg "_law_orders" = some (.ref (He.ga K "_law_orders")) := T.glo (T.fact 27)
theorem Tx.g__law_pick (T : Tx w K mg) : mg "_law_pick" = some (.ref (He.ga K "_law_pick")) := T.glo (T.fact 28)
theorem Tx.g__law_places (T : Tx w K mg) : mg "_law_places" = some (.ref (He.ga K "_law_places")) := T.glo (T.fact 29)
theorem Tx.g__law_round (T : Tx w K mg) : mg "_law_round" = some (.ref (He.ga K "_law_round")) := T.glo (T.fact 30)
theorem Tx.g__law_said (T : Tx w K mg) : mg "_law_said" = some (.ref (He.ga K "_law_said")) := T.glo (T.fact 31)
theorem Tx.g__law_six (T : Tx w K mg) : mg "_law_six" = some (.ref (He.ga K "_law_six")) := T.glo (T.fact 32)
theorem Tx.g__law_take (T : Tx w K mg) : mg "_law_take" = some (.ref (He.ga K "_law_take")) := T.glo (T.fact 33)
theorem Tx.g__law_triangles (T : Tx w K mg) : mg "_law_triangles" = some (.ref (He.ga K "_law_triangles")) := T.glo (T.fact 34)
theorem Tx.g__law_turned (T : Tx w K mg) : mg "_law_turned" = some (.ref (He.ga K "_law_turned")) := T.glo (T.fact 35)
theorem Tx.g_folded_colour (T : Tx w K mg) : mg "folded_colour" = some (.ref (He.ga K "folded_colour")) := T.glo (T.fact 36)
theorem Tx.g_is_list (T : Tx w K mg) : mg "is_list" = some (.ref (He.ga K "is_list")) := T.glo (T.fact 37)
theorem Tx.g_is_number (T : Tx w K mg) : mg "is_number" = some (.ref (He.ga K "is_number")) := T.glo (T.fact 38)
theorem Tx.g_is_square (T : Tx w K mg) : mg "is_square" = some (.ref (He.ga K "is_square")) := T.glo (T.fact 39)
theorem Tx.g_known_colouring (T : Tx w K mg) : mg "known_colouring" = some (.ref (He.ga K "known_colouring")) := T.glo (T.fact 40)
theorem Tx.g_known_facts (T : Tx w K mg) : mg "known_facts" = some (.ref (He.ga K "known_facts")) := T.glo (T.fact 41)
theorem Tx.g_known_names (T : Tx w K mg) : mg "known_names" = some (.ref (He.ga K "known_names")) := T.glo (T.fact 42)
theorem Tx.g_lattice_colour (T : Tx w K mg) : mg "lattice_colour" = some (.ref (He.ga K "lattice_colour")) := T.glo (T.fact 43)
theorem Tx.g_law (T : Tx w K mg) : mg "law" = some (.ref (He.ga K "law")) := T.glo (T.fact 44)
theorem Tx.g_need_known (T : Tx w K mg) : mg "need_known" = some (.ref (He.ga K "need_known")) := T.glo (T.fact 45)
theorem Tx.g_on_ring (T : Tx w K mg) : mg "on_ring" = some (.ref (He.ga K "on_ring")) := T.glo (T.fact 46)
theorem Tx.g_order_colour (T : Tx w K mg) : mg "order_colour" = some (.ref (He.ga K "order_colour")) := T.glo (T.fact 47)
theorem Tx.g_pair_colour (T : Tx w K mg) : mg "pair_colour" = some (.ref (He.ga K "pair_colour")) := T.glo (T.fact 48)
theorem Tx.g_shifted_colour (T : Tx w K mg) : mg "shifted_colour" = some (.ref (He.ga K "shifted_colour")) := T.glo (T.fact 49)
theorem Tx.g_small_table (T : Tx w K mg) : mg "small_table" = some (.ref (He.ga K "small_table")) := T.glo (T.fact 50)
theorem Tx.g_table_by (T : Tx w K mg) : mg "table_by" = some (.ref (He.ga K "table_by")) := T.glo (T.fact 51)
theorem Tx.g_table_of (T : Tx w K mg) : mg "table_of" = some (.ref (He.ga K "table_of")) := T.glo (T.fact 52)
theorem Tx.g_unlike_places (T : Tx w K mg) : mg "unlike_places" = some (.ref (He.ga K "unlike_places")) := T.glo (T.fact 53)
theorem Tx.n_abs (T : Tx w K mg) : mg "abs" = none := T.free (T.fact 54)
theorem Tx.n_all (T : Tx w K mg) : mg "all" = none := T.free (T.fact 55)
theorem Tx.n_bool (T : Tx w K mg) : mg "bool" = none := T.free (T.fact 56)
theorem Tx.n_enumerate (T : Tx w K mg) : mg "enumerate" = none := T.free (T.fact 57)
theorem Tx.n_int (T : Tx w K mg) : mg "int" = none := T.free (T.fact 58)
theorem Tx.n_isinstance (T : Tx w K mg) : mg "isinstance" = none := T.free (T.fact 59)
theorem Tx.n_len (T : Tx w K mg) : mg "len" = none := T.free (T.fact 60)
theorem Tx.n_list (T : Tx w K mg) : mg "list" = none := T.free (T.fact 61)
theorem Tx.n_max (T : Tx w K mg) : mg "max" = none := T.free (T.fact 62)
theorem Tx.n_min (T : Tx w K mg) : mg "min" = none := T.free (T.fact 63)
theorem Tx.n_range (T : Tx w K mg) : mg "range" = none := T.free (T.fact 64)
theorem Tx.n_repr (T : Tx w K mg) : mg "repr" = none := T.free (T.fact 65)
theorem Tx.n_sorted (T : Tx w K mg) : mg "sorted" = none := T.free (T.fact 66)
theorem Tx.n_str (T : Tx w K mg) : mg "str" = none := T.free (T.fact 67)
theorem Tx.n_tuple (T : Tx w K mg) : mg "tuple" = none := T.free (T.fact 68)
theorem Tx.cl_Colouring (T : Tx w K mg) : Cls K ((Γk K).cls 0) := He.cls_ok (T.fact 69)
theorem Tx.na_Colouring_points (T : Tx w K mg) : NoAttr K ((Γk K).cls 0) "points" := He.noat_ok (T.fact 70)
theorem Tx.na_Colouring_colours (T : Tx w K mg) : NoAttr K ((Γk K).cls 0) "colours" := He.noat_ok (T.fact 71)
theorem Tx.na_Colouring_table (T : Tx w K mg) : NoAttr K ((Γk K).cls 0) "table" := He.noat_ok (T.fact 72)
theorem Tx.mk_Colouring (T : Tx w K mg) : L2.Mk K (He.ga K "Colouring") (He.ma K (He.ga K "Colouring") "__init__") := He.mkr_ok (T.fact 73)
theorem Tx.x_BadName (T : Tx w K mg) : ExcG K mg "BadName" := T.excg (T.fact 74) (T.fact 6)
theorem Tx.isPair (T : Tx w K mg) : ∀ c b, isPair c = some b → PySem.W.exmOne K (.ref ((Γk K).cls c)) (.ref (He.ga K "PairError")) = some b := by
  intro c b h
  unfold K71.isPair at h
  split at h
  · rename_i e
    cases h
    rw [Nat.eq_of_beq_eq_true e]
    exact He.exm_ok (T.fact 75)
  · cases h
theorem Tx.c_MOST_COLOURED (T : Tx w K mg) : ConstAt K mg "MOST_COLOURED" dc_MOST_COLOURED := T.con (T.chk 0)
theorem Tx.c_KNOWN (T : Tx w K mg) : ConstAt K mg "KNOWN" dc_KNOWN := T.con (T.chk 1)
theorem Tx.c_PARTED (T : Tx w K mg) : ConstAt K mg "PARTED" dc_PARTED := T.con (T.chk 2)
theorem Tx.c_SIDE (T : Tx w K mg) : ConstAt K mg "SIDE" dc_SIDE := T.con (T.chk 3)
theorem Tx.c_SHIFTS (T : Tx w K mg) : ConstAt K mg "SHIFTS" dc_SHIFTS := T.con (T.chk 4)
theorem Tx.t_permutations (T : Tx w K mg) : mg "permutations" = some (.type "itertools.permutations") := T.tyc (T.chk 5)
theorem Tx.t_combinations (T : Tx w K mg) : mg "combinations" = some (.type "itertools.combinations") := T.tyc (T.chk 6)
theorem Tx.f_FACTS (T : Tx w K mg) : ∀ x d, fs_FACTS.lookup x = some d → ∃ v, KDct K w (He.ga K "FACTS") x v ∧ ∀ G, Rp K (Γk K) G v d := by
  obtain ⟨_, _, _, c⟩ := id T.ex
  obtain ⟨es, n, kd⟩ := c.t.tab 0
  obtain ⟨k1, k2, _⟩ := kd
  exact facts_ok k1 k2 (T.chk 7 (f := fun K => factsB K (He.ga K "FACTS") fs_FACTS))
theorem Tx.isi (T : Tx w K mg) : IsiK K (Γk K) clsT := by
  refine ⟨fun t c b h => (nomatch (show (none : Option Bool) = some b from h)), fun d c b h => ?_, fun d t b h => (nomatch (show (none : Option Bool) = some b from h)), fun c h => ?_, fun c h => (nomatch (show false = true from h))⟩
  · replace h : (if Nat.beq d 7 && Nat.blt c 15 then some (Nat.beq c 7 || Nat.beq c 1) else none) = some b := h
    split at h
    · rename_i e
      rw [Bool.and_eq_true] at e
      cases h
      have k := List.all_eq_true.mp (T.chk 8 (f := fun K => (List.range 15).all fun c => kitChk c K)) c (List.mem_range.mpr (Nat.le_of_ble_eq_true e.2))
      rw [Nat.eq_of_beq_eq_true e.1]
      exact of_decide_eq_true k
    · cases h
  · replace h : Nat.beq c 7 = true := h
    rw [Nat.eq_of_beq_eq_true h]
    have k := T.chk 9 (f := excChk)
    unfold excChk at k
    simp only [Bool.and_eq_true, decide_eq_true_eq] at k
    obtain ⟨k1, k2, k3, k4, k5, k6, k7, k8⟩ := k
    exact ⟨He.eqO_ok k1, He.eqO_ok k2, k3, k4, He.eqO_ok k5, He.eqO_ok k6, k7, k8⟩
theorem Tx.tabs (T : Tx w K mg) : (He.cT K ("law", none)).2 ≠ (He.cT K ("small_table", none)).2 := by
  have k := T.chk 10 (f := tabChk)
  unfold tabChk at k
  simpa using k
theorem Tx.lam_law (T : Tx w K mg) : LamF K (csk K) "law" ("law" ++ ".<locals>.") := by
  refine ⟨by rw [T.tbs]; exact List.mem_cons_self, fun p hp e => ?_, List.mem_cons_self⟩
  rw [T.tbs] at hp
  rcases List.mem_cons.mp hp with z | z
  · rw [z]
  · rcases List.mem_cons.mp z with z | z
    · rw [z] at e
      exact absurd e.symm T.tabs
    · cases z
theorem Tx.lam_small_table (T : Tx w K mg) : LamF K (csk K) "small_table" ("small_table" ++ ".<locals>.") := by
  refine ⟨by rw [T.tbs]; exact List.mem_cons_of_mem _ List.mem_cons_self, fun p hp e => ?_, List.mem_cons_of_mem _ List.mem_cons_self⟩
  rw [T.tbs] at hp
  rcases List.mem_cons.mp hp with z | z
  · rw [z] at e
    exact absurd e T.tabs
  · rcases List.mem_cons.mp z with z | z
    · rw [z]
    · cases z
theorem Tx.d_is_number (T : Tx w K mg) : FdAt K "is_number" s_is_number := T.dfn 0
theorem Tx.d_is_list (T : Tx w K mg) : FdAt K "is_list" s_is_list := T.dfn 1
theorem Tx.d_is_square (T : Tx w K mg) : FdAt K "is_square" s_is_square := T.dfn 2
theorem Tx.d_unlike_places (T : Tx w K mg) : FdAt K "unlike_places" s_unlike_places := T.dfn 3
theorem Tx.d_on_ring (T : Tx w K mg) : FdAt K "on_ring" s_on_ring := T.dfn 4
theorem Tx.d_order_colour (T : Tx w K mg) : FdAt K "order_colour" s_order_colour := T.dfn 5
theorem Tx.d_pair_colour (T : Tx w K mg) : FdAt K "pair_colour" s_pair_colour := T.dfn 6
theorem Tx.d_lattice_colour (T : Tx w K mg) : FdAt K "lattice_colour" s_lattice_colour := T.dfn 7
theorem Tx.d_shifted_colour (T : Tx w K mg) : FdAt K "shifted_colour" s_shifted_colour := T.dfn 8
theorem Tx.d_folded_colour (T : Tx w K mg) : FdAt K "folded_colour" s_folded_colour := T.dfn 9
theorem Tx.d_table_by (T : Tx w K mg) : FdAt K "table_by" s_table_by := T.dfn 10
theorem Tx.d_small_table (T : Tx w K mg) : FdAt K "small_table" s_small_table := T.dfn 11
theorem Tx.d_table_of (T : Tx w K mg) : FdAt K "table_of" s_table_of := T.dfn 12
theorem Tx.d_known_names (T : Tx w K mg) : FdAt K "known_names" s_known_names := T.dfn 13
theorem Tx.d_need_known (T : Tx w K mg) : FdAt K "need_known" s_need_known := T.dfn 14
theorem Tx.d_known_colouring (T : Tx w K mg) : FdAt K "known_colouring" s_known_colouring := T.dfn 15
theorem Tx.d_known_facts (T : Tx w K mg) : FdAt K "known_facts" s_known_facts := T.dfn 16
theorem Tx.d__law_begun (T : Tx w K mg) : FdAt K "_law_begun" s__law_begun := T.dfn 17
theorem Tx.d__law_mixed (T : Tx w K mg) : FdAt K "_law_mixed" s__law_mixed := T.dfn 18
theorem Tx.d__law_take (T : Tx w K mg) : FdAt K "_law_take" s__law_take := T.dfn 19
theorem Tx.d__law_pick (T : Tx w K mg) : FdAt K "_law_pick" s__law_pick := T.dfn 20
theorem Tx.d__law_named (T : Tx w K mg) : FdAt K "_law_named" s__law_named := T.dfn 21
theorem Tx.d__law_said (T : Tx w K mg) : FdAt K "_law_said" s__law_said := T.dfn 22
theorem Tx.d__law_met (T : Tx w K mg) : FdAt K "_law_met" s__law_met := T.dfn 23
theorem Tx.d__law_colours (T : Tx w K mg) : FdAt K "_law_colours" s__law_colours := T.dfn 24
theorem Tx.d__law_turned (T : Tx w K mg) : FdAt K "_law_turned" s__law_turned := T.dfn 25
theorem Tx.d__law_triangles (T : Tx w K mg) : FdAt K "_law_triangles" s__law_triangles := T.dfn 26
theorem Tx.d__law_finer_once (T : Tx w K mg) : FdAt K "_law_finer_once" s__law_finer_once := T.dfn 27
theorem Tx.d__law_is_coherent (T : Tx w K mg) : FdAt K "_law_is_coherent" s__law_is_coherent := T.dfn 28
theorem Tx.d__law_is_scheme (T : Tx w K mg) : FdAt K "_law_is_scheme" s__law_is_scheme := T.dfn 29
theorem Tx.d__law_places (T : Tx w K mg) : FdAt K "_law_places" s__law_places := T.dfn 30
theorem Tx.d__law_orders (T : Tx w K mg) : FdAt K "_law_orders" s__law_orders := T.dfn 31
theorem Tx.d__law_six (T : Tx w K mg) : FdAt K "_law_six" s__law_six := T.dfn 32
theorem Tx.d__law_near (T : Tx w K mg) : FdAt K "_law_near" s__law_near := T.dfn 33
theorem Tx.d__law_known (T : Tx w K mg) : FdAt K "_law_known" s__law_known := T.dfn 34
theorem Tx.d__law_facts (T : Tx w K mg) : FdAt K "_law_facts" s__law_facts := T.dfn 35
theorem Tx.d__law_round (T : Tx w K mg) : FdAt K "_law_round" s__law_round := T.dfn 36
theorem Tx.d_law (T : Tx w K mg) : FdAt K "law" s_law := T.dfn 37
theorem Tx.d_init (T : Tx w K mg) : ∃ fd, FunD K "__init__" "Colouring.__init__" (defArgs s_Colouring_init) (defBody s_Colouring_init) (defScope s_Colouring_init) [] [] (He.ma K (He.ga K "Colouring") "__init__") fd := let ⟨_, _, _, c⟩ := T.ex; c.t.d.def_ 38 (d := ⟨("Colouring", some "__init__"), "__init__", "Colouring.__init__", defArgs s_Colouring_init, defBody s_Colouring_init, defScope s_Colouring_init, [], []⟩) rfl
theorem Tx.kb_known_colouring (T : Tx w K mg) : KBn1 K "known_colouring" "name" := kbn1 T.d_known_colouring (fun _ _ _ _ _ _ _ => rfl) (fun _ _ _ _ _ _ _ => rfl)
theorem Tx.kb_known_facts (T : Tx w K mg) : KBn1 K "known_facts" "name" := kbn1 T.d_known_facts (fun _ _ _ _ _ _ _ => rfl) (fun _ _ _ _ _ _ _ => rfl)
end
end K71
end -- K71a
section -- K71r
set_option Elab.async false
set_option linter.all false
set_option maxRecDepth 100000
set_option maxHeartbeats 0
namespace K71
open PySem PySem.W PySem.Calls PyProof.Rows
abbrev R : OpenRow := OpenLaw.row PySem.Challenge.rw_pairscoloured_k71_whole_known_colourings
abbrev hk : PySem.W.Hook := He.hookX 4 fa fn ts tf ex
def ob (s : PySem.W.SharedT) : He.AlX := He.obsX 4 fa fn ts tf ex (HandSHeadRun.getT s)
theorem ob_eq (s : PySem.W.SharedT) : ob s = hk.obs s.abs := He.obsX_eq (HandSHeadRun.getT_eq s)
def names0 : List PySem.Str := ["__name__", "PairError", "BadNumber", "BadColouring", "BadName", "NoName", "NoFlag", "NotNow", "BadDeed", "BadDeeds", "BadLive", "BadText", "BadLog", "BadLine", "TooMany", "is_number"]
def names1 : List PySem.Str := ["is_list", "MOST_COLOURED", "is_square", "Colouring", "KNOWN", "FACTS", "PARTED", "SIDE", "SHIFTS", "unlike_places", "on_ring", "order_colour", "pair_colour", "lattice_colour", "shifted_colour", "folded_colour"]
def names2 : List PySem.Str := ["table_by", "small_table", "table_of", "known_names", "need_known", "known_colouring", "known_facts", "_law_begun", "_law_mixed", "_law_take", "_law_pick", "_law_named", "_law_said", "_law_met", "_law_colours", "_law_turned"]
def names3 : List PySem.Str := ["_law_triangles", "_law_finer_once", "_law_is_coherent", "_law_is_scheme", "_law_places", "_law_orders", "_law_six", "_law_near", "_law_known", "_law_facts", "_law_round"]
def names : List PySem.Str := names0 ++ names1 ++ names2 ++ names3
def qv : Program := PySem.W.view R.prog [0, 64]
theorem map_pair {α β γ δ : Type} {o : Option α} {f : α → β} {g : α → γ} {h : α → δ} {a : β} {b : γ} {c : δ} (h1 : o.map (fun x => (f x, g x)) = some (a, b)) (h2 : o.map h = some c) : o.map (fun x => (f x, g x, h x)) = some (a, b, c) := by
  cases o with
  | none => cases h1
  | some x =>
    injection h1 with h1
    injection h2 with h2
    injection h1 with e1 e2
    subst e1 e2 h2
    rfl
@[reducible] noncomputable def wholeR (w : World) : Option (Shared × PySem.W.SharedT) := HandSHeadRun.wholeF (fun p => HandSHeadRun.stepQ (HandSHeadRun.denQ HandSHeadRun.tabQ) p w) HandSHeadRun.fenceQ 20000 R.prog
theorem run0a (w : World) : (wholeR (w.withFollow "special-get-raises" false)).map (fun x => (HandSHeadRun.looksF R.prog x.1.heap x.2.abs, HandSHeadRun.seenQ qv names (importedModules R.prog.main.body) (fun s => xlAt qv [] s && recOk R.toRowW.records s) x.2.abs)) = some (true, openGood qv names) := by
  kernel_rfl
theorem run0b (w : World) : (wholeR (w.withFollow "special-get-raises" false)).map (fun x => ob x.2) = some (hk.val (w.withFollow "special-get-raises" false)) := by
  kernel_rfl
theorem run1a (w : World) : (wholeR (w.withFollow "special-get-raises" true)).map (fun x => (HandSHeadRun.looksF R.prog x.1.heap x.2.abs, HandSHeadRun.seenQ qv names (importedModules R.prog.main.body) (fun s => xlAt qv [] s && recOk R.toRowW.records s) x.2.abs)) = some (true, openGood qv names) := by
  kernel_rfl
theorem run1b (w : World) : (wholeR (w.withFollow "special-get-raises" true)).map (fun x => ob x.2) = some (hk.val (w.withFollow "special-get-raises" true)) := by
  kernel_rfl
theorem run (w : World) : HandSHeadRun.RunEqI R qv hk ob 20000 names w := byRow2 "special-get-raises" (P := fun w => HandSHeadRun.RunEqI R qv hk ob 20000 names w) (fun w => map_pair (run0a w) (run0b w)) (fun w => map_pair (run1a w) (run1b w)) w
end K71
end -- K71r
section -- K71b
set_option Elab.async false
set_option linter.all false
set_option maxRecDepth 100000
set_option maxHeartbeats 4000000
namespace K71
open PySem PySem.Spec PyProof.Rows L2 Dm
section
variable [Tbs] {P : Program} {w : World} {K : PySem.W.Frag} {mg : Str → Option Value}
def ms_is_number : MS := (mRet (mAndV (mCall (isiDD clsT) (mCons (mV 0) (mCons (mC (.ty "int")) mNil))) (mNotV (mCall (isiDD clsT) (mCons (mV 0) (mCons (mC (.ty "bool")) mNil))))))
@[irreducible] def mf_is_number : MF := fnM 1 (ms_is_number)
theorem sc_is_number : FnScope ["thing"] ["thing"] (defScope s_is_number) := ⟨rfl, rfl, rfl, by decide +kernel, rfl, by decide +kernel, by decide +kernel⟩
theorem ok_is_number (T : Tx w K mg) : GF P w K mg (Γk K) (csk K) 1 "is_number" ["thing"] (fun cp => mf_is_number) := by
  unfold mf_is_number
  exact gf_mk (P := P) (w := w) (cs := csk K) (Γ := Γk K) (k := 0) (N := ["thing"]) (ms := fun cp => ms_is_number) T.d_is_number T.g_is_number sc_is_number (fun _ _ _ _ _ _ us hl => match us, hl with | [_], _ => rfl) fun base hB cdv hcd A outer s H E hr c =>
 (s_one (s_ret (d_and (d_callB call_isiA (prim_isi T.isi) T.n_isinstance bv_isinstance (a_cons (dv 0) (a_cons (d_bty T.n_int bv_int) a_nil))) (d_one (d_not (d_callB call_isiA (prim_isi T.isi) T.n_isinstance bv_isinstance (a_cons (dv 0) (a_cons (d_bty T.n_bool bv_bool) a_nil))))))))
def ms_is_list : MS := (mRet (mCall (isiDD clsT) (mCons (mV 0) (mCons (mTup (mCons (mC (.ty "list")) (mCons (mC (.ty "tuple")) mNil))) mNil))))
@[irreducible] def mf_is_list : MF := fnM 1 (ms_is_list)
theorem sc_is_list : FnScope ["thing"] ["thing"] (defScope s_is_list) := ⟨rfl, rfl, rfl, by decide +kernel, rfl, by decide +kernel, by decide +kernel⟩
theorem ok_is_list (T : Tx w K mg) : GF P w K mg (Γk K) (csk K) 1 "is_list" ["thing"] (fun cp => mf_is_list) := by
  unfold mf_is_list
  exact gf_mk (P := P) (w := w) (cs := csk K) (Γ := Γk K) (k := 0) (N := ["thing"]) (ms := fun cp => ms_is_list) T.d_is_list T.g_is_list sc_is_list (fun _ _ _ _ _ _ us hl => match us, hl with | [_], _ => rfl) fun base hB cdv hcd A outer s H E hr c =>
 (s_one (s_ret (d_callB call_isiA (prim_isi T.isi) T.n_isinstance bv_isinstance (a_cons (dv 0) (a_cons (d_tup (a_cons (d_bty T.n_list bv_list) (a_cons (d_bty T.n_tuple bv_tuple) a_nil))) a_nil)))))
def ms_is_square : MS := (mSeq (mIfS (mOr (mNot (mT (mFn 1 mf_is_list (mCons (mV 0) mNil)))) (mNot (mT (mChain leD leD (mC (.int 1)) (mCall lenD (mCons (mV 0) mNil)) (mC dc_MOST_COLOURED))))) (mRet (mC (.bl false))) mNext) (mRet (mCall allD (mCons (mL (mLc (mItems (mV 0)) (mtN 1) mYes (mAndV (mFn 1 mf_is_list (mCons (mV 1) mNil)) (mOp (eqD false) (mCall lenD (mCons (mV 1) mNil)) (mCall lenD (mCons (mV 0) mNil)))) [1])) mNil))))
@[irreducible] def mf_is_square : MF := fnM 2 (ms_is_square)
theorem sc_is_square : FnScope ["thing", "row"] ["thing"] (defScope s_is_square) := ⟨rfl, rfl, rfl, by decide +kernel, rfl, by decide +kernel, by decide +kernel⟩
theorem ok_is_square (T : Tx w K mg) : GF P w K mg (Γk K) (csk K) 2 "is_square" ["thing"] (fun cp => mf_is_square) := by
  unfold mf_is_square
  exact gf_mk (P := P) (w := w) (cs := csk K) (Γ := Γk K) (k := 1) (N := ["thing", "row"]) (ms := fun cp => ms_is_square) T.d_is_square T.g_is_square sc_is_square (fun _ _ _ _ _ _ us hl => match us, hl with | [_], _ => rfl) fun base hB cdv hcd A outer s H E hr c =>
 (s_cons (s_if (PW.pt (w_or (t_not (t_val (dk_call c (ok_is_list T _ hB) (hr.mono (by decide)) (a_cons (dv 0) a_nil)))) (w_or1 (t_not (t_chain op_le op_le prim_le prim_le d_int (d_callB call_len prim_len T.n_len bv_len (a_cons (dv 0) a_nil)) (dk_const T.c_MOST_COLOURED)))))) (s_one (s_ret d_bl)) s_nil)
 (s_one (s_ret (d_callB (cr_all c.calm) prim_all T.n_all bv_all (a_cons (d_l (l_lc c [("row", 1)] (i_seq (dv 0)) (blkOk_by (by kernel_rfl)) (fun _ _ _ _ _ c => (g_name c 1)) (fun _ _ _ _ _ c => ts_nil) (fun _ _ _ _ _ c => (d_and (dk_call c (ok_is_list T _ hB) (hr.mono (by decide)) (a_cons (dv 1) a_nil)) (d_one (d_cmp (op_eqD hr.units) prim_eq (d_callB call_len prim_len T.n_len bv_len (a_cons (dv 1) a_nil)) (d_callB call_len prim_len T.n_len bv_len (a_cons (dv 0) a_nil)))))))) a_nil)))))
end
end K71
end -- K71b
section -- K71c
set_option Elab.async false
set_option linter.all false
set_option maxRecDepth 100000
set_option maxHeartbeats 4000000
namespace K71
open PySem PySem.Spec PyProof.Rows L2 Dm
section
variable [Tbs] {P : Program} {w : World} {K : PySem.W.Frag} {mg : Str → Option Value}
def mpre_Colouring : MS := (mSeq (mIfS (mNot (mT (mFn 1 mf_is_square (mCons (mV 1) mNil)))) mNever mNext) (mSeq (mAsgK 2) (mSeq (mFor (mItems (mV 1)) (mtN 3) (mFor (mItems (mV 3)) (mtN 4) (mSeq (mIfS (mOr (mNot (mT (mFn 1 mf_is_number (mCons (mV 4) mNil)))) (mT (mOp ltD (mV 4) (mC (.int 0))))) mNever mNext) (mKPut 2 (mV 4) (mC (.bl true)))))) (mSeq (mIfS (mT (mOp (eqD true) (mKMax 2) (mOp subD (mTLen 2) (mC (.int 1))))) mNever mNext) mNext))))
def mfl_Colouring : MFl := (mFlSeq (mFlds "points" (mCall lenD (mCons (mV 1) mNil))) (mFlSeq (mFlds "colours" (mTLen 2)) (mFlds "table" (mCall tupleD (mCons (mL (mLc (mItems (mV 1)) (mtN 3) mYes (mCall tupleD (mCons (mV 3) mNil)) [3])) mNil)))))
@[irreducible] def mfi_Colouring : MFi := initM 5 mpre_Colouring mfl_Colouring
theorem sci_Colouring : FnScope ["self", "table", "found", "row", "colour"] ["self", "table"] (defScope s_Colouring_init) := ⟨rfl, rfl, rfl, by decide +kernel, rfl, by decide +kernel, by decide +kernel⟩
theorem oki_Colouring (T : Tx w K mg) : GI P w K mg (Γk K) (csk K) 3 "Colouring" ["self", "table"] 0 1 mfi_Colouring := fun base hB => by
  obtain ⟨fd, F⟩ := T.d_init
  unfold mfi_Colouring
  refine ⟨fd, init_mk (mpre := mpre_Colouring) (mf := mfl_Colouring) F sci_Colouring rfl fun cdv A outer s H E hr c H1 xa => ?_, F.bindsN fun _ _ _ _ _ _ us hl => match us, hl with | [_, _], _ => rfl⟩
  exact (i_cons (s_if (t_not (t_val (dk_call c (ok_is_square T _ hB) (hr.mono (by decide)) (a_cons (dv 1) a_nil)))) (s_one s_never) s_nil)
 (i_cons (s_asgK c 2)
 (i_cons (s_for c (i_seq (dv 1)) (g_name c 3) (s_one (s_for c (i_seq (dv 3)) (g_name c 4) (s_cons (s_if (PW.pt (w_or (t_not (t_val (dk_call c (ok_is_number T _ hB) (hr.mono (by decide)) (a_cons (dv 4) a_nil)))) (w_or1 (t_cmp op_lt prim_lt (dv 4) d_int)))) (s_one s_never) s_nil)
 (s_one (s_kput 2 hr.units (dv 4) d_bl))))))
 (i_cons (s_if (t_cmp (op_neD hr.units) prim_ne (d_kmax c 2 hr.units T.n_max) (d_op op_sub prim_sub (d_lenO 2 T.n_len) d_int)) (s_one s_never) s_nil)
 (i_last (f_cons (f_one (W := WEk E) T.cl_Colouring T.na_Colouring_points (d_callB call_len prim_len T.n_len bv_len (a_cons (dv 1) a_nil)))
 (f_cons (f_one (W := WEk E) T.cl_Colouring T.na_Colouring_colours (d_lenO 2 T.n_len))
 (f_last (f_one (W := WEk E) T.cl_Colouring T.na_Colouring_table (d_callTy call_tupleX prim_tuple T.n_tuple bv_tuple (a_cons (d_l (l_lc c [("row", 3)] (i_seq (dv 1)) (blkOk_by (by kernel_rfl)) (fun _ _ _ _ _ c => (g_name c 3)) (fun _ _ _ _ _ c => ts_nil) (fun _ _ _ _ _ c => (d_callTy call_tupleX prim_tuple T.n_tuple bv_tuple (a_cons (dv 3) a_nil))))) a_nil)))))))))))
def ms_unlike_places : MS := (mSeq (mPar 2 3 (mVD (mC (.int 0))) (mVD (mOp xorD (mV 0) (mV 1)))) (mSeq (mWhileN 100 (mT (mOp gtD (mV 3) (mC (.int 0)))) (mSeq (mAug 2 addI (mOp modD (mV 3) (mC (.int 2)))) (mAsg 3 (mOp fdivD (mV 3) (mC (.int 2)))))) (mRet (mV 2))))
@[irreducible] def mf_unlike_places : MF := fnM 4 (ms_unlike_places)
theorem sc_unlike_places : FnScope ["one", "other", "found", "left"] ["one", "other"] (defScope s_unlike_places) := ⟨rfl, rfl, rfl, by decide +kernel, rfl, by decide +kernel, by decide +kernel⟩
theorem ok_unlike_places (T : Tx w K mg) : GF P w K mg (Γk K) (csk K) 1 "unlike_places" ["one", "other"] (fun cp => mf_unlike_places) := by
  unfold mf_unlike_places
  exact gf_mk (P := P) (w := w) (cs := csk K) (Γ := Γk K) (k := 0) (N := ["one", "other", "found", "left"]) (ms := fun cp => ms_unlike_places) T.d_unlike_places T.g_unlike_places sc_unlike_places (fun _ _ _ _ _ _ us hl => match us, hl with | [_, _], _ => rfl) fun base hB cdv hcd A outer s H E hr c =>
 (s_cons (s_par c 2 3 (v_d d_int) (v_d (d_op op_xor prim_xor (dv 0) (dv 1))) (by rfl))
 (s_cons (s_whileN c 100 (t_cmp op_gt prim_gt (dv 3) d_int) (s_cons (s_aug c 2 (d_op op_modN prim_mod (dv 3) d_int) ip_addI prim_addI)
 (s_one (s_asg c 3 (d_op op_fdivN prim_fdiv (dv 3) d_int)))))
 (s_one (s_ret (dv 2)))))
def ms_on_ring : MS := (mRet (mCall min2D (mCons (mOp modD (mOp subD (mV 1) (mV 2)) (mV 0)) (mCons (mOp modD (mOp subD (mV 2) (mV 1)) (mV 0)) mNil))))
@[irreducible] def mf_on_ring : MF := fnM 3 (ms_on_ring)
theorem sc_on_ring : FnScope ["many", "one", "other"] ["many", "one", "other"] (defScope s_on_ring) := ⟨rfl, rfl, rfl, by decide +kernel, rfl, by decide +kernel, by decide +kernel⟩
theorem ok_on_ring (T : Tx w K mg) : GF P w K mg (Γk K) (csk K) 1 "on_ring" ["many", "one", "other"] (fun cp => mf_on_ring) := by
  unfold mf_on_ring
  exact gf_mk (P := P) (w := w) (cs := csk K) (Γ := Γk K) (k := 0) (N := ["many", "one", "other"]) (ms := fun cp => ms_on_ring) T.d_on_ring T.g_on_ring sc_on_ring (fun _ _ _ _ _ _ us hl => match us, hl with | [_, _, _], _ => rfl) fun base hB cdv hcd A outer s H E hr c =>
 (s_one (s_ret (d_callB (call_min2 c.calm) prim_min2 T.n_min bv_min (a_cons (d_op op_modN prim_mod (d_op op_sub prim_sub (dv 1) (dv 2)) (dv 0)) (a_cons (d_op op_modN prim_mod (d_op op_sub prim_sub (dv 2) (dv 1)) (dv 0)) a_nil)))))
def ms_order_colour : MS := (mSeq (mAsg 2 (mListPerm (mCons (mL (mLst (mCons (mC (.int 0)) (mCons (mC (.int 1)) (mCons (mC (.int 2)) mNil))))) mNil))) (mRet (mIndex (mV 2) (mCall tupleD (mCons (mL (mLc (mItems (mV 1)) (mtN 3) mYes (mIndex (mV 0) (mV 3)) [3])) mNil)))))
@[irreducible] def mf_order_colour : MF := fnM 4 (ms_order_colour)
theorem sc_order_colour : FnScope ["one", "other", "orders", "number"] ["one", "other"] (defScope s_order_colour) := ⟨rfl, rfl, rfl, by decide +kernel, rfl, by decide +kernel, by decide +kernel⟩
theorem ok_order_colour (T : Tx w K mg) : GF P w K mg (Γk K) (csk K) 1 "order_colour" ["one", "other"] (fun cp => mf_order_colour) := by
  unfold mf_order_colour
  exact gf_mk (P := P) (w := w) (cs := csk K) (Γ := Γk K) (k := 0) (N := ["one", "other", "orders", "number"]) (ms := fun cp => ms_order_colour) T.d_order_colour T.g_order_colour sc_order_colour (fun _ _ _ _ _ _ us hl => match us, hl with | [_, _], _ => rfl) fun base hB cdv hcd A outer s H E hr c =>
 (s_cons (s_asg c 2 (d_listPerm c T.n_list T.t_permutations (a_cons (d_l (l_lst (a_cons d_int (a_cons d_int (a_cons d_int a_nil))))) a_nil)))
 (s_one (s_ret (d_index hr.units (dv 2) (d_callTy call_tupleX prim_tuple T.n_tuple bv_tuple (a_cons (d_l (l_lc c [("number", 3)] (i_seq (dv 1)) (blkOk_by (by kernel_rfl)) (fun _ _ _ _ _ c => (g_name c 3)) (fun _ _ _ _ _ c => ts_nil) (fun _ _ _ _ _ c => (d_index hr.units (dv 0) (dv 3))))) a_nil))))))
def ms_pair_colour : MS := (mSeq (mIfS (mT (mOp (eqD false) (mV 0) (mV 1))) (mRet (mC (.int 0))) mNext) (mRet (mIf (mAnd (mT (mOp (inD true) (mOp ixD (mV 0) (mC (.int 0))) (mV 1))) (mT (mOp (inD true) (mOp ixD (mV 0) (mC (.int 1))) (mV 1)))) (mC (.int 1)) (mC (.int 2)))))
@[irreducible] def mf_pair_colour : MF := fnM 2 (ms_pair_colour)
theorem sc_pair_colour : FnScope ["one", "other"] ["one", "other"] (defScope s_pair_colour) := ⟨rfl, rfl, rfl, by decide +kernel, rfl, by decide +kernel, by decide +kernel⟩
theorem ok_pair_colour (T : Tx w K mg) : GF P w K mg (Γk K) (csk K) 1 "pair_colour" ["one", "other"] (fun cp => mf_pair_colour) := by
  unfold mf_pair_colour
  exact gf_mk (P := P) (w := w) (cs := csk K) (Γ := Γk K) (k := 0) (N := ["one", "other"]) (ms := fun cp => ms_pair_colour) T.d_pair_colour T.g_pair_colour sc_pair_colour (fun _ _ _ _ _ _ us hl => match us, hl with | [_, _], _ => rfl) fun base hB cdv hcd A outer s H E hr c =>
 (s_cons (s_if (t_cmp (op_eqD hr.units) prim_eq (dv 0) (dv 1)) (s_one (s_ret d_int)) s_nil)
 (s_one (s_ret (d_if (PW.pt (w_and (t_cmp (op_notInA hr.units65) prim_in (d_ix ix_seq prim_ix (dv 0) d_int) (dv 1)) (w_and1 (t_cmp (op_notInA hr.units65) prim_in (d_ix ix_seq prim_ix (dv 0) d_int) (dv 1))))) d_int d_int))))
def ms_lattice_colour : MS := (mSeq (mIfS (mT (mOp (eqD false) (mV 0) (mV 1))) (mRet (mC (.int 0))) mNext) (mRet (mIf (mOr (mT (mOp (eqD false) (mOp ixD (mV 0) (mC (.int 0))) (mOp ixD (mV 1) (mC (.int 0))))) (mT (mOp (eqD false) (mOp ixD (mV 0) (mC (.int 1))) (mOp ixD (mV 1) (mC (.int 1)))))) (mC (.int 1)) (mC (.int 2)))))
@[irreducible] def mf_lattice_colour : MF := fnM 2 (ms_lattice_colour)
theorem sc_lattice_colour : FnScope ["one", "other"] ["one", "other"] (defScope s_lattice_colour) := ⟨rfl, rfl, rfl, by decide +kernel, rfl, by decide +kernel, by decide +kernel⟩
theorem ok_lattice_colour (T : Tx w K mg) : GF P w K mg (Γk K) (csk K) 1 "lattice_colour" ["one", "other"] (fun cp => mf_lattice_colour) := by
  unfold mf_lattice_colour
  exact gf_mk (P := P) (w := w) (cs := csk K) (Γ := Γk K) (k := 0) (N := ["one", "other"]) (ms := fun cp => ms_lattice_colour) T.d_lattice_colour T.g_lattice_colour sc_lattice_colour (fun _ _ _ _ _ _ us hl => match us, hl with | [_, _], _ => rfl) fun base hB cdv hcd A outer s H E hr c =>
 (s_cons (s_if (t_cmp (op_eqD hr.units) prim_eq (dv 0) (dv 1)) (s_one (s_ret d_int)) s_nil)
 (s_one (s_ret (d_if (PW.pt (w_or (t_cmp (op_eqD hr.units) prim_eq (d_ix ix_seq prim_ix (dv 0) d_int) (d_ix ix_seq prim_ix (dv 1) d_int)) (w_or1 (t_cmp (op_eqD hr.units) prim_eq (d_ix ix_seq prim_ix (dv 0) d_int) (d_ix ix_seq prim_ix (dv 1) d_int))))) d_int d_int))))
def ms_shifted_colour : MS := (mSeq (mIfS (mT (mOp (eqD false) (mV 0) (mV 1))) (mRet (mC (.int 0))) mNext) (mRet (mIf (mT (mOp (inD false) (mTup (mCons (mOp modD (mOp subD (mOp ixD (mV 0) (mC (.int 0))) (mOp ixD (mV 1) (mC (.int 0)))) (mC dc_SIDE)) (mCons (mOp modD (mOp subD (mOp ixD (mV 0) (mC (.int 1))) (mOp ixD (mV 1) (mC (.int 1)))) (mC dc_SIDE)) mNil))) (mC dc_SHIFTS))) (mC (.int 1)) (mC (.int 2)))))
@[irreducible] def mf_shifted_colour : MF := fnM 2 (ms_shifted_colour)
theorem sc_shifted_colour : FnScope ["one", "other"] ["one", "other"] (defScope s_shifted_colour) := ⟨rfl, rfl, rfl, by decide +kernel, rfl, by decide +kernel, by decide +kernel⟩
theorem ok_shifted_colour (T : Tx w K mg) : GF P w K mg (Γk K) (csk K) 1 "shifted_colour" ["one", "other"] (fun cp => mf_shifted_colour) := by
  unfold mf_shifted_colour
  exact gf_mk (P := P) (w := w) (cs := csk K) (Γ := Γk K) (k := 0) (N := ["one", "other"]) (ms := fun cp => ms_shifted_colour) T.d_shifted_colour T.g_shifted_colour sc_shifted_colour (fun _ _ _ _ _ _ us hl => match us, hl with | [_, _], _ => rfl) fun base hB cdv hcd A outer s H E hr c =>
 (s_cons (s_if (t_cmp (op_eqD hr.units) prim_eq (dv 0) (dv 1)) (s_one (s_ret d_int)) s_nil)
 (s_one (s_ret (d_if (t_cmp (op_inA hr.units65) prim_in (d_tup (a_cons (d_op op_modN prim_mod (d_op op_sub prim_sub (d_ix ix_seq prim_ix (dv 0) d_int) (d_ix ix_seq prim_ix (dv 1) d_int)) (dk_const T.c_SIDE)) (a_cons (d_op op_modN prim_mod (d_op op_sub prim_sub (d_ix ix_seq prim_ix (dv 0) d_int) (d_ix ix_seq prim_ix (dv 1) d_int)) (dk_const T.c_SIDE)) a_nil))) (dk_const T.c_SHIFTS)) d_int d_int))))
def ms_folded_colour : MS := (mSeq (mIfS (mT (mOp (eqD false) (mV 0) (mV 1))) (mRet (mC (.int 0))) mNext) (mRet (mIf (mT (mOp (inD false) (mFn 2 mf_unlike_places (mCons (mV 0) (mCons (mV 1) mNil))) (mTup (mCons (mC (.int 1)) (mCons (mC (.int 4)) mNil))))) (mC (.int 1)) (mC (.int 2)))))
@[irreducible] def mf_folded_colour : MF := fnM 2 (ms_folded_colour)
theorem sc_folded_colour : FnScope ["one", "other"] ["one", "other"] (defScope s_folded_colour) := ⟨rfl, rfl, rfl, by decide +kernel, rfl, by decide +kernel, by decide +kernel⟩
theorem ok_folded_colour (T : Tx w K mg) : GF P w K mg (Γk K) (csk K) 2 "folded_colour" ["one", "other"] (fun cp => mf_folded_colour) := by
  unfold mf_folded_colour
  exact gf_mk (P := P) (w := w) (cs := csk K) (Γ := Γk K) (k := 1) (N := ["one", "other"]) (ms := fun cp => ms_folded_colour) T.d_folded_colour T.g_folded_colour sc_folded_colour (fun _ _ _ _ _ _ us hl => match us, hl with | [_, _], _ => rfl) fun base hB cdv hcd A outer s H E hr c =>
 (s_cons (s_if (t_cmp (op_eqD hr.units) prim_eq (dv 0) (dv 1)) (s_one (s_ret d_int)) s_nil)
 (s_one (s_ret (d_if (t_cmp (op_inA hr.units65) prim_in (dk_call c (ok_unlike_places T _ hB) (hr.mono (by decide)) (a_cons (dv 0) (a_cons (dv 1) a_nil))) (d_tup (a_cons d_int (a_cons d_int a_nil)))) d_int d_int))))
end
end K71
end -- K71c
section -- K71d
set_option Elab.async false
set_option linter.all false
set_option maxRecDepth 100000
set_option maxHeartbeats 4000000
namespace K71
open PySem PySem.Spec PyProof.Rows L2 Dm
section
variable [Tbs] {P : Program} {w : World} {K : PySem.W.Frag} {mg : Str → Option Value}
def ms_table_by (cp : Nat → CPt) : MS := (mRet (mL (mLc (mItems (mV 0)) (mtN 2) mYes (mL (mLc (mItems (mV 0)) (mtN 3) mYes (mCallV (cp 4) 1 (mCons (mV 2) (mCons (mV 3) mNil))) [3])) [2])))
@[irreducible] def mf_table_by (cp : Nat → CPt) : MF := fnM 4 (ms_table_by cp)
theorem sc_table_by : FnScope ["things", "colour", "one", "other"] ["things", "colour"] (defScope s_table_by) := ⟨rfl, rfl, rfl, by decide +kernel, rfl, by decide +kernel, by decide +kernel⟩
theorem ok_table_by (T : Tx w K mg) : GF P w K mg (Γk K) (csk K) 5 "table_by" ["things", "colour"] (fun cp => mf_table_by cp) := by
  unfold mf_table_by
  exact gf_mk (P := P) (w := w) (cs := csk K) (Γ := Γk K) (k := 4) (N := ["things", "colour", "one", "other"]) (ms := fun cp => ms_table_by cp) T.d_table_by T.g_table_by sc_table_by (fun _ _ _ _ _ _ us hl => match us, hl with | [_, _], _ => rfl) fun base hB cdv hcd A outer s H E hr c =>
 (s_one (s_ret (d_l (l_lc c [("one", 2)] (i_seq (dv 0)) (blkOk_by (by kernel_rfl)) (fun _ _ _ _ _ c => (g_name c 2)) (fun _ _ _ _ _ c => ts_nil) (fun _ _ _ _ _ c => (d_l (l_lc c [("other", 3)] (i_seq (dv 0)) (blkOk_by (by kernel_rfl)) (fun _ _ _ _ _ c => (g_name c 3)) (fun _ _ _ _ _ c => ts_nil) (fun _ _ _ _ _ c => (d_callV c 1 (hr.mono (by decide)) (a_cons (dv 2) (a_cons (dv 3) a_nil)))))))))))
def ms_small_table (cp : Nat → CPt) : MS := (mSeq (mIfS (mT (mOp (inD false) (mV 0) (mTup (mCons (mC (.str "alone")) (mCons (mC (.str "two")) mNil))))) (mRet (mLam1 (mL (mLRng (mIf (mT (mOp (eqD false) (mV 0) (mC (.str "alone")))) (mC (.int 1)) (mC (.int 2))))) 2 4 [] (fun cp => (mIf (mT (mOp (eqD false) (mV 0) (mV 1))) (mC (.int 0)) (mC (.int 1)))) (fun cp => (mf_table_by cp)))) mNext) (mSeq (mIfS (mT (mOp (eqD false) (mV 0) (mC (.str "wheel")))) (mRet (mLam1 (mL (mLRng (mC (.int 3)))) 2 4 [] (fun cp => (mOp modD (mOp subD (mV 1) (mV 0)) (mC (.int 3)))) (fun cp => (mf_table_by cp)))) mNext) (mSeq (mIfS (mT (mOp (eqD false) (mV 0) (mC (.str "parted")))) (mRet (mC dc_PARTED)) mNext) (mSeq (mIfS (mT (mOp (eqD false) (mV 0) (mC (.str "six")))) (mRet (mFn 2 (mf_table_by cp) (mCons (mListPerm (mCons (mL (mLst (mCons (mC (.int 0)) (mCons (mC (.int 1)) (mCons (mC (.int 2)) mNil))))) mNil)) (mCons (mC (.opq (cp 4 2 mf_order_colour))) mNil)))) mNext) (mSeq (mAsg 1 (mIf (mT (mOp (eqD false) (mV 0) (mC (.str "square")))) (mC (.int 4)) (mC (.int 5)))) (mRet (mLam1 (mL (mLRng (mV 1))) 2 4 [1] (fun cp => (mFn 3 mf_on_ring (mCons (mV 2) (mCons (mV 0) (mCons (mV 1) mNil))))) (fun cp => (mf_table_by cp)))))))))
@[irreducible] def mf_small_table (cp : Nat → CPt) : MF := fnM 2 (ms_small_table cp)
theorem sc_small_table : FnScope ["name", "many"] ["name"] (defScope s_small_table) := ⟨rfl, rfl, rfl, by decide +kernel, rfl, by decide +kernel, by decide +kernel⟩
theorem ok_small_table (T : Tx w K mg) : GF P w K mg (Γk K) (csk K) 6 "small_table" ["name"] (fun cp => mf_small_table cp) := by
  unfold mf_small_table
  exact gf_mk (P := P) (w := w) (cs := csk K) (Γ := Γk K) (k := 5) (N := ["name", "many"]) (ms := fun cp => ms_small_table cp) T.d_small_table T.g_small_table sc_small_table (fun _ _ _ _ _ _ us hl => match us, hl with | [_], _ => rfl) fun base hB cdv hcd A outer s H E hr c =>
 (s_cons (s_if (t_cmp (op_inA hr.units65) prim_in (dv 0) (d_tup (a_cons d_str (a_cons d_str a_nil)))) (s_one (s_ret (dk_lam1 (caps := []) (ps := ["one", "other"]) (kb := 0) (kl := 4) (me := (fun cp => (mIf (mT (mOp (eqD false) (mV 0) (mV 1))) (mC (.int 0)) (mC (.int 1))))) (mfo := (fun cp => (mf_table_by cp))) c (d_l (l_lrng c T.n_list T.n_range (d_if (t_cmp (op_eqD hr.units) prim_eq (dv 0) d_str) d_int d_int))) hB T.lam_small_table hcd (ok_table_by T) (by decide) (hr.mono (by decide)) (by kernel_rfl) (fun _ _ _ _ _ us hl => match us, hl with | [_, _], _ => rfl) (fun B hB A outer s H E f c hr c => (d_if (t_cmp (op_eqD hr.units) prim_eq (dv 0) (dv 1)) d_int d_int))))) s_nil)
 (s_cons (s_if (t_cmp (op_eqD hr.units) prim_eq (dv 0) d_str) (s_one (s_ret (dk_lam1 (caps := []) (ps := ["one", "other"]) (kb := 0) (kl := 4) (me := (fun cp => (mOp modD (mOp subD (mV 1) (mV 0)) (mC (.int 3))))) (mfo := (fun cp => (mf_table_by cp))) c (d_l (l_lrng c T.n_list T.n_range d_int)) hB T.lam_small_table hcd (ok_table_by T) (by decide) (hr.mono (by decide)) (by kernel_rfl) (fun _ _ _ _ _ us hl => match us, hl with | [_, _], _ => rfl) (fun B hB A outer s H E f c hr c => (d_op op_modN prim_mod (d_op op_sub prim_sub (dv 1) (dv 0)) d_int))))) s_nil)
 (s_cons (s_if (t_cmp (op_eqD hr.units) prim_eq (dv 0) d_str) (s_one (s_ret (dk_const T.c_PARTED))) s_nil)
 (s_cons (s_if (t_cmp (op_eqD hr.units) prim_eq (dv 0) d_str) (s_one (s_ret (dk_call c (ok_table_by T _ hB) (hr.mono (by decide)) (a_cons (d_listPerm c T.n_list T.t_permutations (a_cons (d_l (l_lst (a_cons d_int (a_cons d_int (a_cons d_int a_nil))))) a_nil)) (a_cons (dk_fn (j := 1) (k := 4) (ok_order_colour T _ hB) (by decide)) a_nil))))) s_nil)
 (s_cons (s_asg c 1 (d_if (t_cmp (op_eqD hr.units) prim_eq (dv 0) d_str) d_int d_int))
 (s_one (s_ret (dk_lam1 (caps := [("many", 1)]) (ps := ["one", "other"]) (kb := 1) (kl := 4) (me := (fun cp => (mFn 3 mf_on_ring (mCons (mV 2) (mCons (mV 0) (mCons (mV 1) mNil)))))) (mfo := (fun cp => (mf_table_by cp))) c (d_l (l_lrng c T.n_list T.n_range (dv 1))) hB T.lam_small_table hcd (ok_table_by T) (by decide) (hr.mono (by decide)) (by kernel_rfl) (fun _ _ _ _ _ us hl => match us, hl with | [_, _], _ => rfl) (fun B hB A outer s H E f c hr c => (dk_call c (ok_on_ring T _ hB) (hr.mono (by decide)) (a_cons (dv 2) (a_cons (dv 0) (a_cons (dv 1) a_nil)))))))))))))
def ms_table_of (cp : Nat → CPt) : MS := (mSeq (mIfS (mT (mOp (eqD false) (mV 0) (mC (.str "cube")))) (mRet (mFn 2 (mf_table_by cp) (mCons (mL (mLRng (mC (.int 8)))) (mCons (mC (.opq (cp 4 2 mf_unlike_places))) mNil)))) mNext) (mSeq (mIfS (mT (mOp (eqD false) (mV 0) (mC (.str "petersen")))) (mRet (mFn 2 (mf_table_by cp) (mCons (mListComb (mCons (mL (mLRng (mC (.int 5)))) (mCons (mC (.int 2)) mNil))) (mCons (mC (.opq (cp 4 2 mf_pair_colour))) mNil)))) mNext) (mSeq (mIfS (mT (mOp (eqD false) (mV 0) (mC (.str "clebsch")))) (mRet (mFn 2 (mf_table_by cp) (mCons (mL (mLRng (mC (.int 16)))) (mCons (mC (.opq (cp 4 2 mf_folded_colour))) mNil)))) mNext) (mSeq (mIfS (mT (mOp (inD false) (mV 0) (mTup (mCons (mC (.str "lattice")) (mCons (mC (.str "shrikhande")) mNil))))) (mSeq (mAsgL 1 (mLc2 (mRng1 (mCons (mC dc_SIDE) mNil)) (mtN 2) mYes (mRng1 (mCons (mC dc_SIDE) mNil)) (mtN 3) mYes (mTup (mCons (mV 2) (mCons (mV 3) mNil))) [2, 3] [3])) (mRet (mFn 2 (mf_table_by cp) (mCons (mV 1) (mCons (mIf (mT (mOp (eqD false) (mV 0) (mC (.str "lattice")))) (mC (.opq (cp 4 2 mf_lattice_colour))) (mC (.opq (cp 4 2 mf_shifted_colour)))) mNil))))) mNext) (mRet (mFn 1 (mf_small_table cp) (mCons (mV 0) mNil)))))))
@[irreducible] def mf_table_of (cp : Nat → CPt) : MF := fnM 4 (ms_table_of cp)
theorem sc_table_of : FnScope ["name", "spots", "one", "other"] ["name"] (defScope s_table_of) := ⟨rfl, rfl, rfl, by decide +kernel, rfl, by decide +kernel, by decide +kernel⟩
theorem ok_table_of (T : Tx w K mg) : GF P w K mg (Γk K) (csk K) 7 "table_of" ["name"] (fun cp => mf_table_of cp) := by
  unfold mf_table_of
  exact gf_mk (P := P) (w := w) (cs := csk K) (Γ := Γk K) (k := 6) (N := ["name", "spots", "one", "other"]) (ms := fun cp => ms_table_of cp) T.d_table_of T.g_table_of sc_table_of (fun _ _ _ _ _ _ us hl => match us, hl with | [_], _ => rfl) fun base hB cdv hcd A outer s H E hr c =>
 (s_cons (s_if (t_cmp (op_eqD hr.units) prim_eq (dv 0) d_str) (s_one (s_ret (dk_call c (ok_table_by T _ hB) (hr.mono (by decide)) (a_cons (d_l (l_lrng c T.n_list T.n_range d_int)) (a_cons (dk_fn (j := 1) (k := 4) (ok_unlike_places T _ hB) (by decide)) a_nil))))) s_nil)
 (s_cons (s_if (t_cmp (op_eqD hr.units) prim_eq (dv 0) d_str) (s_one (s_ret (dk_call c (ok_table_by T _ hB) (hr.mono (by decide)) (a_cons (d_listComb c T.n_list T.t_combinations (a_cons (d_l (l_lrng c T.n_list T.n_range d_int)) (a_cons d_int a_nil))) (a_cons (dk_fn (j := 1) (k := 4) (ok_pair_colour T _ hB) (by decide)) a_nil))))) s_nil)
 (s_cons (s_if (t_cmp (op_eqD hr.units) prim_eq (dv 0) d_str) (s_one (s_ret (dk_call c (ok_table_by T _ hB) (hr.mono (by decide)) (a_cons (d_l (l_lrng c T.n_list T.n_range d_int)) (a_cons (dk_fn (j := 2) (k := 4) (ok_folded_colour T _ hB) (by decide)) a_nil))))) s_nil)
 (s_cons (s_if (t_cmp (op_inA hr.units65) prim_in (dv 0) (d_tup (a_cons d_str (a_cons d_str a_nil)))) (s_cons (s_setLc2 c 1 [("one", 2), ("other", 3)] [3] (i_rng1 T.n_range (a_cons (dk_const T.c_SIDE) a_nil)) (blkOk_by (by kernel_rfl)) (fun _ _ _ _ _ c => (g_name c 2)) (fun _ _ _ _ _ c => ts_nil) (fun _ _ _ _ _ c => (i_rng1 T.n_range (a_cons (dk_const T.c_SIDE) a_nil))) (fun _ _ _ _ _ c => (g_name c 3)) (fun _ _ _ _ _ c => ts_nil) (fun _ _ _ _ _ c => (d_tup (a_cons (dv 2) (a_cons (dv 3) a_nil)))) (sw_true rfl rfl rfl (by decide +kernel)))
 (s_one (s_ret (dk_call c (ok_table_by T _ hB) (hr.mono (by decide)) (a_cons (dv 1) (a_cons (d_if (t_cmp (op_eqD hr.units) prim_eq (dv 0) d_str) (dk_fn (j := 1) (k := 4) (ok_lattice_colour T _ hB) (by decide)) (dk_fn (j := 1) (k := 4) (ok_shifted_colour T _ hB) (by decide))) a_nil)))))) s_nil)
 (s_one (s_ret (dk_call c (ok_small_table T _ hB) (hr.mono (by decide)) (a_cons (dv 0) a_nil))))))))
def ms_known_names : MS := (mRet (mC dc_KNOWN))
@[irreducible] def mf_known_names : MF := fnM 0 (ms_known_names)
theorem sc_known_names : FnScope [] [] (defScope s_known_names) := ⟨rfl, rfl, rfl, by decide +kernel, rfl, by decide +kernel, by decide +kernel⟩
theorem ok_known_names (T : Tx w K mg) : GF P w K mg (Γk K) (csk K) 1 "known_names" [] (fun cp => mf_known_names) := by
  unfold mf_known_names
  exact gf_mk (P := P) (w := w) (cs := csk K) (Γ := Γk K) (k := 0) (N := []) (ms := fun cp => ms_known_names) T.d_known_names T.g_known_names sc_known_names (fun _ _ _ _ _ _ us hl => match us, hl with | [], _ => rfl) fun base hB cdv hcd A outer s H E hr c =>
 (s_one (s_ret (dk_const T.c_KNOWN)))
def ms_need_known : MS := (mIfS (mOr (mNot (mT (mCall (isiDD clsT) (mCons (mV 0) (mCons (mC (.ty "str")) mNil))))) (mT (mOp (inD true) (mV 0) (mC dc_KNOWN)))) (mRaiseS 7) mNext)
@[irreducible] def mf_need_known : MF := fnM 1 (ms_need_known)
theorem sc_need_known : FnScope ["name"] ["name"] (defScope s_need_known) := ⟨rfl, rfl, rfl, by decide +kernel, rfl, by decide +kernel, by decide +kernel⟩
theorem ok_need_known (T : Tx w K mg) : GF P w K mg (Γk K) (csk K) 1 "need_known" ["name"] (fun cp => mf_need_known) := by
  unfold mf_need_known
  exact gf_mk (P := P) (w := w) (cs := csk K) (Γ := Γk K) (k := 0) (N := ["name"]) (ms := fun cp => ms_need_known) T.d_need_known T.g_need_known sc_need_known (fun _ _ _ _ _ _ us hl => match us, hl with | [_], _ => rfl) fun base hB cdv hcd A outer s H E hr c =>
 (s_one (s_if (PW.pt (w_or (t_not (t_val (d_callB call_isiA (prim_isi T.isi) T.n_isinstance bv_isinstance (a_cons (dv 0) (a_cons (d_bty T.n_str bv_str) a_nil))))) (w_or1 (t_cmp (op_notInA hr.units65) prim_in (dv 0) (dk_const T.c_KNOWN))))) (s_one (dk_raise c (dk_exc (i := 7) T.x_BadName rfl))) s_nil))
def ms_known_colouring (cp : Nat → CPt) : MS := (mSeq (mDrop (mFn 1 mf_need_known (mCons (mV 0) mNil))) (mRet (mMake 0 1 mfi_Colouring (mCons (mFn 1 (mf_table_of cp) (mCons (mV 0) mNil)) mNil))))
@[irreducible] def mf_known_colouring (cp : Nat → CPt) : MF := fnM 1 (ms_known_colouring cp)
theorem sc_known_colouring : FnScope ["name"] ["name"] (defScope s_known_colouring) := ⟨rfl, rfl, rfl, by decide +kernel, rfl, by decide +kernel, by decide +kernel⟩
theorem ok_known_colouring (T : Tx w K mg) : GF P w K mg (Γk K) (csk K) 8 "known_colouring" ["name"] (fun cp => mf_known_colouring cp) := by
  unfold mf_known_colouring
  exact gf_mk (P := P) (w := w) (cs := csk K) (Γ := Γk K) (k := 7) (N := ["name"]) (ms := fun cp => ms_known_colouring cp) T.d_known_colouring T.g_known_colouring sc_known_colouring (fun _ _ _ _ _ _ us hl => match us, hl with | [_], _ => rfl) fun base hB cdv hcd A outer s H E hr c =>
 (s_cons (s_expr (dk_call c (ok_need_known T _ hB) (hr.mono (by decide)) (a_cons (dv 0) a_nil)))
 (s_one (s_ret (dk_make c (oki_Colouring T _ hB) T.mk_Colouring T.g_Colouring rfl (hr.mono (by decide)) (a_cons (dk_call c (ok_table_of T _ hB) (hr.mono (by decide)) (a_cons (dv 0) a_nil)) a_nil)))))
def ms_known_facts : MS := (mSeq (mDrop (mFn 1 mf_need_known (mCons (mV 0) mNil))) (mRet (mFact fs_FACTS (mV 0))))
@[irreducible] def mf_known_facts : MF := fnM 1 (ms_known_facts)
theorem sc_known_facts : FnScope ["name"] ["name"] (defScope s_known_facts) := ⟨rfl, rfl, rfl, by decide +kernel, rfl, by decide +kernel, by decide +kernel⟩
theorem ok_known_facts (T : Tx w K mg) : GF P w K mg (Γk K) (csk K) 2 "known_facts" ["name"] (fun cp => mf_known_facts) := by
  unfold mf_known_facts
  exact gf_mk (P := P) (w := w) (cs := csk K) (Γ := Γk K) (k := 1) (N := ["name"]) (ms := fun cp => ms_known_facts) T.d_known_facts T.g_known_facts sc_known_facts (fun _ _ _ _ _ _ us hl => match us, hl with | [_], _ => rfl) fun base hB cdv hcd A outer s H E hr c =>
 (s_cons (s_expr (dk_call c (ok_need_known T _ hB) (hr.mono (by decide)) (a_cons (dv 0) a_nil)))
 (s_one (s_ret (d_fact T.g_FACTS T.f_FACTS (dv 0) (by intro _ _; rfl)))))
end
end K71
end -- K71d
section -- K71e
set_option Elab.async false
set_option linter.all false
set_option maxRecDepth 100000
set_option maxHeartbeats 4000000
namespace K71
open PySem PySem.Spec PyProof.Rows L2 Dm
section
variable [Tbs] {P : Program} {w : World} {K : PySem.W.Frag} {mg : Str → Option Value}
def ms__law_named : MS := (mSeq (mIfS (mT (mCall (isiDD clsT) (mCons (mV 0) (mCons (mC (.cl 2)) mNil)))) mNever mNext) (mSeq (mIfS (mT (mCall (isiDD clsT) (mCons (mV 0) (mCons (mC (.cl 3)) mNil)))) mNever mNext) (mSeq (mIfS (mT (mCall (isiDD clsT) (mCons (mV 0) (mCons (mC (.cl 4)) mNil)))) mNever mNext) (mSeq (mIfS (mT (mCall (isiDD clsT) (mCons (mV 0) (mCons (mC (.cl 5)) mNil)))) mNever mNext) (mSeq (mIfS (mT (mCall (isiDD clsT) (mCons (mV 0) (mCons (mC (.cl 6)) mNil)))) mNever mNext) (mSeq (mAsgL 1 (mLst (mCons (mTup (mCons (mC (.str "name")) (mCons (mCall (isiDD clsT) (mCons (mV 0) (mCons (mC (.cl 7)) mNil))) mNil))) (mCons (mTup (mCons (mC (.str "deed")) (mCons (mCall (isiDD clsT) (mCons (mV 0) (mCons (mC (.cl 8)) mNil))) mNil))) (mCons (mTup (mCons (mC (.str "deeds")) (mCons (mCall (isiDD clsT) (mCons (mV 0) (mCons (mC (.cl 9)) mNil))) mNil))) (mCons (mTup (mCons (mC (.str "now")) (mCons (mCall (isiDD clsT) (mCons (mV 0) (mCons (mC (.cl 10)) mNil))) mNil))) mNil)))))) (mSeq (mAsg 1 (mOp addD (mV 1) (mL (mLst (mCons (mTup (mCons (mC (.str "text")) (mCons (mCall (isiDD clsT) (mCons (mV 0) (mCons (mC (.cl 11)) mNil))) mNil))) (mCons (mTup (mCons (mC (.str "live")) (mCons (mCall (isiDD clsT) (mCons (mV 0) (mCons (mC (.cl 12)) mNil))) mNil))) (mCons (mTup (mCons (mC (.str "line")) (mCons (mCall (isiDD clsT) (mCons (mV 0) (mCons (mC (.cl 13)) mNil))) mNil))) (mCons (mTup (mCons (mC (.str "colouring")) (mCons (mCall (isiDD clsT) (mCons (mV 0) (mCons (mC (.cl 14)) mNil))) mNil))) mNil)))))))) (mRet (mOp ixD (mOp addD (mL (mLc (mItems (mV 1)) (mtTup 2 (mtCons (mtN 2) (mtCons (mtN 3) mtNil))) (mT (mV 3)) (mV 2) [2, 3])) (mL (mLst (mCons (mC (.str "other")) mNil)))) (mC (.int 0)))))))))))
@[irreducible] def mf__law_named : MF := fnM 4 (ms__law_named)
theorem sc__law_named : FnScope ["error", "some", "word", "own"] ["error"] (defScope s__law_named) := ⟨rfl, rfl, rfl, by decide +kernel, rfl, by decide +kernel, by decide +kernel⟩
theorem ok__law_named (T : Tx w K mg) : GF P w K mg (Γk K) (csk K) 1 "_law_named" ["error"] (fun cp => mf__law_named) := by
  unfold mf__law_named
  exact gf_mk (P := P) (w := w) (cs := csk K) (Γ := Γk K) (k := 0) (N := ["error", "some", "word", "own"]) (ms := fun cp => ms__law_named) T.d__law_named T.g__law_named sc__law_named (fun _ _ _ _ _ _ us hl => match us, hl with | [_], _ => rfl) fun base hB cdv hcd A outer s H E hr c =>
 (s_cons (s_if (t_val (d_callB call_isiA (prim_isi T.isi) T.n_isinstance bv_isinstance (a_cons (dv 0) (a_cons (dk_cls T.g_NoName) a_nil)))) ss_never s_nil)
 (s_cons (s_if (t_val (d_callB call_isiA (prim_isi T.isi) T.n_isinstance bv_isinstance (a_cons (dv 0) (a_cons (dk_cls T.g_NoFlag) a_nil)))) ss_never s_nil)
 (s_cons (s_if (t_val (d_callB call_isiA (prim_isi T.isi) T.n_isinstance bv_isinstance (a_cons (dv 0) (a_cons (dk_cls T.g_TooMany) a_nil)))) ss_never s_nil)
 (s_cons (s_if (t_val (d_callB call_isiA (prim_isi T.isi) T.n_isinstance bv_isinstance (a_cons (dv 0) (a_cons (dk_cls T.g_BadNumber) a_nil)))) ss_never s_nil)
 (s_cons (s_if (t_val (d_callB call_isiA (prim_isi T.isi) T.n_isinstance bv_isinstance (a_cons (dv 0) (a_cons (dk_cls T.g_BadLog) a_nil)))) ss_never s_nil)
 (s_cons (s_asgL c 1 (l_lst (a_cons (d_tup (a_cons d_str (a_cons (d_callB call_isiA (prim_isi T.isi) T.n_isinstance bv_isinstance (a_cons (dv 0) (a_cons (dk_cls T.g_BadName) a_nil))) a_nil))) (a_cons (d_tup (a_cons d_str (a_cons (d_callB call_isiA (prim_isi T.isi) T.n_isinstance bv_isinstance (a_cons (dv 0) (a_cons (dk_cls T.g_BadDeed) a_nil))) a_nil))) (a_cons (d_tup (a_cons d_str (a_cons (d_callB call_isiA (prim_isi T.isi) T.n_isinstance bv_isinstance (a_cons (dv 0) (a_cons (dk_cls T.g_BadDeeds) a_nil))) a_nil))) (a_cons (d_tup (a_cons d_str (a_cons (d_callB call_isiA (prim_isi T.isi) T.n_isinstance bv_isinstance (a_cons (dv 0) (a_cons (dk_cls T.g_NotNow) a_nil))) a_nil))) a_nil))))))
 (s_cons (s_asg c 1 (d_op op_addA prim_add (dv 1) (d_l (l_lst (a_cons (d_tup (a_cons d_str (a_cons (d_callB call_isiA (prim_isi T.isi) T.n_isinstance bv_isinstance (a_cons (dv 0) (a_cons (dk_cls T.g_BadText) a_nil))) a_nil))) (a_cons (d_tup (a_cons d_str (a_cons (d_callB call_isiA (prim_isi T.isi) T.n_isinstance bv_isinstance (a_cons (dv 0) (a_cons (dk_cls T.g_BadLive) a_nil))) a_nil))) (a_cons (d_tup (a_cons d_str (a_cons (d_callB call_isiA (prim_isi T.isi) T.n_isinstance bv_isinstance (a_cons (dv 0) (a_cons (dk_cls T.g_BadLine) a_nil))) a_nil))) (a_cons (d_tup (a_cons d_str (a_cons (d_callB call_isiA (prim_isi T.isi) T.n_isinstance bv_isinstance (a_cons (dv 0) (a_cons (dk_cls T.g_BadColouring) a_nil))) a_nil))) a_nil))))))))
 (s_one (s_ret (d_ix ix_seq prim_ix (d_op op_addA prim_add (d_l (l_lc c [("word", 2), ("own", 3)] (i_seq (dv 1)) (blkOk_by (by kernel_rfl)) (fun _ _ _ _ _ c => (g_tup c (gs_cons (g_name c 2) (gs_cons (g_name c 3) gs_nil)))) (fun _ _ _ _ _ c => (ts_one (t_val (dv 3)))) (fun _ _ _ _ _ c => (dv 2)))) (d_l (l_lst (a_cons d_str a_nil)))) d_int))))))))))
def ms__law_said (cp : Nat → CPt) : MS := (mSeq (mAsg 1 (mC .non)) (mSeq (mTryKeep isPair 3 1 (mDrop (mCallV0 (cp 12) 0))) (mRet (mFn 1 mf__law_named (mCons (mV 1) mNil)))))
@[irreducible] def mf__law_said (cp : Nat → CPt) : MF := fnM 3 (ms__law_said cp)
theorem sc__law_said : FnScope ["work", "caught", "error"] ["work"] (defScope s__law_said) := ⟨rfl, rfl, rfl, by decide +kernel, rfl, by decide +kernel, by decide +kernel⟩
theorem ok__law_said (T : Tx w K mg) : GF P w K mg (Γk K) (csk K) 13 "_law_said" ["work"] (fun cp => mf__law_said cp) := by
  unfold mf__law_said
  exact gf_mk (P := P) (w := w) (cs := csk K) (Γ := Γk K) (k := 12) (N := ["work", "caught", "error"]) (ms := fun cp => ms__law_said cp) T.d__law_said T.g__law_said sc__law_said (fun _ _ _ _ _ _ us hl => match us, hl with | [_], _ => rfl) fun base hB cdv hcd A outer s H E hr c =>
 (s_cons (s_asg c 1 d_non)
 (s_cons (dk_try (isC := isPair) c 2 1 T.g_PairError T.isPair (fun W pn xe c => (s_one (s_expr (d_callV0 c 0 (hr.mono (by decide)))))))
 (s_one (s_ret (dk_call c (ok__law_named T _ hB) (hr.mono (by decide)) (a_cons (dv 1) a_nil))))))
def ms__law_met : MS := (mSeq (mPar 1 2 mVT (mVL (mLst mNil))) (mSeq (mFor (mItems (mV 0)) (mtN 3) (mSeq (mAsgL 4 (mLst mNil)) (mSeq (mFor (mItems (mV 3)) (mtN 5) (mSeq (mIfS (mT (mTIn true 1 (mV 5))) (mTPut 1 (mV 5) (mTLen 1)) mNext) (mApp 4 (mTGet 1 (mV 5))))) (mApp 2 (mCall tupleD (mCons (mV 4) mNil)))))) (mRet (mCall tupleD (mCons (mV 2) mNil)))))
@[irreducible] def mf__law_met : MF := fnM 6 (ms__law_met)
theorem sc__law_met : FnScope ["rows", "known", "found", "row", "line", "key"] ["rows"] (defScope s__law_met) := ⟨rfl, rfl, rfl, by decide +kernel, rfl, by decide +kernel, by decide +kernel⟩
theorem ok__law_met (T : Tx w K mg) : GF P w K mg (Γk K) (csk K) 1 "_law_met" ["rows"] (fun cp => mf__law_met) := by
  unfold mf__law_met
  exact gf_mk (P := P) (w := w) (cs := csk K) (Γ := Γk K) (k := 0) (N := ["rows", "known", "found", "row", "line", "key"]) (ms := fun cp => ms__law_met) T.d__law_met T.g__law_met sc__law_met (fun _ _ _ _ _ _ us hl => match us, hl with | [_], _ => rfl) fun base hB cdv hcd A outer s H E hr c =>
 (s_cons (s_par c 1 2 v_t (v_l (l_lst a_nil)) (by rfl))
 (s_cons (s_for c (i_seq (dv 0)) (g_name c 3) (s_cons (s_asgL c 4 (l_lst a_nil))
 (s_cons (s_for c (i_seq (dv 3)) (g_name c 5) (s_cons (s_if (t_tin (neg := true) 1 hr.units (dv 5)) (s_one (s_tput 1 hr.units (dv 5) (d_lenO 1 T.n_len))) s_nil)
 (s_one (s_app 4 (d_tget 1 hr.units (dv 5))))))
 (s_one (s_app 2 (d_callTy call_tupleX prim_tuple T.n_tuple bv_tuple (a_cons (dv 4) a_nil)))))))
 (s_one (s_ret (d_callTy call_tupleX prim_tuple T.n_tuple bv_tuple (a_cons (dv 2) a_nil))))))
def ms__law_colours : MS := (mRet (mOp addD (mC (.int 1)) (mCall (bestD max) (mCons (mL (mLc (mItems (mV 0)) (mtN 1) mYes (mCall (bestD max) (mCons (mV 1) mNil)) [1])) mNil))))
@[irreducible] def mf__law_colours : MF := fnM 2 (ms__law_colours)
theorem sc__law_colours : FnScope ["table", "row"] ["table"] (defScope s__law_colours) := ⟨rfl, rfl, rfl, by decide +kernel, rfl, by decide +kernel, by decide +kernel⟩
theorem ok__law_colours (T : Tx w K mg) : GF P w K mg (Γk K) (csk K) 1 "_law_colours" ["table"] (fun cp => mf__law_colours) := by
  unfold mf__law_colours
  exact gf_mk (P := P) (w := w) (cs := csk K) (Γ := Γk K) (k := 0) (N := ["table", "row"]) (ms := fun cp => ms__law_colours) T.d__law_colours T.g__law_colours sc__law_colours (fun _ _ _ _ _ _ us hl => match us, hl with | [_], _ => rfl) fun base hB cdv hcd A outer s H E hr c =>
 (s_one (s_ret (d_op op_addA prim_add d_int (d_callB (call_maxA c.calm hr.units) prim_max T.n_max bv_max (a_cons (d_l (l_lc c [("row", 1)] (i_seq (dv 0)) (blkOk_by (by kernel_rfl)) (fun _ _ _ _ _ c => (g_name c 1)) (fun _ _ _ _ _ c => ts_nil) (fun _ _ _ _ _ c => (d_callB (call_maxA c.calm hr.units) prim_max T.n_max bv_max (a_cons (dv 1) a_nil))))) a_nil)))))
def ms__law_turned : MS := (mRet (mCall tupleD (mCons (mL (mLc (mRng1 (mCons (mCall lenD (mCons (mV 0) mNil)) mNil)) (mtN 1) mYes (mCall tupleD (mCons (mL (mLc (mItems (mV 0)) (mtN 2) mYes (mOp ixD (mV 2) (mV 1)) [2])) mNil)) [1])) mNil)))
@[irreducible] def mf__law_turned : MF := fnM 3 (ms__law_turned)
theorem sc__law_turned : FnScope ["table", "spot", "row"] ["table"] (defScope s__law_turned) := ⟨rfl, rfl, rfl, by decide +kernel, rfl, by decide +kernel, by decide +kernel⟩
theorem ok__law_turned (T : Tx w K mg) : GF P w K mg (Γk K) (csk K) 1 "_law_turned" ["table"] (fun cp => mf__law_turned) := by
  unfold mf__law_turned
  exact gf_mk (P := P) (w := w) (cs := csk K) (Γ := Γk K) (k := 0) (N := ["table", "spot", "row"]) (ms := fun cp => ms__law_turned) T.d__law_turned T.g__law_turned sc__law_turned (fun _ _ _ _ _ _ us hl => match us, hl with | [_], _ => rfl) fun base hB cdv hcd A outer s H E hr c =>
 (s_one (s_ret (d_callTy call_tupleX prim_tuple T.n_tuple bv_tuple (a_cons (d_l (l_lc c [("spot", 1)] (i_rng1 T.n_range (a_cons (d_callB call_len prim_len T.n_len bv_len (a_cons (dv 0) a_nil)) a_nil)) (blkOk_by (by kernel_rfl)) (fun _ _ _ _ _ c => (g_name c 1)) (fun _ _ _ _ _ c => ts_nil) (fun _ _ _ _ _ c => (d_callTy call_tupleX prim_tuple T.n_tuple bv_tuple (a_cons (d_l (l_lc c [("row", 2)] (i_seq (dv 0)) (blkOk_by (by kernel_rfl)) (fun _ _ _ _ _ c => (g_name c 2)) (fun _ _ _ _ _ c => ts_nil) (fun _ _ _ _ _ c => (d_ix ix_seq prim_ix (dv 2) (dv 1))))) a_nil))))) a_nil))))
def ms__law_triangles : MS := (mSeq (mAsgT 3) (mSeq (mFor (mRng1 (mCons (mCall lenD (mCons (mV 0) mNil)) mNil)) (mtN 4) (mSeq (mAsg 5 (mTup (mCons (mOp ixD (mOp ixD (mV 0) (mV 1)) (mV 4)) (mCons (mOp ixD (mOp ixD (mV 0) (mV 4)) (mV 2)) mNil)))) (mTPut 3 (mV 5) (mOp addD (mTGetOr 3 (mV 5) (mC (.int 0))) (mC (.int 1)))))) (mRet (mCall tupleD (mCons (mL (mLc (mItems (mL (mTSort 3))) (mtN 5) mYes (mOp addD (mV 5) (mTup (mCons (mTGet 3 (mV 5)) mNil))) [5])) mNil)))))
@[irreducible] def mf__law_triangles : MF := fnM 6 (ms__law_triangles)
theorem sc__law_triangles : FnScope ["table", "start", "goal", "counts", "point", "pair"] ["table", "start", "goal"] (defScope s__law_triangles) := ⟨rfl, rfl, rfl, by decide +kernel, rfl, by decide +kernel, by decide +kernel⟩
theorem ok__law_triangles (T : Tx w K mg) : GF P w K mg (Γk K) (csk K) 1 "_law_triangles" ["table", "start", "goal"] (fun cp => mf__law_triangles) := by
  unfold mf__law_triangles
  exact gf_mk (P := P) (w := w) (cs := csk K) (Γ := Γk K) (k := 0) (N := ["table", "start", "goal", "counts", "point", "pair"]) (ms := fun cp => ms__law_triangles) T.d__law_triangles T.g__law_triangles sc__law_triangles (fun _ _ _ _ _ _ us hl => match us, hl with | [_, _, _], _ => rfl) fun base hB cdv hcd A outer s H E hr c =>
 (s_cons (s_asgT c 3)
 (s_cons (s_for c (i_rng1 T.n_range (a_cons (d_callB call_len prim_len T.n_len bv_len (a_cons (dv 0) a_nil)) a_nil)) (g_name c 4) (s_cons (s_asg c 5 (d_tup (a_cons (d_ix ix_seq prim_ix (d_ix ix_seq prim_ix (dv 0) (dv 1)) (dv 4)) (a_cons (d_ix ix_seq prim_ix (d_ix ix_seq prim_ix (dv 0) (dv 4)) (dv 2)) a_nil))))
 (s_one (s_tput 3 hr.units (dv 5) (d_op op_addA prim_add (d_tgetor 3 hr.units (dv 5) d_int) d_int)))))
 (s_one (s_ret (d_callTy call_tupleX prim_tuple T.n_tuple bv_tuple (a_cons (d_l (l_lc c [("pair", 5)] (i_seq (d_l (l_tsort c 3 hr.units T.n_sorted))) (blkOk_by (by kernel_rfl)) (fun _ _ _ _ _ c => (g_name c 5)) (fun _ _ _ _ _ c => ts_nil) (fun _ _ _ _ _ c => (d_op op_addA prim_add (dv 5) (d_tup (a_cons (d_tget 3 hr.units (dv 5)) a_nil)))))) a_nil))))))
end
end K71
end -- K71e
section -- K71f
set_option Elab.async false
set_option linter.all false
set_option maxRecDepth 100000
set_option maxHeartbeats 4000000
namespace K71
open PySem PySem.Spec PyProof.Rows L2 Dm
section
variable [Tbs] {P : Program} {w : World} {K : PySem.W.Frag} {mg : Str → Option Value}
def ms__law_finer_once : MS := (mSeq (mPar 1 2 (mVL (mLRng (mCall lenD (mCons (mV 0) mNil)))) (mVL (mLst mNil))) (mSeq (mFor (mItems (mV 1)) (mtN 3) (mApp 2 (mL (mLc (mItems (mV 1)) (mtN 4) mYes (mTup (mCons (mOp ixD (mOp ixD (mV 0) (mV 3)) (mV 4)) (mCons (mOp ixD (mOp ixD (mV 0) (mV 4)) (mV 3)) (mCons (mCall intD (mCons (mOp (eqD false) (mV 3) (mV 4)) mNil)) (mCons (mFn 3 mf__law_triangles (mCons (mV 0) (mCons (mV 3) (mCons (mV 4) mNil)))) mNil))))) [4])))) (mRet (mFn 1 mf__law_met (mCons (mV 2) mNil)))))
@[irreducible] def mf__law_finer_once : MF := fnM 5 (ms__law_finer_once)
theorem sc__law_finer_once : FnScope ["table", "spots", "rows", "one", "other"] ["table"] (defScope s__law_finer_once) := ⟨rfl, rfl, rfl, by decide +kernel, rfl, by decide +kernel, by decide +kernel⟩
theorem ok__law_finer_once (T : Tx w K mg) : GF P w K mg (Γk K) (csk K) 2 "_law_finer_once" ["table"] (fun cp => mf__law_finer_once) := by
  unfold mf__law_finer_once
  exact gf_mk (P := P) (w := w) (cs := csk K) (Γ := Γk K) (k := 1) (N := ["table", "spots", "rows", "one", "other"]) (ms := fun cp => ms__law_finer_once) T.d__law_finer_once T.g__law_finer_once sc__law_finer_once (fun _ _ _ _ _ _ us hl => match us, hl with | [_], _ => rfl) fun base hB cdv hcd A outer s H E hr c =>
 (s_cons (s_par c 1 2 (v_l (l_lrng c T.n_list T.n_range (d_callB call_len prim_len T.n_len bv_len (a_cons (dv 0) a_nil)))) (v_l (l_lst a_nil)) (by rfl))
 (s_cons (s_for c (i_seq (dv 1)) (g_name c 3) (s_one (s_app 2 (d_l (l_lc c [("other", 4)] (i_seq (dv 1)) (blkOk_by (by kernel_rfl)) (fun _ _ _ _ _ c => (g_name c 4)) (fun _ _ _ _ _ c => ts_nil) (fun _ _ _ _ _ c => (d_tup (a_cons (d_ix ix_seq prim_ix (d_ix ix_seq prim_ix (dv 0) (dv 3)) (dv 4)) (a_cons (d_ix ix_seq prim_ix (d_ix ix_seq prim_ix (dv 0) (dv 4)) (dv 3)) (a_cons (d_callTy call_int1 prim_int T.n_int bv_int (a_cons (d_cmp (op_eqD hr.units) prim_eq (dv 3) (dv 4)) a_nil)) (a_cons (dk_call c (ok__law_triangles T _ hB) (hr.mono (by decide)) (a_cons (dv 0) (a_cons (dv 3) (a_cons (dv 4) a_nil)))) a_nil)))))))))))
 (s_one (s_ret (dk_call c (ok__law_met T _ hB) (hr.mono (by decide)) (a_cons (dv 2) a_nil))))))
def ms__law_is_coherent : MS := (mRet (mOp (eqD false) (mFn 1 mf__law_colours (mCons (mFn 1 mf__law_finer_once (mCons (mV 0) mNil)) mNil)) (mFn 1 mf__law_colours (mCons (mV 0) mNil))))
@[irreducible] def mf__law_is_coherent : MF := fnM 1 (ms__law_is_coherent)
theorem sc__law_is_coherent : FnScope ["table"] ["table"] (defScope s__law_is_coherent) := ⟨rfl, rfl, rfl, by decide +kernel, rfl, by decide +kernel, by decide +kernel⟩
theorem ok__law_is_coherent (T : Tx w K mg) : GF P w K mg (Γk K) (csk K) 3 "_law_is_coherent" ["table"] (fun cp => mf__law_is_coherent) := by
  unfold mf__law_is_coherent
  exact gf_mk (P := P) (w := w) (cs := csk K) (Γ := Γk K) (k := 2) (N := ["table"]) (ms := fun cp => ms__law_is_coherent) T.d__law_is_coherent T.g__law_is_coherent sc__law_is_coherent (fun _ _ _ _ _ _ us hl => match us, hl with | [_], _ => rfl) fun base hB cdv hcd A outer s H E hr c =>
 (s_one (s_ret (d_cmp (op_eqD hr.units) prim_eq (dk_call c (ok__law_colours T _ hB) (hr.mono (by decide)) (a_cons (dk_call c (ok__law_finer_once T _ hB) (hr.mono (by decide)) (a_cons (dv 0) a_nil)) a_nil)) (dk_call c (ok__law_colours T _ hB) (hr.mono (by decide)) (a_cons (dv 0) a_nil)))))
def ms__law_is_scheme : MS := (mRet (mAndV (mFn 1 mf__law_is_coherent (mCons (mV 0) mNil)) (mOp (eqD false) (mL (mLc (mEnum (mCons (mV 0) mNil)) (mtTup 2 (mtCons (mtN 1) (mtCons (mtN 2) mtNil))) (mT (mOp (eqD true) (mOp ixD (mV 2) (mV 1)) (mOp ixD (mOp ixD (mV 0) (mC (.int 0))) (mC (.int 0))))) (mC (.int 1)) [1, 2])) (mL (mLst mNil)))))
@[irreducible] def mf__law_is_scheme : MF := fnM 3 (ms__law_is_scheme)
theorem sc__law_is_scheme : FnScope ["table", "at", "row"] ["table"] (defScope s__law_is_scheme) := ⟨rfl, rfl, rfl, by decide +kernel, rfl, by decide +kernel, by decide +kernel⟩
theorem ok__law_is_scheme (T : Tx w K mg) : GF P w K mg (Γk K) (csk K) 4 "_law_is_scheme" ["table"] (fun cp => mf__law_is_scheme) := by
  unfold mf__law_is_scheme
  exact gf_mk (P := P) (w := w) (cs := csk K) (Γ := Γk K) (k := 3) (N := ["table", "at", "row"]) (ms := fun cp => ms__law_is_scheme) T.d__law_is_scheme T.g__law_is_scheme sc__law_is_scheme (fun _ _ _ _ _ _ us hl => match us, hl with | [_], _ => rfl) fun base hB cdv hcd A outer s H E hr c =>
 (s_one (s_ret (d_and (dk_call c (ok__law_is_coherent T _ hB) (hr.mono (by decide)) (a_cons (dv 0) a_nil)) (d_one (d_cmp (op_eqD hr.units) prim_eq (d_l (l_lc c [("at", 1), ("row", 2)] (i_enum T.n_enumerate (a_cons (dv 0) a_nil)) (blkOk_by (by kernel_rfl)) (fun _ _ _ _ _ c => (g_tup c (gs_cons (g_name c 1) (gs_cons (g_name c 2) gs_nil)))) (fun _ _ _ _ _ c => (ts_one (t_cmp (op_neD hr.units) prim_ne (d_ix ix_seq prim_ix (dv 2) (dv 1)) (d_ix ix_seq prim_ix (d_ix ix_seq prim_ix (dv 0) d_int) d_int)))) (fun _ _ _ _ _ c => d_int))) (d_l (l_lst a_nil)))))))
def ms__law_places : MS := (mRet (mCall lenD (mCons (mL (mLc (mItems (mL (mLst (mCons (mC (.int 1)) (mCons (mC (.int 2)) (mCons (mC (.int 4)) (mCons (mC (.int 8)) mNil))))))) (mtN 2) (mT (mOp (eqD true) (mOp modD (mCall intD (mCons (mOp fdivD (mV 0) (mV 2)) mNil)) (mC (.int 2))) (mOp modD (mCall intD (mCons (mOp fdivD (mV 1) (mV 2)) mNil)) (mC (.int 2))))) (mC (.int 1)) [2])) mNil)))
@[irreducible] def mf__law_places : MF := fnM 3 (ms__law_places)
theorem sc__law_places : FnScope ["one", "other", "place"] ["one", "other"] (defScope s__law_places) := ⟨rfl, rfl, rfl, by decide +kernel, rfl, by decide +kernel, by decide +kernel⟩
theorem ok__law_places (T : Tx w K mg) : GF P w K mg (Γk K) (csk K) 1 "_law_places" ["one", "other"] (fun cp => mf__law_places) := by
  unfold mf__law_places
  exact gf_mk (P := P) (w := w) (cs := csk K) (Γ := Γk K) (k := 0) (N := ["one", "other", "place"]) (ms := fun cp => ms__law_places) T.d__law_places T.g__law_places sc__law_places (fun _ _ _ _ _ _ us hl => match us, hl with | [_, _], _ => rfl) fun base hB cdv hcd A outer s H E hr c =>
 (s_one (s_ret (d_callB call_len prim_len T.n_len bv_len (a_cons (d_l (l_lc c [("place", 2)] (i_seq (d_l (l_lst (a_cons d_int (a_cons d_int (a_cons d_int (a_cons d_int a_nil))))))) (blkOk_by (by kernel_rfl)) (fun _ _ _ _ _ c => (g_name c 2)) (fun _ _ _ _ _ c => (ts_one (t_cmp (op_neD hr.units) prim_ne (d_op op_modN prim_mod (d_callTy call_int1 prim_int T.n_int bv_int (a_cons (d_op op_fdivN prim_fdiv (dv 0) (dv 2)) a_nil)) d_int) (d_op op_modN prim_mod (d_callTy call_int1 prim_int T.n_int bv_int (a_cons (d_op op_fdivN prim_fdiv (dv 1) (dv 2)) a_nil)) d_int)))) (fun _ _ _ _ _ c => d_int))) a_nil))))
def ms__law_orders : MS := (mSeq (mAsgL 0 (mLst mNil)) (mSeq (mFor (mRng1 (mCons (mC (.int 3)) mNil)) (mtN 1) (mFor (mRng1 (mCons (mC (.int 3)) mNil)) (mtN 2) (mIfS (mT (mOp (eqD true) (mV 1) (mV 2))) (mApp 0 (mTup (mCons (mV 1) (mCons (mV 2) (mCons (mOp subD (mOp subD (mC (.int 3)) (mV 1)) (mV 2)) mNil))))) mNext))) (mRet (mV 0))))
@[irreducible] def mf__law_orders : MF := fnM 3 (ms__law_orders)
theorem sc__law_orders : FnScope ["found", "one", "other"] [] (defScope s__law_orders) := ⟨rfl, rfl, rfl, by decide +kernel, rfl, by decide +kernel, by decide +kernel⟩
theorem ok__law_orders (T : Tx w K mg) : GF P w K mg (Γk K) (csk K) 1 "_law_orders" [] (fun cp => mf__law_orders) := by
  unfold mf__law_orders
  exact gf_mk (P := P) (w := w) (cs := csk K) (Γ := Γk K) (k := 0) (N := ["found", "one", "other"]) (ms := fun cp => ms__law_orders) T.d__law_orders T.g__law_orders sc__law_orders (fun _ _ _ _ _ _ us hl => match us, hl with | [], _ => rfl) fun base hB cdv hcd A outer s H E hr c =>
 (s_cons (s_asgL c 0 (l_lst a_nil))
 (s_cons (s_for c (i_rng1 T.n_range (a_cons d_int a_nil)) (g_name c 1) (s_one (s_for c (i_rng1 T.n_range (a_cons d_int a_nil)) (g_name c 2) (s_one (s_if (t_cmp (op_neD hr.units) prim_ne (dv 1) (dv 2)) (s_one (s_app 0 (d_tup (a_cons (dv 1) (a_cons (dv 2) (a_cons (d_op op_sub prim_sub (d_op op_sub prim_sub d_int (dv 1)) (dv 2)) a_nil)))))) s_nil)))))
 (s_one (s_ret (dv 0)))))
end
end K71
end -- K71f
section -- K71g
set_option Elab.async false
set_option linter.all false
set_option maxRecDepth 100000
set_option maxHeartbeats 4000000
namespace K71
open PySem PySem.Spec PyProof.Rows L2 Dm
section
variable [Tbs] {P : Program} {w : World} {K : PySem.W.Frag} {mg : Str → Option Value}
def ms__law_six : MS := (mSeq (mPar 0 1 (mVD (mFn 0 mf__law_orders mNil)) (mVL (mLst mNil))) (mSeq (mFor (mItems (mV 0)) (mtN 2) (mSeq (mAsgL 3 (mLst mNil)) (mSeq (mFor (mItems (mV 0)) (mtN 4) (mAsg 3 (mOp addD (mV 3) (mL (mLc (mEnum (mCons (mV 0) mNil)) (mtTup 2 (mtCons (mtN 5) (mtCons (mtN 6) mtNil))) (mT (mOp (eqD false) (mCall tupleD (mCons (mL (mLc (mRng1 (mCons (mC (.int 3)) mNil)) (mtN 7) mYes (mOp ixD (mV 2) (mOp ixD (mV 6) (mV 7))) [7])) mNil)) (mV 4))) (mV 5) [5, 6]))))) (mApp 1 (mV 3))))) (mRet (mV 1))))
@[irreducible] def mf__law_six : MF := fnM 8 (ms__law_six)
theorem sc__law_six : FnScope ["orders", "rows", "one", "row", "other", "at", "way", "spot"] [] (defScope s__law_six) := ⟨rfl, rfl, rfl, by decide +kernel, rfl, by decide +kernel, by decide +kernel⟩
theorem ok__law_six (T : Tx w K mg) : GF P w K mg (Γk K) (csk K) 2 "_law_six" [] (fun cp => mf__law_six) := by
  unfold mf__law_six
  exact gf_mk (P := P) (w := w) (cs := csk K) (Γ := Γk K) (k := 1) (N := ["orders", "rows", "one", "row", "other", "at", "way", "spot"]) (ms := fun cp => ms__law_six) T.d__law_six T.g__law_six sc__law_six (fun _ _ _ _ _ _ us hl => match us, hl with | [], _ => rfl) fun base hB cdv hcd A outer s H E hr c =>
 (s_cons (s_par c 0 1 (v_d (dk_call0 c (ok__law_orders T _ hB) (hr.mono (by decide)))) (v_l (l_lst a_nil)) (by rfl))
 (s_cons (s_for c (i_seq (dv 0)) (g_name c 2) (s_cons (s_asgL c 3 (l_lst a_nil))
 (s_cons (s_for c (i_seq (dv 0)) (g_name c 4) (s_one (s_asg c 3 (d_op op_addA prim_add (dv 3) (d_l (l_lc c [("at", 5), ("way", 6)] (i_enum T.n_enumerate (a_cons (dv 0) a_nil)) (blkOk_by (by kernel_rfl)) (fun _ _ _ _ _ c => (g_tup c (gs_cons (g_name c 5) (gs_cons (g_name c 6) gs_nil)))) (fun _ _ _ _ _ c => (ts_one (t_cmp (op_eqD hr.units) prim_eq (d_callTy call_tupleX prim_tuple T.n_tuple bv_tuple (a_cons (d_l (l_lc c [("spot", 7)] (i_rng1 T.n_range (a_cons d_int a_nil)) (blkOk_by (by kernel_rfl)) (fun _ _ _ _ _ c => (g_name c 7)) (fun _ _ _ _ _ c => ts_nil) (fun _ _ _ _ _ c => (d_ix ix_seq prim_ix (dv 2) (d_ix ix_seq prim_ix (dv 6) (dv 7)))))) a_nil)) (dv 4)))) (fun _ _ _ _ _ c => (dv 5))))))))
 (s_one (s_app 1 (dv 3))))))
 (s_one (s_ret (dv 1)))))
end
end K71
end -- K71g
section -- K71h
set_option Elab.async false
set_option linter.all false
set_option maxRecDepth 100000
set_option maxHeartbeats 4000000
namespace K71
open PySem PySem.Spec PyProof.Rows L2 Dm
section
variable [Tbs] {P : Program} {w : World} {K : PySem.W.Frag} {mg : Str → Option Value}
def ms__law_near : MS := (mSeq (mIfS (mT (mOp (inD false) (mV 0) (mL (mLst (mCons (mC (.str "alone")) (mCons (mC (.str "two")) mNil)))))) (mRet (mCall intD (mCons (mOp (eqD true) (mV 1) (mV 2)) mNil))) mNext) (mSeq (mIfS (mT (mOp (eqD false) (mV 0) (mC (.str "wheel")))) (mRet (mOp modD (mCall intD (mCons (mOp subD (mV 2) (mV 1)) mNil)) (mC (.int 3)))) mNext) (mSeq (mIfS (mT (mOp (inD false) (mV 0) (mL (mLst (mCons (mC (.str "square")) (mCons (mC (.str "ring")) mNil)))))) (mSeq (mAsg 3 (mIf (mT (mOp (eqD false) (mV 0) (mC (.str "square")))) (mC (.int 4)) (mC (.int 5)))) (mRet (mCall min2D (mCons (mOp modD (mCall intD (mCons (mOp subD (mV 2) (mV 1)) mNil)) (mV 3)) (mCons (mOp modD (mCall intD (mCons (mOp subD (mV 1) (mV 2)) mNil)) (mV 3)) mNil))))) mNext) (mSeq (mIfS (mT (mOp (eqD false) (mV 0) (mC (.str "cube")))) (mRet (mFn 2 mf__law_places (mCons (mV 1) (mCons (mV 2) mNil)))) mNext) (mSeq (mIfS (mT (mOp (eqD false) (mV 1) (mV 2))) (mRet (mC (.int 0))) mNext) (mSeq (mIfS (mT (mOp (eqD false) (mV 0) (mC (.str "clebsch")))) (mRet (mIf (mT (mOp (inD false) (mFn 2 mf__law_places (mCons (mV 1) (mCons (mV 2) mNil))) (mL (mLst (mCons (mC (.int 1)) (mCons (mC (.int 4)) mNil)))))) (mC (.int 1)) (mC (.int 2)))) mNext) (mSeq (mIfS (mT (mOp (eqD false) (mV 0) (mC (.str "lattice")))) (mRet (mIf (mOr (mT (mOp (eqD false) (mOp fdivD (mV 1) (mC (.int 4))) (mOp fdivD (mV 2) (mC (.int 4))))) (mT (mOp (eqD false) (mOp modD (mCall intD (mCons (mV 1) mNil)) (mC (.int 4))) (mOp modD (mCall intD (mCons (mV 2) mNil)) (mC (.int 4)))))) (mC (.int 1)) (mC (.int 2)))) mNext) (mSeq (mIfS (mT (mOp (eqD false) (mV 0) (mC (.str "petersen")))) (mSeq (mAsgL 4 (mLst (mCons (mTup (mCons (mC (.int 0)) (mCons (mC (.int 1)) mNil))) (mCons (mTup (mCons (mC (.int 0)) (mCons (mC (.int 2)) mNil))) (mCons (mTup (mCons (mC (.int 0)) (mCons (mC (.int 3)) mNil))) (mCons (mTup (mCons (mC (.int 0)) (mCons (mC (.int 4)) mNil))) (mCons (mTup (mCons (mC (.int 1)) (mCons (mC (.int 2)) mNil))) (mCons (mTup (mCons (mC (.int 1)) (mCons (mC (.int 3)) mNil))) (mCons (mTup (mCons (mC (.int 1)) (mCons (mC (.int 4)) mNil))) (mCons (mTup (mCons (mC (.int 2)) (mCons (mC (.int 3)) mNil))) (mCons (mTup (mCons (mC (.int 2)) (mCons (mC (.int 4)) mNil))) (mCons (mTup (mCons (mC (.int 3)) (mCons (mC (.int 4)) mNil))) mNil)))))))))))) (mRet (mIf (mOr (mT (mOp (inD false) (mOp ixD (mOp ixD (mV 4) (mV 1)) (mC (.int 0))) (mOp ixD (mV 4) (mV 2)))) (mT (mOp (inD false) (mOp ixD (mOp ixD (mV 4) (mV 1)) (mC (.int 1))) (mOp ixD (mV 4) (mV 2))))) (mC (.int 2)) (mC (.int 1))))) mNext) (mSeq (mAsg 5 (mTup (mCons (mOp modD (mCall intD (mCons (mOp subD (mOp fdivD (mV 2) (mC (.int 4))) (mOp fdivD (mV 1) (mC (.int 4)))) mNil)) (mC (.int 4))) (mCons (mOp modD (mCall intD (mCons (mOp subD (mOp modD (mCall intD (mCons (mV 2) mNil)) (mC (.int 4))) (mOp modD (mCall intD (mCons (mV 1) mNil)) (mC (.int 4)))) mNil)) (mC (.int 4))) mNil)))) (mRet (mIf (mT (mOp (inD false) (mV 5) (mL (mLst (mCons (mTup (mCons (mC (.int 0)) (mCons (mC (.int 1)) mNil))) (mCons (mTup (mCons (mC (.int 0)) (mCons (mC (.int 3)) mNil))) (mCons (mTup (mCons (mC (.int 1)) (mCons (mC (.int 0)) mNil))) (mCons (mTup (mCons (mC (.int 3)) (mCons (mC (.int 0)) mNil))) (mCons (mTup (mCons (mC (.int 1)) (mCons (mC (.int 1)) mNil))) (mCons (mTup (mCons (mC (.int 3)) (mCons (mC (.int 3)) mNil))) mNil)))))))))) (mC (.int 1)) (mC (.int 2)))))))))))))
@[irreducible] def mf__law_near : MF := fnM 6 (ms__law_near)
theorem sc__law_near : FnScope ["name", "one", "other", "many", "pairs", "way"] ["name", "one", "other"] (defScope s__law_near) := ⟨rfl, rfl, rfl, by decide +kernel, rfl, by decide +kernel, by decide +kernel⟩
theorem ok__law_near (T : Tx w K mg) : GF P w K mg (Γk K) (csk K) 2 "_law_near" ["name", "one", "other"] (fun cp => mf__law_near) := by
  unfold mf__law_near
  exact gf_mk (P := P) (w := w) (cs := csk K) (Γ := Γk K) (k := 1) (N := ["name", "one", "other", "many", "pairs", "way"]) (ms := fun cp => ms__law_near) T.d__law_near T.g__law_near sc__law_near (fun _ _ _ _ _ _ us hl => match us, hl with | [_, _, _], _ => rfl) fun base hB cdv hcd A outer s H E hr c =>
 (s_cons (s_if (t_cmp (op_inA hr.units65) prim_in (dv 0) (d_l (l_lst (a_cons d_str (a_cons d_str a_nil))))) (s_one (s_ret (d_callTy call_int1 prim_int T.n_int bv_int (a_cons (d_cmp (op_neD hr.units) prim_ne (dv 1) (dv 2)) a_nil)))) s_nil)
 (s_cons (s_if (t_cmp (op_eqD hr.units) prim_eq (dv 0) d_str) (s_one (s_ret (d_op op_modN prim_mod (d_callTy call_int1 prim_int T.n_int bv_int (a_cons (d_op op_sub prim_sub (dv 2) (dv 1)) a_nil)) d_int))) s_nil)
 (s_cons (s_if (t_cmp (op_inA hr.units65) prim_in (dv 0) (d_l (l_lst (a_cons d_str (a_cons d_str a_nil))))) (s_cons (s_asg c 3 (d_if (t_cmp (op_eqD hr.units) prim_eq (dv 0) d_str) d_int d_int))
 (s_one (s_ret (d_callB (call_min2 c.calm) prim_min2 T.n_min bv_min (a_cons (d_op op_modN prim_mod (d_callTy call_int1 prim_int T.n_int bv_int (a_cons (d_op op_sub prim_sub (dv 2) (dv 1)) a_nil)) (dv 3)) (a_cons (d_op op_modN prim_mod (d_callTy call_int1 prim_int T.n_int bv_int (a_cons (d_op op_sub prim_sub (dv 1) (dv 2)) a_nil)) (dv 3)) a_nil)))))) s_nil)
 (s_cons (s_if (t_cmp (op_eqD hr.units) prim_eq (dv 0) d_str) (s_one (s_ret (dk_call c (ok__law_places T _ hB) (hr.mono (by decide)) (a_cons (dv 1) (a_cons (dv 2) a_nil))))) s_nil)
 (s_cons (s_if (t_cmp (op_eqD hr.units) prim_eq (dv 1) (dv 2)) (s_one (s_ret d_int)) s_nil)
 (s_cons (s_if (t_cmp (op_eqD hr.units) prim_eq (dv 0) d_str) (s_one (s_ret (d_if (t_cmp (op_inA hr.units65) prim_in (dk_call c (ok__law_places T _ hB) (hr.mono (by decide)) (a_cons (dv 1) (a_cons (dv 2) a_nil))) (d_l (l_lst (a_cons d_int (a_cons d_int a_nil))))) d_int d_int))) s_nil)
 (s_cons (s_if (t_cmp (op_eqD hr.units) prim_eq (dv 0) d_str) (s_one (s_ret (d_if (PW.pt (w_or (t_cmp (op_eqD hr.units) prim_eq (d_op op_fdivN prim_fdiv (dv 1) d_int) (d_op op_fdivN prim_fdiv (dv 2) d_int)) (w_or1 (t_cmp (op_eqD hr.units) prim_eq (d_op op_modN prim_mod (d_callTy call_int1 prim_int T.n_int bv_int (a_cons (dv 1) a_nil)) d_int) (d_op op_modN prim_mod (d_callTy call_int1 prim_int T.n_int bv_int (a_cons (dv 2) a_nil)) d_int))))) d_int d_int))) s_nil)
 (s_cons (s_if (t_cmp (op_eqD hr.units) prim_eq (dv 0) d_str) (s_cons (s_asgL c 4 (l_lst (a_cons (d_tup (a_cons d_int (a_cons d_int a_nil))) (a_cons (d_tup (a_cons d_int (a_cons d_int a_nil))) (a_cons (d_tup (a_cons d_int (a_cons d_int a_nil))) (a_cons (d_tup (a_cons d_int (a_cons d_int a_nil))) (a_cons (d_tup (a_cons d_int (a_cons d_int a_nil))) (a_cons (d_tup (a_cons d_int (a_cons d_int a_nil))) (a_cons (d_tup (a_cons d_int (a_cons d_int a_nil))) (a_cons (d_tup (a_cons d_int (a_cons d_int a_nil))) (a_cons (d_tup (a_cons d_int (a_cons d_int a_nil))) (a_cons (d_tup (a_cons d_int (a_cons d_int a_nil))) a_nil))))))))))))
 (s_one (s_ret (d_if (PW.pt (w_or (t_cmp (op_inA hr.units65) prim_in (d_ix ix_seq prim_ix (d_ix ix_seq prim_ix (dv 4) (dv 1)) d_int) (d_ix ix_seq prim_ix (dv 4) (dv 2))) (w_or1 (t_cmp (op_inA hr.units65) prim_in (d_ix ix_seq prim_ix (d_ix ix_seq prim_ix (dv 4) (dv 1)) d_int) (d_ix ix_seq prim_ix (dv 4) (dv 2)))))) d_int d_int)))) s_nil)
 (s_cons (s_asg c 5 (d_tup (a_cons (d_op op_modN prim_mod (d_callTy call_int1 prim_int T.n_int bv_int (a_cons (d_op op_sub prim_sub (d_op op_fdivN prim_fdiv (dv 2) d_int) (d_op op_fdivN prim_fdiv (dv 1) d_int)) a_nil)) d_int) (a_cons (d_op op_modN prim_mod (d_callTy call_int1 prim_int T.n_int bv_int (a_cons (d_op op_sub prim_sub (d_op op_modN prim_mod (d_callTy call_int1 prim_int T.n_int bv_int (a_cons (dv 2) a_nil)) d_int) (d_op op_modN prim_mod (d_callTy call_int1 prim_int T.n_int bv_int (a_cons (dv 1) a_nil)) d_int)) a_nil)) d_int) a_nil))))
 (s_one (s_ret (d_if (t_cmp (op_inA hr.units65) prim_in (dv 5) (d_l (l_lst (a_cons (d_tup (a_cons d_int (a_cons d_int a_nil))) (a_cons (d_tup (a_cons d_int (a_cons d_int a_nil))) (a_cons (d_tup (a_cons d_int (a_cons d_int a_nil))) (a_cons (d_tup (a_cons d_int (a_cons d_int a_nil))) (a_cons (d_tup (a_cons d_int (a_cons d_int a_nil))) (a_cons (d_tup (a_cons d_int (a_cons d_int a_nil))) a_nil))))))))) d_int d_int))))))))))))
end
end K71
end -- K71h
section -- K71i
set_option Elab.async false
set_option linter.all false
set_option maxRecDepth 100000
set_option maxHeartbeats 4000000
namespace K71
open PySem PySem.Spec PyProof.Rows L2 Dm
section
variable [Tbs] {P : Program} {w : World} {K : PySem.W.Frag} {mg : Str → Option Value}
def ms__law_facts : MS := (mSeq (mPar 1 2 (mVD (mOp (eqD false) (mFn 1 mf__law_turned (mCons (mV 0) mNil)) (mV 0))) (mVD (mC (.bl true)))) (mSeq (mFor (mRng1 (mCons (mCall lenD (mCons (mV 0) mNil)) mNil)) (mtN 3) (mFor (mRng1 (mCons (mCall lenD (mCons (mV 0) mNil)) mNil)) (mtN 4) (mSeq (mAsg 5 (mFn 3 mf__law_triangles (mCons (mV 0) (mCons (mV 3) (mCons (mV 4) mNil))))) (mIfS (mT (mOp (eqD true) (mL (mLc (mItems (mV 5)) (mtTup 3 (mtCons (mtN 6) (mtCons (mtN 7) (mtCons (mtN 8) mtNil)))) (mT (mOp (inD true) (mTup (mCons (mV 7) (mCons (mV 6) (mCons (mV 8) mNil)))) (mV 5))) (mC (.int 1)) [6, 7, 8])) (mL (mLst mNil)))) (mAsg 2 (mC (.bl false))) mNext)))) (mRet (mTup (mCons (mCall lenD (mCons (mV 0) mNil)) (mCons (mFn 1 mf__law_colours (mCons (mV 0) mNil)) (mCons (mFn 1 mf__law_is_scheme (mCons (mV 0) mNil)) (mCons (mV 2) (mCons (mV 1) mNil)))))))))
@[irreducible] def mf__law_facts : MF := fnM 9 (ms__law_facts)
theorem sc__law_facts : FnScope ["table", "is_even", "is_commuting", "start", "goal", "told", "one", "other", "many"] ["table"] (defScope s__law_facts) := ⟨rfl, rfl, rfl, by decide +kernel, rfl, by decide +kernel, by decide +kernel⟩
theorem ok__law_facts (T : Tx w K mg) : GF P w K mg (Γk K) (csk K) 5 "_law_facts" ["table"] (fun cp => mf__law_facts) := by
  unfold mf__law_facts
  exact gf_mk (P := P) (w := w) (cs := csk K) (Γ := Γk K) (k := 4) (N := ["table", "is_even", "is_commuting", "start", "goal", "told", "one", "other", "many"]) (ms := fun cp => ms__law_facts) T.d__law_facts T.g__law_facts sc__law_facts (fun _ _ _ _ _ _ us hl => match us, hl with | [_], _ => rfl) fun base hB cdv hcd A outer s H E hr c =>
 (s_cons (s_par c 1 2 (v_d (d_cmp (op_eqD hr.units) prim_eq (dk_call c (ok__law_turned T _ hB) (hr.mono (by decide)) (a_cons (dv 0) a_nil)) (dv 0))) (v_d d_bl) (by rfl))
 (s_cons (s_for c (i_rng1 T.n_range (a_cons (d_callB call_len prim_len T.n_len bv_len (a_cons (dv 0) a_nil)) a_nil)) (g_name c 3) (s_one (s_for c (i_rng1 T.n_range (a_cons (d_callB call_len prim_len T.n_len bv_len (a_cons (dv 0) a_nil)) a_nil)) (g_name c 4) (s_cons (s_asg c 5 (dk_call c (ok__law_triangles T _ hB) (hr.mono (by decide)) (a_cons (dv 0) (a_cons (dv 3) (a_cons (dv 4) a_nil)))))
 (s_one (s_if (t_cmp (op_neD hr.units) prim_ne (d_l (l_lc c [("one", 6), ("other", 7), ("many", 8)] (i_seq (dv 5)) (blkOk_by (by kernel_rfl)) (fun _ _ _ _ _ c => (g_tup c (gs_cons (g_name c 6) (gs_cons (g_name c 7) (gs_cons (g_name c 8) gs_nil))))) (fun _ _ _ _ _ c => (ts_one (t_cmp (op_notInA hr.units65) prim_in (d_tup (a_cons (dv 7) (a_cons (dv 6) (a_cons (dv 8) a_nil)))) (dv 5)))) (fun _ _ _ _ _ c => d_int))) (d_l (l_lst a_nil))) (s_one (s_asg c 2 d_bl)) s_nil))))))
 (s_one (s_ret (d_tup (a_cons (d_callB call_len prim_len T.n_len bv_len (a_cons (dv 0) a_nil)) (a_cons (dk_call c (ok__law_colours T _ hB) (hr.mono (by decide)) (a_cons (dv 0) a_nil)) (a_cons (dk_call c (ok__law_is_scheme T _ hB) (hr.mono (by decide)) (a_cons (dv 0) a_nil)) (a_cons (dv 2) (a_cons (dv 1) a_nil))))))))))
def ms__law_round : MS := (mSeq (mAsgL 2 (mLc (mEnum (mCons (mOp ixD (mV 0) (mV 1)) mNil)) (mtTup 2 (mtCons (mtN 3) (mtCons (mtN 4) mtNil))) (mT (mOp (eqD false) (mV 4) (mC (.int 1)))) (mV 3) [3, 4])) (mRet (mL (mLc (mItems (mV 2)) (mtN 5) mYes (mL (mLc (mItems (mV 2)) (mtN 3) (mT (mOp (eqD false) (mOp ixD (mOp ixD (mV 0) (mV 5)) (mV 3)) (mC (.int 1)))) (mV 3) [3])) [5]))))
@[irreducible] def mf__law_round : MF := fnM 6 (ms__law_round)
theorem sc__law_round : FnScope ["table", "point", "near", "spot", "colour", "here"] ["table", "point"] (defScope s__law_round) := ⟨rfl, rfl, rfl, by decide +kernel, rfl, by decide +kernel, by decide +kernel⟩
theorem ok__law_round (T : Tx w K mg) : GF P w K mg (Γk K) (csk K) 1 "_law_round" ["table", "point"] (fun cp => mf__law_round) := by
  unfold mf__law_round
  exact gf_mk (P := P) (w := w) (cs := csk K) (Γ := Γk K) (k := 0) (N := ["table", "point", "near", "spot", "colour", "here"]) (ms := fun cp => ms__law_round) T.d__law_round T.g__law_round sc__law_round (fun _ _ _ _ _ _ us hl => match us, hl with | [_, _], _ => rfl) fun base hB cdv hcd A outer s H E hr c =>
 (s_cons (s_asgL c 2 (l_lc c [("spot", 3), ("colour", 4)] (i_enum T.n_enumerate (a_cons (d_ix ix_seq prim_ix (dv 0) (dv 1)) a_nil)) (blkOk_by (by kernel_rfl)) (fun _ _ _ _ _ c => (g_tup c (gs_cons (g_name c 3) (gs_cons (g_name c 4) gs_nil)))) (fun _ _ _ _ _ c => (ts_one (t_cmp (op_eqD hr.units) prim_eq (dv 4) d_int))) (fun _ _ _ _ _ c => (dv 3))))
 (s_one (s_ret (d_l (l_lc c [("here", 5)] (i_seq (dv 2)) (blkOk_by (by kernel_rfl)) (fun _ _ _ _ _ c => (g_name c 5)) (fun _ _ _ _ _ c => ts_nil) (fun _ _ _ _ _ c => (d_l (l_lc c [("spot", 3)] (i_seq (dv 2)) (blkOk_by (by kernel_rfl)) (fun _ _ _ _ _ c => (g_name c 3)) (fun _ _ _ _ _ c => (ts_one (t_cmp (op_eqD hr.units) prim_eq (d_ix ix_seq prim_ix (d_ix ix_seq prim_ix (dv 0) (dv 5)) (dv 3)) d_int))) (fun _ _ _ _ _ c => (dv 3))))))))))
end
end K71
end -- K71i
section -- K71j
set_option Elab.async false
set_option linter.all false
set_option maxRecDepth 100000
set_option maxHeartbeats 4000000
namespace K71
open PySem PySem.Spec PyProof.Rows L2 Dm
section
variable [Tbs] {P : Program} {w : World} {K : PySem.W.Frag} {mg : Str → Option Value}
def ms__law_known : MS := (mSeq (mIfS (mT (mOp (eqD false) (mV 0) (mC (.str "parted")))) (mRet (mTup (mCons (mTup (mCons (mC (.int 0)) (mCons (mC (.int 1)) (mCons (mC (.int 1)) mNil)))) (mCons (mTup (mCons (mC (.int 2)) (mCons (mC (.int 3)) (mCons (mC (.int 4)) mNil)))) (mCons (mTup (mCons (mC (.int 2)) (mCons (mC (.int 4)) (mCons (mC (.int 3)) mNil)))) mNil))))) mNext) (mSeq (mAsg 2 (mIf (mT (mOp (eqD false) (mV 0) (mC (.str "six")))) (mFn 0 mf__law_six mNil) (mL (mLc (mRng1 (mCons (mV 1) mNil)) (mtN 3) mYes (mL (mLc (mRng1 (mCons (mV 1) mNil)) (mtN 4) mYes (mFn 3 mf__law_near (mCons (mV 0) (mCons (mV 3) (mCons (mV 4) mNil)))) [4])) [3])))) (mRet (mCall tupleD (mCons (mL (mLc (mItems (mV 2)) (mtN 5) mYes (mCall tupleD (mCons (mV 5) mNil)) [5])) mNil)))))
@[irreducible] def mf__law_known : MF := fnM 6 (ms__law_known)
theorem sc__law_known : FnScope ["name", "points", "rows", "one", "other", "row"] ["name", "points"] (defScope s__law_known) := ⟨rfl, rfl, rfl, by decide +kernel, rfl, by decide +kernel, by decide +kernel⟩
theorem ok__law_known (T : Tx w K mg) : GF P w K mg (Γk K) (csk K) 3 "_law_known" ["name", "points"] (fun cp => mf__law_known) := by
  unfold mf__law_known
  exact gf_mk (P := P) (w := w) (cs := csk K) (Γ := Γk K) (k := 2) (N := ["name", "points", "rows", "one", "other", "row"]) (ms := fun cp => ms__law_known) T.d__law_known T.g__law_known sc__law_known (fun _ _ _ _ _ _ us hl => match us, hl with | [_, _], _ => rfl) fun base hB cdv hcd A outer s H E hr c =>
 (s_cons (s_if (t_cmp (op_eqD hr.units) prim_eq (dv 0) d_str) (s_one (s_ret (d_tup (a_cons (d_tup (a_cons d_int (a_cons d_int (a_cons d_int a_nil)))) (a_cons (d_tup (a_cons d_int (a_cons d_int (a_cons d_int a_nil)))) (a_cons (d_tup (a_cons d_int (a_cons d_int (a_cons d_int a_nil)))) a_nil)))))) s_nil)
 (s_cons (s_asg c 2 (d_if (t_cmp (op_eqD hr.units) prim_eq (dv 0) d_str) (dk_call0 c (ok__law_six T _ hB) (hr.mono (by decide))) (d_l (l_lc c [("one", 3)] (i_rng1 T.n_range (a_cons (dv 1) a_nil)) (blkOk_by (by kernel_rfl)) (fun _ _ _ _ _ c => (g_name c 3)) (fun _ _ _ _ _ c => ts_nil) (fun _ _ _ _ _ c => (d_l (l_lc c [("other", 4)] (i_rng1 T.n_range (a_cons (dv 1) a_nil)) (blkOk_by (by kernel_rfl)) (fun _ _ _ _ _ c => (g_name c 4)) (fun _ _ _ _ _ c => ts_nil) (fun _ _ _ _ _ c => (dk_call c (ok__law_near T _ hB) (hr.mono (by decide)) (a_cons (dv 0) (a_cons (dv 3) (a_cons (dv 4) a_nil))))))))))))
 (s_one (s_ret (d_callTy call_tupleX prim_tuple T.n_tuple bv_tuple (a_cons (d_l (l_lc c [("row", 5)] (i_seq (dv 2)) (blkOk_by (by kernel_rfl)) (fun _ _ _ _ _ c => (g_name c 5)) (fun _ _ _ _ _ c => ts_nil) (fun _ _ _ _ _ c => (d_callTy call_tupleX prim_tuple T.n_tuple bv_tuple (a_cons (dv 5) a_nil))))) a_nil))))))
end
end K71
end -- K71j
section -- K71k
set_option Elab.async false
set_option linter.all false
set_option maxRecDepth 100000
set_option maxHeartbeats 4000000
namespace K71
open PySem PySem.Spec PyProof.Rows L2 Dm
section
variable [Tbs] {P : Program} {w : World} {K : PySem.W.Frag} {mg : Str → Option Value}
def ms__law_begun (dp : V → Hp → Prop) : MS := (mSeq (mAsgL 1 (mLc (mItems (mV 0)) (mtN 2) (mT (mOp geD (mCall absD (mCons (mV 2) mNil)) (mOp powD (mC (.int 10)) (mC (.int 18))))) (mOp subD (mCall absD (mCons (mV 2) mNil)) (mOp powD (mC (.int 10)) (mC (.int 18)))) [2])) (mRet (mBegun dp 1 (mLc (mItems (mV 0)) (mtN 2) mYes (mCall intD (mCons (mCall absD (mCons (mV 2) mNil)) mNil)) [2]))))
@[irreducible] def mf__law_begun (dp : V → Hp → Prop) : MF := fnM 3 (ms__law_begun dp)
theorem sc__law_begun : FnScope ["script", "large", "cell"] ["script"] (defScope s__law_begun) := ⟨rfl, rfl, rfl, by decide +kernel, rfl, by decide +kernel, by decide +kernel⟩
theorem rok__law_begun (T : Tx w K mg) : GF P w K mg (Γk K) (csk K) 1 "_law_begun" ["script"] (fun cp => mf__law_begun (DrawP P w)) := by
  unfold mf__law_begun
  exact gf_mk (P := P) (w := w) (cs := csk K) (Γ := Γk K) (k := 0) (N := ["script", "large", "cell"]) (ms := fun cp => ms__law_begun (DrawP P w)) T.d__law_begun T.g__law_begun sc__law_begun (fun _ _ _ _ _ _ us hl => match us, hl with | [_], _ => rfl) fun base hB cdv hcd A outer s H E hr c =>
 (s_cons (s_setLc c 1 [("cell", 2)] (i_seq (dv 0)) (blkOk_by (by kernel_rfl)) (fun _ _ _ _ _ c => (g_name c 2)) (fun _ _ _ _ _ c => (ts_one (t_cmp op_ge prim_ge (d_callB call_abs prim_abs T.n_abs bv_abs (a_cons (dv 2) a_nil)) (d_op op_pow prim_pow d_int d_int)))) (fun _ _ _ _ _ c => (d_op op_sub prim_sub (d_callB call_abs prim_abs T.n_abs bv_abs (a_cons (dv 2) a_nil)) (d_op op_pow prim_pow d_int d_int))) (sw_true rfl rfl rfl (by decide +kernel)))
 (s_one (s_ret (d_begun 1 (l_lc c [("cell", 2)] (i_seq (dv 0)) (blkOk_by (by kernel_rfl)) (fun _ _ _ _ _ c => (g_name c 2)) (fun _ _ _ _ _ c => ts_nil) (fun _ _ _ _ _ c => (d_callTy call_int1 prim_int T.n_int bv_int (a_cons (d_callB call_abs prim_abs T.n_abs bv_abs (a_cons (dv 2) a_nil)) a_nil))))))))
theorem mf_begun (dp : V → Hp → Prop) (ds : List D) (k : D → Prop) (kx : XD → Prop) (h : mfBegun dp ds k kx) : mf__law_begun dp ds k kx := by
  unfold mfBegun at h
  split at h
  · rename_i xs
    obtain ⟨⟨ns, rfl, hn⟩, hk⟩ := h
    have pw : powD (.int 10) (.int 18) = some (.int 1000000000000000000) := powD_ii (by decide) (by decide) (by decide)
    simp only [mf__law_begun, ms__law_begun, mBegun, fnM, mSeq, mDrawPut, mDrawInt, mDrawPop, mDrawCells, mFn, mfMixed, mfTake, useDraw, mOp, mC, mV, mPar, mPair, mVD, mVL, mVT, mVK, mCall, mCons, mNil, mFor, mItems, mL, mLst, mAsg, mAsgL, mRet, mRetN, mT, mIfS, mIf, mNext, mtN, mTup, mDrop, mAnd, mOr, mNot, mAndV, mOrV, mNotV, mRng1, mEnum, mYes, mLc, mApp, seqOf, Dm.intD, absD, lift, Dm.guard, List.map, List.length_cons, List.length_nil, List.cons_append, List.nil_append, List.replicate, List.getElem?_cons_zero, List.getElem?_cons_succ, List.set_cons_zero, List.set_cons_succ, Nat.reduceAdd, Nat.reduceSub, addD_ii, wipeS, mergeS, noOwnAt, SV.own, List.all, Bool.and_true, Bool.not_false]
    refine lc_ind (fun n acc ss => acc.length + n ≤ 1000 ∧ (intsOf acc).isSome = true ∧ ss = [.d (.frl (ns.map .int)), .un, .un]) _ [] ?_ ?_ _ ⟨by rw [List.length_map]; simpa using hn, rfl, rfl⟩
    · rintro d hd n acc ss k' ⟨h1, h2, rfl⟩ hk'
      obtain ⟨i, _, rfl⟩ := List.mem_map.mp hd
      have hg : Nat.blt acc.length mline = true := Nat.ble_eq_true_of_le (by show acc.length + 1 ≤ 16777216; omega)
      simp only [fnM, mSeq, mDrawPut, mDrawInt, mDrawPop, mDrawCells, mFn, mfMixed, mfTake, useDraw, mOp, mC, mV, mPar, mPair, mVD, mVL, mVT, mVK, mCall, mCons, mNil, mFor, mItems, mL, mLst, mAsg, mAsgL, mRet, mRetN, mT, mIfS, mIf, mNext, mtN, mTup, mDrop, mAnd, mOr, mNot, mAndV, mOrV, mNotV, mRng1, mEnum, mYes, mLc, mApp, seqOf, Dm.intD, absD, lift, Dm.guard, List.map, List.length_cons, List.length_nil, List.cons_append, List.nil_append, List.replicate, List.getElem?_cons_zero, List.getElem?_cons_succ, List.set_cons_zero, List.set_cons_succ, Nat.reduceAdd, Nat.reduceSub, addD_ii, wipeS, mergeS, noOwnAt, SV.own, List.all, Bool.and_true, Bool.not_false, pw, geD_ii, subD_ii, hg]
      split
      · refine hk' _ _ ⟨by rw [List.length_append]; show acc.length + 1 + n ≤ 1000; omega, ints_snoc h2, rfl⟩
      · exact hk' _ _ ⟨by omega, h2, rfl⟩
    · rintro acc ss ⟨h1, h2, rfl⟩
      simp only [fnM, mSeq, mDrawPut, mDrawInt, mDrawPop, mDrawCells, mFn, mfMixed, mfTake, useDraw, mOp, mC, mV, mPar, mPair, mVD, mVL, mVT, mVK, mCall, mCons, mNil, mFor, mItems, mL, mLst, mAsg, mAsgL, mRet, mRetN, mT, mIfS, mIf, mNext, mtN, mTup, mDrop, mAnd, mOr, mNot, mAndV, mOrV, mNotV, mRng1, mEnum, mYes, mLc, mApp, seqOf, Dm.intD, absD, lift, Dm.guard, List.map, List.length_cons, List.length_nil, List.cons_append, List.nil_append, List.replicate, List.getElem?_cons_zero, List.getElem?_cons_succ, List.set_cons_zero, List.set_cons_succ, Nat.reduceAdd, Nat.reduceSub, addD_ii, wipeS, mergeS, noOwnAt, SV.own, List.all, Bool.and_true, Bool.not_false]
      refine ⟨⟨acc, rfl⟩, ?_⟩
      refine lc_ind (fun n acc' ss => acc'.length + n ≤ 1000 ∧ (intsOf acc').isSome = true ∧ ss = [.d (.frl (ns.map .int)), .ol acc, .un]) _ [] ?_ ?_ _ ⟨by rw [List.length_map]; simpa using hn, rfl, rfl⟩
      · rintro d hd n acc' ss k' ⟨h1', h2', rfl⟩ hk'
        obtain ⟨i, _, rfl⟩ := List.mem_map.mp hd
        have hg : Nat.blt acc'.length mline = true := Nat.ble_eq_true_of_le (by show acc'.length + 1 ≤ 16777216; omega)
        simp only [fnM, mSeq, mDrawPut, mDrawInt, mDrawPop, mDrawCells, mFn, mfMixed, mfTake, useDraw, mOp, mC, mV, mPar, mPair, mVD, mVL, mVT, mVK, mCall, mCons, mNil, mFor, mItems, mL, mLst, mAsg, mAsgL, mRet, mRetN, mT, mIfS, mIf, mNext, mtN, mTup, mDrop, mAnd, mOr, mNot, mAndV, mOrV, mNotV, mRng1, mEnum, mYes, mLc, mApp, seqOf, Dm.intD, absD, lift, Dm.guard, List.map, List.length_cons, List.length_nil, List.cons_append, List.nil_append, List.replicate, List.getElem?_cons_zero, List.getElem?_cons_succ, List.set_cons_zero, List.set_cons_succ, Nat.reduceAdd, Nat.reduceSub, addD_ii, wipeS, mergeS, noOwnAt, SV.own, List.all, Bool.and_true, Bool.not_false, hg]
        exact hk' _ _ ⟨by rw [List.length_append]; show acc'.length + 1 + n ≤ 1000; omega, ints_snoc h2', rfl⟩
      · rintro acc' ss ⟨h1', h2', rfl⟩
        exact ⟨⟨acc, rfl, h2⟩, h2', hk⟩
  · exact h.elim
theorem ok__law_begun (T : Tx w K mg) : GF P w K mg (Γk K) (csk K) 1 "_law_begun" ["script"] (fun cp => mfBegun (DrawP P w)) := (rok__law_begun T).imp fun cp => mf_begun _
def ms__law_mixed (dp : V → Hp → Prop) : MS := (mSeq (mDrawPut dp 0 (mOp addD (mDrawInt dp 0) (mC (.int 1)))) (mSeq (mPar 1 2 (mVD (mCall intD (mCons (mDrawInt dp 0) mNil))) (mVD (mC (.int 0)))) (mSeq (mFor (mItems (mL (mLst (mCons (mC (.int 2147483629)) (mCons (mC (.int 2147483587)) (mCons (mC (.int 2147483579)) (mCons (mC (.int 2147483563)) mNil))))))) (mtN 3) (mSeq (mAsg 4 (mOp modD (mOp addD (mOp repD (mV 1) (mC (.int 69621))) (mOp fdivD (mV 3) (mC (.int 11)))) (mV 3))) (mSeq (mFor (mItems (mDrawCells dp 0)) (mtN 5) (mAsg 4 (mOp modD (mOp addD (mOp addD (mOp repD (mV 4) (mC (.int 48271))) (mCall intD (mCons (mV 5) mNil))) (mC (.int 7))) (mV 3)))) (mAsg 2 (mOp addD (mOp repD (mV 2) (mC (.int 2147483647))) (mOp modD (mOp powD (mV 4) (mC (.int 5))) (mV 3))))))) (mRet (mV 2)))))
@[irreducible] def mf__law_mixed (dp : V → Hp → Prop) : MF := fnM 6 (ms__law_mixed dp)
theorem sc__law_mixed : FnScope ["draw", "turn", "found", "great", "blend", "cell"] ["draw"] (defScope s__law_mixed) := ⟨rfl, rfl, rfl, by decide +kernel, rfl, by decide +kernel, by decide +kernel⟩
theorem rok__law_mixed (T : Tx w K mg) : GF P w K mg (Γk K) (csk K) 1 "_law_mixed" ["draw"] (fun cp => mf__law_mixed (DrawP P w)) := by
  unfold mf__law_mixed
  exact gf_mk (P := P) (w := w) (cs := csk K) (Γ := Γk K) (k := 0) (N := ["draw", "turn", "found", "great", "blend", "cell"]) (ms := fun cp => ms__law_mixed (DrawP P w)) T.d__law_mixed T.g__law_mixed sc__law_mixed (fun _ _ _ _ _ _ us hl => match us, hl with | [_], _ => rfl) fun base hB cdv hcd A outer s H E hr c =>
 (s_cons (s_drawPut 0 hr.units (by right; rfl) (d_op op_addA prim_add (d_drawInt 0 hr.units (by right; rfl)) d_int))
 (s_cons (s_par c 1 2 (v_d (d_callTy call_int1 prim_int T.n_int bv_int (a_cons (d_drawInt 0 hr.units (by right; rfl)) a_nil))) (v_d d_int) (by rfl))
 (s_cons (s_for c (i_seq (d_l (l_lst (a_cons d_int (a_cons d_int (a_cons d_int (a_cons d_int a_nil))))))) (g_name c 3) (s_cons (s_asg c 4 (d_op op_modN prim_mod (d_op op_addA prim_add (d_op op_mulA prim_rep (dv 1) d_int) (d_op op_fdivN prim_fdiv (dv 3) d_int)) (dv 3)))
 (s_cons (s_for c (i_seq (d_drawCells 0 hr.units)) (g_name c 5) (s_one (s_asg c 4 (d_op op_modN prim_mod (d_op op_addA prim_add (d_op op_addA prim_add (d_op op_mulA prim_rep (dv 4) d_int) (d_callTy call_int1 prim_int T.n_int bv_int (a_cons (dv 5) a_nil))) d_int) (dv 3)))))
 (s_one (s_asg c 2 (d_op op_addA prim_add (d_op op_mulA prim_rep (dv 2) d_int) (d_op op_modN prim_mod (d_op op_pow prim_pow (dv 4) d_int) (dv 3))))))))
 (s_one (s_ret (dv 2))))))
def ms_mixedG (rp fd md pw : D → D → Option D) (dp : V → Hp → Prop) : MS := (mSeq (mDrawPut dp 0 (mOp addD (mDrawInt dp 0) (mC (.int 1)))) (mSeq (mPar 1 2 (mVD (mCall intD (mCons (mDrawInt dp 0) mNil))) (mVD (mC (.int 0)))) (mSeq (mFor (mItems (mL (mLst (mCons (mC (.int 2147483629)) (mCons (mC (.int 2147483587)) (mCons (mC (.int 2147483579)) (mCons (mC (.int 2147483563)) mNil))))))) (mtN 3) (mSeq (mAsg 4 (mOp md (mOp addD (mOp rp (mV 1) (mC (.int 69621))) (mOp fd (mV 3) (mC (.int 11)))) (mV 3))) (mSeq (mFor (mItems (mDrawCells dp 0)) (mtN 5) (mAsg 4 (mOp md (mOp addD (mOp addD (mOp rp (mV 4) (mC (.int 48271))) (mCall intD (mCons (mV 5) mNil))) (mC (.int 7))) (mV 3)))) (mAsg 2 (mOp addD (mOp rp (mV 2) (mC (.int 2147483647))) (mOp md (mOp pw (mV 4) (mC (.int 5))) (mV 3))))))) (mRet (mV 2)))))
theorem mf_mixedG (rp fd md pw : D → D → Option D) (h1 : ∀ i : Int, rp (.int i) (.int 69621) = some (.int (i * 69621))) (h2 : ∀ i : Int, fd (.int i) (.int 11) = some (.int (i.fdiv 11))) (h3 : ∀ i g : Int, 0 < g → md (.int i) (.int g) = some (.int (i.fmod g)))
    (h4 : ∀ i : Int, rp (.int i) (.int 48271) = some (.int (i * 48271))) (h5 : ∀ i : Int, rp (.int i) (.int 2147483647) = some (.int (i * 2147483647))) (h6 : ∀ i : Int, 0 ≤ i → i < 2147483648 → pw (.int i) (.int 5) = some (.int (i ^ (5 : Int).toNat)))
    (dp : V → Hp → Prop) (ds : List D) (k : D → Prop) (kx : XD → Prop) (h : mfMixed dp ds k kx) : fnM 6 (ms_mixedG rp fd md pw dp) ds k kx := by
  unfold mfMixed at h
  split at h
  · rename_i φ
    obtain ⟨hφ, hk⟩ := h
    have hl : Nat.ble 4 mline = true := rfl
    simp only [ms_mixedG, fnM, mSeq, mDrawPut, mDrawInt, mDrawPop, mDrawCells, mFn, mfMixed, mfTake, useDraw, mOp, mC, mV, mPar, mPair, mVD, mVL, mVT, mVK, mCall, mCons, mNil, mFor, mItems, mL, mLst, mAsg, mAsgL, mRet, mRetN, mT, mIfS, mIf, mNext, mtN, mTup, mDrop, mAnd, mOr, mNot, mAndV, mOrV, mNotV, mRng1, mEnum, mYes, mLc, mApp, seqOf, Dm.intD, absD, lift, Dm.guard, List.map, List.length_cons, List.length_nil, List.cons_append, List.nil_append, List.replicate, List.getElem?_cons_zero, List.getElem?_cons_succ, List.set_cons_zero, List.set_cons_succ, Nat.reduceAdd, Nat.reduceSub, addD_ii, wipeS, mergeS, noOwnAt, SV.own, List.all, Bool.and_true, Bool.not_false, hl]
    refine ⟨hφ, fun r0 => ⟨hφ, hφ, fun r1 => ?_⟩⟩
    refine for_ind (fun ss => ∃ t f x3 x4 x5, ss = [.d (.opq φ), .d (.int t), .d (.int f), x3, x4, x5]) [.int 2147483629, .int 2147483587, .int 2147483579, .int 2147483563] ?_ ?_ _ ⟨r1, 0, .un, .un, .un, rfl⟩
    · rintro d hd ss k' ⟨t, f, x3, x4, x5, rfl⟩ hk'
      have hg : ∃ g : Int, d = .int g ∧ 0 < g ∧ g < 2147483648 := by
        simp only [List.mem_cons, List.not_mem_nil, or_false] at hd
        rcases hd with rfl | rfl | rfl | rfl
        · exact ⟨_, rfl, by decide, by decide⟩
        · exact ⟨_, rfl, by decide, by decide⟩
        · exact ⟨_, rfl, by decide, by decide⟩
        · exact ⟨_, rfl, by decide, by decide⟩
      obtain ⟨g, rfl, g0, g1⟩ := hg
      have em : ∀ i, md (.int i) (.int g) = some (.int (i.fmod g)) := fun i => h3 i g g0
      simp only [fnM, mSeq, mDrawPut, mDrawInt, mDrawPop, mDrawCells, mFn, mfMixed, mfTake, useDraw, mOp, mC, mV, mPar, mPair, mVD, mVL, mVT, mVK, mCall, mCons, mNil, mFor, mItems, mL, mLst, mAsg, mAsgL, mRet, mRetN, mT, mIfS, mIf, mNext, mtN, mTup, mDrop, mAnd, mOr, mNot, mAndV, mOrV, mNotV, mRng1, mEnum, mYes, mLc, mApp, seqOf, Dm.intD, absD, lift, Dm.guard, List.map, List.length_cons, List.length_nil, List.cons_append, List.nil_append, List.replicate, List.getElem?_cons_zero, List.getElem?_cons_succ, List.set_cons_zero, List.set_cons_succ, Nat.reduceAdd, Nat.reduceSub, addD_ii, wipeS, mergeS, noOwnAt, SV.own, List.all, Bool.and_true, Bool.not_false, h1, h2, em]
      refine ⟨hφ, fun ns => ?_⟩
      refine for_ind (fun ss => ∃ b x5, 0 ≤ b ∧ b < g ∧ ss = [.d (.opq φ), .d (.int t), .d (.int f), .d (.int g), .d (.int b), x5]) (ns.map .int) ?_ ?_ _ ⟨_, _, (fmod_lt g0).1, (fmod_lt g0).2, rfl⟩
      · rintro d hd ss k'' ⟨b, x5, b0, b1, rfl⟩ hk''
        obtain ⟨i, _, rfl⟩ := List.mem_map.mp hd
        simp only [fnM, mSeq, mDrawPut, mDrawInt, mDrawPop, mDrawCells, mFn, mfMixed, mfTake, useDraw, mOp, mC, mV, mPar, mPair, mVD, mVL, mVT, mVK, mCall, mCons, mNil, mFor, mItems, mL, mLst, mAsg, mAsgL, mRet, mRetN, mT, mIfS, mIf, mNext, mtN, mTup, mDrop, mAnd, mOr, mNot, mAndV, mOrV, mNotV, mRng1, mEnum, mYes, mLc, mApp, seqOf, Dm.intD, absD, lift, Dm.guard, List.map, List.length_cons, List.length_nil, List.cons_append, List.nil_append, List.replicate, List.getElem?_cons_zero, List.getElem?_cons_succ, List.set_cons_zero, List.set_cons_succ, Nat.reduceAdd, Nat.reduceSub, addD_ii, wipeS, mergeS, noOwnAt, SV.own, List.all, Bool.and_true, Bool.not_false, h4, em]
        exact hk'' _ ⟨_, _, (fmod_lt g0).1, (fmod_lt g0).2, rfl⟩
      · rintro ss ⟨b, x5, b0, b1, rfl⟩
        have e5 := h6 b b0 (by omega)
        simp only [fnM, mSeq, mDrawPut, mDrawInt, mDrawPop, mDrawCells, mFn, mfMixed, mfTake, useDraw, mOp, mC, mV, mPar, mPair, mVD, mVL, mVT, mVK, mCall, mCons, mNil, mFor, mItems, mL, mLst, mAsg, mAsgL, mRet, mRetN, mT, mIfS, mIf, mNext, mtN, mTup, mDrop, mAnd, mOr, mNot, mAndV, mOrV, mNotV, mRng1, mEnum, mYes, mLc, mApp, seqOf, Dm.intD, absD, lift, Dm.guard, List.map, List.length_cons, List.length_nil, List.cons_append, List.nil_append, List.replicate, List.getElem?_cons_zero, List.getElem?_cons_succ, List.set_cons_zero, List.set_cons_succ, Nat.reduceAdd, Nat.reduceSub, addD_ii, wipeS, mergeS, noOwnAt, SV.own, List.all, Bool.and_true, Bool.not_false, h5, e5, em]
        exact hk' _ ⟨_, _, _, _, _, rfl⟩
    · rintro ss ⟨t, f, x3, x4, x5, rfl⟩
      exact hk f
  · exact h.elim
theorem mf_mixed (dp : V → Hp → Prop) (ds : List D) (k : D → Prop) (kx : XD → Prop) (h : mfMixed dp ds k kx) : mf__law_mixed dp ds k kx := by
  unfold mf__law_mixed
  exact mf_mixedG repD fdivD modD powD (fun i => repD_ii (by decide)) (fun i => fdivD_ii (by decide) (by decide)) (fun i g h => modD_ii (by omega)) (fun i => repD_ii (by decide)) (fun i => repD_ii (by decide)) (fun i h1 h2 => powD_ii (by decide) (by decide) (by omega)) dp ds k kx h
theorem ok__law_mixed (T : Tx w K mg) : GF P w K mg (Γk K) (csk K) 1 "_law_mixed" ["draw"] (fun cp => mfMixed (DrawP P w)) := (rok__law_mixed T).imp fun cp => mf_mixed _
def ms__law_take (dp : V → Hp → Prop) : MS := (mSeq (mIfS (mT (mOp (eqD false) (mDrawInt dp 0) (mC (.int 0)))) (mDrawPut dp 0 (mDrawPop dp 0 (mFn 1 (mfMixed dp) (mCons (mV 0) mNil)))) mNext) (mSeq (mAsg 2 (mOp modD (mCall intD (mCons (mDrawInt dp 0) mNil)) (mV 1))) (mSeq (mDrawPut dp 0 (mOp fdivD (mCall intD (mCons (mDrawInt dp 0) mNil)) (mV 1))) (mRet (mV 2)))))
@[irreducible] def mf__law_take (dp : V → Hp → Prop) : MF := fnM 3 (ms__law_take dp)
theorem sc__law_take : FnScope ["draw", "amount", "found"] ["draw", "amount"] (defScope s__law_take) := ⟨rfl, rfl, rfl, by decide +kernel, rfl, by decide +kernel, by decide +kernel⟩
theorem rok__law_take (T : Tx w K mg) : GF P w K mg (Γk K) (csk K) 2 "_law_take" ["draw", "amount"] (fun cp => mf__law_take (DrawP P w)) := by
  unfold mf__law_take
  exact gf_mk (P := P) (w := w) (cs := csk K) (Γ := Γk K) (k := 1) (N := ["draw", "amount", "found"]) (ms := fun cp => ms__law_take (DrawP P w)) T.d__law_take T.g__law_take sc__law_take (fun _ _ _ _ _ _ us hl => match us, hl with | [_, _], _ => rfl) fun base hB cdv hcd A outer s H E hr c =>
 (s_cons (s_if (t_cmp (op_eqD hr.units) prim_eq (d_drawInt 0 hr.units (by left; rfl)) d_int) (s_one (s_drawPut 0 hr.units (by left; rfl) (d_drawPop 0 hr.units (dk_call c (ok__law_mixed T _ hB) (hr.mono (by decide)) (a_cons (dv 0) a_nil))))) s_nil)
 (s_cons (s_asg c 2 (d_op op_modN prim_mod (d_callTy call_int1 prim_int T.n_int bv_int (a_cons (d_drawInt 0 hr.units (by left; rfl)) a_nil)) (dv 1)))
 (s_cons (s_drawPut 0 hr.units (by left; rfl) (d_op op_fdivN prim_fdiv (d_callTy call_int1 prim_int T.n_int bv_int (a_cons (d_drawInt 0 hr.units (by left; rfl)) a_nil)) (dv 1)))
 (s_one (s_ret (dv 2))))))
theorem mf_take (dp : V → Hp → Prop) (ds : List D) (k : D → Prop) (kx : XD → Prop) (h : mfTake dp ds k kx) : mf__law_take dp ds k kx := by
  unfold mfTake at h
  split at h
  · rename_i φ n
    obtain ⟨hφ, ⟨n0, n1⟩, hk⟩ := h
    have em : ∀ i, modD (.int i) (.int n) = some (.int (i.fmod n)) := fun i => modD_ii (by omega)
    have ed : ∀ i, fdivD (.int i) (.int n) = some (.int (i.fdiv n)) := fun i => fdivD_ii (by omega) (by omega)
    have hm : ∀ i : Int, k (.int (i.fmod n)) := fun i => hk _ (fmod_lt n0).1 (fmod_lt n0).2
    simp only [mf__law_take, ms__law_take, fnM, mSeq, mDrawPut, mDrawInt, mDrawPop, mDrawCells, mFn, mfMixed, mfTake, useDraw, mOp, mC, mV, mPar, mPair, mVD, mVL, mVT, mVK, mCall, mCons, mNil, mFor, mItems, mL, mLst, mAsg, mAsgL, mRet, mRetN, mT, mIfS, mIf, mNext, mtN, mTup, mDrop, mAnd, mOr, mNot, mAndV, mOrV, mNotV, mRng1, mEnum, mYes, mLc, mApp, seqOf, Dm.intD, absD, lift, Dm.guard, List.map, List.length_cons, List.length_nil, List.cons_append, List.nil_append, List.replicate, List.getElem?_cons_zero, List.getElem?_cons_succ, List.set_cons_zero, List.set_cons_succ, Nat.reduceAdd, Nat.reduceSub, addD_ii, wipeS, mergeS, noOwnAt, SV.own, List.all, Bool.and_true, Bool.not_false, eqD_int, em, ed]
    refine ⟨hφ, fun r => ?_⟩
    split
    · exact ⟨hφ, fun r1 => ⟨hφ, hφ, fun r2 => ⟨hφ, fun r3 => ⟨hφ, hm _⟩⟩⟩, hφ, fun r1 => ⟨hφ, hφ, fun r2 => ⟨hφ, fun r3 => ⟨hφ, hm _⟩⟩⟩⟩
    · exact ⟨hφ, fun r2 => ⟨hφ, fun r3 => ⟨hφ, hm _⟩⟩⟩
  · exact h.elim
theorem ok__law_take (T : Tx w K mg) : GF P w K mg (Γk K) (csk K) 2 "_law_take" ["draw", "amount"] (fun cp => mfTake (DrawP P w)) := (rok__law_take T).imp fun cp => mf_take _
def ms__law_pick (dp : V → Hp → Prop) : MS := (mRet (mOp ixD (mV 1) (mFn 2 (mfTake dp) (mCons (mV 0) (mCons (mCall lenD (mCons (mV 1) mNil)) mNil)))))
@[irreducible] def mf__law_pick (dp : V → Hp → Prop) : MF := fnM 2 (ms__law_pick dp)
theorem sc__law_pick : FnScope ["draw", "some"] ["draw", "some"] (defScope s__law_pick) := ⟨rfl, rfl, rfl, by decide +kernel, rfl, by decide +kernel, by decide +kernel⟩
theorem ok__law_pick (T : Tx w K mg) : GF P w K mg (Γk K) (csk K) 3 "_law_pick" ["draw", "some"] (fun cp => mf__law_pick (DrawP P w)) := by
  unfold mf__law_pick
  exact gf_mk (P := P) (w := w) (cs := csk K) (Γ := Γk K) (k := 2) (N := ["draw", "some"]) (ms := fun cp => ms__law_pick (DrawP P w)) T.d__law_pick T.g__law_pick sc__law_pick (fun _ _ _ _ _ _ us hl => match us, hl with | [_, _], _ => rfl) fun base hB cdv hcd A outer s H E hr c =>
 (s_one (s_ret (d_ix ix_seq prim_ix (dv 1) (dk_call c (ok__law_take T _ hB) (hr.mono (by decide)) (a_cons (dv 0) (a_cons (d_callB call_len prim_len T.n_len bv_len (a_cons (dv 1) a_nil)) a_nil))))))
end
end K71
end -- K71k
section -- K71l
set_option Elab.async false
set_option linter.all false
set_option maxRecDepth 100000
set_option maxHeartbeats 4000000
namespace K71
open PySem PySem.Spec PyProof.Rows L2 Dm
section
variable [Tbs] {P : Program} {w : World} {K : PySem.W.Frag} {mg : Str → Option Value}
def ms_law (cp : Nat → CPt) (dp : V → Hp → Prop) : MS := (mSeq (mAsg 1 (mFn 1 (mfBegun dp) (mCons (mV 0) mNil))) (mSeq (mAsg 2 (mTup (mCons (mC (.str "alone")) (mCons (mC (.str "two")) (mCons (mC (.str "wheel")) (mCons (mC (.str "parted")) (mCons (mC (.str "square")) (mCons (mC (.str "ring")) (mCons (mC (.str "six")) (mCons (mC (.str "cube")) (mCons (mC (.str "petersen")) (mCons (mC (.str "lattice")) (mCons (mC (.str "shrikhande")) (mCons (mC (.str "clebsch")) mNil)))))))))))))) (mSeq (mAsg 3 (mL (mLst (mCons (mC (.int 1)) (mCons (mC (.int 2)) (mCons (mC (.int 3)) (mCons (mC (.int 3)) (mCons (mC (.int 4)) (mCons (mC (.int 5)) (mCons (mC (.int 6)) (mCons (mC (.int 8)) (mCons (mC (.int 10)) (mCons (mC (.int 16)) (mCons (mC (.int 16)) (mCons (mC (.int 16)) mNil))))))))))))))) (mSeq (mIfS (mT (mOp (eqD true) (mFn 0 mf_known_names mNil) (mV 2))) (mRet (mC (.bl false))) mNext) (mSeq (mFor (mRng1 (mCons (mOp addD (mC (.int 3)) (mCall min2D (mCons (mCall lenD (mCons (mV 0) mNil)) (mCons (mC (.int 3)) mNil)))) mNil)) (mtN 4) (mSeq (mAsg 5 (mFn 2 (mfTake dp) (mCons (mV 1) (mCons (mC (.int 12)) mNil)))) (mSeq (mPar 6 7 (mVD (mOp ixD (mV 2) (mV 5))) (mVD (mFn 2 mf__law_known (mCons (mOp ixD (mV 2) (mV 5)) (mCons (mOp ixD (mV 3) (mV 5)) mNil))))) (mSeq (mAsg 8 (mFn 1 (mf_known_colouring cp) (mCons (mV 6) mNil))) (mSeq (mIfS (mOr (mT (mOp (eqD true) (mL (mLst (mCons (mFld "table" 0 (mV 8)) (mCons (mFld "table" 0 (mFnK (mf_known_colouring cp) (mV 6))) mNil)))) (mL (mLst (mCons (mV 7) (mCons (mV 7) mNil)))))) (mT (mOp (eqD true) (mL (mLst (mCons (mFld "points" 0 (mV 8)) (mCons (mFld "colours" 0 (mV 8)) mNil)))) (mL (mLst (mCons (mOp ixD (mV 3) (mV 5)) (mCons (mFn 1 mf__law_colours (mCons (mV 7) mNil)) mNil))))))) (mRet (mC (.bl false))) mNext) (mSeq (mAsg 9 (mFn 1 mf__law_facts (mCons (mV 7) mNil))) (mSeq (mIfS (mOr (mNot (mT (mFn 1 mf__law_is_coherent (mCons (mV 7) mNil)))) (mT (mOp (eqD true) (mCall reprD (mCons (mL (mLst (mCons (mFn 1 mf_known_facts (mCons (mV 6) mNil)) (mCons (mFnK mf_known_facts (mV 6)) mNil)))) mNil)) (mCall reprD (mCons (mL (mLst (mCons (mV 9) (mCons (mV 9) mNil)))) mNil))))) (mRet (mC (.bl false))) mNext) (mSeq (mAsg 17 (mFn 2 (mf__law_pick dp) (mCons (mV 1) (mCons (mL (mLst (mCons (mC .non) (mCons (mC (.int 5)) (mCons (mC (.str "")) (mCons (mC (.str "Ring")) (mCons (mC (.str "ring ")) (mCons (mC (.str "seven")) (mCons (mTup (mCons (mC (.str "ring")) mNil)) (mCons (mL (mLst (mCons (mC (.str "ring")) mNil))) (mCons (mC (.bl true)) (mCons (mC (.int 0)) (mCons mEmp mNil))))))))))))) mNil)))) (mSeq (mIfS (mT (mOp (eqD true) (mLam0 0 12 [17] (fun cp => (mFn 1 (mf_known_colouring cp) (mCons (mV 0) mNil))) (fun cp => (mf__law_said cp))) (mC (.str "name")))) (mRet (mC (.bl false))) mNext) (mIfS (mT (mOp (eqD true) (mLam0 0 12 [17] (fun cp => (mFn 1 mf_known_facts (mCons (mV 0) mNil))) (fun cp => (mf__law_said cp))) (mC (.str "name")))) (mRet (mC (.bl false))) mNext)))))))))) (mSeq (mAsgG (mtTup 3 (mtCons (mtN 10) (mtCons (mtN 11) (mtCons (mtN 12) mtNil)))) (mTup (mCons (mFld "table" 0 (mFn 1 (mf_known_colouring cp) (mCons (mC (.str "lattice")) mNil))) (mCons (mFld "table" 0 (mFn 1 (mf_known_colouring cp) (mCons (mC (.str "shrikhande")) mNil))) (mCons (mFn 2 (mfTake dp) (mCons (mV 1) (mCons (mC (.int 16)) mNil))) mNil))))) (mSeq (mFor (mItems (mL (mLst (mCons (mTup (mCons (mV 12) (mCons (mV 12) mNil))) (mCons (mTup (mCons (mV 12) (mCons (mIndex (mOp ixD (mV 11) (mV 12)) (mC (.int 1))) mNil))) (mCons (mTup (mCons (mV 12) (mCons (mIndex (mOp ixD (mV 11) (mV 12)) (mC (.int 2))) mNil))) mNil)))))) (mtN 13) (mSeq (mAsg 14 (mTup (mCons (mV 12) (mCons (mIndex (mOp ixD (mV 10) (mV 12)) (mOp ixD (mOp ixD (mV 11) (mOp ixD (mV 13) (mC (.int 0)))) (mOp ixD (mV 13) (mC (.int 1))))) mNil)))) (mIfS (mT (mOp (eqD true) (mFn 3 mf__law_triangles (mCons (mV 10) (mCons (mOp ixD (mV 14) (mC (.int 0))) (mCons (mOp ixD (mV 14) (mC (.int 1))) mNil)))) (mFn 3 mf__law_triangles (mCons (mV 11) (mCons (mOp ixD (mV 13) (mC (.int 0))) (mCons (mOp ixD (mV 13) (mC (.int 1))) mNil)))))) (mRet (mC (.bl false))) mNext))) (mSeq (mPar 15 16 (mVD (mFn 2 mf__law_round (mCons (mV 10) (mCons (mV 12) mNil)))) (mVD (mFn 2 mf__law_round (mCons (mV 11) (mCons (mV 12) mNil))))) (mSeq (mIfS (mT (mOp (eqD true) (mL (mLc (mItems (mOp addD (mV 15) (mV 16))) (mtN 18) mYes (mCall lenD (mCons (mV 18) mNil)) [18])) (mOp repD (mL (mLst (mCons (mC (.int 2)) mNil))) (mC (.int 12))))) (mRet (mC (.bl false))) mNext) (mRet (mAndV (mOp (eqD false) (mL (mLc (mItems (mV 15)) (mtN 18) mYes (mOp ixD (mOp ixD (mV 10) (mOp ixD (mV 18) (mC (.int 0)))) (mOp ixD (mV 18) (mC (.int 1)))) [18])) (mOp repD (mL (mLst (mCons (mC (.int 1)) mNil))) (mC (.int 6)))) (mOp (eqD false) (mL (mLc (mItems (mV 16)) (mtN 18) mYes (mOp ixD (mOp ixD (mV 11) (mOp ixD (mV 18) (mC (.int 0)))) (mOp ixD (mV 18) (mC (.int 1)))) [18])) (mOp repD (mL (mLst (mCons (mC (.int 2)) mNil))) (mC (.int 6)))))))))))))))
@[irreducible] def mf_law (cp : Nat → CPt) (dp : V → Hp → Prop) : MF := fnM 19 (ms_law cp dp)
theorem sc_law : FnScope ["script", "draw", "names", "sizes", "lap", "at", "name", "table", "told", "facts", "one", "other", "point", "pair", "mate", "threes", "ring", "none", "row"] ["script"] (defScope s_law) := ⟨rfl, rfl, rfl, by decide +kernel, rfl, by decide +kernel, by decide +kernel⟩
theorem ok_law (T : Tx w K mg) : ∃ fd, FunD K "law" "law" (defArgs s_law) (defBody s_law) (defScope s_law) [] [] (He.ga K "law") fd ∧ ∀ base, BOk K mg (csk K) base → FnG P w K mg base (L2.CX P w) 14 (He.ga K "law") fd ["script"] (spD K (Γk K) 1 (mf_law (cpOf P w K mg (Γk K) base) (DrawP P w))) := by
  obtain ⟨fd, F⟩ := T.d_law
  unfold mf_law
  refine ⟨fd, F, fun base hB => fn_mkG (N := ["script", "draw", "names", "sizes", "lap", "at", "name", "table", "told", "facts", "one", "other", "point", "pair", "mate", "threes", "ring", "none", "row"]) (k := 13) (ms := ms_law (cpOf P w K mg (Γk K) base) (DrawP P w)) F sc_law rfl fun cdv hc A outer s H E hG hr c => ?_⟩
  have hcd : cdv = .ref (He.codeOf K ("law", none)) := by
    obtain ⟨oc, od, osl, dV, kV, doc, pm, an, ct, lk, hcd⟩ := hc
    obtain ⟨cc, rfl⟩ := He.codeIn_ref hcd
    rw [He.codeOf_eq (p := ("law", none)) lk rfl]
  exact (s_cons (s_asg c 1 (dk_call c (ok__law_begun T _ hB) (hr.mono (by decide)) (a_cons (dv 0) a_nil)))
 (s_cons (s_asg c 2 (d_tup (a_cons d_str (a_cons d_str (a_cons d_str (a_cons d_str (a_cons d_str (a_cons d_str (a_cons d_str (a_cons d_str (a_cons d_str (a_cons d_str (a_cons d_str (a_cons d_str a_nil))))))))))))))
 (s_cons (s_asg c 3 (d_l (l_lst (a_cons d_int (a_cons d_int (a_cons d_int (a_cons d_int (a_cons d_int (a_cons d_int (a_cons d_int (a_cons d_int (a_cons d_int (a_cons d_int (a_cons d_int (a_cons d_int a_nil)))))))))))))))
 (s_cons (s_if (t_cmp (op_neD hr.units) prim_ne (dk_call0 c (ok_known_names T _ hB) (hr.mono (by decide))) (dv 2)) (s_one (s_ret d_bl)) s_nil)
 (s_cons (s_for c (i_rng1 T.n_range (a_cons (d_op op_addA prim_add d_int (d_callB (call_min2 c.calm) prim_min2 T.n_min bv_min (a_cons (d_callB call_len prim_len T.n_len bv_len (a_cons (dv 0) a_nil)) (a_cons d_int a_nil)))) a_nil)) (g_name c 4) (s_cons (s_asg c 5 (dk_call c (ok__law_take T _ hB) (hr.mono (by decide)) (a_cons (dv 1) (a_cons d_int a_nil))))
 (s_cons (s_par c 6 7 (v_d (d_ix ix_seq prim_ix (dv 2) (dv 5))) (v_d (dk_call c (ok__law_known T _ hB) (hr.mono (by decide)) (a_cons (d_ix ix_seq prim_ix (dv 2) (dv 5)) (a_cons (d_ix ix_seq prim_ix (dv 3) (dv 5)) a_nil)))) (by rfl))
 (s_cons (s_asg c 8 (dk_call c (ok_known_colouring T _ hB) (hr.mono (by decide)) (a_cons (dv 6) a_nil)))
 (s_cons (s_if (PW.pt (w_or (t_cmp (op_neD hr.units) prim_ne (d_l (l_lst (a_cons (d_fld T.cl_Colouring T.na_Colouring_table (dv 8)) (a_cons (d_fld T.cl_Colouring T.na_Colouring_table (dk_callK c (ok_known_colouring T _ hB) T.kb_known_colouring (hr.mono (by decide)) (dv 6))) a_nil)))) (d_l (l_lst (a_cons (dv 7) (a_cons (dv 7) a_nil))))) (w_or1 (t_cmp (op_neD hr.units) prim_ne (d_l (l_lst (a_cons (d_fld T.cl_Colouring T.na_Colouring_points (dv 8)) (a_cons (d_fld T.cl_Colouring T.na_Colouring_colours (dv 8)) a_nil)))) (d_l (l_lst (a_cons (d_ix ix_seq prim_ix (dv 3) (dv 5)) (a_cons (dk_call c (ok__law_colours T _ hB) (hr.mono (by decide)) (a_cons (dv 7) a_nil)) a_nil)))))))) (s_one (s_ret d_bl)) s_nil)
 (s_cons (s_asg c 9 (dk_call c (ok__law_facts T _ hB) (hr.mono (by decide)) (a_cons (dv 7) a_nil)))
 (s_cons (s_if (PW.pt (w_or (t_not (t_val (dk_call c (ok__law_is_coherent T _ hB) (hr.mono (by decide)) (a_cons (dv 7) a_nil)))) (w_or1 (t_cmp (op_neD hr.units) prim_ne (d_callB (call_repr hG hr) prim_repr T.n_repr bv_repr (a_cons (d_l (l_lst (a_cons (dk_call c (ok_known_facts T _ hB) (hr.mono (by decide)) (a_cons (dv 6) a_nil)) (a_cons (dk_callK c (ok_known_facts T _ hB) T.kb_known_facts (hr.mono (by decide)) (dv 6)) a_nil)))) a_nil)) (d_callB (call_repr hG hr) prim_repr T.n_repr bv_repr (a_cons (d_l (l_lst (a_cons (dv 9) (a_cons (dv 9) a_nil)))) a_nil)))))) (s_one (s_ret d_bl)) s_nil)
 (s_cons (s_asg c 17 (dk_call c (ok__law_pick T _ hB) (hr.mono (by decide)) (a_cons (dv 1) (a_cons (d_l (l_lst (a_cons d_non (a_cons d_int (a_cons d_str (a_cons d_str (a_cons d_str (a_cons d_str (a_cons (d_tup (a_cons d_str a_nil)) (a_cons (d_l (l_lst (a_cons d_str a_nil))) (a_cons d_bl (a_cons d_int (a_cons d_emp a_nil))))))))))))) a_nil))))
 (s_cons (s_if (t_cmp (op_neD hr.units) prim_ne (dk_lam0 (caps := [("none", 17)]) (ps := []) (kb := 8) (kl := 12) (me := (fun cp => (mFn 1 (mf_known_colouring cp) (mCons (mV 0) mNil)))) (mfo := (fun cp => (mf__law_said cp))) c hB T.lam_law hcd (ok__law_said T) (by decide) (hr.mono (by decide)) (by kernel_rfl) (fun _ _ _ _ _ us hl => match us, hl with | [], _ => rfl) (fun B hB A outer s H E f c hr c => (dk_call c (ok_known_colouring T _ hB) (hr.mono (by decide)) (a_cons (dv 0) a_nil)))) d_str) (s_one (s_ret d_bl)) s_nil)
 (s_one (s_if (t_cmp (op_neD hr.units) prim_ne (dk_lam0 (caps := [("none", 17)]) (ps := []) (kb := 2) (kl := 12) (me := (fun cp => (mFn 1 mf_known_facts (mCons (mV 0) mNil)))) (mfo := (fun cp => (mf__law_said cp))) c hB T.lam_law hcd (ok__law_said T) (by decide) (hr.mono (by decide)) (by kernel_rfl) (fun _ _ _ _ _ us hl => match us, hl with | [], _ => rfl) (fun B hB A outer s H E f c hr c => (dk_call c (ok_known_facts T _ hB) (hr.mono (by decide)) (a_cons (dv 0) a_nil)))) d_str) (s_one (s_ret d_bl)) s_nil)))))))))))
 (s_cons (s_asgG (d_tup (a_cons (d_fld T.cl_Colouring T.na_Colouring_table (dk_call c (ok_known_colouring T _ hB) (hr.mono (by decide)) (a_cons d_str a_nil))) (a_cons (d_fld T.cl_Colouring T.na_Colouring_table (dk_call c (ok_known_colouring T _ hB) (hr.mono (by decide)) (a_cons d_str a_nil))) (a_cons (dk_call c (ok__law_take T _ hB) (hr.mono (by decide)) (a_cons (dv 1) (a_cons d_int a_nil))) a_nil)))) (g_tup c (gs_cons (g_name c 10) (gs_cons (g_name c 11) (gs_cons (g_name c 12) gs_nil)))))
 (s_cons (s_for c (i_seq (d_l (l_lst (a_cons (d_tup (a_cons (dv 12) (a_cons (dv 12) a_nil))) (a_cons (d_tup (a_cons (dv 12) (a_cons (d_index hr.units (d_ix ix_seq prim_ix (dv 11) (dv 12)) d_int) a_nil))) (a_cons (d_tup (a_cons (dv 12) (a_cons (d_index hr.units (d_ix ix_seq prim_ix (dv 11) (dv 12)) d_int) a_nil))) a_nil)))))) (g_name c 13) (s_cons (s_asg c 14 (d_tup (a_cons (dv 12) (a_cons (d_index hr.units (d_ix ix_seq prim_ix (dv 10) (dv 12)) (d_ix ix_seq prim_ix (d_ix ix_seq prim_ix (dv 11) (d_ix ix_seq prim_ix (dv 13) d_int)) (d_ix ix_seq prim_ix (dv 13) d_int))) a_nil))))
 (s_one (s_if (t_cmp (op_neD hr.units) prim_ne (dk_call c (ok__law_triangles T _ hB) (hr.mono (by decide)) (a_cons (dv 10) (a_cons (d_ix ix_seq prim_ix (dv 14) d_int) (a_cons (d_ix ix_seq prim_ix (dv 14) d_int) a_nil)))) (dk_call c (ok__law_triangles T _ hB) (hr.mono (by decide)) (a_cons (dv 11) (a_cons (d_ix ix_seq prim_ix (dv 13) d_int) (a_cons (d_ix ix_seq prim_ix (dv 13) d_int) a_nil))))) (s_one (s_ret d_bl)) s_nil))))
 (s_cons (s_par c 15 16 (v_d (dk_call c (ok__law_round T _ hB) (hr.mono (by decide)) (a_cons (dv 10) (a_cons (dv 12) a_nil)))) (v_d (dk_call c (ok__law_round T _ hB) (hr.mono (by decide)) (a_cons (dv 11) (a_cons (dv 12) a_nil)))) (by rfl))
 (s_cons (s_if (t_cmp (op_neD hr.units) prim_ne (d_l (l_lc c [("row", 18)] (i_seq (d_op op_addA prim_add (dv 15) (dv 16))) (blkOk_by (by kernel_rfl)) (fun _ _ _ _ _ c => (g_name c 18)) (fun _ _ _ _ _ c => ts_nil) (fun _ _ _ _ _ c => (d_callB call_len prim_len T.n_len bv_len (a_cons (dv 18) a_nil))))) (d_op op_mulA prim_rep (d_l (l_lst (a_cons d_int a_nil))) d_int)) (s_one (s_ret d_bl)) s_nil)
 (s_one (s_ret (d_and (d_cmp (op_eqD hr.units) prim_eq (d_l (l_lc c [("row", 18)] (i_seq (dv 15)) (blkOk_by (by kernel_rfl)) (fun _ _ _ _ _ c => (g_name c 18)) (fun _ _ _ _ _ c => ts_nil) (fun _ _ _ _ _ c => (d_ix ix_seq prim_ix (d_ix ix_seq prim_ix (dv 10) (d_ix ix_seq prim_ix (dv 18) d_int)) (d_ix ix_seq prim_ix (dv 18) d_int))))) (d_op op_mulA prim_rep (d_l (l_lst (a_cons d_int a_nil))) d_int)) (d_one (d_cmp (op_eqD hr.units) prim_eq (d_l (l_lc c [("row", 18)] (i_seq (dv 16)) (blkOk_by (by kernel_rfl)) (fun _ _ _ _ _ c => (g_name c 18)) (fun _ _ _ _ _ c => ts_nil) (fun _ _ _ _ _ c => (d_ix ix_seq prim_ix (d_ix ix_seq prim_ix (dv 11) (d_ix ix_seq prim_ix (dv 18) d_int)) (d_ix ix_seq prim_ix (dv 18) d_int))))) (d_op op_mulA prim_rep (d_l (l_lst (a_cons d_int a_nil))) d_int)))))))))))))))
end
end K71
end -- K71l
section -- K71m
set_option Elab.async false
set_option linter.all false
set_option maxRecDepth 100000
set_option maxHeartbeats 0
namespace K71
open PySem PySem.Spec PyProof.Rows L2 Dm

theorem tb_ok (cp : Nat → CPt) (mf : MF) (ds : List D) (T : List (List D)) (hl : ds.length ≤ 1000) (hf : ∀ (k : D → Prop) (kx : XD → Prop), (ds.map fun a => ds.map fun b => mf [a, b] k kx) = T.map fun row => row.map k) (k : D → Prop) (kx : XD → Prop) (h : k (.lst (T.map .lst))) :
    mf_table_by cp [.lst ds, .opq (cp 4 2 mf)] k kx := by
  have inner : ∀ (a : D) (K : List D → List SV → Prop) (ds2 row acc : List D), acc.length + ds2.length ≤ 1000 → (∀ (k : D → Prop) (kx : XD → Prop), (ds2.map fun b => mf [a, b] k kx) = row.map k) → K (acc ++ row) [.d (.lst ds), .d (.opq (cp 4 2 mf)), .d a, .un] →
      mLcGo (mtN 3) mYes (mCallV (cp 4) 1 (mCons (mV 2) (mCons (mV 3) mNil))) [3] K ds2 acc [.d (.lst ds), .d (.opq (cp 4 2 mf)), .d a, .un] := by
    intro a K ds2
    induction ds2 with
    | nil =>
      intro row acc _ hr hK
      have e := hr (fun _ => True) (fun _ => True)
      cases row with
      | nil => simpa [mLcGo] using hK
      | cons _ _ => simp at e
    | cons b r ih =>
      intro row acc hlen hr hK
      cases row with
      | nil =>
        have e := hr (fun _ => True) (fun _ => True)
        simp at e
      | cons v row =>
        have hg : Nat.blt acc.length mline = true := Nat.ble_eq_true_of_le (by show acc.length + 1 ≤ 16777216; simp at hlen; omega)
        have hb2 : Nat.beq 2 2 = true := rfl
        have e1 : ∀ (k : D → Prop) (kx : XD → Prop), mf [a, b] k kx = k v := fun k kx => by
          have e := hr k kx
          rw [List.map_cons, List.map_cons] at e
          exact (List.cons.inj e).1
        have hrec := ih row (acc ++ [v]) (by simp at hlen ⊢; omega) (fun k kx => by
          have e := hr k kx
          rw [List.map_cons, List.map_cons] at e
          exact (List.cons.inj e).2) (by simpa using hK)
        simp only [fnM, mSeq, mDrawPut, mDrawInt, mDrawPop, mDrawCells, mFn, mfMixed, mfTake, useDraw, mOp, mC, mV, mPar, mPair, mVD, mVL, mVT, mVK, mCall, mCons, mNil, mFor, mItems, mL, mLst, mAsg, mAsgL, mRet, mRetN, mT, mIfS, mIf, mNext, mtN, mTup, mDrop, mAnd, mOr, mNot, mAndV, mOrV, mNotV, mRng1, mEnum, mYes, mLc, mApp, seqOf, Dm.intD, absD, lift, Dm.guard, List.map, List.length_cons, List.length_nil, List.cons_append, List.nil_append, List.replicate, List.getElem?_cons_zero, List.getElem?_cons_succ, List.set_cons_zero, List.set_cons_succ, Nat.reduceAdd, Nat.reduceSub, addD_ii, wipeS, mergeS, noOwnAt, SV.own, List.all, Bool.and_true, Bool.not_false, mCallV, mCallV0, mLcGo, List.getD_cons_zero, List.getD_cons_succ, hb2]
        refine ⟨2, mf, fun _ _ h => h, ?_⟩
        simp only [fnM, mSeq, mDrawPut, mDrawInt, mDrawPop, mDrawCells, mFn, mfMixed, mfTake, useDraw, mOp, mC, mV, mPar, mPair, mVD, mVL, mVT, mVK, mCall, mCons, mNil, mFor, mItems, mL, mLst, mAsg, mAsgL, mRet, mRetN, mT, mIfS, mIf, mNext, mtN, mTup, mDrop, mAnd, mOr, mNot, mAndV, mOrV, mNotV, mRng1, mEnum, mYes, mLc, mApp, seqOf, Dm.intD, absD, lift, Dm.guard, List.map, List.length_cons, List.length_nil, List.cons_append, List.nil_append, List.replicate, List.getElem?_cons_zero, List.getElem?_cons_succ, List.set_cons_zero, List.set_cons_succ, Nat.reduceAdd, Nat.reduceSub, addD_ii, wipeS, mergeS, noOwnAt, SV.own, List.all, Bool.and_true, Bool.not_false, mCallV, mCallV0, mLcGo, List.getD_cons_zero, List.getD_cons_succ, hb2]
        rw [e1]
        simp only [fnM, mSeq, mDrawPut, mDrawInt, mDrawPop, mDrawCells, mFn, mfMixed, mfTake, useDraw, mOp, mC, mV, mPar, mPair, mVD, mVL, mVT, mVK, mCall, mCons, mNil, mFor, mItems, mL, mLst, mAsg, mAsgL, mRet, mRetN, mT, mIfS, mIf, mNext, mtN, mTup, mDrop, mAnd, mOr, mNot, mAndV, mOrV, mNotV, mRng1, mEnum, mYes, mLc, mApp, seqOf, Dm.intD, absD, lift, Dm.guard, List.map, List.length_cons, List.length_nil, List.cons_append, List.nil_append, List.replicate, List.getElem?_cons_zero, List.getElem?_cons_succ, List.set_cons_zero, List.set_cons_succ, Nat.reduceAdd, Nat.reduceSub, addD_ii, wipeS, mergeS, noOwnAt, SV.own, List.all, Bool.and_true, Bool.not_false, mCallV, mCallV0, mLcGo, List.getD_cons_zero, List.getD_cons_succ, hg]
        exact hrec
  have outer : ∀ (K : List D → List SV → Prop) (ds1 : List D) (T1 : List (List D)) (acc : List D), acc.length + ds1.length ≤ 1000 → (∀ (k : D → Prop) (kx : XD → Prop), (ds1.map fun a => ds.map fun b => mf [a, b] k kx) = T1.map fun row => row.map k) →
      K (acc ++ T1.map .lst) [.d (.lst ds), .d (.opq (cp 4 2 mf)), .un, .un] →
      mLcGo (mtN 2) mYes (mL (mLc (mItems (mV 0)) (mtN 3) mYes (mCallV (cp 4) 1 (mCons (mV 2) (mCons (mV 3) mNil))) [3])) [2] K ds1 acc [.d (.lst ds), .d (.opq (cp 4 2 mf)), .un, .un] := by
    intro K ds1
    induction ds1 with
    | nil =>
      intro T1 acc _ hr hK
      have e := hr (fun _ => True) (fun _ => True)
      cases T1 with
      | nil => simpa [mLcGo] using hK
      | cons _ _ => simp at e
    | cons a r ih =>
      intro T1 acc hlen hr hK
      cases T1 with
      | nil =>
        have e := hr (fun _ => True) (fun _ => True)
        simp at e
      | cons row T1 =>
        have hg : Nat.blt acc.length mline = true := Nat.ble_eq_true_of_le (by show acc.length + 1 ≤ 16777216; simp at hlen; omega)
        have e1 : ∀ (k : D → Prop) (kx : XD → Prop), (ds.map fun b => mf [a, b] k kx) = row.map k := fun k kx => by
          have e := hr k kx
          rw [List.map_cons, List.map_cons] at e
          exact (List.cons.inj e).1
        have hrec := ih T1 (acc ++ [.lst row]) (by simp at hlen ⊢; omega) (fun k kx => by
          have e := hr k kx
          rw [List.map_cons, List.map_cons] at e
          exact (List.cons.inj e).2) (by simpa using hK)
        unfold mLcGo
        simp only [mtN, mYes, mL, mLc, mItems, mV, seqOf, lift, Dm.guard, noOwnAt, wipeS, mergeS, SV.own, List.all, List.getElem?_cons_zero, List.getElem?_cons_succ, List.set_cons_zero, List.set_cons_succ, List.getD_cons_zero, List.getD_cons_succ, Bool.and_true, Bool.not_false]
        refine inner a _ ds row [] (by simpa using hl) e1 ?_
        simp only [List.nil_append, hg, wipeS, List.set_cons_zero, List.set_cons_succ]
        exact hrec
  simp only [mf_table_by, ms_table_by, fnM, mRet, mL, mLc, mItems, mV, seqOf, lift, Dm.guard, noOwnAt, wipeS, mergeS, SV.own, List.all, List.map, List.replicate, List.length_cons, List.length_nil, List.cons_append, List.nil_append, List.getElem?_cons_zero, List.getElem?_cons_succ, List.set_cons_zero, List.set_cons_succ, List.getD_cons_zero, List.getD_cons_succ, Bool.and_true, Bool.not_false, Nat.reduceAdd, Nat.reduceSub]
  exact outer _ ds T [] (by simpa using hl) hf h
/-- known_colouring, where need_known lets the name through -/
theorem kc_gen (nk tof : MF) (mfi : MFi) (x : D) (h1 : ∀ (k : D → Prop) (kx : XD → Prop), nk [x] k kx = k .non) (k : D → Prop) (kx : XD → Prop) (h : tof [x] (fun d => mfi [d] (fun gs => k (.ins 0 gs)) kx) kx) :
    fnM 1 (mSeq (mDrop (mFn 1 nk (mCons (mV 0) mNil))) (mRet (mMake 0 1 mfi (mCons (mFn 1 tof (mCons (mV 0) mNil)) mNil)))) [x] k kx := by
  have hb : Nat.beq 1 1 = true := rfl
  simp only [mMake, fnM, mSeq, mDrawPut, mDrawInt, mDrawPop, mDrawCells, mFn, mfMixed, mfTake, useDraw, mOp, mC, mV, mPar, mPair, mVD, mVL, mVT, mVK, mCall, mCons, mNil, mFor, mItems, mL, mLst, mAsg, mAsgL, mRet, mRetN, mT, mIfS, mIf, mNext, mtN, mTup, mDrop, mAnd, mOr, mNot, mAndV, mOrV, mNotV, mRng1, mEnum, mYes, mLc, mApp, seqOf, Dm.intD, absD, lift, Dm.guard, List.map, List.length_cons, List.length_nil, List.cons_append, List.nil_append, List.replicate, List.getElem?_cons_zero, List.getElem?_cons_succ, List.set_cons_zero, List.set_cons_succ, Nat.reduceAdd, Nat.reduceSub, addD_ii, wipeS, mergeS, noOwnAt, SV.own, List.all, Bool.and_true, Bool.not_false, mCallV, mCallV0, mLcGo, List.getD_cons_zero, List.getD_cons_succ, hb, h1]
  exact h
end K71
end -- K71m
section -- K71n
set_option Elab.async false
set_option linter.all false
set_option maxRecDepth 100000
set_option maxHeartbeats 0
namespace K71
open PySem PySem.Spec PyProof.Rows L2 Dm
def ms_table_ofG (cp : Nat → CPt) (TB ST : MF) : MS := (mSeq (mIfS (mT (mOp (eqD false) (mV 0) (mC (.str "cube")))) (mRet (mFn 2 TB (mCons (mL (mLRng (mC (.int 8)))) (mCons (mC (.opq (cp 4 2 mf_unlike_places))) mNil)))) mNext) (mSeq (mIfS (mT (mOp (eqD false) (mV 0) (mC (.str "petersen")))) (mRet (mFn 2 TB (mCons (mListComb (mCons (mL (mLRng (mC (.int 5)))) (mCons (mC (.int 2)) mNil))) (mCons (mC (.opq (cp 4 2 mf_pair_colour))) mNil)))) mNext) (mSeq (mIfS (mT (mOp (eqD false) (mV 0) (mC (.str "clebsch")))) (mRet (mFn 2 TB (mCons (mL (mLRng (mC (.int 16)))) (mCons (mC (.opq (cp 4 2 mf_folded_colour))) mNil)))) mNext) (mSeq (mIfS (mT (mOp (inD false) (mV 0) (mTup (mCons (mC (.str "lattice")) (mCons (mC (.str "shrikhande")) mNil))))) (mSeq (mAsgL 1 (mLc2 (mRng1 (mCons (mC dc_SIDE) mNil)) (mtN 2) mYes (mRng1 (mCons (mC dc_SIDE) mNil)) (mtN 3) mYes (mTup (mCons (mV 2) (mCons (mV 3) mNil))) [2, 3] [3])) (mRet (mFn 2 TB (mCons (mV 1) (mCons (mIf (mT (mOp (eqD false) (mV 0) (mC (.str "lattice")))) (mC (.opq (cp 4 2 mf_lattice_colour))) (mC (.opq (cp 4 2 mf_shifted_colour)))) mNil))))) mNext) (mRet (mFn 1 ST (mCons (mV 0) mNil)))))))
def ms_small_tableG (cp : Nat → CPt) (TBf : (Nat → CPt) → MF) : MS := (mSeq (mIfS (mT (mOp (inD false) (mV 0) (mTup (mCons (mC (.str "alone")) (mCons (mC (.str "two")) mNil))))) (mRet (mLam1 (mL (mLRng (mIf (mT (mOp (eqD false) (mV 0) (mC (.str "alone")))) (mC (.int 1)) (mC (.int 2))))) 2 4 [] (fun cp => (mIf (mT (mOp (eqD false) (mV 0) (mV 1))) (mC (.int 0)) (mC (.int 1)))) TBf)) mNext) (mSeq (mIfS (mT (mOp (eqD false) (mV 0) (mC (.str "wheel")))) (mRet (mLam1 (mL (mLRng (mC (.int 3)))) 2 4 [] (fun cp => (mOp modD (mOp subD (mV 1) (mV 0)) (mC (.int 3)))) TBf)) mNext) (mSeq (mIfS (mT (mOp (eqD false) (mV 0) (mC (.str "parted")))) (mRet (mC dc_PARTED)) mNext) (mSeq (mIfS (mT (mOp (eqD false) (mV 0) (mC (.str "six")))) (mRet (mFn 2 (TBf cp) (mCons (mListPerm (mCons (mL (mLst (mCons (mC (.int 0)) (mCons (mC (.int 1)) (mCons (mC (.int 2)) mNil))))) mNil)) (mCons (mC (.opq (cp 4 2 mf_order_colour))) mNil)))) mNext) (mSeq (mAsg 1 (mIf (mT (mOp (eqD false) (mV 0) (mC (.str "square")))) (mC (.int 4)) (mC (.int 5)))) (mRet (mLam1 (mL (mLRng (mV 1))) 2 4 [1] (fun cp => (mFn 3 mf_on_ring (mCons (mV 2) (mCons (mV 0) (mCons (mV 1) mNil))))) TBf)))))))
def tb_alone : D := (.tup [(.tup [(.int 0)])])
def tr_alone : List (List D) := [[(.int 0)]]
def ft_alone : D := (.tup [(.int 1), (.int 1), (.bl true), (.bl true), (.bl true)])
def gs_alone : List (Str × D) := [("points", .int 1), ("colours", .int 1), ("table", tb_alone)]
theorem kn_alone (k : D → Prop) (kx : XD → Prop) : mf__law_known [.str "alone", .int 1] k kx = k tb_alone := by
  kernel_rfl
def ds_alone : List D := [(.int 0)]
theorem pr_alone (k : D → Prop) (kx : XD → Prop) : (ds_alone.map fun a => ds_alone.map fun b => (mfLam (mIf (mT (mOp (eqD false) (mV 0) (mV 1))) (mC (.int 0)) (mC (.int 1))) []) [a, b] k kx) = tr_alone.map fun row => row.map k := by
  kernel_rfl
theorem toS_alone (cp : Nat → CPt) (TB ST : MF) (k : D → Prop) (kx : XD → Prop) : fnM 4 (ms_table_ofG cp TB ST) [.str "alone"] k kx = ST [.str "alone"] k kx := by
  kernel_rfl
theorem toG_alone (cp : Nat → CPt) (TBf : (Nat → CPt) → MF) (k : D → Prop) (kx : XD → Prop) : fnM 2 (ms_small_tableG cp TBf) [.str "alone"] k kx = (∀ cp : Nat → CPt, TBf cp [.lst ds_alone, .opq (cp 4 2 (mfLam (mIf (mT (mOp (eqD false) (mV 0) (mV 1))) (mC (.int 0)) (mC (.int 1))) []))] k kx) := by
  kernel_rfl
theorem to_alone (cp : Nat → CPt) (k : D → Prop) (kx : XD → Prop) (h : k (D.lst (tr_alone.map D.lst))) : mf_table_of cp [.str "alone"] k kx := by
  unfold mf_table_of
  have e : fnM 4 (ms_table_of cp) [.str "alone"] k kx = mf_small_table cp [.str "alone"] k kx := toS_alone cp (mf_table_by cp) (mf_small_table cp) k kx
  rw [e]
  unfold mf_small_table
  have e2 : fnM 2 (ms_small_table cp) [.str "alone"] k kx = (∀ cp : Nat → CPt, mf_table_by cp [.lst ds_alone, .opq (cp 4 2 (mfLam (mIf (mT (mOp (eqD false) (mV 0) (mV 1))) (mC (.int 0)) (mC (.int 1))) []))] k kx) := toG_alone cp (fun cp => mf_table_by cp) k kx
  rw [e2]
  exact fun cp => tb_ok cp _ _ tr_alone (by decide) pr_alone k kx h
theorem in_alone (K : List (Str × D) → Prop) (kx : XD → Prop) (h : K gs_alone) : mfi_Colouring [(D.lst (tr_alone.map D.lst))] K kx := by
  unfold mfi_Colouring
  intro φ
  have e : mpre_Colouring (.d (.opq φ) :: ([(D.lst (tr_alone.map D.lst))].map SV.d ++ List.replicate (5 - ([(D.lst (tr_alone.map D.lst))].length + 1)) .un)) { nx := fun ss => ss[0]? = some (.d (.opq φ)) ∧ mfl_Colouring ss [] fun _ gs => K gs, rt := fun _ => False, kx := kx } = (some (SV.d (.opq φ)) = some (SV.d (.opq φ)) ∧ K gs_alone) := by
    kernel_rfl
  rw [e]
  exact ⟨rfl, h⟩
theorem nk_alone (k : D → Prop) (kx : XD → Prop) : mf_need_known [.str "alone"] k kx = k .non := by
  kernel_rfl
theorem kc_alone (cp : Nat → CPt) (k : D → Prop) (kx : XD → Prop) (h : k (.ins 0 gs_alone)) : mf_known_colouring cp [.str "alone"] k kx := by
  unfold mf_known_colouring
  exact kc_gen mf_need_known (mf_table_of cp) mfi_Colouring (.str "alone") nk_alone k kx (to_alone cp (fun d => mfi_Colouring [d] (fun gs => k (.ins 0 gs)) kx) kx (in_alone (fun gs => k (.ins 0 gs)) kx h))
theorem co_alone (k : D → Prop) (kx : XD → Prop) : mf__law_colours [tb_alone] k kx = k (.int 1) := by
  kernel_rfl
theorem fc_alone (k : D → Prop) (kx : XD → Prop) : mf__law_facts [tb_alone] k kx = k ft_alone := by
  kernel_rfl
theorem ch_alone (k : D → Prop) (kx : XD → Prop) : mf__law_is_coherent [tb_alone] k kx = k (.bl true) := by
  kernel_rfl
theorem kf_alone (k : D → Prop) (kx : XD → Prop) : mf_known_facts [.str "alone"] k kx = k ft_alone := by
  kernel_rfl
theorem eq_alone : eqD true (.lst [tb_alone, tb_alone]) (.lst [tb_alone, tb_alone]) = some (.bl false) := by
  kernel_rfl
theorem rp_alone : (reprD [.lst [ft_alone, ft_alone]]).isSome = true := by
  kernel_rfl
def tb_two : D := (.tup [(.tup [(.int 0), (.int 1)]), (.tup [(.int 1), (.int 0)])])
def tr_two : List (List D) := [[(.int 0), (.int 1)], [(.int 1), (.int 0)]]
def ft_two : D := (.tup [(.int 2), (.int 2), (.bl true), (.bl true), (.bl true)])
def gs_two : List (Str × D) := [("points", .int 2), ("colours", .int 2), ("table", tb_two)]
theorem kn_two (k : D → Prop) (kx : XD → Prop) : mf__law_known [.str "two", .int 2] k kx = k tb_two := by
  kernel_rfl
def ds_two : List D := [(.int 0), (.int 1)]
theorem pr_two (k : D → Prop) (kx : XD → Prop) : (ds_two.map fun a => ds_two.map fun b => (mfLam (mIf (mT (mOp (eqD false) (mV 0) (mV 1))) (mC (.int 0)) (mC (.int 1))) []) [a, b] k kx) = tr_two.map fun row => row.map k := by
  kernel_rfl
theorem toS_two (cp : Nat → CPt) (TB ST : MF) (k : D → Prop) (kx : XD → Prop) : fnM 4 (ms_table_ofG cp TB ST) [.str "two"] k kx = ST [.str "two"] k kx := by
  kernel_rfl
theorem toG_two (cp : Nat → CPt) (TBf : (Nat → CPt) → MF) (k : D → Prop) (kx : XD → Prop) : fnM 2 (ms_small_tableG cp TBf) [.str "two"] k kx = (∀ cp : Nat → CPt, TBf cp [.lst ds_two, .opq (cp 4 2 (mfLam (mIf (mT (mOp (eqD false) (mV 0) (mV 1))) (mC (.int 0)) (mC (.int 1))) []))] k kx) := by
  kernel_rfl
theorem to_two (cp : Nat → CPt) (k : D → Prop) (kx : XD → Prop) (h : k (D.lst (tr_two.map D.lst))) : mf_table_of cp [.str "two"] k kx := by
  unfold mf_table_of
  have e : fnM 4 (ms_table_of cp) [.str "two"] k kx = mf_small_table cp [.str "two"] k kx := toS_two cp (mf_table_by cp) (mf_small_table cp) k kx
  rw [e]
  unfold mf_small_table
  have e2 : fnM 2 (ms_small_table cp) [.str "two"] k kx = (∀ cp : Nat → CPt, mf_table_by cp [.lst ds_two, .opq (cp 4 2 (mfLam (mIf (mT (mOp (eqD false) (mV 0) (mV 1))) (mC (.int 0)) (mC (.int 1))) []))] k kx) := toG_two cp (fun cp => mf_table_by cp) k kx
  rw [e2]
  exact fun cp => tb_ok cp _ _ tr_two (by decide) pr_two k kx h
theorem in_two (K : List (Str × D) → Prop) (kx : XD → Prop) (h : K gs_two) : mfi_Colouring [(D.lst (tr_two.map D.lst))] K kx := by
  unfold mfi_Colouring
  intro φ
  have e : mpre_Colouring (.d (.opq φ) :: ([(D.lst (tr_two.map D.lst))].map SV.d ++ List.replicate (5 - ([(D.lst (tr_two.map D.lst))].length + 1)) .un)) { nx := fun ss => ss[0]? = some (.d (.opq φ)) ∧ mfl_Colouring ss [] fun _ gs => K gs, rt := fun _ => False, kx := kx } = (some (SV.d (.opq φ)) = some (SV.d (.opq φ)) ∧ K gs_two) := by
    kernel_rfl
  rw [e]
  exact ⟨rfl, h⟩
theorem nk_two (k : D → Prop) (kx : XD → Prop) : mf_need_known [.str "two"] k kx = k .non := by
  kernel_rfl
theorem kc_two (cp : Nat → CPt) (k : D → Prop) (kx : XD → Prop) (h : k (.ins 0 gs_two)) : mf_known_colouring cp [.str "two"] k kx := by
  unfold mf_known_colouring
  exact kc_gen mf_need_known (mf_table_of cp) mfi_Colouring (.str "two") nk_two k kx (to_two cp (fun d => mfi_Colouring [d] (fun gs => k (.ins 0 gs)) kx) kx (in_two (fun gs => k (.ins 0 gs)) kx h))
theorem co_two (k : D → Prop) (kx : XD → Prop) : mf__law_colours [tb_two] k kx = k (.int 2) := by
  kernel_rfl
theorem fc_two (k : D → Prop) (kx : XD → Prop) : mf__law_facts [tb_two] k kx = k ft_two := by
  kernel_rfl
theorem ch_two (k : D → Prop) (kx : XD → Prop) : mf__law_is_coherent [tb_two] k kx = k (.bl true) := by
  kernel_rfl
theorem kf_two (k : D → Prop) (kx : XD → Prop) : mf_known_facts [.str "two"] k kx = k ft_two := by
  kernel_rfl
theorem eq_two : eqD true (.lst [tb_two, tb_two]) (.lst [tb_two, tb_two]) = some (.bl false) := by
  kernel_rfl
theorem rp_two : (reprD [.lst [ft_two, ft_two]]).isSome = true := by
  kernel_rfl
def tb_wheel : D := (.tup [(.tup [(.int 0), (.int 1), (.int 2)]), (.tup [(.int 2), (.int 0), (.int 1)]), (.tup [(.int 1), (.int 2), (.int 0)])])
def tr_wheel : List (List D) := [[(.int 0), (.int 1), (.int 2)], [(.int 2), (.int 0), (.int 1)], [(.int 1), (.int 2), (.int 0)]]
def ft_wheel : D := (.tup [(.int 3), (.int 3), (.bl true), (.bl true), (.bl false)])
def gs_wheel : List (Str × D) := [("points", .int 3), ("colours", .int 3), ("table", tb_wheel)]
theorem kn_wheel (k : D → Prop) (kx : XD → Prop) : mf__law_known [.str "wheel", .int 3] k kx = k tb_wheel := by
  kernel_rfl
def ds_wheel : List D := [(.int 0), (.int 1), (.int 2)]
theorem pr_wheel (k : D → Prop) (kx : XD → Prop) : (ds_wheel.map fun a => ds_wheel.map fun b => (mfLam (mOp modD (mOp subD (mV 1) (mV 0)) (mC (.int 3))) []) [a, b] k kx) = tr_wheel.map fun row => row.map k := by
  kernel_rfl
theorem toS_wheel (cp : Nat → CPt) (TB ST : MF) (k : D → Prop) (kx : XD → Prop) : fnM 4 (ms_table_ofG cp TB ST) [.str "wheel"] k kx = ST [.str "wheel"] k kx := by
  kernel_rfl
theorem toG_wheel (cp : Nat → CPt) (TBf : (Nat → CPt) → MF) (k : D → Prop) (kx : XD → Prop) : fnM 2 (ms_small_tableG cp TBf) [.str "wheel"] k kx = (∀ cp : Nat → CPt, TBf cp [.lst ds_wheel, .opq (cp 4 2 (mfLam (mOp modD (mOp subD (mV 1) (mV 0)) (mC (.int 3))) []))] k kx) := by
  kernel_rfl
theorem to_wheel (cp : Nat → CPt) (k : D → Prop) (kx : XD → Prop) (h : k (D.lst (tr_wheel.map D.lst))) : mf_table_of cp [.str "wheel"] k kx := by
  unfold mf_table_of
  have e : fnM 4 (ms_table_of cp) [.str "wheel"] k kx = mf_small_table cp [.str "wheel"] k kx := toS_wheel cp (mf_table_by cp) (mf_small_table cp) k kx
  rw [e]
  unfold mf_small_table
  have e2 : fnM 2 (ms_small_table cp) [.str "wheel"] k kx = (∀ cp : Nat → CPt, mf_table_by cp [.lst ds_wheel, .opq (cp 4 2 (mfLam (mOp modD (mOp subD (mV 1) (mV 0)) (mC (.int 3))) []))] k kx) := toG_wheel cp (fun cp => mf_table_by cp) k kx
  rw [e2]
  exact fun cp => tb_ok cp _ _ tr_wheel (by decide) pr_wheel k kx h
theorem in_wheel (K : List (Str × D) → Prop) (kx : XD → Prop) (h : K gs_wheel) : mfi_Colouring [(D.lst (tr_wheel.map D.lst))] K kx := by
  unfold mfi_Colouring
  intro φ
  have e : mpre_Colouring (.d (.opq φ) :: ([(D.lst (tr_wheel.map D.lst))].map SV.d ++ List.replicate (5 - ([(D.lst (tr_wheel.map D.lst))].length + 1)) .un)) { nx := fun ss => ss[0]? = some (.d (.opq φ)) ∧ mfl_Colouring ss [] fun _ gs => K gs, rt := fun _ => False, kx := kx } = (some (SV.d (.opq φ)) = some (SV.d (.opq φ)) ∧ K gs_wheel) := by
    kernel_rfl
  rw [e]
  exact ⟨rfl, h⟩
theorem nk_wheel (k : D → Prop) (kx : XD → Prop) : mf_need_known [.str "wheel"] k kx = k .non := by
  kernel_rfl
theorem kc_wheel (cp : Nat → CPt) (k : D → Prop) (kx : XD → Prop) (h : k (.ins 0 gs_wheel)) : mf_known_colouring cp [.str "wheel"] k kx := by
  unfold mf_known_colouring
  exact kc_gen mf_need_known (mf_table_of cp) mfi_Colouring (.str "wheel") nk_wheel k kx (to_wheel cp (fun d => mfi_Colouring [d] (fun gs => k (.ins 0 gs)) kx) kx (in_wheel (fun gs => k (.ins 0 gs)) kx h))
theorem co_wheel (k : D → Prop) (kx : XD → Prop) : mf__law_colours [tb_wheel] k kx = k (.int 3) := by
  kernel_rfl
theorem fc_wheel (k : D → Prop) (kx : XD → Prop) : mf__law_facts [tb_wheel] k kx = k ft_wheel := by
  kernel_rfl
theorem ch_wheel (k : D → Prop) (kx : XD → Prop) : mf__law_is_coherent [tb_wheel] k kx = k (.bl true) := by
  kernel_rfl
theorem kf_wheel (k : D → Prop) (kx : XD → Prop) : mf_known_facts [.str "wheel"] k kx = k ft_wheel := by
  kernel_rfl
theorem eq_wheel : eqD true (.lst [tb_wheel, tb_wheel]) (.lst [tb_wheel, tb_wheel]) = some (.bl false) := by
  kernel_rfl
theorem rp_wheel : (reprD [.lst [ft_wheel, ft_wheel]]).isSome = true := by
  kernel_rfl
def tb_parted : D := (.tup [(.tup [(.int 0), (.int 1), (.int 1)]), (.tup [(.int 2), (.int 3), (.int 4)]), (.tup [(.int 2), (.int 4), (.int 3)])])
def tr_parted : List (List D) := [[(.int 0), (.int 1), (.int 1)], [(.int 2), (.int 3), (.int 4)], [(.int 2), (.int 4), (.int 3)]]
def ft_parted : D := (.tup [(.int 3), (.int 5), (.bl false), (.bl false), (.bl false)])
def gs_parted : List (Str × D) := [("points", .int 3), ("colours", .int 5), ("table", tb_parted)]
theorem kn_parted (k : D → Prop) (kx : XD → Prop) : mf__law_known [.str "parted", .int 3] k kx = k tb_parted := by
  kernel_rfl
theorem to_parted (cp : Nat → CPt) (k : D → Prop) (kx : XD → Prop) (h : k (D.tup (tr_parted.map D.tup))) : mf_table_of cp [.str "parted"] k kx := by
  have e : mf_table_of cp [.str "parted"] k kx = k (D.tup (tr_parted.map D.tup)) := by kernel_rfl
  rw [e]
  exact h
theorem in_parted (K : List (Str × D) → Prop) (kx : XD → Prop) (h : K gs_parted) : mfi_Colouring [(D.tup (tr_parted.map D.tup))] K kx := by
  unfold mfi_Colouring
  intro φ
  have e : mpre_Colouring (.d (.opq φ) :: ([(D.tup (tr_parted.map D.tup))].map SV.d ++ List.replicate (5 - ([(D.tup (tr_parted.map D.tup))].length + 1)) .un)) { nx := fun ss => ss[0]? = some (.d (.opq φ)) ∧ mfl_Colouring ss [] fun _ gs => K gs, rt := fun _ => False, kx := kx } = (some (SV.d (.opq φ)) = some (SV.d (.opq φ)) ∧ K gs_parted) := by
    kernel_rfl
  rw [e]
  exact ⟨rfl, h⟩
theorem nk_parted (k : D → Prop) (kx : XD → Prop) : mf_need_known [.str "parted"] k kx = k .non := by
  kernel_rfl
theorem kc_parted (cp : Nat → CPt) (k : D → Prop) (kx : XD → Prop) (h : k (.ins 0 gs_parted)) : mf_known_colouring cp [.str "parted"] k kx := by
  unfold mf_known_colouring
  exact kc_gen mf_need_known (mf_table_of cp) mfi_Colouring (.str "parted") nk_parted k kx (to_parted cp (fun d => mfi_Colouring [d] (fun gs => k (.ins 0 gs)) kx) kx (in_parted (fun gs => k (.ins 0 gs)) kx h))
theorem co_parted (k : D → Prop) (kx : XD → Prop) : mf__law_colours [tb_parted] k kx = k (.int 5) := by
  kernel_rfl
theorem fc_parted (k : D → Prop) (kx : XD → Prop) : mf__law_facts [tb_parted] k kx = k ft_parted := by
  kernel_rfl
theorem ch_parted (k : D → Prop) (kx : XD → Prop) : mf__law_is_coherent [tb_parted] k kx = k (.bl true) := by
  kernel_rfl
theorem kf_parted (k : D → Prop) (kx : XD → Prop) : mf_known_facts [.str "parted"] k kx = k ft_parted := by
  kernel_rfl
theorem eq_parted : eqD true (.lst [tb_parted, tb_parted]) (.lst [tb_parted, tb_parted]) = some (.bl false) := by
  kernel_rfl
theorem rp_parted : (reprD [.lst [ft_parted, ft_parted]]).isSome = true := by
  kernel_rfl
def tb_square : D := (.tup [(.tup [(.int 0), (.int 1), (.int 2), (.int 1)]), (.tup [(.int 1), (.int 0), (.int 1), (.int 2)]), (.tup [(.int 2), (.int 1), (.int 0), (.int 1)]), (.tup [(.int 1), (.int 2), (.int 1), (.int 0)])])
def tr_square : List (List D) := [[(.int 0), (.int 1), (.int 2), (.int 1)], [(.int 1), (.int 0), (.int 1), (.int 2)], [(.int 2), (.int 1), (.int 0), (.int 1)], [(.int 1), (.int 2), (.int 1), (.int 0)]]
def ft_square : D := (.tup [(.int 4), (.int 3), (.bl true), (.bl true), (.bl true)])
def gs_square : List (Str × D) := [("points", .int 4), ("colours", .int 3), ("table", tb_square)]
theorem kn_square (k : D → Prop) (kx : XD → Prop) : mf__law_known [.str "square", .int 4] k kx = k tb_square := by
  kernel_rfl
def ds_square : List D := [(.int 0), (.int 1), (.int 2), (.int 3)]
theorem pr_square (k : D → Prop) (kx : XD → Prop) : (ds_square.map fun a => ds_square.map fun b => (mfLam (mFn 3 mf_on_ring (mCons (mV 2) (mCons (mV 0) (mCons (mV 1) mNil)))) [.int 4]) [a, b] k kx) = tr_square.map fun row => row.map k := by
  kernel_rfl
theorem toS_square (cp : Nat → CPt) (TB ST : MF) (k : D → Prop) (kx : XD → Prop) : fnM 4 (ms_table_ofG cp TB ST) [.str "square"] k kx = ST [.str "square"] k kx := by
  kernel_rfl
theorem toG_square (cp : Nat → CPt) (TBf : (Nat → CPt) → MF) (k : D → Prop) (kx : XD → Prop) : fnM 2 (ms_small_tableG cp TBf) [.str "square"] k kx = (∀ cp : Nat → CPt, TBf cp [.lst ds_square, .opq (cp 4 2 (mfLam (mFn 3 mf_on_ring (mCons (mV 2) (mCons (mV 0) (mCons (mV 1) mNil)))) [.int 4]))] k kx) := by
  kernel_rfl
theorem to_square (cp : Nat → CPt) (k : D → Prop) (kx : XD → Prop) (h : k (D.lst (tr_square.map D.lst))) : mf_table_of cp [.str "square"] k kx := by
  unfold mf_table_of
  have e : fnM 4 (ms_table_of cp) [.str "square"] k kx = mf_small_table cp [.str "square"] k kx := toS_square cp (mf_table_by cp) (mf_small_table cp) k kx
  rw [e]
  unfold mf_small_table
  have e2 : fnM 2 (ms_small_table cp) [.str "square"] k kx = (∀ cp : Nat → CPt, mf_table_by cp [.lst ds_square, .opq (cp 4 2 (mfLam (mFn 3 mf_on_ring (mCons (mV 2) (mCons (mV 0) (mCons (mV 1) mNil)))) [.int 4]))] k kx) := toG_square cp (fun cp => mf_table_by cp) k kx
  rw [e2]
  exact fun cp => tb_ok cp _ _ tr_square (by decide) pr_square k kx h
theorem in_square (K : List (Str × D) → Prop) (kx : XD → Prop) (h : K gs_square) : mfi_Colouring [(D.lst (tr_square.map D.lst))] K kx := by
  unfold mfi_Colouring
  intro φ
  have e : mpre_Colouring (.d (.opq φ) :: ([(D.lst (tr_square.map D.lst))].map SV.d ++ List.replicate (5 - ([(D.lst (tr_square.map D.lst))].length + 1)) .un)) { nx := fun ss => ss[0]? = some (.d (.opq φ)) ∧ mfl_Colouring ss [] fun _ gs => K gs, rt := fun _ => False, kx := kx } = (some (SV.d (.opq φ)) = some (SV.d (.opq φ)) ∧ K gs_square) := by
    kernel_rfl
  rw [e]
  exact ⟨rfl, h⟩
theorem nk_square (k : D → Prop) (kx : XD → Prop) : mf_need_known [.str "square"] k kx = k .non := by
  kernel_rfl
theorem kc_square (cp : Nat → CPt) (k : D → Prop) (kx : XD → Prop) (h : k (.ins 0 gs_square)) : mf_known_colouring cp [.str "square"] k kx := by
  unfold mf_known_colouring
  exact kc_gen mf_need_known (mf_table_of cp) mfi_Colouring (.str "square") nk_square k kx (to_square cp (fun d => mfi_Colouring [d] (fun gs => k (.ins 0 gs)) kx) kx (in_square (fun gs => k (.ins 0 gs)) kx h))
theorem co_square (k : D → Prop) (kx : XD → Prop) : mf__law_colours [tb_square] k kx = k (.int 3) := by
  kernel_rfl
theorem fc_square (k : D → Prop) (kx : XD → Prop) : mf__law_facts [tb_square] k kx = k ft_square := by
  kernel_rfl
theorem ch_square (k : D → Prop) (kx : XD → Prop) : mf__law_is_coherent [tb_square] k kx = k (.bl true) := by
  kernel_rfl
theorem kf_square (k : D → Prop) (kx : XD → Prop) : mf_known_facts [.str "square"] k kx = k ft_square := by
  kernel_rfl
theorem eq_square : eqD true (.lst [tb_square, tb_square]) (.lst [tb_square, tb_square]) = some (.bl false) := by
  kernel_rfl
theorem rp_square : (reprD [.lst [ft_square, ft_square]]).isSome = true := by
  kernel_rfl
def tb_ring : D := (.tup [(.tup [(.int 0), (.int 1), (.int 2), (.int 2), (.int 1)]), (.tup [(.int 1), (.int 0), (.int 1), (.int 2), (.int 2)]), (.tup [(.int 2), (.int 1), (.int 0), (.int 1), (.int 2)]), (.tup [(.int 2), (.int 2), (.int 1), (.int 0), (.int 1)]), (.tup [(.int 1), (.int 2), (.int 2), (.int 1), (.int 0)])])
def tr_ring : List (List D) := [[(.int 0), (.int 1), (.int 2), (.int 2), (.int 1)], [(.int 1), (.int 0), (.int 1), (.int 2), (.int 2)], [(.int 2), (.int 1), (.int 0), (.int 1), (.int 2)], [(.int 2), (.int 2), (.int 1), (.int 0), (.int 1)], [(.int 1), (.int 2), (.int 2), (.int 1), (.int 0)]]
def ft_ring : D := (.tup [(.int 5), (.int 3), (.bl true), (.bl true), (.bl true)])
def gs_ring : List (Str × D) := [("points", .int 5), ("colours", .int 3), ("table", tb_ring)]
theorem kn_ring (k : D → Prop) (kx : XD → Prop) : mf__law_known [.str "ring", .int 5] k kx = k tb_ring := by
  kernel_rfl
def ds_ring : List D := [(.int 0), (.int 1), (.int 2), (.int 3), (.int 4)]
theorem pr_ring (k : D → Prop) (kx : XD → Prop) : (ds_ring.map fun a => ds_ring.map fun b => (mfLam (mFn 3 mf_on_ring (mCons (mV 2) (mCons (mV 0) (mCons (mV 1) mNil)))) [.int 5]) [a, b] k kx) = tr_ring.map fun row => row.map k := by
  kernel_rfl
theorem toS_ring (cp : Nat → CPt) (TB ST : MF) (k : D → Prop) (kx : XD → Prop) : fnM 4 (ms_table_ofG cp TB ST) [.str "ring"] k kx = ST [.str "ring"] k kx := by
  kernel_rfl
theorem toG_ring (cp : Nat → CPt) (TBf : (Nat → CPt) → MF) (k : D → Prop) (kx : XD → Prop) : fnM 2 (ms_small_tableG cp TBf) [.str "ring"] k kx = (∀ cp : Nat → CPt, TBf cp [.lst ds_ring, .opq (cp 4 2 (mfLam (mFn 3 mf_on_ring (mCons (mV 2) (mCons (mV 0) (mCons (mV 1) mNil)))) [.int 5]))] k kx) := by
  kernel_rfl
theorem to_ring (cp : Nat → CPt) (k : D → Prop) (kx : XD → Prop) (h : k (D.lst (tr_ring.map D.lst))) : mf_table_of cp [.str "ring"] k kx := by
  unfold mf_table_of
  have e : fnM 4 (ms_table_of cp) [.str "ring"] k kx = mf_small_table cp [.str "ring"] k kx := toS_ring cp (mf_table_by cp) (mf_small_table cp) k kx
  rw [e]
  unfold mf_small_table
  have e2 : fnM 2 (ms_small_table cp) [.str "ring"] k kx = (∀ cp : Nat → CPt, mf_table_by cp [.lst ds_ring, .opq (cp 4 2 (mfLam (mFn 3 mf_on_ring (mCons (mV 2) (mCons (mV 0) (mCons (mV 1) mNil)))) [.int 5]))] k kx) := toG_ring cp (fun cp => mf_table_by cp) k kx
  rw [e2]
  exact fun cp => tb_ok cp _ _ tr_ring (by decide) pr_ring k kx h
theorem in_ring (K : List (Str × D) → Prop) (kx : XD → Prop) (h : K gs_ring) : mfi_Colouring [(D.lst (tr_ring.map D.lst))] K kx := by
  unfold mfi_Colouring
  intro φ
  have e : mpre_Colouring (.d (.opq φ) :: ([(D.lst (tr_ring.map D.lst))].map SV.d ++ List.replicate (5 - ([(D.lst (tr_ring.map D.lst))].length + 1)) .un)) { nx := fun ss => ss[0]? = some (.d (.opq φ)) ∧ mfl_Colouring ss [] fun _ gs => K gs, rt := fun _ => False, kx := kx } = (some (SV.d (.opq φ)) = some (SV.d (.opq φ)) ∧ K gs_ring) := by
    kernel_rfl
  rw [e]
  exact ⟨rfl, h⟩
theorem nk_ring (k : D → Prop) (kx : XD → Prop) : mf_need_known [.str "ring"] k kx = k .non := by
  kernel_rfl
theorem kc_ring (cp : Nat → CPt) (k : D → Prop) (kx : XD → Prop) (h : k (.ins 0 gs_ring)) : mf_known_colouring cp [.str "ring"] k kx := by
  unfold mf_known_colouring
  exact kc_gen mf_need_known (mf_table_of cp) mfi_Colouring (.str "ring") nk_ring k kx (to_ring cp (fun d => mfi_Colouring [d] (fun gs => k (.ins 0 gs)) kx) kx (in_ring (fun gs => k (.ins 0 gs)) kx h))
theorem co_ring (k : D → Prop) (kx : XD → Prop) : mf__law_colours [tb_ring] k kx = k (.int 3) := by
  kernel_rfl
theorem fc_ring (k : D → Prop) (kx : XD → Prop) : mf__law_facts [tb_ring] k kx = k ft_ring := by
  kernel_rfl
theorem ch_ring (k : D → Prop) (kx : XD → Prop) : mf__law_is_coherent [tb_ring] k kx = k (.bl true) := by
  kernel_rfl
theorem kf_ring (k : D → Prop) (kx : XD → Prop) : mf_known_facts [.str "ring"] k kx = k ft_ring := by
  kernel_rfl
theorem eq_ring : eqD true (.lst [tb_ring, tb_ring]) (.lst [tb_ring, tb_ring]) = some (.bl false) := by
  kernel_rfl
theorem rp_ring : (reprD [.lst [ft_ring, ft_ring]]).isSome = true := by
  kernel_rfl
def tb_six : D := (.tup [(.tup [(.int 0), (.int 1), (.int 2), (.int 3), (.int 4), (.int 5)]), (.tup [(.int 1), (.int 0), (.int 4), (.int 5), (.int 2), (.int 3)]), (.tup [(.int 2), (.int 3), (.int 0), (.int 1), (.int 5), (.int 4)]), (.tup [(.int 4), (.int 5), (.int 1), (.int 0), (.int 3), (.int 2)]), (.tup [(.int 3), (.int 2), (.int 5), (.int 4), (.int 0), (.int 1)]), (.tup [(.int 5), (.int 4), (.int 3), (.int 2), (.int 1), (.int 0)])])
def tr_six : List (List D) := [[(.int 0), (.int 1), (.int 2), (.int 3), (.int 4), (.int 5)], [(.int 1), (.int 0), (.int 4), (.int 5), (.int 2), (.int 3)], [(.int 2), (.int 3), (.int 0), (.int 1), (.int 5), (.int 4)], [(.int 4), (.int 5), (.int 1), (.int 0), (.int 3), (.int 2)], [(.int 3), (.int 2), (.int 5), (.int 4), (.int 0), (.int 1)], [(.int 5), (.int 4), (.int 3), (.int 2), (.int 1), (.int 0)]]
def ft_six : D := (.tup [(.int 6), (.int 6), (.bl true), (.bl false), (.bl false)])
def gs_six : List (Str × D) := [("points", .int 6), ("colours", .int 6), ("table", tb_six)]
theorem kn_six (k : D → Prop) (kx : XD → Prop) : mf__law_known [.str "six", .int 6] k kx = k tb_six := by
  kernel_rfl
def ds_six : List D := [(.tup [(.int 0), (.int 1), (.int 2)]), (.tup [(.int 0), (.int 2), (.int 1)]), (.tup [(.int 1), (.int 0), (.int 2)]), (.tup [(.int 1), (.int 2), (.int 0)]), (.tup [(.int 2), (.int 0), (.int 1)]), (.tup [(.int 2), (.int 1), (.int 0)])]
theorem pr_six (k : D → Prop) (kx : XD → Prop) : (ds_six.map fun a => ds_six.map fun b => mf_order_colour [a, b] k kx) = tr_six.map fun row => row.map k := by
  kernel_rfl
theorem toS_six (cp : Nat → CPt) (TB ST : MF) (k : D → Prop) (kx : XD → Prop) : fnM 4 (ms_table_ofG cp TB ST) [.str "six"] k kx = ST [.str "six"] k kx := by
  kernel_rfl
theorem toG_six (cp : Nat → CPt) (TBf : (Nat → CPt) → MF) (k : D → Prop) (kx : XD → Prop) : fnM 2 (ms_small_tableG cp TBf) [.str "six"] k kx = TBf cp [.lst ds_six, .opq (cp 4 2 mf_order_colour)] k kx := by
  kernel_rfl
theorem to_six (cp : Nat → CPt) (k : D → Prop) (kx : XD → Prop) (h : k (D.lst (tr_six.map D.lst))) : mf_table_of cp [.str "six"] k kx := by
  unfold mf_table_of
  have e : fnM 4 (ms_table_of cp) [.str "six"] k kx = mf_small_table cp [.str "six"] k kx := toS_six cp (mf_table_by cp) (mf_small_table cp) k kx
  rw [e]
  unfold mf_small_table
  have e2 : fnM 2 (ms_small_table cp) [.str "six"] k kx = mf_table_by cp [.lst ds_six, .opq (cp 4 2 mf_order_colour)] k kx := toG_six cp (fun cp => mf_table_by cp) k kx
  rw [e2]
  exact tb_ok cp _ _ tr_six (by decide) pr_six k kx h
theorem in_six (K : List (Str × D) → Prop) (kx : XD → Prop) (h : K gs_six) : mfi_Colouring [(D.lst (tr_six.map D.lst))] K kx := by
  unfold mfi_Colouring
  intro φ
  have e : mpre_Colouring (.d (.opq φ) :: ([(D.lst (tr_six.map D.lst))].map SV.d ++ List.replicate (5 - ([(D.lst (tr_six.map D.lst))].length + 1)) .un)) { nx := fun ss => ss[0]? = some (.d (.opq φ)) ∧ mfl_Colouring ss [] fun _ gs => K gs, rt := fun _ => False, kx := kx } = (some (SV.d (.opq φ)) = some (SV.d (.opq φ)) ∧ K gs_six) := by
    kernel_rfl
  rw [e]
  exact ⟨rfl, h⟩
theorem nk_six (k : D → Prop) (kx : XD → Prop) : mf_need_known [.str "six"] k kx = k .non := by
  kernel_rfl
theorem kc_six (cp : Nat → CPt) (k : D → Prop) (kx : XD → Prop) (h : k (.ins 0 gs_six)) : mf_known_colouring cp [.str "six"] k kx := by
  unfold mf_known_colouring
  exact kc_gen mf_need_known (mf_table_of cp) mfi_Colouring (.str "six") nk_six k kx (to_six cp (fun d => mfi_Colouring [d] (fun gs => k (.ins 0 gs)) kx) kx (in_six (fun gs => k (.ins 0 gs)) kx h))
theorem co_six (k : D → Prop) (kx : XD → Prop) : mf__law_colours [tb_six] k kx = k (.int 6) := by
  kernel_rfl
theorem fc_six (k : D → Prop) (kx : XD → Prop) : mf__law_facts [tb_six] k kx = k ft_six := by
  kernel_rfl
theorem ch_six (k : D → Prop) (kx : XD → Prop) : mf__law_is_coherent [tb_six] k kx = k (.bl true) := by
  kernel_rfl
theorem kf_six (k : D → Prop) (kx : XD → Prop) : mf_known_facts [.str "six"] k kx = k ft_six := by
  kernel_rfl
theorem eq_six : eqD true (.lst [tb_six, tb_six]) (.lst [tb_six, tb_six]) = some (.bl false) := by
  kernel_rfl
theorem rp_six : (reprD [.lst [ft_six, ft_six]]).isSome = true := by
  kernel_rfl
end K71
end -- K71n
section -- K71o_cube
set_option Elab.async false
set_option linter.all false
set_option maxRecDepth 100000
set_option maxHeartbeats 0
namespace K71
open PySem PySem.Spec PyProof.Rows L2 Dm
def tb_cube : D := (.tup [(.tup [(.int 0), (.int 1), (.int 1), (.int 2), (.int 1), (.int 2), (.int 2), (.int 3)]), (.tup [(.int 1), (.int 0), (.int 2), (.int 1), (.int 2), (.int 1), (.int 3), (.int 2)]), (.tup [(.int 1), (.int 2), (.int 0), (.int 1), (.int 2), (.int 3), (.int 1), (.int 2)]), (.tup [(.int 2), (.int 1), (.int 1), (.int 0), (.int 3), (.int 2), (.int 2), (.int 1)]), (.tup [(.int 1), (.int 2), (.int 2), (.int 3), (.int 0), (.int 1), (.int 1), (.int 2)]), (.tup [(.int 2), (.int 1), (.int 3), (.int 2), (.int 1), (.int 0), (.int 2), (.int 1)]), (.tup [(.int 2), (.int 3), (.int 1), (.int 2), (.int 1), (.int 2), (.int 0), (.int 1)]), (.tup [(.int 3), (.int 2), (.int 2), (.int 1), (.int 2), (.int 1), (.int 1), (.int 0)])])
def tr_cube : List (List D) := [[(.int 0), (.int 1), (.int 1), (.int 2), (.int 1), (.int 2), (.int 2), (.int 3)], [(.int 1), (.int 0), (.int 2), (.int 1), (.int 2), (.int 1), (.int 3), (.int 2)], [(.int 1), (.int 2), (.int 0), (.int 1), (.int 2), (.int 3), (.int 1), (.int 2)], [(.int 2), (.int 1), (.int 1), (.int 0), (.int 3), (.int 2), (.int 2), (.int 1)], [(.int 1), (.int 2), (.int 2), (.int 3), (.int 0), (.int 1), (.int 1), (.int 2)], [(.int 2), (.int 1), (.int 3), (.int 2), (.int 1), (.int 0), (.int 2), (.int 1)], [(.int 2), (.int 3), (.int 1), (.int 2), (.int 1), (.int 2), (.int 0), (.int 1)], [(.int 3), (.int 2), (.int 2), (.int 1), (.int 2), (.int 1), (.int 1), (.int 0)]]
def ft_cube : D := (.tup [(.int 8), (.int 4), (.bl true), (.bl true), (.bl true)])
def gs_cube : List (Str × D) := [("points", .int 8), ("colours", .int 4), ("table", tb_cube)]
theorem kn_cube (k : D → Prop) (kx : XD → Prop) : mf__law_known [.str "cube", .int 8] k kx = k tb_cube := by
  kernel_rfl
def ds_cube : List D := [(.int 0), (.int 1), (.int 2), (.int 3), (.int 4), (.int 5), (.int 6), (.int 7)]
theorem pr_cube (k : D → Prop) (kx : XD → Prop) : (ds_cube.map fun a => ds_cube.map fun b => mf_unlike_places [a, b] k kx) = tr_cube.map fun row => row.map k := by
  kernel_rfl
theorem toG_cube (cp : Nat → CPt) (TB ST : MF) (k : D → Prop) (kx : XD → Prop) : fnM 4 (ms_table_ofG cp TB ST) [.str "cube"] k kx = TB [.lst ds_cube, .opq (cp 4 2 mf_unlike_places)] k kx := by
  kernel_rfl
theorem to_cube (cp : Nat → CPt) (k : D → Prop) (kx : XD → Prop) (h : k (D.lst (tr_cube.map D.lst))) : mf_table_of cp [.str "cube"] k kx := by
  unfold mf_table_of
  have e : fnM 4 (ms_table_of cp) [.str "cube"] k kx = mf_table_by cp [.lst ds_cube, .opq (cp 4 2 mf_unlike_places)] k kx := toG_cube cp (mf_table_by cp) (mf_small_table cp) k kx
  rw [e]
  exact tb_ok cp _ _ tr_cube (by decide) pr_cube k kx h
theorem in_cube (K : List (Str × D) → Prop) (kx : XD → Prop) (h : K gs_cube) : mfi_Colouring [(D.lst (tr_cube.map D.lst))] K kx := by
  unfold mfi_Colouring
  intro φ
  have e : mpre_Colouring (.d (.opq φ) :: ([(D.lst (tr_cube.map D.lst))].map SV.d ++ List.replicate (5 - ([(D.lst (tr_cube.map D.lst))].length + 1)) .un)) { nx := fun ss => ss[0]? = some (.d (.opq φ)) ∧ mfl_Colouring ss [] fun _ gs => K gs, rt := fun _ => False, kx := kx } = (some (SV.d (.opq φ)) = some (SV.d (.opq φ)) ∧ K gs_cube) := by
    kernel_rfl
  rw [e]
  exact ⟨rfl, h⟩
theorem nk_cube (k : D → Prop) (kx : XD → Prop) : mf_need_known [.str "cube"] k kx = k .non := by
  kernel_rfl
theorem kc_cube (cp : Nat → CPt) (k : D → Prop) (kx : XD → Prop) (h : k (.ins 0 gs_cube)) : mf_known_colouring cp [.str "cube"] k kx := by
  unfold mf_known_colouring
  exact kc_gen mf_need_known (mf_table_of cp) mfi_Colouring (.str "cube") nk_cube k kx (to_cube cp (fun d => mfi_Colouring [d] (fun gs => k (.ins 0 gs)) kx) kx (in_cube (fun gs => k (.ins 0 gs)) kx h))
theorem co_cube (k : D → Prop) (kx : XD → Prop) : mf__law_colours [tb_cube] k kx = k (.int 4) := by
  kernel_rfl
theorem fc_cube (k : D → Prop) (kx : XD → Prop) : mf__law_facts [tb_cube] k kx = k ft_cube := by
  kernel_rfl
theorem ch_cube (k : D → Prop) (kx : XD → Prop) : mf__law_is_coherent [tb_cube] k kx = k (.bl true) := by
  kernel_rfl
theorem kf_cube (k : D → Prop) (kx : XD → Prop) : mf_known_facts [.str "cube"] k kx = k ft_cube := by
  kernel_rfl
theorem eq_cube : eqD true (.lst [tb_cube, tb_cube]) (.lst [tb_cube, tb_cube]) = some (.bl false) := by
  kernel_rfl
theorem rp_cube : (reprD [.lst [ft_cube, ft_cube]]).isSome = true := by
  kernel_rfl
end K71
end -- K71o_cube
section -- K71o_petersen
set_option Elab.async false
set_option linter.all false
set_option maxRecDepth 100000
set_option maxHeartbeats 0
namespace K71
open PySem PySem.Spec PyProof.Rows L2 Dm
def tb_petersen : D := (.tup [(.tup [(.int 0), (.int 2), (.int 2), (.int 2), (.int 2), (.int 2), (.int 2), (.int 1), (.int 1), (.int 1)]), (.tup [(.int 2), (.int 0), (.int 2), (.int 2), (.int 2), (.int 1), (.int 1), (.int 2), (.int 2), (.int 1)]), (.tup [(.int 2), (.int 2), (.int 0), (.int 2), (.int 1), (.int 2), (.int 1), (.int 2), (.int 1), (.int 2)]), (.tup [(.int 2), (.int 2), (.int 2), (.int 0), (.int 1), (.int 1), (.int 2), (.int 1), (.int 2), (.int 2)]), (.tup [(.int 2), (.int 2), (.int 1), (.int 1), (.int 0), (.int 2), (.int 2), (.int 2), (.int 2), (.int 1)]), (.tup [(.int 2), (.int 1), (.int 2), (.int 1), (.int 2), (.int 0), (.int 2), (.int 2), (.int 1), (.int 2)]), (.tup [(.int 2), (.int 1), (.int 1), (.int 2), (.int 2), (.int 2), (.int 0), (.int 1), (.int 2), (.int 2)]), (.tup [(.int 1), (.int 2), (.int 2), (.int 1), (.int 2), (.int 2), (.int 1), (.int 0), (.int 2), (.int 2)]), (.tup [(.int 1), (.int 2), (.int 1), (.int 2), (.int 2), (.int 1), (.int 2), (.int 2), (.int 0), (.int 2)]), (.tup [(.int 1), (.int 1), (.int 2), (.int 2), (.int 1), (.int 2), (.int 2), (.int 2), (.int 2), (.int 0)])])
def tr_petersen : List (List D) := [[(.int 0), (.int 2), (.int 2), (.int 2), (.int 2), (.int 2), (.int 2), (.int 1), (.int 1), (.int 1)], [(.int 2), (.int 0), (.int 2), (.int 2), (.int 2), (.int 1), (.int 1), (.int 2), (.int 2), (.int 1)], [(.int 2), (.int 2), (.int 0), (.int 2), (.int 1), (.int 2), (.int 1), (.int 2), (.int 1), (.int 2)], [(.int 2), (.int 2), (.int 2), (.int 0), (.int 1), (.int 1), (.int 2), (.int 1), (.int 2), (.int 2)], [(.int 2), (.int 2), (.int 1), (.int 1), (.int 0), (.int 2), (.int 2), (.int 2), (.int 2), (.int 1)], [(.int 2), (.int 1), (.int 2), (.int 1), (.int 2), (.int 0), (.int 2), (.int 2), (.int 1), (.int 2)], [(.int 2), (.int 1), (.int 1), (.int 2), (.int 2), (.int 2), (.int 0), (.int 1), (.int 2), (.int 2)], [(.int 1), (.int 2), (.int 2), (.int 1), (.int 2), (.int 2), (.int 1), (.int 0), (.int 2), (.int 2)], [(.int 1), (.int 2), (.int 1), (.int 2), (.int 2), (.int 1), (.int 2), (.int 2), (.int 0), (.int 2)], [(.int 1), (.int 1), (.int 2), (.int 2), (.int 1), (.int 2), (.int 2), (.int 2), (.int 2), (.int 0)]]
def ft_petersen : D := (.tup [(.int 10), (.int 3), (.bl true), (.bl true), (.bl true)])
def gs_petersen : List (Str × D) := [("points", .int 10), ("colours", .int 3), ("table", tb_petersen)]
theorem kn_petersen (k : D → Prop) (kx : XD → Prop) : mf__law_known [.str "petersen", .int 10] k kx = k tb_petersen := by
  kernel_rfl
def ds_petersen : List D := [(.tup [(.int 0), (.int 1)]), (.tup [(.int 0), (.int 2)]), (.tup [(.int 0), (.int 3)]), (.tup [(.int 0), (.int 4)]), (.tup [(.int 1), (.int 2)]), (.tup [(.int 1), (.int 3)]), (.tup [(.int 1), (.int 4)]), (.tup [(.int 2), (.int 3)]), (.tup [(.int 2), (.int 4)]), (.tup [(.int 3), (.int 4)])]
theorem pr_petersen (k : D → Prop) (kx : XD → Prop) : (ds_petersen.map fun a => ds_petersen.map fun b => mf_pair_colour [a, b] k kx) = tr_petersen.map fun row => row.map k := by
  kernel_rfl
theorem toG_petersen (cp : Nat → CPt) (TB ST : MF) (k : D → Prop) (kx : XD → Prop) : fnM 4 (ms_table_ofG cp TB ST) [.str "petersen"] k kx = TB [.lst ds_petersen, .opq (cp 4 2 mf_pair_colour)] k kx := by
  kernel_rfl
theorem to_petersen (cp : Nat → CPt) (k : D → Prop) (kx : XD → Prop) (h : k (D.lst (tr_petersen.map D.lst))) : mf_table_of cp [.str "petersen"] k kx := by
  unfold mf_table_of
  have e : fnM 4 (ms_table_of cp) [.str "petersen"] k kx = mf_table_by cp [.lst ds_petersen, .opq (cp 4 2 mf_pair_colour)] k kx := toG_petersen cp (mf_table_by cp) (mf_small_table cp) k kx
  rw [e]
  exact tb_ok cp _ _ tr_petersen (by decide) pr_petersen k kx h
theorem in_petersen (K : List (Str × D) → Prop) (kx : XD → Prop) (h : K gs_petersen) : mfi_Colouring [(D.lst (tr_petersen.map D.lst))] K kx := by
  unfold mfi_Colouring
  intro φ
  have e : mpre_Colouring (.d (.opq φ) :: ([(D.lst (tr_petersen.map D.lst))].map SV.d ++ List.replicate (5 - ([(D.lst (tr_petersen.map D.lst))].length + 1)) .un)) { nx := fun ss => ss[0]? = some (.d (.opq φ)) ∧ mfl_Colouring ss [] fun _ gs => K gs, rt := fun _ => False, kx := kx } = (some (SV.d (.opq φ)) = some (SV.d (.opq φ)) ∧ K gs_petersen) := by
    kernel_rfl
  rw [e]
  exact ⟨rfl, h⟩
theorem nk_petersen (k : D → Prop) (kx : XD → Prop) : mf_need_known [.str "petersen"] k kx = k .non := by
  kernel_rfl
theorem kc_petersen (cp : Nat → CPt) (k : D → Prop) (kx : XD → Prop) (h : k (.ins 0 gs_petersen)) : mf_known_colouring cp [.str "petersen"] k kx := by
  unfold mf_known_colouring
  exact kc_gen mf_need_known (mf_table_of cp) mfi_Colouring (.str "petersen") nk_petersen k kx (to_petersen cp (fun d => mfi_Colouring [d] (fun gs => k (.ins 0 gs)) kx) kx (in_petersen (fun gs => k (.ins 0 gs)) kx h))
theorem co_petersen (k : D → Prop) (kx : XD → Prop) : mf__law_colours [tb_petersen] k kx = k (.int 3) := by
  kernel_rfl
theorem fc_petersen (k : D → Prop) (kx : XD → Prop) : mf__law_facts [tb_petersen] k kx = k ft_petersen := by
  kernel_rfl
theorem ch_petersen (k : D → Prop) (kx : XD → Prop) : mf__law_is_coherent [tb_petersen] k kx = k (.bl true) := by
  kernel_rfl
theorem kf_petersen (k : D → Prop) (kx : XD → Prop) : mf_known_facts [.str "petersen"] k kx = k ft_petersen := by
  kernel_rfl
theorem eq_petersen : eqD true (.lst [tb_petersen, tb_petersen]) (.lst [tb_petersen, tb_petersen]) = some (.bl false) := by
  kernel_rfl
theorem rp_petersen : (reprD [.lst [ft_petersen, ft_petersen]]).isSome = true := by
  kernel_rfl
end K71
end -- K71o_petersen
section -- K71o_lattice
set_option Elab.async false
set_option linter.all false
set_option maxRecDepth 100000
set_option maxHeartbeats 0
namespace K71
open PySem PySem.Spec PyProof.Rows L2 Dm
def tb_lattice : D := (.tup [(.tup [(.int 0), (.int 1), (.int 1), (.int 1), (.int 1), (.int 2), (.int 2), (.int 2), (.int 1), (.int 2), (.int 2), (.int 2), (.int 1), (.int 2), (.int 2), (.int 2)]), (.tup [(.int 1), (.int 0), (.int 1), (.int 1), (.int 2), (.int 1), (.int 2), (.int 2), (.int 2), (.int 1), (.int 2), (.int 2), (.int 2), (.int 1), (.int 2), (.int 2)]), (.tup [(.int 1), (.int 1), (.int 0), (.int 1), (.int 2), (.int 2), (.int 1), (.int 2), (.int 2), (.int 2), (.int 1), (.int 2), (.int 2), (.int 2), (.int 1), (.int 2)]), (.tup [(.int 1), (.int 1), (.int 1), (.int 0), (.int 2), (.int 2), (.int 2), (.int 1), (.int 2), (.int 2), (.int 2), (.int 1), (.int 2), (.int 2), (.int 2), (.int 1)]), (.tup [(.int 1), (.int 2), (.int 2), (.int 2), (.int 0), (.int 1), (.int 1), (.int 1), (.int 1), (.int 2), (.int 2), (.int 2), (.int 1), (.int 2), (.int 2), (.int 2)]), (.tup [(.int 2), (.int 1), (.int 2), (.int 2), (.int 1), (.int 0), (.int 1), (.int 1), (.int 2), (.int 1), (.int 2), (.int 2), (.int 2), (.int 1), (.int 2), (.int 2)]), (.tup [(.int 2), (.int 2), (.int 1), (.int 2), (.int 1), (.int 1), (.int 0), (.int 1), (.int 2), (.int 2), (.int 1), (.int 2), (.int 2), (.int 2), (.int 1), (.int 2)]), (.tup [(.int 2), (.int 2), (.int 2), (.int 1), (.int 1), (.int 1), (.int 1), (.int 0), (.int 2), (.int 2), (.int 2), (.int 1), (.int 2), (.int 2), (.int 2), (.int 1)]), (.tup [(.int 1), (.int 2), (.int 2), (.int 2), (.int 1), (.int 2), (.int 2), (.int 2), (.int 0), (.int 1), (.int 1), (.int 1), (.int 1), (.int 2), (.int 2), (.int 2)]), (.tup [(.int 2), (.int 1), (.int 2), (.int 2), (.int 2), (.int 1), (.int 2), (.int 2), (.int 1), (.int 0), (.int 1), (.int 1), (.int 2), (.int 1), (.int 2), (.int 2)]), (.tup [(.int 2), (.int 2), (.int 1), (.int 2), (.int 2), (.int 2), (.int 1), (.int 2), (.int 1), (.int 1), (.int 0), (.int 1), (.int 2), (.int 2), (.int 1), (.int 2)]), (.tup [(.int 2), (.int 2), (.int 2), (.int 1), (.int 2), (.int 2), (.int 2), (.int 1), (.int 1), (.int 1), (.int 1), (.int 0), (.int 2), (.int 2), (.int 2), (.int 1)]), (.tup [(.int 1), (.int 2), (.int 2), (.int 2), (.int 1), (.int 2), (.int 2), (.int 2), (.int 1), (.int 2), (.int 2), (.int 2), (.int 0), (.int 1), (.int 1), (.int 1)]), (.tup [(.int 2), (.int 1), (.int 2), (.int 2), (.int 2), (.int 1), (.int 2), (.int 2), (.int 2), (.int 1), (.int 2), (.int 2), (.int 1), (.int 0), (.int 1), (.int 1)]), (.tup [(.int 2), (.int 2), (.int 1), (.int 2), (.int 2), (.int 2), (.int 1), (.int 2), (.int 2), (.int 2), (.int 1), (.int 2), (.int 1), (.int 1), (.int 0), (.int 1)]), (.tup [(.int 2), (.int 2), (.int 2), (.int 1), (.int 2), (.int 2), (.int 2), (.int 1), (.int 2), (.int 2), (.int 2), (.int 1), (.int 1), (.int 1), (.int 1), (.int 0)])])
def tr_lattice : List (List D) := [[(.int 0), (.int 1), (.int 1), (.int 1), (.int 1), (.int 2), (.int 2), (.int 2), (.int 1), (.int 2), (.int 2), (.int 2), (.int 1), (.int 2), (.int 2), (.int 2)], [(.int 1), (.int 0), (.int 1), (.int 1), (.int 2), (.int 1), (.int 2), (.int 2), (.int 2), (.int 1), (.int 2), (.int 2), (.int 2), (.int 1), (.int 2), (.int 2)], [(.int 1), (.int 1), (.int 0), (.int 1), (.int 2), (.int 2), (.int 1), (.int 2), (.int 2), (.int 2), (.int 1), (.int 2), (.int 2), (.int 2), (.int 1), (.int 2)], [(.int 1), (.int 1), (.int 1), (.int 0), (.int 2), (.int 2), (.int 2), (.int 1), (.int 2), (.int 2), (.int 2), (.int 1), (.int 2), (.int 2), (.int 2), (.int 1)], [(.int 1), (.int 2), (.int 2), (.int 2), (.int 0), (.int 1), (.int 1), (.int 1), (.int 1), (.int 2), (.int 2), (.int 2), (.int 1), (.int 2), (.int 2), (.int 2)], [(.int 2), (.int 1), (.int 2), (.int 2), (.int 1), (.int 0), (.int 1), (.int 1), (.int 2), (.int 1), (.int 2), (.int 2), (.int 2), (.int 1), (.int 2), (.int 2)], [(.int 2), (.int 2), (.int 1), (.int 2), (.int 1), (.int 1), (.int 0), (.int 1), (.int 2), (.int 2), (.int 1), (.int 2), (.int 2), (.int 2), (.int 1), (.int 2)], [(.int 2), (.int 2), (.int 2), (.int 1), (.int 1), (.int 1), (.int 1), (.int 0), (.int 2), (.int 2), (.int 2), (.int 1), (.int 2), (.int 2), (.int 2), (.int 1)], [(.int 1), (.int 2), (.int 2), (.int 2), (.int 1), (.int 2), (.int 2), (.int 2), (.int 0), (.int 1), (.int 1), (.int 1), (.int 1), (.int 2), (.int 2), (.int 2)], [(.int 2), (.int 1), (.int 2), (.int 2), (.int 2), (.int 1), (.int 2), (.int 2), (.int 1), (.int 0), (.int 1), (.int 1), (.int 2), (.int 1), (.int 2), (.int 2)], [(.int 2), (.int 2), (.int 1), (.int 2), (.int 2), (.int 2), (.int 1), (.int 2), (.int 1), (.int 1), (.int 0), (.int 1), (.int 2), (.int 2), (.int 1), (.int 2)], [(.int 2), (.int 2), (.int 2), (.int 1), (.int 2), (.int 2), (.int 2), (.int 1), (.int 1), (.int 1), (.int 1), (.int 0), (.int 2), (.int 2), (.int 2), (.int 1)], [(.int 1), (.int 2), (.int 2), (.int 2), (.int 1), (.int 2), (.int 2), (.int 2), (.int 1), (.int 2), (.int 2), (.int 2), (.int 0), (.int 1), (.int 1), (.int 1)], [(.int 2), (.int 1), (.int 2), (.int 2), (.int 2), (.int 1), (.int 2), (.int 2), (.int 2), (.int 1), (.int 2), (.int 2), (.int 1), (.int 0), (.int 1), (.int 1)], [(.int 2), (.int 2), (.int 1), (.int 2), (.int 2), (.int 2), (.int 1), (.int 2), (.int 2), (.int 2), (.int 1), (.int 2), (.int 1), (.int 1), (.int 0), (.int 1)], [(.int 2), (.int 2), (.int 2), (.int 1), (.int 2), (.int 2), (.int 2), (.int 1), (.int 2), (.int 2), (.int 2), (.int 1), (.int 1), (.int 1), (.int 1), (.int 0)]]
def ft_lattice : D := (.tup [(.int 16), (.int 3), (.bl true), (.bl true), (.bl true)])
def gs_lattice : List (Str × D) := [("points", .int 16), ("colours", .int 3), ("table", tb_lattice)]
theorem kn_lattice (k : D → Prop) (kx : XD → Prop) : mf__law_known [.str "lattice", .int 16] k kx = k tb_lattice := by
  kernel_rfl
def ds_lattice : List D := [(.tup [(.int 0), (.int 0)]), (.tup [(.int 0), (.int 1)]), (.tup [(.int 0), (.int 2)]), (.tup [(.int 0), (.int 3)]), (.tup [(.int 1), (.int 0)]), (.tup [(.int 1), (.int 1)]), (.tup [(.int 1), (.int 2)]), (.tup [(.int 1), (.int 3)]), (.tup [(.int 2), (.int 0)]), (.tup [(.int 2), (.int 1)]), (.tup [(.int 2), (.int 2)]), (.tup [(.int 2), (.int 3)]), (.tup [(.int 3), (.int 0)]), (.tup [(.int 3), (.int 1)]), (.tup [(.int 3), (.int 2)]), (.tup [(.int 3), (.int 3)])]
theorem pr_lattice (k : D → Prop) (kx : XD → Prop) : (ds_lattice.map fun a => ds_lattice.map fun b => mf_lattice_colour [a, b] k kx) = tr_lattice.map fun row => row.map k := by
  kernel_rfl
theorem toG_lattice (cp : Nat → CPt) (TB ST : MF) (k : D → Prop) (kx : XD → Prop) : fnM 4 (ms_table_ofG cp TB ST) [.str "lattice"] k kx = TB [.lst ds_lattice, .opq (cp 4 2 mf_lattice_colour)] k kx := by
  kernel_rfl
theorem to_lattice (cp : Nat → CPt) (k : D → Prop) (kx : XD → Prop) (h : k (D.lst (tr_lattice.map D.lst))) : mf_table_of cp [.str "lattice"] k kx := by
  unfold mf_table_of
  have e : fnM 4 (ms_table_of cp) [.str "lattice"] k kx = mf_table_by cp [.lst ds_lattice, .opq (cp 4 2 mf_lattice_colour)] k kx := toG_lattice cp (mf_table_by cp) (mf_small_table cp) k kx
  rw [e]
  exact tb_ok cp _ _ tr_lattice (by decide) pr_lattice k kx h
theorem in_lattice (K : List (Str × D) → Prop) (kx : XD → Prop) (h : K gs_lattice) : mfi_Colouring [(D.lst (tr_lattice.map D.lst))] K kx := by
  unfold mfi_Colouring
  intro φ
  have e : mpre_Colouring (.d (.opq φ) :: ([(D.lst (tr_lattice.map D.lst))].map SV.d ++ List.replicate (5 - ([(D.lst (tr_lattice.map D.lst))].length + 1)) .un)) { nx := fun ss => ss[0]? = some (.d (.opq φ)) ∧ mfl_Colouring ss [] fun _ gs => K gs, rt := fun _ => False, kx := kx } = (some (SV.d (.opq φ)) = some (SV.d (.opq φ)) ∧ K gs_lattice) := by
    kernel_rfl
  rw [e]
  exact ⟨rfl, h⟩
theorem nk_lattice (k : D → Prop) (kx : XD → Prop) : mf_need_known [.str "lattice"] k kx = k .non := by
  kernel_rfl
theorem kc_lattice (cp : Nat → CPt) (k : D → Prop) (kx : XD → Prop) (h : k (.ins 0 gs_lattice)) : mf_known_colouring cp [.str "lattice"] k kx := by
  unfold mf_known_colouring
  exact kc_gen mf_need_known (mf_table_of cp) mfi_Colouring (.str "lattice") nk_lattice k kx (to_lattice cp (fun d => mfi_Colouring [d] (fun gs => k (.ins 0 gs)) kx) kx (in_lattice (fun gs => k (.ins 0 gs)) kx h))
theorem co_lattice (k : D → Prop) (kx : XD → Prop) : mf__law_colours [tb_lattice] k kx = k (.int 3) := by
  kernel_rfl
theorem fc_lattice (k : D → Prop) (kx : XD → Prop) : mf__law_facts [tb_lattice] k kx = k ft_lattice := by
  kernel_rfl
theorem ch_lattice (k : D → Prop) (kx : XD → Prop) : mf__law_is_coherent [tb_lattice] k kx = k (.bl true) := by
  kernel_rfl
theorem kf_lattice (k : D → Prop) (kx : XD → Prop) : mf_known_facts [.str "lattice"] k kx = k ft_lattice := by
  kernel_rfl
theorem eq_lattice : eqD true (.lst [tb_lattice, tb_lattice]) (.lst [tb_lattice, tb_lattice]) = some (.bl false) := by
  kernel_rfl
theorem rp_lattice : (reprD [.lst [ft_lattice, ft_lattice]]).isSome = true := by
  kernel_rfl
end K71
end -- K71o_lattice
section -- K71o_shrikhande
set_option Elab.async false
set_option linter.all false
set_option maxRecDepth 100000
set_option maxHeartbeats 0
namespace K71
open PySem PySem.Spec PyProof.Rows L2 Dm
def tb_shrikhande : D := (.tup [(.tup [(.int 0), (.int 1), (.int 2), (.int 1), (.int 1), (.int 1), (.int 2), (.int 2), (.int 2), (.int 2), (.int 2), (.int 2), (.int 1), (.int 2), (.int 2), (.int 1)]), (.tup [(.int 1), (.int 0), (.int 1), (.int 2), (.int 2), (.int 1), (.int 1), (.int 2), (.int 2), (.int 2), (.int 2), (.int 2), (.int 1), (.int 1), (.int 2), (.int 2)]), (.tup [(.int 2), (.int 1), (.int 0), (.int 1), (.int 2), (.int 2), (.int 1), (.int 1), (.int 2), (.int 2), (.int 2), (.int 2), (.int 2), (.int 1), (.int 1), (.int 2)]), (.tup [(.int 1), (.int 2), (.int 1), (.int 0), (.int 1), (.int 2), (.int 2), (.int 1), (.int 2), (.int 2), (.int 2), (.int 2), (.int 2), (.int 2), (.int 1), (.int 1)]), (.tup [(.int 1), (.int 2), (.int 2), (.int 1), (.int 0), (.int 1), (.int 2), (.int 1), (.int 1), (.int 1), (.int 2), (.int 2), (.int 2), (.int 2), (.int 2), (.int 2)]), (.tup [(.int 1), (.int 1), (.int 2), (.int 2), (.int 1), (.int 0), (.int 1), (.int 2), (.int 2), (.int 1), (.int 1), (.int 2), (.int 2), (.int 2), (.int 2), (.int 2)]), (.tup [(.int 2), (.int 1), (.int 1), (.int 2), (.int 2), (.int 1), (.int 0), (.int 1), (.int 2), (.int 2), (.int 1), (.int 1), (.int 2), (.int 2), (.int 2), (.int 2)]), (.tup [(.int 2), (.int 2), (.int 1), (.int 1), (.int 1), (.int 2), (.int 1), (.int 0), (.int 1), (.int 2), (.int 2), (.int 1), (.int 2), (.int 2), (.int 2), (.int 2)]), (.tup [(.int 2), (.int 2), (.int 2), (.int 2), (.int 1), (.int 2), (.int 2), (.int 1), (.int 0), (.int 1), (.int 2), (.int 1), (.int 1), (.int 1), (.int 2), (.int 2)]), (.tup [(.int 2), (.int 2), (.int 2), (.int 2), (.int 1), (.int 1), (.int 2), (.int 2), (.int 1), (.int 0), (.int 1), (.int 2), (.int 2), (.int 1), (.int 1), (.int 2)]), (.tup [(.int 2), (.int 2), (.int 2), (.int 2), (.int 2), (.int 1), (.int 1), (.int 2), (.int 2), (.int 1), (.int 0), (.int 1), (.int 2), (.int 2), (.int 1), (.int 1)]), (.tup [(.int 2), (.int 2), (.int 2), (.int 2), (.int 2), (.int 2), (.int 1), (.int 1), (.int 1), (.int 2), (.int 1), (.int 0), (.int 1), (.int 2), (.int 2), (.int 1)]), (.tup [(.int 1), (.int 1), (.int 2), (.int 2), (.int 2), (.int 2), (.int 2), (.int 2), (.int 1), (.int 2), (.int 2), (.int 1), (.int 0), (.int 1), (.int 2), (.int 1)]), (.tup [(.int 2), (.int 1), (.int 1), (.int 2), (.int 2), (.int 2), (.int 2), (.int 2), (.int 1), (.int 1), (.int 2), (.int 2), (.int 1), (.int 0), (.int 1), (.int 2)]), (.tup [(.int 2), (.int 2), (.int 1), (.int 1), (.int 2), (.int 2), (.int 2), (.int 2), (.int 2), (.int 1), (.int 1), (.int 2), (.int 2), (.int 1), (.int 0), (.int 1)]), (.tup [(.int 1), (.int 2), (.int 2), (.int 1), (.int 2), (.int 2), (.int 2), (.int 2), (.int 2), (.int 2), (.int 1), (.int 1), (.int 1), (.int 2), (.int 1), (.int 0)])])
def tr_shrikhande : List (List D) := [[(.int 0), (.int 1), (.int 2), (.int 1), (.int 1), (.int 1), (.int 2), (.int 2), (.int 2), (.int 2), (.int 2), (.int 2), (.int 1), (.int 2), (.int 2), (.int 1)], [(.int 1), (.int 0), (.int 1), (.int 2), (.int 2), (.int 1), (.int 1), (.int 2), (.int 2), (.int 2), (.int 2), (.int 2), (.int 1), (.int 1), (.int 2), (.int 2)], [(.int 2), (.int 1), (.int 0), (.int 1), (.int 2), (.int 2), (.int 1), (.int 1), (.int 2), (.int 2), (.int 2), (.int 2), (.int 2), (.int 1), (.int 1), (.int 2)], [(.int 1), (.int 2), (.int 1), (.int 0), (.int 1), (.int 2), (.int 2), (.int 1), (.int 2), (.int 2), (.int 2), (.int 2), (.int 2), (.int 2), (.int 1), (.int 1)], [(.int 1), (.int 2), (.int 2), (.int 1), (.int 0), (.int 1), (.int 2), (.int 1), (.int 1), (.int 1), (.int 2), (.int 2), (.int 2), (.int 2), (.int 2), (.int 2)], [(.int 1), (.int 1), (.int 2), (.int 2), (.int 1), (.int 0), (.int 1), (.int 2), (.int 2), (.int 1), (.int 1), (.int 2), (.int 2), (.int 2), (.int 2), (.int 2)], [(.int 2), (.int 1), (.int 1), (.int 2), (.int 2), (.int 1), (.int 0), (.int 1), (.int 2), (.int 2), (.int 1), (.int 1), (.int 2), (.int 2), (.int 2), (.int 2)], [(.int 2), (.int 2), (.int 1), (.int 1), (.int 1), (.int 2), (.int 1), (.int 0), (.int 1), (.int 2), (.int 2), (.int 1), (.int 2), (.int 2), (.int 2), (.int 2)], [(.int 2), (.int 2), (.int 2), (.int 2), (.int 1), (.int 2), (.int 2), (.int 1), (.int 0), (.int 1), (.int 2), (.int 1), (.int 1), (.int 1), (.int 2), (.int 2)], [(.int 2), (.int 2), (.int 2), (.int 2), (.int 1), (.int 1), (.int 2), (.int 2), (.int 1), (.int 0), (.int 1), (.int 2), (.int 2), (.int 1), (.int 1), (.int 2)], [(.int 2), (.int 2), (.int 2), (.int 2), (.int 2), (.int 1), (.int 1), (.int 2), (.int 2), (.int 1), (.int 0), (.int 1), (.int 2), (.int 2), (.int 1), (.int 1)], [(.int 2), (.int 2), (.int 2), (.int 2), (.int 2), (.int 2), (.int 1), (.int 1), (.int 1), (.int 2), (.int 1), (.int 0), (.int 1), (.int 2), (.int 2), (.int 1)], [(.int 1), (.int 1), (.int 2), (.int 2), (.int 2), (.int 2), (.int 2), (.int 2), (.int 1), (.int 2), (.int 2), (.int 1), (.int 0), (.int 1), (.int 2), (.int 1)], [(.int 2), (.int 1), (.int 1), (.int 2), (.int 2), (.int 2), (.int 2), (.int 2), (.int 1), (.int 1), (.int 2), (.int 2), (.int 1), (.int 0), (.int 1), (.int 2)], [(.int 2), (.int 2), (.int 1), (.int 1), (.int 2), (.int 2), (.int 2), (.int 2), (.int 2), (.int 1), (.int 1), (.int 2), (.int 2), (.int 1), (.int 0), (.int 1)], [(.int 1), (.int 2), (.int 2), (.int 1), (.int 2), (.int 2), (.int 2), (.int 2), (.int 2), (.int 2), (.int 1), (.int 1), (.int 1), (.int 2), (.int 1), (.int 0)]]
def ft_shrikhande : D := (.tup [(.int 16), (.int 3), (.bl true), (.bl true), (.bl true)])
def gs_shrikhande : List (Str × D) := [("points", .int 16), ("colours", .int 3), ("table", tb_shrikhande)]
theorem kn_shrikhande (k : D → Prop) (kx : XD → Prop) : mf__law_known [.str "shrikhande", .int 16] k kx = k tb_shrikhande := by
  kernel_rfl
def ds_shrikhande : List D := [(.tup [(.int 0), (.int 0)]), (.tup [(.int 0), (.int 1)]), (.tup [(.int 0), (.int 2)]), (.tup [(.int 0), (.int 3)]), (.tup [(.int 1), (.int 0)]), (.tup [(.int 1), (.int 1)]), (.tup [(.int 1), (.int 2)]), (.tup [(.int 1), (.int 3)]), (.tup [(.int 2), (.int 0)]), (.tup [(.int 2), (.int 1)]), (.tup [(.int 2), (.int 2)]), (.tup [(.int 2), (.int 3)]), (.tup [(.int 3), (.int 0)]), (.tup [(.int 3), (.int 1)]), (.tup [(.int 3), (.int 2)]), (.tup [(.int 3), (.int 3)])]
theorem pr_shrikhande (k : D → Prop) (kx : XD → Prop) : (ds_shrikhande.map fun a => ds_shrikhande.map fun b => mf_shifted_colour [a, b] k kx) = tr_shrikhande.map fun row => row.map k := by
  kernel_rfl
theorem toG_shrikhande (cp : Nat → CPt) (TB ST : MF) (k : D → Prop) (kx : XD → Prop) : fnM 4 (ms_table_ofG cp TB ST) [.str "shrikhande"] k kx = TB [.lst ds_shrikhande, .opq (cp 4 2 mf_shifted_colour)] k kx := by
  kernel_rfl
theorem to_shrikhande (cp : Nat → CPt) (k : D → Prop) (kx : XD → Prop) (h : k (D.lst (tr_shrikhande.map D.lst))) : mf_table_of cp [.str "shrikhande"] k kx := by
  unfold mf_table_of
  have e : fnM 4 (ms_table_of cp) [.str "shrikhande"] k kx = mf_table_by cp [.lst ds_shrikhande, .opq (cp 4 2 mf_shifted_colour)] k kx := toG_shrikhande cp (mf_table_by cp) (mf_small_table cp) k kx
  rw [e]
  exact tb_ok cp _ _ tr_shrikhande (by decide) pr_shrikhande k kx h
theorem in_shrikhande (K : List (Str × D) → Prop) (kx : XD → Prop) (h : K gs_shrikhande) : mfi_Colouring [(D.lst (tr_shrikhande.map D.lst))] K kx := by
  unfold mfi_Colouring
  intro φ
  have e : mpre_Colouring (.d (.opq φ) :: ([(D.lst (tr_shrikhande.map D.lst))].map SV.d ++ List.replicate (5 - ([(D.lst (tr_shrikhande.map D.lst))].length + 1)) .un)) { nx := fun ss => ss[0]? = some (.d (.opq φ)) ∧ mfl_Colouring ss [] fun _ gs => K gs, rt := fun _ => False, kx := kx } = (some (SV.d (.opq φ)) = some (SV.d (.opq φ)) ∧ K gs_shrikhande) := by
    kernel_rfl
  rw [e]
  exact ⟨rfl, h⟩
theorem nk_shrikhande (k : D → Prop) (kx : XD → Prop) : mf_need_known [.str "shrikhande"] k kx = k .non := by
  kernel_rfl
theorem kc_shrikhande (cp : Nat → CPt) (k : D → Prop) (kx : XD → Prop) (h : k (.ins 0 gs_shrikhande)) : mf_known_colouring cp [.str "shrikhande"] k kx := by
  unfold mf_known_colouring
  exact kc_gen mf_need_known (mf_table_of cp) mfi_Colouring (.str "shrikhande") nk_shrikhande k kx (to_shrikhande cp (fun d => mfi_Colouring [d] (fun gs => k (.ins 0 gs)) kx) kx (in_shrikhande (fun gs => k (.ins 0 gs)) kx h))
theorem co_shrikhande (k : D → Prop) (kx : XD → Prop) : mf__law_colours [tb_shrikhande] k kx = k (.int 3) := by
  kernel_rfl
theorem fc_shrikhande (k : D → Prop) (kx : XD → Prop) : mf__law_facts [tb_shrikhande] k kx = k ft_shrikhande := by
  kernel_rfl
theorem ch_shrikhande (k : D → Prop) (kx : XD → Prop) : mf__law_is_coherent [tb_shrikhande] k kx = k (.bl true) := by
  kernel_rfl
theorem kf_shrikhande (k : D → Prop) (kx : XD → Prop) : mf_known_facts [.str "shrikhande"] k kx = k ft_shrikhande := by
  kernel_rfl
theorem eq_shrikhande : eqD true (.lst [tb_shrikhande, tb_shrikhande]) (.lst [tb_shrikhande, tb_shrikhande]) = some (.bl false) := by
  kernel_rfl
theorem rp_shrikhande : (reprD [.lst [ft_shrikhande, ft_shrikhande]]).isSome = true := by
  kernel_rfl
end K71
end -- K71o_shrikhande
section -- K71o_clebsch
set_option Elab.async false
set_option linter.all false
set_option maxRecDepth 100000
set_option maxHeartbeats 0
namespace K71
open PySem PySem.Spec PyProof.Rows L2 Dm
def tb_clebsch : D := (.tup [(.tup [(.int 0), (.int 1), (.int 1), (.int 2), (.int 1), (.int 2), (.int 2), (.int 2), (.int 1), (.int 2), (.int 2), (.int 2), (.int 2), (.int 2), (.int 2), (.int 1)]), (.tup [(.int 1), (.int 0), (.int 2), (.int 1), (.int 2), (.int 1), (.int 2), (.int 2), (.int 2), (.int 1), (.int 2), (.int 2), (.int 2), (.int 2), (.int 1), (.int 2)]), (.tup [(.int 1), (.int 2), (.int 0), (.int 1), (.int 2), (.int 2), (.int 1), (.int 2), (.int 2), (.int 2), (.int 1), (.int 2), (.int 2), (.int 1), (.int 2), (.int 2)]), (.tup [(.int 2), (.int 1), (.int 1), (.int 0), (.int 2), (.int 2), (.int 2), (.int 1), (.int 2), (.int 2), (.int 2), (.int 1), (.int 1), (.int 2), (.int 2), (.int 2)]), (.tup [(.int 1), (.int 2), (.int 2), (.int 2), (.int 0), (.int 1), (.int 1), (.int 2), (.int 2), (.int 2), (.int 2), (.int 1), (.int 1), (.int 2), (.int 2), (.int 2)]), (.tup [(.int 2), (.int 1), (.int 2), (.int 2), (.int 1), (.int 0), (.int 2), (.int 1), (.int 2), (.int 2), (.int 1), (.int 2), (.int 2), (.int 1), (.int 2), (.int 2)]), (.tup [(.int 2), (.int 2), (.int 1), (.int 2), (.int 1), (.int 2), (.int 0), (.int 1), (.int 2), (.int 1), (.int 2), (.int 2), (.int 2), (.int 2), (.int 1), (.int 2)]), (.tup [(.int 2), (.int 2), (.int 2), (.int 1), (.int 2), (.int 1), (.int 1), (.int 0), (.int 1), (.int 2), (.int 2), (.int 2), (.int 2), (.int 2), (.int 2), (.int 1)]), (.tup [(.int 1), (.int 2), (.int 2), (.int 2), (.int 2), (.int 2), (.int 2), (.int 1), (.int 0), (.int 1), (.int 1), (.int 2), (.int 1), (.int 2), (.int 2), (.int 2)]), (.tup [(.int 2), (.int 1), (.int 2), (.int 2), (.int 2), (.int 2), (.int 1), (.int 2), (.int 1), (.int 0), (.int 2), (.int 1), (.int 2), (.int 1), (.int 2), (.int 2)]), (.tup [(.int 2), (.int 2), (.int 1), (.int 2), (.int 2), (.int 1), (.int 2), (.int 2), (.int 1), (.int 2), (.int 0), (.int 1), (.int 2), (.int 2), (.int 1), (.int 2)]), (.tup [(.int 2), (.int 2), (.int 2), (.int 1), (.int 1), (.int 2), (.int 2), (.int 2), (.int 2), (.int 1), (.int 1), (.int 0), (.int 2), (.int 2), (.int 2), (.int 1)]), (.tup [(.int 2), (.int 2), (.int 2), (.int 1), (.int 1), (.int 2), (.int 2), (.int 2), (.int 1), (.int 2), (.int 2), (.int 2), (.int 0), (.int 1), (.int 1), (.int 2)]), (.tup [(.int 2), (.int 2), (.int 1), (.int 2), (.int 2), (.int 1), (.int 2), (.int 2), (.int 2), (.int 1), (.int 2), (.int 2), (.int 1), (.int 0), (.int 2), (.int 1)]), (.tup [(.int 2), (.int 1), (.int 2), (.int 2), (.int 2), (.int 2), (.int 1), (.int 2), (.int 2), (.int 2), (.int 1), (.int 2), (.int 1), (.int 2), (.int 0), (.int 1)]), (.tup [(.int 1), (.int 2), (.int 2), (.int 2), (.int 2), (.int 2), (.int 2), (.int 1), (.int 2), (.int 2), (.int 2), (.int 1), (.int 2), (.int 1), (.int 1), (.int 0)])])
def tr_clebsch : List (List D) := [[(.int 0), (.int 1), (.int 1), (.int 2), (.int 1), (.int 2), (.int 2), (.int 2), (.int 1), (.int 2), (.int 2), (.int 2), (.int 2), (.int 2), (.int 2), (.int 1)], [(.int 1), (.int 0), (.int 2), (.int 1), (.int 2), (.int 1), (.int 2), (.int 2), (.int 2), (.int 1), (.int 2), (.int 2), (.int 2), (.int 2), (.int 1), (.int 2)], [(.int 1), (.int 2), (.int 0), (.int 1), (.int 2), (.int 2), (.int 1), (.int 2), (.int 2), (.int 2), (.int 1), (.int 2), (.int 2), (.int 1), (.int 2), (.int 2)], [(.int 2), (.int 1), (.int 1), (.int 0), (.int 2), (.int 2), (.int 2), (.int 1), (.int 2), (.int 2), (.int 2), (.int 1), (.int 1), (.int 2), (.int 2), (.int 2)], [(.int 1), (.int 2), (.int 2), (.int 2), (.int 0), (.int 1), (.int 1), (.int 2), (.int 2), (.int 2), (.int 2), (.int 1), (.int 1), (.int 2), (.int 2), (.int 2)], [(.int 2), (.int 1), (.int 2), (.int 2), (.int 1), (.int 0), (.int 2), (.int 1), (.int 2), (.int 2), (.int 1), (.int 2), (.int 2), (.int 1), (.int 2), (.int 2)], [(.int 2), (.int 2), (.int 1), (.int 2), (.int 1), (.int 2), (.int 0), (.int 1), (.int 2), (.int 1), (.int 2), (.int 2), (.int 2), (.int 2), (.int 1), (.int 2)], [(.int 2), (.int 2), (.int 2), (.int 1), (.int 2), (.int 1), (.int 1), (.int 0), (.int 1), (.int 2), (.int 2), (.int 2), (.int 2), (.int 2), (.int 2), (.int 1)], [(.int 1), (.int 2), (.int 2), (.int 2), (.int 2), (.int 2), (.int 2), (.int 1), (.int 0), (.int 1), (.int 1), (.int 2), (.int 1), (.int 2), (.int 2), (.int 2)], [(.int 2), (.int 1), (.int 2), (.int 2), (.int 2), (.int 2), (.int 1), (.int 2), (.int 1), (.int 0), (.int 2), (.int 1), (.int 2), (.int 1), (.int 2), (.int 2)], [(.int 2), (.int 2), (.int 1), (.int 2), (.int 2), (.int 1), (.int 2), (.int 2), (.int 1), (.int 2), (.int 0), (.int 1), (.int 2), (.int 2), (.int 1), (.int 2)], [(.int 2), (.int 2), (.int 2), (.int 1), (.int 1), (.int 2), (.int 2), (.int 2), (.int 2), (.int 1), (.int 1), (.int 0), (.int 2), (.int 2), (.int 2), (.int 1)], [(.int 2), (.int 2), (.int 2), (.int 1), (.int 1), (.int 2), (.int 2), (.int 2), (.int 1), (.int 2), (.int 2), (.int 2), (.int 0), (.int 1), (.int 1), (.int 2)], [(.int 2), (.int 2), (.int 1), (.int 2), (.int 2), (.int 1), (.int 2), (.int 2), (.int 2), (.int 1), (.int 2), (.int 2), (.int 1), (.int 0), (.int 2), (.int 1)], [(.int 2), (.int 1), (.int 2), (.int 2), (.int 2), (.int 2), (.int 1), (.int 2), (.int 2), (.int 2), (.int 1), (.int 2), (.int 1), (.int 2), (.int 0), (.int 1)], [(.int 1), (.int 2), (.int 2), (.int 2), (.int 2), (.int 2), (.int 2), (.int 1), (.int 2), (.int 2), (.int 2), (.int 1), (.int 2), (.int 1), (.int 1), (.int 0)]]
def ft_clebsch : D := (.tup [(.int 16), (.int 3), (.bl true), (.bl true), (.bl true)])
def gs_clebsch : List (Str × D) := [("points", .int 16), ("colours", .int 3), ("table", tb_clebsch)]
theorem kn_clebsch (k : D → Prop) (kx : XD → Prop) : mf__law_known [.str "clebsch", .int 16] k kx = k tb_clebsch := by
  kernel_rfl
def ds_clebsch : List D := [(.int 0), (.int 1), (.int 2), (.int 3), (.int 4), (.int 5), (.int 6), (.int 7), (.int 8), (.int 9), (.int 10), (.int 11), (.int 12), (.int 13), (.int 14), (.int 15)]
theorem pr_clebsch (k : D → Prop) (kx : XD → Prop) : (ds_clebsch.map fun a => ds_clebsch.map fun b => mf_folded_colour [a, b] k kx) = tr_clebsch.map fun row => row.map k := by
  kernel_rfl
theorem toG_clebsch (cp : Nat → CPt) (TB ST : MF) (k : D → Prop) (kx : XD → Prop) : fnM 4 (ms_table_ofG cp TB ST) [.str "clebsch"] k kx = TB [.lst ds_clebsch, .opq (cp 4 2 mf_folded_colour)] k kx := by
  kernel_rfl
theorem to_clebsch (cp : Nat → CPt) (k : D → Prop) (kx : XD → Prop) (h : k (D.lst (tr_clebsch.map D.lst))) : mf_table_of cp [.str "clebsch"] k kx := by
  unfold mf_table_of
  have e : fnM 4 (ms_table_of cp) [.str "clebsch"] k kx = mf_table_by cp [.lst ds_clebsch, .opq (cp 4 2 mf_folded_colour)] k kx := toG_clebsch cp (mf_table_by cp) (mf_small_table cp) k kx
  rw [e]
  exact tb_ok cp _ _ tr_clebsch (by decide) pr_clebsch k kx h
theorem in_clebsch (K : List (Str × D) → Prop) (kx : XD → Prop) (h : K gs_clebsch) : mfi_Colouring [(D.lst (tr_clebsch.map D.lst))] K kx := by
  unfold mfi_Colouring
  intro φ
  have e : mpre_Colouring (.d (.opq φ) :: ([(D.lst (tr_clebsch.map D.lst))].map SV.d ++ List.replicate (5 - ([(D.lst (tr_clebsch.map D.lst))].length + 1)) .un)) { nx := fun ss => ss[0]? = some (.d (.opq φ)) ∧ mfl_Colouring ss [] fun _ gs => K gs, rt := fun _ => False, kx := kx } = (some (SV.d (.opq φ)) = some (SV.d (.opq φ)) ∧ K gs_clebsch) := by
    kernel_rfl
  rw [e]
  exact ⟨rfl, h⟩
theorem nk_clebsch (k : D → Prop) (kx : XD → Prop) : mf_need_known [.str "clebsch"] k kx = k .non := by
  kernel_rfl
theorem kc_clebsch (cp : Nat → CPt) (k : D → Prop) (kx : XD → Prop) (h : k (.ins 0 gs_clebsch)) : mf_known_colouring cp [.str "clebsch"] k kx := by
  unfold mf_known_colouring
  exact kc_gen mf_need_known (mf_table_of cp) mfi_Colouring (.str "clebsch") nk_clebsch k kx (to_clebsch cp (fun d => mfi_Colouring [d] (fun gs => k (.ins 0 gs)) kx) kx (in_clebsch (fun gs => k (.ins 0 gs)) kx h))
theorem co_clebsch (k : D → Prop) (kx : XD → Prop) : mf__law_colours [tb_clebsch] k kx = k (.int 3) := by
  kernel_rfl
theorem fc_clebsch (k : D → Prop) (kx : XD → Prop) : mf__law_facts [tb_clebsch] k kx = k ft_clebsch := by
  kernel_rfl
theorem ch_clebsch (k : D → Prop) (kx : XD → Prop) : mf__law_is_coherent [tb_clebsch] k kx = k (.bl true) := by
  kernel_rfl
theorem kf_clebsch (k : D → Prop) (kx : XD → Prop) : mf_known_facts [.str "clebsch"] k kx = k ft_clebsch := by
  kernel_rfl
theorem eq_clebsch : eqD true (.lst [tb_clebsch, tb_clebsch]) (.lst [tb_clebsch, tb_clebsch]) = some (.bl false) := by
  kernel_rfl
theorem rp_clebsch : (reprD [.lst [ft_clebsch, ft_clebsch]]).isSome = true := by
  kernel_rfl
end K71
end -- K71o_clebsch
section -- K71p
set_option Elab.async false
set_option linter.all false
set_option maxRecDepth 100000
set_option maxHeartbeats 0
namespace K71
open PySem PySem.Spec PyProof.Rows L2 Dm

theorem lk_table (a b t : D) : List.lookup ("table" : Str) [("points", a), ("colours", b), ("table", t)] = some t := rfl
theorem lk_points (a b t : D) : List.lookup ("points" : Str) [("points", a), ("colours", b), ("table", t)] = some a := rfl
theorem lk_colours (a b t : D) : List.lookup ("colours" : Str) [("points", a), ("colours", b), ("table", t)] = some b := rfl
def rpB (f : D) : Bool := match reprD [.lst [f, f]] with
  | some (.str z) => (match eqD true (.str z) (.str z) with
    | some (.bl false) => true
    | _ => false)
  | _ => false
theorem rpB_ok {f : D} (h : rpB f = true) : ∃ z : Str, reprD [.lst [f, f]] = some (.str z) ∧ eqD true (.str z) (.str z) = some (.bl false) := by
  unfold rpB at h
  split at h
  · rename_i z e
    split at h
    · rename_i e2
      exact ⟨z, e, e2⟩
    · cases h
  · cases h
theorem eqD_name : eqD true (.str "name") (.str "name") = some (.bl false) := by
  kernel_rfl
theorem eqD_ints2 (s c : Int) : eqD true (.lst [.int s, .int c]) (.lst [.int s, .int c]) = some (.bl false) := by
  show (if SeqAt.shaped (.list [.int s, .int c]) && SeqAt.shaped (.list [.int s, .int c]) then some (D.bl (!PyData.eqv (.list [.int s, .int c]) (.list [.int s, .int c]))) else none) = _
  have h : SeqAt.shaped (.list [.int s, .int c]) = true := rfl
  rw [h]
  simp [PyData.eqv, PyData.eqvAll]
/-- what is known of the r-th known colouring -/
structure Row (KN COL FAC COH KF : MF) (KCf : (Nat → CPt) → MF) (dN dS : D) (r : Int) : Prop where
  ex : ∃ (n : Str) (s c : Int) (t f : D) (z : Str), ixD dN (.int r) = some (.str n) ∧ ixD dS (.int r) = some (.int s) ∧ (∀ (k : D → Prop) (kx : XD → Prop), KN [.str n, .int s] k kx = k t) ∧
    (∀ (cp : Nat → CPt) (k : D → Prop) (kx : XD → Prop), k (.ins 0 [("points", .int s), ("colours", .int c), ("table", t)]) → KCf cp [.str n] k kx) ∧ (∀ (k : D → Prop) (kx : XD → Prop), COL [t] k kx = k (.int c)) ∧ (∀ (k : D → Prop) (kx : XD → Prop), FAC [t] k kx = k f) ∧
    (∀ (k : D → Prop) (kx : XD → Prop), COH [t] k kx = k (.bl true)) ∧ (∀ (k : D → Prop) (kx : XD → Prop), KF [.str n] k kx = k f) ∧ eqD true (.lst [t, t]) (.lst [t, t]) = some (.bl false) ∧ reprD [.lst [f, f]] = some (.str z) ∧ eqD true (.str z) (.str z) = some (.bl false)
def noneL : List D := [.non, .int 5, .str "", .str "Ring", .str "ring ", .str "seven", .tup [.str "ring"], .lst [.str "ring"], .bl true, .int 0, .dk []]
def lapG (KN COL FAC COH KF PK : MF) (KCf SD : (Nat → CPt) → MF) (cp : Nat → CPt) (dp : V → Hp → Prop) : MS := (mSeq (mAsg 5 (mFn 2 (mfTake dp) (mCons (mV 1) (mCons (mC (.int 12)) mNil)))) (mSeq (mPar 6 7 (mVD (mOp ixD (mV 2) (mV 5))) (mVD (mFn 2 KN (mCons (mOp ixD (mV 2) (mV 5)) (mCons (mOp ixD (mV 3) (mV 5)) mNil))))) (mSeq (mAsg 8 (mFn 1 (KCf cp) (mCons (mV 6) mNil))) (mSeq (mIfS (mOr (mT (mOp (eqD true) (mL (mLst (mCons (mFld "table" 0 (mV 8)) (mCons (mFld "table" 0 (mFnK (KCf cp) (mV 6))) mNil)))) (mL (mLst (mCons (mV 7) (mCons (mV 7) mNil)))))) (mT (mOp (eqD true) (mL (mLst (mCons (mFld "points" 0 (mV 8)) (mCons (mFld "colours" 0 (mV 8)) mNil)))) (mL (mLst (mCons (mOp ixD (mV 3) (mV 5)) (mCons (mFn 1 COL (mCons (mV 7) mNil)) mNil))))))) (mRet (mC (.bl false))) mNext) (mSeq (mAsg 9 (mFn 1 FAC (mCons (mV 7) mNil))) (mSeq (mIfS (mOr (mNot (mT (mFn 1 COH (mCons (mV 7) mNil)))) (mT (mOp (eqD true) (mCall reprD (mCons (mL (mLst (mCons (mFn 1 KF (mCons (mV 6) mNil)) (mCons (mFnK KF (mV 6)) mNil)))) mNil)) (mCall reprD (mCons (mL (mLst (mCons (mV 9) (mCons (mV 9) mNil)))) mNil))))) (mRet (mC (.bl false))) mNext) (mSeq (mAsg 17 (mFn 2 PK (mCons (mV 1) (mCons (mL (mLst (mCons (mC .non) (mCons (mC (.int 5)) (mCons (mC (.str "")) (mCons (mC (.str "Ring")) (mCons (mC (.str "ring ")) (mCons (mC (.str "seven")) (mCons (mTup (mCons (mC (.str "ring")) mNil)) (mCons (mL (mLst (mCons (mC (.str "ring")) mNil))) (mCons (mC (.bl true)) (mCons (mC (.int 0)) (mCons mEmp mNil))))))))))))) mNil)))) (mSeq (mIfS (mT (mOp (eqD true) (mLam0 0 12 [17] (fun cp => (mFn 1 (KCf cp) (mCons (mV 0) mNil))) SD) (mC (.str "name")))) (mRet (mC (.bl false))) mNext) (mIfS (mT (mOp (eqD true) (mLam0 0 12 [17] (fun cp => (mFn 1 KF (mCons (mV 0) mNil))) SD) (mC (.str "name")))) (mRet (mC (.bl false))) mNext)))))))))
theorem lap_ok (KN COL FAC COH KF PK : MF) (KCf SD : (Nat → CPt) → MF) (cp : Nat → CPt) (dp φ : V → Hp → Prop) (dN dS s0 d : D) (a4 a5 a6 a7 a8 a9 a17 : SV) (hφ : ∀ v G, φ v G → dp v G) (rows : ∀ r : Int, 0 ≤ r → r < 12 → Row KN COL FAC COH KF KCf dN dS r)
    (hpk : ∀ (k : D → Prop) (kx : XD → Prop), (∀ x ∈ noneL, k x) → PK [.opq φ, .lst noneL] k kx) (hsd : ∀ (cp : Nat → CPt) (mf : MF) (k : D → Prop) (kx : XD → Prop), (∀ (k : D → Prop) (kx : XD → Prop), mf [] k kx = kx ⟨7, []⟩) → k (.str "name") → SD cp [.opq (cp 12 0 mf)] k kx)
    (hnc : ∀ x ∈ noneL, ∀ (cp : Nat → CPt) (k : D → Prop) (kx : XD → Prop), KCf cp [x] k kx = kx ⟨7, []⟩) (hnf : ∀ x ∈ noneL, ∀ (k : D → Prop) (kx : XD → Prop), KF [x] k kx = kx ⟨7, []⟩) (C : CS)
    (hC : ∀ a4 a5 a6 a7 a8 a9 a17 : SV, C.nx [.d s0, .d (.opq φ), .d dN, .d dS, a4, a5, a6, a7, a8, a9, .un, .un, .un, .un, .un, .un, .un, a17, .un]) :
    mtN 4 d [.d s0, .d (.opq φ), .d dN, .d dS, a4, a5, a6, a7, a8, a9, .un, .un, .un, .un, .un, .un, .un, a17, .un] fun s1 => lapG KN COL FAC COH KF PK KCf SD cp dp s1 C := by
  have hb0 : Nat.beq 0 0 = true := rfl
  have hb1 : Nat.beq 1 1 = true := rfl
  have hb2 : Nat.beq 2 2 = true := rfl
  have hl1 : Nat.ble 1 mline = true := rfl
  have hl2 : Nat.ble 2 mline = true := rfl
  have hl11 : Nat.ble 11 mline = true := rfl
  simp only [lapG, fnM, mSeq, mDrawPut, mDrawInt, mDrawPop, mDrawCells, mFn, mfTake, useDraw, mOp, mC, mV, mPar, mPair, mVD, mVL, mVT, mVK, mCall, mCons, mNil, mFor, mItems, mL, mLst, mAsg, mAsgL, mRet, mRetN, mT, mIfS, mIf, mNext, mtN, mTup, mDrop, mAnd, mOr, mNot, mAndV, mOrV, mNotV, mRng1, mEnum, mYes, mLc, mApp, seqOf, Dm.intD, absD, lift, Dm.guard, List.map, List.length_cons, List.length_nil, List.cons_append, List.nil_append, List.replicate, List.getElem?_cons_zero, List.getElem?_cons_succ, List.set_cons_zero, List.set_cons_succ, Nat.reduceAdd, Nat.reduceSub, addD_ii, wipeS, mergeS, noOwnAt, SV.own, List.all, Bool.and_true, Bool.not_false, mtNil, mtCons, mtTup, mAsgG, mFnK, mFld, mLam0, mLam, capOk, hb0, hb1, hb2, hl1, hl2, hl11]
  refine ⟨hφ, ⟨by decide, by decide⟩, fun r r0 r1 => ?_⟩
  obtain ⟨n, s, c, t, f, z, e1, e2, e3, e4, e5, e6, e7, e8, e9, e10, e11⟩ := (rows r r0 r1).ex
  simp only [fnM, mSeq, mDrawPut, mDrawInt, mDrawPop, mDrawCells, mFn, mfTake, useDraw, mOp, mC, mV, mPar, mPair, mVD, mVL, mVT, mVK, mCall, mCons, mNil, mFor, mItems, mL, mLst, mAsg, mAsgL, mRet, mRetN, mT, mIfS, mIf, mNext, mtN, mTup, mDrop, mAnd, mOr, mNot, mAndV, mOrV, mNotV, mRng1, mEnum, mYes, mLc, mApp, seqOf, Dm.intD, absD, lift, Dm.guard, List.map, List.length_cons, List.length_nil, List.cons_append, List.nil_append, List.replicate, List.getElem?_cons_zero, List.getElem?_cons_succ, List.set_cons_zero, List.set_cons_succ, Nat.reduceAdd, Nat.reduceSub, addD_ii, wipeS, mergeS, noOwnAt, SV.own, List.all, Bool.and_true, Bool.not_false, mtNil, mtCons, mtTup, mAsgG, mFnK, mFld, mLam0, mLam, capOk, hb0, hb1, hb2, hl1, hl2, hl11, e1, e2, e3]
  refine e4 cp _ _ ?_
  simp only [fnM, mSeq, mDrawPut, mDrawInt, mDrawPop, mDrawCells, mFn, mfTake, useDraw, mOp, mC, mV, mPar, mPair, mVD, mVL, mVT, mVK, mCall, mCons, mNil, mFor, mItems, mL, mLst, mAsg, mAsgL, mRet, mRetN, mT, mIfS, mIf, mNext, mtN, mTup, mDrop, mAnd, mOr, mNot, mAndV, mOrV, mNotV, mRng1, mEnum, mYes, mLc, mApp, seqOf, Dm.intD, absD, lift, Dm.guard, List.map, List.length_cons, List.length_nil, List.cons_append, List.nil_append, List.replicate, List.getElem?_cons_zero, List.getElem?_cons_succ, List.set_cons_zero, List.set_cons_succ, Nat.reduceAdd, Nat.reduceSub, addD_ii, wipeS, mergeS, noOwnAt, SV.own, List.all, Bool.and_true, Bool.not_false, mtNil, mtCons, mtTup, mAsgG, mFnK, mFld, mLam0, mLam, capOk, hb0, hb1, hb2, hl1, hl2, hl11, lk_table]
  refine e4 cp _ _ ?_
  simp only [fnM, mSeq, mDrawPut, mDrawInt, mDrawPop, mDrawCells, mFn, mfTake, useDraw, mOp, mC, mV, mPar, mPair, mVD, mVL, mVT, mVK, mCall, mCons, mNil, mFor, mItems, mL, mLst, mAsg, mAsgL, mRet, mRetN, mT, mIfS, mIf, mNext, mtN, mTup, mDrop, mAnd, mOr, mNot, mAndV, mOrV, mNotV, mRng1, mEnum, mYes, mLc, mApp, seqOf, Dm.intD, absD, lift, Dm.guard, List.map, List.length_cons, List.length_nil, List.cons_append, List.nil_append, List.replicate, List.getElem?_cons_zero, List.getElem?_cons_succ, List.set_cons_zero, List.set_cons_succ, Nat.reduceAdd, Nat.reduceSub, addD_ii, wipeS, mergeS, noOwnAt, SV.own, List.all, Bool.and_true, Bool.not_false, mtNil, mtCons, mtTup, mAsgG, mFnK, mFld, mLam0, mLam, capOk, hb0, hb1, hb2, hl1, hl2, hl11, lk_table, lk_points, lk_colours, e2, e5, e9, eqD_ints2, e6, e7, e8, e10, e11]
  refine hpk _ _ fun x hx => ?_
  simp only [fnM, mSeq, mDrawPut, mDrawInt, mDrawPop, mDrawCells, mFn, mfTake, useDraw, mOp, mC, mV, mPar, mPair, mVD, mVL, mVT, mVK, mCall, mCons, mNil, mFor, mItems, mL, mLst, mAsg, mAsgL, mRet, mRetN, mT, mIfS, mIf, mNext, mtN, mTup, mDrop, mAnd, mOr, mNot, mAndV, mOrV, mNotV, mRng1, mEnum, mYes, mLc, mApp, seqOf, Dm.intD, absD, lift, Dm.guard, List.map, List.length_cons, List.length_nil, List.cons_append, List.nil_append, List.replicate, List.getElem?_cons_zero, List.getElem?_cons_succ, List.set_cons_zero, List.set_cons_succ, Nat.reduceAdd, Nat.reduceSub, addD_ii, wipeS, mergeS, noOwnAt, SV.own, List.all, Bool.and_true, Bool.not_false, mtNil, mtCons, mtTup, mAsgG, mFnK, mFld, mLam0, mLam, capOk, hb0, hb1, hb2, hl1, hl2, hl11]
  intro cp1
  refine hsd cp1 _ _ _ (fun k kx => ?_) ?_
  · simp only [mfLam, fnM, mSeq, mDrawPut, mDrawInt, mDrawPop, mDrawCells, mFn, mfTake, useDraw, mOp, mC, mV, mPar, mPair, mVD, mVL, mVT, mVK, mCall, mCons, mNil, mFor, mItems, mL, mLst, mAsg, mAsgL, mRet, mRetN, mT, mIfS, mIf, mNext, mtN, mTup, mDrop, mAnd, mOr, mNot, mAndV, mOrV, mNotV, mRng1, mEnum, mYes, mLc, mApp, seqOf, Dm.intD, absD, lift, Dm.guard, List.map, List.length_cons, List.length_nil, List.cons_append, List.nil_append, List.replicate, List.getElem?_cons_zero, List.getElem?_cons_succ, List.set_cons_zero, List.set_cons_succ, Nat.reduceAdd, Nat.reduceSub, addD_ii, wipeS, mergeS, noOwnAt, SV.own, List.all, Bool.and_true, Bool.not_false, mtNil, mtCons, mtTup, mAsgG, mFnK, mFld, mLam0, mLam, capOk, hb0, hb1, hb2, hl1, hl2, hl11]
    exact hnc x hx cp1 _ _
  simp only [fnM, mSeq, mDrawPut, mDrawInt, mDrawPop, mDrawCells, mFn, mfTake, useDraw, mOp, mC, mV, mPar, mPair, mVD, mVL, mVT, mVK, mCall, mCons, mNil, mFor, mItems, mL, mLst, mAsg, mAsgL, mRet, mRetN, mT, mIfS, mIf, mNext, mtN, mTup, mDrop, mAnd, mOr, mNot, mAndV, mOrV, mNotV, mRng1, mEnum, mYes, mLc, mApp, seqOf, Dm.intD, absD, lift, Dm.guard, List.map, List.length_cons, List.length_nil, List.cons_append, List.nil_append, List.replicate, List.getElem?_cons_zero, List.getElem?_cons_succ, List.set_cons_zero, List.set_cons_succ, Nat.reduceAdd, Nat.reduceSub, addD_ii, wipeS, mergeS, noOwnAt, SV.own, List.all, Bool.and_true, Bool.not_false, mtNil, mtCons, mtTup, mAsgG, mFnK, mFld, mLam0, mLam, capOk, hb0, hb1, hb2, hl1, hl2, hl11, eqD_name]
  intro cp2
  refine hsd cp2 _ _ _ (fun k kx => ?_) ?_
  · simp only [mfLam, fnM, mSeq, mDrawPut, mDrawInt, mDrawPop, mDrawCells, mFn, mfTake, useDraw, mOp, mC, mV, mPar, mPair, mVD, mVL, mVT, mVK, mCall, mCons, mNil, mFor, mItems, mL, mLst, mAsg, mAsgL, mRet, mRetN, mT, mIfS, mIf, mNext, mtN, mTup, mDrop, mAnd, mOr, mNot, mAndV, mOrV, mNotV, mRng1, mEnum, mYes, mLc, mApp, seqOf, Dm.intD, absD, lift, Dm.guard, List.map, List.length_cons, List.length_nil, List.cons_append, List.nil_append, List.replicate, List.getElem?_cons_zero, List.getElem?_cons_succ, List.set_cons_zero, List.set_cons_succ, Nat.reduceAdd, Nat.reduceSub, addD_ii, wipeS, mergeS, noOwnAt, SV.own, List.all, Bool.and_true, Bool.not_false, mtNil, mtCons, mtTup, mAsgG, mFnK, mFld, mLam0, mLam, capOk, hb0, hb1, hb2, hl1, hl2, hl11]
    exact hnf x hx _ _
  simp only [fnM, mSeq, mDrawPut, mDrawInt, mDrawPop, mDrawCells, mFn, mfTake, useDraw, mOp, mC, mV, mPar, mPair, mVD, mVL, mVT, mVK, mCall, mCons, mNil, mFor, mItems, mL, mLst, mAsg, mAsgL, mRet, mRetN, mT, mIfS, mIf, mNext, mtN, mTup, mDrop, mAnd, mOr, mNot, mAndV, mOrV, mNotV, mRng1, mEnum, mYes, mLc, mApp, seqOf, Dm.intD, absD, lift, Dm.guard, List.map, List.length_cons, List.length_nil, List.cons_append, List.nil_append, List.replicate, List.getElem?_cons_zero, List.getElem?_cons_succ, List.set_cons_zero, List.set_cons_succ, Nat.reduceAdd, Nat.reduceSub, addD_ii, wipeS, mergeS, noOwnAt, SV.own, List.all, Bool.and_true, Bool.not_false, mtNil, mtCons, mtTup, mAsgG, mFnK, mFld, mLam0, mLam, capOk, hb0, hb1, hb2, hl1, hl2, hl11, eqD_name]
  exact hC _ _ _ _ _ _ _
/-- _law_said, where the work raises BadName -/
theorem said_gen (NM mf : MF) (isC : Nat → Option Bool) (h7 : isC 7 = some true) (cp : Nat → CPt) (h1 : ∀ (k : D → Prop) (kx : XD → Prop), NM [.exc 7] k kx = k (.str "name")) (h2 : ∀ (k : D → Prop) (kx : XD → Prop), mf [] k kx = kx ⟨7, []⟩) (k : D → Prop) (kx : XD → Prop) (h : k (.str "name")) :
    fnM 3 (mSeq (mAsg 1 (mC .non)) (mSeq (mTryKeep isC 3 1 (mDrop (mCallV0 (cp 12) 0))) (mRet (mFn 1 NM (mCons (mV 1) mNil))))) [.opq (cp 12 0 mf)] k kx := by
  have hb0 : Nat.beq 0 0 = true := rfl
  have hb1 : Nat.beq 1 1 = true := rfl
  have hb2 : Nat.beq 2 2 = true := rfl
  have hl1 : Nat.ble 1 mline = true := rfl
  have hl2 : Nat.ble 2 mline = true := rfl
  have hl11 : Nat.ble 11 mline = true := rfl
  simp only [mTryKeep, mCallV0, fnM, mSeq, mDrawPut, mDrawInt, mDrawPop, mDrawCells, mFn, mfTake, useDraw, mOp, mC, mV, mPar, mPair, mVD, mVL, mVT, mVK, mCall, mCons, mNil, mFor, mItems, mL, mLst, mAsg, mAsgL, mRet, mRetN, mT, mIfS, mIf, mNext, mtN, mTup, mDrop, mAnd, mOr, mNot, mAndV, mOrV, mNotV, mRng1, mEnum, mYes, mLc, mApp, seqOf, Dm.intD, absD, lift, Dm.guard, List.map, List.length_cons, List.length_nil, List.cons_append, List.nil_append, List.replicate, List.getElem?_cons_zero, List.getElem?_cons_succ, List.set_cons_zero, List.set_cons_succ, Nat.reduceAdd, Nat.reduceSub, addD_ii, wipeS, mergeS, noOwnAt, SV.own, List.all, Bool.and_true, Bool.not_false, mtNil, mtCons, mtTup, mAsgG, mFnK, mFld, mLam0, mLam, capOk, hb0, hb1, hb2, hl1, hl2, hl11]
  refine ⟨mf, fun _ _ h => h, ?_⟩
  rw [h2]
  simp only [fnM, mSeq, mDrawPut, mDrawInt, mDrawPop, mDrawCells, mFn, mfTake, useDraw, mOp, mC, mV, mPar, mPair, mVD, mVL, mVT, mVK, mCall, mCons, mNil, mFor, mItems, mL, mLst, mAsg, mAsgL, mRet, mRetN, mT, mIfS, mIf, mNext, mtN, mTup, mDrop, mAnd, mOr, mNot, mAndV, mOrV, mNotV, mRng1, mEnum, mYes, mLc, mApp, seqOf, Dm.intD, absD, lift, Dm.guard, List.map, List.length_cons, List.length_nil, List.cons_append, List.nil_append, List.replicate, List.getElem?_cons_zero, List.getElem?_cons_succ, List.set_cons_zero, List.set_cons_succ, Nat.reduceAdd, Nat.reduceSub, addD_ii, wipeS, mergeS, noOwnAt, SV.own, List.all, Bool.and_true, Bool.not_false, mtNil, mtCons, mtTup, mAsgG, mFnK, mFld, mLam0, mLam, capOk, hb0, hb1, hb2, hl1, hl2, hl11, h7, h1]
  exact h
theorem pick_ok (dp φ : V → Hp → Prop) (L : List D) (hφ : ∀ v G, φ v G → dp v G) (h0 : 0 < L.length) (h1 : L.length < 1000) (k : D → Prop) (kx : XD → Prop) (h : ∀ x ∈ L, k x) : mf__law_pick dp [.opq φ, .lst L] k kx := by
  have hb0 : Nat.beq 0 0 = true := rfl
  have hb1 : Nat.beq 1 1 = true := rfl
  have hb2 : Nat.beq 2 2 = true := rfl
  have hl1 : Nat.ble 1 mline = true := rfl
  have hl2 : Nat.ble 2 mline = true := rfl
  have hl11 : Nat.ble 11 mline = true := rfl
  simp only [mf__law_pick, ms__law_pick, fnM, mSeq, mDrawPut, mDrawInt, mDrawPop, mDrawCells, mFn, mfTake, useDraw, mOp, mC, mV, mPar, mPair, mVD, mVL, mVT, mVK, mCall, mCons, mNil, mFor, mItems, mL, mLst, mAsg, mAsgL, mRet, mRetN, mT, mIfS, mIf, mNext, mtN, mTup, mDrop, mAnd, mOr, mNot, mAndV, mOrV, mNotV, mRng1, mEnum, mYes, mLc, mApp, seqOf, Dm.intD, absD, lift, Dm.guard, List.map, List.length_cons, List.length_nil, List.cons_append, List.nil_append, List.replicate, List.getElem?_cons_zero, List.getElem?_cons_succ, List.set_cons_zero, List.set_cons_succ, Nat.reduceAdd, Nat.reduceSub, addD_ii, wipeS, mergeS, noOwnAt, SV.own, List.all, Bool.and_true, Bool.not_false, mtNil, mtCons, mtTup, mAsgG, mFnK, mFld, mLam0, mLam, capOk, hb0, hb1, hb2, hl1, hl2, hl11, lenD]
  refine ⟨hφ, ⟨by omega, by omega⟩, fun r r0 r1 => ?_⟩
  obtain ⟨i, rfl⟩ := Int.eq_ofNat_of_zero_le r0
  have hi : i < L.length := by omega
  have e : ixD (.lst L) (.int (i : Int)) = some L[i] := by
    show atI L (i : Int) = _
    exact atI_nat (List.getElem?_eq_getElem hi)
  rw [e]
  exact h _ (List.getElem_mem hi)
end K71
end -- K71p
section -- K71q
set_option Elab.async false
set_option linter.all false
set_option maxRecDepth 100000
set_option maxHeartbeats 0
namespace K71
open PySem PySem.Spec PyProof.Rows L2 Dm

def dN : D := .tup [.str "alone", .str "two", .str "wheel", .str "parted", .str "square", .str "ring", .str "six", .str "cube", .str "petersen", .str "lattice", .str "shrikhande", .str "clebsch"]
def dS : D := .lst [.int 1, .int 2, .int 3, .int 3, .int 4, .int 5, .int 6, .int 8, .int 10, .int 16, .int 16, .int 16]
def restMS : MS := (mSeq (mFor (mItems (mL (mLst (mCons (mTup (mCons (mV 12) (mCons (mV 12) mNil))) (mCons (mTup (mCons (mV 12) (mCons (mIndex (mOp ixD (mV 11) (mV 12)) (mC (.int 1))) mNil))) (mCons (mTup (mCons (mV 12) (mCons (mIndex (mOp ixD (mV 11) (mV 12)) (mC (.int 2))) mNil))) mNil)))))) (mtN 13) (mSeq (mAsg 14 (mTup (mCons (mV 12) (mCons (mIndex (mOp ixD (mV 10) (mV 12)) (mOp ixD (mOp ixD (mV 11) (mOp ixD (mV 13) (mC (.int 0)))) (mOp ixD (mV 13) (mC (.int 1))))) mNil)))) (mIfS (mT (mOp (eqD true) (mFn 3 mf__law_triangles (mCons (mV 10) (mCons (mOp ixD (mV 14) (mC (.int 0))) (mCons (mOp ixD (mV 14) (mC (.int 1))) mNil)))) (mFn 3 mf__law_triangles (mCons (mV 11) (mCons (mOp ixD (mV 13) (mC (.int 0))) (mCons (mOp ixD (mV 13) (mC (.int 1))) mNil)))))) (mRet (mC (.bl false))) mNext))) (mSeq (mPar 15 16 (mVD (mFn 2 mf__law_round (mCons (mV 10) (mCons (mV 12) mNil)))) (mVD (mFn 2 mf__law_round (mCons (mV 11) (mCons (mV 12) mNil))))) (mSeq (mIfS (mT (mOp (eqD true) (mL (mLc (mItems (mOp addD (mV 15) (mV 16))) (mtN 18) mYes (mCall lenD (mCons (mV 18) mNil)) [18])) (mOp repD (mL (mLst (mCons (mC (.int 2)) mNil))) (mC (.int 12))))) (mRet (mC (.bl false))) mNext) (mRet (mAndV (mOp (eqD false) (mL (mLc (mItems (mV 15)) (mtN 18) mYes (mOp ixD (mOp ixD (mV 10) (mOp ixD (mV 18) (mC (.int 0)))) (mOp ixD (mV 18) (mC (.int 1)))) [18])) (mOp repD (mL (mLst (mCons (mC (.int 1)) mNil))) (mC (.int 6)))) (mOp (eqD false) (mL (mLc (mItems (mV 16)) (mtN 18) mYes (mOp ixD (mOp ixD (mV 11) (mOp ixD (mV 18) (mC (.int 0)))) (mOp ixD (mV 18) (mC (.int 1)))) [18])) (mOp repD (mL (mLst (mCons (mC (.int 2)) mNil))) (mC (.int 6)))))))))
def lawG (KC KNm : MF) (LAP REST : MS) (dp : V → Hp → Prop) : MS := (mSeq (mAsg 1 (mFn 1 (mfBegun dp) (mCons (mV 0) mNil))) (mSeq (mAsg 2 (mTup (mCons (mC (.str "alone")) (mCons (mC (.str "two")) (mCons (mC (.str "wheel")) (mCons (mC (.str "parted")) (mCons (mC (.str "square")) (mCons (mC (.str "ring")) (mCons (mC (.str "six")) (mCons (mC (.str "cube")) (mCons (mC (.str "petersen")) (mCons (mC (.str "lattice")) (mCons (mC (.str "shrikhande")) (mCons (mC (.str "clebsch")) mNil)))))))))))))) (mSeq (mAsg 3 (mL (mLst (mCons (mC (.int 1)) (mCons (mC (.int 2)) (mCons (mC (.int 3)) (mCons (mC (.int 3)) (mCons (mC (.int 4)) (mCons (mC (.int 5)) (mCons (mC (.int 6)) (mCons (mC (.int 8)) (mCons (mC (.int 10)) (mCons (mC (.int 16)) (mCons (mC (.int 16)) (mCons (mC (.int 16)) mNil))))))))))))))) (mSeq (mIfS (mT (mOp (eqD true) (mFn 0 KNm mNil) (mV 2))) (mRet (mC (.bl false))) mNext) (mSeq (mFor (mRng1 (mCons (mOp addD (mC (.int 3)) (mCall min2D (mCons (mCall lenD (mCons (mV 0) mNil)) (mCons (mC (.int 3)) mNil)))) mNil)) (mtN 4) LAP) (mSeq (mAsgG (mtTup 3 (mtCons (mtN 10) (mtCons (mtN 11) (mtCons (mtN 12) mtNil)))) (mTup (mCons (mFld "table" 0 (mFn 1 KC (mCons (mC (.str "lattice")) mNil))) (mCons (mFld "table" 0 (mFn 1 KC (mCons (mC (.str "shrikhande")) mNil))) (mCons (mFn 2 (mfTake dp) (mCons (mV 1) (mCons (mC (.int 16)) mNil))) mNil))))) REST))))))
theorem law_gen (KC KNm : MF) (LAP REST : MS) (dp : V → Hp → Prop) (hKN : ∀ (k : D → Prop) (kx : XD → Prop), KNm [] k kx = k dN) (heq : eqD true dN dN = some (.bl false)) (tl ts p1 p2 q1 q2 : D)
    (h1 : ∀ (k : D → Prop) (kx : XD → Prop), k (.ins 0 [("points", p1), ("colours", p2), ("table", tl)]) → KC [.str "lattice"] k kx) (h2 : ∀ (k : D → Prop) (kx : XD → Prop), k (.ins 0 [("points", q1), ("colours", q2), ("table", ts)]) → KC [.str "shrikhande"] k kx)
    (hlap : ∀ (s0 d : D) (a4 a5 a6 a7 a8 a9 a17 : SV) (C : CS), (∀ a4 a5 a6 a7 a8 a9 a17 : SV, C.nx [.d s0, .d (.opq dp), .d dN, .d dS, a4, a5, a6, a7, a8, a9, .un, .un, .un, .un, .un, .un, .un, a17, .un]) →
      mtN 4 d [.d s0, .d (.opq dp), .d dN, .d dS, a4, a5, a6, a7, a8, a9, .un, .un, .un, .un, .un, .un, .un, a17, .un] fun s1 => LAP s1 C)
    (hrest : ∀ (s0 : D) (a4 a5 a6 a7 a8 a9 a17 : SV) (C : CS) (r : Int), 0 ≤ r → r < 16 → C.rt (.bl true) → REST [.d s0, .d (.opq dp), .d dN, .d dS, a4, a5, a6, a7, a8, a9, .d tl, .d ts, .d (.int r), .un, .un, .un, .un, a17, .un] C)
    (ns : List Int) (hn : ns.length ≤ 63) (k : D → Prop) (kx : XD → Prop) (hk : k (.bl true)) : fnM 19 (lawG KC KNm LAP REST dp) [.frl (ns.map .int)] k kx := by
  have hb0 : Nat.beq 0 0 = true := rfl
  have hb1 : Nat.beq 1 1 = true := rfl
  have hb2 : Nat.beq 2 2 = true := rfl
  have hb3 : Nat.beq 3 3 = true := rfl
  have hl1 : Nat.ble 1 mline = true := rfl
  have hl2 : Nat.ble 2 mline = true := rfl
  have hl3 : Nat.ble 3 mline = true := rfl
  have hl11 : Nat.ble 11 mline = true := rfl
  have hl12 : Nat.ble 12 mline = true := rfl
  have hsm : small (3 + (if (3 : Int) < ((ns.map D.int).length : Int) then 3 else ((ns.map D.int).length : Int))) = true := by
    rw [List.length_map]
    unfold small
    rw [Bool.and_eq_true]
    refine ⟨decide_eq_true ?_, decide_eq_true ?_⟩ <;> split <;> omega
  simp only [lawG, mfBegun, fnM, mSeq, mDrawPut, mDrawInt, mDrawPop, mDrawCells, mFn, mfTake, useDraw, mOp, mC, mV, mPar, mPair, mVD, mVL, mVT, mVK, mCall, mCons, mNil, mFor, mItems, mL, mLst, mAsg, mAsgL, mRet, mRetN, mT, mIfS, mIf, mNext, mtN, mTup, mDrop, mAnd, mOr, mNot, mAndV, mOrV, mNotV, mRng1, mEnum, mYes, mLc, mApp, seqOf, Dm.intD, absD, lift, Dm.guard, List.map, List.length_cons, List.length_nil, List.cons_append, List.nil_append, List.replicate, List.getElem?_cons_zero, List.getElem?_cons_succ, List.set_cons_zero, List.set_cons_succ, Nat.reduceAdd, Nat.reduceSub, addD_ii, wipeS, mergeS, noOwnAt, SV.own, List.all, Bool.and_true, Bool.not_false, mtNil, mtCons, mtTup, mAsgG, mFnK, mFld, mLam0, mLam, capOk, hb0, hb1, hb2, hl1, hl2, hl11, hb3, hl12, hl3, lenD, min2D]
  refine ⟨⟨ns, rfl, by omega⟩, ?_⟩
  show KNm [] _ _
  rw [hKN]
  have heq2 : eqD true dN (.tup [.str "alone", .str "two", .str "wheel", .str "parted", .str "square", .str "ring", .str "six", .str "cube", .str "petersen", .str "lattice", .str "shrikhande", .str "clebsch"]) = some (.bl false) := heq
  simp only [fnM, mSeq, mDrawPut, mDrawInt, mDrawPop, mDrawCells, mFn, mfTake, useDraw, mOp, mC, mV, mPar, mPair, mVD, mVL, mVT, mVK, mCall, mCons, mNil, mFor, mItems, mL, mLst, mAsg, mAsgL, mRet, mRetN, mT, mIfS, mIf, mNext, mtN, mTup, mDrop, mAnd, mOr, mNot, mAndV, mOrV, mNotV, mRng1, mEnum, mYes, mLc, mApp, seqOf, Dm.intD, absD, lift, Dm.guard, List.map, List.length_cons, List.length_nil, List.cons_append, List.nil_append, List.replicate, List.getElem?_cons_zero, List.getElem?_cons_succ, List.set_cons_zero, List.set_cons_succ, Nat.reduceAdd, Nat.reduceSub, addD_ii, wipeS, mergeS, noOwnAt, SV.own, List.all, Bool.and_true, Bool.not_false, mtNil, mtCons, mtTup, mAsgG, mFnK, mFld, mLam0, mLam, capOk, hb0, hb1, hb2, hl1, hl2, hl11, hb3, hl12, hl3, lenD, min2D, heq2, hsm]
  refine for_ind (fun ss => ∃ a4 a5 a6 a7 a8 a9 a17 : SV, ss = [.d (.frl (ns.map .int)), .d (.opq dp), .d dN, .d dS, a4, a5, a6, a7, a8, a9, .un, .un, .un, .un, .un, .un, .un, a17, .un]) _ ?_ ?_ _ ⟨_, _, _, _, _, _, _, rfl⟩
  · rintro d _ ss k' ⟨a4, a5, a6, a7, a8, a9, a17, rfl⟩ hk'
    exact hlap _ d a4 a5 a6 a7 a8 a9 a17 _ fun b4 b5 b6 b7 b8 b9 b17 => hk' _ ⟨_, _, _, _, _, _, _, rfl⟩
  · rintro ss ⟨a4, a5, a6, a7, a8, a9, a17, rfl⟩
    simp only [fnM, mSeq, mDrawPut, mDrawInt, mDrawPop, mDrawCells, mFn, mfTake, useDraw, mOp, mC, mV, mPar, mPair, mVD, mVL, mVT, mVK, mCall, mCons, mNil, mFor, mItems, mL, mLst, mAsg, mAsgL, mRet, mRetN, mT, mIfS, mIf, mNext, mtN, mTup, mDrop, mAnd, mOr, mNot, mAndV, mOrV, mNotV, mRng1, mEnum, mYes, mLc, mApp, seqOf, Dm.intD, absD, lift, Dm.guard, List.map, List.length_cons, List.length_nil, List.cons_append, List.nil_append, List.replicate, List.getElem?_cons_zero, List.getElem?_cons_succ, List.set_cons_zero, List.set_cons_succ, Nat.reduceAdd, Nat.reduceSub, addD_ii, wipeS, mergeS, noOwnAt, SV.own, List.all, Bool.and_true, Bool.not_false, mtNil, mtCons, mtTup, mAsgG, mFnK, mFld, mLam0, mLam, capOk, hb0, hb1, hb2, hl1, hl2, hl11, hb3, hl12, hl3, lenD, min2D]
    refine h1 _ _ ?_
    simp only [fnM, mSeq, mDrawPut, mDrawInt, mDrawPop, mDrawCells, mFn, mfTake, useDraw, mOp, mC, mV, mPar, mPair, mVD, mVL, mVT, mVK, mCall, mCons, mNil, mFor, mItems, mL, mLst, mAsg, mAsgL, mRet, mRetN, mT, mIfS, mIf, mNext, mtN, mTup, mDrop, mAnd, mOr, mNot, mAndV, mOrV, mNotV, mRng1, mEnum, mYes, mLc, mApp, seqOf, Dm.intD, absD, lift, Dm.guard, List.map, List.length_cons, List.length_nil, List.cons_append, List.nil_append, List.replicate, List.getElem?_cons_zero, List.getElem?_cons_succ, List.set_cons_zero, List.set_cons_succ, Nat.reduceAdd, Nat.reduceSub, addD_ii, wipeS, mergeS, noOwnAt, SV.own, List.all, Bool.and_true, Bool.not_false, mtNil, mtCons, mtTup, mAsgG, mFnK, mFld, mLam0, mLam, capOk, hb0, hb1, hb2, hl1, hl2, hl11, hb3, hl12, hl3, lenD, min2D, lk_table]
    refine h2 _ _ ?_
    simp only [fnM, mSeq, mDrawPut, mDrawInt, mDrawPop, mDrawCells, mFn, mfTake, useDraw, mOp, mC, mV, mPar, mPair, mVD, mVL, mVT, mVK, mCall, mCons, mNil, mFor, mItems, mL, mLst, mAsg, mAsgL, mRet, mRetN, mT, mIfS, mIf, mNext, mtN, mTup, mDrop, mAnd, mOr, mNot, mAndV, mOrV, mNotV, mRng1, mEnum, mYes, mLc, mApp, seqOf, Dm.intD, absD, lift, Dm.guard, List.map, List.length_cons, List.length_nil, List.cons_append, List.nil_append, List.replicate, List.getElem?_cons_zero, List.getElem?_cons_succ, List.set_cons_zero, List.set_cons_succ, Nat.reduceAdd, Nat.reduceSub, addD_ii, wipeS, mergeS, noOwnAt, SV.own, List.all, Bool.and_true, Bool.not_false, mtNil, mtCons, mtTup, mAsgG, mFnK, mFld, mLam0, mLam, capOk, hb0, hb1, hb2, hl1, hl2, hl11, hb3, hl12, hl3, lenD, min2D, lk_table]
    refine ⟨fun _ _ h => h, ⟨by decide, by decide⟩, fun r r0 r1 => ?_⟩
    exact hrest _ a4 a5 a6 a7 a8 a9 a17 _ r r0 r1 hk
theorem rest_all (s0 : D) (a4 a5 a6 a7 a8 a9 a17 : SV) (dp : V → Hp → Prop) (C : CS) : ((List.range 16).map fun i => restMS [.d s0, .d (.opq dp), .d dN, .d dS, a4, a5, a6, a7, a8, a9, .d tb_lattice, .d tb_shrikhande, .d (.int (Int.ofNat i)), .un, .un, .un, .un, a17, .un] C) = (List.range 16).map fun _ => C.rt (.bl true) := by
  kernel_rfl
theorem rest_ok (s0 : D) (a4 a5 a6 a7 a8 a9 a17 : SV) (dp : V → Hp → Prop) (C : CS) (r : Int) (r0 : 0 ≤ r) (r1 : r < 16) (h : C.rt (.bl true)) : restMS [.d s0, .d (.opq dp), .d dN, .d dS, a4, a5, a6, a7, a8, a9, .d tb_lattice, .d tb_shrikhande, .d (.int r), .un, .un, .un, .un, a17, .un] C := by
  obtain ⟨i, rfl⟩ := Int.eq_ofNat_of_zero_le r0
  have e := List.map_inj_left.mp (rest_all s0 a4 a5 a6 a7 a8 a9 a17 dp C) i (List.mem_range.mpr (by omega))
  have e2 : restMS [.d s0, .d (.opq dp), .d dN, .d dS, a4, a5, a6, a7, a8, a9, .d tb_lattice, .d tb_shrikhande, .d (.int (i : Int)), .un, .un, .un, .un, a17, .un] C = C.rt (.bl true) := e
  rw [e2]
  exact h
theorem rq_alone : rpB ft_alone = true := by
  kernel_rfl
theorem rq_two : rpB ft_two = true := by
  kernel_rfl
theorem rq_wheel : rpB ft_wheel = true := by
  kernel_rfl
theorem rq_parted : rpB ft_parted = true := by
  kernel_rfl
theorem rq_square : rpB ft_square = true := by
  kernel_rfl
theorem rq_ring : rpB ft_ring = true := by
  kernel_rfl
theorem rq_six : rpB ft_six = true := by
  kernel_rfl
theorem rq_cube : rpB ft_cube = true := by
  kernel_rfl
theorem rq_petersen : rpB ft_petersen = true := by
  kernel_rfl
theorem rq_lattice : rpB ft_lattice = true := by
  kernel_rfl
theorem rq_shrikhande : rpB ft_shrikhande = true := by
  kernel_rfl
theorem rq_clebsch : rpB ft_clebsch = true := by
  kernel_rfl
abbrev Row1 : Int → Prop := Row mf__law_known mf__law_colours mf__law_facts mf__law_is_coherent mf_known_facts (fun cp => mf_known_colouring cp) dN dS
theorem row_0 : Row1 0 := ⟨by
  obtain ⟨z, h1, h2⟩ := rpB_ok rq_alone
  exact ⟨_, _, _, _, _, z, rfl, rfl, kn_alone, kc_alone, co_alone, fc_alone, ch_alone, kf_alone, eq_alone, h1, h2⟩⟩
theorem row_1 : Row1 1 := ⟨by
  obtain ⟨z, h1, h2⟩ := rpB_ok rq_two
  exact ⟨_, _, _, _, _, z, rfl, rfl, kn_two, kc_two, co_two, fc_two, ch_two, kf_two, eq_two, h1, h2⟩⟩
theorem row_2 : Row1 2 := ⟨by
  obtain ⟨z, h1, h2⟩ := rpB_ok rq_wheel
  exact ⟨_, _, _, _, _, z, rfl, rfl, kn_wheel, kc_wheel, co_wheel, fc_wheel, ch_wheel, kf_wheel, eq_wheel, h1, h2⟩⟩
theorem row_3 : Row1 3 := ⟨by
  obtain ⟨z, h1, h2⟩ := rpB_ok rq_parted
  exact ⟨_, _, _, _, _, z, rfl, rfl, kn_parted, kc_parted, co_parted, fc_parted, ch_parted, kf_parted, eq_parted, h1, h2⟩⟩
theorem row_4 : Row1 4 := ⟨by
  obtain ⟨z, h1, h2⟩ := rpB_ok rq_square
  exact ⟨_, _, _, _, _, z, rfl, rfl, kn_square, kc_square, co_square, fc_square, ch_square, kf_square, eq_square, h1, h2⟩⟩
theorem row_5 : Row1 5 := ⟨by
  obtain ⟨z, h1, h2⟩ := rpB_ok rq_ring
  exact ⟨_, _, _, _, _, z, rfl, rfl, kn_ring, kc_ring, co_ring, fc_ring, ch_ring, kf_ring, eq_ring, h1, h2⟩⟩
theorem row_6 : Row1 6 := ⟨by
  obtain ⟨z, h1, h2⟩ := rpB_ok rq_six
  exact ⟨_, _, _, _, _, z, rfl, rfl, kn_six, kc_six, co_six, fc_six, ch_six, kf_six, eq_six, h1, h2⟩⟩
theorem row_7 : Row1 7 := ⟨by
  obtain ⟨z, h1, h2⟩ := rpB_ok rq_cube
  exact ⟨_, _, _, _, _, z, rfl, rfl, kn_cube, kc_cube, co_cube, fc_cube, ch_cube, kf_cube, eq_cube, h1, h2⟩⟩
theorem row_8 : Row1 8 := ⟨by
  obtain ⟨z, h1, h2⟩ := rpB_ok rq_petersen
  exact ⟨_, _, _, _, _, z, rfl, rfl, kn_petersen, kc_petersen, co_petersen, fc_petersen, ch_petersen, kf_petersen, eq_petersen, h1, h2⟩⟩
theorem row_9 : Row1 9 := ⟨by
  obtain ⟨z, h1, h2⟩ := rpB_ok rq_lattice
  exact ⟨_, _, _, _, _, z, rfl, rfl, kn_lattice, kc_lattice, co_lattice, fc_lattice, ch_lattice, kf_lattice, eq_lattice, h1, h2⟩⟩
theorem row_10 : Row1 10 := ⟨by
  obtain ⟨z, h1, h2⟩ := rpB_ok rq_shrikhande
  exact ⟨_, _, _, _, _, z, rfl, rfl, kn_shrikhande, kc_shrikhande, co_shrikhande, fc_shrikhande, ch_shrikhande, kf_shrikhande, eq_shrikhande, h1, h2⟩⟩
theorem row_11 : Row1 11 := ⟨by
  obtain ⟨z, h1, h2⟩ := rpB_ok rq_clebsch
  exact ⟨_, _, _, _, _, z, rfl, rfl, kn_clebsch, kc_clebsch, co_clebsch, fc_clebsch, ch_clebsch, kf_clebsch, eq_clebsch, h1, h2⟩⟩
theorem rows (r : Int) (r0 : 0 ≤ r) (r1 : r < 12) : Row1 r := by
  have h : r = 0 ∨ r = 1 ∨ r = 2 ∨ r = 3 ∨ r = 4 ∨ r = 5 ∨ r = 6 ∨ r = 7 ∨ r = 8 ∨ r = 9 ∨ r = 10 ∨ r = 11 := by omega
  rcases h with rfl | rfl | rfl | rfl | rfl | rfl | rfl | rfl | rfl | rfl | rfl | rfl
  · exact row_0
  · exact row_1
  · exact row_2
  · exact row_3
  · exact row_4
  · exact row_5
  · exact row_6
  · exact row_7
  · exact row_8
  · exact row_9
  · exact row_10
  · exact row_11
theorem nm_exc (k : D → Prop) (kx : XD → Prop) : mf__law_named [.exc 7] k kx = k (.str "name") := by
  kernel_rfl
theorem nc_0 (cp : Nat → CPt) (k : D → Prop) (kx : XD → Prop) : mf_known_colouring cp [.non] k kx = kx ⟨7, []⟩ := by
  kernel_rfl
theorem nf_0 (k : D → Prop) (kx : XD → Prop) : mf_known_facts [.non] k kx = kx ⟨7, []⟩ := by
  kernel_rfl
theorem nc_1 (cp : Nat → CPt) (k : D → Prop) (kx : XD → Prop) : mf_known_colouring cp [.int 5] k kx = kx ⟨7, []⟩ := by
  kernel_rfl
theorem nf_1 (k : D → Prop) (kx : XD → Prop) : mf_known_facts [.int 5] k kx = kx ⟨7, []⟩ := by
  kernel_rfl
theorem nc_2 (cp : Nat → CPt) (k : D → Prop) (kx : XD → Prop) : mf_known_colouring cp [.str ""] k kx = kx ⟨7, []⟩ := by
  kernel_rfl
theorem nf_2 (k : D → Prop) (kx : XD → Prop) : mf_known_facts [.str ""] k kx = kx ⟨7, []⟩ := by
  kernel_rfl
theorem nc_3 (cp : Nat → CPt) (k : D → Prop) (kx : XD → Prop) : mf_known_colouring cp [.str "Ring"] k kx = kx ⟨7, []⟩ := by
  kernel_rfl
theorem nf_3 (k : D → Prop) (kx : XD → Prop) : mf_known_facts [.str "Ring"] k kx = kx ⟨7, []⟩ := by
  kernel_rfl
theorem nc_4 (cp : Nat → CPt) (k : D → Prop) (kx : XD → Prop) : mf_known_colouring cp [.str "ring "] k kx = kx ⟨7, []⟩ := by
  kernel_rfl
theorem nf_4 (k : D → Prop) (kx : XD → Prop) : mf_known_facts [.str "ring "] k kx = kx ⟨7, []⟩ := by
  kernel_rfl
theorem nc_5 (cp : Nat → CPt) (k : D → Prop) (kx : XD → Prop) : mf_known_colouring cp [.str "seven"] k kx = kx ⟨7, []⟩ := by
  kernel_rfl
theorem nf_5 (k : D → Prop) (kx : XD → Prop) : mf_known_facts [.str "seven"] k kx = kx ⟨7, []⟩ := by
  kernel_rfl
theorem nc_6 (cp : Nat → CPt) (k : D → Prop) (kx : XD → Prop) : mf_known_colouring cp [.tup [.str "ring"]] k kx = kx ⟨7, []⟩ := by
  kernel_rfl
theorem nf_6 (k : D → Prop) (kx : XD → Prop) : mf_known_facts [.tup [.str "ring"]] k kx = kx ⟨7, []⟩ := by
  kernel_rfl
theorem nc_7 (cp : Nat → CPt) (k : D → Prop) (kx : XD → Prop) : mf_known_colouring cp [.lst [.str "ring"]] k kx = kx ⟨7, []⟩ := by
  kernel_rfl
theorem nf_7 (k : D → Prop) (kx : XD → Prop) : mf_known_facts [.lst [.str "ring"]] k kx = kx ⟨7, []⟩ := by
  kernel_rfl
theorem nc_8 (cp : Nat → CPt) (k : D → Prop) (kx : XD → Prop) : mf_known_colouring cp [.bl true] k kx = kx ⟨7, []⟩ := by
  kernel_rfl
theorem nf_8 (k : D → Prop) (kx : XD → Prop) : mf_known_facts [.bl true] k kx = kx ⟨7, []⟩ := by
  kernel_rfl
theorem nc_9 (cp : Nat → CPt) (k : D → Prop) (kx : XD → Prop) : mf_known_colouring cp [.int 0] k kx = kx ⟨7, []⟩ := by
  kernel_rfl
theorem nf_9 (k : D → Prop) (kx : XD → Prop) : mf_known_facts [.int 0] k kx = kx ⟨7, []⟩ := by
  kernel_rfl
theorem nc_10 (cp : Nat → CPt) (k : D → Prop) (kx : XD → Prop) : mf_known_colouring cp [.dk []] k kx = kx ⟨7, []⟩ := by
  kernel_rfl
theorem nf_10 (k : D → Prop) (kx : XD → Prop) : mf_known_facts [.dk []] k kx = kx ⟨7, []⟩ := by
  kernel_rfl
theorem nc_all : ∀ x ∈ noneL, ∀ (cp : Nat → CPt) (k : D → Prop) (kx : XD → Prop), mf_known_colouring cp [x] k kx = kx ⟨7, []⟩ := by
  intro x hx
  simp only [noneL, List.mem_cons, List.not_mem_nil, or_false] at hx
  rcases hx with rfl | rfl | rfl | rfl | rfl | rfl | rfl | rfl | rfl | rfl | rfl
  · exact nc_0
  · exact nc_1
  · exact nc_2
  · exact nc_3
  · exact nc_4
  · exact nc_5
  · exact nc_6
  · exact nc_7
  · exact nc_8
  · exact nc_9
  · exact nc_10
theorem nf_all : ∀ x ∈ noneL, ∀ (k : D → Prop) (kx : XD → Prop), mf_known_facts [x] k kx = kx ⟨7, []⟩ := by
  intro x hx
  simp only [noneL, List.mem_cons, List.not_mem_nil, or_false] at hx
  rcases hx with rfl | rfl | rfl | rfl | rfl | rfl | rfl | rfl | rfl | rfl | rfl
  · exact nf_0
  · exact nf_1
  · exact nf_2
  · exact nf_3
  · exact nf_4
  · exact nf_5
  · exact nf_6
  · exact nf_7
  · exact nf_8
  · exact nf_9
  · exact nf_10
theorem said_ok (cp : Nat → CPt) (mf : MF) (k : D → Prop) (kx : XD → Prop) (h : ∀ (k : D → Prop) (kx : XD → Prop), mf [] k kx = kx ⟨7, []⟩) (hk : k (.str "name")) : mf__law_said cp [.opq (cp 12 0 mf)] k kx := by
  unfold mf__law_said
  exact said_gen mf__law_named mf isPair rfl cp nm_exc h k kx hk
theorem kn_names (k : D → Prop) (kx : XD → Prop) : mf_known_names [] k kx = k dN := by
  kernel_rfl
theorem eq_names : eqD true dN dN = some (.bl false) := by
  kernel_rfl
theorem law_plain (cp : Nat → CPt) (dp : V → Hp → Prop) (ns : List Int) (hn : ns.length ≤ 63) (k : D → Prop) (kx : XD → Prop) (hk : k (.bl true)) : mf_law cp dp [.frl (ns.map .int)] k kx := by
  unfold mf_law
  exact law_gen (mf_known_colouring cp) mf_known_names (lapG mf__law_known mf__law_colours mf__law_facts mf__law_is_coherent mf_known_facts (mf__law_pick dp) (fun cp => mf_known_colouring cp) (fun cp => mf__law_said cp) cp dp) restMS dp kn_names eq_names tb_lattice tb_shrikhande (.int 16) (.int 3) (.int 16) (.int 3)
    (kc_lattice cp) (kc_shrikhande cp)
    (fun s0 d a4 a5 a6 a7 a8 a9 a17 C hC => lap_ok mf__law_known mf__law_colours mf__law_facts mf__law_is_coherent mf_known_facts (mf__law_pick dp) (fun cp => mf_known_colouring cp) (fun cp => mf__law_said cp) cp dp dp dN dS s0 d a4 a5 a6 a7 a8 a9 a17 (fun _ _ h => h) rows
      (fun k kx h => pick_ok dp dp noneL (fun _ _ h => h) (by decide) (by decide) k kx h) said_ok nc_all nf_all C hC)
    (fun s0 a4 a5 a6 a7 a8 a9 a17 C r r0 r1 h => rest_ok s0 a4 a5 a6 a7 a8 a9 a17 dp C r r0 r1 h) ns hn k kx hk
end K71
end -- K71q
section -- K71z
set_option Elab.async false
set_option linter.all false
set_option maxRecDepth 100000
set_option maxHeartbeats 1000000
namespace K71
open PySem PySem.Spec PyProof.Rows L2 Dm
theorem FnG.imp {P : Program} {w : World} {K : PySem.W.Frag} {mg : Str → Option Value} {base : Heap} {CX : CXT} {k : Nat} {f : Addr} {fd : FuncData} {ps : List Str} {sp sp' : Sp} (F : FnG P w K mg base CX k f fd ps sp) (h : ∀ vs H Q E, sp' vs H Q E → sp vs H Q E) : FnG P w K mg base CX k f fd ps sp' :=
  fun A s H args us vs Q E hA hr e0 hb r hs => F A s H args us vs Q E hA hr e0 hb r (h _ _ _ _ hs)
abbrev tbsK (K : PySem.W.Frag) : Tbs := ⟨tf.map fun p => ((He.cT K p).2, p.1 ++ ".<locals>." ++ "<lambda>")⟩
theorem law_says (w : World) (mg : Str → Option Value) (fa : Addr) (h : Heap) (Y : hk.says w h) (G : h.Ns mainGlobals mg) (hm : mg "law" = some (.ref fa)) :
    LawG PySem.Challenge.rw_pairscoloured_k71_whole_known_colourings w (L2.CX PySem.Challenge.rw_pairscoloured_k71_whole_known_colourings.prog w) 14 63 "script" mg fa h := by
  obtain ⟨K, KX, c⟩ := Y
  letI : Tbs := tbsK K
  have T : Tx w K mg := ⟨⟨h, KX, G, c⟩, rfl⟩
  obtain ⟨fd, F, hF⟩ := ok_law (P := PySem.Challenge.rw_pairscoloured_k71_whole_known_colourings.prog) T
  have e : fa = He.ga K "law" := by
    have e := hm.symm.trans T.g_law
    injection e with e
    injection e with e
  subst e
  have hcs : ∀ p ∈ csk K, ∃ q ∈ tf, He.cT K q = p := fun p hp => by
    obtain ⟨q, hq, rfl⟩ := List.mem_map.mp hp
    exact ⟨q, hq, rfl⟩
  refine ⟨K, fd, csk K, spD K (Γk K) 1 (fun ds k kx => ∀ cp : Nat → CPt, mf_law cp (DrawP PySem.Challenge.rw_pairscoloured_k71_whole_known_colourings.prog w) ds k kx), KX, fun p hp => ?_, fun p hp => ?_, fun p hp => ?_, ?_, ?_, ?_⟩
  · obtain ⟨q, hq, rfl⟩ := hcs p hp
    exact c.empty q hq
  · obtain ⟨q, hq, rfl⟩ := hcs p hp
    exact c.out q hq
  · obtain ⟨q, hq, rfl⟩ := hcs p hp
    exact PySem.W.codeHd_of_K KX (c.hd q hq)
  · have b := FunD.bindsA (ps := ["script"]) F fun _ _ _ _ _ _ us hl => match us, hl with | [_], _ => rfl
    exact fun s u => b s [u] rfl
  · intro H a ns hl _ hT hS
    have tb : LamX.Tabs (tbsK K).T H := fun p hp => by
      obtain ⟨q, hq, rfl⟩ := List.mem_map.mp hp
      exact ⟨#[], hT _ (List.mem_map.mpr ⟨q, hq, rfl⟩), trivial, fun pos cv hc => by cases hc⟩
    exact ⟨rfl, H, [.frl (ns.map .int)], (fun d => d = .bl true), (fun _ => False), Ex.refl H, tb, .cons (.frl hS (rpl_ints ns)) .nil, fun cp => law_plain cp _ ns hl _ _ rfl, fun d v G' H' e f r => by
      subst e
      cases r
      rfl, fun x hx => hx.elim⟩
  · intro base hK hN hT
    refine FnG.imp (hF base ⟨hK, hN, hT⟩) fun vs H Q E ⟨hl, G1, ds, k, kx, e1, t1, r1, m1, q1⟩ => ⟨hl, G1, ds, k, kx, e1, t1, r1, m1 _, q1⟩
end K71
open PySem PySem.W PySem.Calls PyProof.Rows
set_option maxRecDepth 100000 in
set_option maxHeartbeats 8000000 in
theorem PySem.Challenge.cw_pairscoloured_k71_whole_known_colourings_holds : PySem.Challenge.rw_pairscoloured_k71_whole_known_colourings.Holds := by
  w_on; o_law
  refine HandSHeadRun.head_imp (r := K71.R) (q := K71.qv) (H := K71.hk) (ob := K71.ob) (M := 20000) (loose := K71.names) (d := HandSHeadRun.topDef K71.R.prog 64) (kwd := []) K71.ob_eq K71.run
    (by kernel_rfl) (by kernel_rfl) (by kernel_rfl) (by rfl) (by first | assumption | decide +kernel) (by decide +kernel) ⟨rfl, rfl, rfl, rfl, rfl, by decide +kernel⟩ ?hw ?hc
  case hw => w_witness2
  case hc =>
    refine Dm.walk_ofG (l := PySem.Challenge.rw_pairscoloured_k71_whole_known_colourings) (n := 63) (k := 14) (x := "script") (CX := fun w => L2.CX (PySem.Challenge.rw_pairscoloured_k71_whole_known_colourings).prog w) rfl (by decide) (by kernel_rfl) ⟨rfl, by decide, by decide⟩ ?F ?C
    case F =>
      intro w mg fa h Y G hm
      have hm2 : mg ("law" : PySem.Str) = some (.ref fa) := by
        have e : (HandSHeadRun.topDef K71.R.prog 64).name = ("law" : PySem.Str) := by kernel_rfl
        rw [← e]
        exact hm
      exact K71.law_says w mg fa h Y G hm2
    case C =>
      intro w H s e s' z
      obtain ⟨_, _, _, _, _, _, _, _, _, _, _, _, q⟩ := z
      exact q
end -- K71z
