import PyProof.Rows.All
import Wide.All
import OpenK.AllK
import Wide.FinOn
import HandS.ForMost
import HandS.Exc
import HandS.ExcOwn
import HandS.ExcInit
import HandS.TryMany
import HandS.Lambda
import HandS.DictComp
import HandS.CallSlots
import HandS.RaiseMore
import HandS.WordsExc
import HandS.Flow
import HandS.TupAny
import HandS.TupLe
import HandS.Deep
import HandS.Style
import HandS.Text
import HandS.Conv
import HandS.IsInst
import HandS.Sort
import HandS.Wide
import HandS.ExcField
import KE.LtData
import HandS.EndOwn
import KE.KNestM
import PySem.Challenge.RW_whereitwas_k02_names_and_words
set_option Elab.async false
set_option linter.all false
set_option maxRecDepth 100000
set_option maxHeartbeats 2000000
/-! VL1: data, what a value stands for, the state of a def by slots -/
namespace VL
open PySem PySem.Spec L2

/-- plain data as Python shows it -/
inductive D where
  | non
  | bl (b : Bool)
  | int (i : Int)
  | str (x : Str)
  | tup (xs : List D)
  | lst (xs : List D)
  | dic (t : Bool) (kvs : List (D × D))
  | ins (c : Str) (fs : List (Str × D))
  | scr (ns : List Int)
  | fn (x : Str)
  | ktp (xs : List D)
  deriving Inhabited

def keyD : Key → D
  | .inl i => .int i
  | .inr x => .str x

/-- what is fixed for a whole law: the written part, the addresses of classes and defs, tables of code -/
structure Tb where
  K : PySem.W.Frag
  P : Program
  w : World
  cl : Str → Addr
  fa : Str → Addr

mutual
inductive Rep (T : Tb) (H : Hp) : V → D → Prop
  | non : Rep T H .non .non
  | bl (b : Bool) : Rep T H (.bl b) (.bl b)
  | int (i : Int) : Rep T H (.int i) (.int i)
  | str (x : Str) : Rep T H (.str x) (.str x)
  | tup {a : Addr} {vs : List V} {ds : List D} : H a = some (.tup vs) → Reps T H vs ds → Rep T H (.ref a) (.tup ds)
  | ktp {a : Addr} {vs : List V} {ds : List D} : SqT T.K H a vs → Reps T H vs ds → Rep T H (.ref a) (.ktp ds)
  | lst {a : Addr} {vs : List V} {ds : List D} : H a = some (.lst vs) → Reps T H vs ds → Rep T H (.ref a) (.lst ds)
  | scr {a : Addr} {ns : List Int} : SqL T.K H a (ns.map V.int) → Rep T H (.ref a) (.scr ns)
  | dik {a : Addr} {ks : List (Key × V)} {ds : List (D × D)} : H a = some (.dK ks) → KReps T H ks ds → Rep T H (.ref a) (.dic false ds)
  | dit {a : Addr} {ks : List (List Key × V)} {ds : List (D × D)} : H a = some (.dT ks) → TReps T H ks ds → Rep T H (.ref a) (.dic true ds)
  | ins {a dx : Addr} {c : Str} {fs : List (Str × V)} {ds : List (Str × D)} : H a = some (.ins (T.cl c) dx fs) → FReps T H fs ds → Rep T H (.ref a) (.ins c ds)
  | fn (x : Str) : Rep T H (.ref (T.fa x)) (.fn x)
inductive Reps (T : Tb) (H : Hp) : List V → List D → Prop
  | nil : Reps T H [] []
  | cons {v : V} {vs : List V} {d : D} {ds : List D} : Rep T H v d → Reps T H vs ds → Reps T H (v :: vs) (d :: ds)
inductive KReps (T : Tb) (H : Hp) : List (Key × V) → List (D × D) → Prop
  | nil : KReps T H [] []
  | cons {k : Key} {v : V} {ks : List (Key × V)} {d : D} {ds : List (D × D)} : Rep T H v d → KReps T H ks ds → KReps T H ((k, v) :: ks) ((keyD k, d) :: ds)
inductive TReps (T : Tb) (H : Hp) : List (List Key × V) → List (D × D) → Prop
  | nil : TReps T H [] []
  | cons {k : List Key} {v : V} {ks : List (List Key × V)} {d : D} {ds : List (D × D)} : Rep T H v d → TReps T H ks ds → TReps T H ((k, v) :: ks) ((.tup (k.map keyD), d) :: ds)
inductive FReps (T : Tb) (H : Hp) : List (Str × V) → List (Str × D) → Prop
  | nil : FReps T H [] []
  | cons {f : Str} {v : V} {ks : List (Str × V)} {d : D} {ds : List (Str × D)} : Rep T H v d → FReps T H ks ds → FReps T H ((f, v) :: ks) ((f, d) :: ds)
end

theorem sqT_mono {K : PySem.W.Frag} {H H' : Hp} {a : Addr} {xs : List V} (e : Same H H') (h : SqT K H a xs) : SqT K H' a xs := by
  rcases h with (h | ⟨o, h⟩) | h
  · exact .inl (.inl (e _ _ h))
  · exact .inl (.inr ⟨o, e _ _ h⟩)
  · exact .inr h

mutual
theorem Rep.mono {T : Tb} {H H' : Hp} (e : Same H H') : ∀ {v : V} {d : D}, Rep T H v d → Rep T H' v d
  | _, _, .non => .non
  | _, _, .bl b => .bl b
  | _, _, .int i => .int i
  | _, _, .str x => .str x
  | _, _, .tup h r => .tup (e _ _ h) (Reps.mono e r)
  | _, _, .ktp h r => .ktp (sqT_mono e h) (Reps.mono e r)
  | _, _, .lst h r => .lst (e _ _ h) (Reps.mono e r)
  | _, _, .scr h => .scr (e.seq h)
  | _, _, .dik h r => .dik (e _ _ h) (KReps.mono e r)
  | _, _, .dit h r => .dit (e _ _ h) (TReps.mono e r)
  | _, _, .ins h r => .ins (e _ _ h) (FReps.mono e r)
  | _, _, .fn x => .fn x
theorem Reps.mono {T : Tb} {H H' : Hp} (e : Same H H') : ∀ {v : List V} {d : List D}, Reps T H v d → Reps T H' v d
  | _, _, .nil => .nil
  | _, _, .cons h r => .cons (Rep.mono e h) (Reps.mono e r)
theorem KReps.mono {T : Tb} {H H' : Hp} (e : Same H H') : ∀ {v : List (Key × V)} {d : List (D × D)}, KReps T H v d → KReps T H' v d
  | _, _, .nil => .nil
  | _, _, .cons h r => .cons (Rep.mono e h) (KReps.mono e r)
theorem TReps.mono {T : Tb} {H H' : Hp} (e : Same H H') : ∀ {v : List (List Key × V)} {d : List (D × D)}, TReps T H v d → TReps T H' v d
  | _, _, .nil => .nil
  | _, _, .cons h r => .cons (Rep.mono e h) (TReps.mono e r)
theorem FReps.mono {T : Tb} {H H' : Hp} (e : Same H H') : ∀ {v : List (Str × V)} {d : List (Str × D)}, FReps T H v d → FReps T H' v d
  | _, _, .nil => .nil
  | _, _, .cons h r => .cons (Rep.mono e h) (FReps.mono e r)
end

section
variable {T : Tb} {H : Hp}
theorem Reps.length : ∀ {v : List V} {d : List D}, Reps T H v d → v.length = d.length
  | _, _, .nil => rfl
  | _, _, .cons _ r => by simp [Reps.length r]
theorem Reps.get : ∀ {vs : List V} {ds : List D} {i : Nat} {d : D}, Reps T H vs ds → ds[i]? = some d → ∃ v, vs[i]? = some v ∧ Rep T H v d
  | _, _, _, _, .nil, e => by simp at e
  | _, _, 0, _, .cons r _, e => by
    simp at e
    subst e
    exact ⟨_, rfl, r⟩
  | _, _, i + 1, _, .cons _ t, e => by
    obtain ⟨v, h1, h2⟩ := Reps.get (i := i) t (by simpa using e)
    exact ⟨v, by simpa using h1, h2⟩
theorem Reps.getV : ∀ {vs : List V} {ds : List D} {i : Nat} {v : V}, Reps T H vs ds → vs[i]? = some v → ∃ d, ds[i]? = some d ∧ Rep T H v d
  | _, _, _, _, .nil, e => by simp at e
  | _, _, 0, _, .cons r _, e => by
    simp at e
    subst e
    exact ⟨_, rfl, r⟩
  | _, _, i + 1, _, .cons _ t, e => by
    obtain ⟨v, h1, h2⟩ := Reps.getV (i := i) t (by simpa using e)
    exact ⟨v, by simpa using h1, h2⟩
theorem Reps.append : ∀ {xs ys : List V} {ds es : List D}, Reps T H xs ds → Reps T H ys es → Reps T H (xs ++ ys) (ds ++ es)
  | _, _, _, _, .nil, s => s
  | _, _, _, _, .cons r t, s => .cons r (Reps.append t s)
theorem Reps.take : ∀ {xs : List V} {ds : List D} (n : Nat), Reps T H xs ds → Reps T H (xs.take n) (ds.take n)
  | _, _, 0, _ => .nil
  | _, _, _ + 1, .nil => .nil
  | _, _, n + 1, .cons r t => .cons r (Reps.take n t)
theorem Reps.drop : ∀ {xs : List V} {ds : List D} (n : Nat), Reps T H xs ds → Reps T H (xs.drop n) (ds.drop n)
  | _, _, 0, r => r
  | _, _, _ + 1, .nil => .nil
  | _, _, n + 1, .cons _ t => Reps.drop n t
theorem Reps.erase : ∀ {xs : List V} {ds : List D} (n : Nat), Reps T H xs ds → Reps T H (xs.eraseIdx n) (ds.eraseIdx n)
  | _, _, _, .nil => .nil
  | _, _, 0, .cons _ t => t
  | _, _, n + 1, .cons r t => .cons r (Reps.erase n t)
theorem Reps.set {v : V} {d : D} (r : Rep T H v d) : ∀ {xs : List V} {ds : List D} (n : Nat), Reps T H xs ds → Reps T H (xs.set n v) (ds.set n d)
  | _, _, _, .nil => .nil
  | _, _, 0, .cons _ t => .cons r t
  | _, _, n + 1, .cons q t => .cons q (Reps.set r n t)
theorem Reps.reverse : ∀ {xs : List V} {ds : List D}, Reps T H xs ds → Reps T H xs.reverse ds.reverse
  | _, _, .nil => .nil
  | _, _, .cons r t => by
    rw [List.reverse_cons, List.reverse_cons]
    exact Reps.append (Reps.reverse t) (.cons r .nil)
/-- an int's, a text's .. value -/
theorem Rep.intV {v : V} {i : Int} (r : Rep T H v (.int i)) : v = .int i := by cases r; rfl
theorem Rep.blV {v : V} {b : Bool} (r : Rep T H v (.bl b)) : v = .bl b := by cases r; rfl
theorem Rep.strV {v : V} {x : Str} (r : Rep T H v (.str x)) : v = .str x := by cases r; rfl
theorem Rep.nonV {v : V} (r : Rep T H v .non) : v = .non := by cases r; rfl
theorem Rep.fnV {v : V} {x : Str} (r : Rep T H v (.fn x)) : v = .ref (T.fa x) := by cases r; rfl
end

theorem ni {i : Nat} {l : List Nat} (h : l.contains i = false) : i ∉ l := fun z => by
  rw [List.contains_iff_mem.mpr z] at h
  cases h
theorem nia {l r : List Nat} (h : (l.all fun i => !r.contains i) = true) : ∀ i ∈ l, i ∉ r := fun i hi z => by
  have := List.all_eq_true.mp h i hi
  rw [List.contains_iff_mem.mpr z] at this
  cases this
theorem nis {l r : List Nat} (h : (l.all fun i => r.contains i) = true) : ∀ i ∈ l, i ∈ r := fun i hi => List.contains_iff_mem.mp (List.all_eq_true.mp h i hi)
/-! ### the state -/
/-- a slot's datum: frozen, or owned (changed in place) -/
inductive Sl where
  | fz (d : D)
  | ow (d : D)
abbrev Rho := List (Option Sl)
/-- what belongs to others (kept as it is), the values of the in-and-out parameters -/
structure Am where
  R : Hp
  pv : Nat → V

/-- the object at p, not frozen itself, holds d; what is in it is frozen -/
def Own (T : Tb) (G H : Hp) (p : Addr) : D → Prop
  | .lst ds => ∃ vs, H p = some (.lst vs) ∧ Reps T G vs ds
  | .dic false ds => ∃ ks, H p = some (.dK ks) ∧ KReps T G ks ds
  | .dic true ds => ∃ ks, H p = some (.dT ks) ∧ TReps T G ks ds
  | .ins c ds => ∃ dx fs, H p = some (.ins (T.cl c) dx fs) ∧ FReps T G fs ds
  | _ => False

/-- all but lists, dicts and instances is as it was -/
def Fixed : HO → Prop
  | .lst _ => False
  | .dK _ => False
  | .dT _ => False
  | .ins _ _ _ => False
  | _ => True
def Keep (H H' : Hp) : Prop := ∀ a o, H a = some o → Fixed o → H' a = some o
theorem Keep.of {H H' : Hp} (e : Same H H') : Keep H H' := fun a o h _ => e a o h
theorem Keep.refl (H : Hp) : Keep H H := fun _ _ h _ => h
theorem Keep.trans {A B C : Hp} (a : Keep A B) (b : Keep B C) : Keep A C := fun p o h f => b p o (a p o h f) f
/-- the in-and-out parameters; what else holds around -/
structure Io where
  ix : List Nat
  am : Am → Hp → Hp → Prop
  st : ∀ m G G' H H', am m G H → Same G G' → Keep H H' → am m G' H'
  cmp : Prop
  mv : cmp → ∀ m m' G H, am m G H → m'.pv = m.pv → (∀ a ps, m'.R a = some (.tbl ps) → m.R a = some (.tbl ps)) → am m' G H
def ioL (ix : List Nat) : Io := ⟨ix, fun _ _ _ => True, fun _ _ _ _ _ _ _ _ => True.intro, True, fun _ _ _ _ _ _ _ _ => True.intro⟩
structure SR (T : Tb) (io : Io) (m : Am) (G H : Hp) (σ : St) (ρ : Rho) : Prop where
  gh : Same G H
  rh : Same m.R H
  rg : ∀ a o, m.R a = some o → G a = none
  len : σ.length = ρ.length
  fz : ∀ (i : Nat) d, ρ[i]? = some (some (.fz d)) → ∃ v, σ[i]? = some (some v) ∧ Rep T G v d
  ow : ∀ (i : Nat) d, ρ[i]? = some (some (.ow d)) → ∃ p, σ[i]? = some (some (.ref p)) ∧ G p = none ∧ m.R p = none ∧ Own T G H p d
  ap : ∀ (i j : Nat) d e p, ρ[i]? = some (some (.ow d)) → ρ[j]? = some (some (.ow e)) → σ[i]? = some (some (.ref p)) → σ[j]? = some (some (.ref p)) → i = j
  pn : ∀ i ∈ io.ix, σ[i]? = some (some (m.pv i))
  am : io.am m G H
  gt : ∀ a ps, G a ≠ some (.tbl ps)

/-- p's object is new and nobody else's -/
structure Fre (T : Tb) (m : Am) (G H : Hp) (σ : St) (ρ : Rho) (p : Addr) (d : D) : Prop where
  g : G p = none
  r : m.R p = none
  own : Own T G H p d
  ap : ∀ (i : Nat) e, ρ[i]? = some (some (.ow e)) → σ[i]? ≠ some (some (.ref p))
/-- read now: frozen, or owned -/
def RepW (T : Tb) (G H : Hp) (v : V) (d : D) : Prop := Rep T G v d ∨ ∃ p, v = .ref p ∧ G p = none ∧ Own T G H p d

theorem same_upd {H : Hp} {p : Addr} {o : HO} (h : H p = none) : Same H (upd H p o) := fun b u e => by
  rw [upd_ne (ne_of_none e h)]
  exact e
theorem same_both {G H : Hp} {p : Addr} {o : HO} (e : Same G H) : Same (upd G p o) (upd H p o) := fun b u h => by
  by_cases hb : b = p
  · subst hb
    rw [upd_same] at h ⊢
    exact h
  · rw [upd_ne hb] at h ⊢
    exact e _ _ h
theorem same_in {G H : Hp} {p : Addr} {o : HO} (e : Same G H) (h : H p = some o) : Same (upd G p o) H := fun b u q => by
  by_cases hb : b = p
  · subst hb
    rw [upd_same] at q
    rw [h]
    exact q
  · rw [upd_ne hb] at q
    exact e _ _ q

theorem Own.mono {T : Tb} {G G' H H' : Hp} {p : Addr} {d : D} (g : Same G G') (h : ∀ o, H p = some o → H' p = some o) (x : Own T G H p d) : Own T G' H' p d := by
  cases d with
  | lst ds =>
    obtain ⟨vs, e, r⟩ := x
    exact ⟨vs, h _ e, r.mono g⟩
  | dic t ds =>
    cases t with
    | false =>
      obtain ⟨ks, e, r⟩ := x
      exact ⟨ks, h _ e, r.mono g⟩
    | true =>
      obtain ⟨ks, e, r⟩ := x
      exact ⟨ks, h _ e, r.mono g⟩
  | ins c ds =>
    obtain ⟨dx, fs, e, r⟩ := x
    exact ⟨dx, fs, h _ e, r.mono g⟩
  | non => exact x.elim
  | bl _ => exact x.elim
  | int _ => exact x.elim
  | str _ => exact x.elim
  | tup _ => exact x.elim
  | fn _ => exact x.elim
  | scr _ => exact x.elim
  | ktp _ => exact x.elim
theorem Own.obj {T : Tb} {G H : Hp} {p : Addr} {d : D} (x : Own T G H p d) : ∃ o, H p = some o := by
  cases d with
  | lst ds =>
    obtain ⟨vs, e, r⟩ := x
    exact ⟨_, e⟩
  | dic t ds =>
    cases t with
    | false =>
      obtain ⟨ks, e, r⟩ := x
      exact ⟨_, e⟩
    | true =>
      obtain ⟨ks, e, r⟩ := x
      exact ⟨_, e⟩
  | ins c ds =>
    obtain ⟨dx, fs, e, r⟩ := x
    exact ⟨_, e⟩
  | non => exact x.elim
  | bl _ => exact x.elim
  | int _ => exact x.elim
  | str _ => exact x.elim
  | tup _ => exact x.elim
  | fn _ => exact x.elim
  | scr _ => exact x.elim
  | ktp _ => exact x.elim
/-- an owned object is a list, a dict or an instance -/
theorem Own.fixed {T : Tb} {G H : Hp} {p : Addr} {o : HO} {d : D} (x : Own T G H p d) (h : H p = some o) (f : Fixed o) : False := by
  cases d with
  | lst ds =>
    obtain ⟨vs, e, r⟩ := x
    rw [h] at e
    cases e
    exact f
  | dic t ds =>
    cases t with
    | false =>
      obtain ⟨ks, e, r⟩ := x
      rw [h] at e
      cases e
      exact f
    | true =>
      obtain ⟨ks, e, r⟩ := x
      rw [h] at e
      cases e
      exact f
  | ins c ds =>
    obtain ⟨dx, fs, e, r⟩ := x
    rw [h] at e
    cases e
    exact f
  | _ => exact x.elim
/-- frozen from now on -/
theorem Own.rep {T : Tb} {G H : Hp} {p : Addr} {o : HO} {d : D} (x : Own T G H p d) (h : H p = some o) (g : G p = none) : Rep T (upd G p o) (.ref p) d := by
  have sm : Same G (upd G p o) := same_upd g
  cases d with
  | lst ds =>
    obtain ⟨vs, e, r⟩ := x
    rw [h] at e
    cases e
    exact .lst upd_same (r.mono sm)
  | dic t ds =>
    cases t with
    | false =>
      obtain ⟨ks, e, r⟩ := x
      rw [h] at e
      cases e
      exact .dik upd_same (r.mono sm)
    | true =>
      obtain ⟨ks, e, r⟩ := x
      rw [h] at e
      cases e
      exact .dit upd_same (r.mono sm)
  | ins c ds =>
    obtain ⟨dx, fs, e, r⟩ := x
    rw [h] at e
    cases e
    exact .ins upd_same (r.mono sm)
  | non => exact x.elim
  | bl _ => exact x.elim
  | int _ => exact x.elim
  | str _ => exact x.elim
  | tup _ => exact x.elim
  | fn _ => exact x.elim
  | scr _ => exact x.elim
  | ktp _ => exact x.elim

section
variable {T : Tb} {io : Io} {m : Am} {G H : Hp} {σ : St} {ρ : Rho}
theorem RepW.mono {G' H' : Hp} {v : V} {d : D} (x : RepW T G H v d) (g : Same G G') (h : Same H H') (n : ∀ p, v = .ref p → G p = none → G' p = none) : RepW T G' H' v d := by
  rcases x with x | ⟨p, rfl, e, x⟩
  · exact .inl (x.mono g)
  · exact .inr ⟨p, rfl, n p rfl e, x.mono g (h _)⟩
/-- as seen in the whole heap -/
theorem RepW.rep {v : V} {d : D} (s : Same G H) (x : RepW T G H v d) : Rep T H v d := by
  rcases x with x | ⟨p, rfl, e, x⟩
  · exact x.mono s
  · obtain ⟨o, ho⟩ := x.obj
    have r := x.rep ho e
    exact r.mono (same_in s ho)
theorem gt_upd {G : Hp} {p : Addr} {o : HO} (h : ∀ a ps, G a ≠ some (.tbl ps)) (ht : ∀ ps, o ≠ .tbl ps) : ∀ a ps, upd G p o a ≠ some (.tbl ps) := fun a ps z => by
  by_cases e : a = p
  · subst e
    rw [upd_same] at z
    exact ht ps (Option.some.inj z)
  · rw [upd_ne e] at z
    exact h a ps z
theorem Own.nottbl {p : Addr} {o : HO} {d : D} (x : Own T G H p d) (h : H p = some o) : ∀ ps, o ≠ .tbl ps := fun ps z => x.fixed h (by rw [z]; exact True.intro)
/-- a new object, not ours to follow -/
theorem SR.alloc {p : Addr} {o : HO} (s : SR T io m G H σ ρ) (h : H p = none) : SR T io m G (upd H p o) σ ρ :=
  ⟨s.gh.trans (same_upd h), s.rh.trans (same_upd h), s.rg, s.len, s.fz, fun i d e => by
    obtain ⟨q, e1, e2, e3, e4⟩ := s.ow i d e
    exact ⟨q, e1, e2, e3, e4.mono (Same.refl _) fun o ho => by rw [upd_ne (ne_of_none ho h)]; exact ho⟩, s.ap, s.pn, io.st _ _ _ _ _ s.am (Same.refl _) (.of (same_upd h)), s.gt⟩
/-- the heap grew -/
theorem SR.grow {H' : Hp} (s : SR T io m G H σ ρ) (e : Same H H') : SR T io m G H' σ ρ :=
  ⟨s.gh.trans e, s.rh.trans e, s.rg, s.len, s.fz, fun i d q => by
    obtain ⟨p, e1, e2, e3, e4⟩ := s.ow i d q
    exact ⟨p, e1, e2, e3, e4.mono (Same.refl _) fun o ho => e _ _ ho⟩, s.ap, s.pn, io.st _ _ _ _ _ s.am (Same.refl _) (.of e), s.gt⟩
/-- an object that is nobody's is frozen -/
theorem SR.freeze {p : Addr} {o : HO} (s : SR T io m G H σ ρ) (g : G p = none) (r : m.R p = none) (h : H p = some o) (n : ∀ (i : Nat) e, ρ[i]? = some (some (.ow e)) → σ[i]? ≠ some (some (.ref p))) (ht : ∀ ps, o ≠ .tbl ps := by intro _ z; cases z) : SR T io m (upd G p o) H σ ρ :=
  ⟨same_in s.gh h, s.rh, fun a u e => by rw [upd_ne (ne_of_none e r)]; exact s.rg a u e, s.len, fun i d e => by
    obtain ⟨v, e1, e2⟩ := s.fz i d e
    exact ⟨v, e1, e2.mono (same_upd g)⟩, fun i d e => by
    obtain ⟨q, e1, e2, e3, e4⟩ := s.ow i d e
    have qp : q ≠ p := fun z => n i d e (by rw [← z]; exact e1)
    exact ⟨q, e1, by rw [upd_ne qp]; exact e2, e3, e4.mono (same_upd g) fun _ z => z⟩, s.ap, s.pn, io.st _ _ _ _ _ s.am (same_upd g) (.refl _), gt_upd s.gt ht⟩
/-- a new frozen object -/
theorem SR.new {p : Addr} {o : HO} (s : SR T io m G H σ ρ) (h : H p = none) (ht : ∀ ps, o ≠ .tbl ps := by intro _ z; cases z) : SR T io m (upd G p o) (upd H p o) σ ρ := by
  have s1 := s.alloc (o := o) h
  refine s1.freeze (s.gh.free h) (s.rh.free h) upd_same (fun i e q z => ?_) ht
  obtain ⟨p', e1, _, _, e4⟩ := s.ow i e q
  rw [z] at e1
  cases e1
  obtain ⟨o', ho⟩ := e4.obj
  rw [h] at ho
  cases ho
theorem SR.set {i : Nat} {v : V} {d : D} (s : SR T io m G H σ ρ) (r : Rep T G v d) (n : i ∉ io.ix) : SR T io m G H (σ.set i (some v)) (ρ.set i (some (.fz d))) := by
  have ne : ∀ {j : Nat} {x : Option Sl}, (ρ.set i (some (.fz d)))[j]? = some x → j ≠ i → ρ[j]? = some x := fun {j x} e h => by
    rw [List.getElem?_set_ne (Ne.symm h)] at e
    exact e
  have nei : ∀ {j : Nat} {e : D}, (ρ.set i (some (.fz d)))[j]? = some (some (.ow e)) → j ≠ i := fun {j e} h z => by
    subst z
    have hl : j < ρ.length := by
      have := (List.getElem?_eq_some_iff.mp h).1
      simpa using this
    rw [List.getElem?_set_self hl] at h
    cases h
  refine ⟨s.gh, s.rh, s.rg, by simp [s.len], fun j e h => ?_, fun j e h => ?_, fun j k e f p h1 h2 h3 h4 => ?_, fun j hj => ?_, s.am, s.gt⟩
  · by_cases hj : j = i
    · subst hj
      have hl : j < ρ.length := by
        have := (List.getElem?_eq_some_iff.mp h).1
        simpa using this
      rw [List.getElem?_set_self hl] at h
      cases h
      exact ⟨v, by rw [List.getElem?_set_self (by rw [s.len]; exact hl)], r⟩
    · obtain ⟨u, e1, e2⟩ := s.fz j e (ne h hj)
      exact ⟨u, by rw [List.getElem?_set_ne (Ne.symm hj)]; exact e1, e2⟩
  · have hj := nei h
    obtain ⟨p, e1, e2⟩ := s.ow j e (ne h hj)
    exact ⟨p, by rw [List.getElem?_set_ne (Ne.symm hj)]; exact e1, e2⟩
  · have hj := nei h1
    have hk := nei h2
    rw [List.getElem?_set_ne (Ne.symm hj)] at h3
    rw [List.getElem?_set_ne (Ne.symm hk)] at h4
    exact s.ap j k e f p (ne h1 hj) (ne h2 hk) h3 h4
  · have hji : j ≠ i := fun z => n (by rw [← z]; exact hj)
    rw [List.getElem?_set_ne (Ne.symm hji)]
    exact s.pn j hj
theorem SR.setO {i : Nat} {p : Addr} {d : D} (s : SR T io m G H σ ρ) (f : Fre T m G H σ ρ p d) (n : i ∉ io.ix) : SR T io m G H (σ.set i (some (.ref p))) (ρ.set i (some (.ow d))) := by
  have ne : ∀ {j : Nat} {x : Option Sl}, (ρ.set i (some (.ow d)))[j]? = some x → j ≠ i → ρ[j]? = some x := fun {j x} e h => by
    rw [List.getElem?_set_ne (Ne.symm h)] at e
    exact e
  have at_i : ∀ {x : Option Sl}, (ρ.set i (some (.ow d)))[i]? = some x → x = some (.ow d) ∧ i < ρ.length := fun {x} h => by
    have hl : i < ρ.length := by
      have := (List.getElem?_eq_some_iff.mp h).1
      simpa using this
    rw [List.getElem?_set_self hl] at h
    exact ⟨(Option.some.inj h).symm, hl⟩
  refine ⟨s.gh, s.rh, s.rg, by simp [s.len], fun j e h => ?_, fun j e h => ?_, fun j k e f' q h1 h2 h3 h4 => ?_, fun j hj => ?_, s.am, s.gt⟩
  · by_cases hj : j = i
    · subst hj
      cases (at_i h).1
    · obtain ⟨u, e1, e2⟩ := s.fz j e (ne h hj)
      exact ⟨u, by rw [List.getElem?_set_ne (Ne.symm hj)]; exact e1, e2⟩
  · by_cases hj : j = i
    · subst hj
      obtain ⟨z, hl⟩ := at_i h
      cases z
      exact ⟨p, by rw [List.getElem?_set_self (by rw [s.len]; exact hl)], f.g, f.r, f.own⟩
    · obtain ⟨q, e1, e2⟩ := s.ow j e (ne h hj)
      exact ⟨q, by rw [List.getElem?_set_ne (Ne.symm hj)]; exact e1, e2⟩
  · by_cases hj : j = i
    · by_cases hk : k = i
      · rw [hj, hk]
      · exfalso
        subst hj
        rw [List.getElem?_set_self (by rw [s.len]; exact (at_i h1).2)] at h3
        cases h3
        rw [List.getElem?_set_ne (Ne.symm hk)] at h4
        exact f.ap k f' (ne h2 hk) h4
    · by_cases hk : k = i
      · exfalso
        subst hk
        rw [List.getElem?_set_self (by rw [s.len]; exact (at_i h2).2)] at h4
        cases h4
        rw [List.getElem?_set_ne (Ne.symm hj)] at h3
        exact f.ap j e (ne h1 hj) h3
      · rw [List.getElem?_set_ne (Ne.symm hj)] at h3
        rw [List.getElem?_set_ne (Ne.symm hk)] at h4
        exact s.ap j k e f' q (ne h1 hj) (ne h2 hk) h3 h4
  · have hji : j ≠ i := fun z => n (by rw [← z]; exact hj)
    rw [List.getElem?_set_ne (Ne.symm hji)]
    exact s.pn j hj
/-- an owned object is written -/
theorem SR.write {i : Nat} {p : Addr} {d d' : D} {o : HO} (s : SR T io m G H σ ρ) (e : ρ[i]? = some (some (.ow d))) (ep : σ[i]? = some (some (.ref p))) (x : Own T G (upd H p o) p d') : SR T io m G (upd H p o) σ (ρ.set i (some (.ow d'))) := by
  obtain ⟨p', e1, g, r, w⟩ := s.ow i d e
  rw [ep] at e1
  cases e1
  have hl : i < ρ.length := (List.getElem?_eq_some_iff.mp e).1
  have sm : ∀ (A : Hp), Same A H → A p = none → Same A (upd H p o) := fun A h n b u q => by
    rw [upd_ne (ne_of_none q n)]
    exact h _ _ q
  have kp : Keep H (upd H p o) := fun b u hb hf => by
    have hp : b ≠ p := fun z => by
      subst z
      exact w.fixed hb hf
    rw [upd_ne hp]
    exact hb
  refine ⟨sm _ s.gh g, sm _ s.rh r, s.rg, by simp [s.len], fun j e' h => ?_, fun j e' h => ?_, fun j k e' f' q h1 h2 h3 h4 => ?_, s.pn, io.st _ _ _ _ _ s.am (Same.refl _) kp, s.gt⟩
  · by_cases hj : j = i
    · subst hj
      rw [List.getElem?_set_self hl] at h
      cases h
    · rw [List.getElem?_set_ne (Ne.symm hj)] at h
      exact s.fz j e' h
  · by_cases hj : j = i
    · subst hj
      rw [List.getElem?_set_self hl] at h
      cases h
      exact ⟨p, ep, g, r, x⟩
    · rw [List.getElem?_set_ne (Ne.symm hj)] at h
      obtain ⟨q, e1, e2, e3, e4⟩ := s.ow j e' h
      have qp : q ≠ p := fun z => hj (s.ap j i e' d p h e (by rw [← z]; exact e1) ep)
      exact ⟨q, e1, e2, e3, e4.mono (Same.refl _) fun u hu => by rw [upd_ne qp]; exact hu⟩
  · have back : ∀ {j : Nat} {e' : D}, (ρ.set i (some (.ow d')))[j]? = some (some (.ow e')) → ∃ e'', ρ[j]? = some (some (.ow e'')) := fun {j e'} h => by
      by_cases hj : j = i
      · subst hj
        exact ⟨d, e⟩
      · rw [List.getElem?_set_ne (Ne.symm hj)] at h
        exact ⟨e', h⟩
    obtain ⟨a1, b1⟩ := back h1
    obtain ⟨a2, b2⟩ := back h2
    exact s.ap j k a1 a2 q b1 b2 h3 h4
/-- an owned object is given up: frozen from now on -/
theorem SR.give {i : Nat} {d : D} (s : SR T io m G H σ ρ) (e : ρ[i]? = some (some (.ow d))) : ∃ p o, σ[i]? = some (some (.ref p)) ∧ H p = some o ∧ G p = none ∧ Rep T (upd G p o) (.ref p) d ∧ SR T io m (upd G p o) H σ (ρ.set i (some (.fz d))) := by
  obtain ⟨p, e1, g, r, w⟩ := s.ow i d e
  obtain ⟨o, ho⟩ := w.obj
  have hl : i < ρ.length := (List.getElem?_eq_some_iff.mp e).1
  have rp := w.rep ho g
  refine ⟨p, o, e1, ho, g, rp, same_in s.gh ho, s.rh, fun a u q => by rw [upd_ne (ne_of_none q r)]; exact s.rg a u q, by simp [s.len], fun j e' h => ?_, fun j e' h => ?_, fun j k e' f' q h1 h2 h3 h4 => ?_, s.pn, io.st _ _ _ _ _ s.am (same_upd g) (.refl _), gt_upd s.gt (w.nottbl ho)⟩
  · by_cases hj : j = i
    · subst hj
      rw [List.getElem?_set_self hl] at h
      cases h
      exact ⟨_, e1, rp⟩
    · rw [List.getElem?_set_ne (Ne.symm hj)] at h
      obtain ⟨v, a, b⟩ := s.fz j e' h
      exact ⟨v, a, b.mono (same_upd g)⟩
  · by_cases hj : j = i
    · subst hj
      rw [List.getElem?_set_self hl] at h
      cases h
    · rw [List.getElem?_set_ne (Ne.symm hj)] at h
      obtain ⟨q, a1, a2, a3, a4⟩ := s.ow j e' h
      have qp : q ≠ p := fun z => hj (s.ap j i e' d p h e (by rw [← z]; exact a1) e1)
      exact ⟨q, a1, by rw [upd_ne qp]; exact a2, a3, a4.mono (same_upd g) fun _ z => z⟩
  · have back : ∀ {j : Nat} {e' : D}, (ρ.set i (some (.fz d)))[j]? = some (some (.ow e')) → ρ[j]? = some (some (.ow e')) := fun {j e'} h => by
      by_cases hj : j = i
      · subst hj
        rw [List.getElem?_set_self hl] at h
        cases h
      · rw [List.getElem?_set_ne (Ne.symm hj)] at h
        exact h
    exact s.ap j k e' f' q (back h1) (back h2) h3 h4
/-- slots are forgotten -/
theorem SR.weak {σ' : St} {ρ' : Rho} (s : SR T io m G H σ ρ) (hl : σ'.length = ρ'.length) (h : ∀ (i : Nat) x, ρ'[i]? = some (some x) → ρ[i]? = some (some x) ∧ σ'[i]? = σ[i]?) (hp : ∀ i ∈ io.ix, σ'[i]? = σ[i]?) : SR T io m G H σ' ρ' :=
  ⟨s.gh, s.rh, s.rg, hl, fun i d e => by
    obtain ⟨a, b⟩ := h i _ e
    rw [b]
    exact s.fz i d a, fun i d e => by
    obtain ⟨a, b⟩ := h i _ e
    rw [b]
    exact s.ow i d a, fun i j d e p h1 h2 h3 h4 => by
    obtain ⟨a, b⟩ := h i _ h1
    obtain ⟨a', b'⟩ := h j _ h2
    rw [b] at h3
    rw [b'] at h4
    exact s.ap i j d e p a a' h3 h4, fun i hi => by rw [hp i hi]; exact s.pn i hi, s.am, s.gt⟩
/-- a new object -/
theorem SR.fre {p : Addr} {o : HO} {d : D} (s : SR T io m G H σ ρ) (h : H p = none) (w : Own T G (upd H p o) p d) : Fre T m G (upd H p o) σ ρ p d :=
  ⟨s.gh.free h, s.rh.free h, w, fun i e q z => by
    obtain ⟨p', e1, _, _, e4⟩ := s.ow i e q
    rw [z] at e1
    cases e1
    obtain ⟨o', ho⟩ := e4.obj
    rw [h] at ho
    cases ho⟩
theorem Fre.freeze {p : Addr} {d : D} (f : Fre T m G H σ ρ p d) (s : SR T io m G H σ ρ) : ∃ o, H p = some o ∧ Rep T (upd G p o) (.ref p) d ∧ SR T io m (upd G p o) H σ ρ ∧ Same G (upd G p o) := by
  obtain ⟨o, ho⟩ := f.own.obj
  exact ⟨o, ho, f.own.rep ho f.g, s.freeze f.g f.r ho f.ap (f.own.nottbl ho), same_upd f.g⟩
end
end VL

set_option Elab.async false
set_option linter.all false
set_option maxRecDepth 100000
set_option maxHeartbeats 2000000
/-! VL2: outcomes; expressions by their denotations -/
namespace VL
open PySem PySem.Spec L2

/-- what comes of running -/
inductive Ro (α : Type) where
  | ok (a : α) (ρ : Rho)
  | err (e : Str) (fs : List (Str × D)) (ρ : Rho)
  | stuck
def Ro.bind {α β : Type} (r : Ro α) (f : α → Rho → Ro β) : Ro β := match r with
  | .ok a ρ => f a ρ
  | .err e fs ρ => .err e fs ρ
  | .stuck => .stuck
def Ro.of {α : Type} (o : Option α) (ρ : Rho) : Ro α := match o with
  | some a => .ok a ρ
  | none => .stuck
@[simp] theorem Ro.bind_ok {α β : Type} (a : α) (ρ : Rho) (f : α → Rho → Ro β) : (Ro.ok a ρ).bind f = f a ρ := rfl
@[simp] theorem Ro.bind_err {α β : Type} (e : Str) (fs : List (Str × D)) (ρ : Rho) (f : α → Rho → Ro β) : (Ro.err e fs ρ : Ro α).bind f = .err e fs ρ := rfl
@[simp] theorem Ro.bind_stuck {α β : Type} (f : α → Rho → Ro β) : (Ro.stuck : Ro α).bind f = .stuck := rfl
@[simp] theorem Ro.of_some {α : Type} (a : α) (ρ : Rho) : Ro.of (some a) ρ = .ok a ρ := rfl
@[simp] theorem Ro.of_none {α : Type} (ρ : Rho) : (Ro.of none ρ : Ro α) = .stuck := rfl

/-- strong: frozen; weak: to be read at once; fresh: new and nobody's -/
inductive Kd where
  | st | wk | fr
structure Cc where
  T : Tb
  io : Io
  W : WX
def XRep (T : Tb) (G H : Hp) (dx : Option Addr) (fs : List (Str × D)) : Prop := match dx with
  | some d => ∃ vs, G d = some (.xd vs) ∧ FReps T G vs fs
  | none => fs = []
def KRep (T : Tb) (m : Am) (σ : St) (k : Kd) (G H : Hp) (ρ : Rho) (x : V) (v : D) : Prop := match k with
  | .st => Rep T G x v
  | .wk => Rep T G x v ∨ ∃ (i : Nat) (p : Addr), x = .ref p ∧ ρ[i]? = some (some (.ow v)) ∧ σ[i]? = some (some (.ref p))
  | .fr => ∃ p, x = .ref p ∧ Fre T m G H σ ρ p v
def Out {α ξ : Type} (c : Cc) (m : Am) (G H : Hp) (σ : St) (ρ : Rho) (q : Bool) (rel : Hp → Hp → Rho → ξ → α → Prop) (r : Ro α) (Q : ξ → Hp → Prop) : Prop := match r with
  | .ok v ρ' => ∀ x G' H', Same G G' → (q = true → Same H H' ∧ ρ' = ρ) → SR c.T c.io m G' H' σ ρ' → rel G' H' ρ' x v → Q x H'
  | .err e fs ρ' => ∀ dx G' H', Same G G' → (q = true → Same H H' ∧ ρ' = ρ) → SR c.T c.io m G' H' σ ρ' → XRep c.T G' H' dx fs → c.W (.ref (c.T.cl e)) dx σ H'
  | .stuck => False
def tE (c : Cc) (k : Kd) (q : Bool) (d : Rho → Ro D) : TE := fun σ H Q => ∃ m G ρ, SR c.T c.io m G H σ ρ ∧ Out c m G H σ ρ q (KRep c.T m σ k) (d ρ) Q
def tT (c : Cc) (q : Bool) (d : Rho → Ro Bool) : TT := fun σ H Q => ∃ m G ρ, SR c.T c.io m G H σ ρ ∧ Out c m G H σ ρ q (fun _ _ _ x v => x = v) (d ρ) Q
def tA (c : Cc) (q : Bool) (d : Rho → Ro (List D)) : TA := fun σ H Q => ∃ m G ρ, SR c.T c.io m G H σ ρ ∧ Out c m G H σ ρ q (fun G' _ _ xs vs => Reps c.T G' xs vs) (d ρ) Q
structure DE (c : Cc) (X : Cx) (k : Kd) (q : Bool) (e : Expr) (d : Rho → Ro D) : Prop where
  pe : PE X e (tE c k q d)
structure DT (c : Cc) (X : Cx) (q : Bool) (e : Expr) (d : Rho → Ro Bool) : Prop where
  pt : PT X e (tT c q d)
structure DW (c : Cc) (X : Cx) (q : Bool) (e : Expr) (d : Rho → Ro Bool) : Prop where
  pw : PW X e (tT c q d)
structure DA (c : Cc) (X : Cx) (q : Bool) (es : List Expr) (d : Rho → Ro (List D)) : Prop where
  pa : PA X es (tA c q d)
theorem DW.dt {c : Cc} {X : Cx} {q : Bool} {e : Expr} {d : Rho → Ro Bool} (h : DW c X q e d) : DT c X q e d := ⟨h.pw.pt⟩

theorem pe_imp {X : Cx} {e : Expr} {t t' : TE} (h : PE X e t) (i : ∀ σ H Q, t' σ H Q → t σ H Q) : PE X e t' := ⟨fun pins s σ H Q I q => h.run pins s σ H Q I (i _ _ _ q)⟩
theorem pt_imp {X : Cx} {e : Expr} {t t' : TT} (h : PT X e t) (i : ∀ σ H Q, t' σ H Q → t σ H Q) : PT X e t' := ⟨fun pins s σ H Q I q => h.run pins s σ H Q I (i _ _ _ q)⟩
theorem pw_imp {X : Cx} {e : Expr} {t t' : TT} (h : PW X e t) (i : ∀ σ H Q, t' σ H Q → t σ H Q) : PW X e t' := ⟨fun w pins s σ H Q I q => h.run w pins s σ H Q I (i _ _ _ q)⟩
theorem pa_imp {X : Cx} {es : List Expr} {t t' : TA} (h : PA X es t) (i : ∀ σ H Q, t' σ H Q → t σ H Q) : PA X es t' := ⟨fun p pins s σ H Q I q => h.run p pins s σ H Q I (i _ _ _ q)⟩

section
variable {c : Cc} {m : Am} {G H G1 H1 : Hp} {σ : St} {ρ ρ1 : Rho} {q q1 q2 : Bool} {α β ξ η : Type}
theorem Out.step {rel : Hp → Hp → Rho → ξ → α → Prop} {r : Ro α} {Q : ξ → Hp → Prop} (h : Out c m G H σ ρ (q1 && q2) rel r Q) (g : Same G G1) (e : q1 = true → Same H H1 ∧ ρ1 = ρ) : Out c m G1 H1 σ ρ1 q2 rel r Q := by
  cases r with
  | ok v ρ' =>
    intro x G' H' g' q' s r
    refine h x G' H' (g.trans g') (fun hq => ?_) s r
    rw [Bool.and_eq_true] at hq
    obtain ⟨a, b⟩ := e hq.1
    obtain ⟨a', b'⟩ := q' hq.2
    exact ⟨a.trans a', b'.trans b⟩
  | err e' fs ρ' =>
    intro dx G' H' g' q' s r
    refine h dx G' H' (g.trans g') (fun hq => ?_) s r
    rw [Bool.and_eq_true] at hq
    obtain ⟨a, b⟩ := e hq.1
    obtain ⟨a', b'⟩ := q' hq.2
    exact ⟨a.trans a', b'.trans b⟩
  | stuck => exact h
theorem Out.imp {rel : Hp → Hp → Rho → ξ → α → Prop} {r : Ro α} {Q Q' : ξ → Hp → Prop} (h : Out c m G H σ ρ q rel r Q) (i : ∀ x H', Q x H' → Q' x H') : Out c m G H σ ρ q rel r Q' := by
  cases r with
  | ok v ρ' => exact fun x G' H' g' q' s r => i _ _ (h x G' H' g' q' s r)
  | err e' fs ρ' => exact h
  | stuck => exact h
theorem Out.noq {rel : Hp → Hp → Rho → ξ → α → Prop} {r : Ro α} {Q : ξ → Hp → Prop} (h : Out c m G H σ ρ false rel r Q) : Out c m G H σ ρ q rel r Q := by
  cases r with
  | ok v ρ' => exact fun x G' H' g' q' s r => h x G' H' g' (fun z => nomatch z) s r
  | err e' fs ρ' => exact fun dx G' H' g' q' s r => h dx G' H' g' (fun z => nomatch z) s r
  | stuck => exact h
/-- one thing, then another -/
theorem Out.bind {rel : Hp → Hp → Rho → ξ → α → Prop} {rel2 : Hp → Hp → Rho → η → β → Prop} {r : Ro α} {F : α → Rho → Ro β} {Q : η → Hp → Prop} (h : Out c m G H σ ρ (q1 && q2) rel2 (r.bind F) Q) :
    Out c m G H σ ρ q1 rel r (fun x H1 => ∃ G1 ρ1 v, Same G G1 ∧ (q1 = true → Same H H1 ∧ ρ1 = ρ) ∧ SR c.T c.io m G1 H1 σ ρ1 ∧ rel G1 H1 ρ1 x v ∧ Out c m G1 H1 σ ρ1 q2 rel2 (F v ρ1) Q) := by
  cases r with
  | ok v ρ' => exact fun x G' H' g' q' s r => ⟨G', ρ', v, g', q', s, r, Out.step h g' q'⟩
  | err e' fs ρ' => exact fun dx G' H' g' q' s r => h dx G' H' g' (fun hq => q' (Bool.and_eq_true_iff.mp hq).1) s r
  | stuck => exact h
/-- a value at once -/
theorem Out.ret {rel : Hp → Hp → Rho → ξ → α → Prop} {v : α} {Q : ξ → Hp → Prop} (h : Out c m G H σ ρ q rel (.ok v ρ) Q) (s : SR c.T c.io m G H σ ρ) {x : ξ} (r : rel G H ρ x v) : Q x H := h x G H (Same.refl _) (fun _ => ⟨Same.refl _, rfl⟩) s r
theorem Out.pure {rel : Hp → Hp → Rho → ξ → α → Prop} {v : α} {Q : ξ → Hp → Prop} {G' H' : Hp} (h : Out c m G H σ ρ q rel (.ok v ρ) Q) (g : Same G G') (e : Same H H') (s : SR c.T c.io m G' H' σ ρ) {x : ξ} (r : rel G' H' ρ x v) : Q x H' := h x G' H' g (fun _ => ⟨e, rfl⟩) s r
end

/-! ### kinds -/
section
variable {c : Cc} {X : Cx} {k : Kd} {q : Bool} {e : Expr} {d : Rho → Ro D}
theorem tE_wk {σ : St} {H : Hp} {Q : VK} (h : tE c .wk q d σ H Q) : tE c .st q d σ H Q := by
  obtain ⟨m, G, ρ, s, o⟩ := h
  refine ⟨m, G, ρ, s, ?_⟩
  cases hr : d ρ with
  | ok v ρ' =>
    rw [hr] at o
    exact fun x G' H' g' q' s' r => o x G' H' g' q' s' (.inl r)
  | err e' fs ρ' =>
    rw [hr] at o
    exact o
  | stuck =>
    rw [hr] at o
    exact o
theorem tE_fr {σ : St} {H : Hp} {Q : VK} (h : tE c .st q d σ H Q) : tE c .fr q d σ H Q := by
  obtain ⟨m, G, ρ, s, o⟩ := h
  refine ⟨m, G, ρ, s, ?_⟩
  cases hr : d ρ with
  | ok v ρ' =>
    rw [hr] at o
    rintro x G' H' g' q' s' ⟨p, rfl, f⟩
    obtain ⟨u, hu, rp, s2, g2⟩ := f.freeze s'
    exact o _ _ H' (g'.trans g2) q' s2 rp
  | err e' fs ρ' =>
    rw [hr] at o
    exact o
  | stuck =>
    rw [hr] at o
    exact o
/-- frozen where it stands -/
theorem DE.fz (h : DE c X .fr q e d) : DE c X .st q e d := ⟨pe_imp h.pe fun _ _ _ => tE_fr⟩
theorem DE.wk (h : DE c X .st q e d) : DE c X .wk q e d := ⟨pe_imp h.pe fun _ _ _ => tE_wk⟩
theorem DE.noq (h : DE c X k true e d) : DE c X k q e d := ⟨pe_imp h.pe fun σ H Q ⟨m, G, ρ, s, o⟩ => ⟨m, G, ρ, s, by
  cases q with
  | true => exact o
  | false => exact o.noq⟩⟩
theorem krep_w {m : Am} {G H : Hp} {σ : St} {ρ : Rho} {x : V} {v : D} (s : SR c.T c.io m G H σ ρ) (r : KRep c.T m σ k G H ρ x v) : RepW c.T G H x v := by
  cases k with
  | st => exact .inl r
  | wk =>
    rcases r with r | ⟨i, p, rfl, e1, e2⟩
    · exact .inl r
    · obtain ⟨p', h1, h2, _, h4⟩ := s.ow i v e1
      rw [e2] at h1
      cases h1
      exact .inr ⟨p, rfl, h2, h4⟩
  | fr =>
    obtain ⟨p, rfl, f⟩ := r
    exact .inr ⟨p, rfl, f.g, f.own⟩
/-- what is read first is still readable behind what is read then -/
theorem krep_keep {m : Am} {G H G' H' : Hp} {σ : St} {ρ ρ' : Rho} {x : V} {v : D} {q : Bool} (hk : k = .st ∨ (k = .wk ∧ q = true)) (r : KRep c.T m σ k G H ρ x v) (g : Same G G') (e : q = true → Same H H' ∧ ρ' = ρ) (s' : SR c.T c.io m G' H' σ ρ') : RepW c.T G' H' x v := by
  rcases hk with rfl | ⟨rfl, hq⟩
  · exact .inl (Rep.mono g r)
  · obtain ⟨_, e2⟩ := e hq
    subst e2
    refine krep_w (k := .wk) s' ?_
    rcases r with r | r
    · exact .inl (r.mono g)
    · exact .inr r

/-! ### operators and the like, by values -/
def OpD (T : Tb) (r : R2) (k : Kd) (f : D → D → Option D) : Prop := ∀ (io : Io) (m : Am) (G H : Hp) (σ : St) (ρ : Rho) (x y : V) (a b z : D) (Q : VK), SR T io m G H σ ρ → RepW T G H x a → RepW T G H y b → f a b = some z →
  (∀ v G' H', Same G G' → Same H H' → SR T io m G' H' σ ρ → KRep T m σ k G' H' ρ v z → Q v H') → r x y H Q
def UnD (T : Tb) (r : V → Hp → VK → Prop) (k : Kd) (f : D → Option D) : Prop := ∀ (io : Io) (m : Am) (G H : Hp) (σ : St) (ρ : Rho) (x : V) (a z : D) (Q : VK), SR T io m G H σ ρ → RepW T G H x a → f a = some z →
  (∀ v G' H', Same G G' → Same H H' → SR T io m G' H' σ ρ → KRep T m σ k G' H' ρ v z → Q v H') → r x H Q
def CallD (T : Tb) (r : List V → Hp → VK → Prop) (k : Kd) (f : List D → Option D) : Prop := ∀ (io : Io) (m : Am) (G H : Hp) (σ : St) (ρ : Rho) (xs : List V) (as : List D) (z : D) (Q : VK), SR T io m G H σ ρ → Reps T G xs as → f as = some z →
  (∀ v G' H', Same G G' → Same H H' → SR T io m G' H' σ ρ → KRep T m σ k G' H' ρ v z → Q v H') → r xs H Q
/-- one argument, perhaps owned -/
def Call1D (T : Tb) (r : List V → Hp → VK → Prop) (k : Kd) (f : D → Option D) : Prop := ∀ (io : Io) (m : Am) (G H : Hp) (σ : St) (ρ : Rho) (x : V) (a z : D) (Q : VK), SR T io m G H σ ρ → RepW T G H x a → f a = some z →
  (∀ v G' H', Same G G' → Same H H' → SR T io m G' H' σ ρ → KRep T m σ k G' H' ρ v z → Q v H') → r [x] H Q
/-- a method of a built-in type that changes nothing -/
def MtD (T : Tb) (ty : String) (r : V → List V → Hp → VK → Prop) (k : Kd) (f : D → List D → Option D) : Prop := ∀ (io : Io) (m : Am) (G H : Hp) (σ : St) (ρ : Rho) (x : V) (xs : List V) (a : D) (as : List D) (z : D) (Q : VK), SR T io m G H σ ρ → RepW T G H x a → Reps T G xs as → f a as = some z →
  (∀ v G' H', Same G G' → Same H H' → SR T io m G' H' σ ρ → KRep T m σ k G' H' ρ v z → Q v H') → r x xs H Q

def dC (d : D) : Rho → Ro D := fun ρ => .ok d ρ
def dVar (i : Nat) : Rho → Ro D := fun ρ => match ρ[i]? with
  | some (some (.fz d)) => .ok d ρ
  | _ => .stuck
/-- read where it stands, frozen or owned -/
def dVarW (i : Nat) : Rho → Ro D := fun ρ => match ρ[i]? with
  | some (some (.fz d)) => .ok d ρ
  | some (some (.ow d)) => .ok d ρ
  | _ => .stuck
/-- an owned object is given away -/
def dGive (i : Nat) : Rho → Ro D := fun ρ => match ρ[i]? with
  | some (some (.fz d)) => .ok d ρ
  | some (some (.ow d)) => .ok d (ρ.set i (some (.fz d)))
  | _ => .stuck
def dOp (f : D → D → Option D) (da db : Rho → Ro D) : Rho → Ro D := fun ρ => (da ρ).bind fun x ρ1 => (db ρ1).bind fun y ρ2 => Ro.of (f x y) ρ2
def dUn (f : D → Option D) (da : Rho → Ro D) : Rho → Ro D := fun ρ => (da ρ).bind fun x ρ1 => Ro.of (f x) ρ1
def blD : D → Option Bool
  | .bl b => some b
  | _ => none
/-- a value that is a bool, as a test -/
def dB (da : Rho → Ro D) : Rho → Ro Bool := fun ρ => (da ρ).bind fun x ρ1 => Ro.of (blD x) ρ1
end

section
variable {c : Cc} {X : Cx} {ka kb k : Kd} {qa qb q : Bool} {a b e : Expr} {da db d : Rho → Ro D} {pos : Pos}
theorem tOp_of {r : R2} {f : D → D → Option D} (hd : OpD c.T r k f) (hk : ka = .st ∨ (ka = .wk ∧ qb = true)) {σ : St} {H : Hp} {Q : VK} (h : tE c k (qa && qb) (dOp f da db) σ H Q) : tOp r (tE c ka qa da) (tE c kb qb db) σ H Q := by
  obtain ⟨m, G, ρ, s, o⟩ := h
  have o' : Out c m G H σ ρ (qa && qb) (KRep c.T m σ k) ((da ρ).bind fun x ρ1 => (db ρ1).bind fun y ρ2 => Ro.of (f x y) ρ2) Q := o
  refine ⟨m, G, ρ, s, (Out.bind o').imp fun x H1 ⟨G1, ρ1, v, g1, e1, s1, r1, o1⟩ => ?_⟩
  have o1' : Out c m G1 H1 σ ρ1 (qb && true) (KRep c.T m σ k) ((db ρ1).bind fun y ρ2 => Ro.of (f v y) ρ2) Q := by
    rw [Bool.and_true]
    exact o1
  refine ⟨m, G1, ρ1, s1, (Out.bind o1').imp fun y H2 ⟨G2, ρ2, u, g2, e2, s2, r2, o2⟩ => ?_⟩
  cases hf : f v u with
  | none =>
    rw [hf] at o2
    exact o2.elim
  | some z =>
    rw [hf] at o2
    exact hd c.io m G2 H2 σ ρ2 x y v u z Q s2 (krep_keep hk r1 g2 e2 s2) (krep_w s2 r2) hf fun w G' H' g h' s' r' => Out.pure o2 g h' s' r'
theorem tUn_of {r : V → Hp → VK → Prop} {f : D → Option D} (hd : UnD c.T r k f) {σ : St} {H : Hp} {Q : VK} (h : tE c k qa (dUn f da) σ H Q) : tUn r (tE c ka qa da) σ H Q := by
  obtain ⟨m, G, ρ, s, o⟩ := h
  have o' : Out c m G H σ ρ (qa && true) (KRep c.T m σ k) ((da ρ).bind fun x ρ1 => Ro.of (f x) ρ1) Q := by
    rw [Bool.and_true]
    exact o
  refine ⟨m, G, ρ, s, (Out.bind o').imp fun x H1 ⟨G1, ρ1, v, g1, e1, s1, r1, o1⟩ => ?_⟩
  cases hf : f v with
  | none =>
    rw [hf] at o1
    exact o1.elim
  | some z =>
    rw [hf] at o1
    exact hd c.io m G1 H1 σ ρ1 x v z Q s1 (krep_w s1 r1) hf fun w G' H' g h' s' r' => Out.pure o1 g h' s' r'
theorem tB_of {σ : St} {H : Hp} {Q : Bool → Hp → Prop} (h : tT c q (dB d) σ H Q) : tE c k q d σ H (fun x H' => ∃ b, x = .bl b ∧ Q b H') := by
  obtain ⟨m, G, ρ, s, o⟩ := h
  have o' : Out c m G H σ ρ (q && true) (fun _ _ _ x v => x = v) ((d ρ).bind fun x ρ1 => Ro.of (blD x) ρ1) Q := by
    rw [Bool.and_true]
    exact o
  refine ⟨m, G, ρ, s, (Out.bind o').imp fun x H1 ⟨G1, ρ1, v, g1, e1, s1, r1, o1⟩ => ?_⟩
  cases v with
  | bl b =>
    rcases krep_w s1 r1 with r | ⟨p, _, _, w⟩
    · exact ⟨b, r.blV, Out.ret o1 s1 rfl⟩
    · exact w.elim
  | _ => exact o1.elim

/-! ### rules -/
theorem de_c {v : V} {d : D} (h : PE X e (tC v)) (r : ∀ G, Rep c.T G v d) : DE c X .st true e (dC d) :=
  ⟨pe_imp h fun σ H Q ⟨m, G, ρ, s, o⟩ => Out.ret o s (r G)⟩
theorem de_int {i : Int} {j : Nat} : DE c X .st true (.Constant (.int i) j pos) (dC (.int i)) := de_c pe_int fun _ => .int i
theorem de_bl {i : Bool} {j : Nat} : DE c X .st true (.Constant (.bool i) j pos) (dC (.bl i)) := de_c pe_bl fun _ => .bl i
theorem de_non {j : Nat} : DE c X .st true (.Constant .none j pos) (dC .non) := de_c pe_non fun _ => .non
theorem de_str {x : Str} {j : Nat} : DE c X .st true (.Constant (.str x) j pos) (dC (.str x)) := de_c pe_str fun _ => .str x
theorem de_var (i : Nat) {x : Str} (hN : X.N[i]? = some x := by rfl) (hv : Vis X.env.scope x := by first | exact Or.inl rfl | exact Or.inr (Or.inl rfl) | exact Or.inr (Or.inr rfl)) (hd : (x == ("__debug__" : Str)) = false := by decide)
    (hcd : (x == ("__classdict__" : Str)) = false := by decide) : DE c X .st true (.Name x pos) (dVar i) := by
  refine ⟨pe_imp (pe_var (i := i) hN hv hd hcd) fun σ H Q ⟨m, G, ρ, s, o⟩ => ?_⟩
  unfold dVar at o
  split at o
  · rename_i d e
    obtain ⟨v, e1, r⟩ := s.fz i d e
    exact ⟨v, e1, Out.ret o s r⟩
  · exact o.elim
theorem de_varW (i : Nat) {x : Str} (hN : X.N[i]? = some x := by rfl) (hv : Vis X.env.scope x := by first | exact Or.inl rfl | exact Or.inr (Or.inl rfl) | exact Or.inr (Or.inr rfl)) (hd : (x == ("__debug__" : Str)) = false := by decide)
    (hcd : (x == ("__classdict__" : Str)) = false := by decide) : DE c X .wk true (.Name x pos) (dVarW i) := by
  refine ⟨pe_imp (pe_var (i := i) hN hv hd hcd) fun σ H Q ⟨m, G, ρ, s, o⟩ => ?_⟩
  unfold dVarW at o
  split at o
  · rename_i d e
    obtain ⟨v, e1, r⟩ := s.fz i d e
    exact ⟨v, e1, Out.ret o s (.inl r)⟩
  · rename_i d e
    obtain ⟨p, e1, _⟩ := s.ow i d e
    exact ⟨_, e1, Out.ret o s (.inr ⟨i, p, rfl, e, e1⟩)⟩
  · exact o.elim
theorem de_give (i : Nat) {x : Str} (hN : X.N[i]? = some x := by rfl) (hv : Vis X.env.scope x := by first | exact Or.inl rfl | exact Or.inr (Or.inl rfl) | exact Or.inr (Or.inr rfl)) (hd : (x == ("__debug__" : Str)) = false := by decide)
    (hcd : (x == ("__classdict__" : Str)) = false := by decide) : DE c X .st false (.Name x pos) (dGive i) := by
  refine ⟨pe_imp (pe_var (i := i) hN hv hd hcd) fun σ H Q ⟨m, G, ρ, s, o⟩ => ?_⟩
  unfold dGive at o
  split at o
  · rename_i d e
    obtain ⟨v, e1, r⟩ := s.fz i d e
    exact ⟨v, e1, Out.ret o s r⟩
  · rename_i d e
    obtain ⟨p, u, e1, e2, e3, r, s'⟩ := s.give e
    exact ⟨_, e1, o _ _ H (same_upd e3) (fun z => nomatch z) s' r⟩
  · exact o.elim
theorem de_op {op : Operator} {r : R2} {f : D → D → Option D} (ho : OpR X (binaryOp op) r) (hd : OpD c.T r k f) (ha : DE c X ka qa a da) (hb : DE c X kb qb b db) (hk : ka = .st ∨ (ka = .wk ∧ qb = true) := by first | exact Or.inl rfl | exact Or.inr ⟨rfl, rfl⟩) :
    DE c X k (qa && qb) (.BinOp a op b pos) (dOp f da db) := ⟨pe_imp (pe_op ho ha.pe hb.pe) fun _ _ _ => tOp_of hd hk⟩
theorem de_un {op : UnaryOp} {r : V → Hp → VK → Prop} {f : D → Option D} (ho : UnR X (unaryOp op) r) (hd : UnD c.T r k f) (ha : DE c X ka qa a da) : DE c X k qa (.UnaryOp op a pos) (dUn f da) := ⟨pe_imp (pe_un ho ha.pe) fun _ _ _ => tUn_of hd⟩
theorem de_cmp {op : CmpOp} {r : R2} {f : D → D → Option D} (ho : OpR X (compareOp op) r) (hd : OpD c.T r k f) (ha : DE c X ka qa a da) (hb : DE c X kb qb b db) (hm : behindInMarks op b = false := by first | exact nomark _ | rfl)
    (hk : ka = .st ∨ (ka = .wk ∧ qb = true) := by first | exact Or.inl rfl | exact Or.inr ⟨rfl, rfl⟩) : DE c X k (qa && qb) (.Compare a [op] [b] pos) (dOp f da db) := ⟨pe_imp (pe_cmpR ho ha.pe hb.pe hm) fun _ _ _ => tOp_of hd hk⟩
theorem dt_cmp {op : CmpOp} {r : R2} {f : D → D → Option D} (ho : OpR X (compareOp op) r) (hd : OpD c.T r .st f) (ha : DE c X ka qa a da) (hb : DE c X kb qb b db) (hm : behindInMarks op b = false := by first | exact nomark _ | rfl)
    (hk : ka = .st ∨ (ka = .wk ∧ qb = true) := by first | exact Or.inl rfl | exact Or.inr ⟨rfl, rfl⟩) : DT c X (qa && qb) (.Compare a [op] [b] pos) (dB (dOp f da db)) :=
  ⟨pt_imp (pt_cmpR ho ha.pe hb.pe hm) fun σ H Q h => tOp_of (k := .st) hd hk (tB_of (k := .st) h)⟩
end
end VL

set_option Elab.async false
set_option linter.all false
set_option maxRecDepth 100000
set_option maxHeartbeats 2000000
/-! VL3: tests, and/or/not, conditional expressions, chains, arguments, displays, calls of built-ins, subscripts -/
namespace VL
open PySem PySem.Spec L2

/-! ### truth -/
def truD : D → Option Bool
  | .non => some false
  | .bl b => some b
  | .int i => some (i != 0)
  | .str x => if x.length ≤ sizeLine then some ((x.length : Int) != 0) else none
  | .lst xs => some (!xs.isEmpty)
  | .tup xs => some (!xs.isEmpty)
  | .ktp xs => some (!xs.isEmpty)
  | _ => none
section
variable {T : Tb} {G H : Hp}
theorem Reps.isEmpty {vs : List V} {ds : List D} (r : Reps T H vs ds) : vs.isEmpty = ds.isEmpty := by
  cases r <;> rfl
theorem tru_of {x : V} {d : D} {b : Bool} (s : Same G H) (r : RepW T G H x d) (h : truD d = some b) : TruV T.K x H b := by
  have r' := r.rep s
  cases d with
  | non =>
    cases r'
    exact (Option.some.inj h).symm
  | bl c =>
    cases r'
    exact (Option.some.inj h).symm
  | int i =>
    cases r'
    exact (Option.some.inj h).symm
  | str z =>
    cases r'
    have h : (if z.length ≤ sizeLine then some ((z.length : Int) != 0) else none) = some b := h
    by_cases hz : z.length ≤ sizeLine
    · rw [if_pos hz] at h
      exact ⟨hz, (Option.some.inj h).symm⟩
    · rw [if_neg hz] at h
      cases h
  | lst xs =>
    cases r' with
    | lst e rs => exact .inl ⟨_, .inl (.inl e), by rw [rs.isEmpty]; exact (Option.some.inj h).symm⟩
  | tup xs =>
    cases r' with
    | tup e rs => exact .inr (.inl ⟨_, .inl (.inl e), by rw [rs.isEmpty]; exact (Option.some.inj h).symm⟩)
  | ktp xs =>
    cases r' with
    | ktp e rs => exact .inr (.inl ⟨_, e, by rw [rs.isEmpty]; exact (Option.some.inj h).symm⟩)
  | _ => cases h
end

/-- a value's truth -/
def dTru (da : Rho → Ro D) : Rho → Ro Bool := fun ρ => (da ρ).bind fun x ρ1 => Ro.of (truD x) ρ1
def dNotT (t : Rho → Ro Bool) : Rho → Ro Bool := fun ρ => (t ρ).bind fun b ρ1 => .ok (!b) ρ1
def dAndT (t u : Rho → Ro Bool) : Rho → Ro Bool := fun ρ => (t ρ).bind fun b ρ1 => if b = true then u ρ1 else .ok false ρ1
def dOrT (t u : Rho → Ro Bool) : Rho → Ro Bool := fun ρ => (t ρ).bind fun b ρ1 => if b = true then .ok true ρ1 else u ρ1
/-- values -/
def dNot (da : Rho → Ro D) : Rho → Ro D := fun ρ => (da ρ).bind fun x ρ1 => (Ro.of (truD x) ρ1).bind fun b ρ2 => .ok (.bl (!b)) ρ2
def dAnd (da db : Rho → Ro D) : Rho → Ro D := fun ρ => (da ρ).bind fun x ρ1 => (Ro.of (truD x) ρ1).bind fun b ρ2 => if b = true then db ρ2 else .ok x ρ2
def dOr (da db : Rho → Ro D) : Rho → Ro D := fun ρ => (da ρ).bind fun x ρ1 => (Ro.of (truD x) ρ1).bind fun b ρ2 => if b = true then .ok x ρ2 else db ρ2
def dIf (t : Rho → Ro Bool) (da db : Rho → Ro D) : Rho → Ro D := fun ρ => (t ρ).bind fun b ρ1 => if b = true then da ρ1 else db ρ1
/-- a op b op' c -/
def dChain (f g : D → D → Option D) (da db dc : Rho → Ro D) : Rho → Ro D := fun ρ => (da ρ).bind fun x ρ1 => (db ρ1).bind fun y ρ2 => (Ro.of (f x y) ρ2).bind fun z ρ3 => (Ro.of (blD z) ρ3).bind fun b ρ4 =>
  if b = true then (dc ρ4).bind fun w ρ5 => Ro.of (g y w) ρ5 else .ok (.bl false) ρ4
def dNil : Rho → Ro (List D) := fun ρ => .ok [] ρ
def dCons (da : Rho → Ro D) (ds : Rho → Ro (List D)) : Rho → Ro (List D) := fun ρ => (da ρ).bind fun x ρ1 => (ds ρ1).bind fun xs ρ2 => .ok (x :: xs) ρ2
def szL (n : Nat) : Option Unit := if n ≤ 1000000 then some () else none
def dTup (ds : Rho → Ro (List D)) : Rho → Ro D := fun ρ => (ds ρ).bind fun xs ρ1 => if xs.length ≤ 1000000 then .ok (.tup xs) ρ1 else .stuck
def dLst (ds : Rho → Ro (List D)) : Rho → Ro D := fun ρ => (ds ρ).bind fun xs ρ1 => if xs.length ≤ 1000000 then .ok (.lst xs) ρ1 else .stuck
def dCall (f : List D → Option D) (ds : Rho → Ro (List D)) : Rho → Ro D := fun ρ => (ds ρ).bind fun xs ρ1 => Ro.of (f xs) ρ1
def dMt (f : D → List D → Option D) (da : Rho → Ro D) (ds : Rho → Ro (List D)) : Rho → Ro D := fun ρ => (da ρ).bind fun x ρ1 => (ds ρ1).bind fun xs ρ2 => Ro.of (f x xs) ρ2
theorem small_line {n : Nat} (h : n ≤ 1000000) : n ≤ sizeLine := by
  rw [sizeLine_eq]
  omega

section
variable {c : Cc} {X : Cx} {ka kb kc k : Kd} {qa qb qc q : Bool} {a b e e3 : Expr} {es : List Expr} {da db dc d : Rho → Ro D} {ta tb : Rho → Ro Bool} {ds : Rho → Ro (List D)} {pos : Pos}
theorem out_true {α ξ : Type} {m : Am} {G H : Hp} {σ : L2.St} {ρ : Rho} {rel : Hp → Hp → Rho → ξ → α → Prop} {r : Ro α} {Q : ξ → Hp → Prop} (o : Out c m G H σ ρ q rel r Q) : Out c m G H σ ρ (q && true) rel r Q := by
  rw [Bool.and_true]
  exact o
/-- a test by its value's truth -/
theorem dt_tru (ha : DE c X k q e d) (hK : X.K = c.T.K := by first | rfl | assumption) (he : ∀ whole, isTrue e X.env whole = (do let v ← whole; standAt e.pos; holding [v] (truthy v)) := by intro _; rfl) : DT c X q e (dTru d) := by
  refine ⟨pt_imp (pt_truth ha.pe he) fun σ H Q ⟨m, G, ρ, s, o⟩ => ⟨m, G, ρ, s, ?_⟩⟩
  refine (Out.bind (out_true o)).imp fun x H1 ⟨G1, ρ1, v, g1, e1, s1, r1, o1⟩ => ?_
  cases hv : truD v with
  | none =>
    rw [hv] at o1
    exact o1.elim
  | some b =>
    rw [hv] at o1
    rw [hK]
    exact ⟨b, tru_of s1.gh (krep_w s1 r1) hv, Out.ret o1 s1 rfl⟩
theorem dt_not (h : DT c X q e ta) : DT c X q (.UnaryOp .Not e pos) (dNotT ta) := by
  refine ⟨pt_imp (L2.pt_not h.pt) fun σ H Q ⟨m, G, ρ, s, o⟩ => ⟨m, G, ρ, s, ?_⟩⟩
  refine (Out.bind (out_true o)).imp fun x H1 ⟨G1, ρ1, v, g1, e1, s1, r1, o1⟩ => ?_
  subst r1
  exact Out.ret o1 s1 rfl
theorem dw_one {op : BoolOp} (h : DT c X q e ta) : DW c X q (.BoolOp op [e] pos) ta := by
  cases op with
  | And => exact ⟨pw_and1 h.pt⟩
  | Or => exact ⟨pw_or1 h.pt⟩
theorem dw_and {e2 : Expr} {rest : List Expr} (h : DT c X qa e ta) (h2 : DW c X qb (.BoolOp .And (e2 :: rest) pos) tb) : DW c X (qa && qb) (.BoolOp .And (e :: e2 :: rest) pos) (dAndT ta tb) := by
  refine ⟨pw_imp (pw_and h.pt h2.pw) fun σ H Q ⟨m, G, ρ, s, o⟩ => ⟨m, G, ρ, s, ?_⟩⟩
  refine (Out.bind o).imp fun x H1 ⟨G1, ρ1, v, g1, e1, s1, r1, o1⟩ => ?_
  subst r1
  cases x with
  | true => exact ⟨m, G1, ρ1, s1, o1⟩
  | false => exact Out.ret o1 s1 rfl
theorem dw_or {e2 : Expr} {rest : List Expr} (h : DT c X qa e ta) (h2 : DW c X qb (.BoolOp .Or (e2 :: rest) pos) tb) : DW c X (qa && qb) (.BoolOp .Or (e :: e2 :: rest) pos) (dOrT ta tb) := by
  refine ⟨pw_imp (pw_or h.pt h2.pw) fun σ H Q ⟨m, G, ρ, s, o⟩ => ⟨m, G, ρ, s, ?_⟩⟩
  refine (Out.bind o).imp fun x H1 ⟨G1, ρ1, v, g1, e1, s1, r1, o1⟩ => ?_
  subst r1
  cases x with
  | true => exact Out.ret o1 s1 rfl
  | false => exact ⟨m, G1, ρ1, s1, o1⟩
theorem de_not (ha : DE c X k q e d) (hK : X.K = c.T.K := by first | rfl | assumption) : DE c X .st q (.UnaryOp .Not e pos) (dNot d) := by
  refine ⟨pe_imp (pe_notT ha.pe) fun σ H Q ⟨m, G, ρ, s, o⟩ => ⟨m, G, ρ, s, ?_⟩⟩
  refine (Out.bind (out_true o)).imp fun x H1 ⟨G1, ρ1, v, g1, e1, s1, r1, o1⟩ => ?_
  cases hv : truD v with
  | none =>
    rw [hv] at o1
    exact o1.elim
  | some b =>
    rw [hv] at o1
    rw [hK]
    exact ⟨b, tru_of s1.gh (krep_w s1 r1) hv, Out.ret o1 s1 (.bl _)⟩
theorem de_one {op : BoolOp} (h : DE c X k q e d) : DE c X k q (.BoolOp op [e] pos) d := ⟨pe_one h.pe⟩
theorem de_and {e2 : Expr} {rest : List Expr} (h : DE c X .st qa e da) (h2 : DE c X .st qb (.BoolOp .And (e2 :: rest) pos) db) (hK : X.K = c.T.K := by first | rfl | assumption) : DE c X .st (qa && qb) (.BoolOp .And (e :: e2 :: rest) pos) (dAnd da db) := by
  refine ⟨pe_imp (pe_andT h.pe h2.pe) fun σ H Q ⟨m, G, ρ, s, o⟩ => ⟨m, G, ρ, s, ?_⟩⟩
  refine (Out.bind o).imp fun x H1 ⟨G1, ρ1, v, g1, e1, s1, r1, o1⟩ => ?_
  cases hv : truD v with
  | none =>
    rw [hv] at o1
    exact o1.elim
  | some b =>
    rw [hv] at o1
    rw [hK]
    refine ⟨b, tru_of s1.gh (.inl r1) hv, ?_⟩
    cases b with
    | true => exact ⟨m, G1, ρ1, s1, o1⟩
    | false => exact Out.ret o1 s1 r1
theorem de_or {e2 : Expr} {rest : List Expr} (h : DE c X .st qa e da) (h2 : DE c X .st qb (.BoolOp .Or (e2 :: rest) pos) db) (hK : X.K = c.T.K := by first | rfl | assumption) : DE c X .st (qa && qb) (.BoolOp .Or (e :: e2 :: rest) pos) (dOr da db) := by
  refine ⟨pe_imp (pe_orT h.pe h2.pe) fun σ H Q ⟨m, G, ρ, s, o⟩ => ⟨m, G, ρ, s, ?_⟩⟩
  refine (Out.bind o).imp fun x H1 ⟨G1, ρ1, v, g1, e1, s1, r1, o1⟩ => ?_
  cases hv : truD v with
  | none =>
    rw [hv] at o1
    exact o1.elim
  | some b =>
    rw [hv] at o1
    rw [hK]
    refine ⟨b, tru_of s1.gh (.inl r1) hv, ?_⟩
    cases b with
    | true => exact Out.ret o1 s1 r1
    | false => exact ⟨m, G1, ρ1, s1, o1⟩
theorem de_if {t : Expr} (h : DT c X q t ta) (ha : DE c X k qa a da) (hb : DE c X k qb b db) : DE c X k (q && (qa && qb)) (.IfExp t a b pos) (dIf ta da db) := by
  refine ⟨pe_imp (pe_ifExp h.pt ha.pe hb.pe) fun σ H Q ⟨m, G, ρ, s, o⟩ => ⟨m, G, ρ, s, ?_⟩⟩
  refine (Out.bind o).imp fun x H1 ⟨G1, ρ1, v, g1, e1, s1, r1, o1⟩ => ?_
  subst r1
  have weaken : ∀ {q1 q2 : Bool} {r : Ro D}, Out c m G1 H1 σ ρ1 (q1 && q2) (KRep c.T m σ k) r Q → Out c m G1 H1 σ ρ1 q1 (KRep c.T m σ k) r Q ∨ q2 = false := fun {q1 q2 r} z => by
    cases q2 with
    | true =>
      rw [Bool.and_true] at z
      exact .inl z
    | false => exact .inr rfl
  cases x with
  | true =>
    refine ⟨m, G1, ρ1, s1, ?_⟩
    cases qb with
    | true =>
      rw [Bool.and_true] at o1
      exact o1
    | false =>
      rw [Bool.and_false] at o1
      exact o1.noq
  | false =>
    refine ⟨m, G1, ρ1, s1, ?_⟩
    cases qa with
    | true =>
      rw [Bool.true_and] at o1
      exact o1
    | false =>
      rw [Bool.false_and] at o1
      exact o1.noq
theorem tChain_of {r r' : R2} {f g : D → D → Option D} (hf : OpD c.T r .st f) (hg : OpD c.T r' .st g) {σ : L2.St} {H : Hp} {Q : VK} (h : tE c .st (qa && (qb && qc)) (dChain f g da db dc) σ H Q) :
    tChain r r' (tE c .st qa da) (tE c .st qb db) (tE c .st qc dc) σ H Q := by
  obtain ⟨m, G, ρ, s, o⟩ := h
  have o' : Out c m G H σ ρ (qa && (qb && qc)) (KRep c.T m σ .st) ((da ρ).bind fun x ρ1 => (db ρ1).bind fun y ρ2 => (Ro.of (f x y) ρ2).bind fun z ρ3 => (Ro.of (blD z) ρ3).bind fun b ρ4 => if b = true then (dc ρ4).bind fun w ρ5 => Ro.of (g y w) ρ5 else .ok (.bl false) ρ4) Q := o
  refine ⟨m, G, ρ, s, (Out.bind o').imp fun x H1 ⟨G1, ρ1, v, g1, e1, s1, r1, o1⟩ => ?_⟩
  refine ⟨m, G1, ρ1, s1, (Out.bind o1).imp fun y H2 ⟨G2, ρ2, u, g2, e2, s2, r2, o2⟩ => ?_⟩
  cases hfu : f v u with
  | none =>
    rw [hfu] at o2
    exact o2.elim
  | some z =>
    rw [hfu] at o2
    refine hf c.io m G2 H2 σ ρ2 x y v u z _ s2 (.inl (Rep.mono g2 r1)) (.inl r2) hfu fun w G' H' g3 h3 s3 r3 => ?_
    cases z with
    | bl b =>
      refine ⟨b, Rep.blV r3, ?_⟩
      cases b with
      | false => exact Out.pure o2 g3 h3 s3 (.bl _)
      | true =>
        have o3 : Out c m G2 H2 σ ρ2 (true && qc) (KRep c.T m σ .st) ((dc ρ2).bind fun w ρ5 => Ro.of (g u w) ρ5) Q := o2
        refine ⟨m, G', ρ2, s3, (Out.bind (out_true (Out.step o3 g3 fun _ => ⟨h3, rfl⟩))).imp fun w' H4 ⟨G4, ρ4, t, g4, e4, s4, r4, o4⟩ => ?_⟩
        cases hgu : g u t with
        | none =>
          rw [hgu] at o4
          exact o4.elim
        | some z' =>
          rw [hgu] at o4
          exact hg c.io m G4 H4 σ ρ4 y w' u t z' _ s4 (.inl (Rep.mono (g3.trans g4) r2)) (.inl r4) hgu fun w5 G5 H5 g5 h5 s5 r5 => Out.pure o4 g5 h5 s5 r5
    | _ => exact o2.elim
theorem de_chain {op op' : CmpOp} {r r' : R2} {f g : D → D → Option D} (ho : OpR X (compareOp op) r) (hf : OpD c.T r .st f) (ho' : OpR X (compareOp op') r') (hg : OpD c.T r' .st g) (ha : DE c X .st qa a da) (hb : DE c X .st qb b db) (hc : DE c X .st qc e dc)
    (hm : lastMarks [op, op'] [b, e] = false := by with_unfolding_all rfl) : DE c X .st (qa && (qb && qc)) (.Compare a [op, op'] [b, e] pos) (dChain f g da db dc) := ⟨pe_imp (pe_chain ho ho' ha.pe hb.pe hc.pe hm) fun _ _ _ => tChain_of hf hg⟩
theorem dt_chain {op op' : CmpOp} {r r' : R2} {f g : D → D → Option D} (ho : OpR X (compareOp op) r) (hf : OpD c.T r .st f) (ho' : OpR X (compareOp op') r') (hg : OpD c.T r' .st g) (ha : DE c X .st qa a da) (hb : DE c X .st qb b db) (hc : DE c X .st qc e dc)
    (hm : lastMarks [op, op'] [b, e] = false := by with_unfolding_all rfl) : DT c X (qa && (qb && qc)) (.Compare a [op, op'] [b, e] pos) (dB (dChain f g da db dc)) := ⟨pt_imp (pt_chain ho ho' ha.pe hb.pe hc.pe hm) fun σ H Q h => tChain_of hf hg (tB_of (k := .st) h)⟩

/-! ### arguments and displays -/
theorem da_nil : DA c X true [] dNil := ⟨pa_imp pa_nil fun σ H Q ⟨m, G, ρ, s, o⟩ => Out.ret o s .nil⟩
theorem da_cons (ha : DE c X .st qa e da) (hr : DA c X qb es ds) (hs : starEach (e :: es) X.env = (false, eval e X.env) :: starEach es X.env := by rfl) : DA c X (qa && qb) (e :: es) (dCons da ds) := by
  refine ⟨pa_imp (pa_cons ha.pe hr.pa hs) fun σ H Q ⟨m, G, ρ, s, o⟩ => ⟨m, G, ρ, s, ?_⟩⟩
  refine (Out.bind o).imp fun x H1 ⟨G1, ρ1, v, g1, e1, s1, r1, o1⟩ => ⟨m, G1, ρ1, s1, ?_⟩
  refine (Out.bind (out_true o1)).imp fun xs H2 ⟨G2, ρ2, vs, g2, e2, s2, r2, o2⟩ => ?_
  exact Out.ret o2 s2 (.cons (Rep.mono g2 r1) r2)
theorem de_tup {n : Nat} (h : DA c X q es ds) : DE c X .st q (.Tuple es n pos) (dTup ds) := by
  refine ⟨pe_imp (pe_tup h.pa) fun σ H Q ⟨m, G, ρ, s, o⟩ => ⟨m, G, ρ, s, ?_⟩⟩
  refine (Out.bind (out_true o)).imp fun xs H1 ⟨G1, ρ1, v, g1, e1, s1, r1, o1⟩ => ?_
  by_cases hl : v.length ≤ 1000000
  · rw [if_pos hl] at o1
    have r1' : Reps c.T G1 xs v := r1
    refine ⟨by rw [r1'.length]; exact small_line hl, fun p hp => ?_⟩
    have s2 := s1.new (o := .tup xs) hp
    exact Out.pure o1 (same_upd (s1.gh.free hp)) (same_upd hp) s2 (.tup upd_same (r1'.mono (same_upd (s1.gh.free hp))))
  · rw [if_neg hl] at o1
    exact o1.elim
theorem de_lst (h : DA c X q es ds) : DE c X .fr q (.List es pos) (dLst ds) := by
  refine ⟨pe_imp (pe_lst h.pa) fun σ H Q ⟨m, G, ρ, s, o⟩ => ⟨m, G, ρ, s, ?_⟩⟩
  refine (Out.bind (out_true o)).imp fun xs H1 ⟨G1, ρ1, v, g1, e1, s1, r1, o1⟩ => ?_
  by_cases hl : v.length ≤ 1000000
  · rw [if_pos hl] at o1
    have r1' : Reps c.T G1 xs v := r1
    refine ⟨by rw [r1'.length]; exact small_line hl, fun p hp => ?_⟩
    exact Out.pure o1 (Same.refl _) (same_upd hp) (s1.alloc hp) ⟨p, rfl, s1.fre hp ⟨xs, upd_same, r1'⟩⟩
  · rw [if_neg hl] at o1
    exact o1.elim

/-! ### calls of built-ins -/
theorem tCB_of {r : List V → Hp → VK → Prop} {f : List D → Option D} (hd : CallD c.T r k f) {σ : L2.St} {H : Hp} {Q : VK} (h : tE c k q (dCall f ds) σ H Q) : tCB r (tA c q ds) σ H Q := by
  obtain ⟨m, G, ρ, s, o⟩ := h
  refine ⟨m, G, ρ, s, (Out.bind (out_true o)).imp fun xs H1 ⟨G1, ρ1, v, g1, e1, s1, r1, o1⟩ => ?_⟩
  cases hf : f v with
  | none =>
    rw [hf] at o1
    exact o1.elim
  | some z =>
    rw [hf] at o1
    exact hd c.io m G1 H1 σ ρ1 xs v z Q s1 r1 hf fun w G' H' g h' s' r' => Out.pure o1 g h' s' r'
theorem tC1_of {r : List V → Hp → VK → Prop} {f : D → Option D} (hd : Call1D c.T r k f) {σ : L2.St} {H : Hp} {Q : VK} (h : tE c k q (dUn f d) σ H Q) : tCB r (tCons (tE c ka q d) tNil) σ H Q := by
  obtain ⟨m, G, ρ, s, o⟩ := h
  refine ⟨m, G, ρ, s, (Out.bind (out_true o)).imp fun x H1 ⟨G1, ρ1, v, g1, e1, s1, r1, o1⟩ => ?_⟩
  cases hf : f v with
  | none =>
    rw [hf] at o1
    exact o1.elim
  | some z =>
    rw [hf] at o1
    exact hd c.io m G1 H1 σ ρ1 x v z Q s1 (krep_w s1 r1) hf fun w G' H' g h' s' r' => Out.pure o1 g h' s' r'
theorem de_callB {r : List V → Hp → VK → Prop} {f : List D → Option D} {id : String} {x : Str} {p : Pos} (hc : CallR X (.builtin id) r) (hd : CallD c.T r k f) (hg : Gl X x) (hm : X.mg x = none) (hv : bootBuiltins x = some (.builtin id)) (ha : DA c X q (e :: es) ds) (hn : x ≠ "__name__" := by decide) (hdb : (x == ("__debug__" : Str)) = false := by decide)
    (he : starEach (e :: es) X.env = (false, eval e X.env) :: starEach es X.env := by rfl) (hpl : (backTo pos (starEach es X.env)).any (·.1) = false := by rfl) : DE c X k q (.Call (.Name x p) (e :: es) [] pos) (dCall f ds) :=
  ⟨pe_imp (pe_callB hc hg hm hv ha.pa hn hdb he hpl) fun _ _ _ => tCB_of hd⟩
theorem de_callTy {r : List V → Hp → VK → Prop} {f : List D → Option D} {ty : String} {x : Str} {p : Pos} (hc : CallR X (.type ty) r) (hd : CallD c.T r k f) (hg : Gl X x) (hm : X.mg x = none) (hv : bootBuiltins x = some (.type ty)) (ha : DA c X q (e :: es) ds) (hn : x ≠ "__name__" := by decide) (hdb : (x == ("__debug__" : Str)) = false := by decide)
    (he : starEach (e :: es) X.env = (false, eval e X.env) :: starEach es X.env := by rfl) (hpl : (backTo pos (starEach es X.env)).any (·.1) = false := by rfl) : DE c X k q (.Call (.Name x p) (e :: es) [] pos) (dCall f ds) :=
  ⟨pe_imp (pe_callTy hc hg hm hv ha.pa hn hdb he hpl) fun _ _ _ => tCB_of hd⟩
theorem de_b1 {r : List V → Hp → VK → Prop} {f : D → Option D} {id : String} {x : Str} {p : Pos} (hc : CallR X (.builtin id) r) (hd : Call1D c.T r k f) (hg : Gl X x) (hm : X.mg x = none) (hv : bootBuiltins x = some (.builtin id)) (ha : DE c X ka q e d) (hn : x ≠ "__name__" := by decide) (hdb : (x == ("__debug__" : Str)) = false := by decide)
    (he : starEach [e] X.env = (false, eval e X.env) :: starEach [] X.env := by rfl) (hpl : (backTo pos (starEach [] X.env)).any (·.1) = false := by rfl) : DE c X k q (.Call (.Name x p) [e] [] pos) (dUn f d) :=
  ⟨pe_imp (pe_callB hc hg hm hv (pa_cons ha.pe pa_nil he) hn hdb he hpl) fun _ _ _ => tC1_of hd⟩
theorem de_t1 {r : List V → Hp → VK → Prop} {f : D → Option D} {ty : String} {x : Str} {p : Pos} (hc : CallR X (.type ty) r) (hd : Call1D c.T r k f) (hg : Gl X x) (hm : X.mg x = none) (hv : bootBuiltins x = some (.type ty)) (ha : DE c X ka q e d) (hn : x ≠ "__name__" := by decide) (hdb : (x == ("__debug__" : Str)) = false := by decide)
    (he : starEach [e] X.env = (false, eval e X.env) :: starEach [] X.env := by rfl) (hpl : (backTo pos (starEach [] X.env)).any (·.1) = false := by rfl) : DE c X k q (.Call (.Name x p) [e] [] pos) (dUn f d) :=
  ⟨pe_imp (pe_callTy hc hg hm hv (pa_cons ha.pe pa_nil he) hn hdb he hpl) fun _ _ _ => tC1_of hd⟩
/-- a[b] -/
theorem de_ix {r : R2} {f : D → D → Option D} (ho : IxR X r) (hd : OpD c.T r k f) (ha : DE c X ka qa a da) (hb : DE c X kb qb b db) (hs : PlainIx b := by exact fun _ _ => rfl) (hk : ka = .st ∨ (ka = .wk ∧ qb = true) := by first | exact Or.inl rfl | exact Or.inr ⟨rfl, rfl⟩) :
    DE c X k (qa && qb) (.Subscript a b pos) (dOp f da db) := ⟨pe_imp (pe_ix ho ha.pe hb.pe hs) fun _ _ _ => tOp_of hd hk⟩
end
end VL

set_option Elab.async false
set_option linter.all false
set_option maxRecDepth 100000
set_option maxHeartbeats 2000000
/-! VL4: statements, targets, loops -/
namespace VL
open PySem PySem.Spec L2

inductive So where
  | nx (ρ : Rho)
  | rt (d : D) (ρ : Rho)
  | rf (d : D) (ρ : Rho)
  | bk (ρ : Rho)
  | ct (ρ : Rho)
  | err (e : Str) (fs : List (Str × D)) (ρ : Rho)
  | stuck
def So.bind (r : So) (f : Rho → So) : So := match r with
  | .nx ρ => f ρ
  | o => o
def Ro.then {α : Type} (r : Ro α) (f : α → Rho → So) : So := match r with
  | .ok a ρ => f a ρ
  | .err e fs ρ => .err e fs ρ
  | .stuck => .stuck
/-- behind a loop's turn -/
def So.turn (r : So) (f : Rho → So) : So := match r with
  | .nx ρ => f ρ
  | .ct ρ => f ρ
  | .bk ρ => .nx ρ
  | .rt d ρ => .rt d ρ
  | .rf d ρ => .rf d ρ
  | .err e fs ρ => .err e fs ρ
  | .stuck => .stuck
def optS (o : Option Rho) (f : Rho → So) : So := match o with
  | some ρ => f ρ
  | none => .stuck
@[simp] theorem So.turn_nx (ρ : Rho) (f : Rho → So) : (So.nx ρ).turn f = f ρ := rfl
@[simp] theorem So.turn_ct (ρ : Rho) (f : Rho → So) : (So.ct ρ).turn f = f ρ := rfl
@[simp] theorem So.turn_bk (ρ : Rho) (f : Rho → So) : (So.bk ρ).turn f = .nx ρ := rfl
@[simp] theorem So.turn_rf (d : D) (ρ : Rho) (f : Rho → So) : (So.rf d ρ).turn f = .rf d ρ := rfl
@[simp] theorem So.turn_rt (d : D) (ρ : Rho) (f : Rho → So) : (So.rt d ρ).turn f = .rt d ρ := rfl
@[simp] theorem So.turn_err (e : Str) (fs : List (Str × D)) (ρ : Rho) (f : Rho → So) : (So.err e fs ρ).turn f = .err e fs ρ := rfl
@[simp] theorem So.turn_stuck (f : Rho → So) : (So.stuck).turn f = .stuck := rfl
@[simp] theorem optS_some (ρ : Rho) (f : Rho → So) : optS (some ρ) f = f ρ := rfl
@[simp] theorem optS_none (f : Rho → So) : optS none f = .stuck := rfl
@[simp] theorem So.bind_nx (ρ : Rho) (f : Rho → So) : (So.nx ρ).bind f = f ρ := rfl
@[simp] theorem So.bind_rf (d : D) (ρ : Rho) (f : Rho → So) : (So.rf d ρ).bind f = .rf d ρ := rfl
@[simp] theorem So.bind_rt (d : D) (ρ : Rho) (f : Rho → So) : (So.rt d ρ).bind f = .rt d ρ := rfl
@[simp] theorem So.bind_bk (ρ : Rho) (f : Rho → So) : (So.bk ρ).bind f = .bk ρ := rfl
@[simp] theorem So.bind_ct (ρ : Rho) (f : Rho → So) : (So.ct ρ).bind f = .ct ρ := rfl
@[simp] theorem So.bind_err (e : Str) (fs : List (Str × D)) (ρ : Rho) (f : Rho → So) : (So.err e fs ρ).bind f = .err e fs ρ := rfl
@[simp] theorem So.bind_stuck (f : Rho → So) : (So.stuck).bind f = .stuck := rfl
@[simp] theorem Ro.then_ok {α : Type} (a : α) (ρ : Rho) (f : α → Rho → So) : (Ro.ok a ρ).then f = f a ρ := rfl
@[simp] theorem Ro.then_err {α : Type} (e : Str) (fs : List (Str × D)) (ρ : Rho) (f : α → Rho → So) : (Ro.err e fs ρ : Ro α).then f = .err e fs ρ := rfl
@[simp] theorem Ro.then_stuck {α : Type} (f : α → Rho → So) : (Ro.stuck : Ro α).then f = .stuck := rfl

def OutS (c : Cc) (m : Am) (G : Hp) (r : So) (Z : Ends) : Prop := match r with
  | .nx ρ' => ∀ σ' G' H', Same G G' → SR c.T c.io m G' H' σ' ρ' → Z.nx σ' H'
  | .rt d ρ' => ∀ x σ' G' H', Same G G' → SR c.T c.io m G' H' σ' ρ' → Rep c.T G' x d → Z.rt x H'
  | .rf d ρ' => ∀ p σ' G' H', Same G G' → SR c.T c.io m G' H' σ' ρ' → Fre c.T m G' H' σ' ρ' p d → Z.rt (.ref p) H'
  | .bk ρ' => ∀ σ' G' H', Same G G' → SR c.T c.io m G' H' σ' ρ' → Z.bk σ' H'
  | .ct ρ' => ∀ σ' G' H', Same G G' → SR c.T c.io m G' H' σ' ρ' → Z.ct σ' H'
  | .err e fs ρ' => ∀ dx σ' G' H', Same G G' → SR c.T c.io m G' H' σ' ρ' → XRep c.T G' H' dx fs → c.W (.ref (c.T.cl e)) dx σ' H'
  | .stuck => False
def tS (c : Cc) (s : Rho → So) : TS := fun Z σ H => ∃ m G ρ, SR c.T c.io m G H σ ρ ∧ OutS c m G (s ρ) Z
structure DS (c : Cc) (X : Cx) (st : Stmt) (s : Rho → So) : Prop where
  ps : PS X st (tS c s)
structure DSs (c : Cc) (X : Cx) (sts : List Stmt) (s : Rho → So) : Prop where
  pss : PSs X sts (tS c s)
theorem ps_imp {X : Cx} {st : Stmt} {t t' : TS} (h : PS X st t) (i : ∀ Z σ H, t' Z σ H → t Z σ H) : PS X st t' := ⟨fun pins s σ H Z I q => h.run pins s σ H Z I (i _ _ _ q)⟩
theorem pss_imp {X : Cx} {st : List Stmt} {t t' : TS} (h : PSs X st t) (i : ∀ Z σ H, t' Z σ H → t Z σ H) : PSs X st t' := ⟨fun pins s σ H Z I q => h.run pins s σ H Z I (i _ _ _ q)⟩

section
variable {c : Cc} {m : Am} {G G1 H H1 : Hp} {σ : L2.St} {ρ : Rho}
theorem OutS.step {r : So} {Z : Ends} (h : OutS c m G r Z) (g : Same G G1) : OutS c m G1 r Z := by
  cases r with
  | nx ρ' => exact fun σ' G' H' g' s => h σ' G' H' (g.trans g') s
  | rt d ρ' => exact fun x σ' G' H' g' s r => h x σ' G' H' (g.trans g') s r
  | rf d ρ' => exact fun x σ' G' H' g' s r => h x σ' G' H' (g.trans g') s r
  | bk ρ' => exact fun σ' G' H' g' s => h σ' G' H' (g.trans g') s
  | ct ρ' => exact fun σ' G' H' g' s => h σ' G' H' (g.trans g') s
  | err e fs ρ' => exact fun dx σ' G' H' g' s r => h dx σ' G' H' (g.trans g') s r
  | stuck => exact h
theorem OutS.nx {Z : Ends} (h : OutS c m G (.nx ρ) Z) (s : SR c.T c.io m G H σ ρ) : Z.nx σ H := h σ G H (Same.refl _) s
/-- an expression, then more -/
theorem Out.then {α ξ : Type} {rel : Hp → Hp → Rho → ξ → α → Prop} {r : Ro α} {F : α → Rho → So} {Z : Ends} {q : Bool} (h : OutS c m G (r.then F) Z) :
    Out c m G H σ ρ q rel r (fun x H1 => ∃ G1 ρ1 v, Same G G1 ∧ (q = true → Same H H1 ∧ ρ1 = ρ) ∧ SR c.T c.io m G1 H1 σ ρ1 ∧ rel G1 H1 ρ1 x v ∧ OutS c m G1 (F v ρ1) Z) := by
  cases r with
  | ok v ρ' => exact fun x G' H' g' q' s r => ⟨G', ρ', v, g', q', s, r, OutS.step h g'⟩
  | err e' fs ρ' => exact fun dx G' H' g' _ s r => h dx σ G' H' g' s r
  | stuck => exact h
end

/-! ### simple statements -/
def sNil : Rho → So := .nx
def sSeq (s t : Rho → So) : Rho → So := fun ρ => (s ρ).bind t
def sExp (d : Rho → Ro D) : Rho → So := fun ρ => (d ρ).then fun _ ρ1 => .nx ρ1
def sRet (d : Rho → Ro D) : Rho → So := fun ρ => (d ρ).then fun x ρ1 => .rt x ρ1
/-- a new object is handed out -/
def sRetF (d : Rho → Ro D) : Rho → So := fun ρ => (d ρ).then fun x ρ1 => .rf x ρ1
def sRetN : Rho → So := fun ρ => .rt .non ρ
def sIf (t : Rho → Ro Bool) (s u : Rho → So) : Rho → So := fun ρ => (t ρ).then fun b ρ1 => if b = true then s ρ1 else u ρ1
def sAsg (d : Rho → Ro D) (g : D → Rho → Option Rho) : Rho → So := fun ρ => (d ρ).then fun x ρ1 => optS (g x ρ1) .nx
/-- a new object, held as owned -/
def sOwn (d : Rho → Ro D) (i : Nat) : Rho → So := fun ρ => (d ρ).then fun x ρ1 => .nx (ρ1.set i (some (.ow x)))
def sNever : Rho → So := fun _ => .stuck
/-- targets -/
def gN (i : Nat) : D → Rho → Option Rho := fun d ρ => some (ρ.set i (some (.fz d)))
def gNs : List (D → Rho → Option Rho) → List D → Rho → Option Rho
  | [], [], ρ => some ρ
  | g :: gs, d :: ds, ρ => (g d ρ).bind (gNs gs ds)
  | _, _, _ => none
def gT (gs : List (D → Rho → Option Rho)) : D → Rho → Option Rho := fun d ρ => match d with
  | .tup ds => gNs gs ds ρ
  | _ => none

section
variable {c : Cc} {X : Cx} {k : Kd} {q : Bool} {e : Expr} {d : Rho → Ro D} {st : Stmt} {sts sts2 : List Stmt} {s t : Rho → So} {pos : Pos}
theorem ds_nil : DSs c X [] sNil := ⟨pss_imp pss_nil fun Z σ H ⟨m, G, ρ, r, o⟩ => OutS.nx o r⟩
theorem ds_cons (h : DS c X st s) (h2 : DSs c X sts t) : DSs c X (st :: sts) (sSeq s t) := by
  refine ⟨pss_imp (pss_cons h.ps h2.pss) fun Z σ H ⟨m, G, ρ, r, o⟩ => ⟨m, G, ρ, r, ?_⟩⟩
  have o' : OutS c m G ((s ρ).bind t) Z := o
  cases hs : s ρ with
  | nx ρ1 =>
    rw [hs] at o'
    exact fun σ' G' H' g s' => ⟨m, G', ρ1, s', OutS.step o' g⟩
  | rt _ _ => rw [hs] at o'; exact o'
  | rf _ _ => rw [hs] at o'; exact o'
  | bk _ => rw [hs] at o'; exact o'
  | ct _ => rw [hs] at o'; exact o'
  | err _ _ _ => rw [hs] at o'; exact o'
  | stuck => rw [hs] at o'; exact o'
theorem ds_last (h : DS c X st s) : DSs c X [st] s := ⟨pss_one h.ps⟩
theorem ds_pass : DS c X (.Pass pos) sNil := ⟨ps_imp ps_pass fun Z σ H ⟨m, G, ρ, r, o⟩ => OutS.nx o r⟩
theorem ds_doc {x : Str} {j : Nat} {pos' : Pos} : DS c X (.Expr (.Constant (.str x) j pos) pos') sNil := ⟨ps_imp ps_doc fun Z σ H ⟨m, G, ρ, r, o⟩ => OutS.nx o r⟩
theorem ds_break : DS c X (.Break pos) .bk := ⟨ps_imp ps_break fun Z σ H ⟨m, G, ρ, r, o⟩ => o σ G H (Same.refl _) r⟩
theorem ds_cont : DS c X (.Continue pos) .ct := ⟨ps_imp ps_continue fun Z σ H ⟨m, G, ρ, r, o⟩ => o σ G H (Same.refl _) r⟩
theorem ds_never : DS c X st sNever := ⟨ps_imp ps_never fun Z σ H ⟨m, G, ρ, r, o⟩ => o⟩
theorem dss_never : DSs c X sts sNever := ⟨pss_imp pss_never fun Z σ H ⟨m, G, ρ, r, o⟩ => o⟩
theorem ds_exp (h : DE c X k q e d) (hs : swapsWith e none pos.line X.env = pure false := by rfl) : DS c X (.Expr e pos) (sExp d) := by
  refine ⟨ps_imp (ps_expr h.pe hs) fun Z σ H ⟨m, G, ρ, r, o⟩ => ⟨m, G, ρ, r, ?_⟩⟩
  exact (Out.then o).imp fun x H1 ⟨G1, ρ1, v, g1, e1, s1, r1, o1⟩ => OutS.nx o1 s1
theorem ds_ret (h : DE c X .st q e d) : DS c X (.Return (some e) pos) (sRet d) := by
  refine ⟨ps_imp (ps_ret h.pe) fun Z σ H ⟨m, G, ρ, r, o⟩ => ⟨m, G, ρ, r, ?_⟩⟩
  exact (Out.then o).imp fun x H1 ⟨G1, ρ1, v, g1, e1, s1, r1, o1⟩ => o1 x σ G1 H1 (Same.refl _) s1 r1
theorem ds_retF (h : DE c X .fr q e d) : DS c X (.Return (some e) pos) (sRetF d) := by
  refine ⟨ps_imp (ps_ret h.pe) fun Z σ H ⟨m, G, ρ, r, o⟩ => ⟨m, G, ρ, r, ?_⟩⟩
  refine (Out.then o).imp fun x H1 ⟨G1, ρ1, v, g1, e1, s1, ⟨p, ep, f⟩, o1⟩ => ?_
  subst ep
  exact o1 p σ G1 H1 (Same.refl _) s1 f
theorem ds_retN : DS c X (.Return none pos) sRetN := ⟨ps_imp ps_retN fun Z σ H ⟨m, G, ρ, r, o⟩ => o .non σ G H (Same.refl _) r .non⟩
theorem ds_if {e : Expr} {b : Rho → Ro Bool} (h : DT c X q e b) (h1 : DSs c X sts s) (h2 : DSs c X sts2 t) : DS c X (.If e sts sts2 pos) (sIf b s t) := by
  refine ⟨ps_imp (ps_if h.pt h1.pss h2.pss) fun Z σ H ⟨m, G, ρ, r, o⟩ => ⟨m, G, ρ, r, ?_⟩⟩
  refine (Out.then o).imp fun x H1 ⟨G1, ρ1, v, g1, e1, s1, r1, o1⟩ => ?_
  subst r1
  cases x with
  | true => exact ⟨m, G1, ρ1, s1, o1⟩
  | false => exact ⟨m, G1, ρ1, s1, o1⟩

/-! ### targets -/
def tG (c : Cc) (g : D → Rho → Option Rho) : TG := fun v σ H Q => ∃ m G ρ d, SR c.T c.io m G H σ ρ ∧ Rep c.T G v d ∧ ∃ ρ', g d ρ = some ρ' ∧ ∀ σ', SR c.T c.io m G H σ' ρ' → Q σ' H
def tGs (c : Cc) (gs : List (D → Rho → Option Rho)) : TGs := fun vs σ H Q => ∃ m G ρ ds, SR c.T c.io m G H σ ρ ∧ Reps c.T G vs ds ∧ ∃ ρ', gNs gs ds ρ = some ρ' ∧ ∀ σ', SR c.T c.io m G H σ' ρ' → Q σ' H
structure DG (c : Cc) (X : Cx) (e : Expr) (g : D → Rho → Option Rho) : Prop where
  pg : PG X e (tG c g)
structure DGs (c : Cc) (X : Cx) (es : List Expr) (gs : List (D → Rho → Option Rho)) : Prop where
  pgs : PGs X es (tGs c gs)
theorem pg_imp {X : Cx} {e : Expr} {t t' : TG} (h : PG X e t) (i : ∀ v σ H Q, t' v σ H Q → t v σ H Q) : PG X e t' := ⟨fun pins s σ H v u Q I r q => h.run pins s σ H v u Q I r (i _ _ _ _ q)⟩
theorem pgs_imp {X : Cx} {es : List Expr} {t t' : TGs} (h : PGs X es t) (i : ∀ v σ H Q, t' v σ H Q → t v σ H Q) : PGs X es t' := ⟨fun pins s σ H v u Q I r q => h.run pins s σ H v u Q I r (i _ _ _ _ q)⟩
theorem dg_name (i : Nat) {x : Str} (hN : X.N.Nodup) (hi : X.N[i]? = some x := by rfl) (hx : Loc X.env.scope x := by first | exact Or.inl rfl | exact Or.inr rfl) (hio : i ∉ c.io.ix := by exact ni rfl)
    (hf : X.fn x = true ∨ X.env.scope.names.lookup x = some .local := by first | exact .inl rfl | exact .inr rfl | assumption) : DG c X (.Name x pos) (gN i) := by
  refine ⟨pg_imp (pg_name hN hi hx hf) fun v σ H Q ⟨m, G, ρ, d, r, rv, ρ', e, h⟩ => ?_⟩
  cases e
  exact h _ (r.set rv hio)
theorem dgs_nil : DGs c X [] [] := by
  refine ⟨pgs_imp pgs_nil fun v σ H Q ⟨m, G, ρ, ds, r, rv, ρ', e, h⟩ => ?_⟩
  cases rv with
  | nil =>
    cases e
    exact ⟨rfl, h _ r⟩
  | cons a b => cases e
theorem dgs_cons {es : List Expr} {g : D → Rho → Option Rho} {gs : List (D → Rho → Option Rho)} (h1 : DG c X e g) (h2 : DGs c X es gs) (hs : (assignEach (e :: es) X.env).map (·.2) = assign e X.env :: (assignEach es X.env).map (·.2) := by rfl) : DGs c X (e :: es) (g :: gs) := by
  refine ⟨pgs_imp (pgs_cons h1.pg h2.pgs hs) fun v σ H Q ⟨m, G, ρ, ds, r, rv, ρ', e, h⟩ => ?_⟩
  cases rv with
  | nil => cases e
  | @cons v vs d ds a b =>
    have e' : (g d ρ).bind (gNs gs ds) = some ρ' := e
    cases hg : g d ρ with
    | none =>
      rw [hg] at e'
      cases e'
    | some ρ1 =>
      rw [hg] at e'
      exact ⟨v, vs, rfl, m, G, ρ, d, r, a, ρ1, hg, fun σ1 s1 => ⟨m, G, ρ1, ds, s1, b, ρ', e', h⟩⟩
theorem gNs_len : ∀ {gs : List (D → Rho → Option Rho)} {ds : List D} {ρ ρ' : Rho}, gNs gs ds ρ = some ρ' → ds.length = gs.length
  | [], [], _, _, _ => rfl
  | [], _ :: _, _, _, h => by cases h
  | _ :: _, [], _, _, h => by cases h
  | g :: gs, d :: ds, ρ, ρ', h => by
    have h' : (g d ρ).bind (gNs gs ds) = some ρ' := h
    cases hg : g d ρ with
    | none =>
      rw [hg] at h'
      cases h'
    | some ρ1 =>
      rw [hg] at h'
      simp [gNs_len h']
theorem dg_tup {es : List Expr} {n j : Nat} {gs : List (D → Rho → Option Rho)} (hc : X.calm = true) (h : DGs c X es gs) (hn : (assignEach es X.env).length = n := by rfl) (hl : gs.length = n := by rfl) (hst : (assignEach es X.env).findIdx? (·.1) = none := by rfl) (hK : X.K = c.T.K := by first | rfl | assumption) :
    DG c X (.Tuple es j pos) (gT gs) := by
  refine ⟨pg_imp (pg_tup hc h.pgs hn hst) fun v σ H Q ⟨m, G, ρ, d, r, rv, ρ', e, hq⟩ => ?_⟩
  cases d with
  | tup ds =>
    cases rv with
    | tup hs rs =>
      have e' : gNs gs ds ρ = some ρ' := e
      exact ⟨_, _, rfl, by rw [hK]; exact .inl (.inl (r.gh _ _ hs)), by rw [rs.length, gNs_len e', hl], m, G, ρ, ds, r, rs, ρ', e', hq⟩
  | _ => cases e
theorem ds_asg {tg : Expr} {g : D → Rho → Option Rho} (h : DE c X .st q e d) (hg : DG c X tg g) (hs : swapsWithSole [tg] e pos.line X.env = pure false := by rfl) (hw : swappedStores [tg] e X.env = pure none := by rfl) (h1 : (assignEach [tg] X.env).map (·.2) = [assign tg X.env] := by rfl) :
    DS c X (.Assign [tg] e pos) (sAsg d g) := by
  refine ⟨ps_imp (ps_asg h.pe hg.pg hs hw h1) fun Z σ H ⟨m, G, ρ, r, o⟩ => ⟨m, G, ρ, r, ?_⟩⟩
  refine (Out.then o).imp fun x H1 ⟨G1, ρ1, v, g1, e1, s1, r1, o1⟩ => ?_
  cases hv : g v ρ1 with
  | none =>
    rw [hv] at o1
    exact o1.elim
  | some ρ2 =>
    rw [hv] at o1
    exact ⟨m, G1, ρ1, v, s1, r1, ρ2, hv, fun σ' s' => OutS.nx o1 s'⟩
/-- name = value -/
theorem ds_set (i : Nat) {x : Str} {pos' : Pos} (h : DE c X .st q e d) (hN : X.N.Nodup) (hi : X.N[i]? = some x := by rfl) (hx : Loc X.env.scope x := by first | exact Or.inl rfl | exact Or.inr rfl) (hio : i ∉ c.io.ix := by exact ni rfl)
    (hs : swapsWith e (some (.Name x pos')) pos.line X.env = pure false := by rfl) (hf : X.fn x = true ∨ X.env.scope.names.lookup x = some .local := by first | exact .inl rfl | exact .inr rfl | assumption) : DS c X (.Assign [.Name x pos'] e pos) (sAsg d (gN i)) := by
  refine ⟨ps_imp (ps_set hN hi hx h.pe hs hf) fun Z σ H ⟨m, G, ρ, r, o⟩ => ⟨m, G, ρ, r, ?_⟩⟩
  refine (Out.then o).imp fun x H1 ⟨G1, ρ1, v, g1, e1, s1, r1, o1⟩ => ?_
  exact OutS.nx o1 (s1.set r1 hio)
/-- name = a new object that will be changed in place -/
theorem ds_own (i : Nat) {x : Str} {pos' : Pos} (h : DE c X .fr q e d) (hN : X.N.Nodup) (hi : X.N[i]? = some x := by rfl) (hx : Loc X.env.scope x := by first | exact Or.inl rfl | exact Or.inr rfl) (hio : i ∉ c.io.ix := by exact ni rfl)
    (hs : swapsWith e (some (.Name x pos')) pos.line X.env = pure false := by rfl) (hf : X.fn x = true ∨ X.env.scope.names.lookup x = some .local := by first | exact .inl rfl | exact .inr rfl | assumption) : DS c X (.Assign [.Name x pos'] e pos) (sOwn d i) := by
  refine ⟨ps_imp (ps_set hN hi hx h.pe hs hf) fun Z σ H ⟨m, G, ρ, r, o⟩ => ⟨m, G, ρ, r, ?_⟩⟩
  refine (Out.then o).imp fun x H1 ⟨G1, ρ1, v, g1, e1, s1, ⟨p, ep, f⟩, o1⟩ => ?_
  subst ep
  exact OutS.nx o1 (s1.setO f hio)
end

/-! ### what is walked -/
/-- the iterator J gives the items ds, all of them frozen -/
structure Wk (T : Tb) (J : It) (G : Hp) (ds : List D) : Prop where
  go : ∀ i H, i < ds.length → Same G H → J.go i H
  stop : ∀ H, Same G H → J.stop ds.length H
  yld : ∀ i H x H' d, ds[i]? = some d → Same G H → J.yld i H x H' → (H' = H ∧ Rep T G x d) ∨ ∃ p vs es, H p = none ∧ x = .ref p ∧ H' = upd H p (.tup vs) ∧ Reps T G vs es ∧ d = .tup es
def tI (c : Cc) (q : Bool) (di : Rho → Ro (List D)) : TI := fun σ H R => ∃ m G ρ, SR c.T c.io m G H σ ρ ∧ Out c m G H σ ρ q (fun G' H' ρ' J ds => Wk c.T J G' ds) (di ρ) R
structure DI (c : Cc) (X : Cx) (q : Bool) (tg iter : Expr) (di : Rho → Ro (List D)) : Prop where
  pi : PI X tg iter (tI c q di)
theorem pi_imp {X : Cx} {tg e : Expr} {t t' : TI} (h : PI X tg e t) (i : ∀ σ H R, t' σ H R → t σ H R) : PI X tg e t' := ⟨fun pins s σ H R I q => h.run pins s σ H R I (i _ _ _ q)⟩
def seqD : D → Option (List D)
  | .tup ds => some ds
  | .ktp ds => some ds
  | .lst ds => some ds
  | .str z => some (z.cps.toList.map fun c => .str ⟨#[c]⟩)
  | .scr ns => some (ns.map .int)
  | _ => none
def dIt (d : Rho → Ro D) : Rho → Ro (List D) := fun ρ => (d ρ).bind fun x ρ1 => Ro.of (seqD x) ρ1
/-- range(n), range(a, b) -/
def rngD (a b : Int) : List D := (List.range (b - a).toNat).map fun (i : Nat) => D.int (a + (i : Int))
def rng1 : List D → Option (List D)
  | [.int n] => if -(2 ^ 62) ≤ n ∧ n < 2 ^ 62 then some (rngD 0 n) else none
  | _ => none
def rng2 : List D → Option (List D)
  | [.int a, .int b] => if -(2 ^ 62) ≤ a ∧ a < 2 ^ 62 ∧ -(2 ^ 62) ≤ b ∧ b < 2 ^ 62 then some (rngD a b) else none
  | _ => none
def dRng (f : List D → Option (List D)) (ds : Rho → Ro (List D)) : Rho → Ro (List D) := fun ρ => (ds ρ).bind fun xs ρ1 => Ro.of (f xs) ρ1
def forD (g : D → Rho → Option Rho) (body : Rho → So) : List D → Rho → So
  | [], ρ => .nx ρ
  | d :: ds, ρ => optS (g d ρ) fun ρ1 => (body ρ1).turn (forD g body ds)
def sFor (di : Rho → Ro (List D)) (g : D → Rho → Option Rho) (body : Rho → So) : Rho → So := fun ρ => (di ρ).then (forD g body)
def whD (t : Rho → Ro Bool) (body : Rho → So) : Nat → Rho → So
  | 0, _ => .stuck
  | n + 1, ρ => (t ρ).then fun b ρ1 => if b = true then (body ρ1).turn (whD t body n) else .nx ρ1

section
variable {c : Cc} {X : Cx} {k : Kd} {q : Bool} {e tg : Expr} {d : Rho → Ro D} {ds : Rho → Ro (List D)} {sts : List Stmt} {s : Rho → So} {pos p : Pos}
theorem wk_list {T : Tb} {G : Hp} {a : Addr} {vs : List V} {ds : List D} (h : SqL T.K G a vs) (r : Reps T G vs ds) : Wk T (Itl T.K a) G ds where
  go := fun i H hi sm => ⟨vs, vs[i]'(by rw [r.length]; exact hi), sm.seq h, List.getElem?_eq_getElem _⟩
  stop := fun H sm => ⟨vs, sm.seq h, by rw [r.length]; exact Nat.le_refl _⟩
  yld := fun i H x H' d hd sm y => by
    obtain ⟨e, y⟩ := y
    have hx := y vs (sm.seq h)
    obtain ⟨d', h1, h2⟩ := r.getV hx
    rw [hd] at h1
    cases h1
    exact .inl ⟨e, h2⟩
theorem wk_tup {T : Tb} {G : Hp} {a : Addr} {vs : List V} {ds : List D} (h : SqT T.K G a vs) (r : Reps T G vs ds) : Wk T (Itt T.K a) G ds where
  go := fun i H hi sm => ⟨vs, vs[i]'(by rw [r.length]; exact hi), sqT_mono sm h, List.getElem?_eq_getElem _⟩
  stop := fun H sm => ⟨vs, sqT_mono sm h, by rw [r.length]; exact Nat.le_refl _⟩
  yld := fun i H x H' d hd sm y => by
    obtain ⟨e, y⟩ := y
    have hx := y vs (sqT_mono sm h)
    obtain ⟨d', h1, h2⟩ := r.getV hx
    rw [hd] at h1
    cases h1
    exact .inl ⟨e, h2⟩
theorem wk_rng {T : Tb} {G : Hp} (a b : Int) : Wk T (Itr a (b - a).toNat) G (rngD a b) where
  go := fun i H hi sm => by
    have hi' : i < (b - a).toNat := by simpa [rngD] using hi
    exact hi'
  stop := fun H sm => by
    show (b - a).toNat ≤ (rngD a b).length
    simp [rngD]
  yld := fun i H x H' d hd sm y => by
    obtain ⟨e, y⟩ := y
    subst y
    refine .inl ⟨e, ?_⟩
    have hd' : some (D.int (a + (i : Int))) = some d := by
      unfold rngD at hd
      rw [List.getElem?_map] at hd
      cases hr : (List.range (b - a).toNat)[i]? with
      | none =>
        rw [hr] at hd
        cases hd
      | some j =>
        have hj : j = i := by
          have := List.getElem?_eq_some_iff.mp hr
          obtain ⟨h1, h2⟩ := this
          simpa using h2.symm
        rw [hr] at hd
        rw [hj] at hd
        exact hd
    cases hd'
    exact .int _
/-- a list, a tuple or a text is walked -/
def iSeq (K : PySem.W.Frag) (tl : TE) : TI := fun σ H R => tl σ H fun x H1 => (∃ a, x = .ref a ∧ (((∃ xs, SqL K H1 a xs) ∧ R (Itl K a) H1) ∨ ((∃ xs, SqT K H1 a xs) ∧ R (Itt K a) H1))) ∨ ∃ z, x = .str z ∧ R (Its z) H1
theorem pi_seq {l : Expr} {tl : TE} (hl : PE X l tl) : PI X tg l (iSeq X.K tl) := by
  refine ⟨fun pins s σ H R I h => ?_⟩
  refine thn (hl.run pins s σ H _ I h) fun v s1 ⟨x, H1, I1, r1, q0⟩ => ?_
  rcases q0 with ⟨a, ea, q1⟩ | ⟨z, ez, q⟩
  · subst ea
    cases r1
    have fpo : ∀ b ∈ [s1.heap.objs.size], FpOk X pins H1 b := fun b hb => by
      have eb : b = s1.heap.objs.size := by simpa using hb
      rw [eb]
      exact I1.fpOk (Nat.le_refl _) (I1.hok.fresh (Nat.le_refl _))
    rcases q1 with ⟨⟨xs, hq⟩, q⟩ | ⟨⟨xs, hq⟩, q⟩
    · obtain ⟨its, rv, pl, hz⟩ := I1.list hq
      exact wpAny_pyIter_list pl.isList ⟨s1.heap.objs.size, [s1.heap.objs.size], _, _, H1, rfl, I1.kept (t' := s1.toks) fun b o z => Heap.get?_push_of_some _ z, turn_list a _, ⟨_, Heap.get?_push_size _ rfl, rfl, rfl⟩, fpo, q⟩
    · obtain ⟨its, rv, pl, hz⟩ := I1.tuple hq
      exact wpAny_pyIter_tuple (show s1.heap.IsTuple a its.toArray from pl) ⟨s1.heap.objs.size, [s1.heap.objs.size], _, _, H1, rfl, I1.kept (t' := s1.toks) fun b o z => Heap.get?_push_of_some _ z, turn_tuple a _, ⟨_, Heap.get?_push_size _ rfl, rfl, rfl⟩, fpo, q⟩
  · subst ez
    obtain ⟨t, rfl⟩ := r1
    cases ha : z.cps.all (· < 128)
    · exact wpAny_pyIter_wide ha (pi_one (tk := s1.toks) I1 _ (turn_str _ z t "str_iterator" (.inr rfl)) ⟨_, Heap.get?_push_size _ rfl, rfl, rfl⟩ q)
    · exact wpAny_pyIter_ascii ha (pi_one (tk := s1.toks) I1 _ (turn_str _ z t "str_ascii_iterator" (.inl rfl)) ⟨_, Heap.get?_push_size _ rfl, rfl, rfl⟩ q)
theorem wk_str {T : Tb} {G : Hp} (z : Str) : Wk T (Its z) G (z.cps.toList.map fun c => D.str ⟨#[c]⟩) where
  go := fun i H hi sm => by
    have hi' : i < z.cps.size := by simpa using hi
    exact hi'
  stop := fun H sm => by
    show z.cps.size ≤ _
    simp
  yld := fun i H x H' d hd sm y => by
    obtain ⟨e, cc, h1, h2⟩ := y
    subst h2
    refine .inl ⟨e, ?_⟩
    rw [List.getElem?_map] at hd
    have hz : z.cps.toList[i]? = some cc := by simpa using h1
    rw [hz] at hd
    cases hd
    exact .str _
theorem reps_ints {T : Tb} {G : Hp} : ∀ ns : List Int, Reps T G (ns.map V.int) (ns.map D.int)
  | [] => .nil
  | n :: ns => .cons (.int n) (reps_ints ns)
theorem di_seq (h : DE c X .st q e d) (hK : X.K = c.T.K := by first | rfl | assumption) : DI c X q tg e (dIt d) := by
  refine ⟨pi_imp (pi_seq h.pe) fun σ H R ⟨m, G, ρ, r, o⟩ => ⟨m, G, ρ, r, ?_⟩⟩
  refine (Out.bind (out_true o)).imp fun x H1 ⟨G1, ρ1, v, g1, e1, s1, r1, o1⟩ => ?_
  have r1' : Rep c.T G1 x v := r1
  cases v with
  | lst ls =>
    cases r1' with
    | lst hs rs =>
      have hs' : SqL c.T.K G1 _ _ := .inl (.inl hs)
      exact .inl ⟨_, rfl, .inl ⟨⟨_, by rw [hK]; exact s1.gh.seq hs'⟩, by rw [hK]; exact Out.ret o1 s1 (wk_list hs' rs)⟩⟩
  | scr ls =>
    cases r1' with
    | scr hs => exact .inl ⟨_, rfl, .inl ⟨⟨_, by rw [hK]; exact s1.gh.seq hs⟩, by rw [hK]; exact Out.ret o1 s1 (wk_list hs (reps_ints ls))⟩⟩
  | tup ls =>
    cases r1' with
    | tup hs rs =>
      have hs' : SqT c.T.K G1 _ _ := .inl (.inl hs)
      exact .inl ⟨_, rfl, .inr ⟨⟨_, by rw [hK]; exact sqT_mono s1.gh hs'⟩, by rw [hK]; exact Out.ret o1 s1 (wk_tup hs' rs)⟩⟩
  | ktp ls =>
    cases r1' with
    | ktp hs rs => exact .inl ⟨_, rfl, .inr ⟨⟨_, by rw [hK]; exact sqT_mono s1.gh hs⟩, by rw [hK]; exact Out.ret o1 s1 (wk_tup hs rs)⟩⟩
  | str z =>
    cases r1'
    exact .inr ⟨z, rfl, Out.ret o1 s1 (wk_str z)⟩
  | _ => exact o1.elim
theorem di_rng1 {a : Expr} (hg : Gl X "range") (hm : X.mg "range" = none) (ha : DA c X q [a] ds) (hs : starEach [a] X.env = [(false, eval a X.env)] := by rfl) : DI c X q tg (.Call (.Name "range" p) [a] [] pos) (dRng rng1 ds) := by
  refine ⟨pi_imp (pi_range1 hg hm ha.pa hs) fun σ H R ⟨m, G, ρ, r, o⟩ => ⟨m, G, ρ, r, ?_⟩⟩
  refine (Out.bind (out_true o)).imp fun xs H1 ⟨G1, ρ1, v, g1, e1, s1, r1, o1⟩ => ?_
  have r1' : Reps c.T G1 xs v := r1
  unfold rng1 at o1
  split at o1
  · rename_i n
    split at o1
    · rename_i hn
      cases r1' with
      | cons ra rb =>
        cases rb
        refine ⟨n, by rw [ra.intV], hn.1, hn.2, ?_⟩
        have w := wk_rng (T := c.T) (G := G1) 0 n
        rw [Int.sub_zero] at w
        exact Out.ret o1 s1 w
    · exact o1.elim
  · exact o1.elim
theorem di_rng2 {a b : Expr} (hg : Gl X "range") (hm : X.mg "range" = none) (ha : DA c X q [a, b] ds) (hs : starEach [a, b] X.env = [(false, eval a X.env), (false, eval b X.env)] := by rfl) (hs2 : starEach [b] X.env = [(false, eval b X.env)] := by rfl) :
    DI c X q tg (.Call (.Name "range" p) [a, b] [] pos) (dRng rng2 ds) := by
  refine ⟨pi_imp (pi_range2 hg hm ha.pa hs hs2) fun σ H R ⟨m, G, ρ, r, o⟩ => ⟨m, G, ρ, r, ?_⟩⟩
  refine (Out.bind (out_true o)).imp fun xs H1 ⟨G1, ρ1, v, g1, e1, s1, r1, o1⟩ => ?_
  have r1' : Reps c.T G1 xs v := r1
  unfold rng2 at o1
  split at o1
  · rename_i i j
    split at o1
    · rename_i hn
      cases r1' with
      | cons ra rb =>
        cases rb with
        | cons rc rd =>
          cases rd
          exact ⟨i, j, by rw [ra.intV, rc.intV], hn, Out.ret o1 s1 (wk_rng i j)⟩
    · exact o1.elim
  · exact o1.elim
/-- for -/
theorem ds_for {g : D → Rho → Option Rho} {di : Rho → Ro (List D)} (hp : PassesOwn (model X.prog X.w) X.A X.env X.xe) (hc : X.calm = true) (hi : DI c X q tg e di) (hg : DG c X tg g) (hb : DSs c X sts s) (hs : ∀ x, foldedSetIterable e X.env x = pure x := by intro _; rfl) :
    DS c X (.For tg e sts [] pos) (sFor di g s) := by
  refine ⟨ps_imp (ps_for hp hc hi.pi hg.pg hb.pss hs) fun Z σ H ⟨m, G, ρ, r, o⟩ => ⟨m, G, ρ, r, ?_⟩⟩
  refine (Out.then o).imp fun J H1 ⟨G1, ρ1, ds, g1, e1, s1, w, o1⟩ => ?_
  refine ⟨fun i n σ H => i ≤ ds.length ∧ n = ds.length - i ∧ ∃ G2 ρ2, Same G1 G2 ∧ SR c.T c.io m G2 H σ ρ2 ∧ OutS c m G2 (forD g s (ds.drop i) ρ2) Z, ⟨ds.length, Nat.zero_le _, rfl, G1, ρ1, Same.refl _, s1, o1⟩, ?_⟩
  rintro i n σ2 H2 ⟨hi, rfl, G2, ρ2, g2, s2, o2⟩
  by_cases hlt : i < ds.length
  · refine .inr ⟨w.go i H2 hlt (g2.trans s2.gh), fun σ' H' => ∃ G3 ρ3, Same G1 G3 ∧ SR c.T c.io m G3 H' σ' ρ3 ∧ OutS c m G3 (forD g s (ds.drop (i + 1)) ρ3) Z, fun σ' H' ⟨G3, ρ3, a, b, z⟩ => ⟨ds.length - (i + 1), by omega, hlt, rfl, G3, ρ3, a, b, z⟩, fun x H' y => ?_⟩
    have ed : ds[i]? = some ds[i] := List.getElem?_eq_getElem hlt
    have edr : ds.drop i = ds[i] :: ds.drop (i + 1) := List.drop_eq_getElem_cons hlt
    -- the item stands frozen
    obtain ⟨G3, g3, s3, r3⟩ : ∃ G3, Same G2 G3 ∧ SR c.T c.io m G3 H' σ2 ρ2 ∧ Rep c.T G3 x ds[i] := by
      rcases w.yld i H2 x H' _ ed (g2.trans s2.gh) y with ⟨eH, rx⟩ | ⟨p', vs, es, hp', ex, eH, rs, ed2⟩
      · subst eH
        exact ⟨G2, Same.refl _, s2, rx.mono g2⟩
      · subst eH
        subst ex
        rw [ed2]
        exact ⟨upd G2 p' (.tup vs), same_upd (s2.gh.free hp'), s2.new hp', .tup upd_same ((rs.mono g2).mono (same_upd (s2.gh.free hp')))⟩
    rw [edr] at o2
    cases hgx : g ds[i] ρ2 with
    | none =>
      unfold forD at o2
      rw [hgx] at o2
      exact o2.elim
    | some ρ4 =>
      unfold forD at o2
      rw [hgx] at o2
      refine ⟨m, G3, ρ2, ds[i], s3, r3, ρ4, hgx, fun σ4 s4 => ⟨m, G3, ρ4, s4, ?_⟩⟩
      have o3 : OutS c m G3 ((s ρ4).turn (forD g s (ds.drop (i + 1)))) Z := OutS.step o2 g3
      cases hb : s ρ4 with
      | nx ρ5 =>
        rw [hb] at o3
        exact fun σ' G' H' g' s' => ⟨G', ρ5, (g2.trans g3).trans g', s', OutS.step o3 g'⟩
      | ct ρ5 =>
        rw [hb] at o3
        exact fun σ' G' H' g' s' => ⟨G', ρ5, (g2.trans g3).trans g', s', OutS.step o3 g'⟩
      | bk ρ5 =>
        rw [hb] at o3
        exact o3
      | rt d ρ5 =>
        rw [hb] at o3
        exact o3
      | rf d ρ5 =>
        rw [hb] at o3
        exact o3
      | err _ _ _ =>
        rw [hb] at o3
        exact o3
      | stuck =>
        rw [hb] at o3
        exact o3
  · have hil : i = ds.length := by omega
    subst hil
    refine .inl ⟨w.stop H2 (g2.trans s2.gh), ?_⟩
    rw [List.drop_length] at o2
    exact OutS.nx o2 s2
/-- while -/
theorem ds_while {b : Rho → Ro Bool} (n : Nat) (hp : PassesOwn (model X.prog X.w) X.A X.env X.xe) (ht : DT c X q e b) (hb : DSs c X sts s) : DS c X (.While e sts [] pos) (whD b s n) := by
  refine ⟨ps_imp (ps_while hp ht.pt hb.pss) fun Z σ H ⟨m, G, ρ, r, o⟩ => ?_⟩
  refine ⟨fun k σ H => ∃ G2 ρ2, Same G G2 ∧ SR c.T c.io m G2 H σ ρ2 ∧ OutS c m G2 (whD b s k ρ2) Z, ⟨n, G, ρ, Same.refl _, r, o⟩, ?_⟩
  rintro k σ2 H2 ⟨G2, ρ2, g2, s2, o2⟩
  cases k with
  | zero => exact o2.elim
  | succ k =>
    refine ⟨m, G2, ρ2, s2, ?_⟩
    refine (Out.then o2).imp fun x H3 ⟨G3, ρ3, v, g3, e3, s3, r3, o3⟩ => ?_
    subst r3
    cases x with
    | false => exact OutS.nx o3 s3
    | true =>
      refine ⟨fun σ' H' => ∃ G4 ρ4, Same G G4 ∧ SR c.T c.io m G4 H' σ' ρ4 ∧ OutS c m G4 (whD b s k ρ4) Z, fun σ' H' z => ⟨k, Nat.lt_succ_self _, z⟩, m, G3, ρ3, s3, ?_⟩
      have o3' : OutS c m G3 ((s ρ3).turn (whD b s k)) Z := o3
      cases hb : s ρ3 with
      | nx ρ5 =>
        rw [hb] at o3'
        exact fun σ' G' H' g' s' => ⟨G', ρ5, (g2.trans g3).trans g', s', OutS.step o3' g'⟩
      | ct ρ5 =>
        rw [hb] at o3'
        exact fun σ' G' H' g' s' => ⟨G', ρ5, (g2.trans g3).trans g', s', OutS.step o3' g'⟩
      | bk ρ5 =>
        rw [hb] at o3'
        exact o3'
      | rt d ρ5 =>
        rw [hb] at o3'
        exact o3'
      | rf d ρ5 =>
        rw [hb] at o3'
        exact o3'
      | err _ _ _ =>
        rw [hb] at o3'
        exact o3'
      | stuck =>
        rw [hb] at o3'
        exact o3'
end
end VL

set_option Elab.async false
set_option linter.all false
set_option maxRecDepth 100000
set_option maxHeartbeats 2000000
/-! VL5: defs by their denotations; calls -/
namespace VL
open PySem PySem.Spec L2
open PyProof.Rows (envOfC)

/-- what a call comes to: its value and the parameters' data behind it -/
inductive FO where
  | ret (d : D) (ds : List D)
  | fre (d : D) (ds : List D)
  | err (e : Str) (fs : List (Str × D)) (ds : List D)
  | stuck
def ixs : Nat → List Bool → List Nat
  | _, [] => []
  | n, b :: bs => if b = true then n :: ixs (n + 1) bs else ixs (n + 1) bs
def initR : List Bool → List D → Rho
  | b :: bs, d :: ds => some (if b = true then .ow d else .fz d) :: initR bs ds
  | _, _ => []
/-- the parameters' data behind a body -/
def outsD : List Bool → List D → Rho → Option (List D)
  | [], [], _ => some []
  | true :: bs, _ :: ds, some (.ow d') :: ρ => (outsD bs ds ρ).map (d' :: ·)
  | false :: bs, d :: ds, _ :: ρ => (outsD bs ds ρ).map (d :: ·)
  | _, _, _ => none
def optF (o : Option (List D)) (f : List D → FO) : FO := match o with
  | some x => f x
  | none => .stuck
@[simp] theorem optF_some (x : List D) (f : List D → FO) : optF (some x) f = f x := rfl
@[simp] theorem optF_none (f : List D → FO) : optF none f = .stuck := rfl
def So.toF (bs : List Bool) (ds : List D) (r : So) : FO := match r with
  | .nx ρ => optF (outsD bs ds ρ) (.ret .non)
  | .rt d ρ => optF (outsD bs ds ρ) (.ret d)
  | .rf d ρ => optF (outsD bs ds ρ) (.fre d)
  | .err e fs ρ => optF (outsD bs ds ρ) (.err e fs)
  | _ => .stuck
/-- a def: which parameters are changed, how many more names, the body -/
def fnD (bs : List Bool) (n : Nat) (body : Rho → So) : List D → FO := fun ds => if ds.length = bs.length then (body (initR bs ds ++ List.replicate n none)).toF bs ds else .stuck
def OutF (T : Tb) (bs : List Bool) (m : Am) (G : Hp) (vs : List V) (r : FO) (Q : VK) (E : XK) : Prop := match r with
  | .ret d ds' => ∀ x G' H', Same G G' → SR T (ioL (ixs 0 bs)) m G' H' (vs.map some) (initR bs ds') → ds'.length = bs.length → Rep T G' x d → Q x H'
  | .fre d ds' => ∀ p G' H', Same G G' → SR T (ioL (ixs 0 bs)) m G' H' (vs.map some) (initR bs ds') → ds'.length = bs.length → Fre T m G' H' (vs.map some) (initR bs ds') p d → Q (.ref p) H'
  | .err e fs ds' => ∀ dx G' H', Same G G' → SR T (ioL (ixs 0 bs)) m G' H' (vs.map some) (initR bs ds') → ds'.length = bs.length → XRep T G' H' dx fs → E (.ref (T.cl e)) dx H'
  | .stuck => False
def spF (T : Tb) (bs : List Bool) (F : List D → FO) : Sp := fun vs H Q E => vs.length = bs.length ∧ ∃ m G ds, ds.length = bs.length ∧ SR T (ioL (ixs 0 bs)) m G H (vs.map some) (initR bs ds) ∧ OutF T bs m G vs (F ds) Q E

theorem initR_length : ∀ {bs : List Bool} {ds : List D}, ds.length = bs.length → (initR bs ds).length = bs.length
  | [], [], _ => rfl
  | b :: bs, d :: ds, h => by
    show (initR bs ds).length + 1 = bs.length + 1
    rw [initR_length (by simpa using h)]
theorem initR_get : ∀ {bs : List Bool} {ds : List D} {i : Nat} {x : Sl}, (initR bs ds)[i]? = some (some x) → ∃ b d, bs[i]? = some b ∧ ds[i]? = some d ∧ x = if b = true then .ow d else .fz d
  | [], _, i, x, h => by simp [initR] at h
  | _ :: _, [], i, x, h => by simp [initR] at h
  | b :: bs, d :: ds, 0, x, h => by
    refine ⟨b, d, rfl, rfl, ?_⟩
    have h' : some (if b = true then Sl.ow d else .fz d) = some x := Option.some.inj h
    exact (Option.some.inj h').symm
  | b :: bs, d :: ds, i + 1, x, h => by
    have h' : (initR bs ds)[i]? = some (some x) := h
    obtain ⟨b', d', e1, e2, e3⟩ := initR_get h'
    exact ⟨b', d', by simpa using e1, by simpa using e2, e3⟩
theorem initR_at : ∀ {bs : List Bool} {ds : List D} {i : Nat} {b : Bool} {d : D}, bs[i]? = some b → ds[i]? = some d → (initR bs ds)[i]? = some (some (if b = true then .ow d else .fz d))
  | [], _, i, _, _, h, _ => by simp at h
  | _ :: _, [], i, _, _, _, h => by simp at h
  | b :: bs, d :: ds, 0, b', d', h1, h2 => by
    cases (show b = b' by simpa using h1)
    cases (show d = d' by simpa using h2)
    rfl
  | b :: bs, d :: ds, i + 1, b', d', h1, h2 => by
    show (initR bs ds)[i]? = _
    exact initR_at (by simpa using h1) (by simpa using h2)
theorem mem_ixs : ∀ {bs : List Bool} {n i : Nat}, i ∈ ixs n bs ↔ n ≤ i ∧ bs[i - n]? = some true
  | [], n, i => by simp [ixs]
  | b :: bs, n, i => by
    have ih := @mem_ixs bs (n + 1) i
    by_cases hi : i = n
    · subst hi
      cases b with
      | true => simp [ixs]
      | false =>
        have e : ixs i (false :: bs) = ixs (i + 1) bs := rfl
        rw [e, ih]
        constructor
        · intro h
          omega
        · intro h
          simp at h
    · have hsub : ∀ h : n ≤ i, (b :: bs)[i - n]? = bs[i - (n + 1)]? := fun h => by
        have : i - n = (i - (n + 1)) + 1 := by omega
        rw [this, List.getElem?_cons_succ]
      cases b with
      | true =>
        have e : ixs n (true :: bs) = n :: ixs (n + 1) bs := rfl
        rw [e, List.mem_cons, ih]
        constructor
        · rintro (h | ⟨h1, h2⟩)
          · exact absurd h hi
          · exact ⟨by omega, by rw [hsub (by omega)]; exact h2⟩
        · rintro ⟨h1, h2⟩
          rw [hsub h1] at h2
          exact .inr ⟨by omega, h2⟩
      | false =>
        have e : ixs n (false :: bs) = ixs (n + 1) bs := rfl
        rw [e, ih]
        constructor
        · rintro ⟨h1, h2⟩
          exact ⟨by omega, by rw [hsub (by omega)]; exact h2⟩
        · rintro ⟨h1, h2⟩
          rw [hsub h1] at h2
          exact ⟨by omega, h2⟩
theorem outsD_length : ∀ {bs : List Bool} {ds ds' : List D} {ρ : Rho}, outsD bs ds ρ = some ds' → ds'.length = bs.length
  | [], [], ds', _, h => by
    cases h
    rfl
  | [], _ :: _, _, _, h => by cases h
  | true :: bs, [], _, _, h => by cases h
  | false :: bs, [], _, _, h => by cases h
  | true :: bs, _ :: ds, _, [], h => by cases h
  | true :: bs, _ :: ds, _, none :: ρ, h => by cases h
  | true :: bs, _ :: ds, _, some (.fz _) :: ρ, h => by cases h
  | true :: bs, _ :: ds, ds', some (.ow d') :: ρ, h => by
    have h' : (outsD bs ds ρ).map (d' :: ·) = some ds' := h
    cases hr : outsD bs ds ρ with
    | none =>
      rw [hr] at h'
      cases h'
    | some r =>
      rw [hr] at h'
      cases h'
      simp [outsD_length hr]
  | false :: bs, _ :: ds, _, [], h => by cases h
  | false :: bs, d :: ds, ds', _ :: ρ, h => by
    have h' : (outsD bs ds ρ).map (d :: ·) = some ds' := h
    cases hr : outsD bs ds ρ with
    | none =>
      rw [hr] at h'
      cases h'
    | some r =>
      rw [hr] at h'
      cases h'
      simp [outsD_length hr]
theorem outsD_get : ∀ {bs : List Bool} {ds ds' : List D} {ρ : Rho} {i : Nat} {b : Bool} {d : D}, outsD bs ds ρ = some ds' → bs[i]? = some b → ds'[i]? = some d → if b = true then ρ[i]? = some (some (.ow d)) else ds[i]? = some d
  | [], [], ds', _, i, _, _, h, h1, _ => by simp at h1
  | [], _ :: _, _, _, _, _, _, h, _, _ => by cases h
  | true :: bs, [], _, _, _, _, _, h, _, _ => by cases h
  | false :: bs, [], _, _, _, _, _, h, _, _ => by cases h
  | true :: bs, _ :: ds, _, [], _, _, _, h, _, _ => by cases h
  | true :: bs, _ :: ds, _, none :: ρ, _, _, _, h, _, _ => by cases h
  | true :: bs, _ :: ds, _, some (.fz _) :: ρ, _, _, _, h, _, _ => by cases h
  | true :: bs, _ :: ds, ds', some (.ow d') :: ρ, i, b, d, h, h1, h2 => by
    have h' : (outsD bs ds ρ).map (d' :: ·) = some ds' := h
    cases hr : outsD bs ds ρ with
    | none =>
      rw [hr] at h'
      cases h'
    | some r =>
      rw [hr] at h'
      cases h'
      cases i with
      | zero =>
        cases (show true = b by simpa using h1)
        cases (show d' = d by simpa using h2)
        simp
      | succ i =>
        have ih := outsD_get (i := i) (b := b) (d := d) hr (by simpa using h1) (by simpa using h2)
        simpa using ih
  | false :: bs, _ :: ds, _, [], _, _, _, h, _, _ => by cases h
  | false :: bs, d0 :: ds, ds', _ :: ρ, i, b, d, h, h1, h2 => by
    have h' : (outsD bs ds ρ).map (d0 :: ·) = some ds' := h
    cases hr : outsD bs ds ρ with
    | none =>
      rw [hr] at h'
      cases h'
    | some r =>
      rw [hr] at h'
      cases h'
      cases i with
      | zero =>
        cases (show false = b by simpa using h1)
        cases (show d0 = d by simpa using h2)
        simp
      | succ i =>
        have ih := outsD_get (i := i) (b := b) (d := d) hr (by simpa using h1) (by simpa using h2)
        simpa using ih

section
variable {T : Tb} {io : Io} {m : Am} {G G' H H' : Hp} {σ σ' : L2.St} {ρ ρ' : Rho}
/-- from a body's end to the call's -/
theorem SR.outs {bs : List Bool} {ds ds' : List D} {vs : List V} (s0 : SR T (ioL (ixs 0 bs)) m G H (vs.map some) (initR bs ds)) (hd : ds.length = bs.length) (g : Same G G') (s : SR T (ioL (ixs 0 bs)) m G' H' σ' ρ') (e : outsD bs ds ρ' = some ds') :
    SR T (ioL (ixs 0 bs)) m G' H' (vs.map some) (initR bs ds') := by
  have hl := outsD_length e
  have lv : vs.length = bs.length := by
    have := s0.len
    rw [initR_length hd, List.length_map] at this
    exact this
  have atv : ∀ {i : Nat} {d : D}, bs[i]? = some true → ds'[i]? = some d → ρ'[i]? = some (some (.ow d)) ∧ σ'[i]? = (vs.map some)[i]? := fun {i d} h1 h2 => by
    have q := outsD_get e h1 h2
    rw [if_pos rfl] at q
    refine ⟨q, ?_⟩
    have hi : i ∈ ixs 0 bs := mem_ixs.mpr ⟨Nat.zero_le _, by simpa using h1⟩
    rw [s.pn i hi, s0.pn i hi]
  refine ⟨s.gh, s.rh, s.rg, by rw [initR_length hl, List.length_map, lv], fun i d h => ?_, fun i d h => ?_, fun i j d f p h1 h2 h3 h4 => ?_, s0.pn, True.intro, s.gt⟩
  · obtain ⟨b, d', e1, e2, e3⟩ := initR_get h
    cases b with
    | true => cases e3
    | false =>
      cases e3
      have q := outsD_get e e1 e2
      rw [if_neg (by simp)] at q
      obtain ⟨v, a1, a2⟩ := s0.fz i d (initR_at e1 q)
      exact ⟨v, a1, a2.mono g⟩
  · obtain ⟨b, d', e1, e2, e3⟩ := initR_get h
    cases b with
    | false => cases e3
    | true =>
      cases e3
      obtain ⟨q, qs⟩ := atv e1 e2
      obtain ⟨p, a1, a2⟩ := s.ow i d q
      exact ⟨p, by rw [← qs]; exact a1, a2⟩
  · obtain ⟨b, d', e1, e2, e3⟩ := initR_get h1
    obtain ⟨b', f', k1, k2, k3⟩ := initR_get h2
    cases b with
    | false => cases e3
    | true =>
      cases b' with
      | false => cases k3
      | true =>
        cases e3
        cases k3
        obtain ⟨q, qs⟩ := atv e1 e2
        obtain ⟨q', qs'⟩ := atv k1 k2
        exact s.ap i j d f p q q' (by rw [qs]; exact h3) (by rw [qs']; exact h4)
end

/-! ### a def keeps its promise -/
theorem start_eq (N : List Str) (vs : List V) : L2.start N vs = vs.map some ++ List.replicate (N.length - vs.length) none := rfl
theorem SR.pad {T : Tb} {io : Io} {m : Am} {G H : Hp} {σ : L2.St} {ρ : Rho} (s : SR T io m G H σ ρ) (n : Nat) : SR T io m G H (σ ++ List.replicate n none) (ρ ++ List.replicate n none) := by
  have lt : ∀ {i : Nat} {x : Sl}, (ρ ++ List.replicate n none)[i]? = some (some x) → ρ[i]? = some (some x) ∧ i < ρ.length := fun {i x} h => by
    by_cases hi : i < ρ.length
    · rw [List.getElem?_append_left hi] at h
      exact ⟨h, hi⟩
    · rw [List.getElem?_append_right (by omega), List.getElem?_replicate] at h
      split at h <;> cases h
  have sg : ∀ {i : Nat}, i < ρ.length → (σ ++ List.replicate n none)[i]? = σ[i]? := fun {i} hi => List.getElem?_append_left (by rw [s.len]; exact hi)
  refine ⟨s.gh, s.rh, s.rg, by simp [s.len], fun i d h => ?_, fun i d h => ?_, fun i j d e p h1 h2 h3 h4 => ?_, fun i hi => ?_, s.am, s.gt⟩
  · obtain ⟨a, b⟩ := lt h
    rw [sg b]
    exact s.fz i d a
  · obtain ⟨a, b⟩ := lt h
    rw [sg b]
    exact s.ow i d a
  · obtain ⟨a, b⟩ := lt h1
    obtain ⟨a', b'⟩ := lt h2
    rw [sg b] at h3
    rw [sg b'] at h4
    exact s.ap i j d e p a a' h3 h4
  · have q := s.pn i hi
    have hl : i < σ.length := (List.getElem?_eq_some_iff.mp q).1
    rw [List.getElem?_append_left hl]
    exact q

section
variable {T : Tb} {mg : Str → Option Value} {base : Heap}
/-- THE RULE for a def -/
theorem fn_ok {x qual : Str} {st : Stmt} {f : Addr} {fd : FuncData} {N ps : List Str} {k n : Nat} {bs : List Bool} {body : Rho → So} (F : Fun T.K x qual st f fd) (S : FnScope N ps (defScope st)) (hp : ps.length = bs.length) (hn : N.length - ps.length = n)
    (hb : ∀ (cdv : Value) (A : Around) (outer : List Env) (s : Shared) (H : Hp) (E : XK), Room k (A.deeper (envOfC qual (defScope st) s.heap.objs.size f cdv)) →
      DSs ⟨T, ioL (ixs 0 bs), fun cls d _ H => E cls d H⟩ (cxOf (L2.CX T.P T.w) T.P T.w T.K mg base N qual (defScope st) f cdv A outer s H E) (defBody st) body) :
    FnOk T.P T.w T.K mg base (L2.CX T.P T.w) (k + 1) f fd ps (spF T bs (fnD bs n body)) := by
  refine F.okX S (fun vs H Q E h => by rw [h.1, hp]) (fun cdv A outer s H vs Q E hr h => ⟨_, (hb cdv A outer s H E hr).pss, ?_⟩)
  obtain ⟨lv, m, G, ds, ld, s0, o⟩ := h
  have hnv : N.length - vs.length = n := by rw [lv, ← hp, hn]
  unfold fnD at o
  rw [if_pos ld] at o
  rw [start_eq, hnv]
  refine ⟨m, G, initR bs ds ++ List.replicate n none, s0.pad n, ?_⟩
  generalize body (initR bs ds ++ List.replicate n none) = r at o
  cases r with
  | nx ρ' =>
    intro σ' G' H' g s'
    have o' : OutF T bs m G vs (optF (outsD bs ds ρ') (.ret .non)) Q E := o
    cases hr' : outsD bs ds ρ' with
    | none =>
      rw [hr'] at o'
      exact o'.elim
    | some ds' =>
      rw [hr'] at o'
      exact o' .non G' H' g (s0.outs ld g s' hr') (outsD_length hr') .non
  | rt d ρ' =>
    intro v σ' G' H' g s' rv
    have o' : OutF T bs m G vs (optF (outsD bs ds ρ') (.ret d)) Q E := o
    cases hr' : outsD bs ds ρ' with
    | none =>
      rw [hr'] at o'
      exact o'.elim
    | some ds' =>
      rw [hr'] at o'
      exact o' v G' H' g (s0.outs ld g s' hr') (outsD_length hr') rv
  | rf d ρ' =>
    intro p σ' G' H' g s' f
    have o' : OutF T bs m G vs (optF (outsD bs ds ρ') (.fre d)) Q E := o
    cases hr' : outsD bs ds ρ' with
    | none =>
      rw [hr'] at o'
      exact o'.elim
    | some ds' =>
      rw [hr'] at o'
      refine o' p G' H' g (s0.outs ld g s' hr') (outsD_length hr') ⟨f.g, f.r, f.own, fun i e h z => ?_⟩
      obtain ⟨b, e', e1, e2, e3⟩ := initR_get h
      cases b with
      | false => cases e3
      | true =>
        cases e3
        have q := outsD_get hr' e1 e2
        rw [if_pos rfl] at q
        have hi : i ∈ ixs 0 bs := mem_ixs.mpr ⟨Nat.zero_le _, by simpa using e1⟩
        have h1 := s'.pn i hi
        have h2 := s0.pn i hi
        exact f.ap i e q (h1.trans (h2.symm.trans z))
  | err e fs ρ' =>
    intro dx σ' G' H' g s' rx
    have o' : OutF T bs m G vs (optF (outsD bs ds ρ') (.err e fs)) Q E := o
    cases hr' : outsD bs ds ρ' with
    | none =>
      rw [hr'] at o'
      exact o'.elim
    | some ds' =>
      rw [hr'] at o'
      exact o' dx G' H' g (s0.outs ld g s' hr') (outsD_length hr') rx
  | bk _ => exact o.elim
  | ct _ => exact o.elim
  | stuck => exact o.elim

/-- a def of the module, ready to be called; dd: the data of its last parameters' defaults -/
structure Dfn (T : Tb) (mg : Str → Option Value) (base : Heap) (x : Str) (k : Nat) (bs : List Bool) (dd : List D) (F : List D → FO) : Prop where
  ex : ∃ fd ps, FnOk T.P T.w T.K mg base (L2.CX T.P T.w) k (T.fa x) fd ps (spF T bs F) ∧ ∀ n, n ≤ dd.length → ∃ ds dvs, L2.Binds T.K fd ps ds ∧ L2.Vals dvs ds ∧ ∀ G, Reps T G dvs (dd.drop n)
  mgx : mg x = some (.ref (T.fa x))
  kp : PySem.W.keepIn T.K (.ref (T.fa x)) = true
  ln : ∀ ds, ds.length ≠ bs.length → F ds = .stuck
theorem dfn_mk {x : Str} {st : Stmt} {fd : FuncData} {N ps : List Str} {k n : Nat} {bs : List Bool} {body : Rho → So} (F : Fun T.K x x st (T.fa x) fd) (hm : mg x = some (.ref (T.fa x))) (S : FnScope N ps (defScope st)) (hp : ps.length = bs.length) (hn : N.length - ps.length = n)
    (h : ∀ (kV doc pm : Value) (an : Option Addr) (cdv ct : Value) (us : List Value), us.length = ps.length → bindArgs (PySem.W.fnOf x x (defArgs st) (defBody st) (defScope st) .none kV doc pm an cdv ct) ⟨us, []⟩ = pure (ps.zip us))
    (hb : ∀ (cdv : Value) (A : Around) (outer : List Env) (s : Shared) (H : Hp) (E : XK), Room k (A.deeper (envOfC x (defScope st) s.heap.objs.size (T.fa x) cdv)) →
      DSs ⟨T, ioL (ixs 0 bs), fun cls d _ H => E cls d H⟩ (cxOf (L2.CX T.P T.w) T.P T.w T.K mg base N x (defScope st) (T.fa x) cdv A outer s H E) (defBody st) body) : Dfn T mg base x (k + 1) bs [] (fnD bs n body) :=
  ⟨⟨fd, ps, fn_ok F S hp hn hb, fun n hn => ⟨[], [], F.binds h, .nil, fun G => by
    rw [List.drop_nil]
    exact .nil⟩⟩, hm, F.kp, fun ds h => if_neg h⟩
end

/-! ### calls -/
/-- the arguments: frozen ones in order, in-and-out ones by their slots -/
inductive ARep (T : Tb) (G : Hp) (σ : L2.St) : List (Option Nat) → List V → List D → Prop
  | nil : ARep T G σ [] [] []
  | fz {as : List (Option Nat)} {v : V} {vs : List V} {d : D} {ds : List D} : Rep T G v d → ARep T G σ as vs ds → ARep T G σ (none :: as) (v :: vs) (d :: ds)
  | ow {as : List (Option Nat)} {i : Nat} {v : V} {vs : List V} {d : D} {ds : List D} : σ[i]? = some (some v) → ARep T G σ as vs ds → ARep T G σ (some i :: as) (v :: vs) (d :: ds)
theorem ARep.mono {T : Tb} {G G' : Hp} {σ : L2.St} (g : Same G G') : ∀ {as : List (Option Nat)} {vs : List V} {ds : List D}, ARep T G σ as vs ds → ARep T G' σ as vs ds
  | _, _, _, .nil => .nil
  | _, _, _, .fz r t => .fz (r.mono g) (ARep.mono g t)
  | _, _, _, .ow e t => .ow e (ARep.mono g t)
def tX (c : Cc) (as : List (Option Nat)) (d : Rho → Ro (List D)) : TA := fun σ H Q => ∃ m G ρ, SR c.T c.io m G H σ ρ ∧ Out c m G H σ ρ false (fun G' _ _ xs vs => ARep c.T G' σ as xs vs) (d ρ) Q
structure DX (c : Cc) (X : Cx) (as : List (Option Nat)) (es : List Expr) (d : Rho → Ro (List D)) : Prop where
  pa : PA X es (tX c as d)
/-- the in-and-out arguments as they stand -/
def fillD : List (Option Nat) → List D → Rho → Option (List D)
  | [], [], _ => some []
  | none :: as, d :: ds, ρ => (fillD as ds ρ).map (d :: ·)
  | some i :: as, _ :: ds, ρ => match ρ[i]? with
    | some (some (.ow d)) => (fillD as ds ρ).map (d :: ·)
    | _ => none
  | _, _, _ => none
def putD : List (Option Nat) → List D → Rho → Rho
  | none :: as, _ :: ds, ρ => putD as ds ρ
  | some i :: as, d :: ds, ρ => (putD as ds ρ).set i (some (.ow d))
  | _, _, ρ => ρ
def FO.toR (as : List (Option Nat)) (ρ : Rho) (r : FO) : Ro D := match r with
  | .ret d ds => .ok d (putD as ds ρ)
  | .fre d ds => .ok d (putD as ds ρ)
  | .err e fs ds => .err e fs (putD as ds ρ)
  | .stuck => .stuck
def optR {α : Type} (o : Option (List D)) (f : List D → Ro α) : Ro α := match o with
  | some x => f x
  | none => .stuck
@[simp] theorem optR_some {α : Type} (x : List D) (f : List D → Ro α) : optR (some x) f = f x := rfl
@[simp] theorem optR_none {α : Type} (f : List D → Ro α) : optR none f = .stuck := rfl
/-- f(..), with in-and-out arguments -/
def dFn (F : List D → FO) (as : List (Option Nat)) (dd : List D) (ds : Rho → Ro (List D)) : Rho → Ro D := fun ρ => (ds ρ).bind fun xs ρ1 => optR (fillD as xs ρ1) fun ys => (F (ys ++ dd)).toR as ρ1
/-- f(..), all arguments frozen -/
def dF0 (F : List D → FO) (dd : List D) (ds : Rho → Ro (List D)) : Rho → Ro D := fun ρ => (ds ρ).bind fun xs ρ1 => (F (xs ++ dd)).toR [] ρ1
def dIO (ds : Rho → Ro (List D)) : Rho → Ro (List D) := fun ρ => (ds ρ).bind fun xs ρ2 => .ok (.non :: xs) ρ2
def dIOw (i : Nat) (ds : Rho → Ro (List D)) : Rho → Ro (List D) := fun ρ => match ρ[i]? with
      | some (some (.ow _)) => dIO ds ρ
      | _ => .stuck
section
variable {c : Cc} {X : Cx} {k : Kd} {q : Bool} {e : Expr} {es : List Expr} {d : Rho → Ro D} {ds : Rho → Ro (List D)} {as : List (Option Nat)} {pos : Pos}
theorem dx_nil : DX c X [] [] dNil := ⟨pa_imp pa_nil fun σ H Q ⟨m, G, ρ, s, o⟩ => Out.ret o s .nil⟩
theorem dx_cons (ha : DE c X .st q e d) (hr : DX c X as es ds) (hs : starEach (e :: es) X.env = (false, eval e X.env) :: starEach es X.env := by rfl) : DX c X (none :: as) (e :: es) (dCons d ds) := by
  refine ⟨pa_imp (pa_cons ha.pe hr.pa hs) fun σ H Q ⟨m, G, ρ, s, o⟩ => ⟨m, G, ρ, s, ?_⟩⟩
  have o' : Out c m G H σ ρ (q && false) (fun G' _ _ xs vs => ARep c.T G' σ (none :: as) xs vs) (dCons d ds ρ) Q := by
    rw [Bool.and_false]
    exact o
  refine (Out.bind o').imp fun x H1 ⟨G1, ρ1, v, g1, e1, s1, r1, o1⟩ => ⟨m, G1, ρ1, s1, ?_⟩
  refine (Out.bind (q1 := false) (q2 := true) o1).imp fun xs H2 ⟨G2, ρ2, vs, g2, e2, s2, r2, o2⟩ => ?_
  exact Out.ret o2 s2 (.fz (Rep.mono g2 r1) r2)
/-- an in-and-out argument, the name of slot i -/
theorem dx_io (i : Nat) {x : Str} {p : Pos} (hr : DX c X as es ds) (hN : X.N[i]? = some x := by rfl) (hv : Vis X.env.scope x := by first | exact Or.inl rfl | exact Or.inr (Or.inl rfl) | exact Or.inr (Or.inr rfl)) (hd : (x == ("__debug__" : Str)) = false := by decide)
    (hcd : (x == ("__classdict__" : Str)) = false := by decide) (hs : starEach (.Name x p :: es) X.env = (false, eval (.Name x p) X.env) :: starEach es X.env := by rfl) : DX c X (some i :: as) (.Name x p :: es) (dIOw i ds) := by
  refine ⟨pa_imp (pa_cons (pe_var (i := i) hN hv hd hcd) hr.pa hs) fun σ H Q ⟨m, G, ρ, s, o⟩ => ?_⟩
  dsimp only [dIOw] at o
  split at o
  · rename_i d hρ
    obtain ⟨p', e1, _⟩ := s.ow i d hρ
    refine ⟨_, e1, m, G, ρ, s, ?_⟩
    refine (Out.bind (q1 := false) (q2 := true) o).imp fun xs H2 ⟨G2, ρ2, vs, g2, e2, s2, r2, o2⟩ => ?_
    exact Out.ret o2 s2 (.ow e1 r2)
  · exact o.elim
end

section
variable {T : Tb} {io : Io} {m : Am} {G H : Hp} {σ : L2.St} {ρ : Rho}
theorem initR_false (ds : List D) : ∀ {n : Nat}, ds.length = n → initR (List.replicate n false) ds = ds.map fun d => some (.fz d) := by
  induction ds with
  | nil =>
    intro n h
    subst h
    rfl
  | cons d ds ih =>
    intro n h
    subst h
    show some _ :: initR (List.replicate ds.length false) ds = _
    rw [ih rfl]
    rfl
theorem ixs_false : ∀ (n j : Nat), ixs j (List.replicate n false) = []
  | 0, _ => rfl
  | n + 1, j => by
    show ixs (j + 1) (List.replicate n false) = []
    exact ixs_false n (j + 1)
/-- all but what is frozen -/
def others (G H : Hp) : Hp := fun a => match G a with
  | none => H a
  | some _ => none
theorem others_some {G H : Hp} {a : Addr} {o : HO} (h : others G H a = some o) : H a = some o ∧ G a = none := by
  unfold others at h
  cases hg : G a with
  | none =>
    rw [hg] at h
    exact ⟨h, rfl⟩
  | some _ =>
    rw [hg] at h
    cases h
theorem others_at {G H : Hp} {a : Addr} {o : HO} (h : H a = some o) (g : G a = none) : others G H a = some o := by
  unfold others
  rw [g]
  exact h
/-- a callee with frozen arguments alone -/
theorem SR.call0 {vs : List V} {ds : List D} (s : SR T io m G H σ ρ) (r : Reps T G vs ds) : SR T (ioL []) ⟨others G H, m.pv⟩ G H (vs.map some) (ds.map fun d => some (.fz d)) := by
  refine ⟨s.gh, fun a o h => (others_some h).1, fun a o h => (others_some h).2, by simp [r.length], fun i d h => ?_, fun i d h => ?_, fun i j d e p h => ?_, (fun i hi => nomatch hi), True.intro, s.gt⟩
  · rw [List.getElem?_map] at h
    cases hd : ds[i]? with
    | none =>
      rw [hd] at h
      cases h
    | some d' =>
      rw [hd] at h
      cases h
      obtain ⟨v, a, b⟩ := r.get hd
      exact ⟨v, by rw [List.getElem?_map, a]; rfl, b⟩
  · rw [List.getElem?_map] at h
    cases hd : ds[i]? with
    | none =>
      rw [hd] at h
      cases h
    | some d' =>
      rw [hd] at h
      cases h
  · rw [List.getElem?_map] at h
    cases hd : ds[i]? with
    | none =>
      rw [hd] at h
      cases h
    | some d' =>
      rw [hd] at h
      cases h
/-- behind it -/
theorem SR.back0 {G' H' : Hp} {σ' : L2.St} {ρ' : Rho} {pv : Nat → V} {io' : Io} (s : SR T io m G H σ ρ) (g : Same G G') (s' : SR T io' ⟨others G H, pv⟩ G' H' σ' ρ') : SR T io m G' H' σ ρ ∧ Same H H' := by
  have sm : Same H H' := fun a o h => by
    cases hg : G a with
    | some u =>
      have e := s.gh a u hg
      rw [h] at e
      cases e
      exact s'.gh a _ (g a _ hg)
    | none => exact s'.rh a o (others_at h hg)
  have ng : ∀ a o, H a = some o → G a = none → G' a = none := fun a o h hg => s'.rg a o (others_at h hg)
  refine ⟨⟨s'.gh, s.rh.trans sm, fun a o h => ng a o (s.rh a o h) (s.rg a o h), s.len, fun i d h => ?_, fun i d h => ?_, s.ap, s.pn, io.st _ _ _ _ _ s.am g (.of sm), s'.gt⟩, sm⟩
  · obtain ⟨v, a, b⟩ := s.fz i d h
    exact ⟨v, a, b.mono g⟩
  · obtain ⟨p, a, b, c, w⟩ := s.ow i d h
    obtain ⟨o, ho⟩ := w.obj
    exact ⟨p, a, ng p o ho b, c, w.mono g fun u hu => sm _ _ hu⟩
end

/-- a new object, seen from the caller -/
theorem Fre.back0 {T : Tb} {io : Io} {m m' : Am} {G H G' H' : Hp} {σ σ' : L2.St} {ρ ρ' : Rho} {p : Addr} {d : D} (f : Fre T m' G' H' σ' ρ' p d) (s : SR T io m G H σ ρ) (hR : m'.R = others G H) : Fre T m G' H' σ ρ p d := by
  have hr : others G H p = none := by
    rw [← hR]
    exact f.r
  refine ⟨f.g, ?_, f.own, fun i e h z => ?_⟩
  · cases hp : m.R p with
    | none => rfl
    | some o =>
      rw [others_at (s.rh p o hp) (s.rg p o hp)] at hr
      cases hr
  · obtain ⟨q, e1, e2, _, e4⟩ := s.ow i e h
    rw [z] at e1
    cases e1
    obtain ⟨o, ho⟩ := e4.obj
    rw [others_at ho e2] at hr
    cases hr
section
variable {c : Cc} {X : Cx} {k : Nat} {q : Bool} {e : Expr} {es : List Expr} {ds : Rho → Ro (List D)} {as : List (Option Nat)} {F : List D → FO} {dd : List D} {n : Nat} {x : Str} {p pos : Pos}
/-- f(e, ..), every argument frozen; n: how many of the defaulted parameters are written -/
theorem de_fn0 {bs : List Bool} (hf : Dfn c.T X.mg X.base x k bs dd F) (n : Nat) (hn : n ≤ dd.length) (tk : Takes X c.W) (hr : Room k X.A) (hg : Gl X x) (ha : DA c X q (e :: es) ds) (hbs : bs = List.replicate bs.length false := by rfl)
    (hK : X.K = c.T.K := by rfl) (hP : X.prog = c.T.P := by rfl) (hw : X.w = c.T.w := by rfl) (hdb : (x == ("__debug__" : Str)) = false := by decide)
    (he : starEach (e :: es) X.env = (false, eval e X.env) :: starEach es X.env := by rfl) (hpl : (backTo pos (starEach es X.env)).any (·.1) = false := by rfl) :
    DE c X .st q (.Call (.Name x p) (e :: es) [] pos) (dF0 F (dd.drop n) ds) := by
  obtain ⟨fd, ps, ok, bd⟩ := hf.ex
  obtain ⟨dvV, dvs, hb, hv, hrep⟩ := bd n hn
  rw [← hP, ← hw, ← hK] at ok
  refine ⟨pe_imp (pe_callSD (E := fun σ => WE c.W σ) ok hr hg hf.mgx (by rw [hK]; exact hf.kp) (by rw [hK]; exact hb) hv (fun σ => passAt tk σ) ha.pa hdb he hpl) fun σ H Q ⟨m, G, ρ, s, o⟩ => ⟨m, G, ρ, s, ?_⟩⟩
  refine (Out.bind (out_true o)).imp fun xs H1 ⟨G1, ρ1, vs, g1, e1, s1, r1, o1⟩ => ?_
  have r1' : Reps c.T G1 (xs ++ dvs) (vs ++ dd.drop n) := Reps.append r1 (hrep G1)
  have hlen : (vs ++ dd.drop n).length = bs.length → (xs ++ dvs).length = bs.length := fun h => by rw [r1'.length, h]
  have fin : ∀ {d : D} {ds' : List D} {v : V} {G' H' : Hp}, Same G1 G' → SR c.T (ioL (ixs 0 bs)) ⟨others G1 H1, m.pv⟩ G' H' ((xs ++ dvs).map some) (initR bs ds') → Rep c.T G' v d → Out c m G1 H1 σ ρ1 true (KRep c.T m σ .st) (.ok d ρ1) Q → Q v H' := fun {d ds' v G' H'} g s' r o => by
    obtain ⟨s2, sm⟩ := s1.back0 g s'
    exact Out.pure o g sm s2 r
  -- the callee's promise
  have go : (vs ++ dd.drop n).length = bs.length → spF c.T bs F (xs ++ dvs) H1 Q (WE c.W σ) := fun hl => by
    refine ⟨hlen hl, ⟨others G1 H1, m.pv⟩, G1, vs ++ dd.drop n, hl, ?_, ?_⟩
    · have e2 : ixs 0 bs = [] := by rw [hbs, ixs_false]
      have e3 : initR bs (vs ++ dd.drop n) = (vs ++ dd.drop n).map fun d => some (.fz d) := by
        rw [hbs]
        exact initR_false _ hl
      rw [e2, e3]
      exact s1.call0 r1'
    · cases hF : F (vs ++ dd.drop n) with
      | ret d ds' =>
        rw [hF] at o1
        exact fun v G' H' g s' _ r => fin g s' r o1
      | fre d ds' =>
        rw [hF] at o1
        intro p G' H' g s' _ f
        obtain ⟨s2, sm⟩ := s1.back0 g s'
        obtain ⟨u, hu, rp, s3, g3⟩ := (f.back0 s1 rfl).freeze s2
        exact Out.pure o1 (g.trans g3) sm s3 rp
      | err e' fs ds' =>
        rw [hF] at o1
        exact fun dx G' H' g s' _ r => o1 dx G' H' g (fun _ => ⟨(s1.back0 g s').2, rfl⟩) (s1.back0 g s').1 r
      | stuck =>
        rw [hF] at o1
        exact o1.elim
  by_cases hl : (vs ++ dd.drop n).length = bs.length
  · exact go hl
  · -- a call of the wrong length never has a denotation
    exfalso
    rw [hf.ln _ hl] at o1
    exact o1
/-- f(e, ..) that hands out a new object -/
def dF0r (F : List D → FO) (dd : List D) (ds : Rho → Ro (List D)) : Rho → Ro D := fun ρ => (ds ρ).bind fun xs ρ1 => match F (xs ++ dd) with
  | .fre d _ => .ok d ρ1
  | .err e fs _ => .err e fs ρ1
  | _ => .stuck
theorem de_fn0r {bs : List Bool} (hf : Dfn c.T X.mg X.base x k bs dd F) (n : Nat) (hn : n ≤ dd.length) (tk : Takes X c.W) (hr : Room k X.A) (hg : Gl X x) (ha : DA c X q (e :: es) ds) (hbs : bs = List.replicate bs.length false := by rfl)
    (hK : X.K = c.T.K := by rfl) (hP : X.prog = c.T.P := by rfl) (hw : X.w = c.T.w := by rfl) (hdb : (x == ("__debug__" : Str)) = false := by decide)
    (he : starEach (e :: es) X.env = (false, eval e X.env) :: starEach es X.env := by rfl) (hpl : (backTo pos (starEach es X.env)).any (·.1) = false := by rfl) :
    DE c X .fr q (.Call (.Name x p) (e :: es) [] pos) (dF0r F (dd.drop n) ds) := by
  obtain ⟨fd, ps, ok, bd⟩ := hf.ex
  obtain ⟨dvV, dvs, hb, hv, hrep⟩ := bd n hn
  rw [← hP, ← hw, ← hK] at ok
  refine ⟨pe_imp (pe_callSD (E := fun σ => WE c.W σ) ok hr hg hf.mgx (by rw [hK]; exact hf.kp) (by rw [hK]; exact hb) hv (fun σ => passAt tk σ) ha.pa hdb he hpl) fun σ H Q ⟨m, G, ρ, s, o⟩ => ⟨m, G, ρ, s, ?_⟩⟩
  refine (Out.bind (out_true o)).imp fun xs H1 ⟨G1, ρ1, vs, g1, e1, s1, r1, o1⟩ => ?_
  have r1' : Reps c.T G1 (xs ++ dvs) (vs ++ dd.drop n) := Reps.append r1 (hrep G1)
  by_cases hl : (vs ++ dd.drop n).length = bs.length
  · refine ⟨by rw [r1'.length, hl], ⟨others G1 H1, m.pv⟩, G1, vs ++ dd.drop n, hl, ?_, ?_⟩
    · have e2 : ixs 0 bs = [] := by rw [hbs, ixs_false]
      have e3 : initR bs (vs ++ dd.drop n) = (vs ++ dd.drop n).map fun d => some (.fz d) := by
        rw [hbs]
        exact initR_false _ hl
      rw [e2, e3]
      exact s1.call0 r1'
    · cases hF : F (vs ++ dd.drop n) with
      | ret d ds' =>
        rw [hF] at o1
        exact o1.elim
      | fre d ds' =>
        rw [hF] at o1
        intro p G' H' g s' _ f
        obtain ⟨s2, sm⟩ := s1.back0 g s'
        exact Out.pure o1 g sm s2 ⟨p, rfl, f.back0 s1 rfl⟩
      | err e' fs ds' =>
        rw [hF] at o1
        exact fun dx G' H' g s' _ r => o1 dx G' H' g (fun _ => ⟨(s1.back0 g s').2, rfl⟩) (s1.back0 g s').1 r
      | stuck =>
        rw [hF] at o1
        exact o1.elim
  · rw [hf.ln _ hl] at o1
    exact o1.elim
end
end VL

set_option Elab.async false
set_option linter.all false
set_option maxRecDepth 100000
set_option maxHeartbeats 2000000
/-! VL6: calls with in-and-out arguments -/
namespace VL
open PySem PySem.Spec L2
open PyProof.Rows (envOfC)

section
variable {T : Tb} {io : Io} {m : Am} {G H : Hp} {σ : L2.St} {ρ : Rho}
theorem uniq_of {as : List (Option Nat)} (h : (as.filterMap id).Nodup) : ∀ {j j' i : Nat}, as[j]? = some (some i) → as[j']? = some (some i) → j = j' := by
  induction as with
  | nil =>
    intro j j' i h1
    simp at h1
  | cons a as ih =>
    have mem : ∀ {j i : Nat}, as[j]? = some (some i) → i ∈ as.filterMap id := fun {j i} e => List.mem_filterMap.mpr ⟨some i, List.mem_of_getElem? e, rfl⟩
    cases a with
    | none =>
      have h' : (as.filterMap id).Nodup := by simpa using h
      intro j j' i h1 h2
      cases j with
      | zero => simp at h1
      | succ j =>
        cases j' with
        | zero => simp at h2
        | succ j' => exact congrArg (· + 1) (ih h' (j := j) (j' := j') (i := i) (by simpa using h1) (by simpa using h2))
    | some a0 =>
      have h' : a0 ∉ as.filterMap id ∧ (as.filterMap id).Nodup := by simpa using h
      intro j j' i h1 h2
      cases j with
      | zero =>
        cases (show a0 = i by simpa using h1)
        cases j' with
        | zero => rfl
        | succ j' => exact absurd (mem (j := j') (by simpa using h2)) h'.1
      | succ j =>
        cases j' with
        | zero =>
          cases (show a0 = i by simpa using h2)
          exact absurd (mem (j := j) (by simpa using h1)) h'.1
        | succ j' => exact congrArg (· + 1) (ih h'.2 (j := j) (j' := j') (i := i) (by simpa using h1) (by simpa using h2))
theorem putD_len : ∀ (as : List (Option Nat)) (ds : List D) (ρ : Rho), (putD as ds ρ).length = ρ.length
  | [], _, _ => rfl
  | none :: _, [], _ => rfl
  | some _ :: _, [], _ => rfl
  | none :: as, _ :: ds, ρ => putD_len as ds ρ
  | some i :: as, d :: ds, ρ => by
    show ((putD as ds ρ).set i _).length = _
    rw [List.length_set, putD_len as ds ρ]
theorem putD_ne {i : Nat} : ∀ {as : List (Option Nat)} {ds : List D} {ρ : Rho}, (∀ j : Nat, as[j]? ≠ some (some i)) → (putD as ds ρ)[i]? = ρ[i]?
  | [], _, _, _ => rfl
  | none :: _, [], _, _ => rfl
  | some _ :: _, [], _, _ => rfl
  | none :: as, _ :: ds, ρ, h => by
    show (putD as ds ρ)[i]? = _
    exact putD_ne fun j e => h (j + 1) (by simpa using e)
  | some i' :: as, d :: ds, ρ, h => by
    show ((putD as ds ρ).set i' _)[i]? = _
    have hne : i' ≠ i := fun z => h 0 (by simp [z])
    rw [List.getElem?_set_ne hne]
    exact putD_ne fun j e => h (j + 1) (by simpa using e)
theorem putD_at {i : Nat} : ∀ {as : List (Option Nat)} {ds : List D} {ρ : Rho} {j : Nat} {d : D}, (∀ j j' : Nat, as[j]? = some (some i) → as[j']? = some (some i) → j = j') → as[j]? = some (some i) → ds[j]? = some d → i < ρ.length → (putD as ds ρ)[i]? = some (some (.ow d))
  | [], _, _, _, _, _, h, _, _ => by simp at h
  | none :: _, [], _, _, _, _, _, h, _ => by simp at h
  | some _ :: _, [], _, _, _, _, _, h, _ => by simp at h
  | none :: as, _ :: ds, ρ, 0, d, hu, h1, h2, hl => by simp at h1
  | none :: as, _ :: ds, ρ, j + 1, d, hu, h1, h2, hl => by
    show (putD as ds ρ)[i]? = _
    refine putD_at (j := j) (fun a b ha hb => ?_) (by simpa using h1) (by simpa using h2) hl
    have := hu (a + 1) (b + 1) (by simpa using ha) (by simpa using hb)
    omega
  | some i' :: as, d0 :: ds, ρ, 0, d, hu, h1, h2, hl => by
    cases (show i' = i by simpa using h1)
    cases (show d0 = d by simpa using h2)
    show ((putD as ds ρ).set i _)[i]? = _
    rw [List.getElem?_set_self (by rw [putD_len]; exact hl)]
  | some i' :: as, d0 :: ds, ρ, j + 1, d, hu, h1, h2, hl => by
    have hne : i' ≠ i := fun z => by
      have := hu 0 (j + 1) (by simp [z]) h1
      omega
    show ((putD as ds ρ).set i' _)[i]? = _
    rw [List.getElem?_set_ne hne]
    refine putD_at (j := j) (fun a b ha hb => ?_) (by simpa using h1) (by simpa using h2) hl
    have := hu (a + 1) (b + 1) (by simpa using ha) (by simpa using hb)
    omega
theorem fill_len : ∀ {as : List (Option Nat)} {ds ys : List D} {ρ : Rho}, fillD as ds ρ = some ys → ys.length = as.length
  | [], [], ys, _, h => by
    cases h
    rfl
  | [], _ :: _, _, _, h => by cases h
  | none :: _, [], _, _, h => by cases h
  | some _ :: _, [], _, _, h => by cases h
  | none :: as, d :: ds, ys, ρ, h => by
    have h' : (fillD as ds ρ).map (d :: ·) = some ys := h
    cases hr : fillD as ds ρ with
    | none =>
      rw [hr] at h'
      cases h'
    | some r =>
      rw [hr] at h'
      cases h'
      simp [fill_len hr]
  | some i :: as, d :: ds, ys, ρ, h => by
    unfold fillD at h
    split at h
    · rename_i d' _
      cases hr : fillD as ds ρ with
      | none =>
        rw [hr] at h
        cases h
      | some r =>
        rw [hr] at h
        cases h
        simp [fill_len hr]
    · cases h
theorem fill_at : ∀ {as : List (Option Nat)} {vs : List V} {ds ys : List D} {j : Nat} {a : Option Nat} {y : D}, ARep T G σ as vs ds → fillD as ds ρ = some ys → as[j]? = some a → ys[j]? = some y →
    ∃ v, vs[j]? = some v ∧ match a with
      | none => Rep T G v y
      | some i => σ[i]? = some (some v) ∧ ρ[i]? = some (some (.ow y))
  | _, _, _, _, _, _, _, .nil, _, h, _ => by simp at h
  | none :: as, _, _, ys, j, a, y, .fz (d := d) (ds := ds) r t, h, h1, h2 => by
    have h' : (fillD as ds ρ).map (d :: ·) = some ys := h
    cases hr : fillD as ds ρ with
    | none =>
      rw [hr] at h'
      cases h'
    | some rest =>
      rw [hr] at h'
      cases h'
      cases j with
      | zero =>
        cases (show none = a by simpa using h1)
        cases (show d = y by simpa using h2)
        exact ⟨_, rfl, r⟩
      | succ j => exact fill_at (j := j) t hr (by simpa using h1) (by simpa using h2)
  | some i :: as, _, _, ys, j, a, y, .ow (d := d) (ds := ds) e t, h, h1, h2 => by
    unfold fillD at h
    split at h
    · rename_i d' hd
      cases hr : fillD as ds ρ with
      | none =>
        rw [hr] at h
        cases h
      | some rest =>
        rw [hr] at h
        cases h
        cases j with
        | zero =>
          cases (show some i = a by simpa using h1)
          cases (show d' = y by simpa using h2)
          exact ⟨_, rfl, e, hd⟩
        | succ j => exact fill_at (j := j) t hr (by simpa using h1) (by simpa using h2)
    · cases h
theorem arep_len : ∀ {as : List (Option Nat)} {vs : List V} {ds : List D}, ARep T G σ as vs ds → vs.length = as.length
  | _, _, _, .nil => rfl
  | _, _, _, .fz _ t => by simp [arep_len t]
  | _, _, _, .ow _ t => by simp [arep_len t]
def isIO (σ : L2.St) (as : List (Option Nat)) (a : Addr) : Prop := ∃ (j i : Nat), as[j]? = some (some i) ∧ σ[i]? = some (some (.ref a))
open Classical in
noncomputable def othersX (G H : Hp) (σ : L2.St) (as : List (Option Nat)) : Hp := fun a => if isIO σ as a then none else others G H a
theorem othersX_some {as : List (Option Nat)} {a : Addr} {o : HO} (h : othersX G H σ as a = some o) : H a = some o ∧ G a = none ∧ ¬ isIO σ as a := by
  unfold othersX at h
  by_cases hi : isIO σ as a
  · rw [if_pos hi] at h
    cases h
  · rw [if_neg hi] at h
    obtain ⟨x, y⟩ := others_some h
    exact ⟨x, y, hi⟩
theorem othersX_at {as : List (Option Nat)} {a : Addr} {o : HO} (h : H a = some o) (g : G a = none) (n : ¬ isIO σ as a) : othersX G H σ as a = some o := by
  unfold othersX
  rw [if_neg n]
  exact others_at h g
theorem getB (as : List (Option Nat)) {j : Nat} {b : Bool} (h : (as.map Option.isSome)[j]? = some b) : ∃ a, as[j]? = some a ∧ a.isSome = b := by
  rw [List.getElem?_map] at h
  cases ha : as[j]? with
  | none =>
    rw [ha] at h
    cases h
  | some a =>
    rw [ha] at h
    exact ⟨a, rfl, by simpa using h⟩
/-- a callee with in-and-out arguments; after them the defaults -/
theorem SR.callx {as : List (Option Nat)} {vs dvs : List V} {ds ys dd : List D} (s : SR T io m G H σ ρ) (r : ARep T G σ as vs ds) (e : fillD as ds ρ = some ys) (hu : (as.filterMap id).Nodup) (hd : Reps T G dvs dd) :
    SR T (ioL (ixs 0 (as.map Option.isSome ++ List.replicate dd.length false))) ⟨othersX G H σ as, fun i => (vs ++ dvs).getD i .non⟩ G H ((vs ++ dvs).map some) (initR (as.map Option.isSome ++ List.replicate dd.length false) (ys ++ dd)) := by
  have lv := arep_len r
  have ly := fill_len e
  have ld := hd.length
  have lens : (ys ++ dd).length = (as.map Option.isSome ++ List.replicate dd.length false).length := by simp [ly]
  -- a place of the call
  have place : ∀ {j : Nat} {x : Sl}, (initR (as.map Option.isSome ++ List.replicate dd.length false) (ys ++ dd))[j]? = some (some x) →
      (∃ y v, x = .fz y ∧ ((vs ++ dvs).map some)[j]? = some (some v) ∧ Rep T G v y) ∨ (∃ i y v, as[j]? = some (some i) ∧ x = .ow y ∧ ((vs ++ dvs).map some)[j]? = some (some v) ∧ σ[i]? = some (some v) ∧ ρ[i]? = some (some (.ow y))) := fun {j x} h => by
    obtain ⟨b, y, e1, e2, e3⟩ := initR_get h
    by_cases hj : j < as.length
    · rw [List.getElem?_append_left (by simpa using hj)] at e1
      rw [List.getElem?_append_left (by rw [ly]; exact hj)] at e2
      obtain ⟨a, a1, a2⟩ := getB as e1
      obtain ⟨v, v1, v2⟩ := fill_at r e a1 e2
      have v3 : ((vs ++ dvs).map some)[j]? = some (some v) := by
        rw [List.getElem?_map, List.getElem?_append_left (by rw [lv]; exact hj), v1]
        rfl
      cases a with
      | none =>
        cases (show false = b from a2)
        exact .inl ⟨y, v, by simpa using e3, v3, v2⟩
      | some i =>
        cases (show true = b from a2)
        exact .inr ⟨i, y, v, a1, by simpa using e3, v3, v2.1, v2.2⟩
    · rw [List.getElem?_append_right (by simpa using hj)] at e1
      rw [List.getElem?_append_right (by rw [ly]; omega)] at e2
      have hb : b = false := by
        rw [List.getElem?_replicate] at e1
        split at e1
        · cases e1
          rfl
        · cases e1
      subst hb
      obtain ⟨v, v1, v2⟩ := hd.get e2
      refine .inl ⟨y, v, by simpa using e3, ?_, v2⟩
      rw [List.getElem?_map, List.getElem?_append_right (by rw [lv]; omega), lv, ← ly, v1]
      rfl
  refine ⟨s.gh, fun a o h => (othersX_some h).1, fun a o h => (othersX_some h).2.1, by rw [initR_length lens]; simp [lv, ld], fun j d h => ?_, fun j d h => ?_, fun j j' d d' p h1 h2 h3 h4 => ?_, fun j hj => ?_, True.intro, s.gt⟩
  · rcases place h with ⟨y, v, a, b, c⟩ | ⟨i, y, v, _, a, _⟩
    · cases a
      exact ⟨v, b, c⟩
    · cases a
  · rcases place h with ⟨y, v, a, _⟩ | ⟨i, y, v, a0, a, b, c, c'⟩
    · cases a
    · cases a
      obtain ⟨p, p1, p2, p3, p4⟩ := s.ow i d c'
      rw [c] at p1
      cases p1
      refine ⟨p, b, p2, ?_, p4⟩
      show othersX G H σ as p = none
      unfold othersX
      rw [if_pos ⟨j, i, a0, c⟩]
  · rcases place h1 with ⟨y, v, a, _⟩ | ⟨i, y, v, a0, a, b, c, c'⟩
    · cases a
    · cases a
      rcases place h2 with ⟨y', v', k, _⟩ | ⟨i', y', v', k0, k, l, w, w'⟩
      · cases k
      · cases k
        rw [b] at h3
        cases h3
        rw [l] at h4
        cases h4
        have ei := s.ap i i' d d' p c' w' c w
        subst ei
        exact uniq_of hu a0 k0
  · have q := (mem_ixs.mp hj).2
    have hlt : j < (vs ++ dvs).length := by
      have := (List.getElem?_eq_some_iff.mp q).1
      simp [lv, ld] at this ⊢
      omega
    show ((vs ++ dvs).map some)[j]? = some (some ((vs ++ dvs).getD j .non))
    rw [List.getElem?_map, List.getElem?_eq_getElem hlt]
    simp [List.getD, List.getElem?_eq_getElem hlt]
/-- behind it -/
theorem SR.backx {G' H' : Hp} {as : List (Option Nat)} {vs dvs : List V} {ds ys dd ys' : List D} {pv : Nat → V} (s : SR T io m G H σ ρ) (r : ARep T G σ as vs ds) (e : fillD as ds ρ = some ys) (hu : (as.filterMap id).Nodup) (ly' : ys'.length = as.length + dd.length) (g : Same G G')
    (s' : SR T (ioL (ixs 0 (as.map Option.isSome ++ List.replicate dd.length false))) ⟨othersX G H σ as, pv⟩ G' H' ((vs ++ dvs).map some) (initR (as.map Option.isSome ++ List.replicate dd.length false) ys')) : SR T io m G' H' σ (putD as ys' ρ) := by
  have lv := arep_len r
  have ly := fill_len e
  -- the in-and-out arguments as the caller had them
  have had : ∀ {j i : Nat}, as[j]? = some (some i) → ∃ y v, vs[j]? = some v ∧ σ[i]? = some (some v) ∧ ρ[i]? = some (some (.ow y)) := fun {j i} h => by
    have hj : j < as.length := (List.getElem?_eq_some_iff.mp h).1
    obtain ⟨v, a, b⟩ := fill_at (a := some i) (y := ys[j]'(by rw [ly]; exact hj)) r e h (List.getElem?_eq_getElem _)
    exact ⟨_, v, a, b.1, b.2⟩
  have notIO : ∀ {a : Addr}, (∀ (i : Nat) d, ρ[i]? = some (some (.ow d)) → σ[i]? ≠ some (some (.ref a))) → ¬ isIO σ as a := fun {a} h ⟨j, i, h1, h2⟩ => by
    obtain ⟨y, v, _, _, c⟩ := had h1
    exact h i y c h2
  have keep : ∀ {a : Addr} {o : HO}, H a = some o → G a = none → ¬ isIO σ as a → H' a = some o ∧ G' a = none := fun {a o} h hg n =>
    ⟨s'.rh a o (othersX_at h hg n), s'.rg a o (othersX_at h hg n)⟩
  have rNot : ∀ {a : Addr} {o : HO}, m.R a = some o → ¬ isIO σ as a := fun {a o} h => notIO fun i d hi z => by
    obtain ⟨p, e1, _, e3, _⟩ := s.ow i d hi
    rw [z] at e1
    cases e1
    rw [h] at e3
    cases e3
  have kp : Keep H H' := fun a o h f => by
    by_cases hio : isIO σ as a
    · exfalso
      obtain ⟨j, i, h1, h2⟩ := hio
      obtain ⟨y, v, _, _, c⟩ := had h1
      obtain ⟨p, p1, _, _, p4⟩ := s.ow i y c
      rw [h2] at p1
      cases p1
      exact p4.fixed h f
    · cases hg : G a with
      | some u =>
        have e := s.gh a u hg
        rw [h] at e
        cases e
        exact s'.gh a _ (g a _ hg)
      | none => exact (keep h hg hio).1
  refine ⟨s'.gh, fun a o h => (keep (s.rh a o h) (s.rg a o h) (rNot h)).1, fun a o h => (keep (s.rh a o h) (s.rg a o h) (rNot h)).2, by rw [putD_len]; exact s.len, fun i d h => ?_, fun i d h => ?_, fun i j d f p h1 h2 h3 h4 => ?_, s.pn, io.st _ _ _ _ _ s.am g kp, s'.gt⟩
  · by_cases hi : ∃ j : Nat, as[j]? = some (some i)
    · obtain ⟨j, hj⟩ := hi
      obtain ⟨y, v, _, _, c⟩ := had hj
      have hjl : j < as.length := (List.getElem?_eq_some_iff.mp hj).1
      rw [putD_at (j := j) (d := ys'[j]'(by omega)) (fun a b ha hb => uniq_of hu ha hb) hj (List.getElem?_eq_getElem _) (List.getElem?_eq_some_iff.mp c).1] at h
      cases h
    · rw [putD_ne fun j hj => hi ⟨j, hj⟩] at h
      obtain ⟨v, a, b⟩ := s.fz i d h
      exact ⟨v, a, b.mono g⟩
  · by_cases hi : ∃ j : Nat, as[j]? = some (some i)
    · obtain ⟨j, hj⟩ := hi
      obtain ⟨y, v, b, b', c⟩ := had hj
      have hjl : j < as.length := (List.getElem?_eq_some_iff.mp hj).1
      rw [putD_at (j := j) (d := ys'[j]'(by omega)) (fun a b ha hb => uniq_of hu ha hb) hj (List.getElem?_eq_getElem _) (List.getElem?_eq_some_iff.mp c).1] at h
      cases h
      obtain ⟨p, p1, p2, p3, p4⟩ := s.ow i y c
      have ev : v = .ref p := by
        rw [b'] at p1
        cases p1
        rfl
      have at_j : (initR (as.map Option.isSome ++ List.replicate dd.length false) ys')[j]? = some (some (.ow (ys'[j]'(by omega)))) := by
        have := initR_at (bs := as.map Option.isSome ++ List.replicate dd.length false) (ds := ys') (i := j) (b := true) (d := ys'[j]'(by omega)) (by
          rw [List.getElem?_append_left (by simpa using hjl), List.getElem?_map, hj]
          rfl) (List.getElem?_eq_getElem _)
        simpa using this
      obtain ⟨p', q1, q2, _, q4⟩ := s'.ow j _ at_j
      rw [List.getElem?_map, List.getElem?_append_left (by rw [lv]; exact hjl), b, ev] at q1
      cases q1
      exact ⟨p, by rw [b', ev], q2, p3, q4⟩
    · rw [putD_ne fun j hj => hi ⟨j, hj⟩] at h
      obtain ⟨p, p1, p2, p3, p4⟩ := s.ow i d h
      obtain ⟨o, ho⟩ := p4.obj
      have n : ¬ isIO σ as p := fun ⟨j, i', h1, h2⟩ => by
        obtain ⟨y, v, _, _, c⟩ := had h1
        have := s.ap i i' d y p h c p1 h2
        subst this
        exact hi ⟨j, h1⟩
      obtain ⟨k1, k2⟩ := keep ho p2 n
      exact ⟨p, p1, k2, p3, p4.mono g fun u hu => (keep hu p2 n).1⟩
  · have back : ∀ {i : Nat} {d : D}, (putD as ys' ρ)[i]? = some (some (.ow d)) → ∃ d', ρ[i]? = some (some (.ow d')) := fun {i d} h => by
      by_cases hi : ∃ j : Nat, as[j]? = some (some i)
      · obtain ⟨j, hj⟩ := hi
        obtain ⟨y, v, _, _, c⟩ := had hj
        exact ⟨y, c⟩
      · rw [putD_ne fun j hj => hi ⟨j, hj⟩] at h
        exact ⟨d, h⟩
    obtain ⟨d', b1⟩ := back h1
    obtain ⟨f', b2⟩ := back h2
    exact s.ap i j d' f' p b1 b2 h3 h4
end

/-- a new object, seen from the caller -/
theorem Fre.backx {T : Tb} {io : Io} {m : Am} {G H G' H' : Hp} {σ : L2.St} {ρ : Rho} {as : List (Option Nat)} {vs dvs : List V} {ds ys dd ys' : List D} {pv : Nat → V} {p : Addr} {d : D} (f : Fre T ⟨othersX G H σ as, pv⟩ G' H' ((vs ++ dvs).map some) (initR (as.map Option.isSome ++ List.replicate dd.length false) ys') p d)
    (s : SR T io m G H σ ρ) (r : ARep T G σ as vs ds) (e : fillD as ds ρ = some ys) (hu : (as.filterMap id).Nodup) (ly' : ys'.length = as.length + dd.length)
    (s' : SR T (ioL (ixs 0 (as.map Option.isSome ++ List.replicate dd.length false))) ⟨othersX G H σ as, pv⟩ G' H' ((vs ++ dvs).map some) (initR (as.map Option.isSome ++ List.replicate dd.length false) ys')) : Fre T m G' H' σ (putD as ys' ρ) p d := by
  have lv := arep_len r
  have ly := fill_len e
  have had : ∀ {j i : Nat}, as[j]? = some (some i) → ∃ y v, vs[j]? = some v ∧ σ[i]? = some (some v) ∧ ρ[i]? = some (some (.ow y)) := fun {j i} h => by
    have hj : j < as.length := (List.getElem?_eq_some_iff.mp h).1
    obtain ⟨v, a, b⟩ := fill_at (a := some i) (y := ys[j]'(by rw [ly]; exact hj)) r e h (List.getElem?_eq_getElem _)
    exact ⟨_, v, a, b.1, b.2⟩
  have fr : othersX G H σ as p = none := f.r
  refine ⟨f.g, ?_, f.own, fun i y h z => ?_⟩
  · cases hp : m.R p with
    | none => rfl
    | some o =>
      have n : ¬ isIO σ as p := fun ⟨j, i, h1, h2⟩ => by
        obtain ⟨y, v, _, _, c⟩ := had h1
        obtain ⟨q, e1, _, e3, _⟩ := s.ow i y c
        rw [h2] at e1
        cases e1
        rw [hp] at e3
        cases e3
      rw [othersX_at (s.rh p o hp) (s.rg p o hp) n] at fr
      cases fr
  · by_cases hi : ∃ j : Nat, as[j]? = some (some i)
    · obtain ⟨j, hj⟩ := hi
      obtain ⟨y', v, b, b', c⟩ := had hj
      have hjl : j < as.length := (List.getElem?_eq_some_iff.mp hj).1
      have at_j : (initR (as.map Option.isSome ++ List.replicate dd.length false) ys')[j]? = some (some (.ow (ys'[j]'(by omega)))) := by
        have := initR_at (bs := as.map Option.isSome ++ List.replicate dd.length false) (ds := ys') (i := j) (b := true) (d := ys'[j]'(by omega)) (by
          rw [List.getElem?_append_left (by simpa using hjl), List.getElem?_map, hj]
          rfl) (List.getElem?_eq_getElem _)
        simpa using this
      refine f.ap j _ at_j ?_
      rw [List.getElem?_map, List.getElem?_append_left (by rw [lv]; exact hjl), b]
      rw [b'] at z
      cases z
      rfl
    · rw [putD_ne fun j hj => hi ⟨j, hj⟩] at h
      obtain ⟨q, e1, e2, e3, e4⟩ := s.ow i y h
      rw [z] at e1
      cases e1
      obtain ⟨o, ho⟩ := e4.obj
      have n : ¬ isIO σ as p := fun ⟨j, i', h1, h2⟩ => by
        obtain ⟨y', v, _, _, c⟩ := had h1
        have := s.ap i i' y y' p h c z h2
        subst this
        exact hi ⟨j, h1⟩
      rw [othersX_at ho e2 n] at fr
      cases fr
section
variable {c : Cc} {as : List (Option Nat)} {F : List D → FO} {dd : List D}
/-- a callee's promise from what the caller wishes -/
theorem call_core {bs : List Bool} {m : Am} {G1 H1 : Hp} {σ : L2.St} {ρ1 : Rho} {xs dvs : List V} {vs : List D} {Q : VK} (hbs : as.map Option.isSome ++ List.replicate dd.length false = bs) (hu : (as.filterMap id).Nodup) (hrep : Reps c.T G1 dvs dd) (s1 : SR c.T c.io m G1 H1 σ ρ1) (r1 : ARep c.T G1 σ as xs vs)
    (o1 : Out c m G1 H1 σ ρ1 false (KRep c.T m σ .st) (optR (fillD as vs ρ1) fun ys => (F (ys ++ dd)).toR as ρ1) Q) : spF c.T bs F (xs ++ dvs) H1 Q (WE c.W σ) := by
  cases hfl : fillD as vs ρ1 with
  | none =>
    rw [hfl] at o1
    exact o1.elim
  | some ys =>
    rw [hfl] at o1
    have o2 : Out c m G1 H1 σ ρ1 false (KRep c.T m σ .st) ((F (ys ++ dd)).toR as ρ1) Q := o1
    have ly := fill_len hfl
    have hbl : bs.length = as.length + dd.length := by rw [← hbs]; simp
    have lv := arep_len r1
    have ld := hrep.length
    refine ⟨by rw [List.length_append, lv, ld, hbl], ⟨othersX G1 H1 σ as, fun i => (xs ++ dvs).getD i .non⟩, G1, ys ++ dd, by rw [List.length_append, ly, hbl], ?_, ?_⟩
    · have z := s1.callx r1 hfl hu hrep
      rw [hbs] at z
      exact z
    · cases hF : F (ys ++ dd) with
      | ret d ds' =>
        rw [hF] at o2
        intro v G' H' g s' l' rv
        rw [← hbs] at s'
        have s2 := s1.backx r1 hfl hu (by rw [l', hbl]) g s'
        exact o2 v G' H' g (fun z => nomatch z) s2 rv
      | fre d ds' =>
        rw [hF] at o2
        intro p G' H' g s' l' f
        rw [← hbs] at s' f
        have s2 := s1.backx r1 hfl hu (by rw [l', hbl]) g s'
        obtain ⟨u, hu', rp, s3, g3⟩ := (f.backx s1 r1 hfl hu (by rw [l', hbl]) s').freeze s2
        exact o2 (.ref p) _ H' (g.trans g3) (fun z => nomatch z) s3 rp
      | err e' fs ds' =>
        rw [hF] at o2
        intro dx G' H' g s' l' rx
        rw [← hbs] at s'
        exact o2 dx G' H' g (fun z => nomatch z) (s1.backx r1 hfl hu (by rw [l', hbl]) g s') rx
      | stuck =>
        rw [hF] at o2
        exact o2.elim
end

section
variable {c : Cc} {X : Cx} {k : Nat} {e : Expr} {es : List Expr} {ds : Rho → Ro (List D)} {as : List (Option Nat)} {F : List D → FO} {dd : List D} {x : Str} {p pos : Pos}
/-- f(e, ..) with in-and-out arguments -/
theorem de_fn {bs : List Bool} (hf : Dfn c.T X.mg X.base x k bs dd F) (n : Nat) (hn : n ≤ dd.length) (tk : Takes X c.W) (hr : Room k X.A) (hg : Gl X x) (ha : DX c X as (e :: es) ds) (hbs : as.map Option.isSome ++ List.replicate (dd.drop n).length false = bs := by rfl) (hu : (as.filterMap id).Nodup := by decide)
    (hK : X.K = c.T.K := by rfl) (hP : X.prog = c.T.P := by rfl) (hw : X.w = c.T.w := by rfl) (hdb : (x == ("__debug__" : Str)) = false := by decide)
    (he : starEach (e :: es) X.env = (false, eval e X.env) :: starEach es X.env := by rfl) (hpl : (backTo pos (starEach es X.env)).any (·.1) = false := by rfl) :
    DE c X .st false (.Call (.Name x p) (e :: es) [] pos) (dFn F as (dd.drop n) ds) := by
  obtain ⟨fd, ps, ok, bd⟩ := hf.ex
  obtain ⟨dvV, dvs, hb, hv, hrep⟩ := bd n hn
  rw [← hP, ← hw, ← hK] at ok
  refine ⟨pe_imp (pe_callSD (E := fun σ => WE c.W σ) ok hr hg hf.mgx (by rw [hK]; exact hf.kp) (by rw [hK]; exact hb) hv (fun σ => passAt tk σ) ha.pa hdb he hpl) fun σ H Q ⟨m, G, ρ, s, o⟩ => ⟨m, G, ρ, s, ?_⟩⟩
  have o' : Out c m G H σ ρ (false && false) (KRep c.T m σ .st) ((ds ρ).bind fun xs ρ1 => optR (fillD as xs ρ1) fun ys => (F (ys ++ dd.drop n)).toR as ρ1) Q := o
  exact (Out.bind o').imp fun xs H1 ⟨G1, ρ1, vs, g1, e1, s1, r1, o1⟩ => call_core hbs hu (hrep G1) s1 r1 o1
end
end VL

set_option Elab.async false
set_option linter.all false
set_option maxRecDepth 100000
set_option maxHeartbeats 2000000
/-! VL7: list comprehensions -/
namespace VL
open PySem PySem.Spec L2
open PyProof.Rows (envOfC)

def wipeD : List Nat → Rho → Rho
  | [], ρ => ρ
  | v :: vs, ρ => (wipeD vs ρ).set v none
theorem wipeD_length (ρ : Rho) : ∀ vs : List Nat, (wipeD vs ρ).length = ρ.length
  | [] => rfl
  | v :: vs => by
    show ((wipeD vs ρ).set v none).length = _
    rw [List.length_set, wipeD_length ρ vs]
theorem wipeD_some {ρ : Rho} {i : Nat} {x : Sl} : ∀ {vs : List Nat}, (wipeD vs ρ)[i]? = some (some x) → ρ[i]? = some (some x) ∧ i ∉ vs
  | [], h => ⟨h, by simp⟩
  | v :: vs, h => by
    have h' : ((wipeD vs ρ).set v none)[i]? = some (some x) := h
    by_cases hi : v = i
    · subst hi
      have hl : v < (wipeD vs ρ).length := by
        have := (List.getElem?_eq_some_iff.mp h').1
        simpa using this
      rw [List.getElem?_set_self hl] at h'
      cases h'
    · rw [List.getElem?_set_ne hi] at h'
      obtain ⟨a, b⟩ := wipeD_some h'
      exact ⟨a, by simp [b, Ne.symm hi]⟩
theorem wipe_at {σ : L2.St} {i : Nat} : ∀ {vs : List Nat}, i ∉ vs → (wipe σ vs)[i]? = σ[i]?
  | [], _ => rfl
  | v :: vs, h => by
    show ((wipe σ vs).set v none)[i]? = _
    have h1 : v ≠ i := fun z => h (by simp [z])
    rw [List.getElem?_set_ne h1]
    exact wipe_at fun z => h (by simp [z])
theorem wipe_in {σ : L2.St} {i : Nat} : ∀ {vs : List Nat}, i ∈ vs → i < σ.length → (wipe σ vs)[i]? = some none
  | v :: vs, h, hl => by
    show ((wipe σ vs).set v none)[i]? = _
    by_cases hi : v = i
    · subst hi
      rw [List.getElem?_set_self (by rw [wipe_length]; exact hl)]
    · rw [List.getElem?_set_ne hi]
      exact wipe_in (by simpa [Ne.symm hi] using h) hl
/-- two rows of slots that part only at vs -/
theorem wipe_eq {σ σ' : L2.St} {vs : List Nat} (hl : σ'.length = σ.length) (h : ∀ i, i ∉ vs → σ'[i]? = σ[i]?) : wipe σ' vs = wipe σ vs := by
  refine List.ext_getElem? fun i => ?_
  by_cases hi : i ∈ vs
  · by_cases hlt : i < σ.length
    · rw [wipe_in hi hlt, wipe_in hi (by rw [hl]; exact hlt)]
    · rw [List.getElem?_eq_none (by rw [wipe_length]; omega), List.getElem?_eq_none (by rw [wipe_length]; omega)]
  · rw [wipe_at hi, wipe_at hi, h i hi]

/-- the same, exceptions let out nowhere -/
def Cc.no (c : Cc) : Cc := ⟨c.T, c.io, fun _ _ _ _ => False⟩
def tGc (c : Cc) (is : List Nat) (g : D → Rho → Option Rho) : TG := fun v σ H Q => ∃ m G ρ d, SR c.T c.io m G H σ ρ ∧ Rep c.T G v d ∧ ∃ ρ', g d ρ = some ρ' ∧ ∀ σ', SR c.T c.io m G H σ' ρ' → σ'.length = σ.length → (∀ i, i ∉ is → σ'[i]? = σ[i]?) → Q σ' H
def tGcs (c : Cc) (is : List Nat) (gs : List (D → Rho → Option Rho)) : TGs := fun vs σ H Q => ∃ m G ρ ds, SR c.T c.io m G H σ ρ ∧ Reps c.T G vs ds ∧ ∃ ρ', gNs gs ds ρ = some ρ' ∧ ∀ σ', SR c.T c.io m G H σ' ρ' → σ'.length = σ.length → (∀ i, i ∉ is → σ'[i]? = σ[i]?) → Q σ' H
structure DGc (c : Cc) (X : Cx) (is : List Nat) (e : Expr) (g : D → Rho → Option Rho) : Prop where
  pg : PG X e (tGc c is g)
structure DGcs (c : Cc) (X : Cx) (is : List Nat) (es : List Expr) (gs : List (D → Rho → Option Rho)) : Prop where
  pgs : PGs X es (tGcs c is gs)
structure DTs (c : Cc) (X : Cx) (q : Bool) (ifs : List Expr) (d : Rho → Ro Bool) : Prop where
  pts : PTs X ifs (tT c q d)
def dYes : Rho → Ro Bool := fun ρ => .ok true ρ
theorem pts_imp {X : Cx} {e : List Expr} {t t' : TT} (h : PTs X e t) (i : ∀ σ H Q, t' σ H Q → t σ H Q) : PTs X e t' := ⟨fun pins s σ H Q I q => h.run pins s σ H Q I (i _ _ _ q)⟩
def optRo {α : Type} (o : Option Rho) (f : Rho → Ro α) : Ro α := match o with
  | some ρ => f ρ
  | none => .stuck
@[simp] theorem optRo_some {α : Type} (ρ : Rho) (f : Rho → Ro α) : optRo (some ρ) f = f ρ := rfl
@[simp] theorem optRo_none {α : Type} (f : Rho → Ro α) : optRo none f = .stuck := rfl

section
variable {c : Cc} {X : Cx} {q : Bool} {e : Expr} {es : List Expr} {is js : List Nat} {pos : Pos}
theorem dts_nil : DTs c X true [] dYes := ⟨pts_imp pts_nil fun σ H Q ⟨m, G, ρ, s, o⟩ => Out.ret o s rfl⟩
theorem dts_one {d : Rho → Ro Bool} (h : DT c X q e d) : DTs c X q [e] d := ⟨pts_one h.pt⟩
theorem dgc_name (i : Nat) {x : Str} (hN : X.N.Nodup) (hi : X.N[i]? = some x := by rfl) (hx : Loc X.env.scope x := by first | exact Or.inl rfl | exact Or.inr rfl) (hio : i ∉ c.io.ix := by exact ni rfl)
    (hf : X.fn x = true ∨ X.env.scope.names.lookup x = some .local := by first | exact .inl rfl | exact .inr rfl | assumption) : DGc c X [i] (.Name x pos) (gN i) := by
  refine ⟨pg_imp (pg_name hN hi hx hf) fun v σ H Q ⟨m, G, ρ, d, r, rv, ρ', e, h⟩ => ?_⟩
  cases e
  exact h _ (r.set rv hio) (by simp) fun j hj => by rw [List.getElem?_set_ne (fun z => hj (by simp [z]))]
theorem dgcs_nil : DGcs c X [] [] [] := by
  refine ⟨pgs_imp pgs_nil fun v σ H Q ⟨m, G, ρ, ds, r, rv, ρ', e, h⟩ => ?_⟩
  cases rv with
  | nil =>
    cases e
    exact ⟨rfl, h _ r rfl fun _ _ => rfl⟩
  | cons a b => cases e
theorem dgcs_cons {g : D → Rho → Option Rho} {gs : List (D → Rho → Option Rho)} (h1 : DGc c X is e g) (h2 : DGcs c X js es gs) (hs : (assignEach (e :: es) X.env).map (·.2) = assign e X.env :: (assignEach es X.env).map (·.2) := by rfl) : DGcs c X (is ++ js) (e :: es) (g :: gs) := by
  refine ⟨pgs_imp (pgs_cons h1.pg h2.pgs hs) fun v σ H Q ⟨m, G, ρ, ds, r, rv, ρ', e, h⟩ => ?_⟩
  cases rv with
  | nil => cases e
  | @cons v vs d ds a b =>
    have e' : (g d ρ).bind (gNs gs ds) = some ρ' := e
    cases hg : g d ρ with
    | none =>
      rw [hg] at e'
      cases e'
    | some ρ1 =>
      rw [hg] at e'
      exact ⟨v, vs, rfl, m, G, ρ, d, r, a, ρ1, hg, fun σ1 s1 l1 k1 => ⟨m, G, ρ1, ds, s1, b, ρ', e', fun σ2 s2 l2 k2 => h σ2 s2 (l2.trans l1) fun i hi => (k2 i fun z => hi (by simp [z])).trans (k1 i fun z => hi (by simp [z]))⟩⟩
theorem dgc_tup {n j : Nat} {gs : List (D → Rho → Option Rho)} (hc : X.calm = true) (h : DGcs c X is es gs) (hn : (assignEach es X.env).length = n := by rfl) (hl : gs.length = n := by rfl) (hst : (assignEach es X.env).findIdx? (·.1) = none := by rfl) (hK : X.K = c.T.K := by first | rfl | assumption) :
    DGc c X is (.Tuple es j pos) (gT gs) := by
  refine ⟨pg_imp (pg_tup hc h.pgs hn hst) fun v σ H Q ⟨m, G, ρ, d, r, rv, ρ', e, hq⟩ => ?_⟩
  cases d with
  | tup ds =>
    cases rv with
    | tup hs rs =>
      have e' : gNs gs ds ρ = some ρ' := e
      exact ⟨_, _, rfl, by rw [hK]; exact .inl (.inl (r.gh _ _ hs)), by rw [rs.length, gNs_len e', hl], m, G, ρ, ds, r, rs, ρ', e', hq⟩
  | _ => cases e
end

/-- the items' elements -/
def lcD (vs : List Nat) (g : D → Rho → Option Rho) (t : Rho → Ro Bool) (e : Rho → Ro D) : List D → Rho → Ro (List D)
  | [], ρ => .ok [] ρ
  | d :: ds, ρ => optRo (g d ρ) fun ρ1 => (t ρ1).bind fun b ρ2 => if b = true then (e ρ2).bind fun y ρ3 => (lcD vs g t e ds (wipeD vs ρ3)).bind fun ys ρ4 => .ok (y :: ys) ρ4 else lcD vs g t e ds (wipeD vs ρ2)
def toLst (r : Ro (List D)) : Ro D := match r with
  | .ok ys ρ => if ys.length ≤ 1000000 then .ok (.lst ys) ρ else .stuck
  | _ => .stuck
def dLc (vs : List Nat) (di : Rho → Ro (List D)) (g : D → Rho → Option Rho) (t : Rho → Ro Bool) (e : Rho → Ro D) : Rho → Ro D := fun ρ => (di ρ).bind fun ds ρ1 => toLst (lcD vs g t e ds (wipeD vs ρ1))
def lc2D (vs : List Nat) (g : D → Rho → Option Rho) (t : Rho → Ro Bool) (di : Rho → Ro (List D)) (vs1 : List Nat) (g1 : D → Rho → Option Rho) (t1 : Rho → Ro Bool) (e : Rho → Ro D) : List D → Rho → Ro (List D)
  | [], ρ => .ok [] ρ
  | d :: ds, ρ => optRo (g d ρ) fun ρ1 => (t ρ1).bind fun b ρ2 => if b = true then (di ρ2).bind fun ds1 ρ3 => (lcD vs1 g1 t1 e ds1 (wipeD vs1 ρ3)).bind fun ys ρ4 => (lc2D vs g t di vs1 g1 t1 e ds (wipeD vs ρ4)).bind fun zs ρ5 => .ok (ys ++ zs) ρ5
      else lc2D vs g t di vs1 g1 t1 e ds (wipeD vs ρ2)
def dLc2 (vs : List Nat) (di : Rho → Ro (List D)) (g : D → Rho → Option Rho) (t : Rho → Ro Bool) (di1 : Rho → Ro (List D)) (vs1 : List Nat) (g1 : D → Rho → Option Rho) (t1 : Rho → Ro Bool) (e : Rho → Ro D) : Rho → Ro D := fun ρ => (di ρ).bind fun ds ρ1 => toLst (lc2D vs g t di1 vs1 g1 t1 e ds (wipeD vs ρ1))

section
variable {T : Tb} {io : Io} {m : Am} {G H : Hp} {σ : L2.St} {ρ : Rho}
def Am.with (m : Am) (p : Addr) (o : HO) : Am := ⟨upd m.R p o, m.pv⟩
theorem with_tbl {p a : Addr} {o : HO} {ps : Array Value} (ht : ∀ ps, o ≠ .tbl ps) (z : (m.with p o).R a = some (.tbl ps)) : m.R a = some (.tbl ps) := by
  have z' : upd m.R p o a = some (.tbl ps) := z
  by_cases e : a = p
  · subst e
    rw [upd_same] at z'
    exact absurd (Option.some.inj z') (ht ps)
  · rw [upd_ne e] at z'
    exact z'
theorem with_tbl2 {p a : Addr} {o o' : HO} {ps : Array Value} (ht : ∀ ps, o' ≠ .tbl ps) (z : (m.with p o').R a = some (.tbl ps)) : (m.with p o).R a = some (.tbl ps) := by
  have z' : upd m.R p o' a = some (.tbl ps) := z
  show upd m.R p o a = some (.tbl ps)
  by_cases e : a = p
  · subst e
    rw [upd_same] at z'
    exact absurd (Option.some.inj z') (ht ps)
  · rw [upd_ne e] at z' ⊢
    exact z'
/-- an object of ours is lent: nobody else may change it -/
theorem SR.lend {p : Addr} {o : HO} (hc : io.cmp) (s : SR T io m G H σ ρ) (g : G p = none) (h : H p = some o) (n : ∀ (i : Nat) e, ρ[i]? = some (some (.ow e)) → σ[i]? ≠ some (some (.ref p))) (ht : ∀ ps, o ≠ .tbl ps := by intro _ z; cases z) : SR T io (m.with p o) G H σ ρ := by
  refine ⟨s.gh, fun a u e => ?_, fun a u e => ?_, s.len, s.fz, fun i d e => ?_, s.ap, s.pn, io.mv hc _ _ _ _ s.am rfl (fun a ps z => with_tbl ht z), s.gt⟩
  · have e' : upd m.R p o a = some u := e
    by_cases ha : a = p
    · subst ha
      rw [upd_same] at e'
      cases e'
      exact h
    · rw [upd_ne ha] at e'
      exact s.rh a u e'
  · have e' : upd m.R p o a = some u := e
    by_cases ha : a = p
    · subst ha
      exact g
    · rw [upd_ne ha] at e'
      exact s.rg a u e'
  · obtain ⟨q, a, b, c, d'⟩ := s.ow i d e
    have hq : q ≠ p := fun z => n i d e (by rw [← z]; exact a)
    exact ⟨q, a, b, by show upd m.R p o q = none; rw [upd_ne hq]; exact c, d'⟩
/-- and changed by us -/
theorem SR.lent {p : Addr} {o o' : HO} (hc : io.cmp) (s : SR T io (m.with p o) G H σ ρ) (hf : Fixed o → False) (ht : ∀ ps, o' ≠ .tbl ps := by intro _ z; cases z) : SR T io (m.with p o') G (upd H p o') σ ρ ∧ H p = some o ∧ G p = none := by
  have hp : H p = some o := s.rh p o upd_same
  have gp : G p = none := s.rg p o upd_same
  have ne : ∀ {q : Addr}, (m.with p o).R q = none → q ≠ p := fun {q} h z => by
    subst z
    have h' : upd m.R q o q = none := h
    rw [upd_same] at h'
    cases h'
  have kp : Keep H (upd H p o') := fun b u hb f => by
    have hbp : b ≠ p := fun z => by
      subst z
      rw [hp] at hb
      cases hb
      exact hf f
    rw [upd_ne hbp]
    exact hb
  refine ⟨⟨fun a u e => ?_, fun a u e => ?_, fun a u e => ?_, s.len, s.fz, fun i d e => ?_, s.ap, s.pn, io.mv hc _ _ _ _ (io.st _ _ _ _ _ s.am (Same.refl _) kp) rfl (fun a ps z => with_tbl2 ht z), s.gt⟩, hp, gp⟩
  · rw [upd_ne (ne_of_none e gp)]
    exact s.gh a u e
  · have e' : upd m.R p o' a = some u := e
    by_cases ha : a = p
    · subst ha
      rw [upd_same] at e' ⊢
      exact e'
    · rw [upd_ne ha] at e' ⊢
      exact s.rh a u (by show upd m.R p o a = some u; rw [upd_ne ha]; exact e')
  · by_cases ha : a = p
    · subst ha
      exact gp
    · have e' : upd m.R p o' a = some u := e
      rw [upd_ne ha] at e'
      exact s.rg a u (by show upd m.R p o a = some u; rw [upd_ne ha]; exact e')
  · obtain ⟨q, a, b, c, d'⟩ := s.ow i d e
    have hq := ne c
    have c' : upd m.R p o q = none := c
    rw [upd_ne hq] at c'
    exact ⟨q, a, b, by show upd m.R p o' q = none; rw [upd_ne hq]; exact c', d'.mono (Same.refl _) fun u hu => by rw [upd_ne hq]; exact hu⟩
/-- given back -/
theorem SR.unlend {p : Addr} {o : HO} (hc : io.cmp) (s : SR T io (m.with p o) G H σ ρ) (r : m.R p = none) : SR T io m G H σ ρ := by
  have sub : ∀ {a : Addr} {u : HO}, m.R a = some u → (m.with p o).R a = some u := fun {a u} e => by
    show upd m.R p o a = some u
    rw [upd_ne (ne_of_none e r)]
    exact e
  refine ⟨s.gh, fun a u e => s.rh a u (sub e), fun a u e => s.rg a u (sub e), s.len, s.fz, fun i d e => ?_, s.ap, s.pn, io.mv hc _ _ _ _ s.am rfl (fun a ps z => sub z), s.gt⟩
  obtain ⟨q, a, b, c, d'⟩ := s.ow i d e
  refine ⟨q, a, b, ?_, d'⟩
  cases hq : m.R q with
  | none => rfl
  | some u =>
    rw [sub hq] at c
    cases c
theorem SR.wiped {vs : List Nat} (s : SR T io m G H σ ρ) (hv : ∀ i ∈ io.ix, i ∉ vs) : SR T io m G H (wipe σ vs) (wipeD vs ρ) :=
  s.weak (by rw [wipe_length, wipeD_length, s.len]) (fun i x h => by
    obtain ⟨a, b⟩ := wipeD_some h
    exact ⟨a, wipe_at b⟩) fun i hi => wipe_at (hv i hi)
/-- another row of slots that is the same but for vs -/
theorem SR.rewipe {σ' : L2.St} {vs : List Nat} (s : SR T io m G H σ' ρ) (h : wipe σ' vs = wipe σ vs) (hv : ∀ i ∈ io.ix, i ∉ vs) : SR T io m G H (wipe σ vs) (wipeD vs ρ) := by
  rw [← h]
  exact s.wiped hv
theorem SR.unwipe {vs : List Nat} (s : SR T io m G H (wipe σ vs) ρ) (hn : ∀ (i : Nat) x, ρ[i]? = some (some x) → i ∉ vs) (hv : ∀ i ∈ io.ix, i ∉ vs) : SR T io m G H σ ρ :=
  s.weak (by rw [← s.len, wipe_length]) (fun i x h => ⟨h, (wipe_at (hn i x h)).symm⟩) fun i hi => (wipe_at (hv i hi)).symm
end
theorem bind_ok_iff {α β : Type} {r : Ro α} {f : α → Rho → Ro β} {y : β} {ρ' : Rho} (h : r.bind f = .ok y ρ') : ∃ a ρ1, r = .ok a ρ1 ∧ f a ρ1 = .ok y ρ' := by
  cases r with
  | ok a ρ1 => exact ⟨a, ρ1, rfl, h⟩
  | err _ _ _ => cases h
  | stuck => cases h
theorem optRo_ok {α : Type} {o : Option Rho} {f : Rho → Ro α} {y : α} {ρ' : Rho} (h : optRo o f = .ok y ρ') : ∃ ρ1, o = some ρ1 ∧ f ρ1 = .ok y ρ' := by
  cases o with
  | some ρ1 => exact ⟨ρ1, rfl, h⟩
  | none => cases h
/-- where the slots of vs are empty -/
def Blank (vs : List Nat) (ρ : Rho) : Prop := ∀ (i : Nat) x, ρ[i]? = some (some x) → i ∉ vs
theorem blank_wipe (vs : List Nat) (ρ : Rho) : Blank vs (wipeD vs ρ) := fun i x h => (wipeD_some h).2
theorem lcD_blank {vs : List Nat} {g : D → Rho → Option Rho} {t : Rho → Ro Bool} {e : Rho → Ro D} : ∀ {ds : List D} {ρ ρ' : Rho} {ys : List D}, Blank vs ρ → lcD vs g t e ds ρ = .ok ys ρ' → Blank vs ρ'
  | [], ρ, ρ', ys, b, h => by
    cases h
    exact b
  | d :: ds, ρ, ρ', ys, b, h => by
    unfold lcD at h
    obtain ⟨ρ1, _, h⟩ := optRo_ok h
    obtain ⟨bb, ρ2, _, h⟩ := bind_ok_iff h
    cases bb with
    | true =>
      rw [if_pos rfl] at h
      obtain ⟨y, ρ3, _, h⟩ := bind_ok_iff h
      obtain ⟨zs, ρ4, h4, h⟩ := bind_ok_iff h
      cases h
      exact lcD_blank (blank_wipe _ _) h4
    | false =>
      rw [if_neg (by simp)] at h
      exact lcD_blank (blank_wipe _ _) h
/-- one value of an expression that is known to come -/
theorem Out.known {α ξ : Type} {c : Cc} {m : Am} {G H : Hp} {σ : L2.St} {ρ ρ' : Rho} {q : Bool} {rel : Hp → Hp → Rho → ξ → α → Prop} {r : Ro α} {v : α} {Q : ξ → Hp → Prop} (e : r = .ok v ρ') (h : ∀ x G' H', Same G G' → SR c.T c.io m G' H' σ ρ' → rel G' H' ρ' x v → Q x H') : Out c m G H σ ρ q rel r Q := by
  subst e
  exact fun x G' H' g _ s r => h x G' H' g s r
end VL

set_option Elab.async false
set_option linter.all false
set_option maxRecDepth 100000
set_option maxHeartbeats 2000000
/-! VL8: the rules for list comprehensions -/
namespace VL
open PySem PySem.Spec L2
open PyProof.Rows (envOfC)

theorem wipe_wipe (σ : L2.St) (vs : List Nat) : wipe (wipe σ vs) vs = wipe σ vs := wipe_eq (wipe_length _ _) fun i hi => wipe_at hi
section
variable {T : Tb} {io : Io} {m : Am} {G H : Hp} {σ : L2.St} {ρ : Rho}
theorem SR.notOwn {p : Addr} (s : SR T io m G H σ ρ) (h : H p = none ∨ m.R p ≠ none) : ∀ (i : Nat) e, ρ[i]? = some (some (.ow e)) → σ[i]? ≠ some (some (.ref p)) := fun i e q z => by
  obtain ⟨p', e1, _, e3, e4⟩ := s.ow i e q
  rw [z] at e1
  cases e1
  rcases h with h | h
  · obtain ⟨o, ho⟩ := e4.obj
    rw [h] at ho
    cases ho
  · exact h e3
/-- an item that comes stands frozen -/
theorem Wk.item {J : It} {ds : List D} {i : Nat} {G1 G2 H2 H' : Hp} {x : V} {d : D} (w : Wk T J G1 ds) (ed : ds[i]? = some d) (g2 : Same G1 G2) (s2 : SR T io m G2 H2 σ ρ) (y : J.yld i H2 x H') : ∃ G3, Same G2 G3 ∧ SR T io m G3 H' σ ρ ∧ Rep T G3 x d := by
  rcases w.yld i H2 x H' d ed (g2.trans s2.gh) y with ⟨eH, rx⟩ | ⟨p', vs, es, hp', ex, eH, rs, ed2⟩
  · subst eH
    exact ⟨G2, Same.refl _, s2, rx.mono g2⟩
  · subst eH
    subst ex
    rw [ed2]
    exact ⟨upd G2 p' (.tup vs), same_upd (s2.gh.free hp'), s2.new hp', .tup upd_same ((rs.mono g2).mono (same_upd (s2.gh.free hp')))⟩
end

section
variable {c : Cc} {m : Am} {D0 : Addr} {σ : L2.St} {vs is : List Nat} {g : D → Rho → Option Rho} {t : Rho → Ro Bool} {e : Rho → Ro D} {qt qe : Bool} {k : Nat}
/-- the state between two turns, what is made so far -/
structure LcSt (c : Cc) (m : Am) (D0 : Addr) (σ : L2.St) (vs : List Nat) (G1 : Hp) (H : Hp) (ρ : Rho) (acc : List D) (G2 : Hp) : Prop where
  g : Same G1 G2
  at_ : ∃ va, H D0 = some (.lst va) ∧ Reps c.T G2 va acc ∧ SR c.T c.io (m.with D0 (.lst va)) G2 H (wipe σ vs) ρ
  bl : Blank vs ρ
/-- one turn -/
theorem lc_turn (hcp : c.io.cmp) {G1 H2 H' : Hp} {G2 : Hp} {ρ ρ1 : Rho} {acc : List D} {x : V} {d : D} {J : It} {ds : List D} {i : Nat} {Nx : Hp → Prop} (hv : ∀ i ∈ c.io.ix, i ∉ vs) (hsub : ∀ i ∈ is, i ∈ vs) (L : LcSt c m D0 σ vs G1 H2 ρ acc G2) (w : Wk c.T J G1 ds) (ed : ds[i]? = some d) (y : J.yld i H2 x H') (hg : g d ρ = some ρ1)
    {b : Bool} {ρ2 : Rho} (ht : t ρ1 = .ok b ρ2) (hacc : acc.length < sizeLine)
    (no : b = false → ∀ H3 G3, LcSt c m D0 σ vs G1 H3 (wipeD vs ρ2) acc G3 → Nx H3)
    (yes : b = true → ∃ yv ρ3, e ρ2 = .ok yv ρ3 ∧ ∀ H3 G3, LcSt c m D0 σ vs G1 H3 (wipeD vs ρ3) (acc ++ [yv]) G3 → Nx H3) :
    tGc c.no is g x (wipe σ vs) H' fun σ2 H2 => wipe σ2 vs = wipe σ vs ∧ tT c.no qt t σ2 H2 fun b H3 =>
      if b = true then tE c.no .st qe e σ2 H3 fun y H4 => ∃ acc, H4 D0 = some (.lst acc) ∧ acc.length < sizeLine ∧ Nx (upd H4 D0 (.lst (acc ++ [y]))) else Nx H3 := by
  obtain ⟨va, hD, rs, s⟩ := L.at_
  obtain ⟨G3, g3, s3, r3⟩ := w.item ed L.g s y
  refine ⟨m.with D0 (.lst va), G3, ρ, d, s3, r3, ρ1, hg, fun σ4 s4 l4 k4 => ?_⟩
  have ew : wipe σ4 vs = wipe σ vs := by
    rw [← wipe_wipe σ vs]
    exact wipe_eq l4 fun i hi => k4 i fun z => hi (hsub i z)
  refine ⟨ew, m.with D0 (.lst va), G3, ρ1, s4, Out.known ht fun b' G5 H5 g5 s5 r5 => ?_⟩
  have r5' : b' = b := r5
  subst r5'
  cases b' with
  | false =>
    rw [if_neg (by simp)]
    refine no rfl H5 G5 ⟨(L.g.trans g3).trans g5, ⟨va, s5.rh D0 _ upd_same, (rs.mono g3).mono g5, ?_⟩, blank_wipe _ _⟩
    have z := SR.rewipe (σ := wipe σ vs) s5 (by rw [wipe_wipe]; exact ew) hv
    rw [wipe_wipe] at z
    exact z
  | true =>
    rw [if_pos rfl]
    obtain ⟨yv, ρ3, he, nx⟩ := yes rfl
    refine ⟨m.with D0 (.lst va), G5, ρ2, s5, Out.known he fun yx G6 H6 g6 s6 r6 => ?_⟩
    have r6' : Rep c.T G6 yx yv := r6
    obtain ⟨s7, h6, _⟩ := SR.lent (o' := .lst (va ++ [yx])) hcp s6 id
    have rs6 := ((rs.mono g3).mono g5).mono g6
    refine ⟨va, h6, by rw [rs.length]; exact hacc, nx _ G6 ⟨((L.g.trans g3).trans g5).trans g6, ⟨va ++ [yx], upd_same, Reps.append rs6 (.cons r6' .nil), ?_⟩, blank_wipe _ _⟩⟩
    have z := SR.rewipe (σ := wipe σ vs) s7 (by rw [wipe_wipe]; exact ew) hv
    rw [wipe_wipe] at z
    exact z
theorem lc_begin (hcp : c.io.cmp) {G1 H1 : Hp} {ρ1 : Rho} (s1 : SR c.T c.io m G1 H1 σ ρ1) (hD : H1 D0 = none) (hv : ∀ i ∈ c.io.ix, i ∉ vs) : LcSt c m D0 σ vs G1 (upd H1 D0 (.lst [])) (wipeD vs ρ1) [] G1 := by
  refine ⟨Same.refl _, ⟨[], upd_same, .nil, ?_⟩, blank_wipe _ _⟩
  have s2 := (s1.alloc (o := .lst []) hD).wiped (vs := vs) hv
  refine s2.lend hcp (s1.gh.free hD) upd_same fun i e h z => ?_
  obtain ⟨a, b⟩ := wipeD_some h
  rw [wipe_at b] at z
  exact s1.notOwn (.inl hD) i e a z
theorem lc_end (hcp : c.io.cmp) {G1 H G2 : Hp} {ρ : Rho} {acc : List D} (L : LcSt c m D0 σ vs G1 H ρ acc G2) (hr : m.R D0 = none) (hv : ∀ i ∈ c.io.ix, i ∉ vs) : SR c.T c.io m G2 H σ ρ ∧ Fre c.T m G2 H σ ρ D0 (.lst acc) := by
  obtain ⟨va, hD, rs, s⟩ := L.at_
  have hR : (m.with D0 (.lst va)).R D0 ≠ none := by
    show upd m.R D0 (.lst va) D0 ≠ none
    rw [upd_same]
    simp
  have s2 := s.unlend hcp hr
  refine ⟨s2.unwipe L.bl hv, s.rg D0 _ upd_same, hr, ⟨va, hD, rs⟩, fun i e h z => ?_⟩
  refine s.notOwn (.inr hR) i e h ?_
  rw [wipe_at (L.bl i _ h)]
  exact z
end

theorem toLst_ok {r : Ro (List D)} {c : Cc} {m : Am} {G H : Hp} {σ : L2.St} {ρ : Rho} {q : Bool} {rel : Hp → Hp → Rho → V → D → Prop} {Q : VK} (o : Out c m G H σ ρ q rel (toLst r) Q) : ∃ ys ρ', r = .ok ys ρ' ∧ ys.length ≤ 1000000 ∧ Out c m G H σ ρ q rel (.ok (.lst ys) ρ') Q := by
  cases r with
  | ok ys ρ' =>
    have o' : Out c m G H σ ρ q rel (if ys.length ≤ 1000000 then .ok (.lst ys) ρ' else .stuck) Q := o
    by_cases h : ys.length ≤ 1000000
    · rw [if_pos h] at o'
      exact ⟨ys, ρ', rfl, h, o'⟩
    · rw [if_neg h] at o'
      exact o'.elim
  | err _ _ _ => exact o.elim
  | stuck => exact o.elim

section
variable {c : Cc} {X : Cx} {q qt qe : Bool} {elt tg iter : Expr} {ifs : List Expr} {scope : Scope} {own : List (Str × Nat)} {pos : Pos} {di : Rho → Ro (List D)} {g : D → Rho → Option Rho} {t : Rho → Ro Bool} {d : Rho → Ro D} {is : List Nat}
theorem tLc_of (hcp : c.io.cmp) {vs : List Nat} (hio : ∀ i ∈ c.io.ix, i ∉ vs) (hsub : ∀ i ∈ is, i ∈ vs) {σ : L2.St} {H : Hp} {Q : VK} (h : tE c .fr false (dLc vs di g t d) σ H Q) : tLc (tI c q di) (tGc c.no is g) (tT c.no qt t) (tE c.no .st qe d) vs σ H Q := by
  obtain ⟨m, G, ρ, s, o⟩ := h
  refine ⟨m, G, ρ, s, ?_⟩
  have o' : Out c m G H σ ρ (q && false) (KRep c.T m σ .fr) ((di ρ).bind fun ds ρ1 => toLst (lcD vs g t d ds (wipeD vs ρ1))) Q := by
    rw [Bool.and_false]
    exact o
  refine (Out.bind o').imp fun J H1 ⟨G1, ρ1, ds, g1, _, s1, w, o1⟩ => ?_
  obtain ⟨ys, ρe, hys, hlen, o2⟩ := toLst_ok o1
  intro D0 hD
  refine ⟨fun i n H => i ≤ ds.length ∧ n = ds.length - i ∧ ∃ G2 ρ2 acc zs, LcSt c m D0 σ vs G1 H ρ2 acc G2 ∧ lcD vs g t d (ds.drop i) ρ2 = .ok zs ρe ∧ ys = acc ++ zs,
    ⟨ds.length, Nat.zero_le _, rfl, G1, _, [], ys, lc_begin hcp s1 hD hio, hys, rfl⟩, ?_⟩
  rintro i n H2 ⟨hil, rfl, G2, ρ2, acc, zs, L, hz, hy⟩
  have gH : Same G1 H2 := by
    obtain ⟨va, _, _, s⟩ := L.at_
    exact L.g.trans s.gh
  by_cases hlt : i < ds.length
  · have ed : ds[i]? = some ds[i] := List.getElem?_eq_getElem hlt
    have edr : ds.drop i = ds[i] :: ds.drop (i + 1) := List.drop_eq_getElem_cons hlt
    rw [edr] at hz
    unfold lcD at hz
    obtain ⟨ρ3, h3, hz⟩ := optRo_ok hz
    obtain ⟨b, ρ4, h4, hz⟩ := bind_ok_iff hz
    refine .inr ⟨w.go i H2 hlt gH, fun H' => ∃ G2 ρ2 acc zs, LcSt c m D0 σ vs G1 H' ρ2 acc G2 ∧ lcD vs g t d (ds.drop (i + 1)) ρ2 = .ok zs ρe ∧ ys = acc ++ zs, fun H' z => ⟨ds.length - (i + 1), by omega, hlt, rfl, z⟩, fun x H' y => ?_⟩
    have hl : acc.length < sizeLine := by
      have : ys.length = acc.length + zs.length := by rw [hy, List.length_append]
      rw [sizeLine_eq]
      omega
    refine lc_turn hcp hio hsub L w ed y h3 h4 hl (fun hb H3 G3 L3 => ?_) (fun hb => ?_)
    · subst hb
      rw [if_neg (by simp)] at hz
      exact ⟨G3, _, acc, zs, L3, hz, hy⟩
    · subst hb
      rw [if_pos rfl] at hz
      obtain ⟨yv, ρ5, h5, hz⟩ := bind_ok_iff hz
      obtain ⟨zs', ρ6, h6, hz⟩ := bind_ok_iff hz
      cases hz
      exact ⟨yv, ρ5, h5, fun H3 G3 L3 => ⟨G3, _, acc ++ [yv], zs', L3, h6, by rw [hy, List.append_assoc]; rfl⟩⟩
  · have hil' : i = ds.length := by omega
    subst hil'
    rw [List.drop_length] at hz
    cases hz
    rw [List.append_nil] at hy
    subst hy
    refine .inl ⟨w.stop H2 gH, ?_⟩
    obtain ⟨s3, f3⟩ := lc_end hcp L (s1.rh.free hD) hio
    exact o2 _ G2 H2 L.g (fun z => nomatch z) s3 ⟨D0, rfl, f3⟩
theorem tLc2_of (hcp : c.io.cmp) {vs vs1 is1 : List Nat} {qt1 q1 : Bool} {di1 : Rho → Ro (List D)} {g1 : D → Rho → Option Rho} {t1 : Rho → Ro Bool} (hio : ∀ i ∈ c.io.ix, i ∉ vs) (hsub : ∀ i ∈ is, i ∈ vs) (hsub1 : ∀ i ∈ is1, i ∈ vs1) (hv1 : ∀ i ∈ vs1, i ∈ vs) {σ : L2.St} {H : Hp} {Q : VK} (h : tE c .fr false (dLc2 vs di g t di1 vs1 g1 t1 d) σ H Q) :
    tLc2 (tI c q di) (tGc c.no is g) (tT c.no qt t) (tI c.no q1 di1) (tGc c.no is1 g1) (tT c.no qt1 t1) (tE c.no .st qe d) vs vs1 σ H Q := by
  have hio1 : ∀ i ∈ c.io.ix, i ∉ vs1 := fun i hi z => hio i hi (hv1 i z)
  obtain ⟨m, G, ρ, s, o⟩ := h
  refine ⟨m, G, ρ, s, ?_⟩
  have o' : Out c m G H σ ρ (q && false) (KRep c.T m σ .fr) ((di ρ).bind fun ds ρ1 => toLst (lc2D vs g t di1 vs1 g1 t1 d ds (wipeD vs ρ1))) Q := by
    rw [Bool.and_false]
    exact o
  refine (Out.bind o').imp fun J H1 ⟨G1, ρ1, ds, _, _, s1, w, o1⟩ => ?_
  obtain ⟨ys, ρe, hys, hlen, o2⟩ := toLst_ok o1
  intro D0 hD
  refine ⟨fun i n H => i ≤ ds.length ∧ n = ds.length - i ∧ ∃ G2 ρ2 acc zs, LcSt c m D0 σ vs G1 H ρ2 acc G2 ∧ lc2D vs g t di1 vs1 g1 t1 d (ds.drop i) ρ2 = .ok zs ρe ∧ ys = acc ++ zs,
    ⟨ds.length, Nat.zero_le _, rfl, G1, _, [], ys, lc_begin hcp s1 hD hio, hys, rfl⟩, ?_⟩
  rintro i n H2 ⟨hil, rfl, G2, ρ2, acc, zs, L, hz, hy⟩
  have gH : Same G1 H2 := by
    obtain ⟨va, _, _, s⟩ := L.at_
    exact L.g.trans s.gh
  by_cases hlt : i < ds.length
  · have ed : ds[i]? = some ds[i] := List.getElem?_eq_getElem hlt
    have edr : ds.drop i = ds[i] :: ds.drop (i + 1) := List.drop_eq_getElem_cons hlt
    rw [edr] at hz
    unfold lc2D at hz
    obtain ⟨ρ3, h3, hz⟩ := optRo_ok hz
    obtain ⟨b, ρ4, h4, hz⟩ := bind_ok_iff hz
    refine .inr ⟨w.go i H2 hlt gH, fun H' => ∃ G2 ρ2 acc zs, LcSt c m D0 σ vs G1 H' ρ2 acc G2 ∧ lc2D vs g t di1 vs1 g1 t1 d (ds.drop (i + 1)) ρ2 = .ok zs ρe ∧ ys = acc ++ zs, fun H' z => ⟨ds.length - (i + 1), by omega, hlt, rfl, z⟩, fun x H' y => ?_⟩
    obtain ⟨va, hDa, rs, sL⟩ := L.at_
    obtain ⟨G3, g3, s3, r3⟩ := w.item ed L.g sL y
    refine ⟨m.with D0 (.lst va), G3, ρ2, ds[i], s3, r3, ρ3, h3, fun σ4 s4 l4 k4 => ?_⟩
    have ew : wipe σ4 vs = wipe σ vs := by
      rw [← wipe_wipe σ vs]
      exact wipe_eq l4 fun j hj => k4 j fun z => hj (hsub j z)
    refine ⟨ew, m.with D0 (.lst va), G3, ρ3, s4, Out.known h4 fun b' G5 H5 g5 s5 r5 => ?_⟩
    have r5' : b' = b := r5
    subst r5'
    have rs5 := (rs.mono g3).mono g5
    cases b' with
    | false =>
      rw [if_neg (by simp)] at hz ⊢
      refine ⟨G5, _, acc, zs, ⟨(L.g.trans g3).trans g5, ⟨va, s5.rh D0 _ upd_same, rs5, ?_⟩, blank_wipe _ _⟩, hz, hy⟩
      have z := SR.rewipe (σ := wipe σ vs) s5 (by rw [wipe_wipe]; exact ew) hio
      rw [wipe_wipe] at z
      exact z
    | true =>
      rw [if_pos rfl] at hz ⊢
      obtain ⟨ds1, ρ5, h5, hz⟩ := bind_ok_iff hz
      obtain ⟨ys1, ρ6, h6, hz⟩ := bind_ok_iff hz
      obtain ⟨zs1, ρ7, h7, hz⟩ := bind_ok_iff hz
      cases hz
      refine ⟨m.with D0 (.lst va), G5, ρ4, s5, Out.known h5 fun J1 G6 H6 g6 s6 w1 => ?_⟩
      have rs6 := rs5.mono g6
      have g06 : Same G1 G6 := ((L.g.trans g3).trans g5).trans g6
      refine ⟨fun j k H => j ≤ ds1.length ∧ k = ds1.length - j ∧ ∃ G2 ρ2 acc' zs', LcSt c m D0 σ4 vs1 G6 H ρ2 acc' G2 ∧ lcD vs1 g1 t1 d (ds1.drop j) ρ2 = .ok zs' ρ6 ∧ acc' ++ zs' = acc ++ ys1,
        ⟨ds1.length, Nat.zero_le _, rfl, G6, _, acc, ys1, ⟨Same.refl _, ⟨va, s6.rh D0 _ upd_same, rs6, s6.wiped hio1⟩, blank_wipe _ _⟩, h6, rfl⟩, ?_⟩
      rintro j k H7 ⟨hjl, rfl, G7, ρ8, acc', zs', L1, hz1, hy1⟩
      have gH1 : Same G6 H7 := by
        obtain ⟨va1, _, _, s8⟩ := L1.at_
        exact L1.g.trans s8.gh
      by_cases hlt1 : j < ds1.length
      · have ed1 : ds1[j]? = some ds1[j] := List.getElem?_eq_getElem hlt1
        have edr1 : ds1.drop j = ds1[j] :: ds1.drop (j + 1) := List.drop_eq_getElem_cons hlt1
        rw [edr1] at hz1
        unfold lcD at hz1
        obtain ⟨ρ9, h9, hz1⟩ := optRo_ok hz1
        obtain ⟨b1, ρ10, h10, hz1⟩ := bind_ok_iff hz1
        refine .inr ⟨w1.go j H7 hlt1 gH1, fun H' => ∃ G2 ρ2 acc' zs', LcSt c m D0 σ4 vs1 G6 H' ρ2 acc' G2 ∧ lcD vs1 g1 t1 d (ds1.drop (j + 1)) ρ2 = .ok zs' ρ6 ∧ acc' ++ zs' = acc ++ ys1, fun H' z => ⟨ds1.length - (j + 1), by omega, hlt1, rfl, z⟩, fun x H' y => ?_⟩
        have hl : acc'.length < sizeLine := by
          have e1 : (acc' ++ zs').length = (acc ++ ys1).length := by rw [hy1]
          have e2 : ys.length = (acc ++ (ys1 ++ zs1)).length := by rw [hy]
          simp only [List.length_append] at e1 e2
          rw [sizeLine_eq]
          omega
        refine lc_turn hcp hio1 hsub1 L1 w1 ed1 y h9 h10 hl (fun hb H3 G8 L3 => ?_) (fun hb => ?_)
        · subst hb
          rw [if_neg (by simp)] at hz1
          exact ⟨G8, _, acc', zs', L3, hz1, hy1⟩
        · subst hb
          rw [if_pos rfl] at hz1
          obtain ⟨yv, ρ11, h11, hz1⟩ := bind_ok_iff hz1
          obtain ⟨zs2, ρ12, h12, hz1⟩ := bind_ok_iff hz1
          cases hz1
          exact ⟨yv, ρ11, h11, fun H3 G8 L3 => ⟨G8, _, acc' ++ [yv], zs2, L3, h12, by rw [List.append_assoc]; exact hy1⟩⟩
      · have hjl' : j = ds1.length := by omega
        subst hjl'
        rw [List.drop_length] at hz1
        cases hz1
        rw [List.append_nil] at hy1
        subst hy1
        obtain ⟨va1, hD1, rs1, s8⟩ := L1.at_
        refine .inl ⟨w1.stop H7 gH1, G7, _, acc ++ ys1, zs1, ⟨g06.trans L1.g, ⟨va1, hD1, rs1, ?_⟩, blank_wipe _ _⟩, h7, by rw [hy, List.append_assoc]⟩
        refine SR.rewipe (σ := σ) s8 ?_ hio
        refine Eq.trans ?_ ew
        exact wipe_eq (wipe_length _ _) fun a ha => wipe_at fun z => ha (hv1 a z)
  · have hil' : i = ds.length := by omega
    subst hil'
    rw [List.drop_length] at hz
    cases hz
    rw [List.append_nil] at hy
    subst hy
    refine .inl ⟨w.stop H2 gH, ?_⟩
    obtain ⟨s3, f3⟩ := lc_end hcp L (s1.rh.free hD) hio
    exact o2 _ G2 H2 L.g (fun z => nomatch z) s3 ⟨D0, rfl, f3⟩

/-- what a comprehension's parts are, for every block -/
structure LcB (c : Cc) (X : Cx) (scope : Scope) (is : List Nat) (tg : Expr) (g : D → Rho → Option Rho) (qt : Bool) (ifs : List Expr) (t : Rho → Ro Bool) (qe : Bool) (elt : Expr) (d : Rho → Ro D) : Prop where
  hg : ∀ (s : Shared) (H : Hp) (C : Addr) (cl : List (Str × Addr)) (fp : List Addr), DGc c.no (X.blk s H scope (compEnvC scope cl C X.env) fp) is tg g
  ht : ∀ (s : Shared) (H : Hp) (C : Addr) (cl : List (Str × Addr)) (fp : List Addr), DTs c.no (X.blk s H scope (compEnvC scope cl C X.env) fp) qt ifs t
  he : ∀ (s : Shared) (H : Hp) (C : Addr) (cl : List (Str × Addr)) (fp : List Addr), DE c.no (X.blk s H scope (compEnvC scope cl C X.env) fp) .st qe elt d
theorem de_lc (hc : X.calm = true) (hN : X.N.Nodup) (hi : DI c X q tg iter di) (ok : BlkOk X.N X.env.scope scope own) (B : LcB c X scope is tg g qt ifs t qe elt d) (hio : ∀ i ∈ c.io.ix, i ∉ own.map (·.2) := by exact nia rfl) (hcp : c.io.cmp := by trivial) (hsub : ∀ i ∈ is, i ∈ own.map (·.2) := by exact nis rfl)
    (hs : ∀ x, foldedSetIterable iter X.env x = pure x := by intro _; rfl) : DE c X .fr false (.ListComp elt [⟨tg, iter, ifs, 0⟩] scope pos) (dLc (own.map (·.2)) di g t d) :=
  ⟨pe_imp (pe_lc hc hN hi.pi ok (fun s H C cl fp => (B.hg s H C cl fp).pg) (fun s H C cl fp => (B.ht s H C cl fp).pts) (fun s H C cl fp => (B.he s H C cl fp).pe) hs) fun σ H Q h => tLc_of hcp hio hsub h⟩
theorem tAsg_fz {i : Nat} {te : TE} {dd : Rho → Ro D} (hw : ∀ {σ H Q}, tE c .fr false dd σ H Q → te σ H Q) (hio : i ∉ c.io.ix) {Z : Ends} {σ : L2.St} {H : Hp} (h : tS c (sAsg dd (gN i)) Z σ H) : tAsg te (gName i) Z σ H := by
  obtain ⟨m, G, ρ, r, o⟩ := h
  refine hw (tE_fr ⟨m, G, ρ, r, ?_⟩)
  refine (Out.then o).imp fun x H1 ⟨G1, ρ1, v, g1, e1, s1, r1, o1⟩ => ?_
  exact OutS.nx o1 (s1.set r1 hio)
theorem tAsg_own {i : Nat} {te : TE} {dd : Rho → Ro D} (hw : ∀ {σ H Q}, tE c .fr false dd σ H Q → te σ H Q) (hio : i ∉ c.io.ix) {Z : Ends} {σ : L2.St} {H : Hp} (h : tS c (sOwn dd i) Z σ H) : tAsg te (gName i) Z σ H := by
  obtain ⟨m, G, ρ, r, o⟩ := h
  refine hw ⟨m, G, ρ, r, ?_⟩
  refine (Out.then o).imp fun x H1 ⟨G1, ρ1, v, g1, e1, s1, ⟨p, ep, f⟩, o1⟩ => ?_
  subst ep
  exact OutS.nx o1 (s1.setO f hio)
theorem ds_setLc (i : Nat) {y : Str} {py spos : Pos} (hc : X.calm = true) (hN : X.N.Nodup) (hi : DI c X q tg iter di) (ok : BlkOk X.N X.env.scope scope own) (B : LcB c X scope is tg g qt ifs t qe elt d) (hy : X.N[i]? = some y := by rfl) (hyl : X.env.scope.names.lookup y = some .local := by rfl)
    (hsw : swapsWith (.ListComp elt [⟨tg, iter, ifs, 0⟩] scope pos) (some (.Name y py)) spos.line X.env = pure true := by exact sw_true rfl rfl rfl (by decide +kernel)) (hii : i ∉ c.io.ix := by exact ni rfl) (hio : ∀ i ∈ c.io.ix, i ∉ own.map (·.2) := by exact nia rfl) (hcp : c.io.cmp := by trivial) (hsub : ∀ i ∈ is, i ∈ own.map (·.2) := by exact nis rfl)
    (hs : ∀ x, foldedSetIterable iter X.env x = pure x := by intro _; rfl) : DS c X (.Assign [.Name y py] (.ListComp elt [⟨tg, iter, ifs, 0⟩] scope pos) spos) (sAsg (dLc (own.map (·.2)) di g t d) (gN i)) :=
  ⟨ps_imp (ps_setLc hc hN hy hyl hsw hi.pi ok (fun s H C cl fp => (B.hg s H C cl fp).pg) (fun s H C cl fp => (B.ht s H C cl fp).pts) (fun s H C cl fp => (B.he s H C cl fp).pe) hs) fun Z σ H h => tAsg_fz (fun h => tLc_of hcp hio hsub h) hii h⟩
theorem ds_ownLc (i : Nat) {y : Str} {py spos : Pos} (hc : X.calm = true) (hN : X.N.Nodup) (hi : DI c X q tg iter di) (ok : BlkOk X.N X.env.scope scope own) (B : LcB c X scope is tg g qt ifs t qe elt d) (hy : X.N[i]? = some y := by rfl) (hyl : X.env.scope.names.lookup y = some .local := by rfl)
    (hsw : swapsWith (.ListComp elt [⟨tg, iter, ifs, 0⟩] scope pos) (some (.Name y py)) spos.line X.env = pure true := by exact sw_true rfl rfl rfl (by decide +kernel)) (hii : i ∉ c.io.ix := by exact ni rfl) (hio : ∀ i ∈ c.io.ix, i ∉ own.map (·.2) := by exact nia rfl) (hcp : c.io.cmp := by trivial) (hsub : ∀ i ∈ is, i ∈ own.map (·.2) := by exact nis rfl)
    (hs : ∀ x, foldedSetIterable iter X.env x = pure x := by intro _; rfl) : DS c X (.Assign [.Name y py] (.ListComp elt [⟨tg, iter, ifs, 0⟩] scope pos) spos) (sOwn (dLc (own.map (·.2)) di g t d) i) :=
  ⟨ps_imp (ps_setLc hc hN hy hyl hsw hi.pi ok (fun s H C cl fp => (B.hg s H C cl fp).pg) (fun s H C cl fp => (B.ht s H C cl fp).pts) (fun s H C cl fp => (B.he s H C cl fp).pe) hs) fun Z σ H h => tAsg_own (fun h => tLc_of hcp hio hsub h) hii h⟩
/-- two clauses -/
structure LcB1 (c : Cc) (X : Cx) (scope : Scope) (is : List Nat) (tg : Expr) (g : D → Rho → Option Rho) (qt : Bool) (ifs : List Expr) (t : Rho → Ro Bool) (q1 : Bool) (tg1 iter1 : Expr) (di1 : Rho → Ro (List D)) : Prop where
  hg : ∀ (s : Shared) (H : Hp) (C : Addr) (cl : List (Str × Addr)) (fp : List Addr), DGc c.no (X.blk s H scope (compEnvC scope cl C X.env) fp) is tg g
  ht : ∀ (s : Shared) (H : Hp) (C : Addr) (cl : List (Str × Addr)) (fp : List Addr), DTs c.no (X.blk s H scope (compEnvC scope cl C X.env) fp) qt ifs t
  hi : ∀ (s : Shared) (H : Hp) (C : Addr) (cl : List (Str × Addr)) (fp : List Addr), DI c.no (X.blk s H scope (compEnvC scope cl C X.env) fp) q1 tg1 iter1 di1
section
variable {tg1 iter1 : Expr} {ifs1 : List Expr} {di1 : Rho → Ro (List D)} {g1 : D → Rho → Option Rho} {t1 : Rho → Ro Bool} {is1 : List Nat} {q1 qt1 : Bool}
theorem de_lc2 (vs1 : List Nat) (hc : X.calm = true) (hN : X.N.Nodup) (hi : DI c X q tg iter di) (ok : BlkOk X.N X.env.scope scope own) (A : LcB1 c X scope is tg g qt ifs t q1 tg1 iter1 di1) (B : LcB c X scope is1 tg1 g1 qt1 ifs1 t1 qe elt d) (hio : ∀ i ∈ c.io.ix, i ∉ own.map (·.2) := by exact nia rfl) (hcp : c.io.cmp := by trivial) (hsub : ∀ i ∈ is, i ∈ own.map (·.2) := by exact nis rfl)
    (hsub1 : ∀ i ∈ is1, i ∈ vs1 := by decide) (hv1 : ∀ i ∈ vs1, i ∈ own.map (·.2) := by decide) (hs : ∀ x, foldedSetIterable iter X.env x = pure x := by intro _; rfl) (hs1 : ∀ env x, foldedSetIterable iter1 env x = pure x := by intro _ _; rfl) :
    DE c X .fr false (.ListComp elt [⟨tg, iter, ifs, 0⟩, ⟨tg1, iter1, ifs1, 0⟩] scope pos) (dLc2 (own.map (·.2)) di g t di1 vs1 g1 t1 d) :=
  ⟨pe_imp (pe_lc2 hc hN hi.pi ok hv1 (fun s H C cl fp => (A.hg s H C cl fp).pg) (fun s H C cl fp => (A.ht s H C cl fp).pts) (fun s H C cl fp => (A.hi s H C cl fp).pi) (fun s H C cl fp => (B.hg s H C cl fp).pg) (fun s H C cl fp => (B.ht s H C cl fp).pts) (fun s H C cl fp => (B.he s H C cl fp).pe) hs hs1)
    fun σ H Q h => tLc2_of hcp hio hsub hsub1 hv1 h⟩
end
end
end VL

set_option Elab.async false
set_option linter.all false
set_option maxRecDepth 100000
set_option maxHeartbeats 2000000
/-! VL9: the built-in operators by their data -/
namespace VL
open PySem PySem.Spec L2

/-! ### what a value is, from its datum -/
section
variable {T : Tb} {G H : Hp} {x : V}
theorem RepW.intV {i : Int} (s : Same G H) (r : RepW T G H x (.int i)) : x = .int i := (r.rep s).intV
theorem RepW.blV {i : Bool} (s : Same G H) (r : RepW T G H x (.bl i)) : x = .bl i := (r.rep s).blV
theorem RepW.strV {i : Str} (s : Same G H) (r : RepW T G H x (.str i)) : x = .str i := (r.rep s).strV
theorem RepW.nonV (s : Same G H) (r : RepW T G H x .non) : x = .non := (r.rep s).nonV
theorem RepW.lst {ds : List D} (s : Same G H) (r : RepW T G H x (.lst ds)) : ∃ a vs, x = .ref a ∧ H a = some (.lst vs) ∧ Reps T G vs ds := by
  rcases r with r | ⟨p, rfl, _, vs, e, rs⟩
  · cases r with
    | lst e rs => exact ⟨_, _, rfl, s _ _ e, rs⟩
  · exact ⟨p, vs, rfl, e, rs⟩
theorem RepW.tup {ds : List D} (s : Same G H) (r : RepW T G H x (.tup ds)) : ∃ a vs, x = .ref a ∧ G a = some (.tup vs) ∧ H a = some (.tup vs) ∧ Reps T G vs ds := by
  rcases r with r | ⟨p, rfl, _, w⟩
  · cases r with
    | tup e rs => exact ⟨_, _, rfl, e, s _ _ e, rs⟩
  · exact w.elim
theorem RepW.ktp {ds : List D} (s : Same G H) (r : RepW T G H x (.ktp ds)) : ∃ a vs, x = .ref a ∧ SqT T.K H a vs ∧ Reps T G vs ds := by
  rcases r with r | ⟨p, rfl, _, w⟩
  · cases r with
    | ktp e rs => exact ⟨_, _, rfl, sqT_mono s e, rs⟩
  · exact w.elim
theorem RepW.scr {ns : List Int} (s : Same G H) (r : RepW T G H x (.scr ns)) : ∃ a, x = .ref a ∧ SqL T.K H a (ns.map V.int) := by
  rcases r with r | ⟨p, rfl, _, w⟩
  · cases r with
    | scr e => exact ⟨_, rfl, s.seq e⟩
  · exact w.elim
/-- a list, a tuple or the script: its items -/
theorem RepW.seq {d : D} {ds : List D} (s : Same G H) (r : RepW T G H x d) (e : d = .lst ds ∨ d = .tup ds ∨ d = .ktp ds ∨ ∃ ns : List Int, d = .scr ns ∧ ds = ns.map .int) :
    ∃ a vs, x = .ref a ∧ (SqL T.K H a vs ∨ SqT T.K H a vs) ∧ Reps T G vs ds := by
  rcases e with rfl | rfl | rfl | ⟨ns, rfl, rfl⟩
  · obtain ⟨a, vs, h1, h2, h3⟩ := r.lst s
    exact ⟨a, vs, h1, .inl (.inl (.inl h2)), h3⟩
  · obtain ⟨a, vs, h1, _, h2, h3⟩ := r.tup s
    exact ⟨a, vs, h1, .inr (.inl (.inl h2)), h3⟩
  · obtain ⟨a, vs, h1, h2, h3⟩ := r.ktp s
    exact ⟨a, vs, h1, .inr h2, h3⟩
  · obtain ⟨a, h1, h2⟩ := r.scr s
    exact ⟨a, _, h1, .inl h2, reps_ints ns⟩
end

/-! ### putting rules together -/
section
variable {T : Tb} {k : Kd}
theorem OpD.or {r r' : R2} {f g : D → D → Option D} (h : OpD T r k f) (h' : OpD T r' k g) : OpD T (fun x y H Q => r x y H Q ∨ r' x y H Q) k (fun a b => (f a b).or (g a b)) := by
  intro io m G H σ ρ x y a b z Q s rx ry e hq
  replace e : (f a b).or (g a b) = some z := e
  cases hf : f a b with
  | some w =>
    rw [hf, Option.some_or] at e
    cases e
    exact .inl (h io m G H σ ρ x y a b _ Q s rx ry hf hq)
  | none =>
    rw [hf, Option.none_or] at e
    exact .inr (h' io m G H σ ρ x y a b z Q s rx ry e hq)
theorem CallD.or {r r' : List V → Hp → VK → Prop} {f g : List D → Option D} (h : CallD T r k f) (h' : CallD T r' k g) : CallD T (fun x H Q => r x H Q ∨ r' x H Q) k (fun a => (f a).or (g a)) := by
  intro io m G H σ ρ x a z Q s rx e hq
  replace e : (f a).or (g a) = some z := e
  cases hf : f a with
  | some w =>
    rw [hf, Option.some_or] at e
    cases e
    exact .inl (h io m G H σ ρ x a _ Q s rx hf hq)
  | none =>
    rw [hf, Option.none_or] at e
    exact .inr (h' io m G H σ ρ x a z Q s rx e hq)
theorem Call1D.or {r r' : List V → Hp → VK → Prop} {f g : D → Option D} (h : Call1D T r k f) (h' : Call1D T r' k g) : Call1D T (fun x H Q => r x H Q ∨ r' x H Q) k (fun a => (f a).or (g a)) := by
  intro io m G H σ ρ x a z Q s rx e hq
  replace e : (f a).or (g a) = some z := e
  cases hf : f a with
  | some w =>
    rw [hf, Option.some_or] at e
    cases e
    exact .inl (h io m G H σ ρ x a _ Q s rx hf hq)
  | none =>
    rw [hf, Option.none_or] at e
    exact .inr (h' io m G H σ ρ x a z Q s rx e hq)
/-- what is new may be frozen at once -/
theorem fr_st {io : Io} {m : Am} {G H : Hp} {σ : L2.St} {ρ : Rho} {z : D} {P : V → Hp → Prop}
    (hq : ∀ v G' H', Same G G' → Same H H' → SR T io m G' H' σ ρ → KRep T m σ .st G' H' ρ v z → P v H') :
    ∀ v G' H', Same G G' → Same H H' → SR T io m G' H' σ ρ → KRep T m σ .fr G' H' ρ v z → P v H' := by
  rintro v G' H' g h s ⟨p, rfl, f⟩
  obtain ⟨o, ho, rp, s2, g2⟩ := f.freeze s
  exact hq _ _ H' (g.trans g2) h s2 rp
theorem OpD.fz {r : R2} {f : D → D → Option D} (h : OpD T r .fr f) : OpD T r .st f := fun io m G H σ ρ x y a b z Q s rx ry e hq => h io m G H σ ρ x y a b z Q s rx ry e (fr_st hq)
theorem CallD.fz {r : List V → Hp → VK → Prop} {f : List D → Option D} (h : CallD T r .fr f) : CallD T r .st f := fun io m G H σ ρ x a z Q s rx e hq => h io m G H σ ρ x a z Q s rx e (fr_st hq)
theorem Call1D.fz {r : List V → Hp → VK → Prop} {f : D → Option D} (h : Call1D T r .fr f) : Call1D T r .st f := fun io m G H σ ρ x a z Q s rx e hq => h io m G H σ ρ x a z Q s rx e (fr_st hq)
/-- one frozen argument among the ways of calling -/
theorem Call1D.call {r : List V → Hp → VK → Prop} {f : D → Option D} (h : Call1D T r k f) : CallD T r k (fun as => match as with
    | [a] => f a
    | _ => none) := by
  intro io m G H σ ρ xs as z Q s rx e hq
  dsimp only at e
  split at e
  · rename_i a
    cases rx with
    | cons r0 r1 =>
      cases r1
      exact h io m G H σ ρ _ a z Q s (.inl r0) e hq
  · cases e

/-- an operator of values that changes nothing -/
theorem opd_val {r : R2} {f : D → D → Option D} (h : ∀ (G H : Hp) (x y : V) (a b z : D) (Q : VK), Same G H → RepW T G H x a → RepW T G H y b → f a b = some z → (∀ v, Rep T G v z → Q v H) → r x y H Q) : OpD T r .st f :=
  fun io m G H σ ρ x y a b z Q s rx ry e hq => h G H x y a b z Q s.gh rx ry e fun v rv => hq v G H (Same.refl _) (Same.refl _) s rv
theorem c1_val {r : List V → Hp → VK → Prop} {f : D → Option D} (h : ∀ (G H : Hp) (x : V) (a z : D) (Q : VK), Same G H → RepW T G H x a → f a = some z → (∀ v, Rep T G v z → Q v H) → r [x] H Q) : Call1D T r .st f :=
  fun io m G H σ ρ x a z Q s rx e hq => h G H x a z Q s.gh rx e fun v rv => hq v G H (Same.refl _) (Same.refl _) s rv
end

/-! ### whole numbers -/
section
variable {T : Tb}
def i2 (C : Int → Int → Bool) (g : Int → Int → D) : D → D → Option D
  | .int i, .int j => if C i j = true then some (g i j) else none
  | _, _ => none
theorem opd_i {C : Int → Int → Prop} {g : Int → Int → V} {C' : Int → Int → Bool} {g' : Int → Int → D} (hC : ∀ i j, C' i j = true → C i j) (hg : ∀ i j G, Rep T G (g i j) (g' i j)) : OpD T (rI C g) .st (i2 C' g') := by
  refine opd_val fun G H x y a b z Q s rx ry e hq => ?_
  unfold i2 at e
  split at e
  · rename_i i j
    split at e
    · rename_i hc
      cases e
      exact ⟨i, j, rx.intV s, ry.intV s, hC i j hc, hq _ (hg i j G)⟩
    · cases e
  · cases e
theorem opd_i0 {g : Int → Int → V} {g' : Int → Int → D} (hg : ∀ i j G, Rep T G (g i j) (g' i j)) : OpD T (rI0 g) .st (i2 (fun _ _ => true) g') := by
  refine opd_val fun G H x y a b z Q s rx ry e hq => ?_
  unfold i2 at e
  split at e
  · rename_i i j
    rw [if_pos rfl] at e
    cases e
    exact ⟨i, j, rx.intV s, ry.intV s, hq _ (hg i j G)⟩
  · cases e
def subD : D → D → Option D := i2 (fun _ _ => true) fun i j => .int (i - j)
def mulD : D → D → Option D := i2 (fun i j => decide (i.natAbs.log2 + j.natAbs.log2 < 1000000)) fun i j => .int (i * j)
def modD : D → D → Option D := i2 (fun _ j => decide (0 < j)) fun i j => .int (i % j)
def fdivD : D → D → Option D := i2 (fun _ j => decide (0 < j ∧ j.natAbs.log2 < 9000)) fun i j => .int (i / j)
def powD : D → D → Option D := i2 (fun i j => decide (0 ≤ j ∧ j ≤ 1000000 ∧ i.natAbs < 2 ^ 64)) fun i j => .int (i ^ j.toNat)
theorem opd_sub : OpD T (rI0 fun i j => .int (i - j)) .st subD := opd_i0 fun _ _ _ => .int _
theorem opd_mul : OpD T (rI CMulW fun i j => .int (i * j)) .st mulD := opd_i (fun i j h => (of_decide_eq_true h : i.natAbs.log2 + j.natAbs.log2 < 1000000)) fun _ _ _ => .int _
theorem opd_mod : OpD T (rI (fun _ j => 0 < j) fun i j => .int (i % j)) .st modD := opd_i (fun i j h => of_decide_eq_true h) fun _ _ _ => .int _
theorem opd_fdiv : OpD T (rI CDivW fun i j => .int (i / j)) .st fdivD := opd_i (fun i j h => (of_decide_eq_true h : 0 < j ∧ j.natAbs.log2 < 9000)) fun _ _ _ => .int _
theorem opd_pow : OpD T (rI CPow fun i j => .int (i ^ j.toNat)) .st powD := opd_i (fun i j h => (of_decide_eq_true h : 0 ≤ j ∧ j ≤ 1000000 ∧ i.natAbs < 2 ^ 64)) fun _ _ _ => .int _

/-! ### + -/
def catL : D → D → Option D
  | .lst a, .lst b => if a.length + b.length ≤ 16777216 then some (.lst (a ++ b)) else none
  | _, _ => none
theorem opd_catL : OpD T rCat .fr catL := by
  intro io m G H σ ρ x y a b z Q s rx ry e hq
  unfold catL at e
  split at e
  · rename_i as bs
    split at e
    · rename_i hl
      cases e
      obtain ⟨p, vs, rfl, h1, r1⟩ := rx.lst s.gh
      obtain ⟨p', us, rfl, h2, r2⟩ := ry.lst s.gh
      refine ⟨p, p', vs, us, rfl, rfl, h1, h2, by rw [r1.length, r2.length, sizeLine_eq]; exact hl, fun l hn => ?_⟩
      exact hq _ G _ (Same.refl _) (same_upd hn) (s.alloc hn) ⟨l, rfl, s.fre hn ⟨_, upd_same, r1.append r2⟩⟩
    · cases e
  · cases e
def catT : D → D → Option D
  | .tup a, .tup b => if a.length + b.length ≤ 16777216 then some (.tup (a ++ b)) else none
  | _, _ => none
theorem opd_catT : OpD T (rCatA T.K) .st catT := by
  intro io m G H σ ρ x y a b z Q s rx ry e hq
  unfold catT at e
  split at e
  · rename_i as bs
    split at e
    · rename_i hl
      cases e
      obtain ⟨p, vs, rfl, g1, h1, r1⟩ := rx.tup s.gh
      obtain ⟨p', us, rfl, g2, h2, r2⟩ := ry.tup s.gh
      refine ⟨p, p', vs, us, rfl, rfl, .inl (.inl h1), .inl (.inl h2), by rw [r1.length, r2.length, sizeLine_eq]; exact hl, fun e => ?_, fun _ e => ?_, fun _ _ l hn => ?_⟩
      · subst e
        cases r1
        exact hq _ G H (Same.refl _) (Same.refl _) s (.tup g2 r2)
      · subst e
        cases r2
        rw [List.append_nil] at hq
        exact hq _ G H (Same.refl _) (Same.refl _) s (.tup g1 r1)
      · have s2 := s.new (o := .tup (vs ++ us)) hn
        exact hq _ _ _ (same_upd (s.gh.free hn)) (same_upd hn) s2 (.tup upd_same ((r1.append r2).mono (same_upd (s.gh.free hn))))
    · cases e
  · cases e
def addS : D → D → Option D
  | .int i, .int j => some (.int (i + j))
  | _, _ => none
def addX : D → D → Option D
  | .str i, .str j => if i.length + j.length ≤ 16777216 then some (.str (i ++ j)) else none
  | _, _ => none
theorem opd_addS : OpD T (rI0 fun i j => .int (i + j)) .st addS := by
  refine opd_val fun G H x y a b z Q s rx ry e hq => ?_
  unfold addS at e
  split at e
  · rename_i i j
    cases e
    exact ⟨i, j, rx.intV s, ry.intV s, hq _ (.int _)⟩
  · cases e
theorem opd_addX : OpD T (fun x y H Q => ∃ i j, x = .str i ∧ y = .str j ∧ i.length + j.length ≤ sizeLine ∧ Q (.str (i ++ j)) H) .st addX := by
  refine opd_val fun G H x y a b z Q s rx ry e hq => ?_
  unfold addX at e
  split at e
  · rename_i i j
    split at e
    · rename_i hl
      cases e
      exact ⟨i, j, rx.strV s, ry.strV s, by rw [sizeLine_eq]; exact hl, hq _ (.str _)⟩
    · cases e
  · cases e
/-- a + b of any of these -/
def addD (a b : D) : Option D := (addS a b).or ((addX a b).or ((catL a b).or (catT a b)))
def rAdd (K : PySem.W.Frag) : R2 := fun x y H Q => rI0 (fun i j => .int (i + j)) x y H Q ∨ ((∃ i j, x = .str i ∧ y = .str j ∧ i.length + j.length ≤ sizeLine ∧ Q (.str (i ++ j)) H) ∨ (rCat x y H Q ∨ rCatA K x y H Q))
theorem opd_add : OpD T (rAdd T.K) .st addD := opd_addS.or (opd_addX.or (opd_catL.fz.or opd_catT))
theorem opr_add {X : Cx} : OpR X (binaryOp .Add) (rAdd X.K) := op_add.or (op_add_str.or (op_cat.or op_catA))

/-! ### comparing -/
def cmpI (g : Int → Int → Bool) : D → D → Option D := i2 (fun _ _ => true) fun i j => .bl (g i j)
def cmpX (g : Str → Str → Bool) : D → D → Option D
  | .str i, .str j => some (.bl (g i j))
  | _, _ => none
theorem opd_cmpX {g : Str → Str → Bool} : OpD T (fun x y H Q => ∃ i j, x = .str i ∧ y = .str j ∧ Q (.bl (g i j)) H) .st (cmpX g) := by
  refine opd_val fun G H x y a b z Q s rx ry e hq => ?_
  unfold cmpX at e
  split at e
  · rename_i i j
    cases e
    exact ⟨i, j, rx.strV s, ry.strV s, hq _ (.bl _)⟩
  · cases e
def ltX (i j : Str) : Bool := decide (i.cps.toList < j.cps.toList)
def ltD (a b : D) : Option D := (cmpI (fun i j => decide (i < j)) a b).or (cmpX ltX a b)
def leD (a b : D) : Option D := cmpI (fun i j => decide (i ≤ j)) a b
def gtD (a b : D) : Option D := cmpI (fun i j => decide (j < i)) a b
def geD (a b : D) : Option D := cmpI (fun i j => decide (j ≤ i)) a b
def rLtD : R2 := fun x y H Q => rI0 (fun i j => .bl (decide (i < j))) x y H Q ∨ (∃ i j, x = .str i ∧ y = .str j ∧ Q (.bl (ltX i j)) H)
theorem opd_lt : OpD T rLtD .st ltD := (opd_i0 (T := T) (g := fun i j => .bl (decide (i < j))) fun _ _ _ => .bl _).or opd_cmpX
theorem opr_lt {X : Cx} : OpR X (compareOp .Lt) rLtD := op_lt.or op_lt_str
theorem opd_le : OpD T (rI0 fun i j => .bl (decide (i ≤ j))) .st leD := opd_i0 fun _ _ _ => .bl _
theorem opd_gt : OpD T (rI0 fun i j => .bl (decide (j < i))) .st gtD := opd_i0 fun _ _ _ => .bl _
theorem opd_ge : OpD T (rI0 fun i j => .bl (decide (j ≤ i))) .st geD := opd_i0 fun _ _ _ => .bl _
/-! is None, is True -/
def isNonD : D → Bool
  | .non => true
  | _ => false
def isD : D → D → Option D
  | a, .non => some (.bl (isNonD a))
  | .bl a, .bl b => some (.bl (a == b))
  | _, _ => none
def isNotD : D → D → Option D
  | a, .non => some (.bl (!isNonD a))
  | .bl a, .bl b => some (.bl (!(a == b)))
  | _, _ => none
theorem non_iff {G H : Hp} {x : V} {a : D} (s : Same G H) (r : RepW T G H x a) : x = .non ↔ a = .non := by
  constructor
  · intro h
    subst h
    rcases r with r | ⟨p, h, _⟩
    · cases r
      rfl
    · cases h
  · intro h
    subst h
    exact r.nonV s
theorem opd_is : OpD T (fun x y H Q => (y = .non ∧ Q (.bl (decide (x = .non))) H) ∨ rIsB x y H Q) .st isD := by
  refine opd_val fun G H x y a b z Q s rx ry e hq => ?_
  unfold isD at e
  split at e
  · refine .inl ⟨ry.nonV s, ?_⟩
    have hx := non_iff s rx
    cases e
    have : decide (x = V.non) = isNonD a := by
      cases a <;> simp_all [isNonD]
    rw [this]
    exact hq _ (.bl _)
  · rename_i a b
    cases e
    refine .inr ⟨a, b, rx.blV s, ry.blV s, ?_⟩
    have : decide (a = b) = (a == b) := by cases a <;> cases b <;> rfl
    rw [this]
    exact hq _ (.bl _)
  · cases e
theorem opd_isNot : OpD T (fun x y H Q => (y = .non ∧ Q (.bl (!decide (x = .non))) H) ∨ rNotB x y H Q) .st isNotD := by
  refine opd_val fun G H x y a b z Q s rx ry e hq => ?_
  unfold isNotD at e
  split at e
  · refine .inl ⟨ry.nonV s, ?_⟩
    have hx := non_iff s rx
    cases e
    have : (!decide (x = V.non)) = !isNonD a := by
      cases a <;> simp_all [isNonD]
    rw [this]
    exact hq _ (.bl _)
  · rename_i a b
    cases e
    refine .inr ⟨a, b, rx.blV s, ry.blV s, ?_⟩
    have : (!decide (a = b)) = !(a == b) := by cases a <;> cases b <;> rfl
    rw [this]
    exact hq _ (.bl _)
  · cases e
theorem opr_is {X : Cx} : OpR X (compareOp .Is) (fun x y H Q => (y = .non ∧ Q (.bl (decide (x = .non))) H) ∨ rIsB x y H Q) := op_isN.or op_isBl
theorem opr_isNot {X : Cx} : OpR X (compareOp .IsNot) (fun x y H Q => (y = .non ∧ Q (.bl (!decide (x = .non))) H) ∨ rNotB x y H Q) := op_notN.or op_notBl
end
end VL

set_option Elab.async false
set_option linter.all false
set_option maxRecDepth 100000
set_option maxHeartbeats 2000000
/-! VL10: ==, in, subscripts, slices, the built-in calls -/
namespace VL
open PySem PySem.Spec L2

/-! ### == -/
mutual
def py : D → Option PyData
  | .non => some .none
  | .bl b => some (.bool b)
  | .int i => some (.int i)
  | .str x => some (.str x)
  | .tup xs => (pys xs).map .tuple
  | .ktp xs => (pys xs).map .tuple
  | .lst xs => (pys xs).map .list
  | .scr ns => some (.list (ns.map .int))
  | .dic _ _ => none
  | .ins _ _ => none
  | .fn _ => none
def pys : List D → Option (List PyData)
  | [] => some []
  | d :: ds => (py d).bind fun p => (pys ds).map (p :: ·)
end
theorem dp_ints {K : PySem.W.Frag} {H : Hp} : ∀ ns : List Int, DpAll K H (ns.map V.int) (ns.map PyData.int)
  | [] => .nil
  | n :: ns => .cons (.int n) (dp_ints ns)
mutual
theorem dp_of {T : Tb} {H : Hp} : ∀ {d : D} {v : V} {p : PyData}, Rep T H v d → py d = some p → Dp T.K H v p
  | .non, _, _, .non, h => by cases h; exact .non
  | .bl b, _, _, .bl _, h => by cases h; exact .bl b
  | .int i, _, _, .int _, h => by cases h; exact .int i
  | .str x, _, _, .str _, h => by cases h; exact .str x
  | .tup xs, _, p, .tup e r, h => by
    have h' : (pys xs).map PyData.tuple = some p := h
    cases hp : pys xs with
    | none =>
      rw [hp] at h'
      cases h'
    | some q =>
      rw [hp] at h'
      cases h'
      exact .tup (.inl (.inl e)) (dps_of r hp)
  | .ktp xs, _, p, .ktp e r, h => by
    have h' : (pys xs).map PyData.tuple = some p := h
    cases hp : pys xs with
    | none =>
      rw [hp] at h'
      cases h'
    | some q =>
      rw [hp] at h'
      cases h'
      exact .tup e (dps_of r hp)
  | .lst xs, _, p, .lst e r, h => by
    have h' : (pys xs).map PyData.list = some p := h
    cases hp : pys xs with
    | none =>
      rw [hp] at h'
      cases h'
    | some q =>
      rw [hp] at h'
      cases h'
      exact .lst (.inl (.inl e)) (dps_of r hp)
  | .scr ns, _, p, .scr e, h => by
    cases h
    exact .lst e (dp_ints ns)
  | .dic _ _, _, _, _, h => by cases h
  | .ins _ _, _, _, _, h => by cases h
  | .fn _, _, _, _, h => by cases h
theorem dps_of {T : Tb} {H : Hp} : ∀ {d : List D} {v : List V} {p : List PyData}, Reps T H v d → pys d = some p → DpAll T.K H v p
  | [], _, p, .nil, h => by cases h; exact .nil
  | d :: ds, _, p, .cons r rs, h => by
    have h' : ((py d).bind fun p => (pys ds).map (p :: ·)) = some p := h
    cases hp : py d with
    | none =>
      rw [hp] at h'
      cases h'
    | some q =>
      cases hq : pys ds with
      | none =>
        rw [hp, hq] at h'
        cases h'
      | some qs =>
        rw [hp, hq] at h'
        cases h'
        exact .cons (dp_of r hp) (dps_of rs hq)
end
section
variable {T : Tb}
/-- texts and whole numbers, as they are -/
def eqS : D → D → Option Bool
  | .str a, .str b => some (decide (a = b))
  | .int a, .int b => some (decide (a = b))
  | .bl a, .bl b => some (decide (a = b))
  | .non, .non => some true
  | .non, .str _ => some false
  | .str _, .non => some false
  | .non, .int _ => some false
  | .int _, .non => some false
  | .int _, .str _ => some false
  | .str _, .int _ => some false
  | _, _ => none
def eqP (a b : D) : Option Bool := (py a).bind fun p => (py b).bind fun q => if SeqAt.shaped p = true ∧ SeqAt.shaped q = true then some (PyData.eqv p q) else none
def eqB (a b : D) : Option Bool := (eqS a b).or (eqP a b)
def eqD (a b : D) : Option D := (eqB a b).map .bl
def neD (a b : D) : Option D := (eqB a b).map fun b => .bl (!b)
theorem eqS_of {G H : Hp} {x y : V} {a b : D} {r : Bool} (s : Same G H) (rx : RepW T G H x a) (ry : RepW T G H y b) (e : eqS a b = some r) : scal x y = true ∧ decide (x = y) = r := by
  unfold eqS at e
  split at e
  · have h1 := rx.strV s
    have h2 := ry.strV s
    subst h1 h2
    cases e
    exact ⟨rfl, by simp⟩
  · have h1 := rx.intV s
    have h2 := ry.intV s
    subst h1 h2
    cases e
    exact ⟨rfl, by simp⟩
  · have h1 := rx.blV s
    have h2 := ry.blV s
    subst h1 h2
    cases e
    exact ⟨rfl, by simp⟩
  · have h1 := rx.nonV s
    have h2 := ry.nonV s
    subst h1 h2
    cases e
    exact ⟨rfl, by simp⟩
  · have h1 := rx.nonV s
    have h2 := ry.strV s
    subst h1 h2
    cases e
    exact ⟨rfl, by simp⟩
  · have h1 := rx.strV s
    have h2 := ry.nonV s
    subst h1 h2
    cases e
    exact ⟨rfl, by simp⟩
  · have h1 := rx.nonV s
    have h2 := ry.intV s
    subst h1 h2
    cases e
    exact ⟨rfl, by simp⟩
  · have h1 := rx.intV s
    have h2 := ry.nonV s
    subst h1 h2
    cases e
    exact ⟨rfl, by simp⟩
  · have h1 := rx.intV s
    have h2 := ry.strV s
    subst h1 h2
    cases e
    exact ⟨rfl, by simp⟩
  · have h1 := rx.strV s
    have h2 := ry.intV s
    subst h1 h2
    cases e
    exact ⟨rfl, by simp⟩
  · cases e
theorem eqP_of {G H : Hp} {x y : V} {a b : D} {r : Bool} (s : Same G H) (rx : RepW T G H x a) (ry : RepW T G H y b) (e : eqP a b = some r) : ∃ p q, Dp T.K H x p ∧ Dp T.K H y q ∧ SeqAt.shaped p = true ∧ SeqAt.shaped q = true ∧ PyData.eqv p q = r := by
  unfold eqP at e
  cases hp : py a with
  | none =>
    rw [hp] at e
    cases e
  | some p =>
    cases hq : py b with
    | none =>
      rw [hp, hq] at e
      cases e
    | some q =>
      rw [hp, hq] at e
      simp only [Option.bind_some] at e
      split at e
      · rename_i h
        cases e
        exact ⟨p, q, dp_of (rx.rep s) hp, dp_of (ry.rep s) hq, h.1, h.2, rfl⟩
      · cases e
def rEqA (K : PySem.W.Frag) : R2 := fun x y H Q => rEq x y H Q ∨ rEqD K x y H Q
def rNeA (K : PySem.W.Frag) : R2 := fun x y H Q => rNe x y H Q ∨ rNeD K x y H Q
theorem opd_eq : OpD T (rEqA T.K) .st eqD := by
  refine opd_val fun G H x y a b z Q s rx ry e hq => ?_
  unfold eqD eqB at e
  cases h1 : eqS a b with
  | some r =>
    rw [h1] at e
    cases e
    obtain ⟨k1, k2⟩ := eqS_of s rx ry h1
    exact .inl ⟨k1, by rw [k2]; exact hq _ (.bl _)⟩
  | none =>
    rw [h1, Option.none_or] at e
    cases h2 : eqP a b with
    | none =>
      rw [h2] at e
      cases e
    | some r =>
      rw [h2] at e
      cases e
      obtain ⟨p, q, k1, k2, k3, k4, k5⟩ := eqP_of s rx ry h2
      exact .inr ⟨p, q, k1, k2, k3, k4, by rw [k5]; exact hq _ (.bl _)⟩
theorem opd_ne : OpD T (rNeA T.K) .st neD := by
  refine opd_val fun G H x y a b z Q s rx ry e hq => ?_
  unfold neD eqB at e
  cases h1 : eqS a b with
  | some r =>
    rw [h1] at e
    cases e
    obtain ⟨k1, k2⟩ := eqS_of s rx ry h1
    exact .inl ⟨k1, by rw [k2]; exact hq _ (.bl _)⟩
  | none =>
    rw [h1, Option.none_or] at e
    cases h2 : eqP a b with
    | none =>
      rw [h2] at e
      cases e
    | some r =>
      rw [h2] at e
      cases e
      obtain ⟨p, q, k1, k2, k3, k4, k5⟩ := eqP_of s rx ry h2
      exact .inr ⟨p, q, k1, k2, k3, k4, by rw [k5]; exact hq _ (.bl _)⟩
theorem opr_eq {X : Cx} (hu : X.A.units + 64 < cLine) : OpR X (compareOp .Eq) (rEqA X.K) := op_eq.or (op_eqD hu)
theorem opr_ne {X : Cx} (hu : X.A.units + 64 < cLine) : OpR X (compareOp .NotEq) (rNeA X.K) := op_ne.or (op_neD hu)

/-! ### in -/
/-- the datum's items -/
def itemsD : D → Option (List D)
  | .lst ds => some ds
  | .tup ds => some ds
  | .ktp ds => some ds
  | .scr ns => some (ns.map .int)
  | _ => none
def flV : D → Option V
  | .non => some .non
  | .bl b => some (.bl b)
  | .int i => some (.int i)
  | .str x => some (.str x)
  | _ => none
def flVs : List D → Option (List V)
  | [] => some []
  | d :: ds => (flV d).bind fun v => (flVs ds).map (v :: ·)
theorem flV_of {H : Hp} {v : V} {d : D} {u : V} (r : Rep T H v d) (e : flV d = some u) : v = u ∧ flatV v = true := by
  cases r <;> first | (cases e; exact ⟨rfl, rfl⟩) | cases e
theorem flVs_of {H : Hp} : ∀ {vs : List V} {ds : List D} {us : List V}, Reps T H vs ds → flVs ds = some us → vs = us ∧ vs.all flatV = true
  | [], [], us, _, e => by
    cases e
    exact ⟨rfl, rfl⟩
  | _, d :: ds, us, .cons r rs, e => by
    have e' : ((flV d).bind fun v => (flVs ds).map (v :: ·)) = some us := e
    cases h1 : flV d with
    | none =>
      rw [h1] at e'
      cases e'
    | some u =>
      cases h2 : flVs ds with
      | none =>
        rw [h1, h2] at e'
        cases e'
      | some us' =>
        rw [h1, h2] at e'
        cases e'
        obtain ⟨a1, a2⟩ := flV_of r h1
        obtain ⟨b1, b2⟩ := flVs_of rs h2
        subst a1 b1
        exact ⟨rfl, by simp only [List.all_cons, a2, b2, Bool.and_self]⟩
def inF (a b : D) : Option Bool := (itemsD b).bind fun ds => (flV a).bind fun v => (flVs ds).map fun vs => inV v vs
def inS : D → D → Option Bool
  | .str a, .str b => some (!(Builtin.Str.occurrences b a 0 b.length 1).isEmpty)
  | _, _ => none
def inP : D → D → Option Bool
  | a, .lst ds => (py a).bind fun p => (pys ds).bind fun ps => if SeqAt.shaped p = true ∧ SeqAt.shaped (.list ps) = true then some (ps.any fun z => PyData.eqv z p) else none
  | _, _ => none
def inB (a b : D) : Option Bool := (inS a b).or ((inF a b).or (inP a b))
def inD (a b : D) : Option D := (inB a b).map .bl
def notInD (a b : D) : Option D := (inB a b).map fun b => .bl (!b)
theorem itemsD_of {d : D} {ds : List D} (e : itemsD d = some ds) : d = .lst ds ∨ d = .tup ds ∨ d = .ktp ds ∨ ∃ ns : List Int, d = .scr ns ∧ ds = ns.map .int := by
  cases d with
  | lst _ => cases e; exact .inl rfl
  | tup _ => cases e; exact .inr (.inl rfl)
  | ktp _ => cases e; exact .inr (.inr (.inl rfl))
  | scr ns => cases e; exact .inr (.inr (.inr ⟨ns, rfl, rfl⟩))
  | _ => cases e
theorem inF_of {G H : Hp} {x y : V} {a b : D} {r : Bool} (s : Same G H) (rx : RepW T G H x a) (ry : RepW T G H y b) (e : inF a b = some r) : ∃ p xs, y = .ref p ∧ (SqL T.K H p xs ∨ SqT T.K H p xs) ∧ flatV x = true ∧ xs.all flatV = true ∧ inV x xs = r := by
  unfold inF at e
  cases h1 : itemsD b with
  | none =>
    rw [h1] at e
    cases e
  | some ds =>
    cases h2 : flV a with
    | none =>
      simp only [h1, h2, Option.bind_some, Option.bind_none] at e
      cases e
    | some v =>
      cases h3 : flVs ds with
      | none =>
        simp only [h1, h2, h3, Option.bind_some, Option.map_none, Option.map_some] at e
        cases e
      | some vs =>
        simp only [h1, h2, h3, Option.bind_some, Option.map_none, Option.map_some] at e
        cases e
        obtain ⟨p, xs, k1, k2, k3⟩ := ry.seq s (itemsD_of h1)
        obtain ⟨a1, a2⟩ := flV_of (rx.rep s) h2
        obtain ⟨b1, b2⟩ := flVs_of k3 h3
        subst a1 b1
        exact ⟨p, xs, k1, k2, a2, b2, rfl⟩
theorem inP_of {G H : Hp} {x y : V} {a b : D} {r : Bool} (s : Same G H) (rx : RepW T G H x a) (ry : RepW T G H y b) (e : inP a b = some r) : ∃ d ds, Dp T.K H x d ∧ Dp T.K H y (.list ds) ∧ SeqAt.shaped d = true ∧ SeqAt.shaped (.list ds) = true ∧ (ds.any fun z => PyData.eqv z d) = r := by
  unfold inP at e
  split at e
  · rename_i ds
    cases hp : py a with
    | none =>
      rw [hp] at e
      cases e
    | some p =>
      cases hq : pys ds with
      | none =>
        rw [hp, hq] at e
        cases e
      | some q =>
        rw [hp, hq] at e
        simp only [Option.bind_some] at e
        split at e
        · rename_i h
          cases e
          exact ⟨p, q, dp_of (rx.rep s) hp, dp_of (d := .lst ds) (ry.rep s) (by show (pys ds).map _ = _; rw [hq]; rfl), h.1, h.2, rfl⟩
        · cases e
  · cases e
def rInS (neg : Bool) : R2 := fun x y H Q => ∃ i j, x = .str i ∧ y = .str j ∧ Q (.bl (if neg then !(!(Builtin.Str.occurrences j i 0 j.length 1).isEmpty) else !(Builtin.Str.occurrences j i 0 j.length 1).isEmpty)) H
def rInA (K : PySem.W.Frag) : R2 := fun x y H Q => (∃ i j, x = .str i ∧ y = .str j ∧ Q (.bl (!(Builtin.Str.occurrences j i 0 j.length 1).isEmpty)) H) ∨ (rIn K false x y H Q ∨ rInD K x y H Q)
def rNotInA (K : PySem.W.Frag) : R2 := fun x y H Q => (∃ i j, x = .str i ∧ y = .str j ∧ Q (.bl (!(!(Builtin.Str.occurrences j i 0 j.length 1).isEmpty))) H) ∨ (rIn K true x y H Q ∨ rNotInD K x y H Q)
theorem opd_in : OpD T (rInA T.K) .st inD := by
  refine opd_val fun G H x y a b z Q s rx ry e hq => ?_
  unfold inD inB at e
  cases h1 : inS a b with
  | some r =>
    rw [h1] at e
    cases e
    unfold inS at h1
    split at h1
    · cases h1
      exact .inl ⟨_, _, rx.strV s, ry.strV s, hq _ (.bl _)⟩
    · cases h1
  | none =>
    rw [h1, Option.none_or] at e
    cases h2 : inF a b with
    | some r =>
      rw [h2] at e
      cases e
      obtain ⟨p, xs, k1, k2, k3, k4, k5⟩ := inF_of s rx ry h2
      exact .inr (.inl ⟨p, xs, k1, k2, k3, k4, by rw [if_neg (by simp), k5]; exact hq _ (.bl _)⟩)
    | none =>
      rw [h2, Option.none_or] at e
      cases h3 : inP a b with
      | none =>
        rw [h3] at e
        cases e
      | some r =>
        rw [h3] at e
        cases e
        obtain ⟨p, q, k1, k2, k3, k4, k5⟩ := inP_of s rx ry h3
        exact .inr (.inr ⟨p, q, k1, k2, k3, k4, by rw [k5]; exact hq _ (.bl _)⟩)
theorem opd_notIn : OpD T (rNotInA T.K) .st notInD := by
  refine opd_val fun G H x y a b z Q s rx ry e hq => ?_
  unfold notInD inB at e
  cases h1 : inS a b with
  | some r =>
    rw [h1] at e
    cases e
    unfold inS at h1
    split at h1
    · cases h1
      exact .inl ⟨_, _, rx.strV s, ry.strV s, hq _ (.bl _)⟩
    · cases h1
  | none =>
    rw [h1, Option.none_or] at e
    cases h2 : inF a b with
    | some r =>
      rw [h2] at e
      cases e
      obtain ⟨p, xs, k1, k2, k3, k4, k5⟩ := inF_of s rx ry h2
      exact .inr (.inl ⟨p, xs, k1, k2, k3, k4, by rw [if_pos rfl, k5]; exact hq _ (.bl _)⟩)
    | none =>
      rw [h2, Option.none_or] at e
      cases h3 : inP a b with
      | none =>
        rw [h3] at e
        cases e
      | some r =>
        rw [h3] at e
        cases e
        obtain ⟨p, q, k1, k2, k3, k4, k5⟩ := inP_of s rx ry h3
        exact .inr (.inr ⟨p, q, k1, k2, k3, k4, by rw [k5]; exact hq _ (.bl _)⟩)
theorem opr_in {X : Cx} (hu : X.A.units + 65 < cLine) : OpR X (compareOp .In) (rInA X.K) := op_in_str.or (op_in_seq.or (op_inD hu))
theorem opr_notIn {X : Cx} (hu : X.A.units + 65 < cLine) : OpR X (compareOp .NotIn) (rNotInA X.K) := op_notIn_str.or (op_notIn_seq.or (op_notInD hu))

/-! ### a[i] -/
def ixD : D → D → Option D
  | .str z, .int i => if z.length ≤ 16777216 then (atI z.cps.toList i).map fun c => .str ⟨#[c]⟩ else none
  | .scr ns, .int i => (atI ns i).map .int
  | .lst ds, .int i => atI ds i
  | .tup ds, .int i => atI ds i
  | _, _ => none
theorem atI_reps {H : Hp} {vs : List V} {ds : List D} {i : Int} {d : D} (r : Reps T H vs ds) (e : atI ds i = some d) : ∃ v, atI vs i = some v ∧ Rep T H v d := by
  unfold atI at e ⊢
  rw [r.length]
  cases h : ixN ds.length i with
  | none =>
    rw [h] at e
    cases e
  | some j =>
    rw [h] at e
    exact r.get e
theorem opd_ix : OpD T (rIx T.K) .st ixD := by
  refine opd_val fun G H x y a b z Q s rx ry e hq => ?_
  unfold ixD at e
  split at e
  · rename_i z i
    split at e
    · rename_i hz
      cases h : atI z.cps.toList i with
      | none =>
        rw [h] at e
        cases e
      | some c =>
        rw [h] at e
        cases e
        exact .inr (.inr ⟨z, i, c, rx.strV s, ry.intV s, by rw [sizeLine_eq]; exact hz, h, hq _ (.str _)⟩)
    · cases e
  · rename_i ns i
    cases h : atI ns i with
    | none =>
      rw [h] at e
      cases e
    | some n =>
      rw [h] at e
      cases e
      obtain ⟨p, h1, h2⟩ := rx.scr s
      have r : Reps T G (ns.map V.int) (ns.map D.int) := reps_ints ns
      obtain ⟨v, k1, k2⟩ := atI_reps (i := i) (d := .int n) r (by
        unfold atI at h ⊢
        rw [List.length_map]
        cases hj : ixN ns.length i with
        | none =>
          rw [hj] at h
          cases h
        | some j =>
          rw [hj] at h
          simp only [Option.bind_some] at h ⊢
          rw [List.getElem?_map, h]
          rfl)
      exact .inl ⟨p, _, i, v, h1, ry.intV s, h2, k1, hq _ k2⟩
  · rename_i ds i
    obtain ⟨p, vs, h1, h2, h3⟩ := rx.lst s
    obtain ⟨v, k1, k2⟩ := atI_reps h3 e
    exact .inl ⟨p, vs, i, v, h1, ry.intV s, .inl (.inl h2), k1, hq _ k2⟩
  · rename_i ds i
    obtain ⟨p, vs, h1, _, h2, h3⟩ := rx.tup s
    obtain ⟨v, k1, k2⟩ := atI_reps h3 e
    exact .inr (.inl ⟨p, vs, i, v, h1, ry.intV s, .inl (.inl h2), k1, hq _ k2⟩)
  · cases e

/-! ### a[i:j] -/
def cutL {α : Type} (xs : List α) (lo hi : Option Int) : List α := (xs.drop (HT.sIx xs.length 0 lo)).take (HT.sIx xs.length xs.length hi - HT.sIx xs.length 0 lo)
theorem Reps.cut {H : Hp} {vs : List V} {ds : List D} (r : Reps T H vs ds) (lo hi : Option Int) : Reps T H (cutV vs lo hi) (cutL ds lo hi) := by
  unfold cutV cutL
  rw [r.length]
  exact (r.drop _).take _
def slD : D → Option Int → Option Int → Option D
  | .str z, lo, hi => if z.length ≤ 16777216 then some (.str (cutS z lo hi)) else none
  | .lst ds, lo, hi => some (.lst (cutL ds lo hi))
  | .tup ds, lo, hi => some (.tup (cutL ds lo hi))
  | _, _, _ => none
def rSlAny (K : PySem.W.Frag) : V → Option Int → Option Int → Hp → VK → Prop := fun x lo hi H Q => rSlS x lo hi H Q ∨ (rSlL K x lo hi H Q ∨ rSlA K x lo hi H Q)
theorem slr_any {X : Cx} : SlR X (rSlAny X.K) := sl_str.or (sl_list.or sl_tupA)
theorem cut_all {α : Type} {xs : List α} {lo hi : Option Int} (h : HT.sIx xs.length 0 lo = 0 ∧ HT.sIx xs.length xs.length hi = xs.length) : cutL xs lo hi = xs := by
  unfold cutL
  rw [h.1, h.2]
  simp
theorem sl_any {io : Io} {m : Am} {G H : Hp} {σ : L2.St} {ρ : Rho} {x : V} {a z : D} {lo hi : Option Int} {Q : VK} (s : SR T io m G H σ ρ) (rx : RepW T G H x a) (e : slD a lo hi = some z)
    (hq : ∀ v G' H', Same G G' → Same H H' → SR T io m G' H' σ ρ → Rep T G' v z → Q v H') : rSlAny T.K x lo hi H Q := by
  unfold slD at e
  split at e
  · rename_i z0
    split at e
    · rename_i hz
      cases e
      exact .inl ⟨z0, rx.strV s.gh, by rw [sizeLine_eq]; exact hz, hq _ G H (Same.refl _) (Same.refl _) s (.str _)⟩
    · cases e
  · rename_i ds
    cases e
    obtain ⟨p, vs, rfl, h2, h3⟩ := rx.lst s.gh
    refine .inr (.inl ⟨p, vs, rfl, .inl (.inl h2), fun l hn => ?_⟩)
    have s2 := s.new (o := .lst (cutV vs lo hi)) hn
    exact hq _ _ _ (same_upd (s.gh.free hn)) (same_upd hn) s2 (.lst upd_same ((h3.cut lo hi).mono (same_upd (s.gh.free hn))))
  · rename_i ds
    cases e
    obtain ⟨p, vs, rfl, g2, h2, h3⟩ := rx.tup s.gh
    refine .inr (.inr ⟨p, vs, rfl, .inl (.inl h2), fun hh => ?_, fun _ l hn => ?_⟩)
    · have hh' : HT.sIx ds.length 0 lo = 0 ∧ HT.sIx ds.length ds.length hi = ds.length := by
        rw [← h3.length]
        exact hh
      rw [cut_all hh'] at hq
      exact hq _ G H (Same.refl _) (Same.refl _) s (.tup g2 h3)
    · have s2 := s.new (o := .tup (cutV vs lo hi)) hn
      exact hq _ _ _ (same_upd (s.gh.free hn)) (same_upd hn) s2 (.tup upd_same ((h3.cut lo hi).mono (same_upd (s.gh.free hn))))
  · cases e
end
/-- a slice's bound -/
def dPart (d : Rho → Ro D) : Rho → Ro (Option Int) := fun ρ => (d ρ).bind fun x ρ1 => match x with
  | .int i => .ok (some i) ρ1
  | _ => .stuck
def dNoPart : Rho → Ro (Option Int) := fun ρ => .ok none ρ
def dSl (da : Rho → Ro D) (dl dh : Rho → Ro (Option Int)) : Rho → Ro D := fun ρ => (da ρ).bind fun x ρ1 => (dl ρ1).bind fun l ρ2 => (dh ρ2).bind fun h ρ3 => Ro.of (slD x l h) ρ3
def tO (c : Cc) (q : Bool) (d : Rho → Ro (Option Int)) : TO := fun σ H Q => ∃ m G ρ, SR c.T c.io m G H σ ρ ∧ Out c m G H σ ρ q (fun _ _ _ x v => x = v) (d ρ) Q
structure DO (c : Cc) (X : Cx) (q : Bool) (e : Option Expr) (d : Rho → Ro (Option Int)) : Prop where
  po : PO X e (tO c q d)
theorem po_imp {X : Cx} {e : Option Expr} {t t' : TO} (h : PO X e t) (i : ∀ σ H Q, t' σ H Q → t σ H Q) : PO X e t' := ⟨fun pins s σ H Q I q => h.run pins s σ H Q I (i _ _ _ q)⟩
section
variable {c : Cc} {X : Cx} {ka : Kd} {qa ql qh q : Bool} {a e : Expr} {lo hi : Option Expr} {da d : Rho → Ro D} {dl dh : Rho → Ro (Option Int)} {pos p2 : Pos}
theorem do_none : DO c X true none dNoPart := ⟨po_imp po_none fun σ H Q ⟨m, G, ρ, s, o⟩ => Out.ret o s rfl⟩
theorem do_some {k : Kd} (h : DE c X k q e d) : DO c X q (some e) (dPart d) := by
  refine ⟨po_imp (po_some h.pe) fun σ H Q ⟨m, G, ρ, s, o⟩ => ⟨m, G, ρ, s, ?_⟩⟩
  refine (Out.bind (out_true o)).imp fun x H1 ⟨G1, ρ1, v, g1, e1, s1, r1, o1⟩ => ?_
  cases v with
  | int i => exact ⟨i, (krep_w s1 r1).intV s1.gh, Out.ret o1 s1 rfl⟩
  | _ => exact o1.elim
theorem de_sl (ha : DE c X ka qa a da) (hl : DO c X ql lo dl) (hh : DO c X qh hi dh) (hK : X.K = c.T.K := by first | rfl | assumption) (hk : ka = .st ∨ (ka = .wk ∧ (ql && qh) = true) := by first | exact Or.inl rfl | exact Or.inr ⟨rfl, rfl⟩) :
    DE c X .st (qa && (ql && qh)) (.Subscript a (.Slice lo hi none p2) pos) (dSl da dl dh) := by
  refine ⟨pe_imp (pe_slice slr_any ha.pe hl.po hh.po) fun σ H Q ⟨m, G, ρ, s, o⟩ => ⟨m, G, ρ, s, ?_⟩⟩
  refine (Out.bind o).imp fun x H1 ⟨G1, ρ1, v, g1, e1, s1, r1, o1⟩ => ⟨m, G1, ρ1, s1, ?_⟩
  refine (Out.bind o1).imp fun l H2 ⟨G2, ρ2, l', g2, e2, s2, r2, o2⟩ => ⟨m, G2, ρ2, s2, ?_⟩
  refine (Out.bind (out_true o2)).imp fun h H3 ⟨G3, ρ3, h', g3, e3, s3, r3, o3⟩ => ?_
  subst r2 r3
  cases hz : slD v l h with
  | none =>
    rw [hz] at o3
    exact o3.elim
  | some z =>
    rw [hz] at o3
    have rw3 : RepW c.T G3 H3 x v := krep_keep (q := ql && qh) hk r1 (g2.trans g3) (fun hq => by
      rw [Bool.and_eq_true] at hq
      obtain ⟨a1, a2⟩ := e2 hq.1
      obtain ⟨b1, b2⟩ := e3 hq.2
      exact ⟨a1.trans b1, b2.trans a2⟩) s3
    rw [hK]
    exact sl_any s3 rw3 hz fun w G' H' g h s' r' => Out.pure o3 g h s' r'
end
end VL

set_option Elab.async false
set_option linter.all false
set_option maxRecDepth 100000
set_option maxHeartbeats 2000000
/-! VL11: dicts; lists changed in place -/
namespace VL
open PySem PySem.Spec L2

/-! ### keys -/
inductive DK where
  | k (x : Key)
  | t (x : List Key)
  deriving DecidableEq
def key1 : D → Option Key
  | .int i => some (.inl i)
  | .str x => some (.inr x)
  | _ => none
def keys1 : List D → Option (List Key)
  | [] => some []
  | d :: ds => (key1 d).bind fun x => (keys1 ds).map (x :: ·)
def dkey : D → Option DK
  | .int i => some (.k (.inl i))
  | .str x => some (.k (.inr x))
  | .tup ds => (keys1 ds).map .t
  | _ => none
def getDk (ds : List (D × D)) (k : DK) : Option D := (ds.find? fun kv => decide (dkey kv.1 = some k)).map (·.2)
def putDk (ds : List (D × D)) (k : DK) (kd v : D) : List (D × D) :=
  if (ds.any fun kv => decide (dkey kv.1 = some k)) = true then ds.map (fun kv => if dkey kv.1 = some k then (kv.1, v) else kv) else ds ++ [(kd, v)]
@[simp] theorem dkey_keyD (k : Key) : dkey (keyD k) = some (.k k) := by cases k <;> rfl
@[simp] theorem key1_keyD (k : Key) : key1 (keyD k) = some k := by cases k <;> rfl
@[simp] theorem keys1_map (ks : List Key) : keys1 (ks.map keyD) = some ks := by
  induction ks with
  | nil => rfl
  | cons k ks ih => simp [keys1, ih]
@[simp] theorem dkey_tup (ks : List Key) : dkey (.tup (ks.map keyD)) = some (.t ks) := by simp [dkey]
section
variable {T : Tb} {H : Hp}
theorem key1_of {v : V} {d : D} {k : Key} (r : Rep T H v d) (e : key1 d = some k) : v = kV k ∧ d = keyD k := by
  cases r with
  | int i =>
    cases e
    exact ⟨rfl, rfl⟩
  | str x =>
    cases e
    exact ⟨rfl, rfl⟩
  | _ => cases e
theorem keys1_of : ∀ {vs : List V} {ds : List D} {ks : List Key}, Reps T H vs ds → keys1 ds = some ks → vs = ks.map kV ∧ ds = ks.map keyD
  | [], [], ks, _, e => by
    cases e
    exact ⟨rfl, rfl⟩
  | _, d :: ds, ks, .cons r rs, e => by
    have e' : ((key1 d).bind fun x => (keys1 ds).map (x :: ·)) = some ks := e
    cases h1 : key1 d with
    | none =>
      rw [h1] at e'
      cases e'
    | some u =>
      cases h2 : keys1 ds with
      | none =>
        simp only [h1, h2, Option.bind_some, Option.map_none] at e'
        cases e'
      | some us =>
        simp only [h1, h2, Option.bind_some, Option.map_some] at e'
        cases e'
        obtain ⟨a1, a2⟩ := key1_of r h1
        obtain ⟨b1, b2⟩ := keys1_of rs h2
        exact ⟨by rw [a1, b1]; rfl, by rw [a2, b2]; rfl⟩
theorem key1_dkey {d : D} {k : Key} (e : dkey d = some (.k k)) : key1 d = some k := by
  cases d with
  | int i =>
    cases e
    rfl
  | str i =>
    cases e
    rfl
  | tup ds =>
    have e' : (keys1 ds).map DK.t = some (.k k) := e
    cases h : keys1 ds <;> rw [h] at e' <;> cases e'
  | _ => simp [dkey] at e
theorem tup_dkey {d : D} {k : List Key} (e : dkey d = some (.t k)) : ∃ ds, d = .tup ds ∧ keys1 ds = some k := by
  cases d with
  | tup ds =>
    have e' : (keys1 ds).map DK.t = some (.t k) := e
    cases h : keys1 ds with
    | none =>
      rw [h] at e'
      cases e'
    | some q =>
      rw [h] at e'
      cases e'
      exact ⟨ds, rfl, h⟩
  | _ => simp [dkey] at e
/-! looking a key up -/
theorem KReps.get (k : Key) : ∀ {ks : List (Key × V)} {ds : List (D × D)}, KReps T H ks ds → (∀ d, getDk ds (.k k) = some d → ∃ v, valV ks k = some v ∧ Rep T H v d) ∧ (getDk ds (.k k) = none → valV ks k = none)
  | [], [], .nil => ⟨(fun d e => nomatch e), (fun _ => rfl)⟩
  | (k', v) :: ks, (_, d) :: ds, .cons r rs => by
    by_cases h : k' = k
    · subst h
      have e1 : valV ((k', v) :: ks) k' = some v := valV_pos rfl
      have e2 : getDk ((keyD k', d) :: ds) (.k k') = some d := by simp [getDk, List.find?_cons]
      rw [e1, e2]
      exact ⟨fun d' e => by cases e; exact ⟨v, rfl, r⟩, fun e => by cases e⟩
    · have e1 : valV ((k', v) :: ks) k = valV ks k := valV_neg h
      have e2 : getDk ((keyD k', d) :: ds) (.k k) = getDk ds (.k k) := by simp [getDk, List.find?_cons, h]
      rw [e1, e2]
      exact KReps.get k rs
theorem TReps.get (k : List Key) : ∀ {ks : List (List Key × V)} {ds : List (D × D)}, TReps T H ks ds → (∀ d, getDk ds (.t k) = some d → ∃ v, valV ks k = some v ∧ Rep T H v d) ∧ (getDk ds (.t k) = none → valV ks k = none)
  | [], [], .nil => ⟨(fun d e => nomatch e), (fun _ => rfl)⟩
  | (k', v) :: ks, (_, d) :: ds, .cons r rs => by
    by_cases h : k' = k
    · subst h
      have e1 : valV ((k', v) :: ks) k' = some v := valV_pos rfl
      have e2 : getDk ((.tup (k'.map keyD), d) :: ds) (.t k') = some d := by simp [getDk, List.find?_cons]
      rw [e1, e2]
      exact ⟨fun d' e => by cases e; exact ⟨v, rfl, r⟩, fun e => by cases e⟩
    · have e1 : valV ((k', v) :: ks) k = valV ks k := valV_neg h
      have e2 : getDk ((.tup (k'.map keyD), d) :: ds) (.t k) = getDk ds (.t k) := by simp [getDk, List.find?_cons, h]
      rw [e1, e2]
      exact TReps.get k rs
theorem KReps.append : ∀ {a b : List (Key × V)} {c d : List (D × D)}, KReps T H a c → KReps T H b d → KReps T H (a ++ b) (c ++ d)
  | _, _, _, _, .nil, s => s
  | _, _, _, _, .cons r rs, s => .cons r (KReps.append rs s)
theorem TReps.append : ∀ {a b : List (List Key × V)} {c d : List (D × D)}, TReps T H a c → TReps T H b d → TReps T H (a ++ b) (c ++ d)
  | _, _, _, _, .nil, s => s
  | _, _, _, _, .cons r rs, s => .cons r (TReps.append rs s)
theorem KReps.length : ∀ {a : List (Key × V)} {c : List (D × D)}, KReps T H a c → a.length = c.length
  | _, _, .nil => rfl
  | _, _, .cons _ rs => by simp [KReps.length rs]
theorem TReps.length : ∀ {a : List (List Key × V)} {c : List (D × D)}, TReps T H a c → a.length = c.length
  | _, _, .nil => rfl
  | _, _, .cons _ rs => by simp [TReps.length rs]
theorem KReps.any (k : Key) : ∀ {ks : List (Key × V)} {ds : List (D × D)}, KReps T H ks ds → (ks.any fun kv => decide (kv.1 = k)) = ds.any fun kv => decide (dkey kv.1 = some (.k k))
  | [], [], .nil => rfl
  | (k', v) :: ks, (_, d) :: ds, .cons r rs => by simp [KReps.any k rs]
theorem TReps.any (k : List Key) : ∀ {ks : List (List Key × V)} {ds : List (D × D)}, TReps T H ks ds → (ks.any fun kv => decide (kv.1 = k)) = ds.any fun kv => decide (dkey kv.1 = some (.t k))
  | [], [], .nil => rfl
  | (k', v) :: ks, (_, d) :: ds, .cons r rs => by simp [TReps.any k rs]
theorem KReps.mapset {v : V} {d : D} (k : Key) (rv : Rep T H v d) : ∀ {ks : List (Key × V)} {ds : List (D × D)}, KReps T H ks ds → KReps T H (ks.map fun kv => if kv.1 = k then (kv.1, v) else kv) (ds.map fun kv => if dkey kv.1 = some (.k k) then (kv.1, d) else kv)
  | [], [], .nil => .nil
  | (k', v') :: ks, (_, d') :: ds, .cons r rs => by
    by_cases h : k' = k
    · subst h
      simp only [List.map_cons, dkey_keyD, if_true]
      exact .cons rv (KReps.mapset k' rv rs)
    · have h2 : ¬ dkey (keyD k') = some (.k k) := by simp [h]
      simp only [List.map_cons, if_neg h, if_neg h2]
      exact .cons r (KReps.mapset k rv rs)
theorem TReps.mapset {v : V} {d : D} (k : List Key) (rv : Rep T H v d) : ∀ {ks : List (List Key × V)} {ds : List (D × D)}, TReps T H ks ds → TReps T H (ks.map fun kv => if kv.1 = k then (kv.1, v) else kv) (ds.map fun kv => if dkey kv.1 = some (.t k) then (kv.1, d) else kv)
  | [], [], .nil => .nil
  | (k', v') :: ks, (_, d') :: ds, .cons r rs => by
    by_cases h : k' = k
    · subst h
      simp only [List.map_cons, dkey_tup, if_true]
      exact .cons rv (TReps.mapset k' rv rs)
    · have h2 : ¬ dkey (.tup (k'.map keyD)) = some (.t k) := by simp [h]
      simp only [List.map_cons, if_neg h, if_neg h2]
      exact .cons r (TReps.mapset k rv rs)
theorem KReps.put {ks : List (Key × V)} {ds : List (D × D)} {v : V} {d : D} (k : Key) (r : KReps T H ks ds) (rv : Rep T H v d) : KReps T H (putK ks k v) (putDk ds (.k k) (keyD k) d) := by
  unfold putK putDk
  rw [r.any k]
  split
  · exact r.mapset k rv
  · exact r.append (.cons rv .nil)
theorem TReps.put {ks : List (List Key × V)} {ds : List (D × D)} {v : V} {d : D} (k : List Key) (r : TReps T H ks ds) (rv : Rep T H v d) : TReps T H (putK ks k v) (putDk ds (.t k) (.tup (k.map keyD)) d) := by
  unfold putK putDk
  rw [r.any k]
  split
  · exact r.mapset k rv
  · exact r.append (.cons rv .nil)
end

/-! ### d[k], k in d -/
def kindOk : Bool → DK → Bool
  | false, .k _ => true
  | true, .t _ => true
  | _, _ => false
/-- what d has at k -/
def lookD (a b : D) : Option (Option D) := match a with
  | .dic t ds => (dkey b).bind fun k => if kindOk t k = true then some (getDk ds k) else none
  | _ => none
def LookR (T : Tb) (G : Hp) : Option D → Option V → Prop
  | some d, ov => ∃ v, ov = some v ∧ Rep T G v d
  | none, ov => ov = none
theorem look_of {T : Tb} {G H : Hp} {x y : V} {a b : D} {o : Option D} (s : Same G H) (rx : RepW T G H x a) (ry : RepW T G H y b) (e : lookD a b = some o) : ∃ p ov, x = .ref p ∧ DGet H p y ov ∧ LookR T G o ov := by
  unfold lookD at e
  split at e
  · rename_i t ds
    cases hk : dkey b with
    | none =>
      rw [hk] at e
      cases e
    | some k =>
      rw [hk] at e
      simp only [Option.bind_some] at e
      split at e
      · rename_i hkind
        cases e
        have ry' : Rep T H y b := ry.rep s
        cases t with
        | false =>
          cases k with
          | t _ => cases hkind
          | k k =>
            obtain ⟨hy, hb⟩ := key1_of ry' (key1_dkey hk)
            obtain ⟨p, ks, hp, hg⟩ : ∃ p ks, x = .ref p ∧ H p = some (.dK ks) ∧ KReps T G ks ds := by
              rcases rx with r | ⟨p, hp, _, ks, h1, h2⟩
              · cases r with
                | dik h1 h2 => exact ⟨_, _, rfl, s _ _ h1, h2⟩
              · exact ⟨p, ks, hp, h1, h2⟩
            have g := KReps.get k hg.2
            refine ⟨p, valV ks k, hp, .inl ⟨ks, k, .inl hg.1, hy, rfl⟩, ?_⟩
            cases hgd : getDk ds (.k k) with
            | none => exact g.2 hgd
            | some d => exact g.1 d hgd
        | true =>
          cases k with
          | k _ => cases hkind
          | t k =>
            obtain ⟨es, he, hk2⟩ := tup_dkey hk
            subst he
            obtain ⟨p, ks, hp, hg⟩ : ∃ p ks, x = .ref p ∧ H p = some (.dT ks) ∧ TReps T G ks ds := by
              rcases rx with r | ⟨p, hp, _, ks, h1, h2⟩
              · cases r with
                | dit h1 h2 => exact ⟨_, _, rfl, s _ _ h1, h2⟩
              · exact ⟨p, ks, hp, h1, h2⟩
            cases ry' with
            | @tup q us _ hq rs =>
              obtain ⟨hu, _⟩ := keys1_of rs hk2
              subst hu
              have g := TReps.get k hg.2
              refine ⟨p, valV ks k, hp, .inr ⟨ks, k, q, .inl hg.1, rfl, hq, rfl⟩, ?_⟩
              cases hgd : getDk ds (.t k) with
              | none => exact g.2 hgd
              | some d => exact g.1 d hgd
      · cases e
  · cases e
def rIxDc : R2 := fun x y H Q => ∃ a v, x = .ref a ∧ DGet H a y (some v) ∧ Q v H
theorem ixr_dc {X : Cx} (hu : X.A.units + 1 < cLine) : IxR X rIxDc := by
  intro value slice pins s σ H x y v u Q I rx ry h hs
  obtain ⟨a, z, rfl, g, q⟩ := h
  obtain rfl : v = Value.ref a := rx
  exact PyProof.Rows.tail_any (dict_typeIs I g) PySem.F.slot_dict_getitem.lookup (d_getItem hu I g ry fun w' s3 I3 rw' => ⟨z, H, I3, rw', q⟩) hs
section
variable {T : Tb}
def dixD (a b : D) : Option D := (lookD a b).bind id
theorem opd_dix : OpD T rIxDc .st dixD := by
  refine opd_val fun G H x y a b z Q s rx ry e hq => ?_
  unfold dixD at e
  cases hl : lookD a b with
  | none =>
    rw [hl] at e
    cases e
  | some o =>
    rw [hl] at e
    have e' : o = some z := e
    subst e'
    obtain ⟨p, ov, hp, g, v, hv, r⟩ := look_of s rx ry hl
    subst hv
    exact ⟨p, v, hp, g, hq _ r⟩
/-- a[b] of any of these -/
def subsD (a b : D) : Option D := (ixD a b).or (dixD a b)
def rSubs (K : PySem.W.Frag) : R2 := fun x y H Q => rIx K x y H Q ∨ rIxDc x y H Q
theorem opd_subs : OpD T (rSubs T.K) .st subsD := opd_ix.or opd_dix
theorem ixr_subs {X : Cx} (hu : X.A.units + 1 < cLine) : IxR X (rSubs X.K) := ix_seq.or (ixr_dc hu)
def rInDc (neg : Bool) : R2 := fun x y H Q => ∃ a o, y = .ref a ∧ DGet H a x o ∧ Q (.bl (if neg then !o.isSome else o.isSome)) H
theorem opr_inDc {X : Cx} (hu : X.A.units + 1 < cLine) : OpR X (compareOp .In) (rInDc false) := by
  intro pins s σ H x y v u Q I rx ry h
  obtain ⟨a, o, rfl, g, q⟩ := h
  obtain rfl : u = Value.ref a := ry
  exact d_in hu I g rx fun s3 I3 => ⟨.bl o.isSome, H, I3, rfl, q⟩
theorem opr_notInDc {X : Cx} (hu : X.A.units + 1 < cLine) : OpR X (compareOp .NotIn) (rInDc true) := by
  intro pins s σ H x y v u Q I rx ry h
  obtain ⟨a, o, rfl, g, q⟩ := h
  obtain rfl : u = Value.ref a := ry
  exact d_notIn hu I g rx fun s3 I3 => ⟨.bl (!o.isSome), H, I3, rfl, q⟩
def inDc (neg : Bool) (a b : D) : Option D := (lookD b a).map fun o => .bl (if neg then !o.isSome else o.isSome)
theorem opd_inDc (neg : Bool) : OpD T (rInDc neg) .st (inDc neg) := by
  refine opd_val fun G H x y a b z Q s rx ry e hq => ?_
  unfold inDc at e
  cases hl : lookD b a with
  | none =>
    rw [hl] at e
    cases e
  | some o =>
    rw [hl] at e
    cases e
    obtain ⟨p, ov, hp, g, r⟩ := look_of s ry rx hl
    refine ⟨p, ov, hp, g, ?_⟩
    have : ov.isSome = o.isSome := by
      cases o with
      | none =>
        have r' : ov = none := r
        rw [r'] <;> rfl
      | some d =>
        obtain ⟨v, hv, _⟩ := r
        rw [hv] <;> rfl
    rw [this]
    exact hq _ (.bl _)
/-- a in b, any -/
def inAny (a b : D) : Option D := (inD a b).or (inDc false a b)
def notInAny (a b : D) : Option D := (notInD a b).or (inDc true a b)
def rInAny (K : PySem.W.Frag) : R2 := fun x y H Q => rInA K x y H Q ∨ rInDc false x y H Q
def rNotInAny (K : PySem.W.Frag) : R2 := fun x y H Q => rNotInA K x y H Q ∨ rInDc true x y H Q
theorem opd_inAny : OpD T (rInAny T.K) .st inAny := opd_in.or (opd_inDc false)
theorem opd_notInAny : OpD T (rNotInAny T.K) .st notInAny := opd_notIn.or (opd_inDc true)
theorem opr_inAny {X : Cx} (hu : X.A.units + 65 < cLine) : OpR X (compareOp .In) (rInAny X.K) := (opr_in hu).or (opr_inDc (by omega))
theorem opr_notInAny {X : Cx} (hu : X.A.units + 65 < cLine) : OpR X (compareOp .NotIn) (rNotInAny X.K) := (opr_notIn hu).or (opr_notInDc (by omega))
end
end VL

set_option Elab.async false
set_option linter.all false
set_option maxRecDepth 100000
set_option maxHeartbeats 2000000
/-! VL12: built-in calls, methods, changes in place -/
namespace VL
open PySem PySem.Spec L2

section
variable {T : Tb}
/-! ### len, int, str, list, tuple -/
def lenD : D → Option D
  | .str z => if z.length ≤ 16777216 then some (.int z.length) else none
  | .lst ds => some (.int ds.length)
  | .tup ds => some (.int ds.length)
  | .ktp ds => some (.int ds.length)
  | .scr ns => some (.int ns.length)
  | _ => none
def rLenA (K : PySem.W.Frag) : List V → Hp → VK → Prop := fun xs H Q => ∃ x n, xs = [x] ∧ LenV K x H n ∧ Q (.int n) H
theorem c1_len : Call1D T (rLenA T.K) .st lenD := by
  refine c1_val fun G H x a z Q s rx e hq => ?_
  unfold lenD at e
  split at e
  · rename_i z
    split at e
    · rename_i hz
      cases e
      have hx := rx.strV s
      subst hx
      exact ⟨.str z, z.length, rfl, ⟨by rw [sizeLine_eq]; exact hz, rfl⟩, hq _ (.int _)⟩
    · cases e
  · rename_i ds
    cases e
    obtain ⟨p, vs, rfl, h2, h3⟩ := rx.lst s
    exact ⟨_, vs.length, rfl, .inl ⟨vs, .inl (.inl h2), rfl⟩, by rw [h3.length]; exact hq _ (.int _)⟩
  · rename_i ds
    cases e
    obtain ⟨p, vs, rfl, _, h2, h3⟩ := rx.tup s
    exact ⟨_, vs.length, rfl, .inr ⟨vs, .inl (.inl h2), rfl⟩, by rw [h3.length]; exact hq _ (.int _)⟩
  · rename_i ds
    cases e
    obtain ⟨p, vs, rfl, h2, h3⟩ := rx.ktp s
    exact ⟨_, vs.length, rfl, .inr ⟨vs, h2, rfl⟩, by rw [h3.length]; exact hq _ (.int _)⟩
  · rename_i ns
    cases e
    obtain ⟨p, rfl, h2⟩ := rx.scr s
    exact ⟨_, ns.length, rfl, .inl ⟨_, h2, by rw [List.length_map]⟩, hq _ (.int _)⟩
  · cases e
def intD : D → Option D
  | .int i => some (.int i)
  | .bl k => some (.int (if k then 1 else 0))
  | _ => none
theorem c1_int : Call1D T (fun xs H Q => (∃ i, xs = [.int i] ∧ Q (.int i) H) ∨ ∃ k, xs = [.bl k] ∧ Q (.int (if k then 1 else 0)) H) .st intD := by
  refine c1_val fun G H x a z Q s rx e hq => ?_
  unfold intD at e
  split at e
  · cases e
    exact .inl ⟨_, by rw [rx.intV s], hq _ (.int _)⟩
  · cases e
    exact .inr ⟨_, by rw [rx.blV s], hq _ (.int _)⟩
  · cases e
def strD : D → Option D
  | .int i => if i.natAbs.log2 < 1920 then some (.str (toString i)) else none
  | _ => none
theorem c1_str : Call1D T (fun xs H Q => ∃ i, xs = [.int i] ∧ i.natAbs.log2 < 1920 ∧ Q (.str (toString i)) H) .st strD := by
  refine c1_val fun G H x a z Q s rx e hq => ?_
  unfold strD at e
  split at e
  · split at e
    · rename_i h
      cases e
      exact ⟨_, by rw [rx.intV s], h, hq _ (.str _)⟩
    · cases e
  · cases e
/-- list(x): a new list -/
def listD (a : D) : Option D := (itemsD a).map .lst
def rListOf (K : PySem.W.Frag) : List V → Hp → VK → Prop := fun xs H Q => ∃ p ys, xs = [.ref p] ∧ (SqL K H p ys ∨ SqT K H p ys) ∧ ∀ l, H l = none → Q (.ref l) (upd H l (.lst ys))
theorem c1_list : Call1D T (rListOf T.K) .fr listD := by
  intro io m G H σ ρ x a z Q s rx e hq
  unfold listD at e
  cases hi : itemsD a with
  | none =>
    rw [hi] at e
    cases e
  | some ds =>
    rw [hi] at e
    cases e
    obtain ⟨p, vs, rfl, h1, h2⟩ := rx.seq s.gh (itemsD_of hi)
    exact ⟨p, vs, rfl, h1, fun l hn => hq _ G _ (Same.refl _) (same_upd hn) (s.alloc hn) ⟨l, rfl, s.fre hn ⟨_, upd_same, h2⟩⟩⟩
/-- tuple(x) -/
def tupleD : D → Option D
  | .tup ds => some (.tup ds)
  | .lst ds => some (.tup ds)
  | .scr ns => some (.tup (ns.map .int))
  | _ => none
def rTupOf (K : PySem.W.Frag) : List V → Hp → VK → Prop := fun xs H Q => ∃ p ys, xs = [.ref p] ∧ ((SqL K H p ys ∧ ∀ l, H l = none → Q (.ref l) (upd H l (.tup ys))) ∨ (SqT K H p ys ∧ Q (.ref p) H))
theorem c1_tuple : Call1D T (rTupOf T.K) .st tupleD := by
  intro io m G H σ ρ x a z Q s rx e hq
  have lay : ∀ {vs : List V} {ds : List D} (l : Addr), Reps T G vs ds → z = .tup ds → H l = none → Q (.ref l) (upd H l (.tup vs)) := fun {vs ds} l r hz hn => by
    subst hz
    exact hq _ _ _ (same_upd (s.gh.free hn)) (same_upd hn) (s.new hn) (.tup upd_same (r.mono (same_upd (s.gh.free hn))))
  unfold tupleD at e
  split at e
  · cases e
    obtain ⟨p, vs, rfl, g2, h2, h3⟩ := rx.tup s.gh
    exact ⟨p, vs, rfl, .inr ⟨.inl (.inl h2), hq _ G H (Same.refl _) (Same.refl _) s (.tup g2 h3)⟩⟩
  · cases e
    obtain ⟨p, vs, rfl, h2, h3⟩ := rx.lst s.gh
    exact ⟨p, vs, rfl, .inl ⟨.inl (.inl h2), fun l hn => lay l h3 rfl hn⟩⟩
  · rename_i ns
    cases e
    obtain ⟨p, rfl, h2⟩ := rx.scr s.gh
    exact ⟨p, _, rfl, .inl ⟨h2, fun l hn => lay l (reps_ints ns) rfl hn⟩⟩
  · cases e
/-! all, any of bools -/
def blsD : List D → Option (List Bool)
  | [] => some []
  | d :: ds => (blD d).bind fun b => (blsD ds).map (b :: ·)
theorem blsD_of {H : Hp} : ∀ {vs : List V} {ds : List D} {bs : List Bool}, Reps T H vs ds → blsD ds = some bs → vs = bs.map V.bl
  | [], [], bs, _, e => by
    cases e
    rfl
  | _, d :: ds, bs, .cons r rs, e => by
    have e' : ((blD d).bind fun x => (blsD ds).map (x :: ·)) = some bs := e
    cases h1 : blD d with
    | none =>
      rw [h1] at e'
      cases e'
    | some u =>
      cases h2 : blsD ds with
      | none =>
        simp only [h1, h2, Option.bind_some, Option.map_none] at e'
        cases e'
      | some us =>
        simp only [h1, h2, Option.bind_some, Option.map_some] at e'
        cases e'
        have hd : d = .bl u := by
          cases d <;> first | (cases h1; rfl) | cases h1
        subst hd
        rw [r.blV, blsD_of rs h2] <;> rfl
def allD : D → Option D
  | .lst ds => (blsD ds).map fun bs => .bl (bs.all id)
  | _ => none
def anyD : D → Option D
  | .lst ds => (blsD ds).map fun bs => .bl (bs.any id)
  | _ => none
theorem c1_all : Call1D T (rAll T.K) .st allD := by
  refine c1_val fun G H x a z Q s rx e hq => ?_
  unfold allD at e
  split at e
  · rename_i ds
    cases hb : blsD ds with
    | none =>
      rw [hb] at e
      cases e
    | some bs =>
      rw [hb] at e
      cases e
      obtain ⟨p, vs, rfl, h2, h3⟩ := rx.lst s
      have hv := blsD_of h3 hb
      subst hv
      exact ⟨p, bs, rfl, .inl (.inl h2), hq _ (.bl _)⟩
  · cases e
theorem c1_any : Call1D T (rAny T.K) .st anyD := by
  refine c1_val fun G H x a z Q s rx e hq => ?_
  unfold anyD at e
  split at e
  · rename_i ds
    cases hb : blsD ds with
    | none =>
      rw [hb] at e
      cases e
    | some bs =>
      rw [hb] at e
      cases e
      obtain ⟨p, vs, rfl, h2, h3⟩ := rx.lst s
      have hv := blsD_of h3 hb
      subst hv
      exact ⟨p, bs, rfl, .inl (.inl h2), hq _ (.bl _)⟩
  · cases e
/-! min, max of two -/
def max2D : List D → Option D
  | [.int i, .int j] => some (.int (if j > i then j else i))
  | _ => none
def min2D : List D → Option D
  | [.int i, .int j] => some (.int (if j < i then j else i))
  | _ => none
theorem reps2 {H : Hp} {xs : List V} {a b : D} (r : Reps T H xs [a, b]) : ∃ x y, xs = [x, y] ∧ Rep T H x a ∧ Rep T H y b := by
  cases r with
  | cons r0 r =>
    cases r with
    | cons r1 r =>
      cases r
      exact ⟨_, _, rfl, r0, r1⟩
theorem reps1 {H : Hp} {xs : List V} {a : D} (r : Reps T H xs [a]) : ∃ x, xs = [x] ∧ Rep T H x a := by
  cases r with
  | cons r0 r =>
    cases r
    exact ⟨_, rfl, r0⟩
theorem cd_max2 : CallD T (fun xs H Q => ∃ i j, xs = [.int i, .int j] ∧ Q (.int (if j > i then j else i)) H) .st max2D := by
  intro io m G H σ ρ xs as z Q s rx e hq
  unfold max2D at e
  split at e
  · cases e
    obtain ⟨x, y, rfl, r1, r2⟩ := reps2 rx
    exact ⟨_, _, by rw [r1.intV, r2.intV], hq _ G H (Same.refl _) (Same.refl _) s (.int _)⟩
  · cases e
theorem cd_min2 : CallD T (fun xs H Q => ∃ i j, xs = [.int i, .int j] ∧ Q (.int (if j < i then j else i)) H) .st min2D := by
  intro io m G H σ ρ xs as z Q s rx e hq
  unfold min2D at e
  split at e
  · cases e
    obtain ⟨x, y, rfl, r1, r2⟩ := reps2 rx
    exact ⟨_, _, by rw [r1.intV, r2.intV], hq _ G H (Same.refl _) (Same.refl _) s (.int _)⟩
  · cases e

/-! ### isinstance(x, a built-in type) -/
def tyN : D → Option String
  | .non => some "NoneType"
  | .bl _ => some "bool"
  | .int _ => some "int"
  | .str _ => some "str"
  | .tup _ => some "tuple"
  | .lst _ => some "list"
  | .dic _ _ => some "dict"
  | .ktp _ => some "tuple"
  | .scr _ => some "list"
  | _ => none
def isiD (n : String) (a : D) : Option D := (tyN a).bind fun t => (kitB t n).map .bl
theorem sqL_ty {K : PySem.W.Frag} {H : Hp} {a : Addr} {xs : List V} (h : SqL K H a xs) : TyX K H (.ref a) (.type "list") := by
  rcases h with (h | ⟨o, h⟩) | ⟨o, its, n, h, c, _⟩
  · exact .base (.lst h)
  · exact .base (.frz h)
  · exact .kList h c
theorem sqT_ty {K : PySem.W.Frag} {H : Hp} {a : Addr} {xs : List V} (h : SqT K H a xs) : TyX K H (.ref a) (.type "tuple") := by
  rcases h with (h | ⟨o, h⟩) | ⟨o, its, n, h, c, _⟩
  · exact .base (.tup h)
  · exact .fTuple h
  · exact .kTuple h c
theorem tyN_of {G H : Hp} {x : V} {a : D} {t : String} (s : Same G H) (r : RepW T G H x a) (e : tyN a = some t) : TyX T.K H x (.type t) := by
  have r' := r.rep s
  unfold tyN at e
  split at e <;> first | cases e | skip
  · cases r'; exact .base .non
  · cases r'; exact .base (.bl _)
  · cases r'; exact .base (.int _)
  · cases r'; exact .base (.str _)
  · cases r' with
    | tup h _ => exact .base (.tup h)
  · cases r' with
    | lst h _ => exact .base (.lst h)
  · cases r' with
    | dik h _ => exact .base (.dK h)
    | dit h _ => exact .base (.dT h)
  · cases r' with
    | ktp h _ => exact sqT_ty h
  · cases r' with
    | scr h => exact sqL_ty h
end
section
variable {c : Cc} {X : Cx} {k : Kd} {q : Bool} {e ce : Expr} {d : Rho → Ro D} {pos p : Pos}
theorem de_isi (n : String) (h : DE c X k q e d) (hce : PE X ce (tC (.ty n))) (hg : Gl X "isinstance") (hm : X.mg "isinstance" = none) (hK : X.K = c.T.K := by first | rfl | assumption)
    (hs : starEach [e, ce] X.env = (false, eval e X.env) :: starEach [ce] X.env := by rfl) (hs2 : starEach [ce] X.env = (false, eval ce X.env) :: starEach [] X.env := by rfl) (hpl : (backTo pos (starEach [ce] X.env)).any (·.1) = false := by rfl) :
    DE c X .st q (.Call (.Name "isinstance" p) [e, ce] [] pos) (dUn (isiD n) d) := by
  refine ⟨pe_imp (pe_callB call_isi hg hm (by rfl) (pa_cons h.pe (pa_cons hce pa_nil hs2) hs) (by decide) (by decide) hs hpl) fun σ H Q ⟨m, G, ρ, s, o⟩ => ⟨m, G, ρ, s, ?_⟩⟩
  refine (Out.bind (out_true o)).imp fun x H1 ⟨G1, ρ1, v, g1, e1, s1, r1, o1⟩ => ?_
  cases hv : tyN v with
  | none =>
    unfold isiD at o1
    rw [hv] at o1
    exact o1.elim
  | some t =>
    cases hb : kitB t n with
    | none =>
      unfold isiD at o1
      simp only [hv, hb, Option.bind_some, Option.map_none] at o1
      exact o1.elim
    | some b =>
      unfold isiD at o1
      simp only [hv, hb, Option.bind_some, Option.map_some] at o1
      exact ⟨x, .ty n, .type t, .type n, b, rfl, .ty n, by rw [hK]; exact tyN_of s1.gh (krep_w s1 r1) hv, kit_ty hb, Out.ret o1 s1 (.bl b)⟩

/-! ### methods of built-in values -/
def tyM : D → Option String
  | .int _ => some "int"
  | .str _ => some "str"
  | .lst _ => some "list"
  | .dic _ _ => some "dict"
  | .scr _ => some "list"
  | _ => none
theorem tyM_of {T : Tb} {G H : Hp} {x : V} {a : D} {t : String} (s : Same G H) (r : RepW T G H x a) (e : tyM a = some t) : tyV T.K t x H := by
  have r' := r.rep s
  unfold tyM at e
  split at e <;> first | cases e | skip
  · cases r'; rfl
  · cases r'; rfl
  · cases r' with
    | lst h _ => exact .inl ⟨rfl, _, .inl (.inl h)⟩
  · cases r' with
    | dik h _ => exact .inr (.inr (.inl ⟨rfl, .inl ⟨_, h⟩⟩))
    | dit h _ => exact .inr (.inr (.inl ⟨rfl, .inr ⟨_, h⟩⟩))
  · cases r' with
    | scr h => exact .inl ⟨rfl, _, h⟩
variable {es : List Expr} {ds : Rho → Ro (List D)} {name : Str} {apos cpos : Pos} {ty id : String} {r : V → List V → Hp → VK → Prop}
/-- o.m(..) that changes nothing -/
def dMtT (ty : String) (f : D → List D → Option D) (da : Rho → Ro D) (ds : Rho → Ro (List D)) : Rho → Ro D := fun ρ => (da ρ).bind fun x ρ1 => if tyM x = some ty then (ds ρ1).bind fun xs ρ2 => Ro.of (f x xs) ρ2 else .stuck
theorem tMt_of {k ka : Kd} {qa qb : Bool} {da : Rho → Ro D} {f : D → List D → Option D} (hd : MtD c.T ty r k f) (hK : X.K = c.T.K) (hk : ka = .st ∨ (ka = .wk ∧ qb = true)) {σ : L2.St} {H : Hp} {Q : VK} (h : tE c k (qa && qb) (dMtT ty f da ds) σ H Q) : tBM X.K ty r (tE c ka qa da) (tA c qb ds) σ H Q := by
  obtain ⟨m, G, ρ, s, o⟩ := h
  refine ⟨m, G, ρ, s, (Out.bind o).imp fun x H1 ⟨G1, ρ1, v, g1, e1, s1, r1, o1⟩ => ?_⟩
  by_cases hty : tyM v = some ty
  · rw [if_pos hty] at o1
    refine ⟨by rw [hK]; exact tyM_of s1.gh (krep_w s1 r1) hty, m, G1, ρ1, s1, (Out.bind (out_true o1)).imp fun xs H2 ⟨G2, ρ2, u, g2, e2, s2, r2, o2⟩ => ?_⟩
    cases hf : f v u with
    | none =>
      rw [hf] at o2
      exact o2.elim
    | some z =>
      rw [hf] at o2
      exact hd c.io m G2 H2 σ ρ2 x xs v u z Q s2 (krep_keep hk r1 g2 e2 s2) r2 hf fun w G' H' g h' s' r' => Out.pure o2 g h' s' r'
  · rw [if_neg hty] at o1
    exact o1.elim
theorem de_mt {ka : Kd} {qa qb : Bool} {a : Expr} {da : Rho → Ro D} {f : D → List D → Option D} (pa : PlainAttrs ty) (slot : Slot ty name id) (hty : typeOf (.builtin id) = pure (.type "method_descriptor")) (hm : MtR X id r) (hd : MtD c.T ty r k f)
    (ha : DE c X ka qa a da) (hes : DA c X qb (e :: es) ds) (hK : X.K = c.T.K := by first | rfl | assumption) (hk : ka = .st ∨ (ka = .wk ∧ qb = true) := by first | exact Or.inl rfl | exact Or.inr ⟨rfl, rfl⟩)
    (hbase : attributeBase a name X.env (eval a X.env) = eval a X.env := by rfl)
    (hfew : ((backTo cpos (starEach (e :: es) X.env)).all (fun x => !x.1) && (backToKw cpos (keywordEach [] X.env)).all (fun x => x.1.isSome)
      && decide ((e :: es).length + ([] : List Keyword).length + (if ([] : List Keyword).isEmpty then 0 else 1) < 30)) = true := by rfl)
    (hline : (apos.endLine == cpos.line) = true := by rfl) (hs : starEach (e :: es) X.env = (false, eval e X.env) :: starEach es X.env := by rfl) (hplain : (backTo cpos (starEach es X.env)).any (·.1) = false := by rfl) :
    DE c X k (qa && qb) (.Call (.Attribute a name apos) (e :: es) [] cpos) (dMtT ty f da ds) := ⟨pe_imp (pe_bm pa slot hty hm ha.pe hes.pa hbase hfew hline hs hplain) fun _ _ _ => tMt_of hd hK hk⟩
theorem de_mt0 {ka : Kd} {qa : Bool} {a : Expr} {da : Rho → Ro D} {f : D → List D → Option D} (pa : PlainAttrs ty) (slot : Slot ty name id) (hty : typeOf (.builtin id) = pure (.type "method_descriptor")) (hm : MtR X id r) (hd : MtD c.T ty r k f)
    (ha : DE c X ka qa a da) (hK : X.K = c.T.K := by first | rfl | assumption)
    (hbase : attributeBase a name X.env (eval a X.env) = eval a X.env := by rfl) (hline : (apos.endLine == cpos.line) = true := by rfl) :
    DE c X k qa (.Call (.Attribute a name apos) [] [] cpos) (dMtT ty f da dNil) := by
  refine ⟨pe_imp (pe_bm0 pa slot hty hm ha.pe hbase hline) fun σ H Q ⟨m, G, ρ, s, o⟩ => ⟨m, G, ρ, s, ?_⟩⟩
  refine (Out.bind (out_true o)).imp fun x H1 ⟨G1, ρ1, v, g1, e1, s1, r1, o1⟩ => ?_
  by_cases hty : tyM v = some ty
  · rw [if_pos hty] at o1
    refine ⟨by rw [hK]; exact tyM_of s1.gh (krep_w s1 r1) hty, ?_⟩
    have o2 : Out c m G1 H1 σ ρ1 true (KRep c.T m σ k) (Ro.of (f v []) ρ1) Q := o1
    cases hf : f v [] with
    | none =>
      rw [hf] at o2
      exact o2.elim
    | some z =>
      rw [hf] at o2
      exact hd c.io m G1 H1 σ ρ1 x [] v [] z Q s1 (krep_w s1 r1) .nil hf fun w G' H' g h' s' r' => Out.pure o2 g h' s' r'
  · rw [if_neg hty] at o1
    exact o1.elim

/-! ### methods that change an owned object -/
def MtO (T : Tb) (r : V → List V → Hp → VK → Prop) (f : D → List D → Option (D × D)) : Prop := ∀ (G H : Hp) (p : Addr) (xs : List V) (d : D) (as : List D) (d' z : D) (Q : VK), Same G H → Own T G H p d → Reps T G xs as → f d as = some (d', z) →
  (∀ v o, Own T G (upd H p o) p d' → Rep T G v z → Q v (upd H p o)) → r (.ref p) xs H Q
def dMut (ty : String) (i : Nat) (f : D → List D → Option (D × D)) (ds : Rho → Ro (List D)) : Rho → Ro D := fun ρ => match ρ[i]? with
  | some (some (.ow d0)) => if tyM d0 = some ty then (ds ρ).bind fun xs ρ1 => match ρ1[i]? with
    | some (some (.ow d)) => match f d xs with
      | some (d', z) => .ok z (ρ1.set i (some (.ow d')))
      | none => .stuck
    | _ => .stuck
    else .stuck
  | _ => .stuck
theorem mut_fin {io : Io} {T : Tb} {m : Am} {G H : Hp} {σ : L2.St} {ρ : Rho} {i : Nat} {p : Addr} {xs : List V} {us : List D} {f : D → List D → Option (D × D)} (hd : MtO T r f) (s : SR T io m G H σ ρ) (ep : σ[i]? = some (some (.ref p))) (rx : Reps T G xs us) {c' : Cc} (hc : c'.T = T) (hi : c'.io = io) {Q : VK}
    (o : Out c' m G H σ ρ false (KRep c'.T m σ .st) (match ρ[i]? with
      | some (some (.ow d)) => match f d us with
        | some (d', z) => .ok z (ρ.set i (some (.ow d')))
        | none => .stuck
      | _ => .stuck) Q) : r (.ref p) xs H Q := by
  subst hc hi
  split at o
  · rename_i d hρ
    split at o
    · rename_i d' z hf
      obtain ⟨p', k1, k2, k3, k4⟩ := s.ow i d hρ
      rw [ep] at k1
      cases k1
      refine hd G H p xs d us d' z Q s.gh k4 rx hf fun v u ho rv => ?_
      exact o v G (upd H p u) (Same.refl _) (fun z => nomatch z) (s.write hρ ep ho) rv
    · exact o.elim
  · exact o.elim
theorem de_mut (i : Nat) {x : Str} {xp : Pos} {qb : Bool} {f : D → List D → Option (D × D)} (pa : PlainAttrs ty) (slot : Slot ty name id) (hty : typeOf (.builtin id) = pure (.type "method_descriptor")) (hm : MtR X id r) (hd : MtO c.T r f)
    (hes : DA c X qb (e :: es) ds) (hN : X.N[i]? = some x := by rfl) (hv : Vis X.env.scope x := by first | exact Or.inl rfl | exact Or.inr (Or.inl rfl) | exact Or.inr (Or.inr rfl)) (hdd : (x == ("__debug__" : Str)) = false := by decide)
    (hcd : (x == ("__classdict__" : Str)) = false := by decide) (hK : X.K = c.T.K := by first | rfl | assumption)
    (hbase : attributeBase (.Name x xp) name X.env (eval (.Name x xp) X.env) = eval (.Name x xp) X.env := by rfl)
    (hfew : ((backTo cpos (starEach (e :: es) X.env)).all (fun x => !x.1) && (backToKw cpos (keywordEach [] X.env)).all (fun x => x.1.isSome)
      && decide ((e :: es).length + ([] : List Keyword).length + (if ([] : List Keyword).isEmpty then 0 else 1) < 30)) = true := by rfl)
    (hline : (apos.endLine == cpos.line) = true := by rfl) (hs : starEach (e :: es) X.env = (false, eval e X.env) :: starEach es X.env := by rfl) (hplain : (backTo cpos (starEach es X.env)).any (·.1) = false := by rfl) :
    DE c X .st false (.Call (.Attribute (.Name x xp) name apos) (e :: es) [] cpos) (dMut ty i f ds) := by
  refine ⟨pe_imp (pe_bm pa slot hty hm (pe_var (i := i) hN hv hdd hcd) hes.pa hbase hfew hline hs hplain) fun σ H Q ⟨m, G, ρ, s, o⟩ => ?_⟩
  unfold dMut at o
  split at o
  · rename_i d0 hρ
    obtain ⟨p, e1, e2, e3, e4⟩ := s.ow i d0 hρ
    split at o
    · rename_i hty0
      refine ⟨_, e1, by rw [hK]; exact tyM_of s.gh (.inr ⟨p, rfl, e2, e4⟩) hty0, m, G, ρ, s, ?_⟩
      exact (Out.bind (q1 := qb) (q2 := false) (by rw [Bool.and_false]; exact o)).imp fun xs H1 ⟨G1, ρ1, us, g1, _, s1, r1, o1⟩ => mut_fin hd s1 e1 r1 rfl rfl o1
    · exact o.elim
  · exact o.elim
theorem de_mut0 (i : Nat) {x : Str} {xp : Pos} {f : D → List D → Option (D × D)} (pa : PlainAttrs ty) (slot : Slot ty name id) (hty : typeOf (.builtin id) = pure (.type "method_descriptor")) (hm : MtR X id r) (hd : MtO c.T r f)
    (hN : X.N[i]? = some x := by rfl) (hv : Vis X.env.scope x := by first | exact Or.inl rfl | exact Or.inr (Or.inl rfl) | exact Or.inr (Or.inr rfl)) (hdd : (x == ("__debug__" : Str)) = false := by decide)
    (hcd : (x == ("__classdict__" : Str)) = false := by decide) (hK : X.K = c.T.K := by first | rfl | assumption)
    (hbase : attributeBase (.Name x xp) name X.env (eval (.Name x xp) X.env) = eval (.Name x xp) X.env := by rfl) (hline : (apos.endLine == cpos.line) = true := by rfl) :
    DE c X .st false (.Call (.Attribute (.Name x xp) name apos) [] [] cpos) (dMut ty i f dNil) := by
  refine ⟨pe_imp (pe_bm0 pa slot hty hm (pe_var (i := i) hN hv hdd hcd) hbase hline) fun σ H Q ⟨m, G, ρ, s, o⟩ => ?_⟩
  unfold dMut at o
  split at o
  · rename_i d0 hρ
    obtain ⟨p, e1, e2, e3, e4⟩ := s.ow i d0 hρ
    split at o
    · rename_i hty0
      refine ⟨_, e1, by rw [hK]; exact tyM_of s.gh (.inr ⟨p, rfl, e2, e4⟩) hty0, ?_⟩
      exact mut_fin hd s e1 .nil rfl rfl o
    · exact o.elim
  · exact o.elim
end
section
variable {T : Tb}
def appD : D → List D → Option (D × D)
  | .lst ds, [a] => if ds.length < 16777216 then some (.lst (ds ++ [a]), .non) else none
  | _, _ => none
theorem mo_append : MtO T rAppend appD := by
  intro G H p xs d as d' z Q s w r e hq
  unfold appD at e
  split at e
  · rename_i ds a
    split at e
    · rename_i hl
      cases e
      obtain ⟨vs, h1, h2⟩ := w
      obtain ⟨x, rfl, rx⟩ := reps1 r
      exact ⟨p, vs, x, rfl, rfl, h1, by rw [h2.length, sizeLine_eq]; exact hl, hq _ _ ⟨_, upd_same, h2.append (.cons rx .nil)⟩ .non⟩
    · cases e
  · cases e
/-- l.pop(i) -/
def popAtD : D → List D → Option (D × D)
  | .lst ds, [.int i] => if -(2 ^ 63) ≤ i ∧ i < 2 ^ 63 then (seqIndex? i ds.length).bind fun k => (ds[k]?).map fun z => (.lst (ds.eraseIdx k), z) else none
  | _, _ => none
theorem mo_popAt : MtO T rPopAt popAtD := by
  intro G H p xs d as d' z Q s w r e hq
  unfold popAtD at e
  split at e
  · rename_i ds i
    split at e
    · rename_i hi
      obtain ⟨vs, h1, h2⟩ := w
      obtain ⟨x, rfl, rx⟩ := reps1 r
      cases hk : seqIndex? i ds.length with
      | none =>
        rw [hk] at e
        cases e
      | some k =>
        cases hz : ds[k]? with
        | none =>
          simp only [hk, hz, Option.bind_some, Option.map_none] at e
          cases e
        | some z' =>
          simp only [hk, hz, Option.bind_some, Option.map_some] at e
          cases e
          obtain ⟨v, k1, k2⟩ := h2.get hz
          exact ⟨p, vs, i, k, v, rfl, by rw [rx.intV], h1, hi.1, hi.2, by rw [h2.length]; exact hk, k1, hq _ _ ⟨_, upd_same, h2.erase k⟩ k2⟩
    · cases e
  · cases e
def popD : D → List D → Option (D × D)
  | .lst ds, [] => (ds[ds.length - 1]?).map fun z => (.lst ds.dropLast, z)
  | _, _ => none
theorem Reps.dropLast {H : Hp} {vs : List V} {ds : List D} (r : Reps T H vs ds) : Reps T H vs.dropLast ds.dropLast := by
  rw [List.dropLast_eq_take, List.dropLast_eq_take, r.length]
  exact r.take _
theorem mo_pop : MtO T rPop popD := by
  intro G H p xs d as d' z Q s w r e hq
  unfold popD at e
  split at e
  · rename_i ds
    cases r
    obtain ⟨vs, h1, h2⟩ := w
    cases hz : ds[ds.length - 1]? with
    | none =>
      rw [hz] at e
      cases e
    | some z' =>
      rw [hz] at e
      cases e
      obtain ⟨v, k1, k2⟩ := h2.get hz
      exact ⟨p, vs, v, rfl, rfl, h1, by rw [h2.length]; exact k1, hq _ _ ⟨_, upd_same, h2.dropLast⟩ k2⟩
  · cases e
end
end VL

set_option Elab.async false
set_option linter.all false
set_option maxRecDepth 100000
set_option maxHeartbeats 2000000
/-! VL13: try with several clauses, each with or without a name -/
namespace VL
open PySem PySem.Spec L2 PyProof.Rows

/-- a clause: its class, the name's slot, what its suite does -/
structure Cl where
  c : Value
  i : Option Nat
  ts : Addr → Value → Option Addr → TS
def offI (i : Option Nat) (σ : L2.St) : L2.St := match i with
  | some i => σ.set i none
  | none => σ
def onI (i : Option Nat) (a : Addr) (σ : L2.St) : L2.St := match i with
  | some i => σ.set i (some (.ref a))
  | none => σ
def endI (i : Option Nat) (D : Ends) : Ends := { nx := fun σ H => D.nx (offI i σ) H, rt := D.rt, bk := fun σ H => D.bk (offI i σ) H, ct := fun σ H => D.ct (offI i σ) H }
def wCls (K : PySem.W.Frag) (Wout : WX) (D : Ends) : List Cl → WX
  | [] => Wout
  | l :: r => fun cls d σ H => ∃ b, PySem.W.exmOne K cls l.c = some b ∧ (b = true → ∀ a, H a = none → l.ts a cls d (endI l.i D) (onI l.i a σ) H) ∧ (b = false → wCls K Wout D r cls d σ H)
/-- the name of a clause -/
def NmOk (X : Cx) : Option Str → Option Nat → Prop
  | some n, some i => X.N[i]? = some n ∧ X.env.kindOf n = some .local
  | none, none => True
  | _, _ => False
inductive ClsOk (X : Cx) : List ExceptHandler → List Cl → Prop
  | nil : ClsOk X [] []
  | cons {x : Str} {l : Cl} {n : Option Str} {b : Stmt} {bs : List Stmt} {np p : Pos} {hds : List ExceptHandler} {ls : List Cl} (hc : Names X x l.c) (hn : NmOk X n l.i)
      (hsu : ∀ (a : Addr) (oe : Obj) (cls : Value) (d : Option Addr) (pn : List (Addr × Obj)), Zc cls d oe → (∃ vs, oe.data = .fields vs) → PSs (X.suite a ((a, oe) :: pn)) (b :: bs) (l.ts a cls d)) (r : ClsOk X hds ls) :
      ClsOk X (.ExceptHandler (some (.Name x np)) n (b :: bs) p :: hds) (l :: ls)

/-- an exception has landed in X's frame -/
structure Lnd (X : Cx) (pins : List (Addr × Obj)) (σ : L2.St) (H : Hp) (a : Addr) (cls : Value) (d : Option Addr) (B : Heap) (sI s : Shared) : Prop where
  J : Inv X pins σ H sI
  nb : ∀ b o, sI.heap.get? b = some o → b ∉ frs X.stack → B.get? b = some o
  up : sI.heap.UpToSlots s.heap
  fl : HandSPX.FlyingZ B (X.env :: X.outer) a (Zc cls d) s.heap
  os : s.os = sI.os
  ag : AllBare s.gens
  na : H a = none
/-- behind a suite: its name goes -/
def BehS (X : Cx) (pins : List (Addr × Obj)) (D : Ends) (n : Option Str) (p : Pos) (f : Flow) (s : Shared) : Prop := match n with
  | none => SP X pins D f s
  | some n => wpAny (model X.prog X.w) X.A (do bindName X.env n .none; unbindBehindTheSuite X.env n p) (fun _ s3 => SP X pins D f s3) X.xe s
def RunS (X : Cx) (pins : List (Addr × Obj)) (D : Ends) (n : Option Str) (p : Pos) (x : Value → Shared → Prop) (r : Except Value Flow) (s : Shared) : Prop := match r with
  | .ok f => BehS X pins D n p f s
  | .error e => x e s
section
variable {X : Cx} {pins : List (Addr × Obj)} {σ : L2.St} {H : Hp} {a : Addr} {cls : Value} {d : Option Addr} {B : Heap} {sI s : Shared}
theorem Lnd.inv (l : Lnd X pins σ H a cls d B sI s) : Inv X pins σ H s := l.J.landed l.nb l.fl.1 l.up l.os l.ag
theorem Lnd.apart (l : Lnd X pins σ H a cls d B sI s) (hf : X.env.frame = some X.env.locals) : a ≠ X.env.locals ∧ a ∉ X.fs := by
  obtain ⟨oe, vs, e1, _, e3⟩ := l.fl.there
  have out : a ∉ frs (X.env :: X.outer) := fun hm => by
    obtain ⟨_, u, e4, e5⟩ := l.fl.2.2.1.mem hm
    rw [e1] at e4
    cases e4
    exact e5 _ e3
  constructor
  · intro z
    exact out (List.mem_filterMap.mpr ⟨X.env, List.mem_cons_self, by rw [hf, z]⟩)
  · intro hm
    obtain ⟨e, m1, m2⟩ := List.mem_filterMap.mp hm
    exact out (List.mem_filterMap.mpr ⟨e, List.mem_cons_of_mem _ m1, m2⟩)
/-- no clause takes it -/
theorem Lnd.pass {W : WX} {Q : Flow → Shared → Prop} (l : Lnd X pins σ H a cls d B sI s) (hs : X.stack = X.env :: X.outer) (hf : X.env.frame = some X.env.locals) (tk : Takes X W) (w : W cls d σ H) :
    wpAny (model X.prog X.w) X.A (handleBy (.ref a) X.env []) Q X.xe s := by
  refine wpAny_handleBy_nil ?_
  obtain ⟨_, _, _, oe, vs, t, _, _, e1, _, e2, e3, _⟩ := id l.fl
  have up : wpAny (model X.prog X.w) X.A (setFlight (.ref a) X.env.frame) (fun _ s4 => wpAny (model X.prog X.w) X.A (throw (.ref a) : Sem Flow) Q X.xe s4) X.xe s := by
    rw [hf]
    exact HandSPX.setFlight_upZ l.fl fun h4 held up4 => wpAny_throw (tk _ _ ⟨a, B, sI, pins, σ, H, cls, d, rfl, l.J, l.nb, l.up.trans up4, .inr (.inr (by rw [hs]; exact held)), l.na, l.os, l.ag, w⟩)
  unfold PySem.passOn
  refine wpAny_bind (wpAny_field e1 e2 e3 ?_)
  rw [if_neg (by simp : ¬ ((Value.ref t == Value.none) = true))]
  first
    | exact wpAny_bind (wpAny_pure (wpAny_bind up))
    | exact wpAny_bind up
/-- the suite of the clause that takes it -/
theorem Lnd.suite {n : Option Str} {i : Option Nat} {b : Stmt} {bs : List Stmt} {p : Pos} {ts : Addr → Value → Option Addr → TS} {D : Ends} (l : Lnd X pins σ H a cls d B sI s) (ok : X.Ok) (hf : X.env.frame = some X.env.locals) (hN : X.N.Nodup) (hn : NmOk X n i)
    (hsu : ∀ (a : Addr) (oe : Obj) (cls : Value) (d : Option Addr) (pn : List (Addr × Obj)), Zc cls d oe → (∃ vs, oe.data = .fields vs) → PSs (X.suite a ((a, oe) :: pn)) (b :: bs) (ts a cls d))
    (q : ts a cls d (endI i D) (onI i a σ) H) {x : Value → Shared → Prop} :
    codeAny (model X.prog X.w) (X.A.mark (some (.ref a))) (.handlers (.ref a) [.ExceptHandler none n (b :: bs) p] X.env) (RunS X pins D n p x) s := by
  obtain ⟨nL, nF⟩ := l.apart hf
  -- what the suite leaves, its name not yet let go
  have fin : ∀ {f : Flow} {s6 : Shared} {q0 : Addr × Obj}, SP (X.suite a (q0 :: (X.pn ++ pins))) [] (endI i D) f s6 → BehS X pins D n p f s6 := fun {f s6 q0} h => by
    cases n with
    | none =>
      cases i with
      | some _ => exact hn.elim
      | none =>
        cases f with
        | ret u =>
          obtain ⟨v, σ6, H6, S, r, z⟩ := h
          exact ⟨v, σ6, H6, S.unsuite ok, r, z⟩
        | next =>
          obtain ⟨σ6, H6, S, z⟩ := h
          exact ⟨σ6, H6, S.unsuite ok, z⟩
        | brk =>
          obtain ⟨σ6, H6, S, z⟩ := h
          exact ⟨σ6, H6, S.unsuite ok, z⟩
        | cont =>
          obtain ⟨σ6, H6, S, z⟩ := h
          exact ⟨σ6, H6, S.unsuite ok, z⟩
    | some n =>
      cases i with
      | none => exact hn.elim
      | some i =>
        obtain ⟨h1, h2⟩ : X.N[i]? = some n ∧ X.env.kindOf n = some .local := hn
        cases f with
        | ret u =>
          obtain ⟨v, σ6, H6, S, r, z⟩ := h
          exact gone_ok (S.unsuite ok) hN h1 h2 fun s7 I7 => ⟨v, _, H6, I7, r, z⟩
        | next =>
          obtain ⟨σ6, H6, S, z⟩ := h
          exact gone_ok (S.unsuite ok) hN h1 h2 fun s7 I7 => ⟨_, H6, I7, z⟩
        | brk =>
          obtain ⟨σ6, H6, S, z⟩ := h
          exact gone_ok (S.unsuite ok) hN h1 h2 fun s7 I7 => ⟨_, H6, I7, z⟩
        | cont =>
          obtain ⟨σ6, H6, S, z⟩ := h
          exact gone_ok (S.unsuite ok) hN h1 h2 fun s7 I7 => ⟨_, H6, I7, z⟩
  have run : ∀ {s5 : Shared} {oe : Obj}, Zc cls d oe → (∃ vs, oe.data = .fields vs) → Inv (X.suite a ((a, oe) :: (X.pn ++ pins))) [] (onI i a σ) H s5 → ∀ {R : Value → Shared → Prop}, wpAny (model X.prog X.w) (X.A.mark (some (.ref a))) (execs (b :: bs) X.env) (fun f s6 => BehS X pins D n p f s6) R s5 := fun {s5 oe} z1 z2 I5 R =>
    wpAny_mono ((hsu a oe cls d (X.pn ++ pins) z1 z2).run [] s5 _ H _ I5 q) (fun f s6 h => fin h) fun _ _ z => False.elim z
  cases n with
  | none =>
    cases i with
    | some _ => exact hn.elim
    | none =>
      refine codeAny_handlers_suite (HandSPX.lands_againZ l.fl fun h4 fl4 up4 => ?_)
      obtain ⟨oe, vs, e1, e2, e3⟩ := fl4.there
      have l4 : Lnd X pins σ H a cls d B sI { s with heap := h4 } := ⟨l.J, l.nb, l.up.trans up4, fl4, l.os, l.ag, l.na⟩
      exact run e2 ⟨vs, e3⟩ (l4.inv.suite e1 e3 l.na nL nF)
  | some n =>
    cases i with
    | none => exact hn.elim
    | some i =>
      obtain ⟨h1, h2⟩ : X.N[i]? = some n ∧ X.env.kindOf n = some .local := hn
      refine codeAny_handlers_suite_as (HandSPX.lands_againZ l.fl fun h4 fl4 up4 => ?_)
      obtain ⟨oe, vs, e1, e2, e3⟩ := fl4.there
      have l4 : Lnd X pins σ H a cls d B sI { s with heap := h4 } := ⟨l.J, l.nb, l.up.trans up4, fl4, l.os, l.ag, l.na⟩
      exact store_ok (X := X.suite a ((a, oe) :: (X.pn ++ pins))) (v := .ref a) (l4.inv.suite e1 e3 l.na nL nF) hN h1 (.inl h2) rfl (fun s5 S5 => run e2 ⟨vs, e3⟩ S5) (.inr h2)
theorem Lnd.go {W : WX} {D : Ends} {hds : List ExceptHandler} {ls : List Cl} (l : Lnd X pins σ H a cls d B sI s) (ok : X.Ok) (hs : X.stack = X.env :: X.outer) (hf : X.env.frame = some X.env.locals) (hN : X.N.Nodup) (tk : Takes X W) (hk : ClsOk X hds ls) (w : wCls X.K W D ls cls d σ H) :
    wpAny (model X.prog X.w) X.A (handleBy (.ref a) X.env hds) (SP X pins D) X.xe s := by
  induction hk with
  | nil => exact l.pass hs hf tk w
  | @cons x c n b bs np p hds2 ls2 hc hn hsu r ih =>
    obtain ⟨nL, nF⟩ := l.apart hf
    obtain ⟨oe, vs, e1, e2, e3⟩ := l.fl.there
    have S := l.inv.suite e1 e3 l.na nL nF
    obtain ⟨b', k1, k2, k3⟩ := w
    refine wpAny_handleBy_cons (codeAny_handlers_test ?_) (fun z => nomatch z)
    have ty : PySem.W.Looks (model X.prog X.w) s.heap (typeOf (.ref a)) cls := fun _ _ _ _ k q => wpAny_typeOf_ref (k _ _ e1) (by rw [e2.1]; exact q)
    have mt := PySem.W.exm_one (M := model X.prog X.w) l.inv.kIn ty k1
    have named : ∀ {Q : Value → Shared → Prop} {E : Value → Shared → Prop}, Q c.c s → wpAny (model X.prog X.w) (X.A.mark (some (.ref a))) (eval (.Name x np) X.env) Q E s := fun {Q E} q => by
      obtain ⟨hg, hd, hm | ⟨hm, hv, hne⟩⟩ := hc
      · exact ld_glob (X := X.suite a ((a, oe) :: (X.pn ++ pins))) S hg hm q hd
      · exact ld_blt (X := X.suite a ((a, oe) :: (X.pn ++ pins))) S hg hm hv q hne hd
    refine named (mt.here ?_)
    cases b' with
    | true =>
      refine codeAny_mono (l.suite ok hf hN hn hsu (k2 rfl a l.na) (p := p) (x := cameBackBy (model X.prog X.w) X.A X.env X.xe)) fun r s2 h => ?_
      cases r with
      | error e => exact h
      | ok f =>
        cases n with
        | none => exact h
        | some n => exact h
    | false => exact ih (k3 rfl)
end
/-- try: body / except A as n: .. / except B: .. -/
theorem ps_tryAs {X : Cx} {body : List Stmt} {h0 : ExceptHandler} {hds : List ExceptHandler} {ls : List Cl} {pos : Pos} {tb : WX → TS} {W : WX} (hs : X.stack = X.env :: X.outer) (hf : X.env.frame = some X.env.locals) (hN : X.N.Nodup) (tk : Takes X W)
    (hb : ∀ (W : WX) (pn : List (Addr × Obj)) (xe : Value → Shared → Prop), Takes (X.tr pn xe) W → PassesOwn (model X.prog X.w) X.A X.env xe → PSs (X.tr pn xe) body (tb W))
    (hk : ClsOk X (h0 :: hds) ls) : PS X (.Try body (h0 :: hds) [] [] pos) (fun D σ H => tb (wCls X.K W D ls) D σ H) := by
  refine ⟨fun pins s σ H D I h => wpAny_Try_except ?_⟩
  have ok := I.ok
  have frames : X.A.frames = some (X.env :: X.outer) := by rw [ok.frames, hs]
  refine wpAny_mono ((hb (wCls X.K W D ls) (X.pn ++ pins) (fun e s1 => wpAny (model X.prog X.w) X.A (noteFrame e X.env) (fun _ s2 => wpAny (model X.prog X.w) X.A (setFlight e none) (fun _ s3 =>
    wpAny (model X.prog X.w) X.A (handleBy e X.env (h0 :: hds)) (SP X pins D) X.xe s3) X.xe s2) X.xe s1) (fun u s' air => ?_) PassesOwn.looking).run [] s σ H D (I.toTry _) h) (fun f s1 out => ?_) (fun _ _ z => z)
  · obtain ⟨a, B, sI, _, σ', H', cls, d, rfl, J, nb, up, sky, na, os, ag, w⟩ := air
    rw [show (X.tr (X.pn ++ pins) _).stack = X.env :: X.outer from hs] at sky
    refine Sky.land Zc.steady frames hf sky fun h3 fl up3 => ?_
    exact Lnd.go (s := { s' with heap := h3 }) ⟨J.ofTry ok, nb, up.trans up3, fl, os, ag, na⟩ ok hs hf hN tk hk w
  · cases f with
    | ret u =>
      obtain ⟨v, σ', H', J, r, q⟩ := out
      exact ⟨v, σ', H', J.ofTry ok, r, q⟩
    | next =>
      obtain ⟨σ', H', J, q⟩ := out
      exact wpAny_execs_nil ⟨σ', H', J.ofTry ok, q⟩
    | brk =>
      obtain ⟨σ', H', J, q⟩ := out
      exact ⟨σ', H', J.ofTry ok, q⟩
    | cont =>
      obtain ⟨σ', H', J, q⟩ := out
      exact ⟨σ', H', J.ofTry ok, q⟩
end VL

set_option Elab.async false
set_option linter.all false
set_option maxRecDepth 100000
set_option maxHeartbeats 2000000
/-! VL14: try, by denotations; an exception's fields -/
namespace VL
open PySem PySem.Spec L2

structure ClD where
  mt : Str → Option Bool
  i : Option Nat
  s : Str → List (Str × D) → Rho → So
def offR (i : Option Nat) (ρ : Rho) : Rho := match i with
  | some i => ρ.set i none
  | none => ρ
def So.off (i : Option Nat) (r : So) : So := match r with
  | .nx ρ => .nx (offR i ρ)
  | .bk ρ => .bk (offR i ρ)
  | .ct ρ => .ct (offR i ρ)
  | .rt d ρ => .rt d (offR i ρ)
  | _ => .stuck
def okI (i : Option Nat) (ρ : Rho) : Bool := match i with
  | some i => decide (i < ρ.length)
  | none => true
def hndD : List ClD → Str → List (Str × D) → Rho → So
  | [], e, fs, ρ => .err e fs ρ
  | l :: ls, e, fs, ρ => match l.mt e with
    | some true => if okI l.i ρ = true then (l.s e fs (offR l.i ρ)).off l.i else .stuck
    | some false => hndD ls e fs ρ
    | none => .stuck
def So.onErr (r : So) (f : Str → List (Str × D) → Rho → So) : So := match r with
  | .err e fs ρ => f e fs ρ
  | r => r
def sTry (sb : Rho → So) (ls : List ClD) : Rho → So := fun ρ => (sb ρ).onErr (hndD ls)
@[simp] theorem So.onErr_nx (ρ : Rho) (f : Str → List (Str × D) → Rho → So) : (So.nx ρ).onErr f = .nx ρ := rfl
@[simp] theorem So.onErr_rt (d : D) (ρ : Rho) (f : Str → List (Str × D) → Rho → So) : (So.rt d ρ).onErr f = .rt d ρ := rfl
@[simp] theorem So.onErr_err (e : Str) (fs : List (Str × D)) (ρ : Rho) (f : Str → List (Str × D) → Rho → So) : (So.err e fs ρ).onErr f = f e fs ρ := rfl
def inI : Option Nat → List Nat → List Nat
  | some i, l => i :: l
  | none, l => l
theorem XRep.mono {T : Tb} {G G' H H' : Hp} {d : Option Addr} {fs : List (Str × D)} (r : XRep T G H d fs) (g : Same G G') : XRep T G' H' d fs := by
  cases d with
  | none => exact r
  | some d =>
    obtain ⟨vs, h1, h2⟩ := r
    exact ⟨vs, g _ _ h1, h2.mono g⟩
/-- in an except suite: the exception stands in its slot, its fields in its dict -/
def ioX (T : Tb) (io : Io) (i : Option Nat) (a : Addr) (d : Option Addr) (fs : List (Str × D)) (pv1 : Nat → V) : Io where
  ix := inI i io.ix
  am := fun m G H => io.am ⟨m.R, pv1⟩ G H ∧ (∀ j, i = some j → m.pv j = .ref a) ∧ (∀ j ∈ io.ix, i ≠ some j → m.pv j = pv1 j) ∧ XRep T G H d fs
  st := fun m G G' H H' x g h => ⟨io.st _ _ _ _ _ x.1 g h, x.2.1, x.2.2.1, x.2.2.2.mono g⟩
  cmp := io.cmp
  mv := fun hc m m' G H x e h => ⟨io.mv hc _ _ _ _ x.1 rfl h, by rw [e]; exact x.2.1, by rw [e]; exact x.2.2.1, x.2.2.2⟩
def ccX (c : Cc) (i : Option Nat) (a : Addr) (d : Option Addr) (fs : List (Str × D)) (pv1 : Nat → V) : Cc := ⟨c.T, ioX c.T c.io i a d fs pv1, fun _ _ _ _ => False⟩
theorem mem_inI {i : Option Nat} {l : List Nat} {j : Nat} : j ∈ inI i l ↔ i = some j ∨ j ∈ l := by
  cases i with
  | none => simp [inI]
  | some i =>
    simp only [inI, List.mem_cons, Option.some.injEq]
    constructor
    · rintro (h | h)
      · exact .inl h.symm
      · exact .inr h
    · rintro (h | h)
      · exact .inl h.symm
      · exact .inr h
theorem offR_some {i : Option Nat} {ρ : Rho} {j : Nat} {x : Sl} (h : (offR i ρ)[j]? = some (some x)) : ρ[j]? = some (some x) ∧ i ≠ some j := by
  cases i with
  | none => exact ⟨h, by simp⟩
  | some i =>
    have h' : (ρ.set i none)[j]? = some (some x) := h
    by_cases e : i = j
    · subst e
      have hl : i < ρ.length := by
        have := (List.getElem?_eq_some_iff.mp h').1
        simpa using this
      rw [List.getElem?_set_self hl] at h'
      cases h'
    · rw [List.getElem?_set_ne e] at h'
      exact ⟨h', fun z => e (Option.some.inj z)⟩
theorem offR_length {i : Option Nat} {ρ : Rho} : (offR i ρ).length = ρ.length := by
  cases i <;> simp [offR]
theorem offI_length {i : Option Nat} {σ : L2.St} : (offI i σ).length = σ.length := by
  cases i <;> simp [offI]
theorem onI_length {i : Option Nat} {a : Addr} {σ : L2.St} : (onI i a σ).length = σ.length := by
  cases i <;> simp [onI]
theorem offI_ne {i : Option Nat} {σ : L2.St} {j : Nat} (h : i ≠ some j) : (offI i σ)[j]? = σ[j]? := by
  cases i with
  | none => rfl
  | some i => exact List.getElem?_set_ne (fun z => h (by rw [z]))
theorem onI_ne {i : Option Nat} {a : Addr} {σ : L2.St} {j : Nat} (h : i ≠ some j) : (onI i a σ)[j]? = σ[j]? := by
  cases i with
  | none => rfl
  | some i => exact List.getElem?_set_ne (fun z => h (by rw [z]))
section
variable {T : Tb} {io : Io} {m : Am} {G H : Hp} {σ : L2.St} {ρ : Rho} {i : Option Nat} {a : Addr} {d : Option Addr} {fs : List (Str × D)}
/-- into the suite -/
theorem SR.toSuite (s : SR T io m G H σ ρ) (x : XRep T G H d fs) (hl : ∀ j, i = some j → j < σ.length) (hi : ∀ j, i = some j → j ∉ io.ix) :
    SR T (ioX T io i a d fs m.pv) ⟨m.R, fun j => if i = some j then .ref a else m.pv j⟩ G H (onI i a σ) (offR i ρ) := by
  refine ⟨s.gh, s.rh, s.rg, by rw [onI_length, offR_length, s.len], fun j e h => ?_, fun j e h => ?_, fun j k e f p h1 h2 h3 h4 => ?_, fun j hj => ?_, ⟨s.am, fun j hj => by simp [hj], fun j hj hn => by simp [hn], x⟩, s.gt⟩
  · obtain ⟨h1, h2⟩ := offR_some h
    rw [onI_ne h2]
    exact s.fz j e h1
  · obtain ⟨h1, h2⟩ := offR_some h
    rw [onI_ne h2]
    exact s.ow j e h1
  · obtain ⟨a1, a2⟩ := offR_some h1
    obtain ⟨b1, b2⟩ := offR_some h2
    rw [onI_ne a2] at h3
    rw [onI_ne b2] at h4
    exact s.ap j k e f p a1 b1 h3 h4
  · by_cases e : i = some j
    · show (onI i a σ)[j]? = some (some (if i = some j then V.ref a else m.pv j))
      rw [if_pos e]
      subst e
      exact List.getElem?_set_self (hl j rfl)
    · show (onI i a σ)[j]? = some (some (if i = some j then V.ref a else m.pv j))
      rw [if_neg e, onI_ne e]
      rcases mem_inI.mp hj with h | h
      · exact absurd h e
      · exact s.pn j h
/-- out of it -/
theorem SR.ofSuite {G' H' : Hp} {σ' : L2.St} {ρ' : Rho} {m' : Am} {pv1 : Nat → V} (s' : SR T (ioX T io i a d fs pv1) m' G' H' σ' ρ') (hm : m'.R = m.R) (hp : pv1 = m.pv) (hi : ∀ j, i = some j → j ∉ io.ix) : SR T io m G' H' (offI i σ') (offR i ρ') := by
  subst hp
  obtain ⟨R', pv'⟩ := m'
  have hm' : R' = m.R := hm
  subst hm'
  refine ⟨s'.gh, s'.rh, s'.rg, by rw [offI_length, offR_length, s'.len], fun j e h => ?_, fun j e h => ?_, fun j k e f p h1 h2 h3 h4 => ?_, fun j hj => ?_, s'.am.1, s'.gt⟩
  · obtain ⟨h1, h2⟩ := offR_some h
    rw [offI_ne h2]
    exact s'.fz j e h1
  · obtain ⟨h1, h2⟩ := offR_some h
    rw [offI_ne h2]
    exact s'.ow j e h1
  · obtain ⟨a1, a2⟩ := offR_some h1
    obtain ⟨b1, b2⟩ := offR_some h2
    rw [offI_ne a2] at h3
    rw [offI_ne b2] at h4
    exact s'.ap j k e f p a1 b1 h3 h4
  · have hij : i ≠ some j := fun z => hi j z hj
    rw [offI_ne hij, s'.pn j (mem_inI.mpr (.inr hj))]
    exact congrArg _ (congrArg _ (s'.am.2.2.1 j hj hij))
end

/-- what a clause is, and what its suite comes to -/
inductive ClsD (c : Cc) (X : Cx) : List ExceptHandler → List (Value × ClD) → Prop
  | nil : ClsD c X [] []
  | cons {x : Str} {v : Value} {l : ClD} {n : Option Str} {b : Stmt} {bs : List Stmt} {np p : Pos} {hds : List ExceptHandler} {ls : List (Value × ClD)} (hc : Names X x v) (hn : NmOk X n l.i) (hi : ∀ j, l.i = some j → j ∉ c.io.ix)
      (hm : ∀ e b, l.mt e = some b → PySem.W.exmOne c.T.K (.ref (c.T.cl e)) v = some b)
      (hsu : ∀ (a : Addr) (oe : Obj) (d : Option Addr) (pn : List (Addr × Obj)) (e : Str) (fs : List (Str × D)) (pv1 : Nat → V), l.mt e = some true → Zc (.ref (c.T.cl e)) d oe → (∃ vs, oe.data = .fields vs) → DSs (ccX c l.i a d fs pv1) (X.suite a ((a, oe) :: pn)) (b :: bs) (l.s e fs)) (r : ClsD c X hds ls) :
      ClsD c X (.ExceptHandler (some (.Name x np)) n (b :: bs) p :: hds) ((v, l) :: ls)
/-- a clause's wish -/
def clT (c : Cc) (l : Value × ClD) : Cl := ⟨l.1, l.2.i, fun a cls d Z σ H => ∃ e fs pv1, cls = .ref (c.T.cl e) ∧ l.2.mt e = some true ∧ tS (ccX c l.2.i a d fs pv1) (l.2.s e fs) Z σ H⟩
theorem cls_ok {c : Cc} {X : Cx} {hds : List ExceptHandler} {ls : List (Value × ClD)} (h : ClsD c X hds ls) : ClsOk X hds (ls.map (clT c)) := by
  induction h with
  | nil => exact .nil
  | @cons x v l n b bs np p hds ls hc hn hi hm hsu r ih =>
    refine .cons (l := clT c (v, l)) hc hn (fun a oe cls d pn z1 z2 => ?_) ih
    refine ⟨fun pins s σ H Z I q => ?_⟩
    obtain ⟨e, fs, pv1, rfl, h1, h2⟩ := q
    exact (hsu a oe d pn e fs pv1 h1 z1 z2).pss.run pins s σ H Z I h2
theorem wcls_of {c : Cc} {X : Cx} {m : Am} {G H : Hp} {σ : L2.St} {ρ : Rho} {D0 : Ends} {e : Str} {fs : List (Str × D)} {dx : Option Addr} {hds : List ExceptHandler} {ls : List (Value × ClD)} (h : ClsD c X hds ls) (hK : X.K = c.T.K) (s : SR c.T c.io m G H σ ρ) (x : XRep c.T G H dx fs)
    (o : OutS c m G (hndD (ls.map (·.2)) e fs ρ) D0) : wCls X.K c.W D0 (ls.map (clT c)) (.ref (c.T.cl e)) dx σ H := by
  induction h with
  | nil => exact o dx σ G H (Same.refl _) s x
  | @cons x' v l n b bs np p hds ls hc hn hi hm hsu r ih =>
    cases hb : l.mt e with
    | none =>
      have o' : OutS c m G (match l.mt e with
        | some true => if okI l.i ρ = true then (l.s e fs (offR l.i ρ)).off l.i else .stuck
        | some false => hndD (ls.map (·.2)) e fs ρ
        | none => .stuck) D0 := o
      rw [hb] at o'
      exact o'.elim
    | some b' =>
      have o' : OutS c m G (match l.mt e with
        | some true => if okI l.i ρ = true then (l.s e fs (offR l.i ρ)).off l.i else .stuck
        | some false => hndD (ls.map (·.2)) e fs ρ
        | none => .stuck) D0 := o
      rw [hb] at o'
      refine ⟨b', by rw [hK]; exact hm e b' hb, fun hb' a na => ?_, fun hb' => ?_⟩
      · subst hb'
        have hl : okI l.i ρ = true := by
          cases hk : okI l.i ρ with
          | true => rfl
          | false =>
            have o3 : OutS c m G (if okI l.i ρ = true then (l.s e fs (offR l.i ρ)).off l.i else .stuck) D0 := o'
            rw [hk, if_neg (by simp)] at o3
            exact o3.elim
        refine ⟨e, fs, m.pv, rfl, hb, ⟨m.R, fun j => if l.i = some j then .ref a else m.pv j⟩, G, offR l.i ρ, ?_, ?_⟩
        · refine s.toSuite x (fun j hj => ?_) hi
          rw [hj] at hl
          rw [s.len]
          exact of_decide_eq_true hl
        · have o2 : OutS c m G ((l.s e fs (offR l.i ρ)).off l.i) D0 := by
            have o3 : OutS c m G (if okI l.i ρ = true then (l.s e fs (offR l.i ρ)).off l.i else .stuck) D0 := o'
            rw [if_pos hl] at o3
            exact o3
          have back : ∀ {G' H' : Hp} {σ' : L2.St} {ρ' : Rho}, SR (ccX c l.i a dx fs m.pv).T (ccX c l.i a dx fs m.pv).io ⟨m.R, fun j => if l.i = some j then .ref a else m.pv j⟩ G' H' σ' ρ' → SR c.T c.io m G' H' (offI l.i σ') (offR l.i ρ') := fun s' => SR.ofSuite s' rfl rfl hi
          show OutS (ccX c l.i a dx fs m.pv) _ G (l.s e fs (offR l.i ρ)) (endI l.i D0)
          generalize l.s e fs (offR l.i ρ) = r at o2
          cases r with
          | nx ρ2 => exact fun σ' G' H' g s' => o2 _ G' H' g (back s')
          | bk ρ2 => exact fun σ' G' H' g s' => o2 _ G' H' g (back s')
          | ct ρ2 => exact fun σ' G' H' g s' => o2 _ G' H' g (back s')
          | rf _ _ => exact o2.elim
          | rt d ρ2 => exact fun v σ' G' H' g s' rv => o2 v _ G' H' g (back s') rv
          | err _ _ _ => exact o2.elim
          | stuck => exact o2.elim
      · subst hb'
        exact ih o'
theorem ds_try {c : Cc} {X : Cx} {body : List Stmt} {h0 : ExceptHandler} {hds : List ExceptHandler} {ls : List (Value × ClD)} {lsd : List ClD} {sb : Rho → So} {pos : Pos} (hs : X.stack = X.env :: X.outer) (hf : X.env.frame = some X.env.locals) (hN : X.N.Nodup) (tk : Takes X c.W)
    (hb : ∀ (W : WX) (pn : List (Addr × Obj)) (xe : Value → Shared → Prop), Takes (X.tr pn xe) W → PassesOwn (model X.prog X.w) X.A X.env xe → DSs ⟨c.T, c.io, W⟩ (X.tr pn xe) body sb)
    (hk : ClsD c X (h0 :: hds) ls) (hl : ls.map (·.2) = lsd := by rfl) (hK : X.K = c.T.K := by first | rfl | assumption) : DS c X (.Try body (h0 :: hds) [] [] pos) (sTry sb lsd) := by
  subst hl
  refine ⟨ps_imp (ps_tryAs (tb := fun W => tS ⟨c.T, c.io, W⟩ sb) hs hf hN tk (fun W pn xe t p => (hb W pn xe t p).pss) (cls_ok hk)) fun Z σ H ⟨m, G, ρ, s, o⟩ => ⟨m, G, ρ, s, ?_⟩⟩
  have o' : OutS c m G ((sb ρ).onErr (hndD (ls.map (·.2)))) Z := o
  cases hr : sb ρ with
  | err e fs ρ1 =>
    rw [hr] at o'
    exact fun dx σ' G' H' g s' x => wcls_of hk hK s' x (OutS.step o' g)
  | nx _ => rw [hr] at o'; exact o'
  | rt _ _ => rw [hr] at o'; exact o'
  | rf _ _ => rw [hr] at o'; exact o'
  | bk _ => rw [hr] at o'; exact o'
  | ct _ => rw [hr] at o'; exact o'
  | stuck => rw [hr] at o'; exact o'

/-! ### the caught exception's fields -/
def dXf (fs : List (Str × D)) (f : Str) : Rho → Ro D := fun ρ => Ro.of (fs.lookup f) ρ
theorem FReps.look {T : Tb} {G : Hp} {f : Str} {d : D} : ∀ {vs : List (Str × V)} {fs : List (Str × D)}, FReps T G vs fs → fs.lookup f = some d → ∃ v, vs.lookup f = some v ∧ Rep T G v d
  | [], [], _, h => by cases h
  | (g, v) :: vs, (_, e) :: fs, .cons r rs, h => by
    by_cases hfg : f = g
    · subst hfg
      rw [List.lookup_cons_self] at h
      cases h
      exact ⟨v, List.lookup_cons_self, r⟩
    · have hb : (f == g) = false := by simpa using hfg
      rw [List.lookup_cons, hb] at h
      obtain ⟨w, h1, h2⟩ := FReps.look rs h
      exact ⟨w, by rw [List.lookup_cons, hb]; exact h1, h2⟩
theorem de_xf {c : Cc} {X : Cx} {i : Nat} {a : Addr} {d : Option Addr} {fs : List (Str × D)} {pv1 : Nat → V} {oe : Obj} {pn : List (Addr × Obj)} {e f n : Str} {pos xp : Pos} (T' : XfC c.T.K (c.T.cl e)) (hno' : PySem.W.findIn c.T.K (.ref (c.T.cl e)) f = some none) (hz : Zc (.ref (c.T.cl e)) d oe) (hf : ∃ vs, oe.data = .fields vs)
    (hN : X.N[i]? = some n := by rfl) (hv : Vis X.env.scope n := by first | exact Or.inl rfl | exact Or.inr (Or.inl rfl) | exact Or.inr (Or.inr rfl)) (hdb : (n == ("__debug__" : Str)) = false := by decide) (hcd : (n == ("__classdict__" : Str)) = false := by decide)
    (hb : attributeBase (.Name n xp) f X.env (eval (.Name n xp) X.env) = eval (.Name n xp) X.env := by rfl) (hK : X.K = c.T.K := by first | rfl | assumption) : DE (ccX c (some i) a d fs pv1) (X.suite a ((a, oe) :: pn)) .st true (.Attribute (.Name n xp) f pos) (dXf fs f) := by
  have T : XfC X.K (c.T.cl e) := by
    rw [hK]
    exact T'
  have hno : PySem.W.findIn X.K (.ref (c.T.cl e)) f = some none := by
    rw [hK]
    exact hno'
  refine ⟨pe_imp (pe_xf (X := X) T hno hz hf (pe_var (X := X.suite a ((a, oe) :: pn)) (i := i) hN hv hdb hcd) hb) fun σ H Q ⟨m, G, ρ, s, o⟩ => ?_⟩
  have h1 : σ[i]? = some (some (m.pv i)) := s.pn i (mem_inI.mpr (.inl rfl))
  have h2 : m.pv i = .ref a := s.am.2.1 i rfl
  rw [h2] at h1
  refine ⟨_, h1, rfl, rfl, ?_⟩
  have x : XRep c.T G H d fs := s.am.2.2.2
  unfold dXf at o
  cases hl : fs.lookup f with
  | none =>
    rw [hl] at o
    exact o.elim
  | some z =>
    rw [hl] at o
    cases d with
    | none =>
      have x' : fs = [] := x
      rw [x'] at hl
      cases hl
    | some dd =>
      obtain ⟨vs, k1, k2⟩ := x
      obtain ⟨v, l1, l2⟩ := k2.look hl
      exact ⟨dd, vs, v, rfl, s.gh _ _ k1, l1, Out.ret o s l2⟩

/-! ### raise C(e, ..), C with an __init__ of its own -/
/-- at a: an exception in the making, its fields so far -/
def Hx (H : Hp) (a C dx : Addr) (fs : List (Str × V)) : Hp := upd (upd H dx (exd dx fs)) a (exo a C (some dx))
/-- what such an __init__ does -/
def spOx (C : Addr) (ns : List Str) : Sp := fun vs H Q _ => ∃ a xs, vs = .ref a :: xs ∧ xs.length = ns.length ∧ H a = some (exo a C none) ∧ ∀ dx, H dx = none → dx ≠ a → Q .non (Hx H a C dx (ns.zip xs).reverse)
structure Ox (T : Tb) (mg : Str → Option Value) (base : Heap) (x : Str) (k : Nat) (ns : List Str) : Prop where
  cx : OexC T.K (T.cl x)
  ex : ∃ fI fd ps, PySem.W.findIn T.K (.ref (T.cl x)) "__init__" = some (some (.ref fI)) ∧ PySem.W.typeIn T.K (.ref fI) = some (.type "function") ∧ FnOk T.P T.w T.K mg base (L2.CX T.P T.w) k fI fd ps (spOx (T.cl x) ns) ∧ L2.Binds T.K fd ps []
  mgx : mg x = some (.ref (T.cl x))
def sRaise (x : Str) (ns : List Str) (ds : Rho → Ro (List D)) : Rho → So := fun ρ => (ds ρ).then fun xs ρ1 => if xs.length = ns.length ∧ ns.length ≤ 900 then .err x (ns.zip xs).reverse ρ1 else .stuck
theorem FReps.append {T : Tb} {H : Hp} : ∀ {a b : List (Str × V)} {c d : List (Str × D)}, FReps T H a c → FReps T H b d → FReps T H (a ++ b) (c ++ d)
  | _, _, _, _, .nil, s => s
  | _, _, _, _, .cons r rs, s => .cons r (FReps.append rs s)
theorem FReps.reverse {T : Tb} {H : Hp} : ∀ {a : List (Str × V)} {c : List (Str × D)}, FReps T H a c → FReps T H a.reverse c.reverse
  | _, _, .nil => .nil
  | _, _, .cons r rs => by
    rw [List.reverse_cons, List.reverse_cons]
    exact FReps.append (FReps.reverse rs) (.cons r .nil)
theorem FReps.zip {T : Tb} {H : Hp} : ∀ {ns : List Str} {a : List V} {c : List D}, Reps T H a c → FReps T H (ns.zip a) (ns.zip c)
  | [], _, _, _ => .nil
  | _ :: _, _, _, .nil => .nil
  | _ :: _, _, _, .cons r rs => .cons r (FReps.zip rs)
theorem hx_end {H : Hp} {a C d : Addr} {fs : List (Str × V)} (ha : H a = none) (hd : d ≠ a) : upd (del (Hx (upd H a (exo a C none)) a C d fs) a) d (.xd fs) = upd H d (.xd fs) := by
  funext b
  by_cases hbd : b = d
  · subst hbd
    rw [upd_same, upd_same]
  · rw [upd_ne hbd, upd_ne hbd]
    by_cases hba : b = a
    · subst hba
      rw [del_same, ha]
    · rw [del_ne hba]
      unfold Hx
      rw [upd_ne hba, upd_ne hbd, upd_ne hba]
theorem ds_raise {c : Cc} {X : Cx} {k : Nat} {x : Str} {ns : List Str} {q : Bool} {e : Expr} {es : List Expr} {ds : Rho → Ro (List D)} {p pos pos' : Pos} (O : Ox c.T X.mg X.base x k ns) (hc : X.calm = true) (tk : Takes X c.W) (hr : Room (k + 1) X.A) (hg : Gl X x) (ha : DA c X q (e :: es) ds)
    (hK : X.K = c.T.K := by first | rfl | assumption) (hP : X.prog = c.T.P := by rfl) (hw : X.w = c.T.w := by rfl) (hdb : (x == ("__debug__" : Str)) = false := by decide) (he : starEach (e :: es) X.env = (false, eval e X.env) :: starEach es X.env := by rfl) (hpl : (backTo pos (starEach es X.env)).any (·.1) = false := by rfl) :
    DS c X (.Raise (some (.Call (.Name x p) (e :: es) [] pos)) none pos') (sRaise x ns ds) := by
  obtain ⟨fI, fd, ps, h1, h2, ok, bd⟩ := O.ex
  have cx := O.cx
  rw [← hP, ← hw, ← hK] at ok
  rw [← hK] at cx h1 h2 bd
  refine ⟨ps_imp (ps_raise hc tk (pmk_oex (dvs := []) cx h1 h2 ok hr bd .nil (fun pins σ H s e s' _ z => by
    obtain ⟨_, _, _, _, _, _, _, _, _, _, _, _, w⟩ := z
    exact w.elim) hg O.mgx ha.pa hdb he hpl)) fun Z σ H ⟨m, G, ρ, s, o⟩ => ⟨m, G, ρ, s, ?_⟩⟩
  refine (Out.then o).imp fun xs H1 ⟨G1, ρ1, v, g1, e1, s1, r1, o1⟩ => ?_
  have r1' : Reps c.T G1 xs v := r1
  by_cases hl : v.length = ns.length ∧ ns.length ≤ 900
  · rw [if_pos hl] at o1
    have hxl : xs.length = ns.length := by rw [r1'.length, hl.1]
    refine ⟨by omega, fun a hn => ⟨a, xs, by rw [List.append_nil], hxl, upd_same, fun dx hdx hne => ⟨rfl, dx, _, upd_same, by unfold Hx; rw [upd_ne hne, upd_same], ?_, ?_⟩⟩⟩
    · rw [upd_ne hne] at hdx
      exact hdx
    · rw [upd_ne hne] at hdx
      rw [hx_end hn hne]
      refine o1 (some dx) σ (upd G1 dx (.xd (ns.zip xs).reverse)) _ (same_upd (s1.gh.free hdx)) (s1.new hdx) ⟨_, upd_same, ?_⟩
      exact ((FReps.zip r1').reverse).mono (same_upd (s1.gh.free hdx))
  · rw [if_neg hl] at o1
    exact o1.elim
end VL

set_option Elab.async false
set_option linter.all false
set_option maxRecDepth 100000
set_option maxHeartbeats 2000000
/-! VL15: an exception's __init__, the walk of it -/
namespace VL
open PySem PySem.Spec L2
open PyProof.Rows (envOfC)

inductive SlAt (σ : L2.St) : List (Str × Nat) → List V → Prop
  | nil : SlAt σ [] []
  | cons {f : Str} {i : Nat} {y : V} {l : List (Str × Nat)} {ys : List V} : σ[i]? = some (some y) → SlAt σ l ys → SlAt σ ((f, i) :: l) (y :: ys)
/-- self.f = p, .. -/
inductive OBd (X : Cx) (C : Addr) : List Stmt → List (Str × Nat) → Prop
  | nil : OBd X C [] []
  | cons {f : Str} {i : Nat} {st : Stmt} {sts : List Stmt} {l : List (Str × Nat)} : PS X st (tOst X.K f (tVar 0) (tVar i)) → PySem.W.findIn X.K (.ref C) f = some none → OBd X C sts l → OBd X C (st :: sts) ((f, i) :: l)
def tOb (C : Addr) (l : List (Str × Nat)) : TS := fun D σ H => ∃ a ys, σ[0]? = some (some (.ref a)) ∧ SlAt σ l ys ∧
  ((H a = some (exo a C none) ∧ l ≠ [] ∧ l.length ≤ 900 ∧ ∀ dx, H dx = none → dx ≠ a → D.nx σ (Hx H a C dx ((l.map (·.1)).zip ys).reverse)) ∨
    ∃ H0 dx fs, H = Hx H0 a C dx fs ∧ dx ≠ a ∧ fs.length + l.length ≤ 900 ∧ D.nx σ (Hx H0 a C dx (((l.map (·.1)).zip ys).reverse ++ fs)))
theorem hx_next {H : Hp} {a C dx : Addr} {fs fs' : List (Str × V)} (hd : dx ≠ a) : upd (Hx H a C dx fs) dx (exd dx fs') = Hx H a C dx fs' := by
  funext b
  unfold Hx
  by_cases hb : b = dx
  · subst hb
    rw [upd_same, upd_ne hd, upd_same]
  · rw [upd_ne hb]
    by_cases ha : b = a
    · subst ha
      rw [upd_same, upd_same]
    · rw [upd_ne ha, upd_ne ha, upd_ne hb, upd_ne hb]
theorem ob_run {X : Cx} {C : Addr} (T : OexC X.K C) {sts : List Stmt} {l : List (Str × Nat)} (h : OBd X C sts l) : PSs X sts (tOb C l) := by
  induction h with
  | nil =>
    refine pss_imp pss_nil fun D σ H ⟨a, ys, h1, h2, h3⟩ => ?_
    cases h2
    rcases h3 with ⟨_, z, _⟩ | ⟨H0, dx, fs, e, _, _, q⟩
    · exact absurd rfl z
    · subst e
      exact q
  | @cons f i st sts l hp hno r ih =>
    refine pss_imp (pss_cons hp ih) fun D σ H ⟨a, ys, h1, h2, h3⟩ => ?_
    cases h2 with
    | @cons _ _ y _ ys e1 e2 =>
      refine ⟨y, e1, .ref a, h1, a, C, rfl, T, hno, ?_⟩
      rcases h3 with ⟨k1, k2, k3, k4⟩ | ⟨H0, dx, fs, e, hd, hz, q⟩
      · refine .inl ⟨k1, fun dx hn hne => ⟨a, ys, h1, e2, .inr ⟨H, dx, [(f, y)], rfl, hne, ?_, ?_⟩⟩⟩
        · simp at k3 ⊢
          omega
        · have := k4 dx hn hne
          simpa using this
      · subst e
        refine .inr ⟨dx, fs, by unfold Hx; rw [upd_same], by unfold Hx; rw [upd_ne hd, upd_same], by simp at hz; omega, a, ys, h1, e2, .inr ⟨H0, dx, (f, y) :: fs, hx_next hd, hd, ?_, ?_⟩⟩
        · simp at hz ⊢
          omega
        · simpa using q
theorem ob_fn {T : Tb} {mg : Str → Option Value} {base : Heap} {x qual : Str} {st : Stmt} {f : Addr} {fd : FuncData} {N ps : List Str} {k : Nat} {C : Addr} {ns : List Str} (F : Fun T.K x qual st f fd) (S : FnScope N ps (defScope st)) (hp : ps.length = ns.length + 1) (hns : ns ≠ []) (hnl : ns.length ≤ 900) (O : OexC T.K C)
    (hb : ∀ (cdv : Value) (A : Around) (outer : List Env) (s : Shared) (H : Hp) (E : XK), OBd (cxOf (L2.CX T.P T.w) T.P T.w T.K mg base N qual (defScope st) f cdv A outer s H E) C (defBody st) (ns.zip (List.range' 1 ns.length))) :
    FnOk T.P T.w T.K mg base (L2.CX T.P T.w) (k + 1) f fd ps (spOx C ns) := by
  refine F.okX S (fun vs H Q E h => ?_) (fun cdv A outer s H vs Q E hr h => ⟨_, ob_run (X := cxOf (L2.CX T.P T.w) T.P T.w T.K mg base N qual (defScope st) f cdv A outer s H E) O (hb cdv A outer s H E), ?_⟩)
  · obtain ⟨a, xs, rfl, hx, _⟩ := h
    rw [hp, List.length_cons, hx]
  · obtain ⟨a, xs, rfl, hx, ha, q⟩ := h
    have at1 : ∀ (n : Nat) (l : List Str) (ys : List V) (σ : L2.St), ys.length = l.length → (∀ j, j < ys.length → σ[n + j]? = (ys[j]?).map some) → SlAt σ (l.zip (List.range' n l.length)) ys := by
      intro n l
      induction l generalizing n with
      | nil =>
        intro ys σ h1 _
        cases ys with
        | nil => exact .nil
        | cons _ _ => cases h1
      | cons f l ih =>
        intro ys σ h1 h2
        cases ys with
        | nil => cases h1
        | cons y ys =>
          refine .cons (by have := h2 0 (by simp); simpa using this) (ih (n + 1) ys σ (by simpa using h1) fun j hj => ?_)
          have := h2 (j + 1) (by simp; omega)
          rw [show n + 1 + j = n + (j + 1) from by omega, this]
          simp
    have hl : (ns.zip (List.range' 1 ns.length)).length = ns.length := by simp
    refine ⟨a, xs, rfl, at1 1 ns xs _ hx (fun j hj => ?_), .inl ⟨ha, ?_, by rw [hl]; exact hnl, fun dx hn hne => ?_⟩⟩
    · rw [start_eq, List.map_cons, List.cons_append, Nat.add_comm, List.getElem?_cons_succ, List.getElem?_append_left (by simpa using hj), List.getElem?_map]
    · intro z
      apply hns
      have := congrArg List.length z
      rw [hl] at this
      exact List.length_eq_zero_iff.mp this
    · have e : (ns.zip (List.range' 1 ns.length)).map (·.1) = ns := by
        rw [List.map_fst_zip]
        simp
      rw [e]
      exact q dx hn hne
end VL

set_option Elab.async false
set_option linter.all false
set_option maxRecDepth 100000
set_option maxHeartbeats 2000000
/-! VL16: instances: fields, methods, making; defs held in variables -/
namespace VL
open PySem PySem.Spec L2 PyProof.Rows

/-! ### the readings, what is raised wished for at the caller's slots -/
def tMethS (C : Addr) (m : Str) (sp : Sp) (dvs : List V) (E : L2.St → XK) (ta : TE) (t : TA) : TE := fun σ H Q => ta σ H fun x H1 => ∃ a dx fs, x = .ref a ∧ H1 a = some (.ins C dx fs) ∧ fs.lookup m = none ∧ t σ H1 fun vs H2 => sp (x :: (vs ++ dvs)) H2 Q (E σ)
def tMakeS (C : Addr) (sp : Sp) (dvs : List V) (E : L2.St → XK) (t : TA) : TE := fun σ H Q => t σ H fun vs H1 => ∀ x dx, H1 x = none → H1 dx = none → dx ≠ x →
  sp (.ref x :: (vs ++ dvs)) (upd (upd H1 dx (.own x)) x (.ins C dx [])) (fun v H2 => v = .non ∧ Q (.ref x) H2) (E σ)
section
variable {X : Cx} {CX : CXT} {k : Nat} {f C : Addr} {fd : FuncData} {ps : List Str} {sp : Sp} {dvs : List V} {ds : List Value} {E : L2.St → XK} {x m : Str} {p pos apos : Pos} {e o : Expr} {es : List Expr} {ta : TE} {t : TA}
theorem pe_methS {pl : Sem Bool} (he : PE X o ta) (c : Cls X.K C) (hm : Meth X.K C m f) (F : FnOk X.prog X.w X.K X.mg X.base CX k f fd ps sp) (hr : Room k X.A) (hb : L2.Binds X.K fd ps ds) (hd : Vals dvs ds) (hx : ∀ σ, PassesAt CX X σ (E σ)) (ha : PA X (e :: es) t)
    (hst : starEach (e :: es) X.env = (false, eval e X.env) :: starEach es X.env := by rfl) (hpl : (backTo pos (starEach es X.env)).any (·.1) = false := by rfl)
    (ht : eval (.Call (.Attribute o m apos) (e :: es) [] pos) X.env = (do
      let ov ← eval o X.env
      standAt apos.atName
      let (f, first) ← holding [ov] (getMethod ov m pl)
      callWith pos f first (backTo pos (starEach (e :: es) X.env)) (backToKw pos (keywordEach [] X.env))) := by rfl) :
    PE X (.Call (.Attribute o m apos) (e :: es) [] pos) (tMethS C m sp dvs E ta t) := by
  refine ⟨fun pins s σ H Q I h => PySem.W.methodCall_KW (pl := pl) (thn (he.run pins s σ H _ I h) fun u s1 ⟨x, H1, I1, rx, a, dx, fs, ex, ea, l, q⟩ => ?_) ht⟩
  subst ex
  obtain rfl : u = Value.ref a := rx
  exact getmeth_ok I1 ea c hm l (PySem.W.callWith_K (first := [.ref a]) (h₀ := X.base) I.ok.mod.kin hm.kp (thn (ha.run pos pins s1 σ H1 _ I1 q) fun us s2 ⟨vs, H2, I2, r, q2⟩ => ⟨I2.kIn, run_fnSD (us := .ref a :: us) (vs := .ref a :: vs) F hr hb hd (hx σ) I2 (.cons rfl r) q2⟩) hst hpl)
theorem pe_meth0S {pl : Sem Bool} (he : PE X o ta) (c : Cls X.K C) (hm : Meth X.K C m f) (F : FnOk X.prog X.w X.K X.mg X.base CX k f fd ps sp) (hr : Room k X.A) (hb : L2.Binds X.K fd ps ds) (hd : Vals dvs ds) (hx : ∀ σ, PassesAt CX X σ (E σ))
    (ht : eval (.Call (.Attribute o m apos) [] [] pos) X.env = (do
      let ov ← eval o X.env
      standAt apos.atName
      let (f, first) ← holding [ov] (getMethod ov m pl)
      callWith pos f first (backTo pos (starEach [] X.env)) (backToKw pos (keywordEach [] X.env))) := by rfl) :
    PE X (.Call (.Attribute o m apos) [] [] pos) (tMethS C m sp dvs E ta tNil) := by
  refine ⟨fun pins s σ H Q I h => PySem.W.methodCall_KW (pl := pl) (thn (he.run pins s σ H _ I h) fun u s1 ⟨x, H1, I1, rx, a, dx, fs, ex, ea, l, q⟩ => ?_) ht⟩
  subst ex
  obtain rfl : u = Value.ref a := rx
  exact getmeth_ok I1 ea c hm l (PySem.W.callWith_K0 (first := [.ref a]) I1.kIn hm.kp (run_fnSD (us := [.ref a]) (vs := [.ref a]) F hr hb hd (hx σ) I1 (.cons rfl .nil) q))
theorem run_makeS {pins : List (Addr × Obj)} {σ : L2.St} {H : Hp} {s : Shared} {Q : VK} {us : List Value} {vs : List V} (M : Mk X.K C f) (F : FnOk X.prog X.w X.K X.mg X.base CX k f fd ps sp) (hr : Room (k + 1) X.A) (hb : L2.Binds X.K fd ps ds) (hd : Vals dvs ds)
    (hx : PassesAt CX X σ (E σ)) (I : Inv X pins σ H s) (r : Vals vs us)
    (h : ∀ x dx, H x = none → H dx = none → dx ≠ x → sp (.ref x :: (vs ++ dvs)) (upd (upd H dx (.own x)) x (.ins C dx [])) (fun v H2 => v = .non ∧ Q (.ref x) H2) (E σ)) :
    wpAny (model X.prog X.w) X.A (call (.ref C) us) (EP X pins σ Q) X.xe s := by
  have n1 : H s.heap.objs.size = none := I.hok.fresh (Nat.le_refl _)
  have n2 : H (s.heap.objs.size + 1) = none := I.hok.fresh (Nat.le_succ _)
  have wish := h _ _ n2 n1 (Nat.ne_of_lt (Nat.lt_succ_self _))
  have J := Inv.made (C := C) I
  have rv : Vals (V.ref (s.heap.objs.size + 1) :: (vs ++ dvs)) (Value.ref (s.heap.objs.size + 1) :: (us ++ ds)) := .cons rfl (r.append hd)
  have hlen : (Value.ref (s.heap.objs.size + 1) :: us ++ ds).length = ps.length := (Paired.length rv).symm.trans (F.len _ _ _ _ wish)
  have run := F.run _ X.stack _ _ ⟨Value.ref (s.heap.objs.size + 1) :: us, []⟩ (Value.ref (s.heap.objs.size + 1) :: (us ++ ds)) _ _ (E σ) (hr.make C us []) (J.env0.make C us []) (hb _ (Value.ref (s.heap.objs.size + 1) :: us) J.kIn hlen) rv wish
  refine wpAny_call (make_map (f := f) I.kIn M.makes M.init (beq_iff_eq.mp M.fn) (codeAny_mono run fun r s' out => ?_))
  cases r with
  | error e => exact hx pins _ _ e s' J out
  | ok fl =>
    cases fl with
    | ret u =>
      obtain ⟨v, H', I3, rv, ev, q3⟩ := J.after out
      subst ev
      exact ⟨rv, V.ref (s.heap.objs.size + 1), H', I3, rfl, q3⟩
    | next => exact out.elim
    | brk => exact out.elim
    | cont => exact out.elim
theorem pe_makeS (M : Mk X.K C f) (F : FnOk X.prog X.w X.K X.mg X.base CX k f fd ps sp) (hr : Room (k + 1) X.A) (hg : Gl X x) (hm : X.mg x = some (.ref C)) (hb : L2.Binds X.K fd ps ds) (hd : Vals dvs ds) (hx : ∀ σ, PassesAt CX X σ (E σ))
    (ha : PA X (e :: es) t) (hdb : (x == ("__debug__" : Str)) = false := by decide) (he : starEach (e :: es) X.env = (false, eval e X.env) :: starEach es X.env := by rfl) (hpl : (backTo pos (starEach es X.env)).any (·.1) = false := by rfl) :
    PE X (.Call (.Name x p) (e :: es) [] pos) (tMakeS C sp dvs E t) :=
  ⟨fun pins s σ H Q I h => wpAny_Call_Name_kw (ld_glob I hg hm (PySem.W.callWith_K (h₀ := X.base) I.ok.mod.kin M.kp (thn (ha.run pos pins s σ H _ I h) fun us s1 ⟨vs, H1, I1, r, q⟩ => ⟨I1.kIn, run_makeS M F hr hb hd (hx σ) I1 r q⟩) he hpl) hdb)⟩
end

/-! ### fields -/
def FldOk (T : Tb) (cs : List Str) (f : Str) : Prop := ∀ c ∈ cs, Cls T.K (T.cl c) ∧ NoAttr T.K (T.cl c) f
def fldD (cs : List Str) (f : Str) : D → Option D
  | .ins c fs => if c ∈ cs then fs.lookup f else none
  | _ => none
theorem RepW.ins {T : Tb} {G H : Hp} {x : V} {c : Str} {ds : List (Str × D)} (s : Same G H) (r : RepW T G H x (.ins c ds)) : ∃ a dx vs, x = .ref a ∧ H a = some (.ins (T.cl c) dx vs) ∧ FReps T G vs ds := by
  rcases r with r | ⟨p, rfl, _, dx, vs, e, rs⟩
  · cases r with
    | ins e rs => exact ⟨_, _, _, rfl, s _ _ e, rs⟩
  · exact ⟨p, dx, vs, rfl, e, rs⟩
section
variable {c : Cc} {X : Cx} {k : Kd} {q : Bool} {o e : Expr} {d : Rho → Ro D} {f : Str} {pos xp pos' : Pos}
theorem de_fld (cs : List Str) (hf : FldOk c.T cs f) (h : DE c X k q o d) (hK : X.K = c.T.K := by first | rfl | assumption) (hb : attributeBase o f X.env (eval o X.env) = eval o X.env := by rfl) : DE c X .st q (.Attribute o f pos) (dUn (fldD cs f) d) := by
  refine ⟨pe_imp (pe_fld h.pe hb) fun σ H Q ⟨m, G, ρ, s, o⟩ => ⟨m, G, ρ, s, ?_⟩⟩
  refine (Out.bind (out_true o)).imp fun x H1 ⟨G1, ρ1, v, g1, e1, s1, r1, o1⟩ => ?_
  cases v with
  | ins cn fs =>
    have o2 : Out c m G1 H1 σ ρ1 true (KRep c.T m σ .st) (Ro.of (if cn ∈ cs then fs.lookup f else none) ρ1) Q := o1
    by_cases hc : cn ∈ cs
    · rw [if_pos hc] at o2
      cases hl : fs.lookup f with
      | none =>
        rw [hl] at o2
        exact o2.elim
      | some z =>
        rw [hl] at o2
        obtain ⟨a, dx, vs, ea, eh, rs⟩ := (krep_w s1 r1).ins s1.gh
        obtain ⟨w, l1, l2⟩ := rs.look hl
        rw [hK]
        exact ⟨a, _, dx, vs, w, ea, eh, (hf cn hc).1, (hf cn hc).2, l1, Out.ret o2 s1 l2⟩
    · rw [if_neg hc] at o2
      exact o2.elim
  | _ => exact o1.elim
def putFD (f : Str) (v : D) : List (Str × D) → List (Str × D)
  | [] => [(f, v)]
  | (g, x) :: r => if g = f then (g, v) :: r else (g, x) :: putFD f v r
theorem FReps.put {T : Tb} {G : Hp} {f : Str} {v : V} {d : D} (r : Rep T G v d) : ∀ {vs : List (Str × V)} {fs : List (Str × D)}, FReps T G vs fs → FReps T G (putF f v vs) (putFD f d fs)
  | [], [], .nil => .cons r .nil
  | (g, w) :: vs, (_, z) :: fs, .cons a as => by
    show FReps T G (if g = f then (g, v) :: vs else (g, w) :: putF f v vs) (if g = f then (g, d) :: fs else (g, z) :: putFD f d fs)
    by_cases h : g = f
    · rw [if_pos h, if_pos h]
      exact .cons r as
    · rw [if_neg h, if_neg h]
      exact .cons a (FReps.put r as)
theorem FReps.length {T : Tb} {G : Hp} : ∀ {vs : List (Str × V)} {fs : List (Str × D)}, FReps T G vs fs → vs.length = fs.length
  | _, _, .nil => rfl
  | _, _, .cons _ rs => by simp [FReps.length rs]
/-- x.f = e, x owned -/
def sFld (i : Nat) (cs : List Str) (f : Str) (d : Rho → Ro D) : Rho → So := fun ρ => (d ρ).then fun z ρ1 => match ρ1[i]? with
  | some (some (.ow (.ins c fs))) => if c ∈ cs ∧ fs.length < 1000 then .nx (ρ1.set i (some (.ow (.ins c (putFD f z fs))))) else .stuck
  | _ => .stuck
theorem ds_fld (i : Nat) (cs : List Str) {x : Str} (hf : FldOk c.T cs f) (h : DE c X .st q e d) (hN : X.N[i]? = some x := by rfl) (hv : Vis X.env.scope x := by first | exact Or.inl rfl | exact Or.inr (Or.inl rfl) | exact Or.inr (Or.inr rfl)) (hdd : (x == ("__debug__" : Str)) = false := by decide)
    (hcd : (x == ("__classdict__" : Str)) = false := by decide) (hK : X.K = c.T.K := by first | rfl | assumption) (hs : swapsWith e (some (.Attribute (.Name x xp) f pos')) pos.line X.env = pure false := by rfl) : DS c X (.Assign [.Attribute (.Name x xp) f pos'] e pos) (sFld i cs f d) := by
  refine ⟨ps_imp (ps_fld (pe_var (i := i) hN hv hdd hcd) h.pe hs) fun Z σ H ⟨m, G, ρ, s, o⟩ => ⟨m, G, ρ, s, ?_⟩⟩
  refine (Out.then o).imp fun y H1 ⟨G1, ρ1, v, g1, e1, s1, r1, o1⟩ => ?_
  split at o1
  · rename_i cn fs hρ
    split at o1
    · rename_i hc
      obtain ⟨p, k1, k2, k3, dx, vs, k4, k5⟩ := s1.ow i _ hρ
      refine ⟨_, k1, p, _, dx, vs, rfl, k4, by rw [hK]; exact (hf cn hc.1).1, by rw [hK]; exact (hf cn hc.1).2, by rw [k5.length]; exact hc.2, ?_⟩
      exact OutS.nx o1 (s1.write hρ k1 ⟨dx, _, upd_same, FReps.put r1 k5⟩)
    · exact o1.elim
  · exact o1.elim
/-- x.f += e of whole numbers, x owned -/
def sFldAdd (i : Nat) (cs : List Str) (f : Str) (d : Rho → Ro D) : Rho → So := fun ρ => match ρ[i]? with
  | some (some (.ow (.ins c fs))) => if c ∈ cs ∧ fs.length < 999 then (match fs.lookup f with
    | some (.int a) => (d ρ).then fun z ρ1 => match z with
      | .int b => .nx (ρ1.set i (some (.ow (.ins c (putFD f (.int (a + b)) fs)))))
      | _ => .stuck
    | _ => .stuck) else .stuck
  | _ => .stuck
theorem putF_len {f : Str} {v : V} : ∀ {fs : List (Str × V)}, (putF f v fs).length ≤ fs.length + 1
  | [] => by simp [putF]
  | (g, x) :: r => by
    show (if g = f then (g, v) :: r else (g, x) :: putF f v r).length ≤ _
    split
    · simp
    · have := putF_len (f := f) (v := v) (fs := r)
      simp
      omega
theorem ds_fldAdd (i : Nat) (cs : List Str) {x : Str} (hf : FldOk c.T cs f) (h : DE c X .st true e d) (hN : X.N[i]? = some x := by rfl) (hv : Vis X.env.scope x := by first | exact Or.inl rfl | exact Or.inr (Or.inl rfl) | exact Or.inr (Or.inr rfl)) (hdd : (x == ("__debug__" : Str)) = false := by decide)
    (hcd : (x == ("__classdict__" : Str)) = false := by decide) (hK : X.K = c.T.K := by first | rfl | assumption) : DS c X (.AugAssign (.Attribute (.Name x xp) f pos') .Add e pos) (sFldAdd i cs f d) := by
  refine ⟨ps_imp (ps_fldaug (pe_var (i := i) hN hv hdd hcd) h.pe in_add) fun Z σ H ⟨m, G, ρ, s, o⟩ => ?_⟩
  unfold sFldAdd at o
  split at o
  · rename_i cn fs hρ
    split at o
    · rename_i hc
      obtain ⟨p, k1, k2, k3, dx, vs, k4, k5⟩ := s.ow i _ hρ
      split at o
      · rename_i a hl
        obtain ⟨w, l1, l2⟩ := k5.look hl
        have ew := l2.intV
        subst ew
        refine ⟨_, k1, p, _, dx, vs, .int a, rfl, k4, by rw [hK]; exact (hf cn hc.1).1, by rw [hK]; exact (hf cn hc.1).2, l1, m, G, ρ, s, ?_⟩
        refine (Out.then (q := true) o).imp fun y H1 ⟨G1, ρ1, v, g1, e1, s1, r1, o1⟩ => ?_
        obtain ⟨sm, eρ⟩ := e1 rfl
        subst eρ
        split at o1
        · rename_i b
          have ey := Rep.intV r1
          subst ey
          obtain ⟨p', j1, j2, j3, dx', vs', j4, j5⟩ := s1.ow i _ hρ
          rw [k1] at j1
          cases j1
          refine ⟨a, b, rfl, rfl, dx', vs', j4, by rw [j5.length]; omega, ?_⟩
          exact OutS.nx o1 (s1.write hρ k1 ⟨dx', _, upd_same, FReps.put (.int _) j5⟩)
        · exact o1.elim
      · exact o.elim
    · exact o.elim
  · exact o.elim
end

/-! ### methods -/
/-- a method, ready to be called: a def whose first parameter is the instance -/
structure Mth (T : Tb) (mg : Str → Option Value) (base : Heap) (cn m : Str) (k : Nat) (bs : List Bool) (dd : List D) (F : List D → FO) : Prop where
  ex : ∃ f fd ps, Meth T.K (T.cl cn) m f ∧ FnOk T.P T.w T.K mg base (L2.CX T.P T.w) k f fd ps (spF T bs F) ∧ ∀ n, n ≤ dd.length → ∃ ds dvs, L2.Binds T.K fd ps ds ∧ L2.Vals dvs ds ∧ ∀ G, Reps T G dvs (dd.drop n)
  cls : Cls T.K (T.cl cn)
def insOk (cn m : Str) : D → Bool
  | .ins c fs => decide (c = cn) && (fs.lookup m).isNone
  | _ => false
/-- x.m(..), x owned, changed in place -/
def dMthO (i : Nat) (cn m : Str) (F : List D → FO) (as : List (Option Nat)) (dd : List D) (ds : Rho → Ro (List D)) : Rho → Ro D := fun ρ => match ρ[i]? with
  | some (some (.ow d0)) => if insOk cn m d0 = true then (ds ρ).bind fun xs ρ1 => optR (fillD (some i :: as) (.non :: xs) ρ1) fun ys => (F (ys ++ dd)).toR (some i :: as) ρ1 else .stuck
  | _ => .stuck
/-- o.m(..), o as it stands -/
def dMthF (cn m : Str) (F : List D → FO) (as : List (Option Nat)) (dd : List D) (d : Rho → Ro D) (ds : Rho → Ro (List D)) : Rho → Ro D := fun ρ => (d ρ).bind fun x ρ1 => if insOk cn m x = true then (ds ρ1).bind fun xs ρ2 => optR (fillD (none :: as) (x :: xs) ρ2) fun ys => (F (ys ++ dd)).toR (none :: as) ρ2 else .stuck
theorem insOk_at {T : Tb} {G H : Hp} {x : V} {cn m : Str} {d : D} (s : Same G H) (r : RepW T G H x d) (h : insOk cn m d = true) : ∃ a dx vs, x = .ref a ∧ H a = some (.ins (T.cl cn) dx vs) ∧ vs.lookup m = none := by
  cases d with
  | ins c fs =>
    have h' : (decide (c = cn) && (fs.lookup m).isNone) = true := h
    obtain ⟨h1, h2⟩ := Bool.and_eq_true_iff.mp h'
    obtain rfl := of_decide_eq_true h1
    obtain ⟨a, dx, vs, e1, e2, rs⟩ := r.ins s
    refine ⟨a, dx, vs, e1, e2, ?_⟩
    have key : ∀ {vs : List (Str × V)} {fs : List (Str × D)}, FReps T G vs fs → (fs.lookup m).isNone = true → vs.lookup m = none := by
      intro vs
      induction vs with
      | nil => intro fs _ _; rfl
      | cons p vs ih =>
        intro fs rs hn
        cases rs with
        | @cons g v _ z fs' a as =>
          rw [List.lookup_cons] at hn ⊢
          cases hg : m == g with
          | true =>
            rw [hg] at hn
            cases hn
          | false =>
            rw [hg] at hn
            exact ih as hn
    exact key rs h2
  | _ => cases h
section
variable {c : Cc} {X : Cx} {k : Nat} {q : Bool} {o e : Expr} {es : List Expr} {d : Rho → Ro D} {ds : Rho → Ro (List D)} {as : List (Option Nat)} {F : List D → FO} {dd : List D} {cn m : Str} {bs : List Bool} {pos apos xp : Pos}
theorem de_mthO {pl : Sem Bool} (i : Nat) {x : Str} (M : Mth c.T X.mg X.base cn m k bs dd F) (n : Nat) (hn : n ≤ dd.length) (tk : Takes X c.W) (hr : Room k X.A) (ha : DX c X as (e :: es) ds) (hbs : (some i :: as).map Option.isSome ++ List.replicate (dd.drop n).length false = bs := by rfl) (hu : ((some i :: as).filterMap id).Nodup := by decide)
    (hN : X.N[i]? = some x := by rfl) (hv : Vis X.env.scope x := by first | exact Or.inl rfl | exact Or.inr (Or.inl rfl) | exact Or.inr (Or.inr rfl)) (hdd : (x == ("__debug__" : Str)) = false := by decide) (hcd : (x == ("__classdict__" : Str)) = false := by decide)
    (hK : X.K = c.T.K := by first | rfl | assumption) (hP : X.prog = c.T.P := by rfl) (hw : X.w = c.T.w := by rfl)
    (hst : starEach (e :: es) X.env = (false, eval e X.env) :: starEach es X.env := by rfl) (hpl : (backTo pos (starEach es X.env)).any (·.1) = false := by rfl)
    (ht : eval (.Call (.Attribute (.Name x xp) m apos) (e :: es) [] pos) X.env = (do
      let ov ← eval (.Name x xp) X.env
      standAt apos.atName
      let (f, first) ← holding [ov] (getMethod ov m pl)
      callWith pos f first (backTo pos (starEach (e :: es) X.env)) (backToKw pos (keywordEach [] X.env))) := by rfl) :
    DE c X .st false (.Call (.Attribute (.Name x xp) m apos) (e :: es) [] pos) (dMthO i cn m F as (dd.drop n) ds) := by
  obtain ⟨f, fd, ps, hm, ok, bd⟩ := M.ex
  obtain ⟨dvV, dvs, hb, hvv, hrep⟩ := bd n hn
  have hcl := M.cls
  rw [← hK] at hm hb hcl
  rw [← hP, ← hw, ← hK] at ok
  refine ⟨pe_imp (pe_methS (pl := pl) (E := fun σ => WE c.W σ) (pe_var (i := i) hN hv hdd hcd) hcl hm ok hr hb hvv (fun σ => passAt tk σ) ha.pa hst hpl ht) fun σ H Q ⟨mm, G, ρ, s, o⟩ => ?_⟩
  unfold dMthO at o
  split at o
  · rename_i d0 hρ
    split at o
    · rename_i hok
      obtain ⟨p, k1, k2, k3, k4⟩ := s.ow i d0 hρ
      obtain ⟨a, dx, vs, e1, e2, e3⟩ := insOk_at s.gh (.inr ⟨p, rfl, k2, k4⟩) hok
      refine ⟨_, k1, a, dx, vs, e1, e2, e3, mm, G, ρ, s, ?_⟩
      exact (Out.bind (q1 := false) (q2 := false) o).imp fun xs H1 ⟨G1, ρ1, us, g1, _, s1, r1, o1⟩ => call_core (as := some i :: as) hbs hu (hrep G1) s1 (.ow k1 r1) o1
    · exact o.elim
  · exact o.elim
theorem de_mthO0 {pl : Sem Bool} (i : Nat) {x : Str} (M : Mth c.T X.mg X.base cn m k bs dd F) (n : Nat) (hn : n ≤ dd.length) (tk : Takes X c.W) (hr : Room k X.A) (hbs : [some i].map Option.isSome ++ List.replicate (dd.drop n).length false = bs := by rfl)
    (hN : X.N[i]? = some x := by rfl) (hv : Vis X.env.scope x := by first | exact Or.inl rfl | exact Or.inr (Or.inl rfl) | exact Or.inr (Or.inr rfl)) (hdd : (x == ("__debug__" : Str)) = false := by decide) (hcd : (x == ("__classdict__" : Str)) = false := by decide)
    (hK : X.K = c.T.K := by first | rfl | assumption) (hP : X.prog = c.T.P := by rfl) (hw : X.w = c.T.w := by rfl)
    (ht : eval (.Call (.Attribute (.Name x xp) m apos) [] [] pos) X.env = (do
      let ov ← eval (.Name x xp) X.env
      standAt apos.atName
      let (f, first) ← holding [ov] (getMethod ov m pl)
      callWith pos f first (backTo pos (starEach [] X.env)) (backToKw pos (keywordEach [] X.env))) := by rfl) :
    DE c X .st false (.Call (.Attribute (.Name x xp) m apos) [] [] pos) (dMthO i cn m F [] (dd.drop n) dNil) := by
  obtain ⟨f, fd, ps, hm, ok, bd⟩ := M.ex
  obtain ⟨dvV, dvs, hb, hvv, hrep⟩ := bd n hn
  have hcl := M.cls
  rw [← hK] at hm hb hcl
  rw [← hP, ← hw, ← hK] at ok
  refine ⟨pe_imp (pe_meth0S (pl := pl) (E := fun σ => WE c.W σ) (pe_var (i := i) hN hv hdd hcd) hcl hm ok hr hb hvv (fun σ => passAt tk σ) ht) fun σ H Q ⟨mm, G, ρ, s, o⟩ => ?_⟩
  unfold dMthO at o
  split at o
  · rename_i d0 hρ
    split at o
    · rename_i hok
      obtain ⟨p, k1, k2, k3, k4⟩ := s.ow i d0 hρ
      obtain ⟨a, dx, vs, e1, e2, e3⟩ := insOk_at s.gh (.inr ⟨p, rfl, k2, k4⟩) hok
      exact ⟨_, k1, a, dx, vs, e1, e2, e3, call_core (as := [some i]) (xs := [.ref p]) (vs := [.non]) hbs (by simp) (hrep G) s (.ow k1 .nil) o⟩
    · exact o.elim
  · exact o.elim
theorem de_mthF {pl : Sem Bool} {qo : Bool} (M : Mth c.T X.mg X.base cn m k bs dd F) (n : Nat) (hn : n ≤ dd.length) (tk : Takes X c.W) (hr : Room k X.A) (ho : DE c X .st qo o d) (ha : DX c X as (e :: es) ds) (hbs : (none :: as).map Option.isSome ++ List.replicate (dd.drop n).length false = bs := by rfl) (hu : (((none : Option Nat) :: as).filterMap id).Nodup := by decide)
    (hK : X.K = c.T.K := by first | rfl | assumption) (hP : X.prog = c.T.P := by rfl) (hw : X.w = c.T.w := by rfl)
    (hst : starEach (e :: es) X.env = (false, eval e X.env) :: starEach es X.env := by rfl) (hpl : (backTo pos (starEach es X.env)).any (·.1) = false := by rfl)
    (ht : eval (.Call (.Attribute o m apos) (e :: es) [] pos) X.env = (do
      let ov ← eval o X.env
      standAt apos.atName
      let (f, first) ← holding [ov] (getMethod ov m pl)
      callWith pos f first (backTo pos (starEach (e :: es) X.env)) (backToKw pos (keywordEach [] X.env))) := by rfl) :
    DE c X .st false (.Call (.Attribute o m apos) (e :: es) [] pos) (dMthF cn m F as (dd.drop n) d ds) := by
  obtain ⟨f, fd, ps, hm, ok, bd⟩ := M.ex
  obtain ⟨dvV, dvs, hb, hvv, hrep⟩ := bd n hn
  have hcl := M.cls
  rw [← hK] at hm hb hcl
  rw [← hP, ← hw, ← hK] at ok
  refine ⟨pe_imp (pe_methS (pl := pl) (E := fun σ => WE c.W σ) ho.pe hcl hm ok hr hb hvv (fun σ => passAt tk σ) ha.pa hst hpl ht) fun σ H Q ⟨mm, G, ρ, s, o⟩ => ⟨mm, G, ρ, s, ?_⟩⟩
  have o' : Out c mm G H σ ρ (qo && false) (KRep c.T mm σ .st) ((d ρ).bind fun x ρ1 => if insOk cn m x = true then (ds ρ1).bind fun xs ρ2 => optR (fillD (none :: as) (x :: xs) ρ2) fun ys => (F (ys ++ dd.drop n)).toR (none :: as) ρ2 else .stuck) Q := by
    rw [Bool.and_false]
    exact o
  refine (Out.bind o').imp fun x H1 ⟨G1, ρ1, v, g1, _, s1, r1, o1⟩ => ?_
  by_cases hok : insOk cn m v = true
  · rw [if_pos hok] at o1
    obtain ⟨a, dx, vs, e1, e2, e3⟩ := insOk_at s1.gh (.inl r1) hok
    refine ⟨a, dx, vs, e1, e2, e3, mm, G1, ρ1, s1, ?_⟩
    exact (Out.bind (q1 := false) (q2 := false) o1).imp fun xs H2 ⟨G2, ρ2, us, g2, _, s2, r2, o2⟩ => call_core (as := none :: as) hbs hu (hrep G2) s2 (.fz (Rep.mono g2 r1) r2) o2
  · rw [if_neg hok] at o1
    exact o1.elim
theorem de_mthF0 {pl : Sem Bool} {qo : Bool} (M : Mth c.T X.mg X.base cn m k bs dd F) (n : Nat) (hn : n ≤ dd.length) (tk : Takes X c.W) (hr : Room k X.A) (ho : DE c X .st qo o d) (hbs : [(none : Option Nat)].map Option.isSome ++ List.replicate (dd.drop n).length false = bs := by rfl)
    (hK : X.K = c.T.K := by first | rfl | assumption) (hP : X.prog = c.T.P := by rfl) (hw : X.w = c.T.w := by rfl)
    (ht : eval (.Call (.Attribute o m apos) [] [] pos) X.env = (do
      let ov ← eval o X.env
      standAt apos.atName
      let (f, first) ← holding [ov] (getMethod ov m pl)
      callWith pos f first (backTo pos (starEach [] X.env)) (backToKw pos (keywordEach [] X.env))) := by rfl) :
    DE c X .st false (.Call (.Attribute o m apos) [] [] pos) (dMthF cn m F [] (dd.drop n) d dNil) := by
  obtain ⟨f, fd, ps, hm, ok, bd⟩ := M.ex
  obtain ⟨dvV, dvs, hb, hvv, hrep⟩ := bd n hn
  have hcl := M.cls
  rw [← hK] at hm hb hcl
  rw [← hP, ← hw, ← hK] at ok
  refine ⟨pe_imp (pe_meth0S (pl := pl) (E := fun σ => WE c.W σ) ho.pe hcl hm ok hr hb hvv (fun σ => passAt tk σ) ht) fun σ H Q ⟨mm, G, ρ, s, o⟩ => ⟨mm, G, ρ, s, ?_⟩⟩
  have o' : Out c mm G H σ ρ (qo && false) (KRep c.T mm σ .st) ((d ρ).bind fun x ρ1 => if insOk cn m x = true then (dNil ρ1).bind fun xs ρ2 => optR (fillD [none] (x :: xs) ρ2) fun ys => (F (ys ++ dd.drop n)).toR [none] ρ2 else .stuck) Q := by
    rw [Bool.and_false]
    exact o
  refine (Out.bind o').imp fun x H1 ⟨G1, ρ1, v, g1, _, s1, r1, o1⟩ => ?_
  by_cases hok : insOk cn m v = true
  · rw [if_pos hok] at o1
    obtain ⟨a, dx, vs, e1, e2, e3⟩ := insOk_at s1.gh (.inl r1) hok
    exact ⟨a, dx, vs, e1, e2, e3, call_core (as := [none]) (xs := [x]) (vs := [v]) hbs (by simp) (hrep G1) s1 (.fz r1 .nil) o1⟩
  · rw [if_neg hok] at o1
    exact o1.elim

/-! ### making an instance -/
/-- a class, ready to be made: its __init__'s promise, the instance its first parameter -/
structure Mkr (T : Tb) (mg : Str → Option Value) (base : Heap) (cn : Str) (k : Nat) (bs : List Bool) (dd : List D) (F : List D → FO) : Prop where
  ex : ∃ f fd ps, Mk T.K (T.cl cn) f ∧ FnOk T.P T.w T.K mg base (L2.CX T.P T.w) k f fd ps (spF T (true :: bs) F) ∧ ∀ n, n ≤ dd.length → ∃ ds dvs, L2.Binds T.K fd ps ds ∧ L2.Vals dvs ds ∧ ∀ G, Reps T G dvs (dd.drop n)
  mgx : mg cn = some (.ref (T.cl cn))
  ln : ∀ ds, ds.length ≠ bs.length + 1 → F ds = .stuck
/-- what comes of C(..) -/
def dMake (cn : Str) (F : List D → FO) (dd : List D) (ds : Rho → Ro (List D)) : Rho → Ro D := fun ρ => (ds ρ).bind fun xs ρ1 => match F (.ins cn [] :: (xs ++ dd)) with
  | .ret .non (d :: _) => .ok d ρ1
  | .err e fs _ => .err e fs ρ1
  | _ => .stuck
def FO.mk (r : FO) (ρ : Rho) : Ro D := match r with
  | .ret .non (d :: _) => .ok d ρ
  | .err e fs _ => .err e fs ρ
  | _ => .stuck
theorem make_core' {bs : List Bool} {mm : Am} {G1 H1 : Hp} {σ : L2.St} {ρ1 : Rho} {xs dvs : List V} {vs : List D} {Q : VK} {x dx : Addr} (hbs : bs = List.replicate (vs.length + dd.length) false) (hrep : Reps c.T G1 dvs dd) (s1 : SR c.T c.io mm G1 H1 σ ρ1) (r1 : Reps c.T G1 xs vs) (hx : H1 x = none) (hd : H1 dx = none) (hne : dx ≠ x)
    (o1 : Out c mm G1 H1 σ ρ1 true (KRep c.T mm σ .fr) ((F (.ins cn [] :: (vs ++ dd))).mk ρ1) Q) :
    spF c.T (true :: bs) F (.ref x :: (xs ++ dvs)) (upd (upd H1 dx (.own x)) x (.ins (c.T.cl cn) dx [])) (fun v H2 => v = .non ∧ Q (.ref x) H2) (WE c.W σ) := by
  have lx := r1.length
  have ld := hrep.length
  have gx : G1 x = none := s1.gh.free hx
  have s1' : SR c.T c.io mm G1 (upd H1 dx (.own x)) σ ρ1 := s1.alloc hd
  have hx' : upd H1 dx (.own x) x = none := by rw [upd_ne (Ne.symm hne)]; exact hx
  have r2 : Reps c.T G1 (xs ++ dvs) (vs ++ dd) := r1.append hrep
  have e1 : initR (true :: bs) (D.ins cn [] :: (vs ++ dd)) = some (.ow (.ins cn [])) :: (vs ++ dd).map fun d => some (.fz d) := by
    show some (.ow (.ins cn [])) :: initR bs (vs ++ dd) = _
    rw [hbs, initR_false _ (by simp)]
  have e2 : ixs 0 (true :: bs) = [0] := by
    show 0 :: ixs 1 bs = [0]
    rw [hbs, ixs_false]
  refine ⟨by simp [hbs, lx, ld], ⟨others G1 (upd H1 dx (.own x)), fun _ => .ref x⟩, G1, .ins cn [] :: (vs ++ dd), by simp [hbs], ?_, ?_⟩
  · rw [e1, e2]
    refine ⟨s1'.gh.trans (same_upd hx'), fun a o h => ?_, fun a o h => (others_some h).2, by simp [lx, ld], fun i d h => ?_, fun i d h => ?_, fun i j d e p h1 h2 h3 h4 => ?_, fun i hi => ?_, True.intro, s1.gt⟩
    · have h' := (others_some h).1
      rw [upd_ne (ne_of_none h' hx')]
      exact h'
    · cases i with
      | zero => cases h
      | succ i =>
        have h' : ((vs ++ dd).map fun d => some (Sl.fz d))[i]? = some (some (.fz d)) := h
        rw [List.getElem?_map] at h'
        cases hd' : (vs ++ dd)[i]? with
        | none =>
          rw [hd'] at h'
          cases h'
        | some d' =>
          rw [hd'] at h'
          cases h'
          obtain ⟨v, k1, k2⟩ := r2.get hd'
          refine ⟨v, ?_, k2⟩
          show ((xs ++ dvs).map some)[i]? = _
          rw [List.getElem?_map, k1]
          rfl
    · cases i with
      | zero =>
        cases h
        refine ⟨x, rfl, gx, ?_, dx, [], upd_same, .nil⟩
        show others G1 (upd H1 dx (.own x)) x = none
        unfold others
        rw [gx]
        exact hx'
      | succ i =>
        have h' : ((vs ++ dd).map fun d => some (Sl.fz d))[i]? = some (some (.ow d)) := h
        rw [List.getElem?_map] at h'
        cases hd' : (vs ++ dd)[i]? <;> rw [hd'] at h' <;> cases h'
    · have z : ∀ {i : Nat} {d : D}, (some (Sl.ow (.ins cn [])) :: (vs ++ dd).map fun d => some (Sl.fz d))[i]? = some (some (.ow d)) → i = 0 := fun {i d} h => by
        cases i with
        | zero => rfl
        | succ i =>
          have h' : ((vs ++ dd).map fun d => some (Sl.fz d))[i]? = some (some (.ow d)) := h
          rw [List.getElem?_map] at h'
          cases hd' : (vs ++ dd)[i]? <;> rw [hd'] at h' <;> cases h'
      rw [z h1, z h2]
    · have : i = 0 := by simpa [ioL] using hi
      subst this
      rfl
  · cases hF : F (.ins cn [] :: (vs ++ dd)) with
    | ret d ds' =>
      rw [hF] at o1
      cases d with
      | non =>
        cases ds' with
        | nil => exact o1.elim
        | cons d' ds' =>
          intro v G' H' g s' l' rv
          refine ⟨rv.nonV, ?_⟩
          obtain ⟨s2, sm⟩ := s1'.back0 g s'
          obtain ⟨p, k1, k2, k3, k4⟩ := s'.ow 0 d' (by rfl)
          cases k1
          refine o1 (.ref x) G' H' g (fun _ => ⟨(same_upd hd).trans sm, rfl⟩) s2 ⟨x, rfl, k2, s1.rh.free hx, k4, fun i e q z => ?_⟩
          obtain ⟨p', j1, _, _, j4⟩ := s1.ow i e q
          rw [z] at j1
          cases j1
          obtain ⟨u, hu⟩ := j4.obj
          rw [hx] at hu
          cases hu
      | _ => exact o1.elim
    | fre d ds' =>
      rw [hF] at o1
      exact o1.elim
    | err e fs ds' =>
      rw [hF] at o1
      intro dx' G' H' g s' l' rx
      exact o1 dx' G' H' g (fun _ => ⟨(same_upd hd).trans (s1'.back0 g s').2, rfl⟩) (s1'.back0 g s').1 rx
    | stuck =>
      rw [hF] at o1
      exact o1.elim
theorem de_make {k : Nat} {p : Pos} (M : Mkr c.T X.mg X.base cn k bs dd F) (n : Nat) (hn : n ≤ dd.length) (tk : Takes X c.W) (hr : Room (k + 1) X.A) (hg : Gl X cn) (ha : DA c X q (e :: es) ds) (hbs : bs = List.replicate bs.length false := by rfl)
    (hK : X.K = c.T.K := by first | rfl | assumption) (hP : X.prog = c.T.P := by rfl) (hw : X.w = c.T.w := by rfl) (hdb : (cn == ("__debug__" : Str)) = false := by decide)
    (he : starEach (e :: es) X.env = (false, eval e X.env) :: starEach es X.env := by rfl) (hpl : (backTo pos (starEach es X.env)).any (·.1) = false := by rfl) :
    DE c X .fr q (.Call (.Name cn p) (e :: es) [] pos) (dMake cn F (dd.drop n) ds) := by
  obtain ⟨f, fd, ps, hm, ok, bd⟩ := M.ex
  obtain ⟨dvV, dvs, hb, hvv, hrep⟩ := bd n hn
  rw [← hK] at hm hb
  rw [← hP, ← hw, ← hK] at ok
  refine ⟨pe_imp (pe_makeS (E := fun σ => WE c.W σ) hm ok hr hg M.mgx hb hvv (fun σ => passAt tk σ) ha.pa hdb he hpl) fun σ H Q ⟨mm, G, ρ, s, o⟩ => ⟨mm, G, ρ, s, ?_⟩⟩
  refine (Out.bind (out_true o)).imp fun xs H1 ⟨G1, ρ1, vs, g1, e1, s1, r1, o1⟩ => ?_
  intro x dx hx hd hne
  have o2 : Out c mm G1 H1 σ ρ1 true (KRep c.T mm σ .fr) ((F (.ins cn [] :: (vs ++ dd.drop n))).mk ρ1) Q := o1
  refine make_core' (dd := dd.drop n) ?_ (hrep G1) s1 r1 hx hd hne o2
  by_cases hl : (D.ins cn [] :: (vs ++ dd.drop n)).length = bs.length + 1
  · have hl' : vs.length + (dd.drop n).length = bs.length := by
      rw [List.length_cons, List.length_append] at hl
      omega
    rw [hl']
    exact hbs
  · rw [M.ln _ hl] at o2
    exact o2.elim
end

/-! ### a def that a variable holds -/
def tCallLS (i : Nat) (fa : Str → Addr) (S : Str → Sp) (ok : Str → Prop) (E : L2.St → XK) (t : TA) : TE := fun σ H Q => ∃ x, ok x ∧ σ[i]? = some (some (.ref (fa x))) ∧ t σ H fun vs H1 => S x vs H1 Q (E σ)
theorem pe_callLS {X : Cx} {CX : CXT} {k i : Nat} {fa : Str → Addr} {S : Str → Sp} {ok : Str → Prop} {E : L2.St → XK} {x : Str} {p pos : Pos} {e : Expr} {es : List Expr} {t : TA}
    (F : ∀ y, ok y → ∃ fd ps, FnOk X.prog X.w X.K X.mg X.base CX k (fa y) fd ps (S y) ∧ PySem.W.keepIn X.K (.ref (fa y)) = true ∧ L2.Binds X.K fd ps []) (hr : Room k X.A) (hN : X.N[i]? = some x) (hv : Vis X.env.scope x) (hx : ∀ σ, PassesAt CX X σ (E σ)) (ha : PA X (e :: es) t)
    (hdb : (x == ("__debug__" : Str)) = false := by decide) (hcd : (x == ("__classdict__" : Str)) = false := by decide)
    (he : starEach (e :: es) X.env = (false, eval e X.env) :: starEach es X.env := by rfl) (hpl : (backTo pos (starEach es X.env)).any (·.1) = false := by rfl) : PE X (.Call (.Name x p) (e :: es) [] pos) (tCallLS i fa S ok E t) := by
  refine ⟨fun pins s σ H Q I ⟨y, hy, hs, ht⟩ => ?_⟩
  obtain ⟨fd, ps, ok1, kp, bd⟩ := F y hy
  have look := (pe_var (pos := p) hN hv hdb hcd).run pins s σ H (fun v H1 => v = .ref (fa y) ∧ H1 = H) I ⟨_, hs, rfl, rfl⟩
  refine wpAny_Call_Name_kw (thn look fun u s1 ⟨v, H1, I1, r1, ev, eH⟩ => ?_)
  subst ev eH
  cases r1
  refine PySem.W.callWith_K (h₀ := X.base) I.ok.mod.kin kp (thn (ha.run pos pins s1 σ _ _ I1 ht) fun us s2 ⟨vs, H2, I2, r, q⟩ => ⟨I2.kIn, ?_⟩) he hpl
  exact run_fnSD (dvs := []) (ds := []) ok1 hr bd .nil (hx σ) I2 r (by rw [List.append_nil]; exact q)
/-- f(..), f a variable that holds a def of the module -/
def dCallL (i : Nat) (Fs : Str → Option (List D → FO)) (ds : Rho → Ro (List D)) : Rho → Ro D := fun ρ => match ρ[i]? with
  | some (some (.fz (.fn y))) => match Fs y with
    | some F => (ds ρ).bind fun xs ρ1 => (F xs).toR [] ρ1
    | none => .stuck
  | _ => .stuck
theorem de_callL {c : Cc} {X : Cx} {k : Nat} {q : Bool} {e : Expr} {es : List Expr} {ds : Rho → Ro (List D)} {bs : List Bool} {p pos : Pos} {x : Str} (i : Nat) (Fs : Str → Option (List D → FO)) (hf : ∀ y F, Fs y = some F → Dfn c.T X.mg X.base y k bs [] F) (tk : Takes X c.W) (hr : Room k X.A) (ha : DA c X q (e :: es) ds) (hbs : bs = List.replicate bs.length false := by rfl)
    (hN : X.N[i]? = some x := by rfl) (hv : Vis X.env.scope x := by first | exact Or.inl rfl | exact Or.inr (Or.inl rfl) | exact Or.inr (Or.inr rfl)) (hdb : (x == ("__debug__" : Str)) = false := by decide) (hcd : (x == ("__classdict__" : Str)) = false := by decide)
    (hK : X.K = c.T.K := by first | rfl | assumption) (hP : X.prog = c.T.P := by rfl) (hw : X.w = c.T.w := by rfl)
    (he : starEach (e :: es) X.env = (false, eval e X.env) :: starEach es X.env := by rfl) (hpl : (backTo pos (starEach es X.env)).any (·.1) = false := by rfl) :
    DE c X .st q (.Call (.Name x p) (e :: es) [] pos) (dCallL i Fs ds) := by
  have sp : ∀ y, (∃ F, Fs y = some F) → ∃ fd ps, FnOk X.prog X.w X.K X.mg X.base (L2.CX X.prog X.w) k (c.T.fa y) fd ps (spF c.T bs ((Fs y).getD fun _ => .stuck)) ∧ PySem.W.keepIn X.K (.ref (c.T.fa y)) = true ∧ L2.Binds X.K fd ps [] := fun y ⟨F, hF⟩ => by
    have h := hf y F hF
    obtain ⟨fd, ps, ok, bd⟩ := h.ex
    obtain ⟨dvV, dvs, hb, hvv, hrep⟩ := bd 0 (Nat.le_refl _)
    have h0 := hrep (fun _ => none)
    rw [List.drop_nil] at h0
    cases h0
    cases hvv
    rw [hF, hK, hP, hw]
    exact ⟨fd, ps, ok, h.kp, hb⟩
  refine ⟨pe_imp (pe_callLS (E := fun σ => WE c.W σ) (ok := fun y => ∃ F, Fs y = some F) sp hr hN hv (fun σ => passAt tk σ) ha.pa hdb hcd he hpl) fun σ H Q ⟨mm, G, ρ, s, o⟩ => ?_⟩
  unfold dCallL at o
  split at o
  · rename_i y hρ
    split at o
    · rename_i F hF
      obtain ⟨v, e1, rv⟩ := s.fz i _ hρ
      have ev := rv.fnV
      subst ev
      refine ⟨y, ⟨F, hF⟩, e1, mm, G, ρ, s, ?_⟩
      refine (Out.bind (out_true o)).imp fun xs H1 ⟨G1, ρ1, vs, g1, e2, s1, r1, o1⟩ => ?_
      have eF : (Fs y).getD (fun _ => .stuck) = F := by
        rw [hF]
        rfl
      show spF c.T bs ((Fs y).getD fun _ => .stuck) xs H1 Q (WE c.W σ)
      rw [eF]
      by_cases hl : vs.length = bs.length
      · have r1' : Reps c.T G1 xs vs := r1
        refine ⟨by rw [r1'.length, hl], ⟨others G1 H1, mm.pv⟩, G1, vs, hl, ?_, ?_⟩
        · have e3 : ixs 0 bs = [] := by rw [hbs, ixs_false]
          have e4 : initR bs vs = vs.map fun d => some (.fz d) := by
            rw [hbs]
            exact initR_false _ hl
          rw [e3, e4]
          exact s1.call0 r1'
        · cases hFv : F vs with
          | ret d ds' =>
            rw [hFv] at o1
            intro v G' H' g s' _ r
            obtain ⟨s2, sm⟩ := s1.back0 g s'
            exact Out.pure o1 g sm s2 r
          | fre d ds' =>
            rw [hFv] at o1
            intro p G' H' g s' _ f
            obtain ⟨s2, sm⟩ := s1.back0 g s'
            obtain ⟨u, hu, rp, s3, g3⟩ := (f.back0 s1 rfl).freeze s2
            exact Out.pure o1 (g.trans g3) sm s3 rp
          | err e' fs ds' =>
            rw [hFv] at o1
            exact fun dx G' H' g s' _ r => o1 dx G' H' g (fun _ => ⟨(s1.back0 g s').2, rfl⟩) (s1.back0 g s').1 r
          | stuck =>
            rw [hFv] at o1
            exact o1.elim
      · rw [(hf y F hF).ln _ hl] at o1
        exact o1.elim
    · exact o.elim
  · exact o.elim
end VL

set_option Elab.async false
set_option linter.all false
set_option maxRecDepth 100000
set_option maxHeartbeats 2000000
/-! VL17: d[k] = v, {..}, texts, module names, list * n, enumerate -/
namespace VL
open PySem PySem.Spec L2

section
variable {c : Cc} {X : Cx} {q qk qv : Bool} {e k : Expr} {d dk dv : Rho → Ro D} {pos p xp tp : Pos}
/-! ### d[k] = v, d owned -/
def putOw (i : Nat) (kd v : D) (ρ : Rho) : So := match ρ[i]? with
  | some (some (.ow (.dic t ds))) => match dkey kd with
    | some k => if kindOk t k = true ∧ ds.length < 16777216 then .nx (ρ.set i (some (.ow (.dic t (putDk ds k kd v))))) else .stuck
    | none => .stuck
  | _ => .stuck
def isOw (i : Nat) (ρ : Rho) : Bool := match ρ[i]? with
  | some (some (.ow _)) => true
  | _ => false
def sPut (i : Nat) (dk dv : Rho → Ro D) : Rho → So := fun ρ => (dv ρ).then fun v ρ1 => if isOw i ρ1 = true then (dk ρ1).then fun kd ρ2 => putOw i kd v ρ2 else .stuck
theorem isOw_of {i : Nat} {ρ : Rho} (h : isOw i ρ = true) : ∃ d, ρ[i]? = some (some (.ow d)) := by
  unfold isOw at h
  split at h
  · rename_i d hd
    exact ⟨d, hd⟩
  · cases h
theorem put_of {T : Tb} {io : Io} {m : Am} {G H : Hp} {σ : L2.St} {ρ ρ' : Rho} {i : Nat} {p : Addr} {y v : V} {kd vd : D} (s : SR T io m G H σ ρ) (ep : σ[i]? = some (some (.ref p))) (ry : RepW T G H y kd) (rv : Rep T G v vd) (h : putOw i kd vd ρ = .nx ρ') : ∃ H', DPut H p y v H' ∧ SR T io m G H' σ ρ' := by
  unfold putOw at h
  split at h
  · rename_i t ds hρ
    split at h
    · rename_i k hk
      split at h
      · rename_i hc
        cases h
        obtain ⟨p', e1, e2, e3, e4⟩ := s.ow i _ hρ
        rw [ep] at e1
        cases e1
        have ry' := ry.rep s.gh
        cases t with
        | false =>
          cases k with
          | t _ => cases hc.1
          | k k =>
            obtain ⟨hy, hb⟩ := key1_of ry' (key1_dkey hk)
            obtain ⟨ks, k1, k2⟩ := e4
            refine ⟨_, .inl ⟨ks, k, k1, hy, by rw [k2.length, sizeLine_eq]; exact hc.2, rfl⟩, s.write hρ ep ⟨_, upd_same, ?_⟩⟩
            rw [hb]
            exact k2.put k rv
        | true =>
          cases k with
          | k _ => cases hc.1
          | t k =>
            obtain ⟨es, he, hk2⟩ := tup_dkey hk
            subst he
            obtain ⟨ks, k1, k2⟩ := e4
            cases ry' with
            | @tup b us _ hb rs =>
              obtain ⟨hu, he2⟩ := keys1_of rs hk2
              subst hu
              refine ⟨_, .inr ⟨ks, k, b, k1, rfl, hb, by rw [k2.length, sizeLine_eq]; exact hc.2, rfl⟩, s.write hρ ep ⟨_, upd_same, ?_⟩⟩
              rw [he2]
              exact k2.put k rv
      · cases h
    · cases h
  · cases h
theorem ds_put (i : Nat) {x : Str} {ka : Kd} (hu : X.A.units + 1 < cLine) (hk : DE c X ka qk k dk) (hv : DE c X .st qv e dv) (hN : X.N[i]? = some x := by rfl) (hvi : Vis X.env.scope x := by first | exact Or.inl rfl | exact Or.inr (Or.inl rfl) | exact Or.inr (Or.inr rfl)) (hdd : (x == ("__debug__" : Str)) = false := by decide)
    (hcd : (x == ("__classdict__" : Str)) = false := by decide) (hs : swapsWith e (some (.Subscript (.Name x xp) k tp)) pos.line X.env = pure false := by rfl) : DS c X (.Assign [.Subscript (.Name x xp) k tp] e pos) (sPut i dk dv) := by
  refine ⟨ps_imp (ps_dput hu (pe_var (i := i) hN hvi hdd hcd) hk.pe hv.pe hs) fun Z σ H ⟨m, G, ρ, s, o⟩ => ⟨m, G, ρ, s, ?_⟩⟩
  refine (Out.then o).imp fun v H1 ⟨G1, ρ1, vd, g1, e1, s1, r1, o1⟩ => ?_
  by_cases hw : isOw i ρ1 = true
  · rw [if_pos hw] at o1
    obtain ⟨d0, h0⟩ := isOw_of hw
    obtain ⟨p, k1, k2, k3, k4⟩ := s1.ow i d0 h0
    refine ⟨_, k1, m, G1, ρ1, s1, ?_⟩
    refine (Out.then o1).imp fun y H2 ⟨G2, ρ2, kd, g2, e2, s2, r2, o2⟩ => ?_
    cases hp : putOw i kd vd ρ2 with
    | nx ρ3 =>
      rw [hp] at o2
      obtain ⟨H3, w1, w2⟩ := put_of s2 k1 (krep_w s2 r2) (Rep.mono g2 r1) hp
      exact ⟨p, H3, rfl, w1, OutS.nx o2 w2⟩
    | stuck =>
      rw [hp] at o2
      exact o2.elim
    | rf _ _ =>
      unfold putOw at hp
      split at hp <;> (try split at hp) <;> (try split at hp) <;> cases hp
    | rt _ _ =>
      unfold putOw at hp
      split at hp <;> (try split at hp) <;> (try split at hp) <;> cases hp
    | bk _ =>
      unfold putOw at hp
      split at hp <;> (try split at hp) <;> (try split at hp) <;> cases hp
    | ct _ =>
      unfold putOw at hp
      split at hp <;> (try split at hp) <;> (try split at hp) <;> cases hp
    | err _ _ _ =>
      unfold putOw at hp
      split at hp <;> (try split at hp) <;> (try split at hp) <;> cases hp
  · rw [if_neg hw] at o1
    exact o1.elim

/-! ### {} and {k: v, ..} -/
theorem de_dic0 : DE c X .fr true (.Dict [] [] pos) (dC (.dic false [])) := by
  refine ⟨pe_imp pe_dnewK fun σ H Q ⟨m, G, ρ, s, o⟩ => ?_⟩
  intro p hp
  exact Out.pure o (Same.refl _) (same_upd hp) (s.alloc hp) ⟨p, rfl, s.fre hp ⟨[], upd_same, .nil⟩⟩
theorem de_dic0T : DE c X .fr true (.Dict [] [] pos) (dC (.dic true [])) := by
  refine ⟨pe_imp pe_dnewT fun σ H Q ⟨m, G, ρ, s, o⟩ => ?_⟩
  intro p hp
  exact Out.pure o (Same.refl _) (same_upd hp) (s.alloc hp) ⟨p, rfl, s.fre hp ⟨[], upd_same, .nil⟩⟩
inductive PReps (T : Tb) (G : Hp) : List (V × V) → List (D × D) → Prop
  | nil : PReps T G [] []
  | cons {a b : V} {x y : D} {vs : List (V × V)} {ds : List (D × D)} : Rep T G a x → Rep T G b y → PReps T G vs ds → PReps T G ((a, b) :: vs) ((x, y) :: ds)
def tP (c : Cc) (q : Bool) (d : Rho → Ro (List (D × D))) : L2.St → Hp → (List (V × V) → Hp → Prop) → Prop := fun σ H Q => ∃ m G ρ, SR c.T c.io m G H σ ρ ∧ Out c m G H σ ρ q (fun G' _ _ xs vs => PReps c.T G' xs vs) (d ρ) Q
structure DP (c : Cc) (X : Cx) (pos : Pos) (q : Bool) (ks : List (Option Expr)) (vs : List Expr) (d : Rho → Ro (List (D × D))) : Prop where
  pps : ∃ trs, PPs X pos ks vs trs ∧ ∀ σ H Q, tP c q d σ H Q → tPairs trs σ H Q
def dPNil : Rho → Ro (List (D × D)) := fun ρ => .ok [] ρ
def dPCons (dk dv : Rho → Ro D) (d : Rho → Ro (List (D × D))) : Rho → Ro (List (D × D)) := fun ρ => (dk ρ).bind fun x ρ1 => (dv ρ1).bind fun y ρ2 => (d ρ2).bind fun ps ρ3 => .ok ((x, y) :: ps) ρ3
theorem dp_nil : DP c X pos true [] [] dPNil := ⟨[], pps_nil, fun σ H Q ⟨m, G, ρ, s, o⟩ => Out.ret o s .nil⟩
theorem dp_cons {ks : List (Option Expr)} {vs : List Expr} {dp : Rho → Ro (List (D × D))} (hk : DE c X .st qk k dk) (hv : DE c X .st qv e dv) (hr : DP c X pos q ks vs dp) : DP c X pos (qk && (qv && q)) (some k :: ks) (e :: vs) (dPCons dk dv dp) := by
  obtain ⟨trs, h1, h2⟩ := hr.pps
  refine ⟨_, pps_cons hk.pe hv.pe h1, fun σ H Q ⟨m, G, ρ, s, o⟩ => ⟨m, G, ρ, s, ?_⟩⟩
  refine (Out.bind o).imp fun x H1 ⟨G1, ρ1, v, g1, e1, s1, r1, o1⟩ => ⟨m, G1, ρ1, s1, ?_⟩
  refine (Out.bind o1).imp fun y H2 ⟨G2, ρ2, w, g2, e2, s2, r2, o2⟩ => h2 σ H2 _ ⟨m, G2, ρ2, s2, ?_⟩
  refine (Out.bind (out_true o2)).imp fun ps H3 ⟨G3, ρ3, ws, g3, e3, s3, r3, o3⟩ => ?_
  exact Out.ret o3 s3 (.cons (Rep.mono (g2.trans g3) r1) (Rep.mono g3 r2) r3)
/-- {k: v, ..} of int and text keys -/
def mergeD (acc : List (D × D)) : List (D × D) → Option (List (D × D))
  | [] => some acc
  | (x, y) :: r => match dkey x with
    | some (.k k) => mergeD (putDk acc (.k k) x y) r
    | _ => none
def dDisp (d : Rho → Ro (List (D × D))) : Rho → Ro D := fun ρ => (d ρ).bind fun ps ρ1 => if ps.length ≤ 15 then Ro.of ((mergeD [] ps).map (.dic false)) ρ1 else .stuck
theorem merge_of {T : Tb} {G : Hp} : ∀ {vs : List (V × V)} {ps : List (D × D)} {acc' : List (Key × V)} {acc r : List (D × D)}, PReps T G vs ps → KReps T G acc' acc → mergeD acc ps = some r → ∃ kvs : List (Key × V), vs = kvs.map (fun kv => (kV kv.1, kv.2)) ∧ KReps T G (mergeK acc' kvs) r
  | [], [], acc', acc, r, _, ha, e => by
    cases e
    exact ⟨[], rfl, ha⟩
  | _, (x, y) :: ps, acc', acc, r, .cons ra rb rs, ha, e => by
    have e' : (match dkey x with
      | some (.k k) => mergeD (putDk acc (.k k) x y) ps
      | _ => none) = some r := e
    split at e'
    · rename_i k hk
      obtain ⟨h1, h2⟩ := key1_of ra (key1_dkey hk)
      subst h1 h2
      obtain ⟨kvs, k1, k2⟩ := merge_of rs (ha.put k rb) e'
      exact ⟨(k, _) :: kvs, by rw [k1]; rfl, k2⟩
    · cases e'
theorem de_disp {ks : List (Option Expr)} {vs : List Expr} {dp : Rho → Ro (List (D × D))} (h : DP c X pos q ks vs dp) (hall : ks.all (·.isSome) = true := by rfl) (hl : ks.length = vs.length := by rfl) (h0 : ks ≠ [] := by simp) (h15 : ks.length ≤ 15 := by decide) (hcp : c.io.cmp := by trivial) : DE c X .fr q (.Dict ks vs pos) (dDisp dp) := by
  obtain ⟨trs, h1, h2⟩ := h.pps
  refine ⟨pe_imp (pe_disp h1 hall hl h0 h15) fun σ H Q ⟨m, G, ρ, s, o⟩ => ?_⟩
  intro p hp
  have hr : m.R p = none := s.rh.free hp
  have hg : G p = none := s.gh.free hp
  have nap : ∀ (i : Nat) e, ρ[i]? = some (some (.ow e)) → σ[i]? ≠ some (some (.ref p)) := fun i e q z => by
    obtain ⟨p', j1, _, _, j4⟩ := s.ow i e q
    rw [z] at j1
    cases j1
    obtain ⟨u, hu⟩ := j4.obj
    rw [hp] at hu
    cases hu
  have sl : SR c.T c.io (m.with p (.dK [])) G (upd H p (.dK [])) σ ρ := (s.alloc hp).lend hcp hg upd_same nap
  refine h2 σ _ _ ⟨m.with p (.dK []), G, ρ, sl, ?_⟩
  have o' : Out c m G H σ ρ (q && true) (KRep c.T m σ .fr) ((dp ρ).bind fun ps ρ1 => if ps.length ≤ 15 then Ro.of ((mergeD [] ps).map (.dic false)) ρ1 else .stuck) Q := out_true o
  cases hd : dp ρ with
  | stuck =>
    rw [hd] at o'
    exact o'.elim
  | err e' fs ρ' =>
    rw [hd] at o'
    intro dx G' H' g qq s' rx
    refine o' dx G' H' g (fun hq => ?_) (s'.unlend hcp hr) rx
    rw [Bool.and_true] at hq
    obtain ⟨sm, er⟩ := qq hq
    refine ⟨fun a u ha => ?_, er⟩
    have hap : a ≠ p := ne_of_none ha hp
    exact sm a u (by rw [upd_ne hap]; exact ha)
  | ok ps ρ' =>
    rw [hd] at o'
    intro xs G' H' g qq s' rp
    simp only [Ro.bind_ok] at o'
    split at o'
    · rename_i h15'
      cases hm : mergeD [] ps with
      | none =>
        rw [hm] at o'
        exact o'.elim
      | some r =>
        rw [hm] at o'
        obtain ⟨kvs, k1, k2⟩ := merge_of (acc' := []) rp .nil hm
        obtain ⟨s2, hp2, gp2⟩ := SR.lent (o' := .dK (mergeK [] kvs)) hcp s' id
        have len : kvs.length ≤ 15 := by
          have : xs.length = ps.length := by
            clear hm o' k1 k2 s2
            have key : ∀ {xs : List (V × V)} {ps : List (D × D)}, PReps c.T G' xs ps → xs.length = ps.length := by
              intro xs
              induction xs with
              | nil => intro ps r; cases r; rfl
              | cons x xs ih =>
                intro ps r
                cases r with
                | cons _ _ r => simp [ih r]
            exact key rp
          rw [k1, List.length_map] at this
          omega
        refine ⟨hp2, kvs, k1, len, ?_⟩
        have s3 := s2.unlend hcp hr
        refine o' (.ref p) G' _ g (fun hq => ?_) s3 ⟨p, rfl, gp2, hr, ⟨_, upd_same, k2⟩, fun i e q z => ?_⟩
        · rw [Bool.and_true] at hq
          obtain ⟨sm, er⟩ := qq hq
          refine ⟨fun a u ha => ?_, er⟩
          have hap : a ≠ p := ne_of_none ha hp
          rw [upd_ne hap]
          exact sm a u (by rw [upd_ne hap]; exact ha)
        · obtain ⟨p', j1, j2, j3, j4⟩ := s'.ow i e q
          rw [z] at j1
          cases j1
          have : upd m.R p (.dK []) p = none := j3
          rw [upd_same] at this
          cases this
    · exact o'.elim

/-! ### names of the module -/
theorem de_gStr {x y : Str} {t : Tok} (hg : Gl X x) (hm : X.mg x = some (.str y t)) (hd : (x == ("__debug__" : Str)) = false := by decide) : DE c X .st true (.Name x pos) (dC (.str y)) := de_c (pe_glob hg hm (v := .str y) ⟨t, rfl⟩ hd) fun _ => .str _
theorem de_gInt {x : Str} {y : Int} {t : Tok} (hg : Gl X x) (hm : X.mg x = some (.int y t)) (hd : (x == ("__debug__" : Str)) = false := by decide) : DE c X .st true (.Name x pos) (dC (.int y)) := de_c (pe_glob hg hm (v := .int y) ⟨t, rfl⟩ hd) fun _ => .int _
theorem de_gFn {x : Str} (hg : Gl X x) (hm : X.mg x = some (.ref (c.T.fa x))) (hd : (x == ("__debug__" : Str)) = false := by decide) : DE c X .st true (.Name x pos) (dC (.fn x)) := de_c (pe_glob hg hm (v := .ref (c.T.fa x)) rfl hd) fun _ => .fn _
theorem de_gKt {x : Str} {a : Addr} {ds : List D} {o : Obj} {its : Array Value} {n : Nat} {vs : List V} (hg : Gl X x) (hm : X.mg x = some (.ref a)) (hl : c.T.K.lookup a = some o) (h1 : o.cls = .type "tuple") (h2 : o.data = .seq its n) (h3 : its.size ≤ sizeLine) (h4 : Vals vs its.toList) (h5 : ∀ G, Reps c.T G vs ds) (hd : (x == ("__debug__" : Str)) = false := by decide) : DE c X .st true (.Name x pos) (dC (.ktp ds)) :=
  de_c (pe_glob hg hm (v := .ref a) rfl hd) fun G => .ktp (.inr ⟨o, its, n, hl, h1, h2, h3, h4⟩) (h5 G)
end

/-! ### texts -/
def strsD : List D → Option (List Str)
  | [] => some []
  | d :: ds => (match d with
    | .str x => some x
    | _ => none).bind fun x => (strsD ds).map (x :: ·)
theorem strsD_of {T : Tb} {H : Hp} : ∀ {vs : List V} {ds : List D} {xs : List Str}, Reps T H vs ds → strsD ds = some xs → vs = xs.map V.str
  | [], [], xs, _, e => by
    cases e
    rfl
  | _, d :: ds, xs, .cons r rs, e => by
    unfold strsD at e
    split at e
    · rename_i x
      cases h2 : strsD ds with
      | none =>
        simp only [h2, Option.bind_some, Option.map_none] at e
        cases e
      | some us =>
        simp only [h2, Option.bind_some, Option.map_some] at e
        cases e
        rw [r.strV, strsD_of rs h2] <;> rfl
    · cases e
theorem reps_strs {T : Tb} {G : Hp} : ∀ xs : List Str, Reps T G (xs.map V.str) (xs.map D.str)
  | [] => .nil
  | x :: xs => .cons (.str x) (reps_strs xs)
section
variable {T : Tb}
def splitD : D → List D → Option D
  | .str a, [.str b] => if (b.length == 0) = false ∧ a.length + 2 ≤ 16777216 then some (.lst ((Txt.split a b).map .str)) else none
  | _, _ => none
theorem md_split : MtD T "str" (fun x xs H Q => ∃ a b, x = .str a ∧ xs = [.str b] ∧ (b.length == 0) = false ∧ a.length + 2 ≤ sizeLine ∧ rNewStrs (Txt.split a b) H Q) .fr splitD := by
  intro io m G H σ ρ x xs a as z Q s rx r e hq
  unfold splitD at e
  split at e
  · rename_i a b
    split at e
    · rename_i hc
      cases e
      obtain ⟨y, rfl, ry⟩ := reps1 r
      refine ⟨a, b, rx.strV s.gh, by rw [ry.strV], hc.1, by rw [sizeLine_eq]; exact hc.2, fun p hn => ?_⟩
      exact hq _ G _ (Same.refl _) (same_upd hn) (s.alloc hn) ⟨p, rfl, s.fre hn ⟨_, upd_same, reps_strs _⟩⟩
    · cases e
  · cases e
def joinD : D → List D → Option D
  | .str a, [b] => (itemsD b).bind fun ds => (strsD ds).bind fun ys => if (ys.map (·.length)).sum + ys.length * a.length ≤ 16777216 then some (.str (Txt.join a ys)) else none
  | _, _ => none
def rJoin (K : PySem.W.Frag) : V → List V → Hp → VK → Prop := fun x xs H Q => ∃ a p, ∃ ys : List Str, x = .str a ∧ xs = [.ref p] ∧ (SqL K H p (ys.map V.str) ∨ SqT K H p (ys.map V.str)) ∧ (ys.map (·.length)).sum + ys.length * a.length ≤ 16777216 ∧ Q (.str (Txt.join a ys)) H
theorem md_join : MtD T "str" (rJoin T.K) .st joinD := by
  intro io m G H σ ρ x xs a as z Q s rx r e hq
  unfold joinD at e
  split at e
  · rename_i a b
    cases h1 : itemsD b with
    | none =>
      simp only [h1, Option.bind_none] at e
      cases e
    | some ds =>
      cases h2 : strsD ds with
      | none =>
        simp only [h1, h2, Option.bind_some, Option.bind_none] at e
        cases e
      | some ys =>
        simp only [h1, h2, Option.bind_some] at e
        split at e
        · rename_i hc
          cases e
          obtain ⟨y, rfl, ry⟩ := reps1 r
          obtain ⟨p, vs, rfl, k1, k2⟩ := RepW.seq s.gh (.inl ry) (itemsD_of h1)
          have ev := strsD_of k2 h2
          subst ev
          exact ⟨a, p, ys, rx.strV s.gh, rfl, k1, hc, hq _ G H (Same.refl _) (Same.refl _) s (.str _)⟩
        · cases e
  · cases e
def upperD : D → List D → Option D
  | .str a, [] => if a.length ≤ 5592405 then some (.str (Txt.upper a)) else none
  | _, _ => none
theorem md_upper : MtD T "str" (fun x xs H Q => ∃ a, x = .str a ∧ xs = [] ∧ a.length ≤ 5592405 ∧ Q (.str (Txt.upper a)) H) .st upperD := by
  intro io m G H σ ρ x xs a as z Q s rx r e hq
  unfold upperD at e
  split at e
  · rename_i a
    split at e
    · rename_i hc
      cases e
      cases r
      exact ⟨a, rx.strV s.gh, rfl, hc, hq _ G H (Same.refl _) (Same.refl _) s (.str _)⟩
    · cases e
  · cases e
/-! ### list * n -/
def repL : D → D → Option D
  | .lst ds, .int k => if -(2 ^ 63) ≤ k ∧ k < 2 ^ 63 ∧ ds.length * k.toNat ≤ 16777216 then some (.lst (List.replicate k.toNat ds).flatten) else none
  | _, _ => none
theorem Reps.rep {H : Hp} {vs : List V} {ds : List D} (r : Reps T H vs ds) : ∀ n, Reps T H (List.replicate n vs).flatten (List.replicate n ds).flatten
  | 0 => .nil
  | n + 1 => by
    rw [List.replicate_succ, List.replicate_succ, List.flatten_cons, List.flatten_cons]
    exact r.append (Reps.rep r n)
theorem opd_repL : OpD T rRep .fr repL := by
  intro io m G H σ ρ x y a b z Q s rx ry e hq
  unfold repL at e
  split at e
  · rename_i ds k
    split at e
    · rename_i hc
      cases e
      obtain ⟨p, vs, rfl, h1, r1⟩ := rx.lst s.gh
      refine ⟨p, k, vs, rfl, ry.intV s.gh, h1, hc.1, hc.2.1, by rw [r1.length, sizeLine_eq]; exact hc.2.2, fun l hn => ?_⟩
      exact hq _ G _ (Same.refl _) (same_upd hn) (s.alloc hn) ⟨l, rfl, s.fre hn ⟨_, upd_same, r1.rep _⟩⟩
    · cases e
  · cases e
def repX : D → D → Option D
  | .str z, .int k => if 0 ≤ k ∧ k ≤ 1000 ∧ z.length ≤ 1000 then some (.str ⟨(List.replicate k.toNat z.cps.toList).flatten.toArray⟩) else none
  | _, _ => none
def mulAny (a b : D) : Option D := (mulD a b).or (repL a b)
def rMulA : R2 := fun x y H Q => rI CMulW (fun i j => .int (i * j)) x y H Q ∨ rRep x y H Q
theorem opd_mulAny : OpD T rMulA .st mulAny := opd_mul.or opd_repL.fz
theorem opr_mulAny {X : Cx} : OpR X (binaryOp .Mult) rMulA := op_mulW.or op_rep
end

/-! ### enumerate(xs) -/
def enumD (n : Nat) : List D → List D
  | [] => []
  | d :: ds => .tup [.int n, d] :: enumD (n + 1) ds
def dEnum (d : Rho → Ro D) : Rho → Ro (List D) := fun ρ => (d ρ).bind fun x ρ1 => match x with
  | .lst ds => .ok (enumD 0 ds) ρ1
  | _ => .stuck
theorem enumD_length : ∀ {ds : List D} {n : Nat}, (enumD n ds).length = ds.length
  | [], _ => rfl
  | d :: ds, n => by simp [enumD, enumD_length]
theorem enumD_get : ∀ {ds : List D} {n i : Nat}, (enumD n ds)[i]? = (ds[i]?).map fun d => D.tup [.int ((n + i : Nat) : Int), d]
  | [], _, _ => by simp [enumD]
  | d :: ds, n, 0 => by simp [enumD]
  | d :: ds, n, i + 1 => by
    show (enumD (n + 1) ds)[i]? = _
    rw [enumD_get]
    simp [Nat.add_comm, Nat.add_left_comm]
theorem wk_enum {T : Tb} {G : Hp} {a : Addr} {vs : List V} {ds : List D} (h : G a = some (.lst vs)) (r : Reps T G vs ds) : Wk T (Ite T.K a) G (enumD 0 ds) where
  go := fun i H hi sm => ⟨vs, vs[i]'(by rw [r.length, ← enumD_length (n := 0)]; exact hi), .inl (.inl (sm _ _ h)), List.getElem?_eq_getElem _⟩
  stop := fun H sm => ⟨vs, .inl (.inl (sm _ _ h)), by rw [enumD_length, r.length]; exact Nat.le_refl _⟩
  yld := fun i H x H' d hd sm y => by
    obtain ⟨p, z, e1, e2, e3, e4⟩ := y
    have hz := e4 vs (.inl (.inl (sm _ _ h)))
    obtain ⟨d', k1, k2⟩ := r.getV hz
    rw [enumD_get, k1] at hd
    cases hd
    refine .inr ⟨p, _, _, e2, e1, e3, .cons (.int _) (.cons k2 .nil), ?_⟩
    simp
theorem di_enum {c : Cc} {X : Cx} {q : Bool} {e : Expr} {d : Rho → Ro D} {elts : List Expr} {kk : Nat} {p pos tpos : Pos} (hg : Gl X "enumerate") (hm : X.mg "enumerate" = none) (h : DE c X .st q e d) (hs : starEach [e] X.env = [(false, eval e X.env)] := by rfl) (hK : X.K = c.T.K := by first | rfl | assumption) :
    DI c X q (.Tuple elts kk tpos) (.Call (.Name "enumerate" p) [e] [] pos) (dEnum d) := by
  refine ⟨pi_imp (pi_enum hg hm (pa_cons h.pe pa_nil hs) hs) fun σ H R ⟨m, G, ρ, s, o⟩ => ⟨m, G, ρ, s, ?_⟩⟩
  refine (Out.bind (out_true o)).imp fun x H1 ⟨G1, ρ1, v, g1, e1, s1, r1, o1⟩ => ?_
  cases v with
  | lst ls =>
    have r1' : Rep c.T G1 x (.lst ls) := r1
    cases r1' with
    | lst hs rs =>
      refine ⟨_, _, rfl, by rw [hK]; exact .inl (.inl (s1.gh _ _ hs)), ?_⟩
      rw [hK]
      exact Out.ret o1 s1 (wk_enum hs rs)
  | _ => exact o1.elim
end VL

set_option Elab.async false
set_option linter.all false
set_option maxRecDepth 100000
set_option maxHeartbeats 2000000
/-! VL18: f(lambda: ..) -/
namespace VL
open PySem PySem.Spec PyProof.Rows L2 LamX

/-- the frame of the def that got the lambda -/
abbrev gEnv (g : Addr) (qg : Str) (sg : Scope) (cdg : Value) (s : Shared) : Env := envOfC qg sg s.heap.objs.size g cdg
/-- that def's context: nothing leaves it -/
abbrev gCx (X : Cx) (Ng : List Str) (qg : Str) (sg : Scope) (g : Addr) (cdg : Value) (s : Shared) (H : Hp) : Cx := cxOf C8.CX0 X.prog X.w X.K X.mg X.base Ng qg sg g cdg X.A X.stack s H C8.E0
/-- what is known where a lambda stands: its object, its code -/
structure LamAt (X : Cx) (σ : L2.St) (pins : List (Addr × Obj)) (H : Hp) (s : Shared) (scope : Scope) (params : Arguments) (body : Expr) (f c' : Addr) (pm ctv : Value) : Prop where
  I : Inv X pins σ H s
  L : LamS X.env.scope scope
  ob : s.heap.get? f = some (PySem.W.kla_obj "<lambda>" (X.env.qual ++ "<lambda>") params body scope (cloFrom X.env.cells scope.names []) pm c' ctv)
  fr : H f = none
  nf : f ∉ frs X.stack
  bd : bindArgs (PySem.W.kla_fn "<lambda>" (X.env.qual ++ "<lambda>") params body scope (cloFrom X.env.cells scope.names []) pm (.ref c') ctv) ⟨[], []⟩ = pure []
section
variable {X : Cx} {pins : List (Addr × Obj)} {σ : L2.St} {H HZ : Hp} {s s1 : Shared} {scope : Scope} {params : Arguments} {body : Expr} {f c' : Addr} {pm ctv : Value} {Ng : List Str} {qg : Str} {sg : Scope} {g : Addr} {cdg : Value} {k : Nat}
/-- the lambda runs, called from that def -/
theorem LamAt.run (l : LamAt X σ pins H s scope params body f c' pm ctv) {pn pinsZ : List (Addr × Obj)} {xe : Value → Shared → Prop} {σZ : L2.St} (IZ : Inv ((gCx X Ng qg sg g cdg s H).tr pn xe) pinsZ σZ HZ s1) (hc : HZ c' = some (CodeO c' (X.env.qual ++ "<lambda>")))
    (hr : Room (k + 1) (X.A.deeper (gEnv g qg sg cdg s))) {E : XK} {tb : TE} {Q : VK}
    (hb : ∀ (A : Around) (outer : List Env) (s : Shared) (H : Hp), Room k (A.deeper (lamEnv X scope s.heap.objs.size f c')) → PE (lamCx X A outer s H E scope f c') body tb) (ht : tb σ HZ Q) :
    codeAny (model X.prog X.w) (X.A.deeper (gEnv g qg sg cdg s)) (.call (.ref f) ⟨[], []⟩) (CR (L2.CX X.prog X.w) (gEnv g qg sg cdg s :: X.stack) X.prog X.w HZ s1 Q E) s1 := by
  have ob : s1.heap.get? f = some _ := IZ.base.keep f _ l.ob l.fr l.nf (fun z => nomatch (show f ∈ ([] : List Addr) from z))
  obtain ⟨⟨oc, vs, t, q1, q2, q3⟩, _, _⟩ := IZ.hok c' _ hc
  refine PySem.W.kla_callFunE hr.depth ob rfl l.L.co l.L.gen rfl ⟨c', oc, vs, t, rfl, q1, q2, q3⟩ ?_
  rw [l.bd]
  refine wpAny_pure (wpAny_newFunctionEnv (fun y hy => (l.L.own y hy).2) (fun y hy => absurd hy (by simp)) (fun h1 ns sb => ⟨IZ.nolimit.fresh _ sb, ?_⟩) l.L.kind)
  show codeAny _ _ (.expr body (lamEnv X scope s1.heap.objs.size f c')) _ _
  have kept : ∀ b o, s1.heap.get? b = some o → h1.get? b = some o := fun b o e => sb.extBut b o (Nat.ne_of_lt (Heap.lt_size e)) (Heap.get?_push_of_some _ e)
  have J := lam_start2 (E := E) (scope := scope) (f := f) (c' := c') (tk := s1.toks + ([] : List (Str × Value)).length) l.I l.L IZ.env0 hr.hd IZ.base ns kept
  refine PySem.W.kla_codeExpr (wpAny_mono ((hb _ _ s1 HZ (hr.deeper _)).run [] _ _ HZ Q J ht) (fun v s' out => ?_) fun _ _ out => out)
  obtain ⟨w', H', J', rv, q⟩ := out
  exact ⟨w', H', J'.os, J'.bare, J'.base, J'.hok, rv, q⟩
/-- a(), a the parameter that holds the lambda -/
theorem LamAt.act (l : LamAt X σ pins H s scope params body f c' pm ctv) (hr : Room (k + 1) (X.A.deeper (gEnv g qg sg cdg s))) {pn : List (Addr × Obj)} {xe : Value → Shared → Prop} {W : WX} {tb : XK → TE} {i : Nat} {a : Str} {p1 p2 : Pos} (tk : Takes ((gCx X Ng qg sg g cdg s H).tr pn xe) W)
    (hb : ∀ (A : Around) (outer : List Env) (s : Shared) (H : Hp) (E : XK), Room k (A.deeper (lamEnv X scope s.heap.objs.size f c')) → PE (lamCx X A outer s H E scope f c') body (tb E))
    (hN : Ng[i]? = some a) (hv : Vis sg a) (hd : (a == ("__debug__" : Str)) = false) (hcd : (a == ("__classdict__" : Str)) = false) :
    PE ((gCx X Ng qg sg g cdg s H).tr pn xe) (.Call (.Name a p1) [] [] p2) (fun σZ HZ Q => σZ[i]? = some (some (.ref f)) ∧ HZ c' = some (CodeO c' (X.env.qual ++ "<lambda>")) ∧ tb (WE W σZ) σ HZ Q) := by
  refine ⟨fun pinsZ sZ σZ HZ Q IZ ⟨hs, hc, ht⟩ => ?_⟩
  have look := (pe_var (X := (gCx X Ng qg sg g cdg s H).tr pn xe) (pos := p1) (i := i) hN hv hd hcd).run pinsZ sZ σZ HZ (fun v H1 => v = .ref f ∧ H1 = HZ) IZ ⟨_, hs, rfl, rfl⟩
  refine wpAny_Call_Name_kw (thn look fun u s1 ⟨v, H1, I1, r1, ev, eH⟩ => ?_)
  subst ev eH
  obtain rfl : u = Value.ref f := r1
  refine PySem.W.callWith_F0 ⟨_, _, _, _, I1.base.keep f _ l.ob l.fr l.nf (fun z => nomatch (show f ∈ ([] : List Addr) from z))⟩ ?_
  refine wpAny_call (codeAny_mono (l.run I1 hc hr (fun A outer s H r => hb A outer s H (WE W σZ) r) ht) fun r s' out => ?_)
  cases r with
  | error e => exact passAt tk σZ pinsZ H1 s1 e s' I1 out
  | ok fl =>
    cases fl with
    | ret u => exact I1.after out
    | next => exact out.elim
    | brk => exact out.elim
    | cont => exact out.elim
end
/-- what that def must bring about, given the lambda's reading -/
def GivesS (X : Cx) (Ng : List Str) (x : Str) (sg : Scope) (g : Addr) (cdg : Value) (bg : List Stmt) (a : Str) (q : Str) (tb : XK → TE) (TT : TE) : Prop :=
  ∀ (f c' : Addr) (s : Shared) (H : Hp) (Q : VK) (σ : L2.St),
    (∀ (W : WX) (pn : List (Addr × Obj)) (xe : Value → Shared → Prop) (p1 p2 : Pos), Takes ((gCx X Ng x sg g cdg s H).tr pn xe) W →
      PE ((gCx X Ng x sg g cdg s H).tr pn xe) (.Call (.Name a p1) [] [] p2) (fun σZ HZ Q => σZ[0]? = some (some (.ref f)) ∧ HZ c' = some (CodeO c' q) ∧ tb (WE W σZ) σ HZ Q)) →
    H c' = some (CodeO c' q) → TT σ H Q →
    ∃ t, PSs (gCx X Ng x sg g cdg s H).nox bg t ∧ t { nx := fun _ H' => Q .non H', rt := Q } (L2.start Ng [.ref f]) H
def tLamS (T : List (Addr × Str)) (TT : TE) : TE := fun σ H Q => Tabs T H ∧ ∀ H1, ExtN H H1 → Tabs T H1 → TT σ H1 Q
/-- the def that gets a lambda, as the module has it -/
structure LamF (K : PySem.W.Frag) (mg : Str → Option Value) (x a : Str) (g : Addr) (Ng : List Str) (sg : Scope) (bg : List Stmt) (cdv : Value) : Prop where
  mgx : mg x = some (.ref g)
  kp : PySem.W.keepIn K (.ref g) = true
  fd : ∃ (oc : Value) (od : Option Addr) (osl : Array (Option Value)) (pg : Arguments) (dV kV doc pm ct : Value) (an : Option Addr), K.lookup g = some ⟨oc, od, .func (PySem.W.fnOf x x pg bg sg dV kV doc pm an cdv ct), osl⟩ ∧ L2.Binds K (PySem.W.fnOf x x pg bg sg dV kV doc pm an cdv ct) [a] []
  cd : PySem.W.codeIn K cdv x = true
  sc : FnScope Ng [a] sg
  at0 : Ng[0]? = some a
  va : Vis sg a
theorem pe_lamS {X : Cx} {T : List (Addr × Str)} {TT : TE} {x a : Str} {g c P : Addr} {k : Nat} {bg : List Stmt} {sg : Scope} {cdv : Value} {Ng : List Str} {params : Arguments} {body : Expr} {scope : Scope} {tb : XK → TE} {p lpos pos : Pos}
    (F : LamF X.K X.mg x a g Ng sg bg cdv) (hg : Gl X x) (hG : GivesS X Ng x sg g cdv bg a (X.env.qual ++ "<lambda>") tb TT)
    (TB : TabB X.base X.mg c P) (hcode : X.env.code = .ref c) (hmT : (P, X.env.qual ++ "<lambda>") ∈ T) (hu : ∀ p ∈ T, p.1 = P → p.2 = X.env.qual ++ "<lambda>") (hr : Room (k + 2) X.A) (L : LamS X.env.scope scope) (hdef : defaultsOf params X.env = ([], []))
    (hbind : ∀ (q : Str) (cl : List (Str × Addr)) (pm cv ctv : Value), bindArgs (PySem.W.kla_fn "<lambda>" q params body scope cl pm cv ctv) ⟨[], []⟩ = pure [])
    (hbody : ∀ (A : Around) (outer : List Env) (s : Shared) (H : Hp) (E : XK) (f c' : Addr), Room k (A.deeper (lamEnv X scope s.heap.objs.size f c')) → PE (lamCx X A outer s H E scope f c') body (tb E))
    (hdb : (x == ("__debug__" : Str)) = false := by decide) (hd : (a == ("__debug__" : Str)) = false := by decide) (hcd : (a == ("__classdict__" : Str)) = false := by decide) :
    PE X (.Call (.Name x p) [.Lambda params body scope lpos] [] pos) (tLamS T TT) := by
  obtain ⟨oc, od, osl, pg, dV, kV, doc, pm0, ct, an, lk, hb⟩ := F.fd
  refine ⟨fun pins s σ H Q I ⟨hT, wish⟩ => wpAny_Call_Name_kw (ld_glob I hg F.mgx (PySem.W.callWith_K (h₀ := X.base) I.ok.mod.kin F.kp ?_ (by rfl) (by rfl)) hdb)⟩
  show wpAny _ _ (spliced ((false, eval (.Lambda params body scope lpos) X.env) :: backTo pos (starEach [] X.env))) _ _ s
  refine Calls.spliced_cons (lam_make2 I TB hcode hmT hu hT hdef (L.has I.ok) fun f c' pm' ctv H1 s' I1 eN T1 hf hfn hfr hco => Calls.spliced_nil ⟨I1.kIn, ?_⟩)
  have lam : LamAt X σ pins H1 s' scope params body f c' pm' ctv := ⟨I1, L, hf, hfn, hfr, hbind _ _ _ _ _⟩
  have run : codeAny (model X.prog X.w) X.A (.call (.ref g) ⟨[.ref f], []⟩) (CR C8.CX0 X.stack X.prog X.w H1 s' Q C8.E0) s' := by
    refine run_ofS (N := Ng) (ps := [a]) (us := [.ref f]) (vs := [.ref f]) lk F.cd F.sc hr I1.env0 (hb s' [.ref f] I1.kIn rfl) (.cons rfl .nil) rfl fun hr' => ?_
    obtain ⟨t, h1, h2⟩ := hG f c' s' H1 Q σ (fun W pn xe p1 p2 tk => lam.act (i := 0) hr' tk (fun A outer s H E r => hbody A outer s H E f c' r) F.at0 F.va hd hcd) hco (wish H1 eN T1)
    exact ⟨t, h1.nox, h2⟩
  refine wpAny_call (codeAny_mono run fun r s2 out => ?_)
  cases r with
  | error e => exact (show False from out).elim
  | ok fl =>
    cases fl with
    | ret u => exact I1.after out
    | next => exact out.elim
    | brk => exact out.elim
    | cont => exact out.elim
end VL

set_option Elab.async false
set_option linter.all false
set_option maxRecDepth 100000
set_option maxHeartbeats 2000000
/-! VL19: f(lambda: ..), by denotations -/
namespace VL
open PySem PySem.Spec L2 LamX

/-- what the lambda comes to -/
inductive Th where
  | ret (d : D)
  | err (e : Str) (fs : List (Str × D))
  | stuck
def thOf (r : Ro D) : Th := match r with
  | .ok d _ => .ret d
  | .err e fs _ => .err e fs
  | .stuck => .stuck
def dThk (t : Th) : Rho → Ro D := fun ρ => match t with
  | .ret d => .ok d ρ
  | .err e fs => .err e fs ρ
  | .stuck => .stuck
/-- the tables of the code, in the frame that makes lambdas -/
def ioW (tabs : List (Addr × Str)) : Io where
  ix := []
  am := fun m G H => Tabs tabs H ∧ ∀ a ps, m.R a ≠ some (.tbl ps)
  st := fun m G G' H H' x g h => ⟨fun p hp => by
    obtain ⟨ps, h1, h2, h3⟩ := x.1 p hp
    refine ⟨ps, h _ _ h1 True.intro, h2, fun pos cv hc => ?_⟩
    obtain ⟨c, e1, e2⟩ := h3 pos cv hc
    exact ⟨c, e1, h _ _ e2 True.intro⟩, x.2⟩
  cmp := True
  mv := fun _ m m' G H x e h => ⟨x.1, fun a ps z => x.2 a ps (h a ps z)⟩
/-- in the def that got the lambda -/
def ioT (f c' : Addr) (q : Str) (R0 G0 : Hp) : Io where
  ix := [0]
  am := fun m G H => m.pv 0 = .ref f ∧ H c' = some (CodeO c' q) ∧ (∀ b o, R0 b = some o → m.R b = some o) ∧ Same G0 G
  st := fun m G G' H H' x g h => ⟨x.1, h _ _ x.2.1 True.intro, x.2.2.1, x.2.2.2.trans g⟩
  cmp := False
  mv := fun hc => hc.elim
section
variable {T : Tb} {io io' : Io} {m m' : Am} {G G' H H' : Hp} {σ σ' : L2.St} {ρ ρ' : Rho}
/-- all that is neither frozen nor owned by these slots nor a table -/
noncomputable def othersW (G H : Hp) (σ : L2.St) (ρ : Rho) : Hp := fun a => by
  classical
  exact if (∃ (i : Nat) (d : D), ρ[i]? = some (some (.ow d)) ∧ σ[i]? = some (some (.ref a))) ∨ (∃ ps, H a = some (.tbl ps)) then none else others G H a
theorem othersW_some {a : Addr} {o : HO} (h : othersW G H σ ρ a = some o) : H a = some o ∧ G a = none ∧ (∀ (i : Nat) (d : D), ρ[i]? = some (some (.ow d)) → σ[i]? ≠ some (some (.ref a))) ∧ ∀ ps, o ≠ .tbl ps := by
  unfold othersW at h
  split at h
  · cases h
  · rename_i hn
    obtain ⟨h1, h2⟩ := others_some h
    refine ⟨h1, h2, fun i d e z => hn (.inl ⟨i, d, e, z⟩), fun ps e => hn (.inr ⟨ps, by rw [← e]; exact h1⟩)⟩
theorem othersW_at {a : Addr} {o : HO} (h : H a = some o) (g : G a = none) (n : ∀ (i : Nat) (d : D), ρ[i]? = some (some (.ow d)) → σ[i]? ≠ some (some (.ref a))) (t : ∀ ps, o ≠ .tbl ps) : othersW G H σ ρ a = some o := by
  unfold othersW
  split
  · rename_i z
    rcases z with ⟨i, d, e, z⟩ | ⟨ps, z⟩
    · exact absurd z (n i d e)
    · rw [h] at z
      exact absurd (Option.some.inj z) (t ps)
  · exact others_at h g
/-- more is others' -/
theorem SR.more (s : SR T (ioW tabs) m G H σ ρ) : SR T (ioW tabs) ⟨othersW G H σ ρ, m.pv⟩ G H σ ρ := by
  refine ⟨s.gh, fun a o h => (othersW_some h).1, fun a o h => (othersW_some h).2.1, s.len, s.fz, fun i d e => ?_, s.ap, fun i hi => (nomatch hi), ⟨s.am.1, fun a ps h => (othersW_some h).2.2.2 ps rfl⟩, s.gt⟩
  obtain ⟨p, e1, e2, e3, e4⟩ := s.ow i d e
  refine ⟨p, e1, e2, ?_, e4⟩
  show othersW G H σ ρ p = none
  cases hp : othersW G H σ ρ p with
  | none => rfl
  | some o => exact absurd e1 ((othersW_some hp).2.2.1 i d e)
/-- the caller's state, as the def that got the lambda stands -/
theorem SR.caller {mC : Am} {GC HC : Hp} {σC : L2.St} {ρC : Rho} (sC : SR T io mC GC HC σC ρC) (g : Same GC G) (s : SR T io' m G H σ ρ) (hR : ∀ b o, others GC HC b = some o → m.R b = some o) : SR T io mC G H σC ρC ∧ Same HC H := by
  have s0 : SR T (ioL []) ⟨others GC HC, m.pv⟩ G H σ ρ := by
    refine ⟨s.gh, fun a o h => s.rh a o (hR a o h), fun a o h => s.rg a o (hR a o h), s.len, s.fz, fun i d e => ?_, s.ap, fun i hi => (nomatch hi), True.intro, s.gt⟩
    obtain ⟨p, e1, e2, e3, e4⟩ := s.ow i d e
    refine ⟨p, e1, e2, ?_, e4⟩
    show others GC HC p = none
    cases hp : others GC HC p with
    | none => rfl
    | some o =>
      rw [hR p o hp] at e3
      cases e3
  exact sC.back0 g s0
/-- behind the lambda, the def goes on -/
theorem SR.onward {mC : Am} {G2 H2 : Hp} {σC : L2.St} {ρC : Rho} {f c' : Addr} {q : Str} {R0 G0 : Hp} (s : SR T (ioT f c' q R0 G0) m G H σ ρ) (g : Same G G2) (h : Same H H2) (s2 : SR T (ioW tabs) ⟨othersW G H σC ρC, mC.pv⟩ G2 H2 σC ρC) : SR T (ioT f c' q R0 G0) m G2 H2 σ ρ := by
  have keep : ∀ a o, H a = some o → G a = none → G2 a = none := fun a o ha hg => by
    by_cases hown : ∃ (i : Nat) (d : D), ρC[i]? = some (some (.ow d)) ∧ σC[i]? = some (some (.ref a))
    · obtain ⟨i, d, e1, e2⟩ := hown
      obtain ⟨p, k1, k2, _⟩ := s2.ow i d e1
      rw [e2] at k1
      cases k1
      exact k2
    · by_cases ht : ∃ ps, o = .tbl ps
      · obtain ⟨ps, rfl⟩ := ht
        cases hg2 : G2 a with
        | none => rfl
        | some u =>
          have e1 := s2.gh a u hg2
          rw [h a _ ha] at e1
          cases e1
          exact absurd hg2 (s2.gt a ps)
      · exact s2.rg a o (othersW_at ha hg (fun i d e z => hown ⟨i, d, e, z⟩) fun ps z => ht ⟨ps, z⟩)
  refine ⟨s2.gh, s.rh.trans h, fun a o ha => keep a o (s.rh a o ha) (s.rg a o ha), s.len, fun i d e => ?_, fun i d e => ?_, s.ap, s.pn, (ioT f c' q R0 G0).st _ _ _ _ _ s.am g (.of h), s2.gt⟩
  · obtain ⟨v, e1, e2⟩ := s.fz i d e
    exact ⟨v, e1, e2.mono g⟩
  · obtain ⟨p, e1, e2, e3, e4⟩ := s.ow i d e
    obtain ⟨o, ho⟩ := e4.obj
    exact ⟨p, e1, keep p o ho e2, e3, e4.mono g fun u hu => h _ _ hu⟩
end

/-- what a def that got a lambda comes to -/
def So.lam (r : So) : Option D := match r with
  | .nx _ => some .non
  | .rt d _ => some d
  | _ => none
def dLam (F : Th → So) (d : Rho → Ro D) : Rho → Ro D := fun ρ => Ro.of (F (thOf (d ρ))).lam ρ
/-- a def that gets a lambda: what its body comes to -/
def GivesD (T : Tb) (X : Cx) (Ng : List Str) (x : Str) (sg : Scope) (g : Addr) (cdg : Value) (bg : List Stmt) (a : Str) (sb : Th → Rho → So) : Prop :=
  ∀ (s : Shared) (H : Hp) (f c' : Addr) (q : Str) (R0 G0 : Hp) (th : Th),
    (∀ (W : WX) (pn : List (Addr × Obj)) (xe : Value → Shared → Prop) (p1 p2 : Pos), Takes ((gCx X Ng x sg g cdg s H).tr pn xe) W → DE ⟨T, ioT f c' q R0 G0, W⟩ ((gCx X Ng x sg g cdg s H).tr pn xe) .st true (.Call (.Name a p1) [] [] p2) (dThk th)) →
    DSs ⟨T, ioT f c' q R0 G0, fun _ _ _ _ => False⟩ (gCx X Ng x sg g cdg s H).nox bg (sb th)
theorem de_lam {W : WX} {T : Tb} {tabs : List (Addr × Str)} {X : Cx} {x a : Str} {g cc P : Addr} {k : Nat} {bg : List Stmt} {sg : Scope} {cdv : Value} {Ng : List Str} {params : Arguments} {body : Expr} {scope : Scope} {d : Rho → Ro D} {sb : Th → Rho → So} {p lpos pos : Pos}
    (F : LamF X.K X.mg x a g Ng sg bg cdv) (hg : Gl X x) (hG : GivesD T X Ng x sg g cdv bg a sb)
    (TB : TabB X.base X.mg cc P) (hcode : X.env.code = .ref cc) (hmT : (P, X.env.qual ++ "<lambda>") ∈ tabs) (hu : ∀ p ∈ tabs, p.1 = P → p.2 = X.env.qual ++ "<lambda>") (hr : Room (k + 2) X.A) (L : LamS X.env.scope scope) (hdef : defaultsOf params X.env = ([], []))
    (hbind : ∀ (q : Str) (cl : List (Str × Addr)) (pm cv ctv : Value), bindArgs (PySem.W.kla_fn "<lambda>" q params body scope cl pm cv ctv) ⟨[], []⟩ = pure [])
    (hbody : ∀ (A : Around) (outer : List Env) (s : Shared) (H : Hp) (E : XK) (f c' : Addr), Room k (A.deeper (lamEnv X scope s.heap.objs.size f c')) → DE ⟨T, ioW tabs, fun cls dx _ H => E cls dx H⟩ (lamCx X A outer s H E scope f c') .st true body d)
    (hdb : (x == ("__debug__" : Str)) = false := by decide) (hd : (a == ("__debug__" : Str)) = false := by decide) (hcd : (a == ("__classdict__" : Str)) = false := by decide) :
    DE ⟨T, ioW tabs, W⟩ X .st false (.Call (.Name x p) [.Lambda params body scope lpos] [] pos) (dLam (fun th => sb th (List.replicate Ng.length none)) d) := by
  refine ⟨pe_imp (pe_lamS (T := tabs) (tb := fun E => tE ⟨T, ioW tabs, fun cls dx _ H => E cls dx H⟩ .st true d)
    (TT := fun σ H Q => ∃ mC GC ρC z, SR T (ioW tabs) mC GC H σ ρC ∧ (sb (thOf (d ρC)) (List.replicate Ng.length none)).lam = some z ∧ ∀ x G' H', Same GC G' → SR T (ioW tabs) mC G' H' σ ρC → Rep T G' x z → Q x H')
    F hg ?_ TB hcode hmT hu hr L hdef hbind (fun A outer s H E f c' r => (hbody A outer s H E f c' r).pe) hdb hd hcd) fun σ H Q ⟨m, G, ρ, s, o⟩ => ?_⟩
  · intro f c' s H Q σ act hco ⟨mC, GC, ρC, z, sC, hz, hq⟩
    refine ⟨tS ⟨T, ioT f c' (X.env.qual ++ "<lambda>") (others GC H) GC, fun _ _ _ _ => False⟩ (sb (thOf (d ρC))), (hG s H f c' _ (others GC H) GC (thOf (d ρC)) fun W pn xe p1 p2 tk => ⟨pe_imp (act W pn xe p1 p2 tk) ?_⟩).pss, ?_⟩
    · rintro σZ HZ QZ ⟨m, G, ρ, s1, o⟩
      have a1 : σZ[0]? = some (some (m.pv 0)) := s1.pn 0 (by show 0 ∈ [0]; simp)
      rw [s1.am.1] at a1
      obtain ⟨sC1, smC⟩ := sC.caller s1.am.2.2.2 s1 s1.am.2.2.1
      refine ⟨a1, s1.am.2.1, ⟨othersW G HZ σ ρC, mC.pv⟩, G, ρC, sC1.more, ?_⟩
      cases hd : d ρC with
      | ok z' ρ' =>
        rw [hd] at o
        intro x G2 H2 g2 q2 s2 r2
        obtain ⟨h2, e2⟩ := q2 rfl
        subst e2
        exact o x G2 H2 g2 (fun _ => ⟨h2, rfl⟩) (s1.onward g2 h2 s2) r2
      | err e fs ρ' =>
        rw [hd] at o
        intro dx G2 H2 g2 q2 s2 r2
        obtain ⟨h2, e2⟩ := q2 rfl
        subst e2
        exact o dx G2 H2 g2 (fun _ => ⟨h2, rfl⟩) (s1.onward g2 h2 s2) r2
      | stuck =>
        rw [hd] at o
        exact o
    · have hlen : (L2.start Ng [V.ref f]).length = Ng.length := by
        have h1 : 1 ≤ Ng.length := by
          have := (List.getElem?_eq_some_iff.mp F.at0).1
          omega
        rw [start_eq]
        simp
        omega
      have noat : ∀ {j : Nat} {y : Sl}, (List.replicate Ng.length (none : Option Sl))[j]? = some (some y) → False := fun {j y} h => by
        rw [List.getElem?_replicate] at h
        split at h <;> cases h
      have s0 : SR T (ioT f c' (X.env.qual ++ "<lambda>") (others GC H) GC) ⟨others GC H, fun _ => .ref f⟩ GC H (L2.start Ng [V.ref f]) (List.replicate Ng.length none) := by
        refine ⟨sC.gh, fun a o h => (others_some h).1, fun a o h => (others_some h).2, by rw [hlen, List.length_replicate], fun i y h => (noat h).elim, fun i y h => (noat h).elim, fun i j y w p h => (noat h).elim, fun i hi => ?_, ⟨rfl, hco, fun _ _ h => h, Same.refl _⟩, sC.gt⟩
        have : i = 0 := by simpa [ioT] using hi
        subst this
        rw [start_eq]
        rfl
      have back : ∀ {σ' : L2.St} {G' H' : Hp} {ρ' : Rho}, Same GC G' → SR T (ioT f c' (X.env.qual ++ "<lambda>") (others GC H) GC) ⟨others GC H, fun _ => .ref f⟩ G' H' σ' ρ' → SR T (ioW tabs) mC G' H' σ ρC := fun g s' => (sC.caller g s' fun _ _ h => h).1
      refine ⟨_, GC, _, s0, ?_⟩
      cases hs : sb (thOf (d ρC)) (List.replicate Ng.length none) with
      | nx ρ' =>
        rw [hs] at hz
        cases hz
        exact fun σ' G' H' g s' => hq .non G' H' g (back g s') .non
      | rt z' ρ' =>
        rw [hs] at hz
        cases hz
        exact fun x σ' G' H' g s' r => hq x G' H' g (back g s') r
      | rf _ _ =>
        rw [hs] at hz
        cases hz
      | bk _ =>
        rw [hs] at hz
        cases hz
      | ct _ =>
        rw [hs] at hz
        cases hz
      | err _ _ _ =>
        rw [hs] at hz
        cases hz
      | stuck =>
        rw [hs] at hz
        cases hz
  · refine ⟨s.am.1, fun H1 eN t1 => ?_⟩
    have s1 : SR T (ioW tabs) m G H1 σ ρ := by
      have nt : ∀ {a o}, G a = some o → ∀ ps, o ≠ .tbl ps := fun {a o} h ps z => s.gt a ps (by rw [← z]; exact h)
      refine ⟨fun a o h => eN a o (s.gh a o h) (nt h), fun a o h => eN a o (s.rh a o h) fun ps z => s.am.2 a ps (by rw [← z]; exact h), s.rg, s.len, s.fz, fun i y e => ?_, s.ap, s.pn, ⟨t1, s.am.2⟩, s.gt⟩
      obtain ⟨p, e1, e2, e3, e4⟩ := s.ow i y e
      refine ⟨p, e1, e2, e3, ?_⟩
      obtain ⟨o', ho'⟩ := e4.obj
      exact e4.mono (Same.refl _) fun u hu => eN p u hu (e4.nottbl hu)
    have o' : Out ⟨T, ioW tabs, W⟩ m G H σ ρ false (KRep T m σ .st) (Ro.of (sb (thOf (d ρ)) (List.replicate Ng.length none)).lam ρ) Q := o
    cases hl : (sb (thOf (d ρ)) (List.replicate Ng.length none)).lam with
    | none =>
      rw [hl] at o'
      exact o'.elim
    | some z =>
      rw [hl] at o'
      exact ⟨m, G, ρ, z, s1, hl, fun x G' H' g s' r => o' x G' H' g (fun z => nomatch z) s' r⟩
end VL

set_option Elab.async false
set_option linter.all false
set_option maxRecDepth 100000
set_option maxHeartbeats 2000000
/-! VL20: a, b = x, y; text * n -/
namespace VL
open PySem PySem.Spec L2

/-- values to be stored: frozen, or new and to be owned -/
inductive QRep (T : Tb) (m : Am) (G H : Hp) (σ : L2.St) (ρ : Rho) : List Bool → List V → List D → Prop
  | nil : QRep T m G H σ ρ [] [] []
  | fz {x : V} {d : D} {os : List Bool} {xs : List V} {ds : List D} : Rep T G x d → QRep T m G H σ ρ os xs ds → QRep T m G H σ ρ (false :: os) (x :: xs) (d :: ds)
  | ow {p : Addr} {d : D} {os : List Bool} {xs : List V} {ds : List D} : Fre T m G H σ ρ p d → (∀ j : Nat, os[j]? = some true → xs[j]? ≠ some (.ref p)) → QRep T m G H σ ρ os xs ds → QRep T m G H σ ρ (true :: os) (.ref p :: xs) (d :: ds)
def tQ (c : Cc) (os : List Bool) (d : Rho → Ro (List D)) : TA := fun σ H Q => ∃ m G ρ, SR c.T c.io m G H σ ρ ∧ Out c m G H σ ρ false (fun G' H' ρ' xs vs => QRep c.T m G' H' σ ρ' os xs vs) (d ρ) Q
structure DQ (c : Cc) (X : Cx) (os : List Bool) (es : List Expr) (d : Rho → Ro (List D)) : Prop where
  pa : PA X es (tQ c os d)
theorem QRep.unwith {T : Tb} {m : Am} {p : Addr} {o : HO} {G H : Hp} {σ : L2.St} {ρ : Rho} (hr : m.R p = none) : ∀ {os : List Bool} {xs : List V} {ds : List D}, QRep T (m.with p o) G H σ ρ os xs ds → QRep T m G H σ ρ os xs ds ∧ ∀ j : Nat, os[j]? = some true → xs[j]? ≠ some (.ref p)
  | _, _, _, .nil => ⟨.nil, fun j h => by simp at h⟩
  | _, _, _, .fz r t => by
    obtain ⟨a, b⟩ := QRep.unwith hr t
    refine ⟨.fz r a, fun j h => ?_⟩
    cases j with
    | zero => simp at h
    | succ j => simpa using b j (by simpa using h)
  | _, _, _, @QRep.ow _ _ _ _ _ _ p' _ _ _ _ f n t => by
    obtain ⟨a, b⟩ := QRep.unwith hr t
    have fr : upd m.R p o p' = none := f.r
    have hp : p' ≠ p := fun z => by
      rw [z, upd_same] at fr
      cases fr
    rw [upd_ne hp] at fr
    refine ⟨.ow ⟨f.g, fr, f.own, f.ap⟩ n a, fun j h => ?_⟩
    cases j with
    | zero =>
      intro z
      simp at z
      exact hp z
    | succ j => simpa using b j (by simpa using h)
section
variable {c : Cc} {X : Cx} {q qa qb : Bool} {e : Expr} {es : List Expr} {d : Rho → Ro D} {ds : Rho → Ro (List D)} {os : List Bool} {pos : Pos}
theorem dq_nil : DQ c X [] [] dNil := ⟨pa_imp pa_nil fun σ H Q ⟨m, G, ρ, s, o⟩ => Out.ret o s .nil⟩
theorem dq_fz (ha : DE c X .st q e d) (hr : DQ c X os es ds) (hs : starEach (e :: es) X.env = (false, eval e X.env) :: starEach es X.env := by rfl) : DQ c X (false :: os) (e :: es) (dCons d ds) := by
  refine ⟨pa_imp (pa_cons ha.pe hr.pa hs) fun σ H Q ⟨m, G, ρ, s, o⟩ => ⟨m, G, ρ, s, ?_⟩⟩
  have o' : Out c m G H σ ρ (q && false) (fun G' H' ρ' xs vs => QRep c.T m G' H' σ ρ' (false :: os) xs vs) (dCons d ds ρ) Q := by
    rw [Bool.and_false]
    exact o
  refine (Out.bind o').imp fun x H1 ⟨G1, ρ1, v, g1, e1, s1, r1, o1⟩ => ⟨m, G1, ρ1, s1, ?_⟩
  refine (Out.bind (q1 := false) (q2 := true) o1).imp fun xs H2 ⟨G2, ρ2, vs, g2, e2, s2, r2, o2⟩ => ?_
  exact Out.ret o2 s2 (.fz (Rep.mono g2 r1) r2)
theorem dq_ow (ha : DE c X .fr q e d) (hr : DQ c X os es ds) (hs : starEach (e :: es) X.env = (false, eval e X.env) :: starEach es X.env := by rfl) (hcp : c.io.cmp := by trivial) : DQ c X (true :: os) (e :: es) (dCons d ds) := by
  refine ⟨pa_imp (pa_cons ha.pe hr.pa hs) fun σ H Q ⟨m, G, ρ, s, o⟩ => ⟨m, G, ρ, s, ?_⟩⟩
  have o' : Out c m G H σ ρ (q && false) (fun G' H' ρ' xs vs => QRep c.T m G' H' σ ρ' (true :: os) xs vs) (dCons d ds ρ) Q := by
    rw [Bool.and_false]
    exact o
  refine (Out.bind o').imp fun x H1 ⟨G1, ρ1, v, g1, e1, s1, ⟨p, ep, f⟩, o1⟩ => ?_
  subst ep
  obtain ⟨u, hu⟩ := f.own.obj
  have sl := s1.lend hcp f.g hu f.ap (f.own.nottbl hu)
  refine ⟨m.with p u, G1, ρ1, sl, ?_⟩
  have o1' : Out c m G1 H1 σ ρ1 false (fun G' H' ρ' xs vs => QRep c.T m G' H' σ ρ' (true :: os) xs vs) ((ds ρ1).bind fun xs ρ2 => .ok (v :: xs) ρ2) Q := o1
  cases hd : ds ρ1 with
  | stuck =>
    rw [hd] at o1'
    exact o1'.elim
  | err e' fs ρ2 =>
    rw [hd] at o1'
    exact fun dx G' H' g _ s' rx => o1' dx G' H' g (fun z => nomatch z) (s'.unlend hcp f.r) rx
  | ok vs ρ2 =>
    rw [hd] at o1'
    intro xs G' H' g _ s' rq
    have hp : H' p = some u := s'.rh p u upd_same
    obtain ⟨r2, n2⟩ := QRep.unwith f.r rq
    refine o1' (.ref p :: xs) G' H' g (fun z => nomatch z) (s'.unlend hcp f.r) (.ow ⟨s'.rg p u upd_same, f.r, f.own.mono g fun w hw => by rw [hu] at hw; cases hw; exact hp, fun i y hy z => ?_⟩ n2 r2)
    obtain ⟨p', j1, _, j3, _⟩ := s'.ow i y hy
    rw [z] at j1
    cases j1
    have j3' : upd m.R p u p = none := j3
    rw [upd_same] at j3'
    cases j3'
end
def mkSl (o : Bool) (d : D) : Option Sl := if o = true then some (.ow d) else some (.fz d)
theorem SR.setQ {T : Tb} {io : Io} {m : Am} {G H : Hp} {σ : L2.St} {ρ : Rho} {o : Bool} {x : V} {d : D} {os : List Bool} {xs : List V} {ds : List D} (i : Nat) (s : SR T io m G H σ ρ) (r : QRep T m G H σ ρ (o :: os) (x :: xs) (d :: ds)) (hi : i ∉ io.ix) :
    SR T io m G H (σ.set i (some x)) (ρ.set i (mkSl o d)) ∧ QRep T m G H (σ.set i (some x)) (ρ.set i (mkSl o d)) os xs ds := by
  have keep : ∀ {os : List Bool} {xs : List V} {ds : List D} {y : Option Sl}, (∀ e, y = some (.ow e) → ∃ p, x = .ref p ∧ ∀ j : Nat, os[j]? = some true → xs[j]? ≠ some (.ref p)) → QRep T m G H σ ρ os xs ds → QRep T m G H (σ.set i (some x)) (ρ.set i y) os xs ds := by
    intro os xs ds y hy t
    induction t with
    | nil => exact .nil
    | fz a b ih => exact .fz a (ih fun e he => by
        obtain ⟨p, h1, h2⟩ := hy e he
        exact ⟨p, h1, fun j hj => by simpa using h2 (j + 1) (by simpa using hj)⟩)
    | @ow p' d' os' xs' ds' f n b ih =>
      refine .ow ⟨f.g, f.r, f.own, fun k e hk z => ?_⟩ n (ih fun e he => by
        obtain ⟨p, h1, h2⟩ := hy e he
        exact ⟨p, h1, fun j hj => by simpa using h2 (j + 1) (by simpa using hj)⟩)
      by_cases hki : k = i
      · subst hki
        have hl : k < ρ.length := by
          have := (List.getElem?_eq_some_iff.mp hk).1
          simpa using this
        rw [List.getElem?_set_self hl] at hk
        rw [List.getElem?_set_self (by rw [s.len]; exact hl)] at z
        obtain ⟨p, h1, h2⟩ := hy e (Option.some.inj hk)
        subst h1
        cases z
        exact h2 0 (by simp) (by simp)
      · rw [List.getElem?_set_ne (Ne.symm hki)] at hk z
        exact f.ap k e hk z
  cases r with
  | fz a b => exact ⟨s.set a hi, keep (fun e he => by cases he) b⟩
  | ow f n b => exact ⟨s.setO f hi, keep (fun e he => ⟨_, rfl, n⟩) b⟩
def sPar (i : Nat) (o1 : Bool) (j : Nat) (o2 : Bool) (ds : Rho → Ro (List D)) : Rho → So := fun ρ => (ds ρ).then fun xs ρ1 => match xs with
  | [x, y] => .nx ((ρ1.set i (mkSl o1 x)).set j (mkSl o2 y))
  | _ => .stuck
def sPar3 (i : Nat) (o1 : Bool) (j : Nat) (o2 : Bool) (l : Nat) (o3 : Bool) (ds : Rho → Ro (List D)) : Rho → So := fun ρ => (ds ρ).then fun xs ρ1 => match xs with
  | [x, y, z] => .nx (((ρ1.set i (mkSl o1 x)).set j (mkSl o2 y)).set l (mkSl o3 z))
  | _ => .stuck
theorem QRep.none {T : Tb} {m : Am} {G H : Hp} {σ : L2.St} {ρ : Rho} {xs : List V} {vs : List D} (r : QRep T m G H σ ρ [] xs vs) : xs = [] ∧ vs = [] := by
  cases r
  exact ⟨rfl, rfl⟩
theorem QRep.more {T : Tb} {m : Am} {G H : Hp} {σ : L2.St} {ρ : Rho} {o : Bool} {os : List Bool} {xs : List V} {vs : List D} (r : QRep T m G H σ ρ (o :: os) xs vs) : ∃ x xs' d vs', xs = x :: xs' ∧ vs = d :: vs' ∧ QRep T m G H σ ρ os xs' vs' := by
  cases r with
  | fz a b => exact ⟨_, _, _, _, rfl, rfl, b⟩
  | ow f n b => exact ⟨_, _, _, _, rfl, rfl, b⟩
theorem QRep.two {T : Tb} {m : Am} {G H : Hp} {σ : L2.St} {ρ : Rho} {o1 o2 : Bool} {xs : List V} {vs : List D} (r : QRep T m G H σ ρ [o1, o2] xs vs) : ∃ v w dv dw, xs = [v, w] ∧ vs = [dv, dw] := by
  obtain ⟨x, xs1, d, vs1, rfl, rfl, r1⟩ := r.more
  obtain ⟨y, xs2, e, vs2, rfl, rfl, r2⟩ := r1.more
  obtain ⟨rfl, rfl⟩ := r2.none
  exact ⟨_, _, _, _, rfl, rfl⟩
theorem QRep.three {T : Tb} {m : Am} {G H : Hp} {σ : L2.St} {ρ : Rho} {o1 o2 o3 : Bool} {xs : List V} {vs : List D} (r : QRep T m G H σ ρ [o1, o2, o3] xs vs) : ∃ u v w du dv dw, xs = [u, v, w] ∧ vs = [du, dv, dw] := by
  obtain ⟨x, xs1, d, vs1, rfl, rfl, r1⟩ := r.more
  obtain ⟨y, z, e, f, rfl, rfl⟩ := r1.two
  exact ⟨_, _, _, _, _, _, rfl, rfl⟩
section
variable {c : Cc} {X : Cx} {ds : Rho → Ro (List D)} {pos : Pos}
theorem ds_par (i j : Nat) {o1 o2 : Bool} {x y : Str} {a b : Expr} {px py pt : Pos} {kt k2 : Nat} {pt2 : Pos} (h : DQ c X [o1, o2] [a, b] ds) (hc : X.calm = true) (hN : X.N.Nodup) (hi : X.N[i]? = some x := by rfl) (hj : X.N[j]? = some y := by rfl) (hij : i ≠ j := by decide)
    (hx : X.env.scope.names.lookup x = some .local := by rfl) (hy : X.env.scope.names.lookup y = some .local := by rfl) (h1 : i ∉ c.io.ix := by exact ni rfl) (h2 : j ∉ c.io.ix := by exact ni rfl)
    (hw : swappedStores [.Tuple [.Name x px, .Name y py] kt pt] (.Tuple [a, b] k2 pt2) X.env = pure (some [x, y]) := by rfl)
    (hs : swapsWithSole [.Tuple [.Name x px, .Name y py] kt pt] (.Tuple [a, b] k2 pt2) pos.line X.env = pure false := by rfl) :
    DS c X (.Assign [.Tuple [.Name x px, .Name y py] kt pt] (.Tuple [a, b] k2 pt2) pos) (sPar i o1 j o2 ds) := by
  refine ⟨ps_imp (ps_par hc hN hi hj hij hx hy h.pa hw hs) fun Z σ H ⟨m, G, ρ, s, o⟩ => ⟨m, G, ρ, s, ?_⟩⟩
  refine (Out.then (q := false) o).imp fun xs H1 ⟨G1, ρ1, vs, g1, _, s1, r1, ob⟩ => ?_
  have r1' : QRep c.T m G1 H1 σ ρ1 [o1, o2] xs vs := r1
  obtain ⟨v, w, dv, dw, rfl, rfl⟩ : ∃ v w dv dw, xs = [v, w] ∧ vs = [dv, dw] := by
    exact r1'.two
  obtain ⟨s2, r2⟩ := s1.setQ i r1' h1
  obtain ⟨s3, r3⟩ := s2.setQ j r2 h2
  exact ⟨v, w, rfl, OutS.nx ob s3⟩
theorem ds_par3 (i j l : Nat) {o1 o2 o3 : Bool} {x y z : Str} {a b e : Expr} {px py pz pt : Pos} {kt k2 : Nat} {pt2 : Pos} (h : DQ c X [o1, o2, o3] [a, b, e] ds) (hc : X.calm = true) (hN : X.N.Nodup) (hi : X.N[i]? = some x := by rfl) (hj : X.N[j]? = some y := by rfl) (hl : X.N[l]? = some z := by rfl) (hij : i ≠ j := by decide) (hil : i ≠ l := by decide) (hjl : j ≠ l := by decide)
    (hx : X.env.scope.names.lookup x = some .local := by rfl) (hy : X.env.scope.names.lookup y = some .local := by rfl) (hz : X.env.scope.names.lookup z = some .local := by rfl) (h1 : i ∉ c.io.ix := by exact ni rfl) (h2 : j ∉ c.io.ix := by exact ni rfl) (h3 : l ∉ c.io.ix := by exact ni rfl)
    (hw : swappedStores [.Tuple [.Name x px, .Name y py, .Name z pz] kt pt] (.Tuple [a, b, e] k2 pt2) X.env = pure (some [x, y, z]) := by rfl)
    (hs : swapsWithSole [.Tuple [.Name x px, .Name y py, .Name z pz] kt pt] (.Tuple [a, b, e] k2 pt2) pos.line X.env = pure false := by rfl) :
    DS c X (.Assign [.Tuple [.Name x px, .Name y py, .Name z pz] kt pt] (.Tuple [a, b, e] k2 pt2) pos) (sPar3 i o1 j o2 l o3 ds) := by
  refine ⟨ps_imp (ps_par3 hc hN hi hj hl hij hil hjl hx hy hz h.pa hw hs) fun Z σ H ⟨m, G, ρ, s, o⟩ => ⟨m, G, ρ, s, ?_⟩⟩
  refine (Out.then (q := false) o).imp fun xs H1 ⟨G1, ρ1, vs, g1, _, s1, r1, ob⟩ => ?_
  have r1' : QRep c.T m G1 H1 σ ρ1 [o1, o2, o3] xs vs := r1
  obtain ⟨u, v, w, du, dv, dw, rfl, rfl⟩ : ∃ u v w du dv dw, xs = [u, v, w] ∧ vs = [du, dv, dw] := by
    exact r1'.three
  obtain ⟨s2, r2⟩ := s1.setQ i r1' h1
  obtain ⟨s3, r3⟩ := s2.setQ j r2 h2
  obtain ⟨s4, r4⟩ := s3.setQ l r3 h3
  exact ⟨u, v, w, rfl, OutS.nx ob s4⟩
end

/-! ### text * n -/
theorem foldl_len {α : Type} (xs : Array α) : ∀ (n : Nat) (acc : Array α), ((List.replicate n xs).foldl (· ++ ·) acc).size = acc.size + n * xs.size
  | 0, acc => by simp
  | n + 1, acc => by
    rw [List.replicate_succ, List.foldl_cons, foldl_len xs n, Array.size_append, Nat.succ_mul]
    omega
def repS (z : Str) (n : Nat) : Str := ⟨(List.replicate n z.cps).foldl (· ++ ·) #[]⟩
def rRepS : R2 := fun x y H Q => ∃ z k, x = .str z ∧ y = .int k ∧ 2 ≤ k ∧ k ≤ 1000 ∧ z.length = 1 ∧ Q (.str (repS z k.toNat)) H
theorem op_repS {X : Cx} : OpR X (binaryOp .Mult) rRepS := by
  intro pins s σ H x y v u Q I rx ry h
  obtain ⟨z, k, rfl, rfl, h1, h2, h3, q⟩ := h
  obtain ⟨t, rfl⟩ := rx
  obtain ⟨t', rfl⟩ := ry
  have n1 : ¬ k < 1 := by omega
  have n2 : ((k == 1) || (z.length == 0)) = false := by
    have a1 : (k == 1) = false := by
      simp
      omega
    rw [a1, h3]
    rfl
  refine P.mul_str ?_ (fun _ _ => ?_) (fun _ _ => ?_) ?_
  · have b1 : ¬ k < -(2 ^ 63 : Int) := by omega
    have b2 : ¬ k ≥ 2 ^ 63 := by omega
    rw [decide_eq_false b1, decide_eq_false b2]
    rfl
  · rw [h3]
    have e1 : (2 ^ 63 - 1 : Int) / k ≥ 1 := by
      refine Int.le_ediv_of_mul_le (by omega) ?_
      omega
    intro hh
    have : ((1 : Nat) : Int) > (2 ^ 63 - 1) / k := hh
    omega
  · have : z.length * k.toNat ≤ 1000 := by
      rw [h3]
      omega
    have h4 : ¬ z.length * k.toNat > sizeLine := by
      rw [sizeLine_eq]
      omega
    exact decide_eq_false h4
  · rw [if_neg n1, n2]
    have e2 : (repS z k.toNat).length ≤ sizeLine := by
      have : (repS z k.toNat).cps.size = k.toNat * z.cps.size := by
        unfold repS
        rw [foldl_len]
        simp
      have h3' : z.cps.size = 1 := h3
      show (repS z k.toNat).cps.size ≤ _
      rw [this, h3', sizeLine_eq]
      omega
    first
      | exact ⟨e2, .str (repS z k.toNat), H, I.tok _, ⟨_, rfl⟩, q⟩
      | exact ⟨by simpa using e2, .str (repS z k.toNat), H, I.tok _, ⟨_, rfl⟩, q⟩
def repSD : D → D → Option D
  | .str z, .int k => if 2 ≤ k ∧ k ≤ 1000 ∧ z.length = 1 then some (.str (repS z k.toNat)) else none
  | _, _ => none
theorem opd_repS {T : Tb} : OpD T rRepS .st repSD := by
  refine opd_val fun G H x y a b z Q s rx ry e hq => ?_
  unfold repSD at e
  split at e
  · rename_i z k
    split at e
    · rename_i hc
      cases e
      exact ⟨z, k, rx.strV s, ry.intV s, hc.1, hc.2.1, hc.2.2, hq _ (.str _)⟩
    · cases e
  · cases e
def mulAll (a b : D) : Option D := (mulAny a b).or (repSD a b)
def rMulAll : R2 := fun x y H Q => rMulA x y H Q ∨ rRepS x y H Q
theorem opd_mulAll {T : Tb} : OpD T rMulAll .st mulAll := opd_mulAny.or opd_repS
theorem opr_mulAll {X : Cx} : OpR X (binaryOp .Mult) rMulAll := opr_mulAny.or op_repS
end VL

set_option Elab.async false
set_option linter.all false
set_option maxRecDepth 100000
set_option maxHeartbeats 2000000
/-! VL21: what the written derivations lean on -/
namespace VL
open PySem PySem.Spec L2

theorem hu1 {k : Nat} {A : Around} (r : Room k A) : A.units + 1 < cLine := by have := r.un; omega
theorem hu64 {k : Nat} {A : Around} (r : Room k A) : A.units + 64 < cLine := by have := r.un; omega
theorem hu65 {k : Nat} {A : Around} (r : Room k A) : A.units + 65 < cLine := by have := r.un; omega
theorem pe_tyN {X : Cx} {x : Str} {n : String} {pos : Pos} (hg : Gl X x) (hm : X.mg x = none) (hv : bootBuiltins x = some (.type n)) (hn : x ≠ "__name__" := by decide) (hd : (x == ("__debug__" : Str)) = false := by decide) : PE X (.Name x pos) (tC (.ty n)) :=
  ⟨fun pins s σ H Q I h => ld_blt I hg hm hv ⟨.ty n, H, I, rfl, h⟩ hn hd⟩
theorem takes_def {X : Cx} {E : XK} {E1 : Value → Shared → Prop} (hs : X.stack = X.env :: X.outer) (hf : X.env.frame = some X.env.locals) (hex : X.ex = []) (hx : X.xe = fun e s' => wpAny (model X.prog X.w) X.A (leaving X.env e) (fun _ s'' => L2.CX X.prog X.w X.outer X.H_0 X.s_0 E e s'') E1 s') : Takes X (fun cls d _ H => E cls d H) := takes_of hs hf hex hx
/-! ### < of alike data; repr -/
def rLtP (K : PySem.W.Frag) : R2 := fun x y H Q => ∃ p q, Dp K H x p ∧ Dp K H y q ∧ PySem.W.alike p q = true ∧ p ≠ .none ∧ min p.depth q.depth ≤ 60 ∧ Q (.bl (PySem.W.dataLt p q)) H
theorem opr_ltT {X : Cx} (hu : X.A.units + 64 < cLine) : OpR X (compareOp .Lt) (rLtP X.K) := by
  intro pins s σ H x y v u Q I rx ry ⟨p, q, hp, hq, ha, hn, hd, w⟩
  obtain ⟨as, ra⟩ := Dp.reads I p x v hp rx
  obtain ⟨bs, rb⟩ := Dp.reads I q y u hq ry
  exact PySem.W.rcLt_alike p q X.A s v u as bs ra rb ha hn (by omega) X.prog X.w _ _ ⟨.bl _, H, I, rfl, w⟩
def isNoneP : PyData → Bool
  | .none => true
  | _ => false
def ltTD (a b : D) : Option D := (py a).bind fun p => (py b).bind fun q => if PySem.W.alike p q = true ∧ isNoneP p = false ∧ min p.depth q.depth ≤ 60 then some (.bl (PySem.W.dataLt p q)) else none
theorem opd_ltT {T : Tb} : OpD T (rLtP T.K) .st ltTD := by
  refine opd_val fun G H x y a b z Q s rx ry e hq => ?_
  unfold ltTD at e
  cases hp : py a with
  | none =>
    simp only [hp, Option.bind_none] at e
    cases e
  | some p =>
    cases hq' : py b with
    | none =>
      simp only [hp, hq', Option.bind_some, Option.bind_none] at e
      cases e
    | some q =>
      simp only [hp, hq', Option.bind_some] at e
      split at e
      · rename_i hc
        cases e
        exact ⟨p, q, dp_of (rx.rep s) hp, dp_of (ry.rep s) hq', hc.1, fun z => by rw [z] at hc; exact absurd hc.2.1 (by decide), hc.2.2, hq _ (.bl _)⟩
      · cases e
def isSeqD : D → Bool
  | .tup _ => true
  | .lst _ => true
  | .ktp _ => true
  | .scr _ => true
  | _ => false
def reprD (a : D) : Option D := if isSeqD a = true then (py a).bind fun p => if p.showable = true ∧ p.hasDict = false ∧ p.depth ≤ 60 ∧ p.shown.length ≤ 16777216 then some (.str p.shown) else none else none
def rRepr (K : PySem.W.Frag) : List V → Hp → VK → Prop := fun xs H Q => ∃ a p, xs = [.ref a] ∧ Dp K H (.ref a) p ∧ p.showable = true ∧ p.hasDict = false ∧ p.depth ≤ 60 ∧ p.shown.length ≤ sizeLine ∧ Q (.str p.shown) H
theorem call_reprD {X : Cx} (hg : X.A.guards = some []) (hu : X.A.units + 64 < cLine) : CallR X (.builtin "repr") (rRepr X.K) := by
  intro pins s σ H xs us Q I r ⟨a, p, ex, hp, h1, h2, h3, h4, w⟩
  subst ex
  rw [Vals.ref1 r]
  obtain ⟨as, ra⟩ := Dp.reads I p (.ref a) (.ref a) hp rfl
  exact repr_of_reads' ra h1 (PyData.noDict_hsm h2) hg (by omega) (fun _ _ h => h) (fun h' u tk hk => ⟨.str _, H, I.kept (h' := h') (t' := tk) hk, ⟨_, rfl⟩, w⟩) h4
theorem c1_repr {T : Tb} : Call1D T (rRepr T.K) .st reprD := by
  refine c1_val fun G H x a z Q s rx e hq => ?_
  unfold reprD at e
  split at e
  · rename_i hs
    cases hp : py a with
    | none =>
      simp only [hp, Option.bind_none] at e
      cases e
    | some p =>
      simp only [hp, Option.bind_some] at e
      split at e
      · rename_i hc
        cases e
        have rr := rx.rep s
        obtain ⟨q, hq'⟩ : ∃ q, x = .ref q := by
          cases rr <;> first | exact ⟨_, rfl⟩ | cases hs
        subst hq'
        exact ⟨q, p, rfl, dp_of rr hp, hc.1, hc.2.1, hc.2.2.1, by rw [sizeLine_eq]; exact hc.2.2.2, hq _ (.str _)⟩
      · cases e
  · cases e
/-! ### facts of the module -/
def KtOk (T : Tb) (mg : Str → Option Value) (x : Str) (ds : List D) : Prop := ∃ (a : Addr) (o : Obj) (its : Array Value) (n : Nat) (vs : List V), mg x = some (.ref a) ∧ T.K.lookup a = some o ∧ o.cls = .type "tuple" ∧ o.data = .seq its n ∧ its.size ≤ sizeLine ∧ Vals vs its.toList ∧ ∀ G, Reps T G vs ds
theorem de_gK {c : Cc} {X : Cx} {x : Str} {ds : List D} {pos : Pos} (h : KtOk c.T X.mg x ds) (hg : Gl X x) (hd : (x == ("__debug__" : Str)) = false := by decide) : DE c X .st true (.Name x pos) (dC (.ktp ds)) := by
  obtain ⟨a, o, its, n, vs, h1, h2, h3, h4, h5, h6, h7⟩ := h
  exact de_gKt hg h1 h2 h3 h4 h5 h6 h7 hd
/-- what a clause says of the errors that come to it -/
def XmOk (T : Tb) (c : Str) (l : List (Str × Bool)) : Prop := ∀ e b, l.lookup e = some b → PySem.W.exmOne T.K (.ref (T.cl e)) (.ref (T.cl c)) = some b
theorem xm_of {T : Tb} {c : Str} {l : List (Str × Bool)} (h : XmOk T c l) : ∀ e b, (fun x => List.lookup x l) e = some b → PySem.W.exmOne T.K (.ref (T.cl e)) (.ref (T.cl c)) = some b := h
theorem lookup_one {x e : Str} (h : (fun y => List.lookup y [(x, true)]) e = some true) : e = x := by
  by_cases he : e = x
  · exact he
  · have hb : (e == x) = false := by simpa using he
    have h' : List.lookup e [(x, true)] = some true := h
    rw [List.lookup_cons, hb] at h'
    cases h'
def fuel : Nat := 1000000
/-- the name of a def among those that a variable may hold -/
def pickF (l : List (Str × (List D → FO))) (x : Str) : Option (List D → FO) := l.lookup x
theorem pickF_one {x y : Str} {F G : List D → FO} (h : pickF [(x, F)] y = some G) : y = x ∧ G = F := by
  unfold pickF at h
  by_cases e : y = x
  · subst e
    rw [List.lookup_cons_self] at h
    cases h
    exact ⟨rfl, rfl⟩
  · have hb : (y == x) = false := by simpa using e
    rw [List.lookup_cons, hb] at h
    cases h
end VL

set_option Elab.async false
set_option linter.all false
set_option maxRecDepth 100000
set_option maxHeartbeats 2000000
/-! VL22: the end, the run asked of the caller alone -/
namespace VL
open PySem PySem.Spec PyProof.Rows L2 LamX

/-- what is tracked at the start: the script (if the written part does not hold it) and the code's table -/
def H0 (a P : Addr) (own : Bool) (vs : List Value) (ns : List Int) : Hp := fun b => if b = P then some (.tbl #[]) else if b = a ∧ own = true then some (.frz { cls := .type "list", data := .seq vs.toArray } (.lst (ns.map V.int))) else none
section
variable {Pr : Program} {w : World} {K : PySem.W.Frag} {mg mb : Str → Option Value} {CX : CXT} {fa a c P : Addr} {s : Shared} {vs : List Value} {ns : List Int} {own : Bool}
theorem H0_P : H0 a P own vs ns P = some (.tbl #[]) := if_pos rfl
theorem H0_a (hn : a ≠ P) : H0 a P true vs ns a = some (.frz { cls := .type "list", data := .seq vs.toArray } (.lst (ns.map V.int))) := by
  unfold H0
  rw [if_neg hn, if_pos ⟨rfl, rfl⟩]
theorem H0_cases {b : Addr} {o : HO} (h : H0 a P own vs ns b = some o) : (b = P ∧ o = .tbl #[]) ∨ (b = a ∧ own = true ∧ o = .frz { cls := .type "list", data := .seq vs.toArray } (.lst (ns.map V.int))) := by
  unfold H0 at h
  split at h
  · rename_i e
    exact .inl ⟨e, (Option.some.inj h).symm⟩
  · split at h
    · rename_i e
      exact .inr ⟨e.1, e.2, (Option.some.inj h).symm⟩
    · cases h
theorem law_callG (KX : K.In s.heap) (hns : s.heap.Ns mainGlobals mg) (hb : s.heap.Ns builtinsNs mb) (hbb : ∀ x : Str, x ≠ "__name__" → mb x = bootBuiltins x) (hlim : s.heap.NoLimit) (hg : s.gens = #[])
    (hT : s.heap.get? P = some { cls := .none, data := .fields #[] }) (nT : K.lookup P = none) (C : PySem.W.CodeHd s.heap c P)
    (hbm : ∃ (bm : Addr) (ob : Obj), mg "__builtins__" = some (.ref bm) ∧ bm ≠ builtinsNs ∧ s.heap.get? bm = some ob ∧ ob.cls = .type "module" ∧ ob.dict = some builtinsNs ∧ ob.data = .plain)
    (ha : s.heap.get? a = some { cls := .type "list", data := .seq vs.toArray }) (hi : IntsAre vs ns) (hl : ns.length ≤ sizeLine)
    (F : ∀ (base : Heap) (H : Hp), K.In base → base.Ns mainGlobals mg → TabB base mg c P → H P = some (.tbl #[]) → SqL K H a (ns.map V.int) → (∀ b, b ≠ P → b ≠ a → H b = none) → Env0 Pr w K mg base callerA [] s H →
      codeAny (model Pr w) callerA (.call (.ref fa) ⟨[.ref a], []⟩) (CR CX [] Pr w H s (fun v _ => v = .bl true) fun _ _ _ => False) s)
    (hCX : ∀ H e s', CX [] H s (fun _ _ _ => False) e s' → False) :
    codeAny (model Pr w) callerA (.call (.ref fa) ⟨[.ref a], []⟩) (fun r s' => r = .ok (.ret (.bool true)) ∧ OldK s.heap s'.heap ∧ s'.os = s.os ∧ AllBare s'.gens) s := by
  have rv := vals_ints hi
  have lenV := hi.length
  have aP : a ≠ P := fun z => by
    rw [z, hT] at ha
    cases congrArg Obj.data (Option.some.inj ha)
  obtain ⟨own, hown⟩ : ∃ own : Bool, own = (K.lookup a).isNone := ⟨_, rfl⟩
  have hS : SqL K (H0 a P own vs ns) a (ns.map V.int) := by
    cases hk : K.lookup a with
    | some o =>
      have e := KX a o hk
      rw [ha] at e
      cases e
      exact .inr ⟨_, vs.toArray, _, hk, rfl, rfl, rfl, by rw [List.size_toArray, lenV]; exact hl, by simpa using rv⟩
    | none =>
      have : own = true := by rw [hown, hk] <;> rfl
      subst this
      exact .inl (.inr ⟨_, H0_a aP⟩)
  have off : ∀ b, b ≠ P → b ≠ a → H0 a P own vs ns b = none := fun b h1 h2 => by
    cases q : H0 a P own vs ns b with
    | none => rfl
    | some u =>
      rcases H0_cases q with ⟨e, _⟩ | ⟨e, _⟩
      · exact absurd e h1
      · exact absurd e h2
  -- an object that is no list and no table stands in the ground
  have clear : ∀ {b : Addr} {o : Obj}, s.heap.get? b = some o → (∀ xs n, o.data ≠ .seq xs n) → o.data ≠ .fields #[] → H0 a P own vs ns b = none := fun {b o} e h1 h2 => off b (fun z => by
      rw [z, hT] at e
      cases e
      exact h2 rfl) fun z => by
      rw [z, ha] at e
      cases e
      exact h1 _ _ rfl
  have nsK : ∀ {b : Addr} {m : Str → Option Value}, s.heap.Ns b m → (hidT s.heap (H0 a P own vs ns)).Ns b m := fun {b m} ⟨o, es, ep, e, d, r⟩ => ⟨o, es, ep, hidT_get e (clear e (fun xs n z => by rw [d] at z; cases z) fun z => by rw [d] at z; cases z), d, r⟩
  have hKb : K.In (hidT s.heap (H0 a P own vs ns)) := fun b o e => hidT_get (KX b o e) (by
    cases q : H0 a P own vs ns b with
    | none => rfl
    | some u =>
      rcases H0_cases q with ⟨z, _⟩ | ⟨z, h2, _⟩
      · rw [z, nT] at e
        cases e
      · rw [z] at e
        rw [hown, e] at h2
        cases h2)
  have hok : HOk Pr w (H0 a P own vs ns) s.heap := fun b u q => by
    rcases H0_cases q with ⟨rfl, rfl⟩ | ⟨rfl, _, rfl⟩
    · exact hT
    · exact ⟨ha, by rw [List.length_map]; exact hl, vs, _, rv, ha⟩
  have hM : L2.Mod K mg (hidT s.heap (H0 a P own vs ns)) := ⟨hKb, nsK hns, ⟨mb, nsK hb, hbb⟩, let ⟨mc, h1, h2⟩ := hlim; ⟨mc, nsK h1, h2⟩⟩
  have TB : TabB (hidT s.heap (H0 a P own vs ns)) mg c P := by
    refine ⟨?_, ?_, fun z => ?_⟩
    · obtain ⟨o, us, file, tf, flags, tg, inF, text, tt, e1, r1, r2, r3, r4⟩ := C
      exact ⟨o, us, file, tf, flags, tg, inF, text, tt, hidT_get e1 (clear e1 (fun xs n z => by rw [r2] at z; cases z) fun z => by rw [r2] at z; cases z; simp at r3), r1, r2, r3, r4⟩
    · obtain ⟨bm, ob, b1, b2, b3, b4, b5, b6⟩ := hbm
      refine ⟨bm, ob, b1, b2, fun z => ?_, fun z => ?_, hidT_get b3 (clear b3 (fun xs n z => by rw [b6] at z; cases z) fun z => by rw [b6] at z; cases z), b4, b5, b6⟩
      · obtain ⟨o, es, ep, e, hd, _⟩ := hns
        rw [z, e] at b3
        cases b3
        rw [hd] at b6
        cases b6
      · rw [z, hT] at b3
        cases b3
        cases b6
    · obtain ⟨o, es, ep, e, hd, _⟩ := hns
      rw [z, hT] at e
      cases e
      cases hd
  have e0 : Env0 Pr w K mg (hidT s.heap (H0 a P own vs ns)) callerA [] s (H0 a P own vs ns) := ⟨rfl, hM, fun b o e => of_hidT e, Nat.le_of_eq (hidT_size _ _), trivial, fun b z => absurd (show b ∈ ([] : List Addr) from z) (by simp), hok, .of_eq hg⟩
  refine codeAny_mono (F _ _ hKb (nsK hns) TB H0_P hS off e0) fun r s' out => ?_
  cases r with
  | error e => exact (hCX _ e s' out).elim
  | ok fl =>
    cases fl with
    | next => exact out.elim
    | brk => exact out.elim
    | cont => exact out.elim
    | ret u =>
      obtain ⟨v, H', os, bare, un, hok', rel, q⟩ := out
      have q' : v = .bl true := q
      subst q'
      obtain rfl : u = Value.bool true := rel
      have same : ∀ b o, b ≠ P → s.heap.get? b = some o → s'.heap.get? b = some o := fun b o nb e => by
        cases q : H0 a P own vs ns b with
        | none => exact un.keep b o e q (by intro z; exact absurd (show b ∈ ([] : List Addr) from z) (by simp)) (by simp)
        | some u =>
          rcases H0_cases q with ⟨z, _⟩ | ⟨z, _, hu⟩
          · exact absurd z nb
          · subst z hu
            obtain ⟨e2, _⟩ := hok' _ _ (un.frzs _ _ _ q)
            rw [ha] at e
            cases e
            exact e2
      obtain ⟨more, zt⟩ := un.tbls P #[] H0_P
      have grown : s'.heap.get? P = some { cls := .none, data := .fields (#[] ++ more) } := hok' P _ zt
      refine ⟨rfl, ⟨fun b o e => ?_, fun b o e => ?_⟩, os, bare⟩
      · by_cases hbP : b = P
        · subst hbP
          rw [hT] at e
          cases e
          exact .inr (.inl ⟨(C.tab hT).isCodeTable, rfl, #[], #[] ++ more, rfl, by rw [Array.empty_append]; exact grown⟩)
        · exact .inl (same b o hbP e)
      · by_cases hbP : b = P
        · subst hbP
          exact ⟨_, grown⟩
        · exact ⟨o, same b o hbP e⟩
end
end VL

set_option Elab.async false
set_option linter.all false
set_option maxRecDepth 100000
set_option maxHeartbeats 2000000
/-! VL23: from law's derivation and the plain law to the row -/
namespace VL
open PySem PySem.Spec PyProof.Rows L2 LamX
open PyProof.Rows (envOfC)

theorem bad_cx {P : Program} {w : World} {H : Hp} {s s' : Shared} {e : Value} {l : List Env} (h : L2.CX P w l H s (fun _ _ _ => False) e s') : False := by
  obtain ⟨_, _, _, _, _, _, _, _, _, _, _, _, z⟩ := h
  exact z
theorem walk_G {l : PySem.W.OpenLaw} {n : Nat} {q : Program} {loose : List Str} {XP : (Str → Option Value) → Heap → Prop} {YP : World → Heap → Prop} {d : DefRec} {K : Params → PySem.W.Frag}
    (hn : l.most = some n) (hn2 : n ≤ sizeLine) (hdf : d.params.defaults = []) (hY : ∀ (w : World) (h : Heap), YP w h → (K w.params).In h) (hrec : ∃ dr, (recsOf q).find? (fun e => e.name == d.name) = some dr)
    (F : ∀ (w : World) (mg : Str → Option Value) (fa : Addr) (h : Heap), (K w.params).In h → h.Ns mainGlobals mg → mg d.name = some (.ref fa) → ∃ c P : Addr, PySem.W.tabIn (K w.params) d.name = some (c, P) ∧ (K w.params).lookup P = none ∧
      ∀ (s : Shared) (a : Addr) (ns : List Int), ns.length ≤ n → (∀ z ∈ ns, Builtin.Int.intBits z ≤ 1048576) → ∀ (base : Heap) (H : Hp), (K w.params).In base → base.Ns mainGlobals mg → TabB base mg c P → H P = some (.tbl #[]) → SqL (K w.params) H a (ns.map V.int) → (∀ b, b ≠ P → b ≠ a → H b = none) → a ≠ P → Env0 l.prog w (K w.params) mg base callerA [] s H →
        codeAny (model l.prog w) callerA (.call (.ref fa) ⟨[.ref a], []⟩) (CR (L2.CX l.prog w) [] l.prog w H s (fun v _ => v = .bl true) fun _ _ _ => False) s) :
    PySem.W.WalkO q loose XP YP l.row.toRowW d [] (fun f vs => PySem.call f vs) := by
  refine Att.attach_callB hn hdf fun w s₀ s₁ mg mb fa o pm cd doc a vs ns G Y ho hd hcd hmg hobj hints hlen hbits hg => ?_
  have KX := hY w _ Y
  obtain ⟨c, P, ht, nP, run⟩ := F w mg fa _ KX G.T.g hmg
  obtain ⟨dr, hdr⟩ := hrec
  obtain ⟨hC, hP⟩ := PySem.W.tab_of G.T KX hdr ht
  have aP : a ≠ P := fun z => by
    rw [z, hP] at hobj
    cases congrArg Obj.data (Option.some.inj hobj)
  exact law_callG (CX := L2.CX l.prog w) KX G.T.g G.T.b G.T.builtins G.T.nolimit hg hP nP hC G.T.bmain hobj hints (Nat.le_trans hlen hn2)
    (fun base H h1 h2 h3 h4 h5 h6 h7 => run s₁ a ns hlen hbits base H h1 h2 h3 h4 h5 h6 aP h7) fun H e s' => bad_cx

/-- law's derivation, run: rho0 is the script and no more -/
theorem run_G {T : Tb} {mg : Str → Option Value} {base : Heap} {st : Stmt} {fa c P a : Addr} {x : Str} {N : List Str} {k : Nat} {ns : List Int} {body : Rho → So} {oc kV doc pm ct : Value} {od an : Option Addr} {osl : Array (Option Value)} {s : Shared} {H : Hp} {tabs : List (Addr × Str)}
    (lk : T.K.lookup fa = some ⟨oc, od, .func (PySem.W.fnOf "law" "law" (defArgs st) (defBody st) (defScope st) .none kV doc pm an (.ref c) ct), osl⟩) (hcd : PySem.W.codeIn T.K (.ref c) "law" = true) (S : FnScope N [x] (defScope st)) (hr : Room (k + 1) callerA)
    (hbind : ∀ u : Value, bindArgs (PySem.W.fnOf "law" "law" (defArgs st) (defBody st) (defScope st) .none kV doc pm an (.ref c) ct) ⟨[u], []⟩ = pure [(x, u)])
    (e0 : Env0 T.P T.w T.K mg base callerA [] s H) (ht : ∀ p ∈ tabs, p.1 = P) (hP : H P = some (.tbl #[])) (hS : SqL T.K H a (ns.map V.int)) (aP : a ≠ P) (off : ∀ b, b ≠ P → b ≠ a → H b = none)
    (hb : Room k (callerA.deeper (envOfC "law" (defScope st) s.heap.objs.size fa (.ref c))) → DSs ⟨T, ioW tabs, fun cls d _ H => (fun (_ : Value) (_ : Option Addr) (_ : Hp) => False) cls d H⟩ (cxOf (L2.CX T.P T.w) T.P T.w T.K mg base N "law" (defScope st) fa (.ref c) callerA [] s H fun _ _ _ => False) (defBody st) body)
    (hp : ∃ ρ, body (some (.fz (.scr ns)) :: List.replicate (N.length - 1) none) = .rt (.bl true) ρ) :
    codeAny (model T.P T.w) callerA (.call (.ref fa) ⟨[.ref a], []⟩) (CR (L2.CX T.P T.w) [] T.P T.w H s (fun v _ => v = .bl true) fun _ _ _ => False) s := by
  refine run_ofS (N := N) (ps := [x]) (us := [.ref a]) (vs := [.ref a]) lk hcd S hr e0 (.of_eq (hbind _)) (.cons rfl .nil) rfl fun hr' => ⟨_, (hb hr').pss, ?_⟩
  have hG : ∀ b ps, (fun b => if b = a then H b else none) b ≠ some (HO.tbl ps) := fun b ps z => by
    by_cases hba : b = a
    · subst hba
      have z' : H b = some (.tbl ps) := by
        have : (if b = b then H b else none) = some (HO.tbl ps) := z
        rwa [if_pos rfl] at this
      rcases hS with (h | ⟨o, h⟩) | ⟨o, its, n, h, _⟩
      · rw [z'] at h
        cases h
      · rw [z'] at h
        cases h
      · obtain ⟨h1, h2⟩ := e0.bs b o (e0.mod.kin b o h)
        rw [z'] at h2
        cases h2
    · have : (if b = a then H b else none) = some (HO.tbl ps) := z
      rw [if_neg hba] at this
      cases this
  have ga : (fun b => if b = a then H b else none) a = H a := if_pos rfl
  have s0 : SR T (ioW tabs) ⟨fun _ => none, fun _ => .non⟩ (fun b => if b = a then H b else none) H (L2.start N [.ref a]) (some (.fz (.scr ns)) :: List.replicate (N.length - 1) none) := by
    refine ⟨fun b o h => ?_, fun b o h => (nomatch h), fun b o h => (nomatch h), ?_, fun i d h => ?_, fun i d h => ?_, fun i j d e p h => ?_, fun i hi => (nomatch hi), ⟨fun p hp => ?_, fun b ps h => (nomatch h)⟩, hG⟩
    · by_cases hba : b = a
      · subst hba
        have h' : (if b = b then H b else none) = some o := h
        rwa [if_pos rfl] at h'
      · have h' : (if b = a then H b else none) = some o := h
        rw [if_neg hba] at h'
        cases h'
    · rw [start_eq]
      simp
    · cases i with
      | zero =>
        cases h
        refine ⟨.ref a, by rw [start_eq]; rfl, .scr ?_⟩
        rcases hS with (h | ⟨o, h⟩) | h
        · exact .inl (.inl (ga.trans h))
        · exact .inl (.inr ⟨o, ga.trans h⟩)
        · exact .inr h
      | succ i =>
        have h' : (List.replicate (N.length - 1) (none : Option Sl))[i]? = some (some (.fz d)) := h
        rw [List.getElem?_replicate] at h'
        split at h' <;> cases h'
    · cases i with
      | zero => cases h
      | succ i =>
        have h' : (List.replicate (N.length - 1) (none : Option Sl))[i]? = some (some (.ow d)) := h
        rw [List.getElem?_replicate] at h'
        split at h' <;> cases h'
    · cases i with
      | zero => cases h
      | succ i =>
        have h' : (List.replicate (N.length - 1) (none : Option Sl))[i]? = some (some (.ow d)) := h
        rw [List.getElem?_replicate] at h'
        split at h' <;> cases h'
    · rw [ht p hp]
      exact TabS.nil hP
  obtain ⟨ρ, hρ⟩ := hp
  refine ⟨_, _, _, s0, ?_⟩
  rw [hρ]
  intro v σ' G' H' g s' rv
  exact rv.blV
end VL

set_option Elab.async false
set_option linter.all false
set_option maxRecDepth 100000
set_option maxHeartbeats 2000000
/-! VP1: denotations computed by simp, head first -/
namespace VL
open PySem PySem.Spec L2

section
variable {α β : Type} {ρ : Rho}
theorem Ro.bind_congr {r r' : Ro α} {f : α → Rho → Ro β} (h : r = r') : r.bind f = r'.bind f := by rw [h]
theorem Ro.then_congr {r r' : Ro α} {f : α → Rho → So} (h : r = r') : r.then f = r'.then f := by rw [h]
theorem So.bind_congr {r r' : So} {f : Rho → So} (h : r = r') : r.bind f = r'.bind f := by rw [h]
theorem So.turn_congr {r r' : So} {f : Rho → So} (h : r = r') : r.turn f = r'.turn f := by rw [h]
theorem So.onErr_congr {r r' : So} {f : Str → List (Str × D) → Rho → So} (h : r = r') : r.onErr f = r'.onErr f := by rw [h]
theorem optS_congr {r r' : Option Rho} {f : Rho → So} (h : r = r') : optS r f = optS r' f := by rw [h]
theorem optF_congr {r r' : Option (List D)} {f : List D → FO} (h : r = r') : optF r f = optF r' f := by rw [h]
theorem optR_congr {r r' : Option (List D)} {f : List D → Ro α} (h : r = r') : optR r f = optR r' f := by rw [h]
theorem optRo_congr {r r' : Option Rho} {f : Rho → Ro α} (h : r = r') : optRo r f = optRo r' f := by rw [h]
theorem toF_congr {r r' : So} {bs : List Bool} {ds : List D} (h : r = r') : r.toF bs ds = r'.toF bs ds := by rw [h]
theorem toR_congr {r r' : FO} {as : List (Option Nat)} (h : r = r') : r.toR as ρ = r'.toR as ρ := by rw [h]
theorem forD_congr {g : D → Rho → Option Rho} {b : Rho → So} {ds ds' : List D} (h : ds = ds') : forD g b ds ρ = forD g b ds' ρ := by rw [h]
theorem lcD_congr {vs : List Nat} {g : D → Rho → Option Rho} {t : Rho → Ro Bool} {e : Rho → Ro D} {ds ds' : List D} (h : ds = ds') : lcD vs g t e ds ρ = lcD vs g t e ds' ρ := by rw [h]

/-! statements -/
@[simp ↓] theorem sNil_ap : sNil ρ = .nx ρ := rfl
@[simp ↓] theorem sSeq_ap (s t : Rho → So) : sSeq s t ρ = (s ρ).bind t := rfl
@[simp ↓] theorem sExp_ap (d : Rho → Ro D) : sExp d ρ = (d ρ).then fun _ ρ1 => .nx ρ1 := rfl
@[simp ↓] theorem sRet_ap (d : Rho → Ro D) : sRet d ρ = (d ρ).then fun x ρ1 => .rt x ρ1 := rfl
@[simp ↓] theorem sRetF_ap (d : Rho → Ro D) : sRetF d ρ = (d ρ).then fun x ρ1 => .rf x ρ1 := rfl
@[simp ↓] theorem sRetN_ap : sRetN ρ = .rt .non ρ := rfl
@[simp ↓] theorem sIf_ap (t : Rho → Ro Bool) (s u : Rho → So) : sIf t s u ρ = (t ρ).then fun b ρ1 => if b = true then s ρ1 else u ρ1 := rfl
@[simp ↓] theorem sAsg_ap (d : Rho → Ro D) (g : D → Rho → Option Rho) : sAsg d g ρ = (d ρ).then fun x ρ1 => optS (g x ρ1) .nx := rfl
@[simp ↓] theorem sOwn_ap (d : Rho → Ro D) (i : Nat) : sOwn d i ρ = (d ρ).then fun x ρ1 => .nx (ρ1.set i (some (.ow x))) := rfl
@[simp ↓] theorem sNever_ap : sNever ρ = .stuck := rfl
@[simp ↓] theorem sFor_ap (di : Rho → Ro (List D)) (g : D → Rho → Option Rho) (body : Rho → So) : sFor di g body ρ = (di ρ).then fun ds ρ1 => forD g body ds ρ1 := rfl
@[simp ↓] theorem sPut_ap (i : Nat) (dk dv : Rho → Ro D) : sPut i dk dv ρ = (dv ρ).then fun v ρ1 => if isOw i ρ1 = true then (dk ρ1).then fun kd ρ2 => putOw i kd v ρ2 else .stuck := rfl
@[simp ↓] theorem sTry_ap (sb : Rho → So) (ls : List ClD) : sTry sb ls ρ = (sb ρ).onErr fun e fs ρ1 => hndD ls e fs ρ1 := rfl
@[simp ↓] theorem sPar_ap (i j : Nat) (o1 o2 : Bool) (ds : Rho → Ro (List D)) : sPar i o1 j o2 ds ρ = (ds ρ).then fun xs ρ1 => match xs with
  | [x, y] => .nx ((ρ1.set i (mkSl o1 x)).set j (mkSl o2 y))
  | _ => .stuck := rfl
@[simp ↓] theorem sRaise_ap (x : Str) (ns : List Str) (ds : Rho → Ro (List D)) : sRaise x ns ds ρ = (ds ρ).then fun xs ρ1 => if xs.length = ns.length ∧ ns.length ≤ 900 then .err x (ns.zip xs).reverse ρ1 else .stuck := rfl
@[simp] theorem onErr_nx (f : Str → List (Str × D) → Rho → So) : (So.nx ρ).onErr f = .nx ρ := rfl
@[simp] theorem onErr_rt (d : D) (f : Str → List (Str × D) → Rho → So) : (So.rt d ρ).onErr f = .rt d ρ := rfl
@[simp] theorem onErr_err (e : Str) (fs : List (Str × D)) (f : Str → List (Str × D) → Rho → So) : (So.err e fs ρ).onErr f = f e fs ρ := rfl
@[simp ↓] theorem gN_ap (i : Nat) (d : D) : gN i d ρ = some (ρ.set i (some (.fz d))) := rfl
@[simp] theorem gT_ap (gs : List (D → Rho → Option Rho)) (ds : List D) : gT gs (.tup ds) ρ = gNs gs ds ρ := rfl
@[simp] theorem gNs_nil : gNs [] [] ρ = some ρ := rfl
@[simp] theorem gNs_cons (g : D → Rho → Option Rho) (gs : List (D → Rho → Option Rho)) (d : D) (ds : List D) : gNs (g :: gs) (d :: ds) ρ = (g d ρ).bind (gNs gs ds) := rfl
@[simp] theorem forD_nil (g : D → Rho → Option Rho) (b : Rho → So) : forD g b [] ρ = .nx ρ := rfl

@[simp] theorem isOw_ap (i : Nat) : isOw i ρ = match ρ[i]? with
  | some (some (.ow _)) => true
  | _ => false := rfl

/-! expressions -/
@[simp ↓] theorem dC_ap (d : D) : dC d ρ = .ok d ρ := rfl
@[simp ↓] theorem dVar_ap (i : Nat) : dVar i ρ = match ρ[i]? with
  | some (some (.fz d)) => .ok d ρ
  | _ => .stuck := rfl
@[simp ↓] theorem dVarW_ap (i : Nat) : dVarW i ρ = match ρ[i]? with
  | some (some (.fz d)) => .ok d ρ
  | some (some (.ow d)) => .ok d ρ
  | _ => .stuck := rfl
@[simp ↓] theorem dGive_ap (i : Nat) : dGive i ρ = match ρ[i]? with
  | some (some (.fz d)) => .ok d ρ
  | some (some (.ow d)) => .ok d (ρ.set i (some (.fz d)))
  | _ => .stuck := rfl
@[simp ↓] theorem dOp_ap (f : D → D → Option D) (da db : Rho → Ro D) : dOp f da db ρ = (da ρ).bind fun x ρ1 => (db ρ1).bind fun y ρ2 => Ro.of (f x y) ρ2 := rfl
@[simp ↓] theorem dUn_ap (f : D → Option D) (da : Rho → Ro D) : dUn f da ρ = (da ρ).bind fun x ρ1 => Ro.of (f x) ρ1 := rfl
@[simp ↓] theorem dB_ap (da : Rho → Ro D) : dB da ρ = (da ρ).bind fun x ρ1 => Ro.of (blD x) ρ1 := rfl
@[simp] theorem blD_bl (b : Bool) : blD (.bl b) = some b := rfl
@[simp ↓] theorem dTru_ap (da : Rho → Ro D) : dTru da ρ = (da ρ).bind fun x ρ1 => Ro.of (truD x) ρ1 := rfl
@[simp ↓] theorem dNotT_ap (t : Rho → Ro Bool) : dNotT t ρ = (t ρ).bind fun b ρ1 => .ok (!b) ρ1 := rfl
@[simp ↓] theorem dAndT_ap (t u : Rho → Ro Bool) : dAndT t u ρ = (t ρ).bind fun b ρ1 => if b = true then u ρ1 else .ok false ρ1 := rfl
@[simp ↓] theorem dOrT_ap (t u : Rho → Ro Bool) : dOrT t u ρ = (t ρ).bind fun b ρ1 => if b = true then .ok true ρ1 else u ρ1 := rfl
@[simp ↓] theorem dNot_ap (da : Rho → Ro D) : dNot da ρ = (da ρ).bind fun x ρ1 => (Ro.of (truD x) ρ1).bind fun b ρ2 => .ok (.bl (!b)) ρ2 := rfl
@[simp ↓] theorem dAnd_ap (da db : Rho → Ro D) : dAnd da db ρ = (da ρ).bind fun x ρ1 => (Ro.of (truD x) ρ1).bind fun b ρ2 => if b = true then db ρ2 else .ok x ρ2 := rfl
@[simp ↓] theorem dOr_ap (da db : Rho → Ro D) : dOr da db ρ = (da ρ).bind fun x ρ1 => (Ro.of (truD x) ρ1).bind fun b ρ2 => if b = true then .ok x ρ2 else db ρ2 := rfl
@[simp ↓] theorem dIf_ap (t : Rho → Ro Bool) (da db : Rho → Ro D) : dIf t da db ρ = (t ρ).bind fun b ρ1 => if b = true then da ρ1 else db ρ1 := rfl
@[simp ↓] theorem dChain_ap (f g : D → D → Option D) (da db dc : Rho → Ro D) : dChain f g da db dc ρ = (da ρ).bind fun x ρ1 => (db ρ1).bind fun y ρ2 => (Ro.of (f x y) ρ2).bind fun z ρ3 => (Ro.of (blD z) ρ3).bind fun b ρ4 =>
  if b = true then (dc ρ4).bind fun w ρ5 => Ro.of (g y w) ρ5 else .ok (.bl false) ρ4 := rfl
@[simp ↓] theorem dNil_ap : dNil ρ = .ok [] ρ := rfl
@[simp ↓] theorem dCons_ap (da : Rho → Ro D) (ds : Rho → Ro (List D)) : dCons da ds ρ = (da ρ).bind fun x ρ1 => (ds ρ1).bind fun xs ρ2 => .ok (x :: xs) ρ2 := rfl
@[simp ↓] theorem dTup_ap (ds : Rho → Ro (List D)) : dTup ds ρ = (ds ρ).bind fun xs ρ1 => if xs.length ≤ 1000000 then .ok (.tup xs) ρ1 else .stuck := rfl
@[simp ↓] theorem dLst_ap (ds : Rho → Ro (List D)) : dLst ds ρ = (ds ρ).bind fun xs ρ1 => if xs.length ≤ 1000000 then .ok (.lst xs) ρ1 else .stuck := rfl
@[simp ↓] theorem dCall_ap (f : List D → Option D) (ds : Rho → Ro (List D)) : dCall f ds ρ = (ds ρ).bind fun xs ρ1 => Ro.of (f xs) ρ1 := rfl
@[simp ↓] theorem dMt_ap (f : D → List D → Option D) (da : Rho → Ro D) (ds : Rho → Ro (List D)) : dMt f da ds ρ = (da ρ).bind fun x ρ1 => (ds ρ1).bind fun xs ρ2 => Ro.of (f x xs) ρ2 := rfl
@[simp ↓] theorem dMtT_ap (ty : String) (f : D → List D → Option D) (da : Rho → Ro D) (ds : Rho → Ro (List D)) : dMtT ty f da ds ρ = (da ρ).bind fun x ρ1 => if tyM x = some ty then (ds ρ1).bind fun xs ρ2 => Ro.of (f x xs) ρ2 else .stuck := rfl
@[simp ↓] theorem dMut_ap (ty : String) (i : Nat) (f : D → List D → Option (D × D)) (ds : Rho → Ro (List D)) : dMut ty i f ds ρ = match ρ[i]? with
  | some (some (.ow d0)) => if tyM d0 = some ty then (ds ρ).bind fun xs ρ1 => match ρ1[i]? with
    | some (some (.ow d)) => match f d xs with
      | some (d', z) => .ok z (ρ1.set i (some (.ow d')))
      | none => .stuck
    | _ => .stuck
    else .stuck
  | _ => .stuck := rfl
@[simp ↓] theorem dIt_ap (d : Rho → Ro D) : dIt d ρ = (d ρ).bind fun x ρ1 => Ro.of (seqD x) ρ1 := rfl
@[simp ↓] theorem dRng_ap (f : List D → Option (List D)) (ds : Rho → Ro (List D)) : dRng f ds ρ = (ds ρ).bind fun xs ρ1 => Ro.of (f xs) ρ1 := rfl
@[simp ↓] theorem dEnum_ap (d : Rho → Ro D) : dEnum d ρ = (d ρ).bind fun x ρ1 => match x with
  | .lst ds => .ok (enumD 0 ds) ρ1
  | _ => .stuck := rfl
@[simp ↓] theorem dYes_ap : dYes ρ = .ok true ρ := rfl
@[simp ↓] theorem dLc_ap (vs : List Nat) (di : Rho → Ro (List D)) (g : D → Rho → Option Rho) (t : Rho → Ro Bool) (e : Rho → Ro D) : dLc vs di g t e ρ = (di ρ).bind fun ds ρ1 => toLst (lcD vs g t e ds (wipeD vs ρ1)) := rfl
@[simp] theorem wipe_nil : wipeD [] ρ = ρ := rfl
@[simp] theorem wipe_cons (v : Nat) (vs : List Nat) : wipeD (v :: vs) ρ = (wipeD vs ρ).set v none := rfl
@[simp ↓] theorem dSl_ap (da : Rho → Ro D) (dl dh : Rho → Ro (Option Int)) : dSl da dl dh ρ = (da ρ).bind fun x ρ1 => (dl ρ1).bind fun l ρ2 => (dh ρ2).bind fun h ρ3 => Ro.of (slD x l h) ρ3 := rfl
@[simp ↓] theorem dPart_ap (d : Rho → Ro D) : dPart d ρ = (d ρ).bind fun x ρ1 => match x with
  | .int i => .ok (some i) ρ1
  | _ => .stuck := rfl
@[simp ↓] theorem dNoPart_ap : dNoPart ρ = .ok none ρ := rfl
@[simp ↓] theorem dDisp_ap (d : Rho → Ro (List (D × D))) : dDisp d ρ = (d ρ).bind fun ps ρ1 => if ps.length ≤ 15 then Ro.of ((mergeD [] ps).map (.dic false)) ρ1 else .stuck := rfl
@[simp ↓] theorem dPNil_ap : dPNil ρ = .ok [] ρ := rfl
@[simp ↓] theorem dPCons_ap (dk dv : Rho → Ro D) (d : Rho → Ro (List (D × D))) : dPCons dk dv d ρ = (dk ρ).bind fun x ρ1 => (dv ρ1).bind fun y ρ2 => (d ρ2).bind fun ps ρ3 => .ok ((x, y) :: ps) ρ3 := rfl
@[simp ↓] theorem dXf_ap (fs : List (Str × D)) (f : Str) : dXf fs f ρ = Ro.of (fs.lookup f) ρ := rfl
@[simp ↓] theorem dThk_ap (t : Th) : dThk t ρ = match t with
  | .ret d => .ok d ρ
  | .err e fs => .err e fs ρ
  | .stuck => .stuck := rfl
@[simp ↓] theorem dLam_ap (F : Th → So) (d : Rho → Ro D) : dLam F d ρ = Ro.of (F (thOf (d ρ))).lam ρ := rfl

/-! calls -/
@[simp ↓] theorem dFn_ap (F : List D → FO) (as : List (Option Nat)) (dd : List D) (ds : Rho → Ro (List D)) : dFn F as dd ds ρ = (ds ρ).bind fun xs ρ1 => optR (fillD as xs ρ1) fun ys => (F (ys ++ dd)).toR as ρ1 := rfl
@[simp ↓] theorem dF0_ap (F : List D → FO) (dd : List D) (ds : Rho → Ro (List D)) : dF0 F dd ds ρ = (ds ρ).bind fun xs ρ1 => (F (xs ++ dd)).toR [] ρ1 := rfl
@[simp ↓] theorem dIO_ap (ds : Rho → Ro (List D)) : dIO ds ρ = (ds ρ).bind fun xs ρ2 => .ok (.non :: xs) ρ2 := rfl
@[simp ↓] theorem dIOw_ap (i : Nat) (ds : Rho → Ro (List D)) : dIOw i ds ρ = match ρ[i]? with
  | some (some (.ow _)) => dIO ds ρ
  | _ => .stuck := rfl
@[simp ↓] theorem dF0r_ap (F : List D → FO) (dd : List D) (ds : Rho → Ro (List D)) : dF0r F dd ds ρ = (ds ρ).bind fun xs ρ1 => match F (xs ++ dd) with
  | .fre d _ => .ok d ρ1
  | .err e fs _ => .err e fs ρ1
  | _ => .stuck := rfl
@[simp ↓] theorem dMthO_ap (i : Nat) (cn m : Str) (F : List D → FO) (as : List (Option Nat)) (dd : List D) (ds : Rho → Ro (List D)) : dMthO i cn m F as dd ds ρ = match ρ[i]? with
  | some (some (.ow d0)) => if insOk cn m d0 = true then (ds ρ).bind fun xs ρ1 => optR (fillD (some i :: as) (.non :: xs) ρ1) fun ys => (F (ys ++ dd)).toR (some i :: as) ρ1 else .stuck
  | _ => .stuck := rfl
@[simp ↓] theorem dMake_ap (cn : Str) (F : List D → FO) (dd : List D) (ds : Rho → Ro (List D)) : dMake cn F dd ds ρ = (ds ρ).bind fun xs ρ1 => (F (.ins cn [] :: (xs ++ dd))).mk ρ1 := rfl
@[simp ↓] theorem dCallL_ap (i : Nat) (Fs : Str → Option (List D → FO)) (ds : Rho → Ro (List D)) : dCallL i Fs ds ρ = match ρ[i]? with
  | some (some (.fz (.fn y))) => match Fs y with
    | some F => (ds ρ).bind fun xs ρ1 => (F xs).toR [] ρ1
    | none => .stuck
  | _ => .stuck := rfl
theorem sFld_ap (i : Nat) (cs : List Str) (f : Str) (d : Rho → Ro D) : sFld i cs f d ρ = (d ρ).then fun z ρ1 => match ρ1[i]? with
  | some (some (.ow (.ins c fs))) => if c ∈ cs ∧ fs.length < 1000 then .nx (ρ1.set i (some (.ow (.ins c (putFD f z fs))))) else .stuck
  | _ => .stuck := rfl
theorem sFldAdd_ap (i : Nat) (cs : List Str) (f : Str) (d : Rho → Ro D) : sFldAdd i cs f d ρ = match ρ[i]? with
  | some (some (.ow (.ins c fs))) => if c ∈ cs ∧ fs.length < 999 then (match fs.lookup f with
    | some (.int a) => (d ρ).then fun z ρ1 => match z with
      | .int b => .nx (ρ1.set i (some (.ow (.ins c (putFD f (.int (a + b)) fs)))))
      | _ => .stuck
    | _ => .stuck) else .stuck
  | _ => .stuck := rfl
@[simp] theorem fillD_nil : fillD [] [] ρ = some [] := rfl
@[simp] theorem fillD_none (as : List (Option Nat)) (d : D) (ds : List D) : fillD (none :: as) (d :: ds) ρ = (fillD as ds ρ).map (d :: ·) := rfl
@[simp] theorem fillD_some (i : Nat) (as : List (Option Nat)) (d : D) (ds : List D) : fillD (some i :: as) (d :: ds) ρ = match ρ[i]? with
  | some (some (.ow d)) => (fillD as ds ρ).map (d :: ·)
  | _ => none := rfl
@[simp] theorem toR_ret (as : List (Option Nat)) (d : D) (ds : List D) : (FO.ret d ds).toR as ρ = .ok d (putD as ds ρ) := rfl
@[simp] theorem toR_fre (as : List (Option Nat)) (d : D) (ds : List D) : (FO.fre d ds).toR as ρ = .ok d (putD as ds ρ) := rfl
@[simp] theorem toR_err (as : List (Option Nat)) (e : Str) (fs : List (Str × D)) (ds : List D) : (FO.err e fs ds).toR as ρ = .err e fs (putD as ds ρ) := rfl
@[simp] theorem putD_nil (ds : List D) : putD [] ds ρ = ρ := by cases ds <;> rfl
@[simp] theorem putD_none (as : List (Option Nat)) (d : D) (ds : List D) : putD (none :: as) (d :: ds) ρ = putD as ds ρ := rfl
@[simp] theorem putD_some (i : Nat) (as : List (Option Nat)) (d : D) (ds : List D) : putD (some i :: as) (d :: ds) ρ = (putD as ds ρ).set i (some (.ow d)) := rfl
@[simp] theorem toF_nx (bs : List Bool) (ds : List D) : (So.nx ρ).toF bs ds = optF (outsD bs ds ρ) (.ret .non) := rfl
@[simp] theorem toF_rt (bs : List Bool) (ds : List D) (d : D) : (So.rt d ρ).toF bs ds = optF (outsD bs ds ρ) (.ret d) := rfl
@[simp] theorem toF_rf (bs : List Bool) (ds : List D) (d : D) : (So.rf d ρ).toF bs ds = optF (outsD bs ds ρ) (.fre d) := rfl
@[simp] theorem toF_err (bs : List Bool) (ds : List D) (e : Str) (fs : List (Str × D)) : (So.err e fs ρ).toF bs ds = optF (outsD bs ds ρ) (.err e fs) := rfl
@[simp] theorem outs_nil (ρ : Rho) : outsD [] [] ρ = some [] := by cases ρ <;> rfl
@[simp] theorem outs_ow (bs : List Bool) (d d' : D) (ds : List D) : outsD (true :: bs) (d :: ds) (some (.ow d') :: ρ) = (outsD bs ds ρ).map (d' :: ·) := rfl
@[simp] theorem outs_fz (bs : List Bool) (d : D) (ds : List D) (x : Option Sl) : outsD (false :: bs) (d :: ds) (x :: ρ) = (outsD bs ds ρ).map (d :: ·) := rfl
@[simp] theorem initR_nil (ds : List D) : initR [] ds = [] := by cases ds <;> rfl
@[simp] theorem initR_ow (bs : List Bool) (d : D) (ds : List D) : initR (true :: bs) (d :: ds) = some (.ow d) :: initR bs ds := rfl
@[simp] theorem initR_fz (bs : List Bool) (d : D) (ds : List D) : initR (false :: bs) (d :: ds) = some (.fz d) :: initR bs ds := rfl
@[simp] theorem mkSl_ow (d : D) : mkSl true d = some (.ow d) := rfl
@[simp] theorem mkSl_fz (d : D) : mkSl false d = some (.fz d) := rfl
end

/-! operators on known kinds -/
section
variable {i j : Int} {a b : Str} {xs ys : List D}
@[simp] theorem add_int : addD (.int i) (.int j) = some (.int (i + j)) := rfl
@[simp] theorem sub_int : subD (.int i) (.int j) = some (.int (i - j)) := rfl
theorem add_str (h : a.length + b.length ≤ 16777216) : addD (.str a) (.str b) = some (.str (a ++ b)) := by
  show ((none : Option D).or ((if a.length + b.length ≤ 16777216 then some (D.str (a ++ b)) else none).or _)) = _
  rw [if_pos h] <;> rfl
theorem add_lst (h : xs.length + ys.length ≤ 16777216) : addD (.lst xs) (.lst ys) = some (.lst (xs ++ ys)) := by
  show ((none : Option D).or ((none : Option D).or ((if xs.length + ys.length ≤ 16777216 then some (D.lst (xs ++ ys)) else none).or _))) = _
  rw [if_pos h] <;> rfl
theorem add_tup (h : xs.length + ys.length ≤ 16777216) : addD (.tup xs) (.tup ys) = some (.tup (xs ++ ys)) := by
  show ((none : Option D).or ((none : Option D).or ((none : Option D).or (if xs.length + ys.length ≤ 16777216 then some (D.tup (xs ++ ys)) else none)))) = _
  rw [if_pos h] <;> rfl
@[simp] theorem lt_int : ltD (.int i) (.int j) = some (.bl (decide (i < j))) := rfl
@[simp] theorem le_int : leD (.int i) (.int j) = some (.bl (decide (i ≤ j))) := rfl
@[simp] theorem gt_int : gtD (.int i) (.int j) = some (.bl (decide (j < i))) := rfl
@[simp] theorem ge_int : geD (.int i) (.int j) = some (.bl (decide (j ≤ i))) := rfl
@[simp] theorem eq_int : eqD (.int i) (.int j) = some (.bl (decide (i = j))) := rfl
@[simp] theorem ne_int : neD (.int i) (.int j) = some (.bl (!decide (i = j))) := rfl
@[simp] theorem eq_str : eqD (.str a) (.str b) = some (.bl (decide (a = b))) := rfl
@[simp] theorem ne_str : neD (.str a) (.str b) = some (.bl (!decide (a = b))) := rfl
@[simp] theorem int_int : intD (.int i) = some (.int i) := rfl
@[simp] theorem len_lst : lenD (.lst xs) = some (.int xs.length) := rfl
@[simp] theorem len_tup : lenD (.tup xs) = some (.int xs.length) := rfl
theorem len_str (h : a.length ≤ 16777216) : lenD (.str a) = some (.int a.length) := if_pos h
theorem mod_int (h : 0 < j) : modD (.int i) (.int j) = some (.int (i % j)) := if_pos (decide_eq_true h)
theorem fdiv_int (h : 0 < j) (h2 : j.natAbs.log2 < 9000) : fdivD (.int i) (.int j) = some (.int (i / j)) := if_pos (decide_eq_true ⟨h, h2⟩)
theorem lg_lt {m k : Nat} (hk : 0 < k) (h : m < 2 ^ k) : m.log2 < k := by
  by_cases e : m = 0
  · rw [e]
    exact Nat.lt_of_le_of_lt (by decide) hk
  · exact (Nat.log2_lt e).mpr h
theorem lg64 {i : Int} (h : i.natAbs < 2 ^ 64) : i.natAbs.log2 < 64 := lg_lt (by decide) h
theorem pow_int (h : 0 ≤ j) (h1 : j ≤ 1000000) (h2 : i.natAbs < 2 ^ 64) : powD (.int i) (.int j) = some (.int (i ^ j.toNat)) := if_pos (decide_eq_true ⟨h, h1, h2⟩)
theorem mul_int (h : i.natAbs.log2 + j.natAbs.log2 < 1000000) : mulAll (.int i) (.int j) = some (.int (i * j)) := by
  have e : mulD (.int i) (.int j) = some (.int (i * j)) := if_pos (decide_eq_true h)
  show ((mulD (.int i) (.int j)).or _).or _ = _
  rw [e] <;> rfl
theorem mul64 (h : i.natAbs < 2 ^ 64) (h2 : j.natAbs < 2 ^ 64) : mulAll (.int i) (.int j) = some (.int (i * j)) := mul_int (by have := lg64 h; have := lg64 h2; omega)
@[simp] theorem list_lst : listD (.lst xs) = some (.lst xs) := rfl
@[simp] theorem list_tup : listD (.tup xs) = some (.lst xs) := rfl
@[simp] theorem tuple_lst : tupleD (.lst xs) = some (.tup xs) := rfl
@[simp] theorem tuple_tup : tupleD (.tup xs) = some (.tup xs) := rfl
@[simp] theorem seq_lst : seqD (.lst xs) = some xs := rfl
@[simp] theorem seq_tup : seqD (.tup xs) = some xs := rfl
@[simp] theorem tyM_lst : tyM (.lst xs) = some "list" := rfl
@[simp] theorem tyM_str : tyM (.str a) = some "str" := rfl
theorem rng1_int (h : -(2 ^ 62) ≤ i ∧ i < 2 ^ 62) : rng1 [.int i] = some (rngD 0 i) := if_pos h
theorem atI_int {α : Type} {l : List α} {v : Int} (h0 : 0 ≤ v) (h1 : v < l.length) : ∃ x, atI l v = some x ∧ x ∈ l ∧ l[v.toNat]? = some x := by
  have hl : v.toNat < l.length := by omega
  have e : v = ((v.toNat : Nat) : Int) := by omega
  refine ⟨l[v.toNat], ?_, List.getElem_mem hl, List.getElem?_eq_getElem hl⟩
  exact (congrArg (atI l) e).trans (atI_nat (List.getElem?_eq_getElem hl))
theorem subs_lst {v : Int} (h0 : 0 ≤ v) (h1 : v < xs.length) : ∃ x, subsD (.lst xs) (.int v) = some x ∧ x ∈ xs ∧ xs[v.toNat]? = some x := by
  obtain ⟨x, e, h⟩ := atI_int h0 h1
  refine ⟨x, ?_, h⟩
  show (atI xs v).or _ = _
  rw [e] <;> rfl
theorem subs_tup {v : Int} (h0 : 0 ≤ v) (h1 : v < xs.length) : ∃ x, subsD (.tup xs) (.int v) = some x ∧ x ∈ xs ∧ xs[v.toNat]? = some x := by
  obtain ⟨x, e, h⟩ := atI_int h0 h1
  refine ⟨x, ?_, h⟩
  show (atI xs v).or _ = _
  rw [e] <;> rfl
theorem app_lst {d : D} (h : xs.length < 16777216) : appD (.lst xs) [d] = some (.lst (xs ++ [d]), .non) := if_pos h
end

/-! loops -/
section
variable {g : D → Rho → Option Rho} {body : Rho → So}
theorem forD_cons (d : D) (ds : List D) (ρ : Rho) : forD g body (d :: ds) ρ = optS (g d ρ) fun ρ1 => (body ρ1).turn fun ρ2 => forD g body ds ρ2 := rfl
theorem forD_inv (I : List D → Rho → Prop) (step : ∀ d ds ρ, I (d :: ds) ρ → ∃ ρ1, g d ρ = some ρ1 ∧ ∃ ρ2, body ρ1 = .nx ρ2 ∧ I ds ρ2) : ∀ (ds : List D) (ρ : Rho), I ds ρ → ∃ ρ', forD g body ds ρ = .nx ρ' ∧ I [] ρ'
  | [], ρ, h => ⟨ρ, rfl, h⟩
  | d :: ds, ρ, h => by
    obtain ⟨ρ1, e1, ρ2, e2, h2⟩ := step d ds ρ h
    obtain ⟨ρ', e3, h3⟩ := forD_inv I step ds ρ2 h2
    refine ⟨ρ', ?_, h3⟩
    rw [forD_cons, e1, optS_some, e2, So.turn_nx]
    exact e3
variable {v : Nat} {e : Rho → Ro D} {t : Rho → Ro Bool}
theorem lcD_cons (d : D) (ds : List D) (ρ : Rho) : lcD [v] (gN v) t e (d :: ds) ρ = (t (ρ.set v (some (.fz d)))).bind fun b ρ2 => if b = true then (e ρ2).bind fun y ρ3 => (lcD [v] (gN v) t e ds (ρ3.set v none)).bind fun ys ρ4 => .ok (y :: ys) ρ4 else lcD [v] (gN v) t e ds (ρ2.set v none) := rfl
theorem lcD_inv (Q : D → Prop) (I : List D → Rho → Prop) (step : ∀ d ds ρ, I (d :: ds) ρ → ∃ y ρ', e (ρ.set v (some (.fz d))) = .ok y ρ' ∧ Q y ∧ I ds (ρ'.set v none)) :
    ∀ (ds : List D) (ρ : Rho), I ds ρ → ∃ ys ρ', lcD [v] (gN v) dYes e ds ρ = .ok ys ρ' ∧ ys.length = ds.length ∧ (∀ y ∈ ys, Q y) ∧ I [] ρ'
  | [], ρ, h => ⟨[], ρ, rfl, rfl, by simp, h⟩
  | d :: ds, ρ, h => by
    obtain ⟨y, ρ1, e1, q, h1⟩ := step d ds ρ h
    obtain ⟨ys, ρ', e2, l, qs, h2⟩ := lcD_inv Q I step ds _ h1
    refine ⟨y :: ys, ρ', ?_, by simp [l], ?_, h2⟩
    · rw [lcD_cons]
      simp [e1, e2]
    · intro z hz
      rcases List.mem_cons.mp hz with rfl | hz
      · exact q
      · exact qs z hz
theorem set_back {ρ : Rho} {v : Nat} {x : Option Sl} (h : ρ[v]? = some none) : (ρ.set v x).set v none = ρ := by
  rw [List.set_set]
  obtain ⟨hl, he⟩ := List.getElem?_eq_some_iff.mp h
  rw [← he]
  exact List.set_getElem_self hl
theorem lcD_map {γ : Type} (k h : γ → D) {ρ : Rho} (hv : ρ[v]? = some none) : ∀ (cs : List γ), (∀ c ∈ cs, e (ρ.set v (some (.fz (k c)))) = .ok (h c) (ρ.set v (some (.fz (k c))))) → lcD [v] (gN v) dYes e (cs.map k) ρ = .ok (cs.map h) ρ
  | [], _ => rfl
  | c :: cs, he => by
    have ih := lcD_map k h hv cs fun z hz => he z (List.mem_cons_of_mem _ hz)
    rw [List.map_cons, lcD_cons]
    simp [he c (List.mem_cons_self ..), set_back hv, ih]
theorem lcD_filter {γ : Type} (k h : γ → D) (b : γ → Bool) {ρ : Rho} (hv : ρ[v]? = some none) : ∀ (cs : List γ), (∀ c ∈ cs, t (ρ.set v (some (.fz (k c)))) = .ok (b c) (ρ.set v (some (.fz (k c)))) ∧ (b c = true → e (ρ.set v (some (.fz (k c)))) = .ok (h c) (ρ.set v (some (.fz (k c)))))) →
    lcD [v] (gN v) t e (cs.map k) ρ = .ok ((cs.filter b).map h) ρ
  | [], _ => rfl
  | c :: cs, he => by
    have ih := lcD_filter k h b hv cs fun z hz => he z (List.mem_cons_of_mem _ hz)
    obtain ⟨h1, h2⟩ := he c (List.mem_cons_self ..)
    rw [List.map_cons, lcD_cons]
    cases hb : b c
    · simp [h1, hb, set_back hv, ih]
    · simp [h1, hb, h2 hb, set_back hv, ih]
end
theorem rngD_len (n : Nat) : (rngD 0 n).length = n := by
  unfold rngD
  simp
theorem toLst_lst {ds : List D} {ρ : Rho} (h : ds.length ≤ 1000000) : toLst (.ok ds ρ) = .ok (.lst ds) ρ := if_pos h
theorem rng_mem {n : Nat} {d : D} (h : d ∈ rngD 0 n) : ∃ i : Nat, d = .int i ∧ i < n := by
  unfold rngD at h
  obtain ⟨i, hi, rfl⟩ := List.mem_map.mp h
  refine ⟨i, by simp, ?_⟩
  have := List.mem_range.mp hi
  omega
theorem erase_perm {α : Type} : ∀ (xs : List α) (i : Nat) (h : i < xs.length), (xs[i] :: xs.eraseIdx i).Perm xs
  | x :: xs, 0, _ => .refl _
  | x :: xs, i + 1, h => (List.Perm.swap ..).trans ((erase_perm xs i (by simpa using h)).cons x)
theorem pop_lst {xs : List D} {v : Int} (h0 : 0 ≤ v) (h1 : v < xs.length) (hl : xs.length ≤ 1000000) : ∃ z, popAtD (.lst xs) [.int v] = some (.lst (xs.eraseIdx v.toNat), z) ∧ (z :: xs.eraseIdx v.toNat).Perm xs := by
  have hv : v.toNat < xs.length := by omega
  refine ⟨xs[v.toNat], ?_, erase_perm xs _ hv⟩
  have e : seqIndex? v xs.length = some v.toNat := seqIndex_of h0 h1
  show (if -(2 ^ 63) ≤ v ∧ v < 2 ^ 63 then (seqIndex? v xs.length).bind fun k => (xs[k]?).map fun z => (D.lst (xs.eraseIdx k), z) else none) = _
  rw [if_pos ⟨by omega, by omega⟩, e]
  simp [hv]
end VL

set_option Elab.async false
set_option linter.all false
set_option maxRecDepth 100000
set_option maxHeartbeats 4000000
namespace G
open PySem PySem.Spec L2 VL
def top (i : Nat) : Stmt := PySem.Challenge.pw_whereitwas_k02_names_and_words.main.body.getD i (.Pass ⟨0, 0, 0, 0⟩)
abbrev s__law_pen : Stmt := top 24
abbrev s__law_draw : Stmt := top 25
abbrev s__law_pick : Stmt := top 26
abbrev s__law_shuffled : Stmt := top 27
abbrev s__law_name : Stmt := top 28
abbrev s__law_names : Stmt := top 29
abbrev s__law_why : Stmt := top 33
abbrev s__law_odd_name : Stmt := top 32
abbrev s__law_same : Stmt := top 30
abbrev s__law_bent_words : Stmt := top 34
abbrev s__law_is_name : Stmt := top 31
abbrev s__law_first_wrong : Stmt := top 35
abbrev s_word_text : Stmt := top 21
abbrev s_Reader_init : Stmt := inClass (top 20) 0
abbrev s_Reader_refuse : Stmt := inClass (top 20) 2
abbrev s_Reader_seen : Stmt := inClass (top 20) 1
abbrev s_Reader_goes_on : Stmt := inClass (top 20) 6
abbrev s_rows_of : Stmt := top 19
abbrev s_is_name : Stmt := top 15
abbrev s_Reader_take : Stmt := inClass (top 20) 3
abbrev s_word_read : Stmt := top 22
abbrev s_place_of : Stmt := top 17
abbrev s_comes_before : Stmt := top 18
abbrev s_is_word : Stmt := top 16
abbrev s__law_is_word : Stmt := top 36
abbrev s_law : Stmt := top 37
abbrev s_exc_BadText : Stmt := inClass (top 3) 0
/-- what the module holds -/
structure Txt (T : Tb) (mg : Str → Option Value) : Prop where
  e_BadName : mg "BadName" = some (.ref (T.cl "BadName"))
  e_BadNumber : mg "BadNumber" = some (.ref (T.cl "BadNumber"))
  e_BadRow : mg "BadRow" = some (.ref (T.cl "BadRow"))
  e_BadText : mg "BadText" = some (.ref (T.cl "BadText"))
  e_NoName : mg "NoName" = some (.ref (T.cl "NoName"))
  e_TakenName : mg "TakenName" = some (.ref (T.cl "TakenName"))
  e_TooMany : mg "TooMany" = some (.ref (T.cl "TooMany"))
  e_Unlike : mg "Unlike" = some (.ref (T.cl "Unlike"))
  c_FIGURES : ∃ t, mg "FIGURES" = some (.str "0123456789" t)
  c_LETTERS : ∃ t, mg "LETTERS" = some (.str "abcdefghijklmnopqrstuvwxyz" t)
  c_NOTHING : KtOk T mg "NOTHING" [.str "nothing", .str "pressed"]
  f_at : FldOk T ["Reader"] "at"
  f_line : FldOk T ["Reader"] "line"
  f_rows : FldOk T ["Reader"] "rows"
  b_all : mg "all" = none
  b_bool : mg "bool" = none
  b_enumerate : mg "enumerate" = none
  b_int : mg "int" = none
  b_isinstance : mg "isinstance" = none
  b_len : mg "len" = none
  b_list : mg "list" = none
  b_range : mg "range" = none
  b_repr : mg "repr" = none
  b_str : mg "str" = none
  b_tuple : mg "tuple" = none
  xf_BadText : XfC T.K (T.cl "BadText")
  xn_BadText_line : PySem.W.findIn T.K (.ref (T.cl "BadText")) "line" = some none
  xn_BadText_word : PySem.W.findIn T.K (.ref (T.cl "BadText")) "word" = some none
  xm_BadName : XmOk T "BadName" []
  xm_BadNumber : XmOk T "BadNumber" []
  xm_BadRow : XmOk T "BadRow" []
  xm_BadText : XmOk T "BadText" [("BadText", true)]
  xm_NoName : XmOk T "NoName" []
  xm_TakenName : XmOk T "TakenName" []
  xm_TooMany : XmOk T "TooMany" []
  xm_Unlike : XmOk T "Unlike" []
variable {T : Tb} {mg : Str → Option Value} {base : Heap}
theorem sc__law_pen : FnScope ["script", "fold", "cell"] ["script"] (defScope s__law_pen) := ⟨rfl, rfl, rfl, by decide +kernel, rfl, by decide +kernel, by decide +kernel⟩
def b__law_pen_L1 : Rho → So := (sAsg (dOp modD (dUn intD (dOp addD (dOp mulAll (dVar 1) (dC (.int 139))) (dVar 2))) (dC (.int 1000000447))) (gN 1))
def b__law_pen : Rho → So := (sSeq (sAsg (dC (.int 41)) (gN 1))
    (sSeq (sFor (dIt (dVar 0)) (gN 2) b__law_pen_L1)
    (sRetF (dDisp (dPCons (dC (.str "cells")) (dUn listD (dVar 0)) (dPCons (dC (.str "at")) (dC (.int 0)) (dPCons (dC (.str "digits")) (dC (.int 0)) (dPCons (dC (.str "count")) (dC (.int 0)) (dPCons (dC (.str "fold")) (dVar 1) dPNil)))))))))
def f__law_pen : List D → FO := fnD [false] 2 b__law_pen
theorem ok__law_pen (X : Txt T mg) {fd : FuncData} (F : Fun T.K "_law_pen" "_law_pen" s__law_pen (T.fa "_law_pen") fd) (hm : mg "_law_pen" = some (.ref (T.fa "_law_pen")))  : Dfn T mg base "_law_pen" 1 [false] [] f__law_pen :=
  dfn_mk (k := 0) F hm sc__law_pen rfl rfl (fun _ _ _ _ _ _ us hl => match us, hl with | [_], _ => rfl) (fun cdv A outer s H E hr => (ds_cons (ds_set 1 de_int sc__law_pen.nd)
    (ds_cons (ds_for (passes_of (by rfl)) (by rfl) (di_seq (de_var 0)) (dg_name 2 sc__law_pen.nd) (ds_last (ds_set 1 (de_op op_mod opd_mod (de_t1 call_int1 c1_int (by rfl) X.b_int (by decide +kernel) (de_op opr_add opd_add (de_op opr_mulAll opd_mulAll (de_var 1) de_int) (de_var 2))) de_int) sc__law_pen.nd)))
    (ds_last (ds_retF (de_disp (dp_cons de_str (DE.fz (de_t1 call_list_of c1_list (by rfl) X.b_list (by decide +kernel) (de_var 0))) (dp_cons de_str de_int (dp_cons de_str de_int (dp_cons de_str de_int (dp_cons de_str (de_var 1) dp_nil)))))))))))
theorem sc__law_draw : FnScope ["pen", "many", "cell", "digit", "blend"] ["pen", "many"] (defScope s__law_draw) := ⟨rfl, rfl, rfl, by decide +kernel, rfl, by decide +kernel, by decide +kernel⟩
def b__law_draw : Rho → So := (sSeq (sPut 0 (dC (.str "count")) (dOp addD (dOp subsD (dVarW 0) (dC (.str "count"))) (dC (.int 1))))
    (sSeq (sIf (dAndT (dB (dOp eqD (dOp subsD (dVarW 0) (dC (.str "digits"))) (dC (.int 0)))) (dB (dOp ltD (dOp subsD (dVarW 0) (dC (.str "at"))) (dUn lenD (dOp subsD (dVarW 0) (dC (.str "cells"))))))) (sSeq (sAsg (dOp subsD (dOp subsD (dVarW 0) (dC (.str "cells"))) (dOp subsD (dVarW 0) (dC (.str "at")))) (gN 2))
    (sSeq (sPut 0 (dC (.str "at")) (dOp addD (dOp subsD (dVarW 0) (dC (.str "at"))) (dC (.int 1))))
    (sIf (dB (dOp geD (dVar 2) (dOp powD (dC (.int 10)) (dC (.int 18))))) (sPut 0 (dC (.str "digits")) (dOp subD (dVar 2) (dOp powD (dC (.int 10)) (dC (.int 18))))) (sPut 0 (dC (.str "fold")) (dOp modD (dUn intD (dOp addD (dOp mulAll (dOp subsD (dVarW 0) (dC (.str "fold"))) (dC (.int 70099))) (dVar 2))) (dC (.int 2147483179))))))) sNil)
    (sSeq (sIf (dB (dOp gtD (dOp subsD (dVarW 0) (dC (.str "digits"))) (dC (.int 0)))) (sSeq (sAsg (dOp modD (dUn intD (dOp subsD (dVarW 0) (dC (.str "digits")))) (dVar 1)) (gN 3))
    (sSeq (sPut 0 (dC (.str "digits")) (dOp fdivD (dOp subsD (dVarW 0) (dC (.str "digits"))) (dVar 1)))
    (sRet (dVar 3)))) sNil)
    (sSeq (sAsg (dOp addD (dOp addD (dOp subsD (dVarW 0) (dC (.str "fold"))) (dOp mulAll (dOp subsD (dVarW 0) (dC (.str "count"))) (dC (.int 7963)))) (dC (.int 73))) (gN 4))
    (sRet (dOp modD (dOp fdivD (dUn intD (dOp modD (dOp powD (dVar 4) (dC (.int 17))) (dC (.int 2305843009213693951)))) (dC (.int 128))) (dVar 1)))))))
def f__law_draw : List D → FO := fnD [true, false] 3 b__law_draw
theorem ok__law_draw (X : Txt T mg) {fd : FuncData} (F : Fun T.K "_law_draw" "_law_draw" s__law_draw (T.fa "_law_draw") fd) (hm : mg "_law_draw" = some (.ref (T.fa "_law_draw")))  : Dfn T mg base "_law_draw" 1 [true, false] [] f__law_draw :=
  dfn_mk (k := 0) F hm sc__law_draw rfl rfl (fun _ _ _ _ _ _ us hl => match us, hl with | [_, _], _ => rfl) (fun cdv A outer s H E hr => (ds_cons (ds_put 0 (hu1 hr) de_str (de_op opr_add opd_add (de_ix (ixr_subs (hu1 hr)) opd_subs (de_varW 0) de_str) de_int))
    (ds_cons (ds_if (DW.dt (dw_and (dt_cmp (opr_eq (hu64 hr)) opd_eq (de_ix (ixr_subs (hu1 hr)) opd_subs (de_varW 0) de_str) de_int) (dw_one (dt_cmp opr_lt opd_lt (de_ix (ixr_subs (hu1 hr)) opd_subs (de_varW 0) de_str) (de_b1 call_len c1_len (by rfl) X.b_len (by decide +kernel) (de_ix (ixr_subs (hu1 hr)) opd_subs (de_varW 0) de_str)))))) (ds_cons (ds_set 2 (de_ix (ixr_subs (hu1 hr)) opd_subs (de_ix (ixr_subs (hu1 hr)) opd_subs (de_varW 0) de_str) (de_ix (ixr_subs (hu1 hr)) opd_subs (de_varW 0) de_str)) sc__law_draw.nd)
    (ds_cons (ds_put 0 (hu1 hr) de_str (de_op opr_add opd_add (de_ix (ixr_subs (hu1 hr)) opd_subs (de_varW 0) de_str) de_int))
    (ds_last (ds_if (dt_cmp op_ge opd_ge (de_var 2) (de_op op_pow opd_pow de_int de_int)) (ds_last (ds_put 0 (hu1 hr) de_str (de_op op_sub opd_sub (de_var 2) (de_op op_pow opd_pow de_int de_int)))) (ds_last (ds_put 0 (hu1 hr) de_str (de_op op_mod opd_mod (de_t1 call_int1 c1_int (by rfl) X.b_int (by decide +kernel) (de_op opr_add opd_add (de_op opr_mulAll opd_mulAll (de_ix (ixr_subs (hu1 hr)) opd_subs (de_varW 0) de_str) de_int) (de_var 2))) de_int))))))) ds_nil)
    (ds_cons (ds_if (dt_cmp op_gt opd_gt (de_ix (ixr_subs (hu1 hr)) opd_subs (de_varW 0) de_str) de_int) (ds_cons (ds_set 3 (de_op op_mod opd_mod (de_t1 call_int1 c1_int (by rfl) X.b_int (by decide +kernel) (de_ix (ixr_subs (hu1 hr)) opd_subs (de_varW 0) de_str)) (de_var 1)) sc__law_draw.nd)
    (ds_cons (ds_put 0 (hu1 hr) de_str (de_op op_fdivW opd_fdiv (de_ix (ixr_subs (hu1 hr)) opd_subs (de_varW 0) de_str) (de_var 1)))
    (ds_last (ds_ret (de_var 3))))) ds_nil)
    (ds_cons (ds_set 4 (de_op opr_add opd_add (de_op opr_add opd_add (de_ix (ixr_subs (hu1 hr)) opd_subs (de_varW 0) de_str) (de_op opr_mulAll opd_mulAll (de_ix (ixr_subs (hu1 hr)) opd_subs (de_varW 0) de_str) de_int)) de_int) sc__law_draw.nd)
    (ds_last (ds_ret (de_op op_mod opd_mod (de_op op_fdivW opd_fdiv (de_t1 call_int1 c1_int (by rfl) X.b_int (by decide +kernel) (de_op op_mod opd_mod (de_op op_pow opd_pow (de_var 4) de_int) de_int)) de_int) (de_var 1)))))))))
theorem sc__law_pick : FnScope ["pen", "some"] ["pen", "some"] (defScope s__law_pick) := ⟨rfl, rfl, rfl, by decide +kernel, rfl, by decide +kernel, by decide +kernel⟩
def b__law_pick : Rho → So := (sRet (dOp subsD (dVar 1) (dFn f__law_draw [some 0, none] [] (dIOw 0 (dCons (dUn lenD (dVar 1)) dNil)))))
def f__law_pick : List D → FO := fnD [true, false] 0 b__law_pick
theorem ok__law_pick (X : Txt T mg) {fd : FuncData} (F : Fun T.K "_law_pick" "_law_pick" s__law_pick (T.fa "_law_pick") fd) (hm : mg "_law_pick" = some (.ref (T.fa "_law_pick"))) (hd__law_draw : Dfn T mg base "_law_draw" 1 [true, false] [] f__law_draw) : Dfn T mg base "_law_pick" 2 [true, false] [] f__law_pick :=
  dfn_mk (k := 1) F hm sc__law_pick rfl rfl (fun _ _ _ _ _ _ us hl => match us, hl with | [_, _], _ => rfl) (fun cdv A outer s H E hr => (ds_last (ds_ret (de_ix (ixr_subs (hu1 hr)) opd_subs (de_var 1) (de_fn hd__law_draw 0 (Nat.zero_le _) (takes_def (by rfl) (by rfl) (by rfl) (by rfl)) ((hr).mono (by decide)) (by rfl) (dx_io 0 (dx_cons (de_b1 call_len c1_len (by rfl) X.b_len (by decide +kernel) (de_var 1)) dx_nil)))))))
theorem sc__law_shuffled : FnScope ["pen", "some", "left", "found", "lap"] ["pen", "some"] (defScope s__law_shuffled) := ⟨rfl, rfl, rfl, by decide +kernel, rfl, by decide +kernel, by decide +kernel⟩
def b__law_shuffled_L1 : Rho → So := (sExp (dMut "list" 3 appD (dCons (dMut "list" 2 popAtD (dCons (dFn f__law_draw [some 0, none] [] (dIOw 0 (dCons (dUn lenD (dVarW 2)) dNil))) dNil)) dNil)))
def b__law_shuffled : Rho → So := (sSeq (sPar 2 true 3 true (dCons (dUn listD (dVar 1)) (dCons (dLst dNil) dNil)))
    (sSeq (sFor (dRng rng1 (dCons (dUn lenD (dVar 1)) dNil)) (gN 4) b__law_shuffled_L1)
    (sRet (dGive 3))))
def f__law_shuffled : List D → FO := fnD [true, false] 3 b__law_shuffled
theorem ok__law_shuffled (X : Txt T mg) {fd : FuncData} (F : Fun T.K "_law_shuffled" "_law_shuffled" s__law_shuffled (T.fa "_law_shuffled") fd) (hm : mg "_law_shuffled" = some (.ref (T.fa "_law_shuffled"))) (hd__law_draw : Dfn T mg base "_law_draw" 1 [true, false] [] f__law_draw) : Dfn T mg base "_law_shuffled" 2 [true, false] [] f__law_shuffled :=
  dfn_mk (k := 1) F hm sc__law_shuffled rfl rfl (fun _ _ _ _ _ _ us hl => match us, hl with | [_, _], _ => rfl) (fun cdv A outer s H E hr => (ds_cons (ds_par 2 3 (dq_ow (de_t1 call_list_of c1_list (by rfl) X.b_list (by decide +kernel) (de_var 1)) (dq_ow (de_lst da_nil) dq_nil)) (by rfl) sc__law_shuffled.nd)
    (ds_cons (ds_for (passes_of (by rfl)) (by rfl) (di_rng1 (by rfl) X.b_range (da_cons (de_b1 call_len c1_len (by rfl) X.b_len (by decide +kernel) (de_var 1)) da_nil)) (dg_name 4 sc__law_shuffled.nd) (ds_last (ds_exp (de_mut 3 PySem.F.plainAttrs_list PySem.F.slot_list_append PySem.F.type_list_append mt_append mo_append (da_cons (de_mut 2 PySem.F.plainAttrs_list PySem.F.slot_list_pop PySem.F.type_list_pop mt_popAt mo_popAt (da_cons (de_fn hd__law_draw 0 (Nat.zero_le _) (takes_def (by rfl) (by rfl) (by rfl) (by rfl)) ((hr).mono (by decide)) (by rfl) (dx_io 0 (dx_cons (de_b1 call_len c1_len (by rfl) X.b_len (by decide +kernel) (de_varW 2)) dx_nil))) da_nil)) da_nil)))))
    (ds_last (ds_ret (de_give 3))))))
theorem sc__law_name : FnScope ["pen", "index", "word", "spot", "place"] ["pen", "index"] (defScope s__law_name) := ⟨rfl, rfl, rfl, by decide +kernel, rfl, by decide +kernel, by decide +kernel⟩
def b__law_name_L1 : Rho → So := (sAsg (dOp addD (dVar 2) (dOp subsD (dC (.str "abcdefghijklmnopqrstuvwxyz")) (dFn f__law_draw [some 0, none] [] (dIOw 0 (dCons (dC (.int 26)) dNil))))) (gN 2))
def b__law_name : Rho → So := (sSeq (sAsg (dC (.str "")) (gN 2))
    (sSeq (sFor (dRng rng1 (dCons (dOp addD (dC (.int 1)) (dFn f__law_draw [some 0, none] [] (dIOw 0 (dCons (dC (.int 8)) dNil)))) dNil)) (gN 3) b__law_name_L1)
    (sSeq (sAsg (dOp addD (dC (.int 1)) (dFn f__law_draw [some 0, none] [] (dIOw 0 (dCons (dUn lenD (dVar 2)) dNil)))) (gN 4))
    (sRet (dOp addD (dOp addD (dSl (dVar 2) dNoPart (dPart (dVar 4))) (dUn strD (dVar 1))) (dSl (dVar 2) (dPart (dVar 4)) dNoPart))))))
def f__law_name : List D → FO := fnD [true, false] 3 b__law_name
theorem ok__law_name (X : Txt T mg) {fd : FuncData} (F : Fun T.K "_law_name" "_law_name" s__law_name (T.fa "_law_name") fd) (hm : mg "_law_name" = some (.ref (T.fa "_law_name"))) (hd__law_draw : Dfn T mg base "_law_draw" 1 [true, false] [] f__law_draw) : Dfn T mg base "_law_name" 2 [true, false] [] f__law_name :=
  dfn_mk (k := 1) F hm sc__law_name rfl rfl (fun _ _ _ _ _ _ us hl => match us, hl with | [_, _], _ => rfl) (fun cdv A outer s H E hr => (ds_cons (ds_set 2 de_str sc__law_name.nd)
    (ds_cons (ds_for (passes_of (by rfl)) (by rfl) (di_rng1 (by rfl) X.b_range (da_cons (de_op opr_add opd_add de_int (de_fn hd__law_draw 0 (Nat.zero_le _) (takes_def (by rfl) (by rfl) (by rfl) (by rfl)) ((hr).mono (by decide)) (by rfl) (dx_io 0 (dx_cons de_int dx_nil)))) da_nil)) (dg_name 3 sc__law_name.nd) (ds_last (ds_set 2 (de_op opr_add opd_add (de_var 2) (de_ix (ixr_subs (hu1 hr)) opd_subs de_str (de_fn hd__law_draw 0 (Nat.zero_le _) (takes_def (by rfl) (by rfl) (by rfl) (by rfl)) ((hr).mono (by decide)) (by rfl) (dx_io 0 (dx_cons de_int dx_nil))))) sc__law_name.nd)))
    (ds_cons (ds_set 4 (de_op opr_add opd_add de_int (de_fn hd__law_draw 0 (Nat.zero_le _) (takes_def (by rfl) (by rfl) (by rfl) (by rfl)) ((hr).mono (by decide)) (by rfl) (dx_io 0 (dx_cons (de_b1 call_len c1_len (by rfl) X.b_len (by decide +kernel) (de_var 2)) dx_nil)))) sc__law_name.nd)
    (ds_last (ds_ret (de_op opr_add opd_add (de_op opr_add opd_add (de_sl (de_var 2) do_none (do_some (de_var 4))) (de_t1 call_str_int c1_str (by rfl) X.b_str (by decide +kernel) (de_var 1))) (de_sl (de_var 2) (do_some (de_var 4)) do_none))))))))
theorem sc__law_names : FnScope ["pen", "many", "index"] ["pen", "many"] (defScope s__law_names) := ⟨rfl, rfl, rfl, by decide +kernel, rfl, by decide +kernel, by decide +kernel⟩
def b__law_names_E1 : Rho → Ro D := (dFn f__law_name [some 0, none] [] (dIOw 0 (dCons (dVar 2) dNil)))
def b__law_names : Rho → So := (sRet (dFn f__law_shuffled [some 0, none] [] (dIOw 0 (dCons (dLc [2] (dRng rng1 (dCons (dVar 1) dNil)) (gN 2) dYes b__law_names_E1) dNil))))
def f__law_names : List D → FO := fnD [true, false] 1 b__law_names
theorem ok__law_names (X : Txt T mg) {fd : FuncData} (F : Fun T.K "_law_names" "_law_names" s__law_names (T.fa "_law_names") fd) (hm : mg "_law_names" = some (.ref (T.fa "_law_names"))) (hd__law_shuffled : Dfn T mg base "_law_shuffled" 2 [true, false] [] f__law_shuffled) (hd__law_name : Dfn T mg base "_law_name" 2 [true, false] [] f__law_name) : Dfn T mg base "_law_names" 3 [true, false] [] f__law_names :=
  dfn_mk (k := 2) F hm sc__law_names rfl rfl (fun _ _ _ _ _ _ us hl => match us, hl with | [_, _], _ => rfl) (fun cdv A outer s H E hr => (ds_last (ds_ret (de_fn hd__law_shuffled 0 (Nat.zero_le _) (takes_def (by rfl) (by rfl) (by rfl) (by rfl)) ((hr).mono (by decide)) (by rfl) (dx_io 0 (dx_cons (DE.fz (de_lc (own := [("index", 2)]) (by rfl) sc__law_names.nd (di_rng1 (by rfl) X.b_range (da_cons (de_var 1) da_nil)) (blkOk_by (by kernel_rfl)) ⟨fun _ _ _ _ _ => (dgc_name 2 sc__law_names.nd), fun _ _ _ _ _ => dts_nil, fun _ _ _ _ _ => (de_fn hd__law_name 0 (Nat.zero_le _) LamX.takes0 ((hr).mono (by decide)) (by rfl) (dx_io 0 (dx_cons (de_var 2) dx_nil)))⟩)) dx_nil))))))
theorem sc__law_why : FnScope ["call", "found", "error"] ["call"] (defScope s__law_why) := ⟨rfl, rfl, rfl, by decide +kernel, rfl, by decide +kernel, by decide +kernel⟩
def b__law_why (th : Th) : Rho → So := (sSeq (sAsg (dC .non) (gN 1))
    (sSeq (sTry (sExp (dThk th))
    [⟨(fun x => List.lookup x [("BadText", true)]), (some 2), (fun _ fs => (sAsg (dLst (dCons (dC (.str "text")) (dCons (dXf fs "line") (dCons (dXf fs "word") dNil)))) (gN 1)))⟩, ⟨(fun x => List.lookup x []), (some 2), (fun _ _ => sNever)⟩, ⟨(fun x => List.lookup x []), (some 2), (fun _ _ => sNever)⟩, ⟨(fun x => List.lookup x []), (some 2), (fun _ _ => sNever)⟩, ⟨(fun x => List.lookup x []), (some 2), (fun _ _ => sNever)⟩, ⟨(fun x => List.lookup x []), (some 2), (fun _ _ => sNever)⟩, ⟨(fun x => List.lookup x []), (some 2), (fun _ _ => sNever)⟩, ⟨(fun x => List.lookup x []), (some 2), (fun _ _ => sNever)⟩])
    (sRet (dVar 1))))
theorem gd__law_why {X0 : Cx} (X : Txt T X0.mg) (hK : X0.K = T.K) {cdv : Value} : GivesD T X0 ["call", "found", "error"] "_law_why" (defScope s__law_why) (T.fa "_law_why") cdv (defBody s__law_why) "call" b__law_why := by
  intro s H f c' q R0 G0 th act
  exact (ds_cons (ds_set 1 de_non sc__law_why.nd)
    (ds_cons (ds_try (by rfl) (by rfl) sc__law_why.nd LamX.takes0 (fun W pn xe tk hp => (ds_last (ds_exp (act W pn xe _ _ tk))))
    (.cons (l := ⟨(fun x => List.lookup x [("BadText", true)]), (some 2), (fun _ fs => (sAsg (dLst (dCons (dC (.str "text")) (dCons (dXf fs "line") (dCons (dXf fs "word") dNil)))) (gN 1)))⟩) ⟨by rfl, by decide, .inl X.e_BadText⟩ (by exact ⟨by rfl, by rfl⟩) (fun _ h => by cases h <;> exact ni rfl) (xm_of X.xm_BadText) (fun a oe d pn e fs pv1 he hz hf => by
      obtain rfl := lookup_one he
      exact (ds_last (ds_set 1 (DE.fz (de_lst (da_cons de_str (da_cons (de_xf (i := 2) X.xf_BadText X.xn_BadText_line hz hf) (da_cons (de_xf (i := 2) X.xf_BadText X.xn_BadText_word hz hf) da_nil))))) sc__law_why.nd)))
    (.cons (l := ⟨(fun x => List.lookup x []), (some 2), (fun _ _ => sNever)⟩) ⟨by rfl, by decide, .inl X.e_BadName⟩ (by exact ⟨by rfl, by rfl⟩) (fun _ h => by cases h <;> exact ni rfl) (xm_of X.xm_BadName) (fun _ _ _ _ _ _ _ h => by cases h)
    (.cons (l := ⟨(fun x => List.lookup x []), (some 2), (fun _ _ => sNever)⟩) ⟨by rfl, by decide, .inl X.e_BadNumber⟩ (by exact ⟨by rfl, by rfl⟩) (fun _ h => by cases h <;> exact ni rfl) (xm_of X.xm_BadNumber) (fun _ _ _ _ _ _ _ h => by cases h)
    (.cons (l := ⟨(fun x => List.lookup x []), (some 2), (fun _ _ => sNever)⟩) ⟨by rfl, by decide, .inl X.e_BadRow⟩ (by exact ⟨by rfl, by rfl⟩) (fun _ h => by cases h <;> exact ni rfl) (xm_of X.xm_BadRow) (fun _ _ _ _ _ _ _ h => by cases h)
    (.cons (l := ⟨(fun x => List.lookup x []), (some 2), (fun _ _ => sNever)⟩) ⟨by rfl, by decide, .inl X.e_NoName⟩ (by exact ⟨by rfl, by rfl⟩) (fun _ h => by cases h <;> exact ni rfl) (xm_of X.xm_NoName) (fun _ _ _ _ _ _ _ h => by cases h)
    (.cons (l := ⟨(fun x => List.lookup x []), (some 2), (fun _ _ => sNever)⟩) ⟨by rfl, by decide, .inl X.e_TakenName⟩ (by exact ⟨by rfl, by rfl⟩) (fun _ h => by cases h <;> exact ni rfl) (xm_of X.xm_TakenName) (fun _ _ _ _ _ _ _ h => by cases h)
    (.cons (l := ⟨(fun x => List.lookup x []), (some 2), (fun _ _ => sNever)⟩) ⟨by rfl, by decide, .inl X.e_Unlike⟩ (by exact ⟨by rfl, by rfl⟩) (fun _ h => by cases h <;> exact ni rfl) (xm_of X.xm_Unlike) (fun _ _ _ _ _ _ _ h => by cases h)
    (.cons (l := ⟨(fun x => List.lookup x []), (some 2), (fun _ _ => sNever)⟩) ⟨by rfl, by decide, .inl X.e_TooMany⟩ (by exact ⟨by rfl, by rfl⟩) (fun _ h => by cases h <;> exact ni rfl) (xm_of X.xm_TooMany) (fun _ _ _ _ _ _ _ h => by cases h)
    .nil)))))))))
    (ds_last (ds_ret (de_var 1)))))
theorem sc__law_odd_name : FnScope ["pen", "name"] ["pen", "name"] (defScope s__law_odd_name) := ⟨rfl, rfl, rfl, by decide +kernel, rfl, by decide +kernel, by decide +kernel⟩
def b__law_odd_name : Rho → So := (sRet (dFn f__law_pick [some 0, none] [] (dIOw 0 (dCons (dLst (dCons (dC (.str "")) (dCons (dOp addD (dC (.str "1")) (dSl (dVar 1) dNoPart (dPart (dC (.int 8))))) (dCons (dMtT "str" upperD (dVar 1) dNil) (dCons (dOp addD (dVar 1) (dC (.str "abcdefghijkl"))) (dCons (dOp addD (dSl (dVar 1) dNoPart (dPart (dC (.int 4)))) (dC (.str "_"))) (dCons (dC (.str " ")) (dCons (dOp addD (dSl (dVar 1) dNoPart (dPart (dC (.int 3)))) (dC (.str " b"))) (dCons (dC .non) (dCons (dC (.int 5)) (dCons (dC (.bl true)) (dCons (dTup (dCons (dVar 1) dNil)) (dCons (dOp addD (dSl (dVar 1) dNoPart (dPart (dC (.int 5)))) (dC (.str "\n"))) (dCons (dC (.str "-")) (dCons (dC (.str ".")) (dCons (dLst (dCons (dVar 1) dNil)) dNil)))))))))))))))) dNil))))
def f__law_odd_name : List D → FO := fnD [true, false] 0 b__law_odd_name
theorem ok__law_odd_name (X : Txt T mg) {fd : FuncData} (F : Fun T.K "_law_odd_name" "_law_odd_name" s__law_odd_name (T.fa "_law_odd_name") fd) (hm : mg "_law_odd_name" = some (.ref (T.fa "_law_odd_name"))) (hd__law_pick : Dfn T mg base "_law_pick" 2 [true, false] [] f__law_pick) : Dfn T mg base "_law_odd_name" 3 [true, false] [] f__law_odd_name :=
  dfn_mk (k := 2) F hm sc__law_odd_name rfl rfl (fun _ _ _ _ _ _ us hl => match us, hl with | [_, _], _ => rfl) (fun cdv A outer s H E hr => (ds_last (ds_ret (de_fn hd__law_pick 0 (Nat.zero_le _) (takes_def (by rfl) (by rfl) (by rfl) (by rfl)) ((hr).mono (by decide)) (by rfl) (dx_io 0 (dx_cons (DE.fz (de_lst (da_cons de_str (da_cons (de_op opr_add opd_add de_str (de_sl (de_var 1) do_none (do_some de_int))) (da_cons (de_mt0 PySem.F.plainAttrs_str PySem.F.slot_str_upper PySem.F.type_str_upper mt_upper md_upper (de_var 1)) (da_cons (de_op opr_add opd_add (de_var 1) de_str) (da_cons (de_op opr_add opd_add (de_sl (de_var 1) do_none (do_some de_int)) de_str) (da_cons de_str (da_cons (de_op opr_add opd_add (de_sl (de_var 1) do_none (do_some de_int)) de_str) (da_cons de_non (da_cons de_int (da_cons de_bl (da_cons (de_tup (da_cons (de_var 1) da_nil)) (da_cons (de_op opr_add opd_add (de_sl (de_var 1) do_none (do_some de_int)) de_str) (da_cons de_str (da_cons de_str (da_cons (DE.fz (de_lst (da_cons (de_var 1) da_nil))) da_nil))))))))))))))))) dx_nil))))))
theorem sc__law_same : FnScope ["told", "due", "one", "two"] ["told", "due"] (defScope s__law_same) := ⟨rfl, rfl, rfl, by decide +kernel, rfl, by decide +kernel, by decide +kernel⟩
def b__law_same : Rho → So := (sSeq (sIf (dTru (dUn (isiD "tuple") (dVar 1))) sNever sNil)
    (sSeq (sIf (dB (dOp isD (dVar 1) (dC .non))) (sRet (dOp isD (dVar 0) (dC .non))) sNil)
    (sSeq (sIf (dB (dOp isD (dVar 1) (dC (.bl true)))) (sRet (dOp isD (dVar 0) (dC (.bl true)))) sNil)
    (sSeq (sIf (dB (dOp isD (dVar 1) (dC (.bl false)))) (sRet (dOp isD (dVar 0) (dC (.bl false)))) sNil)
    (sSeq (sIf (dTru (dUn (isiD "int") (dVar 1))) (sRet (dAnd (dUn (isiD "int") (dVar 0)) (dAnd (dNot (dUn (isiD "bool") (dVar 0))) (dOp eqD (dVar 0) (dVar 1))))) sNil)
    (sRet (dAnd (dUn (isiD "str") (dVar 0)) (dOp eqD (dVar 0) (dVar 1)))))))))
def f__law_same : List D → FO := fnD [false, false] 2 b__law_same
theorem ok__law_same (X : Txt T mg) {fd : FuncData} (F : Fun T.K "_law_same" "_law_same" s__law_same (T.fa "_law_same") fd) (hm : mg "_law_same" = some (.ref (T.fa "_law_same")))  : Dfn T mg base "_law_same" 1 [false, false] [] f__law_same :=
  dfn_mk (k := 0) F hm sc__law_same rfl rfl (fun _ _ _ _ _ _ us hl => match us, hl with | [_, _], _ => rfl) (fun cdv A outer s H E hr => (ds_cons (ds_if (dt_tru (de_isi "tuple" (de_var 1) (pe_tyN (by rfl) X.b_tuple (by decide +kernel)) (by rfl) X.b_isinstance)) (ds_last ds_never) ds_nil)
    (ds_cons (ds_if (dt_cmp opr_is opd_is (de_var 1) de_non) (ds_last (ds_ret (de_cmp opr_is opd_is (de_var 0) de_non))) ds_nil)
    (ds_cons (ds_if (dt_cmp opr_is opd_is (de_var 1) de_bl) (ds_last (ds_ret (de_cmp opr_is opd_is (de_var 0) de_bl))) ds_nil)
    (ds_cons (ds_if (dt_cmp opr_is opd_is (de_var 1) de_bl) (ds_last (ds_ret (de_cmp opr_is opd_is (de_var 0) de_bl))) ds_nil)
    (ds_cons (ds_if (dt_tru (de_isi "int" (de_var 1) (pe_tyN (by rfl) X.b_int (by decide +kernel)) (by rfl) X.b_isinstance)) (ds_last (ds_ret (de_and (de_isi "int" (de_var 0) (pe_tyN (by rfl) X.b_int (by decide +kernel)) (by rfl) X.b_isinstance) (de_and (de_not (de_isi "bool" (de_var 0) (pe_tyN (by rfl) X.b_bool (by decide +kernel)) (by rfl) X.b_isinstance)) (de_one (de_cmp (opr_eq (hu64 hr)) opd_eq (de_var 0) (de_var 1))))))) ds_nil)
    (ds_last (ds_ret (de_and (de_isi "str" (de_var 0) (pe_tyN (by rfl) X.b_str (by decide +kernel)) (by rfl) X.b_isinstance) (de_one (de_cmp (opr_eq (hu64 hr)) opd_eq (de_var 0) (de_var 1))))))))))))
theorem sc__law_bent_words : FnScope ["pen", "words", "more", "at", "way", "other"] ["pen", "words", "more"] (defScope s__law_bent_words) := ⟨rfl, rfl, rfl, by decide +kernel, rfl, by decide +kernel, by decide +kernel⟩
def b__law_bent_words : Rho → So := (sSeq (sPar 3 false 4 false (dCons (dFn f__law_draw [some 0, none] [] (dIOw 0 (dCons (dOp addD (dUn lenD (dVar 1)) (dC (.int 1))) dNil))) (dCons (dFn f__law_draw [some 0, none] [] (dIOw 0 (dCons (dC (.int 4)) dNil))) dNil)))
    (sSeq (sAsg (dFn f__law_pick [some 0, none] [] (dIOw 0 (dCons (dOp addD (dVar 2) (dLst (dCons (dC (.str "")) (dCons (dC (.str "A")) (dCons (dC (.str "1a")) (dCons (dC (.str "5")) (dCons (dC (.str "0")) (dCons (dC (.str "01")) (dCons (dC (.str "-0")) (dCons (dC (.str "-3")) dNil)))))))))) dNil))) (gN 5))
    (sSeq (sIf (dOrT (dB (dOp eqD (dVar 4) (dC (.int 0)))) (dB (dOp eqD (dVar 3) (dUn lenD (dVar 1))))) (sRet (dOp addD (dOp addD (dSl (dVar 1) dNoPart (dPart (dVar 3))) (dLst (dCons (dVar 5) dNil))) (dSl (dVar 1) (dPart (dVar 3)) dNoPart))) sNil)
    (sSeq (sIf (dB (dOp eqD (dVar 4) (dC (.int 1)))) (sRet (dOp addD (dSl (dVar 1) dNoPart (dPart (dVar 3))) (dSl (dVar 1) (dPart (dOp addD (dVar 3) (dC (.int 1)))) dNoPart))) sNil)
    (sRet (dOp addD (dOp addD (dSl (dVar 1) dNoPart (dPart (dVar 3))) (dIf (dB (dOp eqD (dVar 4) (dC (.int 2)))) (dLst (dCons (dVar 5) dNil)) (dOp mulAll (dSl (dVar 1) (dPart (dVar 3)) (dPart (dOp addD (dVar 3) (dC (.int 1))))) (dC (.int 2))))) (dSl (dVar 1) (dPart (dOp addD (dVar 3) (dC (.int 1)))) dNoPart)))))))
def f__law_bent_words : List D → FO := fnD [true, false, false] 3 b__law_bent_words
theorem ok__law_bent_words (X : Txt T mg) {fd : FuncData} (F : Fun T.K "_law_bent_words" "_law_bent_words" s__law_bent_words (T.fa "_law_bent_words") fd) (hm : mg "_law_bent_words" = some (.ref (T.fa "_law_bent_words"))) (hd__law_draw : Dfn T mg base "_law_draw" 1 [true, false] [] f__law_draw) (hd__law_pick : Dfn T mg base "_law_pick" 2 [true, false] [] f__law_pick) : Dfn T mg base "_law_bent_words" 3 [true, false, false] [] f__law_bent_words :=
  dfn_mk (k := 2) F hm sc__law_bent_words rfl rfl (fun _ _ _ _ _ _ us hl => match us, hl with | [_, _, _], _ => rfl) (fun cdv A outer s H E hr => (ds_cons (ds_par 3 4 (dq_fz (de_fn hd__law_draw 0 (Nat.zero_le _) (takes_def (by rfl) (by rfl) (by rfl) (by rfl)) ((hr).mono (by decide)) (by rfl) (dx_io 0 (dx_cons (de_op opr_add opd_add (de_b1 call_len c1_len (by rfl) X.b_len (by decide +kernel) (de_var 1)) de_int) dx_nil))) (dq_fz (de_fn hd__law_draw 0 (Nat.zero_le _) (takes_def (by rfl) (by rfl) (by rfl) (by rfl)) ((hr).mono (by decide)) (by rfl) (dx_io 0 (dx_cons de_int dx_nil))) dq_nil)) (by rfl) sc__law_bent_words.nd)
    (ds_cons (ds_set 5 (de_fn hd__law_pick 0 (Nat.zero_le _) (takes_def (by rfl) (by rfl) (by rfl) (by rfl)) ((hr).mono (by decide)) (by rfl) (dx_io 0 (dx_cons (de_op opr_add opd_add (de_var 2) (DE.fz (de_lst (da_cons de_str (da_cons de_str (da_cons de_str (da_cons de_str (da_cons de_str (da_cons de_str (da_cons de_str (da_cons de_str da_nil))))))))))) dx_nil))) sc__law_bent_words.nd)
    (ds_cons (ds_if (DW.dt (dw_or (dt_cmp (opr_eq (hu64 hr)) opd_eq (de_var 4) de_int) (dw_one (dt_cmp (opr_eq (hu64 hr)) opd_eq (de_var 3) (de_b1 call_len c1_len (by rfl) X.b_len (by decide +kernel) (de_var 1)))))) (ds_last (ds_ret (de_op opr_add opd_add (de_op opr_add opd_add (de_sl (de_var 1) do_none (do_some (de_var 3))) (DE.fz (de_lst (da_cons (de_var 5) da_nil)))) (de_sl (de_var 1) (do_some (de_var 3)) do_none)))) ds_nil)
    (ds_cons (ds_if (dt_cmp (opr_eq (hu64 hr)) opd_eq (de_var 4) de_int) (ds_last (ds_ret (de_op opr_add opd_add (de_sl (de_var 1) do_none (do_some (de_var 3))) (de_sl (de_var 1) (do_some (de_op opr_add opd_add (de_var 3) de_int)) do_none)))) ds_nil)
    (ds_last (ds_ret (de_op opr_add opd_add (de_op opr_add opd_add (de_sl (de_var 1) do_none (do_some (de_var 3))) (de_if (dt_cmp (opr_eq (hu64 hr)) opd_eq (de_var 4) de_int) (DE.fz (de_lst (da_cons (de_var 5) da_nil))) (de_op opr_mulAll opd_mulAll (de_sl (de_var 1) (do_some (de_var 3)) (do_some (de_op opr_add opd_add (de_var 3) de_int))) de_int))) (de_sl (de_var 1) (do_some (de_op opr_add opd_add (de_var 3) de_int)) do_none)))))))))
theorem sc__law_is_name : FnScope ["value", "sign"] ["value"] (defScope s__law_is_name) := ⟨rfl, rfl, rfl, by decide +kernel, rfl, by decide +kernel, by decide +kernel⟩
def b__law_is_name : Rho → So := (sSeq (sIf (dOrT (dNotT (dTru (dUn (isiD "str") (dVar 0)))) (dOrT (dNotT (dB (dChain leD leD (dC (.int 1)) (dUn lenD (dVar 0)) (dC (.int 12))))) (dB (dOp notInAny (dOp subsD (dVar 0) (dC (.int 0))) (dC (.str "abcdefghijklmnopqrstuvwxyz")))))) (sRet (dC (.bl false))) sNil)
    (sRet (dOp eqD (dLc [1] (dIt (dVar 0)) (gN 1) (dB (dOp notInAny (dVar 1) (dC (.str "abcdefghijklmnopqrstuvwxyz0123456789")))) (dVar 1)) (dLst dNil))))
def f__law_is_name : List D → FO := fnD [false] 1 b__law_is_name
theorem ok__law_is_name (X : Txt T mg) {fd : FuncData} (F : Fun T.K "_law_is_name" "_law_is_name" s__law_is_name (T.fa "_law_is_name") fd) (hm : mg "_law_is_name" = some (.ref (T.fa "_law_is_name")))  : Dfn T mg base "_law_is_name" 1 [false] [] f__law_is_name :=
  dfn_mk (k := 0) F hm sc__law_is_name rfl rfl (fun _ _ _ _ _ _ us hl => match us, hl with | [_], _ => rfl) (fun cdv A outer s H E hr => (ds_cons (ds_if (DW.dt (dw_or (dt_not (dt_tru (de_isi "str" (de_var 0) (pe_tyN (by rfl) X.b_str (by decide +kernel)) (by rfl) X.b_isinstance))) (dw_or (dt_not (dt_chain op_le opd_le op_le opd_le de_int (de_b1 call_len c1_len (by rfl) X.b_len (by decide +kernel) (de_var 0)) de_int)) (dw_one (dt_cmp (opr_notInAny (hu65 hr)) opd_notInAny (de_ix (ixr_subs (hu1 hr)) opd_subs (de_var 0) de_int) de_str))))) (ds_last (ds_ret de_bl)) ds_nil)
    (ds_last (ds_ret (de_cmp (opr_eq (hu64 hr)) opd_eq (DE.fz (de_lc (own := [("sign", 1)]) (by rfl) sc__law_is_name.nd (di_seq (de_var 0)) (blkOk_by (by kernel_rfl)) ⟨fun _ _ _ _ _ => (dgc_name 1 sc__law_is_name.nd), fun _ _ _ _ _ => (dts_one (dt_cmp (opr_notInAny (hu65 hr)) opd_notInAny (de_var 1) de_str)), fun _ _ _ _ _ => (de_var 1)⟩)) (DE.fz (de_lst da_nil)))))))
theorem sc__law_first_wrong : FnScope ["text", "lines", "words", "at", "word"] ["text"] (defScope s__law_first_wrong) := ⟨rfl, rfl, rfl, by decide +kernel, rfl, by decide +kernel, by decide +kernel⟩
def b__law_first_wrong_L1 : Rho → So := (sIf (dNotT (dTru (dF0 f__law_is_name [] (dCons (dVar 4) dNil)))) (sRet (dLst (dCons (dC (.str "text")) (dCons (dC (.int 1)) (dCons (dOp addD (dVar 3) (dC (.int 1))) dNil))))) sNil)
def b__law_first_wrong : Rho → So := (sSeq (sAsg (dMtT "str" splitD (dVar 0) (dCons (dC (.str "\n")) dNil)) (gN 1))
    (sSeq (sAsg (dMtT "str" splitD (dOp subsD (dVar 1) (dC (.int 0))) (dCons (dC (.str " ")) dNil)) (gN 2))
    (sSeq (sFor (dEnum (dVar 2)) (gT [(gN 3), (gN 4)]) b__law_first_wrong_L1)
    (sRet (dIf (dB (dOp eqD (dUn lenD (dVar 1)) (dC (.int 1)))) (dC .non) (dLst (dCons (dC (.str "text")) (dCons (dC (.int 1)) (dCons (dOp addD (dUn lenD (dVar 2)) (dC (.int 1))) dNil)))))))))
def f__law_first_wrong : List D → FO := fnD [false] 4 b__law_first_wrong
theorem ok__law_first_wrong (X : Txt T mg) {fd : FuncData} (F : Fun T.K "_law_first_wrong" "_law_first_wrong" s__law_first_wrong (T.fa "_law_first_wrong") fd) (hm : mg "_law_first_wrong" = some (.ref (T.fa "_law_first_wrong"))) (hd__law_is_name : Dfn T mg base "_law_is_name" 1 [false] [] f__law_is_name) : Dfn T mg base "_law_first_wrong" 2 [false] [] f__law_first_wrong :=
  dfn_mk (k := 1) F hm sc__law_first_wrong rfl rfl (fun _ _ _ _ _ _ us hl => match us, hl with | [_], _ => rfl) (fun cdv A outer s H E hr => (ds_cons (ds_set 1 (DE.fz (de_mt PySem.F.plainAttrs_str PySem.F.slot_str_split PySem.F.type_str_split mt_split md_split (de_var 0) (da_cons de_str da_nil))) sc__law_first_wrong.nd)
    (ds_cons (ds_set 2 (DE.fz (de_mt PySem.F.plainAttrs_str PySem.F.slot_str_split PySem.F.type_str_split mt_split md_split (de_ix (ixr_subs (hu1 hr)) opd_subs (de_var 1) de_int) (da_cons de_str da_nil))) sc__law_first_wrong.nd)
    (ds_cons (ds_for (passes_of (by rfl)) (by rfl) (di_enum (by rfl) X.b_enumerate (de_var 2)) (dg_tup (by rfl) (dgs_cons (dg_name 3 sc__law_first_wrong.nd) (dgs_cons (dg_name 4 sc__law_first_wrong.nd) dgs_nil))) (ds_last (ds_if (dt_not (dt_tru (de_fn0 hd__law_is_name 0 (Nat.zero_le _) (takes_def (by rfl) (by rfl) (by rfl) (by rfl)) ((hr).mono (by decide)) (by rfl) (da_cons (de_var 4) da_nil)))) (ds_last (ds_ret (DE.fz (de_lst (da_cons de_str (da_cons de_int (da_cons (de_op opr_add opd_add (de_var 3) de_int) da_nil))))))) ds_nil)))
    (ds_last (ds_ret (de_if (dt_cmp (opr_eq (hu64 hr)) opd_eq (de_b1 call_len c1_len (by rfl) X.b_len (by decide +kernel) (de_var 1)) de_int) de_non (DE.fz (de_lst (da_cons de_str (da_cons de_int (da_cons (de_op opr_add opd_add (de_b1 call_len c1_len (by rfl) X.b_len (by decide +kernel) (de_var 2)) de_int) da_nil))))))))))))
theorem sc_word_text : FnScope ["word"] ["word"] (defScope s_word_text) := ⟨rfl, rfl, rfl, by decide +kernel, rfl, by decide +kernel, by decide +kernel⟩
def b_word_text : Rho → So := (sRet (dMtT "str" joinD (dC (.str " ")) (dCons (dIf (dB (dOp gtD (dUn lenD (dVar 0)) (dC (.int 0)))) (dVar 0) (dC (.ktp [.str "nothing", .str "pressed"]))) dNil)))
def f_word_text : List D → FO := fnD [false] 0 b_word_text
theorem ok_word_text (X : Txt T mg) {fd : FuncData} (F : Fun T.K "word_text" "word_text" s_word_text (T.fa "word_text") fd) (hm : mg "word_text" = some (.ref (T.fa "word_text")))  : Dfn T mg base "word_text" 1 [false] [] f_word_text :=
  dfn_mk (k := 0) F hm sc_word_text rfl rfl (fun _ _ _ _ _ _ us hl => match us, hl with | [_], _ => rfl) (fun cdv A outer s H E hr => (ds_last (ds_ret (de_mt PySem.F.plainAttrs_str PySem.F.slot_str_join PySem.F.type_str_join mt_join md_join de_str (da_cons (de_if (dt_cmp op_gt opd_gt (de_b1 call_len c1_len (by rfl) X.b_len (by decide +kernel) (de_var 0)) de_int) (de_var 0) (de_gK X.c_NOTHING (by rfl))) da_nil)))))
theorem sc_Reader_init : FnScope ["self", "rows"] ["self", "rows"] (defScope s_Reader_init) := ⟨rfl, rfl, rfl, by decide +kernel, rfl, by decide +kernel, by decide +kernel⟩
def b_Reader_init : Rho → So := (sSeq (sFld 0 ["Reader"] "rows" (dVar 1))
    (sSeq (sFld 0 ["Reader"] "line" (dC (.int 0)))
    (sFld 0 ["Reader"] "at" (dC (.int 0)))))
def f_Reader_init : List D → FO := fnD [true, false] 0 b_Reader_init
theorem ok_Reader_init (X : Txt T mg) {fI : Addr} {fd : FuncData} (F : Fun T.K "__init__" "Reader.__init__" s_Reader_init fI fd) (hM : Mk T.K (T.cl "Reader") fI) (hm : mg "Reader" = some (.ref (T.cl "Reader")))  : Mkr T mg base "Reader" 1 [false] [] f_Reader_init :=
  ⟨⟨fI, fd, ["self", "rows"], hM, fn_ok (k := 0) (bs := [true, false]) F sc_Reader_init rfl rfl (fun cdv A outer s H E hr => (ds_cons (ds_fld 0 ["Reader"] X.f_rows (de_var 1))
    (ds_cons (ds_fld 0 ["Reader"] X.f_line de_int)
    (ds_last (ds_fld 0 ["Reader"] X.f_at de_int))))), fun n hn => ⟨[], [], F.binds (fun _ _ _ _ _ _ us hl => match us, hl with | [_, _], _ => rfl), .nil, fun G => by rw [List.drop_nil]; exact .nil⟩⟩, hm, fun ds h => if_neg h⟩
theorem sc_Reader_refuse : FnScope ["self"] ["self"] (defScope s_Reader_refuse) := ⟨rfl, rfl, rfl, by decide +kernel, rfl, by decide +kernel, by decide +kernel⟩
def b_Reader_refuse : Rho → So := (sRaise "BadText" ["line", "word"] (dCons (dOp addD (dUn (fldD ["Reader"] "line") (dVarW 0)) (dC (.int 1))) (dCons (dOp addD (dUn (fldD ["Reader"] "at") (dVarW 0)) (dC (.int 1))) dNil)))
def f_Reader_refuse : List D → FO := fnD [true] 0 b_Reader_refuse
theorem ok_Reader_refuse (X : Txt T mg) {f : Addr} {fd : FuncData} (F : Fun T.K "refuse" "Reader.refuse" s_Reader_refuse f fd) (hM : Meth T.K (T.cl "Reader") "refuse" f) (hC : Cls T.K (T.cl "Reader")) (ho_BadText : Ox T mg base "BadText" 1 ["line", "word"]) : Mth T mg base "Reader" "refuse" 3 [true] [] f_Reader_refuse :=
  ⟨⟨f, fd, ["self"], hM, fn_ok (k := 2) (bs := [true]) F sc_Reader_refuse rfl rfl (fun cdv A outer s H E hr => (ds_last (ds_raise ho_BadText (by rfl) (takes_def (by rfl) (by rfl) (by rfl) (by rfl)) ((hr).mono (by decide)) (by rfl) (da_cons (de_op opr_add opd_add (de_fld ["Reader"] X.f_line (de_varW 0)) de_int) (da_cons (de_op opr_add opd_add (de_fld ["Reader"] X.f_at (de_varW 0)) de_int) da_nil))))), fun n hn => ⟨[], [], F.binds (fun _ _ _ _ _ _ us hl => match us, hl with | [_], _ => rfl), .nil, fun G => by rw [List.drop_nil]; exact .nil⟩⟩, hC⟩
theorem sc_Reader_seen : FnScope ["self", "row"] ["self"] (defScope s_Reader_seen) := ⟨rfl, rfl, rfl, by decide +kernel, rfl, by decide +kernel, by decide +kernel⟩
def b_Reader_seen : Rho → So := (sSeq (sAsg (dOp subsD (dUn (fldD ["Reader"] "rows") (dVarW 0)) (dUn (fldD ["Reader"] "line") (dVarW 0))) (gN 1))
    (sRet (dIf (dB (dOp ltD (dUn (fldD ["Reader"] "at") (dVarW 0)) (dUn lenD (dVar 1)))) (dOp subsD (dVar 1) (dUn (fldD ["Reader"] "at") (dVarW 0))) (dC .non))))
def f_Reader_seen : List D → FO := fnD [true] 1 b_Reader_seen
theorem ok_Reader_seen (X : Txt T mg) {f : Addr} {fd : FuncData} (F : Fun T.K "seen" "Reader.seen" s_Reader_seen f fd) (hM : Meth T.K (T.cl "Reader") "seen" f) (hC : Cls T.K (T.cl "Reader"))  : Mth T mg base "Reader" "seen" 1 [true] [] f_Reader_seen :=
  ⟨⟨f, fd, ["self"], hM, fn_ok (k := 0) (bs := [true]) F sc_Reader_seen rfl rfl (fun cdv A outer s H E hr => (ds_cons (ds_set 1 (de_ix (ixr_subs (hu1 hr)) opd_subs (de_fld ["Reader"] X.f_rows (de_varW 0)) (de_fld ["Reader"] X.f_line (de_varW 0))) sc_Reader_seen.nd)
    (ds_last (ds_ret (de_if (dt_cmp opr_lt opd_lt (de_fld ["Reader"] X.f_at (de_varW 0)) (de_b1 call_len c1_len (by rfl) X.b_len (by decide +kernel) (de_var 1))) (de_ix (ixr_subs (hu1 hr)) opd_subs (de_var 1) (de_fld ["Reader"] X.f_at (de_varW 0))) de_non))))), fun n hn => ⟨[], [], F.binds (fun _ _ _ _ _ _ us hl => match us, hl with | [_], _ => rfl), .nil, fun G => by rw [List.drop_nil]; exact .nil⟩⟩, hC⟩
theorem sc_Reader_goes_on : FnScope ["self", "may_end", "may_follow", "is_last"] ["self", "may_end", "may_follow"] (defScope s_Reader_goes_on) := ⟨rfl, rfl, rfl, by decide +kernel, rfl, by decide +kernel, by decide +kernel⟩
def b_Reader_goes_on : Rho → So := (sSeq (sAsg (dOp eqD (dOp addD (dUn (fldD ["Reader"] "line") (dVarW 0)) (dC (.int 1))) (dUn lenD (dUn (fldD ["Reader"] "rows") (dVarW 0)))) (gN 3))
    (sSeq (sIf (dOrT (dB (dOp isNotD (dMthO 0 "Reader" "seen" f_Reader_seen [] [] dNil) (dC .non))) (dOrT (dAndT (dTru (dVar 3)) (dNotT (dTru (dVar 1)))) (dAndT (dNotT (dTru (dVar 3))) (dNotT (dTru (dVar 2)))))) (sExp (dMthO 0 "Reader" "refuse" f_Reader_refuse [] [] dNil)) sNil)
    (sSeq (sIf (dTru (dVar 3)) (sRet (dC (.bl false))) sNil)
    (sSeq (sFldAdd 0 ["Reader"] "line" (dC (.int 1)))
    (sSeq (sFld 0 ["Reader"] "at" (dC (.int 0)))
    (sRet (dC (.bl true))))))))
def f_Reader_goes_on : List D → FO := fnD [true, false, false] 1 b_Reader_goes_on
theorem ok_Reader_goes_on (X : Txt T mg) {f : Addr} {fd : FuncData} (F : Fun T.K "goes_on" "Reader.goes_on" s_Reader_goes_on f fd) (hM : Meth T.K (T.cl "Reader") "goes_on" f) (hC : Cls T.K (T.cl "Reader")) (hm_Reader_seen : Mth T mg base "Reader" "seen" 1 [true] [] f_Reader_seen) (hm_Reader_refuse : Mth T mg base "Reader" "refuse" 3 [true] [] f_Reader_refuse) : Mth T mg base "Reader" "goes_on" 4 [true, false, false] [] f_Reader_goes_on :=
  ⟨⟨f, fd, ["self", "may_end", "may_follow"], hM, fn_ok (k := 3) (bs := [true, false, false]) F sc_Reader_goes_on rfl rfl (fun cdv A outer s H E hr => (ds_cons (ds_set 3 (de_cmp (opr_eq (hu64 hr)) opd_eq (de_op opr_add opd_add (de_fld ["Reader"] X.f_line (de_varW 0)) de_int) (de_b1 call_len c1_len (by rfl) X.b_len (by decide +kernel) (de_fld ["Reader"] X.f_rows (de_varW 0)))) sc_Reader_goes_on.nd)
    (ds_cons (ds_if (DW.dt (dw_or (dt_cmp opr_isNot opd_isNot (de_mthO0 0 hm_Reader_seen 0 (Nat.zero_le _) (takes_def (by rfl) (by rfl) (by rfl) (by rfl)) ((hr).mono (by decide))) de_non) (dw_or (DW.dt (dw_and (dt_tru (de_var 3)) (dw_one (dt_not (dt_tru (de_var 1)))))) (dw_one (DW.dt (dw_and (dt_not (dt_tru (de_var 3))) (dw_one (dt_not (dt_tru (de_var 2)))))))))) (ds_last (ds_exp (de_mthO0 0 hm_Reader_refuse 0 (Nat.zero_le _) (takes_def (by rfl) (by rfl) (by rfl) (by rfl)) ((hr).mono (by decide))))) ds_nil)
    (ds_cons (ds_if (dt_tru (de_var 3)) (ds_last (ds_ret de_bl)) ds_nil)
    (ds_cons (ds_fldAdd 0 ["Reader"] X.f_line de_int)
    (ds_cons (ds_fld 0 ["Reader"] X.f_at de_int)
    (ds_last (ds_ret de_bl)))))))), fun n hn => ⟨[], [], F.binds (fun _ _ _ _ _ _ us hl => match us, hl with | [_, _, _], _ => rfl), .nil, fun G => by rw [List.drop_nil]; exact .nil⟩⟩, hC⟩
theorem sc_rows_of : FnScope ["text", "line"] ["text"] (defScope s_rows_of) := ⟨rfl, rfl, rfl, by decide +kernel, rfl, by decide +kernel, by decide +kernel⟩
def b_rows_of_E1 : Rho → Ro D := (dMtT "str" splitD (dVar 1) (dCons (dC (.str " ")) dNil))
def b_rows_of : Rho → So := (sSeq (sIf (dNotT (dTru (dUn (isiD "str") (dVar 0)))) (sRaise "BadText" ["line", "word"] (dCons (dC (.int 0)) (dCons (dC (.int 0)) dNil))) sNil)
    (sRet (dLc [1] (dIt (dMtT "str" splitD (dVar 0) (dCons (dC (.str "\n")) dNil))) (gN 1) dYes b_rows_of_E1)))
def f_rows_of : List D → FO := fnD [false] 1 b_rows_of
theorem ok_rows_of (X : Txt T mg) {fd : FuncData} (F : Fun T.K "rows_of" "rows_of" s_rows_of (T.fa "rows_of") fd) (hm : mg "rows_of" = some (.ref (T.fa "rows_of"))) (ho_BadText : Ox T mg base "BadText" 1 ["line", "word"]) : Dfn T mg base "rows_of" 3 [false] [] f_rows_of :=
  dfn_mk (k := 2) F hm sc_rows_of rfl rfl (fun _ _ _ _ _ _ us hl => match us, hl with | [_], _ => rfl) (fun cdv A outer s H E hr => (ds_cons (ds_if (dt_not (dt_tru (de_isi "str" (de_var 0) (pe_tyN (by rfl) X.b_str (by decide +kernel)) (by rfl) X.b_isinstance))) (ds_last (ds_raise ho_BadText (by rfl) (takes_def (by rfl) (by rfl) (by rfl) (by rfl)) ((hr).mono (by decide)) (by rfl) (da_cons de_int (da_cons de_int da_nil)))) ds_nil)
    (ds_last (ds_ret (DE.fz (de_lc (own := [("line", 1)]) (by rfl) sc_rows_of.nd (di_seq (DE.fz (de_mt PySem.F.plainAttrs_str PySem.F.slot_str_split PySem.F.type_str_split mt_split md_split (de_var 0) (da_cons de_str da_nil)))) (blkOk_by (by kernel_rfl)) ⟨fun _ _ _ _ _ => (dgc_name 1 sc_rows_of.nd), fun _ _ _ _ _ => dts_nil, fun _ _ _ _ _ => (DE.fz (de_mt PySem.F.plainAttrs_str PySem.F.slot_str_split PySem.F.type_str_split mt_split md_split (de_var 1) (da_cons de_str da_nil)))⟩))))))
theorem sc_is_name : FnScope ["value", "sign"] ["value"] (defScope s_is_name) := ⟨rfl, rfl, rfl, by decide +kernel, rfl, by decide +kernel, by decide +kernel⟩
def b_is_name_E1 : Rho → Ro D := (dOr (dOp inAny (dVar 1) (dC (.str "abcdefghijklmnopqrstuvwxyz"))) (dOp inAny (dVar 1) (dC (.str "0123456789"))))
def b_is_name : Rho → So := (sSeq (sIf (dOrT (dNotT (dTru (dUn (isiD "str") (dVar 0)))) (dOrT (dNotT (dB (dChain leD leD (dC (.int 1)) (dUn lenD (dVar 0)) (dC (.int 12))))) (dB (dOp notInAny (dOp subsD (dVar 0) (dC (.int 0))) (dC (.str "abcdefghijklmnopqrstuvwxyz")))))) (sRet (dC (.bl false))) sNil)
    (sRet (dUn allD (dLc [1] (dIt (dVar 0)) (gN 1) dYes b_is_name_E1))))
def f_is_name : List D → FO := fnD [false] 1 b_is_name
theorem ok_is_name (X : Txt T mg) {fd : FuncData} (F : Fun T.K "is_name" "is_name" s_is_name (T.fa "is_name") fd) (hm : mg "is_name" = some (.ref (T.fa "is_name")))  : Dfn T mg base "is_name" 1 [false] [] f_is_name :=
  dfn_mk (k := 0) F hm sc_is_name rfl rfl (fun _ _ _ _ _ _ us hl => match us, hl with | [_], _ => rfl) (fun cdv A outer s H E hr => (ds_cons (ds_if (DW.dt (dw_or (dt_not (dt_tru (de_isi "str" (de_var 0) (pe_tyN (by rfl) X.b_str (by decide +kernel)) (by rfl) X.b_isinstance))) (dw_or (dt_not (dt_chain op_le opd_le op_le opd_le de_int (de_b1 call_len c1_len (by rfl) X.b_len (by decide +kernel) (de_var 0)) de_int)) (dw_one (dt_cmp (opr_notInAny (hu65 hr)) opd_notInAny (de_ix (ixr_subs (hu1 hr)) opd_subs (de_var 0) de_int) (X.c_LETTERS.elim fun _ h => de_gStr (by rfl) h)))))) (ds_last (ds_ret de_bl)) ds_nil)
    (ds_last (ds_ret (de_b1 (cr_all (by rfl)) c1_all (by rfl) X.b_all (by decide +kernel) (DE.fz (de_lc (own := [("sign", 1)]) (by rfl) sc_is_name.nd (di_seq (de_var 0)) (blkOk_by (by kernel_rfl)) ⟨fun _ _ _ _ _ => (dgc_name 1 sc_is_name.nd), fun _ _ _ _ _ => dts_nil, fun _ _ _ _ _ => (de_or (de_cmp (opr_inAny (hu65 hr)) opd_inAny (de_var 1) (X.c_LETTERS.elim fun _ h => de_gStr (by rfl) h)) (de_one (de_cmp (opr_inAny (hu65 hr)) opd_inAny (de_var 1) (X.c_FIGURES.elim fun _ h => de_gStr (by rfl) h))))⟩)))))))
theorem sc_Reader_take : FnScope ["self", "is_right", "word"] ["self", "is_right"] (defScope s_Reader_take) := ⟨rfl, rfl, rfl, by decide +kernel, rfl, by decide +kernel, by decide +kernel⟩
def b_Reader_take : Rho → So := (sSeq (sAsg (dMthO 0 "Reader" "seen" f_Reader_seen [] [] dNil) (gN 2))
    (sSeq (sIf (dOrT (dB (dOp isD (dVar 2) (dC .non))) (dNotT (dTru (dCallL 1 (pickF [("is_name", f_is_name)]) (dCons (dVar 2) dNil))))) (sExp (dMthO 0 "Reader" "refuse" f_Reader_refuse [] [] dNil)) sNil)
    (sSeq (sFldAdd 0 ["Reader"] "at" (dC (.int 1)))
    (sRet (dVar 2)))))
def f_Reader_take : List D → FO := fnD [true, false] 1 b_Reader_take
theorem ok_Reader_take (X : Txt T mg) {f : Addr} {fd : FuncData} (F : Fun T.K "take" "Reader.take" s_Reader_take f fd) (hM : Meth T.K (T.cl "Reader") "take" f) (hC : Cls T.K (T.cl "Reader")) (hm_Reader_seen : Mth T mg base "Reader" "seen" 1 [true] [] f_Reader_seen) (hd_is_name : Dfn T mg base "is_name" 1 [false] [] f_is_name) (hm_Reader_refuse : Mth T mg base "Reader" "refuse" 3 [true] [] f_Reader_refuse) : Mth T mg base "Reader" "take" 4 [true, false] [] f_Reader_take :=
  ⟨⟨f, fd, ["self", "is_right"], hM, fn_ok (k := 3) (bs := [true, false]) F sc_Reader_take rfl rfl (fun cdv A outer s H E hr => (ds_cons (ds_set 2 (de_mthO0 0 hm_Reader_seen 0 (Nat.zero_le _) (takes_def (by rfl) (by rfl) (by rfl) (by rfl)) ((hr).mono (by decide))) sc_Reader_take.nd)
    (ds_cons (ds_if (DW.dt (dw_or (dt_cmp opr_is opd_is (de_var 2) de_non) (dw_one (dt_not (dt_tru (de_callL 1 (pickF [("is_name", f_is_name)]) (fun _ _ h => by obtain ⟨rfl, rfl⟩ := pickF_one h; exact hd_is_name) (takes_def (by rfl) (by rfl) (by rfl) (by rfl)) ((hr).mono (by decide)) (da_cons (de_var 2) da_nil))))))) (ds_last (ds_exp (de_mthO0 0 hm_Reader_refuse 0 (Nat.zero_le _) (takes_def (by rfl) (by rfl) (by rfl) (by rfl)) ((hr).mono (by decide))))) ds_nil)
    (ds_cons (ds_fldAdd 0 ["Reader"] X.f_at de_int)
    (ds_last (ds_ret (de_var 2))))))), fun n hn => ⟨[], [], F.binds (fun _ _ _ _ _ _ us hl => match us, hl with | [_, _], _ => rfl), .nil, fun G => by rw [List.drop_nil]; exact .nil⟩⟩, hC⟩
theorem sc_word_read : FnScope ["text", "reader", "found"] ["text"] (defScope s_word_read) := ⟨rfl, rfl, rfl, by decide +kernel, rfl, by decide +kernel, by decide +kernel⟩
def b_word_read_L1 : Rho → So := (sExp (dMut "list" 2 appD (dCons (dMthO 1 "Reader" "take" f_Reader_take [none] [] (dCons (dC (.fn "is_name")) dNil)) dNil)))
def b_word_read : Rho → So := (sSeq (sOwn (dMake "Reader" f_Reader_init [] (dCons (dF0 f_rows_of [] (dCons (dVar 0) dNil)) dNil)) 1)
    (sSeq (sOwn (dLst (dCons (dMthO 1 "Reader" "take" f_Reader_take [none] [] (dCons (dC (.fn "is_name")) dNil)) dNil)) 2)
    (sSeq (whD (dB (dOp isNotD (dMthO 1 "Reader" "seen" f_Reader_seen [] [] dNil) (dC .non))) b_word_read_L1 fuel)
    (sSeq (sExp (dMthO 1 "Reader" "goes_on" f_Reader_goes_on [none, none] [] (dCons (dC (.bl true)) (dCons (dC (.bl false)) dNil))))
    (sRet (dIf (dB (dOp eqD (dUn tupleD (dVarW 2)) (dC (.ktp [.str "nothing", .str "pressed"])))) (dTup dNil) (dUn tupleD (dVarW 2))))))))
def f_word_read : List D → FO := fnD [false] 2 b_word_read
theorem ok_word_read (X : Txt T mg) {fd : FuncData} (F : Fun T.K "word_read" "word_read" s_word_read (T.fa "word_read") fd) (hm : mg "word_read" = some (.ref (T.fa "word_read"))) (hk_Reader : Mkr T mg base "Reader" 1 [false] [] f_Reader_init) (hd_rows_of : Dfn T mg base "rows_of" 3 [false] [] f_rows_of) (hm_Reader_take : Mth T mg base "Reader" "take" 4 [true, false] [] f_Reader_take) (hd_is_name : Dfn T mg base "is_name" 1 [false] [] f_is_name) (hm_Reader_seen : Mth T mg base "Reader" "seen" 1 [true] [] f_Reader_seen) (hm_Reader_goes_on : Mth T mg base "Reader" "goes_on" 4 [true, false, false] [] f_Reader_goes_on) : Dfn T mg base "word_read" 5 [false] [] f_word_read :=
  dfn_mk (k := 4) F hm sc_word_read rfl rfl (fun _ _ _ _ _ _ us hl => match us, hl with | [_], _ => rfl) (fun cdv A outer s H E hr => (ds_cons (ds_own 1 (de_make hk_Reader 0 (Nat.zero_le _) (takes_def (by rfl) (by rfl) (by rfl) (by rfl)) ((hr).mono (by decide)) (by rfl) (da_cons (de_fn0 hd_rows_of 0 (Nat.zero_le _) (takes_def (by rfl) (by rfl) (by rfl) (by rfl)) ((hr).mono (by decide)) (by rfl) (da_cons (de_var 0) da_nil)) da_nil)) sc_word_read.nd)
    (ds_cons (ds_own 2 (de_lst (da_cons (de_mthO 1 hm_Reader_take 0 (Nat.zero_le _) (takes_def (by rfl) (by rfl) (by rfl) (by rfl)) ((hr).mono (by decide)) (dx_cons (de_gFn (by rfl) hd_is_name.mgx) dx_nil)) da_nil)) sc_word_read.nd)
    (ds_cons (ds_while fuel (passes_of (by rfl)) (dt_cmp opr_isNot opd_isNot (de_mthO0 1 hm_Reader_seen 0 (Nat.zero_le _) (takes_def (by rfl) (by rfl) (by rfl) (by rfl)) ((hr).mono (by decide))) de_non) (ds_last (ds_exp (de_mut 2 PySem.F.plainAttrs_list PySem.F.slot_list_append PySem.F.type_list_append mt_append mo_append (da_cons (de_mthO 1 hm_Reader_take 0 (Nat.zero_le _) (takes_def (by rfl) (by rfl) (by rfl) (by rfl)) ((hr).mono (by decide)) (dx_cons (de_gFn (by rfl) hd_is_name.mgx) dx_nil)) da_nil)))))
    (ds_cons (ds_exp (de_mthO 1 hm_Reader_goes_on 0 (Nat.zero_le _) (takes_def (by rfl) (by rfl) (by rfl) (by rfl)) ((hr).mono (by decide)) (dx_cons de_bl (dx_cons de_bl dx_nil))))
    (ds_last (ds_ret (de_if (dt_cmp (opr_eq (hu64 hr)) opd_eq (de_t1 call_tuple_of c1_tuple (by rfl) X.b_tuple (by decide +kernel) (de_varW 2)) (de_gK X.c_NOTHING (by rfl))) (de_tup da_nil) (de_t1 call_tuple_of c1_tuple (by rfl) X.b_tuple (by decide +kernel) (de_varW 2))))))))))
theorem sc_place_of : FnScope ["word"] ["word"] (defScope s_place_of) := ⟨rfl, rfl, rfl, by decide +kernel, rfl, by decide +kernel, by decide +kernel⟩
def b_place_of : Rho → So := (sRet (dTup (dCons (dUn lenD (dVar 0)) (dCons (dUn tupleD (dVar 0)) dNil))))
def f_place_of : List D → FO := fnD [false] 0 b_place_of
theorem ok_place_of (X : Txt T mg) {fd : FuncData} (F : Fun T.K "place_of" "place_of" s_place_of (T.fa "place_of") fd) (hm : mg "place_of" = some (.ref (T.fa "place_of")))  : Dfn T mg base "place_of" 1 [false] [] f_place_of :=
  dfn_mk (k := 0) F hm sc_place_of rfl rfl (fun _ _ _ _ _ _ us hl => match us, hl with | [_], _ => rfl) (fun cdv A outer s H E hr => (ds_last (ds_ret (de_tup (da_cons (de_b1 call_len c1_len (by rfl) X.b_len (by decide +kernel) (de_var 0)) (da_cons (de_t1 call_tuple_of c1_tuple (by rfl) X.b_tuple (by decide +kernel) (de_var 0)) da_nil))))))
theorem sc_comes_before : FnScope ["word", "other"] ["word", "other"] (defScope s_comes_before) := ⟨rfl, rfl, rfl, by decide +kernel, rfl, by decide +kernel, by decide +kernel⟩
def b_comes_before : Rho → So := (sRet (dOp ltTD (dF0 f_place_of [] (dCons (dVar 0) dNil)) (dF0 f_place_of [] (dCons (dVar 1) dNil))))
def f_comes_before : List D → FO := fnD [false, false] 0 b_comes_before
theorem ok_comes_before (X : Txt T mg) {fd : FuncData} (F : Fun T.K "comes_before" "comes_before" s_comes_before (T.fa "comes_before") fd) (hm : mg "comes_before" = some (.ref (T.fa "comes_before"))) (hd_place_of : Dfn T mg base "place_of" 1 [false] [] f_place_of) : Dfn T mg base "comes_before" 2 [false, false] [] f_comes_before :=
  dfn_mk (k := 1) F hm sc_comes_before rfl rfl (fun _ _ _ _ _ _ us hl => match us, hl with | [_, _], _ => rfl) (fun cdv A outer s H E hr => (ds_last (ds_ret (de_cmp (opr_ltT (hu64 hr)) opd_ltT (de_fn0 hd_place_of 0 (Nat.zero_le _) (takes_def (by rfl) (by rfl) (by rfl) (by rfl)) ((hr).mono (by decide)) (by rfl) (da_cons (de_var 0) da_nil)) (de_fn0 hd_place_of 0 (Nat.zero_le _) (takes_def (by rfl) (by rfl) (by rfl) (by rfl)) ((hr).mono (by decide)) (by rfl) (da_cons (de_var 1) da_nil))))))
theorem sc_is_word : FnScope ["value", "key"] ["value"] (defScope s_is_word) := ⟨rfl, rfl, rfl, by decide +kernel, rfl, by decide +kernel, by decide +kernel⟩
def b_is_word_E1 : Rho → Ro D := (dF0 f_is_name [] (dCons (dVar 1) dNil))
def b_is_word : Rho → So := (sRet (dAnd (dUn (isiD "tuple") (dVar 0)) (dUn allD (dLc [1] (dIt (dVar 0)) (gN 1) dYes b_is_word_E1))))
def f_is_word : List D → FO := fnD [false] 1 b_is_word
theorem ok_is_word (X : Txt T mg) {fd : FuncData} (F : Fun T.K "is_word" "is_word" s_is_word (T.fa "is_word") fd) (hm : mg "is_word" = some (.ref (T.fa "is_word"))) (hd_is_name : Dfn T mg base "is_name" 1 [false] [] f_is_name) : Dfn T mg base "is_word" 2 [false] [] f_is_word :=
  dfn_mk (k := 1) F hm sc_is_word rfl rfl (fun _ _ _ _ _ _ us hl => match us, hl with | [_], _ => rfl) (fun cdv A outer s H E hr => (ds_last (ds_ret (de_and (de_isi "tuple" (de_var 0) (pe_tyN (by rfl) X.b_tuple (by decide +kernel)) (by rfl) X.b_isinstance) (de_one (de_b1 (cr_all (by rfl)) c1_all (by rfl) X.b_all (by decide +kernel) (DE.fz (de_lc (own := [("key", 1)]) (by rfl) sc_is_word.nd (di_seq (de_var 0)) (blkOk_by (by kernel_rfl)) ⟨fun _ _ _ _ _ => (dgc_name 1 sc_is_word.nd), fun _ _ _ _ _ => dts_nil, fun _ _ _ _ _ => (de_fn0 hd_is_name 0 (Nat.zero_le _) LamX.takes0 ((hr).mono (by decide)) (by rfl) (da_cons (de_var 1) da_nil))⟩))))))))
theorem sc__law_is_word : FnScope ["value", "key"] ["value"] (defScope s__law_is_word) := ⟨rfl, rfl, rfl, by decide +kernel, rfl, by decide +kernel, by decide +kernel⟩
def b__law_is_word : Rho → So := (sRet (dAnd (dUn (isiD "tuple") (dVar 0)) (dOp eqD (dLc [1] (dIt (dVar 0)) (gN 1) (dNotT (dTru (dF0 f__law_is_name [] (dCons (dVar 1) dNil)))) (dVar 1)) (dLst dNil))))
def f__law_is_word : List D → FO := fnD [false] 1 b__law_is_word
theorem ok__law_is_word (X : Txt T mg) {fd : FuncData} (F : Fun T.K "_law_is_word" "_law_is_word" s__law_is_word (T.fa "_law_is_word") fd) (hm : mg "_law_is_word" = some (.ref (T.fa "_law_is_word"))) (hd__law_is_name : Dfn T mg base "_law_is_name" 1 [false] [] f__law_is_name) : Dfn T mg base "_law_is_word" 2 [false] [] f__law_is_word :=
  dfn_mk (k := 1) F hm sc__law_is_word rfl rfl (fun _ _ _ _ _ _ us hl => match us, hl with | [_], _ => rfl) (fun cdv A outer s H E hr => (ds_last (ds_ret (de_and (de_isi "tuple" (de_var 0) (pe_tyN (by rfl) X.b_tuple (by decide +kernel)) (by rfl) X.b_isinstance) (de_one (de_cmp (opr_eq (hu64 hr)) opd_eq (DE.fz (de_lc (own := [("key", 1)]) (by rfl) sc__law_is_word.nd (di_seq (de_var 0)) (blkOk_by (by kernel_rfl)) ⟨fun _ _ _ _ _ => (dgc_name 1 sc__law_is_word.nd), fun _ _ _ _ _ => (dts_one (dt_not (dt_tru (de_fn0 hd__law_is_name 0 (Nat.zero_le _) LamX.takes0 ((hr).mono (by decide)) (by rfl) (da_cons (de_var 1) da_nil))))), fun _ _ _ _ _ => (de_var 1)⟩)) (DE.fz (de_lst da_nil))))))))
end G

set_option Elab.async false
set_option linter.all false
set_option maxRecDepth 100000
set_option maxHeartbeats 8000000
namespace G
open PySem PySem.Spec L2 VL
variable {T : Tb} {mg : Str → Option Value} {base : Heap}
theorem sc_law : FnScope ["script", "pen", "lap", "keys", "value", "word", "at", "other", "due", "text", "words", "turn", "bent", "wrong", "odd", "spot"] ["script"] (defScope s_law) := ⟨rfl, rfl, rfl, by decide +kernel, rfl, by decide +kernel, by decide +kernel⟩
def b_law_S1 : Rho → So := (sAsg (dFn f__law_names [some 1, none] [] (dIOw 1 (dCons (dOp addD (dC (.int 1)) (dFn f__law_draw [some 1, none] [] (dIOw 1 (dCons (dC (.int 4)) dNil)))) dNil))) (gN 3))
def b_law_S2 : Rho → So := (sIf (dNotT (dTru (dF0 f__law_same [] (dCons (dF0 f_is_name [] (dCons (dVar 4) dNil)) (dCons (dF0 f__law_is_name [] (dCons (dVar 4) dNil)) dNil))))) (sRet (dC (.bl false))) sNil)
def b_law_S3 : Rho → So := (sFor (dIt (dLst (dCons (dOp subsD (dVar 3) (dC (.int 0))) (dCons (dC (.str "a")) (dCons (dOp mulAll (dC (.str "z")) (dC (.int 12))) (dCons (dOp mulAll (dC (.str "z")) (dC (.int 13))) (dCons (dFn f__law_odd_name [some 1, none] [] (dIOw 1 (dCons (dOp subsD (dVar 3) (dC (.int 0))) dNil))) (dCons (dFn f__law_odd_name [some 1, none] [] (dIOw 1 (dCons (dC (.str "a")) dNil))) dNil)))))))) (gN 4) b_law_S2)
def b_law_E1 : Rho → Ro D := (dFn f__law_pick [some 1, none] [] (dIOw 1 (dCons (dVar 3) dNil)))
def b_law_S4 : Rho → So := (sAsg (dUn tupleD (dLc [15] (dRng rng1 (dCons (dFn f__law_draw [some 1, none] [] (dIOw 1 (dCons (dC (.int 10)) dNil))) dNil)) (gN 15) dYes b_law_E1)) (gN 5))
def b_law_S5 : Rho → So := (sAsg (dFn f__law_draw [some 1, none] [] (dIOw 1 (dCons (dOp addD (dUn lenD (dVar 5)) (dC (.int 1))) dNil))) (gN 6))
def b_law_E2 : Rho → Ro D := (dFn f__law_pick [some 1, none] [] (dIOw 1 (dCons (dVar 3) dNil)))
def b_law_S6 : Rho → So := (sAsg (dFn f__law_pick [some 1, none] [] (dIOw 1 (dCons (dLst (dCons (dVar 5) (dCons (dSl (dVar 5) dNoPart (dPart (dVar 6))) (dCons (dOp addD (dOp addD (dSl (dVar 5) dNoPart (dPart (dVar 6))) (dTup (dCons (dFn f__law_pick [some 1, none] [] (dIOw 1 (dCons (dVar 3) dNil))) dNil))) (dSl (dVar 5) (dPart (dOp addD (dVar 6) (dC (.int 1)))) dNoPart)) (dCons (dUn tupleD (dLc [15] (dRng rng1 (dCons (dFn f__law_draw [some 1, none] [] (dIOw 1 (dCons (dC (.int 6)) dNil))) dNil)) (gN 15) dYes b_law_E2)) dNil))))) dNil))) (gN 7))
def b_law_S7 : Rho → So := (sAsg (dOp ltTD (dTup (dCons (dUn lenD (dVar 5)) (dCons (dVar 5) dNil))) (dTup (dCons (dUn lenD (dVar 7)) (dCons (dVar 7) dNil)))) (gN 8))
def b_law_S8 : Rho → So := (sIf (dNotT (dTru (dF0 f__law_same [] (dCons (dF0 f_comes_before [] (dCons (dVar 5) (dCons (dFn f__law_pick [some 1, none] [] (dIOw 1 (dCons (dLst (dCons (dVar 7) (dCons (dUn listD (dVar 7)) dNil))) dNil))) dNil))) (dCons (dVar 8) dNil))))) (sRet (dC (.bl false))) sNil)
def b_law_S9 : Rho → So := (sIf (dNotT (dTru (dF0 f__law_same [] (dCons (dF0 f_is_word [] (dCons (dVar 4) dNil)) (dCons (dF0 f__law_is_word [] (dCons (dVar 4) dNil)) dNil))))) (sRet (dC (.bl false))) sNil)
def b_law_S10 : Rho → So := (sFor (dIt (dLst (dCons (dVar 5) (dCons (dVar 7) (dCons (dUn listD (dVar 5)) (dCons (dC .non) (dCons (dC (.int 5)) (dCons (dOp subsD (dVar 3) (dC (.int 0))) (dCons (dOp addD (dVar 5) (dTup (dCons (dFn f__law_odd_name [some 1, none] [] (dIOw 1 (dCons (dOp subsD (dVar 3) (dC (.int 0))) dNil))) dNil))) (dCons (dTup (dCons (dC .non) dNil)) (dCons (dC (.dic false [])) dNil))))))))))) (gN 4) b_law_S9)
def b_law_S11 : Rho → So := (sAsg (dIf (dB (dOp neD (dVar 5) (dTup dNil))) (dMtT "str" joinD (dC (.str " ")) (dCons (dVar 5) dNil)) (dC (.str "nothing pressed"))) (gN 9))
def b_law_S12 : Rho → So := (sIf (dOrT (dB (dOp neD (dF0 f_word_text [] (dCons (dVar 5) dNil)) (dVar 9))) (dOrT (dB (dOp neD (dF0 f_word_text [] (dCons (dUn listD (dVar 5)) dNil)) (dVar 9))) (dB (dOp neD (dUn reprD (dF0 f_word_read [] (dCons (dVar 9) dNil))) (dUn reprD (dVar 5)))))) (sRet (dC (.bl false))) sNil)
def b_law_S13 : Rho → So := (sAsg (dMtT "str" splitD (dVar 9) (dCons (dC (.str " ")) dNil)) (gN 10))
def b_law_S14 : Rho → So := (sAsg (dFn f__law_bent_words [some 1, none, none] [] (dIOw 1 (dCons (dVar 10) (dCons (dOp addD (dVar 3) (dLst (dCons (dC (.str "\n")) (dCons (dC (.str "nothing")) (dCons (dC (.str "pressed")) dNil))))) dNil)))) (gN 10))
def b_law_S15 : Rho → So := (sAsg (dMtT "str" joinD (dC (.str " ")) (dCons (dVar 10) dNil)) (gN 12))
def b_law_S16 : Rho → So := (sIf (dB (dOp neD (dLam (fun th => b__law_why th (List.replicate 3 none)) (dF0 f_word_read [] (dCons (dVar 12) dNil))) (dVar 13))) (sRet (dC (.bl false))) sNil)
def b_law_S17 : Rho → So := (sIf (dAndT (dB (dOp isD (dVar 13) (dC .non))) (dB (dOp neD (dUn reprD (dF0 f_word_read [] (dCons (dVar 12) dNil))) (dUn reprD (dIf (dB (dOp eqD (dVar 10) (dLst (dCons (dC (.str "nothing")) (dCons (dC (.str "pressed")) dNil))))) (dTup dNil) (dUn tupleD (dVar 10))))))) (sRet (dC (.bl false))) sNil)
def b_law_L1 : Rho → So := (sSeq b_law_S14
    (sSeq b_law_S15
    (sSeq (sAsg (dF0 f__law_first_wrong [] (dCons (dVar 12) dNil)) (gN 13))
    (sSeq b_law_S16
    b_law_S17))))
def b_law_L2 : Rho → So := (sSeq b_law_S1
    (sSeq b_law_S3
    (sSeq b_law_S4
    (sSeq b_law_S5
    (sSeq b_law_S6
    (sSeq b_law_S7
    (sSeq b_law_S8
    (sSeq b_law_S10
    (sSeq b_law_S11
    (sSeq b_law_S12
    (sSeq b_law_S13
    (sFor (dRng rng1 (dCons (dC (.int 3)) dNil)) (gN 11) b_law_L1))))))))))))
def b_law_S18 : Rho → So := (sAsg (dFn f__law_pick [some 1, none] [] (dIOw 1 (dCons (dLst (dCons (dC .non) (dCons (dC (.int 5)) (dCons (dTup dNil) (dCons (dLst (dCons (dC (.str "a")) dNil)) (dCons (dC (.bl true)) (dCons (dC (.dic false [])) dNil))))))) dNil))) (gN 14))
def b_law_S19 : Rho → So := (sIf (dOrT (dB (dOp neD (dLam (fun th => b__law_why th (List.replicate 3 none)) (dF0 f_word_read [] (dCons (dC (.str "")) dNil))) (dLst (dCons (dC (.str "text")) (dCons (dC (.int 1)) (dCons (dC (.int 1)) dNil)))))) (dOrT (dB (dOp neD (dF0 f_word_text [] (dCons (dTup (dCons (dC (.str "nothing")) (dCons (dC (.str "pressed")) dNil))) dNil)) (dC (.str "nothing pressed")))) (dB (dOp neD (dF0 f_word_read [] (dCons (dC (.str "nothing")) dNil)) (dTup (dCons (dC (.str "nothing")) dNil)))))) (sRet (dC (.bl false))) sNil)
def b_law_S20 : Rho → So := (sRet (dOp eqD (dLam (fun th => b__law_why th (List.replicate 3 none)) (dF0 f_word_read [] (dCons (dVar 14) dNil))) (dLst (dCons (dC (.str "text")) (dCons (dC (.int 0)) (dCons (dC (.int 0)) dNil))))))
def b_law : Rho → So := (sSeq (sOwn (dF0r f__law_pen [] (dCons (dVar 0) dNil)) 1)
    (sSeq (sFor (dRng rng1 (dCons (dC (.int 5)) dNil)) (gN 2) b_law_L2)
    (sSeq b_law_S18
    (sSeq b_law_S19
    b_law_S20))))
theorem law_dss (X : Txt T mg) {cdv__law_why : Value} (hd__law_pen : Dfn T mg base "_law_pen" 1 [false] [] f__law_pen) (hd__law_names : Dfn T mg base "_law_names" 3 [true, false] [] f__law_names) (hd__law_draw : Dfn T mg base "_law_draw" 1 [true, false] [] f__law_draw) (hd__law_odd_name : Dfn T mg base "_law_odd_name" 3 [true, false] [] f__law_odd_name) (hd__law_same : Dfn T mg base "_law_same" 1 [false, false] [] f__law_same) (hd__law_is_name : Dfn T mg base "_law_is_name" 1 [false] [] f__law_is_name) (hd_is_name : Dfn T mg base "is_name" 1 [false] [] f_is_name) (hd__law_pick : Dfn T mg base "_law_pick" 2 [true, false] [] f__law_pick) (hd_comes_before : Dfn T mg base "comes_before" 2 [false, false] [] f_comes_before) (hd__law_is_word : Dfn T mg base "_law_is_word" 2 [false] [] f__law_is_word) (hd_is_word : Dfn T mg base "is_word" 2 [false] [] f_is_word) (hd_word_text : Dfn T mg base "word_text" 1 [false] [] f_word_text) (hd_word_read : Dfn T mg base "word_read" 5 [false] [] f_word_read) (hd__law_bent_words : Dfn T mg base "_law_bent_words" 3 [true, false, false] [] f__law_bent_words) (hd__law_first_wrong : Dfn T mg base "_law_first_wrong" 2 [false] [] f__law_first_wrong) (hl__law_why : LamF T.K mg "_law_why" "call" (T.fa "_law_why") ["call", "found", "error"] (defScope s__law_why) (defBody s__law_why) cdv__law_why) {cc P : Addr} (TB : LamX.TabB base mg cc P) (A : Around) (outer : List Env) (s : Shared) (H : Hp) (E : XK) (hgd : (A.deeper (PyProof.Rows.envOfC "law" (defScope s_law) s.heap.objs.size (T.fa "law") (.ref cc))).guards = some [])
    (hr : Room 8 (A.deeper (PyProof.Rows.envOfC "law" (defScope s_law) s.heap.objs.size (T.fa "law") (.ref cc)))) :
    DSs ⟨T, ioW [(P, ((PyProof.Rows.envOfC "law" (defScope s_law) 0 (T.fa "law") (.ref cc)).qual ++ "<lambda>" : Str))], fun cls d _ H => E cls d H⟩ (cxOf (L2.CX T.P T.w) T.P T.w T.K mg base ["script", "pen", "lap", "keys", "value", "word", "at", "other", "due", "text", "words", "turn", "bent", "wrong", "odd", "spot"] "law" (defScope s_law) (T.fa "law") (.ref cc) A outer s H E) (defBody s_law) b_law := by
  have hmT : ((P, ((PyProof.Rows.envOfC "law" (defScope s_law) 0 (T.fa "law") (.ref cc)).qual ++ "<lambda>" : Str)) : Addr × Str) ∈ [(P, ((PyProof.Rows.envOfC "law" (defScope s_law) 0 (T.fa "law") (.ref cc)).qual ++ "<lambda>" : Str))] := List.mem_singleton.mpr rfl
  have hu : ∀ p ∈ [((P, ((PyProof.Rows.envOfC "law" (defScope s_law) 0 (T.fa "law") (.ref cc)).qual ++ "<lambda>" : Str)) : Addr × Str)], p.1 = P → p.2 = ((PyProof.Rows.envOfC "law" (defScope s_law) 0 (T.fa "law") (.ref cc)).qual ++ "<lambda>" : Str) := fun p hp _ => by
    have := List.mem_singleton.mp hp
    rw [this]
  refine ds_cons ?_ ?_
  · exact (ds_own 1 (de_fn0r hd__law_pen 0 (Nat.zero_le _) (takes_def (by rfl) (by rfl) (by rfl) (by rfl)) ((hr).mono (by decide)) (by rfl) (da_cons (de_var 0) da_nil)) sc_law.nd)
  refine ds_cons ?_ ?_
  · refine ds_for (passes_of (by rfl)) (by rfl) (di_rng1 (by rfl) X.b_range (da_cons de_int da_nil)) (dg_name 2 sc_law.nd) ?_
    refine ds_cons ?_ ?_
    · exact (ds_set 3 (de_fn hd__law_names 0 (Nat.zero_le _) (takes_def (by rfl) (by rfl) (by rfl) (by rfl)) ((hr).mono (by decide)) (by rfl) (dx_io 1 (dx_cons (de_op opr_add opd_add de_int (de_fn hd__law_draw 0 (Nat.zero_le _) (takes_def (by rfl) (by rfl) (by rfl) (by rfl)) ((hr).mono (by decide)) (by rfl) (dx_io 1 (dx_cons de_int dx_nil)))) dx_nil))) sc_law.nd)
    refine ds_cons ?_ ?_
    · refine ds_for (passes_of (by rfl)) (by rfl) (di_seq (DE.fz (de_lst (da_cons (de_ix (ixr_subs (hu1 hr)) opd_subs (de_var 3) de_int) (da_cons de_str (da_cons (de_op opr_mulAll opd_mulAll de_str de_int) (da_cons (de_op opr_mulAll opd_mulAll de_str de_int) (da_cons (de_fn hd__law_odd_name 0 (Nat.zero_le _) (takes_def (by rfl) (by rfl) (by rfl) (by rfl)) ((hr).mono (by decide)) (by rfl) (dx_io 1 (dx_cons (de_ix (ixr_subs (hu1 hr)) opd_subs (de_var 3) de_int) dx_nil))) (da_cons (de_fn hd__law_odd_name 0 (Nat.zero_le _) (takes_def (by rfl) (by rfl) (by rfl) (by rfl)) ((hr).mono (by decide)) (by rfl) (dx_io 1 (dx_cons de_str dx_nil))) da_nil))))))))) (dg_name 4 sc_law.nd) ?_
      refine ds_last ?_
      refine ds_if (dt_not (dt_tru (de_fn0 hd__law_same 0 (Nat.zero_le _) (takes_def (by rfl) (by rfl) (by rfl) (by rfl)) ((hr).mono (by decide)) (by rfl) (da_cons (de_fn0 hd_is_name 0 (Nat.zero_le _) (takes_def (by rfl) (by rfl) (by rfl) (by rfl)) ((hr).mono (by decide)) (by rfl) (da_cons (de_var 4) da_nil)) (da_cons (de_fn0 hd__law_is_name 0 (Nat.zero_le _) (takes_def (by rfl) (by rfl) (by rfl) (by rfl)) ((hr).mono (by decide)) (by rfl) (da_cons (de_var 4) da_nil)) da_nil))))) ?_ ?_
      · refine ds_last ?_
        exact (ds_ret de_bl)
      · exact ds_nil
    refine ds_cons ?_ ?_
    · exact (ds_set 5 (de_t1 call_tuple_of c1_tuple (by rfl) X.b_tuple (by decide +kernel) (DE.fz (de_lc (own := [("spot", 15)]) (by rfl) sc_law.nd (di_rng1 (by rfl) X.b_range (da_cons (de_fn hd__law_draw 0 (Nat.zero_le _) (takes_def (by rfl) (by rfl) (by rfl) (by rfl)) ((hr).mono (by decide)) (by rfl) (dx_io 1 (dx_cons de_int dx_nil))) da_nil)) (blkOk_by (by kernel_rfl)) ⟨fun _ _ _ _ _ => (dgc_name 15 sc_law.nd), fun _ _ _ _ _ => dts_nil, fun _ _ _ _ _ => (de_fn hd__law_pick 0 (Nat.zero_le _) LamX.takes0 ((hr).mono (by decide)) (by rfl) (dx_io 1 (dx_cons (de_var 3) dx_nil)))⟩))) sc_law.nd)
    refine ds_cons ?_ ?_
    · exact (ds_set 6 (de_fn hd__law_draw 0 (Nat.zero_le _) (takes_def (by rfl) (by rfl) (by rfl) (by rfl)) ((hr).mono (by decide)) (by rfl) (dx_io 1 (dx_cons (de_op opr_add opd_add (de_b1 call_len c1_len (by rfl) X.b_len (by decide +kernel) (de_var 5)) de_int) dx_nil))) sc_law.nd)
    refine ds_cons ?_ ?_
    · exact (ds_set 7 (de_fn hd__law_pick 0 (Nat.zero_le _) (takes_def (by rfl) (by rfl) (by rfl) (by rfl)) ((hr).mono (by decide)) (by rfl) (dx_io 1 (dx_cons (DE.fz (de_lst (da_cons (de_var 5) (da_cons (de_sl (de_var 5) do_none (do_some (de_var 6))) (da_cons (de_op opr_add opd_add (de_op opr_add opd_add (de_sl (de_var 5) do_none (do_some (de_var 6))) (de_tup (da_cons (de_fn hd__law_pick 0 (Nat.zero_le _) (takes_def (by rfl) (by rfl) (by rfl) (by rfl)) ((hr).mono (by decide)) (by rfl) (dx_io 1 (dx_cons (de_var 3) dx_nil))) da_nil))) (de_sl (de_var 5) (do_some (de_op opr_add opd_add (de_var 6) de_int)) do_none)) (da_cons (de_t1 call_tuple_of c1_tuple (by rfl) X.b_tuple (by decide +kernel) (DE.fz (de_lc (own := [("spot", 15)]) (by rfl) sc_law.nd (di_rng1 (by rfl) X.b_range (da_cons (de_fn hd__law_draw 0 (Nat.zero_le _) (takes_def (by rfl) (by rfl) (by rfl) (by rfl)) ((hr).mono (by decide)) (by rfl) (dx_io 1 (dx_cons de_int dx_nil))) da_nil)) (blkOk_by (by kernel_rfl)) ⟨fun _ _ _ _ _ => (dgc_name 15 sc_law.nd), fun _ _ _ _ _ => dts_nil, fun _ _ _ _ _ => (de_fn hd__law_pick 0 (Nat.zero_le _) LamX.takes0 ((hr).mono (by decide)) (by rfl) (dx_io 1 (dx_cons (de_var 3) dx_nil)))⟩))) da_nil)))))) dx_nil))) sc_law.nd)
    refine ds_cons ?_ ?_
    · exact (ds_set 8 (de_cmp (opr_ltT (hu64 hr)) opd_ltT (de_tup (da_cons (de_b1 call_len c1_len (by rfl) X.b_len (by decide +kernel) (de_var 5)) (da_cons (de_var 5) da_nil))) (de_tup (da_cons (de_b1 call_len c1_len (by rfl) X.b_len (by decide +kernel) (de_var 7)) (da_cons (de_var 7) da_nil)))) sc_law.nd)
    refine ds_cons ?_ ?_
    · refine ds_if (dt_not (dt_tru (de_fn0 hd__law_same 0 (Nat.zero_le _) (takes_def (by rfl) (by rfl) (by rfl) (by rfl)) ((hr).mono (by decide)) (by rfl) (da_cons (de_fn0 hd_comes_before 0 (Nat.zero_le _) (takes_def (by rfl) (by rfl) (by rfl) (by rfl)) ((hr).mono (by decide)) (by rfl) (da_cons (de_var 5) (da_cons (de_fn hd__law_pick 0 (Nat.zero_le _) (takes_def (by rfl) (by rfl) (by rfl) (by rfl)) ((hr).mono (by decide)) (by rfl) (dx_io 1 (dx_cons (DE.fz (de_lst (da_cons (de_var 7) (da_cons (DE.fz (de_t1 call_list_of c1_list (by rfl) X.b_list (by decide +kernel) (de_var 7))) da_nil)))) dx_nil))) da_nil))) (da_cons (de_var 8) da_nil))))) ?_ ?_
      · refine ds_last ?_
        exact (ds_ret de_bl)
      · exact ds_nil
    refine ds_cons ?_ ?_
    · refine ds_for (passes_of (by rfl)) (by rfl) (di_seq (DE.fz (de_lst (da_cons (de_var 5) (da_cons (de_var 7) (da_cons (DE.fz (de_t1 call_list_of c1_list (by rfl) X.b_list (by decide +kernel) (de_var 5))) (da_cons de_non (da_cons de_int (da_cons (de_ix (ixr_subs (hu1 hr)) opd_subs (de_var 3) de_int) (da_cons (de_op opr_add opd_add (de_var 5) (de_tup (da_cons (de_fn hd__law_odd_name 0 (Nat.zero_le _) (takes_def (by rfl) (by rfl) (by rfl) (by rfl)) ((hr).mono (by decide)) (by rfl) (dx_io 1 (dx_cons (de_ix (ixr_subs (hu1 hr)) opd_subs (de_var 3) de_int) dx_nil))) da_nil))) (da_cons (de_tup (da_cons de_non da_nil)) (da_cons (DE.fz de_dic0) da_nil)))))))))))) (dg_name 4 sc_law.nd) ?_
      refine ds_last ?_
      refine ds_if (dt_not (dt_tru (de_fn0 hd__law_same 0 (Nat.zero_le _) (takes_def (by rfl) (by rfl) (by rfl) (by rfl)) ((hr).mono (by decide)) (by rfl) (da_cons (de_fn0 hd_is_word 0 (Nat.zero_le _) (takes_def (by rfl) (by rfl) (by rfl) (by rfl)) ((hr).mono (by decide)) (by rfl) (da_cons (de_var 4) da_nil)) (da_cons (de_fn0 hd__law_is_word 0 (Nat.zero_le _) (takes_def (by rfl) (by rfl) (by rfl) (by rfl)) ((hr).mono (by decide)) (by rfl) (da_cons (de_var 4) da_nil)) da_nil))))) ?_ ?_
      · refine ds_last ?_
        exact (ds_ret de_bl)
      · exact ds_nil
    refine ds_cons ?_ ?_
    · exact (ds_set 9 (de_if (dt_cmp (opr_ne (hu64 hr)) opd_ne (de_var 5) (de_tup da_nil)) (de_mt PySem.F.plainAttrs_str PySem.F.slot_str_join PySem.F.type_str_join mt_join md_join de_str (da_cons (de_var 5) da_nil)) de_str) sc_law.nd)
    refine ds_cons ?_ ?_
    · refine ds_if (DW.dt (dw_or (dt_cmp (opr_ne (hu64 hr)) opd_ne (de_fn0 hd_word_text 0 (Nat.zero_le _) (takes_def (by rfl) (by rfl) (by rfl) (by rfl)) ((hr).mono (by decide)) (by rfl) (da_cons (de_var 5) da_nil)) (de_var 9)) (dw_or (dt_cmp (opr_ne (hu64 hr)) opd_ne (de_fn0 hd_word_text 0 (Nat.zero_le _) (takes_def (by rfl) (by rfl) (by rfl) (by rfl)) ((hr).mono (by decide)) (by rfl) (da_cons (DE.fz (de_t1 call_list_of c1_list (by rfl) X.b_list (by decide +kernel) (de_var 5))) da_nil)) (de_var 9)) (dw_one (dt_cmp (opr_ne (hu64 hr)) opd_ne (de_b1 (call_reprD hgd (hu64 hr)) c1_repr (by rfl) X.b_repr (by decide +kernel) (de_fn0 hd_word_read 0 (Nat.zero_le _) (takes_def (by rfl) (by rfl) (by rfl) (by rfl)) ((hr).mono (by decide)) (by rfl) (da_cons (de_var 9) da_nil))) (de_b1 (call_reprD hgd (hu64 hr)) c1_repr (by rfl) X.b_repr (by decide +kernel) (de_var 5))))))) ?_ ?_
      · refine ds_last ?_
        exact (ds_ret de_bl)
      · exact ds_nil
    refine ds_cons ?_ ?_
    · exact (ds_set 10 (DE.fz (de_mt PySem.F.plainAttrs_str PySem.F.slot_str_split PySem.F.type_str_split mt_split md_split (de_var 9) (da_cons de_str da_nil))) sc_law.nd)
    refine ds_last ?_
    refine ds_for (passes_of (by rfl)) (by rfl) (di_rng1 (by rfl) X.b_range (da_cons de_int da_nil)) (dg_name 11 sc_law.nd) ?_
    refine ds_cons ?_ ?_
    · exact (ds_set 10 (de_fn hd__law_bent_words 0 (Nat.zero_le _) (takes_def (by rfl) (by rfl) (by rfl) (by rfl)) ((hr).mono (by decide)) (by rfl) (dx_io 1 (dx_cons (de_var 10) (dx_cons (de_op opr_add opd_add (de_var 3) (DE.fz (de_lst (da_cons de_str (da_cons de_str (da_cons de_str da_nil)))))) dx_nil)))) sc_law.nd)
    refine ds_cons ?_ ?_
    · exact (ds_set 12 (de_mt PySem.F.plainAttrs_str PySem.F.slot_str_join PySem.F.type_str_join mt_join md_join de_str (da_cons (de_var 10) da_nil)) sc_law.nd)
    refine ds_cons ?_ ?_
    · exact (ds_set 13 (de_fn0 hd__law_first_wrong 0 (Nat.zero_le _) (takes_def (by rfl) (by rfl) (by rfl) (by rfl)) ((hr).mono (by decide)) (by rfl) (da_cons (de_var 12) da_nil)) sc_law.nd)
    refine ds_cons ?_ ?_
    · refine ds_if (dt_cmp (opr_ne (hu64 hr)) opd_ne (de_lam (k := 5) hl__law_why (by rfl) (gd__law_why X (by rfl)) TB (by rfl) hmT hu ((hr).mono (by decide)) (LamX.lamS_by (by kernel_rfl)) (by rfl) (fun _ _ _ _ _ => by rfl) (fun _ _ _ _ _ _ _ hrl => (de_fn0 hd_word_read 0 (Nat.zero_le _) (takes_def rfl rfl rfl rfl) ((hrl).mono (by decide)) (by rfl) (da_cons (de_var 12) da_nil)))) (de_var 13)) ?_ ?_
      · refine ds_last ?_
        exact (ds_ret de_bl)
      · exact ds_nil
    refine ds_last ?_
    refine ds_if (DW.dt (dw_and (dt_cmp opr_is opd_is (de_var 13) de_non) (dw_one (dt_cmp (opr_ne (hu64 hr)) opd_ne (de_b1 (call_reprD hgd (hu64 hr)) c1_repr (by rfl) X.b_repr (by decide +kernel) (de_fn0 hd_word_read 0 (Nat.zero_le _) (takes_def (by rfl) (by rfl) (by rfl) (by rfl)) ((hr).mono (by decide)) (by rfl) (da_cons (de_var 12) da_nil))) (de_b1 (call_reprD hgd (hu64 hr)) c1_repr (by rfl) X.b_repr (by decide +kernel) (de_if (dt_cmp (opr_eq (hu64 hr)) opd_eq (de_var 10) (DE.fz (de_lst (da_cons de_str (da_cons de_str da_nil))))) (de_tup da_nil) (de_t1 call_tuple_of c1_tuple (by rfl) X.b_tuple (by decide +kernel) (de_var 10)))))))) ?_ ?_
    · refine ds_last ?_
      exact (ds_ret de_bl)
    · exact ds_nil
  refine ds_cons ?_ ?_
  · exact (ds_set 14 (de_fn hd__law_pick 0 (Nat.zero_le _) (takes_def (by rfl) (by rfl) (by rfl) (by rfl)) ((hr).mono (by decide)) (by rfl) (dx_io 1 (dx_cons (DE.fz (de_lst (da_cons de_non (da_cons de_int (da_cons (de_tup da_nil) (da_cons (DE.fz (de_lst (da_cons de_str da_nil))) (da_cons de_bl (da_cons (DE.fz de_dic0) da_nil)))))))) dx_nil))) sc_law.nd)
  refine ds_cons ?_ ?_
  · refine ds_if (DW.dt (dw_or (dt_cmp (opr_ne (hu64 hr)) opd_ne (de_lam (k := 5) hl__law_why (by rfl) (gd__law_why X (by rfl)) TB (by rfl) hmT hu ((hr).mono (by decide)) (LamX.lamS_by (by kernel_rfl)) (by rfl) (fun _ _ _ _ _ => by rfl) (fun _ _ _ _ _ _ _ hrl => (de_fn0 hd_word_read 0 (Nat.zero_le _) (takes_def rfl rfl rfl rfl) ((hrl).mono (by decide)) (by rfl) (da_cons de_str da_nil)))) (DE.fz (de_lst (da_cons de_str (da_cons de_int (da_cons de_int da_nil)))))) (dw_or (dt_cmp (opr_ne (hu64 hr)) opd_ne (de_fn0 hd_word_text 0 (Nat.zero_le _) (takes_def (by rfl) (by rfl) (by rfl) (by rfl)) ((hr).mono (by decide)) (by rfl) (da_cons (de_tup (da_cons de_str (da_cons de_str da_nil))) da_nil)) de_str) (dw_one (dt_cmp (opr_ne (hu64 hr)) opd_ne (de_fn0 hd_word_read 0 (Nat.zero_le _) (takes_def (by rfl) (by rfl) (by rfl) (by rfl)) ((hr).mono (by decide)) (by rfl) (da_cons de_str da_nil)) (de_tup (da_cons de_str da_nil))))))) ?_ ?_
    · refine ds_last ?_
      exact (ds_ret de_bl)
    · exact ds_nil
  refine ds_last ?_
  exact (ds_ret (de_cmp (opr_eq (hu64 hr)) opd_eq (de_lam (k := 5) hl__law_why (by rfl) (gd__law_why X (by rfl)) TB (by rfl) hmT hu ((hr).mono (by decide)) (LamX.lamS_by (by kernel_rfl)) (by rfl) (fun _ _ _ _ _ => by rfl) (fun _ _ _ _ _ _ _ hrl => (de_fn0 hd_word_read 0 (Nat.zero_le _) (takes_def rfl rfl rfl rfl) ((hrl).mono (by decide)) (by rfl) (da_cons (de_var 14) da_nil)))) (DE.fz (de_lst (da_cons de_str (da_cons de_int (da_cons de_int da_nil)))))))
end G

set_option Elab.async false
set_option linter.all false
set_option maxRecDepth 100000
set_option maxHeartbeats 2000000
namespace G
open PySem PySem.Spec L2 VL
/-! the source of draws -/
structure Pen where
  cells : List Int
  at_ : Int
  digits : Int
  count : Int
  fold : Int
def penKv (p : Pen) : List (D × D) := [(.str "cells", .lst (p.cells.map .int)), (.str "at", .int p.at_), (.str "digits", .int p.digits), (.str "count", .int p.count), (.str "fold", .int p.fold)]
def penD (p : Pen) : D := .dic false (penKv p)
structure PenOk (k : Nat) (p : Pen) : Prop where
  a0 : 0 ≤ p.at_
  d0 : 0 ≤ p.digits
  f0 : 0 ≤ p.fold
  f1 : p.fold < 2147483179
  c0 : 0 ≤ p.count
  c1 : p.count + k ≤ 1099511627776
theorem PenOk.le {k j : Nat} {p : Pen} (h : PenOk k p) (e : j ≤ k) : PenOk j p := ⟨h.a0, h.d0, h.f0, h.f1, h.c0, by have := h.c1; omega⟩
@[simp] theorem pen_cells (p : Pen) : subsD (penD p) (.str "cells") = some (.lst (p.cells.map .int)) := by kernel_rfl
@[simp] theorem pen_at (p : Pen) : subsD (penD p) (.str "at") = some (.int p.at_) := by kernel_rfl
@[simp] theorem pen_digits (p : Pen) : subsD (penD p) (.str "digits") = some (.int p.digits) := by kernel_rfl
@[simp] theorem pen_count (p : Pen) : subsD (penD p) (.str "count") = some (.int p.count) := by kernel_rfl
@[simp] theorem pen_fold (p : Pen) : subsD (penD p) (.str "fold") = some (.int p.fold) := by kernel_rfl
@[simp] theorem put_at (p : Pen) (i : Int) (ρ : Rho) : putOw 0 (.str "at") (.int i) (some (.ow (penD p)) :: ρ) = .nx (some (.ow (penD { p with at_ := i })) :: ρ) := by kernel_rfl
@[simp] theorem put_digits (p : Pen) (i : Int) (ρ : Rho) : putOw 0 (.str "digits") (.int i) (some (.ow (penD p)) :: ρ) = .nx (some (.ow (penD { p with digits := i })) :: ρ) := by kernel_rfl
@[simp] theorem put_count (p : Pen) (i : Int) (ρ : Rho) : putOw 0 (.str "count") (.int i) (some (.ow (penD p)) :: ρ) = .nx (some (.ow (penD { p with count := i })) :: ρ) := by kernel_rfl
@[simp] theorem put_fold (p : Pen) (i : Int) (ρ : Rho) : putOw 0 (.str "fold") (.int i) (some (.ow (penD p)) :: ρ) = .nx (some (.ow (penD { p with fold := i })) :: ρ) := by kernel_rfl
def drawT : Rho → So := (sSeq (sIf (dB (dOp gtD (dOp subsD (dVarW 0) (dC (.str "digits"))) (dC (.int 0)))) (sSeq (sAsg (dOp modD (dUn intD (dOp subsD (dVarW 0) (dC (.str "digits")))) (dVar 1)) (gN 3))
    (sSeq (sPut 0 (dC (.str "digits")) (dOp fdivD (dOp subsD (dVarW 0) (dC (.str "digits"))) (dVar 1)))
    (sRet (dVar 3)))) sNil)
    (sSeq (sAsg (dOp addD (dOp addD (dOp subsD (dVarW 0) (dC (.str "fold"))) (dOp mulAll (dOp subsD (dVarW 0) (dC (.str "count"))) (dC (.int 7963)))) (dC (.int 73))) (gN 4))
    (sRet (dOp modD (dOp fdivD (dUn intD (dOp modD (dOp powD (dVar 4) (dC (.int 17))) (dC (.int 2305843009213693951)))) (dC (.int 128))) (dVar 1)))))
theorem drawT_ok {k : Nat} {p : Pen} {n : Int} (h : PenOk k p) (hn : 0 < n) (hb : n.natAbs.log2 < 9000) :
    ∃ v p', (0 ≤ v ∧ v < n ∧ PenOk k p') ∧ ∀ x y z, ∃ ρ', drawT [some (.ow (penD p)), some (.fz (.int n)), x, y, z] = .rt (.int v) (some (.ow (penD p')) :: some (.fz (.int n)) :: ρ') := by
  have c0 := h.c0
  have c1 := h.c1
  have f0 := h.f0
  have f1 := h.f1
  have d0 := h.d0
  by_cases hd : 0 < p.digits
  · refine ⟨p.digits % n, { p with digits := p.digits / n }, ⟨Int.emod_nonneg _ (by omega), Int.emod_lt_of_pos _ hn, h.a0, Int.ediv_nonneg d0 (by omega), f0, f1, c0, c1⟩, fun x y z => ?_⟩
    simp [drawT, hd, mod_int hn, fdiv_int hn hb]
  · have m1 := mul64 (i := p.count) (j := 7963) (by omega) (by decide)
    have m2 := pow_int (i := p.fold + p.count * 7963 + 73) (j := 17) (by decide) (by decide) (by omega)
    refine ⟨(p.fold + p.count * 7963 + 73) ^ 17 % 2305843009213693951 / 128 % n, p, ⟨Int.emod_nonneg _ (by omega), Int.emod_lt_of_pos _ hn, h⟩, fun x y z => ?_⟩
    simp [drawT, hd, mod_int hn, fdiv_int (i := (p.fold + p.count * 7963 + 73) ^ 17 % 2305843009213693951) (j := 128) (by decide) (by decide), m1, m2, mod_int (i := (p.fold + p.count * 7963 + 73) ^ 17) (j := 2305843009213693951) (by decide)]
theorem draw_ok {k : Nat} {p : Pen} {n : Int} (h : PenOk (k + 1) p) (hn : 0 < n) (hb : n.natAbs.log2 < 9000) :
    ∃ v p', f__law_draw [penD p, .int n] = .ret (.int v) [penD p', .int n] ∧ 0 ≤ v ∧ v < n ∧ PenOk k p' := by
  unfold f__law_draw fnD b__law_draw
  have hc := h.c1
  have hc0 := h.c0
  have e0 : p.count + 1 + k ≤ 1099511627776 := by omega
  have c1 : 0 ≤ p.count + 1 := by omega
  have pw : powD (.int 10) (.int 18) = some (.int 1000000000000000000) := pow_int (by decide) (by decide) (by decide)
  rw [← drawT]
  by_cases hd : p.digits = 0 ∧ p.at_ < p.cells.length
  · obtain ⟨hd, ha⟩ := hd
    obtain ⟨c, ec, hc, _⟩ := subs_lst (xs := p.cells.map D.int) (v := p.at_) h.a0 (by simpa using ha)
    obtain ⟨c, -, rfl⟩ := List.mem_map.mp hc
    have a1 : 0 ≤ p.at_ + 1 := by have := h.a0; omega
    by_cases hg : 1000000000000000000 ≤ c
    · obtain ⟨v, p', hz, hq⟩ := drawT_ok (p := { p with at_ := p.at_ + 1, digits := c - 1000000000000000000, count := p.count + 1 }) ⟨a1, by show 0 ≤ c - _; omega, h.f0, h.f1, c1, e0⟩ hn hb
      obtain ⟨ρ', hq⟩ := hq (some (.fz (.int c))) none none
      refine ⟨v, p', ?_, hz⟩
      simp [hd, ha, ec, hg, pw, hq]
    · have f0 := h.f0
      have f1 := h.f1
      have m1 := mul64 (i := p.fold) (j := 70099) (by omega) (by decide)
      obtain ⟨v, p', hz, hq⟩ := drawT_ok (p := { p with at_ := p.at_ + 1, fold := (p.fold * 70099 + c) % 2147483179, count := p.count + 1 }) ⟨a1, h.d0, by show 0 ≤ _ % _; omega, by show _ % _ < _; omega, c1, e0⟩ hn hb
      obtain ⟨ρ', hq⟩ := hq (some (.fz (.int c))) none none
      rw [hd] at hq
      refine ⟨v, p', ?_, hz⟩
      simp [hd, ha, ec, hg, pw, m1, mod_int, hq]
  · obtain ⟨v, p', hz, hq⟩ := drawT_ok (p := { p with count := p.count + 1 }) ⟨h.a0, h.d0, h.f0, h.f1, c1, e0⟩ hn hb
    obtain ⟨ρ', hq⟩ := hq none none none
    refine ⟨v, p', ?_, hz⟩
    by_cases hd1 : p.digits = 0
    · have ha : ¬ p.at_ < p.cells.length := fun z => hd ⟨hd1, z⟩
      rw [hd1] at hq
      simp [hd1, ha, hq]
    · simp [hd1, hq]
theorem pick_ok {k : Nat} {p : Pen} {xs : List D} (h : PenOk (k + 1) p) (hn : 0 < xs.length) (hb : xs.length ≤ 1000000) :
    ∃ d p', f__law_pick [penD p, .lst xs] = .ret d [penD p', .lst xs] ∧ d ∈ xs ∧ PenOk k p' := by
  obtain ⟨v, p', e, v0, v1, h1⟩ := draw_ok (n := xs.length) h (by omega) (Nat.lt_trans (lg_lt (k := 20) (by decide) (by omega)) (by decide))
  obtain ⟨d, e2, hd, _⟩ := subs_lst v0 v1
  refine ⟨d, p', ?_, hd, h1⟩
  simp [f__law_pick, fnD, b__law_pick, e, e2]
theorem pickT_ok {k : Nat} {p : Pen} {xs : List D} (h : PenOk (k + 1) p) (hn : 0 < xs.length) (hb : xs.length ≤ 1000000) :
    ∃ d p', f__law_pick [penD p, .tup xs] = .ret d [penD p', .tup xs] ∧ d ∈ xs ∧ PenOk k p' := by
  obtain ⟨v, p', e, v0, v1, h1⟩ := draw_ok (n := xs.length) h (by omega) (Nat.lt_trans (lg_lt (k := 20) (by decide) (by omega)) (by decide))
  obtain ⟨d, e2, hd, _⟩ := subs_tup v0 v1
  refine ⟨d, p', ?_, hd, h1⟩
  simp [f__law_pick, fnD, b__law_pick, e, e2]
theorem shuffled_ok {k : Nat} {p : Pen} {xs : List D} (h : PenOk (k + xs.length) p) (hb : xs.length ≤ 1000000) :
    ∃ ys p', f__law_shuffled [penD p, .lst xs] = .ret (.lst ys) [penD p', .lst xs] ∧ ys.Perm xs ∧ PenOk k p' := by
  unfold f__law_shuffled fnD b__law_shuffled
  have er := rng1_int (i := xs.length) ⟨by omega, by omega⟩
  obtain ⟨ρ', e, p', left, found, a4, rfl, hl, hp, h1⟩ := forD_inv (g := gN 4) (body := b__law_shuffled_L1)
    (fun ds ρ => ∃ p left found a4, ρ = [some (.ow (penD p)), some (.fz (.lst xs)), some (.ow (.lst left)), some (.ow (.lst found)), a4] ∧ left.length = ds.length ∧ (left ++ found).Perm xs ∧ PenOk (k + ds.length) p) (by
      rintro d ds ρ ⟨p, left, found, a4, rfl, hl, hp, h⟩
      have hlen := hp.length_eq
      rw [List.length_append] at hlen
      have hl' : left.length = ds.length + 1 := hl
      obtain ⟨v, p', e, v0, v1, h1⟩ := draw_ok (k := k + ds.length) (n := left.length) h (by omega) (Nat.lt_trans (lg_lt (k := 20) (by decide) (by omega)) (by decide))
      obtain ⟨z, e2, hz⟩ := pop_lst v0 v1 (by omega)
      have e3 := app_lst (xs := found) (d := z) (by omega)
      refine ⟨_, rfl, [some (.ow (penD p')), some (.fz (.lst xs)), some (.ow (.lst (left.eraseIdx v.toNat))), some (.ow (.lst (found ++ [z]))), some (.fz d)], ?_, p', left.eraseIdx v.toNat, found ++ [z], some (.fz d), rfl, ?_, ?_, h1⟩
      · simp [b__law_shuffled_L1, e, e2, e3]
      · have := hz.length_eq
        rw [List.length_cons] at this
        omega
      · refine List.Perm.trans ?_ hp
        rw [← List.append_assoc]
        refine (List.perm_append_comm).trans ?_
        exact (hz.append_right found)) (rngD 0 xs.length) [some (.ow (penD p)), some (.fz (.lst xs)), some (.ow (.lst xs)), some (.ow (.lst [])), none]
    ⟨p, xs, [], none, rfl, (rngD_len _).symm, by simp, by rw [rngD_len]; exact h⟩
  have hl0 : left = [] := List.length_eq_zero_iff.mp hl
  subst hl0
  refine ⟨found, p', ?_, by simpa using hp, h1⟩
  simp -implicitDefEqProofs [er, e]
/-! names -/
def lc (c : Nat) : Bool := decide (97 ≤ c) && decide (c ≤ 122)
def fg (c : Nat) : Bool := decide (48 ≤ c) && decide (c ≤ 57)
theorem letters_lc : ∀ c ∈ ("abcdefghijklmnopqrstuvwxyz" : Str).cps.toList, lc c = true := by decide +kernel
theorem str_at {z : Str} {v : Int} (hz : z.length ≤ 16777216) (h0 : 0 ≤ v) (h1 : v < z.length) : ∃ c, subsD (.str z) (.int v) = some (.str ⟨#[c]⟩) ∧ c ∈ z.cps.toList := by
  have hl : z.cps.toList.length = z.length := rfl
  obtain ⟨c, e, hc, _⟩ := atI_int (l := z.cps.toList) h0 (by rw [hl]; exact h1)
  refine ⟨c, ?_, hc⟩
  show ((if z.length ≤ 16777216 then (atI z.cps.toList v).map fun c => D.str ⟨#[c]⟩ else none).or _) = _
  rw [if_pos hz, e] <;> rfl
theorem sIx_pos {n d : Nat} {v : Int} (h0 : 0 ≤ v) : HT.sIx n d (some v) = min v.toNat n := if_neg (by omega)
theorem cut_to {z : Str} {v : Int} (h0 : 0 ≤ v) : (cutS z none (some v)).cps.toList = z.cps.toList.take v.toNat := by
  have hl : z.cps.toList.length = z.length := rfl
  unfold cutS
  rw [sIx_pos h0]
  show (z.cps.toList.drop 0).take (min v.toNat z.length - 0) = _
  rw [List.drop_zero, Nat.sub_zero, ← hl]
  by_cases h : v.toNat ≤ z.cps.toList.length
  · rw [Nat.min_eq_left h]
  · rw [Nat.min_eq_right (by omega), List.take_length, List.take_of_length_le (by omega)]
theorem cut_from {z : Str} {v : Int} (h0 : 0 ≤ v) : (cutS z (some v) none).cps.toList = z.cps.toList.drop v.toNat := by
  have hl : z.cps.toList.length = z.length := rfl
  unfold cutS
  rw [sIx_pos h0]
  show (z.cps.toList.drop (min v.toNat z.length)).take (z.length - min v.toNat z.length) = _
  rw [← hl]
  by_cases h : v.toNat ≤ z.cps.toList.length
  · rw [Nat.min_eq_left h, List.take_of_length_le (by rw [List.length_drop]; omega)]
  · rw [Nat.min_eq_right (by omega), List.drop_length, List.drop_of_length_le (by omega), List.take_nil]
theorem sl_str {z : Str} (l h : Option Int) (hz : z.length ≤ 16777216) : slD (.str z) l h = some (.str (cutS z l h)) := if_pos hz
theorem app_cps (a b : Str) : (a ++ b).cps.toList = a.cps.toList ++ b.cps.toList := by
  show (a.cps ++ b.cps).toList = _
  exact Array.toList_append
theorem app_len (a b : Str) : (a ++ b).length = a.length + b.length := by
  show (a.cps ++ b.cps).size = _
  exact Array.size_append
/-- a name made by the law -/
structure NmI (i : Nat) (z : Str) : Prop where
  ex : ∃ a b : List Nat, z.cps.toList = a ++ (48 + i) :: b ∧ a ≠ [] ∧ a.length + b.length ≤ 8 ∧ (∀ c ∈ a, lc c = true) ∧ (∀ c ∈ b, lc c = true)
theorem name_ok {k : Nat} {p : Pen} {i : Nat} (h : PenOk (k + 10) p) (hi : i < 10) :
    ∃ z p', f__law_name [penD p, .int i] = .ret (.str z) [penD p', .int i] ∧ NmI i z ∧ PenOk k p' := by
  unfold f__law_name fnD b__law_name
  obtain ⟨v0, p0, e0, v00, v01, h0⟩ := draw_ok (k := k + 9) (n := 8) h (by decide) (by decide)
  have er := rng1_int (i := 1 + v0) ⟨by omega, by omega⟩
  obtain ⟨m, hm⟩ : ∃ m : Nat, 1 + v0 = m := ⟨(1 + v0).toNat, by omega⟩
  rw [hm] at er
  obtain ⟨ρ', e, p1, w, a3, a4, rfl, hl, hw, h1⟩ := forD_inv (g := gN 3) (body := b__law_name_L1)
    (fun ds ρ => ∃ p w a3 a4, ρ = [some (.ow (penD p)), some (.fz (.int i)), some (.fz (.str w)), a3, a4] ∧ w.length + ds.length = m ∧ (∀ c ∈ w.cps.toList, lc c = true) ∧ PenOk (k + 1 + ds.length) p) (by
      rintro d ds ρ ⟨p, w, a3, a4, rfl, hl, hw, h⟩
      rw [List.length_cons] at hl
      obtain ⟨v, p', e, v0, v1, h1⟩ := draw_ok (k := k + 1 + ds.length) (n := 26) h (by decide) (by decide)
      obtain ⟨c, e2, hc⟩ := str_at (z := "abcdefghijklmnopqrstuvwxyz") (v := v) (by decide +kernel) v0 (by
        have : (("abcdefghijklmnopqrstuvwxyz" : Str).length : Int) = 26 := by decide +kernel
        omega)
      have l1 : (⟨#[c]⟩ : Str).length = 1 := rfl
      have e3 := add_str (a := w) (b := ⟨#[c]⟩) (by omega)
      refine ⟨_, rfl, [some (.ow (penD p')), some (.fz (.int i)), some (.fz (.str (w ++ ⟨#[c]⟩))), some (.fz d), a4], ?_, p', w ++ ⟨#[c]⟩, some (.fz d), a4, rfl, ?_, ?_, h1⟩
      · simp -implicitDefEqProofs [b__law_name_L1, e, e2, e3]
      · rw [app_len]
        omega
      · intro x hx
        rw [app_cps] at hx
        rcases List.mem_append.mp hx with hx | hx
        · exact hw x hx
        · rw [List.mem_singleton.mp hx]
          exact letters_lc c hc) (rngD 0 m) [some (.ow (penD p0)), some (.fz (.int i)), some (.fz (.str "")), none, none]
    ⟨p0, "", none, none, rfl, by rw [rngD_len]; exact Nat.zero_add _, by rw [show ("" : Str).cps.toList = [] from by decide +kernel]; exact fun _ h => absurd h (by simp), by rw [rngD_len]; exact h0.le (by omega)⟩
  have hl : w.length = m := hl
  obtain ⟨v2, p2, e2, v20, v21, h2⟩ := draw_ok (k := k) (n := w.length) h1 (by omega) (Nat.lt_trans (lg_lt (k := 20) (by decide) (by omega)) (by decide))
  have el := len_str (a := w) (by omega)
  have l1 := cut_to (z := w) (v := 1 + v2) (by omega)
  have l2 := cut_from (z := w) (v := 1 + v2) (by omega)
  have q1 : (cutS w none (some (1 + v2))).length ≤ w.length := by
    show (cutS w none (some (1 + v2))).cps.toList.length ≤ w.cps.toList.length
    rw [l1, List.length_take]
    omega
  have q2 : (cutS w (some (1 + v2)) none).length ≤ w.length := by
    show (cutS w (some (1 + v2)) none).cps.toList.length ≤ w.cps.toList.length
    rw [l2, List.length_drop]
    omega
  have s1 := sl_str (z := w) none (some (1 + v2)) (by omega)
  have s2 := sl_str (z := w) (some (1 + v2)) none (by omega)
  obtain ⟨s, t0, t1⟩ : ∃ s : Str, strD (.int i) = some (.str s) ∧ s.cps.toList = [48 + i] :=
    ⟨_, if_pos (Nat.lt_trans (lg_lt (k := 4) (by decide) (by omega)) (by decide)), (TL.tl_num i).trans (TL.numL_lt hi)⟩
  have t2 : s.length = 1 := by
    show s.cps.toList.length = 1
    rw [t1] <;> rfl
  have s3 := add_str (a := cutS w none (some (1 + v2))) (b := s) (by omega)
  have s4 := add_str (a := cutS w none (some (1 + v2)) ++ s) (b := cutS w (some (1 + v2)) none) (by rw [app_len]; omega)
  refine ⟨cutS w none (some (1 + v2)) ++ s ++ cutS w (some (1 + v2)) none, p2, ?_, ⟨w.cps.toList.take (1 + v2).toNat, w.cps.toList.drop (1 + v2).toNat, ?_, ?_, ?_, ?_, ?_⟩, h2⟩
  · simp -implicitDefEqProofs [e0, hm, er, e, e2, el, s1, s2, s3, s4, t0]
  · rw [app_cps, app_cps, l1, l2, t1, List.append_assoc] <;> rfl
  · intro z
    have hz := congrArg List.length z
    rw [List.length_take] at hz
    have : w.cps.toList.length = w.length := rfl
    simp only [List.length_nil] at hz
    omega
  · rw [List.length_take, List.length_drop]
    have : w.cps.toList.length = w.length := rfl
    omega
  · exact fun c hc => hw c (List.mem_of_mem_take hc)
  · exact fun c hc => hw c (List.mem_of_mem_drop hc)
theorem exists_strs {P : Str → Prop} : ∀ {xs : List D}, (∀ x ∈ xs, ∃ z, x = .str z ∧ P z) → ∃ zs : List Str, xs = zs.map .str ∧ ∀ z ∈ zs, P z
  | [], _ => ⟨[], rfl, by simp⟩
  | x :: xs, h => by
    obtain ⟨z, rfl, hz⟩ := h x (List.mem_cons_self ..)
    obtain ⟨zs, rfl, hs⟩ := exists_strs (xs := xs) fun y hy => h y (List.mem_cons_of_mem _ hy)
    refine ⟨z :: zs, rfl, fun y hy => ?_⟩
    rcases List.mem_cons.mp hy with rfl | hy
    · exact hz
    · exact hs y hy
theorem names_ok {k m : Nat} {p : Pen} (h : PenOk (k + 11 * m) p) (hm : m ≤ 10) :
    ∃ (zs : List Str) (p' : Pen), f__law_names [penD p, .int m] = .ret (.lst (zs.map .str)) [penD p', .int m] ∧ zs.length = m ∧ (∀ z ∈ zs, ∃ i, i < m ∧ NmI i z) ∧ PenOk k p' := by
  have er := rng1_int (i := m) ⟨by omega, by omega⟩
  obtain ⟨ys, ρ', e, hl, hq, ⟨p1, rfl, h1⟩, _⟩ := lcD_inv (v := 2) (e := b__law_names_E1) (fun d => ∃ z i, d = .str z ∧ i < m ∧ NmI i z)
    (fun ds ρ => (∃ p, ρ = [some (.ow (penD p)), some (.fz (.int m)), none] ∧ PenOk (k + m + 10 * ds.length) p) ∧ ∀ d ∈ ds, ∃ i : Nat, d = .int i ∧ i < m) (by
      rintro d ds ρ ⟨⟨p, rfl, h⟩, hd⟩
      obtain ⟨i, rfl, hi⟩ := hd d (List.mem_cons_self ..)
      obtain ⟨z, p', e, hz, h1⟩ := name_ok (k := k + m + 10 * ds.length) (i := i) h (by omega)
      refine ⟨.str z, [some (.ow (penD p')), some (.fz (.int m)), some (.fz (.int i))], ?_, ⟨z, i, rfl, hi, hz⟩, ⟨p', rfl, h1⟩, fun x hx => hd x (List.mem_cons_of_mem _ hx)⟩
      simp -implicitDefEqProofs [b__law_names_E1, e]) (rngD 0 m) [some (.ow (penD p)), some (.fz (.int m)), none]
    ⟨⟨p, rfl, by rw [rngD_len]; exact h.le (by omega)⟩, fun d hd => rng_mem hd⟩
  have hb : ys.length ≤ 1000000 := by rw [hl, rngD_len]; omega
  have hy : ys.length = m := by rw [hl, rngD_len]
  obtain ⟨xs, p2, e2, hp, h2⟩ := shuffled_ok (k := k) (xs := ys) (p := p1) (h1.le (by omega)) hb
  obtain ⟨zs, rfl, hz⟩ := exists_strs (P := fun z => ∃ i, i < m ∧ NmI i z) (xs := xs) fun x hx => by
    obtain ⟨z, i, r⟩ := hq x (hp.mem_iff.mp hx)
    exact ⟨z, r.1, i, r.2⟩
  refine ⟨zs, p2, ?_, ?_, hz, h2⟩
  · simp -implicitDefEqProofs [f__law_names, fnD, b__law_names, er, e, toLst_lst hb, e2]
  · rw [← hy, ← hp.length_eq, List.length_map]
theorem pen_ok (ns : List Int) : ∃ p ds, f__law_pen [.scr ns] = .fre (penD p) ds ∧ PenOk 1000000 p := by
  unfold f__law_pen fnD b__law_pen
  obtain ⟨ρ', e, ⟨fd, a2, rfl, f0, f1⟩, _⟩ := forD_inv (g := gN 2) (body := b__law_pen_L1)
    (fun ds ρ => (∃ fd a2, ρ = [some (.fz (.scr ns)), some (.fz (.int fd)), a2] ∧ 0 ≤ fd ∧ fd < 1000000447) ∧ ∀ d ∈ ds, ∃ i : Int, d = .int i) (by
      rintro d ds ρ ⟨⟨fd, a2, rfl, f0, f1⟩, hd⟩
      obtain ⟨i, rfl⟩ := hd d (List.mem_cons_self ..)
      have m1 := mul64 (i := fd) (j := 139) (by omega) (by decide)
      refine ⟨_, rfl, [some (.fz (.scr ns)), some (.fz (.int ((fd * 139 + i) % 1000000447))), some (.fz (.int i))], ?_, ⟨_, _, rfl, by omega, by omega⟩, fun x hx => hd x (List.mem_cons_of_mem _ hx)⟩
      simp -implicitDefEqProofs [b__law_pen_L1, m1, mod_int]) (ns.map .int) [some (.fz (.scr ns)), some (.fz (.int 41)), none]
    ⟨⟨41, none, rfl, by decide, by decide⟩, fun d hd => by
      obtain ⟨i, _, rfl⟩ := List.mem_map.mp hd
      exact ⟨i, rfl⟩⟩
  have em : ∀ a b c d e : D, mergeD [] [(.str "cells", a), (.str "at", b), (.str "digits", c), (.str "count", d), (.str "fold", e)] = some [(.str "cells", a), (.str "at", b), (.str "digits", c), (.str "count", d), (.str "fold", e)] := fun a b c d e => by kernel_rfl
  have s1 : seqD (.scr ns) = some (ns.map .int) := rfl
  have s2 : listD (.scr ns) = some (.lst (ns.map .int)) := rfl
  refine ⟨⟨ns, 0, 0, 0, fd⟩, [.scr ns], ?_, ⟨Int.le_refl 0, Int.le_refl 0, f0, by show fd < _; omega, Int.le_refl 0, by show (0 : Int) + (1000000 : Nat) ≤ _; decide⟩⟩
  simp -implicitDefEqProofs [s1, s2, e, em, penD, penKv]
end G

set_option Elab.async false
set_option linter.all false
set_option maxRecDepth 100000
set_option maxHeartbeats 2000000
namespace G
open PySem PySem.Spec L2 VL
/-! names and words -/
theorem found_in (c : Nat) (L : Str) : inAny (.str ⟨#[c]⟩) (.str L) = some (.bl (decide (c ∈ L.cps.toList))) := by
  show ((((some (!(Builtin.Str.occurrences L ⟨#[c]⟩ 0 L.length 1).isEmpty) : Option Bool).or _).map D.bl).or _) = _
  rw [StrLaws.found_one] <;> rfl
theorem found_not (c : Nat) (L : Str) : notInAny (.str ⟨#[c]⟩) (.str L) = some (.bl (!decide (c ∈ L.cps.toList))) := by
  show ((((some (!(Builtin.Str.occurrences L ⟨#[c]⟩ 0 L.length 1).isEmpty) : Option Bool).or _).map fun b => D.bl (!b)).or _) = _
  rw [StrLaws.found_one] <;> rfl
theorem let_list : ("abcdefghijklmnopqrstuvwxyz" : Str).cps.toList = [97, 98, 99, 100, 101, 102, 103, 104, 105, 106, 107, 108, 109, 110, 111, 112, 113, 114, 115, 116, 117, 118, 119, 120, 121, 122] := by decide +kernel
theorem fig_list : ("0123456789" : Str).cps.toList = [48, 49, 50, 51, 52, 53, 54, 55, 56, 57] := by decide +kernel
theorem lf_list : ("abcdefghijklmnopqrstuvwxyz0123456789" : Str).cps.toList = [97, 98, 99, 100, 101, 102, 103, 104, 105, 106, 107, 108, 109, 110, 111, 112, 113, 114, 115, 116, 117, 118, 119, 120, 121, 122] ++ [48, 49, 50, 51, 52, 53, 54, 55, 56, 57] := by decide +kernel
theorem in_let (c : Nat) : decide (c ∈ ("abcdefghijklmnopqrstuvwxyz" : Str).cps.toList) = lc c := by
  unfold lc
  rw [let_list, ← Bool.decide_and]
  refine decide_eq_decide.mpr ?_
  simp only [List.mem_cons, List.not_mem_nil, or_false]
  omega
theorem in_fig (c : Nat) : decide (c ∈ ("0123456789" : Str).cps.toList) = fg c := by
  unfold fg
  rw [fig_list, ← Bool.decide_and]
  refine decide_eq_decide.mpr ?_
  simp only [List.mem_cons, List.not_mem_nil, or_false]
  omega
theorem in_lf (c : Nat) : decide (c ∈ ("abcdefghijklmnopqrstuvwxyz0123456789" : Str).cps.toList) = (lc c || fg c) := by
  rw [← in_let, ← in_fig, lf_list, ← let_list, ← fig_list, ← Bool.decide_or]
  exact decide_eq_decide.mpr List.mem_append
/-- a text of at most n signs, all small -/
def Asc (n : Nat) (z : Str) : Prop := z.length ≤ n ∧ ∀ c ∈ z.cps.toList, c < 128
theorem Asc.le {n m : Nat} {z : Str} (h : Asc n z) (e : n ≤ m) : Asc m z := ⟨Nat.le_trans h.1 e, h.2⟩
theorem Asc.ok {n : Nat} {z : Str} (h : Asc n z) : PyData.strOk z = true := by
  show z.cps.all _ = true
  rw [← Array.all_toList, List.all_eq_true]
  exact fun c hc => decide_eq_true (Nat.lt_trans (h.2 c hc) (by decide))
def hd1 (l : List Nat) : Bool := match l with
  | c :: _ => lc c
  | [] => false
/-- whether a text is a name -/
def nm (z : Str) : Bool := decide (1 ≤ z.length) && decide (z.length ≤ 12) && hd1 z.cps.toList && z.cps.toList.all fun c => lc c || fg c
def nmD : D → Bool
  | .str z => nm z
  | _ => false
/-- values asked of is_name -/
def Vd : D → Prop
  | .str z => Asc 100000 z
  | .non => True
  | .int _ => True
  | .bl _ => True
  | .tup _ => True
  | .lst _ => True
  | .dic _ _ => True
  | _ => False
theorem bls_map {γ : Type} (b : γ → Bool) : ∀ cs : List γ, blsD (cs.map fun c => D.bl (b c)) = some (cs.map b)
  | [] => rfl
  | c :: cs => by
    show ((some (b c)).bind fun x => (blsD (cs.map fun c => D.bl (b c))).map (x :: ·)) = _
    rw [bls_map b cs] <;> rfl
theorem all_map {γ : Type} (b : γ → Bool) (cs : List γ) : allD (.lst (cs.map fun c => D.bl (b c))) = some (.bl (cs.all b)) := by
  show (blsD (cs.map fun c => D.bl (b c))).map _ = _
  rw [bls_map]
  show some (D.bl ((cs.map b).all id)) = _
  rw [List.all_map] <;> rfl
theorem seq_str (z : Str) : seqD (.str z) = some (z.cps.toList.map fun c => .str ⟨#[c]⟩) := rfl
theorem isi (n : String) (d : D) (t : String) (b : Bool) (h1 : tyN d = some t) (h2 : kitB t n = some b) : isiD n d = some (.bl b) := by
  unfold isiD
  rw [h1]
  show (kitB t n).map _ = _
  rw [h2] <;> rfl
@[simp] theorem isi_str (z : Str) : isiD "str" (.str z) = some (.bl true) := isi _ _ "str" _ rfl (by decide +kernel)
@[simp] theorem isi_str0 : isiD "str" .non = some (.bl false) := isi _ _ "NoneType" _ rfl (by decide +kernel)
@[simp] theorem isi_str1 (b : Bool) : isiD "str" (.bl b) = some (.bl false) := isi _ _ "bool" _ rfl (by decide +kernel)
@[simp] theorem isi_str2 (i : Int) : isiD "str" (.int i) = some (.bl false) := isi _ _ "int" _ rfl (by decide +kernel)
@[simp] theorem isi_str3 (xs : List D) : isiD "str" (.tup xs) = some (.bl false) := isi _ _ "tuple" _ rfl (by decide +kernel)
@[simp] theorem isi_str4 (xs : List D) : isiD "str" (.lst xs) = some (.bl false) := isi _ _ "list" _ rfl (by decide +kernel)
@[simp] theorem isi_str5 (t : Bool) (xs : List (D × D)) : isiD "str" (.dic t xs) = some (.bl false) := isi _ _ "dict" _ rfl (by decide +kernel)
@[simp] theorem isi_tup (z : Str) : isiD "tuple" (.str z) = some (.bl false) := isi _ _ "str" _ rfl (by decide +kernel)
@[simp] theorem isi_tup0 : isiD "tuple" .non = some (.bl false) := isi _ _ "NoneType" _ rfl (by decide +kernel)
@[simp] theorem isi_tup1 (b : Bool) : isiD "tuple" (.bl b) = some (.bl false) := isi _ _ "bool" _ rfl (by decide +kernel)
@[simp] theorem isi_tup2 (i : Int) : isiD "tuple" (.int i) = some (.bl false) := isi _ _ "int" _ rfl (by decide +kernel)
@[simp] theorem isi_tup3 (xs : List D) : isiD "tuple" (.tup xs) = some (.bl true) := isi _ _ "tuple" _ rfl (by decide +kernel)
@[simp] theorem isi_tup4 (xs : List D) : isiD "tuple" (.lst xs) = some (.bl false) := isi _ _ "list" _ rfl (by decide +kernel)
@[simp] theorem isi_tup5 (t : Bool) (xs : List (D × D)) : isiD "tuple" (.dic t xs) = some (.bl false) := isi _ _ "dict" _ rfl (by decide +kernel)
@[simp] theorem tru_bl (b : Bool) : truD (.bl b) = some b := rfl
theorem is_name_str {z : Str} (h : Asc 100000 z) : f_is_name [.str z] = .ret (.bl (nm z)) [.str z] := by
  have h1 := h.1
  have hl := len_str (a := z) (by omega)
  have hz : z.cps.toList.length = z.length := rfl
  unfold f_is_name fnD b_is_name
  by_cases h2 : 1 ≤ z.length ∧ z.length ≤ 12
  · obtain ⟨h3, h4⟩ := h2
    obtain ⟨c, cs, hc⟩ : ∃ c cs, z.cps.toList = c :: cs := by
      cases e : z.cps.toList with
      | nil => rw [e] at hz; simp at hz; omega
      | cons c cs => exact ⟨c, cs, rfl⟩
    have e0 : subsD (.str z) (.int 0) = some (.str ⟨#[c]⟩) := by
      show ((if z.length ≤ 16777216 then (atI z.cps.toList 0).map fun c => D.str ⟨#[c]⟩ else none).or _) = _
      rw [if_pos (by omega), hc, show atI (c :: cs) 0 = some c from atI_nat (j := 0) rfl] <;> rfl
    have e1 := found_not c "abcdefghijklmnopqrstuvwxyz"
    rw [in_let] at e1
    have hn : nm z = (lc c && z.cps.toList.all fun c => lc c || fg c) := by
      unfold nm
      rw [hc]
      simp [h3, h4, hd1]
    have el := lcD_map (v := 1) (e := b_is_name_E1) (fun c => D.str ⟨#[c]⟩) (fun c => D.bl (lc c || fg c)) (ρ := [some (.fz (.str z)), none]) rfl z.cps.toList (by
      intro x hx
      have q1 := found_in x "abcdefghijklmnopqrstuvwxyz"
      have q2 := found_in x "0123456789"
      rw [in_let] at q1
      rw [in_fig] at q2
      cases hx : lc x <;> simp -implicitDefEqProofs [b_is_name_E1, q1, q2, hx])
    rw [hn]
    have i1 : (1 : Int) ≤ z.length := by omega
    have i2 : (z.length : Int) ≤ 12 := by omega
    cases hx : lc c
    · simp -implicitDefEqProofs [hl, i1, i2, e0, e1, hx]
    · simp -implicitDefEqProofs [hl, i1, i2, e0, e1, hx, seq_str, el, toLst_lst, hz, all_map, show z.length ≤ 1000000 from by omega]
  · have hn : nm z = false := by
      unfold nm
      rcases Nat.lt_or_ge z.length 1 with h5 | h5
      · simp [show z.length = 0 from by omega]
      · simp [show ¬ z.length ≤ 12 from fun q => h2 ⟨h5, q⟩]
    rw [hn]
    by_cases h5 : (1 : Int) ≤ z.length
    · have i2 : ¬ (z.length : Int) ≤ 12 := by omega
      simp -implicitDefEqProofs [hl, h5, i2]
    · simp -implicitDefEqProofs [hl, h5]
theorem is_name_ok {d : D} (h : Vd d) : f_is_name [d] = .ret (.bl (nmD d)) [d] := by
  cases d with
  | str z => exact is_name_str h
  | non => simp -implicitDefEqProofs [f_is_name, fnD, b_is_name, nmD]
  | int i => simp -implicitDefEqProofs [f_is_name, fnD, b_is_name, nmD]
  | bl b => simp -implicitDefEqProofs [f_is_name, fnD, b_is_name, nmD]
  | tup xs => simp -implicitDefEqProofs [f_is_name, fnD, b_is_name, nmD]
  | lst xs => simp -implicitDefEqProofs [f_is_name, fnD, b_is_name, nmD]
  | dic t xs => simp -implicitDefEqProofs [f_is_name, fnD, b_is_name, nmD]
  | _ => exact h.elim
/-! equality of data -/
/-- data of a depth -/
def Dt (n : Nat) (d : D) (p : PyData) : Prop := py d = some p ∧ p.canLay0 = true ∧ p.depth ≤ n
theorem shaped_of {p : PyData} (h : p.canLay0 = true) (h2 : p.depth ≤ 64) : SeqAt.shaped p = true := by
  unfold SeqAt.shaped
  rw [h, decide_eq_true h2] <;> rfl
theorem eqP_dt {a b : D} {p q : PyData} {n m : Nat} (ha : Dt n a p) (hb : Dt m b q) (hn : n ≤ 64) (hm : m ≤ 64) : eqP a b = some (PyData.eqv p q) := by
  unfold eqP
  rw [ha.1, hb.1]
  show (if _ ∧ _ then _ else _) = _
  rw [if_pos ⟨shaped_of ha.2.1 (Nat.le_trans ha.2.2 hn), shaped_of hb.2.1 (Nat.le_trans hb.2.2 hm)⟩]
theorem dt_str {z : Str} {n : Nat} (h : Asc n z) : Dt 0 (.str z) (.str z) := ⟨rfl, by rw [PyData.canLay0]; exact h.ok, by rw [PyData.depth]; exact Nat.le_refl _⟩
theorem dt_int (i : Int) : Dt 0 (.int i) (.int i) := ⟨rfl, by rw [PyData.canLay0], by rw [PyData.depth]; exact Nat.le_refl _⟩
theorem dt_non : Dt 0 .non .none := ⟨rfl, by rw [PyData.canLay0], by rw [PyData.depth]; exact Nat.le_refl _⟩
theorem dt_bl (b : Bool) : Dt 0 (.bl b) (.bool b) := ⟨rfl, by rw [PyData.canLay0], by rw [PyData.depth]; exact Nat.le_refl _⟩
theorem dt_all {n : Nat} : ∀ {ds : List D}, (∀ d ∈ ds, ∃ p, Dt n d p) → ∃ ps, pys ds = some ps ∧ PyData.canLayAll0 ps = true ∧ PyData.depthAll ps ≤ n ∧ ps.length = ds.length
  | [], _ => ⟨[], rfl, by rw [PyData.canLayAll0], by rw [PyData.depthAll]; exact Nat.zero_le _, rfl⟩
  | d :: ds, h => by
    obtain ⟨p, h1, h2, h3⟩ := h d (List.mem_cons_self ..)
    obtain ⟨ps, h4, h5, h6, h7⟩ := dt_all (ds := ds) fun x hx => h x (List.mem_cons_of_mem _ hx)
    refine ⟨p :: ps, ?_, ?_, ?_, by simp [h7]⟩
    · show ((py d).bind fun p => (pys ds).map (p :: ·)) = _
      rw [h1, h4] <;> rfl
    · rw [PyData.canLayAll0, h2, h5] <;> rfl
    · rw [PyData.depthAll]
      omega
theorem dt_tup {n : Nat} {ds : List D} (h : ∀ d ∈ ds, ∃ p, Dt n d p) : ∃ ps, pys ds = some ps ∧ ps.length = ds.length ∧ Dt (n + 1) (.tup ds) (.tuple ps) := by
  obtain ⟨ps, h1, h2, h3, h4⟩ := dt_all h
  refine ⟨ps, h1, h4, ?_, by rw [PyData.canLay0, h2], by rw [PyData.depth]; omega⟩
  show (pys ds).map PyData.tuple = _
  rw [h1] <;> rfl
theorem dt_lst {n : Nat} {ds : List D} (h : ∀ d ∈ ds, ∃ p, Dt n d p) : ∃ ps, pys ds = some ps ∧ ps.length = ds.length ∧ Dt (n + 1) (.lst ds) (.list ps) := by
  obtain ⟨ps, h1, h2, h3, h4⟩ := dt_all h
  refine ⟨ps, h1, h4, ?_, by rw [PyData.canLay0, h2], by rw [PyData.depth]; omega⟩
  show (pys ds).map PyData.list = _
  rw [h1] <;> rfl
theorem eqv_nil (ps : List PyData) : PyData.eqv (.list ps) (.list []) = ps.isEmpty := by
  cases ps <;> rw [PyData.eqv, PyData.eqvAll] <;> rfl
theorem eqv_nilT (ps : List PyData) : PyData.eqv (.tuple ps) (.tuple []) = ps.isEmpty := by
  cases ps <;> rw [PyData.eqv, PyData.eqvAll] <;> rfl
theorem emp_len {α β : Type} {a : List α} {b : List β} (h : a.length = b.length) : a.isEmpty = b.isEmpty := by
  cases a <;> cases b <;> first | rfl | exact absurd h (by simp)
/-- xs == [] -/
theorem eq_nil {n : Nat} {ds : List D} (h : ∀ d ∈ ds, ∃ p, Dt n d p) (hn : n ≤ 63) : eqD (.lst ds) (.lst []) = some (.bl ds.isEmpty) := by
  obtain ⟨ps, h1, h2, h3⟩ := dt_lst h
  have h4 : Dt 1 (.lst []) (.list []) := ⟨rfl, by rw [PyData.canLay0, PyData.canLayAll0], by rw [PyData.depth, PyData.depthAll]; exact Nat.le_refl _⟩
  show (((none : Option Bool).or (eqP (.lst ds) (.lst []))).map D.bl) = _
  rw [eqP_dt h3 h4 (by omega) (by omega), eqv_nil, emp_len h2] <;> rfl
theorem ne_nilT {n : Nat} {ds : List D} (h : ∀ d ∈ ds, ∃ p, Dt n d p) (hn : n ≤ 63) : neD (.tup ds) (.tup []) = some (.bl (!ds.isEmpty)) := by
  obtain ⟨ps, h1, h2, h3⟩ := dt_tup h
  have h4 : Dt 1 (.tup []) (.tuple []) := ⟨rfl, by rw [PyData.canLay0, PyData.canLayAll0], by rw [PyData.depth, PyData.depthAll]; exact Nat.le_refl _⟩
  show (((none : Option Bool).or (eqP (.tup ds) (.tup []))).map fun b => D.bl (!b)) = _
  rw [eqP_dt h3 h4 (by omega) (by omega), eqv_nilT, emp_len h2] <;> rfl
theorem filter_isEmpty {γ : Type} (b : γ → Bool) (cs : List γ) : (cs.filter b).isEmpty = cs.all fun c => !b c := by
  induction cs with
  | nil => rfl
  | cons c cs ih =>
    rw [List.filter_cons, List.all_cons]
    cases h : b c
    · simp [ih]
    · simp
theorem law_is_name_str {z : Str} (h : Asc 100000 z) : f__law_is_name [.str z] = .ret (.bl (nm z)) [.str z] := by
  have h1 := h.1
  have hl := len_str (a := z) (by omega)
  have hz : z.cps.toList.length = z.length := rfl
  unfold f__law_is_name fnD b__law_is_name
  by_cases h2 : 1 ≤ z.length ∧ z.length ≤ 12
  · obtain ⟨h3, h4⟩ := h2
    obtain ⟨c, cs, hc⟩ : ∃ c cs, z.cps.toList = c :: cs := by
      cases e : z.cps.toList with
      | nil => rw [e] at hz; simp at hz; omega
      | cons c cs => exact ⟨c, cs, rfl⟩
    have e0 : subsD (.str z) (.int 0) = some (.str ⟨#[c]⟩) := by
      show ((if z.length ≤ 16777216 then (atI z.cps.toList 0).map fun c => D.str ⟨#[c]⟩ else none).or _) = _
      rw [if_pos (by omega), hc, show atI (c :: cs) 0 = some c from atI_nat (j := 0) rfl] <;> rfl
    have e1 := found_not c "abcdefghijklmnopqrstuvwxyz"
    rw [in_let] at e1
    have hn : nm z = (lc c && z.cps.toList.all fun c => lc c || fg c) := by
      unfold nm
      rw [hc]
      simp [h3, h4, hd1]
    have el := lcD_filter (v := 1) (e := dVar 1) (t := dB (dOp notInAny (dVar 1) (dC (.str "abcdefghijklmnopqrstuvwxyz0123456789")))) (fun c => D.str ⟨#[c]⟩) (fun c => D.str ⟨#[c]⟩) (fun c => !(lc c || fg c)) (ρ := [some (.fz (.str z)), none]) rfl z.cps.toList (by
      intro x hx
      have q1 := found_not x "abcdefghijklmnopqrstuvwxyz0123456789"
      rw [in_lf] at q1
      exact ⟨by simp -implicitDefEqProofs [q1], fun _ => by simp -implicitDefEqProofs⟩)
    have eq := eq_nil (n := 0) (ds := (z.cps.toList.filter fun c => !(lc c || fg c)).map fun c => D.str ⟨#[c]⟩) (by
      intro d hd
      obtain ⟨x, hx, rfl⟩ := List.mem_map.mp hd
      exact ⟨_, dt_str (n := 1) ⟨Nat.le_refl _, fun y hy => by
        rw [List.mem_singleton.mp hy]
        exact h.2 x (List.mem_filter.mp hx).1⟩⟩) (by omega)
    have hq : ((z.cps.toList.filter fun c => !(lc c || fg c)).map fun c => D.str ⟨#[c]⟩).isEmpty = z.cps.toList.all fun c => lc c || fg c := by
      rw [List.isEmpty_map, filter_isEmpty]
      simp
    rw [hq] at eq
    have hf : ((z.cps.toList.filter fun c => !(lc c || fg c)).map fun c => D.str ⟨#[c]⟩).length ≤ 1000000 := by
      rw [List.length_map]
      have := List.length_filter_le (fun c => !(lc c || fg c)) z.cps.toList
      omega
    rw [hn]
    have i1 : (1 : Int) ≤ z.length := by omega
    have i2 : (z.length : Int) ≤ 12 := by omega
    generalize z.cps.toList.all (fun c => lc c || fg c) = B at eq
    generalize (z.cps.toList.filter fun c => !(lc c || fg c)).map (fun c => D.str ⟨#[c]⟩) = L at eq hf el
    cases hx : lc c
    · simp -implicitDefEqProofs [hl, i1, i2, e0, e1, hx]
    · simp -implicitDefEqProofs [hl, i1, i2, e0, e1, hx, seq_str, el, toLst_lst hf, eq]
  · have hn : nm z = false := by
      unfold nm
      rcases Nat.lt_or_ge z.length 1 with h5 | h5
      · simp [show z.length = 0 from by omega]
      · simp [show ¬ z.length ≤ 12 from fun q => h2 ⟨h5, q⟩]
    rw [hn]
    by_cases h5 : (1 : Int) ≤ z.length
    · have i2 : ¬ (z.length : Int) ≤ 12 := by omega
      simp -implicitDefEqProofs [hl, h5, i2]
    · simp -implicitDefEqProofs [hl, h5]
theorem law_is_name_ok {d : D} (h : Vd d) : f__law_is_name [d] = .ret (.bl (nmD d)) [d] := by
  cases d with
  | str z => exact law_is_name_str h
  | non => simp -implicitDefEqProofs [f__law_is_name, fnD, b__law_is_name, nmD]
  | int i => simp -implicitDefEqProofs [f__law_is_name, fnD, b__law_is_name, nmD]
  | bl b => simp -implicitDefEqProofs [f__law_is_name, fnD, b__law_is_name, nmD]
  | tup xs => simp -implicitDefEqProofs [f__law_is_name, fnD, b__law_is_name, nmD]
  | lst xs => simp -implicitDefEqProofs [f__law_is_name, fnD, b__law_is_name, nmD]
  | dic t xs => simp -implicitDefEqProofs [f__law_is_name, fnD, b__law_is_name, nmD]
  | _ => exact h.elim
theorem same_bl (a b : Bool) : f__law_same [.bl a, .bl b] = .ret (.bl (a == b)) [.bl a, .bl b] := by
  have t1 : isiD "tuple" (.bl b) = some (.bl false) := isi_tup1 b
  cases a <;> cases b <;> simp -implicitDefEqProofs [f__law_same, fnD, b__law_same, isD, isNonD]
/-! words -/
theorem lcD_mapD {v : Nat} {e : Rho → Ro D} (h : D → D) {ρ : Rho} (hv : ρ[v]? = some none) (ds : List D) (he : ∀ d ∈ ds, e (ρ.set v (some (.fz d))) = .ok (h d) (ρ.set v (some (.fz d)))) : lcD [v] (gN v) dYes e ds ρ = .ok (ds.map h) ρ := by
  have r := lcD_map (k := id) (h := h) hv ds he
  rwa [List.map_id] at r
theorem lcD_filterD {v : Nat} {e : Rho → Ro D} {t : Rho → Ro Bool} (h : D → D) (b : D → Bool) {ρ : Rho} (hv : ρ[v]? = some none) (ds : List D) (he : ∀ d ∈ ds, t (ρ.set v (some (.fz d))) = .ok (b d) (ρ.set v (some (.fz d))) ∧ (b d = true → e (ρ.set v (some (.fz d))) = .ok (h d) (ρ.set v (some (.fz d))))) :
    lcD [v] (gN v) t e ds ρ = .ok ((ds.filter b).map h) ρ := by
  have r := lcD_filter (k := id) (h := h) b hv ds he
  rwa [List.map_id] at r
/-- values asked of is_word -/
def Vw : D → Prop
  | .tup ds => (∀ d ∈ ds, Vd d ∧ ∃ p, Dt 5 d p) ∧ ds.length ≤ 1000
  | .str _ => True
  | .non => True
  | .int _ => True
  | .bl _ => True
  | .lst _ => True
  | .dic _ _ => True
  | _ => False
def wdD : D → Bool
  | .tup ds => ds.all nmD
  | _ => false
theorem is_word_ok {d : D} (h : Vw d) : f_is_word [d] = .ret (.bl (wdD d)) [d] := by
  cases d with
  | tup ds =>
    obtain ⟨h1, h2⟩ := h
    have e := lcD_mapD (v := 1) (e := b_is_word_E1) (fun d => .bl (nmD d)) (ρ := [some (.fz (.tup ds)), none]) rfl ds (by
      intro d hd
      have q := is_name_ok (h1 d hd).1
      simp -implicitDefEqProofs [b_is_word_E1, q])
    have hl : (ds.map fun d => D.bl (nmD d)).length ≤ 1000000 := by rw [List.length_map]; omega
    have ea := all_map nmD ds
    generalize (ds.map fun d => D.bl (nmD d)) = L at e hl ea
    simp -implicitDefEqProofs [f_is_word, fnD, b_is_word, e, toLst_lst hl, ea, wdD]
  | str z => simp -implicitDefEqProofs [f_is_word, fnD, b_is_word, wdD]
  | non => simp -implicitDefEqProofs [f_is_word, fnD, b_is_word, wdD]
  | int i => simp -implicitDefEqProofs [f_is_word, fnD, b_is_word, wdD]
  | bl b => simp -implicitDefEqProofs [f_is_word, fnD, b_is_word, wdD]
  | lst xs => simp -implicitDefEqProofs [f_is_word, fnD, b_is_word, wdD]
  | dic t xs => simp -implicitDefEqProofs [f_is_word, fnD, b_is_word, wdD]
  | _ => exact h.elim
theorem law_is_word_ok {d : D} (h : Vw d) : f__law_is_word [d] = .ret (.bl (wdD d)) [d] := by
  cases d with
  | tup ds =>
    obtain ⟨h1, h2⟩ := h
    have e := lcD_filterD (v := 1) (e := dVar 1) (t := dNotT (dTru (dF0 f__law_is_name [] (dCons (dVar 1) dNil)))) id (fun d => !nmD d) (ρ := [some (.fz (.tup ds)), none]) rfl ds (by
      intro d hd
      have q := law_is_name_ok (h1 d hd).1
      exact ⟨by simp -implicitDefEqProofs [q], fun _ => by simp -implicitDefEqProofs⟩)
    rw [List.map_id] at e
    have hl : (ds.filter fun d => !nmD d).length ≤ 1000000 := Nat.le_trans (List.length_filter_le ..) (by omega)
    have ea := eq_nil (n := 5) (ds := ds.filter fun d => !nmD d) (fun d hd => (h1 d (List.mem_filter.mp hd).1).2) (by omega)
    rw [filter_isEmpty] at ea
    simp only [Bool.not_not] at ea
    have ew : wdD (.tup ds) = ds.all nmD := rfl
    rw [show (ds.all fun x => nmD x) = ds.all nmD from rfl, ← ew] at ea
    generalize (ds.filter fun d => !nmD d) = L at e hl ea
    simp -implicitDefEqProofs [f__law_is_word, fnD, b__law_is_word, e, toLst_lst hl, ea]
  | str z => simp -implicitDefEqProofs [f__law_is_word, fnD, b__law_is_word, wdD]
  | non => simp -implicitDefEqProofs [f__law_is_word, fnD, b__law_is_word, wdD]
  | int i => simp -implicitDefEqProofs [f__law_is_word, fnD, b__law_is_word, wdD]
  | bl b => simp -implicitDefEqProofs [f__law_is_word, fnD, b__law_is_word, wdD]
  | lst xs => simp -implicitDefEqProofs [f__law_is_word, fnD, b__law_is_word, wdD]
  | dic t xs => simp -implicitDefEqProofs [f__law_is_word, fnD, b__law_is_word, wdD]
  | _ => exact h.elim
theorem pys_strs : ∀ zs : List Str, pys (zs.map .str) = some (zs.map PyData.str)
  | [] => rfl
  | z :: zs => by
    show ((py (.str z)).bind fun p => (pys (zs.map .str)).map (p :: ·)) = _
    rw [pys_strs zs] <;> rfl
theorem alike_strs : ∀ a b : List Str, PySem.W.alikeAll (a.map PyData.str) (b.map PyData.str) = true
  | [], _ => by rw [List.map_nil, PySem.W.alikeAll]
  | _ :: _, [] => by rw [List.map_nil, List.map_cons, PySem.W.alikeAll]
  | x :: a, y :: b => by
    rw [List.map_cons, List.map_cons, PySem.W.alikeAll, alike_strs a b, PySem.W.alike] <;> rfl
theorem depth_strs : ∀ a : List Str, PyData.depthAll (a.map PyData.str) = 0
  | [] => by rw [List.map_nil, PyData.depthAll]
  | x :: a => by rw [List.map_cons, PyData.depthAll, depth_strs a, PyData.depth] <;> rfl
def plD (a : List Str) : PyData := .tuple [.int a.length, .tuple (a.map .str)]
def ltW (a b : List Str) : Bool := PySem.W.dataLt (plD a) (plD b)
theorem lt_words (a b : List Str) : ltTD (.tup [.int a.length, .tup (a.map .str)]) (.tup [.int b.length, .tup (b.map .str)]) = some (.bl (ltW a b)) := by
  have hp : ∀ a : List Str, py (.tup [.int a.length, .tup (a.map .str)]) = some (plD a) := fun a => by
    show (((py (.int a.length)).bind fun p => ((py (.tup (a.map .str))).bind fun p => (pys []).map (p :: ·)).map (p :: ·)).map PyData.tuple) = _
    rw [show py (.tup (a.map .str)) = (pys (a.map .str)).map PyData.tuple from rfl, pys_strs] <;> rfl
  have hd : (plD a).depth ≤ 60 := by
    unfold plD
    rw [PyData.depth, PyData.depthAll, PyData.depthAll, PyData.depthAll, PyData.depth, PyData.depth, depth_strs]
    decide
  unfold ltTD
  rw [hp a, hp b]
  show (if _ ∧ _ ∧ _ then _ else _) = _
  rw [if_pos ⟨by unfold plD; rw [PySem.W.alike, PySem.W.alikeAll, PySem.W.alike, PySem.W.alikeAll, PySem.W.alike, alike_strs, PySem.W.alikeAll] <;> rfl, rfl, Nat.le_trans (Nat.min_le_left _ _) hd⟩] <;> rfl
theorem place_tup {a : List Str} : f_place_of [.tup (a.map .str)] = .ret (.tup [.int a.length, .tup (a.map .str)]) [.tup (a.map .str)] := by
  simp -implicitDefEqProofs [f_place_of, fnD, b_place_of]
theorem place_lst {a : List Str} : f_place_of [.lst (a.map .str)] = .ret (.tup [.int a.length, .tup (a.map .str)]) [.lst (a.map .str)] := by
  simp -implicitDefEqProofs [f_place_of, fnD, b_place_of]
theorem before_tup (a b : List Str) : f_comes_before [.tup (a.map .str), .tup (b.map .str)] = .ret (.bl (ltW a b)) [.tup (a.map .str), .tup (b.map .str)] := by
  have := lt_words a b
  simp -implicitDefEqProofs [f_comes_before, fnD, b_comes_before, place_tup, this]
theorem before_lst (a b : List Str) : f_comes_before [.tup (a.map .str), .lst (b.map .str)] = .ret (.bl (ltW a b)) [.tup (a.map .str), .lst (b.map .str)] := by
  have := lt_words a b
  simp -implicitDefEqProofs [f_comes_before, fnD, b_comes_before, place_tup, place_lst, this]
theorem strs_map : ∀ zs : List Str, strsD (zs.map .str) = some zs
  | [] => rfl
  | z :: zs => by
    show ((some z).bind fun x => (strsD (zs.map .str)).map (x :: ·)) = _
    rw [strs_map zs] <;> rfl
/-- words of a text: at most m, each of at most 40 small signs -/
def Wds (m : Nat) (zs : List Str) : Prop := zs.length ≤ m ∧ ∀ z ∈ zs, Asc 40 z
theorem sum_le {m : Nat} : ∀ {zs : List Str}, (∀ z ∈ zs, Asc m z) → (zs.map (·.length)).sum ≤ m * zs.length
  | [], _ => Nat.zero_le _
  | z :: zs, h => by
    have h1 := (h z (List.mem_cons_self ..)).1
    have h2 := sum_le (zs := zs) fun y hy => h y (List.mem_cons_of_mem _ hy)
    rw [List.map_cons, List.sum_cons, List.length_cons, Nat.mul_succ]
    omega
theorem join_ok {m : Nat} {zs : List Str} (h : Wds m zs) (hm : m ≤ 1000) : joinD (.str " ") [.lst (zs.map .str)] = some (.str (Txt.join " " zs)) ∧ joinD (.str " ") [.tup (zs.map .str)] = some (.str (Txt.join " " zs)) := by
  have h1 := sum_le h.2
  have h2 := h.1
  have l1 : (" " : Str).length = 1 := by decide +kernel
  have hc : (zs.map (·.length)).sum + zs.length * (" " : Str).length ≤ 16777216 := by
    rw [l1]
    omega
  have e : ((strsD (zs.map .str)).bind fun ys => if (ys.map (·.length)).sum + ys.length * (" " : Str).length ≤ 16777216 then some (D.str (Txt.join " " ys)) else none) = some (.str (Txt.join " " zs)) := by
    rw [strs_map]
    exact if_pos hc
  exact ⟨e, e⟩
def wt (zs : List Str) : Str := if zs.isEmpty = true then "nothing pressed" else Txt.join " " zs
theorem join_np : joinD (.str " ") [.ktp [.str "nothing", .str "pressed"]] = some (.str "nothing pressed") := by
  have e : Txt.join " " ["nothing", "pressed"] = ("nothing pressed" : Str) := by decide +kernel
  show ((strsD [.str "nothing", .str "pressed"]).bind fun ys => if (ys.map (·.length)).sum + ys.length * (" " : Str).length ≤ 16777216 then some (D.str (Txt.join " " ys)) else none) = _
  rw [show strsD [.str "nothing", .str "pressed"] = some [("nothing" : Str), "pressed"] from rfl]
  have hb : ([("nothing" : Str), "pressed"].map (·.length)).sum + [("nothing" : Str), "pressed"].length * (" " : Str).length ≤ 16777216 := by decide +kernel
  rw [Option.bind_some, if_pos hb, e]
theorem word_text_ok {m : Nat} {zs : List Str} (h : Wds m zs) (hm : m ≤ 1000) : f_word_text [.tup (zs.map .str)] = .ret (.str (wt zs)) [.tup (zs.map .str)] ∧ f_word_text [.lst (zs.map .str)] = .ret (.str (wt zs)) [.lst (zs.map .str)] := by
  obtain ⟨j1, j2⟩ := join_ok h hm
  have j3 := join_np
  cases zs with
  | nil => exact ⟨by simp -implicitDefEqProofs [f_word_text, fnD, b_word_text, j3, wt], by simp -implicitDefEqProofs [f_word_text, fnD, b_word_text, j3, wt]⟩
  | cons z zs =>
    have hl : (0 : Int) < ((zs.length + 1 : Nat) : Int) := by omega
    rw [List.map_cons] at j1 j2
    exact ⟨by simp -implicitDefEqProofs [f_word_text, fnD, b_word_text, j1, j2, wt, hl], by simp -implicitDefEqProofs [f_word_text, fnD, b_word_text, j1, j2, wt, hl]⟩
/-! texts split -/
theorem join_mem (y : Str) : ∀ (ps : List Str) (p : Str), p ∈ ps → (∀ c ∈ p.cps.toList, c ∈ (Str.join y ps).cps.toList) ∧ p.length ≤ (Str.join y ps).length
  | [x], p, h => by
    rw [List.mem_singleton.mp h]
    exact ⟨fun c hc => hc, Nat.le_refl _⟩
  | x :: z :: r, p, h => by
    show (∀ c ∈ p.cps.toList, c ∈ (x ++ y ++ Str.join y (z :: r)).cps.toList) ∧ p.length ≤ (x ++ y ++ Str.join y (z :: r)).length
    rw [app_len, app_len, app_cps, app_cps]
    rcases List.mem_cons.mp h with rfl | h
    · exact ⟨fun c hc => List.mem_append_left _ (List.mem_append_left _ hc), by omega⟩
    · obtain ⟨h1, h2⟩ := join_mem y (z :: r) p h
      exact ⟨fun c hc => List.mem_append_right _ (h1 c hc), by omega⟩
theorem join_count {y : Str} (hy : y.length = 1) : ∀ ps : List Str, ps.length ≤ (Str.join y ps).length + 1
  | [] => Nat.zero_le _
  | [x] => Nat.succ_le_succ (Nat.zero_le _)
  | x :: z :: r => by
    have ih := join_count hy (z :: r)
    show (z :: r).length + 1 ≤ (x ++ y ++ Str.join y (z :: r)).length + 1
    rw [app_len, app_len, hy]
    omega
theorem split_ne (x y : Str) : Txt.split x y ≠ [] := by
  unfold Txt.split
  split
  · simp
  · split
    · simp
    · intro h
      have := congrArg List.length h
      rw [length_partsBetween] at this
      simp at this
theorem split_asc {n : Nat} {x y : Str} (h : Asc n x) : ∀ p ∈ Txt.split x y, Asc n p := fun p hp => by
  have e := StrLaws.join_split x y
  obtain ⟨h1, h2⟩ := join_mem y _ p hp
  rw [e] at h1 h2
  exact ⟨Nat.le_trans h2 h.1, fun c hc => h.2 c (h1 c hc)⟩
theorem split_count {n : Nat} {x y : Str} (h : Asc n x) (hy : y.length = 1) : (Txt.split x y).length ≤ n + 1 := by
  have e := join_count hy (Txt.split x y)
  rw [StrLaws.join_split] at e
  have := h.1
  omega
theorem split_ok {n : Nat} {x y : Str} (h : Asc n x) (hn : n ≤ 1000000) (hy : y.length = 1) : splitD (.str x) [.str y] = some (.lst ((Txt.split x y).map .str)) :=
  if_pos ⟨by rw [hy] <;> rfl, by have := h.1; omega⟩
theorem sp_len : (" " : Str).length = 1 := by decide +kernel
theorem nl_len : ("\n" : Str).length = 1 := by decide +kernel
/-- the place of the first that is no name, from 1 -/
def firstBad : Nat → List Str → Option Nat
  | _, [] => none
  | n, w :: ws => if nm w = true then firstBad (n + 1) ws else some (n + 1)
def lns (t : Str) : List Str := Txt.split t "\n"
def ws0 (t : Str) : List Str := Txt.split ((lns t).headD "") " "
def wrongAt (t : Str) : Option Nat := match firstBad 0 (ws0 t) with
  | some k => some k
  | none => if (lns t).length = 1 then none else some ((ws0 t).length + 1)
def wr (k : Nat) : D := .lst [.str "text", .int 1, .int k]
def wrD : Option Nat → D
  | some k => wr k
  | none => .non
theorem wrong_loop {t : D} {L W : D} : ∀ (ws : List Str) (n : Nat) (a3 a4 : Option Sl), (∀ w ∈ ws, Asc 100000 w) → ∃ b3 b4, forD (gT [gN 3, gN 4]) b__law_first_wrong_L1 (enumD n (ws.map .str)) [some (.fz t), some (.fz L), some (.fz W), a3, a4] =
    match firstBad n ws with
    | some k => .rt (wr k) [some (.fz t), some (.fz L), some (.fz W), b3, b4]
    | none => .nx [some (.fz t), some (.fz L), some (.fz W), b3, b4]
  | [], n, a3, a4, _ => ⟨a3, a4, rfl⟩
  | w :: ws, n, a3, a4, h => by
    have e := law_is_name_str (h w (List.mem_cons_self ..))
    show ∃ b3 b4, forD _ _ (.tup [.int n, .str w] :: enumD (n + 1) (ws.map .str)) _ = _
    unfold firstBad
    cases hw : nm w
    · refine ⟨some (.fz (.int n)), some (.fz (.str w)), ?_⟩
      rw [forD_cons]
      simp -implicitDefEqProofs [b__law_first_wrong_L1, e, hw, wr]
    · obtain ⟨b3, b4, ih⟩ := wrong_loop (t := t) (L := L) (W := W) ws (n + 1) (some (.fz (.int n))) (some (.fz (.str w))) fun x hx => h x (List.mem_cons_of_mem _ hx)
      refine ⟨b3, b4, ?_⟩
      rw [forD_cons]
      simp -implicitDefEqProofs [b__law_first_wrong_L1, e, hw]
      exact ih
theorem head_ok {xs : List D} {x : D} : subsD (.lst (x :: xs)) (.int 0) = some x := by
  show (atI (x :: xs) 0).or _ = _
  rw [show atI (x :: xs) 0 = some x from atI_nat (j := 0) rfl] <;> rfl
theorem first_wrong_ok {t : Str} (h : Asc 100000 t) : f__law_first_wrong [.str t] = .ret (wrD (wrongAt t)) [.str t] := by
  have s1 := split_ok h (by decide) nl_len
  obtain ⟨l0, ls, hl⟩ : ∃ l0 ls, lns t = l0 :: ls := by
    cases e : lns t with
    | nil => exact absurd e (split_ne _ _)
    | cons a b => exact ⟨a, b, rfl⟩
  have h0 : Asc 100000 l0 := split_asc h l0 (by show l0 ∈ lns t; rw [hl]; exact List.mem_cons_self ..)
  have s2 := split_ok h0 (by decide) sp_len
  have hw : ws0 t = Txt.split l0 " " := by
    unfold ws0
    rw [hl] <;> rfl
  rw [← hw] at s2
  have hx : ∀ w ∈ ws0 t, Asc 100000 w := fun w hw' => by
    rw [hw] at hw'
    exact split_asc h0 w hw'
  have h1 : subsD (.lst ((lns t).map .str)) (.int 0) = some (.str l0) := by
    rw [hl]
    exact head_ok
  change splitD (.str t) [.str "\n"] = some (.lst ((lns t).map .str)) at s1
  obtain ⟨b3, b4, e⟩ := wrong_loop (t := .str t) (L := .lst ((lns t).map .str)) (W := .lst ((ws0 t).map .str)) (ws0 t) 0 none none hx
  unfold wrongAt
  cases hb : firstBad 0 (ws0 t) with
  | some k =>
    rw [hb] at e
    simp -implicitDefEqProofs [f__law_first_wrong, fnD, b__law_first_wrong, s1, s2, h1, e, wrD]
  | none =>
    rw [hb] at e
    have c : (((lns t).length : Nat) : Int) = 1 ↔ (lns t).length = 1 := by omega
    by_cases hc : (lns t).length = 1
    · simp -implicitDefEqProofs [f__law_first_wrong, fnD, b__law_first_wrong, s1, s2, h1, e, wrD, hc]
    · simp -implicitDefEqProofs [f__law_first_wrong, fnD, b__law_first_wrong, s1, s2, h1, e, wrD, c, hc, wr]
/-! the reader -/
def rd (R : D) (a : Nat) : D := .ins "Reader" [("rows", R), ("line", .int 0), ("at", .int a)]
theorem rd_init (R : D) : f_Reader_init [.ins "Reader" [], R] = .ret .non [rd R 0, R] := by kernel_rfl
@[simp] theorem rd_rows (R : D) (a : Nat) : fldD ["Reader"] "rows" (rd R a) = some R := by kernel_rfl
@[simp] theorem rd_line (R : D) (a : Nat) : fldD ["Reader"] "line" (rd R a) = some (.int 0) := by kernel_rfl
@[simp] theorem rd_at (R : D) (a : Nat) : fldD ["Reader"] "at" (rd R a) = some (.int a) := by kernel_rfl
@[simp] theorem rd_ok1 (R : D) (a : Nat) : insOk "Reader" "seen" (rd R a) = true := by kernel_rfl
@[simp] theorem rd_ok2 (R : D) (a : Nat) : insOk "Reader" "refuse" (rd R a) = true := by kernel_rfl
@[simp] theorem rd_ok3 (R : D) (a : Nat) : insOk "Reader" "take" (rd R a) = true := by kernel_rfl
@[simp] theorem rd_ok4 (R : D) (a : Nat) : insOk "Reader" "goes_on" (rd R a) = true := by kernel_rfl
theorem rd_step (R : D) (a : Nat) (ρ : Rho) : sFldAdd 0 ["Reader"] "at" (dC (.int 1)) (some (.ow (rd R a)) :: ρ) = .nx (some (.ow (rd R (a + 1))) :: ρ) := by kernel_rfl
def sn (ws : List Str) (a : Nat) : D := match ws[a]? with
  | some w => .str w
  | none => .non
theorem subs_nat {xs : List D} {a : Nat} {x : D} (h : xs[a]? = some x) : subsD (.lst xs) (.int a) = some x := by
  show (atI xs (a : Int)).or _ = _
  rw [atI_nat h] <;> rfl
theorem seen_ok (ws : List Str) (rest : List D) (a : Nat) : f_Reader_seen [rd (.lst (.lst (ws.map .str) :: rest)) a] = .ret (sn ws a) [rd (.lst (.lst (ws.map .str) :: rest)) a] := by
  have h0 : subsD (.lst (.lst (ws.map .str) :: rest)) (.int 0) = some (.lst (ws.map .str)) := head_ok
  by_cases ha : a < ws.length
  · have h1 : subsD (.lst (ws.map .str)) (.int a) = some (.str ws[a]) := subs_nat (by simp [ha])
    simp -implicitDefEqProofs [f_Reader_seen, fnD, b_Reader_seen, h0, h1, sn, ha]
  · simp -implicitDefEqProofs [f_Reader_seen, fnD, b_Reader_seen, h0, sn, ha]
def bt (k : Nat) : List (Str × D) := [("word", .int k), ("line", .int 1)]
theorem refuse_ok (R : D) (a : Nat) : f_Reader_refuse [rd R a] = .err "BadText" (bt (a + 1)) [rd R a] := by
  simp -implicitDefEqProofs [f_Reader_refuse, fnD, b_Reader_refuse, bt]
@[simp] theorem is_non_str (z : Str) : isD (.str z) .non = some (.bl false) := rfl
@[simp] theorem is_non_non : isD .non .non = some (.bl true) := rfl
@[simp] theorem isn_non_str (z : Str) : isNotD (.str z) .non = some (.bl true) := rfl
@[simp] theorem isn_non_non : isNotD .non .non = some (.bl false) := rfl
theorem pick_isn : pickF [("is_name", f_is_name)] "is_name" = some f_is_name := by kernel_rfl
theorem take_ok (ws : List Str) (rest : List D) (a : Nat) (h : ∀ w ∈ ws, Asc 100000 w) : f_Reader_take [rd (.lst (.lst (ws.map .str) :: rest)) a, .fn "is_name"] =
    match ws[a]? with
    | some w => if nm w = true then .ret (.str w) [rd (.lst (.lst (ws.map .str) :: rest)) (a + 1), .fn "is_name"] else .err "BadText" (bt (a + 1)) [rd (.lst (.lst (ws.map .str) :: rest)) a, .fn "is_name"]
    | none => .err "BadText" (bt (a + 1)) [rd (.lst (.lst (ws.map .str) :: rest)) a, .fn "is_name"] := by
  have e1 := seen_ok ws rest a
  have e2 := refuse_ok (.lst (.lst (ws.map .str) :: rest)) a
  have e3 := pick_isn
  cases hw : ws[a]? with
  | none =>
    simp only [sn, hw] at e1
    simp -implicitDefEqProofs [f_Reader_take, fnD, b_Reader_take, e1, e2]
  | some w =>
    simp only [sn, hw] at e1
    have e4 := is_name_str (h w (List.mem_of_getElem? hw))
    cases hn : nm w
    · simp -implicitDefEqProofs [f_Reader_take, fnD, b_Reader_take, e1, e2, e3, e4, hn]
    · simp -implicitDefEqProofs [f_Reader_take, fnD, b_Reader_take, e1, e2, e3, e4, hn, ↓rd_step]
theorem goes_ok (ws : List Str) (rest : List D) : f_Reader_goes_on [rd (.lst (.lst (ws.map .str) :: rest)) ws.length, .bl true, .bl false] =
    if rest.length = 0 then .ret (.bl false) [rd (.lst (.lst (ws.map .str) :: rest)) ws.length, .bl true, .bl false] else .err "BadText" (bt (ws.length + 1)) [rd (.lst (.lst (ws.map .str) :: rest)) ws.length, .bl true, .bl false] := by
  have e1 := seen_ok ws rest ws.length
  have e2 := refuse_ok (.lst (.lst (ws.map .str) :: rest)) ws.length
  simp only [sn, List.getElem?_eq_none (Nat.le_refl ws.length)] at e1
  by_cases hr : rest.length = 0
  · have h1 : ((rest.length : Int) + 1) = 1 := by omega
    simp -implicitDefEqProofs [f_Reader_goes_on, fnD, b_Reader_goes_on, e1, hr]
  · have h1 : ¬ (1 : Int) = ((rest.length : Int) + 1) := by omega
    simp -implicitDefEqProofs [f_Reader_goes_on, fnD, b_Reader_goes_on, e1, e2, hr, h1]
/-! word_read -/
theorem eqv_strs : ∀ a b : List Str, PyData.eqvAll (a.map .str) (b.map .str) = decide (a = b)
  | [], [] => by rw [List.map_nil, PyData.eqvAll] <;> rfl
  | [], y :: b => by rw [List.map_nil, List.map_cons, PyData.eqvAll] <;> rfl
  | x :: a, [] => by rw [List.map_nil, List.map_cons, PyData.eqvAll] <;> rfl
  | x :: a, y :: b => by
    rw [List.map_cons, List.map_cons, PyData.eqvAll, eqv_strs a b, PyData.eqv, show (x == y) = decide (x = y) from rfl, ← Bool.decide_and]
    refine decide_eq_decide.mpr ?_
    rw [List.cons.injEq]
theorem dt_strs {n : Nat} {zs : List Str} (h : ∀ z ∈ zs, Asc n z) : Dt 1 (.tup (zs.map .str)) (.tuple (zs.map .str)) ∧ Dt 1 (.lst (zs.map .str)) (.list (zs.map .str)) ∧ Dt 1 (.ktp (zs.map .str)) (.tuple (zs.map .str)) := by
  obtain ⟨ps, h1, h2, h3⟩ := dt_tup (n := 0) (ds := zs.map .str) fun d hd => by
    obtain ⟨z, hz, rfl⟩ := List.mem_map.mp hd
    exact ⟨_, dt_str (h z hz)⟩
  obtain ⟨qs, g1, g2, g3⟩ := dt_lst (n := 0) (ds := zs.map .str) fun d hd => by
    obtain ⟨z, hz, rfl⟩ := List.mem_map.mp hd
    exact ⟨_, dt_str (h z hz)⟩
  rw [pys_strs] at h1 g1
  obtain rfl := Option.some.inj h1
  obtain rfl := Option.some.inj g1
  refine ⟨h3, g3, ?_, h3.2⟩
  show (pys (zs.map .str)).map PyData.tuple = _
  rw [pys_strs] <;> rfl
def NP : List Str := ["nothing", "pressed"]
theorem np_asc : ∀ z ∈ NP, Asc 40 z := by
  intro z hz
  have : Asc 40 ("nothing" : Str) ∧ Asc 40 ("pressed" : Str) := ⟨⟨by decide +kernel, by decide +kernel⟩, ⟨by decide +kernel, by decide +kernel⟩⟩
  rcases List.mem_cons.mp hz with rfl | hz
  · exact this.1
  · rw [List.mem_singleton.mp hz]
    exact this.2
theorem eq_np {n : Nat} {zs : List Str} (h : ∀ z ∈ zs, Asc n z) : eqD (.tup (zs.map .str)) (.ktp [.str "nothing", .str "pressed"]) = some (.bl (decide (zs = NP))) := by
  show (((none : Option Bool).or (eqP (.tup (zs.map .str)) (.ktp (NP.map .str)))).map D.bl) = _
  rw [eqP_dt (dt_strs h).1 (dt_strs np_asc).2.2 (by decide) (by decide), PyData.eqv, eqv_strs] <;> rfl
theorem eq_npL {n : Nat} {zs : List Str} (h : ∀ z ∈ zs, Asc n z) : eqD (.lst (zs.map .str)) (.lst [.str "nothing", .str "pressed"]) = some (.bl (decide (zs = NP))) := by
  show (((none : Option Bool).or (eqP (.lst (zs.map .str)) (.lst (NP.map .str)))).map D.bl) = _
  rw [eqP_dt (dt_strs h).2.1 (dt_strs np_asc).2.1 (by decide) (by decide), PyData.eqv, eqv_strs] <;> rfl
def rdW (zs : List Str) : List Str := if zs = NP then [] else zs
theorem whD_succ (t : Rho → Ro Bool) (body : Rho → So) (n : Nat) (ρ : Rho) : whD t body (n + 1) ρ = (t ρ).then fun b ρ1 => if b = true then (body ρ1).turn fun ρ2 => whD t body n ρ2 else .nx ρ1 := rfl
def rdT : Rho → Ro Bool := dB (dOp isNotD (dMthO 1 "Reader" "seen" f_Reader_seen [] [] dNil) (dC .non))
theorem read_loop (t : D) (ws : List Str) (rest : List D) (hw : ∀ w ∈ ws, Asc 100000 w) (hl : ws.length ≤ 200000) : ∀ (n a : Nat), a ≤ ws.length → ws.length - a < n →
    match firstBad a (ws.drop a) with
    | some k => ∃ b1 b2, whD rdT b_word_read_L1 n [some (.fz t), some (.ow (rd (.lst (.lst (ws.map .str) :: rest)) a)), some (.ow (.lst ((ws.take a).map .str)))] = .err "BadText" (bt k) [some (.fz t), b1, b2]
    | none => whD rdT b_word_read_L1 n [some (.fz t), some (.ow (rd (.lst (.lst (ws.map .str) :: rest)) a)), some (.ow (.lst ((ws.take a).map .str)))] = .nx [some (.fz t), some (.ow (rd (.lst (.lst (ws.map .str) :: rest)) ws.length)), some (.ow (.lst (ws.map .str)))]
  | 0, _, _, h => by omega
  | n + 1, a, ha, hn => by
    have e1 := seen_ok ws rest a
    have e2 := take_ok ws rest a hw
    by_cases hlt : a < ws.length
    · have hg : ws[a]? = some ws[a] := List.getElem?_eq_getElem hlt
      have hd : ws.drop a = ws[a] :: ws.drop (a + 1) := List.drop_eq_getElem_cons hlt
      have ht : ws.take (a + 1) = ws.take a ++ [ws[a]] := List.take_succ_eq_append_getElem hlt
      simp only [sn, hg] at e1
      rw [hg] at e2
      dsimp only at e2
      generalize ws[a] = w at e1 e2 hd ht hg
      rw [hd, firstBad, whD_succ]
      have e3 := app_lst (xs := (ws.take a).map .str) (d := .str w) (by rw [List.length_map, List.length_take]; omega)
      have ih := read_loop t ws rest hw hl n (a + 1) hlt (by omega)
      rw [ht, List.map_append, show [w].map D.str = [.str w] from rfl] at ih
      generalize (ws.take a).map D.str = F at e3 ih ⊢
      generalize D.lst (.lst (ws.map .str) :: rest) = R at e1 e2 ih ⊢
      cases hm : nm w
      · rw [hm] at e2
        refine ⟨some (.ow (rd R a)), some (.ow (.lst F)), ?_⟩
        simp -implicitDefEqProofs [rdT, b_word_read_L1, e1, e2]
      · rw [hm] at e2
        have hstep : (rdT [some (.fz t), some (.ow (rd R a)), some (.ow (.lst F))]).then (fun b ρ1 => if b = true then (b_word_read_L1 ρ1).turn fun ρ2 => whD rdT b_word_read_L1 n ρ2 else .nx ρ1) = whD rdT b_word_read_L1 n [some (.fz t), some (.ow (rd R (a + 1))), some (.ow (.lst (F ++ [.str w])))] := by
          have r1 : rdT [some (.fz t), some (.ow (rd R a)), some (.ow (.lst F))] = .ok true [some (.fz t), some (.ow (rd R a)), some (.ow (.lst F))] := by
            simp -implicitDefEqProofs [rdT, e1]
          have r2 : b_word_read_L1 [some (.fz t), some (.ow (rd R a)), some (.ow (.lst F))] = .nx [some (.fz t), some (.ow (rd R (a + 1))), some (.ow (.lst (F ++ [.str w])))] := by
            simp -implicitDefEqProofs [b_word_read_L1, e2, e3]
          rw [r1, Ro.then_ok, if_pos rfl, r2, So.turn_nx]
        simp only [if_true]
        rw [hstep]
        exact ih
    · have he : a = ws.length := by omega
      subst he
      simp only [sn, List.getElem?_eq_none (Nat.le_refl ws.length)] at e1
      rw [List.drop_length, firstBad, whD_succ, List.take_length]
      simp -implicitDefEqProofs [rdT, e1]
theorem rows_ok {t : Str} (h : Asc 100000 t) : f_rows_of [.str t] = .ret (.lst ((lns t).map fun l => .lst ((Txt.split l " ").map .str))) [.str t] := by
  have s1 := split_ok h (by decide) nl_len
  change splitD (.str t) [.str "\n"] = some (.lst ((lns t).map .str)) at s1
  have e := lcD_map (v := 1) (e := b_rows_of_E1) D.str (fun l => D.lst ((Txt.split l " ").map .str)) (ρ := [some (.fz (.str t)), none]) rfl (lns t) (by
    intro l hl
    have h0 : Asc 100000 l := split_asc h l hl
    have s2 := split_ok h0 (by decide) sp_len
    simp -implicitDefEqProofs [b_rows_of_E1, s2])
  have hc : ((lns t).map fun l => D.lst ((Txt.split l " ").map .str)).length ≤ 1000000 := by
    rw [List.length_map]
    exact Nat.le_trans (split_count h nl_len) (by decide)
  generalize ((lns t).map fun l => D.lst ((Txt.split l " ").map .str)) = L at e hc
  simp -implicitDefEqProofs [f_rows_of, fnD, b_rows_of, s1, e, toLst_lst hc]
theorem word_read_ok {t : Str} (h : Asc 100000 t) : f_word_read [.str t] = match wrongAt t with
    | some k => .err "BadText" (bt k) [.str t]
    | none => .ret (.tup ((rdW (ws0 t)).map .str)) [.str t] := by
  have e0 := rows_ok h
  obtain ⟨l0, ls, hl⟩ : ∃ l0 ls, lns t = l0 :: ls := by
    cases e : lns t with
    | nil => exact absurd e (split_ne _ _)
    | cons a b => exact ⟨a, b, rfl⟩
  have h0 : Asc 100000 l0 := split_asc h l0 (by show l0 ∈ lns t; rw [hl]; exact List.mem_cons_self ..)
  have hw : ws0 t = Txt.split l0 " " := by
    unfold ws0
    rw [hl] <;> rfl
  have hx : ∀ w ∈ ws0 t, Asc 100000 w := fun w hw' => by
    rw [hw] at hw'
    exact split_asc h0 w hw'
  have hn : (ws0 t).length ≤ 200000 := by
    rw [hw]
    exact Nat.le_trans (split_count h0 sp_len) (by decide)
  rw [hl, List.map_cons, ← hw] at e0
  generalize hr : ls.map (fun l => D.lst ((Txt.split l " ").map .str)) = rest at e0
  have hrl : rest.length = ls.length := by rw [← hr, List.length_map]
  have e1 := rd_init (.lst (.lst ((ws0 t).map .str) :: rest))
  have e2 := take_ok (ws0 t) rest 0 hx
  have e3 := read_loop (.str t) (ws0 t) rest hx hn fuel 1
  have e4 := goes_ok (ws0 t) rest
  have e5 := eq_np hx
  have hne : ws0 t ≠ [] := by rw [hw]; exact split_ne _ _
  have hlen : (lns t).length = rest.length + 1 := by rw [hl, hrl] <;> rfl
  unfold wrongAt
  rw [hlen]
  generalize ws0 t = ws at *
  generalize D.lst (.lst (ws.map .str) :: rest) = R at e0 e1 e2 e3 e4
  generalize hF : ws.map D.str = F at e3 e5
  cases ws with
  | nil => exact absurd rfl hne
  | cons w0 wt =>
    rw [List.getElem?_cons_zero] at e2
    dsimp only at e2
    rw [firstBad]
    cases hm : nm w0
    · rw [hm] at e2
      simp -implicitDefEqProofs [f_word_read, fnD, b_word_read, e0, e1, FO.mk, e2]
    · rw [hm] at e2
      have e3 := e3 (by rw [List.length_cons]; omega) (by unfold fuel; rw [List.length_cons] at hn ⊢; omega)
      rw [show (w0 :: wt).drop 1 = wt from rfl, show ((w0 :: wt).take 1).map D.str = [.str w0] from rfl] at e3
      simp only [if_true] at e2 ⊢
      rw [rdT] at e3
      simp only [Nat.zero_add] at e2 ⊢
      cases hb : firstBad 1 wt with
      | some k =>
        rw [hb] at e3
        obtain ⟨b1, b2, e3⟩ := e3
        simp -implicitDefEqProofs [f_word_read, fnD, b_word_read, e0, e1, FO.mk, e2, ↓e3]
      | none =>
        rw [hb] at e3
        by_cases hz : rest.length = 0
        · rw [if_pos hz] at e4
          generalize (w0 :: wt).length = N at e3 e4 ⊢
          simp only [hz, if_true, Nat.zero_add]
          by_cases hp : w0 :: wt = NP
          · rw [show rdW (w0 :: wt) = [] from if_pos hp]
            rw [decide_eq_true hp] at e5
            simp -implicitDefEqProofs [f_word_read, fnD, b_word_read, e0, e1, FO.mk, e2, ↓e3, e4, e5]
          · rw [show rdW (w0 :: wt) = w0 :: wt from if_neg hp, hF]
            rw [decide_eq_false hp] at e5
            simp -implicitDefEqProofs [f_word_read, fnD, b_word_read, e0, e1, FO.mk, e2, ↓e3, e4, e5]
        · rw [if_neg hz] at e4
          generalize (w0 :: wt).length = N at e3 e4 ⊢
          simp -implicitDefEqProofs [f_word_read, fnD, b_word_read, e0, e1, FO.mk, e2, ↓e3, e4, hz]
end G

set_option Elab.async false
set_option linter.all false
set_option maxRecDepth 100000
set_option maxHeartbeats 2000000
namespace G
open PySem PySem.Spec L2 VL
/-! the law's names -/
theorem lc_iff {c : Nat} : lc c = true ↔ 97 ≤ c ∧ c ≤ 122 := by
  unfold lc
  rw [Bool.and_eq_true, decide_eq_true_eq, decide_eq_true_eq]
theorem fg_iff {c : Nat} : fg c = true ↔ 48 ≤ c ∧ c ≤ 57 := by
  unfold fg
  rw [Bool.and_eq_true, decide_eq_true_eq, decide_eq_true_eq]
/-- a name as the law draws it -/
structure Nm (z : Str) : Prop where
  asc : Asc 9 z
  nm : nm z = true
  ch : ∀ c ∈ z.cps.toList, lc c = true ∨ fg c = true
  dg : ∃ c ∈ z.cps.toList, fg c = true
theorem NmI.to {i : Nat} {z : Str} (h : NmI i z) (hi : i < 10) : Nm z := by
  obtain ⟨a, b, e, ha, hl, h1, h2⟩ := h.ex
  have hf : fg (48 + i) = true := fg_iff.mpr ⟨by omega, by omega⟩
  have hch : ∀ c ∈ z.cps.toList, lc c = true ∨ fg c = true := fun c hc => by
    rw [e] at hc
    rcases List.mem_append.mp hc with hc | hc
    · exact .inl (h1 c hc)
    · rcases List.mem_cons.mp hc with rfl | hc
      · exact .inr hf
      · exact .inl (h2 c hc)
  have hlen : z.length = a.length + b.length + 1 := by
    show z.cps.toList.length = _
    rw [e, List.length_append, List.length_cons]
    omega
  have hpos : 0 < a.length := List.length_pos_iff.mpr ha
  refine ⟨⟨by omega, fun c hc => ?_⟩, ?_, hch, 48 + i, by rw [e]; exact List.mem_append_right _ (List.mem_cons_self ..), hf⟩
  · rcases hch c hc with h | h
    · have := lc_iff.mp h
      omega
    · have := fg_iff.mp h
      omega
  · unfold G.nm
    have h3 : hd1 z.cps.toList = true := by
      rw [e]
      cases a with
      | nil => exact absurd rfl ha
      | cons x a => exact h1 x (List.mem_cons_self ..)
    have h4 : (z.cps.toList.all fun c => lc c || fg c) = true := List.all_eq_true.mpr fun c hc => by
      rcases hch c hc with h | h <;> simp [h]
    rw [h3, h4, decide_eq_true (show 1 ≤ z.length by omega), decide_eq_true (show z.length ≤ 12 by omega)] <;> rfl
theorem Nm.free {z : Str} (h : Nm z) {s : Nat} (hs : s < 48) : s ∉ z.cps.toList := fun hc => by
  rcases h.ch s hc with h | h
  · have := lc_iff.mp h
    omega
  · have := fg_iff.mp h
    omega
theorem np_no : ¬ Nm ("nothing" : Str) := fun h => by
  obtain ⟨c, hc, hf⟩ := h.dg
  have e : ("nothing" : Str).cps.toList = [110, 111, 116, 104, 105, 110, 103] := by decide +kernel
  rw [e] at hc
  have := fg_iff.mp hf
  simp only [List.mem_cons, List.not_mem_nil, or_false] at hc
  omega
theorem first_none {n : Nat} : ∀ {zs : List Str}, (∀ z ∈ zs, nm z = true) → firstBad n zs = none
  | [], _ => rfl
  | z :: zs, h => by
    rw [firstBad, if_pos (h z (List.mem_cons_self ..))]
    exact first_none fun y hy => h y (List.mem_cons_of_mem _ hy)
theorem split_one {x y : Str} (h : (Txt.split x y).length = 1) : Txt.split x y = [x] := by
  have e := StrLaws.join_split x y
  cases hs : Txt.split x y with
  | nil => rw [hs] at h; simp at h
  | cons a r =>
    rw [hs] at h e
    have hr : r = [] := by
      rw [List.length_cons] at h
      exact List.length_eq_zero_iff.mp (by omega)
    subst hr
    rw [show a = x from e]
theorem sp_join {zs : List Str} (hne : zs ≠ []) (h : ∀ z ∈ zs, 32 ∉ z.cps.toList) : Txt.split (Txt.join " " zs) " " = zs :=
  TL.split_join (y := " ") (s := 32) (S := []) (by decide +kernel) (by decide +kernel) hne h
theorem join_free {s : Nat} (hs : s ≠ 32) : ∀ {zs : List Str}, (∀ z ∈ zs, s ∉ z.cps.toList) → s ∉ (Str.join " " zs).cps.toList
  | [], _ => by
    show s ∉ (#[] : Array Nat).toList
    simp
  | [z], h => h z (List.mem_singleton.mpr rfl)
  | x :: y :: r, h => by
    show s ∉ (x ++ (" " : Str) ++ Str.join " " (y :: r)).cps.toList
    rw [app_cps, app_cps]
    have ih := join_free hs (zs := y :: r) fun z hz => h z (List.mem_cons_of_mem _ hz)
    have e : (" " : Str).cps.toList = [32] := by decide +kernel
    rw [e]
    intro hm
    rcases List.mem_append.mp hm with hm | hm
    · rcases List.mem_append.mp hm with hm | hm
      · exact h x (List.mem_cons_self ..) hm
      · exact hs (List.mem_singleton.mp hm)
    · exact ih hm
theorem nl_free {t : Str} (h : 10 ∉ t.cps.toList) : lns t = [t] := by
  have r := TL.split_join (y := "\n") (s := 10) (S := []) (by decide +kernel) (by decide +kernel) (parts := [t]) (by simp) (by
    intro p hp
    rw [List.mem_singleton.mp hp]
    exact h)
  rw [TL.join_eq] at r
  exact r
theorem ws0_one {t : Str} (h : lns t = [t]) : ws0 t = Txt.split t " " := by
  unfold ws0
  rw [h] <;> rfl
/-- the text of a drawn word -/
theorem wt_read {zs : List Str} (h : ∀ z ∈ zs, Nm z) : wrongAt (wt zs) = none ∧ rdW (ws0 (wt zs)) = zs := by
  cases zs with
  | nil =>
    have e0 : wt [] = ("nothing pressed" : Str) := rfl
    rw [e0]
    have e1 : lns ("nothing pressed" : Str) = [("nothing pressed" : Str)] := nl_free (t := "nothing pressed") (by decide +kernel)
    have e2 : ws0 ("nothing pressed" : Str) = NP := by
      rw [ws0_one e1]
      have e3 : Txt.join " " NP = ("nothing pressed" : Str) := by decide +kernel
      rw [← e3]
      exact sp_join (by unfold NP; simp) (by decide +kernel)
    have e4 : firstBad 0 NP = none := first_none (by decide +kernel)
    unfold wrongAt
    rw [e2, e4, e1]
    exact ⟨rfl, if_pos rfl⟩
  | cons z zs =>
    have e0 : wt (z :: zs) = Txt.join " " (z :: zs) := rfl
    rw [e0]
    have e1 := nl_free (t := Txt.join " " (z :: zs)) (by rw [TL.join_eq]; exact join_free (by decide) fun y hy => (h y hy).free (by decide))
    have e2 : ws0 (Txt.join " " (z :: zs)) = z :: zs := by
      rw [ws0_one e1]
      exact sp_join (by simp) fun y hy => (h y hy).free (by decide)
    have e4 : firstBad 0 (z :: zs) = none := first_none fun y hy => (h y hy).nm
    unfold wrongAt
    rw [e2, e4, e1]
    refine ⟨rfl, if_neg fun e => ?_⟩
    obtain ⟨rfl, _⟩ := List.cons.inj e
    exact np_no (h _ (List.mem_cons_self ..))
/-- the text of bent words, if it is right -/
theorem bent_read {ws : List Str} (h : ∀ w ∈ ws, 32 ∉ w.cps.toList) (hn : wrongAt (Txt.join " " ws) = none) : ws0 (Txt.join " " ws) = ws := by
  have h1 : (lns (Txt.join " " ws)).length = 1 := by
    unfold wrongAt at hn
    cases hb : firstBad 0 (ws0 (Txt.join " " ws)) with
    | some k => rw [hb] at hn; cases hn
    | none =>
      rw [hb] at hn
      by_cases hc : (lns (Txt.join " " ws)).length = 1
      · exact hc
      · dsimp only at hn
        rw [if_neg hc] at hn
        cases hn
  have e1 : lns (Txt.join " " ws) = [Txt.join " " ws] := split_one h1
  rw [ws0_one e1]
  cases ws with
  | nil =>
    have e2 : wrongAt (Txt.join " " []) = some 1 := by decide +kernel
    rw [e2] at hn
    cases hn
  | cons w ws => exact sp_join (by simp) h
/-! repr -/
theorem shown_strs {n : Nat} : ∀ {zs : List Str}, (∀ z ∈ zs, Asc n z) → ((PyData.shownAll (zs.map .str)).map (·.length)).sum ≤ (10 * n + 2) * zs.length ∧ (PyData.shownAll (zs.map .str)).length = zs.length
  | [], _ => by rw [List.map_nil, PyData.shownAll]; exact ⟨Nat.zero_le _, rfl⟩
  | z :: zs, h => by
    obtain ⟨h1, h2⟩ := shown_strs (zs := zs) fun y hy => h y (List.mem_cons_of_mem _ hy)
    have hz := h z (List.mem_cons_self ..)
    have h3 := StrLaws.reprText_len z fun c hc => Nat.lt_trans (hz.2 c hc) (by decide)
    have h4 := hz.1
    rw [List.map_cons, PyData.shownAll, PyData.shown, List.map_cons, List.sum_cons, List.length_cons, List.length_cons, Nat.mul_succ]
    exact ⟨by omega, by omega⟩
theorem showable_strs : ∀ zs : List Str, PyData.showableAll (zs.map .str) = true ∧ PyData.hasDictAll (zs.map .str) = false
  | [] => by rw [List.map_nil, PyData.showableAll, PyData.hasDictAll]; exact ⟨rfl, rfl⟩
  | z :: zs => by
    obtain ⟨h1, h2⟩ := showable_strs zs
    rw [List.map_cons, PyData.showableAll, PyData.hasDictAll, h1, h2, PyData.showable, PyData.hasDict]
    exact ⟨rfl, rfl⟩
theorem repr_ok {m : Nat} {zs : List Str} (h : Wds m zs) (hm : m ≤ 1000) : ∃ s, reprD (.tup (zs.map .str)) = some (.str s) := by
  obtain ⟨h1, h2⟩ := shown_strs h.2
  obtain ⟨h3, h4⟩ := showable_strs zs
  have h5 := h.1
  refine ⟨(PyData.tuple (zs.map .str)).shown, ?_⟩
  unfold reprD
  rw [if_pos (show isSeqD (.tup (zs.map .str)) = true from rfl), show py (.tup (zs.map .str)) = (pys (zs.map .str)).map PyData.tuple from rfl, pys_strs]
  refine if_pos ⟨by rw [PyData.showable]; exact h3, by rw [PyData.hasDict]; exact h4, by rw [PyData.depth, depth_strs]; decide, ?_⟩
  rw [PyData.shown]
  have := tupleText_len_le (PyData.shownAll (zs.map .str))
  omega
/-! odd names, bent words, why -/
def Od (d : D) : Prop := (∃ z, d = .str z ∧ Asc 40 z) ∨ d = .non ∨ (∃ i, d = .int i) ∨ (∃ b, d = .bl b) ∨ (∃ z, Asc 40 z ∧ d = .tup [.str z]) ∨ ∃ z, Asc 40 z ∧ d = .lst [.str z]
theorem Od.vd {d : D} (h : Od d) : Vd d := by
  rcases h with ⟨z, rfl, hz⟩ | rfl | ⟨i, rfl⟩ | ⟨b, rfl⟩ | ⟨z, hz, rfl⟩ | ⟨z, hz, rfl⟩
  · exact hz.le (by decide)
  all_goals exact True.intro
theorem Od.dt {d : D} (h : Od d) : ∃ p, Dt 5 d p := by
  have up : ∀ {n : Nat} {d : D} {p : PyData}, Dt n d p → n ≤ 5 → Dt 5 d p := fun h e => ⟨h.1, h.2.1, Nat.le_trans h.2.2 e⟩
  rcases h with ⟨z, rfl, hz⟩ | rfl | ⟨i, rfl⟩ | ⟨b, rfl⟩ | ⟨z, hz, rfl⟩ | ⟨z, hz, rfl⟩
  · exact ⟨_, up (dt_str hz) (by decide)⟩
  · exact ⟨_, up dt_non (by decide)⟩
  · exact ⟨_, up (dt_int i) (by decide)⟩
  · exact ⟨_, up (dt_bl b) (by decide)⟩
  · exact ⟨_, up (dt_strs (zs := [z]) (fun y hy => by rw [List.mem_singleton.mp hy]; exact hz)).1 (by decide)⟩
  · exact ⟨_, up (dt_strs (zs := [z]) (fun y hy => by rw [List.mem_singleton.mp hy]; exact hz)).2.1 (by decide)⟩
theorem asc_app {n m : Nat} {a b : Str} (ha : Asc n a) (hb : Asc m b) : Asc (n + m) (a ++ b) := ⟨by rw [app_len]; exact Nat.add_le_add ha.1 hb.1, fun c hc => by
  rw [app_cps] at hc
  rcases List.mem_append.mp hc with hc | hc
  · exact ha.2 c hc
  · exact hb.2 c hc⟩
theorem asc_cut {n : Nat} {a : Str} (ha : Asc n a) {v : Int} (h0 : 0 ≤ v) : Asc n (cutS a none (some v)) := by
  have e := cut_to (z := a) h0
  refine ⟨?_, fun c hc => ha.2 c (List.mem_of_mem_take (e ▸ hc))⟩
  show (cutS a none (some v)).cps.toList.length ≤ n
  rw [e, List.length_take]
  have : a.cps.toList.length ≤ n := ha.1
  omega
theorem up_small : ∀ c : Fin 128, ∀ d ∈ Unicode.upperOf c.val, d < 128 := by decide +kernel
theorem asc_upper {n : Nat} {a : Str} (ha : Asc n a) : Asc (3 * n) (Txt.upper a) := by
  refine ⟨Nat.le_trans (PyProof.Rows.len_upper a) (Nat.mul_le_mul_left 3 ha.1), fun c hc => ?_⟩
  have hc' : c ∈ (a.cps.mapIdx fun _ c => (Unicode.upperOf c).toArray).flatten := Array.mem_toList_iff.mp hc
  obtain ⟨xs, h1, h2⟩ := Array.mem_flatten.mp hc'
  obtain ⟨i, hi, rfl⟩ := Array.mem_mapIdx.mp h1
  have h3 : a.cps[i] < 128 := ha.2 _ (Array.mem_toList_iff.mpr (Array.getElem_mem hi))
  exact up_small ⟨_, h3⟩ c (List.mem_toArray.mp h2)
theorem odd_name_ok {k : Nat} {p : Pen} {z : Str} (h : PenOk (k + 1) p) (hz : Asc 12 z) : ∃ d p', f__law_odd_name [penD p, .str z] = .ret d [penD p', .str z] ∧ Od d ∧ PenOk k p' := by
  have hl := hz.1
  have a1 : Asc 1 ("1" : Str) := ⟨by decide +kernel, by decide +kernel⟩
  have a2 : Asc 12 ("abcdefghijkl" : Str) := ⟨by decide +kernel, by decide +kernel⟩
  have a3 : Asc 1 ("_" : Str) := ⟨by decide +kernel, by decide +kernel⟩
  have a4 : Asc 2 (" b" : Str) := ⟨by decide +kernel, by decide +kernel⟩
  have a5 : Asc 1 ("\n" : Str) := ⟨by decide +kernel, by decide +kernel⟩
  have a6 : Asc 1 ("" : Str) := ⟨by decide +kernel, by decide +kernel⟩
  have a7 : Asc 1 (" " : Str) := ⟨by decide +kernel, by decide +kernel⟩
  have a8 : Asc 1 ("-" : Str) := ⟨by decide +kernel, by decide +kernel⟩
  have a9 : Asc 1 ("." : Str) := ⟨by decide +kernel, by decide +kernel⟩
  have c8 := asc_cut hz (v := 8) (by decide)
  have c4 := asc_cut hz (v := 4) (by decide)
  have c3 := asc_cut hz (v := 3) (by decide)
  have c5 := asc_cut hz (v := 5) (by decide)
  have s8 := sl_str (z := z) none (some 8) (by omega)
  have s4 := sl_str (z := z) none (some 4) (by omega)
  have s3 := sl_str (z := z) none (some 3) (by omega)
  have s5 := sl_str (z := z) none (some 5) (by omega)
  have ad : ∀ {n m : Nat} {a b : Str}, Asc n a → Asc m b → n + m ≤ 100 → addD (.str a) (.str b) = some (.str (a ++ b)) := fun ha hb hn => add_str (by have := ha.1; have := hb.1; omega)
  have d1 := ad a1 c8 (by decide)
  have d2 := ad hz a2 (by decide)
  have d3 := ad c4 a3 (by decide)
  have d4 := ad c3 a4 (by decide)
  have d5 := ad c5 a5 (by decide)
  have du : upperD (.str z) [] = some (.str (Txt.upper z)) := if_pos (by omega)
  have hx : ∀ d ∈ [D.str "", .str ("1" ++ cutS z none (some 8)), .str (Txt.upper z), .str (z ++ "abcdefghijkl"), .str (cutS z none (some 4) ++ "_"), .str " ", .str (cutS z none (some 3) ++ " b"), .non, .int 5, .bl true, .tup [.str z], .str (cutS z none (some 5) ++ "\n"), .str "-", .str ".", .lst [.str z]], Od d := by
    intro d hd
    simp only [List.mem_cons, List.not_mem_nil, or_false] at hd
    rcases hd with rfl | rfl | rfl | rfl | rfl | rfl | rfl | rfl | rfl | rfl | rfl | rfl | rfl | rfl | rfl
    · exact .inl ⟨_, rfl, a6.le (by decide)⟩
    · exact .inl ⟨_, rfl, (asc_app a1 c8).le (by decide)⟩
    · exact .inl ⟨_, rfl, (asc_upper hz).le (by decide)⟩
    · exact .inl ⟨_, rfl, (asc_app hz a2).le (by decide)⟩
    · exact .inl ⟨_, rfl, (asc_app c4 a3).le (by decide)⟩
    · exact .inl ⟨_, rfl, a7.le (by decide)⟩
    · exact .inl ⟨_, rfl, (asc_app c3 a4).le (by decide)⟩
    · exact .inr (.inl rfl)
    · exact .inr (.inr (.inl ⟨_, rfl⟩))
    · exact .inr (.inr (.inr (.inl ⟨_, rfl⟩)))
    · exact .inr (.inr (.inr (.inr (.inl ⟨_, hz.le (by decide), rfl⟩))))
    · exact .inl ⟨_, rfl, (asc_app c5 a5).le (by decide)⟩
    · exact .inl ⟨_, rfl, a8.le (by decide)⟩
    · exact .inl ⟨_, rfl, a9.le (by decide)⟩
    · exact .inr (.inr (.inr (.inr (.inr ⟨_, hz.le (by decide), rfl⟩))))
  obtain ⟨d, p', e, hd, h1⟩ := pick_ok (k := k) (p := p) (xs := [D.str "", .str ("1" ++ cutS z none (some 8)), .str (Txt.upper z), .str (z ++ "abcdefghijkl"), .str (cutS z none (some 4) ++ "_"), .str " ", .str (cutS z none (some 3) ++ " b"), .non, .int 5, .bl true, .tup [.str z], .str (cutS z none (some 5) ++ "\n"), .str "-", .str ".", .lst [.str z]]) h (by simp) (by simp)
  refine ⟨d, p', ?_, hx d hd, h1⟩
  simp -implicitDefEqProofs [f__law_odd_name, fnD, b__law_odd_name, s8, s4, s3, s5, d1, d2, d3, d4, d5, du, e]
/-- a word of a text that holds no blank -/
def Gd (x : D) : Prop := ∃ z, x = .str z ∧ Asc 40 z ∧ 32 ∉ z.cps.toList
theorem cutL_to {α : Type} {L : List α} {v : Int} (h0 : 0 ≤ v) : cutL L none (some v) = L.take v.toNat := by
  unfold cutL
  rw [sIx_pos h0]
  show (L.drop 0).take (min v.toNat L.length - 0) = _
  rw [List.drop_zero, Nat.sub_zero]
  by_cases h : v.toNat ≤ L.length
  · rw [Nat.min_eq_left h]
  · rw [Nat.min_eq_right (by omega), List.take_length, List.take_of_length_le (by omega)]
theorem cutL_from {α : Type} {L : List α} {v : Int} (h0 : 0 ≤ v) : cutL L (some v) none = L.drop v.toNat := by
  unfold cutL
  rw [sIx_pos h0]
  show (L.drop (min v.toNat L.length)).take (L.length - min v.toNat L.length) = _
  by_cases h : v.toNat ≤ L.length
  · rw [Nat.min_eq_left h, List.take_of_length_le (by rw [List.length_drop]; omega)]
  · rw [Nat.min_eq_right (by omega), List.drop_length, List.drop_of_length_le (by omega), List.take_nil]
theorem cutL_one {α : Type} {L : List α} {v : Int} (h0 : 0 ≤ v) (h1 : v < L.length) : cutL L (some v) (some (v + 1)) = (L.drop v.toNat).take 1 := by
  unfold cutL
  rw [sIx_pos h0, sIx_pos (by omega), Nat.min_eq_left (by omega), Nat.min_eq_left (by omega)]
  congr 1
  omega
@[simp] theorem sl_lst (L : List D) (l h : Option Int) : slD (.lst L) l h = some (.lst (cutL L l h)) := rfl
@[simp] theorem sl_tup (L : List D) (l h : Option Int) : slD (.tup L) l h = some (.tup (cutL L l h)) := rfl
theorem mul_lst {L : List D} (h : L.length ≤ 10) : mulAll (.lst L) (.int 2) = some (.lst (L ++ L)) := by
  have e : repL (.lst L) (.int 2) = some (.lst (L ++ L)) := by
    have h2 : L.length * 2 ≤ 16777216 := by omega
    have e0 : some (D.lst (L ++ (L ++ []))) = some (D.lst (L ++ L)) := by rw [List.append_nil]
    exact (if_pos ⟨by decide, by decide, h2⟩).trans e0
  show (((none : Option D).or (repL (.lst L) (.int 2))).or _) = _
  rw [e] <;> rfl
theorem bent_ok {k : Nat} {p : Pen} {L M : List D} (h : PenOk (k + 3) p) (hL : ∀ x ∈ L, Gd x) (hM : ∀ x ∈ M, Gd x) (hl : L.length ≤ 1000) (hm : M.length ≤ 1000) :
    ∃ X p', f__law_bent_words [penD p, .lst L, .lst M] = .ret (.lst X) [penD p', .lst L, .lst M] ∧ X.length ≤ L.length + 1 ∧ (∀ x ∈ X, Gd x) ∧ PenOk k p' := by
  obtain ⟨v, p1, e1, v0, v1, h1⟩ := draw_ok (k := k + 2) (n := L.length + 1) h (by omega) (Nat.lt_trans (lg_lt (k := 20) (by decide) (by omega)) (by decide))
  obtain ⟨w, p2, e2, w0, w1, h2⟩ := draw_ok (k := k + 1) (n := 4) h1 (by decide) (by decide)
  have eM := add_lst (xs := M) (ys := [D.str "", .str "A", .str "1a", .str "5", .str "0", .str "01", .str "-0", .str "-3"]) (by simp; omega)
  obtain ⟨o, p3, e3, ho, h3⟩ := pick_ok (k := k) (p := p2) (xs := M ++ [D.str "", .str "A", .str "1a", .str "5", .str "0", .str "01", .str "-0", .str "-3"]) h2 (by simp) (by simp; omega)
  have hg : Gd o := by
    rcases List.mem_append.mp ho with ho | ho
    · exact hM o ho
    · have hx : ∀ z ∈ [("" : Str), "A", "1a", "5", "0", "01", "-0", "-3"], (z.length ≤ 40 ∧ ∀ c ∈ z.cps.toList, c < 128) ∧ 32 ∉ z.cps.toList := by decide +kernel
      obtain ⟨z, hz, rfl⟩ := List.mem_map.mp (show o ∈ [("" : Str), "A", "1a", "5", "0", "01", "-0", "-3"].map D.str from ho)
      exact ⟨z, rfl, hx z hz⟩
  have q1 := cutL_to (L := L) v0
  have q2 := cutL_from (L := L) v0
  have q3 := cutL_from (L := L) (v := v + 1) (by omega)
  have g1 : ∀ n : Nat, ∀ x ∈ L.take n, Gd x := fun n x hx => hL x (List.mem_of_mem_take hx)
  have g2 : ∀ n : Nat, ∀ x ∈ L.drop n, Gd x := fun n x hx => hL x (List.mem_of_mem_drop hx)
  have l1 : (L.take v.toNat).length ≤ L.length := List.length_take_le' ..
  have l2 : (L.drop v.toNat).length = L.length - v.toNat := List.length_drop
  have l3 : (L.drop (v + 1).toNat).length = L.length - (v + 1).toNat := List.length_drop
  have l4 : (L.take v.toNat).length = min v.toNat L.length := List.length_take
  have app : ∀ A B : List D, (∀ x ∈ A, Gd x) → (∀ x ∈ B, Gd x) → ∀ x ∈ A ++ B, Gd x := fun A B ha hb x hx => (List.mem_append.mp hx).elim (ha x) (hb x)
  have one : ∀ x ∈ [o], Gd x := fun x hx => by
    rw [List.mem_singleton.mp hx]
    exact hg
  by_cases c1 : w = 0 ∨ v = L.length
  · have r1 := add_lst (xs := L.take v.toNat) (ys := [o]) (by rw [List.length_singleton]; omega)
    have r2 := add_lst (xs := L.take v.toNat ++ [o]) (ys := L.drop v.toNat) (by rw [List.length_append, List.length_singleton]; omega)
    refine ⟨L.take v.toNat ++ [o] ++ L.drop v.toNat, p3, ?_, ?_, app _ _ (app _ _ (g1 _) one) (g2 _), h3⟩
    · by_cases c2 : w = 0
      · simp -implicitDefEqProofs [f__law_bent_words, fnD, b__law_bent_words, e1, e2, eM, e3, c2, q1, q2, r1, r2]
      · have c3 : v = L.length := c1.resolve_left c2
        generalize L.take v.toNat = A at q1 r1 r2 ⊢
        generalize L.drop v.toNat = B at q2 r2 ⊢
        rw [c3] at e1 q1 q2
        simp -implicitDefEqProofs [f__law_bent_words, fnD, b__law_bent_words, e1, e2, eM, e3, c2, q1, q2, r1, r2]
    · rw [List.length_append, List.length_append, List.length_singleton]
      omega
  · have c2 : ¬ w = 0 := fun e => c1 (.inl e)
    have c3 : ¬ v = L.length := fun e => c1 (.inr e)
    by_cases c4 : w = 1
    · have r1 := add_lst (xs := L.take v.toNat) (ys := L.drop (v + 1).toNat) (by omega)
      refine ⟨L.take v.toNat ++ L.drop (v + 1).toNat, p3, ?_, by rw [List.length_append]; omega, app _ _ (g1 _) (g2 _), h3⟩
      simp -implicitDefEqProofs [f__law_bent_words, fnD, b__law_bent_words, e1, e2, eM, e3, c2, c3, c4, q1, q3, r1]
    · by_cases c5 : w = 2
      · have r1 := add_lst (xs := L.take v.toNat) (ys := [o]) (by rw [List.length_singleton]; omega)
        have r2 := add_lst (xs := L.take v.toNat ++ [o]) (ys := L.drop (v + 1).toNat) (by rw [List.length_append, List.length_singleton]; omega)
        refine ⟨L.take v.toNat ++ [o] ++ L.drop (v + 1).toNat, p3, ?_, by rw [List.length_append, List.length_append, List.length_singleton]; omega, app _ _ (app _ _ (g1 _) one) (g2 _), h3⟩
        simp -implicitDefEqProofs [f__law_bent_words, fnD, b__law_bent_words, e1, e2, eM, e3, c2, c3, c4, c5, q1, q3, r1, r2]
      · have q4 := cutL_one (L := L) v0 (by omega)
        have l5 : ((L.drop v.toNat).take 1).length ≤ 1 := List.length_take_le ..
        have r0 := mul_lst (L := (L.drop v.toNat).take 1) (by omega)
        have r1 := add_lst (xs := L.take v.toNat) (ys := (L.drop v.toNat).take 1 ++ (L.drop v.toNat).take 1) (by rw [List.length_append]; omega)
        have r2 := add_lst (xs := L.take v.toNat ++ ((L.drop v.toNat).take 1 ++ (L.drop v.toNat).take 1)) (ys := L.drop (v + 1).toNat) (by rw [List.length_append, List.length_append]; omega)
        have g3 : ∀ x ∈ (L.drop v.toNat).take 1, Gd x := fun x hx => g2 _ x (List.mem_of_mem_take hx)
        refine ⟨L.take v.toNat ++ ((L.drop v.toNat).take 1 ++ (L.drop v.toNat).take 1) ++ L.drop (v + 1).toNat, p3, ?_, by rw [List.length_append, List.length_append, List.length_append]; omega, app _ _ (app _ _ (g1 _) (app _ _ g3 g3)) (g2 _), h3⟩
        generalize (L.drop v.toNat).take 1 = O at q4 r0 r1 r2 ⊢
        generalize L.take v.toNat = A at q1 r1 r2 ⊢
        generalize L.drop (v + 1).toNat = B at q3 r2 ⊢
        simp -implicitDefEqProofs [f__law_bent_words, fnD, b__law_bent_words, e1, e2, eM, e3, c2, c3, c4, c5, q1, q3, q4, r0, r1, r2]
@[simp] theorem thOf_ok (d : D) (ρ : Rho) : thOf (.ok d ρ) = .ret d := rfl
@[simp] theorem thOf_err (e : Str) (fs : List (Str × D)) (ρ : Rho) : thOf (.err e fs ρ) = .err e fs := rfl
theorem why_ret (d : D) : (b__law_why (.ret d) [none, none, none]).lam = some .non := by kernel_rfl
theorem why_bt (k : Nat) : (b__law_why (.err "BadText" (bt k)) [none, none, none]).lam = some (wr k) := by kernel_rfl
def bt0 : List (Str × D) := [("word", .int 0), ("line", .int 0)]
theorem why_bt0 : (b__law_why (.err "BadText" bt0) [none, none, none]).lam = some (.lst [.str "text", .int 0, .int 0]) := by kernel_rfl
end G

set_option Elab.async false
set_option linter.all false
set_option maxRecDepth 100000
set_option maxHeartbeats 2000000
namespace G
open PySem PySem.Spec L2 VL
/-! one lap -/
theorem Nm.vd {z : Str} (h : Nm z) : Vd (.str z) := h.asc.le (by decide)
theorem asc_join {m : Nat} {zs : List Str} (h : Wds m zs) (hm : m ≤ 1000) : Asc 100000 (Txt.join " " zs) := by
  rw [TL.join_eq]
  refine ⟨?_, ?_⟩
  · have h1 := StrLaws.join_length_le " " zs
    have h2 := sum_le h.2
    have h3 := h.1
    rw [sp_len] at h1
    omega
  · have key : ∀ zs : List Str, (∀ z ∈ zs, ∀ c ∈ z.cps.toList, c < 128) → ∀ c ∈ (Str.join " " zs).cps.toList, c < 128 := by
      intro zs
      induction zs with
      | nil => intro _ c hc; exact absurd (show c ∈ (#[] : Array Nat).toList from hc) (by simp)
      | cons x r ih =>
        intro h c hc
        cases r with
        | nil => exact h x (List.mem_cons_self ..) c hc
        | cons y r =>
          have hc : c ∈ (x ++ (" " : Str) ++ Str.join " " (y :: r)).cps.toList := hc
          rw [app_cps, app_cps, show (" " : Str).cps.toList = [32] from by decide +kernel] at hc
          rcases List.mem_append.mp hc with hc | hc
          · rcases List.mem_append.mp hc with hc | hc
            · exact h x (List.mem_cons_self ..) c hc
            · rw [List.mem_singleton.mp hc]
              decide
          · exact ih (fun z hz => h z (List.mem_cons_of_mem _ hz)) c hc
    exact key zs fun z hz => (h.2 z hz).2
theorem wds_nm {m : Nat} {zs : List Str} (h : ∀ z ∈ zs, Nm z) (hl : zs.length ≤ m) : Wds m zs := ⟨hl, fun z hz => (h z hz).asc.le (by decide)⟩
theorem asc_wt {zs : List Str} (h : ∀ z ∈ zs, Nm z) (hl : zs.length ≤ 1000) : Asc 100000 (wt zs) := by
  cases zs with
  | nil => exact (show Asc 100000 ("nothing pressed" : Str) from ⟨by decide +kernel, by decide +kernel⟩)
  | cons z zs => exact asc_join (wds_nm h hl) (by decide)
theorem wt_split {zs : List Str} (h : ∀ z ∈ zs, Nm z) : ∃ vs, Txt.split (wt zs) " " = vs ∧ vs.length ≤ zs.length + 2 ∧ ∀ x ∈ vs.map D.str, Gd x := by
  cases zs with
  | nil =>
    refine ⟨NP, ?_, by decide, ?_⟩
    · have e3 : Txt.join " " NP = ("nothing pressed" : Str) := by decide +kernel
      show Txt.split ("nothing pressed" : Str) " " = NP
      rw [← e3]
      exact sp_join (by unfold NP; simp) (by decide +kernel)
    · intro x hx
      obtain ⟨z, hz, rfl⟩ := List.mem_map.mp hx
      have hd : ∀ z ∈ NP, 32 ∉ z.cps.toList := by decide +kernel
      exact ⟨z, rfl, np_asc z hz, hd z hz⟩
  | cons z zs =>
    refine ⟨z :: zs, sp_join (by simp) fun y hy => (h y hy).free (by decide), by omega, ?_⟩
    intro x hx
    obtain ⟨y, hy, rfl⟩ := List.mem_map.mp hx
    exact ⟨y, rfl, (h y hy).asc.le (by decide), (h y hy).free (by decide)⟩
theorem ne_wr (k : Nat) : neD (wr k) (wr k) = some (.bl false) := by
  have h : Dt 1 (wr k) (.list [.str "text", .int 1, .int k]) := ⟨rfl, by
    rw [PyData.canLay0, PyData.canLayAll0, PyData.canLayAll0, PyData.canLayAll0, PyData.canLayAll0, PyData.canLay0, PyData.canLay0, PyData.canLay0]
    decide +kernel, by
    rw [PyData.depth, PyData.depthAll, PyData.depthAll, PyData.depthAll, PyData.depthAll, PyData.depth, PyData.depth, PyData.depth]
    decide⟩
  show (((none : Option Bool).or (eqP (wr k) (wr k))).map fun b => D.bl (!b)) = _
  rw [eqP_dt h h (by decide) (by decide), SeqAt.eqv_refl _ h.2.1] <;> rfl
@[simp] theorem ne_non : neD .non .non = some (.bl false) := rfl
theorem is_wr (k : Nat) : isD (wr k) .non = some (.bl false) := rfl
/-- one turn of bent words -/
theorem turn_ok {k : Nat} {p : Pen} {zs : List Str} {L : List D} {x0 x2 x4 x5 x6 x7 x8 x9 x11 x12 x13 x14 x15 : Option Sl} (h : PenOk (k + 3) p) (hz : ∀ z ∈ zs, Nm z) (hzl : zs.length ≤ 10) (hL : ∀ x ∈ L, Gd x) (hl : L.length ≤ 500) :
    ∃ p' X y12 y13, b_law_L1 [x0, some (.ow (penD p)), x2, some (.fz (.lst (zs.map .str))), x4, x5, x6, x7, x8, x9, some (.fz (.lst L)), x11, x12, x13, x14, x15] = .nx [x0, some (.ow (penD p')), x2, some (.fz (.lst (zs.map .str))), x4, x5, x6, x7, x8, x9, some (.fz (.lst X)), x11, y12, y13, x14, x15] ∧ X.length ≤ L.length + 1 ∧ (∀ x ∈ X, Gd x) ∧ PenOk k p' := by
  have eM := add_lst (xs := zs.map D.str) (ys := [D.str "\n", .str "nothing", .str "pressed"]) (by simp; omega)
  have hM : ∀ x ∈ zs.map D.str ++ [D.str "\n", .str "nothing", .str "pressed"], Gd x := by
    intro x hx
    rcases List.mem_append.mp hx with hx | hx
    · obtain ⟨y, hy, rfl⟩ := List.mem_map.mp hx
      exact ⟨y, rfl, (hz y hy).asc.le (by decide), (hz y hy).free (by decide)⟩
    · have hd : ∀ z ∈ [("\n" : Str), "nothing", "pressed"], (z.length ≤ 40 ∧ ∀ c ∈ z.cps.toList, c < 128) ∧ 32 ∉ z.cps.toList := by decide +kernel
      obtain ⟨z, hz, rfl⟩ := List.mem_map.mp (show x ∈ [("\n" : Str), "nothing", "pressed"].map D.str from hx)
      exact ⟨z, rfl, hd z hz⟩
  obtain ⟨X, p', e1, hX, hg, h1⟩ := bent_ok (k := k) h hL hM (by omega) (by simp; omega)
  generalize hK : zs.map D.str = K at eM e1
  refine ⟨p', X, ?_⟩
  obtain ⟨ws, rfl, hw⟩ := exists_strs (P := fun z => Asc 40 z ∧ 32 ∉ z.cps.toList) (xs := X) hg
  rw [List.length_map] at hX
  have hW : Wds 1000 ws := ⟨by omega, fun z hz => (hw z hz).1⟩
  obtain ⟨j1, _⟩ := join_ok hW (by decide)
  have ht := asc_join hW (by decide)
  have fw := first_wrong_ok ht
  have wr' := word_read_ok ht
  have br := bent_read (ws := ws) fun w hx => (hw w hx).2
  obtain ⟨s, hs⟩ := repr_ok hW (by decide)
  obtain ⟨s0, hs0⟩ := repr_ok (m := 1) (zs := []) ⟨by decide, fun z hz => absurd hz (by simp)⟩ (by decide)
  have en := eq_npL (zs := ws) hW.2
  generalize Txt.join " " ws = t at j1 ht fw wr' br
  generalize hF : ws.map D.str = F at e1 j1 en hs hg ⊢
  have hXl : F.length ≤ L.length + 1 := by rw [← hF, List.length_map]; exact hX
  cases hwt : wrongAt t with
  | some n =>
    rw [hwt] at fw wr'
    have nw := ne_wr n
    have wb := why_bt n
    have iw := is_wr n
    refine ⟨some (.fz (.str t)), some (.fz (wr n)), ?_, hXl, hg, h1⟩
    simp -implicitDefEqProofs [b_law_L1, b_law_S14, b_law_S15, b_law_S16, b_law_S17, eM, e1, j1, fw, wr', nw, wb, iw, wrD]
  | none =>
    rw [hwt] at fw wr'
    rw [br hwt] at wr'
    have wb := why_ret (.tup ((rdW ws).map .str))
    refine ⟨some (.fz (.str t)), some (.fz .non), ?_, hXl, hg, h1⟩
    by_cases hp : ws = NP
    · rw [decide_eq_true hp] at en
      rw [show rdW ws = [] from if_pos hp] at wr' wb
      simp -implicitDefEqProofs at wr' wb hs0
      simp -implicitDefEqProofs [b_law_L1, b_law_S14, b_law_S15, b_law_S16, b_law_S17, eM, e1, j1, fw, wr', wb, wrD, en, hs0]
    · rw [decide_eq_false hp] at en
      rw [show rdW ws = ws from if_neg hp, hF] at wr' wb
      simp -implicitDefEqProofs [b_law_L1, b_law_S14, b_law_S15, b_law_S16, b_law_S17, eM, e1, j1, fw, wr', wb, wrD, en, hs]
theorem S1_ok {k : Nat} {p : Pen} {x0 x2 x3 x4 x5 x6 x7 x8 x9 x10 x11 x12 x13 x14 x15 : Option Sl} (h : PenOk (k + 50) p) :
    ∃ (p' : Pen) (zs : List Str), b_law_S1 [x0, some (.ow (penD p)), x2, x3, x4, x5, x6, x7, x8, x9, x10, x11, x12, x13, x14, x15] = .nx [x0, some (.ow (penD p')), x2, some (.fz (.lst (zs.map .str))), x4, x5, x6, x7, x8, x9, x10, x11, x12, x13, x14, x15] ∧ 1 ≤ zs.length ∧ zs.length ≤ 4 ∧ (∀ z ∈ zs, Nm z) ∧ PenOk k p' := by
  obtain ⟨v, p1, e1, v0, v1, h1⟩ := draw_ok (k := k + 44) (n := 4) (h.le (by omega)) (by decide) (by decide)
  obtain ⟨m, hm⟩ : ∃ m : Nat, 1 + v = m := ⟨(1 + v).toNat, by omega⟩
  obtain ⟨zs, p2, e2, hl, hz, h2⟩ := names_ok (k := k) (m := m) (p := p1) (h1.le (by omega)) (by omega)
  refine ⟨p2, zs, ?_, by omega, by omega, fun z hx => ?_, h2⟩
  · simp -implicitDefEqProofs [b_law_S1, e1, hm, e2]
  · obtain ⟨i, hi, hq⟩ := hz z hx
    exact hq.to (by omega)
theorem z12 : mulAll (.str "z") (.int 12) = some (.str "zzzzzzzzzzzz") := by
  have e : repS "z" 12 = ("zzzzzzzzzzzz" : Str) := by decide +kernel
  rw [← e]
  kernel_rfl
theorem z13 : mulAll (.str "z") (.int 13) = some (.str "zzzzzzzzzzzzz") := by
  have e : repS "z" 13 = ("zzzzzzzzzzzzz" : Str) := by decide +kernel
  rw [← e]
  kernel_rfl
theorem S3_ok {k : Nat} {p : Pen} {z : Str} {zs : List Str} {x0 x2 x4 x5 x6 x7 x8 x9 x10 x11 x12 x13 x14 x15 : Option Sl} (h : PenOk (k + 2) p) (hz : Nm z) :
    ∃ (p' : Pen) (y4 : Option Sl), b_law_S3 [x0, some (.ow (penD p)), x2, some (.fz (.lst (.str z :: zs.map .str))), x4, x5, x6, x7, x8, x9, x10, x11, x12, x13, x14, x15] = .nx [x0, some (.ow (penD p')), x2, some (.fz (.lst (.str z :: zs.map .str))), y4, x5, x6, x7, x8, x9, x10, x11, x12, x13, x14, x15] ∧ PenOk k p' := by
  have h0 : subsD (.lst (.str z :: zs.map .str)) (.int 0) = some (.str z) := head_ok
  have a1 : Asc 12 ("a" : Str) := ⟨by decide +kernel, by decide +kernel⟩
  have a2 : Asc 12 ("zzzzzzzzzzzz" : Str) := ⟨by decide +kernel, by decide +kernel⟩
  have a3 : Asc 13 ("zzzzzzzzzzzzz" : Str) := ⟨by decide +kernel, by decide +kernel⟩
  obtain ⟨d1, p1, e1, o1, h1⟩ := odd_name_ok (k := k + 1) (p := p) (z := z) h (hz.asc.le (by decide))
  obtain ⟨d2, p2, e2, o2, h2⟩ := odd_name_ok (k := k) (p := p1) (z := "a") h1 a1
  have m1 := z12
  have m2 := z13
  generalize zs.map D.str = K at h0
  obtain ⟨ρ', e, ⟨y4, rfl⟩, _⟩ := forD_inv (g := gN 4) (body := b_law_S2)
    (fun ds ρ => (∃ y4, ρ = [x0, some (.ow (penD p2)), x2, some (.fz (.lst (.str z :: K))), y4, x5, x6, x7, x8, x9, x10, x11, x12, x13, x14, x15]) ∧ ∀ d ∈ ds, Vd d) (by
      rintro d ds ρ ⟨⟨y4, rfl⟩, hd⟩
      have q := hd d (List.mem_cons_self ..)
      have q1 := is_name_ok q
      have q2 := law_is_name_ok q
      have q3 := same_bl (nmD d) (nmD d)
      refine ⟨_, rfl, _, ?_, ⟨some (.fz d), rfl⟩, fun x hx => hd x (List.mem_cons_of_mem _ hx)⟩
      simp -implicitDefEqProofs [b_law_S2, q1, q2, q3]) [.str z, .str "a", .str "zzzzzzzzzzzz", .str "zzzzzzzzzzzzz", d1, d2] [x0, some (.ow (penD p2)), x2, some (.fz (.lst (.str z :: K))), x4, x5, x6, x7, x8, x9, x10, x11, x12, x13, x14, x15]
    ⟨⟨x4, rfl⟩, fun d hd => by
      simp only [List.mem_cons, List.not_mem_nil, or_false] at hd
      rcases hd with rfl | rfl | rfl | rfl | rfl | rfl
      · exact hz.vd
      · exact a1.le (by decide)
      · exact a2.le (by decide)
      · exact a3.le (by decide)
      · exact o1.vd
      · exact o2.vd⟩
  refine ⟨p2, y4, ?_, h2⟩
  simp -implicitDefEqProofs [b_law_S3, h0, m1, m2, e1, e2, e]
/-- picks of keys -/
theorem picks_ok {k : Nat} {zs : List Str} {e : Rho → Ro D} {x0 x2 x4 x5 x6 x7 x8 x9 x10 x11 x12 x13 x14 : Option Sl} (hz : ∀ z ∈ zs, Nm z) (h1 : 1 ≤ zs.length) (h2 : zs.length ≤ 4)
    (he : e = dFn f__law_pick [some 1, none] [] (dIOw 1 (dCons (dVar 3) dNil))) (m : Nat) (p : Pen) (h : PenOk (k + m) p) :
    ∃ (ws : List Str) (p' : Pen), lcD [15] (gN 15) dYes e (rngD 0 m) [x0, some (.ow (penD p)), x2, some (.fz (.lst (zs.map .str))), x4, x5, x6, x7, x8, x9, x10, x11, x12, x13, x14, none] = .ok (ws.map .str) [x0, some (.ow (penD p')), x2, some (.fz (.lst (zs.map .str))), x4, x5, x6, x7, x8, x9, x10, x11, x12, x13, x14, none] ∧ ws.length = m ∧ (∀ z ∈ ws, Nm z) ∧ PenOk k p' := by
  subst he
  obtain ⟨ys, ρ', e, hl, hq, p1, rfl, hk⟩ := lcD_inv (v := 15) (e := dFn f__law_pick [some 1, none] [] (dIOw 1 (dCons (dVar 3) dNil))) (fun d => ∃ z, d = .str z ∧ Nm z)
    (fun ds ρ => ∃ p, ρ = [x0, some (.ow (penD p)), x2, some (.fz (.lst (zs.map .str))), x4, x5, x6, x7, x8, x9, x10, x11, x12, x13, x14, none] ∧ PenOk (k + ds.length) p) (by
      rintro d ds ρ ⟨p, rfl, h⟩
      obtain ⟨x, p', e, hx, hk⟩ := pick_ok (k := k + ds.length) (p := p) (xs := zs.map .str) h (by rw [List.length_map]; omega) (by rw [List.length_map]; omega)
      obtain ⟨z, hzz, rfl⟩ := List.mem_map.mp hx
      refine ⟨.str z, [x0, some (.ow (penD p')), x2, some (.fz (.lst (zs.map .str))), x4, x5, x6, x7, x8, x9, x10, x11, x12, x13, x14, some (.fz d)], ?_, ⟨z, rfl, hz z hzz⟩, ⟨p', rfl, hk⟩⟩
      generalize zs.map D.str = K at e ⊢
      simp -implicitDefEqProofs [e]) (rngD 0 m) _ ⟨p, rfl, by rw [rngD_len]; exact h⟩
  obtain ⟨ws, rfl, hw⟩ := exists_strs hq
  rw [rngD_len, List.length_map] at hl
  exact ⟨ws, p1, e, hl, hw, hk⟩
theorem add_strs {a b : List Str} (h : a.length + b.length ≤ 1000) : addD (.tup (a.map .str)) (.tup (b.map .str)) = some (.tup (a.map .str ++ b.map .str)) := add_tup (by rw [List.length_map, List.length_map]; omega)
theorem S4_ok {k : Nat} {p : Pen} {zs : List Str} {x0 x2 x4 x5 x6 x7 x8 x9 x10 x11 x12 x13 x14 x15 : Option Sl} (h : PenOk (k + 10) p) (hz : ∀ z ∈ zs, Nm z) (h1 : 1 ≤ zs.length) (h2 : zs.length ≤ 4) :
    ∃ (p' : Pen) (ws : List Str), b_law_S4 [x0, some (.ow (penD p)), x2, some (.fz (.lst (zs.map .str))), x4, x5, x6, x7, x8, x9, x10, x11, x12, x13, x14, x15] = .nx [x0, some (.ow (penD p')), x2, some (.fz (.lst (zs.map .str))), x4, some (.fz (.tup (ws.map .str))), x6, x7, x8, x9, x10, x11, x12, x13, x14, none] ∧ ws.length ≤ 9 ∧ (∀ z ∈ ws, Nm z) ∧ PenOk k p' := by
  obtain ⟨v, p1, e1, v0, v1, h3⟩ := draw_ok (k := k + 9) (n := 10) h (by decide) (by decide)
  obtain ⟨m, rfl⟩ : ∃ m : Nat, v = m := ⟨v.toNat, by omega⟩
  have er := rng1_int (i := m) ⟨by omega, by omega⟩
  obtain ⟨ws, p2, e2, hl, hw, h4⟩ := picks_ok (k := k) (e := b_law_E1) (x0 := x0) (x2 := x2) (x4 := x4) (x5 := x5) (x6 := x6) (x7 := x7) (x8 := x8) (x9 := x9) (x10 := x10) (x11 := x11) (x12 := x12) (x13 := x13) (x14 := x14) hz h1 h2 rfl m p1 (h3.le (by omega))
  have ht : (ws.map D.str).length ≤ 1000000 := by rw [List.length_map]; omega
  refine ⟨p2, ws, ?_, by omega, hw, h4⟩
  generalize zs.map D.str = K at e2 ⊢
  generalize ws.map D.str = F at e2 ht ⊢
  simp -implicitDefEqProofs [b_law_S4, e1, er, e2, toLst_lst ht]
theorem S5_ok {k : Nat} {p : Pen} {F : List D} {x0 x2 x3 x4 x6 x7 x8 x9 x10 x11 x12 x13 x14 x15 : Option Sl} (h : PenOk (k + 1) p) (hl : F.length ≤ 1000) :
    ∃ (p' : Pen) (v : Int), b_law_S5 [x0, some (.ow (penD p)), x2, x3, x4, some (.fz (.tup F)), x6, x7, x8, x9, x10, x11, x12, x13, x14, x15] = .nx [x0, some (.ow (penD p')), x2, x3, x4, some (.fz (.tup F)), some (.fz (.int v)), x7, x8, x9, x10, x11, x12, x13, x14, x15] ∧ 0 ≤ v ∧ v < F.length + 1 ∧ PenOk k p' := by
  obtain ⟨v, p1, e1, v0, v1, h3⟩ := draw_ok (k := k) (n := F.length + 1) h (by omega) (Nat.lt_trans (lg_lt (k := 20) (by decide) (by omega)) (by decide))
  refine ⟨p1, v, ?_, v0, v1, h3⟩
  simp -implicitDefEqProofs [b_law_S5, e1]
theorem S6_ok {k : Nat} {p : Pen} {zs ws : List Str} {v : Int} {x0 x2 x4 x7 x8 x9 x10 x11 x12 x13 x14 : Option Sl} (h : PenOk (k + 8) p) (hz : ∀ z ∈ zs, Nm z) (h1 : 1 ≤ zs.length) (h2 : zs.length ≤ 4) (hw : ∀ z ∈ ws, Nm z) (hl : ws.length ≤ 9) (v0 : 0 ≤ v) :
    ∃ (p' : Pen) (us : List Str), b_law_S6 [x0, some (.ow (penD p)), x2, some (.fz (.lst (zs.map .str))), x4, some (.fz (.tup (ws.map .str))), some (.fz (.int v)), x7, x8, x9, x10, x11, x12, x13, x14, none] = .nx [x0, some (.ow (penD p')), x2, some (.fz (.lst (zs.map .str))), x4, some (.fz (.tup (ws.map .str))), some (.fz (.int v)), some (.fz (.tup (us.map .str))), x8, x9, x10, x11, x12, x13, x14, none] ∧ us.length ≤ 30 ∧ (∀ z ∈ us, Nm z) ∧ PenOk k p' := by
  obtain ⟨x, p1, e1, hx, h3⟩ := pick_ok (k := k + 7) (p := p) (xs := zs.map .str) h (by rw [List.length_map]; omega) (by rw [List.length_map]; omega)
  obtain ⟨z1, hz1, rfl⟩ := List.mem_map.mp hx
  obtain ⟨c, p2, e2, c0, c1, h4⟩ := draw_ok (k := k + 6) (n := 6) h3 (by decide) (by decide)
  obtain ⟨m, rfl⟩ : ∃ m : Nat, c = m := ⟨c.toNat, by omega⟩
  have er := rng1_int (i := m) ⟨by omega, by omega⟩
  obtain ⟨ts, p3, e3, hl3, ht, h5⟩ := picks_ok (k := k + 1) (e := b_law_E2) (x0 := x0) (x2 := x2) (x4 := x4) (x5 := some (.fz (.tup (ws.map .str)))) (x6 := some (.fz (.int v))) (x7 := x7) (x8 := x8) (x9 := x9) (x10 := x10) (x11 := x11) (x12 := x12) (x13 := x13) (x14 := x14) hz h1 h2 rfl m p2 (h4.le (by omega))
  have hta : (ts.map D.str).length ≤ 1000000 := by rw [List.length_map]; omega
  have q1 := cutL_to (L := ws.map D.str) v0
  have q2 := cutL_from (L := ws.map D.str) (v := v + 1) (by omega)
  rw [← List.map_take] at q1
  rw [← List.map_drop] at q2
  have l1 : (ws.take v.toNat).length ≤ 9 := Nat.le_trans (List.length_take_le' ..) hl
  have l2 : (ws.drop (v + 1).toNat).length ≤ 9 := by rw [List.length_drop]; omega
  have r1 := add_strs (a := ws.take v.toNat) (b := [z1]) (by rw [List.length_singleton]; omega)
  rw [← List.map_append] at r1
  have r2 := add_strs (a := ws.take v.toNat ++ [z1]) (b := ws.drop (v + 1).toNat) (by rw [List.length_append, List.length_singleton]; omega)
  rw [← List.map_append] at r2
  obtain ⟨d, p4, e4, hd, h6⟩ := pick_ok (k := k) (p := p3) (xs := [.tup (ws.map .str), .tup ((ws.take v.toNat).map .str), .tup ((ws.take v.toNat ++ [z1] ++ ws.drop (v + 1).toNat).map .str), .tup (ts.map .str)]) h5 (by simp) (by simp)
  have hu : ∃ us : List Str, d = .tup (us.map .str) ∧ us.length ≤ 30 ∧ ∀ z ∈ us, Nm z := by
    simp only [List.mem_cons, List.not_mem_nil, or_false] at hd
    rcases hd with rfl | rfl | rfl | rfl
    · exact ⟨ws, rfl, by omega, hw⟩
    · exact ⟨_, rfl, by omega, fun z hz => hw z (List.mem_of_mem_take hz)⟩
    · refine ⟨_, rfl, by rw [List.length_append, List.length_append, List.length_singleton]; omega, fun z hq => ?_⟩
      rcases List.mem_append.mp hq with hq | hq
      · rcases List.mem_append.mp hq with hq | hq
        · exact hw z (List.mem_of_mem_take hq)
        · rw [List.mem_singleton.mp hq]
          exact hz z1 hz1
      · exact hw z (List.mem_of_mem_drop hq)
    · exact ⟨ts, rfl, by omega, ht⟩
  obtain ⟨us, rfl, hul, hun⟩ := hu
  refine ⟨p4, us, ?_, hul, hun, h6⟩
  rw [show [z1].map D.str = [.str z1] from rfl] at r1
  generalize us.map D.str = U at e4 ⊢
  generalize (ws.take v.toNat ++ [z1] ++ ws.drop (v + 1).toNat).map D.str = A3 at e4 r2
  generalize (ws.take v.toNat ++ [z1]).map D.str = A2 at r1 r2
  generalize (ws.take v.toNat).map D.str = A1 at e4 q1 r1
  generalize (ws.drop (v + 1).toNat).map D.str = A4 at q2 r2
  generalize ts.map D.str = A5 at e3 e4 hta
  generalize ws.map D.str = A0 at e3 e4 q1 q2 ⊢
  generalize zs.map D.str = K at e1 e3 ⊢
  simp -implicitDefEqProofs [b_law_S6, e1, e2, er, e3, e4, toLst_lst hta, q1, q2, r1, r2]
theorem S7_ok {ws us : List Str} {p : Pen} {x0 x2 x3 x4 x6 x8 x9 x10 x11 x12 x13 x14 x15 : Option Sl} : b_law_S7 [x0, some (.ow (penD p)), x2, x3, x4, some (.fz (.tup (ws.map .str))), x6, some (.fz (.tup (us.map .str))), x8, x9, x10, x11, x12, x13, x14, x15] = .nx [x0, some (.ow (penD p)), x2, x3, x4, some (.fz (.tup (ws.map .str))), x6, some (.fz (.tup (us.map .str))), some (.fz (.bl (ltW ws us))), x9, x10, x11, x12, x13, x14, x15] := by
  have e := lt_words ws us
  simp -implicitDefEqProofs [b_law_S7, e]
theorem S8_ok {k : Nat} {ws us : List Str} {p : Pen} {x0 x2 x3 x4 x6 x9 x10 x11 x12 x13 x14 x15 : Option Sl} (h : PenOk (k + 1) p) : ∃ p', b_law_S8 [x0, some (.ow (penD p)), x2, x3, x4, some (.fz (.tup (ws.map .str))), x6, some (.fz (.tup (us.map .str))), some (.fz (.bl (ltW ws us))), x9, x10, x11, x12, x13, x14, x15] = .nx [x0, some (.ow (penD p')), x2, x3, x4, some (.fz (.tup (ws.map .str))), x6, some (.fz (.tup (us.map .str))), some (.fz (.bl (ltW ws us))), x9, x10, x11, x12, x13, x14, x15] ∧ PenOk k p' := by
  obtain ⟨d, p1, e1, hd, h1⟩ := pick_ok (k := k) (p := p) (xs := [.tup (us.map .str), .lst (us.map .str)]) h (by simp) (by simp)
  have b1 := before_tup ws us
  have b2 := before_lst ws us
  have q := same_bl (ltW ws us) (ltW ws us)
  generalize ltW ws us = B at b1 b2 q ⊢
  simp only [List.mem_cons, List.not_mem_nil, or_false] at hd
  refine ⟨p1, ?_, h1⟩
  generalize ws.map D.str = A at b1 b2 ⊢
  generalize us.map D.str = U at e1 b1 b2 hd ⊢
  rcases hd with rfl | rfl
  · simp -implicitDefEqProofs [b_law_S8, e1, b1, q]
  · simp -implicitDefEqProofs [b_law_S8, e1, b2, q]
theorem vw_strs {zs : List Str} (h : ∀ z ∈ zs, Nm z) (hl : zs.length ≤ 100) : Vw (.tup (zs.map .str)) := ⟨fun d hd => by
  obtain ⟨z, hz, rfl⟩ := List.mem_map.mp hd
  exact ⟨(h z hz).vd, (Od.dt (.inl ⟨z, rfl, (h z hz).asc.le (by decide)⟩))⟩, by rw [List.length_map]; omega⟩
theorem S10_ok {k : Nat} {p : Pen} {z : Str} {zs ws us : List Str} {x0 x2 x4 x6 x8 x9 x10 x11 x12 x13 x14 x15 : Option Sl} (h : PenOk (k + 1) p) (hz : Nm z) (hw : ∀ z ∈ ws, Nm z) (hwl : ws.length ≤ 9) (hu : ∀ z ∈ us, Nm z) (hul : us.length ≤ 30) :
    ∃ (p' : Pen) (y4 : Option Sl), b_law_S10 [x0, some (.ow (penD p)), x2, some (.fz (.lst (.str z :: zs.map .str))), x4, some (.fz (.tup (ws.map .str))), x6, some (.fz (.tup (us.map .str))), x8, x9, x10, x11, x12, x13, x14, x15] = .nx [x0, some (.ow (penD p')), x2, some (.fz (.lst (.str z :: zs.map .str))), y4, some (.fz (.tup (ws.map .str))), x6, some (.fz (.tup (us.map .str))), x8, x9, x10, x11, x12, x13, x14, x15] ∧ PenOk k p' := by
  have h0 : subsD (.lst (.str z :: zs.map .str)) (.int 0) = some (.str z) := head_ok
  obtain ⟨d1, p1, e1, o1, h1⟩ := odd_name_ok (k := k) (p := p) (z := z) h (hz.asc.le (by decide))
  have r1 := add_tup (xs := ws.map D.str) (ys := [d1]) (by rw [List.length_map, List.length_singleton]; omega)
  have v1 := vw_strs hw (by omega)
  have v2 := vw_strs hu (by omega)
  have v3 : Vw (.tup (ws.map D.str ++ [d1])) := ⟨fun d hd => by
    rcases List.mem_append.mp hd with hd | hd
    · exact v1.1 d hd
    · rw [List.mem_singleton.mp hd]
      exact ⟨o1.vd, o1.dt⟩, by rw [List.length_append, List.length_map, List.length_singleton]; omega⟩
  have v4 : Vw (.tup [.non]) := ⟨fun d hd => by
    rw [List.mem_singleton.mp hd]
    exact ⟨True.intro, Od.dt (.inr (.inl rfl))⟩, by decide⟩
  generalize zs.map D.str = K at h0 ⊢
  generalize ws.map D.str = W at r1 v1 v3 ⊢
  generalize us.map D.str = U at v2 ⊢
  obtain ⟨ρ', e, ⟨y4, rfl⟩, _⟩ := forD_inv (g := gN 4) (body := b_law_S9)
    (fun ds ρ => (∃ y4, ρ = [x0, some (.ow (penD p1)), x2, some (.fz (.lst (.str z :: K))), y4, some (.fz (.tup W)), x6, some (.fz (.tup U)), x8, x9, x10, x11, x12, x13, x14, x15]) ∧ ∀ d ∈ ds, Vw d) (by
      rintro d ds ρ ⟨⟨y4, rfl⟩, hd⟩
      have q := hd d (List.mem_cons_self ..)
      have q1 := is_word_ok q
      have q2 := law_is_word_ok q
      have q3 := same_bl (wdD d) (wdD d)
      refine ⟨_, rfl, _, ?_, ⟨some (.fz d), rfl⟩, fun x hx => hd x (List.mem_cons_of_mem _ hx)⟩
      simp -implicitDefEqProofs [b_law_S9, q1, q2, q3]) [.tup W, .tup U, .lst W, .non, .int 5, .str z, .tup (W ++ [d1]), .tup [.non], .dic false []] [x0, some (.ow (penD p1)), x2, some (.fz (.lst (.str z :: K))), x4, some (.fz (.tup W)), x6, some (.fz (.tup U)), x8, x9, x10, x11, x12, x13, x14, x15]
    ⟨⟨x4, rfl⟩, fun d hd => by
      simp only [List.mem_cons, List.not_mem_nil, or_false] at hd
      rcases hd with rfl | rfl | rfl | rfl | rfl | rfl | rfl | rfl | rfl
      · exact v1
      · exact v2
      · exact True.intro
      · exact True.intro
      · exact True.intro
      · exact True.intro
      · exact v3
      · exact v4
      · exact True.intro⟩
  refine ⟨p1, y4, ?_, h1⟩
  simp -implicitDefEqProofs [b_law_S10, h0, e1, r1, e]
theorem S11_ok {p : Pen} {ws : List Str} {x0 x2 x3 x4 x6 x7 x8 x9 x10 x11 x12 x13 x14 x15 : Option Sl} (hw : ∀ z ∈ ws, Nm z) (hwl : ws.length ≤ 9) : b_law_S11 [x0, some (.ow (penD p)), x2, x3, x4, some (.fz (.tup (ws.map .str))), x6, x7, x8, x9, x10, x11, x12, x13, x14, x15] = .nx [x0, some (.ow (penD p)), x2, x3, x4, some (.fz (.tup (ws.map .str))), x6, x7, x8, some (.fz (.str (wt ws))), x10, x11, x12, x13, x14, x15] := by
  have n1 := ne_nilT (n := 5) (ds := ws.map .str) (fun d hd => ((vw_strs hw (by omega)).1 d hd).2) (by decide)
  obtain ⟨_, j2⟩ := join_ok (wds_nm hw (m := 10) (by omega)) (by decide)
  have hi : (ws.map D.str).isEmpty = ws.isEmpty := List.isEmpty_map ..
  rw [hi] at n1
  generalize ws.map D.str = W at n1 j2 ⊢
  cases he : ws.isEmpty
  · rw [he] at n1
    have ht : wt ws = Txt.join " " ws := by unfold wt; rw [he] <;> rfl
    rw [ht]
    simp -implicitDefEqProofs [b_law_S11, n1, j2]
  · rw [he] at n1
    have ht : wt ws = "nothing pressed" := by unfold wt; rw [he] <;> rfl
    rw [ht]
    simp -implicitDefEqProofs [b_law_S11, n1]
theorem S12_ok {p : Pen} {ws : List Str} {x0 x2 x3 x4 x6 x7 x8 x10 x11 x12 x13 x14 x15 : Option Sl} (hw : ∀ z ∈ ws, Nm z) (hwl : ws.length ≤ 9) : b_law_S12 [x0, some (.ow (penD p)), x2, x3, x4, some (.fz (.tup (ws.map .str))), x6, x7, x8, some (.fz (.str (wt ws))), x10, x11, x12, x13, x14, x15] = .nx [x0, some (.ow (penD p)), x2, x3, x4, some (.fz (.tup (ws.map .str))), x6, x7, x8, some (.fz (.str (wt ws))), x10, x11, x12, x13, x14, x15] := by
  have hW := wds_nm hw (m := 10) (by omega)
  obtain ⟨t1, t2⟩ := word_text_ok hW (by decide)
  have r1 := word_read_ok (asc_wt hw (by omega))
  obtain ⟨g1, g2⟩ := wt_read hw
  rw [g1, g2] at r1
  obtain ⟨s, hs⟩ := repr_ok hW (by decide)
  dsimp only at r1
  generalize ws.map D.str = W at t1 t2 r1 hs ⊢
  simp -implicitDefEqProofs [b_law_S12, t1, t2, r1, hs]
theorem S13_ok {p : Pen} {ws : List Str} {x0 x2 x3 x4 x5 x6 x7 x8 x10 x11 x12 x13 x14 x15 : Option Sl} (hw : ∀ z ∈ ws, Nm z) (hwl : ws.length ≤ 9) : ∃ L, b_law_S13 [x0, some (.ow (penD p)), x2, x3, x4, x5, x6, x7, x8, some (.fz (.str (wt ws))), x10, x11, x12, x13, x14, x15] = .nx [x0, some (.ow (penD p)), x2, x3, x4, x5, x6, x7, x8, some (.fz (.str (wt ws))), some (.fz (.lst L)), x11, x12, x13, x14, x15] ∧ L.length ≤ 11 ∧ ∀ x ∈ L, Gd x := by
  obtain ⟨vs, e, hl, hg⟩ := wt_split hw
  have s1 := split_ok (y := " ") (asc_wt hw (by omega)) (by decide) sp_len
  rw [e] at s1
  refine ⟨vs.map .str, ?_, by rw [List.length_map]; omega, hg⟩
  generalize vs.map D.str = V at s1 ⊢
  simp -implicitDefEqProofs [b_law_S13, s1]
theorem inner_ok {k : Nat} {p : Pen} {zs : List Str} {L : List D} {x0 x2 x4 x5 x6 x7 x8 x9 x11 x12 x13 x14 x15 : Option Sl} (h : PenOk (k + 9) p) (hz : ∀ z ∈ zs, Nm z) (hzl : zs.length ≤ 10) (hL : ∀ x ∈ L, Gd x) (hl : L.length ≤ 11) :
    ∃ (p' : Pen) (y10 y11 y12 y13 : Option Sl), sFor (dRng rng1 (dCons (dC (.int 3)) dNil)) (gN 11) b_law_L1 [x0, some (.ow (penD p)), x2, some (.fz (.lst (zs.map .str))), x4, x5, x6, x7, x8, x9, some (.fz (.lst L)), x11, x12, x13, x14, x15] = .nx [x0, some (.ow (penD p')), x2, some (.fz (.lst (zs.map .str))), x4, x5, x6, x7, x8, x9, y10, y11, y12, y13, x14, x15] ∧ PenOk k p' := by
  have er : rng1 [.int 3] = some (rngD 0 3) := rng1_int (by decide)
  obtain ⟨ρ', e, p1, L1, y11, y12, y13, rfl, _, _, h1⟩ := forD_inv (g := gN 11) (body := b_law_L1)
    (fun ds ρ => ∃ p L y11 y12 y13, ρ = [x0, some (.ow (penD p)), x2, some (.fz (.lst (zs.map .str))), x4, x5, x6, x7, x8, x9, some (.fz (.lst L)), y11, y12, y13, x14, x15] ∧ L.length + ds.length ≤ 20 ∧ (∀ x ∈ L, Gd x) ∧ PenOk (k + 3 * ds.length) p) (by
      rintro d ds ρ ⟨p, L, y11, y12, y13, rfl, hl, hL, h⟩
      rw [List.length_cons] at hl
      obtain ⟨p', X, z12, z13, e, hX, hg, h1⟩ := turn_ok (k := k + 3 * ds.length) (p := p) (zs := zs) (L := L) (x0 := x0) (x2 := x2) (x4 := x4) (x5 := x5) (x6 := x6) (x7 := x7) (x8 := x8) (x9 := x9) (x11 := some (.fz d)) (x12 := y12) (x13 := y13) (x14 := x14) (x15 := x15) h hz hzl hL (by omega)
      exact ⟨_, rfl, _, e, p', X, some (.fz d), z12, z13, rfl, by omega, hg, h1⟩) (rngD 0 3) [x0, some (.ow (penD p)), x2, some (.fz (.lst (zs.map .str))), x4, x5, x6, x7, x8, x9, some (.fz (.lst L)), x11, x12, x13, x14, x15]
    ⟨p, L, x11, x12, x13, rfl, by show L.length + 3 ≤ 20; omega, hL, h⟩
  refine ⟨p1, some (.fz (.lst L1)), y11, y12, y13, ?_, h1⟩
  generalize zs.map D.str = K at e ⊢
  simp -implicitDefEqProofs [er, e]
theorem lap_ok {k : Nat} {p : Pen} {x0 x2 x3 x4 x5 x6 x7 x8 x9 x10 x11 x12 x13 x14 x15 : Option Sl} (h : PenOk (k + 200) p) :
    ∃ (p' : Pen) (y3 y4 y5 y6 y7 y8 y9 y10 y11 y12 y13 y15 : Option Sl), b_law_L2 [x0, some (.ow (penD p)), x2, x3, x4, x5, x6, x7, x8, x9, x10, x11, x12, x13, x14, x15] = .nx [x0, some (.ow (penD p')), x2, y3, y4, y5, y6, y7, y8, y9, y10, y11, y12, y13, x14, y15] ∧ PenOk k p' := by
  obtain ⟨p1, zs, e1, l1, l2, hz, h1⟩ := S1_ok (k := k + 150) (p := p) (x0 := x0) (x2 := x2) (x3 := x3) (x4 := x4) (x5 := x5) (x6 := x6) (x7 := x7) (x8 := x8) (x9 := x9) (x10 := x10) (x11 := x11) (x12 := x12) (x13 := x13) (x14 := x14) (x15 := x15) h
  cases zs with
  | nil => simp at l1
  | cons z zs =>
    have hz0 := hz z (List.mem_cons_self ..)
    obtain ⟨p3, y4, e3, h3⟩ := S3_ok (k := k + 148) (p := p1) (z := z) (zs := zs) (x0 := x0) (x2 := x2) (x4 := x4) (x5 := x5) (x6 := x6) (x7 := x7) (x8 := x8) (x9 := x9) (x10 := x10) (x11 := x11) (x12 := x12) (x13 := x13) (x14 := x14) (x15 := x15) h1 hz0
    obtain ⟨p4, ws, e4, hwl, hw, h4⟩ := S4_ok (k := k + 138) (p := p3) (zs := z :: zs) (x0 := x0) (x2 := x2) (x4 := y4) (x5 := x5) (x6 := x6) (x7 := x7) (x8 := x8) (x9 := x9) (x10 := x10) (x11 := x11) (x12 := x12) (x13 := x13) (x14 := x14) (x15 := x15) h3 hz l1 l2
    obtain ⟨p5, v, e5, v0, v1, h5⟩ := S5_ok (k := k + 137) (p := p4) (F := ws.map .str) (x0 := x0) (x2 := x2) (x3 := some (.fz (.lst ((z :: zs).map .str)))) (x4 := y4) (x6 := x6) (x7 := x7) (x8 := x8) (x9 := x9) (x10 := x10) (x11 := x11) (x12 := x12) (x13 := x13) (x14 := x14) (x15 := none) h4 (by rw [List.length_map]; omega)
    obtain ⟨p6, us, e6, hul, hu, h6⟩ := S6_ok (k := k + 129) (p := p5) (zs := z :: zs) (ws := ws) (v := v) (x0 := x0) (x2 := x2) (x4 := y4) (x7 := x7) (x8 := x8) (x9 := x9) (x10 := x10) (x11 := x11) (x12 := x12) (x13 := x13) (x14 := x14) h5 hz l1 l2 hw hwl v0
    have e7 := S7_ok (ws := ws) (us := us) (p := p6) (x0 := x0) (x2 := x2) (x3 := some (.fz (.lst ((z :: zs).map .str)))) (x4 := y4) (x6 := some (.fz (.int v))) (x8 := x8) (x9 := x9) (x10 := x10) (x11 := x11) (x12 := x12) (x13 := x13) (x14 := x14) (x15 := none)
    obtain ⟨p8, e8, h8⟩ := S8_ok (k := k + 128) (ws := ws) (us := us) (p := p6) (x0 := x0) (x2 := x2) (x3 := some (.fz (.lst ((z :: zs).map .str)))) (x4 := y4) (x6 := some (.fz (.int v))) (x9 := x9) (x10 := x10) (x11 := x11) (x12 := x12) (x13 := x13) (x14 := x14) (x15 := none) h6
    obtain ⟨p10, y4', e10, h10⟩ := S10_ok (k := k + 127) (p := p8) (z := z) (zs := zs) (ws := ws) (us := us) (x0 := x0) (x2 := x2) (x4 := y4) (x6 := some (.fz (.int v))) (x8 := some (.fz (.bl (ltW ws us)))) (x9 := x9) (x10 := x10) (x11 := x11) (x12 := x12) (x13 := x13) (x14 := x14) (x15 := none) h8 hz0 hw hwl hu hul
    have e11 := S11_ok (p := p10) (ws := ws) (x0 := x0) (x2 := x2) (x3 := some (.fz (.lst ((z :: zs).map .str)))) (x4 := y4') (x6 := some (.fz (.int v))) (x7 := some (.fz (.tup (us.map .str)))) (x8 := some (.fz (.bl (ltW ws us)))) (x9 := x9) (x10 := x10) (x11 := x11) (x12 := x12) (x13 := x13) (x14 := x14) (x15 := none) hw hwl
    have e12 := S12_ok (p := p10) (ws := ws) (x0 := x0) (x2 := x2) (x3 := some (.fz (.lst ((z :: zs).map .str)))) (x4 := y4') (x6 := some (.fz (.int v))) (x7 := some (.fz (.tup (us.map .str)))) (x8 := some (.fz (.bl (ltW ws us)))) (x10 := x10) (x11 := x11) (x12 := x12) (x13 := x13) (x14 := x14) (x15 := none) hw hwl
    obtain ⟨L, e13, hl, hg⟩ := S13_ok (p := p10) (ws := ws) (x0 := x0) (x2 := x2) (x3 := some (.fz (.lst ((z :: zs).map .str)))) (x4 := y4') (x5 := some (.fz (.tup (ws.map .str)))) (x6 := some (.fz (.int v))) (x7 := some (.fz (.tup (us.map .str)))) (x8 := some (.fz (.bl (ltW ws us)))) (x10 := x10) (x11 := x11) (x12 := x12) (x13 := x13) (x14 := x14) (x15 := none) hw hwl
    obtain ⟨p14, y10, y11, y12, y13, e14, h14⟩ := inner_ok (k := k) (p := p10) (zs := z :: zs) (L := L) (x0 := x0) (x2 := x2) (x4 := y4') (x5 := some (.fz (.tup (ws.map .str)))) (x6 := some (.fz (.int v))) (x7 := some (.fz (.tup (us.map .str)))) (x8 := some (.fz (.bl (ltW ws us)))) (x9 := some (.fz (.str (wt ws)))) (x11 := x11) (x12 := x12) (x13 := x13) (x14 := x14) (x15 := none) (h10.le (by omega)) hz (by omega) hg hl
    have E : b_law_L2 [x0, some (.ow (penD p)), x2, x3, x4, x5, x6, x7, x8, x9, x10, x11, x12, x13, x14, x15] = .nx [x0, some (.ow (penD p14)), x2, some (.fz (.lst ((z :: zs).map .str))), y4', some (.fz (.tup (ws.map .str))), some (.fz (.int v)), some (.fz (.tup (us.map .str))), some (.fz (.bl (ltW ws us))), some (.fz (.str (wt ws))), y10, y11, y12, y13, x14, none] := by
      unfold b_law_L2
      rw [List.map_cons] at *
      rw [sSeq_ap, e1, So.bind_nx, sSeq_ap, e3, So.bind_nx, sSeq_ap, e4, So.bind_nx, sSeq_ap, e5, So.bind_nx, sSeq_ap, e6, So.bind_nx, sSeq_ap, e7, So.bind_nx, sSeq_ap, e8, So.bind_nx, sSeq_ap, e10, So.bind_nx, sSeq_ap, e11, So.bind_nx, sSeq_ap, e12, So.bind_nx, sSeq_ap, e13, So.bind_nx, e14]
    exact ⟨p14, _, _, _, _, _, _, _, _, _, _, _, _, E, h14⟩
/-! the end -/
theorem rows_err {d : D} (h : isiD "str" d = some (.bl false)) : f_rows_of [d] = .err "BadText" bt0 [d] := by
  simp -implicitDefEqProofs [f_rows_of, fnD, b_rows_of, h, bt0]
theorem read_err {d : D} (h : isiD "str" d = some (.bl false)) : f_word_read [d] = .err "BadText" bt0 [d] := by
  have e := rows_err h
  simp -implicitDefEqProofs [f_word_read, fnD, b_word_read, e]
theorem asc_e : Asc 100000 ("" : Str) := ⟨by decide +kernel, by decide +kernel⟩
theorem asc_n : Asc 100000 ("nothing" : Str) := ⟨by decide +kernel, by decide +kernel⟩
theorem S18_ok {k : Nat} {p : Pen} {x0 x2 x3 x4 x5 x6 x7 x8 x9 x10 x11 x12 x13 x14 x15 : Option Sl} (h : PenOk (k + 1) p) : ∃ (p' : Pen) (d : D), b_law_S18 [x0, some (.ow (penD p)), x2, x3, x4, x5, x6, x7, x8, x9, x10, x11, x12, x13, x14, x15] = .nx [x0, some (.ow (penD p')), x2, x3, x4, x5, x6, x7, x8, x9, x10, x11, x12, x13, some (.fz d), x15] ∧ isiD "str" d = some (.bl false) ∧ PenOk k p' := by
  obtain ⟨d, p1, e1, hd, h1⟩ := pick_ok (k := k) (p := p) (xs := [.non, .int 5, .tup [], .lst [.str "a"], .bl true, .dic false []]) h (by simp) (by simp)
  refine ⟨p1, d, ?_, ?_, h1⟩
  · simp -implicitDefEqProofs [b_law_S18, e1]
  · simp only [List.mem_cons, List.not_mem_nil, or_false] at hd
    rcases hd with rfl | rfl | rfl | rfl | rfl | rfl <;> simp
theorem S19_ok {ρ : Rho} : b_law_S19 ρ = .nx ρ := by
  have r1 := word_read_ok asc_e
  have q1 : wrongAt ("" : Str) = some 1 := by decide +kernel
  rw [q1] at r1
  have w1 := why_bt 1
  have n1 : neD (wr 1) (.lst [.str "text", .int 1, .int 1]) = some (.bl false) := ne_wr 1
  obtain ⟨t1, _⟩ := word_text_ok (zs := NP) (m := 2) ⟨by decide, np_asc⟩ (by decide)
  have q2 : wt NP = ("nothing pressed" : Str) := by decide +kernel
  rw [q2, show NP.map D.str = [.str "nothing", .str "pressed"] from rfl] at t1
  have r2 := word_read_ok asc_n
  have q3 : wrongAt ("nothing" : Str) = none := by decide +kernel
  have q4 : rdW (ws0 ("nothing" : Str)) = [("nothing" : Str)] := by decide +kernel
  rw [q3, q4] at r2
  dsimp only at r1 r2
  rw [show [("nothing" : Str)].map D.str = [.str "nothing"] from rfl] at r2
  have n2 : neD (.tup [.str "nothing"]) (.tup [.str "nothing"]) = some (.bl false) := by kernel_rfl
  simp -implicitDefEqProofs [b_law_S19, r1, w1, n1, t1, r2, n2]
theorem S20_ok {p : Pen} {d : D} {x0 x2 x3 x4 x5 x6 x7 x8 x9 x10 x11 x12 x13 x15 : Option Sl} (h : isiD "str" d = some (.bl false)) : b_law_S20 [x0, some (.ow (penD p)), x2, x3, x4, x5, x6, x7, x8, x9, x10, x11, x12, x13, some (.fz d), x15] = .rt (.bl true) [x0, some (.ow (penD p)), x2, x3, x4, x5, x6, x7, x8, x9, x10, x11, x12, x13, some (.fz d), x15] := by
  have r1 := read_err h
  have w := why_bt0
  have n : eqD (.lst [.str "text", .int 0, .int 0]) (.lst [.str "text", .int 0, .int 0]) = some (.bl true) := by kernel_rfl
  simp -implicitDefEqProofs [b_law_S20, r1, w, n]
theorem pure_law : ∀ ns : List Int, ns.length ≤ 63 → (∀ z ∈ ns, Builtin.Int.intBits z ≤ 1048576) → ∃ ρ, b_law (some (.fz (.scr ns)) :: List.replicate (["script", "pen", "lap", "keys", "value", "word", "at", "other", "due", "text", "words", "turn", "bent", "wrong", "odd", "spot"].length - 1) none) = .rt (.bl true) ρ := by
  intro ns _ _
  obtain ⟨p, ds, e0, h0⟩ := pen_ok ns
  have er : rng1 [.int 5] = some (rngD 0 5) := rng1_int (by decide)
  obtain ⟨ρ', e, ⟨p1, x2, x3, x4, x5, x6, x7, x8, x9, x10, x11, x12, x13, x14, x15, rfl, h1⟩⟩ := forD_inv (g := gN 2) (body := b_law_L2)
    (fun ds ρ => ∃ (p : Pen) (x2 x3 x4 x5 x6 x7 x8 x9 x10 x11 x12 x13 x14 x15 : Option Sl), ρ = [some (.fz (.scr ns)), some (.ow (penD p)), x2, x3, x4, x5, x6, x7, x8, x9, x10, x11, x12, x13, x14, x15] ∧ PenOk (1 + 200 * ds.length) p) (by
      rintro d ds ρ ⟨p, x2, x3, x4, x5, x6, x7, x8, x9, x10, x11, x12, x13, x14, x15, rfl, h⟩
      obtain ⟨p', y3, y4, y5, y6, y7, y8, y9, y10, y11, y12, y13, y15, e, h1⟩ := lap_ok (k := 1 + 200 * ds.length) (p := p) (x0 := some (.fz (.scr ns))) (x2 := some (.fz d)) (x3 := x3) (x4 := x4) (x5 := x5) (x6 := x6) (x7 := x7) (x8 := x8) (x9 := x9) (x10 := x10) (x11 := x11) (x12 := x12) (x13 := x13) (x14 := x14) (x15 := x15) h
      exact ⟨_, rfl, _, e, p', _, _, _, _, _, _, _, _, _, _, _, _, _, _, rfl, h1⟩) (rngD 0 5) [some (.fz (.scr ns)), some (.ow (penD p)), none, none, none, none, none, none, none, none, none, none, none, none, none, none]
    ⟨p, none, none, none, none, none, none, none, none, none, none, none, none, none, none, rfl, h0.le (by decide)⟩
  obtain ⟨p2, d, e2, hd, h2⟩ := S18_ok (k := 0) (p := p1) (x0 := some (.fz (.scr ns))) (x2 := x2) (x3 := x3) (x4 := x4) (x5 := x5) (x6 := x6) (x7 := x7) (x8 := x8) (x9 := x9) (x10 := x10) (x11 := x11) (x12 := x12) (x13 := x13) (x14 := x14) (x15 := x15) h1
  have e3 := S20_ok (p := p2) (d := d) (x0 := some (.fz (.scr ns))) (x2 := x2) (x3 := x3) (x4 := x4) (x5 := x5) (x6 := x6) (x7 := x7) (x8 := x8) (x9 := x9) (x10 := x10) (x11 := x11) (x12 := x12) (x13 := x13) (x15 := x15) hd
  have s19 := fun ρ => S19_ok (ρ := ρ)
  refine ⟨[some (.fz (.scr ns)), some (.ow (penD p2)), x2, x3, x4, x5, x6, x7, x8, x9, x10, x11, x12, x13, some (.fz d), x15], ?_⟩
  simp -implicitDefEqProofs [b_law, e0, er, e, e2, s19, e3]
end G

set_option Elab.async false
set_option linter.all false
set_option maxRecDepth 100000
set_option maxHeartbeats 8000000
namespace G
open PySem PySem.Spec L2 VL
theorem exm_pair {K : PySem.W.Frag} {E S : Addr} {b : Bool} (h1 : PySem.W.subIn K (.ref S) (.type "BaseException") = some true) (h2 : PySem.W.isClsIn K S = true) (h3 : PySem.W.typeIn K (.ref S) = some (.type "type")) (h4 : PySem.W.subIn K (.ref E) (.ref S) = some b) :
    PySem.W.exmOne K (.ref E) (.ref S) = some b := by
  have e1 : (PySem.W.subIn K (.ref S) (.type "BaseException") == some true) = true := by rw [h1] <;> rfl
  have e2 : ((PySem.W.clsIn K S).isSome && PySem.W.typeIn K (.ref S) == some (.type "type")) = true := by
    have h2' : (PySem.W.clsIn K S).isSome = true := h2
    rw [h2', h3] <;> rfl
  show (if (PySem.W.subIn K (.ref S) (.type "BaseException") == some true) = true then (if ((PySem.W.clsIn K S).isSome && PySem.W.typeIn K (.ref S) == some (.type "type")) = true then PySem.W.subIn K (.ref E) (.ref S) else none) else none) = some b
  rw [if_pos e1, if_pos e2]
  exact h4
theorem fld_nil {T : Tb} {f : Str} : FldOk T [] f := fun _ h => nomatch h
theorem fld_cons {T : Tb} {f c : Str} {cs : List Str} (h1 : Cls T.K (T.cl c)) (h2 : NoAttr T.K (T.cl c) f) (r : FldOk T cs f) : FldOk T (c :: cs) f := fun x h => by
  cases h with
  | head => exact ⟨h1, h2⟩
  | tail _ h => exact r x h
theorem xm_nil {T : Tb} {c : Str} : XmOk T c [] := fun _ _ h => by cases h
theorem xm_cons {T : Tb} {c e : Str} {b : Bool} {l : List (Str × Bool)} (h : PySem.W.exmOne T.K (.ref (T.cl e)) (.ref (T.cl c)) = some b) (r : XmOk T c l) : XmOk T c ((e, b) :: l) := fun x y q => by
  rw [List.lookup_cons] at q
  split at q
  · rename_i z
    have : x = e := by simpa using z
    subst this
    cases q
    exact h
  · exact r x y q
theorem pick_ex (l : List (Str × Addr)) (h : (l.map (·.1)).Nodup) : ∃ f : Str → Addr, ∀ p ∈ l, f p.1 = p.2 := by
  induction l with
  | nil => exact ⟨fun _ => (0 : Nat), fun p hp => nomatch hp⟩
  | cons q l ih =>
    obtain ⟨f, hf⟩ := ih (List.nodup_cons.mp h).2
    refine ⟨fun x => if x = q.1 then q.2 else f x, fun p hp => ?_⟩
    cases hp with
    | head => exact if_pos rfl
    | tail _ hp =>
      have : p.1 ≠ q.1 := fun z => (List.nodup_cons.mp h).1 (by show q.1 ∈ List.map (fun x => x.1) l; rw [← z]; exact List.mem_map_of_mem hp)
      exact (if_neg this).trans (hf p hp)
theorem law_T (T : Tb) {mg : Str → Option Value} {h : Heap} (XK : T.K.In h) (G : h.Ns mainGlobals mg) {k_a_NOTHING i_BadText m_Reader_init m_Reader_refuse m_Reader_seen m_Reader_goes_on m_Reader_take cc P : Addr} {t_FIGURES t_LETTERS t_NOTHING_0 t_NOTHING_1 : Tok} {od_NOTHING dd_BadText od_i_BadText an_i_BadText od__law_pen an__law_pen od__law_draw an__law_draw od__law_pick an__law_pick od__law_shuffled an__law_shuffled od__law_name an__law_name od__law_names an__law_names od__law_odd_name an__law_odd_name od__law_same an__law_same od__law_bent_words an__law_bent_words od__law_is_name an__law_is_name od__law_first_wrong an__law_first_wrong od_word_text an_word_text od_m_Reader_init an_m_Reader_init od_m_Reader_refuse an_m_Reader_refuse od_m_Reader_seen an_m_Reader_seen od_m_Reader_goes_on an_m_Reader_goes_on od_rows_of an_rows_of od_is_name an_is_name od_m_Reader_take an_m_Reader_take od_word_read an_word_read od_place_of an_place_of od_comes_before an_comes_before od_is_word an_is_word od__law_is_word an__law_is_word od__law_why an__law_why od_law an_law : Option Addr} {sl_NOTHING sl_i_BadText sl__law_pen sl__law_draw sl__law_pick sl__law_shuffled sl__law_name sl__law_names sl__law_odd_name sl__law_same sl__law_bent_words sl__law_is_name sl__law_first_wrong sl_word_text sl_m_Reader_init sl_m_Reader_refuse sl_m_Reader_seen sl_m_Reader_goes_on sl_rows_of sl_is_name sl_m_Reader_take sl_word_read sl_place_of sl_comes_before sl_is_word sl__law_is_word sl__law_why sl_law : Array (Option Value)} {n_NOTHING : Nat} {nm_BadText q_BadText : Str} {N_BadText : Addr} {bs_BadText bm_BadText sub_BadText : List Value} {sn_BadText : List Str} {ab_BadText : Bool} {col_BadText : Option Bool} {m0_BadText m1_BadText m2_BadText m3_BadText m5_BadText : Option Value} {oc_i_BadText kV_i_BadText dc_i_BadText pm_i_BadText ct_i_BadText cd_i_BadText oc__law_pen kV__law_pen dc__law_pen pm__law_pen ct__law_pen cd__law_pen oc__law_draw kV__law_draw dc__law_draw pm__law_draw ct__law_draw cd__law_draw oc__law_pick kV__law_pick dc__law_pick pm__law_pick ct__law_pick cd__law_pick oc__law_shuffled kV__law_shuffled dc__law_shuffled pm__law_shuffled ct__law_shuffled cd__law_shuffled oc__law_name kV__law_name dc__law_name pm__law_name ct__law_name cd__law_name oc__law_names kV__law_names dc__law_names pm__law_names ct__law_names cd__law_names oc__law_odd_name kV__law_odd_name dc__law_odd_name pm__law_odd_name ct__law_odd_name cd__law_odd_name oc__law_same kV__law_same dc__law_same pm__law_same ct__law_same cd__law_same oc__law_bent_words kV__law_bent_words dc__law_bent_words pm__law_bent_words ct__law_bent_words cd__law_bent_words oc__law_is_name kV__law_is_name dc__law_is_name pm__law_is_name ct__law_is_name cd__law_is_name oc__law_first_wrong kV__law_first_wrong dc__law_first_wrong pm__law_first_wrong ct__law_first_wrong cd__law_first_wrong oc_word_text kV_word_text dc_word_text pm_word_text ct_word_text cd_word_text oc_m_Reader_init kV_m_Reader_init dc_m_Reader_init pm_m_Reader_init ct_m_Reader_init cd_m_Reader_init oc_m_Reader_refuse kV_m_Reader_refuse dc_m_Reader_refuse pm_m_Reader_refuse ct_m_Reader_refuse cd_m_Reader_refuse oc_m_Reader_seen kV_m_Reader_seen dc_m_Reader_seen pm_m_Reader_seen ct_m_Reader_seen cd_m_Reader_seen oc_m_Reader_goes_on kV_m_Reader_goes_on dc_m_Reader_goes_on pm_m_Reader_goes_on ct_m_Reader_goes_on cd_m_Reader_goes_on oc_rows_of kV_rows_of dc_rows_of pm_rows_of ct_rows_of cd_rows_of oc_is_name kV_is_name dc_is_name pm_is_name ct_is_name cd_is_name oc_m_Reader_take kV_m_Reader_take dc_m_Reader_take pm_m_Reader_take ct_m_Reader_take cd_m_Reader_take oc_word_read kV_word_read dc_word_read pm_word_read ct_word_read cd_word_read oc_place_of kV_place_of dc_place_of pm_place_of ct_place_of cd_place_of oc_comes_before kV_comes_before dc_comes_before pm_comes_before ct_comes_before cd_comes_before oc_is_word kV_is_word dc_is_word pm_is_word ct_is_word cd_is_word oc__law_is_word kV__law_is_word dc__law_is_word pm__law_is_word ct__law_is_word cd__law_is_word oc__law_why kV__law_why dc__law_why pm__law_why ct__law_why cd__law_why oc_law kV_law dc_law pm_law ct_law : Value}
    (aC_BadName : PySem.W.nsIn T.K mainGlobals "BadName" = some (some (.ref (T.cl "BadName"))))
    (aC_BadNumber : PySem.W.nsIn T.K mainGlobals "BadNumber" = some (some (.ref (T.cl "BadNumber"))))
    (aC_BadRow : PySem.W.nsIn T.K mainGlobals "BadRow" = some (some (.ref (T.cl "BadRow"))))
    (aC_BadText : PySem.W.nsIn T.K mainGlobals "BadText" = some (some (.ref (T.cl "BadText"))))
    (aC_NoName : PySem.W.nsIn T.K mainGlobals "NoName" = some (some (.ref (T.cl "NoName"))))
    (aC_TakenName : PySem.W.nsIn T.K mainGlobals "TakenName" = some (some (.ref (T.cl "TakenName"))))
    (aC_TooMany : PySem.W.nsIn T.K mainGlobals "TooMany" = some (some (.ref (T.cl "TooMany"))))
    (aC_Unlike : PySem.W.nsIn T.K mainGlobals "Unlike" = some (some (.ref (T.cl "Unlike"))))
    (a_FIGURES : PySem.W.nsIn T.K mainGlobals "FIGURES" = some (some (.str "0123456789" t_FIGURES)))
    (a_LETTERS : PySem.W.nsIn T.K mainGlobals "LETTERS" = some (some (.str "abcdefghijklmnopqrstuvwxyz" t_LETTERS)))
    (a_NOTHING : PySem.W.nsIn T.K mainGlobals "NOTHING" = some (some (.ref k_a_NOTHING)))
    (l_NOTHING : T.K.lookup k_a_NOTHING = some ⟨.type "tuple", od_NOTHING, .seq #[.str "nothing" t_NOTHING_0, .str "pressed" t_NOTHING_1] n_NOTHING, sl_NOTHING⟩)
    (aC_Reader : PySem.W.nsIn T.K mainGlobals "Reader" = some (some (.ref (T.cl "Reader"))))
    (pg_Reader : PySem.W.plainGet T.K (T.cl "Reader") Str.empty = true)
    (hd_Reader : PySem.W.hasDictIn T.K (T.cl "Reader") = true)
    (po_Reader : PySem.W.plainOver T.K (T.cl "Reader") = true)
    (sa_Reader : PySem.W.findIn T.K (.ref (T.cl "Reader")) "__setattr__" = some (some (.builtin "object.__setattr__")))
    (na_Reader_at : PySem.W.findIn T.K (.ref (T.cl "Reader")) "at" = some none)
    (na_Reader_line : PySem.W.findIn T.K (.ref (T.cl "Reader")) "line" = some none)
    (na_Reader_rows : PySem.W.findIn T.K (.ref (T.cl "Reader")) "rows" = some none)
    (z_all : PySem.W.nsIn T.K mainGlobals "all" = some none)
    (z_bool : PySem.W.nsIn T.K mainGlobals "bool" = some none)
    (z_enumerate : PySem.W.nsIn T.K mainGlobals "enumerate" = some none)
    (z_int : PySem.W.nsIn T.K mainGlobals "int" = some none)
    (z_isinstance : PySem.W.nsIn T.K mainGlobals "isinstance" = some none)
    (z_len : PySem.W.nsIn T.K mainGlobals "len" = some none)
    (z_list : PySem.W.nsIn T.K mainGlobals "list" = some none)
    (z_range : PySem.W.nsIn T.K mainGlobals "range" = some none)
    (z_repr : PySem.W.nsIn T.K mainGlobals "repr" = some none)
    (z_str : PySem.W.nsIn T.K mainGlobals "str" = some none)
    (z_tuple : PySem.W.nsIn T.K mainGlobals "tuple" = some none)
    (ga_BadText : PySem.W.findIn T.K (.ref (T.cl "BadText")) "__getattribute__" = some (some (.builtin "BaseException.__getattribute__")))
    (gg_BadText : PySem.W.findIn T.K (.ref (T.cl "BadText")) "__getattr__" = some none)
    (ex_BadText : PySem.W.subIn T.K (.ref (T.cl "BadText")) (.type "BaseException") = some true)
    (hd_BadText : PySem.W.hasDictIn T.K (T.cl "BadText") = true)
    (xn_BadText_line : PySem.W.findIn T.K (.ref (T.cl "BadText")) "line" = some none)
    (xn_BadText_word : PySem.W.findIn T.K (.ref (T.cl "BadText")) "word" = some none)
    (ic_BadText : PySem.W.isClsIn T.K (T.cl "BadText") = true)
    (tc_BadText : PySem.W.typeIn T.K (.ref (T.cl "BadText")) = some (.type "type"))
    (sc_BadText_BadText : PySem.W.subIn T.K (.ref (T.cl "BadText")) (.ref (T.cl "BadText")) = some true)
    (xl_BadText : T.K.lookup (T.cl "BadText") = some (excClassObj nm_BadText q_BadText (T.cl "BadText") N_BadText bs_BadText bm_BadText true sn_BadText sub_BadText ab_BadText col_BadText dd_BadText m0_BadText m1_BadText m2_BadText m3_BadText m5_BadText "ValueError.__new__"))
    (rv_BadText : PySem.HandSPX.refsVE bm_BadText = true)
    (sa_BadText : PySem.W.findIn T.K (.ref (T.cl "BadText")) "__setattr__" = some (some (.builtin "object.__setattr__")))
    (kC_BadText : PySem.W.keepIn T.K (.ref (T.cl "BadText")) = true)
    (ii_BadText : PySem.W.findIn T.K (.ref (T.cl "BadText")) "__init__" = some (some (.ref i_BadText)))
    (it_BadText : PySem.W.typeIn T.K (.ref i_BadText) = some (.type "function"))
    (l_i_BadText : T.K.lookup i_BadText = some ⟨oc_i_BadText, od_i_BadText, .func (PySem.W.fnOf "__init__" "BadText.__init__" (defArgs s_exc_BadText) (defBody s_exc_BadText) (defScope s_exc_BadText) .none kV_i_BadText dc_i_BadText pm_i_BadText an_i_BadText cd_i_BadText ct_i_BadText), sl_i_BadText⟩)
    (c_i_BadText : PySem.W.codeIn T.K cd_i_BadText "BadText.__init__" = true)
    (k_i_BadText : PySem.W.keepIn T.K (.ref i_BadText) = true)
    (a__law_pen : PySem.W.nsIn T.K mainGlobals "_law_pen" = some (some (.ref (T.fa "_law_pen"))))
    (l__law_pen : T.K.lookup (T.fa "_law_pen") = some ⟨oc__law_pen, od__law_pen, .func (PySem.W.fnOf "_law_pen" "_law_pen" (defArgs s__law_pen) (defBody s__law_pen) (defScope s__law_pen) .none kV__law_pen dc__law_pen pm__law_pen an__law_pen cd__law_pen ct__law_pen), sl__law_pen⟩)
    (c__law_pen : PySem.W.codeIn T.K cd__law_pen "_law_pen" = true)
    (k__law_pen : PySem.W.keepIn T.K (.ref (T.fa "_law_pen")) = true)
    (a__law_draw : PySem.W.nsIn T.K mainGlobals "_law_draw" = some (some (.ref (T.fa "_law_draw"))))
    (l__law_draw : T.K.lookup (T.fa "_law_draw") = some ⟨oc__law_draw, od__law_draw, .func (PySem.W.fnOf "_law_draw" "_law_draw" (defArgs s__law_draw) (defBody s__law_draw) (defScope s__law_draw) .none kV__law_draw dc__law_draw pm__law_draw an__law_draw cd__law_draw ct__law_draw), sl__law_draw⟩)
    (c__law_draw : PySem.W.codeIn T.K cd__law_draw "_law_draw" = true)
    (k__law_draw : PySem.W.keepIn T.K (.ref (T.fa "_law_draw")) = true)
    (a__law_pick : PySem.W.nsIn T.K mainGlobals "_law_pick" = some (some (.ref (T.fa "_law_pick"))))
    (l__law_pick : T.K.lookup (T.fa "_law_pick") = some ⟨oc__law_pick, od__law_pick, .func (PySem.W.fnOf "_law_pick" "_law_pick" (defArgs s__law_pick) (defBody s__law_pick) (defScope s__law_pick) .none kV__law_pick dc__law_pick pm__law_pick an__law_pick cd__law_pick ct__law_pick), sl__law_pick⟩)
    (c__law_pick : PySem.W.codeIn T.K cd__law_pick "_law_pick" = true)
    (k__law_pick : PySem.W.keepIn T.K (.ref (T.fa "_law_pick")) = true)
    (a__law_shuffled : PySem.W.nsIn T.K mainGlobals "_law_shuffled" = some (some (.ref (T.fa "_law_shuffled"))))
    (l__law_shuffled : T.K.lookup (T.fa "_law_shuffled") = some ⟨oc__law_shuffled, od__law_shuffled, .func (PySem.W.fnOf "_law_shuffled" "_law_shuffled" (defArgs s__law_shuffled) (defBody s__law_shuffled) (defScope s__law_shuffled) .none kV__law_shuffled dc__law_shuffled pm__law_shuffled an__law_shuffled cd__law_shuffled ct__law_shuffled), sl__law_shuffled⟩)
    (c__law_shuffled : PySem.W.codeIn T.K cd__law_shuffled "_law_shuffled" = true)
    (k__law_shuffled : PySem.W.keepIn T.K (.ref (T.fa "_law_shuffled")) = true)
    (a__law_name : PySem.W.nsIn T.K mainGlobals "_law_name" = some (some (.ref (T.fa "_law_name"))))
    (l__law_name : T.K.lookup (T.fa "_law_name") = some ⟨oc__law_name, od__law_name, .func (PySem.W.fnOf "_law_name" "_law_name" (defArgs s__law_name) (defBody s__law_name) (defScope s__law_name) .none kV__law_name dc__law_name pm__law_name an__law_name cd__law_name ct__law_name), sl__law_name⟩)
    (c__law_name : PySem.W.codeIn T.K cd__law_name "_law_name" = true)
    (k__law_name : PySem.W.keepIn T.K (.ref (T.fa "_law_name")) = true)
    (a__law_names : PySem.W.nsIn T.K mainGlobals "_law_names" = some (some (.ref (T.fa "_law_names"))))
    (l__law_names : T.K.lookup (T.fa "_law_names") = some ⟨oc__law_names, od__law_names, .func (PySem.W.fnOf "_law_names" "_law_names" (defArgs s__law_names) (defBody s__law_names) (defScope s__law_names) .none kV__law_names dc__law_names pm__law_names an__law_names cd__law_names ct__law_names), sl__law_names⟩)
    (c__law_names : PySem.W.codeIn T.K cd__law_names "_law_names" = true)
    (k__law_names : PySem.W.keepIn T.K (.ref (T.fa "_law_names")) = true)
    (a__law_odd_name : PySem.W.nsIn T.K mainGlobals "_law_odd_name" = some (some (.ref (T.fa "_law_odd_name"))))
    (l__law_odd_name : T.K.lookup (T.fa "_law_odd_name") = some ⟨oc__law_odd_name, od__law_odd_name, .func (PySem.W.fnOf "_law_odd_name" "_law_odd_name" (defArgs s__law_odd_name) (defBody s__law_odd_name) (defScope s__law_odd_name) .none kV__law_odd_name dc__law_odd_name pm__law_odd_name an__law_odd_name cd__law_odd_name ct__law_odd_name), sl__law_odd_name⟩)
    (c__law_odd_name : PySem.W.codeIn T.K cd__law_odd_name "_law_odd_name" = true)
    (k__law_odd_name : PySem.W.keepIn T.K (.ref (T.fa "_law_odd_name")) = true)
    (a__law_same : PySem.W.nsIn T.K mainGlobals "_law_same" = some (some (.ref (T.fa "_law_same"))))
    (l__law_same : T.K.lookup (T.fa "_law_same") = some ⟨oc__law_same, od__law_same, .func (PySem.W.fnOf "_law_same" "_law_same" (defArgs s__law_same) (defBody s__law_same) (defScope s__law_same) .none kV__law_same dc__law_same pm__law_same an__law_same cd__law_same ct__law_same), sl__law_same⟩)
    (c__law_same : PySem.W.codeIn T.K cd__law_same "_law_same" = true)
    (k__law_same : PySem.W.keepIn T.K (.ref (T.fa "_law_same")) = true)
    (a__law_bent_words : PySem.W.nsIn T.K mainGlobals "_law_bent_words" = some (some (.ref (T.fa "_law_bent_words"))))
    (l__law_bent_words : T.K.lookup (T.fa "_law_bent_words") = some ⟨oc__law_bent_words, od__law_bent_words, .func (PySem.W.fnOf "_law_bent_words" "_law_bent_words" (defArgs s__law_bent_words) (defBody s__law_bent_words) (defScope s__law_bent_words) .none kV__law_bent_words dc__law_bent_words pm__law_bent_words an__law_bent_words cd__law_bent_words ct__law_bent_words), sl__law_bent_words⟩)
    (c__law_bent_words : PySem.W.codeIn T.K cd__law_bent_words "_law_bent_words" = true)
    (k__law_bent_words : PySem.W.keepIn T.K (.ref (T.fa "_law_bent_words")) = true)
    (a__law_is_name : PySem.W.nsIn T.K mainGlobals "_law_is_name" = some (some (.ref (T.fa "_law_is_name"))))
    (l__law_is_name : T.K.lookup (T.fa "_law_is_name") = some ⟨oc__law_is_name, od__law_is_name, .func (PySem.W.fnOf "_law_is_name" "_law_is_name" (defArgs s__law_is_name) (defBody s__law_is_name) (defScope s__law_is_name) .none kV__law_is_name dc__law_is_name pm__law_is_name an__law_is_name cd__law_is_name ct__law_is_name), sl__law_is_name⟩)
    (c__law_is_name : PySem.W.codeIn T.K cd__law_is_name "_law_is_name" = true)
    (k__law_is_name : PySem.W.keepIn T.K (.ref (T.fa "_law_is_name")) = true)
    (a__law_first_wrong : PySem.W.nsIn T.K mainGlobals "_law_first_wrong" = some (some (.ref (T.fa "_law_first_wrong"))))
    (l__law_first_wrong : T.K.lookup (T.fa "_law_first_wrong") = some ⟨oc__law_first_wrong, od__law_first_wrong, .func (PySem.W.fnOf "_law_first_wrong" "_law_first_wrong" (defArgs s__law_first_wrong) (defBody s__law_first_wrong) (defScope s__law_first_wrong) .none kV__law_first_wrong dc__law_first_wrong pm__law_first_wrong an__law_first_wrong cd__law_first_wrong ct__law_first_wrong), sl__law_first_wrong⟩)
    (c__law_first_wrong : PySem.W.codeIn T.K cd__law_first_wrong "_law_first_wrong" = true)
    (k__law_first_wrong : PySem.W.keepIn T.K (.ref (T.fa "_law_first_wrong")) = true)
    (a_word_text : PySem.W.nsIn T.K mainGlobals "word_text" = some (some (.ref (T.fa "word_text"))))
    (l_word_text : T.K.lookup (T.fa "word_text") = some ⟨oc_word_text, od_word_text, .func (PySem.W.fnOf "word_text" "word_text" (defArgs s_word_text) (defBody s_word_text) (defScope s_word_text) .none kV_word_text dc_word_text pm_word_text an_word_text cd_word_text ct_word_text), sl_word_text⟩)
    (c_word_text : PySem.W.codeIn T.K cd_word_text "word_text" = true)
    (k_word_text : PySem.W.keepIn T.K (.ref (T.fa "word_text")) = true)
    (l_m_Reader_init : T.K.lookup m_Reader_init = some ⟨oc_m_Reader_init, od_m_Reader_init, .func (PySem.W.fnOf "__init__" "Reader.__init__" (defArgs s_Reader_init) (defBody s_Reader_init) (defScope s_Reader_init) .none kV_m_Reader_init dc_m_Reader_init pm_m_Reader_init an_m_Reader_init cd_m_Reader_init ct_m_Reader_init), sl_m_Reader_init⟩)
    (c_m_Reader_init : PySem.W.codeIn T.K cd_m_Reader_init "Reader.__init__" = true)
    (k_m_Reader_init : PySem.W.keepIn T.K (.ref m_Reader_init) = true)
    (mk_Reader : PySem.W.makesIn T.K (T.cl "Reader") = true)
    (f_m_Reader_init : PySem.W.findIn T.K (.ref (T.cl "Reader")) "__init__" = some (some (.ref m_Reader_init)))
    (fn_m_Reader_init : PySem.W.isFn T.K (.ref m_Reader_init) = true)
    (kC_Reader : PySem.W.keepIn T.K (.ref (T.cl "Reader")) = true)
    (l_m_Reader_refuse : T.K.lookup m_Reader_refuse = some ⟨oc_m_Reader_refuse, od_m_Reader_refuse, .func (PySem.W.fnOf "refuse" "Reader.refuse" (defArgs s_Reader_refuse) (defBody s_Reader_refuse) (defScope s_Reader_refuse) .none kV_m_Reader_refuse dc_m_Reader_refuse pm_m_Reader_refuse an_m_Reader_refuse cd_m_Reader_refuse ct_m_Reader_refuse), sl_m_Reader_refuse⟩)
    (c_m_Reader_refuse : PySem.W.codeIn T.K cd_m_Reader_refuse "Reader.refuse" = true)
    (k_m_Reader_refuse : PySem.W.keepIn T.K (.ref m_Reader_refuse) = true)
    (f_m_Reader_refuse : PySem.W.findIn T.K (.ref (T.cl "Reader")) "refuse" = some (some (.ref m_Reader_refuse)))
    (fn_m_Reader_refuse : PySem.W.isFn T.K (.ref m_Reader_refuse) = true)
    (l_m_Reader_seen : T.K.lookup m_Reader_seen = some ⟨oc_m_Reader_seen, od_m_Reader_seen, .func (PySem.W.fnOf "seen" "Reader.seen" (defArgs s_Reader_seen) (defBody s_Reader_seen) (defScope s_Reader_seen) .none kV_m_Reader_seen dc_m_Reader_seen pm_m_Reader_seen an_m_Reader_seen cd_m_Reader_seen ct_m_Reader_seen), sl_m_Reader_seen⟩)
    (c_m_Reader_seen : PySem.W.codeIn T.K cd_m_Reader_seen "Reader.seen" = true)
    (k_m_Reader_seen : PySem.W.keepIn T.K (.ref m_Reader_seen) = true)
    (f_m_Reader_seen : PySem.W.findIn T.K (.ref (T.cl "Reader")) "seen" = some (some (.ref m_Reader_seen)))
    (fn_m_Reader_seen : PySem.W.isFn T.K (.ref m_Reader_seen) = true)
    (l_m_Reader_goes_on : T.K.lookup m_Reader_goes_on = some ⟨oc_m_Reader_goes_on, od_m_Reader_goes_on, .func (PySem.W.fnOf "goes_on" "Reader.goes_on" (defArgs s_Reader_goes_on) (defBody s_Reader_goes_on) (defScope s_Reader_goes_on) .none kV_m_Reader_goes_on dc_m_Reader_goes_on pm_m_Reader_goes_on an_m_Reader_goes_on cd_m_Reader_goes_on ct_m_Reader_goes_on), sl_m_Reader_goes_on⟩)
    (c_m_Reader_goes_on : PySem.W.codeIn T.K cd_m_Reader_goes_on "Reader.goes_on" = true)
    (k_m_Reader_goes_on : PySem.W.keepIn T.K (.ref m_Reader_goes_on) = true)
    (f_m_Reader_goes_on : PySem.W.findIn T.K (.ref (T.cl "Reader")) "goes_on" = some (some (.ref m_Reader_goes_on)))
    (fn_m_Reader_goes_on : PySem.W.isFn T.K (.ref m_Reader_goes_on) = true)
    (a_rows_of : PySem.W.nsIn T.K mainGlobals "rows_of" = some (some (.ref (T.fa "rows_of"))))
    (l_rows_of : T.K.lookup (T.fa "rows_of") = some ⟨oc_rows_of, od_rows_of, .func (PySem.W.fnOf "rows_of" "rows_of" (defArgs s_rows_of) (defBody s_rows_of) (defScope s_rows_of) .none kV_rows_of dc_rows_of pm_rows_of an_rows_of cd_rows_of ct_rows_of), sl_rows_of⟩)
    (c_rows_of : PySem.W.codeIn T.K cd_rows_of "rows_of" = true)
    (k_rows_of : PySem.W.keepIn T.K (.ref (T.fa "rows_of")) = true)
    (a_is_name : PySem.W.nsIn T.K mainGlobals "is_name" = some (some (.ref (T.fa "is_name"))))
    (l_is_name : T.K.lookup (T.fa "is_name") = some ⟨oc_is_name, od_is_name, .func (PySem.W.fnOf "is_name" "is_name" (defArgs s_is_name) (defBody s_is_name) (defScope s_is_name) .none kV_is_name dc_is_name pm_is_name an_is_name cd_is_name ct_is_name), sl_is_name⟩)
    (c_is_name : PySem.W.codeIn T.K cd_is_name "is_name" = true)
    (k_is_name : PySem.W.keepIn T.K (.ref (T.fa "is_name")) = true)
    (l_m_Reader_take : T.K.lookup m_Reader_take = some ⟨oc_m_Reader_take, od_m_Reader_take, .func (PySem.W.fnOf "take" "Reader.take" (defArgs s_Reader_take) (defBody s_Reader_take) (defScope s_Reader_take) .none kV_m_Reader_take dc_m_Reader_take pm_m_Reader_take an_m_Reader_take cd_m_Reader_take ct_m_Reader_take), sl_m_Reader_take⟩)
    (c_m_Reader_take : PySem.W.codeIn T.K cd_m_Reader_take "Reader.take" = true)
    (k_m_Reader_take : PySem.W.keepIn T.K (.ref m_Reader_take) = true)
    (f_m_Reader_take : PySem.W.findIn T.K (.ref (T.cl "Reader")) "take" = some (some (.ref m_Reader_take)))
    (fn_m_Reader_take : PySem.W.isFn T.K (.ref m_Reader_take) = true)
    (a_word_read : PySem.W.nsIn T.K mainGlobals "word_read" = some (some (.ref (T.fa "word_read"))))
    (l_word_read : T.K.lookup (T.fa "word_read") = some ⟨oc_word_read, od_word_read, .func (PySem.W.fnOf "word_read" "word_read" (defArgs s_word_read) (defBody s_word_read) (defScope s_word_read) .none kV_word_read dc_word_read pm_word_read an_word_read cd_word_read ct_word_read), sl_word_read⟩)
    (c_word_read : PySem.W.codeIn T.K cd_word_read "word_read" = true)
    (k_word_read : PySem.W.keepIn T.K (.ref (T.fa "word_read")) = true)
    (a_place_of : PySem.W.nsIn T.K mainGlobals "place_of" = some (some (.ref (T.fa "place_of"))))
    (l_place_of : T.K.lookup (T.fa "place_of") = some ⟨oc_place_of, od_place_of, .func (PySem.W.fnOf "place_of" "place_of" (defArgs s_place_of) (defBody s_place_of) (defScope s_place_of) .none kV_place_of dc_place_of pm_place_of an_place_of cd_place_of ct_place_of), sl_place_of⟩)
    (c_place_of : PySem.W.codeIn T.K cd_place_of "place_of" = true)
    (k_place_of : PySem.W.keepIn T.K (.ref (T.fa "place_of")) = true)
    (a_comes_before : PySem.W.nsIn T.K mainGlobals "comes_before" = some (some (.ref (T.fa "comes_before"))))
    (l_comes_before : T.K.lookup (T.fa "comes_before") = some ⟨oc_comes_before, od_comes_before, .func (PySem.W.fnOf "comes_before" "comes_before" (defArgs s_comes_before) (defBody s_comes_before) (defScope s_comes_before) .none kV_comes_before dc_comes_before pm_comes_before an_comes_before cd_comes_before ct_comes_before), sl_comes_before⟩)
    (c_comes_before : PySem.W.codeIn T.K cd_comes_before "comes_before" = true)
    (k_comes_before : PySem.W.keepIn T.K (.ref (T.fa "comes_before")) = true)
    (a_is_word : PySem.W.nsIn T.K mainGlobals "is_word" = some (some (.ref (T.fa "is_word"))))
    (l_is_word : T.K.lookup (T.fa "is_word") = some ⟨oc_is_word, od_is_word, .func (PySem.W.fnOf "is_word" "is_word" (defArgs s_is_word) (defBody s_is_word) (defScope s_is_word) .none kV_is_word dc_is_word pm_is_word an_is_word cd_is_word ct_is_word), sl_is_word⟩)
    (c_is_word : PySem.W.codeIn T.K cd_is_word "is_word" = true)
    (k_is_word : PySem.W.keepIn T.K (.ref (T.fa "is_word")) = true)
    (a__law_is_word : PySem.W.nsIn T.K mainGlobals "_law_is_word" = some (some (.ref (T.fa "_law_is_word"))))
    (l__law_is_word : T.K.lookup (T.fa "_law_is_word") = some ⟨oc__law_is_word, od__law_is_word, .func (PySem.W.fnOf "_law_is_word" "_law_is_word" (defArgs s__law_is_word) (defBody s__law_is_word) (defScope s__law_is_word) .none kV__law_is_word dc__law_is_word pm__law_is_word an__law_is_word cd__law_is_word ct__law_is_word), sl__law_is_word⟩)
    (c__law_is_word : PySem.W.codeIn T.K cd__law_is_word "_law_is_word" = true)
    (k__law_is_word : PySem.W.keepIn T.K (.ref (T.fa "_law_is_word")) = true)
    (a__law_why : PySem.W.nsIn T.K mainGlobals "_law_why" = some (some (.ref (T.fa "_law_why"))))
    (l__law_why : T.K.lookup (T.fa "_law_why") = some ⟨oc__law_why, od__law_why, .func (PySem.W.fnOf "_law_why" "_law_why" (defArgs s__law_why) (defBody s__law_why) (defScope s__law_why) .none kV__law_why dc__law_why pm__law_why an__law_why cd__law_why ct__law_why), sl__law_why⟩)
    (c__law_why : PySem.W.codeIn T.K cd__law_why "_law_why" = true)
    (k__law_why : PySem.W.keepIn T.K (.ref (T.fa "_law_why")) = true)
    (a_law : PySem.W.nsIn T.K mainGlobals "law" = some (some (.ref (T.fa "law"))))
    (l_law : T.K.lookup (T.fa "law") = some ⟨oc_law, od_law, .func (PySem.W.fnOf "law" "law" (defArgs s_law) (defBody s_law) (defScope s_law) .none kV_law dc_law pm_law an_law (.ref cc) ct_law), sl_law⟩)
    (c_law : PySem.W.codeIn T.K (.ref cc) "law" = true)
    (tab : PySem.W.tabIn T.K "law" = some (cc, P))
    (nP : T.K.lookup P = none)
    (hp : ∀ ns : List Int, ns.length ≤ 63 → (∀ z ∈ ns, Builtin.Int.intBits z ≤ 1048576) → ∃ ρ, b_law (some (.fz (.scr ns)) :: List.replicate (["script", "pen", "lap", "keys", "value", "word", "at", "other", "due", "text", "words", "turn", "bent", "wrong", "odd", "spot"].length - 1) none) = .rt (.bl true) ρ) :
    ∀ (s : Shared) (a : Addr) (ns : List Int), ns.length ≤ 63 → (∀ z ∈ ns, Builtin.Int.intBits z ≤ 1048576) → ∀ (base : Heap) (H : Hp), T.K.In base → base.Ns mainGlobals mg → LamX.TabB base mg cc P → H P = some (.tbl #[]) → SqL T.K H a (ns.map V.int) → (∀ b, b ≠ P → b ≠ a → H b = none) → a ≠ P → Env0 T.P T.w T.K mg base callerA [] s H →
        codeAny (model T.P T.w) callerA (.call (.ref (T.fa "law")) ⟨[.ref a], []⟩) (CR (L2.CX T.P T.w) [] T.P T.w H s (fun v _ => v = .bl true) fun _ _ _ => False) s := by
  intro s a ns hlen hbits base H _ _ TB hP hS off aP e0
  have X : Txt T mg :=
    { e_BadName := (PySem.W.mg_of XK G aC_BadName),
      e_BadNumber := (PySem.W.mg_of XK G aC_BadNumber),
      e_BadRow := (PySem.W.mg_of XK G aC_BadRow),
      e_BadText := (PySem.W.mg_of XK G aC_BadText),
      e_NoName := (PySem.W.mg_of XK G aC_NoName),
      e_TakenName := (PySem.W.mg_of XK G aC_TakenName),
      e_TooMany := (PySem.W.mg_of XK G aC_TooMany),
      e_Unlike := (PySem.W.mg_of XK G aC_Unlike),
      c_FIGURES := ⟨_, (PySem.W.mg_of XK G a_FIGURES)⟩,
      c_LETTERS := ⟨_, (PySem.W.mg_of XK G a_LETTERS)⟩,
      c_NOTHING := ⟨_, _, _, _, [V.str "nothing", V.str "pressed"], (PySem.W.mg_of XK G a_NOTHING), l_NOTHING, rfl, rfl, (by show 2 ≤ sizeLine; decide), (.cons ⟨_, rfl⟩ (.cons ⟨_, rfl⟩ .nil)), fun _ => (.cons (.str _) (.cons (.str _) .nil))⟩,
      f_at := (fld_cons ⟨pg_Reader, hd_Reader, po_Reader, sa_Reader⟩ na_Reader_at fld_nil),
      f_line := (fld_cons ⟨pg_Reader, hd_Reader, po_Reader, sa_Reader⟩ na_Reader_line fld_nil),
      f_rows := (fld_cons ⟨pg_Reader, hd_Reader, po_Reader, sa_Reader⟩ na_Reader_rows fld_nil),
      b_all := PySem.W.mg_none_of XK G z_all,
      b_bool := PySem.W.mg_none_of XK G z_bool,
      b_enumerate := PySem.W.mg_none_of XK G z_enumerate,
      b_int := PySem.W.mg_none_of XK G z_int,
      b_isinstance := PySem.W.mg_none_of XK G z_isinstance,
      b_len := PySem.W.mg_none_of XK G z_len,
      b_list := PySem.W.mg_none_of XK G z_list,
      b_range := PySem.W.mg_none_of XK G z_range,
      b_repr := PySem.W.mg_none_of XK G z_repr,
      b_str := PySem.W.mg_none_of XK G z_str,
      b_tuple := PySem.W.mg_none_of XK G z_tuple,
      xf_BadText := ⟨ga_BadText, gg_BadText, ex_BadText, hd_BadText⟩,
      xn_BadText_line := xn_BadText_line,
      xn_BadText_word := xn_BadText_word,
      xm_BadName := xm_nil,
      xm_BadNumber := xm_nil,
      xm_BadRow := xm_nil,
      xm_BadText := (xm_cons (exm_pair ex_BadText ic_BadText tc_BadText sc_BadText_BadText) xm_nil),
      xm_NoName := xm_nil,
      xm_TakenName := xm_nil,
      xm_TooMany := xm_nil,
      xm_Unlike := xm_nil }
  have O_BadText : OexC T.K (T.cl "BadText") := ⟨⟨_, _, _, _, _, _, _, _, _, _, _, _, _, _, _, xl_BadText, rv_BadText⟩, sa_BadText, ex_BadText, tc_BadText, kC_BadText⟩
  have S_BadText : FnScope ["self", "line", "word"] ["self", "line", "word"] (defScope s_exc_BadText) := ⟨rfl, rfl, rfl, by decide +kernel, rfl, by decide +kernel, by decide +kernel⟩
  have ho_BadText : Ox T mg base "BadText" 1 ["line", "word"] := ⟨O_BadText, ⟨i_BadText, _, ["self", "line", "word"], ii_BadText, it_BadText, ob_fn (k := 0) (fun_mk (st := s_exc_BadText) l_i_BadText c_i_BadText k_i_BadText) S_BadText rfl (by decide) (by decide) O_BadText (fun cdv A outer s H E => (.cons (ps_ost (pv 0) (pv 1)) xn_BadText_line (.cons (ps_ost (pv 0) (pv 2)) xn_BadText_word .nil))), (fun_mk (st := s_exc_BadText) l_i_BadText c_i_BadText k_i_BadText).binds (fun _ _ _ _ _ _ us hl => match us, hl with | [_, _, _], _ => rfl)⟩, (PySem.W.mg_of XK G aC_BadText)⟩
  have hd__law_pen : Dfn T mg base "_law_pen" 1 [false] [] f__law_pen := ok__law_pen X (fun_mk (st := s__law_pen) l__law_pen c__law_pen k__law_pen) (PySem.W.mg_of XK G a__law_pen)
  have hd__law_draw : Dfn T mg base "_law_draw" 1 [true, false] [] f__law_draw := ok__law_draw X (fun_mk (st := s__law_draw) l__law_draw c__law_draw k__law_draw) (PySem.W.mg_of XK G a__law_draw)
  have hd__law_pick : Dfn T mg base "_law_pick" 2 [true, false] [] f__law_pick := ok__law_pick X (fun_mk (st := s__law_pick) l__law_pick c__law_pick k__law_pick) (PySem.W.mg_of XK G a__law_pick) hd__law_draw
  have hd__law_shuffled : Dfn T mg base "_law_shuffled" 2 [true, false] [] f__law_shuffled := ok__law_shuffled X (fun_mk (st := s__law_shuffled) l__law_shuffled c__law_shuffled k__law_shuffled) (PySem.W.mg_of XK G a__law_shuffled) hd__law_draw
  have hd__law_name : Dfn T mg base "_law_name" 2 [true, false] [] f__law_name := ok__law_name X (fun_mk (st := s__law_name) l__law_name c__law_name k__law_name) (PySem.W.mg_of XK G a__law_name) hd__law_draw
  have hd__law_names : Dfn T mg base "_law_names" 3 [true, false] [] f__law_names := ok__law_names X (fun_mk (st := s__law_names) l__law_names c__law_names k__law_names) (PySem.W.mg_of XK G a__law_names) hd__law_shuffled hd__law_name
  have hd__law_odd_name : Dfn T mg base "_law_odd_name" 3 [true, false] [] f__law_odd_name := ok__law_odd_name X (fun_mk (st := s__law_odd_name) l__law_odd_name c__law_odd_name k__law_odd_name) (PySem.W.mg_of XK G a__law_odd_name) hd__law_pick
  have hd__law_same : Dfn T mg base "_law_same" 1 [false, false] [] f__law_same := ok__law_same X (fun_mk (st := s__law_same) l__law_same c__law_same k__law_same) (PySem.W.mg_of XK G a__law_same)
  have hd__law_bent_words : Dfn T mg base "_law_bent_words" 3 [true, false, false] [] f__law_bent_words := ok__law_bent_words X (fun_mk (st := s__law_bent_words) l__law_bent_words c__law_bent_words k__law_bent_words) (PySem.W.mg_of XK G a__law_bent_words) hd__law_draw hd__law_pick
  have hd__law_is_name : Dfn T mg base "_law_is_name" 1 [false] [] f__law_is_name := ok__law_is_name X (fun_mk (st := s__law_is_name) l__law_is_name c__law_is_name k__law_is_name) (PySem.W.mg_of XK G a__law_is_name)
  have hd__law_first_wrong : Dfn T mg base "_law_first_wrong" 2 [false] [] f__law_first_wrong := ok__law_first_wrong X (fun_mk (st := s__law_first_wrong) l__law_first_wrong c__law_first_wrong k__law_first_wrong) (PySem.W.mg_of XK G a__law_first_wrong) hd__law_is_name
  have hd_word_text : Dfn T mg base "word_text" 1 [false] [] f_word_text := ok_word_text X (fun_mk (st := s_word_text) l_word_text c_word_text k_word_text) (PySem.W.mg_of XK G a_word_text)
  have hk_Reader : Mkr T mg base "Reader" 1 [false] [] f_Reader_init := ok_Reader_init X (fun_mk (st := s_Reader_init) l_m_Reader_init c_m_Reader_init k_m_Reader_init) ⟨mk_Reader, f_m_Reader_init, fn_m_Reader_init, kC_Reader⟩ (PySem.W.mg_of XK G aC_Reader)
  have hm_Reader_refuse : Mth T mg base "Reader" "refuse" 3 [true] [] f_Reader_refuse := ok_Reader_refuse X (fun_mk (st := s_Reader_refuse) l_m_Reader_refuse c_m_Reader_refuse k_m_Reader_refuse) ⟨f_m_Reader_refuse, fn_m_Reader_refuse, k_m_Reader_refuse⟩ ⟨pg_Reader, hd_Reader, po_Reader, sa_Reader⟩ ho_BadText
  have hm_Reader_seen : Mth T mg base "Reader" "seen" 1 [true] [] f_Reader_seen := ok_Reader_seen X (fun_mk (st := s_Reader_seen) l_m_Reader_seen c_m_Reader_seen k_m_Reader_seen) ⟨f_m_Reader_seen, fn_m_Reader_seen, k_m_Reader_seen⟩ ⟨pg_Reader, hd_Reader, po_Reader, sa_Reader⟩
  have hm_Reader_goes_on : Mth T mg base "Reader" "goes_on" 4 [true, false, false] [] f_Reader_goes_on := ok_Reader_goes_on X (fun_mk (st := s_Reader_goes_on) l_m_Reader_goes_on c_m_Reader_goes_on k_m_Reader_goes_on) ⟨f_m_Reader_goes_on, fn_m_Reader_goes_on, k_m_Reader_goes_on⟩ ⟨pg_Reader, hd_Reader, po_Reader, sa_Reader⟩ hm_Reader_seen hm_Reader_refuse
  have hd_rows_of : Dfn T mg base "rows_of" 3 [false] [] f_rows_of := ok_rows_of X (fun_mk (st := s_rows_of) l_rows_of c_rows_of k_rows_of) (PySem.W.mg_of XK G a_rows_of) ho_BadText
  have hd_is_name : Dfn T mg base "is_name" 1 [false] [] f_is_name := ok_is_name X (fun_mk (st := s_is_name) l_is_name c_is_name k_is_name) (PySem.W.mg_of XK G a_is_name)
  have hm_Reader_take : Mth T mg base "Reader" "take" 4 [true, false] [] f_Reader_take := ok_Reader_take X (fun_mk (st := s_Reader_take) l_m_Reader_take c_m_Reader_take k_m_Reader_take) ⟨f_m_Reader_take, fn_m_Reader_take, k_m_Reader_take⟩ ⟨pg_Reader, hd_Reader, po_Reader, sa_Reader⟩ hm_Reader_seen hd_is_name hm_Reader_refuse
  have hd_word_read : Dfn T mg base "word_read" 5 [false] [] f_word_read := ok_word_read X (fun_mk (st := s_word_read) l_word_read c_word_read k_word_read) (PySem.W.mg_of XK G a_word_read) hk_Reader hd_rows_of hm_Reader_take hd_is_name hm_Reader_seen hm_Reader_goes_on
  have hd_place_of : Dfn T mg base "place_of" 1 [false] [] f_place_of := ok_place_of X (fun_mk (st := s_place_of) l_place_of c_place_of k_place_of) (PySem.W.mg_of XK G a_place_of)
  have hd_comes_before : Dfn T mg base "comes_before" 2 [false, false] [] f_comes_before := ok_comes_before X (fun_mk (st := s_comes_before) l_comes_before c_comes_before k_comes_before) (PySem.W.mg_of XK G a_comes_before) hd_place_of
  have hd_is_word : Dfn T mg base "is_word" 2 [false] [] f_is_word := ok_is_word X (fun_mk (st := s_is_word) l_is_word c_is_word k_is_word) (PySem.W.mg_of XK G a_is_word) hd_is_name
  have hd__law_is_word : Dfn T mg base "_law_is_word" 2 [false] [] f__law_is_word := ok__law_is_word X (fun_mk (st := s__law_is_word) l__law_is_word c__law_is_word k__law_is_word) (PySem.W.mg_of XK G a__law_is_word) hd__law_is_name
  have hl__law_why : LamF T.K mg "_law_why" "call" (T.fa "_law_why") ["call", "found", "error"] (defScope s__law_why) (defBody s__law_why) cd__law_why := ⟨(PySem.W.mg_of XK G a__law_why), k__law_why, ⟨_, _, _, _, _, _, _, _, _, _, l__law_why, (fun_mk (st := s__law_why) l__law_why c__law_why k__law_why).binds (fun _ _ _ _ _ _ us hl => match us, hl with | [_], _ => rfl)⟩, c__law_why, sc__law_why, by rfl, .inl (by decide +kernel)⟩
  exact run_G (x := "script") (k := 8) l_law c_law sc_law ⟨rfl, by decide, by decide⟩ (fun u => rfl) e0 (fun p hp => by rw [List.mem_singleton.mp hp]) hP hS aP off (fun hr => law_dss X hd__law_pen hd__law_names hd__law_draw hd__law_odd_name hd__law_same hd__law_is_name hd_is_name hd__law_pick hd_comes_before hd__law_is_word hd_is_word hd_word_text hd_word_read hd__law_bent_words hd__law_first_wrong hl__law_why TB callerA [] s H _ rfl hr) (hp ns hlen hbits)
theorem all_mk {l : PySem.W.OpenLaw} {w : World} {K : PySem.W.Frag} {h : Heap} {mg : Str → Option Value} {fa : Addr} (XK : K.In h) (G : h.Ns mainGlobals mg) (hfa : mg "law" = some (.ref fa)) {C_BadName C_BadNumber C_BadRow C_BadText C_NoName C_TakenName C_TooMany C_Unlike k_a_NOTHING C_Reader i_BadText g__law_pen g__law_draw g__law_pick g__law_shuffled g__law_name g__law_names g__law_odd_name g__law_same g__law_bent_words g__law_is_name g__law_first_wrong g_word_text m_Reader_init m_Reader_refuse m_Reader_seen m_Reader_goes_on g_rows_of g_is_name m_Reader_take g_word_read g_place_of g_comes_before g_is_word g__law_is_word g__law_why g_law cc P : Addr} {t_FIGURES t_LETTERS t_NOTHING_0 t_NOTHING_1 : Tok} {od_NOTHING dd_BadText od_i_BadText an_i_BadText od__law_pen an__law_pen od__law_draw an__law_draw od__law_pick an__law_pick od__law_shuffled an__law_shuffled od__law_name an__law_name od__law_names an__law_names od__law_odd_name an__law_odd_name od__law_same an__law_same od__law_bent_words an__law_bent_words od__law_is_name an__law_is_name od__law_first_wrong an__law_first_wrong od_word_text an_word_text od_m_Reader_init an_m_Reader_init od_m_Reader_refuse an_m_Reader_refuse od_m_Reader_seen an_m_Reader_seen od_m_Reader_goes_on an_m_Reader_goes_on od_rows_of an_rows_of od_is_name an_is_name od_m_Reader_take an_m_Reader_take od_word_read an_word_read od_place_of an_place_of od_comes_before an_comes_before od_is_word an_is_word od__law_is_word an__law_is_word od__law_why an__law_why od_law an_law : Option Addr} {sl_NOTHING sl_i_BadText sl__law_pen sl__law_draw sl__law_pick sl__law_shuffled sl__law_name sl__law_names sl__law_odd_name sl__law_same sl__law_bent_words sl__law_is_name sl__law_first_wrong sl_word_text sl_m_Reader_init sl_m_Reader_refuse sl_m_Reader_seen sl_m_Reader_goes_on sl_rows_of sl_is_name sl_m_Reader_take sl_word_read sl_place_of sl_comes_before sl_is_word sl__law_is_word sl__law_why sl_law : Array (Option Value)} {n_NOTHING : Nat} {nm_BadText q_BadText : Str} {N_BadText : Addr} {bs_BadText bm_BadText sub_BadText : List Value} {sn_BadText : List Str} {ab_BadText : Bool} {col_BadText : Option Bool} {m0_BadText m1_BadText m2_BadText m3_BadText m5_BadText : Option Value} {oc_i_BadText kV_i_BadText dc_i_BadText pm_i_BadText ct_i_BadText cd_i_BadText oc__law_pen kV__law_pen dc__law_pen pm__law_pen ct__law_pen cd__law_pen oc__law_draw kV__law_draw dc__law_draw pm__law_draw ct__law_draw cd__law_draw oc__law_pick kV__law_pick dc__law_pick pm__law_pick ct__law_pick cd__law_pick oc__law_shuffled kV__law_shuffled dc__law_shuffled pm__law_shuffled ct__law_shuffled cd__law_shuffled oc__law_name kV__law_name dc__law_name pm__law_name ct__law_name cd__law_name oc__law_names kV__law_names dc__law_names pm__law_names ct__law_names cd__law_names oc__law_odd_name kV__law_odd_name dc__law_odd_name pm__law_odd_name ct__law_odd_name cd__law_odd_name oc__law_same kV__law_same dc__law_same pm__law_same ct__law_same cd__law_same oc__law_bent_words kV__law_bent_words dc__law_bent_words pm__law_bent_words ct__law_bent_words cd__law_bent_words oc__law_is_name kV__law_is_name dc__law_is_name pm__law_is_name ct__law_is_name cd__law_is_name oc__law_first_wrong kV__law_first_wrong dc__law_first_wrong pm__law_first_wrong ct__law_first_wrong cd__law_first_wrong oc_word_text kV_word_text dc_word_text pm_word_text ct_word_text cd_word_text oc_m_Reader_init kV_m_Reader_init dc_m_Reader_init pm_m_Reader_init ct_m_Reader_init cd_m_Reader_init oc_m_Reader_refuse kV_m_Reader_refuse dc_m_Reader_refuse pm_m_Reader_refuse ct_m_Reader_refuse cd_m_Reader_refuse oc_m_Reader_seen kV_m_Reader_seen dc_m_Reader_seen pm_m_Reader_seen ct_m_Reader_seen cd_m_Reader_seen oc_m_Reader_goes_on kV_m_Reader_goes_on dc_m_Reader_goes_on pm_m_Reader_goes_on ct_m_Reader_goes_on cd_m_Reader_goes_on oc_rows_of kV_rows_of dc_rows_of pm_rows_of ct_rows_of cd_rows_of oc_is_name kV_is_name dc_is_name pm_is_name ct_is_name cd_is_name oc_m_Reader_take kV_m_Reader_take dc_m_Reader_take pm_m_Reader_take ct_m_Reader_take cd_m_Reader_take oc_word_read kV_word_read dc_word_read pm_word_read ct_word_read cd_word_read oc_place_of kV_place_of dc_place_of pm_place_of ct_place_of cd_place_of oc_comes_before kV_comes_before dc_comes_before pm_comes_before ct_comes_before cd_comes_before oc_is_word kV_is_word dc_is_word pm_is_word ct_is_word cd_is_word oc__law_is_word kV__law_is_word dc__law_is_word pm__law_is_word ct__law_is_word cd__law_is_word oc__law_why kV__law_why dc__law_why pm__law_why ct__law_why cd__law_why oc_law kV_law dc_law pm_law ct_law : Value}
    (aC_BadName : PySem.W.nsIn K mainGlobals "BadName" = some (some (.ref C_BadName)))
    (aC_BadNumber : PySem.W.nsIn K mainGlobals "BadNumber" = some (some (.ref C_BadNumber)))
    (aC_BadRow : PySem.W.nsIn K mainGlobals "BadRow" = some (some (.ref C_BadRow)))
    (aC_BadText : PySem.W.nsIn K mainGlobals "BadText" = some (some (.ref C_BadText)))
    (aC_NoName : PySem.W.nsIn K mainGlobals "NoName" = some (some (.ref C_NoName)))
    (aC_TakenName : PySem.W.nsIn K mainGlobals "TakenName" = some (some (.ref C_TakenName)))
    (aC_TooMany : PySem.W.nsIn K mainGlobals "TooMany" = some (some (.ref C_TooMany)))
    (aC_Unlike : PySem.W.nsIn K mainGlobals "Unlike" = some (some (.ref C_Unlike)))
    (a_FIGURES : PySem.W.nsIn K mainGlobals "FIGURES" = some (some (.str "0123456789" t_FIGURES)))
    (a_LETTERS : PySem.W.nsIn K mainGlobals "LETTERS" = some (some (.str "abcdefghijklmnopqrstuvwxyz" t_LETTERS)))
    (a_NOTHING : PySem.W.nsIn K mainGlobals "NOTHING" = some (some (.ref k_a_NOTHING)))
    (l_NOTHING : K.lookup k_a_NOTHING = some ⟨.type "tuple", od_NOTHING, .seq #[.str "nothing" t_NOTHING_0, .str "pressed" t_NOTHING_1] n_NOTHING, sl_NOTHING⟩)
    (aC_Reader : PySem.W.nsIn K mainGlobals "Reader" = some (some (.ref C_Reader)))
    (pg_Reader : PySem.W.plainGet K C_Reader Str.empty = true)
    (hd_Reader : PySem.W.hasDictIn K C_Reader = true)
    (po_Reader : PySem.W.plainOver K C_Reader = true)
    (sa_Reader : PySem.W.findIn K (.ref C_Reader) "__setattr__" = some (some (.builtin "object.__setattr__")))
    (na_Reader_at : PySem.W.findIn K (.ref C_Reader) "at" = some none)
    (na_Reader_line : PySem.W.findIn K (.ref C_Reader) "line" = some none)
    (na_Reader_rows : PySem.W.findIn K (.ref C_Reader) "rows" = some none)
    (z_all : PySem.W.nsIn K mainGlobals "all" = some none)
    (z_bool : PySem.W.nsIn K mainGlobals "bool" = some none)
    (z_enumerate : PySem.W.nsIn K mainGlobals "enumerate" = some none)
    (z_int : PySem.W.nsIn K mainGlobals "int" = some none)
    (z_isinstance : PySem.W.nsIn K mainGlobals "isinstance" = some none)
    (z_len : PySem.W.nsIn K mainGlobals "len" = some none)
    (z_list : PySem.W.nsIn K mainGlobals "list" = some none)
    (z_range : PySem.W.nsIn K mainGlobals "range" = some none)
    (z_repr : PySem.W.nsIn K mainGlobals "repr" = some none)
    (z_str : PySem.W.nsIn K mainGlobals "str" = some none)
    (z_tuple : PySem.W.nsIn K mainGlobals "tuple" = some none)
    (ga_BadText : PySem.W.findIn K (.ref C_BadText) "__getattribute__" = some (some (.builtin "BaseException.__getattribute__")))
    (gg_BadText : PySem.W.findIn K (.ref C_BadText) "__getattr__" = some none)
    (ex_BadText : PySem.W.subIn K (.ref C_BadText) (.type "BaseException") = some true)
    (hd_BadText : PySem.W.hasDictIn K C_BadText = true)
    (xn_BadText_line : PySem.W.findIn K (.ref C_BadText) "line" = some none)
    (xn_BadText_word : PySem.W.findIn K (.ref C_BadText) "word" = some none)
    (ic_BadText : PySem.W.isClsIn K C_BadText = true)
    (tc_BadText : PySem.W.typeIn K (.ref C_BadText) = some (.type "type"))
    (sc_BadText_BadText : PySem.W.subIn K (.ref C_BadText) (.ref C_BadText) = some true)
    (xl_BadText : K.lookup C_BadText = some (excClassObj nm_BadText q_BadText C_BadText N_BadText bs_BadText bm_BadText true sn_BadText sub_BadText ab_BadText col_BadText dd_BadText m0_BadText m1_BadText m2_BadText m3_BadText m5_BadText "ValueError.__new__"))
    (rv_BadText : PySem.HandSPX.refsVE bm_BadText = true)
    (sa_BadText : PySem.W.findIn K (.ref C_BadText) "__setattr__" = some (some (.builtin "object.__setattr__")))
    (kC_BadText : PySem.W.keepIn K (.ref C_BadText) = true)
    (ii_BadText : PySem.W.findIn K (.ref C_BadText) "__init__" = some (some (.ref i_BadText)))
    (it_BadText : PySem.W.typeIn K (.ref i_BadText) = some (.type "function"))
    (l_i_BadText : K.lookup i_BadText = some ⟨oc_i_BadText, od_i_BadText, .func (PySem.W.fnOf "__init__" "BadText.__init__" (defArgs s_exc_BadText) (defBody s_exc_BadText) (defScope s_exc_BadText) .none kV_i_BadText dc_i_BadText pm_i_BadText an_i_BadText cd_i_BadText ct_i_BadText), sl_i_BadText⟩)
    (c_i_BadText : PySem.W.codeIn K cd_i_BadText "BadText.__init__" = true)
    (k_i_BadText : PySem.W.keepIn K (.ref i_BadText) = true)
    (a__law_pen : PySem.W.nsIn K mainGlobals "_law_pen" = some (some (.ref g__law_pen)))
    (l__law_pen : K.lookup g__law_pen = some ⟨oc__law_pen, od__law_pen, .func (PySem.W.fnOf "_law_pen" "_law_pen" (defArgs s__law_pen) (defBody s__law_pen) (defScope s__law_pen) .none kV__law_pen dc__law_pen pm__law_pen an__law_pen cd__law_pen ct__law_pen), sl__law_pen⟩)
    (c__law_pen : PySem.W.codeIn K cd__law_pen "_law_pen" = true)
    (k__law_pen : PySem.W.keepIn K (.ref g__law_pen) = true)
    (a__law_draw : PySem.W.nsIn K mainGlobals "_law_draw" = some (some (.ref g__law_draw)))
    (l__law_draw : K.lookup g__law_draw = some ⟨oc__law_draw, od__law_draw, .func (PySem.W.fnOf "_law_draw" "_law_draw" (defArgs s__law_draw) (defBody s__law_draw) (defScope s__law_draw) .none kV__law_draw dc__law_draw pm__law_draw an__law_draw cd__law_draw ct__law_draw), sl__law_draw⟩)
    (c__law_draw : PySem.W.codeIn K cd__law_draw "_law_draw" = true)
    (k__law_draw : PySem.W.keepIn K (.ref g__law_draw) = true)
    (a__law_pick : PySem.W.nsIn K mainGlobals "_law_pick" = some (some (.ref g__law_pick)))
    (l__law_pick : K.lookup g__law_pick = some ⟨oc__law_pick, od__law_pick, .func (PySem.W.fnOf "_law_pick" "_law_pick" (defArgs s__law_pick) (defBody s__law_pick) (defScope s__law_pick) .none kV__law_pick dc__law_pick pm__law_pick an__law_pick cd__law_pick ct__law_pick), sl__law_pick⟩)
    (c__law_pick : PySem.W.codeIn K cd__law_pick "_law_pick" = true)
    (k__law_pick : PySem.W.keepIn K (.ref g__law_pick) = true)
    (a__law_shuffled : PySem.W.nsIn K mainGlobals "_law_shuffled" = some (some (.ref g__law_shuffled)))
    (l__law_shuffled : K.lookup g__law_shuffled = some ⟨oc__law_shuffled, od__law_shuffled, .func (PySem.W.fnOf "_law_shuffled" "_law_shuffled" (defArgs s__law_shuffled) (defBody s__law_shuffled) (defScope s__law_shuffled) .none kV__law_shuffled dc__law_shuffled pm__law_shuffled an__law_shuffled cd__law_shuffled ct__law_shuffled), sl__law_shuffled⟩)
    (c__law_shuffled : PySem.W.codeIn K cd__law_shuffled "_law_shuffled" = true)
    (k__law_shuffled : PySem.W.keepIn K (.ref g__law_shuffled) = true)
    (a__law_name : PySem.W.nsIn K mainGlobals "_law_name" = some (some (.ref g__law_name)))
    (l__law_name : K.lookup g__law_name = some ⟨oc__law_name, od__law_name, .func (PySem.W.fnOf "_law_name" "_law_name" (defArgs s__law_name) (defBody s__law_name) (defScope s__law_name) .none kV__law_name dc__law_name pm__law_name an__law_name cd__law_name ct__law_name), sl__law_name⟩)
    (c__law_name : PySem.W.codeIn K cd__law_name "_law_name" = true)
    (k__law_name : PySem.W.keepIn K (.ref g__law_name) = true)
    (a__law_names : PySem.W.nsIn K mainGlobals "_law_names" = some (some (.ref g__law_names)))
    (l__law_names : K.lookup g__law_names = some ⟨oc__law_names, od__law_names, .func (PySem.W.fnOf "_law_names" "_law_names" (defArgs s__law_names) (defBody s__law_names) (defScope s__law_names) .none kV__law_names dc__law_names pm__law_names an__law_names cd__law_names ct__law_names), sl__law_names⟩)
    (c__law_names : PySem.W.codeIn K cd__law_names "_law_names" = true)
    (k__law_names : PySem.W.keepIn K (.ref g__law_names) = true)
    (a__law_odd_name : PySem.W.nsIn K mainGlobals "_law_odd_name" = some (some (.ref g__law_odd_name)))
    (l__law_odd_name : K.lookup g__law_odd_name = some ⟨oc__law_odd_name, od__law_odd_name, .func (PySem.W.fnOf "_law_odd_name" "_law_odd_name" (defArgs s__law_odd_name) (defBody s__law_odd_name) (defScope s__law_odd_name) .none kV__law_odd_name dc__law_odd_name pm__law_odd_name an__law_odd_name cd__law_odd_name ct__law_odd_name), sl__law_odd_name⟩)
    (c__law_odd_name : PySem.W.codeIn K cd__law_odd_name "_law_odd_name" = true)
    (k__law_odd_name : PySem.W.keepIn K (.ref g__law_odd_name) = true)
    (a__law_same : PySem.W.nsIn K mainGlobals "_law_same" = some (some (.ref g__law_same)))
    (l__law_same : K.lookup g__law_same = some ⟨oc__law_same, od__law_same, .func (PySem.W.fnOf "_law_same" "_law_same" (defArgs s__law_same) (defBody s__law_same) (defScope s__law_same) .none kV__law_same dc__law_same pm__law_same an__law_same cd__law_same ct__law_same), sl__law_same⟩)
    (c__law_same : PySem.W.codeIn K cd__law_same "_law_same" = true)
    (k__law_same : PySem.W.keepIn K (.ref g__law_same) = true)
    (a__law_bent_words : PySem.W.nsIn K mainGlobals "_law_bent_words" = some (some (.ref g__law_bent_words)))
    (l__law_bent_words : K.lookup g__law_bent_words = some ⟨oc__law_bent_words, od__law_bent_words, .func (PySem.W.fnOf "_law_bent_words" "_law_bent_words" (defArgs s__law_bent_words) (defBody s__law_bent_words) (defScope s__law_bent_words) .none kV__law_bent_words dc__law_bent_words pm__law_bent_words an__law_bent_words cd__law_bent_words ct__law_bent_words), sl__law_bent_words⟩)
    (c__law_bent_words : PySem.W.codeIn K cd__law_bent_words "_law_bent_words" = true)
    (k__law_bent_words : PySem.W.keepIn K (.ref g__law_bent_words) = true)
    (a__law_is_name : PySem.W.nsIn K mainGlobals "_law_is_name" = some (some (.ref g__law_is_name)))
    (l__law_is_name : K.lookup g__law_is_name = some ⟨oc__law_is_name, od__law_is_name, .func (PySem.W.fnOf "_law_is_name" "_law_is_name" (defArgs s__law_is_name) (defBody s__law_is_name) (defScope s__law_is_name) .none kV__law_is_name dc__law_is_name pm__law_is_name an__law_is_name cd__law_is_name ct__law_is_name), sl__law_is_name⟩)
    (c__law_is_name : PySem.W.codeIn K cd__law_is_name "_law_is_name" = true)
    (k__law_is_name : PySem.W.keepIn K (.ref g__law_is_name) = true)
    (a__law_first_wrong : PySem.W.nsIn K mainGlobals "_law_first_wrong" = some (some (.ref g__law_first_wrong)))
    (l__law_first_wrong : K.lookup g__law_first_wrong = some ⟨oc__law_first_wrong, od__law_first_wrong, .func (PySem.W.fnOf "_law_first_wrong" "_law_first_wrong" (defArgs s__law_first_wrong) (defBody s__law_first_wrong) (defScope s__law_first_wrong) .none kV__law_first_wrong dc__law_first_wrong pm__law_first_wrong an__law_first_wrong cd__law_first_wrong ct__law_first_wrong), sl__law_first_wrong⟩)
    (c__law_first_wrong : PySem.W.codeIn K cd__law_first_wrong "_law_first_wrong" = true)
    (k__law_first_wrong : PySem.W.keepIn K (.ref g__law_first_wrong) = true)
    (a_word_text : PySem.W.nsIn K mainGlobals "word_text" = some (some (.ref g_word_text)))
    (l_word_text : K.lookup g_word_text = some ⟨oc_word_text, od_word_text, .func (PySem.W.fnOf "word_text" "word_text" (defArgs s_word_text) (defBody s_word_text) (defScope s_word_text) .none kV_word_text dc_word_text pm_word_text an_word_text cd_word_text ct_word_text), sl_word_text⟩)
    (c_word_text : PySem.W.codeIn K cd_word_text "word_text" = true)
    (k_word_text : PySem.W.keepIn K (.ref g_word_text) = true)
    (l_m_Reader_init : K.lookup m_Reader_init = some ⟨oc_m_Reader_init, od_m_Reader_init, .func (PySem.W.fnOf "__init__" "Reader.__init__" (defArgs s_Reader_init) (defBody s_Reader_init) (defScope s_Reader_init) .none kV_m_Reader_init dc_m_Reader_init pm_m_Reader_init an_m_Reader_init cd_m_Reader_init ct_m_Reader_init), sl_m_Reader_init⟩)
    (c_m_Reader_init : PySem.W.codeIn K cd_m_Reader_init "Reader.__init__" = true)
    (k_m_Reader_init : PySem.W.keepIn K (.ref m_Reader_init) = true)
    (mk_Reader : PySem.W.makesIn K C_Reader = true)
    (f_m_Reader_init : PySem.W.findIn K (.ref C_Reader) "__init__" = some (some (.ref m_Reader_init)))
    (fn_m_Reader_init : PySem.W.isFn K (.ref m_Reader_init) = true)
    (kC_Reader : PySem.W.keepIn K (.ref C_Reader) = true)
    (l_m_Reader_refuse : K.lookup m_Reader_refuse = some ⟨oc_m_Reader_refuse, od_m_Reader_refuse, .func (PySem.W.fnOf "refuse" "Reader.refuse" (defArgs s_Reader_refuse) (defBody s_Reader_refuse) (defScope s_Reader_refuse) .none kV_m_Reader_refuse dc_m_Reader_refuse pm_m_Reader_refuse an_m_Reader_refuse cd_m_Reader_refuse ct_m_Reader_refuse), sl_m_Reader_refuse⟩)
    (c_m_Reader_refuse : PySem.W.codeIn K cd_m_Reader_refuse "Reader.refuse" = true)
    (k_m_Reader_refuse : PySem.W.keepIn K (.ref m_Reader_refuse) = true)
    (f_m_Reader_refuse : PySem.W.findIn K (.ref C_Reader) "refuse" = some (some (.ref m_Reader_refuse)))
    (fn_m_Reader_refuse : PySem.W.isFn K (.ref m_Reader_refuse) = true)
    (l_m_Reader_seen : K.lookup m_Reader_seen = some ⟨oc_m_Reader_seen, od_m_Reader_seen, .func (PySem.W.fnOf "seen" "Reader.seen" (defArgs s_Reader_seen) (defBody s_Reader_seen) (defScope s_Reader_seen) .none kV_m_Reader_seen dc_m_Reader_seen pm_m_Reader_seen an_m_Reader_seen cd_m_Reader_seen ct_m_Reader_seen), sl_m_Reader_seen⟩)
    (c_m_Reader_seen : PySem.W.codeIn K cd_m_Reader_seen "Reader.seen" = true)
    (k_m_Reader_seen : PySem.W.keepIn K (.ref m_Reader_seen) = true)
    (f_m_Reader_seen : PySem.W.findIn K (.ref C_Reader) "seen" = some (some (.ref m_Reader_seen)))
    (fn_m_Reader_seen : PySem.W.isFn K (.ref m_Reader_seen) = true)
    (l_m_Reader_goes_on : K.lookup m_Reader_goes_on = some ⟨oc_m_Reader_goes_on, od_m_Reader_goes_on, .func (PySem.W.fnOf "goes_on" "Reader.goes_on" (defArgs s_Reader_goes_on) (defBody s_Reader_goes_on) (defScope s_Reader_goes_on) .none kV_m_Reader_goes_on dc_m_Reader_goes_on pm_m_Reader_goes_on an_m_Reader_goes_on cd_m_Reader_goes_on ct_m_Reader_goes_on), sl_m_Reader_goes_on⟩)
    (c_m_Reader_goes_on : PySem.W.codeIn K cd_m_Reader_goes_on "Reader.goes_on" = true)
    (k_m_Reader_goes_on : PySem.W.keepIn K (.ref m_Reader_goes_on) = true)
    (f_m_Reader_goes_on : PySem.W.findIn K (.ref C_Reader) "goes_on" = some (some (.ref m_Reader_goes_on)))
    (fn_m_Reader_goes_on : PySem.W.isFn K (.ref m_Reader_goes_on) = true)
    (a_rows_of : PySem.W.nsIn K mainGlobals "rows_of" = some (some (.ref g_rows_of)))
    (l_rows_of : K.lookup g_rows_of = some ⟨oc_rows_of, od_rows_of, .func (PySem.W.fnOf "rows_of" "rows_of" (defArgs s_rows_of) (defBody s_rows_of) (defScope s_rows_of) .none kV_rows_of dc_rows_of pm_rows_of an_rows_of cd_rows_of ct_rows_of), sl_rows_of⟩)
    (c_rows_of : PySem.W.codeIn K cd_rows_of "rows_of" = true)
    (k_rows_of : PySem.W.keepIn K (.ref g_rows_of) = true)
    (a_is_name : PySem.W.nsIn K mainGlobals "is_name" = some (some (.ref g_is_name)))
    (l_is_name : K.lookup g_is_name = some ⟨oc_is_name, od_is_name, .func (PySem.W.fnOf "is_name" "is_name" (defArgs s_is_name) (defBody s_is_name) (defScope s_is_name) .none kV_is_name dc_is_name pm_is_name an_is_name cd_is_name ct_is_name), sl_is_name⟩)
    (c_is_name : PySem.W.codeIn K cd_is_name "is_name" = true)
    (k_is_name : PySem.W.keepIn K (.ref g_is_name) = true)
    (l_m_Reader_take : K.lookup m_Reader_take = some ⟨oc_m_Reader_take, od_m_Reader_take, .func (PySem.W.fnOf "take" "Reader.take" (defArgs s_Reader_take) (defBody s_Reader_take) (defScope s_Reader_take) .none kV_m_Reader_take dc_m_Reader_take pm_m_Reader_take an_m_Reader_take cd_m_Reader_take ct_m_Reader_take), sl_m_Reader_take⟩)
    (c_m_Reader_take : PySem.W.codeIn K cd_m_Reader_take "Reader.take" = true)
    (k_m_Reader_take : PySem.W.keepIn K (.ref m_Reader_take) = true)
    (f_m_Reader_take : PySem.W.findIn K (.ref C_Reader) "take" = some (some (.ref m_Reader_take)))
    (fn_m_Reader_take : PySem.W.isFn K (.ref m_Reader_take) = true)
    (a_word_read : PySem.W.nsIn K mainGlobals "word_read" = some (some (.ref g_word_read)))
    (l_word_read : K.lookup g_word_read = some ⟨oc_word_read, od_word_read, .func (PySem.W.fnOf "word_read" "word_read" (defArgs s_word_read) (defBody s_word_read) (defScope s_word_read) .none kV_word_read dc_word_read pm_word_read an_word_read cd_word_read ct_word_read), sl_word_read⟩)
    (c_word_read : PySem.W.codeIn K cd_word_read "word_read" = true)
    (k_word_read : PySem.W.keepIn K (.ref g_word_read) = true)
    (a_place_of : PySem.W.nsIn K mainGlobals "place_of" = some (some (.ref g_place_of)))
    (l_place_of : K.lookup g_place_of = some ⟨oc_place_of, od_place_of, .func (PySem.W.fnOf "place_of" "place_of" (defArgs s_place_of) (defBody s_place_of) (defScope s_place_of) .none kV_place_of dc_place_of pm_place_of an_place_of cd_place_of ct_place_of), sl_place_of⟩)
    (c_place_of : PySem.W.codeIn K cd_place_of "place_of" = true)
    (k_place_of : PySem.W.keepIn K (.ref g_place_of) = true)
    (a_comes_before : PySem.W.nsIn K mainGlobals "comes_before" = some (some (.ref g_comes_before)))
    (l_comes_before : K.lookup g_comes_before = some ⟨oc_comes_before, od_comes_before, .func (PySem.W.fnOf "comes_before" "comes_before" (defArgs s_comes_before) (defBody s_comes_before) (defScope s_comes_before) .none kV_comes_before dc_comes_before pm_comes_before an_comes_before cd_comes_before ct_comes_before), sl_comes_before⟩)
    (c_comes_before : PySem.W.codeIn K cd_comes_before "comes_before" = true)
    (k_comes_before : PySem.W.keepIn K (.ref g_comes_before) = true)
    (a_is_word : PySem.W.nsIn K mainGlobals "is_word" = some (some (.ref g_is_word)))
    (l_is_word : K.lookup g_is_word = some ⟨oc_is_word, od_is_word, .func (PySem.W.fnOf "is_word" "is_word" (defArgs s_is_word) (defBody s_is_word) (defScope s_is_word) .none kV_is_word dc_is_word pm_is_word an_is_word cd_is_word ct_is_word), sl_is_word⟩)
    (c_is_word : PySem.W.codeIn K cd_is_word "is_word" = true)
    (k_is_word : PySem.W.keepIn K (.ref g_is_word) = true)
    (a__law_is_word : PySem.W.nsIn K mainGlobals "_law_is_word" = some (some (.ref g__law_is_word)))
    (l__law_is_word : K.lookup g__law_is_word = some ⟨oc__law_is_word, od__law_is_word, .func (PySem.W.fnOf "_law_is_word" "_law_is_word" (defArgs s__law_is_word) (defBody s__law_is_word) (defScope s__law_is_word) .none kV__law_is_word dc__law_is_word pm__law_is_word an__law_is_word cd__law_is_word ct__law_is_word), sl__law_is_word⟩)
    (c__law_is_word : PySem.W.codeIn K cd__law_is_word "_law_is_word" = true)
    (k__law_is_word : PySem.W.keepIn K (.ref g__law_is_word) = true)
    (a__law_why : PySem.W.nsIn K mainGlobals "_law_why" = some (some (.ref g__law_why)))
    (l__law_why : K.lookup g__law_why = some ⟨oc__law_why, od__law_why, .func (PySem.W.fnOf "_law_why" "_law_why" (defArgs s__law_why) (defBody s__law_why) (defScope s__law_why) .none kV__law_why dc__law_why pm__law_why an__law_why cd__law_why ct__law_why), sl__law_why⟩)
    (c__law_why : PySem.W.codeIn K cd__law_why "_law_why" = true)
    (k__law_why : PySem.W.keepIn K (.ref g__law_why) = true)
    (a_law : PySem.W.nsIn K mainGlobals "law" = some (some (.ref g_law)))
    (l_law : K.lookup g_law = some ⟨oc_law, od_law, .func (PySem.W.fnOf "law" "law" (defArgs s_law) (defBody s_law) (defScope s_law) .none kV_law dc_law pm_law an_law (.ref cc) ct_law), sl_law⟩)
    (c_law : PySem.W.codeIn K (.ref cc) "law" = true)
    (tab : PySem.W.tabIn K "law" = some (cc, P))
    (nP : K.lookup P = none)
    (hp : ∀ ns : List Int, ns.length ≤ 63 → (∀ z ∈ ns, Builtin.Int.intBits z ≤ 1048576) → ∃ ρ, b_law (some (.fz (.scr ns)) :: List.replicate (["script", "pen", "lap", "keys", "value", "word", "at", "other", "due", "text", "words", "turn", "bent", "wrong", "odd", "spot"].length - 1) none) = .rt (.bl true) ρ) :
    ∃ c P : Addr, PySem.W.tabIn K "law" = some (c, P) ∧ K.lookup P = none ∧ ∀ (s : Shared) (a : Addr) (ns : List Int), ns.length ≤ 63 → (∀ z ∈ ns, Builtin.Int.intBits z ≤ 1048576) → ∀ (base : Heap) (H : Hp), K.In base → base.Ns mainGlobals mg → LamX.TabB base mg c P → H P = some (.tbl #[]) → SqL K H a (ns.map V.int) → (∀ b, b ≠ P → b ≠ a → H b = none) → a ≠ P → Env0 l.prog w K mg base callerA [] s H →
        codeAny (model l.prog w) callerA (.call (.ref fa) ⟨[.ref a], []⟩) (CR (L2.CX l.prog w) [] l.prog w H s (fun v _ => v = .bl true) fun _ _ _ => False) s := by
  have e := hfa.symm.trans (PySem.W.mg_of XK G a_law)
  obtain rfl : fa = g_law := Value.ref.inj (Option.some.inj e)
  refine ⟨cc, P, tab, nP, ?_⟩
  obtain ⟨cl, hcl⟩ := pick_ex [("BadName", C_BadName), ("BadNumber", C_BadNumber), ("BadRow", C_BadRow), ("BadText", C_BadText), ("NoName", C_NoName), ("TakenName", C_TakenName), ("TooMany", C_TooMany), ("Unlike", C_Unlike), ("Reader", C_Reader)] (by show [("BadName" : Str), ("BadNumber" : Str), ("BadRow" : Str), ("BadText" : Str), ("NoName" : Str), ("TakenName" : Str), ("TooMany" : Str), ("Unlike" : Str), ("Reader" : Str)].Nodup; decide +kernel)
  obtain ⟨fn, hfn⟩ := pick_ex [("_law_pen", g__law_pen), ("_law_draw", g__law_draw), ("_law_pick", g__law_pick), ("_law_shuffled", g__law_shuffled), ("_law_name", g__law_name), ("_law_names", g__law_names), ("_law_odd_name", g__law_odd_name), ("_law_same", g__law_same), ("_law_bent_words", g__law_bent_words), ("_law_is_name", g__law_is_name), ("_law_first_wrong", g__law_first_wrong), ("word_text", g_word_text), ("rows_of", g_rows_of), ("is_name", g_is_name), ("word_read", g_word_read), ("place_of", g_place_of), ("comes_before", g_comes_before), ("is_word", g_is_word), ("_law_is_word", g__law_is_word), ("_law_why", g__law_why), ("law", fa)] (by show [("_law_pen" : Str), ("_law_draw" : Str), ("_law_pick" : Str), ("_law_shuffled" : Str), ("_law_name" : Str), ("_law_names" : Str), ("_law_odd_name" : Str), ("_law_same" : Str), ("_law_bent_words" : Str), ("_law_is_name" : Str), ("_law_first_wrong" : Str), ("word_text" : Str), ("rows_of" : Str), ("is_name" : Str), ("word_read" : Str), ("place_of" : Str), ("comes_before" : Str), ("is_word" : Str), ("_law_is_word" : Str), ("_law_why" : Str), ("law" : Str)].Nodup; decide +kernel)
  have ec_BadName : cl "BadName" = C_BadName := hcl ("BadName", C_BadName) (.head _)
  have ec_BadNumber : cl "BadNumber" = C_BadNumber := hcl ("BadNumber", C_BadNumber) (.tail _ (.head _))
  have ec_BadRow : cl "BadRow" = C_BadRow := hcl ("BadRow", C_BadRow) (.tail _ (.tail _ (.head _)))
  have ec_BadText : cl "BadText" = C_BadText := hcl ("BadText", C_BadText) (.tail _ (.tail _ (.tail _ (.head _))))
  have ec_NoName : cl "NoName" = C_NoName := hcl ("NoName", C_NoName) (.tail _ (.tail _ (.tail _ (.tail _ (.head _)))))
  have ec_TakenName : cl "TakenName" = C_TakenName := hcl ("TakenName", C_TakenName) (.tail _ (.tail _ (.tail _ (.tail _ (.tail _ (.head _))))))
  have ec_TooMany : cl "TooMany" = C_TooMany := hcl ("TooMany", C_TooMany) (.tail _ (.tail _ (.tail _ (.tail _ (.tail _ (.tail _ (.head _)))))))
  have ec_Unlike : cl "Unlike" = C_Unlike := hcl ("Unlike", C_Unlike) (.tail _ (.tail _ (.tail _ (.tail _ (.tail _ (.tail _ (.tail _ (.head _))))))))
  have ec_Reader : cl "Reader" = C_Reader := hcl ("Reader", C_Reader) (.tail _ (.tail _ (.tail _ (.tail _ (.tail _ (.tail _ (.tail _ (.tail _ (.head _)))))))))
  have ef__law_pen : fn "_law_pen" = g__law_pen := hfn ("_law_pen", g__law_pen) (.head _)
  have ef__law_draw : fn "_law_draw" = g__law_draw := hfn ("_law_draw", g__law_draw) (.tail _ (.head _))
  have ef__law_pick : fn "_law_pick" = g__law_pick := hfn ("_law_pick", g__law_pick) (.tail _ (.tail _ (.head _)))
  have ef__law_shuffled : fn "_law_shuffled" = g__law_shuffled := hfn ("_law_shuffled", g__law_shuffled) (.tail _ (.tail _ (.tail _ (.head _))))
  have ef__law_name : fn "_law_name" = g__law_name := hfn ("_law_name", g__law_name) (.tail _ (.tail _ (.tail _ (.tail _ (.head _)))))
  have ef__law_names : fn "_law_names" = g__law_names := hfn ("_law_names", g__law_names) (.tail _ (.tail _ (.tail _ (.tail _ (.tail _ (.head _))))))
  have ef__law_odd_name : fn "_law_odd_name" = g__law_odd_name := hfn ("_law_odd_name", g__law_odd_name) (.tail _ (.tail _ (.tail _ (.tail _ (.tail _ (.tail _ (.head _)))))))
  have ef__law_same : fn "_law_same" = g__law_same := hfn ("_law_same", g__law_same) (.tail _ (.tail _ (.tail _ (.tail _ (.tail _ (.tail _ (.tail _ (.head _))))))))
  have ef__law_bent_words : fn "_law_bent_words" = g__law_bent_words := hfn ("_law_bent_words", g__law_bent_words) (.tail _ (.tail _ (.tail _ (.tail _ (.tail _ (.tail _ (.tail _ (.tail _ (.head _)))))))))
  have ef__law_is_name : fn "_law_is_name" = g__law_is_name := hfn ("_law_is_name", g__law_is_name) (.tail _ (.tail _ (.tail _ (.tail _ (.tail _ (.tail _ (.tail _ (.tail _ (.tail _ (.head _))))))))))
  have ef__law_first_wrong : fn "_law_first_wrong" = g__law_first_wrong := hfn ("_law_first_wrong", g__law_first_wrong) (.tail _ (.tail _ (.tail _ (.tail _ (.tail _ (.tail _ (.tail _ (.tail _ (.tail _ (.tail _ (.head _)))))))))))
  have ef_word_text : fn "word_text" = g_word_text := hfn ("word_text", g_word_text) (.tail _ (.tail _ (.tail _ (.tail _ (.tail _ (.tail _ (.tail _ (.tail _ (.tail _ (.tail _ (.tail _ (.head _))))))))))))
  have ef_rows_of : fn "rows_of" = g_rows_of := hfn ("rows_of", g_rows_of) (.tail _ (.tail _ (.tail _ (.tail _ (.tail _ (.tail _ (.tail _ (.tail _ (.tail _ (.tail _ (.tail _ (.tail _ (.head _)))))))))))))
  have ef_is_name : fn "is_name" = g_is_name := hfn ("is_name", g_is_name) (.tail _ (.tail _ (.tail _ (.tail _ (.tail _ (.tail _ (.tail _ (.tail _ (.tail _ (.tail _ (.tail _ (.tail _ (.tail _ (.head _))))))))))))))
  have ef_word_read : fn "word_read" = g_word_read := hfn ("word_read", g_word_read) (.tail _ (.tail _ (.tail _ (.tail _ (.tail _ (.tail _ (.tail _ (.tail _ (.tail _ (.tail _ (.tail _ (.tail _ (.tail _ (.tail _ (.head _)))))))))))))))
  have ef_place_of : fn "place_of" = g_place_of := hfn ("place_of", g_place_of) (.tail _ (.tail _ (.tail _ (.tail _ (.tail _ (.tail _ (.tail _ (.tail _ (.tail _ (.tail _ (.tail _ (.tail _ (.tail _ (.tail _ (.tail _ (.head _))))))))))))))))
  have ef_comes_before : fn "comes_before" = g_comes_before := hfn ("comes_before", g_comes_before) (.tail _ (.tail _ (.tail _ (.tail _ (.tail _ (.tail _ (.tail _ (.tail _ (.tail _ (.tail _ (.tail _ (.tail _ (.tail _ (.tail _ (.tail _ (.tail _ (.head _)))))))))))))))))
  have ef_is_word : fn "is_word" = g_is_word := hfn ("is_word", g_is_word) (.tail _ (.tail _ (.tail _ (.tail _ (.tail _ (.tail _ (.tail _ (.tail _ (.tail _ (.tail _ (.tail _ (.tail _ (.tail _ (.tail _ (.tail _ (.tail _ (.tail _ (.head _))))))))))))))))))
  have ef__law_is_word : fn "_law_is_word" = g__law_is_word := hfn ("_law_is_word", g__law_is_word) (.tail _ (.tail _ (.tail _ (.tail _ (.tail _ (.tail _ (.tail _ (.tail _ (.tail _ (.tail _ (.tail _ (.tail _ (.tail _ (.tail _ (.tail _ (.tail _ (.tail _ (.tail _ (.head _)))))))))))))))))))
  have ef__law_why : fn "_law_why" = g__law_why := hfn ("_law_why", g__law_why) (.tail _ (.tail _ (.tail _ (.tail _ (.tail _ (.tail _ (.tail _ (.tail _ (.tail _ (.tail _ (.tail _ (.tail _ (.tail _ (.tail _ (.tail _ (.tail _ (.tail _ (.tail _ (.tail _ (.head _))))))))))))))))))))
  have ef_law : fn "law" = fa := hfn ("law", fa) (.tail _ (.tail _ (.tail _ (.tail _ (.tail _ (.tail _ (.tail _ (.tail _ (.tail _ (.tail _ (.tail _ (.tail _ (.tail _ (.tail _ (.tail _ (.tail _ (.tail _ (.tail _ (.tail _ (.tail _ (.head _)))))))))))))))))))))
  clear hcl hfn
  subst ec_BadName ec_BadNumber ec_BadRow ec_BadText ec_NoName ec_TakenName ec_TooMany ec_Unlike ec_Reader ef__law_pen ef__law_draw ef__law_pick ef__law_shuffled ef__law_name ef__law_names ef__law_odd_name ef__law_same ef__law_bent_words ef__law_is_name ef__law_first_wrong ef_word_text ef_rows_of ef_is_name ef_word_read ef_place_of ef_comes_before ef_is_word ef__law_is_word ef__law_why ef_law
  exact law_T ⟨K, l.prog, w, cl, fn⟩ XK G aC_BadName aC_BadNumber aC_BadRow aC_BadText aC_NoName aC_TakenName aC_TooMany aC_Unlike a_FIGURES a_LETTERS a_NOTHING l_NOTHING aC_Reader pg_Reader hd_Reader po_Reader sa_Reader na_Reader_at na_Reader_line na_Reader_rows z_all z_bool z_enumerate z_int z_isinstance z_len z_list z_range z_repr z_str z_tuple ga_BadText gg_BadText ex_BadText hd_BadText xn_BadText_line xn_BadText_word ic_BadText tc_BadText sc_BadText_BadText xl_BadText rv_BadText sa_BadText kC_BadText ii_BadText it_BadText l_i_BadText c_i_BadText k_i_BadText a__law_pen l__law_pen c__law_pen k__law_pen a__law_draw l__law_draw c__law_draw k__law_draw a__law_pick l__law_pick c__law_pick k__law_pick a__law_shuffled l__law_shuffled c__law_shuffled k__law_shuffled a__law_name l__law_name c__law_name k__law_name a__law_names l__law_names c__law_names k__law_names a__law_odd_name l__law_odd_name c__law_odd_name k__law_odd_name a__law_same l__law_same c__law_same k__law_same a__law_bent_words l__law_bent_words c__law_bent_words k__law_bent_words a__law_is_name l__law_is_name c__law_is_name k__law_is_name a__law_first_wrong l__law_first_wrong c__law_first_wrong k__law_first_wrong a_word_text l_word_text c_word_text k_word_text l_m_Reader_init c_m_Reader_init k_m_Reader_init mk_Reader f_m_Reader_init fn_m_Reader_init kC_Reader l_m_Reader_refuse c_m_Reader_refuse k_m_Reader_refuse f_m_Reader_refuse fn_m_Reader_refuse l_m_Reader_seen c_m_Reader_seen k_m_Reader_seen f_m_Reader_seen fn_m_Reader_seen l_m_Reader_goes_on c_m_Reader_goes_on k_m_Reader_goes_on f_m_Reader_goes_on fn_m_Reader_goes_on a_rows_of l_rows_of c_rows_of k_rows_of a_is_name l_is_name c_is_name k_is_name l_m_Reader_take c_m_Reader_take k_m_Reader_take f_m_Reader_take fn_m_Reader_take a_word_read l_word_read c_word_read k_word_read a_place_of l_place_of c_place_of k_place_of a_comes_before l_comes_before c_comes_before k_comes_before a_is_word l_is_word c_is_word k_is_word a__law_is_word l__law_is_word c__law_is_word k__law_is_word a__law_why l__law_why c__law_why k__law_why a_law l_law c_law tab nP hp
end G
open PySem PySem.W PyProof.Rows
set_option maxRecDepth 100000 in
set_option maxHeartbeats 8000000 in
theorem PySem.Challenge.cw_whereitwas_k02_names_and_words_holds : PySem.Challenge.rw_whereitwas_k02_names_and_words.Holds := by
  w_on; o_law; k_head; (case hw => w_witness2)
  k_fill
  first
    | refine VL.walk_G (by rfl) (by decide) rfl (fun w h Y => PySem.W.kIn_of Y) ?R ?F
    | refine VL.walk_G (by rfl) (by decide) rfl (fun w h Y => PySem.W.km_in_of Y) ?R ?F
  case R => exact ⟨_, by rfl⟩
  case F =>
    intro w mg fa h KX G hmg
    refine' _root_.G.all_mk KX G hmg ?aC_BadName ?aC_BadNumber ?aC_BadRow ?aC_BadText ?aC_NoName ?aC_TakenName ?aC_TooMany ?aC_Unlike ?a_FIGURES ?a_LETTERS ?a_NOTHING ?l_NOTHING ?aC_Reader ?pg_Reader ?hd_Reader ?po_Reader ?sa_Reader ?na_Reader_at ?na_Reader_line ?na_Reader_rows ?z_all ?z_bool ?z_enumerate ?z_int ?z_isinstance ?z_len ?z_list ?z_range ?z_repr ?z_str ?z_tuple ?ga_BadText ?gg_BadText ?ex_BadText ?hd_BadText ?xn_BadText_line ?xn_BadText_word ?ic_BadText ?tc_BadText ?sc_BadText_BadText ?xl_BadText ?rv_BadText ?sa_BadText ?kC_BadText ?ii_BadText ?it_BadText ?l_i_BadText ?c_i_BadText ?k_i_BadText ?a__law_pen ?l__law_pen ?c__law_pen ?k__law_pen ?a__law_draw ?l__law_draw ?c__law_draw ?k__law_draw ?a__law_pick ?l__law_pick ?c__law_pick ?k__law_pick ?a__law_shuffled ?l__law_shuffled ?c__law_shuffled ?k__law_shuffled ?a__law_name ?l__law_name ?c__law_name ?k__law_name ?a__law_names ?l__law_names ?c__law_names ?k__law_names ?a__law_odd_name ?l__law_odd_name ?c__law_odd_name ?k__law_odd_name ?a__law_same ?l__law_same ?c__law_same ?k__law_same ?a__law_bent_words ?l__law_bent_words ?c__law_bent_words ?k__law_bent_words ?a__law_is_name ?l__law_is_name ?c__law_is_name ?k__law_is_name ?a__law_first_wrong ?l__law_first_wrong ?c__law_first_wrong ?k__law_first_wrong ?a_word_text ?l_word_text ?c_word_text ?k_word_text ?l_m_Reader_init ?c_m_Reader_init ?k_m_Reader_init ?mk_Reader ?f_m_Reader_init ?fn_m_Reader_init ?kC_Reader ?l_m_Reader_refuse ?c_m_Reader_refuse ?k_m_Reader_refuse ?f_m_Reader_refuse ?fn_m_Reader_refuse ?l_m_Reader_seen ?c_m_Reader_seen ?k_m_Reader_seen ?f_m_Reader_seen ?fn_m_Reader_seen ?l_m_Reader_goes_on ?c_m_Reader_goes_on ?k_m_Reader_goes_on ?f_m_Reader_goes_on ?fn_m_Reader_goes_on ?a_rows_of ?l_rows_of ?c_rows_of ?k_rows_of ?a_is_name ?l_is_name ?c_is_name ?k_is_name ?l_m_Reader_take ?c_m_Reader_take ?k_m_Reader_take ?f_m_Reader_take ?fn_m_Reader_take ?a_word_read ?l_word_read ?c_word_read ?k_word_read ?a_place_of ?l_place_of ?c_place_of ?k_place_of ?a_comes_before ?l_comes_before ?c_comes_before ?k_comes_before ?a_is_word ?l_is_word ?c_is_word ?k_is_word ?a__law_is_word ?l__law_is_word ?c__law_is_word ?k__law_is_word ?a__law_why ?l__law_why ?c__law_why ?k__law_why ?a_law ?l_law ?c_law ?tab ?nP ?hp
    (case aC_BadName => k_is)
    (case aC_BadNumber => k_is)
    (case aC_BadRow => k_is)
    (case aC_BadText => k_is)
    (case aC_NoName => k_is)
    (case aC_TakenName => k_is)
    (case aC_TooMany => k_is)
    (case aC_Unlike => k_is)
    (case a_FIGURES => k_is)
    (case a_LETTERS => k_is)
    (case a_NOTHING => k_is)
    (case aC_Reader => k_is)
    (case a__law_pen => k_is)
    (case a__law_draw => k_is)
    (case a__law_pick => k_is)
    (case a__law_shuffled => k_is)
    (case a__law_name => k_is)
    (case a__law_names => k_is)
    (case a__law_odd_name => k_is)
    (case a__law_same => k_is)
    (case a__law_bent_words => k_is)
    (case a__law_is_name => k_is)
    (case a__law_first_wrong => k_is)
    (case a_word_text => k_is)
    (case a_rows_of => k_is)
    (case a_is_name => k_is)
    (case a_word_read => k_is)
    (case a_place_of => k_is)
    (case a_comes_before => k_is)
    (case a_is_word => k_is)
    (case a__law_is_word => k_is)
    (case a__law_why => k_is)
    (case a_law => k_is)
    (case ii_BadText => k_is)
    (case f_m_Reader_init => k_is)
    (case f_m_Reader_refuse => k_is)
    (case f_m_Reader_seen => k_is)
    (case f_m_Reader_goes_on => k_is)
    (case f_m_Reader_take => k_is)
    (case l_NOTHING => k_is)
    (case pg_Reader => k_is)
    (case hd_Reader => k_is)
    (case po_Reader => k_is)
    (case sa_Reader => k_is)
    (case na_Reader_at => k_is)
    (case na_Reader_line => k_is)
    (case na_Reader_rows => k_is)
    (case z_all => k_is)
    (case z_bool => k_is)
    (case z_enumerate => k_is)
    (case z_int => k_is)
    (case z_isinstance => k_is)
    (case z_len => k_is)
    (case z_list => k_is)
    (case z_range => k_is)
    (case z_repr => k_is)
    (case z_str => k_is)
    (case z_tuple => k_is)
    (case ga_BadText => k_is)
    (case gg_BadText => k_is)
    (case ex_BadText => k_is)
    (case hd_BadText => k_is)
    (case xn_BadText_line => k_is)
    (case xn_BadText_word => k_is)
    (case ic_BadText => k_is)
    (case tc_BadText => k_is)
    (case sc_BadText_BadText => first | rfl | decide +kernel | k_is)
    (case xl_BadText => k_is)
    (case rv_BadText => first | rfl | decide +kernel | k_is)
    (case sa_BadText => k_is)
    (case kC_BadText => k_is)
    (case it_BadText => k_is)
    (case l_i_BadText => k_is)
    (case c_i_BadText => k_is)
    (case k_i_BadText => k_is)
    (case l__law_pen => k_is)
    (case c__law_pen => k_is)
    (case k__law_pen => k_is)
    (case l__law_draw => k_is)
    (case c__law_draw => k_is)
    (case k__law_draw => k_is)
    (case l__law_pick => k_is)
    (case c__law_pick => k_is)
    (case k__law_pick => k_is)
    (case l__law_shuffled => k_is)
    (case c__law_shuffled => k_is)
    (case k__law_shuffled => k_is)
    (case l__law_name => k_is)
    (case c__law_name => k_is)
    (case k__law_name => k_is)
    (case l__law_names => k_is)
    (case c__law_names => k_is)
    (case k__law_names => k_is)
    (case l__law_odd_name => k_is)
    (case c__law_odd_name => k_is)
    (case k__law_odd_name => k_is)
    (case l__law_same => k_is)
    (case c__law_same => k_is)
    (case k__law_same => k_is)
    (case l__law_bent_words => k_is)
    (case c__law_bent_words => k_is)
    (case k__law_bent_words => k_is)
    (case l__law_is_name => k_is)
    (case c__law_is_name => k_is)
    (case k__law_is_name => k_is)
    (case l__law_first_wrong => k_is)
    (case c__law_first_wrong => k_is)
    (case k__law_first_wrong => k_is)
    (case l_word_text => k_is)
    (case c_word_text => k_is)
    (case k_word_text => k_is)
    (case l_m_Reader_init => k_is)
    (case c_m_Reader_init => k_is)
    (case k_m_Reader_init => k_is)
    (case mk_Reader => k_is)
    (case fn_m_Reader_init => k_is)
    (case kC_Reader => k_is)
    (case l_m_Reader_refuse => k_is)
    (case c_m_Reader_refuse => k_is)
    (case k_m_Reader_refuse => k_is)
    (case fn_m_Reader_refuse => k_is)
    (case l_m_Reader_seen => k_is)
    (case c_m_Reader_seen => k_is)
    (case k_m_Reader_seen => k_is)
    (case fn_m_Reader_seen => k_is)
    (case l_m_Reader_goes_on => k_is)
    (case c_m_Reader_goes_on => k_is)
    (case k_m_Reader_goes_on => k_is)
    (case fn_m_Reader_goes_on => k_is)
    (case l_rows_of => k_is)
    (case c_rows_of => k_is)
    (case k_rows_of => k_is)
    (case l_is_name => k_is)
    (case c_is_name => k_is)
    (case k_is_name => k_is)
    (case l_m_Reader_take => k_is)
    (case c_m_Reader_take => k_is)
    (case k_m_Reader_take => k_is)
    (case fn_m_Reader_take => k_is)
    (case l_word_read => k_is)
    (case c_word_read => k_is)
    (case k_word_read => k_is)
    (case l_place_of => k_is)
    (case c_place_of => k_is)
    (case k_place_of => k_is)
    (case l_comes_before => k_is)
    (case c_comes_before => k_is)
    (case k_comes_before => k_is)
    (case l_is_word => k_is)
    (case c_is_word => k_is)
    (case k_is_word => k_is)
    (case l__law_is_word => k_is)
    (case c__law_is_word => k_is)
    (case k__law_is_word => k_is)
    (case l__law_why => k_is)
    (case c__law_why => k_is)
    (case k__law_why => k_is)
    (case l_law => k_is)
    (case c_law => k_is)
    (case tab => rfl)
    (case nP => rfl)
    case hp => exact _root_.G.pure_law
